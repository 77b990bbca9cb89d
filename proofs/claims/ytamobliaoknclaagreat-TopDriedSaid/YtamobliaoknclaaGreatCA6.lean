import Derived.Test.YtamobliaoknclaaGreatCA5
import Derived.WalkKit
import Derived.KernelRfl
import Derived.WalkSpells
import Derived.WalkLawsBesides
import Derived.Maps.AppendAt
import Derived.OrdersIn
import Derived.RangeFuncIn
import Derived.RangeFuncLeaves
import Derived.RangeFuncRecord
import Derived.RangeFuncSeq
import Derived.Scope
import Derived.DeepKeys3
import Derived.Laws.CopyRow
import Derived.Laws.OwnMore
import Derived.Laws.MakeOwn
import Derived.Laws.IdiomCopy
import Derived.Sort.OwnSortedInts
import Derived.Lib.RowBridge
import Derived.Shelf.Spec.SlicesGrow
import Derived.Shelf.Sort.Plain
import Derived.Shelf.Slices.Reverse
import Derived.Ground.Names2Prog
import Derived.Shelf.Slices.Clone
import Derived.Shelf.Slices.Cells
import Derived.Shelf.Slices.In.SortNone
import Derived.Ground.SlgnProg
import Derived.Shelf.SlicesE.Clone
import Derived.Shelf.Spec.SlicesInsertGrow
import Derived.ProofKit
import Derived.ChangeSame
import Derived.SizedLaws
import Derived.Deep.Slices
import Derived.JoinedOf
import Derived.Test.YtamobliaoknclaaGreatProg
import Derived.Test.YtamobliaoknclaaGreatRows
/-
  The contracts of the functions of the program and of the reference, and the logic that they are proved in: the base that several claims of this seat share.
-/
set_option linter.all false
section
namespace Go.Proofs.YtamobliaoknclaaGreat
open Go.RowKit Go.WideShapes
set_option maxRecDepth 20000
open HF
attribute [local irreducible] B7 WL CC CW LV BW GM EK One Ba
theorem JU l b d e(Z:Nat→Prop) w k(c:CO l b d e=some k):
 BW Tryz.prog 15 #[I b,I d,I e] w (fun v w'=>Ext w w'∧BA.R w' (zf Z w []) v k):=by
 unfold CO at c;refine rq (N:=15) Tryz.func15 fun m g n=>?_;have f:=sA 0 g;have i:=sA 1 g;have j:=sA 2 g;clear g;have h:Hp FN [] w [] w:=Hp.start (BB.none w);refine cr<|wA (v:=.bool false) rfl<|wr<|wM (v:=I b) f<|wM (v:=I d) i<|wD (fun st=>JY (eR st) (eR st))<|wM (v:=.bool (decide (d≤b))) rfl ?_;rcases Af (decide (d≤b)) with a|a
 ·replace c:=AD c a;refine wN a (v:=I b) f<|wN a (v:=I e) j<|wG a (fun st=>ET (eR st) (eR st))<|wD (fun st=>AH (v:=.bool (decide (b≤e))) (eR st) a (eR st))<|wA (v:=.bool (decide (b≤e))) rfl<|wn<|Ap ?_;obtain rfl:=oi c;refine AA rfl rfl ?_;exact⟨h.Bl,rfl⟩
 ·replace c:=AE c a;refine wF a<|wF a<|wF a<|wD (fun st=>AO (v:=.bool false) (eR st) a (eR st))<|wA (v:=.bool false) rfl<|wn<|Ap ?_;obtain rfl:=oi c;refine AA rfl rfl ?_;exact⟨h.Bl,rfl⟩
theorem a25 p b f g(Z:Nat→Prop) w n(d:E6 p b f g=some n):
 BW Tryz.prog 25 #[.agg #[I b.Lo,I b.Hi],I f,I g] w (fun v w'=>Ext w w'∧BA.R w' (zf Z w []) v n):=by
 unfold E6 at d;refine rq (N:=24) Tryz.func25 fun q i r=>?_;have k:=sA 0 i;have l:=sA 1 i;have m:=sA 2 i;clear i;have j:Hp FN [] w [] w:=Hp.start (BB.none w);refine cr<|wE (fun st=>BQ (v:=.agg #[I b.Lo,I b.Hi]) (cs:= #[I b.Lo,I b.Hi]) (ee st k) rfl) ?_;rintro _ w1 ⟨s,rfl,e⟩;have h:=j.nb e;have o:=j.BZ e;refine wA (v:=.bool false) rfl<|wr<|wD (fun st=>Ac (eR st) (Lc _ _))<|wD (fun st=>Ag (v:=I b.Lo) AV (eR st) e.bk rfl)<|wM (v:=I f) l<|wD (fun st=>JY (eR st) (eR st))<|wM (v:=.bool (decide (f≤b.Lo))) rfl ?_;rcases Af (decide (f≤b.Lo)) with a|a
 ·replace d:=AD d a;refine wG a (fun st=>Ac (eR st) (Lc _ _))<|wG a (fun st=>Ag (v:=I b.Lo) AV (eR st) e.bk rfl)<|wG a (fun st=>Ac (eR st) (MW _ _))<|wG a (fun st=>Ag (v:=I b.Hi) AV (eR st) e.bk rfl)<|wG a (fun st=>ET (eR st) (eR st))<|wD (fun st=>AH (v:=.bool (decide (b.Lo≤b.Hi))) (eR st) a (eR st))<|wM (v:=.bool (decide (b.Lo≤b.Hi))) rfl ?_;rcases Af (decide (b.Lo≤b.Hi)) with c|c
  ·replace d:=AD d c;refine wG c (fun st=>Ac (eR st) (MW _ _))<|wG c (fun st=>Ag (v:=I b.Hi) AV (eR st) e.bk rfl)<|wN c (v:=I g) m<|wG c (fun st=>ET (eR st) (eR st))<|wD (fun st=>AH (v:=.bool (decide (b.Hi≤g))) (eR st) c (eR st))<|wA (v:=.bool (decide (b.Hi≤g))) rfl<|wn<|Ap ?_;obtain rfl:=oi d;refine AA rfl rfl ?_;exact⟨h.Bl,rfl⟩
  ·replace d:=AE d c;refine wF c<|wF c<|wF c<|wF c<|wD (fun st=>AO (v:=.bool false) (eR st) c (eR st))<|wA (v:=.bool false) rfl<|wn<|Ap ?_;obtain rfl:=oi d;refine AA rfl rfl ?_;exact⟨h.Bl,rfl⟩
 ·replace d:=AE d a;refine wF a<|wF a<|wF a<|wF a<|wF a<|wD (fun st=>AO (v:=.bool false) (eR st) a (eR st))<|wM (v:=.bool false) rfl<|wH<|wH<|wH<|wH<|wD (fun st=>AO (v:=.bool false) (eR st) rfl (eR st))<|wA (v:=.bool false) rfl<|wn<|Ap ?_;obtain rfl:=oi d;refine AA rfl rfl ?_;exact⟨h.Bl,rfl⟩
theorem Yf l a(Z:Nat→Prop) w f(b:FC l a=some f):
 BW Tryz.prog 60 #[.agg #[I a.Lo,I a.Hi]] w (fun v w'=>Ext w w'∧(DP .i64).R w' (zf Z w []) v f):=by
 unfold FC at b;refine rq (N:=9) Tryz.func60 fun m g n=>?_;have e:=sA 0 g;clear g;have d:Hp FN [] w [] w:=Hp.start (BB.none w);refine cr<|wE (fun st=>BQ (v:=.agg #[I a.Lo,I a.Hi]) (cs:= #[I a.Lo,I a.Hi]) (ee st e) rfl) ?_;rintro _ w1 ⟨o,rfl,c⟩;have h:=d.nb c;have k:=d.BZ c;refine wA (v:=I 0) rfl<|wr<|wD (fun st=>Ac (eR st) (MW _ _))<|wD (fun st=>Ag (v:=I a.Hi) AV (eR st) c.bk rfl)<|wD (fun st=>Ac (eR st) (Lc _ _))<|wD (fun st=>Ag (v:=I a.Lo) AV (eR st) c.bk rfl) ?_;replace b:=AT b;obtain⟨i,b⟩:=b;refine wD (fun st=>HR (eR st) (eR st) i) ?_;replace b:=AT b;obtain⟨j,b⟩:=b;refine wD (fun st=>BV (eR st) (eR st) j)<|wA (v:=I ((a.Hi-a.Lo)+1)) rfl<|wn<|Ap ?_;obtain rfl:=oi b;refine AA rfl rfl ?_;exact⟨h.Bl,rfl⟩
theorem a61 j b(Z:Nat→Prop) w e(a:GA j b=some e):
 BW Tryz.prog 61 #[I b] w (fun v w'=>Ext w w'∧(DP .i64).R w' (zf Z w []) v e):=by
 unfold GA at a;refine rq (N:=6) Tryz.func61 fun k f l=>?_;have d:=sA 0 f;clear f;have g:Hp FN [] w [] w:=Hp.start (BB.none w);refine cr<|wA (v:=I 0) rfl<|wr<|wM (v:=I b) d ?_;replace a:=Kl a;obtain⟨c,a⟩:=a;replace a:=AT a;obtain⟨h,a⟩:=a;refine wD (fun st=>L8 (eR st) (eR st) c.1 c.2 h) ?_;replace a:=AT a;obtain⟨i,a⟩:=a;refine wD (fun st=>BV (eR st) (eR st) i)<|wA (v:=I ((1:Int)+(b/2))) rfl<|wn<|Ap ?_;obtain rfl:=oi a;refine AA rfl rfl ?_;exact⟨g.Bl,rfl⟩
set_option maxHeartbeats 4000000 in
theorem a24 aW e q r s t u n o x y z aA f g(Z:Nat→Prop) w(bZ:Sl AS w Z r s e.Ad)(b1:Sl (Ae .i64) w Z t u e.Am)(b2:Sl (Ae .i64) w Z n o e.AN)(b3:Sl (Ae .i64) w Z x y e.Bx)(b4:Sl Bd w Z z aA e.Looks)(b5:Sl (Ae .i64) w Z f g q) c1(a:FX aW e q=some c1):
 BW Tryz.prog 24 #[.agg (Av r s t u n o x y z aA e).toArray,.slice f q.length g] w (fun v w'=>Ext w w'∧BA.R w' (zf Z w []) v c1):=by
 unfold FX at a;refine rq (N:=42) Tryz.func24 fun dJ cB dK=>?_;have cC:=sA 0 cB;have cD:=sA 1 cB;clear cB;have b9:Hp FN [] w [] w:=Hp.start (BB.none w);have ⟨aX,aY,aZ,a0,a2,a3⟩:=JI bZ b1 b2 b3 b4 b5 (BF (Z:=Z) (L:=[]) w);refine cr<|wE (fun st=>BQ (v:=.agg (Av r s t u n o x y z aA e).toArray) (cs:=(Av r s t u n o x y z aA e).toArray) (ee st cC) rfl) ?_;rintro _ w1 ⟨aL,rfl,aS⟩;have c2:=b9.nb aS;have dF:=b9.BZ aS;refine wA (v:=.bool false) rfl<|wn<|Ah<|cr<|wA (v:=I 0) rfl<|wn<|AX ?_;replace a:=bind_some a;obtain⟨z2,aN,a⟩:=a;refine Co (fun cE aC p=>(cE=.ret∧∃aO,z2=.inl aO∧Fo X0 42 aC∧sl aC 4=.bool aO∧Hp FN [] w [some aL] p)∨(cE=.exit 0∧∃aO,z2=.inr aO∧Fo X0 42 aC∧sl aC 1=.slice f q.length g∧sl aC 2=pt aL 0∧Hp FN [] w [some aL] p∧Bk p aL 26 (Av r s t u n o x y z aA e).toArray∧(fun aK=>Sl AS p aK r s e.Ad∧Sl (Ae .i64) p aK t u e.Am∧Sl (Ae .i64) p aK n o e.AN∧Sl (Ae .i64) p aK x y e.Bx∧Sl Bd p aK z aA e.Looks∧Sl (Ae .i64) p aK f g q) (zf Z w [some aL]))) ?c3 ?c4
 case c3=>
  clear a;refine Cn (fun b6 aC p=>∃c,Ds aW e q b6 c=some z2∧Fo X0 42 aC∧sl aC 1=.slice f q.length g∧sl aC 2=pt aL 0∧sl aC 5=I c∧Hp FN [] w [some aL] p∧Bk p aL 26 (Av r s t u n o x y z aA e).toArray∧(fun aK=>Sl AS p aK r s e.Ad∧Sl (Ae .i64) p aK t u e.Am∧Sl (Ae .i64) p aK n o e.AN∧Sl (Ae .i64) p aK x y e.Bx∧Sl Bd p aK z aA e.Looks∧Sl (Ae .i64) p aK f g q) (zf Z w [some aL])) aW ?c5 ?c6
  case c5=>
   intro st;have ⟨a4,a5,a9,bA,bB,bC⟩:=JI aX aY aZ a0 a2 a3 (Ai aS);exact⟨(0:Int),aN,qo st,sp st 1 cD,sp st 2 rfl,sp st 5 rfl,c2,aS.bk,a4,a5,a9,bA,bB,bC⟩
  case c6=>
   rintro(_|b6) dL dM ⟨c,aN,cF,l,aB,j,aT,m,aD,aE,aF,aG,aH,i⟩
   ·exact absurd (show none=some _ from aN) (by simp)
   rw[Ds.eq_2] at aN;have a:=aN;clear aN;refine ro cF<|Ah<|cr<|wM (v:=I c) j<|wM (v:=.slice f q.length g) l<|wD (fun st=>BM Tryz.underlying23 (eR st))<|wD (fun st=>C3 (eR st) (eR st))<|wn ?_;rcases Af (decide (c<(q.length:Int))) with aQ|aQ
   ·replace a:=AD a aQ;refine Aw rfl aQ<|cn<|Ah<|AX<|Ah ?_;replace a:=Bn a;obtain⟨i5,bD,bQ,c7,bR,a⟩:=a;obtain⟨cG,cH,_,bS,rfl,bT⟩:=Sl.C4 i rfl c7;replace a:=bind_some a;obtain⟨aI,bU,a⟩:=a;rcases Af (!aI) with d|d
    ·replace a:=AD a d;have dG:aI=false:=by simpa using d
     refine B1 21 [Kc (.slice f q.length g),Kc (I c),Kc (pt cG (cH+i5)),Kc (I bD),Kc (pt aL 0),Kc (I e.Ao),Kc (.bool aI),Kc (.bool !aI),Kc (.bool !aI),Kc undef,Kc undef,Kc undef,Kc undef,Kc undef,Kc undef,Kc undef,Kc undef,Kc undef,Kc undef,Kc undef,Kc undef] mixed rfl rfl
         (Aa (oD (fun K=>Ay (es ((K.out 1 rfl).trans l))))
         (Aa (oD (fun K=>Ay (es ((K.out 5 rfl).trans j))))
         (Aa (oD (fun K=>Bu (k:=i5) Tryz.underlying23 CG (es (K.dq 0 12)) bS (es (K.dq 1 13)) bQ bR))
         (Aa (oD (fun K=>BJ AV (es (K.dq 2 14)) (bT.mv (Ab K.Al)) rfl))
         (Aa (oD (fun K=>Ac (es ((K.out 2 rfl).trans aB)) (Hz _ _)))
         (Aa (oD (fun K=>Ag AV (es (K.dq 4 16)) (m.ext K.Al) rfl))
         (Aa (oE (fun K=>(Ar G0 (rfl:Act.eval _ (.func 15)=_) (EV (es (K.dq 3 15)) (ec (v:=I 0)) (es (K.dq 5 17))) (JU aW bD 0 e.Ao ZA _ aI bU)).mono (fun _ _ h=>⟨h.2,h.1⟩)))
         (Aa (oD (fun K=>Cd (es (K.dq 6 18))))
         (Aa (oD (fun K=>Ay (es (K.dq 7 19))))
         (Aa (oT d)
         (Aa (oT d)
         (Aa (oT d)
         (Aa (oU)
         (Aa (oU)
         (Aa (oU)
         (Aa (oU)
         (Aa (oU)
         (Aa (oU)
         (Aa (oU)
         (Aa (oU)
         (Aa (oU)
         (BH _)))))))))))))))))))))) ?_
     intro c8;rintro _ rfl _ rfl _ rfl _ rfl _ rfl _ rfl _ rfl _ rfl _ rfl _ rfl _ rfl _ rfl _ rfl _ rfl _ rfl _ rfl _ rfl _ rfl _ rfl _ rfl _ rfl aJ;have c9:=aT.ext aJ;refine DA rfl rfl rfl rfl (by decide)<|wF d<|wD (fun st=>AH (v:=.bool true) (eR st) d (eR st))<|wn<|Aw rfl rfl<|cr<|wA (v:=.bool false) rfl<|wn<|Ap<|Ee<|AZ ?_;obtain rfl:=oi a;refine Cj (fun st=>?_);exact .inl ⟨rfl,false,rfl,qo st,sp st 4 rfl,c9⟩
    ·replace a:=AE a d;have dH:aI=true:=by simpa using d
     rcases Af (decide ((0:Int)<c)) with b|b
     ·replace a:=AD a b;replace a:=Bn a;obtain⟨i11,aU,cI,cJ,cK,a⟩:=a;obtain⟨dA,dB,_,cL,rfl,cM⟩:=Sl.C4 i rfl cJ;replace a:=AT a;obtain⟨cN,a⟩:=a;replace a:=Bn a;obtain⟨i13,aV,cO,cP,cQ,a⟩:=a;obtain⟨dC,dD,_,cR,rfl,cS⟩:=Sl.C4 i rfl cP;refine B1 21 [Kc (.slice f q.length g),Kc (I c),Kc (pt cG (cH+i5)),Kc (I bD),Kc (pt aL 0),Kc (I e.Ao),Kc (.bool aI),Kc (.bool !aI),Kc (.bool !aI),Kc (I c),Kc (.bool (decide ((0:Int)<c))),Kc (.bool (decide ((0:Int)<c))),Kc (.slice f q.length g),Kc (I c),Kc (pt dA (dB+i11)),Kc (I aU),Kc (.slice f q.length g),Kc (I c),Kc (I (c-1)),Kc (pt dC (dD+i13)),Kc (I aV)] mixed rfl rfl
          (Aa (oD (fun K=>Ay (es ((K.out 1 rfl).trans l))))
          (Aa (oD (fun K=>Ay (es ((K.out 5 rfl).trans j))))
          (Aa (oD (fun K=>Bu (k:=i5) Tryz.underlying23 CG (es (K.dq 0 12)) bS (es (K.dq 1 13)) bQ bR))
          (Aa (oD (fun K=>BJ AV (es (K.dq 2 14)) (bT.mv (Ab K.Al)) rfl))
          (Aa (oD (fun K=>Ac (es ((K.out 2 rfl).trans aB)) (Hz _ _)))
          (Aa (oD (fun K=>Ag AV (es (K.dq 4 16)) (m.ext K.Al) rfl))
          (Aa (oE (fun K=>(Ar G0 (rfl:Act.eval _ (.func 15)=_) (EV (es (K.dq 3 15)) (ec (v:=I 0)) (es (K.dq 5 17))) (JU aW bD 0 e.Ao ZA _ aI bU)).mono (fun _ _ h=>⟨h.2,h.1⟩)))
          (Aa (oD (fun K=>Cd (es (K.dq 6 18))))
          (Aa (oD (fun K=>Ay (es (K.dq 7 19))))
          (Aa (oG d (fun K=>Ay (es ((K.out 5 rfl).trans j))))
          (Aa (oG d (fun K=>F9 (es (K.dq 9 21)) (ec (v:=I 0))))
          (Aa (oG d (fun K=>Ay (es (K.dq 10 22))))
          (Aa (oG b (fun K=>Ay (es ((K.out 1 rfl).trans l))))
          (Aa (oG b (fun K=>Ay (es ((K.out 5 rfl).trans j))))
          (Aa (oG b (fun K=>Bu (k:=i11) Tryz.underlying23 CG (es (K.dq 12 24)) cL (es (K.dq 13 25)) cI cK))
          (Aa (oG b (fun K=>BJ AV (es (K.dq 14 26)) (cM.mv (Ab K.Al)) rfl))
          (Aa (oG b (fun K=>Ay (es ((K.out 1 rfl).trans l))))
          (Aa (oG b (fun K=>Ay (es ((K.out 5 rfl).trans j))))
          (Aa (oG b (fun K=>HR (es (K.dq 17 29)) (ec (v:=I 1)) cN))
          (Aa (oG b (fun K=>Bu (k:=i13) Tryz.underlying23 CG (es (K.dq 16 28)) cR (es (K.dq 18 30)) cO cQ))
          (Aa (oG b (fun K=>BJ AV (es (K.dq 19 31)) (cS.mv (Ab K.Al)) rfl))
          (BH _)))))))))))))))))))))) ?_
      intro c8;rintro _ rfl _ rfl _ rfl _ rfl _ rfl _ rfl _ rfl _ rfl _ rfl _ rfl _ rfl _ rfl _ rfl _ rfl _ rfl _ rfl _ rfl _ rfl _ rfl _ rfl _ rfl aJ;have cA:=aT.ext aJ;refine wG b (fun st=>ET (eR st) (eR st))<|wG d (fun st=>AH (v:=.bool (decide (aU≤aV))) (eR st) b (eR st))<|wD (fun st=>AO (v:=.bool (decide (aU≤aV))) (eR st) d (eR st))<|wn ?_;rcases Af (decide (aU≤aV)) with aM|aM
      ·replace a:=AD a aM;refine Aw rfl aM<|cr<|wA (v:=.bool false) rfl<|wn<|Ap<|Ee<|AZ ?_;obtain rfl:=oi a;refine Cj (fun st=>?_);exact .inl ⟨rfl,false,rfl,qo st,sp st 4 rfl,cA⟩
      ·replace a:=AE a aM;refine AI rfl aM<|B5<|Ef<|Aj<|wM (v:=I c) j ?_;replace a:=AT a;obtain⟨cT,a⟩:=a;refine wD (fun st=>BV (eR st) (eR st) cT)<|wA (v:=I (c+1)) rfl<|AJ ?_;have b7:=(m.ext aJ);have ⟨bE,bF,bG,bH,bI,bJ⟩:=JI aD aE aF aG aH i (Ab aJ);refine BN b6 (Nat.lt_succ_self _) (fun st=>?_);exact⟨(c+1),a,qo st,sp st 1 l,sp st 2 aB,sp st 5 rfl,cA,b7,bE,bF,bG,bH,bI,bJ⟩
     ·replace a:=AE a b;refine B1 21 [Kc (.slice f q.length g),Kc (I c),Kc (pt cG (cH+i5)),Kc (I bD),Kc (pt aL 0),Kc (I e.Ao),Kc (.bool aI),Kc (.bool !aI),Kc (.bool !aI),Kc (I c),Kc (.bool (decide ((0:Int)<c))),Kc (.bool (decide ((0:Int)<c))),Kc undef,Kc undef,Kc undef,Kc undef,Kc undef,Kc undef,Kc undef,Kc undef,Kc undef] mixed rfl rfl
          (Aa (oD (fun K=>Ay (es ((K.out 1 rfl).trans l))))
          (Aa (oD (fun K=>Ay (es ((K.out 5 rfl).trans j))))
          (Aa (oD (fun K=>Bu (k:=i5) Tryz.underlying23 CG (es (K.dq 0 12)) bS (es (K.dq 1 13)) bQ bR))
          (Aa (oD (fun K=>BJ AV (es (K.dq 2 14)) (bT.mv (Ab K.Al)) rfl))
          (Aa (oD (fun K=>Ac (es ((K.out 2 rfl).trans aB)) (Hz _ _)))
          (Aa (oD (fun K=>Ag AV (es (K.dq 4 16)) (m.ext K.Al) rfl))
          (Aa (oE (fun K=>(Ar G0 (rfl:Act.eval _ (.func 15)=_) (EV (es (K.dq 3 15)) (ec (v:=I 0)) (es (K.dq 5 17))) (JU aW bD 0 e.Ao ZA _ aI bU)).mono (fun _ _ h=>⟨h.2,h.1⟩)))
          (Aa (oD (fun K=>Cd (es (K.dq 6 18))))
          (Aa (oD (fun K=>Ay (es (K.dq 7 19))))
          (Aa (oG d (fun K=>Ay (es ((K.out 5 rfl).trans j))))
          (Aa (oG d (fun K=>F9 (es (K.dq 9 21)) (ec (v:=I 0))))
          (Aa (oG d (fun K=>Ay (es (K.dq 10 22))))
          (Aa (oT b)
          (Aa (oT b)
          (Aa (oT b)
          (Aa (oT b)
          (Aa (oT b)
          (Aa (oT b)
          (Aa (oT b)
          (Aa (oT b)
          (Aa (oT b)
          (BH _)))))))))))))))))))))) ?_
      intro c8;rintro _ rfl _ rfl _ rfl _ rfl _ rfl _ rfl _ rfl _ rfl _ rfl _ rfl _ rfl _ rfl _ rfl _ rfl _ rfl _ rfl _ rfl _ rfl _ rfl _ rfl _ rfl aJ;have dE:=aT.ext aJ;refine wF b<|wG d (fun st=>AO (v:=.bool false) (eR st) b (eR st))<|wD (fun st=>AO (v:=.bool false) (eR st) d (eR st))<|wn<|AI rfl rfl<|B5<|Ef<|Aj<|wM (v:=I c) j ?_;replace a:=AT a;obtain⟨cU,a⟩:=a;refine wD (fun st=>BV (eR st) (eR st) cU)<|wA (v:=I (c+1)) rfl<|AJ ?_;have b8:=(m.ext aJ);have ⟨bK,bL,bM,bN,bO,bP⟩:=JI aD aE aF aG aH i (Ab aJ);refine BN b6 (Nat.lt_succ_self _) (fun st=>?_);exact⟨(c+1),a,qo st,sp st 1 l,sp st 2 aB,sp st 5 rfl,dE,b8,bK,bL,bM,bN,bO,bP⟩
   ·replace a:=AE a aQ;refine AI rfl aQ<|FF ?_;obtain rfl:=oi a;refine Cj (fun st=>?_);exact .inr ⟨rfl,(),rfl,qo st,sp st 1 l,sp st 2 aB,aT,m,aD,aE,aF,aG,aH,i⟩
 case c4=>
  rintro cE dI dN (⟨rfl,aO,rfl,aP,bV,aR⟩|⟨rfl,aO,rfl,aP,bW,bX,aR,bY,cV,cW,cX,cY,cZ,c0⟩)
  ·skip
   replace a:=EW a;refine lf aP<|Ee ?_;obtain rfl:=oi a;refine AA rfl bV ?_;exact⟨aR.Bl,rfl⟩
  ·skip
   replace a:=EX a;refine lf aP<|BE<|AL<|cr<|wM (v:=.slice f q.length g) bW<|wD (fun st=>BM Tryz.underlying23 (eR st))<|wD (fun st=>Ac (ee st bX) (HA _ _))<|wD (fun st=>Ag (v:=.slice n e.AN.length o) BY (eR st) bY rfl)<|wD (fun st=>BM Tryz.underlying23 (eR st))<|wD (fun st=>ET (eR st) (eR st))<|wA (v:=.bool (decide ((q.length:Int)≤(e.AN.length:Int)))) rfl<|wn<|Ap ?_;obtain rfl:=oi a;refine AA rfl rfl ?_;exact⟨aR.Bl,rfl⟩
theorem a23 aY c d e f g m n o p q r(Z:Nat→Prop) w(a5:Sl AS w Z d e c.Ad)(a9:Sl (Ae .i64) w Z f g c.Am)(bA:Sl (Ae .i64) w Z m n c.AN)(bB:Sl (Ae .i64) w Z o p c.Bx)(bC:Sl Bd w Z q r c.Looks) bO(a:EE aY c=some bO):
 BW Tryz.prog 23 #[.agg (Av d e f g m n o p q r c).toArray] w (fun v w'=>Ext w w'∧(DP .i64).R w' (zf Z w []) v bO):=by
 unfold EE at a;refine rq (N:=29) Tryz.func23 fun cI bP cJ=>?_;have bI:=sA 0 bP;clear bP;have bG:Hp FN [] w [] w:=Hp.start (BB.none w);have ⟨aJ,aK,aL,aM,aN⟩:=C2 a5 a9 bA bB bC (BF (Z:=Z) (L:=[]) w);refine cr<|wE (fun st=>BQ (v:=.agg (Av d e f g m n o p q r c).toArray) (cs:=(Av d e f g m n o p q r c).toArray) (ee st bI) rfl) ?_;rintro _ w1 ⟨aD,rfl,aH⟩;have bQ:=bG.nb aH;have cC:=bG.BZ aH;refine wA (v:=I 0) rfl<|wr<|wA (v:=I 1) rfl<|wn<|Ah<|cr<|wA (v:=I 0) rfl<|wn<|AX ?_;replace a:=bind_some a;obtain⟨z2,aA,a⟩:=a;refine Co (fun bR x aB=>(bR=.exit 0∧Fo X0 29 x∧sl x 3=I z2∧Hp FN [] w [some aD] aB)) ?bS ?bT
 case bS=>
  clear a;refine Cn (fun bJ x aB=>∃i,∃b,Eu aY c bJ i b=some z2∧Fo X0 29 x∧sl x 1=pt aD 0∧sl x 3=I i∧sl x 4=I b∧Hp FN [] w [some aD] aB∧Bk aB aD 26 (Av d e f g m n o p q r c).toArray∧(fun aZ=>Sl AS aB aZ d e c.Ad∧Sl (Ae .i64) aB aZ f g c.Am∧Sl (Ae .i64) aB aZ m n c.AN∧Sl (Ae .i64) aB aZ o p c.Bx∧Sl Bd aB aZ q r c.Looks) (zf Z w [some aD])) aY ?bU ?bV
  case bU=>
   intro st;have ⟨aO,aP,aQ,aR,aS⟩:=C2 aJ aK aL aM aN (Ai aH);exact⟨(1:Int),(0:Int),aA,qo st,sp st 1 rfl,sp st 3 rfl,sp st 4 rfl,bQ,aH.bk,aO,aP,aQ,aR,aS⟩
  case bV=>
   rintro(_|bJ) cK cL ⟨i,b,aA,bK,s,aI,u,bH,j,y,z,aE,aF,aG⟩
   ·exact absurd (show none=some _ from aA) (by simp)
   rw[Eu.eq_2] at aA;have a:=aA;clear aA;refine ro bK<|Ah<|cr<|wM (v:=I b) u<|wD (fun st=>Ac (ee st s) (IL _ _))<|wD (fun st=>Ag (v:=.slice d c.Ad.length e) Jh (eR st) j rfl)<|wD (fun st=>BM Tryz.underlying22 (eR st))<|wD (fun st=>C3 (eR st) (eR st))<|wn ?_;rcases Af (decide (b<(c.Ad.length:Int))) with aC|aC
   ·replace a:=AD a aC;refine Aw rfl aC<|cn<|Ah<|AX ?_;replace a:=Bn a;obtain⟨i5,a0,bW,bX,bY,a⟩:=a;obtain⟨cD,cE,_,bZ,rfl,b1⟩:=Sl.elem y (by decide) bX;replace a:=bind_some a;obtain⟨a2,b2,a⟩:=a;replace a:=AT a;obtain⟨b3,a⟩:=a;replace a:=Bn a;obtain⟨i8,b4,b5,b6,b7,a⟩:=a;obtain⟨cF,cG,_,b8,rfl,b9⟩:=Sl.C4 z rfl b6;replace a:=bind_some a;obtain⟨bD,cA,a⟩:=a;refine B1 14 [Kc (I i),Kc (pt aD 1),Kc (.slice d c.Ad.length e),Kc (I b),Kc (pt cD (cE+i5*2)),Kc (.agg #[I a0.Lo,I a0.Hi]),Kc (I a2),Kc (I (i*a2)),Kc (pt aD 2),Kc (.slice f c.Am.length g),Kc (I b),Kc (pt cF (cG+i8)),Kc (I b4),Kc (I bD)] mixed rfl rfl
        (Aa (oD (fun K=>Ay (es (t:=3) ((K.later 16 3 _ rfl rfl rfl).trans aI))))
        (Aa (oD (fun K=>Ac (es ((K.out 1 rfl).trans s)) (IL _ _)))
        (Aa (oD (fun K=>Ag Jh (es (K.dq 1 13)) (j.ext K.Al) rfl))
        (Aa (oD (fun K=>Ay (es ((K.out 4 rfl).trans u))))
        (Aa (oD (fun K=>B9 (k:=i5) Tryz.underlying22 N6 (es (K.dq 2 14)) bZ (es (K.dq 3 15)) bW bY))
        (Aa (oD (fun K=>CN (l:=[I a0.Lo,I a0.Hi]) JO (es (K.dq 4 16)) (b1.mv (Ab K.Al)) rfl rfl))
        (Aa (oE (fun K=>(Ar QI (rfl:Act.eval _ (.func 60)=_) (Cf (es (K.dq 5 17))) (Yf aY a0 ZA _ a2 b2)).mono (fun _ _ h=>⟨h.2,h.1⟩)))
        (Aa (oD (fun K=>Kz (es (K.dq 0 12)) (es (K.dq 6 18)) b3))
        (Aa (oD (fun K=>Ac (es ((K.out 1 rfl).trans s)) (Kd _ _)))
        (Aa (oD (fun K=>Ag BY (es (K.dq 8 20)) (j.ext K.Al) rfl))
        (Aa (oD (fun K=>Ay (es ((K.out 4 rfl).trans u))))
        (Aa (oD (fun K=>Bu (k:=i8) Tryz.underlying23 CG (es (K.dq 9 21)) b8 (es (K.dq 10 22)) b5 b7))
        (Aa (oD (fun K=>BJ AV (es (K.dq 11 23)) (b9.mv (Ab K.Al)) rfl))
        (Aa (oE (fun K=>(Ar XO (rfl:Act.eval _ (.func 61)=_) (Cf (es (K.dq 12 24))) (a61 aY b4 ZA _ bD cA)).mono (fun _ _ h=>⟨h.2,h.1⟩)))
        (BH _))))))))))))))) ?_
    intro cN;rintro _ rfl _ rfl _ rfl _ rfl _ rfl _ rfl _ rfl _ rfl _ rfl _ rfl _ rfl _ rfl _ rfl _ rfl a3;have cB:=bH.ext a3;replace a:=AT a;obtain⟨bL,a⟩:=a;refine wD (fun st=>Kz (eR st) (eR st) bL)<|wD (fun st=>Pk (eR st) (eR st))<|wA (v:=I (min (3000:Int) ((i*a2)*bD))) rfl<|AJ<|Ef<|Aj<|wM (v:=I b) u ?_;replace a:=AT a;obtain⟨bM,a⟩:=a;refine wD (fun st=>BV (eR st) (eR st) bM)<|wA (v:=I (b+1)) rfl<|AJ ?_;have bE:=(j.ext a3);have ⟨aT,aU,aV,aW,aX⟩:=C2 y z aE aF aG (Ab a3);refine BN bJ (Nat.lt_succ_self _) (fun st=>?_);exact⟨(min (3000:Int) ((i*a2)*bD)),(b+1),a,qo st,sp st 1 s,sp st 3 rfl,sp st 4 rfl,cB,bE,aT,aU,aV,aW,aX⟩
   ·replace a:=AE a aC;refine AI rfl aC<|FF ?_;obtain rfl:=oi a;refine Cj (fun st=>?_);exact⟨rfl,qo st,sp st 3 aI,bH⟩
 case bT=>
  rintro bR cH cM (⟨rfl,bF,a4,bN⟩);refine lf bF<|BE<|AL<|cr<|wM (v:=I z2) a4<|wA (v:=I z2) rfl<|wn<|Ap ?_;obtain rfl:=oi a;refine AA rfl rfl ?_;exact⟨bN.Bl,rfl⟩
set_option maxHeartbeats 4000000 in
theorem a6 aQ b n o p q e f r s g i(Z:Nat→Prop) w(fA:Sl AS w Z n o b.Ad)(fB:Sl (Ae .i64) w Z p q b.Am)(fC:Sl (Ae .i64) w Z e f b.AN)(fD:Sl (Ae .i64) w Z r s b.Bx)(fE:Sl Bd w Z g i b.Looks) h1(a:Fi aQ b=some h1):
 BW Tryz.prog 6 #[.agg (Av n o p q e f r s g i b).toArray] w (fun v w'=>Ext w w'∧(DP .i64).R w' (zf Z w []) v h1):=by
 unfold Fi at a;refine rq (N:=157) Tryz.func6 fun iO h2 iP=>?_;have fV:=sA 0 h2;clear h2;have fK:Hp FN [] w [] w:=Hp.start (BB.none w);have ⟨d5,d6,d7,d8,d9⟩:=C2 fA fB fC fD fE (BF (Z:=Z) (L:=[]) w);refine cr<|wE (fun st=>BQ (v:=.agg (Av n o p q e f r s g i b).toArray) (cs:=(Av n o p q e f r s g i b).toArray) (ee st fV) rfl) ?_;rintro _ w1 ⟨y,rfl,aP⟩;have bL:=fK.nb aP;have iB:=fK.BZ aP;refine wA (v:=I 0) rfl<|wn<|Ah<|cr<|wD (fun st=>Ac (eR st) (Hz _ _))<|wD (fun st=>Ag (v:=I b.Ao) AV (eR st) aP.bk rfl)<|wD (fun st=>F9 (eR st) (eR st))<|wM (v:=.bool (decide ((9:Int)<b.Ao))) rfl ?_;rcases Af (decide ((9:Int)<b.Ao)) with aR|aR
 ·replace a:=AD a aR;refine wF aR<|wF aR<|wF aR<|wF aR<|wD (fun st=>AH (v:=.bool true) (eR st) aR (eR st))<|wM (v:=.bool true) rfl<|wH<|wH<|wH<|wH<|wD (fun st=>AH (v:=.bool true) (eR st) rfl (eR st))<|wn<|Aw rfl rfl<|cr<|wA (v:=I 3) rfl<|wn<|Ap<|AZ ?_;obtain rfl:=oi a;refine AA rfl rfl ?_;exact⟨bL.Bl,rfl⟩
 ·replace a:=AE a aR;refine wG aR (fun st=>Ac (eR st) (HA _ _))<|wG aR (fun st=>Ag (v:=.slice e b.AN.length f) BY (eR st) aP.bk rfl)<|wG aR (fun st=>BM Tryz.underlying23 (eR st))<|wG aR (fun st=>F9 (eR st) (eR st))<|wD (fun st=>AO (v:=.bool (decide ((3:Int)<(b.AN.length:Int)))) (eR st) aR (eR st))<|wM (v:=.bool (decide ((3:Int)<(b.AN.length:Int)))) rfl ?_;rcases Af (decide ((3:Int)<(b.AN.length:Int))) with aS|aS
  ·replace a:=AD a aS;refine wF aS<|wF aS<|wF aS<|wF aS<|wD (fun st=>AH (v:=.bool true) (eR st) aS (eR st))<|wn<|Aw rfl rfl<|cr<|wA (v:=I 3) rfl<|wn<|Ap<|AZ ?_;obtain rfl:=oi a;refine AA rfl rfl ?_;exact⟨bL.Bl,rfl⟩
  ·replace a:=AE a aS;refine wG aS (fun st=>Ac (eR st) (HB _ _))<|wG aS (fun st=>Ag (v:=.slice g b.Looks.length i) Im (eR st) aP.bk rfl)<|wG aS (fun st=>BM Tryz.underlying24 (eR st))<|wG aS (fun st=>F9 (eR st) (eR st))<|wD (fun st=>AO (v:=.bool (decide ((5:Int)<(b.Looks.length:Int)))) (eR st) aS (eR st))<|wn ?_;rcases Af (decide ((5:Int)<(b.Looks.length:Int))) with cN|cN
   ·replace a:=AD a cN;refine Aw rfl cN<|cr<|wA (v:=I 3) rfl<|wn<|Ap<|AZ ?_;obtain rfl:=oi a;refine AA rfl rfl ?_;exact⟨bL.Bl,rfl⟩
   ·replace a:=AE a cN;refine AI rfl cN<|cn<|Ah<|cr<|wD (fun st=>Ac (eR st) (Hz _ _))<|wD (fun st=>Ag (v:=I b.Ao) AV (eR st) aP.bk rfl)<|wD (fun st=>C3 (eR st) (eR st))<|wM (v:=.bool (decide (b.Ao<0))) rfl ?_;rcases Af (decide (b.Ao<0)) with aH|aH
    ·replace a:=AD a aH;refine wF aH<|wF aH<|wF aH<|wF aH<|wF aH<|wF aH<|wF aH<|wD (fun st=>AH (v:=.bool true) (eR st) aH (eR st))<|wM (v:=.bool true) rfl<|wH<|wH<|wH<|wH<|wH<|wH<|wH<|wD (fun st=>AH (v:=.bool true) (eR st) rfl (eR st))<|wM (v:=.bool true) rfl<|wH<|wH<|wH<|wH<|wD (fun st=>AH (v:=.bool true) (eR st) rfl (eR st))<|wM (v:=.bool true) rfl<|wH<|wH<|wH<|wH<|wD (fun st=>AH (v:=.bool true) (eR st) rfl (eR st))<|wM (v:=.bool true) rfl<|wH<|wH<|wH<|wH<|wD (fun st=>AH (v:=.bool true) (eR st) rfl (eR st))<|wM (v:=.bool true) rfl<|wH<|wH<|wH<|Bm rfl rfl rfl (by decide) rfl (by decide) ?_;refine wD (fun st=>AH (v:=.bool true) (eR st) rfl (eR st))<|wM (v:=.bool true) rfl<|wH<|wH<|wH<|wH<|wH<|wD (fun st=>AH (v:=.bool true) (eR st) rfl (eR st))<|wn<|Aw rfl rfl<|cr<|wA (v:=I 1) rfl<|wn<|Ap<|AZ ?_;obtain rfl:=oi a;refine AA rfl rfl ?_;exact⟨bL.Bl,rfl⟩
    ·replace a:=AE a aH;refine wG aH (fun st=>Ac (eR st) (IL _ _))<|wG aH (fun st=>Ag (v:=.slice n b.Ad.length o) Jh (eR st) aP.bk rfl)<|wG aH (fun st=>BM Tryz.underlying22 (eR st))<|wG aH (fun st=>Ac (eR st) (Hz _ _))<|wG aH (fun st=>Ag (v:=I b.Ao) AV (eR st) aP.bk rfl) ?_;replace a:=AT a;obtain⟨h3,a⟩:=a;refine wG aH (fun st=>BV (eR st) (eR st) h3)<|wG aH (fun st=>DO (eR st) (eR st))<|wD (fun st=>AO (v:=.bool ((b.Ad.length:Int) !=(b.Ao+1))) (eR st) aH (eR st))<|wM (v:=.bool ((b.Ad.length:Int) !=(b.Ao+1))) rfl ?_;rcases Af ((b.Ad.length:Int) !=(b.Ao+1)) with aI|aI
     ·replace a:=AD a aI;refine wF aI<|wF aI<|wF aI<|wF aI<|wF aI<|wF aI<|wF aI<|wD (fun st=>AH (v:=.bool true) (eR st) aI (eR st))<|wM (v:=.bool true) rfl<|wH<|wH<|wH<|wH<|wD (fun st=>AH (v:=.bool true) (eR st) rfl (eR st))<|wM (v:=.bool true) rfl<|wH<|wH<|wH<|wH<|wD (fun st=>AH (v:=.bool true) (eR st) rfl (eR st))<|wM (v:=.bool true) rfl<|wH<|wH<|wH<|wH<|wD (fun st=>AH (v:=.bool true) (eR st) rfl (eR st))<|wM (v:=.bool true) rfl<|wH<|wH<|wH<|wH<|wD (fun st=>AH (v:=.bool true) (eR st) rfl (eR st))<|wM (v:=.bool true) rfl<|wH<|wH<|wH<|wH<|wH<|wD (fun st=>AH (v:=.bool true) (eR st) rfl (eR st))<|AJ ?_;refine AL<|Aw rfl rfl<|cr<|wA (v:=I 1) rfl<|wn<|Ap<|AZ ?_;obtain rfl:=oi a;refine AA rfl rfl ?_;exact⟨bL.Bl,rfl⟩
     ·replace a:=AE a aI;refine wG aI (fun st=>Ac (eR st) (Kd _ _))<|wG aI (fun st=>Ag (v:=.slice p b.Am.length q) BY (eR st) aP.bk rfl)<|wG aI (fun st=>BM Tryz.underlying23 (eR st))<|wG aI (fun st=>Ac (eR st) (Hz _ _))<|wG aI (fun st=>Ag (v:=I b.Ao) AV (eR st) aP.bk rfl) ?_;replace a:=AT a;obtain⟨h4,a⟩:=a;refine wG aI (fun st=>BV (eR st) (eR st) h4)<|wG aI (fun st=>DO (eR st) (eR st))<|wD (fun st=>AO (v:=.bool ((b.Am.length:Int) !=(b.Ao+1))) (eR st) aI (eR st))<|wM (v:=.bool ((b.Am.length:Int) !=(b.Ao+1))) rfl ?_;rcases Af ((b.Am.length:Int) !=(b.Ao+1)) with aT|aT
      ·replace a:=AD a aT;refine wF aT<|wF aT<|wF aT<|wF aT<|wD (fun st=>AH (v:=.bool true) (eR st) aT (eR st))<|wM (v:=.bool true) rfl<|wH<|wH<|wH<|wH<|wD (fun st=>AH (v:=.bool true) (eR st) rfl (eR st))<|wM (v:=.bool true) rfl<|wH<|wH<|wH<|wH<|wD (fun st=>AH (v:=.bool true) (eR st) rfl (eR st))<|wM (v:=.bool true) rfl<|wH<|wH<|wH<|wH<|wD (fun st=>AH (v:=.bool true) (eR st) rfl (eR st))<|wM (v:=.bool true) rfl<|wH<|wH<|wH<|wH<|wH<|wD (fun st=>AH (v:=.bool true) (eR st) rfl (eR st))<|wn<|Aw rfl rfl<|cr<|wA (v:=I 1) rfl<|wn<|Ap<|AZ ?_;obtain rfl:=oi a;refine AA rfl rfl ?_;exact⟨bL.Bl,rfl⟩
      ·replace a:=AE a aT;refine wG aT (fun st=>Ac (eR st) (HA _ _))<|wG aT (fun st=>Ag (v:=.slice e b.AN.length f) BY (eR st) aP.bk rfl)<|wG aT (fun st=>BM Tryz.underlying23 (eR st))<|wG aT (fun st=>Ew (eR st) (eR st))<|wD (fun st=>AO (v:=.bool ((b.AN.length:Int)==0)) (eR st) aT (eR st))<|wM (v:=.bool ((b.AN.length:Int)==0)) rfl ?_;rcases Af ((b.AN.length:Int)==0) with aL|aL
       ·replace a:=AD a aL;refine wF aL<|wF aL<|wF aL<|wF aL<|wD (fun st=>AH (v:=.bool true) (eR st) aL (eR st))<|wM (v:=.bool true) rfl<|wH<|wH<|wH<|wH<|wD (fun st=>AH (v:=.bool true) (eR st) rfl (eR st))<|wM (v:=.bool true) rfl<|wH<|wH<|wH<|wH<|wD (fun st=>AH (v:=.bool true) (eR st) rfl (eR st))<|wM (v:=.bool true) rfl<|wH<|wH<|wH<|wH<|wH<|wD (fun st=>AH (v:=.bool true) (eR st) rfl (eR st))<|wn<|Aw rfl rfl<|cr<|wA (v:=I 1) rfl<|wn<|Ap<|AZ ?_;obtain rfl:=oi a;refine AA rfl rfl ?_;exact⟨bL.Bl,rfl⟩
       ·replace a:=AE a aL;refine wG aL (fun st=>Ac (eR st) (RI _ _))<|wG aL (fun st=>Ag (v:=I b.Ct) AV (eR st) aP.bk rfl) ?_;replace a:=bind_some a;obtain⟨b8,fW,a⟩:=a;refine wX aL (fun st=>Ar G0 (eR st) (EV (eR st) (eR st) (eR st)) (JU aQ b.Ct 1 10 ZA _ b8 fW)) ?_;rintro _ iQ ⟨c7,rfl⟩;have fL:=bL.ext c7;refine wG aL (fun st=>Cd (eR st))<|wD (fun st=>AO (v:=.bool !b8) (eR st) aL (eR st))<|wM (v:=.bool !b8) rfl ?_;rcases Af (!b8) with aD|aD
        ·replace a:=AD a aD;have hH:b8=false:=by simpa using aD
         refine wF aD<|wF aD<|wF aD<|wF aD<|wD (fun st=>AH (v:=.bool true) (eR st) aD (eR st))<|wM (v:=.bool true) rfl<|wH<|wH<|wH<|wH<|wD (fun st=>AH (v:=.bool true) (eR st) rfl (eR st))<|wM (v:=.bool true) rfl<|wH<|wH<|wH<|wH<|wH<|wD (fun st=>AH (v:=.bool true) (eR st) rfl (eR st))<|wn<|Aw rfl rfl<|cr<|wA (v:=I 1) rfl<|wn<|Ap<|AZ ?_;obtain rfl:=oi a;refine AA rfl rfl ?_;exact⟨fL.Bl,rfl⟩
        ·replace a:=AE a aD;have hI:b8=true:=by simpa using aD
         refine wG aD (fun st=>Ac (eR st) (RJ _ _)) ?_;have dW:=(aP.bk.ext c7);refine wG aD (fun st=>Ag (v:=I b.CF) AV (eR st) dW rfl) ?_;replace a:=bind_some a;obtain⟨b9,fX,a⟩:=a;refine wX aD (fun st=>Ar G0 (eR st) (EV (eR st) (eR st) (eR st)) (JU aQ b.CF 0 50 ZA _ b9 fX)) ?_;rintro _ iR ⟨c8,rfl⟩;have fM:=fL.ext c8;refine wG aD (fun st=>Cd (eR st))<|wD (fun st=>AO (v:=.bool !b9) (eR st) aD (eR st))<|wM (v:=.bool !b9) rfl ?_;rcases Af (!b9) with aE|aE
         ·replace a:=AD a aE;have hJ:b9=false:=by simpa using aE
          refine wF aE<|wF aE<|wF aE<|wF aE<|wD (fun st=>AH (v:=.bool true) (eR st) aE (eR st))<|wM (v:=.bool true) rfl<|wH<|wH<|wH<|wH<|wH<|wD (fun st=>AH (v:=.bool true) (eR st) rfl (eR st))<|wn<|Aw rfl rfl<|cr<|wA (v:=I 1) rfl<|wn<|Ap<|AZ ?_;obtain rfl:=oi a;refine AA rfl rfl ?_;exact⟨fM.Bl,rfl⟩
         ·replace a:=AE a aE;have hL:b9=true:=by simpa using aE
          refine wG aE (fun st=>Ac (eR st) (RK _ _)) ?_;have dX:=(dW.ext c8);refine wG aE (fun st=>Ag (v:=I b.Trod) AV (eR st) dX rfl) ?_;replace a:=bind_some a;obtain⟨cA,fY,a⟩:=a;refine wX aE (fun st=>Ar G0 (eR st) (EV (eR st) (eR st) (eR st)) (JU aQ b.Trod 0 100 ZA _ cA fY)) ?_;rintro _ iS ⟨c9,rfl⟩;have fN:=fM.ext c9;refine wG aE (fun st=>Cd (eR st))<|wD (fun st=>AO (v:=.bool !cA) (eR st) aE (eR st))<|wM (v:=.bool !cA) rfl ?_;rcases Af (!cA) with z|z
          ·replace a:=AD a z;have hM:cA=false:=by simpa using z
           refine wF z<|wF z<|wF z<|wF z<|wF z<|wD (fun st=>AH (v:=.bool true) (eR st) z (eR st))<|wn<|Aw rfl rfl<|cr<|wA (v:=I 1) rfl<|wn<|Ap<|AZ ?_;obtain rfl:=oi a;refine AA rfl rfl ?_;exact⟨fN.Bl,rfl⟩
          ·replace a:=AE a z;have hN:cA=true:=by simpa using z
           have cH:=(dX.ext c9);refine wG z (fun st=>AU (l:=(Av n o p q e f r s g i b)) Hr (eR st) cH rfl rfl)<|wG z (fun st=>Ac (eR st) (MX _ _))<|wG z (fun st=>Ag (v:=.slice r b.Bx.length s) BY (eR st) cH rfl) ?_;have ⟨cB,cC,cD,bD,cE⟩:=C2 d5 d6 d7 d8 d9 (mt (Ai aP) (mt (Ab c7) (mt (Ab c8) (Ab c9))));replace a:=bind_some a;obtain⟨cO,fZ,a⟩:=a;refine wX z (fun st=>Ar XP (eR st) (Dn (eR st) (eR st)) (a24 aQ b b.Bx n o p q e f r s g i r s ZA _ cB.all cC.all cD.all bD.all cE.all bD.all cO fZ)) ?_;rintro _ iT ⟨dA,rfl⟩;have fO:=fN.ext dA;refine wG z (fun st=>Cd (eR st))<|wD (fun st=>AO (v:=.bool !cO) (eR st) z (eR st))<|wn ?_;rcases Af (!cO) with a9|a9
           ·replace a:=AD a a9;have hO:cO=false:=by simpa using a9
            refine Aw rfl a9<|cr<|wA (v:=I 1) rfl<|wn<|Ap<|AZ ?_;obtain rfl:=oi a;refine AA rfl rfl ?_;exact⟨fO.Bl,rfl⟩
           ·replace a:=AE a a9;have hP:cO=true:=by simpa using a9
            refine AI rfl a9<|cn<|Ah<|cr<|wA (v:=I 0) rfl<|wn<|AX ?_;replace a:=bind_some a;obtain⟨z31,bE,a⟩:=a;refine Co (fun bV x j=>(bV=.ret∧∃bF,z31=.inl bF∧Fo X0 157 x∧sl x 2=I bF∧Hp FN [] w [some y] j)∨(bV=.exit 0∧∃bF,z31=.inr bF∧Fo X0 157 x∧sl x 1=pt y 0∧Hp FN [] w [some y] j∧Bk j y 26 (Av n o p q e f r s g i b).toArray∧(fun aA=>Sl AS j aA n o b.Ad∧Sl (Ae .i64) j aA p q b.Am∧Sl (Ae .i64) j aA e f b.AN∧Sl (Ae .i64) j aA r s b.Bx∧Sl Bd j aA g i b.Looks) (zf Z w [some y]))) ?f0 ?f1
            case f0=>
             clear a;refine Cn (fun bU x j=>∃aM,Dt aQ b bU aM=some z31∧Fo X0 157 x∧sl x 1=pt y 0∧sl x 3=I aM∧Hp FN [] w [some y] j∧Bk j y 26 (Av n o p q e f r s g i b).toArray∧(fun aA=>Sl AS j aA n o b.Ad∧Sl (Ae .i64) j aA p q b.Am∧Sl (Ae .i64) j aA e f b.AN∧Sl (Ae .i64) j aA r s b.Bx∧Sl Bd j aA g i b.Looks) (zf Z w [some y])) aQ ?f2 ?f3
             case f2=>
              intro st;have fF:=(cH.ext dA);have ⟨eA,eB,eC,eD,eE⟩:=C2 cB cC cD bD cE (Ab dA);exact⟨(0:Int),bE,qo st,sp st 1 rfl,sp st 3 rfl,fO,fF,eA,eB,eC,eD,eE⟩
             case f3=>
              rintro(_|bU) iF iG ⟨aM,bE,fG,aV,bC,fP,a5,aW,bM,bN,bO,bP⟩
              ·exact absurd (show none=some _ from bE) (by simp)
              rw[Dt.eq_2] at bE;have a:=bE;clear bE;refine ro fG<|Ah<|cr<|wM (v:=I aM) bC<|wD (fun st=>Ac (ee st aV) (Hz _ _))<|wD (fun st=>Ag (v:=I b.Ao) AV (eR st) a5 rfl)<|wD (fun st=>ET (eR st) (eR st))<|wn ?_;rcases Af (decide (aM≤b.Ao)) with bW|bW
              ·replace a:=AD a bW;refine Aw rfl bW<|cn<|Ah<|AX<|cr<|wD (fun st=>Ac (ee st aV) (IL _ _))<|wD (fun st=>Ag (v:=.slice n b.Ad.length o) Jh (eR st) a5 rfl)<|wM (v:=I aM) bC ?_;replace a:=Bn a;obtain⟨i33,eV,f4,f5,f6,a⟩:=a;obtain⟨iU,iV,_,f7,rfl,f8⟩:=Sl.elem aW (by decide) f5;refine wD (fun st=>B9 (k:=i33) Tryz.underlying22 N6 (eR st) f7 (eR st) f4 f6)<|wD (fun st=>CN (l:=[I eV.Lo,I eV.Hi]) JO (eR st) f8 rfl rfl) ?_;replace a:=bind_some a;obtain⟨cP,f9,a⟩:=a;refine wE (fun st=>Ar Tq (eR st) (EV (eR st) (eR st) (eR st)) (a25 aQ eV 0 50 ZA _ cP f9)) ?_;rintro _ iW ⟨bX,rfl⟩;have fQ:=fP.ext bX;refine wD (fun st=>Cd (eR st))<|wM (v:=.bool !cP) rfl ?_;rcases Af (!cP) with t|t
               ·replace a:=AD a t;have hQ:cP=false:=by simpa using t
                refine wF t<|wF t<|wF t<|wF t<|wF t<|wF t<|wF t<|wD (fun st=>AH (v:=.bool true) (eR st) t (eR st))<|wn<|Aw rfl rfl<|cr<|wA (v:=I 1) rfl<|wn<|Ap<|Ee<|AZ ?_;obtain rfl:=oi a;refine Cj (fun st=>?_);exact .inl ⟨rfl,(1:Int),rfl,qo st,sp st 2 rfl,fQ⟩
               ·replace a:=AE a t;have hR:cP=true:=by simpa using t
                refine wG t (fun st=>Ac (ee st aV) (Kd _ _)) ?_;have dY:=(a5.ext bX);refine wG t (fun st=>Ag (v:=.slice p b.Am.length q) BY (eR st) dY rfl)<|wG t (fun st=>Ay (v:=I aM) (ee st bC)) ?_;replace a:=Bn a;obtain⟨i39,fR,gA,gB,gC,a⟩:=a;have cF:=(bM.mv (Ab bX));obtain⟨iX,iY,_,gD,rfl,gE⟩:=Sl.C4 cF rfl gB;refine wG t (fun st=>Bu (k:=i39) Tryz.underlying23 CG (eR st) gD (eR st) gA gC)<|wG t (fun st=>BJ (v:=I fR) AV (eR st) gE rfl) ?_;replace a:=bind_some a;obtain⟨cQ,gF,a⟩:=a;refine wX t (fun st=>Ar G0 (eR st) (EV (eR st) (eR st) (eR st)) (JU aQ fR 0 2 ZA _ cQ gF)) ?_;rintro _ iZ ⟨bY,rfl⟩;have fS:=fQ.ext bY;refine wG t (fun st=>Cd (eR st))<|wD (fun st=>AO (v:=.bool !cQ) (eR st) t (eR st))<|wn ?_;rcases Af (!cQ) with bA|bA
                ·replace a:=AD a bA;have hS:cQ=false:=by simpa using bA
                 refine Aw rfl bA<|cr<|wA (v:=I 1) rfl<|wn<|Ap<|Ee<|AZ ?_;obtain rfl:=oi a;refine Cj (fun st=>?_);exact .inl ⟨rfl,(1:Int),rfl,qo st,sp st 2 rfl,fS⟩
                ·replace a:=AE a bA;have hT:cQ=true:=by simpa using bA
                 refine AI rfl bA<|B5<|Ef<|Aj<|wM (v:=I aM) bC ?_;replace a:=AT a;obtain⟨gG,a⟩:=a;refine wD (fun st=>BV (eR st) (eR st) gG)<|wA (v:=I (aM+1)) rfl<|AJ ?_;have fH:=(dY.ext bY);have eF:=((aW.mv (Ab bX)).mv (Ab bY));have eG:=(cF.mv (Ab bY));have ⟨eH,eI,eJ⟩:=Mi bN bO bP (mt (Ab bX) (Ab bY));refine BN bU (Nat.lt_succ_self _) (fun st=>?_);exact⟨(aM+1),a,qo st,sp st 1 aV,sp st 3 rfl,fS,fH,eF,eG,eH,eI,eJ⟩
              ·replace a:=AE a bW;refine AI rfl bW<|FF ?_;obtain rfl:=oi a;refine Cj (fun st=>?_);exact .inr ⟨rfl,(),rfl,qo st,sp st 1 aV,fP,a5,aW,bM,bN,bO,bP⟩
            case f1=>
             rintro bV iC iH (⟨rfl,bF,rfl,bZ,eK,cI⟩|⟨rfl,bF,rfl,bZ,eM,cI,eN,cR,cS,cT,cU,cV⟩)
             ·skip
              replace a:=EW a;refine lf bZ<|Ee ?_;obtain rfl:=oi a;refine AA rfl eK ?_;exact⟨cI.Bl,rfl⟩
             ·skip
              replace a:=EX a;refine lf bZ<|BE<|AL<|Ah<|cr<|wA (v:=I 0) rfl<|wn<|AX ?_;replace a:=bind_some a;obtain⟨z46,bG,a⟩:=a;refine Co (fun bV x j=>(bV=.ret∧∃bH,z46=.inl bH∧Fo X0 157 x∧sl x 2=I bH∧Hp FN [] w [some y] j)∨(bV=.exit 2∧∃bH,z46=.inr bH∧Fo X0 157 x∧sl x 1=pt y 0∧Hp FN [] w [some y] j∧Bk j y 26 (Av n o p q e f r s g i b).toArray∧(fun aA=>Sl AS j aA n o b.Ad∧Sl (Ae .i64) j aA p q b.Am∧Sl (Ae .i64) j aA e f b.AN∧Sl (Ae .i64) j aA r s b.Bx∧Sl Bd j aA g i b.Looks) (zf Z w [some y]))) ?gH ?gI
              case gH=>
               clear a;refine Cn (fun bU x j=>∃c,C5 aQ b bU c=some z46∧Fo X0 157 x∧sl x 1=pt y 0∧sl x 4=I c∧Hp FN [] w [some y] j∧Bk j y 26 (Av n o p q e f r s g i b).toArray∧(fun aA=>Sl AS j aA n o b.Ad∧Sl (Ae .i64) j aA p q b.Am∧Sl (Ae .i64) j aA e f b.AN∧Sl (Ae .i64) j aA r s b.Bx∧Sl Bd j aA g i b.Looks) (zf Z w [some y])) aQ ?gJ ?gK
               case gJ=>
                intro st;exact⟨(0:Int),bG,qo st,sp st 1 eM,sp st 4 rfl,cI,eN,cR,cS,cT,cU,cV⟩
               case gK=>
                rintro(_|bU) iI iJ ⟨c,bG,fI,aJ,aC,cJ,aB,aX,aY,aF,aZ,a0⟩
                ·exact absurd (show none=some _ from bG) (by simp)
                rw[C5.eq_2] at bG;have a:=bG;clear bG;refine ro fI<|Ah<|cr<|wM (v:=I c) aC<|wD (fun st=>Ac (ee st aJ) (HA _ _))<|wD (fun st=>Ag (v:=.slice e b.AN.length f) BY (eR st) aB rfl)<|wD (fun st=>BM Tryz.underlying23 (eR st))<|wD (fun st=>C3 (eR st) (eR st))<|wn ?_;rcases Af (decide (c<(b.AN.length:Int))) with b1|b1
                ·replace a:=AD a b1;refine Aw rfl b1<|cn<|Ah<|AX<|Ah ?_;replace a:=Bn a;obtain⟨i49,cG,dB,gL,dC,a⟩:=a;obtain⟨eW,eX,_,dD,rfl,dE⟩:=Sl.C4 aF rfl gL;replace a:=bind_some a;obtain⟨aO,dF,a⟩:=a;rcases Af (!aO) with u|u
                 ·replace a:=AD a u;have hU:aO=false:=by simpa using u
                  refine B1 22 [Kc (pt y 3),Kc (.slice e b.AN.length f),Kc (I c),Kc (pt eW (eX+i49)),Kc (I cG),Kc (.bool aO),Kc (.bool !aO),Kc (.bool !aO),Kc undef,Kc undef,Kc undef,Kc undef,Kc undef,Kc undef,Kc undef,Kc undef,Kc undef,Kc undef,Kc undef,Kc undef,Kc undef,Kc undef] mixed rfl rfl
                      (Aa (oD (fun K=>Ac (es ((K.out 1 rfl).trans aJ)) (HA _ _)))
                      (Aa (oD (fun K=>Ag BY (es (K.dq 0 102)) (aB.ext K.Al) rfl))
                      (Aa (oD (fun K=>Ay (es ((K.out 4 rfl).trans aC))))
                      (Aa (oD (fun K=>Bu (k:=i49) Tryz.underlying23 CG (es (K.dq 1 103)) dD (es (K.dq 2 104)) dB dC))
                      (Aa (oD (fun K=>BJ AV (es (K.dq 3 105)) (dE.mv (Ab K.Al)) rfl))
                      (Aa (oE (fun K=>(Ar G0 (rfl:Act.eval _ (.func 15)=_) (EV (es (K.dq 4 106)) (ec (v:=I 0)) (ec (v:=I 200))) (JU aQ cG 0 200 ZA _ aO dF)).mono (fun _ _ h=>⟨h.2,h.1⟩)))
                      (Aa (oD (fun K=>Cd (es (K.dq 5 107))))
                      (Aa (oD (fun K=>Ay (es (K.dq 6 108))))
                      (Aa (oT u)
                      (Aa (oT u)
                      (Aa (oT u)
                      (Aa (oU)
                      (Aa (oU)
                      (Aa (oU)
                      (Aa (oU)
                      (Aa (oU)
                      (Aa (oU)
                      (Aa (oU)
                      (Aa (oU)
                      (Aa (oU)
                      (Aa (oU)
                      (Aa (oU)
                      (BH _))))))))))))))))))))))) ?_
                  intro fT;rintro _ rfl _ rfl _ rfl _ rfl _ rfl _ rfl _ rfl _ rfl _ rfl _ rfl _ rfl _ rfl _ rfl _ rfl _ rfl _ rfl _ rfl _ rfl _ rfl _ rfl _ rfl _ rfl aU;have gM:=cJ.ext aU;refine DA rfl rfl rfl rfl (by decide)<|wF u<|wD (fun st=>AH (v:=.bool true) (eR st) u (eR st))<|wn<|Aw rfl rfl<|cr<|wA (v:=I 1) rfl<|wn<|Ap<|Ee<|AZ ?_;obtain rfl:=oi a;refine Cj (fun st=>?_);exact .inl ⟨rfl,(1:Int),rfl,qo st,sp st 2 rfl,gM⟩
                 ·replace a:=AE a u;have hV:aO=true:=by simpa using u
                  rcases Af (decide ((0:Int)<c)) with d|d
                  ·replace a:=AD a d;replace a:=Bn a;obtain⟨i55,dZ,gN,gO,gP,a⟩:=a;obtain⟨h5,h6,_,gQ,rfl,gR⟩:=Sl.C4 aF rfl gO;replace a:=AT a;obtain⟨gS,a⟩:=a;replace a:=Bn a;obtain⟨i57,d0,gT,gU,gV,a⟩:=a;obtain⟨h7,h8,_,gW,rfl,gX⟩:=Sl.C4 aF rfl gU;refine B1 22 [Kc (pt y 3),Kc (.slice e b.AN.length f),Kc (I c),Kc (pt eW (eX+i49)),Kc (I cG),Kc (.bool aO),Kc (.bool !aO),Kc (.bool !aO),Kc (I c),Kc (.bool (decide ((0:Int)<c))),Kc (.bool (decide ((0:Int)<c))),Kc (pt y 3),Kc (.slice e b.AN.length f),Kc (I c),Kc (pt h5 (h6+i55)),Kc (I dZ),Kc (pt y 3),Kc (.slice e b.AN.length f),Kc (I c),Kc (I (c-1)),Kc (pt h7 (h8+i57)),Kc (I d0)] mixed rfl rfl
                       (Aa (oD (fun K=>Ac (es ((K.out 1 rfl).trans aJ)) (HA _ _)))
                       (Aa (oD (fun K=>Ag BY (es (K.dq 0 102)) (aB.ext K.Al) rfl))
                       (Aa (oD (fun K=>Ay (es ((K.out 4 rfl).trans aC))))
                       (Aa (oD (fun K=>Bu (k:=i49) Tryz.underlying23 CG (es (K.dq 1 103)) dD (es (K.dq 2 104)) dB dC))
                       (Aa (oD (fun K=>BJ AV (es (K.dq 3 105)) (dE.mv (Ab K.Al)) rfl))
                       (Aa (oE (fun K=>(Ar G0 (rfl:Act.eval _ (.func 15)=_) (EV (es (K.dq 4 106)) (ec (v:=I 0)) (ec (v:=I 200))) (JU aQ cG 0 200 ZA _ aO dF)).mono (fun _ _ h=>⟨h.2,h.1⟩)))
                       (Aa (oD (fun K=>Cd (es (K.dq 5 107))))
                       (Aa (oD (fun K=>Ay (es (K.dq 6 108))))
                       (Aa (oG u (fun K=>Ay (es ((K.out 4 rfl).trans aC))))
                       (Aa (oG u (fun K=>F9 (es (K.dq 8 110)) (ec (v:=I 0))))
                       (Aa (oG u (fun K=>Ay (es (K.dq 9 111))))
                       (Aa (oG d (fun K=>Ac (es ((K.out 1 rfl).trans aJ)) (HA _ _)))
                       (Aa (oG d (fun K=>Ag BY (es (K.dq 11 113)) (aB.ext K.Al) rfl))
                       (Aa (oG d (fun K=>Ay (es ((K.out 4 rfl).trans aC))))
                       (Aa (oG d (fun K=>Bu (k:=i55) Tryz.underlying23 CG (es (K.dq 12 114)) gQ (es (K.dq 13 115)) gN gP))
                       (Aa (oG d (fun K=>BJ AV (es (K.dq 14 116)) (gR.mv (Ab K.Al)) rfl))
                       (Aa (oG d (fun K=>Ac (es ((K.out 1 rfl).trans aJ)) (HA _ _)))
                       (Aa (oG d (fun K=>Ag BY (es (K.dq 16 118)) (aB.ext K.Al) rfl))
                       (Aa (oG d (fun K=>Ay (es ((K.out 4 rfl).trans aC))))
                       (Aa (oG d (fun K=>HR (es (K.dq 18 120)) (ec (v:=I 1)) gS))
                       (Aa (oG d (fun K=>Bu (k:=i57) Tryz.underlying23 CG (es (K.dq 17 119)) gW (es (K.dq 19 121)) gT gV))
                       (Aa (oG d (fun K=>BJ AV (es (K.dq 20 122)) (gX.mv (Ab K.Al)) rfl))
                       (BH _))))))))))))))))))))))) ?_
                   intro fT;rintro _ rfl _ rfl _ rfl _ rfl _ rfl _ rfl _ rfl _ rfl _ rfl _ rfl _ rfl _ rfl _ rfl _ rfl _ rfl _ rfl _ rfl _ rfl _ rfl _ rfl _ rfl _ rfl aU;have eY:=cJ.ext aU;refine wG d (fun st=>F9 (eR st) (eR st))<|wG u (fun st=>AH (v:=.bool (decide (d0<dZ))) (eR st) d (eR st))<|wD (fun st=>AO (v:=.bool (decide (d0<dZ))) (eR st) u (eR st))<|wn ?_;rcases Af (decide (d0<dZ)) with b2|b2
                   ·replace a:=AD a b2;refine Aw rfl b2<|cr<|wA (v:=I 1) rfl<|wn<|Ap<|Ee<|AZ ?_;obtain rfl:=oi a;refine Cj (fun st=>?_);exact .inl ⟨rfl,(1:Int),rfl,qo st,sp st 2 rfl,eY⟩
                   ·replace a:=AE a b2;refine AI rfl b2<|B5<|Ef<|Aj<|wM (v:=I c) aC ?_;replace a:=AT a;obtain⟨gY,a⟩:=a;refine wD (fun st=>BV (eR st) (eR st) gY)<|wA (v:=I (c+1)) rfl<|AJ ?_;have eZ:=(aB.ext aU);have ⟨dG,dH,dI,dJ,dK⟩:=C2 aX aY aF aZ a0 (Ab aU);refine BN bU (Nat.lt_succ_self _) (fun st=>?_);exact⟨(c+1),a,qo st,sp st 1 aJ,sp st 4 rfl,eY,eZ,dG,dH,dI,dJ,dK⟩
                  ·replace a:=AE a d;refine B1 22 [Kc (pt y 3),Kc (.slice e b.AN.length f),Kc (I c),Kc (pt eW (eX+i49)),Kc (I cG),Kc (.bool aO),Kc (.bool !aO),Kc (.bool !aO),Kc (I c),Kc (.bool (decide ((0:Int)<c))),Kc (.bool (decide ((0:Int)<c))),Kc undef,Kc undef,Kc undef,Kc undef,Kc undef,Kc undef,Kc undef,Kc undef,Kc undef,Kc undef,Kc undef] mixed rfl rfl
                       (Aa (oD (fun K=>Ac (es ((K.out 1 rfl).trans aJ)) (HA _ _)))
                       (Aa (oD (fun K=>Ag BY (es (K.dq 0 102)) (aB.ext K.Al) rfl))
                       (Aa (oD (fun K=>Ay (es ((K.out 4 rfl).trans aC))))
                       (Aa (oD (fun K=>Bu (k:=i49) Tryz.underlying23 CG (es (K.dq 1 103)) dD (es (K.dq 2 104)) dB dC))
                       (Aa (oD (fun K=>BJ AV (es (K.dq 3 105)) (dE.mv (Ab K.Al)) rfl))
                       (Aa (oE (fun K=>(Ar G0 (rfl:Act.eval _ (.func 15)=_) (EV (es (K.dq 4 106)) (ec (v:=I 0)) (ec (v:=I 200))) (JU aQ cG 0 200 ZA _ aO dF)).mono (fun _ _ h=>⟨h.2,h.1⟩)))
                       (Aa (oD (fun K=>Cd (es (K.dq 5 107))))
                       (Aa (oD (fun K=>Ay (es (K.dq 6 108))))
                       (Aa (oG u (fun K=>Ay (es ((K.out 4 rfl).trans aC))))
                       (Aa (oG u (fun K=>F9 (es (K.dq 8 110)) (ec (v:=I 0))))
                       (Aa (oG u (fun K=>Ay (es (K.dq 9 111))))
                       (Aa (oT d)
                       (Aa (oT d)
                       (Aa (oT d)
                       (Aa (oT d)
                       (Aa (oT d)
                       (Aa (oT d)
                       (Aa (oT d)
                       (Aa (oT d)
                       (Aa (oT d)
                       (Aa (oT d)
                       (Aa (oT d)
                       (BH _))))))))))))))))))))))) ?_
                   intro fT;rintro _ rfl _ rfl _ rfl _ rfl _ rfl _ rfl _ rfl _ rfl _ rfl _ rfl _ rfl _ rfl _ rfl _ rfl _ rfl _ rfl _ rfl _ rfl _ rfl _ rfl _ rfl _ rfl aU;have gZ:=cJ.ext aU;refine wF d<|wG u (fun st=>AO (v:=.bool false) (eR st) d (eR st))<|wD (fun st=>AO (v:=.bool false) (eR st) u (eR st))<|wn<|AI rfl rfl<|B5<|Ef<|Aj<|wM (v:=I c) aC ?_;replace a:=AT a;obtain⟨g0,a⟩:=a;refine wD (fun st=>BV (eR st) (eR st) g0)<|wA (v:=I (c+1)) rfl<|AJ ?_;have e0:=(aB.ext aU);have ⟨dL,dM,dN,dO,dP⟩:=C2 aX aY aF aZ a0 (Ab aU);refine BN bU (Nat.lt_succ_self _) (fun st=>?_);exact⟨(c+1),a,qo st,sp st 1 aJ,sp st 4 rfl,gZ,e0,dL,dM,dN,dO,dP⟩
                ·replace a:=AE a b1;refine AI rfl b1<|FF ?_;obtain rfl:=oi a;refine Cj (fun st=>?_);exact .inr ⟨rfl,(),rfl,qo st,sp st 1 aJ,cJ,aB,aX,aY,aF,aZ,a0⟩
              case gI=>
               rintro bV iD iK (⟨rfl,bH,rfl,b3,eO,cK⟩|⟨rfl,bH,rfl,b3,eP,cK,eQ,cW,cX,cY,cZ,c0⟩)
               ·skip
                replace a:=EW a;refine lf b3<|Ee ?_;obtain rfl:=oi a;refine AA rfl eO ?_;exact⟨cK.Bl,rfl⟩
               ·skip
                replace a:=EX a;refine lf b3<|BE<|AL<|Ah<|cr<|wA (v:=I 0) rfl<|wn<|AX ?_;replace a:=bind_some a;obtain⟨e1,bI,a⟩:=a;refine Co (fun bV x j=>(bV=.ret∧∃bJ,e1=.inl bJ∧Fo X0 157 x∧sl x 2=I bJ∧Hp FN [] w [some y] j)∨(bV=.exit 4∧∃bJ,e1=.inr bJ∧Fo X0 157 x∧sl x 1=pt y 0∧Hp FN [] w [some y] j∧Bk j y 26 (Av n o p q e f r s g i b).toArray∧(fun aA=>Sl AS j aA n o b.Ad∧Sl (Ae .i64) j aA p q b.Am∧Sl (Ae .i64) j aA e f b.AN∧Sl (Ae .i64) j aA r s b.Bx∧Sl Bd j aA g i b.Looks) (zf Z w [some y]))) ?g1 ?g2
                case g1=>
                 clear a;refine Cn (fun bU x j=>∃aK,CE aQ b bU aK=some e1∧Fo X0 157 x∧sl x 1=pt y 0∧sl x 5=I aK∧Hp FN [] w [some y] j∧Bk j y 26 (Av n o p q e f r s g i b).toArray∧(fun aA=>Sl AS j aA n o b.Ad∧Sl (Ae .i64) j aA p q b.Am∧Sl (Ae .i64) j aA e f b.AN∧Sl (Ae .i64) j aA r s b.Bx∧Sl Bd j aA g i b.Looks) (zf Z w [some y])) aQ ?g3 ?g4
                 case g3=>
                  intro st;exact⟨(0:Int),bI,qo st,sp st 1 eP,sp st 5 rfl,cK,eQ,cW,cX,cY,cZ,c0⟩
                 case g4=>
                  rintro(_|bU) iL iM ⟨aK,bI,fJ,aN,a2,dQ,aG,bQ,bR,bS,bT,a3⟩
                  ·exact absurd (show none=some _ from bI) (by simp)
                  rw[CE.eq_2] at bI;have a:=bI;clear bI;refine ro fJ<|Ah<|cr<|wM (v:=I aK) a2<|wD (fun st=>Ac (ee st aN) (HB _ _))<|wD (fun st=>Ag (v:=.slice g b.Looks.length i) Im (eR st) aG rfl)<|wD (fun st=>BM Tryz.underlying24 (eR st))<|wD (fun st=>C3 (eR st) (eR st))<|wn ?_;rcases Af (decide (aK<(b.Looks.length:Int))) with b4|b4
                  ·replace a:=AD a b4;refine Aw rfl b4<|cn<|Ah<|AX<|Ah ?_;replace a:=Bn a;obtain⟨i64,d1,e2,g5,e3,a⟩:=a;obtain⟨d2,d3,_,e4,rfl,e5⟩:=Sl.elem a3 (by decide) g5;replace a:=bind_some a;obtain⟨a4,e6,a⟩:=a;rcases Af (!a4) with m|m
                   ·replace a:=AD a m;have hW:a4=false:=by simpa using m
                    refine B1 14 [Kc (pt y 8),Kc (.slice g b.Looks.length i),Kc (I aK),Kc (pt d2 (d3+i64*3)),Kc (pt d2 (d3+i64*3)),Kc (I d1.Week),Kc (pt y 0),Kc (I b.Ao),Kc (.bool a4),Kc (.bool !a4),Kc (.bool !a4),Kc undef,Kc undef,Kc undef] mixed rfl rfl
                        (Aa (oD (fun K=>Ac (es ((K.out 1 rfl).trans aN)) (HB _ _)))
                        (Aa (oD (fun K=>Ag Im (es (K.dq 0 134)) (aG.ext K.Al) rfl))
                        (Aa (oD (fun K=>Ay (es ((K.out 5 rfl).trans a2))))
                        (Aa (oD (fun K=>B9 (k:=i64) Tryz.underlying24 MY (es (K.dq 1 135)) e4 (es (K.dq 2 136)) e2 e3))
                        (Aa (oD (fun K=>Ac (es (K.dq 3 137)) (OL _ _ _)))
                        (Aa (oD (fun K=>BJ AV (es (K.dq 4 138)) (e5.mv (Ab K.Al)) rfl))
                        (Aa (oD (fun K=>Ac (es ((K.out 1 rfl).trans aN)) (Hz _ _)))
                        (Aa (oD (fun K=>Ag AV (es (K.dq 6 140)) (aG.ext K.Al) rfl))
                        (Aa (oE (fun K=>(Ar G0 (rfl:Act.eval _ (.func 15)=_) (EV (es (K.dq 5 139)) (ec (v:=I 0)) (es (K.dq 7 141))) (JU aQ d1.Week 0 b.Ao ZA _ a4 e6)).mono (fun _ _ h=>⟨h.2,h.1⟩)))
                        (Aa (oD (fun K=>Cd (es (K.dq 8 142))))
                        (Aa (oD (fun K=>Ay (es (K.dq 9 143))))
                        (Aa (oT m)
                        (Aa (oT m)
                        (Aa (oT m)
                        (BH _))))))))))))))) ?_
                    intro iA;rintro _ rfl _ rfl _ rfl _ rfl _ rfl _ rfl _ rfl _ rfl _ rfl _ rfl _ rfl _ rfl _ rfl _ rfl bK;have g6:=dQ.ext bK;refine wF m<|wF m<|wF m<|wF m<|wF m<|wD (fun st=>AH (v:=.bool true) (eR st) m (eR st))<|wn<|Aw rfl rfl<|cr<|wA (v:=I 1) rfl<|wn<|Ap<|Ee<|AZ ?_;obtain rfl:=oi a;refine Cj (fun st=>?_);exact .inl ⟨rfl,(1:Int),rfl,qo st,sp st 2 rfl,g6⟩
                   ·replace a:=AE a m;have hX:a4=true:=by simpa using m
                    refine B1 14 [Kc (pt y 8),Kc (.slice g b.Looks.length i),Kc (I aK),Kc (pt d2 (d3+i64*3)),Kc (pt d2 (d3+i64*3)),Kc (I d1.Week),Kc (pt y 0),Kc (I b.Ao),Kc (.bool a4),Kc (.bool !a4),Kc (.bool !a4),Kc (pt y 8),Kc (.slice g b.Looks.length i),Kc (I aK)] mixed rfl rfl
                        (Aa (oD (fun K=>Ac (es ((K.out 1 rfl).trans aN)) (HB _ _)))
                        (Aa (oD (fun K=>Ag Im (es (K.dq 0 134)) (aG.ext K.Al) rfl))
                        (Aa (oD (fun K=>Ay (es ((K.out 5 rfl).trans a2))))
                        (Aa (oD (fun K=>B9 (k:=i64) Tryz.underlying24 MY (es (K.dq 1 135)) e4 (es (K.dq 2 136)) e2 e3))
                        (Aa (oD (fun K=>Ac (es (K.dq 3 137)) (OL _ _ _)))
                        (Aa (oD (fun K=>BJ AV (es (K.dq 4 138)) (e5.mv (Ab K.Al)) rfl))
                        (Aa (oD (fun K=>Ac (es ((K.out 1 rfl).trans aN)) (Hz _ _)))
                        (Aa (oD (fun K=>Ag AV (es (K.dq 6 140)) (aG.ext K.Al) rfl))
                        (Aa (oE (fun K=>(Ar G0 (rfl:Act.eval _ (.func 15)=_) (EV (es (K.dq 5 139)) (ec (v:=I 0)) (es (K.dq 7 141))) (JU aQ d1.Week 0 b.Ao ZA _ a4 e6)).mono (fun _ _ h=>⟨h.2,h.1⟩)))
                        (Aa (oD (fun K=>Cd (es (K.dq 8 142))))
                        (Aa (oD (fun K=>Ay (es (K.dq 9 143))))
                        (Aa (oG m (fun K=>Ac (es ((K.out 1 rfl).trans aN)) (HB _ _)))
                        (Aa (oG m (fun K=>Ag Im (es (K.dq 11 145)) (aG.ext K.Al) rfl))
                        (Aa (oG m (fun K=>Ay (es ((K.out 5 rfl).trans a2))))
                        (BH _))))))))))))))) ?_
                    intro iA;rintro _ rfl _ rfl _ rfl _ rfl _ rfl _ rfl _ rfl _ rfl _ rfl _ rfl _ rfl _ rfl _ rfl _ rfl bK;have g7:=dQ.ext bK;replace a:=Bn a;obtain⟨i69,d4,g8,g9,hA,a⟩:=a;have b5:=(a3.mv (Ab bK));obtain⟨i0,i1,_,hB,rfl,hC⟩:=Sl.elem b5 (by decide) g9;refine wG m (fun st=>B9 (k:=i69) Tryz.underlying24 MY (eR st) hB (eR st) g8 hA)<|wG m (fun st=>Ac (eR st) (RL _ _ _))<|wG m (fun st=>OS (l:=[I d4.Bo,I d4.Bq]) JO (eR st) hC rfl rfl) ?_;replace a:=bind_some a;obtain⟨c1,hD,a⟩:=a;refine wX m (fun st=>Ar Tq (eR st) (EV (eR st) (eR st) (eR st)) (a25 aQ (⟨d4.Bo,d4.Bq⟩:AR) 0 1000 ZA _ c1 hD)) ?_;rintro _ i2 ⟨cL,rfl⟩;have e7:=g7.ext cL;refine wG m (fun st=>Cd (eR st))<|wD (fun st=>AO (v:=.bool !c1) (eR st) m (eR st))<|wn ?_;rcases Af (!c1) with bB|bB
                    ·replace a:=AD a bB;have hY:c1=false:=by simpa using bB
                     refine Aw rfl bB<|cr<|wA (v:=I 1) rfl<|wn<|Ap<|Ee<|AZ ?_;obtain rfl:=oi a;refine Cj (fun st=>?_);exact .inl ⟨rfl,(1:Int),rfl,qo st,sp st 2 rfl,e7⟩
                    ·replace a:=AE a bB;have hZ:c1=true:=by simpa using bB
                     refine AI rfl bB<|B5<|Ef<|Aj<|wM (v:=I aK) a2 ?_;replace a:=AT a;obtain⟨hE,a⟩:=a;refine wD (fun st=>BV (eR st) (eR st) hE)<|wA (v:=I (aK+1)) rfl<|AJ ?_;have e8:=((aG.ext bK).ext cL);have ⟨dR,dS,dT,dU⟩:=W4 bQ bR bS bT (mt (Ab bK) (Ab cL));have dV:=(b5.mv (Ab cL));refine BN bU (Nat.lt_succ_self _) (fun st=>?_);exact⟨(aK+1),a,qo st,sp st 1 aN,sp st 5 rfl,e7,e8,dR,dS,dT,dU,dV⟩
                  ·replace a:=AE a b4;refine AI rfl b4<|FF ?_;obtain rfl:=oi a;refine Cj (fun st=>?_);exact .inr ⟨rfl,(),rfl,qo st,sp st 1 aN,dQ,aG,bQ,bR,bS,bT,a3⟩
                case g2=>
                 rintro bV iE iN (⟨rfl,bJ,rfl,b6,eS,cM⟩|⟨rfl,bJ,rfl,b6,eT,cM,eU,c2,c3,c4,c5,c6⟩)
                 ·skip
                  replace a:=EW a;refine lf b6<|Ee ?_;obtain rfl:=oi a;refine AA rfl eS ?_;exact⟨cM.Bl,rfl⟩
                 ·skip
                  replace a:=EX a;refine lf b6<|BE<|AL<|Ah<|cr<|wD (fun st=>AU (l:=(Av n o p q e f r s g i b)) Hr (ee st eT) eU rfl rfl) ?_;replace a:=bind_some a;obtain⟨fU,hF,a⟩:=a;refine wE (fun st=>Ar QJ (eR st) (Cf (eR st)) (a23 aQ b n o p q e f r s g i ZA _ c2.all c3.all c4.all c5.all c6.all fU hF)) ?_;rintro _ i3 ⟨hG,rfl⟩;have e9:=cM.ext hG;refine wD (fun st=>F9 (eR st) (eR st))<|wn ?_;rcases Af (decide ((2000:Int)<fU)) with b7|b7
                  ·replace a:=AD a b7;refine Aw rfl b7<|cr<|wA (v:=I 3) rfl<|wn<|Ap<|AZ ?_;obtain rfl:=oi a;refine AA rfl rfl ?_;exact⟨e9.Bl,rfl⟩
                  ·replace a:=AE a b7;refine AI rfl b7<|cn<|cr<|wA (v:=I 0) rfl<|wn<|Ap ?_;obtain rfl:=oi a;refine AA rfl rfl ?_;exact⟨e9.Bl,rfl⟩
set_option maxHeartbeats 4000000 in
theorem a28 e4 b1 gA b6 b7 cB cC cM cN cO cP cQ cR(Z:Nat→Prop) w(fT:Sl AS w Z b6 b7 b1.Ad)(fU:Sl (Ae .i64) w Z cB cC b1.Am)(fV:Sl (Ae .i64) w Z cM cN b1.AN)(fW:Sl (Ae .i64) w Z cO cP b1.Bx)(fX:Sl Bd w Z cQ cR b1.Looks) g6(aO:F6 e4 b1 gA=some g6):
 BW Tryz.prog 28 #[.agg (Av b6 b7 cB cC cM cN cO cP cQ cR b1).toArray,I gA] w (fun v w'=>Ext w w'∧(Dd Fe).R w' (zf Z w []) v g6):=by
 unfold F6 at aO;refine rq (N:=55) Tryz.func28 fun h2 gB h3=>?_;have gC:=sA 0 gB;have gD:=sA 1 gB;clear gB;have f5:Hp FN [] w [] w:=Hp.start (BB.none w);have ⟨eQ,eS,eT,eU,eV⟩:=C2 fT fU fV fW fX (BF (Z:=Z) (L:=[]) w);refine cr<|wE (fun st=>BQ (v:=.agg (Av b6 b7 cB cC cM cN cO cP cQ cR b1).toArray) (cs:=(Av b6 b7 cB cC cM cN cO cP cQ cR b1).toArray) (ee st gC) rfl) ?_;rintro _ w1 ⟨cG,rfl,eN⟩;have f6:=f5.nb eN;have hW:=f5.BZ eN;refine wE (fun st=>Ch (cs:= #[.slice none 0 0,.slice none 0 0]) RM rfl) ?_;rintro _ w2 ⟨b9,rfl,dU⟩;have f7:=f6.nb dU;have hX:=f6.BZ dU;refine wr<|wE (fun st=>Ch (cs:= #[.slice none 0 0,.slice none 0 0]) RM rfl) ?_;rintro _ g7 ⟨bR,rfl,dD⟩;have g8:=f7.nb dD;have hY:=f7.BZ dD;refine wn<|Ah<|cr<|wA (v:=I 0) rfl<|wn<|AX ?_;have g9:=g8.nil;have hA:Be (Ae .i64) 3 w.heap.size g7 (zf Z w [none,some bR,some b9,some cG]) none 0 ([]:List Int):=Be.nil _ _ _ _ _;have hB:=g9.nil;have hC:Be (Ae .i64) 3 w.heap.size g7 (zf Z w [none,none,some bR,some b9,some cG]) none 0 ([]:List Int):=Be.nil _ _ _ _ _;replace aO:=bind_some aO;obtain⟨z4,dE,aO⟩:=aO;refine Co (fun cW cA bM=>(cW=.exit 0∧∃a0 a5,∃a2 a9,Fo X0 55 cA∧sl cA 4=pt b9 0∧sl cA 5=pt bR 0∧Hp FN [] w [ob a0,ob a2,some bR,some b9,some cG] bM∧(fun dC=>Be (Ae .i64) 3 w.heap.size bM dC a0 a5 z4.1∧Be (Ae .i64) 3 w.heap.size bM dC a2 a9 z4.2∧Bk bM b9 50 #[.slice none 0 0,.slice none 0 0]∧Bk bM bR 50 #[.slice a0 z4.1.length a5,.slice a2 z4.2.length a9]) (zf Z w [ob a0,ob a2,some bR,some b9,some cG]))) ?hD ?hE
 case hD=>
  clear aO;refine Cn (fun fY cA bM=>∃aL,∃bL,∃aS,∃aX,∃aT bD,∃aR bE,DX e4 b1 fY aL bL aS aX=some z4∧Fo X0 55 cA∧sl cA 1=I aL∧sl cA 2=pt cG 0∧sl cA 4=pt b9 0∧sl cA 5=pt bR 0∧sl cA 6=I bL∧Hp FN [] w [ob aT,ob aR,some bR,some b9,some cG] bM∧(fun dC=>Be (Ae .i64) 3 w.heap.size bM dC aT bD aS∧Be (Ae .i64) 3 w.heap.size bM dC aR bE aX∧Bk bM cG 26 (Av b6 b7 cB cC cM cN cO cP cQ cR b1).toArray∧Bk bM b9 50 #[.slice none 0 0,.slice none 0 0]∧Bk bM bR 50 #[.slice aT aS.length bD,.slice aR aX.length bE]∧Sl AS bM dC b6 b7 b1.Ad∧Sl (Ae .i64) bM dC cB cC b1.Am∧Sl (Ae .i64) bM dC cM cN b1.AN∧Sl (Ae .i64) bM dC cO cP b1.Bx∧Sl Bd bM dC cQ cR b1.Looks) (zf Z w [ob aT,ob aR,some bR,some b9,some cG])) e4 ?hF ?hG
  case hF=>
   intro st;have fZ:=(hA.up BD);have f0:=((eN.bk.ext dU.gr).ext dD.gr);have f1:=(dU.bk.ext dD.gr);have f2:=dD.bk;have ⟨eW,eX,eY,eZ,e0⟩:=C2 eQ eS eT eU eV (mt (Ai eN) (mt (Ai dU) (mt (Ai dD) (mt BD BD))));exact⟨gA,(0:Int),([]:List Int),([]:List Int),none,0,none,0,dE,qo st,sp st 1 gD,sp st 2 rfl,sp st 4 rfl,sp st 5 rfl,sp st 6 rfl,hB,fZ,hC,f0,f1,f2,eW,eX,eY,eZ,e0⟩
  case hG=>
   rintro(_|fY) h4 h5 ⟨aL,bL,aS,aX,aT,bD,aR,bE,dE,gE,eO,cH,dL,bQ,cI,e5,cJ,b2,cZ,c0,dV,cD,eA,c1,c2,c3⟩
   ·exact absurd (show none=some _ from dE) (by simp)
   rw[DX.eq_2] at dE;have aO:=dE;clear dE;refine ro gE<|Ah<|cr<|wM (v:=I bL) cI<|wD (fun st=>Ac (ee st cH) (IL _ _))<|wD (fun st=>Ag (v:=.slice b6 b1.Ad.length b7) Jh (eR st) cZ rfl)<|wD (fun st=>BM Tryz.underlying22 (eR st))<|wD (fun st=>C3 (eR st) (eR st))<|wn ?_;rcases Af (decide (bL<(b1.Ad.length:Int))) with dW|dW
   ·replace aO:=AD aO dW;refine Aw rfl dW<|cn<|Ah<|AX<|cr<|wD (fun st=>Ac (ee st cH) (IL _ _))<|wD (fun st=>Ag (v:=.slice b6 b1.Ad.length b7) Jh (eR st) cZ rfl)<|wM (v:=I bL) cI ?_;replace aO:=Bn aO;obtain⟨i8,a3,hH,hI,hJ,aO⟩:=aO;obtain⟨iK,iL,_,hL,rfl,hM⟩:=Sl.elem cD (by decide) hI;refine wD (fun st=>B9 (k:=i8) Tryz.underlying22 N6 (eR st) hL (eR st) hH hJ)<|wD (fun st=>CN (l:=[I a3.Lo,I a3.Hi]) JO (eR st) hM rfl rfl)<|wE (fun st=>Ch (cs:= #[I 0,I 0]) Wz rfl) ?_;rintro _ iM ⟨dX,rfl,bK⟩;have bP:=e5.nb bK;have hZ:=e5.BZ bK;refine BC rfl rfl (fun st=>Bt (n:=2) (l:=[I a3.Lo,I a3.Hi]) (Cm:= #[I a3.Lo,I a3.Hi]) (eR st) (eR st) N6 bK.bk rfl rfl (show 0+2≤2 by decide) (AW rfl) rfl) ?_;rintro _ eP bA;have hN:=bP.gr bA.gr 0 rfl;refine wn<|Ah ?_;have cK:=hN.nil;have f3:=((dV.ext bK.gr).gr bA.gr (bP.nq 3 0));have dM:=bA.bk;replace aO:=bind_some aO;obtain⟨a4,gF,aO⟩:=aO;replace aO:=Ic aO;obtain⟨e6,aO⟩:=aO;replace aO:=AT aO;obtain⟨gG,aO⟩:=aO;have dY:=(((cJ.ext bK.gr (Ai bK)).gr bA.gr (fun k aZ=>bP.ne 1 0 rfl (congrArg some aZ) rfl) (bP.Ak bA.gr 0 rfl)).up BD);replace aO:=D2 aO;obtain⟨e7,aO⟩:=aO;replace aO:=bind_some aO;obtain⟨bJ,gH,aO⟩:=aO;replace aO:=Kl aO;obtain⟨e8,aO⟩:=aO;replace aO:=AT aO;obtain⟨gI,aO⟩:=aO;obtain⟨hO,aQ⟩:∃iN:(Nat→Bool)→(Nat→Value)→World→Prop,iN=(fun D V bM=>∃(aK:Option Nat) (aM:Option Addr) (aN:Nat) (x:Option Nat) (j:Option Addr) (m:Nat),Hp FN [] w [aK,some dX,x,ob aR,some bR,some b9,some cG] bM∧Bp (FU FN [ob aT,some bR]) eP bM∧(∀cX,Mv eP (ZZ FN [] cX w.heap.size [none,some dX,ob aT,ob aR,some bR,some b9,some cG]) bM (ZZ FN [] cX w.heap.size [aK,some dX,x,ob aR,some bR,some b9,some cG]))∧(∀bN,aK=some bN→eP.heap.size≤bN)∧(∀bN,x=some bN→ob aT=some bN∨eP.heap.size≤bN)∧(D 9=false→aK=none)∧(D 10=false→x=ob aT∧Be (Ae .i64) 3 w.heap.size bM (zf Z w [aK,some dX,x,ob aR,some bR,some b9,some cG]) aT bD aS)∧(D 16=false→Bk bM bR 50 #[.slice aT aS.length bD,.slice aR aX.length bE])∧(D 0=true→V 0=pt bR 0)∧(D 1=true→V 1=.slice aT aS.length bD)∧(D 2=true→V 2=pt dX 0)∧(D 3=true→V 3=I a3.Lo)∧(D 4=true→V 4=I aL)∧(D 5=true→V 5=.agg #[I a3.Lo,I a3.Hi])∧(D 6=true→V 6=I a4)∧(D 7=true→V 7=I (aL%a4))∧(D 8=true→V 8=I (a3.Lo+(aL%a4)))∧(D 9=true→V 9=.slice aM (([a3.Lo+(aL%a4)]).length) aN∧aK=ob aM∧Be (Ae .i64) 3 w.heap.size bM (zf Z w [aK,some dX,x,ob aR,some bR,some b9,some cG]) aM aN [a3.Lo+(aL%a4)])∧(D 10=true→V 10=.slice j ((aS++[a3.Lo+(aL%a4)]).length) m∧x=ob j∧Be (Ae .i64) 3 w.heap.size bM (zf Z w [aK,some dX,x,ob aR,some bR,some b9,some cG]) j m (aS++[a3.Lo+(aL%a4)]))∧(D 11=true→V 11=I aL)∧(D 12=true→V 12=.agg #[I a3.Lo,I a3.Hi])∧(D 13=true→V 13=I bJ)∧(D 14=true→V 14=I (aL/bJ))∧(D 15=true→V 15=pt bR 0)∧(D 16=true→Bk bM bR 50 #[.slice j ((aS++[a3.Lo+(aL%a4)]).length) m,.slice aR aX.length bE])):=⟨_,rfl⟩;refine J8 17 hO mixed rfl rfl (by rw[aQ];exact⟨none,none,0,(ob aT),none,0,(cK.ext (CT _)),E3 (CT _),fun _=>Ab (CT _),fun _ aA=>(by cases aA),fun _ aA=>.inl aA,fun _=>rfl,fun _=>⟨rfl,(dY.ext (CT _) (Ab (CT _)))⟩,fun _=>(f3.ext (CT _)),fun aA=>absurd (show false=true from aA) (by decide),fun aA=>absurd (show false=true from aA) (by decide),fun aA=>absurd (show false=true from aA) (by decide),fun aA=>absurd (show false=true from aA) (by decide),fun aA=>absurd (show false=true from aA) (by decide),fun aA=>absurd (show false=true from aA) (by decide),fun aA=>absurd (show false=true from aA) (by decide),fun aA=>absurd (show false=true from aA) (by decide),fun aA=>absurd (show false=true from aA) (by decide),fun aA=>absurd (show false=true from aA) (by decide),fun aA=>absurd (show false=true from aA) (by decide),fun aA=>absurd (show false=true from aA) (by decide),fun aA=>absurd (show false=true from aA) (by decide),fun aA=>absurd (show false=true from aA) (by decide),fun aA=>absurd (show false=true from aA) (by decide),fun aA=>absurd (show false=true from aA) (by decide),fun aA=>absurd (show false=true from aA) (by decide)⟩)
        ⟨sj (k:=0) rfl (fun D V a' w' K a=>by
             rw[aQ] at a;refine X4 a fun aK aM aN x a=>X2 a fun j m a=>Y8 a fun aP aU aW f c g b p a=>Y8 a fun _ aB aC aD aE aF aG aH a=>Y8 a fun aI o d q r s y u a=>?_;have z:=a;exact(Ac (es ((K.out 5 rfl).trans bQ)) (MZ _ _)).mono fun v Bc ⟨bB,bC⟩=>by subst bB;subst bC;rw[aQ];exact⟨aK,aM,aN,x,j,m,aP,aU,aW,f,c,g,b,p,fun _=>rfl,aB,aC,aD,aE,aF,aG,aH,aI,o,d,q,r,s,y,u,z⟩),
         sj (k:=1) rfl (fun D V a' w' K a=>by
             rw[aQ] at a;refine X4 a fun aK aM aN x a=>X2 a fun j m a=>Y8 a fun aP aU aW f c g b p a=>Y8 a fun aJ _ aC aD aE aF aG aH a=>Y8 a fun aI o d q r s y u a=>?_;have z:=a;have dZ:=aJ (K.dn 0 rfl);have c4:=p (WZ fun aA=>Jn K.me (K.down 16 _ rfl aA 1 rfl));exact(Ag (v:=.slice aT aS.length bD) BY (es (t:=21) (v:=pt bR 0) ((K.dq 0 21).trans dZ)) c4 rfl).mono fun v Bc ⟨bB,bC⟩=>by subst bB;subst bC;rw[aQ];exact⟨aK,aM,aN,x,j,m,aP,aU,aW,f,c,g,b,p,aJ,fun _=>rfl,aC,aD,aE,aF,aG,aH,aI,o,d,q,r,s,y,u,z⟩),
         sj (k:=2) rfl (fun D V a' w' K a=>by
             rw[aQ] at a;refine X4 a fun aK aM aN x a=>X2 a fun j m a=>Y8 a fun aP aU aW f c g b p a=>Y8 a fun aJ aB _ aD aE aF aG aH a=>Y8 a fun aI o d q r s y u a=>?_;have z:=a;exact(Ac (es ((K.out 7 rfl).trans rfl)) (Lc _ _)).mono fun v Bc ⟨bB,bC⟩=>by subst bB;subst bC;rw[aQ];exact⟨aK,aM,aN,x,j,m,aP,aU,aW,f,c,g,b,p,aJ,aB,fun _=>rfl,aD,aE,aF,aG,aH,aI,o,d,q,r,s,y,u,z⟩),
         sj (k:=3) rfl (fun D V a' w' K a=>by
             rw[aQ] at a;refine X4 a fun aK aM aN x a=>X2 a fun j m a=>Y8 a fun aP aU aW f c g b p a=>Y8 a fun aJ aB aC _ aE aF aG aH a=>Y8 a fun aI o d q r s y u a=>?_;have z:=a;have d0:=aC (K.dn 2 rfl);exact(Ag (v:=I a3.Lo) AV (es (t:=23) (v:=pt dX 0) ((K.dq 2 23).trans d0)) (dM.Bs aU (cK.Br 1 rfl [2,4] rfl ⟨rfl,rfl,trivial⟩ eL)) rfl).mono fun v Bc ⟨bB,bC⟩=>by subst bB;subst bC;rw[aQ];exact⟨aK,aM,aN,x,j,m,aP,aU,aW,f,c,g,b,p,aJ,aB,aC,fun _=>rfl,aE,aF,aG,aH,aI,o,d,q,r,s,y,u,z⟩),
         sj (k:=4) rfl (fun D V a' w' K a=>by
             rw[aQ] at a;refine X4 a fun aK aM aN x a=>X2 a fun j m a=>Y8 a fun aP aU aW f c g b p a=>Y8 a fun aJ aB aC aD _ aF aG aH a=>Y8 a fun aI o d q r s y u a=>?_;have z:=a;exact(Ay (v:=I aL) (es (t:=1) (v:=I aL) ((K.later 17 1 _ rfl rfl rfl).trans eO))).mono fun v Bc ⟨bB,bC⟩=>by subst bB;subst bC;rw[aQ];exact⟨aK,aM,aN,x,j,m,aP,aU,aW,f,c,g,b,p,aJ,aB,aC,aD,fun _=>rfl,aF,aG,aH,aI,o,d,q,r,s,y,u,z⟩),
         sj (k:=5) rfl (fun D V a' w' K a=>by
             rw[aQ] at a;refine X4 a fun aK aM aN x a=>X2 a fun j m a=>Y8 a fun aP aU aW f c g b p a=>Y8 a fun aJ aB aC aD aE _ aG aH a=>Y8 a fun aI o d q r s y u a=>?_;have z:=a;exact(AU (l:=[I a3.Lo,I a3.Hi]) JO (es ((K.out 7 rfl).trans rfl)) (dM.Bs aU (cK.Br 1 rfl [2,4] rfl ⟨rfl,rfl,trivial⟩ eL)) rfl rfl).mono fun v Bc ⟨bB,bC⟩=>by subst bB;subst bC;rw[aQ];exact⟨aK,aM,aN,x,j,m,aP,aU,aW,f,c,g,b,p,aJ,aB,aC,aD,aE,fun _=>rfl,aG,aH,aI,o,d,q,r,s,y,u,z⟩),
         sj (k:=6) rfl (fun D V a' w' K a=>by
             rw[aQ] at a;refine X4 a fun aK aM aN x a=>X2 a fun j m a=>Y8 a fun aP aU aW f c g b p a=>Y8 a fun aJ aB aC aD aE aF _ aH a=>Y8 a fun aI o d q r s y u a=>?_;have z:=a;have d1:=aF (K.dn 5 rfl);refine(Ar QI rfl (Cf (es (t:=26) (v:=.agg #[I a3.Lo,I a3.Hi]) ((K.dq 5 26).trans d1))) (Yf e4 a3 ZA _ a4 gF)).mono ?_;rintro v Bc ⟨aY,rfl⟩;rw[aQ];exact⟨aK,aM,aN,x,j,m,(aP.ext aY),(Ko aU aY (fun _ cW=>by cases cW)),(fun cX=>(aW cX).trans (Ab aY)),f,c,g,fun aA=>⟨(b aA).1,((b aA).2.ext aY (Ab aY))⟩,fun aA=>((p aA).ext aY),aJ,aB,aC,aD,aE,aF,fun _=>rfl,aH,aI,fun aA=>⟨(o aA).1,(o aA).2.1,((o aA).2.2.ext aY (Ab aY))⟩,fun aA=>⟨(d aA).1,(d aA).2.1,((d aA).2.2.ext aY (Ab aY))⟩,q,r,s,y,u,fun aA=>((z aA).ext aY)⟩),
         sj (k:=7) rfl (fun D V a' w' K a=>by
             rw[aQ] at a;refine X4 a fun aK aM aN x a=>X2 a fun j m a=>Y8 a fun aP aU aW f c g b p a=>Y8 a fun aJ aB aC aD aE aF aG _ a=>Y8 a fun aI o d q r s y u a=>?_;have z:=a;have d2:=aE (K.dn 4 rfl);have d3:=aG (K.dn 6 rfl);exact(JX (es (t:=25) (v:=I aL) ((K.dq 4 25).trans d2)) (es (t:=27) (v:=I a4) ((K.dq 6 27).trans d3)) e6.1 e6.2).mono fun v Bc ⟨bB,bC⟩=>by subst bB;subst bC;rw[aQ];exact⟨aK,aM,aN,x,j,m,aP,aU,aW,f,c,g,b,p,aJ,aB,aC,aD,aE,aF,aG,fun _=>rfl,aI,o,d,q,r,s,y,u,z⟩),
         sj (k:=8) rfl (fun D V a' w' K a=>by
             rw[aQ] at a;refine X4 a fun aK aM aN x a=>X2 a fun j m a=>Y8 a fun aP aU aW f c g b p a=>Y8 a fun aJ aB aC aD aE aF aG aH a=>Y8 a fun _ o d q r s y u a=>?_;have z:=a;have d4:=aD (K.dn 3 rfl);have d5:=aH (K.dn 7 rfl);exact(BV (es (t:=24) (v:=I a3.Lo) ((K.dq 3 24).trans d4)) (es (t:=28) (v:=I (aL%a4)) ((K.dq 7 28).trans d5)) gG).mono fun v Bc ⟨bB,bC⟩=>by subst bB;subst bC;rw[aQ];exact⟨aK,aM,aN,x,j,m,aP,aU,aW,f,c,g,b,p,aJ,aB,aC,aD,aE,aF,aG,aH,fun _=>rfl,o,d,q,r,s,y,u,z⟩),
         sj (k:=9) rfl (fun D V a' w' K a=>by
             rw[aQ] at a;refine X4 a fun _ _ _ x a=>X2 a fun j m a=>Y8 a fun aP aU aW f c g b p a=>Y8 a fun aJ aB aC aD aE aF aG aH a=>Y8 a fun aI _ d q r s y u a=>?_;have z:=a;have d6:=aI (K.dn 8 rfl);have gJ:=g K.me;subst gJ;refine(Cw (e:=3) (vs:= #[(0,I (a3.Lo+(aL%a4)))]) (cs:= #[I (a3.Lo+(aL%a4))]) (Jj (es (t:=29) (v:=I (a3.Lo+(aL%a4))) ((K.dq 8 29).trans d6))) (by kernel_rfl)).mono ?_;rintro v Bc ⟨hP,rfl,dN⟩;have b8:=NU dN;have bO:=dN.gr;rw[aQ];exact⟨(ob (some ⟨hP,0,none⟩)),(some ⟨hP,0,none⟩),1,x,j,m,(aP.row bO 0 rfl b8),(Ko aU bO (fun _ cW=>by cases cW)),(fun cX=>(aW cX).trans (aP.CM bO 0 rfl (fun bN bG=>(b8 bN bG).1))),(KY f aU.size b8),c,fun aA=>absurd (show true=false from aA) (by decide),fun aA=>⟨(b aA).1,((b aA).2.gr bO (fun bN bG=>aP.ne 2 0 rfl (congrArg some (((b aA).1).trans bG)) rfl) (aP.CM bO 0 rfl (fun bN bG=>(b8 bN bG).1)))⟩,fun aA=>((p aA).gr bO (aP.nq 4 0)),aJ,aB,aC,aD,aE,aF,aG,aH,aI,fun _=>⟨rfl,rfl,L6 (Bw:=[[I (a3.Lo+(aL%a4))]]) dN.bk (Nat.le_trans aP.sz (Nat.le_of_eq dN.EZ.symm)) ⟨rfl,trivial⟩ rfl (by simp[maxLen])⟩,fun aA=>⟨(d aA).1,(d aA).2.1,((d aA).2.2.gr bO (fun bN bG=>aP.ne 2 0 rfl (congrArg some ((d aA).2.1.trans bG)) rfl) (aP.CM bO 0 rfl (fun bN bG=>(b8 bN bG).1)))⟩,q,r,s,y,u,fun aA=>((z aA).gr bO (aP.nq 4 0))⟩),
         sj (k:=10) rfl (fun D V a' w' K a=>by
             rw[aQ] at a;refine X4 a fun _ aM aN _ a=>X2 a fun _ _ a=>Y8 a fun aP aU aW f c g b p a=>Y8 a fun aJ aB aC aD aE aF aG aH a=>Y8 a fun aI o _ q r s y u a=>?_;have z:=a;have d7:=aB (K.dn 1 rfl);obtain⟨d8,cS,e9⟩:=o (K.dn 9 rfl);subst cS;obtain⟨dO,dP⟩:=b K.me;subst dO;refine(Ix (ys:=[a3.Lo+(aL%a4)]) Tryz.underlying23 H6 rfl rfl (by decide) (es (t:=22) (v:=.slice aT aS.length bD) ((K.dq 1 22).trans d7)) rfl (es (t:=30) (v:=.slice aM (([a3.Lo+(aL%a4)]).length) aN) ((K.dq 9 30).trans d8)) dP (e9.MG (fun _ _ _ _ _ _ h=>h)) (by have:=e7;simp only[maxLen];omega) (by have:=e7;omega) aP.sz).mono ?_;rintro v Bc ⟨f8,hQ,rfl,bO,b8,gK⟩;rw[aQ];exact⟨(ob aM),aM,aN,(ob f8),f8,hQ,(aP.row bO 2 rfl b8),(Ko aU bO (fun bN cW=>(c bN cW).imp (fun aA=>.inr (by rw[←aA];exact List.mem_of_getElem? (i:=0) rfl)) id)),(fun cX=>(aW cX).trans (aP.CM bO 2 rfl (fun bN bG=>(b8 bN bG).1))),f,(TY c aU.size b8),g,fun aA=>absurd (show true=false from aA) (by decide),fun aA=>((p aA).gr bO (aP.nq 4 2)),aJ,aB,aC,aD,aE,aF,aG,aH,aI,fun aA=>⟨(o aA).1,rfl,((o aA).2.2.gr bO (fun bN bG=>aP.ne 0 2 rfl (congrArg some bG) rfl) (aP.CM bO 2 rfl (fun bN bG=>(b8 bN bG).1)))⟩,fun _=>⟨rfl,rfl,E4 gK (aP.CM bO 2 rfl (fun bN bG=>(b8 bN bG).1))⟩,q,r,s,y,u,fun aA=>(Jn K.me (K.down 16 _ rfl aA 10 rfl)).elim⟩),
         sj (k:=11) rfl (fun D V a' w' K a=>by
             rw[aQ] at a;refine X4 a fun aK aM aN x a=>X2 a fun j m a=>Y8 a fun aP aU aW f c g b p a=>Y8 a fun aJ aB aC aD aE aF aG aH a=>Y8 a fun aI o d _ r s y u a=>?_;have z:=a;exact(Ay (v:=I aL) (es (t:=1) (v:=I aL) ((K.later 17 1 _ rfl rfl rfl).trans eO))).mono fun v Bc ⟨bB,bC⟩=>by subst bB;subst bC;rw[aQ];exact⟨aK,aM,aN,x,j,m,aP,aU,aW,f,c,g,b,p,aJ,aB,aC,aD,aE,aF,aG,aH,aI,o,d,fun _=>rfl,r,s,y,u,z⟩),
         sj (k:=12) rfl (fun D V a' w' K a=>by
             rw[aQ] at a;refine X4 a fun aK aM aN x a=>X2 a fun j m a=>Y8 a fun aP aU aW f c g b p a=>Y8 a fun aJ aB aC aD aE aF aG aH a=>Y8 a fun aI o d q _ s y u a=>?_;have z:=a;exact(AU (l:=[I a3.Lo,I a3.Hi]) JO (es ((K.out 7 rfl).trans rfl)) (dM.Bs aU (cK.Br 1 rfl [2,4] rfl ⟨rfl,rfl,trivial⟩ eL)) rfl rfl).mono fun v Bc ⟨bB,bC⟩=>by subst bB;subst bC;rw[aQ];exact⟨aK,aM,aN,x,j,m,aP,aU,aW,f,c,g,b,p,aJ,aB,aC,aD,aE,aF,aG,aH,aI,o,d,q,fun _=>rfl,s,y,u,z⟩),
         sj (k:=13) rfl (fun D V a' w' K a=>by
             rw[aQ] at a;refine X4 a fun aK aM aN x a=>X2 a fun j m a=>Y8 a fun aP aU aW f c g b p a=>Y8 a fun aJ aB aC aD aE aF aG aH a=>Y8 a fun aI o d q r _ y u a=>?_;have z:=a;have dF:=r (K.dn 12 rfl);refine(Ar QI rfl (Cf (es (t:=33) (v:=.agg #[I a3.Lo,I a3.Hi]) ((K.dq 12 33).trans dF))) (Yf e4 a3 ZA _ bJ gH)).mono ?_;rintro v Bc ⟨aY,rfl⟩;rw[aQ];exact⟨aK,aM,aN,x,j,m,(aP.ext aY),(Ko aU aY (fun _ cW=>by cases cW)),(fun cX=>(aW cX).trans (Ab aY)),f,c,g,fun aA=>⟨(b aA).1,((b aA).2.ext aY (Ab aY))⟩,fun aA=>((p aA).ext aY),aJ,aB,aC,aD,aE,aF,aG,aH,aI,fun aA=>⟨(o aA).1,(o aA).2.1,((o aA).2.2.ext aY (Ab aY))⟩,fun aA=>⟨(d aA).1,(d aA).2.1,((d aA).2.2.ext aY (Ab aY))⟩,q,r,fun _=>rfl,y,u,fun aA=>((z aA).ext aY)⟩),
         sj (k:=14) rfl (fun D V a' w' K a=>by
             rw[aQ] at a;refine X4 a fun aK aM aN x a=>X2 a fun j m a=>Y8 a fun aP aU aW f c g b p a=>Y8 a fun aJ aB aC aD aE aF aG aH a=>Y8 a fun aI o d q r s _ u a=>?_;have z:=a;have dG:=q (K.dn 11 rfl);have dH:=s (K.dn 13 rfl);exact(L8 (es (t:=32) (v:=I aL) ((K.dq 11 32).trans dG)) (es (t:=34) (v:=I bJ) ((K.dq 13 34).trans dH)) e8.1 e8.2 gI).mono fun v Bc ⟨bB,bC⟩=>by subst bB;subst bC;rw[aQ];exact⟨aK,aM,aN,x,j,m,aP,aU,aW,f,c,g,b,p,aJ,aB,aC,aD,aE,aF,aG,aH,aI,o,d,q,r,s,fun _=>rfl,u,z⟩),
         sj (k:=15) rfl (fun D V a' w' K a=>by
             rw[aQ] at a;refine X4 a fun aK aM aN x a=>X2 a fun j m a=>Y8 a fun aP aU aW f c g b p a=>Y8 a fun aJ aB aC aD aE aF aG aH a=>Y8 a fun aI o d q r s y _ a=>?_;have z:=a;exact(Ac (es ((K.out 5 rfl).trans bQ)) (MZ _ _)).mono fun v Bc ⟨bB,bC⟩=>by subst bB;subst bC;rw[aQ];exact⟨aK,aM,aN,x,j,m,aP,aU,aW,f,c,g,b,p,aJ,aB,aC,aD,aE,aF,aG,aH,aI,o,d,q,r,s,y,fun _=>rfl,z⟩),
         sj (k:=16) rfl (fun D V a' w' K a=>by
             rw[aQ] at a;refine X4 a fun aK aM aN _ a=>X2 a fun j m a=>Y8 a fun aP aU aW f c g _ p a=>Y8 a fun aJ aB aC aD aE aF aG aH a=>Y8 a fun aI o d q r s y u a=>?_;have z:=a;obtain⟨dI,cE,g5⟩:=d (K.dn 10 rfl);subst cE;have dJ:=u (K.dn 15 rfl);have c4:=p K.me;refine(Bt (n:=1) (l:=[.slice j ((aS++[a3.Lo+(aL%a4)]).length) m]) (Cm:= #[.slice j ((aS++[a3.Lo+(aL%a4)]).length) m,.slice aR aX.length bE]) (es (t:=36) (v:=pt bR 0) ((K.dq 15 36).trans dJ)) (es (t:=31) (v:=.slice j ((aS++[a3.Lo+(aL%a4)]).length) m) ((K.dq 10 31).trans dI)) J5 c4 rfl rfl (show 0+1≤2 by decide) (AW rfl) rfl).mono ?_;rintro v Bc f9;have bO:=f9.gr;rw[aQ];exact⟨aK,aM,aN,(ob j),j,m,(aP.gr bO 4 rfl),(Ko aU bO (fun bN cW=>.inl (.inr (by cases cW;exact List.mem_of_getElem? (i:=1) rfl)))),(fun cX=>(aW cX).trans (aP.Ak bO 4 rfl)),f,c,g,fun aA=>absurd ((K.dn 10 rfl)) (by rw[show D 10=false from aA];decide),fun aA=>absurd (show true=false from aA) (by decide),aJ,aB,aC,aD,aE,aF,aG,aH,aI,fun aA=>⟨(o aA).1,(o aA).2.1,((o aA).2.2.gr bO (fun bN bG=>aP.ne 0 4 rfl (congrArg some ((o aA).2.1.trans bG)) rfl) (aP.Ak bO 4 rfl))⟩,fun aA=>⟨(d aA).1,rfl,((d aA).2.2.gr bO (fun bN bG=>aP.ne 2 4 rfl (congrArg some bG) rfl) (aP.Ak bO 4 rfl))⟩,q,r,s,y,u,fun _=>f9.bk⟩),trivial⟩ ?_
    intro h6 h7 h8 aV bF;rw[aQ] at bF;clear aQ;refine X4 bF fun aK aM aN x bF=>X2 bF fun j m bF=>Y8 bF fun cY cL b3 f c g b p bF=>Y8 bF fun aJ aB aC aD aE aF aG aH bF=>Y8 bF fun aI o d q r s y u bF=>?_;have z:=bF;clear bF;have dZ:=aJ (aV 0 (by decide));have d7:=aB (aV 1 (by decide));have d0:=aC (aV 2 (by decide));have d4:=aD (aV 3 (by decide));have d2:=aE (aV 4 (by decide));have d1:=aF (aV 5 (by decide));have d3:=aG (aV 6 (by decide));have d5:=aH (aV 7 (by decide));have d6:=aI (aV 8 (by decide));obtain⟨d8,cS,hR⟩:=o (aV 9 (by decide));subst cS;obtain⟨dI,cE,dK⟩:=d (aV 10 (by decide));subst cE;have dG:=q (aV 11 (by decide));have dF:=r (aV 12 (by decide));have dH:=s (aV 13 (by decide));have e1:=y (aV 14 (by decide));have dJ:=u (aV 15 (by decide));have b4:=z (aV 16 (by decide));refine wA (v:=I (aL/bJ)) e1<|wr<|wD (fun st=>Ac (ee st cH) (Kd _ _)) ?_;have c5:=(((cZ.ext bK.gr).gr bA.gr (bP.nq 5 0)).Bs cL (cK.Br 6 rfl [2,4] rfl ⟨rfl,rfl,trivial⟩ eL));refine wD (fun st=>Ag (v:=.slice cB b1.Am.length cC) BY (eR st) c5 rfl)<|wM (v:=I bL) cI ?_;replace aO:=Bn aO;obtain⟨i19,b5,gL,gM,gN,aO⟩:=aO;have cF:=((((eA.mv (Ai bK)).mv (bP.Ak bA.gr 0 rfl)).mv BD).mv (b3 _));obtain⟨iA,iB,_,gO,rfl,gP⟩:=Sl.C4 cF rfl gM;refine wD (fun st=>Bu (k:=i19) Tryz.underlying23 CG (eR st) gO (eR st) gL gN)<|wD (fun st=>BJ (v:=I b5) AV (eR st) gP rfl)<|wA (v:=I b5) rfl<|wn<|Ah<|cr<|wM (v:=I b5) rfl<|wD (fun st=>Ew (eR st) (eR st))<|wn ?_;rcases Af (b5==2) with c6|c6
    ·replace aO:=AD aO c6;refine Aw rfl c6<|Aj<|wM (v:=I (aL/bJ)) rfl ?_;replace aO:=Ic aO;obtain⟨fA,aO⟩:=aO;refine wD (fun st=>JX (eR st) (eR st) fA.1 fA.2)<|wM (v:=I (aL/bJ)) rfl ?_;replace aO:=Kl aO;obtain⟨fB,aO⟩:=aO;replace aO:=AT aO;obtain⟨gQ,aO⟩:=aO;refine wD (fun st=>L8 (eR st) (eR st) fB.1 fB.2 gQ)<|wA (v:=I ((aL/bJ)%2)) rfl<|wA (v:=I ((aL/bJ)/2)) rfl<|wn<|Aj<|wD (fun st=>Ac (ee st bQ) (Ld _ _))<|wD (fun st=>Ag (v:=.slice aR aX.length bE) BY (eR st) b4 rfl)<|wM (v:=I ((aL/bJ)%2)) rfl<|wE (fun st=>Cw (e:=3) (vs:= #[(0,I ((aL/bJ)%2))]) (cs:= #[I ((aL/bJ)%2)]) (Jj (eR st)) (by kernel_rfl)) ?_;rintro _ iC ⟨hS,rfl,bH⟩;have bS:=cY.new bH.gr (Nat.le_of_eq bH.EZ.symm) (Nat.lt_of_lt_of_eq (Nat.lt_succ_self _) bH.sz.symm);have hT:w.heap.size≤hS:=by rw[bH.EZ];exact cY.sz
     have dQ:=(((((b2.ext bK.gr (Ai bK)).gr bA.gr (fun k aZ=>bP.ne 2 0 rfl (congrArg some aZ) rfl) (bP.Ak bA.gr 0 rfl)).up BD).Bs cL (fun k aZ=>cK.Br 3 (congrArg some aZ) [2,4] rfl ⟨rfl,rfl,trivial⟩ eL) (b3 _)).ext bH.gr (Ai bH));replace aO:=D2 aO;obtain⟨fC,aO⟩:=aO;refine wE (fun st=>IN (ys:=[(aL/bJ)%2]) Tryz.underlying23 H6 rfl rfl (by decide) (eR st) rfl (eR st) dQ (I7 (Bw:=[[I ((aL/bJ)%2)]]) bH.bk ⟨rfl,trivial⟩ rfl) (by have:=fC;simp only[maxLen];omega) (by have:=fC;omega) bS.sz (by simp)) ?_;rintro _ iD ⟨fD,fE,rfl,bW,cT,gR⟩;have bX:=bS.row bW 4 rfl cT;have gS:=E4 gR (bS.CM bW 4 rfl (fun k aZ=>(cT k aZ).1));refine wD (fun st=>Ac (ee st bQ) (Ld _ _)) ?_;have fF:=((b4.ext bH.gr).gr bW (bS.nq 5 4));refine BC rfl rfl (fun st=>Bt (n:=1) (l:=[.slice fD ((aX++[(aL/bJ)%2]).length) fE]) (Cm:= #[.slice j ((aS++[a3.Lo+(aL%a4)]).length) m,.slice fD ((aX++[(aL/bJ)%2]).length) fE]) (eR st) (eR st) J5 fF rfl rfl (show 1+1≤2 by decide) (AW rfl) rfl) ?_;rintro _ iE bT;have gT:=bX.gr bT.gr 5 rfl;refine AJ<|Ef<|Aj<|wM (v:=I bL) cI ?_;replace aO:=AT aO;obtain⟨gU,aO⟩:=aO;refine wD (fun st=>BV (eR st) (eR st) gU)<|wA (v:=I (bL+1)) rfl<|AJ ?_;have gV:=gT.erase 0;have gW:=gV.erase 0;have gX:=gW.erase 0;have dR:=((((((dK.ext bH.gr (Ai bH)).gr bW (fun k aZ=>bS.ne 3 4 rfl (congrArg some aZ) rfl) (bS.CM bW 4 rfl (fun k aZ=>(cT k aZ).1))).gr bT.gr (fun k aZ=>bX.ne 3 5 rfl (congrArg some aZ) rfl) (bX.Ak bT.gr 5 rfl)).up (AB 0)).up (AB 0)).up (AB 0));have e2:=((((gS.gr bT.gr (fun k aZ=>bX.ne 4 5 rfl (congrArg some aZ) rfl) (bX.Ak bT.gr 5 rfl)).up (AB 0)).up (AB 0)).up (AB 0));have fG:=(((c5.ext bH.gr).gr bW (bS.nq 7 4)).gr bT.gr (bX.nq 7 5));have fH:=((((((c0.ext bK.gr).gr bA.gr (bP.nq 4 0)).Bs cL (cK.Br 5 rfl [2,4] rfl ⟨rfl,rfl,trivial⟩ eL)).ext bH.gr).gr bW (bS.nq 6 4)).gr bT.gr (bX.nq 6 5));have fI:=bT.bk;have eB:=((((((((((cD.mv (Ai bK)).mv (bP.Ak bA.gr 0 rfl)).mv BD).mv (b3 _)).mv (Ai bH)).mv (bS.CM bW 4 rfl (fun k aZ=>(cT k aZ).1))).mv (bX.Ak bT.gr 5 rfl)).mv (AB 0)).mv (AB 0)).mv (AB 0));have eC:=((((((cF.mv (Ai bH)).mv (bS.CM bW 4 rfl (fun k aZ=>(cT k aZ).1))).mv (bX.Ak bT.gr 5 rfl)).mv (AB 0)).mv (AB 0)).mv (AB 0));have ⟨eD,eE,eF⟩:=Mi c1 c2 c3 (mt (Ai bK) (mt (bP.Ak bA.gr 0 rfl) (mt BD (mt (b3 _) (mt (Ai bH) (mt (bS.CM bW 4 rfl (fun k aZ=>(cT k aZ).1)) (mt (bX.Ak bT.gr 5 rfl) (mt (AB 0) (mt (AB 0) (AB 0))))))))));refine BN fY (Nat.lt_succ_self _) (fun st=>?_);exact⟨((aL/bJ)/2),(bL+1),(aS++[a3.Lo+(aL%a4)]),(aX++[(aL/bJ)%2]),j,m,fD,fE,aO,qo st,sp st 1 rfl,sp st 2 cH,sp st 4 dL,sp st 5 bQ,sp st 6 rfl,gX,dR,e2,fG,fH,fI,eB,eC,eD,eE,eF⟩
    ·replace aO:=AE aO c6;refine AI rfl c6<|cn<|Aj<|wD (fun st=>Ac (ee st bQ) (Ld _ _))<|wD (fun st=>Ag (v:=.slice aR aX.length bE) BY (eR st) b4 rfl)<|wM (v:=I b5) rfl<|wE (fun st=>Cw (e:=3) (vs:= #[(0,I b5)]) (cs:= #[I b5]) (Jj (eR st)) (by kernel_rfl)) ?_;rintro _ iF ⟨hU,rfl,bI⟩;have bU:=cY.new bI.gr (Nat.le_of_eq bI.EZ.symm) (Nat.lt_of_lt_of_eq (Nat.lt_succ_self _) bI.sz.symm);have hV:w.heap.size≤hU:=by rw[bI.EZ];exact cY.sz
     have dS:=(((((b2.ext bK.gr (Ai bK)).gr bA.gr (fun k aZ=>bP.ne 2 0 rfl (congrArg some aZ) rfl) (bP.Ak bA.gr 0 rfl)).up BD).Bs cL (fun k aZ=>cK.Br 3 (congrArg some aZ) [2,4] rfl ⟨rfl,rfl,trivial⟩ eL) (b3 _)).ext bI.gr (Ai bI));replace aO:=D2 aO;obtain⟨fJ,aO⟩:=aO;refine wE (fun st=>IN (ys:=[b5]) Tryz.underlying23 H6 rfl rfl (by decide) (eR st) rfl (eR st) dS (I7 (Bw:=[[I b5]]) bI.bk ⟨rfl,trivial⟩ rfl) (by have:=fJ;simp only[maxLen];omega) (by have:=fJ;omega) bU.sz (by simp)) ?_;rintro _ iG ⟨fK,fL,rfl,bY,cU,gY⟩;have bZ:=bU.row bY 4 rfl cU;have gZ:=E4 gY (bU.CM bY 4 rfl (fun k aZ=>(cU k aZ).1));refine wD (fun st=>Ac (ee st bQ) (Ld _ _)) ?_;have fM:=((b4.ext bI.gr).gr bY (bU.nq 5 4));refine BC rfl rfl (fun st=>Bt (n:=1) (l:=[.slice fK ((aX++[b5]).length) fL]) (Cm:= #[.slice j ((aS++[a3.Lo+(aL%a4)]).length) m,.slice fK ((aX++[b5]).length) fL]) (eR st) (eR st) J5 fM rfl rfl (show 1+1≤2 by decide) (AW rfl) rfl) ?_;rintro _ iH bV;have g0:=bZ.gr bV.gr 5 rfl;refine AJ<|Ef<|Aj<|wM (v:=I bL) cI ?_;replace aO:=AT aO;obtain⟨g1,aO⟩:=aO;refine wD (fun st=>BV (eR st) (eR st) g1)<|wA (v:=I (bL+1)) rfl<|AJ ?_;have g2:=g0.erase 0;have g3:=g2.erase 0;have g4:=g3.erase 0;have dT:=((((((dK.ext bI.gr (Ai bI)).gr bY (fun k aZ=>bU.ne 3 4 rfl (congrArg some aZ) rfl) (bU.CM bY 4 rfl (fun k aZ=>(cU k aZ).1))).gr bV.gr (fun k aZ=>bZ.ne 3 5 rfl (congrArg some aZ) rfl) (bZ.Ak bV.gr 5 rfl)).up (AB 0)).up (AB 0)).up (AB 0));have e3:=((((gZ.gr bV.gr (fun k aZ=>bZ.ne 4 5 rfl (congrArg some aZ) rfl) (bZ.Ak bV.gr 5 rfl)).up (AB 0)).up (AB 0)).up (AB 0));have fN:=(((c5.ext bI.gr).gr bY (bU.nq 7 4)).gr bV.gr (bZ.nq 7 5));have fO:=((((((c0.ext bK.gr).gr bA.gr (bP.nq 4 0)).Bs cL (cK.Br 5 rfl [2,4] rfl ⟨rfl,rfl,trivial⟩ eL)).ext bI.gr).gr bY (bU.nq 6 4)).gr bV.gr (bZ.nq 6 5));have fP:=bV.bk;have eG:=((((((((((cD.mv (Ai bK)).mv (bP.Ak bA.gr 0 rfl)).mv BD).mv (b3 _)).mv (Ai bI)).mv (bU.CM bY 4 rfl (fun k aZ=>(cU k aZ).1))).mv (bZ.Ak bV.gr 5 rfl)).mv (AB 0)).mv (AB 0)).mv (AB 0));have eH:=((((((cF.mv (Ai bI)).mv (bU.CM bY 4 rfl (fun k aZ=>(cU k aZ).1))).mv (bZ.Ak bV.gr 5 rfl)).mv (AB 0)).mv (AB 0)).mv (AB 0));have ⟨eI,eJ,eK⟩:=Mi c1 c2 c3 (mt (Ai bK) (mt (bP.Ak bA.gr 0 rfl) (mt BD (mt (b3 _) (mt (Ai bI) (mt (bU.CM bY 4 rfl (fun k aZ=>(cU k aZ).1)) (mt (bZ.Ak bV.gr 5 rfl) (mt (AB 0) (mt (AB 0) (AB 0))))))))));refine BN fY (Nat.lt_succ_self _) (fun st=>?_);exact⟨(aL/bJ),(bL+1),(aS++[a3.Lo+(aL%a4)]),(aX++[b5]),j,m,fK,fL,aO,qo st,sp st 1 rfl,sp st 2 cH,sp st 4 dL,sp st 5 bQ,sp st 6 rfl,g4,dT,e3,fN,fO,fP,eG,eH,eI,eJ,eK⟩
   ·replace aO:=AE aO dW;refine AI rfl dW<|FF ?_;obtain rfl:=oi aO;refine Cj (fun st=>?_);exact⟨rfl,aT,bD,aR,bE,qo st,sp st 4 dL,sp st 5 bQ,e5,cJ,b2,c0,dV⟩
 case hE=>
  rintro cW h1 iI (⟨rfl,a0,a5,a2,a9,f4,d9,fQ,c7,c8,c9,fR,fS⟩);refine lf f4<|BE<|AL<|cr<|wD (fun st=>AU (l:=[.slice a0 z4.1.length a5,.slice a2 z4.2.length a9]) N7 (ee st fQ) fS rfl rfl)<|BC rfl rfl (fun st=>Bt (n:=2) (l:=[.slice a0 z4.1.length a5,.slice a2 z4.2.length a9]) (Cm:= #[.slice a0 z4.1.length a5,.slice a2 z4.2.length a9]) (ee st d9) (eR st) UO fR rfl rfl (show 0+2≤2 by decide) (AW rfl) rfl) ?_;rintro _ iJ cV;have eM:=c7.gr cV.gr 3 rfl;refine wn<|Ap ?_;obtain rfl:=oi aO;refine Gk (v:=.agg #[.slice a0 z4.1.length a5,.slice a2 z4.2.length a9]) rfl d9 (DV N7 cV.bk rfl rfl) ?_;have dA:=(c8.gr cV.gr (fun k aZ=>c7.ne 0 3 rfl (congrArg some aZ) rfl) (c7.Ak cV.gr 3 rfl));have dB:=(c9.gr cV.gr (fun k aZ=>c7.ne 1 3 rfl (congrArg some aZ) rfl) (c7.Ak cV.gr 3 rfl));exact⟨eM.Bl,⟨_,rfl,_,_,_,_,rfl,eM.Jm (M:=[]) 0 rfl [] rfl trivial dA,eM.Jm (M:=[]) 1 rfl [] rfl trivial dB⟩⟩
theorem a109 a3 n u o p q x y h i(Z:Nat→Prop) w(aV:Sl (Ae .i64) w Z p q n.Ad)(aW:Sl (Ae .i64) w Z x y n.Am)(aX:Sl (Ae .i64) w Z h i u) bP(a:Fq a3 n u o=some bP):
 BW Tryz.prog 109 #[.agg #[.slice p n.Ad.length q,.slice x n.Am.length y],.slice h u.length i,I o] w (fun v w'=>Ext w w'∧(DP .i64).R w' (zf Z w []) v bP):=by
 unfold Fq at a;refine rq (N:=42) Tryz.func109 fun cE aY cF=>?_;have a4:=sA 0 aY;have a5:=sA 1 aY;have a9:=sA 2 aY;clear aY;have a2:Hp FN [] w [] w:=Hp.start (BB.none w);have ⟨aL,bO,aM⟩:=Mi aV aW aX (BF (Z:=Z) (L:=[]) w);refine cr<|wE (fun st=>BQ (v:=.agg #[.slice p n.Ad.length q,.slice x n.Am.length y]) (cs:= #[.slice p n.Ad.length q,.slice x n.Am.length y]) (ee st a4) rfl) ?_;rintro _ w1 ⟨bA,rfl,aB⟩;have bQ:=a2.nb aB;have cA:=a2.BZ aB;refine wA (v:=I 0) rfl<|wr<|wA (v:=I 0) rfl<|wn<|Ah<|cr<|wA (v:=I 0) rfl<|wn<|AX ?_;replace a:=bind_some a;obtain⟨z2,s,a⟩:=a;refine Co (fun aP b aI=>(aP=.exit 0∧Fo X0 42 b∧sl b 2=I o∧sl b 3=pt bA 0∧sl b 7=I z2∧w1=aI)) ?bR ?bS
 case bR=>
  clear a;refine Cn (fun aC b aI=>∃z,∃d,C9 u o aC z d=some z2∧Fo X0 42 b∧sl b 1=.slice h u.length i∧sl b 2=I o∧sl b 3=pt bA 0∧sl b 7=I z∧sl b 8=I d∧w1=aI) a3 ?bT ?bU
  case bT=>
   intro st;exact⟨(0:Int),(0:Int),s,qo st,sp st 1 a5,sp st 2 a9,sp st 3 rfl,sp st 7 rfl,sp st 8 rfl,rfl⟩
  case bU=>
   rintro(_|aC) cG _ ⟨z,d,s,bB,f,m,aA,aJ,g,rfl⟩
   ·exact absurd (show none=some _ from s) (by simp)
   rw[C9.eq_2] at s;have a:=s;clear s;refine ro bB<|Ah<|cr<|wM (v:=I d) g<|wM (v:=.slice h u.length i) f<|wD (fun st=>BM Tryz.underlying23 (eR st))<|wD (fun st=>C3 (eR st) (eR st))<|wn ?_;rcases Af (decide (d<(u.length:Int))) with aD|aD
   ·replace a:=AD a aD;refine Aw rfl aD<|cn<|Ah<|AX<|cr<|wM (v:=.slice h u.length i) f<|wM (v:=I d) g ?_;replace a:=Bn a;obtain⟨i4,bV,bW,bX,bY,a⟩:=a;have t:=(aM.mv (Ai aB));obtain⟨cJ,cK,_,bZ,rfl,b1⟩:=Sl.C4 t rfl bX;refine wD (fun st=>Bu (k:=i4) Tryz.underlying23 CG (eR st) bZ (eR st) bW bY)<|wD (fun st=>BJ (v:=I bV) AV (eR st) b1 rfl)<|wM (v:=I o) m<|wD (fun st=>C3 (eR st) (eR st))<|wn ?_;rcases Af (decide (bV<o)) with aE|aE
    ·replace a:=AD a aE;refine Aw rfl aE<|Aj<|wM (v:=.slice h u.length i) f<|wM (v:=I d) g ?_;replace a:=Bn a;obtain⟨i6,bC,b2,b3,b4,a⟩:=a;obtain⟨cL,cM,_,b5,rfl,b6⟩:=Sl.C4 t rfl b3;refine wD (fun st=>Bu (k:=i6) Tryz.underlying23 CG (eR st) b5 (eR st) b2 b4)<|wD (fun st=>BJ (v:=I bC) AV (eR st) b6 rfl) ?_;replace a:=AT a;obtain⟨b7,a⟩:=a;refine wD (fun st=>BV (eR st) (eR st) b7)<|wA (v:=I (bC+1)) rfl<|AJ<|Ef<|Aj<|wM (v:=I d) g ?_;replace a:=AT a;obtain⟨b8,a⟩:=a;refine wD (fun st=>BV (eR st) (eR st) b8)<|wA (v:=I (d+1)) rfl<|AJ ?_;refine BN aC (Nat.lt_succ_self _) (fun st=>?_);exact⟨(bC+1),(d+1),a,qo st,sp st 1 f,sp st 2 m,sp st 3 aA,sp st 7 rfl,sp st 8 rfl,rfl⟩
    ·replace a:=AE a aE;refine AI rfl aE<|B5<|Ef<|Aj<|wM (v:=I d) g ?_;replace a:=AT a;obtain⟨b9,a⟩:=a;refine wD (fun st=>BV (eR st) (eR st) b9)<|wA (v:=I (d+1)) rfl<|AJ ?_;refine BN aC (Nat.lt_succ_self _) (fun st=>?_);exact⟨z,(d+1),a,qo st,sp st 1 f,sp st 2 m,sp st 3 aA,sp st 7 aJ,sp st 8 rfl,rfl⟩
   ·replace a:=AE a aD;refine AI rfl aD<|FF ?_;obtain rfl:=oi a;refine Cj (fun st=>?_);exact⟨rfl,qo st,sp st 2 m,sp st 3 aA,sp st 7 aJ,rfl⟩
 case bS=>
  rintro aP cC _ (⟨rfl,aZ,aQ,aR,aS,rfl⟩);refine lf aZ<|BE<|AL<|cr<|wA (v:=I 0) rfl<|wn<|Ah<|cr<|wM (v:=I z2) aS<|wA (v:=I z2) rfl<|wn<|AX ?_;replace a:=bind_some a;obtain⟨aK,j,a⟩:=a;refine Co (fun aP b aI=>(aP=.exit 2∧Fo X0 42 b∧sl b 9=I aK∧w1=aI)) ?bD ?bE
  case bD=>
   clear a;refine Cn (fun aC b aI=>∃e,∃c,C1 n o aC e c=some aK∧Fo X0 42 b∧sl b 2=I o∧sl b 3=pt bA 0∧sl b 9=I e∧sl b 10=I c∧w1=aI) a3 ?bF ?bG
   case bF=>
    intro st;exact⟨(0:Int),z2,j,qo st,sp st 2 aQ,sp st 3 aR,sp st 9 rfl,sp st 10 rfl,rfl⟩
   case bG=>
    rintro(_|aC) cD _ ⟨e,c,j,a0,aF,aG,aH,l,rfl⟩
    ·exact absurd (show none=some _ from j) (by simp)
    rw[C1.eq_2] at j;have a:=j;clear j;refine ro a0<|Ah<|cr<|wM (v:=I c) l<|wM (v:=I o) aF<|wD (fun st=>ET (eR st) (eR st))<|wn ?_;rcases Af (decide (c≤o)) with r|r
    ·replace a:=AD a r;refine Aw rfl r<|cn<|Ah<|AX<|Aj<|wM (v:=I e) aH<|wD (fun st=>Ac (ee st aG) (MZ _ _))<|wD (fun st=>Ag (v:=.slice p n.Ad.length q) BY (eR st) aB.bk rfl)<|wM (v:=I c) l ?_;replace a:=Bn a;obtain⟨i12,aT,bH,bI,bJ,a⟩:=a;have aN:=(aL.mv (Ai aB));obtain⟨cH,cI,_,bK,rfl,bL⟩:=Sl.C4 aN rfl bI;refine wD (fun st=>Bu (k:=i12) Tryz.underlying23 CG (eR st) bK (eR st) bH bJ)<|wD (fun st=>BJ (v:=I aT) AV (eR st) bL rfl) ?_;replace a:=AT a;obtain⟨bM,a⟩:=a;refine wD (fun st=>BV (eR st) (eR st) bM)<|wA (v:=I (e+aT)) rfl<|AJ<|Ef<|Aj<|wM (v:=I c) l ?_;replace a:=AT a;obtain⟨bN,a⟩:=a;refine wD (fun st=>BV (eR st) (eR st) bN)<|wA (v:=I (c+1)) rfl<|AJ ?_;refine BN aC (Nat.lt_succ_self _) (fun st=>?_);exact⟨(e+aT),(c+1),a,qo st,sp st 2 aF,sp st 3 aG,sp st 9 rfl,sp st 10 rfl,rfl⟩
    ·replace a:=AE a r;refine AI rfl r<|FF ?_;obtain rfl:=oi a;refine Cj (fun st=>?_);exact⟨rfl,qo st,sp st 9 aH,rfl⟩
  case bE=>
   rintro aP cB _ (⟨rfl,aU,aO,rfl⟩);refine lf aU<|BE<|AL<|cr<|wM (v:=I aK) aO<|wA (v:=I aK) rfl<|wn<|Ap ?_;obtain rfl:=oi a;refine AA rfl rfl ?_;exact⟨bQ.Bl,rfl⟩
theorem a62 aT k f a n o p q r s g i t u b c d e(Z:Nat→Prop) w(aG:Sl AS w Z n o k.Ad)(aH:Sl (Ae .i64) w Z p q k.Am)(aI:Sl (Ae .i64) w Z r s k.AN)(aJ:Sl (Ae .i64) w Z g i k.Bx)(aK:Sl Bd w Z t u k.Looks)(aL:Sl (Ae .i64) w Z b c f.Ad)(aM:Sl (Ae .i64) w Z d e f.Am) a3(m:Gh aT k f a=some a3):
 BW Tryz.prog 62 #[.agg (Av n o p q r s g i t u k).toArray,.agg #[.slice b f.Ad.length c,.slice d f.Am.length e],.agg #[I a.Week,I a.Bo,I a.Bq]] w (fun v w'=>Ext w w'∧BA.R w' (zf Z w []) v a3):=by
 unfold Gh at m;refine rq (N:=20) Tryz.func62 fun bJ aN bK=>?_;have aU:=sA 0 aN;have aV:=sA 1 aN;have aW:=sA 2 aN;clear aN;have aQ:Hp FN [] w [] w:=Hp.start (BB.none w);have ⟨aY,aZ,a0,z,a2,aA,aB⟩:=W5 aG aH aI aJ aK aL aM (BF (Z:=Z) (L:=[]) w);refine cr<|wE (fun st=>BQ (v:=.agg (Av n o p q r s g i t u k).toArray) (cs:=(Av n o p q r s g i t u k).toArray) (ee st aU) rfl) ?_;rintro _ w1 ⟨bI,rfl,y⟩;have aR:=aQ.nb y;have bF:=aQ.BZ y;refine wE (fun st=>BQ (v:=.agg #[.slice b f.Ad.length c,.slice d f.Am.length e]) (cs:= #[.slice b f.Ad.length c,.slice d f.Am.length e]) (ee st aV) rfl) ?_;rintro _ w2 ⟨bL,rfl,x⟩;have aS:=aR.nb x;have bG:=aR.BZ x;refine wE (fun st=>BQ (v:=.agg #[I a.Week,I a.Bo,I a.Bq]) (cs:= #[I a.Week,I a.Bo,I a.Bq]) (ee st aW) rfl) ?_;rintro _ bM ⟨aF,rfl,j⟩;have a4:=aS.nb j;have bH:=aS.BZ j;refine wA (v:=.bool false) rfl<|wn<|Ah ?_;have aO:=(x.bk.ext j.gr);have aP:=((y.bk.ext x.gr).ext j.gr);have ⟨aC,aD,aE⟩:=Mi aA aB z (mt (Ai y) (mt (Ai x) (Ai j)));replace m:=bind_some m;obtain⟨aX,a5,m⟩:=m;refine B1 12 [Kc (.agg #[.slice b f.Ad.length c,.slice d f.Am.length e]),Kc (pt bI 4),Kc (.slice g k.Bx.length i),Kc (pt aF 0),Kc (I a.Week),Kc (I aX),Kc (pt aF 1),Kc (pt aF 1),Kc (I a.Bo),Kc (pt aF 1),Kc (pt aF 2),Kc (I a.Bq)] mixed rfl rfl
     (Aa (oD (fun K=>AU (l:=[.slice b f.Ad.length c,.slice d f.Am.length e]) N7 (K.kO 4) (aO.ext K.Al) rfl rfl))
     (Aa (oD (fun K=>Ac (K.kO 3) (MX _ _)))
     (Aa (oD (fun K=>Ag BY (es (K.dq 1 8)) (aP.ext K.Al) rfl))
     (Aa (oD (fun K=>Ac (K.kO 5) (WA _ _)))
     (Aa (oD (fun K=>Ag AV (es (K.dq 3 10)) (j.bk.ext K.Al) rfl))
     (Aa (oE (fun K=>(Ar WB (rfl:Act.eval _ (.func 109)=_) (EV (es (K.dq 0 7)) (es (K.dq 2 9)) (es (K.dq 4 11))) (a109 aT f k.Bx a.Week b c d e g i ZA _ (aC.mv (Ab K.Al)).all (aD.mv (Ab K.Al)).all (aE.mv (Ab K.Al)).all aX a5)).mono (fun _ _ h=>⟨h.2,h.1⟩)))
     (Aa (oD (fun K=>Ac (K.kO 5) (RN _ _)))
     (Aa (oD (fun K=>Ac (es (K.dq 6 13)) (Ts _ _)))
     (Aa (oD (fun K=>Ag AV (es (K.dq 7 14)) (j.bk.ext K.Al) rfl))
     (Aa (oD (fun K=>Ac (K.kO 5) (RN _ _)))
     (Aa (oD (fun K=>Ac (es (K.dq 9 16)) (Tt _ _)))
     (Aa (oD (fun K=>Ag AV (es (K.dq 10 17)) (j.bk.ext K.Al) rfl))
     (BH _))))))))))))) ?_
 intro bN;rintro _ rfl _ rfl _ rfl _ rfl _ rfl _ rfl _ rfl _ rfl _ rfl _ rfl _ rfl _ rfl a9;have bA:=a4.ext a9;replace m:=bind_some m;obtain⟨bB,bC,m⟩:=m;refine wE (fun st=>Ar G0 (eR st) (EV (eR st) (eR st) (eR st)) (JU aT aX a.Bo a.Bq ZA _ bB bC)) ?_;rintro _ bO ⟨bD,rfl⟩;have bE:=bA.ext bD;refine wA (v:=.bool bB) rfl<|wn<|Ap ?_;obtain rfl:=oi m;refine AA rfl rfl ?_;exact⟨bE.Bl,rfl⟩
set_option maxHeartbeats 4000000 in
theorem a26 bO f g i j m n o p q c d(Z:Nat→Prop) w(dB:Sl AS w Z g i f.Ad)(dC:Sl (Ae .i64) w Z j m f.Am)(dD:Sl (Ae .i64) w Z n o f.AN)(dE:Sl (Ae .i64) w Z p q f.Bx)(dF:Sl Bd w Z c d f.Looks) eB(a:GX bO f=some eB):
 BW Tryz.prog 26 #[.agg (Av g i j m n o p q c d f).toArray] w (fun v w'=>Ext w w'∧(HC (Ae .i64)).R w' (zf Z w []) v eB):=by
 unfold GX at a;refine rq (N:=40) Tryz.func26 fun e0 eC e1=>?_;have dQ:=sA 0 eC;clear eC;have dK:Hp FN [] w [] w:=Hp.start (BB.none w);have ⟨cD,cE,cF,cG,cH⟩:=C2 dB dC dD dE dF (BF (Z:=Z) (L:=[]) w);refine cr<|wE (fun st=>BQ (v:=.agg (Av g i j m n o p q c d f).toArray) (cs:=(Av g i j m n o p q c d f).toArray) (ee st dQ) rfl) ?_;rintro _ w1 ⟨aG,rfl,b9⟩;have eD:=dK.nb b9;have eX:=dK.BZ b9;refine wA (v:=.slice none 0 0) rfl<|wr<|wA (v:=.slice none 0 0) rfl<|wn<|Ah<|cr<|wA (v:=I 0) rfl<|wn<|AX ?_;have eE:=eD.nil;have eF:Be (Ae .i64) 3 w.heap.size w1 (zf Z w [none,some aG]) none 0 ([]:List Int):=Be.nil _ _ _ _ _;replace a:=bind_some a;obtain⟨z2,bH,a⟩:=a;refine Co (fun cY t u=>(cY=.exit 0∧∃r z,Fo X0 40 t∧sl t 3=.slice r z2.length z∧Hp FN [] w [ob r,some aG] u∧Be (Ae .i64) 3 w.heap.size u (zf Z w [ob r,some aG]) r z z2)) ?eG ?eH
 case eG=>
  clear a;refine Cn (fun bP t u=>∃aA,∃x,∃b y,DZ bO f bP aA x=some z2∧Fo X0 40 t∧sl t 1=pt aG 0∧sl t 3=.slice b aA.length y∧sl t 4=I x∧Hp FN [] w [ob b,some aG] u∧(fun aC=>Be (Ae .i64) 3 w.heap.size u aC b y aA∧Bk u aG 26 (Av g i j m n o p q c d f).toArray∧Sl AS u aC g i f.Ad∧Sl (Ae .i64) u aC j m f.Am∧Sl (Ae .i64) u aC n o f.AN∧Sl (Ae .i64) u aC p q f.Bx∧Sl Bd u aC c d f.Looks) (zf Z w [ob b,some aG])) bO ?eI ?eJ
  case eI=>
   intro st;have dG:=b9.bk;have ⟨cI,cJ,cK,cL,cM⟩:=C2 cD cE cF cG cH (mt (Ai b9) BD);exact⟨([]:List Int),(0:Int),none,0,bH,qo st,sp st 1 rfl,sp st 3 rfl,sp st 4 rfl,eE,eF,dG,cI,cJ,cK,cL,cM⟩
  case eJ=>
   rintro(_|bP) e2 e3 ⟨aA,x,b,y,bH,dR,cA,cB,cC,eK,a4,bQ,a5,a9,bA,bB,bC⟩
   ·exact absurd (show none=some _ from bH) (by simp)
   rw[DZ.eq_2] at bH;have a:=bH;clear bH;refine ro dR<|Ah<|cr<|wM (v:=I x) cC<|wD (fun st=>AU (l:=(Av g i j m n o p q c d f)) Hr (ee st cA) bQ rfl rfl) ?_;replace a:=bind_some a;obtain⟨eM,eN,a⟩:=a;refine wE (fun st=>Ar QJ (eR st) (Cf (eR st)) (a23 bO f g i j m n o p q c d ZA _ a5.all a9.all bA.all bB.all bC.all eM eN)) ?_;rintro _ fC ⟨bD,rfl⟩;have dL:=eK.ext bD;refine wD (fun st=>C3 (eR st) (eR st))<|wn ?_;rcases Af (decide (x<eM)) with bR|bR
   ·replace a:=AD a bR;refine Aw rfl bR<|cn<|Ah<|AX<|cr<|wA (v:=I 0) rfl<|wn<|Ah<|cr<|wA (v:=I 0) rfl<|wn<|AX ?_;replace a:=bind_some a;obtain⟨bJ,bI,a⟩:=a;refine Co (fun cY t u=>(cY=.exit 2∧Fo X0 40 t∧sl t 1=pt aG 0∧sl t 3=.slice b aA.length y∧sl t 4=I x∧sl t 5=I bJ∧Hp FN [] w [ob b,some aG] u∧(fun aC=>Be (Ae .i64) 3 w.heap.size u aC b y aA∧Bk u aG 26 (Av g i j m n o p q c d f).toArray∧Sl AS u aC g i f.Ad∧Sl (Ae .i64) u aC j m f.Am∧Sl (Ae .i64) u aC n o f.AN∧Sl (Ae .i64) u aC p q f.Bx∧Sl Bd u aC c d f.Looks) (zf Z w [ob b,some aG]))) ?eO ?eP
    case eO=>
     clear a;refine Cn (fun bP t u=>∃aH,∃s,DY bO f x bP aH s=some bJ∧Fo X0 40 t∧sl t 1=pt aG 0∧sl t 3=.slice b aA.length y∧sl t 4=I x∧sl t 5=I aH∧sl t 6=I s∧Hp FN [] w [ob b,some aG] u∧(fun aC=>Be (Ae .i64) 3 w.heap.size u aC b y aA∧Bk u aG 26 (Av g i j m n o p q c d f).toArray∧Sl AS u aC g i f.Ad∧Sl (Ae .i64) u aC j m f.Am∧Sl (Ae .i64) u aC n o f.AN∧Sl (Ae .i64) u aC p q f.Bx∧Sl Bd u aC c d f.Looks) (zf Z w [ob b,some aG])) bO ?eQ ?eS
     case eQ=>
      intro st;have aP:=(a4.ext bD (Ab bD));have dH:=(bQ.ext bD);have ⟨cN,cO,cP,cQ,cR⟩:=C2 a5 a9 bA bB bC (Ab bD);exact⟨(0:Int),(0:Int),bI,qo st,sp st 1 cA,sp st 3 cB,sp st 4 cC,sp st 5 rfl,sp st 6 rfl,dL,aP,dH,cN,cO,cP,cQ,cR⟩
     case eS=>
      rintro(_|bP) e4 e5 ⟨aH,s,bI,dS,aD,bK,a3,bL,aO,cZ,aI,aB,aJ,aK,aL,aM,aE⟩
      ·exact absurd (show none=some _ from bI) (by simp)
      rw[DY.eq_2] at bI;have a:=bI;clear bI;refine ro dS<|Ah<|cr<|wM (v:=I s) aO<|wD (fun st=>Ac (ee st aD) (HB _ _))<|wD (fun st=>Ag (v:=.slice c f.Looks.length d) Im (eR st) aB rfl)<|wD (fun st=>BM Tryz.underlying24 (eR st))<|wD (fun st=>C3 (eR st) (eR st))<|wn ?_;rcases Af (decide (s<(f.Looks.length:Int))) with bS|bS
      ·replace a:=AD a bS;refine Aw rfl bS<|cn<|Ah<|AX<|Ah ?_;replace a:=bind_some a;obtain⟨c0,dT,a⟩:=a;replace a:=Bn a;obtain⟨i11,bE,dU,dV,dW,a⟩:=a;obtain⟨eT,eU,_,dX,rfl,dY⟩:=Sl.elem aE (by decide) dV;refine B1 9 [Kc (.agg (Av g i j m n o p q c d f).toArray),Kc (.agg (Av g i j m n o p q c d f).toArray),Kc (I x),Kv (Dd Fe) (zf Z w [ob b,some aG]) c0,Kc (pt aG 8),Kc (.slice c f.Looks.length d),Kc (I s),Kc (pt eT (eU+i11*3)),Kc (.agg #[I bE.Week,I bE.Bo,I bE.Bq])] mixed rfl rfl
           (Aa (oD (fun K=>AU (l:=(Av g i j m n o p q c d f)) Hr (es ((K.out 1 rfl).trans aD)) (aB.ext K.Al) rfl rfl))
           (Aa (oD (fun K=>AU (l:=(Av g i j m n o p q c d f)) Hr (es ((K.out 1 rfl).trans aD)) (aB.ext K.Al) rfl rfl))
           (Aa (oD (fun K=>Ay (es ((K.out 4 rfl).trans a3))))
           (Aa (oE (fun K=>(Ar Tu (rfl:Act.eval _ (.func 28)=_) (Dn (es (K.dq 1 21)) (es (K.dq 2 22))) (a28 bO f x g i j m n o p q c d (zf Z w [ob b,some aG]) _ (aJ.mv (Ab K.Al)) (aK.mv (Ab K.Al)) (aL.mv (Ab K.Al)) (aM.mv (Ab K.Al)) (aE.mv (Ab K.Al)) c0 dT)).mono (fun _ _ h=>⟨(Dd Fe).mv h.2 ((cZ.ext K.Al).EU (Nat.le_refl _)),h.1⟩)))
           (Aa (oD (fun K=>Ac (es ((K.out 1 rfl).trans aD)) (HB _ _)))
           (Aa (oD (fun K=>Ag Im (es (K.dq 4 24)) (aB.ext K.Al) rfl))
           (Aa (oD (fun K=>Ay (es ((K.out 6 rfl).trans aO))))
           (Aa (oD (fun K=>B9 (k:=i11) Tryz.underlying24 MY (es (K.dq 5 25)) dX (es (K.dq 6 26)) dU dW))
           (Aa (oD (fun K=>CN (l:=[I bE.Week,I bE.Bo,I bE.Bq]) XQ (es (K.dq 7 27)) (dY.mv (Ab K.Al)) rfl rfl))
           (BH _)))))))))) ?_
       intro fD;rintro _ rfl _ rfl _ rfl _ ⟨_,rfl,⟨cS,cT,cU,cV,rfl,bU,bV⟩⟩ _ rfl _ rfl _ rfl _ rfl _ rfl a2;have eV:=cZ.ext a2;have ⟨aQ,aR,aS,aT,aU⟩:=C2 aJ aK aL aM aE (Ab a2);replace a:=bind_some a;obtain⟨dM,dZ,a⟩:=a;refine wE (fun st=>Ar XS (eR st) (EV (eR st) (eR st) (eR st)) (a62 bO f c0 bE g i j m n o p q c d cS cT cU cV ZA _ aQ.all aR.all aS.all aT.all aU.all bU.all bV.all dM dZ)) ?_;rintro _ e6 ⟨aF,rfl⟩;have dN:=eV.ext aF;refine wn ?_;rcases Af (dM) with bF|bF
       ·replace a:=AD a bF;refine Aw rfl bF<|Aj<|wM (v:=I aH) bL<|wM (v:=I s) aO ?_;replace a:=He a;obtain⟨d0,a⟩:=a;refine wD (fun st=>Iw (k:=.u64) Qq Tryz.underlying32 (eR st) d0) ?_;replace a:=KD a;obtain⟨d1,a⟩:=a;refine wD (fun st=>Pp (eR st) (eR st) d1) ?_;replace a:=OT a;obtain⟨d2,a⟩:=a;refine wD (fun st=>Ze (eR st) (eR st) d2)<|wA (v:=I (PQ aH (G1 (1:Int) s))) rfl<|AJ<|Ef<|Aj<|wM (v:=I s) aO ?_;replace a:=AT a;obtain⟨d3,a⟩:=a;refine wD (fun st=>BV (eR st) (eR st) d3)<|wA (v:=I (s+1)) rfl<|AJ ?_;have aV:=((aI.ext a2 (Ab a2)).ext aF (Ab aF));have bM:=((aB.ext a2).ext aF);have ⟨aW,aX,aY,aZ,a0⟩:=C2 aQ aR aS aT aU (Ab aF);refine BN bP (Nat.lt_succ_self _) (fun st=>?_);exact⟨(PQ aH (G1 (1:Int) s)),(s+1),a,qo st,sp st 1 aD,sp st 3 bK,sp st 4 a3,sp st 5 rfl,sp st 6 rfl,dN,aV,bM,aW,aX,aY,aZ,a0⟩
       ·replace a:=AE a bF;refine AI rfl bF<|B5<|Ef<|Aj<|wM (v:=I s) aO ?_;replace a:=AT a;obtain⟨d4,a⟩:=a;refine wD (fun st=>BV (eR st) (eR st) d4)<|wA (v:=I (s+1)) rfl<|AJ ?_;have aV:=((aI.ext a2 (Ab a2)).ext aF (Ab aF));have bM:=((aB.ext a2).ext aF);have ⟨aW,aX,aY,aZ,a0⟩:=C2 aQ aR aS aT aU (Ab aF);refine BN bP (Nat.lt_succ_self _) (fun st=>?_);exact⟨aH,(s+1),a,qo st,sp st 1 aD,sp st 3 bK,sp st 4 a3,sp st 5 bL,sp st 6 rfl,dN,aV,bM,aW,aX,aY,aZ,a0⟩
      ·replace a:=AE a bS;refine AI rfl bS<|FF ?_;obtain rfl:=oi a;refine Cj (fun st=>?_);exact⟨rfl,qo st,sp st 1 aD,sp st 3 bK,sp st 4 a3,sp st 5 bL,cZ,aI,aB,aJ,aK,aL,aM,aE⟩
    case eP=>
     rintro cY eY e7 (⟨rfl,dI,c1,c2,c3,c4,c5,bW,c6,bX,bY,bZ,b1,b2⟩);refine lf dI<|BE<|AL<|Aj<|wM (v:=.slice b aA.length y) c2<|wM (v:=I bJ) c4<|wE (fun st=>Cw (e:=3) (vs:= #[(0,I bJ)]) (cs:= #[I bJ]) (Jj (eR st)) (by kernel_rfl)) ?_;rintro _ e8 ⟨e9,rfl,aN⟩;have bT:=c5.nb aN;have eW:=c5.BZ aN;have cW:=(bW.ext aN.gr (Ai aN));replace a:=D2 a;obtain⟨c7,a⟩:=a;refine wE (fun st=>IN (ys:=[bJ]) Tryz.underlying23 H6 rfl rfl (by decide) (eR st) rfl (eR st) cW (I7 (Bw:=[[I bJ]]) aN.bk ⟨rfl,trivial⟩ rfl) (by have:=c7;simp only[maxLen];omega) (by have:=c7;omega) bT.sz (by simp)) ?_;rintro _ fA ⟨dO,dP,rfl,bN,b3,d5⟩;have d6:=bT.row bN 1 rfl b3;have d7:=E4 d5 (bT.CM bN 1 rfl (fun k d8=>(b3 k d8).1));refine wA (v:=.slice dO ((aA++[bJ]).length) dP) rfl<|AJ<|Ef<|Aj<|wM (v:=I x) c3 ?_;replace a:=AT a;obtain⟨d9,a⟩:=a;refine wD (fun st=>BV (eR st) (eR st) d9)<|wA (v:=I (x+1)) rfl<|AJ ?_;have eA:=d6.erase 0;have cX:=(d7.up (AB 0));have c8:=((c6.ext aN.gr).gr bN (bT.nq 2 1));have ⟨b4,b5,b6,b7,b8⟩:=C2 bX bY bZ b1 b2 (mt (Ai aN) (mt (bT.CM bN 1 rfl (fun k d8=>(b3 k d8).1)) (AB 0)));refine BN bP (Nat.lt_succ_self _) (fun st=>?_);exact⟨(aA++[bJ]),(x+1),dO,dP,a,qo st,sp st 1 c1,sp st 3 rfl,sp st 4 rfl,eA,cX,c8,b4,b5,b6,b7,b8⟩
   ·replace a:=AE a bR;refine AI rfl bR<|FF ?_;obtain rfl:=oi a;have aP:=(a4.ext bD (Ab bD));refine Cj (fun st=>?_);exact⟨rfl,b,y,qo st,sp st 3 cB,dL,aP⟩
 case eH=>
  rintro cY eZ fB (⟨rfl,r,z,dJ,c9,dA,bG⟩);refine lf dJ<|BE<|AL<|cr<|wM (v:=.slice r z2.length z) c9<|wA (v:=.slice r z2.length z) rfl<|wn<|Ap ?_;obtain rfl:=oi a;refine AA rfl rfl ?_;exact⟨dA.Bl,⟨_,_,rfl,dA.Jm (M:=[]) 0 rfl [] rfl trivial bG⟩⟩
theorem a27 aJ b e f g h i j l m c d(Z:Nat→Prop) w(o:Sl AS w Z e f b.Ad)(p:Sl (Ae .i64) w Z g h b.Am)(q:Sl (Ae .i64) w Z i j b.AN)(r:Sl (Ae .i64) w Z l m b.Bx)(s:Sl Bd w Z c d b.Looks) aC(a:GB aJ b=some aC):
 BW Tryz.prog 27 #[.agg (Av e f g h i j l m c d b).toArray] w (fun v w'=>Ext w w'∧(DP .i64).R w' (zf Z w []) v aC):=by
 unfold GB at a;refine rq (N:=9) Tryz.func27 fun aK aD aL=>?_;have u:=sA 0 aD;clear aD;have t:Hp FN [] w [] w:=Hp.start (BB.none w);have ⟨x,y,z,aA,aB⟩:=C2 o p q r s (BF (Z:=Z) (L:=[]) w);refine cr<|wE (fun st=>BQ (v:=.agg (Av e f g h i j l m c d b).toArray) (cs:=(Av e f g h i j l m c d b).toArray) (ee st u) rfl) ?_;rintro _ w1 ⟨aM,rfl,n⟩;have aE:=t.nb n;have aI:=t.BZ n;refine wA (v:=I 0) rfl<|wr<|wD (fun st=>Ac (eR st) (HB _ _))<|wD (fun st=>Ag (v:=.slice c b.Looks.length d) Im (eR st) n.bk rfl)<|wD (fun st=>BM Tryz.underlying24 (eR st)) ?_;replace a:=He a;obtain⟨aF,a⟩:=a;refine wD (fun st=>Iw (k:=.u64) Qq Tryz.underlying32 (eR st) aF) ?_;replace a:=KD a;obtain⟨aG,a⟩:=a;refine wD (fun st=>Pp (eR st) (eR st) aG) ?_;replace a:=AT a;obtain⟨aH,a⟩:=a;refine wD (fun st=>HR (eR st) (eR st) aH)<|wA (v:=I ((G1 (1:Int) (b.Looks.length:Int))-1)) rfl<|wn<|Ap ?_;obtain rfl:=oi a;refine AA rfl rfl ?_;exact⟨aE.Bl,rfl⟩
theorem a9 bU s d f g i j m n o p q(Z:Nat→Prop) w(cK:Sl AS w Z d f s.Ad)(cL:Sl (Ae .i64) w Z g i s.Am)(cM:Sl (Ae .i64) w Z j m s.AN)(cN:Sl (Ae .i64) w Z n o s.Bx)(cO:Sl Bd w Z p q s.Looks) c7(a:FY bU s=some c7):
 BW Tryz.prog 9 #[.agg (Av d f g i j m n o p q s).toArray] w (fun v w'=>Ext w w'∧(HC Fe).R w' (zf Z w []) v c7):=by
 unfold FY at a;refine rq (N:=28) Tryz.func9 fun dX c8 dY=>?_;have cZ:=sA 0 c8;clear c8;have cT:Hp FN [] w [] w:=Hp.start (BB.none w);have ⟨bV,bW,bX,bY,bZ⟩:=C2 cK cL cM cN cO (BF (Z:=Z) (L:=[]) w);refine cr<|wE (fun st=>BQ (v:=.agg (Av d f g i j m n o p q s).toArray) (cs:=(Av d f g i j m n o p q s).toArray) (ee st cZ) rfl) ?_;rintro _ w1 ⟨bJ,rfl,bO⟩;have cU:=cT.nb bO;have dS:=cT.BZ bO;refine wA (v:=.slice none 0 0) rfl<|wr<|wD (fun st=>AU (l:=(Av d f g i j m n o p q s)) Hr (eR st) bO.bk rfl rfl) ?_;have ⟨bC,bD,bE,bF,bG⟩:=C2 bV bW bX bY bZ (Ai bO);replace a:=bind_some a;obtain⟨r2,c9,a⟩:=a;refine wE (fun st=>Ar XT (eR st) (Cf (eR st)) (a26 bU s d f g i j m n o p q (zf Z w [some bJ]) _ bC bD bE bF bG r2 c9)) ?_;rintro _ dT ⟨cD,⟨aP,aQ,rfl,a3⟩⟩;have dA:=cU.ext cD;have a3:=a3.mv (cU.EU (Nat.le_refl _));refine wA (v:=.slice aP r2.length aQ) rfl<|wr<|wA (v:=.slice none 0 0) rfl<|wn<|Ah<|cr<|wA (v:=I 0) rfl<|wn<|AX ?_;have dB:=dA.nil;have dC:Be Fe 50 w.heap.size dT (zf Z w [none,some bJ]) none 0 ([]:List Bb):=Be.nil _ _ _ _ _;replace a:=bind_some a;obtain⟨z4,bH,a⟩:=a;refine Co (fun dD aX aY=>(dD=.exit 0∧∃b t,Fo X0 28 aX∧sl aX 4=.slice b z4.length t∧Hp FN [] w [ob b,some bJ] aY∧Be Fe 50 w.heap.size aY (zf Z w [ob b,some bJ]) b t z4)) ?dE ?dF
 case dE=>
  clear a;refine Cn (fun cP aX aY=>∃x,∃c,∃r z,Du bU s r2 cP x c=some z4∧Fo X0 28 aX∧sl aX 1=pt bJ 0∧sl aX 3=.slice aP r2.length aQ∧sl aX 4=.slice r x.length z∧sl aX 5=I c∧Hp FN [] w [ob r,some bJ] aY∧(fun bQ=>Be Fe 50 w.heap.size aY bQ r z x∧Bk aY bJ 26 (Av d f g i j m n o p q s).toArray∧Sl AS aY bQ d f s.Ad∧Sl (Ae .i64) aY bQ g i s.Am∧Sl (Ae .i64) aY bQ j m s.AN∧Sl (Ae .i64) aY bQ n o s.Bx∧Sl Bd aY bQ p q s.Looks∧Sl (Ae .i64) aY bQ aP aQ r2) (zf Z w [ob r,some bJ])) bU ?dG ?dH
  case dG=>
   intro st;have cQ:=(bO.bk.ext cD);have ⟨b1,b2,b3,b4,b5⟩:=C2 bC bD bE bF bG (mt (Ab cD) BD);have bR:=(a3.mv BD);exact⟨([]:List Bb),(0:Int),none,0,bH,qo st,sp st 1 rfl,sp st 3 rfl,sp st 4 rfl,sp st 5 rfl,dB,dC,cQ,b1,b2,b3,b4,b5,bR⟩
  case dH=>
   rintro(_|cP) dZ d0 ⟨x,c,r,z,bH,c0,aZ,a0,bK,aR,cV,aH,a4,aI,aJ,aK,aL,aM,y⟩
   ·exact absurd (show none=some _ from bH) (by simp)
   rw[Du.eq_2] at bH;have a:=bH;clear bH;refine ro c0<|Ah<|cr<|wM (v:=I c) aR<|wM (v:=.slice aP r2.length aQ) a0<|wD (fun st=>BM Tryz.underlying23 (eR st))<|wD (fun st=>C3 (eR st) (eR st))<|wn ?_;rcases Af (decide (c<(r2.length:Int))) with bP|bP
   ·replace a:=AD a bP;refine Aw rfl bP<|cn<|Ah<|AX<|Ah ?_;replace a:=Bn a;obtain⟨i8,dI,dJ,dK,dL,a⟩:=a;obtain⟨dU,dV,_,dM,rfl,dN⟩:=Sl.C4 y rfl dK;replace a:=bind_some a;obtain⟨c1,dO,a⟩:=a;refine B1 6 [Kc (.slice aP r2.length aQ),Kc (I c),Kc (pt dU (dV+i8)),Kc (I dI),Kc (.agg (Av d f g i j m n o p q s).toArray),Kc (I c1)] mixed rfl rfl
        (Aa (oD (fun K=>Ay (es ((K.out 3 rfl).trans a0))))
        (Aa (oD (fun K=>Ay (es ((K.out 5 rfl).trans aR))))
        (Aa (oD (fun K=>Bu (k:=i8) Tryz.underlying23 CG (es (K.dq 0 14)) dM (es (K.dq 1 15)) dJ dL))
        (Aa (oD (fun K=>BJ AV (es (K.dq 2 16)) (dN.mv (Ab K.Al)) rfl))
        (Aa (oD (fun K=>AU (l:=(Av d f g i j m n o p q s)) Hr (es ((K.out 1 rfl).trans aZ)) (a4.ext K.Al) rfl rfl))
        (Aa (oE (fun K=>(Ar XU (rfl:Act.eval _ (.func 27)=_) (Cf (es (K.dq 4 18))) (a27 bU s d f g i j m n o p q ZA _ (aI.mv (Ab K.Al)).all (aJ.mv (Ab K.Al)).all (aK.mv (Ab K.Al)).all (aL.mv (Ab K.Al)).all (aM.mv (Ab K.Al)).all c1 dO)).mono (fun _ _ h=>⟨h.2,h.1⟩)))
        (BH _))))))) ?_
    intro d6;rintro _ rfl _ rfl _ rfl _ rfl _ rfl _ rfl aF;have cE:=cV.ext aF;refine wD (fun st=>Ew (eR st) (eR st))<|wn ?_;rcases Af (dI==c1) with a5|a5
    ·replace a:=AD a a5;refine Aw rfl a5<|Aj<|wM (v:=.slice r x.length z) bK ?_;have a2:=(a4.ext aF);refine wD (fun st=>AU (l:=(Av d f g i j m n o p q s)) Hr (ee st aZ) a2 rfl rfl)<|wM (v:=I c) aR ?_;have ⟨aA,aB,aC,aD,aE⟩:=C2 aI aJ aK aL aM (Ab aF);replace a:=bind_some a;obtain⟨aG,c2,a⟩:=a;refine wE (fun st=>Ar Tu (eR st) (Dn (eR st) (eR st)) (a28 bU s c d f g i j m n o p q (zf Z w [ob r,some bJ]) _ aA aB aC aD aE aG c2)) ?_;rintro _ d1 ⟨aS,⟨_,rfl,⟨aT,aU,aV,aW,rfl,aN,aO⟩⟩⟩;have cW:=cE.ext aS;have ⟨aN,aO⟩:=Gr aN aO (cE.EU (Nat.le_refl _));refine wE (fun st=>Cw (e:=50) (vs:= #[(0,.agg #[.slice aT aG.Ad.length aU,.slice aV aG.Am.length aW])]) (cs:= #[.slice aT aG.Ad.length aU,.slice aV aG.Am.length aW]) (Jj (eR st)) (by kernel_rfl)) ?_;rintro _ d2 ⟨d3,rfl,u⟩;have bI:=cW.nb u;have dP:=cW.BZ u;have b6:=(((aH.ext aF (Ab aF)).ext aS (Ab aS)).ext u.gr (Ai u));replace a:=D2 a;obtain⟨cF,a⟩:=a;have ⟨bL,bM⟩:=Gr aN aO (Ai u);refine wE (fun st=>IN (ys:=[aG]) Tryz.underlying33 WC rfl rfl (by decide) (eR st) rfl (eR st) b6 (I7 (Bw:=[[.slice aT aG.Ad.length aU,.slice aV aG.Am.length aW]]) u.bk ⟨⟨_,_,_,_,rfl,bL,bM⟩,trivial⟩ rfl) (by have:=cF;simp only[maxLen];omega) (by have:=cF;omega) bI.sz (by simp)) ?_;rintro _ d4 ⟨cX,cY,rfl,bA,bN,c3⟩;have dQ:=bI.row bA 1 rfl bN;have c4:=E4 c3 (bI.CM bA 1 rfl (fun k cG=>(bN k cG).1));refine wA (v:=.slice cX ((x++[aG]).length) cY) rfl<|AJ<|Ef<|Aj<|wM (v:=I c) aR ?_;replace a:=AT a;obtain⟨c5,a⟩:=a;refine wD (fun st=>BV (eR st) (eR st) c5)<|wA (v:=I (c+1)) rfl<|AJ ?_;have dR:=dQ.erase 0;have cH:=(c4.up (AB 0));have cR:=(((a2.ext aS).ext u.gr).gr bA (bI.nq 2 1));have ⟨b7,b8,b9,cA,cB⟩:=C2 aA aB aC aD aE (mt (Ab aS) (mt (Ai u) (mt (bI.CM bA 1 rfl (fun k cG=>(bN k cG).1)) (AB 0))));have bS:=(((((y.mv (Ab aF)).mv (Ab aS)).mv (Ai u)).mv (bI.CM bA 1 rfl (fun k cG=>(bN k cG).1))).mv (AB 0));refine BN cP (Nat.lt_succ_self _) (fun st=>?_);exact⟨(x++[aG]),(c+1),cX,cY,a,qo st,sp st 1 aZ,sp st 3 a0,sp st 4 rfl,sp st 5 rfl,dR,cH,cR,b7,b8,b9,cA,cB,bS⟩
    ·replace a:=AE a a5;refine AI rfl a5<|B5<|Ef<|Aj<|wM (v:=I c) aR ?_;replace a:=AT a;obtain⟨c6,a⟩:=a;refine wD (fun st=>BV (eR st) (eR st) c6)<|wA (v:=I (c+1)) rfl<|AJ ?_;have cC:=(aH.ext aF (Ab aF));have a2:=(a4.ext aF);have ⟨aA,aB,aC,aD,aE,bT⟩:=JI aI aJ aK aL aM y (Ab aF);refine BN cP (Nat.lt_succ_self _) (fun st=>?_);exact⟨x,(c+1),r,z,a,qo st,sp st 1 aZ,sp st 3 a0,sp st 4 bK,sp st 5 rfl,cE,cC,a2,aA,aB,aC,aD,aE,bT⟩
   ·replace a:=AE a bP;refine AI rfl bP<|FF ?_;obtain rfl:=oi a;refine Cj (fun st=>?_);exact⟨rfl,r,z,qo st,sp st 4 bK,cV,aH⟩
 case dF=>
  rintro dD dW d5 (⟨rfl,b,t,cS,cI,cJ,bB⟩);refine lf cS<|BE<|AL<|cr<|wM (v:=.slice b z4.length t) cI<|wA (v:=.slice b z4.length t) rfl<|wn<|Ap ?_;obtain rfl:=oi a;refine AA rfl rfl ?_;exact⟨cJ.Bl,⟨_,_,rfl,cJ.Jm (M:=[]) 0 rfl [] rfl trivial bB⟩⟩
theorem a8 aS r(Z:Nat→Prop) w aT(a:GC aS r=some aT):
 BW Tryz.prog 8 #[I r] w (fun v w'=>Ext w w'∧(HC (Ae .i64)).R w' (zf Z w []) v aT):=by
 unfold GC at a;refine rq (N:=23) Tryz.func8 fun bG aU bH=>?_;have aM:=sA 0 aU;clear aU;have aV:Hp FN [] w [] w:=Hp.start (BB.none w);refine cr<|wA (v:=.slice none 0 0) rfl<|wr<|wA (v:=.slice none 0 0) rfl<|wn<|Ah<|cr<|wA (v:=I 0) rfl<|wn<|AX ?_;have aW:=aV.nil;have aX:Be (Ae .i64) 3 w.heap.size w (zf Z w [none]) none 0 ([]:List Int):=Be.nil _ _ _ _ _;replace a:=bind_some a;obtain⟨y,p,a⟩:=a;refine Co (fun aY m z=>(aY=.exit 0∧∃c d,Fo X0 23 m∧sl m 3=.slice c y.length d∧Hp FN [] w [ob c] z∧Be (Ae .i64) 3 w.heap.size z (zf Z w [ob c]) c d y)) ?aZ ?a0
 case aZ=>
  clear a;refine Cn (fun aH m z=>∃g,∃b,∃f h,DM r aH g b=some y∧Fo X0 23 m∧sl m 0=I r∧sl m 3=.slice f g.length h∧sl m 4=I b∧Hp FN [] w [ob f] z∧Be (Ae .i64) 3 w.heap.size z (zf Z w [ob f]) f h g) aS ?a2 ?a3
  case a2=>
   intro st;exact⟨([]:List Int),(0:Int),none,0,p,qo st,sp st 0 aM,sp st 3 rfl,sp st 4 rfl,aW,aX⟩
  case a3=>
   rintro(_|aH) bI bJ ⟨g,b,f,h,p,aN,l,q,j,u,i⟩
   ·exact absurd (show none=some _ from p) (by simp)
   rw[DM.eq_2] at p;have a:=p;clear p;refine ro aN<|Ah<|cr<|wM (v:=I r) l<|wM (v:=I b) j ?_;replace a:=He a;obtain⟨a4,a⟩:=a;refine wD (fun st=>Iw (k:=.u64) Qq Tryz.underlying32 (eR st) a4) ?_;replace a:=L7 a;obtain⟨a5,a⟩:=a;refine wD (fun st=>R1 (eR st) (eR st) a5)<|wD (fun st=>F9 (eR st) (eR st))<|wn ?_;rcases Af (decide ((0:Int)<(FJ r b))) with s|s
   ·replace a:=AD a s;refine Aw rfl s<|cn<|Ah<|AX<|cr<|wM (v:=I r) l<|wM (v:=I b) j ?_;replace a:=He a;obtain⟨a9,a⟩:=a;refine wD (fun st=>Iw (k:=.u64) Qq Tryz.underlying32 (eR st) a9) ?_;replace a:=L7 a;obtain⟨bA,a⟩:=a;refine wD (fun st=>R1 (eR st) (eR st) bA) ?_;replace a:=Ic a;obtain⟨aJ,a⟩:=a;refine wD (fun st=>JX (eR st) (eR st) aJ.1 aJ.2)<|wD (fun st=>Ew (eR st) (eR st))<|wn ?_;rcases Af (((FJ r b)%2)==1) with t|t
    ·replace a:=AD a t;refine Aw rfl t<|Aj<|wM (v:=.slice f g.length h) q<|wM (v:=I b) j<|wE (fun st=>Cw (e:=3) (vs:= #[(0,I b)]) (cs:= #[I b]) (Jj (eR st)) (by kernel_rfl)) ?_;rintro _ bK ⟨bL,rfl,n⟩;have aA:=u.nb n;have bB:=u.BZ n;have x:=(i.ext n.gr (Ai n));replace a:=D2 a;obtain⟨aB,a⟩:=a;refine wE (fun st=>IN (ys:=[b]) Tryz.underlying23 H6 rfl rfl (by decide) (eR st) rfl (eR st) x (I7 (Bw:=[[I b]]) n.bk ⟨rfl,trivial⟩ rfl) (by have:=aB;simp only[maxLen];omega) (by have:=aB;omega) aA.sz (by simp)) ?_;rintro _ bM ⟨aK,aL,rfl,aC,aD,aO⟩;have bC:=aA.row aC 1 rfl aD;have aP:=E4 aO (aA.CM aC 1 rfl (fun k bE=>(aD k bE).1));refine wA (v:=.slice aK ((g++[b]).length) aL) rfl<|AJ<|Ef<|Aj<|wM (v:=I b) j ?_;replace a:=AT a;obtain⟨aQ,a⟩:=a;refine wD (fun st=>BV (eR st) (eR st) aQ)<|wA (v:=I (b+1)) rfl<|AJ ?_;have bD:=bC.erase 0;have aE:=(aP.up (AB 0));refine BN aH (Nat.lt_succ_self _) (fun st=>?_);exact⟨(g++[b]),(b+1),aK,aL,a,qo st,sp st 0 l,sp st 3 rfl,sp st 4 rfl,bD,aE⟩
    ·replace a:=AE a t;refine AI rfl t<|B5<|Ef<|Aj<|wM (v:=I b) j ?_;replace a:=AT a;obtain⟨aR,a⟩:=a;refine wD (fun st=>BV (eR st) (eR st) aR)<|wA (v:=I (b+1)) rfl<|AJ ?_;refine BN aH (Nat.lt_succ_self _) (fun st=>?_);exact⟨g,(b+1),f,h,a,qo st,sp st 0 l,sp st 3 q,sp st 4 rfl,u,i⟩
   ·replace a:=AE a s;refine AI rfl s<|FF ?_;obtain rfl:=oi a;refine Cj (fun st=>?_);exact⟨rfl,f,h,qo st,sp st 3 q,u,i⟩
 case a0=>
  rintro aY bF bN (⟨rfl,c,d,aI,aF,aG,o⟩);refine lf aI<|BE<|AL<|cr<|wM (v:=.slice c y.length d) aF<|wA (v:=.slice c y.length d) rfl<|wn<|Ap ?_;obtain rfl:=oi a;refine AA rfl rfl ?_;exact⟨aG.Bl,⟨_,_,rfl,aG.Jm (M:=[]) 0 rfl [] rfl trivial o⟩⟩
theorem Tz x c a b(Z:Nat→Prop) w(h:Sl (Ae .i64) w Z a b c) p(d:D0 x c=some p):
 BW Tryz.prog 34 #[.slice a c.length b] w (fun v w'=>Ext w w'∧(HC (Ae .i64)).R w' (zf Z w []) v p):=by
 unfold D0 at d;refine rq (N:=5) Tryz.func34 fun aB q aC=>?_;have o:=sA 0 q;clear q;have r:Hp FN [] w [] w:=Hp.start (BB.none w);have e:=h.mv (BF (Z:=Z) (L:=[]) w);refine cr<|wA (v:=.slice none 0 0) rfl<|wr<|wM (v:=.slice a c.length b) o ?_;have g:=r.nil;have s:Be (Ae .i64) 3 w.heap.size w (zf Z w [none]) none 0 ([]:List Int):=Be.nil _ _ _ _ _;replace d:=D2 d;obtain⟨i,d⟩:=d;have f:=(e.mv BD);refine wE (fun st=>Ix (ys:=c) Tryz.underlying23 H6 rfl rfl (by decide) (eR st) rfl (eR st) s f.n (by have:=i;simp only[maxLen];omega) (by have:=i;omega) g.sz) ?_;rintro _ aD ⟨y,z,rfl,j,l,t⟩;have m:=g.row j 0 rfl l;have u:=E4 t (g.CM j 0 rfl (fun k aA=>(l k aA).1));refine wA (v:=.slice y ((([]:List Int)++c).length) z) rfl<|wn<|Ap ?_;obtain rfl:=oi d;refine AA rfl rfl ?_;exact⟨m.Bl,⟨_,_,rfl,m.Jm (M:=[]) 0 rfl [] rfl trivial u⟩⟩
theorem Zb r a(Z:Nat→Prop) w i(j:Gp r a=some i):
 BW Tryz.prog 35 #[.agg #[I a.Lo,I a.Hi]] w (fun v w'=>Ext w w'∧(Dd AS).R w' (zf Z w []) v i):=by
 unfold Gp at j;refine rq (N:=8) Tryz.func35 fun s k t=>?_;have h:=sA 0 k;clear k;have e:Hp FN [] w [] w:=Hp.start (BB.none w);refine cr<|wE (fun st=>BQ (v:=.agg #[I a.Lo,I a.Hi]) (cs:= #[I a.Lo,I a.Hi]) (ee st h) rfl) ?_;rintro _ w1 ⟨u,rfl,d⟩;have f:=e.nb d;have p:=e.BZ d;refine wE (fun st=>Ch (cs:= #[I 0,I 0]) Jv rfl) ?_;rintro _ w2 ⟨x,rfl,b⟩;have m:=f.nb b;have q:=f.BZ b;refine wr<|wD (fun st=>Ac (eR st) (Lc _ _)) ?_;have c:=(d.bk.ext b.gr);refine wD (fun st=>Ag (v:=I a.Lo) AV (eR st) c rfl)<|wD (fun st=>Ac (eR st) (MW _ _))<|wD (fun st=>Ag (v:=I a.Hi) AV (eR st) c rfl)<|wD (fun st=>Dj (vs:= #[(0,I a.Lo),(1,I a.Hi)]) (v:=.agg #[I a.Lo,I a.Hi]) (JD (eR st) (eR st)) (by kernel_rfl))<|BC rfl rfl (fun st=>Bt (n:=2) (l:=[I a.Lo,I a.Hi]) (Cm:= #[I a.Lo,I a.Hi]) (eR st) (eR st) HU b.bk rfl rfl (show 0+2≤2 by decide) (AW rfl) rfl) ?_;rintro _ y g;have o:=m.gr g.gr 0 rfl;refine wn<|Ap ?_;obtain rfl:=oi j;refine Gk (v:=.agg #[I a.Lo,I a.Hi]) rfl rfl (DV FD g.bk rfl rfl) ?_;exact⟨o.Bl,⟨_,rfl,rfl⟩⟩
set_option maxHeartbeats 4000000 in
theorem Zc dO s bU bV bH bI bJ bK bL bM bQ bR(Z:Nat→Prop) w(hH:Sl AS w Z bU bV s.Ad)(hI:Sl (Ae .i64) w Z bH bI s.Am)(hJ:Sl (Ae .i64) w Z bJ bK s.AN)(hL:Sl (Ae .i64) w Z bL bM s.Bx)(hM:Sl Bd w Z bQ bR s.Looks) i3(aS:Fj dO s=some i3):
 BW Tryz.prog 11 #[.agg (Av bU bV bH bI bJ bK bL bM bQ bR s).toArray] w (fun v w'=>Ext w w'∧(Dd MN).R w' (zf Z w []) v i3):=by
 unfold Fj at aS;refine rq (N:=69) Tryz.func11 fun jV i4 jW=>?_;have hY:=sA 0 i4;clear i4;have hS:Hp FN [] w [] w:=Hp.start (BB.none w);have ⟨gD,dR,dS,dT,gE⟩:=C2 hH hI hJ hL hM (BF (Z:=Z) (L:=[]) w);refine cr<|wE (fun st=>BQ (v:=.agg (Av bU bV bH bI bJ bK bL bM bQ bR s).toArray) (cs:=(Av bU bV bH bI bJ bK bL bM bQ bR s).toArray) (ee st hY) rfl) ?_;rintro _ w1 ⟨bB,rfl,c6⟩;have hT:=hS.nb c6;have jM:=hS.BZ c6;refine wE (fun st=>Ch (cs:= #[I 0,.slice none 0 0,.slice none 0 0,.slice none 0 0,.slice none 0 0,I 0,I 0,I 0,.slice none 0 0]) RO rfl) ?_;rintro _ w2 ⟨bO,rfl,cO⟩;have i5:=hT.nb cO;have jN:=hT.BZ cO;refine wn<|Ah ?_;have i6:=i5.nil;have b4:=(c6.bk.ext cO.gr);have gF:=(((dR.mv (Ai c6)).mv (Ai cO)).mv BD);replace aS:=bind_some aS;obtain⟨bW,i7,aS⟩:=aS;have gG:=(((dS.mv (Ai c6)).mv (Ai cO)).mv BD);replace aS:=bind_some aS;obtain⟨bX,i8,aS⟩:=aS;have gH:=(((dT.mv (Ai c6)).mv (Ai cO)).mv BD);replace aS:=bind_some aS;obtain⟨bY,i9,aS⟩:=aS;obtain⟨jP,aW⟩:∃j6:(Nat→Bool)→(Nat→Value)→World→Prop,j6=(fun D V aY=>∃(aE:Option Nat) (b:Nat) (c:Option Addr) (d:Nat) (f:Option Addr) (g:Nat) (i:Option Addr) (j:Nat),Hp FN [] w [aE,some bO,some bB] aY∧Ext w2 aY∧(∀dP,Mv w2 (ZZ FN [] dP w.heap.size [none,some bO,some bB]) aY (ZZ FN [] dP w.heap.size [aE,some bO,some bB]))∧(∀dQ,aE=some dQ→w2.heap.size≤dQ)∧(D 18=false→aE=none)∧(D 0=true→V 0=pt bB 0)∧(D 1=true→V 1=I s.Ao)∧(D 2=true→V 2=pt bB 2)∧(D 3=true→V 3=.slice bH s.Am.length bI)∧(D 4=true→V 4=.slice c bW.length d∧Sl (Ae .i64) aY (zf Z w [aE,some bO,some bB]) c d bW)∧(D 5=true→V 5=pt bB 3)∧(D 6=true→V 6=.slice bJ s.AN.length bK)∧(D 7=true→V 7=.slice f bX.length g∧Sl (Ae .i64) aY (zf Z w [aE,some bO,some bB]) f g bX)∧(D 8=true→V 8=pt bB 4)∧(D 9=true→V 9=.slice bL s.Bx.length bM)∧(D 10=true→V 10=.slice i bY.length j∧Sl (Ae .i64) aY (zf Z w [aE,some bO,some bB]) i j bY)∧(D 11=true→V 11=pt bB 5)∧(D 12=true→V 12=I s.Ct)∧(D 13=true→V 13=pt bB 6)∧(D 14=true→V 14=I s.CF)∧(D 15=true→V 15=pt bB 7)∧(D 16=true→V 16=I s.Trod)∧(D 17=true→V 17=.agg #[I s.Ao,.slice none 0 0,.slice c bW.length d,.slice f bX.length g,.slice i bY.length j,I s.Ct,I s.CF,I s.Trod,.slice none 0 0])∧(D 18=true→Bk aY b 42 #[I 0,.slice none 0 0,.slice none 0 0,.slice none 0 0,.slice none 0 0,I 0,I 0,I 0,.slice none 0 0])∧(D 18=true→V 18=pt b 0∧aE=some b∧w.heap.size≤b)):=⟨_,rfl⟩;refine J8 19 jP mixed rfl rfl (by rw[aW];exact⟨none,0,none,0,none,0,none,0,(i6.ext (CT _)),CT _,fun _=>Ab (CT _),fun _ aQ=>(by cases aQ),fun _=>rfl,fun aQ=>absurd (show false=true from aQ) (by decide),fun aQ=>absurd (show false=true from aQ) (by decide),fun aQ=>absurd (show false=true from aQ) (by decide),fun aQ=>absurd (show false=true from aQ) (by decide),fun aQ=>absurd (show false=true from aQ) (by decide),fun aQ=>absurd (show false=true from aQ) (by decide),fun aQ=>absurd (show false=true from aQ) (by decide),fun aQ=>absurd (show false=true from aQ) (by decide),fun aQ=>absurd (show false=true from aQ) (by decide),fun aQ=>absurd (show false=true from aQ) (by decide),fun aQ=>absurd (show false=true from aQ) (by decide),fun aQ=>absurd (show false=true from aQ) (by decide),fun aQ=>absurd (show false=true from aQ) (by decide),fun aQ=>absurd (show false=true from aQ) (by decide),fun aQ=>absurd (show false=true from aQ) (by decide),fun aQ=>absurd (show false=true from aQ) (by decide),fun aQ=>absurd (show false=true from aQ) (by decide),fun aQ=>absurd (show false=true from aQ) (by decide),fun aQ=>absurd (show false=true from aQ) (by decide),fun aQ=>absurd (show false=true from aQ) (by decide)⟩)
     ⟨sj (k:=0) rfl (fun D V a' w' K a=>by
          rw[aW] at a;refine X4 a fun aE b c d a=>X4 a fun f g i j a=>Y8 a fun aT aU aX m o _ aH aI a=>Y8 a fun aJ aF aK aL aG aM aN r a=>Y8 a fun x y z aA aB aC aP p a=>?_;have aD:=a;exact(Ac (es ((K.out 1 rfl).trans rfl)) (Hz _ _)).mono fun v Bc ⟨a5,a9⟩=>by subst a5;subst a9;rw[aW];exact⟨aE,b,c,d,f,g,i,j,aT,aU,aX,m,o,fun _=>rfl,aH,aI,aJ,aF,aK,aL,aG,aM,aN,r,x,y,z,aA,aB,aC,aP,p,aD⟩),
      sj (k:=1) rfl (fun D V a' w' K a=>by
          rw[aW] at a;refine X4 a fun aE b c d a=>X4 a fun f g i j a=>Y8 a fun aT aU aX m o aO _ aI a=>Y8 a fun aJ aF aK aL aG aM aN r a=>Y8 a fun x y z aA aB aC aP p a=>?_;have aD:=a;have f2:=aO (K.dn 0 rfl);exact(Ag (v:=I s.Ao) AV (es (t:=6) (v:=pt bB 0) ((K.dq 0 6).trans f2)) (b4.ext aU) rfl).mono fun v Bc ⟨a5,a9⟩=>by subst a5;subst a9;rw[aW];exact⟨aE,b,c,d,f,g,i,j,aT,aU,aX,m,o,aO,fun _=>rfl,aI,aJ,aF,aK,aL,aG,aM,aN,r,x,y,z,aA,aB,aC,aP,p,aD⟩),
      sj (k:=2) rfl (fun D V a' w' K a=>by
          rw[aW] at a;refine X4 a fun aE b c d a=>X4 a fun f g i j a=>Y8 a fun aT aU aX m o aO aH _ a=>Y8 a fun aJ aF aK aL aG aM aN r a=>Y8 a fun x y z aA aB aC aP p a=>?_;have aD:=a;exact(Ac (es ((K.out 1 rfl).trans rfl)) (Kd _ _)).mono fun v Bc ⟨a5,a9⟩=>by subst a5;subst a9;rw[aW];exact⟨aE,b,c,d,f,g,i,j,aT,aU,aX,m,o,aO,aH,fun _=>rfl,aJ,aF,aK,aL,aG,aM,aN,r,x,y,z,aA,aB,aC,aP,p,aD⟩),
      sj (k:=3) rfl (fun D V a' w' K a=>by
          rw[aW] at a;refine X4 a fun aE b c d a=>X4 a fun f g i j a=>Y8 a fun aT aU aX m o aO aH aI a=>Y8 a fun _ aF aK aL aG aM aN r a=>Y8 a fun x y z aA aB aC aP p a=>?_;have aD:=a;have f3:=aI (K.dn 2 rfl);exact(Ag (v:=.slice bH s.Am.length bI) BY (es (t:=8) (v:=pt bB 2) ((K.dq 2 8).trans f3)) (b4.ext aU) rfl).mono fun v Bc ⟨a5,a9⟩=>by subst a5;subst a9;rw[aW];exact⟨aE,b,c,d,f,g,i,j,aT,aU,aX,m,o,aO,aH,aI,fun _=>rfl,aF,aK,aL,aG,aM,aN,r,x,y,z,aA,aB,aC,aP,p,aD⟩),
      sj (k:=4) rfl (fun D V a' w' K a=>by
          rw[aW] at a;refine X4 a fun aE b c d a=>X4 a fun f g i j a=>Y8 a fun aT aU aX m o aO aH aI a=>Y8 a fun aJ _ aK aL aG aM aN r a=>Y8 a fun x y z aA aB aC _ p a=>?_;have aD:=a;have f4:=aJ (K.dn 3 rfl);refine(Ar MC rfl (Cf (es (t:=9) (v:=.slice bH s.Am.length bI) ((K.dq 3 9).trans f4))) (Tz dO s.Am bH bI _ _ (gF.mv (aX _)) bW i7)).mono ?_;rintro v Bc ⟨bC,⟨c,d,rfl,cP⟩⟩;rw[aW];exact⟨aE,b,c,d,f,g,i,j,(aT.ext bC),(Ext.trans aU bC),(fun dP=>(aX dP).trans (Ab bC)),m,o,aO,aH,aI,aJ,fun _=>⟨rfl,cP.mv (aT.EU (Nat.le_refl _))⟩,aK,aL,fun aQ=>⟨(aG aQ).1,((aG aQ).2.mv (Ab bC))⟩,aM,aN,fun aQ=>⟨(r aQ).1,((r aQ).2.mv (Ab bC))⟩,x,y,z,aA,aB,aC,fun aQ=>(Jn K.me (K.down 17 _ rfl aQ 4 rfl)).elim,fun aQ=>((p aQ).ext bC),aD⟩),
      sj (k:=5) rfl (fun D V a' w' K a=>by
          rw[aW] at a;refine X4 a fun aE b c d a=>X4 a fun f g i j a=>Y8 a fun aT aU aX m o aO aH aI a=>Y8 a fun aJ aF _ aL aG aM aN r a=>Y8 a fun x y z aA aB aC aP p a=>?_;have aD:=a;exact(Ac (es ((K.out 1 rfl).trans rfl)) (HA _ _)).mono fun v Bc ⟨a5,a9⟩=>by subst a5;subst a9;rw[aW];exact⟨aE,b,c,d,f,g,i,j,aT,aU,aX,m,o,aO,aH,aI,aJ,aF,fun _=>rfl,aL,aG,aM,aN,r,x,y,z,aA,aB,aC,aP,p,aD⟩),
      sj (k:=6) rfl (fun D V a' w' K a=>by
          rw[aW] at a;refine X4 a fun aE b c d a=>X4 a fun f g i j a=>Y8 a fun aT aU aX m o aO aH aI a=>Y8 a fun aJ aF aK _ aG aM aN r a=>Y8 a fun x y z aA aB aC aP p a=>?_;have aD:=a;have f5:=aK (K.dn 5 rfl);exact(Ag (v:=.slice bJ s.AN.length bK) BY (es (t:=11) (v:=pt bB 3) ((K.dq 5 11).trans f5)) (b4.ext aU) rfl).mono fun v Bc ⟨a5,a9⟩=>by subst a5;subst a9;rw[aW];exact⟨aE,b,c,d,f,g,i,j,aT,aU,aX,m,o,aO,aH,aI,aJ,aF,aK,fun _=>rfl,aG,aM,aN,r,x,y,z,aA,aB,aC,aP,p,aD⟩),
      sj (k:=7) rfl (fun D V a' w' K a=>by
          rw[aW] at a;refine X4 a fun aE b c d a=>X4 a fun f g i j a=>Y8 a fun aT aU aX m o aO aH aI a=>Y8 a fun aJ aF aK aL _ aM aN r a=>Y8 a fun x y z aA aB aC _ p a=>?_;have aD:=a;have f6:=aL (K.dn 6 rfl);refine(Ar MC rfl (Cf (es (t:=12) (v:=.slice bJ s.AN.length bK) ((K.dq 6 12).trans f6))) (Tz dO s.AN bJ bK _ _ (gG.mv (aX _)) bX i8)).mono ?_;rintro v Bc ⟨bC,⟨f,g,rfl,cQ⟩⟩;rw[aW];exact⟨aE,b,c,d,f,g,i,j,(aT.ext bC),(Ext.trans aU bC),(fun dP=>(aX dP).trans (Ab bC)),m,o,aO,aH,aI,aJ,fun aQ=>⟨(aF aQ).1,((aF aQ).2.mv (Ab bC))⟩,aK,aL,fun _=>⟨rfl,cQ.mv (aT.EU (Nat.le_refl _))⟩,aM,aN,fun aQ=>⟨(r aQ).1,((r aQ).2.mv (Ab bC))⟩,x,y,z,aA,aB,aC,fun aQ=>(Jn K.me (K.down 17 _ rfl aQ 7 rfl)).elim,fun aQ=>((p aQ).ext bC),aD⟩),
      sj (k:=8) rfl (fun D V a' w' K a=>by
          rw[aW] at a;refine X4 a fun aE b c d a=>X4 a fun f g i j a=>Y8 a fun aT aU aX m o aO aH aI a=>Y8 a fun aJ aF aK aL aG _ aN r a=>Y8 a fun x y z aA aB aC aP p a=>?_;have aD:=a;exact(Ac (es ((K.out 1 rfl).trans rfl)) (MX _ _)).mono fun v Bc ⟨a5,a9⟩=>by subst a5;subst a9;rw[aW];exact⟨aE,b,c,d,f,g,i,j,aT,aU,aX,m,o,aO,aH,aI,aJ,aF,aK,aL,aG,fun _=>rfl,aN,r,x,y,z,aA,aB,aC,aP,p,aD⟩),
      sj (k:=9) rfl (fun D V a' w' K a=>by
          rw[aW] at a;refine X4 a fun aE b c d a=>X4 a fun f g i j a=>Y8 a fun aT aU aX m o aO aH aI a=>Y8 a fun aJ aF aK aL aG aM _ r a=>Y8 a fun x y z aA aB aC aP p a=>?_;have aD:=a;have f7:=aM (K.dn 8 rfl);exact(Ag (v:=.slice bL s.Bx.length bM) BY (es (t:=14) (v:=pt bB 4) ((K.dq 8 14).trans f7)) (b4.ext aU) rfl).mono fun v Bc ⟨a5,a9⟩=>by subst a5;subst a9;rw[aW];exact⟨aE,b,c,d,f,g,i,j,aT,aU,aX,m,o,aO,aH,aI,aJ,aF,aK,aL,aG,aM,fun _=>rfl,r,x,y,z,aA,aB,aC,aP,p,aD⟩),
      sj (k:=10) rfl (fun D V a' w' K a=>by
          rw[aW] at a;refine X4 a fun aE b c d a=>X4 a fun f g i j a=>Y8 a fun aT aU aX m o aO aH aI a=>Y8 a fun aJ aF aK aL aG aM aN _ a=>Y8 a fun x y z aA aB aC _ p a=>?_;have aD:=a;have f8:=aN (K.dn 9 rfl);refine(Ar MC rfl (Cf (es (t:=15) (v:=.slice bL s.Bx.length bM) ((K.dq 9 15).trans f8))) (Tz dO s.Bx bL bM _ _ (gH.mv (aX _)) bY i9)).mono ?_;rintro v Bc ⟨bC,⟨i,j,rfl,cR⟩⟩;rw[aW];exact⟨aE,b,c,d,f,g,i,j,(aT.ext bC),(Ext.trans aU bC),(fun dP=>(aX dP).trans (Ab bC)),m,o,aO,aH,aI,aJ,fun aQ=>⟨(aF aQ).1,((aF aQ).2.mv (Ab bC))⟩,aK,aL,fun aQ=>⟨(aG aQ).1,((aG aQ).2.mv (Ab bC))⟩,aM,aN,fun _=>⟨rfl,cR.mv (aT.EU (Nat.le_refl _))⟩,x,y,z,aA,aB,aC,fun aQ=>(Jn K.me (K.down 17 _ rfl aQ 10 rfl)).elim,fun aQ=>((p aQ).ext bC),aD⟩),
      sj (k:=11) rfl (fun D V a' w' K a=>by
          rw[aW] at a;refine X4 a fun aE b c d a=>X4 a fun f g i j a=>Y8 a fun aT aU aX m o aO aH aI a=>Y8 a fun aJ aF aK aL aG aM aN r a=>Y8 a fun _ y z aA aB aC aP p a=>?_;have aD:=a;exact(Ac (es ((K.out 1 rfl).trans rfl)) (RI _ _)).mono fun v Bc ⟨a5,a9⟩=>by subst a5;subst a9;rw[aW];exact⟨aE,b,c,d,f,g,i,j,aT,aU,aX,m,o,aO,aH,aI,aJ,aF,aK,aL,aG,aM,aN,r,fun _=>rfl,y,z,aA,aB,aC,aP,p,aD⟩),
      sj (k:=12) rfl (fun D V a' w' K a=>by
          rw[aW] at a;refine X4 a fun aE b c d a=>X4 a fun f g i j a=>Y8 a fun aT aU aX m o aO aH aI a=>Y8 a fun aJ aF aK aL aG aM aN r a=>Y8 a fun x _ z aA aB aC aP p a=>?_;have aD:=a;have d9:=x (K.dn 11 rfl);exact(Ag (v:=I s.Ct) AV (es (t:=17) (v:=pt bB 5) ((K.dq 11 17).trans d9)) (b4.ext aU) rfl).mono fun v Bc ⟨a5,a9⟩=>by subst a5;subst a9;rw[aW];exact⟨aE,b,c,d,f,g,i,j,aT,aU,aX,m,o,aO,aH,aI,aJ,aF,aK,aL,aG,aM,aN,r,x,fun _=>rfl,z,aA,aB,aC,aP,p,aD⟩),
      sj (k:=13) rfl (fun D V a' w' K a=>by
          rw[aW] at a;refine X4 a fun aE b c d a=>X4 a fun f g i j a=>Y8 a fun aT aU aX m o aO aH aI a=>Y8 a fun aJ aF aK aL aG aM aN r a=>Y8 a fun x y _ aA aB aC aP p a=>?_;have aD:=a;exact(Ac (es ((K.out 1 rfl).trans rfl)) (RJ _ _)).mono fun v Bc ⟨a5,a9⟩=>by subst a5;subst a9;rw[aW];exact⟨aE,b,c,d,f,g,i,j,aT,aU,aX,m,o,aO,aH,aI,aJ,aF,aK,aL,aG,aM,aN,r,x,y,fun _=>rfl,aA,aB,aC,aP,p,aD⟩),
      sj (k:=14) rfl (fun D V a' w' K a=>by
          rw[aW] at a;refine X4 a fun aE b c d a=>X4 a fun f g i j a=>Y8 a fun aT aU aX m o aO aH aI a=>Y8 a fun aJ aF aK aL aG aM aN r a=>Y8 a fun x y z _ aB aC aP p a=>?_;have aD:=a;have eA:=z (K.dn 13 rfl);exact(Ag (v:=I s.CF) AV (es (t:=19) (v:=pt bB 6) ((K.dq 13 19).trans eA)) (b4.ext aU) rfl).mono fun v Bc ⟨a5,a9⟩=>by subst a5;subst a9;rw[aW];exact⟨aE,b,c,d,f,g,i,j,aT,aU,aX,m,o,aO,aH,aI,aJ,aF,aK,aL,aG,aM,aN,r,x,y,z,fun _=>rfl,aB,aC,aP,p,aD⟩),
      sj (k:=15) rfl (fun D V a' w' K a=>by
          rw[aW] at a;refine X4 a fun aE b c d a=>X4 a fun f g i j a=>Y8 a fun aT aU aX m o aO aH aI a=>Y8 a fun aJ aF aK aL aG aM aN r a=>Y8 a fun x y z aA _ aC aP p a=>?_;have aD:=a;exact(Ac (es ((K.out 1 rfl).trans rfl)) (RK _ _)).mono fun v Bc ⟨a5,a9⟩=>by subst a5;subst a9;rw[aW];exact⟨aE,b,c,d,f,g,i,j,aT,aU,aX,m,o,aO,aH,aI,aJ,aF,aK,aL,aG,aM,aN,r,x,y,z,aA,fun _=>rfl,aC,aP,p,aD⟩),
      sj (k:=16) rfl (fun D V a' w' K a=>by
          rw[aW] at a;refine X4 a fun aE b c d a=>X4 a fun f g i j a=>Y8 a fun aT aU aX m o aO aH aI a=>Y8 a fun aJ aF aK aL aG aM aN r a=>Y8 a fun x y z aA aB _ aP p a=>?_;have aD:=a;have eB:=aB (K.dn 15 rfl);exact(Ag (v:=I s.Trod) AV (es (t:=21) (v:=pt bB 7) ((K.dq 15 21).trans eB)) (b4.ext aU) rfl).mono fun v Bc ⟨a5,a9⟩=>by subst a5;subst a9;rw[aW];exact⟨aE,b,c,d,f,g,i,j,aT,aU,aX,m,o,aO,aH,aI,aJ,aF,aK,aL,aG,aM,aN,r,x,y,z,aA,aB,fun _=>rfl,aP,p,aD⟩),
      sj (k:=17) rfl (fun D V a' w' K a=>by
          rw[aW] at a;refine X4 a fun aE b c d a=>X4 a fun f g i j a=>Y8 a fun aT aU aX m o aO aH aI a=>Y8 a fun aJ aF aK aL aG aM aN r a=>Y8 a fun x y z aA aB aC _ p a=>?_;have aD:=a;have f9:=aH (K.dn 1 rfl);obtain⟨gA,cP⟩:=aF (K.dn 4 rfl);obtain⟨gB,cQ⟩:=aG (K.dn 7 rfl);obtain⟨eC,cR⟩:=r (K.dn 10 rfl);have eD:=y (K.dn 12 rfl);have eE:=aA (K.dn 14 rfl);have eF:=aC (K.dn 16 rfl);exact(Dj (vs:= #[(0,I s.Ao),(2,.slice c bW.length d),(3,.slice f bX.length g),(4,.slice i bY.length j),(5,I s.Ct),(6,I s.CF),(7,I s.Trod)]) (v:=.agg #[I s.Ao,.slice none 0 0,.slice c bW.length d,.slice f bX.length g,.slice i bY.length j,I s.Ct,I s.CF,I s.Trod,.slice none 0 0]) (ZQ (es (t:=7) (v:=I s.Ao) ((K.dq 1 7).trans f9)) (es (t:=10) (v:=.slice c bW.length d) ((K.dq 4 10).trans gA)) (es (t:=13) (v:=.slice f bX.length g) ((K.dq 7 13).trans gB)) (es (t:=16) (v:=.slice i bY.length j) ((K.dq 10 16).trans eC)) (es (t:=18) (v:=I s.Ct) ((K.dq 12 18).trans eD)) (es (t:=20) (v:=I s.CF) ((K.dq 14 20).trans eE)) (es (t:=22) (v:=I s.Trod) ((K.dq 16 22).trans eF))) (by kernel_rfl)).mono fun v Bc ⟨a5,a9⟩=>by subst a5;subst a9;rw[aW];exact⟨aE,b,c,d,f,g,i,j,aT,aU,aX,m,o,aO,aH,aI,aJ,aF,aK,aL,aG,aM,aN,r,x,y,z,aA,aB,aC,fun _=>rfl,p,aD⟩),
      sj (k:=18) rfl (fun D V a' w' K a=>by
          rw[aW] at a;refine X4 a fun _ _ c d a=>X4 a fun f g i j a=>Y8 a fun aT aU aX m o aO aH aI a=>Y8 a fun aJ aF aK aL aG aM aN r a=>Y8 a fun x y z aA aB aC aP _ a=>?_;have aD:=a;have hZ:=o K.me;subst hZ;refine(Ch (cs:= #[I 0,.slice none 0 0,.slice none 0 0,.slice none 0 0,.slice none 0 0,I 0,I 0,I 0,.slice none 0 0]) RO rfl).mono ?_;rintro v Bc ⟨hN,rfl,d1⟩;have dU:=NU d1;have gI:=d1.gr;rw[aW];exact⟨(some hN),hN,c,d,f,g,i,j,(aT.row gI 0 rfl dU),(Ext.trans aU gI),(fun dP=>(aX dP).trans (aT.CM gI 0 rfl (fun dQ dD=>(dU dQ dD).1))),(KY m aU.size dU),fun aQ=>absurd (show true=false from aQ) (by decide),aO,aH,aI,aJ,fun aQ=>⟨(aF aQ).1,((aF aQ).2.mv (aT.CM gI 0 rfl (fun dQ dD=>(dU dQ dD).1)))⟩,aK,aL,fun aQ=>⟨(aG aQ).1,((aG aQ).2.mv (aT.CM gI 0 rfl (fun dQ dD=>(dU dQ dD).1)))⟩,aM,aN,fun aQ=>⟨(r aQ).1,((r aQ).2.mv (aT.CM gI 0 rfl (fun dQ dD=>(dU dQ dD).1)))⟩,x,y,z,aA,aB,aC,aP,fun _=>d1.bk,fun _=>⟨rfl,rfl,Nat.le_trans aT.sz (Nat.le_of_eq d1.EZ.symm)⟩⟩),trivial⟩ ?_
 intro j7 j8 j9 a0 bS;rw[aW] at bS;clear aW;refine X4 bS fun aE b c d bS=>X4 bS fun f g i j bS=>Y8 bS fun dE gV h1 m o aO aH aI bS=>Y8 bS fun aJ aF aK aL aG aM aN r bS=>Y8 bS fun x y z aA aB aC aP p bS=>?_;have aD:=bS;clear bS;have f2:=aO (a0 0 (by decide));have f9:=aH (a0 1 (by decide));have f3:=aI (a0 2 (by decide));have f4:=aJ (a0 3 (by decide));obtain⟨gA,cP⟩:=aF (a0 4 (by decide));have f5:=aK (a0 5 (by decide));have f6:=aL (a0 6 (by decide));obtain⟨gB,cQ⟩:=aG (a0 7 (by decide));have f7:=aM (a0 8 (by decide));have f8:=aN (a0 9 (by decide));obtain⟨eC,cR⟩:=r (a0 10 (by decide));have d9:=x (a0 11 (by decide));have eD:=y (a0 12 (by decide));have eA:=z (a0 13 (by decide));have eE:=aA (a0 14 (by decide));have eB:=aB (a0 15 (by decide));have eF:=aC (a0 16 (by decide));have gW:=aP (a0 17 (by decide));obtain⟨eG,gJ,h2⟩:=aD (a0 18 (by decide));subst gJ;have gK:=p (a0 18 (by decide));refine BC rfl rfl (fun st=>HL (n:=9) (v:=.agg #[I s.Ao,.slice none 0 0,.slice c bW.length d,.slice f bX.length g,.slice i bY.length j,I s.Ct,I s.CF,I s.Trod,.slice none 0 0]) (Cm:= #[I s.Ao,.slice none 0 0,.slice c bW.length d,.slice f bX.length g,.slice i bY.length j,I s.Ct,I s.CF,I s.Trod,.slice none 0 0]) (ee st eG) (ee st gW) UP gK rfl rfl rfl (AW rfl)) ?_;rintro _ jQ dV;have jA:=dE.gr dV.gr 0 rfl;refine wn<|Ah<|cr<|wA (v:=I 0) rfl<|wn<|AX ?_;have jB:=jA.nil;have jC:Be AS 53 w.heap.size jQ (zf Z w [none,some b,some bO,some bB]) none 0 ([]:List AR):=Be.nil _ _ _ _ _;replace aS:=bind_some aS;obtain⟨dA,dW,aS⟩:=aS;refine Co (fun gX bG aY=>(gX=.exit 0∧∃q aR,Fo X0 69 bG∧sl bG 1=pt bB 0∧sl bG 2=pt bO 0∧sl bG 3=pt b 0∧Hp FN [] w [ob q,some b,some bO,some bB] aY∧(fun bE=>Be AS 53 w.heap.size aY bE q aR dA∧Bk aY bB 26 (Av bU bV bH bI bJ bK bL bM bQ bR s).toArray∧Bk aY bO 42 #[I 0,.slice none 0 0,.slice none 0 0,.slice none 0 0,.slice none 0 0,I 0,I 0,I 0,.slice none 0 0]∧Bk aY b 42 #[I s.Ao,.slice q dA.length aR,.slice c bW.length d,.slice f bX.length g,.slice i bY.length j,I s.Ct,I s.CF,I s.Trod,.slice none 0 0]∧Sl AS aY bE bU bV s.Ad∧Sl (Ae .i64) aY bE bH bI s.Am∧Sl (Ae .i64) aY bE bJ bK s.AN∧Sl (Ae .i64) aY bE bL bM s.Bx∧Sl Bd aY bE bQ bR s.Looks∧Sl (Ae .i64) aY bE c d bW∧Sl (Ae .i64) aY bE f g bX∧Sl (Ae .i64) aY bE i j bY) (zf Z w [ob q,some b,some bO,some bB]))) ?jD ?jE
 case jD=>
  clear aS;refine Cn (fun e8 bG aY=>∃b5,∃bD,∃a3 bN,Ec dO s e8 b5 bD=some dA∧Fo X0 69 bG∧sl bG 1=pt bB 0∧sl bG 2=pt bO 0∧sl bG 3=pt b 0∧sl bG 4=I b5∧Hp FN [] w [ob a3,some b,some bO,some bB] aY∧(fun bE=>Be AS 53 w.heap.size aY bE a3 bN bD∧Bk aY bB 26 (Av bU bV bH bI bJ bK bL bM bQ bR s).toArray∧Bk aY bO 42 #[I 0,.slice none 0 0,.slice none 0 0,.slice none 0 0,.slice none 0 0,I 0,I 0,I 0,.slice none 0 0]∧Bk aY b 42 #[I s.Ao,.slice a3 bD.length bN,.slice c bW.length d,.slice f bX.length g,.slice i bY.length j,I s.Ct,I s.CF,I s.Trod,.slice none 0 0]∧Sl AS aY bE bU bV s.Ad∧Sl (Ae .i64) aY bE bH bI s.Am∧Sl (Ae .i64) aY bE bJ bK s.AN∧Sl (Ae .i64) aY bE bL bM s.Bx∧Sl Bd aY bE bQ bR s.Looks∧Sl (Ae .i64) aY bE c d bW∧Sl (Ae .i64) aY bE f g bX∧Sl (Ae .i64) aY bE i j bY) (zf Z w [ob a3,some b,some bO,some bB])) dO ?jF ?jG
  case jF=>
   intro st;have hO:=(((c6.bk.ext cO.gr).ext gV).gr dV.gr (dE.nq 2 0));have hP:=((cO.bk.ext gV).gr dV.gr (dE.nq 1 0));have e9:=dV.bk;have ⟨gL,gM,gN,gO,gP⟩:=C2 gD dR dS dT gE (mt (Ai c6) (mt (Ai cO) (mt BD (mt (h1 _) (mt (dE.Ak dV.gr 0 rfl) BD)))));have ⟨fA,fB,fC⟩:=Mi cP cQ cR (mt (dE.Ak dV.gr 0 rfl) BD);exact⟨(0:Int),([]:List AR),none,0,dW,qo st,sp st 1 rfl,sp st 2 rfl,sp st 3 eG,sp st 4 rfl,jB,jC,hO,hP,e9,gL,gM,gN,gO,gP,fA,fB,fC⟩
  case jG=>
   rintro(_|e8) jX jY ⟨b5,bD,a3,bN,dW,h3,dB,gC,dC,d2,gY,cA,cS,eH,cB,cI,dF,dG,dH,dI,c7,c8,c9⟩
   ·exact absurd (show none=some _ from dW) (by simp)
   rw[Ec.eq_2] at dW;have aS:=dW;clear dW;refine ro h3<|Ah<|cr<|wM (v:=I b5) d2<|wD (fun st=>Ac (ee st dB) (IL _ _))<|wD (fun st=>Ag (v:=.slice bU s.Ad.length bV) Jh (eR st) cS rfl)<|wD (fun st=>BM Tryz.underlying22 (eR st))<|wD (fun st=>C3 (eR st) (eR st))<|wn ?_;rcases Af (decide (b5<(s.Ad.length:Int))) with dJ|dJ
   ·replace aS:=AD aS dJ;refine Aw rfl dJ<|cn<|Ah<|AX ?_;replace aS:=Bn aS;obtain⟨i12,eI,h4,h5,h6,aS⟩:=aS;obtain⟨jH,jI,_,h7,rfl,h8⟩:=Sl.elem cI (by decide) h5;replace aS:=bind_some aS;obtain⟨bP,iA,aS⟩:=aS;refine B1 9 [Kc (pt b 1),Kc (.slice a3 bD.length bN),Kc (pt bB 1),Kc (.slice bU s.Ad.length bV),Kc (I b5),Kc (pt jH (jI+i12*2)),Kc (.agg #[I eI.Lo,I eI.Hi]),Kc (.agg #[I bP.Lo,I bP.Hi]),Kv (HC AS) (zf Z w [ob a3,some b,some bO,some bB]) [bP]] mixed rfl rfl
        (Aa (oD (fun K=>Ac (es ((K.out 3 rfl).trans dC)) (Hd _ _)))
        (Aa (oD (fun K=>Ag GZ (es (K.dq 0 31)) (cB.ext K.Al) rfl))
        (Aa (oD (fun K=>Ac (es ((K.out 1 rfl).trans dB)) (IL _ _)))
        (Aa (oD (fun K=>Ag Jh (es (K.dq 2 33)) (cS.ext K.Al) rfl))
        (Aa (oD (fun K=>Ay (es ((K.out 4 rfl).trans d2))))
        (Aa (oD (fun K=>B9 (k:=i12) Tryz.underlying22 N6 (es (K.dq 3 34)) h7 (es (K.dq 4 35)) h4 h6))
        (Aa (oD (fun K=>CN (l:=[I eI.Lo,I eI.Hi]) JO (es (K.dq 5 36)) (h8.mv (Ab K.Al)) rfl rfl))
        (Aa (oE (fun K=>(Ar Tv (rfl:Act.eval _ (.func 35)=_) (Cf (es (K.dq 6 37))) (Zb dO eI ZA _ bP iA)).mono (fun _ _ h=>⟨(by obtain⟨_,rfl,rfl⟩:=h.2;rfl),h.1⟩)))
        (Aa (I9 rfl rfl (fun a' w' ph K=>(Cw (e:=53) (vs:= #[(0,.agg #[I bP.Lo,I bP.Hi])]) (cs:= #[I bP.Lo,I bP.Hi]) (Jj (es (K.dq 7 38))) (by kernel_rfl)).mono (fun u Bc ⟨hN,hu,d3⟩=>⟨⟨_,_,hu,Jy (xs:=[bP]) (Bw:=[[I bP.Lo,I bP.Hi]]) d3.bk ((gY.ext K.Al).kn (Nat.le_of_eq d3.EZ.symm)) (R2.mv (Ab d3.gr) (show R2 AS w' (zf Z w [ob a3,some b,some bO,some bB]) [[I bP.Lo,I bP.Hi]] [bP] from⟨rfl,trivial⟩)) rfl (Nat.le_refl _)⟩,d3.gr⟩)))
        (BH _)))))))))) ?_
    intro jZ;rintro _ rfl _ rfl _ rfl _ rfl _ rfl _ rfl _ rfl _ rfl _ ⟨jJ,jK,rfl,gQ⟩ cJ;have dK:=gY.ext cJ;have dL:=(cA.ext cJ (Ab cJ));replace aS:=D2 aS;obtain⟨gZ,aS⟩:=aS;refine wE (fun st=>Ix (ys:=[bP]) Tryz.underlying39 MS rfl rfl (by decide) (eR st) rfl (eR st) dL gQ.n (by have:=gZ;simp only[maxLen];omega) (by have:=gZ;omega) dK.sz) ?_;rintro _ j0 ⟨g0,g1,rfl,c3,fD,iB⟩;have dX:=dK.row c3 0 rfl fD;have iC:=E4 iB (dK.CM c3 0 rfl (fun k b3=>(fD k b3).1));refine wD (fun st=>Ac (ee st dC) (Hd _ _)) ?_;have fE:=((cB.ext cJ).gr c3 (dK.nq 1 0));refine BC rfl rfl (fun st=>Bt (n:=1) (l:=[.slice g0 ((bD++[bP]).length) g1]) (Cm:= #[I s.Ao,.slice g0 ((bD++[bP]).length) g1,.slice c bW.length d,.slice f bX.length g,.slice i bY.length j,I s.Ct,I s.CF,I s.Trod,.slice none 0 0]) (eR st) (eR st) YO fE rfl rfl (show 1+1≤9 by decide) (AW rfl) rfl) ?_;rintro _ j1 cK;have iD:=dX.gr cK.gr 1 rfl;refine AJ<|Ef<|Aj<|wM (v:=I b5) d2 ?_;replace aS:=AT aS;obtain⟨iE,aS⟩:=aS;refine wD (fun st=>BV (eR st) (eR st) iE)<|wA (v:=I (b5+1)) rfl<|AJ ?_;have gR:=(iC.gr cK.gr (fun k b3=>dX.ne 0 1 rfl (congrArg some b3) rfl) (dX.Ak cK.gr 1 rfl));have g2:=(((cS.ext cJ).gr c3 (dK.nq 3 0)).gr cK.gr (dX.nq 3 1));have g3:=(((eH.ext cJ).gr c3 (dK.nq 2 0)).gr cK.gr (dX.nq 2 1));have ⟨fF,fG,fH,fI,fJ,eJ,eK,eM⟩:=SI cI dF dG dH dI c7 c8 c9 (mt (Ab cJ) (mt (dK.CM c3 0 rfl (fun k b3=>(fD k b3).1)) (dX.Ak cK.gr 1 rfl)));refine BN e8 (Nat.lt_succ_self _) (fun st=>?_);exact⟨(b5+1),(bD++[bP]),g0,g1,aS,qo st,sp st 1 dB,sp st 2 gC,sp st 3 dC,sp st 4 rfl,iD,gR,g2,g3,cK.bk,fF,fG,fH,fI,fJ,eJ,eK,eM⟩
   ·replace aS:=AE aS dJ;refine AI rfl dJ<|FF ?_;obtain rfl:=oi aS;refine Cj (fun st=>?_);exact⟨rfl,a3,bN,qo st,sp st 1 dB,sp st 2 gC,sp st 3 dC,gY,cA,cS,eH,cB,cI,dF,dG,dH,dI,c7,c8,c9⟩
 case jE=>
  rintro gX jR jL (⟨rfl,q,aR,hQ,g4,g5,g6,iF,cT,g7,g8,eN,fK,fL,fM,fN,fO,eO,eP,eQ⟩);refine lf hQ<|BE<|AL<|Ah<|cr<|wA (v:=I 0) rfl<|wn<|AX ?_;have iG:=iF.nil;have iH:Be Bd 101 w.heap.size jL (zf Z w [none,ob q,some b,some bO,some bB]) none 0 ([]:List Cx):=Be.nil _ _ _ _ _;replace aS:=bind_some aS;obtain⟨dM,c4,aS⟩:=aS;refine Co (fun gX bG aY=>(gX=.exit 2∧∃aV a2,Fo X0 69 bG∧sl bG 2=pt bO 0∧sl bG 3=pt b 0∧Hp FN [] w [ob aV,ob q,some b,some bO,some bB] aY∧(fun bE=>Be Bd 101 w.heap.size aY bE aV a2 dM∧Be AS 53 w.heap.size aY bE q aR dA∧Bk aY bO 42 #[I 0,.slice none 0 0,.slice none 0 0,.slice none 0 0,.slice none 0 0,I 0,I 0,I 0,.slice none 0 0]∧Bk aY b 42 #[I s.Ao,.slice q dA.length aR,.slice c bW.length d,.slice f bX.length g,.slice i bY.length j,I s.Ct,I s.CF,I s.Trod,.slice aV dM.length a2]∧Sl (Ae .i64) aY bE c d bW∧Sl (Ae .i64) aY bE f g bX∧Sl (Ae .i64) aY bE i j bY) (zf Z w [ob aV,ob q,some b,some bO,some bB]))) ?iI ?iJ
  case iI=>
   clear aS;refine Cn (fun e8 bG aY=>∃bT,∃bA,∃aZ bF,DU dO s e8 bT bA=some dM∧Fo X0 69 bG∧sl bG 1=pt bB 0∧sl bG 2=pt bO 0∧sl bG 3=pt b 0∧sl bG 5=I bT∧Hp FN [] w [ob aZ,ob q,some b,some bO,some bB] aY∧(fun bE=>Be AS 53 w.heap.size aY bE q aR dA∧Be Bd 101 w.heap.size aY bE aZ bF bA∧Bk aY bB 26 (Av bU bV bH bI bJ bK bL bM bQ bR s).toArray∧Bk aY bO 42 #[I 0,.slice none 0 0,.slice none 0 0,.slice none 0 0,.slice none 0 0,I 0,I 0,I 0,.slice none 0 0]∧Bk aY b 42 #[I s.Ao,.slice q dA.length aR,.slice c bW.length d,.slice f bX.length g,.slice i bY.length j,I s.Ct,I s.CF,I s.Trod,.slice aZ bA.length bF]∧Sl AS aY bE bU bV s.Ad∧Sl (Ae .i64) aY bE bH bI s.Am∧Sl (Ae .i64) aY bE bJ bK s.AN∧Sl (Ae .i64) aY bE bL bM s.Bx∧Sl Bd aY bE bQ bR s.Looks∧Sl (Ae .i64) aY bE c d bW∧Sl (Ae .i64) aY bE f g bX∧Sl (Ae .i64) aY bE i j bY) (zf Z w [ob aZ,ob q,some b,some bO,some bB])) dO ?iK ?iL
   case iK=>
    intro st;have cU:=(cT.up BD);have g9:=g7;have hA:=g8;have eS:=eN;have ⟨fP,fQ,fR,fS,fT,eT,eU,eV⟩:=SI fK fL fM fN fO eO eP eQ BD;exact⟨(0:Int),([]:List Cx),none,0,c4,qo st,sp st 1 g4,sp st 2 g5,sp st 3 g6,sp st 5 rfl,iG,cU,iH,g9,hA,eS,fP,fQ,fR,fS,fT,eT,eU,eV⟩
   case iL=>
    rintro(_|e8) jS jT ⟨bT,bA,aZ,bF,c4,hR,cV,eW,cW,cX,fU,bZ,b2,cF,dY,b6,eX,eY,eZ,e0,cC,cY,cZ,c0⟩
    ·exact absurd (show none=some _ from c4) (by simp)
    rw[DU.eq_2] at c4;have aS:=c4;clear c4;refine ro hR<|Ah<|cr<|wM (v:=I bT) cX<|wD (fun st=>Ac (ee st cV) (HB _ _))<|wD (fun st=>Ag (v:=.slice bQ s.Looks.length bR) Im (eR st) cF rfl)<|wD (fun st=>BM Tryz.underlying24 (eR st))<|wD (fun st=>C3 (eR st) (eR st))<|wn ?_;rcases Af (decide (bT<(s.Looks.length:Int))) with dN|dN
    ·replace aS:=AD aS dN;refine Aw rfl dN<|cn<|Ah<|AX ?_;replace aS:=Bn aS;obtain⟨i22,b1,iM,iN,iO,aS⟩:=aS;obtain⟨hU,hV,_,iP,rfl,iQ⟩:=Sl.elem cC (by decide) iN;replace aS:=Bn aS;obtain⟨i23,dZ,iR,iS,iT,aS⟩:=aS;obtain⟨hW,hX,_,iU,rfl,iV⟩:=Sl.elem cC (by decide) iS;replace aS:=bind_some aS;obtain⟨a4,iW,aS⟩:=aS;refine B1 17 [Kc (pt b 8),Kc (.slice aZ bA.length bF),Kc (pt bB 8),Kc (.slice bQ s.Looks.length bR),Kc (I bT),Kc (pt hU (hV+i22*3)),Kc (pt hU (hV+i22*3)),Kc (I b1.Week),Kc (pt bB 8),Kc (.slice bQ s.Looks.length bR),Kc (I bT),Kc (pt hW (hX+i23*3)),Kc (pt hW (hX+i23*3+1)),Kc (.agg #[I dZ.Bo,I dZ.Bq]),Kc (.agg #[I a4.Lo,I a4.Hi]),Kc (.agg #[I b1.Week,I a4.Lo,I a4.Hi]),Kv (HC Bd) (zf Z w [ob aZ,ob q,some b,some bO,some bB]) [(⟨b1.Week,a4.Lo,a4.Hi⟩:Cx)]] mixed rfl rfl
         (Aa (oD (fun K=>Ac (es ((K.out 3 rfl).trans cW)) (MT _ _)))
         (Aa (oD (fun K=>Ag Mx (es (K.dq 0 49)) (b6.ext K.Al) rfl))
         (Aa (oD (fun K=>Ac (es ((K.out 1 rfl).trans cV)) (HB _ _)))
         (Aa (oD (fun K=>Ag Im (es (K.dq 2 51)) (cF.ext K.Al) rfl))
         (Aa (oD (fun K=>Ay (es ((K.out 5 rfl).trans cX))))
         (Aa (oD (fun K=>B9 (k:=i22) Tryz.underlying24 MY (es (K.dq 3 52)) iP (es (K.dq 4 53)) iM iO))
         (Aa (oD (fun K=>Ac (es (K.dq 5 54)) (OL _ _ _)))
         (Aa (oD (fun K=>BJ AV (es (K.dq 6 55)) (iQ.mv (Ab K.Al)) rfl))
         (Aa (oD (fun K=>Ac (es ((K.out 1 rfl).trans cV)) (HB _ _)))
         (Aa (oD (fun K=>Ag Im (es (K.dq 8 57)) (cF.ext K.Al) rfl))
         (Aa (oD (fun K=>Ay (es ((K.out 5 rfl).trans cX))))
         (Aa (oD (fun K=>B9 (k:=i23) Tryz.underlying24 MY (es (K.dq 9 58)) iU (es (K.dq 10 59)) iR iT))
         (Aa (oD (fun K=>Ac (es (K.dq 11 60)) (RL _ _ _)))
         (Aa (oD (fun K=>OS (l:=[I dZ.Bo,I dZ.Bq]) JO (es (K.dq 12 61)) (iV.mv (Ab K.Al)) rfl rfl))
         (Aa (oE (fun K=>(Ar Tv (rfl:Act.eval _ (.func 35)=_) (Cf (es (K.dq 13 62))) (Zb dO (⟨dZ.Bo,dZ.Bq⟩:AR) ZA _ a4 iW)).mono (fun _ _ h=>⟨(by obtain⟨_,rfl,rfl⟩:=h.2;rfl),h.1⟩)))
         (Aa (oD (fun K=>Dj (vs:= #[(0,I b1.Week),(1,.agg #[I a4.Lo,I a4.Hi])]) (v:=.agg #[I b1.Week,I a4.Lo,I a4.Hi]) (JD (es (K.dq 7 56)) (es (K.dq 14 63))) (by kernel_rfl)))
         (Aa (I9 rfl rfl (fun a' w' ph K=>(Cw (e:=101) (vs:= #[(0,.agg #[I b1.Week,I a4.Lo,I a4.Hi])]) (cs:= #[I b1.Week,I a4.Lo,I a4.Hi]) (Jj (es (K.dq 15 64))) (by kernel_rfl)).mono (fun u Bc ⟨hN,hu,d3⟩=>⟨⟨_,_,hu,Jy (xs:=[(⟨b1.Week,a4.Lo,a4.Hi⟩:Cx)]) (Bw:=[[I b1.Week,I a4.Lo,I a4.Hi]]) d3.bk ((fU.ext K.Al).kn (Nat.le_of_eq d3.EZ.symm)) (R2.mv (Ab d3.gr) (show R2 Bd w' (zf Z w [ob aZ,ob q,some b,some bO,some bB]) [[I b1.Week,I a4.Lo,I a4.Hi]] [(⟨b1.Week,a4.Lo,a4.Hi⟩:Cx)] from⟨rfl,trivial⟩)) rfl (Nat.le_refl _)⟩,d3.gr⟩)))
         (BH _)))))))))))))))))) ?_
     intro j2;rintro _ rfl _ rfl _ rfl _ rfl _ rfl _ rfl _ rfl _ rfl _ rfl _ rfl _ rfl _ rfl _ rfl _ rfl _ rfl _ rfl _ ⟨i1,i2,rfl,fV⟩ b7;have b8:=fU.ext b7;have c5:=(b2.ext b7 (Ab b7));replace aS:=D2 aS;obtain⟨hB,aS⟩:=aS;refine wE (fun st=>Ix (ys:=[(⟨b1.Week,a4.Lo,a4.Hi⟩:Cx)]) Tryz.underlying40 Ut rfl rfl (by decide) (eR st) rfl (eR st) c5 fV.n (by have:=hB;simp only[maxLen];omega) (by have:=hB;omega) b8.sz) ?_;rintro _ j3 ⟨hC,hD,rfl,cD,d4,iX⟩;have cE:=b8.row cD 0 rfl d4;have iY:=E4 iX (b8.CM cD 0 rfl (fun k b3=>(d4 k b3).1));refine wD (fun st=>Ac (ee st cW) (MT _ _)) ?_;have e1:=((b6.ext b7).gr cD (b8.nq 2 0));refine BC rfl rfl (fun st=>Bt (n:=1) (l:=[.slice hC ((bA++[(⟨b1.Week,a4.Lo,a4.Hi⟩:Cx)]).length) hD]) (Cm:= #[I s.Ao,.slice q dA.length aR,.slice c bW.length d,.slice f bX.length g,.slice i bY.length j,I s.Ct,I s.CF,I s.Trod,.slice hC ((bA++[(⟨b1.Week,a4.Lo,a4.Hi⟩:Cx)]).length) hD]) (eR st) (eR st) YP e1 rfl rfl (show 8+1≤9 by decide) (AW rfl) rfl) ?_;rintro _ j4 b9;have iZ:=cE.gr b9.gr 2 rfl;refine AJ<|Ef<|Aj<|wM (v:=I bT) cX ?_;replace aS:=AT aS;obtain⟨i0,aS⟩:=aS;refine wD (fun st=>BV (eR st) (eR st) i0)<|wA (v:=I (bT+1)) rfl<|AJ ?_;have c1:=(((bZ.ext b7 (Ab b7)).gr cD (fun k b3=>b8.ne 1 0 rfl (congrArg some b3) rfl) (b8.CM cD 0 rfl (fun k b3=>(d4 k b3).1))).gr b9.gr (fun k b3=>cE.ne 1 2 rfl (congrArg some b3) rfl) (cE.Ak b9.gr 2 rfl));have gS:=(iY.gr b9.gr (fun k b3=>cE.ne 0 2 rfl (congrArg some b3) rfl) (cE.Ak b9.gr 2 rfl));have hE:=(((cF.ext b7).gr cD (b8.nq 4 0)).gr b9.gr (cE.nq 4 2));have hF:=(((dY.ext b7).gr cD (b8.nq 3 0)).gr b9.gr (cE.nq 3 2));have ⟨fW,fX,fY,fZ,f0,e2,e3,e4⟩:=SI eX eY eZ e0 cC cY cZ c0 (mt (Ab b7) (mt (b8.CM cD 0 rfl (fun k b3=>(d4 k b3).1)) (cE.Ak b9.gr 2 rfl)));refine BN e8 (Nat.lt_succ_self _) (fun st=>?_);exact⟨(bT+1),(bA++[(⟨b1.Week,a4.Lo,a4.Hi⟩:Cx)]),hC,hD,aS,qo st,sp st 1 cV,sp st 2 eW,sp st 3 cW,sp st 5 rfl,iZ,c1,gS,hE,hF,b9.bk,fW,fX,fY,fZ,f0,e2,e3,e4⟩
    ·replace aS:=AE aS dN;refine AI rfl dN<|FF ?_;obtain rfl:=oi aS;refine Cj (fun st=>?_);exact⟨rfl,aZ,bF,qo st,sp st 2 eW,sp st 3 cW,fU,b2,bZ,dY,b6,cY,cZ,c0⟩
  case iJ=>
   rintro gX jO jU (⟨rfl,aV,a2,hG,d0,gT,cG,cH,cL,gU,d5,d6,d7,d8⟩);refine lf hG<|BE<|AL<|cr<|wD (fun st=>AU (l:=[I s.Ao,.slice q dA.length aR,.slice c bW.length d,.slice f bX.length g,.slice i bY.length j,I s.Ct,I s.CF,I s.Trod,.slice aV dM.length a2]) Ck (ee st gT) d5 rfl rfl)<|BC rfl rfl (fun st=>HL (n:=9) (v:=.agg #[I s.Ao,.slice q dA.length aR,.slice c bW.length d,.slice f bX.length g,.slice i bY.length j,I s.Ct,I s.CF,I s.Trod,.slice aV dM.length a2]) (Cm:= #[I s.Ao,.slice q dA.length aR,.slice c bW.length d,.slice f bX.length g,.slice i bY.length j,I s.Ct,I s.CF,I s.Trod,.slice aV dM.length a2]) (ee st d0) (eR st) UP gU rfl rfl rfl (AW rfl)) ?_;rintro _ j5 cM;have f1:=cG.gr cM.gr 3 rfl;refine wn<|Ap ?_;obtain rfl:=oi aS;refine Gk (v:=.agg #[I s.Ao,.slice q dA.length aR,.slice c bW.length d,.slice f bX.length g,.slice i bY.length j,I s.Ct,I s.CF,I s.Trod,.slice aV dM.length a2]) rfl d0 (DV Ck cM.bk rfl rfl) ?_;have c2:=(cL.gr cM.gr (fun k b3=>cG.ne 1 3 rfl (congrArg some b3) rfl) (cG.Ak cM.gr 3 rfl));have ⟨e5,e6,e7⟩:=Mi d6 d7 d8 (cG.Ak cM.gr 3 rfl);have cN:=(cH.gr cM.gr (fun k b3=>cG.ne 0 3 rfl (congrArg some b3) rfl) (cG.Ak cM.gr 3 rfl));exact⟨f1.Bl,⟨_,rfl,_,_,_,_,_,_,_,_,_,_,rfl,f1.Jm (M:=[]) 1 rfl [] rfl trivial c2,e5.mv (AG (A9 [] trivial)),e6.mv (AG (A9 [] trivial)),e7.mv (AG (A9 [] trivial)),f1.Jm (M:=[]) 0 rfl [] rfl trivial cN⟩⟩
theorem a13 aO e f g i j(Z:Nat→Prop) w(aH:Sl (Ae .i64) w Z f g e.Ad)(aI:Sl (Ae .i64) w Z i j e.Am) aR(m:Gi aO e=some aR):
 BW Tryz.prog 13 #[.agg #[.slice f e.Ad.length g,.slice i e.Am.length j]] w (fun v w'=>Ext w w'∧(Dd Fe).R w' (zf Z w []) v aR):=by
 unfold Gi at m;refine rq (N:=10) Tryz.func13 fun aY aS aZ=>?_;have aP:=sA 0 aS;clear aS;have aK:Hp FN [] w [] w:=Hp.start (BB.none w);have ⟨x,y⟩:=Gr aH aI (BF (Z:=Z) (L:=[]) w);refine cr<|wE (fun st=>BQ (v:=.agg #[.slice f e.Ad.length g,.slice i e.Am.length j]) (cs:= #[.slice f e.Ad.length g,.slice i e.Am.length j]) (ee st aP) rfl) ?_;rintro _ w1 ⟨aC,rfl,p⟩;have aL:=aK.nb p;have aW:=aK.BZ p;refine wE (fun st=>Ch (cs:= #[.slice none 0 0,.slice none 0 0]) OJ rfl) ?_;rintro _ w2 ⟨aQ,rfl,o⟩;have aM:=aL.nb o;have aX:=aL.BZ o;refine wn<|Ah ?_;have t:=(p.bk.ext o.gr);have z:=((x.mv (Ai p)).mv (Ai o));replace m:=bind_some m;obtain⟨q,aT,m⟩:=m;refine B1 5 [Kc (pt aC 0),Kc (.slice f e.Ad.length g),Kv (HC (Ae .i64)) (zf Z w [some aQ,some aC]) q,Kc (pt aC 1),Kc (.slice i e.Am.length j)] mixed rfl rfl
     (Aa (oD (fun K=>Ac (K.kO 1) (MZ _ _)))
     (Aa (oD (fun K=>Ag BY (es (K.dq 0 3)) (t.ext K.Al) rfl))
     (Aa (oE (fun K=>(Ar MC (rfl:Act.eval _ (.func 34)=_) (Cf (es (K.dq 1 4))) (Tz aO e.Ad f g (zf Z w [some aQ,some aC]) _ (z.mv (Ab K.Al)) q aT)).mono (fun _ _ h=>⟨(HC (Ae .i64)).mv h.2 ((aM.ext K.Al).EU (Nat.le_refl _)),h.1⟩)))
     (Aa (oD (fun K=>Ac (K.kO 1) (Ld _ _)))
     (Aa (oD (fun K=>Ag BY (es (K.dq 3 6)) (t.ext K.Al) rfl))
     (BH _)))))) ?_
 intro a0;rintro _ rfl _ rfl _ ⟨a,b,rfl,aD⟩ _ rfl _ rfl aE;have aN:=aM.ext aE;have aA:=(((y.mv (Ai p)).mv (Ai o)).mv (Ab aE));replace m:=bind_some m;obtain⟨aB,aU,m⟩:=m;refine wE (fun st=>Ar MC (eR st) (Cf (eR st)) (Tz aO e.Am i j (zf Z w [some aQ,some aC]) _ aA aB aU)) ?_;rintro _ a2 ⟨aF,⟨c,d,rfl,k⟩⟩;have aG:=aN.ext aF;have k:=k.mv (aN.EU (Nat.le_refl _));refine wD (fun st=>Dj (vs:= #[(0,.slice a q.length b),(1,.slice c aB.length d)]) (v:=.agg #[.slice a q.length b,.slice c aB.length d]) (JD (eR st) (eR st)) (by kernel_rfl)) ?_;have aJ:=((o.bk.ext aE).ext aF);refine BC rfl rfl (fun st=>Bt (n:=2) (l:=[.slice a q.length b,.slice c aB.length d]) (Cm:= #[.slice a q.length b,.slice c aB.length d]) (eR st) (eR st) Sq aJ rfl rfl (show 0+2≤2 by decide) (AW rfl) rfl) ?_;rintro _ a3 u;have aV:=aG.gr u.gr 0 rfl;refine wn<|Ap ?_;obtain rfl:=oi m;refine Gk (v:=.agg #[.slice a q.length b,.slice c aB.length d]) rfl rfl (DV IS u.bk rfl rfl) ?_;have r:=((aD.mv (Ab aF)).mv (aG.Ak u.gr 0 rfl));have s:=(k.mv (aG.Ak u.gr 0 rfl));exact⟨aV.Bl,⟨_,rfl,_,_,_,_,rfl,r.mv (AG (A9 [] trivial)),s.mv (AG (A9 [] trivial))⟩⟩
theorem a5 aW b h i j k m n o p q r(Z:Nat→Prop) w(aO:Sl AS w Z h i b.Ad)(aP:Sl (Ae .i64) w Z j k b.Am)(aQ:Sl (Ae .i64) w Z m n b.AN)(aR:Sl (Ae .i64) w Z o p b.Bx)(aS:Sl Bd w Z q r b.Looks) a2(a:GD aW b=some a2):
 BW Tryz.prog 5 #[.agg (Av h i j k m n o p q r b).toArray] w (fun v w'=>Ext w w'∧BA.R w' (zf Z w []) v a2):=by
 unfold GD at a;refine rq (N:=41) Tryz.func5 fun bB a3 bC=>?_;have aX:=sA 0 a3;clear a3;have aU:Hp FN [] w [] w:=Hp.start (BB.none w);have ⟨aD,aE,aF,aG,aH⟩:=C2 aO aP aQ aR aS (BF (Z:=Z) (L:=[]) w);refine cr<|wE (fun st=>BQ (v:=.agg (Av h i j k m n o p q r b).toArray) (cs:=(Av h i j k m n o p q r b).toArray) (ee st aX) rfl) ?_;rintro _ w1 ⟨bE,rfl,t⟩;have u:=aU.nb t;have bA:=aU.BZ t;refine wA (v:=.bool false) rfl<|wr<|wD (fun st=>Ac (eR st) (IL _ _))<|wD (fun st=>Ag (v:=.slice h b.Ad.length i) Jh (eR st) t.bk rfl)<|wD (fun st=>BM Tryz.underlying22 (eR st))<|wD (fun st=>ET (eR st) (eR st))<|wM (v:=.bool (decide ((b.Ad.length:Int)≤12))) rfl ?_;rcases Af (decide ((b.Ad.length:Int)≤12)) with d|d
 ·replace a:=AD a d;refine wG d (fun st=>Ac (eR st) (Kd _ _))<|wG d (fun st=>Ag (v:=.slice j b.Am.length k) BY (eR st) t.bk rfl)<|wG d (fun st=>BM Tryz.underlying23 (eR st))<|wG d (fun st=>ET (eR st) (eR st))<|wD (fun st=>AH (v:=.bool (decide ((b.Am.length:Int)≤12))) (eR st) d (eR st))<|wM (v:=.bool (decide ((b.Am.length:Int)≤12))) rfl ?_;rcases Af (decide ((b.Am.length:Int)≤12)) with e|e
  ·replace a:=AD a e;refine wG e (fun st=>Ac (eR st) (HA _ _))<|wG e (fun st=>Ag (v:=.slice m b.AN.length n) BY (eR st) t.bk rfl)<|wG e (fun st=>BM Tryz.underlying23 (eR st))<|wG e (fun st=>ET (eR st) (eR st))<|wD (fun st=>AH (v:=.bool (decide ((b.AN.length:Int)≤5))) (eR st) e (eR st))<|wM (v:=.bool (decide ((b.AN.length:Int)≤5))) rfl ?_;rcases Af (decide ((b.AN.length:Int)≤5)) with f|f
   ·replace a:=AD a f;refine wG f (fun st=>Ac (eR st) (MX _ _))<|wG f (fun st=>Ag (v:=.slice o b.Bx.length p) BY (eR st) t.bk rfl)<|wG f (fun st=>BM Tryz.underlying23 (eR st))<|wG f (fun st=>ET (eR st) (eR st))<|wD (fun st=>AH (v:=.bool (decide ((b.Bx.length:Int)≤12))) (eR st) f (eR st))<|wM (v:=.bool (decide ((b.Bx.length:Int)≤12))) rfl ?_;rcases Af (decide ((b.Bx.length:Int)≤12)) with g|g
    ·replace a:=AD a g;refine wG g (fun st=>Ac (eR st) (HB _ _))<|wG g (fun st=>Ag (v:=.slice q b.Looks.length r) Im (eR st) t.bk rfl)<|wG g (fun st=>BM Tryz.underlying24 (eR st))<|wG g (fun st=>ET (eR st) (eR st))<|wD (fun st=>AH (v:=.bool (decide ((b.Looks.length:Int)≤7))) (eR st) g (eR st))<|wM (v:=.bool (decide ((b.Looks.length:Int)≤7))) rfl ?_;rcases Af (decide ((b.Looks.length:Int)≤7)) with c|c
     ·replace a:=AD a c;refine wG c (fun st=>AU (l:=(Av h i j k m n o p q r b)) Hr (eR st) t.bk rfl rfl) ?_;have ⟨x,y,z,aA,aB⟩:=C2 aD aE aF aG aH (Ai t);replace a:=bind_some a;obtain⟨aY,a4,a⟩:=a;refine wX c (fun st=>Ar UQ (eR st) (Cf (eR st)) (a6 aW b h i j k m n o p q r ZA _ x.all y.all z.all aA.all aB.all aY a4)) ?_;rintro _ bF ⟨aN,rfl⟩;have aV:=u.ext aN;refine wG c (fun st=>DO (eR st) (eR st))<|wG c (fun st=>Ay (v:=.bool (aY !=0)) (eR st)) ?_;rcases Af (aY !=0) with s|s
      ·replace a:=AD a s;refine wF s<|wF s<|wF s<|wG c (fun st=>AH (v:=.bool true) (eR st) s (eR st))<|wD (fun st=>AH (v:=.bool true) (eR st) c (eR st))<|wA (v:=.bool true) rfl<|wn<|Ap ?_;obtain rfl:=oi a;refine AA rfl rfl ?_;exact⟨aV.Bl,rfl⟩
      ·replace a:=AE a s;have aT:=(t.bk.ext aN);refine wG s (fun st=>AU (l:=(Av h i j k m n o p q r b)) Hr (eR st) aT rfl rfl) ?_;have ⟨aI,aJ,aK,aL,aM⟩:=C2 x y z aA aB (Ab aN);replace a:=bind_some a;obtain⟨aC,aZ,a⟩:=a;refine wX s (fun st=>Ar QJ (eR st) (Cf (eR st)) (a23 aW b h i j k m n o p q r ZA _ aI.all aJ.all aK.all aL.all aM.all aC aZ)) ?_;rintro _ bD ⟨a0,rfl⟩;have a9:=aV.ext a0;refine wG s (fun st=>ET (eR st) (eR st))<|wG c (fun st=>AO (v:=.bool (decide (aC≤100))) (eR st) s (eR st))<|wD (fun st=>AH (v:=.bool (decide (aC≤100))) (eR st) c (eR st))<|wA (v:=.bool (decide (aC≤100))) rfl<|wn<|Ap ?_;obtain rfl:=oi a;refine AA rfl rfl ?_;exact⟨a9.Bl,rfl⟩
     ·replace a:=AE a c;refine wF c<|wF c<|wF c<|wF c<|DA rfl rfl rfl rfl (by decide)<|DA rfl rfl rfl rfl (by decide)<|DA rfl rfl rfl rfl (by decide)<|wF c<|wD (fun st=>AO (v:=.bool false) (eR st) c (eR st))<|wA (v:=.bool false) rfl<|wn<|Ap ?_;obtain rfl:=oi a;refine AA rfl rfl ?_;exact⟨u.Bl,rfl⟩
    ·replace a:=AE a g;refine wF g<|wF g<|wF g<|wF g<|wD (fun st=>AO (v:=.bool false) (eR st) g (eR st))<|wM (v:=.bool false) rfl<|wH<|wH<|wH<|wH<|DA rfl rfl rfl rfl (by decide)<|DA rfl rfl rfl rfl (by decide)<|DA rfl rfl rfl rfl (by decide)<|wH<|wD (fun st=>AO (v:=.bool false) (eR st) rfl (eR st))<|wA (v:=.bool false) rfl<|wn<|Ap ?_;obtain rfl:=oi a;refine AA rfl rfl ?_;exact⟨u.Bl,rfl⟩
   ·replace a:=AE a f;refine wF f<|wF f<|wF f<|wF f<|wD (fun st=>AO (v:=.bool false) (eR st) f (eR st))<|wM (v:=.bool false) rfl<|wH<|wH<|wH<|wH<|wD (fun st=>AO (v:=.bool false) (eR st) rfl (eR st))<|wM (v:=.bool false) rfl<|wH<|wH<|wH<|wH<|DA rfl rfl rfl rfl (by decide)<|DA rfl rfl rfl rfl (by decide)<|DA rfl rfl rfl rfl (by decide)<|wH<|wD (fun st=>AO (v:=.bool false) (eR st) rfl (eR st))<|wA (v:=.bool false) rfl<|wn<|Ap ?_;obtain rfl:=oi a;refine AA rfl rfl ?_;exact⟨u.Bl,rfl⟩
  ·replace a:=AE a e;refine wF e<|wF e<|wF e<|wF e<|wD (fun st=>AO (v:=.bool false) (eR st) e (eR st))<|wM (v:=.bool false) rfl<|wH<|wH<|wH<|wH<|wD (fun st=>AO (v:=.bool false) (eR st) rfl (eR st))<|wM (v:=.bool false) rfl<|wH<|wH<|wH<|wH<|wD (fun st=>AO (v:=.bool false) (eR st) rfl (eR st))<|wM (v:=.bool false) rfl<|wH<|wH<|wH<|wH<|DA rfl rfl rfl rfl (by decide)<|DA rfl rfl rfl rfl (by decide)<|DA rfl rfl rfl rfl (by decide)<|wH<|wD (fun st=>AO (v:=.bool false) (eR st) rfl (eR st))<|wA (v:=.bool false) rfl<|wn<|Ap ?_;obtain rfl:=oi a;refine AA rfl rfl ?_;exact⟨u.Bl,rfl⟩
 ·replace a:=AE a d;refine wF d<|wF d<|wF d<|wF d<|wD (fun st=>AO (v:=.bool false) (eR st) d (eR st))<|wM (v:=.bool false) rfl<|wH<|wH<|wH<|wH<|wD (fun st=>AO (v:=.bool false) (eR st) rfl (eR st))<|wM (v:=.bool false) rfl<|wH<|wH<|wH<|wH<|wD (fun st=>AO (v:=.bool false) (eR st) rfl (eR st))<|wM (v:=.bool false) rfl<|wH<|wH<|wH<|wH<|wD (fun st=>AO (v:=.bool false) (eR st) rfl (eR st))<|wM (v:=.bool false) rfl<|wH<|wH<|wH<|wH<|DA rfl rfl rfl rfl (by decide)<|DA rfl rfl rfl rfl (by decide)<|DA rfl rfl rfl rfl (by decide)<|wH<|wD (fun st=>AO (v:=.bool false) (eR st) rfl (eR st))<|wA (v:=.bool false) rfl<|wn<|Ap ?_;obtain rfl:=oi a;refine AA rfl rfl ?_;exact⟨u.Bl,rfl⟩
theorem Zd m g f(Z:Nat→Prop) w l(b:Fk m g f=some l):
 BW Tryz.prog 16 #[I g,I f] w (fun v w'=>Ext w w'∧BA.R w' (zf Z w []) v l):=by
 unfold Fk at b;refine rq (N:=19) Tryz.func16 fun n k o=>?_;have i:=sA 0 k;have j:=sA 1 k;clear k;have h:Hp FN [] w [] w:=Hp.start (BB.none w);refine cr<|wA (v:=.bool false) rfl<|wr<|wM (v:=I f) j<|wD (fun st=>DO (eR st) (eR st))<|wM (v:=.bool (f !=1)) rfl ?_;rcases Af (f !=1) with c|c
 ·replace b:=AD b c;refine wF c<|wF c<|wD (fun st=>AH (v:=.bool true) (eR st) c (eR st))<|wM (v:=.bool true) rfl<|BK rfl rfl rfl rfl (by decide) (fun st=>Ay (v:=I g) (ee st i))<|BK rfl rfl rfl rfl (by decide) (fun st=>DO (eR st) (eR st))<|BK rfl rfl rfl rfl (by decide) (fun st=>Ay (v:=.bool (g !=2)) (eR st)) ?_;rcases Af (g !=2) with d|d
  ·replace b:=AD b d;refine wF d<|wF d<|BK rfl rfl rfl rfl (by decide) (fun st=>AH (v:=.bool true) (eR st) d (eR st))<|wD (fun st=>AH (v:=.bool true) (eR st) rfl (eR st))<|wA (v:=.bool true) rfl<|wn<|Ap ?_;obtain rfl:=oi b;refine AA rfl rfl ?_;exact⟨h.Bl,rfl⟩
  ·replace b:=AE b d;refine wN d (v:=I f) j<|wG d (fun st=>Ew (eR st) (eR st))<|BK rfl rfl rfl rfl (by decide) (fun st=>AO (v:=.bool (f==2)) (eR st) d (eR st))<|wD (fun st=>AH (v:=.bool (f==2)) (eR st) rfl (eR st))<|wA (v:=.bool (f==2)) rfl<|wn<|Ap ?_;obtain rfl:=oi b;refine AA rfl rfl ?_;exact⟨h.Bl,rfl⟩
 ·replace b:=AE b c;refine wN c (v:=I g) i<|wG c (fun st=>Ew (eR st) (eR st))<|wD (fun st=>AO (v:=.bool (g==1)) (eR st) c (eR st))<|wM (v:=.bool (g==1)) rfl ?_;rcases Af (g==1) with a|a
  ·replace b:=AD b a;refine wN a (v:=I g) i<|wG a (fun st=>DO (eR st) (eR st))<|wG a (fun st=>Ay (v:=.bool (g !=2)) (eR st)) ?_;rcases Af (g !=2) with e|e
   ·replace b:=AD b e;refine wF e<|wF e<|wG a (fun st=>AH (v:=.bool true) (eR st) e (eR st))<|wD (fun st=>AH (v:=.bool true) (eR st) a (eR st))<|wA (v:=.bool true) rfl<|wn<|Ap ?_;obtain rfl:=oi b;refine AA rfl rfl ?_;exact⟨h.Bl,rfl⟩
   ·replace b:=AE b e;refine wN e (v:=I f) j<|wG e (fun st=>Ew (eR st) (eR st))<|wG a (fun st=>AO (v:=.bool (f==2)) (eR st) e (eR st))<|wD (fun st=>AH (v:=.bool (f==2)) (eR st) a (eR st))<|wA (v:=.bool (f==2)) rfl<|wn<|Ap ?_;obtain rfl:=oi b;refine AA rfl rfl ?_;exact⟨h.Bl,rfl⟩
  ·replace b:=AE b a;refine wF a<|wF a<|wF a<|DA rfl rfl rfl rfl (by decide)<|DA rfl rfl rfl rfl (by decide)<|wF a<|wD (fun st=>AO (v:=.bool false) (eR st) a (eR st))<|wA (v:=.bool false) rfl<|wn<|Ap ?_;obtain rfl:=oi b;refine AA rfl rfl ?_;exact⟨h.Bl,rfl⟩
theorem RS aR d b c h i(Z:Nat→Prop) w aS(a:Dh aR d b c h i=some aS):
 BW Tryz.prog 14 #[I d,I b,I c,I h,I i] w (fun v w'=>Ext w w'∧(DP .i64).R w' (zf Z w []) v aS):=by
 unfold Dh at a;refine rq (N:=41) Tryz.func14 fun a4 p a5=>?_;have aO:=sA 0 p;have q:=sA 1 p;have r:=sA 2 p;have aP:=sA 3 p;have aQ:=sA 4 p;clear p;have aF:Hp FN [] w [] w:=Hp.start (BB.none w);refine cr<|wA (v:=I 0) rfl<|wr<|wM (v:=I d) aO ?_;replace a:=Kl a;obtain⟨aG,a⟩:=a;replace a:=AT a;obtain⟨aT,a⟩:=a;refine wD (fun st=>L8 (eR st) (eR st) aG.1 aG.2 aT) ?_;replace a:=AT a;obtain⟨aU,a⟩:=a;refine wD (fun st=>BV (eR st) (eR st) aU)<|wD (fun st=>Pk (eR st) (eR st))<|wD (fun st=>Lh (eR st) (eR st))<|wA (v:=I (max (1:Int) (min (5:Int) ((1:Int)+(d/40))))) rfl<|wr<|wM (v:=I c) r<|wM (v:=I c) r<|wM (v:=I b) q<|wM (v:=I b) q<|wD (fun st=>Dj (vs:= #[(0,I b),(1,I b)]) (v:=.agg #[I b,I b]) (JD (eR st) (eR st)) (by kernel_rfl))<|wM (v:=I (max (1:Int) (min (5:Int) ((1:Int)+(d/40))))) rfl<|wM (v:=I h) aP<|wM (v:=I i) aQ<|wD (fun st=>Dj (vs:= #[(0,.agg #[I b,I b]),(1,I (max (1:Int) (min (5:Int) ((1:Int)+(d/40))))),(2,I h),(3,I i)]) (v:=.agg #[I b,I b,I (max (1:Int) (min (5:Int) ((1:Int)+(d/40)))),I h,I i]) (ZM (eR st) (eR st) (eR st) (eR st)) (by kernel_rfl))<|wE (fun st=>Cw (e:=109) (vs:= #[(0,.agg #[I b,I b,I (max (1:Int) (min (5:Int) ((1:Int)+(d/40)))),I h,I i])]) (cs:= #[I b,I b,I (max (1:Int) (min (5:Int) ((1:Int)+(d/40)))),I h,I i]) (Jj (eR st)) (by kernel_rfl)) ?_;rintro _ bA ⟨k,rfl,s⟩;have aH:=aF.nb s;have aZ:=aF.BZ s;refine wD (fun st=>Dj (vs:= #[(0,I 9),(1,I 1),(2,I c),(3,I c),(4,.slice (some ⟨k,0,none⟩) 1 1)]) (v:=.agg #[I 9,I 1,I c,I c,.slice (some ⟨k,0,none⟩) 1 1]) (ZP (eR st) (eR st) (eR st) (eR st) (eR st)) (by kernel_rfl))<|wE (fun st=>Ch (cs:= #[I 0,I 0,I 0,I 0,.slice none 0 0]) Vx rfl) ?_;rintro _ bB ⟨a2,rfl,m⟩;have aI:=aH.nb m;have a0:=aH.BZ m;refine BC rfl rfl (fun st=>Bt (n:=5) (l:=[I 9,I 1,I c,I c,.slice (some ⟨k,0,none⟩) 1 1]) (Cm:= #[I 9,I 1,I c,I c,.slice (some ⟨k,0,none⟩) 1 1]) (eR st) (eR st) YL m.bk rfl rfl (show 0+5≤5 by decide) (AW rfl) rfl) ?_;rintro _ bC t;have aJ:=aI.gr t.gr 0 rfl;refine wr<|wD (fun st=>AU (l:=[I 9,I 1,I c,I c,.slice (some ⟨k,0,none⟩) 1 1]) H7 (eR st) t.bk rfl rfl)<|wE (fun st=>Cw (e:=3) (vs:= #[(0,I 0)]) (cs:= #[I 0]) (Jj (eR st)) (by kernel_rfl)) ?_;rintro _ bD ⟨u,rfl,o⟩;have aK:=aJ.nb o;have x:=aJ.BZ o;refine wE (fun st=>Cw (e:=23) (vs:= #[(0,.slice (some ⟨u,0,none⟩) 1 1)]) (cs:= #[.slice (some ⟨u,0,none⟩) 1 1]) (Jj (eR st)) (by kernel_rfl)) ?_;rintro _ a3 ⟨aV,rfl,j⟩;have aL:=aK.nb j;have y:=aK.BZ j;have aM:=aL.erase 1;have z:=(o.bk.ext j.gr);have aA:Sl (Ae .i64) a3 (zf Z w [some aV,some a2,some k]) (some ⟨u,0,none⟩) 1 [0]:=Jy (e:=(Ae .i64)) (xs:=[0]) (Bw:=[[I 0]]) z (aL.lit 1 rfl x) ⟨rfl,trivial⟩ rfl (Nat.le_refl _);have aW:=aM.erase 0;have aB:=j.bk;have aC:=(aA.mv (AB 0));have aD:=Jy (e:=(JS (Ae .i64))) (xs:=[[0]]) (Bw:=[[.slice (some ⟨u,0,none⟩) 1 1]]) aB (aM.lit 0 rfl y) ⟨⟨_,_,rfl,aC⟩,trivial⟩ rfl (Nat.le_refl _);have aE:=((((s.bk.ext m.gr).gr t.gr (aI.nq 1 0)).ext o.gr).ext j.gr);replace a:=bind_some a;obtain⟨f,aX,a⟩:=a;refine wE (fun st=>Ar XV (eR st) (EV (eR st) (eR st) (eR st)) (a41 aR (⟨9,1,c,c,[(⟨b,b,max (1:Int) (min (5:Int) ((1:Int)+(d/40))),h,i⟩:BS)]⟩:Bv) [[0]] 0 (some ⟨k,0,none⟩) 1 (some ⟨aV,0,none⟩) 1 ZA _ (Jy (e:=Cp) (xs:=[(⟨b,b,max (1:Int) (min (5:Int) ((1:Int)+(d/40))),h,i⟩:BS)]) (Bw:=[[I b,I b,I (max (1:Int) (min (5:Int) ((1:Int)+(d/40)))),I h,I i]]) aE trivial ⟨rfl,trivial⟩ rfl (Nat.le_refl _)) aD.all f aX)) ?_;rintro _ a9 ⟨aY,⟨_,_,rfl,rfl,rfl⟩⟩;have aN:=aW.ext aY;refine wM (v:=.tuple #[I f.1,I f.2]) rfl<|wD (fun st=>DI (v:=I f.1) (eR st) rfl)<|wD (fun st=>DI (v:=I f.2) (eR st) rfl)<|wA (v:=I f.1) rfl<|wA (v:=I f.2) rfl<|wn<|Ah<|cr<|wM (v:=I f.2) rfl<|wD (fun st=>DO (eR st) (eR st))<|wn ?_;rcases Af (f.2 !=0) with g|g
 ·replace a:=AD a g;refine Aw rfl g<|cr<|wA (v:=I 0) rfl<|wn<|Ap<|AZ ?_;obtain rfl:=oi a;refine AA rfl rfl ?_;exact⟨aN.Bl,rfl⟩
 ·replace a:=AE a g;refine AI rfl g<|cn<|cr<|wM (v:=I f.1) rfl<|wA (v:=I f.1) rfl<|wn<|Ap ?_;obtain rfl:=oi a;refine AA rfl rfl ?_;exact⟨aN.Bl,rfl⟩
theorem a7 d(Z:Nat→Prop) w i(a:D1 d=some i):
 BW Tryz.prog 7 #[] w (fun v w'=>Ext w w'∧BA.R w' (zf Z w []) v i):=by
 unfold D1 at a;refine rq (N:=11) Tryz.func7 fun s r t=>?_;clear r;have j:Hp FN [] w [] w:=Hp.start (BB.none w);refine cr<|wA (v:=.bool false) rfl<|wn<|Ah<|Aj ?_;replace a:=bind_some a;obtain⟨r1,k,a⟩:=a;refine wE (fun st=>Ar Le (eR st) (Py (eR st) (eR st) (eR st) (eR st) (eR st)) (RS d 20 0 1 2 1 ZA _ r1 k)) ?_;rintro _ w2 ⟨l,rfl⟩;have f:=j.ext l;refine wD (fun st=>Ew (eR st) (eR st))<|wM (v:=.bool (r1==1)) rfl ?_;rcases Af (r1==1) with b|b
 ·replace a:=AD a b;replace a:=bind_some a;obtain⟨e,m,a⟩:=a;refine wX b (fun st=>Ar Le (eR st) (Py (eR st) (eR st) (eR st) (eR st) (eR st)) (RS d 40 0 1 2 1 ZA _ e m)) ?_;rintro _ u ⟨n,rfl⟩;have g:=f.ext n;refine wG b (fun st=>Ew (eR st) (eR st))<|wD (fun st=>AH (v:=.bool (e==3)) (eR st) b (eR st))<|wM (v:=.bool (e==3)) rfl ?_;rcases Af (e==3) with c|c
  ·replace a:=AD a c;replace a:=bind_some a;obtain⟨h,o,a⟩:=a;refine wX c (fun st=>Ar Le (eR st) (Py (eR st) (eR st) (eR st) (eR st) (eR st)) (RS d 40 0 1 2 0 ZA _ h o)) ?_;rintro _ x ⟨p,rfl⟩;have q:=g.ext p;refine wG c (fun st=>Ew (eR st) (eR st))<|wD (fun st=>AH (v:=.bool (h==2)) (eR st) c (eR st))<|wA (v:=.bool (h==2)) rfl<|wn<|Ap ?_;obtain rfl:=oi a;refine AA rfl rfl ?_;exact⟨q.Bl,rfl⟩
  ·replace a:=AE a c;refine wF c<|wF c<|wD (fun st=>AO (v:=.bool false) (eR st) c (eR st))<|wA (v:=.bool false) rfl<|wn<|Ap ?_;obtain rfl:=oi a;refine AA rfl rfl ?_;exact⟨g.Bl,rfl⟩
 ·replace a:=AE a b;refine wF b<|wF b<|wD (fun st=>AO (v:=.bool false) (eR st) b (eR st))<|wM (v:=.bool false) rfl<|wH<|wH<|wD (fun st=>AO (v:=.bool false) (eR st) rfl (eR st))<|wA (v:=.bool false) rfl<|wn<|Ap ?_;obtain rfl:=oi a;refine AA rfl rfl ?_;exact⟨f.Bl,rfl⟩
end Go.Proofs.YtamobliaoknclaaGreat
end
section
namespace Go.Proofs.YtamobliaoknclaaGreat
open Go.RowKit Go.ChangeShapes Go.WideShapes
theorem QN{α β:Type}{g:α→Option β}:∀{l:List α} {r:List β},l.mapM g=some r→∀(i:Nat) (x:α),l[i]?=some x→∃y,r[i]?=some y∧g x=some y
 |[],_,_,i,x,b=>by simp at b
 |a::l,r,h,i,x,b=>by
  rw[List.mapM_cons] at h;obtain⟨y,d,e⟩:=Option.bind_eq_some_iff.1 h;obtain⟨ys,c,f⟩:=Option.bind_eq_some_iff.1 e;obtain rfl:y::ys=r:=by simpa using f
  cases i with
  |zero=>
   obtain rfl:a=x:=by simpa using b
   exact⟨y,rfl,d⟩
  |succ i=>exact QN c i x (by simpa using b)
theorem Lf{H:Type}{P:Program}{e:TypeId}{d:DataW H}{n:Nat}(b:n∈d.weights P e):∀{l:List (DataW H)},d∈l→n∈DataW.weightsAll P e l
 |[],h=>by cases h
 |a::l,h=>by
  rw[DataW.weightsAll,List.mem_append];rcases List.mem_cons.1 h with rfl|h
  ·exact .inl b
  ·exact .inr (Lf b h)
def OM {H:Type} (P:Program) (t:TypeId) (d:DataW H):Prop:=∀n∈d.weights P t,n≤reachBytes
theorem WG{H:Type}{P:Program}{a:List TypeId}{ds:List (DataW H)}(h:(DataW.weightsEach P a ds).all (· ≤reachBytes)=true){j:Nat}{t:TypeId}{d:DataW H}(b:a[j]?=some t)(c:ds[j]?=some d):OM P t d:=fun n e=>by
 have:=List.all_eq_true.1 h _ (DataW.weights_mem_each b c n e);simpa using this
def QO {α:Type} (P:Program) (t:TypeId) (e:CH α) (wf:α→Prop):Prop:=
 ∀(H:Type) (enc:TypeId×Value→H) (w:World) (sp:Nat→Bool) (fuel:Nat) (cs:List Value) (x:DataW H×List MemPlace),DataW.trod enc P w 0 sp true fuel t cs=some x→OM P t x.1→∃a,e.R w ZA cs a∧wf a
def H8(k:IntKind)(n:Int):Prop:=(Lit.int k n).wf=true
section
variable{P:Program}{t:TypeId}
theorem Ip{k:IntKind}(a:P.underlying t=some (.int k)):QO P t (Ae k) (H8 k):=by
 intro H enc w sp fuel cs x h _;obtain⟨n,b,_,c⟩:=DataW.trod_int a h;exact⟨n,b,c⟩
theorem KQ {e:Array Field} (g:P.underlying t=some (.struct e)) {H:Type} {enc:TypeId×Value→H} {w:World} {sp:Nat→Bool} {fuel:Nat} {cs:List Value} {x:DataW H×List MemPlace} (h:DataW.trod enc P w 0 sp true fuel t cs=some x):
  cs.length=P.cellsOf t∧∃c,∀(i a off:Nat),(e[i]?).map (fun f=>(f.type,f.offset))=some (a,off)→∃y,DataW.trod enc P w 0 sp true c a ((cs.drop off).take (P.cellsOf a))=some y∧(OM P t x.1→OM P a y.1):=by
 cases fuel with
 |zero=>simp[DataW.trod] at h
 |succ fuel=>
  unfold DataW.trod at h;simp only[g] at h;split at h
  ·rename_i m
   obtain⟨xs,o,rfl⟩:=Option.map_eq_some_iff.1 h;refine⟨m,fuel,fun i a off p=>?_⟩;obtain⟨f,b,he⟩:=Option.map_eq_some_iff.1 p;obtain⟨k,q⟩:f.type=a∧f.offset=off:=by simpa using he
   rw[←Array.getElem?_toList] at b;obtain⟨y,r,l⟩:=QN o i f b;rw[k,q] at l;refine⟨y,l,fun s n u=>s n ?_⟩;simp only[DataW.weights,g];exact DataW.weights_mem_each (j:=i) (t:=a) (d:=y.1) (by rw[List.getElem?_map,b];simp[k]) (by rw[List.getElem?_map,r];rfl) n u
  ·cases h
theorem Sr{w:World}{a:Addr}{n:Nat}{cs:List Value}(h:w.cells? 0 a n=some cs):cs.length=n∧∀j u,cs[j]?=some u→w.cell? (a.add j)=some u:=by
 unfold World.cells? at h;rw[if_pos (Nat.zero_le _)] at h;have d:=mapM_some_length h;refine⟨by simpa using d,?_⟩;have key:∀(l:List Nat) (r:List Value),l.mapM (fun i=>w.cell? (a.add i))=some r→∀(j i:Nat) (u:Value),l[j]?=some i→r[j]?=some u→w.cell? (a.add i)=some u:=by
  intro l
  induction l with
  |nil=>intro r _ j i u c;simp at c
  |cons b l ih=>
   intro r h j i u c e;rw[List.mapM_cons] at h;obtain⟨y,m,f⟩:=Option.bind_eq_some_iff.1 h;obtain⟨ys,g,o⟩:=Option.bind_eq_some_iff.1 f;obtain rfl:y::ys=r:=by simpa using o
   cases j with
   |zero=>
    obtain rfl:b=i:=by simpa using c
    obtain rfl:y=u:=by simpa using e
    exact m
   |succ j=>exact ih ys g j i u (by simpa using c) (by simpa using e)
 intro j u c;have k:j<n:=by
  have:=(List.getElem?_eq_some_iff.1 c).1;have f:cs.length=n:=by simpa using d
  omega
 exact key _ _ h j j u (by simp[k]) c
theorem TA{w:World}{a:Addr}{u:Value}(h:w.cell? a=some u):∃b o,a=⟨b,o,none⟩∧b<w.heap.size:=by
 obtain⟨b,o,pt⟩:=a;cases pt with
 |none=>
  refine⟨b,o,rfl,?_⟩;unfold World.cell? at h;cases c:w.heap[b]? with
  |none=>simp[c] at h
  |some o=>exact(Array.getElem?_eq_some_iff.1 c).1
 |some q=>
  unfold World.cell? at h;cases c:w.heap[b]? with
  |none=>simp[c] at h
  |some ob=>cases ob<;>simp[c] at h
theorem add_add{a:Addr}{k j:Nat}(h:k≤j):(a.add k).add (j-k)=a.add j:=by
 obtain⟨b,o,pt⟩:=a;cases pt with
 |none=>rw[GK,GK,GK];congr 1;omega
 |some q=>
  unfold Addr.add
  by_cases c:j=0
  ·have:k=0:=by omega
   subst this;subst c;simp
  ·by_cases d:k=0
   ·subst d;simp[c]
   ·by_cases e:j-k=0
    ·have:j=k:=by omega
     subst this;simp[d]
    ·simp[c,d,e];omega
theorem JP {α:Type} {e:TypeId} {ee:CH α} {wf:α→Prop} (aB:P.underlying t=some (.slice e)) (aM:P.cellsOf e=ee.sz) (h0:0<ee.sz) (aN:QO P e ee wf) {b:Nat} (aE:P.bytesOf e=b):QO P t (JS ee) (fun xs=>xs.length*b≤140737488351232∧∀x∈xs,wf x):=by
 intro H enc w sp fuel cs x h y;rcases Go.Deep.open_slice aB h with⟨rfl,_⟩|⟨a,len,cap,m,n0,D,aT,rfl,_,aF,aR,hm,aG,aC⟩
 ·exact⟨[],⟨none,0,rfl,Sl.nil _ _ _⟩,by simp,by simp⟩
 ·have aS:len≤m:=by rw[hm];split<;>omega
  subst aG;have l:len*b≤140737488351232:=by
   have:=y ((((List.range len).map D).length+((List.range (m-len)).map fun j=>D (len+j)).length)*P.bytesOf e) (by simp[DataW.weights,aB]);rw[aE] at this;have c:len*b≤(((List.range len).map D).length+((List.range (m-len)).map fun j=>D (len+j)).length)*b:=Nat.mul_le_mul_right _ (by simp);exact Nat.le_trans c this
  have p:∀i,i<len→OM P e (D i):=fun i hi n aH=>y n (by
   simp only[DataW.weights,aB];rw[List.mem_cons,List.mem_append];exact .inr (.inl (Lf aH (List.mem_map.2 ⟨i,by simpa using hi,rfl⟩))))
  have key:∀n,n≤len→∃Bw xs,R2 ee w ZA Bw xs∧xs.length=n∧(∀x∈xs,wf x)∧∀j u,Bw.flatten[j]?=some u→w.cell? (a.add j)=some u:=by
   intro n
   induction n with
   |zero=>exact fun _=>⟨[],[],trivial,rfl,by simp,by simp⟩
   |succ n ih=>
    intro aH;obtain⟨Bw,xs,q,c,aD,r⟩:=ih (by omega);obtain⟨ds,aO,aI⟩:=aC n (by omega);obtain⟨z,aP,aJ⟩:=aN _ _ _ _ _ _ _ aI (p n (by omega));obtain⟨aU,s⟩:=Sr aO;refine⟨Bw++[ds],xs++[z],q.append ⟨aP,trivial⟩,by simp[c],?_,?_⟩
    ·intro x f;rcases List.mem_append.1 f with f|f
     ·exact aD x f
     ·rw[List.mem_singleton.1 f];exact aJ
    ·intro j u d;rw[List.flatten_append] at d;rcases Nat.lt_or_ge j Bw.flatten.length with g|k
     ·rw[List.getElem?_append_left g] at d;exact r j u d
     ·rw[List.getElem?_append_right k] at d;have v:=s (j-Bw.flatten.length) u (by simpa using d);have aK:Bw.flatten.length=n*ee.sz:=by rw[q.KN,c]
      rw[aK] at v k;rw[aM] at v;rw[add_add k] at v;exact v
  obtain⟨Bw,xs,q,c,aD,r⟩:=key len (Nat.le_refl _);refine⟨xs,⟨some a,cap,by rw[c],by rw[c];exact aF,(fun e=>by cases e),Bw,q,?_⟩,by rw[c];exact l,aD⟩;cases aL:Bw.flatten with
  |nil=>exact .inl rfl
  |cons u us=>
   have hu:=r 0 u (by rw[aL];rfl);obtain⟨b,o,aA,g⟩:=TA hu;have aQ:a=⟨b,o,none⟩:=by
    obtain⟨b',o',pt⟩:=a;cases pt<;>simp[Addr.add] at aA⊢;exact aA
   subst aQ;refine .inr ⟨b,o,rfl,trivial,g,fun j u d=>?_⟩;have:=r j u (by rw[aL];exact d);rw[GK] at this;exact this
end
section
variable{H:Type}{enc:TypeId×Value→H}{P:Program}{W W':World}
theorem LS{sp:Nat→Bool}:∀{e:List TypeId} {vs:List Value} {ds:List (DataW H)} {ps:List MemPlace},DataW.TrodAll enc P W 0 sp true e vs ds ps→(∀p∈ps,W.sameAt W' p)→DataW.TrodAll enc P W' 0 sp true e vs ds ps
 |[],_,_,_,h,_=>by
  obtain⟨rfl,rfl,rfl⟩:=trodAll_nil h;exact rfl
 |_::_,_,_,_,h,f=>by
  obtain⟨v,j,d,k,a,b,rfl,rfl,rfl,⟨n,g⟩,i⟩:=trodAll_cons h;exact⟨a,b,⟨n,DataW.trod_carry n _ _ _ g fun p c=>f p (List.mem_append_left _ c)⟩,LS i fun p c=>f p (List.mem_append_right _ c),rfl⟩
theorem TB(K:Kids P (· <P.types.size))(c:∀t e,t<P.types.size→P.underlying t=some (.slice e)→0<P.cellsOf e){a:List TypeId}{vs:List Value}{ds:List (DataW H)}{ps:List MemPlace}(d:∀t∈a,t<P.types.size)
  (f:DataW.TrodAll enc P W 0 (fun _=>true) true a vs ds ps)(g:Ext W W')(b:∀p∈ps,p.block<W.heap.size)(sp:Nat→Bool)(h:∀p∈ps,sp p.block=true):DataW.TrodAll enc P W' 0 sp true a vs ds ps:=
 LS (DataW.TrodAll.respare K c d f h) fun p i=>(LU g).same (b p i)
variable{α:Type}{e:CH α}{wf:α→Prop}{t:TypeId}{b0:Nat}{v:Value}{d:DataW H}{p:List MemPlace}{sp:Nat→Bool}
theorem WH{c:Array Field}(f:P.underlying t=some (.struct c))(g:QO P t e wf)(b:Value.okWide P W .any b0 t v)(h:DataW.Trod enc P W 0 sp true t v d p)(i:OM P t d):∃a cs,v=.agg cs.toArray∧e.R W ZA cs a∧wf a:=by
 unfold Value.okWide at b;rw[f] at b;obtain⟨cs,rfl,_⟩:=b;obtain⟨n,j⟩:=h;obtain⟨a,k,l⟩:=g _ _ _ _ _ _ _ j i;exact⟨a,cs.toList,by simp,k,l⟩
theorem Ke{k:IntKind}(a:P.underlying t=some (.int k))(b:Value.okWide P W .any b0 t v)(h:DataW.Trod enc P W 0 sp true t v d p):∃n,v=.int k n∧H8 k n:=by
 obtain⟨n,c,_,_,e⟩:=open_int a b h;exact⟨n,c,e⟩
theorem Q0 {f:Func} {s:ChangeSpec} {apart fresh handsOn again:Bool} {args:Array Value} {v:Value} {ds gs:List (DataW H)} {before pa pv:List MemPlace}
  (k:DataW.Whole enc P f.params.toList s.vars apart W args.toList ds gs before)
  (g:∀(b:Nat) (sp:Nat→Bool) (n:Bool),DataW.TrodAll enc P W' b sp n f.resultTypes.toList (v.resultList f.resultTypes.size) (s.fn H (ds++gs)).results [])
  (c:∀sp:Nat→Bool,(∀p∈before,sp p.block=true)→DataW.TrodAll enc P W' 0 sp true f.params.toList args.toList (s.fn H (ds++gs)).args pa)
  (d:∀sp:Nat→Bool,(∀p∈before,sp p.block=true)→DataW.TrodVars enc P W' sp s.vars (s.fn H (ds++gs)).vars pv)
  (e:before=pa++pv) (o:Ext W W')
  (l:∀(j:Nat) (t:TypeId) (r:Value),f.resultTypes[j]?=some t→(v.resultList f.resultTypes.size)[j]?=some r→Value.okWide P W' .any 0 t r):
  s.post enc P f apart fresh handsOn again W args v W':=by
 have m:=LU o;have h:∀p∈before,p.block<W.heap.size:=fun p a=>k.lt p a;have hold:∀p∈before,(fun b=>decide (b<W.heap.size)) p.block=true:=fun p a=>by simpa using h p a
 refine⟨ds,gs,before,[],pa,pv,k,g _ _ _,c _ hold,d _ hold,World.keptBut_mono (fun p a=>⟨a,?_⟩) (m.frame (· ∈before)),fun _=>?_⟩
 ·rw[e,List.mem_append] at a;exact Or.inr a
 ·obtain⟨_,_,_,_,_,q,u⟩:=k;refine⟨l,_,_,([]++pa)++pv,⟨[]++pa,pv,trodAll_append (c _ (fun _ _=>rfl)) (g _ _ _),d _ (fun _ _=>rfl),rfl,?_,?_⟩,?_⟩
  ·intro b off a;have i:MemPlace.cell b off∈before:=by rw[e];simpa using a
   rw[m.frozen (h _ i)];exact q b off i
  ·intro w;have:=u w;rw[e] at this;simpa using this
  ·intro p a _;rw[e];simpa using a
theorem TD{f:FuncId}{args:Array Value}{w:World}{R:Value→World→Prop}(h:BW P f args w R):Calls P f args w (fun e w'=>∃v,e=.returned v∧R v w'):=h
end
theorem YU:∀{cs:List Value},cs.length=2→∃a0 a1,cs=[a0,a1]
 |[a0,a1],_=>⟨a0,a1,rfl⟩
theorem YV:∀{cs:List Value},cs.length=3→∃a0 a1 a2,cs=[a0,a1,a2]
 |[a0,a1,a2],_=>⟨a0,a1,a2,rfl⟩
theorem YW:∀{cs:List Value},cs.length=9→∃a0 a1 a2 a3 a4 a5 a6 a7 a8,cs=[a0,a1,a2,a3,a4,a5,a6,a7,a8]
 |[a0,a1,a2,a3,a4,a5,a6,a7,a8],_=>⟨a0,a1,a2,a3,a4,a5,a6,a7,a8,rfl⟩
theorem TE:QO Tryz.prog 81 AS (fun x=>(H8 .i64 x.Lo∧H8 .i64 x.Hi)):=by
 intro H enc w sp fuel cs x h c;obtain⟨d,j,e⟩:=KQ Tryz.underlying81 h;have k:Tryz.prog.cellsOf 81=2:=by kernel_rfl
 rw[k] at d;have f:Tryz.prog.cellsOf 3=1:=by kernel_rfl
 obtain⟨a0,a1,rfl⟩:=YU d;obtain⟨m,a,g⟩:=e 0 3 0 rfl;simp only[f,List.drop_zero,List.drop_succ_cons,List.take_succ_cons,List.take_zero] at a;obtain⟨n0,h0,w0⟩:=(Ip Tryz.underlying3) _ _ _ _ _ _ _ a (g c);cases h0;obtain⟨n,b,i⟩:=e 1 3 1 rfl;simp only[f,List.drop_zero,List.drop_succ_cons,List.take_succ_cons,List.take_zero] at b;obtain⟨n1,l,w1⟩:=(Ip Tryz.underlying3) _ _ _ _ _ _ _ b (i c);cases l;exact⟨⟨n0,n1⟩,rfl,w0,w1⟩
theorem Yg:QO Tryz.prog 83 Bd (fun x=>(H8 .i64 x.Week∧(H8 .i64 ((⟨x.Bo,x.Bq⟩:AR).Lo)∧H8 .i64 ((⟨x.Bo,x.Bq⟩:AR).Hi)))):=by
 intro H enc w sp fuel cs x h c;obtain⟨d,j,e⟩:=KQ Tryz.underlying83 h;have k:Tryz.prog.cellsOf 83=3:=by kernel_rfl
 rw[k] at d;have l:Tryz.prog.cellsOf 3=1:=by kernel_rfl
 have f:Tryz.prog.cellsOf 81=2:=by kernel_rfl
 obtain⟨a0,a1,a2,rfl⟩:=YV d;obtain⟨n,a,g⟩:=e 0 3 0 rfl;simp only[l,List.drop_zero,List.drop_succ_cons,List.take_succ_cons,List.take_zero] at a;obtain⟨n0,h0,w0⟩:=(Ip Tryz.underlying3) _ _ _ _ _ _ _ a (g c);cases h0;obtain⟨o,b,i⟩:=e 1 81 1 rfl;simp only[f,List.drop_zero,List.drop_succ_cons,List.take_succ_cons,List.take_zero] at b;obtain⟨n1,m,w1⟩:=TE _ _ _ _ _ _ _ b (i c);cases m;exact⟨⟨n0,n1.Lo,n1.Hi⟩,rfl,w0,w1⟩
theorem Yh:QO Tryz.prog 26 MN (fun x=>(H8 .i64 x.Ao∧(x.Ad.length*16≤140737488351232∧∀y∈x.Ad,(H8 .i64 y.Lo∧H8 .i64 y.Hi))∧(x.Am.length*8≤140737488351232∧∀y∈x.Am,H8 .i64 y)∧(x.AN.length*8≤140737488351232∧∀y∈x.AN,H8 .i64 y)∧(x.Bx.length*8≤140737488351232∧∀y∈x.Bx,H8 .i64 y)∧H8 .i64 x.Ct∧H8 .i64 x.CF∧H8 .i64 x.Trod∧(x.Looks.length*24≤140737488351232∧∀y∈x.Looks,(H8 .i64 y.Week∧(H8 .i64 ((⟨y.Bo,y.Bq⟩:AR).Lo)∧H8 .i64 ((⟨y.Bo,y.Bq⟩:AR).Hi)))))):=by
 intro H enc w sp fuel cs x h a;obtain⟨p,aE,c⟩:=KQ Tryz.underlying26 h;have aF:Tryz.prog.cellsOf 26=9:=by kernel_rfl
 rw[aF] at p;have e:Tryz.prog.cellsOf 3=1:=by kernel_rfl
 have q:Tryz.prog.cellsOf 22=1:=by kernel_rfl
 have d:Tryz.prog.cellsOf 23=1:=by kernel_rfl
 have r:Tryz.prog.cellsOf 24=1:=by kernel_rfl
 obtain⟨a0,a1,a2,a3,a4,a5,a6,a7,a8,rfl⟩:=YW p;obtain⟨bM,f,s⟩:=c 0 3 0 rfl;simp only[e,List.drop_zero,List.drop_succ_cons,List.take_succ_cons,List.take_zero] at f;obtain⟨n0,h0,w0⟩:=(Ip Tryz.underlying3) _ _ _ _ _ _ _ f (s a);cases h0;obtain⟨bN,g,t⟩:=c 1 22 1 rfl;simp only[q,List.drop_zero,List.drop_succ_cons,List.take_succ_cons,List.take_zero] at g;obtain⟨n1,⟨aG,aH,aI,s1⟩,w1⟩:=(JP (b:=16) Tryz.underlying22 (by kernel_rfl) (by decide) TE (by kernel_rfl)) _ _ _ _ _ _ _ g (t a);cases aI;obtain⟨bO,i,u⟩:=c 2 23 2 rfl;simp only[d,List.drop_zero,List.drop_succ_cons,List.take_succ_cons,List.take_zero] at i;obtain⟨aJ,⟨aK,aL,aM,s2⟩,w2⟩:=(JP (b:=8) Tryz.underlying23 (by kernel_rfl) (by decide) (Ip Tryz.underlying3) (by kernel_rfl)) _ _ _ _ _ _ _ i (u a);cases aM;obtain⟨bP,j,v⟩:=c 3 23 3 rfl;simp only[d,List.drop_zero,List.drop_succ_cons,List.take_succ_cons,List.take_zero] at j;obtain⟨aN,⟨aO,aP,aQ,aR⟩,aS⟩:=(JP (b:=8) Tryz.underlying23 (by kernel_rfl) (by decide) (Ip Tryz.underlying3) (by kernel_rfl)) _ _ _ _ _ _ _ j (v a);cases aQ;obtain⟨bQ,k,z⟩:=c 4 23 4 rfl;simp only[d,List.drop_zero,List.drop_succ_cons,List.take_succ_cons,List.take_zero] at k;obtain⟨n4,⟨aT,aU,aV,aW⟩,aX⟩:=(JP (b:=8) Tryz.underlying23 (by kernel_rfl) (by decide) (Ip Tryz.underlying3) (by kernel_rfl)) _ _ _ _ _ _ _ k (z a);cases aV;obtain⟨bR,l,aA⟩:=c 5 3 5 rfl;simp only[e,List.drop_zero,List.drop_succ_cons,List.take_succ_cons,List.take_zero] at l;obtain⟨aY,aZ,a9⟩:=(Ip Tryz.underlying3) _ _ _ _ _ _ _ l (aA a);cases aZ;obtain⟨bS,m,aB⟩:=c 6 3 6 rfl;simp only[e,List.drop_zero,List.drop_succ_cons,List.take_succ_cons,List.take_zero] at m;obtain⟨bA,bB,bC⟩:=(Ip Tryz.underlying3) _ _ _ _ _ _ _ m (aB a);cases bB;obtain⟨bT,n,aC⟩:=c 7 3 7 rfl;simp only[e,List.drop_zero,List.drop_succ_cons,List.take_succ_cons,List.take_zero] at n;obtain⟨bD,bE,bF⟩:=(Ip Tryz.underlying3) _ _ _ _ _ _ _ n (aC a);cases bE;obtain⟨bU,o,aD⟩:=c 8 24 8 rfl;simp only[r,List.drop_zero,List.drop_succ_cons,List.take_succ_cons,List.take_zero] at o;obtain⟨bG,⟨bH,bI,bJ,bK⟩,bL⟩:=(JP (b:=24) Tryz.underlying24 (by kernel_rfl) (by decide) Yg (by kernel_rfl)) _ _ _ _ _ _ _ o (aD a);cases bJ;exact⟨⟨n0,n1,aJ,aN,n4,aY,bA,bD,bG⟩,⟨aG,aH,aK,aL,aO,aP,aT,aU,bH,bI,rfl,s1,s2,aR,aW,bK⟩,w0,w1,w2,aS,aX,a9,bC,bF,bL⟩
theorem Ss{H:Type}{enc:TypeId×Value→H}{P:Program}{w:World}{base:Nat}{spare:Nat→Bool}{held:Bool}{t0 t1 t2 t3 t4 t5 t6:TypeId}{args:Array Value}{ds:List (DataW H)}{ps:List MemPlace}(h:DataW.TrodAll enc P w base spare held [t0,t1,t2,t3,t4,t5,t6] args.toList ds ps):
  ∃v0 v1 v2 v3 v4 v5 v6 d0 d1 d2 d3 d4 d5 d6 a b c d e f g,args= #[v0,v1,v2,v3,v4,v5,v6]∧ds=[d0,d1,d2,d3,d4,d5,d6]∧ps=a++b++c++d++e++f++g∧DataW.Trod enc P w base spare held t0 v0 d0 a∧DataW.Trod enc P w base spare held t1 v1 d1 b∧DataW.Trod enc P w base spare held t2 v2 d2 c∧DataW.Trod enc P w base spare held t3 v3 d3 d∧DataW.Trod enc P w base spare held t4 v4 d4 e∧DataW.Trod enc P w base spare held t5 v5 d5 f∧DataW.Trod enc P w base spare held t6 v6 d6 g:=by
 have i:=h;obtain⟨v0,q,d0,r,a,aF,aG,rfl,rfl,g0,j⟩:=trodAll_cons i;obtain⟨v1,s,d1,t,b,aH,rfl,rfl,rfl,g1,k⟩:=trodAll_cons j;obtain⟨v2,u,d2,v,c,aI,rfl,rfl,rfl,g2,l⟩:=trodAll_cons k;obtain⟨v3,x,d3,y,d,aJ,rfl,rfl,rfl,g3,m⟩:=trodAll_cons l;obtain⟨v4,z,d4,aA,e,aK,rfl,rfl,rfl,g4,n⟩:=trodAll_cons m;obtain⟨v5,aB,d5,aC,f,aL,rfl,rfl,rfl,g5,o⟩:=trodAll_cons n;obtain⟨v6,aD,d6,aE,g,aM,rfl,rfl,rfl,g6,p⟩:=trodAll_cons o;obtain⟨rfl,rfl,rfl⟩:=trodAll_nil p;exact⟨v0,v1,v2,v3,v4,v5,v6,d0,d1,d2,d3,d4,d5,d6,a,b,c,d,e,f,g,by cases args;simp_all,rfl,by simp,g0,g1,g2,g3,g4,g5,g6⟩
theorem ZK:ownKnob Tryz.prog.godebug=none:=by kernel_rfl
theorem YX:Kids Tryz.prog (· <Tryz.prog.types.size):=kids_rows (by kernel_rfl) (by kernel_rfl)
theorem YY:∀t e,t<Tryz.prog.types.size→Tryz.prog.underlying t=some (.slice e)→0<Tryz.prog.cellsOf e:=slices_full_of Tryz.prog (by kernel_rfl)
theorem Pg{x:Int}(h:H8 .u8 x):0≤x∧x<256:=by
 have a:(decide (IntKind.u8.min≤x)&&decide (x≤IntKind.u8.max))=true:=h;rw[Bool.and_eq_true,decide_eq_true_eq,decide_eq_true_eq] at a;have b:IntKind.u8.min=0:=by decide
 have c:IntKind.u8.max=255:=by decide
 omega
theorem Su{x:Int}(h:H8 .u16 x):0≤x∧x<65536:=by
 have a:(decide (IntKind.u16.min≤x)&&decide (x≤IntKind.u16.max))=true:=h;rw[Bool.and_eq_true,decide_eq_true_eq,decide_eq_true_eq] at a;have b:IntKind.u16.min=0:=by decide
 have c:IntKind.u16.max=65535:=by decide
 omega
end Go.Proofs.YtamobliaoknclaaGreat
end
section
namespace Go.Proofs.YtamobliaoknclaaGreat
open Go
theorem EJ{a b:Bool}(h:a=true)(g:b=true):(a&&b)=true:=by rw[h,g];rfl
theorem N9{a b:Bool}(h:(a&&b)=true):a=true:=(Bool.and_eq_true _ _▸h:a=true∧b=true).1
theorem TF{a b:Bool}(h:(a&&b)=true):b=true:=(Bool.and_eq_true _ _▸h:a=true∧b=true).2
theorem Yi:laidOutB Tryz.checked.prog=true:=by kernel_rfl
theorem Yj:mapsRowed Tryz.checked.prog=true:=by kernel_rfl
theorem WI:(Tryz.checked.prog.stops==[])=true:=by kernel_rfl
theorem WJ:(Tryz.checked.prog.stopKnobs==[])=true:=by kernel_rfl
theorem WK:Tryz.checked.prog.stopsHeard=true:=by kernel_rfl
theorem Yk:(Rows.topDriedRow.plainKeys==Tryz.checked.prog.plainKeys)=true:=by kernel_rfl
theorem QP:(Tryz.checked.prog.mayEnter&&(Rows.topDriedRow.lifted==Tryz.checked.prog.liftsFinal)&&(Tryz.checked.prog.make==some Rows.topDriedRow.make))=true:=by kernel_rfl
end Go.Proofs.YtamobliaoknclaaGreat
end
