import Derived.Test.YtbhofkcbfblijaaGreatETradeBest
import Derived.Test.YtbhofkcbfblijaaGreatRows
/-
  Proved: the law TradeBest returns true for every argument that the row hands over, and leaves every argument as it was; no condition beside the row's own.
-/
set_option linter.all false
section
namespace Go.Proofs.YtbhofkcbfblijaaGreat
open Go.RowKit Go.WideShapes
def JK(b:Nat)(d:Ah):Option (Bool):=
 (FW b d).bind fun g=>cond (!g) ((Es (BF b=some true)).bind fun _=>some (true)) ((CD b d).bind fun h=>(J1 b h).bind fun a=>(DN b d).bind fun c=>cond (c.2 !=0) (cond (a.2.2==c.2) (cond (a.2.1==0) (cond ((a.1.length:Int)==0) ((Es (BF b=some true)).bind fun _=>some (true)) (some (false))) (some (false))) (some (false))) ((LL b d c.1).bind fun e=>cond (a.2.2==0) (cond (a.2.1==e.2) ((Dk b a.1 e.1).bind fun f=>cond (f) ((Es (BF b=some true)).bind fun _=>some (true)) (some (false))) (some (false))) (some (false))))
end Go.Proofs.YtbhofkcbfblijaaGreat
end
section
namespace Go.Proofs.YtbhofkcbfblijaaGreat
section
variable{K:Nat}(hK:1000≤K)
include hK
theorem Vh(ha:BF K=some true)(t:Ah):JK K t=some true:=by
 unfold JK;rw[bd (Pp hK t)];cases h:Eh t with
 |false=>rw[nf,DG ha]
 |true=>
  obtain⟨s,n,g1,g2,g3⟩:=Yf hK h;rw[nt,bd (It hK t (Gn h)),bd g1,bd (QX hK h)]
  by_cases h0:BY t=0
  ·have b:=Eo h (C5 (C8 h0).1).1;obtain⟨hb,hn⟩:=g3 h0;obtain⟨c,a,g4⟩:=Aef hK b (C8 h0).2;obtain rfl:=hb.uniq a;rw[h0,if_pos rfl,cf (EW rfl),bd g4,ct (F9 rfl),ct (F9 hn),bd (QV hK (show s.length≤900 by have:=AbU hb;omega)),ct rfl,DG ha]
  ·obtain⟨rfl,rfl⟩:=g2 h0;rw[ct (FX h0),ct (F9 rfl),ct (F9 rfl),WC,DG ha]
end
theorem Wb(t:Ah):∃K,JK K t=some true:=⟨1000,Vh (Nat.le_refl _) L2 t⟩
end Go.Proofs.YtbhofkcbfblijaaGreat
end
section
namespace Go.Proofs.YtbhofkcbfblijaaGreat
open Go.RowKit Go.WideShapes
set_option maxRecDepth 20000
open HF
attribute [local irreducible] Dm WL CC CW LV B7 Ih GL One Bg
set_option maxHeartbeats 4000000 in
theorem a4 aR t c d e f g h i j k m n o(Z:Nat→Prop) w(cI:Sl Az w Z c d t.Ag)(cJ:Sl (Bs (Ao .i64)) w Z e f t.Ab)(cK:Sl AH w Z g h t.Ak)(cL:Sl Ba w Z i j t.AJ)(cM:Sl Bc w Z k m t.Aw)(cN:Sl Bp w Z n o t.Ar)(a:JK aR t=some true):
 B7 Tryz.prog 4 #[.agg (Ai c d e f g h i j k m n o t).toArray] w (fun v w'=>Ext w w'∧v=.bool true):=by
 unfold JK at a;refine rq (N:=64) Tryz.func4 fun dH ha dI=>?_;have cT:=sA 0 ha;clear ha;have cQ:Hp FN [] w [] w:=Hp.start (BL.none w);have ⟨bL,bM,bN,bO,bP,bQ⟩:=Cp cI cJ cK cL cM cN (Bd (Z:=Z) (L:=[]) w);refine cr<|wE (fun st=>BP (v:=.agg (Ai c d e f g h i j k m n o t).toArray) (cs:=(Ai c d e f g h i j k m n o t).toArray) (ee st cT) rfl) ?_;rintro _ w1 ⟨b1,rfl,bE⟩;have c4:=cQ.nb bE;have dE:=cQ.BU bE;refine wA (v:=.bool false) rfl<|wn<|Af<|cr<|wD (fun st=>AK (l:=(Ai c d e f g h i j k m n o t)) Cc (eR st) bE.bk rfl rfl) ?_;have ⟨aS,aT,aU,aV,aW,aX⟩:=Cp bL bM bN bO bP bQ (AA bE);replace a:=bind_some a;obtain⟨cO,c5,a⟩:=a;refine wE (fun st=>Aj Pr (eR st) (Cy (eR st)) (U8 aR t c d e f g h i j k m n o ZA _ aS.all aT.all aU.all aV.all aW.all aX.all cO c5)) ?_;rintro _ dQ ⟨bX,rfl⟩;have bY:=c4.ext bX;refine wD (fun st=>CJ (eR st))<|wn ?_;rcases Ae (!cO) with aN|aN
 ·replace a:=Ap a aN;have dF:cO=false:=by simpa using aN
  refine Am rfl aN<|Af<|Al ?_;replace a:=Ci a;obtain⟨c6,a⟩:=a;refine wE (fun st=>Aj EZ (eR st) Gj (a37 aR ZA _ c6)) ?_;rintro _ dR ⟨c7,rfl⟩;have c8:=bY.ext c7;refine wA (v:=.bool true) rfl<|wn<|Av<|AG ?_;have bF:=oi a;refine Ay rfl rfl ?_;exact⟨c8.AS,congrArg Value.bool bF⟩
 ·replace a:=Aq a aN;have dG:cO=true:=by simpa using aN
  refine An rfl aN<|cn<|Af<|Al ?_;have bI:=(bE.bk.ext bX);refine wD (fun st=>AK (l:=(Ai c d e f g h i j k m n o t)) Cc (eR st) bI rfl rfl) ?_;have ⟨aY,aZ,a0,a2,a3,a5⟩:=Cp aS aT aU aV aW aX (Ac bX);replace a:=bind_some a;obtain⟨c9,dA,a⟩:=a;refine wE (fun st=>Aj Ic (eR st) (Cy (eR st)) (M5 aR t c d e f g h i j k m n o (zf Z w [some b1]) _ aY aZ a0 a2 a3 a5 c9 dA)) ?_;rintro _ dJ ⟨bZ,⟨_,rfl,⟨b4,b5,b6,b7,b8,b9,cA,cB,cC,cD,cE,cF,rfl,aD,aE,aF,aG,aH,aI⟩⟩⟩;have cR:=bY.ext bZ;have ⟨aD,aE,aF,aG,aH,aI⟩:=Cp aD aE aF aG aH aI (bY.CQ (Nat.le_refl _));replace a:=bind_some a;obtain⟨b,cU,a⟩:=a;refine wE (fun st=>Aj XS (eR st) (Cy (eR st)) (a34 aR c9 b4 b5 b6 b7 b8 b9 cA cB cC cD cE cF (zf Z w [some b1]) _ aD aE aF aG aH aI b cU)) ?_;rintro _ dK ⟨bH,⟨_,_,_,rfl,⟨q,r,rfl,aJ⟩,rfl,rfl⟩⟩;have cS:=cR.ext bH;have aJ:=aJ.mv (cR.CQ (Nat.le_refl _));refine wM (v:=.tuple #[.slice q b.1.length r,I b.2.1,I b.2.2]) rfl<|wD (fun st=>Bz (v:=.slice q b.1.length r) (eR st) rfl)<|wD (fun st=>Bz (v:=I b.2.1) (eR st) rfl)<|wD (fun st=>Bz (v:=I b.2.2) (eR st) rfl)<|wA (v:=.slice q b.1.length r) rfl<|wA (v:=I b.2.1) rfl<|wA (v:=I b.2.2) rfl<|wn<|Af<|Al ?_;have bJ:=((bI.ext bZ).ext bH);refine wD (fun st=>AK (l:=(Ai c d e f g h i j k m n o t)) Cc (eR st) bJ rfl rfl) ?_;have ⟨a7,a8,a9,bA,bB,bC⟩:=Cp aY aZ a0 a2 a3 a5 (mt (Ac bZ) (Ac bH));replace a:=bind_some a;obtain⟨p,cV,a⟩:=a;refine wE (fun st=>Aj QZ (eR st) (Cy (eR st)) (Yh aR t c d e f g h i j k m n o (zf Z w [some b1]) _ a7 a8 a9 bA bB bC p cV)) ?_;rintro _ dL ⟨bD,⟨_,_,rfl,⟨u,x,rfl,aK⟩,rfl⟩⟩;have cG:=cS.ext bD;have aK:=aK.mv (cS.CQ (Nat.le_refl _));refine wM (v:=.tuple #[.slice u p.1.length x,I p.2]) rfl<|wD (fun st=>Bz (v:=.slice u p.1.length x) (eR st) rfl)<|wD (fun st=>Bz (v:=I p.2) (eR st) rfl)<|wA (v:=.slice u p.1.length x) rfl<|wA (v:=I p.2) rfl<|wn<|Af<|cr<|wM (v:=I p.2) rfl<|wD (fun st=>Db (eR st) (eR st))<|wn ?_;rcases Ae (p.2 !=0) with aO|aO
  ·replace a:=Ap a aO;refine Am rfl aO<|cr<|wM (v:=I b.2.2) rfl<|wM (v:=I p.2) rfl<|wD (fun st=>CT (eR st) (eR st))<|wM (v:=.bool (b.2.2==p.2)) rfl ?_;rcases Ae (b.2.2==p.2) with aL|aL
   ·replace a:=Ap a aL;refine wN aL (v:=I b.2.1) rfl<|wG aL (fun st=>CT (eR st) (eR st))<|wD (fun st=>AW (v:=.bool (b.2.1==0)) (eR st) aL (eR st))<|wM (v:=.bool (b.2.1==0)) rfl ?_;rcases Ae (b.2.1==0) with aA|aA
    ·replace a:=Ap a aA;refine wN aA (v:=.slice q b.1.length r) rfl<|wG aA (fun st=>Be Tryz.underlying31 (eR st))<|wG aA (fun st=>CT (eR st) (eR st))<|wD (fun st=>AW (v:=.bool ((b.1.length:Int)==0)) (eR st) aA (eR st))<|wM (v:=.bool ((b.1.length:Int)==0)) rfl ?_;rcases Ae ((b.1.length:Int)==0) with aP|aP
     ·replace a:=Ap a aP;replace a:=Ci a;obtain⟨cW,a⟩:=a;refine wX aP (fun st=>Aj EZ (eR st) Gj (a37 aR ZA _ cW)) ?_;rintro _ dM ⟨cX,rfl⟩;have dB:=cG.ext cX;refine wD (fun st=>AW (v:=.bool true) (eR st) aP (eR st))<|wA (v:=.bool true) rfl<|wn<|Av<|AG ?_;have bF:=oi a;refine Ay rfl rfl ?_;exact⟨dB.AS,congrArg Value.bool bF⟩
     ·replace a:=Aq a aP;exact absurd (oi a) (by decide)
    ·replace a:=Aq a aA;exact absurd (oi a) (by decide)
   ·replace a:=Aq a aL;exact absurd (oi a) (by decide)
  ·replace a:=Aq a aO;refine An rfl aO<|cn<|Af<|Al ?_;have cP:=(bJ.ext bD);refine wD (fun st=>AK (l:=(Ai c d e f g h i j k m n o t)) Cc (eR st) cP rfl rfl)<|wM (v:=.slice u p.1.length x) rfl ?_;have ⟨bR,bS,bT,bU,bV,bW⟩:=Cp a7 a8 a9 bA bB bC (Ac bD);replace a:=bind_some a;obtain⟨s,cY,a⟩:=a;refine wE (fun st=>Aj Afd (eR st) (CN (eR st) (eR st)) (a40 aR t p.1 c d e f g h i j k m n o u x (zf Z w [some b1]) _ bR bS bT bU bV bW aK s cY)) ?_;rintro _ dN ⟨cH,⟨_,_,rfl,⟨y,z,rfl,aM⟩,rfl⟩⟩;have dC:=cG.ext cH;have aM:=aM.mv (cG.CQ (Nat.le_refl _));refine wM (v:=.tuple #[.slice y s.1.length z,I s.2]) rfl<|wD (fun st=>Bz (v:=.slice y s.1.length z) (eR st) rfl)<|wD (fun st=>Bz (v:=I s.2) (eR st) rfl)<|wA (v:=.slice y s.1.length z) rfl<|wA (v:=I s.2) rfl<|wr<|wM (v:=I b.2.2) rfl<|wD (fun st=>CT (eR st) (eR st))<|wM (v:=.bool (b.2.2==0)) rfl ?_;rcases Ae (b.2.2==0) with aB|aB
   ·replace a:=Ap a aB;refine wN aB (v:=I b.2.1) rfl<|wN aB (v:=I s.2) rfl<|wG aB (fun st=>CT (eR st) (eR st))<|wD (fun st=>AW (v:=.bool (b.2.1==s.2)) (eR st) aB (eR st))<|wM (v:=.bool (b.2.1==s.2)) rfl ?_;rcases Ae (b.2.1==s.2) with aC|aC
    ·replace a:=Ap a aC;refine wN aC (v:=.slice q b.1.length r) rfl<|wG aC (fun st=>Au (v:=.slice y s.1.length z) (eR st)) ?_;have bG:=((aJ.mv (Ac bD)).mv (Ac cH));replace a:=bind_some a;obtain⟨bK,cZ,a⟩:=a;refine wX aC (fun st=>Aj On (eR st) (CN (eR st) (eR st)) (S7 aR b.1 s.1 q r y z ZA _ bG.all aM.all bK cZ)) ?_;rintro _ dO ⟨c0,rfl⟩;have dD:=dC.ext c0;refine wD (fun st=>AW (v:=.bool bK) (eR st) aC (eR st))<|wM (v:=.bool bK) rfl ?_;rcases Ae (bK) with aQ|aQ
     ·replace a:=Ap a aQ;replace a:=Ci a;obtain⟨c1,a⟩:=a;refine wX aQ (fun st=>Aj EZ (eR st) Gj (a37 aR ZA _ c1)) ?_;rintro _ dP ⟨c2,rfl⟩;have c3:=dD.ext c2;refine wD (fun st=>AW (v:=.bool true) (eR st) aQ (eR st))<|wA (v:=.bool true) rfl<|wn<|Av ?_;have bF:=oi a;refine Ay rfl rfl ?_;exact⟨c3.AS,congrArg Value.bool bF⟩
     ·replace a:=Aq a aQ;exact absurd (oi a) (by decide)
    ·replace a:=Aq a aC;exact absurd (oi a) (by decide)
   ·replace a:=Aq a aB;exact absurd (oi a) (by decide)
end Go.Proofs.YtbhofkcbfblijaaGreat
end
section
namespace Go.Proofs.YtbhofkcbfblijaaGreat
open Go.RowKit Go.ChangeShapes Go.WideShapes Go.ChangeAt
set_option maxRecDepth 100000 in
theorem Uq(os:Os)(started:os.Started)(H:Type)(enc:TypeId×Value→H):
  ReturnsInHanded {} Tryz.checked os 4 .any (Rows.tradeBestSpec.pre6 enc Tryz.prog Tryz.f4 Rows.tradeBestRow.domain false) (Rows.tradeBestSpec.post enc Tryz.prog Tryz.f4 false true false false):=by
 refine returnsInHanded_of_change_sized (C:=Tryz.checked) R8 started (by kernel_rfl) Tryz.func4
  (ChangeSpec.witness6 (enc:=enc) (C:=Tryz.checked) false ⟨#[], #[.agg #[.slice none 0 0,.slice none 0 0,.slice none 0 0,.int .i64 0,.slice none 0 0,.slice none 0 0,.slice none 0 0]],[]⟩ 8 (by kernel_rfl) (by kernel_rfl) (by kernel_rfl) (by kernel_rfl)) ?_
 intro W base args ds gs before d aF aN aG _;have a:∀(j:Nat) t v,Tryz.f4.params[j]?=some t→args[j]?=some v→Value.okWide Tryz.prog W .any base t v:=d;have b:=aF;obtain⟨p,q,aH,aO,rfl,aR,aS⟩:=aF;have g:DataW.TrodAll enc Tryz.prog W 0 (fun _=>true) true Tryz.f4.params.toList args.toList ds p:=aH;obtain⟨rfl,rfl⟩:=trodVars_none aO;simp only[List.append_nil] at b;have aI:∀x∈p,x.block<W.heap.size:=fun x f=>by simpa using b.lt x f
 have aJ:=g;have c:(DataW.weightsEach Tryz.prog (Tryz.f4.params.toList++[]) (ds++[])).all (· ≤reachBytes)=true:=aG;rw[Tryz.params4] at g a c;obtain⟨v0,d0,rfl,rfl,h0⟩:=trodAll_one g;obtain⟨aK,aT,aL,⟨h,i,k,l,m,n,o,r,s,u,w,y,rfl,z,aA,aB,aC,aD,aE⟩,w0⟩:=OD Tryz.underlying67 Ps (a 0 67 v0 rfl rfl) h0 (LQ (j:=0) c rfl rfl);subst aL;obtain⟨K,aP⟩:=Wb aK;refine(MR (a4 K aK h i k l m n o r s u w y ZA W z aA aB aC aD aE aP)).mono fun e W' ⟨v,he,f,aQ⟩=>?_;subst he;subst aQ;exact⟨_,rfl,Lq (pa:=p) (pv:=[]) b (fun _ _ _=>trodAll_mk1 (shut_bool Tryz.underlying4 _)) (fun sp hs=>MQ Qq Qr (by rw[Tryz.params4];decide) aJ f aI sp (fun x aM=>hs x (by simpa using aM))) (fun _ _=>rfl) (by simp) f (ok_one (by kernel_rfl) rfl (okWide_bool_mk Tryz.underlying4 _))⟩
theorem OY:((Rows.tradeBestRow.inPlace==Tryz.checked.prog.inPlace 4)&&(Rows.tradeBestRow.unfollowed==Tryz.checked.prog.unfollowed 4)&&(Rows.tradeBestRow.recurses==Tryz.checked.prog.recurses 4)&&(Rows.tradeBestRow.named==Tryz.checked.prog.varsNamed 4))=true:=by kernel_rfl
theorem Vi:joinedFacts Tryz.checked.prog 4 Tryz.f4 Rows.tradeBestSpec Rows.tradeBestRow=true:=by
 unfold joinedFacts;exact(Bu (Bu (Bu (Bu (Bu (Bu (Bu (Bu (Bu (Bu (Bu (Bu (Bu (Bu (Bu (Bu (Bu (Bu (Bu (Bu (Bu (Bu (Bu (Bu (Bu (Bu (Bu (Bu (Bu (Bu (Bu (by kernel_rfl) Pt) Pu) (by kernel_rfl)) (by kernel_rfl)) (by kernel_rfl)) OE) (by kernel_rfl)) OF) (F8 (F8 (F8 OY)))) (JJ (F8 (F8 OY)))) (JJ (F8 OY))) (JJ OY)) (by kernel_rfl)) (by kernel_rfl)) (by kernel_rfl)) (by kernel_rfl)) (by kernel_rfl)) (by kernel_rfl)) (by kernel_rfl)) (by kernel_rfl)) (by kernel_rfl)) Pv) (by kernel_rfl)) OG) (F8 (F8 Iu))) (JJ (F8 Iu))) (JJ Iu)) (by kernel_rfl)) (by kernel_rfl)) (by kernel_rfl)) (by kernel_rfl))
theorem tradeBest_holds:Rows.TradeBestSaid:=
 OpenClaim.holds_of_wide 4 Tryz.f4 rfl rfl rfl rfl rfl rfl rfl ⟨rfl,rfl,rfl,rfl,rfl⟩ rfl rfl rfl rfl rfl (by kernel_rfl) Tryz.func4 Vi
  (of_decide_eq_true (by kernel_rfl)) (by unfold Func.isWrapper;rw[if_neg (by decide+kernel)];exact⟨rfl,rfl⟩)
  (fun os started H enc _=>Uq os started H enc)
end Go.Proofs.YtbhofkcbfblijaaGreat
end
