import Derived.Test.YtbhofkcbfblijaaGreatETradeLeft
import Derived.Test.YtbhofkcbfblijaaGreatRows
/-
  Proved: the law TradeLeft returns true for every argument that the row hands over, and leaves every argument as it was; no condition beside the row's own.
-/
set_option linter.all false
section
namespace Go.Proofs.YtbhofkcbfblijaaGreat
open Go.RowKit Go.WideShapes
def LD(a:Nat)(b:Aj)(e:Int):Option (Bool):=
 (B6 a b).bind fun q=>cond (!q) ((EG (Bx a=some true)).bind fun _=>some (true)) ((Co a b).bind fun r=>(IY a r).bind fun c=>cond (c.2 !=0) (cond (c.2==11) ((EG (Bx a=some true)).bind fun _=>some (true)) (some (false))) ((EF a c.1 (b.Ao.length:Int)).bind fun f=>cond (!f.2) (some (false)) ((E5 .i64 e).bind fun _=>(CL a b).bind fun d=>(GG e d).bind fun _=>(CL a b).bind fun g=>(GG g f.1).bind fun _=>(Iw a b (NB g f.1)).bind fun j=>(Co a j).bind fun k=>(F9 a k).bind fun l=>(CL a b).bind fun h=>(GG h (It e d)).bind fun _=>(Iw a b (NB h (It e d))).bind fun m=>(Co a m).bind fun n=>(F9 a n).bind fun i=>cond (l.2==0) (cond (i.2==9) ((EG (Bx a=some true)).bind fun _=>some (true)) (cond (i.2==0) ((CN a (It e d)).bind fun o=>(E4 a o c.1).bind fun p=>cond (!p) ((EG (Bx a=some true)).bind fun _=>some (true)) (some (false))) (some (false)))) (some (false)))))
end Go.Proofs.YtbhofkcbfblijaaGreat
end
section
namespace Go.Proofs.YtbhofkcbfblijaaGreat
section
variable{K:Nat}(hK:1000≤K)
include hK
theorem Yb(ha:Bx K=some true)(t:Aj)(k:Int)(hk:0≤k)(p:k<256):LD K t k=some true:=by
 unfold LD;rcases I4 hK t with h|⟨h,a,hr⟩
 ·rw[bd h,nf,Dt ha]
 rw[bd hr,nt];have hlen:=E9 h;have d:=a.nl;obtain⟨x,g1,g2,g3⟩:=R5 hK h;rw[bd (GI hK t hlen),bd g1]
 by_cases h0:B5 t=0
 ·have e:=g3 h0;obtain⟨b,hb,rfl⟩:=e.is;have r:2^t.Ao.length≤2^5:=Nat.pow_le_pow_right (by omega) d;have s:=Nat.two_pow_pos t.Ao.length;have u:=I1 b;obtain⟨k',rfl⟩:∃k':Nat,k=k':=⟨k.toNat,by omega⟩;have hq:k'&&&(2^t.Ao.length-1)<2^t.Ao.length:=OU k' t.Ao.length;have c:∀q:Nat,E1 (C8 t (Kd ((2^t.Ao.length-1)^^^((2^t.Ao.length-1)&&&q)) 0 t.Ao)) []=E1 t (Ba q):=fun q=>by
   unfold E1;show(Bo t.C).any (fun l=>BB (As t l) [] 0 (Kd ((2^t.Ao.length-1)^^^((2^t.Ao.length-1)&&&q)) 0 t.Ao))=_
   congr 1;funext l;exact Ab5 _ d q
  have f:=Uw a ((2^t.Ao.length-1)^^^((2^t.Ao.length-1)&&&b));have g:=Uw a ((2^t.Ao.length-1)^^^((2^t.Ao.length-1)&&&(k'&&&(2^t.Ao.length-1))));obtain⟨v,i⟩:=S5 hK h a h0 f;obtain⟨d1,d2⟩:=S5 hK h a h0 g;rw[c,e.ok,if_pos rfl] at i;rw[c] at d2;rw[h0,cf (E6 rfl),bd (Pe hK (n:=t.Ao.length) (by omega) (show(Ba b).length≤900 by omega)),GS hb,nt,if_pos rfl,S3 (by omega),QL hk (by omega),bd (L2 hK a),KL (by omega) (by omega),bd (L2 hK a),KL (by omega) (by omega),Wb,bd (VN hK t (by omega) _),bd (GI hK _ f.len),bd i,bd (L2 hK a),RV,KL (by omega) (by omega),Wb,bd (VN hK t (by omega) _),bd (GI hK _ g.len),bd d2,ct (EO rfl)];cases j:E1 t (Ba (k'&&&(2^t.Ao.length-1))) with
  |false=>rw[if_neg (by simp),ct (EO rfl),Dt ha]
  |true=>
   have m:=I1 (k'&&&(2^t.Ao.length-1));rw[if_pos rfl,cf (Gw (show(0:Int)≠9 by decide)),ct (EO rfl),bd (M8 hK (by omega)),bd (Q9 hK (by omega) (show(Ba b).length≤900 by omega)),e.least _ hq j,nf,Dt ha]
 ·obtain rfl:=g2 h0;have o:B5 t=11:=by
   rcases Oq a with h1|h1
   ·exact absurd h1.1 h0
   ·exact h1.1
  rw[ct (Fy h0),o,ct (EO rfl),Dt ha]
end
theorem YN(t:Aj)(k:Int)(hk:0≤k)(a:k<256):∃K,LD K t k=some true:=⟨1000,Yb (Nat.le_refl _) Lc t k hk a⟩
end Go.Proofs.YtbhofkcbfblijaaGreat
end
section
namespace Go.Proofs.YtbhofkcbfblijaaGreat
open Go.RowKit Go.WideShapes
set_option maxRecDepth 20000
open HF
attribute [local irreducible] Eb WL CC CW LV Cw JC HO One Bv
set_option maxHeartbeats 4000000 in
theorem a10 aC r d3 e f g i j m n o p q b d(Z:Nat→Prop) w(fH:Sl AM w Z e f r.Al)(fI:Sl (BO (Ay .i64)) w Z g i r.Ac)(fJ:Sl AQ w Z j m r.Ap)(fK:Sl Bm w Z n o r.AH)(fL:Sl Bl w Z p q r.Aw)(fM:Sl BA w Z b d r.Ao)(a:LD aC r d3=some true):
 Cw Tryz.prog 10 #[.agg (Am e f g i j m n o p q b d r).toArray,.int .u8 d3] w (fun v w'=>Ext w w'∧v=.bool true):=by
 unfold LD at a;refine AS (N:=88) Tryz.func10 rfl rfl (by simp) ?_;intro g4 ha g5;have fW:=sA 0 ha;have fX:=sA 1 ha;clear ha;have fS:Hp FN [] w [] w:=Hp.start (Cc.none w);have ⟨eS,eT,eU,eV,eW,eX⟩:=Cz fH fI fJ fK fL fM (Bh (Z:=Z) (L:=[]) w);refine Af<|Ad<|wE (fun st=>Ci (v:=.agg (Am e f g i j m n o p q b d r).toArray) (cs:=(Am e f g i j m n o p q b d r).toArray) (ee st fW) rfl) ?_;rintro _ w1 ⟨b1,rfl,eB⟩;have gS:=fS.nb eB;have g1:=fS.Cr eB;refine wA (v:=.bool false) rfl<|Ag<|Ab<|Af<|Af<|Ad<|wD (fun st=>AR (l:=(Am e f g i j m n o p q b d r)) Cj (eR st) eB.bk rfl rfl) ?_;have ⟨dF,dG,dH,dI,dJ,dK⟩:=Cz eS eT eU eV eW eX (AP eB);replace a:=bind_some a;obtain⟨fN,gT,a⟩:=a;refine wE (fun st=>Ar NC (eR st) (CR (eR st)) (R7 aC r e f g i j m n o p q b d ZA _ dF.all dG.all dH.all dI.all dJ.all dK.all fN gT)) ?_;rintro _ hH ⟨eY,rfl⟩;have eZ:=gS.ext eY;refine wD (fun st=>Dz (eR st))<|Ag<|Ab ?_;rcases Ak (!fN) with cK|cK
 ·replace a:=Az a cK;have g2:fN=false:=by simpa using cK
  refine AD rfl cK<|Af<|Ad ?_;replace a:=Ck a;obtain⟨gU,a⟩:=a;refine wE (fun st=>Ar EI (eR st) Gx (a37 aC ZA _ gU)) ?_;rintro _ hI ⟨gV,rfl⟩;have gW:=eZ.ext gV;refine wA (v:=.bool true) rfl<|Ag<|Ab<|AI<|Ax ?_;have cL:=oi a;refine AJ rfl rfl ?_;exact⟨gW.Bc,congrArg Value.bool cL⟩
 ·replace a:=AA a cK;have g3:fN=true:=by simpa using cK
  refine AE rfl cK<|AL<|Ab<|Af<|Ad ?_;have eE:=(eB.bk.ext eY);refine wD (fun st=>AR (l:=(Am e f g i j m n o p q b d r)) Cj (eR st) eE rfl rfl) ?_;have ⟨dL,dM,dN,dO,dP,dQ⟩:=Cz dF dG dH dI dJ dK (Ah eY);replace a:=bind_some a;obtain⟨gX,gY,a⟩:=a;refine wE (fun st=>Ar GR (eR st) (CR (eR st)) (Lh aC r e f g i j m n o p q b d (zf Z w [some b1]) _ dL dM dN dO dP dQ gX gY)) ?_;rintro _ g6 ⟨e0,⟨_,rfl,⟨e1,e2,e3,e4,e5,e6,e7,e8,e9,fA,fB,fC,rfl,aL,aM,aN,aO,aP,aQ⟩⟩⟩;have fT:=eZ.ext e0;have ⟨aL,aM,aN,aO,aP,aQ⟩:=Cz aL aM aN aO aP aQ (eZ.Da (Nat.le_refl _));replace a:=bind_some a;obtain⟨x,fY,a⟩:=a;refine wE (fun st=>Ar Uk (eR st) (CR (eR st)) (a43 aC gX e1 e2 e3 e4 e5 e6 e7 e8 e9 fA fB fC (zf Z w [some b1]) _ aL aM aN aO aP aQ x fY)) ?_;rintro _ g7 ⟨eC,⟨_,_,rfl,⟨z,aA,rfl,aK⟩,rfl⟩⟩;have fU:=fT.ext eC;have aK:=aK.mv (fT.Da (Nat.le_refl _));refine wM (v:=.tuple #[.slice z x.1.length aA,I x.2]) rfl<|wD (fun st=>BH (v:=.slice z x.1.length aA) (eR st) rfl)<|wD (fun st=>BH (v:=I x.2) (eR st) rfl)<|wA (v:=.slice z x.1.length aA) rfl<|wA (v:=I x.2) rfl<|Ag<|Ab<|Af<|Af<|Ad<|wM (v:=I x.2) rfl<|wD (fun st=>DW (eR st) (eR st))<|Ag<|Ab ?_;rcases Ak (x.2 !=0) with cM|cM
  ·replace a:=Az a cM;refine AD rfl cM<|Af<|Ad<|wM (v:=I x.2) rfl<|wD (fun st=>Dj (eR st) (eR st))<|wM (v:=.bool (x.2==11)) rfl ?_;rcases Ak (x.2==11) with cN|cN
   ·replace a:=Az a cN;replace a:=Ck a;obtain⟨fZ,a⟩:=a;refine Di rfl rfl (Ae rfl cN) rfl (by decide) (fun st=>Ar EI (eR st) Gx (a37 aC ZA _ fZ)) ?_;rintro _ g8 ⟨f0,rfl⟩;have gZ:=fU.ext f0;refine wD (fun st=>AY (v:=.bool true) (eR st) cN (eR st))<|wA (v:=.bool true) rfl<|Ag<|Ab<|AI<|Ax ?_;have cL:=oi a;refine AJ rfl rfl ?_;exact⟨gZ.Bc,congrArg Value.bool cL⟩
   ·replace a:=AA a cN;exact absurd (oi a) (by decide)
  ·replace a:=AA a cM;refine AE rfl cM<|AL<|Ab<|Af<|Ad<|wM (v:=.slice z x.1.length aA) rfl<|wD (fun st=>Ai (eR st) (Fx _ _)) ?_;have eF:=((eE.ext e0).ext eC);refine wD (fun st=>AG (v:=.slice b r.Ao.length d) GF (eR st) eF rfl)<|wD (fun st=>Bu Tryz.underlying65 (eR st)) ?_;replace a:=bind_some a;obtain⟨aD,f1,a⟩:=a;refine wE (fun st=>Ar Sg (eR st) (Dw (eR st) (eR st)) (XH aC x.1 (r.Ao.length:Int) z aA ZA _ aK.all aD f1)) ?_;rintro _ g9 ⟨d4,⟨_,_,rfl,rfl,rfl⟩⟩;have g0:=fU.ext d4;refine wM (v:=.tuple #[I aD.1,.bool aD.2]) rfl<|wD (fun st=>BH (v:=I aD.1) (eR st) rfl)<|wD (fun st=>BH (v:=.bool aD.2) (eR st) rfl)<|wA (v:=I aD.1) rfl<|wA (v:=.bool aD.2) rfl<|Ag<|Ab<|Af<|Af<|Ad<|wM (v:=.bool aD.2) rfl<|wD (fun st=>Dz (eR st))<|Ag<|Ab ?_;rcases Ak (!aD.2) with cO|cO
   ·replace a:=Az a cO;exact absurd (oi a) (by decide)
   ·replace a:=AA a cO;have gQ:aD.2=true:=by simpa using cO
    refine AE rfl cO<|AL<|Ab<|Af<|Ad<|wM (v:=.int .u8 d3) fX ?_;replace a:=D1 a;obtain⟨f2,a⟩:=a;refine wD (fun st=>EX (k:=.i64) Rh Tryz.underlying3 (eR st) f2) ?_;have eG:=(eF.ext d4);refine wD (fun st=>AR (l:=(Am e f g i j m n o p q b d r)) Cj (eR st) eG rfl rfl) ?_;have ⟨dR,dS,dT,dU,dV,dW⟩:=Cz dL dM dN dO dP dQ (mt (Ah e0) (mt (Ah eC) (Ah d4)));replace a:=bind_some a;obtain⟨cP,f3,a⟩:=a;refine wE (fun st=>Ar Mp (eR st) (CR (eR st)) (Q5 aC r e f g i j m n o p q b d ZA _ dR.all dS.all dT.all dU.all dV.all dW.all cP f3)) ?_;rintro _ hA ⟨d5,rfl⟩;have eH:=g0.ext d5;replace a:=F5 a;obtain⟨f4,a⟩:=a;refine wD (fun st=>Qs (eR st) (eR st) f4)<|wA (v:=I (It d3 cP)) rfl<|Ag<|Ab<|Af ?_;have d6:=(eG.ext d5);have ⟨aR,aS,aT,aU,aV,aW⟩:=Cz dR dS dT dU dV dW (Ah d5);replace a:=bind_some a;obtain⟨eI,f5,a⟩:=a;replace a:=F5 a;obtain⟨f6,a⟩:=a;replace a:=bind_some a;obtain⟨eJ,f7,a⟩:=a;replace a:=bind_some a;obtain⟨eK,f8,a⟩:=a;replace a:=bind_some a;obtain⟨aE,f9,a⟩:=a;refine B9 12 [Kc (.agg (Am e f g i j m n o p q b d r).toArray),Kc (.agg (Am e f g i j m n o p q b d r).toArray),Kc (I eI),Kc (I aD.1),Kc (I (NB eI aD.1)),Kv (Hd MX) (zf Z w [some b1]) eJ,Kv (Hd MX) (zf Z w [some b1]) eK,Kv (PN (Gp AM) (Ev .i64)) (zf Z w [some b1]) aE,Kv (PN (Gp AM) (Ev .i64)) (zf Z w [some b1]) aE,Kv (Gp AM) (zf Z w [some b1]) aE.1,Kc (I aE.2),Kv (Gp AM) (zf Z w [some b1]) aE.1] mixed rfl rfl
        (Aa (oD (fun K=>AR (l:=(Am e f g i j m n o p q b d r)) Cj (es ((K.out 2 rfl).trans rfl)) (d6.ext K.AO) rfl rfl))
        (Aa (oD (fun K=>AR (l:=(Am e f g i j m n o p q b d r)) Cj (es ((K.out 2 rfl).trans rfl)) (d6.ext K.AO) rfl rfl))
        (Aa (Dl rfl rfl (fun a' w' ph K=>(Ar Mp rfl (CR (es (K.dq 1 48))) (Q5 aC r e f g i j m n o p q b d ZA _ (aR.mv (Ah K.AO)).all (aS.mv (Ah K.AO)).all (aT.mv (Ah K.AO)).all (aU.mv (Ah K.AO)).all (aV.mv (Ah K.AO)).all (aW.mv (Ah K.AO)).all eI f5)).mono (fun _ _ h=>⟨h.2,h.1⟩)))
        (Aa (oD (fun K=>Aq (es ((K.out 7 rfl).trans rfl))))
        (Aa (oD (fun K=>UQ (es (K.dq 2 49)) (es (K.dq 3 50)) f6))
        (Aa (Dl rfl rfl (fun a' w' ph K=>(Ar VO rfl (Dw (es (K.dq 0 47)) (es (K.dq 4 51))) (a60 aC r (NB eI aD.1) e f g i j m n o p q b d (zf Z w [some b1]) _ (aR.mv (Ah K.AO)) (aS.mv (Ah K.AO)) (aT.mv (Ah K.AO)) (aU.mv (Ah K.AO)) (aV.mv (Ah K.AO)) (aW.mv (Ah K.AO)) eJ f7)).mono (fun _ _ h=>⟨(Hd MX).mv h.2 ((eH.ext K.AO).Da (Nat.le_refl _)),h.1⟩)))
        (Aa (Dl rfl rfl (fun a' w' ph K=>by obtain⟨_,fO,⟨aX,aY,aZ,a0,a2,a3,a4,a5,a8,a9,bA,bB,rfl,cQ,cR,cS,cT,cU,cV⟩⟩:=K.dq 5 52;exact(Ar GR rfl (CR (es (t:=52) (v:=.agg (Am aX aY aZ a0 a2 a3 a4 a5 a8 a9 bA bB eJ).toArray) fO)) (Lh aC eJ aX aY aZ a0 a2 a3 a4 a5 a8 a9 bA bB (zf Z w [some b1]) _ cQ cR cS cT cU cV eK f8)).mono (fun _ _ h=>⟨(Hd MX).mv h.2 ((eH.ext K.AO).Da (Nat.le_refl _)),h.1⟩)))
        (Aa (Dl rfl rfl (fun a' w' ph K=>by obtain⟨_,fP,⟨bC,bD,bE,bF,bG,bH,bI,bJ,bK,bL,bM,bN,rfl,cW,cX,cY,cZ,c0,c1⟩⟩:=K.dq 6 53;exact(Ar RH rfl (CR (es (t:=53) (v:=.agg (Am bC bD bE bF bG bH bI bJ bK bL bM bN eK).toArray) fP)) (WC aC eK bC bD bE bF bG bH bI bJ bK bL bM bN (zf Z w [some b1]) _ cW cX cY cZ c0 c1 aE f9)).mono (fun _ _ h=>⟨(PN (Gp AM) (Ev .i64)).mv h.2 ((eH.ext K.AO).Da (Nat.le_refl _)),h.1⟩)))
        (Aa (Dl rfl rfl (fun a' w' ph K=>(Aq (v:=sl a' 54) rfl).mono (fun u CJ ⟨hu,hw⟩=>by subst hu;subst hw;exact⟨K.dq 7 54,Ext.refl _⟩)))
        (Aa (Dl rfl rfl (fun a' w' ph K=>by obtain⟨_,_,d7,⟨aG,aH,rfl,bO⟩,rfl⟩:=K.dq 8 46;exact(BH (v:=.slice aG aE.1.length aH) (es (t:=46) (v:=.tuple #[.slice aG aE.1.length aH,I aE.2]) d7) rfl).mono (fun u CJ ⟨hu,hw⟩=>by subst hu;subst hw;exact⟨⟨aG,aH,rfl,bO⟩,Ext.refl _⟩)))
        (Aa (oD (fun K=>by obtain⟨_,_,d7,⟨aG,aH,rfl,bO⟩,rfl⟩:=K.dq 8 46;exact BH (es (t:=46) d7) rfl))
        (Aa (Dl rfl rfl (fun a' w' ph K=>(LU (v:=sl a' 55) rfl).mono (fun u CJ ⟨hu,hw⟩=>by subst hu;subst hw;exact⟨K.dq 9 55,Ext.refl _⟩)))
        (B8 _))))))))))))) ?_
    intro hB;rintro _ rfl _ rfl _ rfl _ rfl _ rfl _ ⟨_,rfl,⟨aX,aY,aZ,a0,a2,a3,a4,a5,a8,a9,bA,bB,rfl,cQ,cR,cS,cT,cU,cV⟩⟩ _ ⟨_,rfl,⟨bC,bD,bE,bF,bG,bH,bI,bJ,bK,bL,bM,bN,rfl,cW,cX,cY,cZ,c0,c1⟩⟩ _ _ _ _ _ _ _ rfl _ ⟨aG,aH,rfl,bO⟩ d8;have eM:=eH.ext d8;refine wA (v:=I aE.2) rfl<|Ag<|Ab<|Af ?_;have eN:=(d6.ext d8);have ⟨dX,dY,dZ,d0,d1,d2⟩:=Cz aR aS aT aU aV aW (Ah d8);replace a:=bind_some a;obtain⟨eO,gA,a⟩:=a;replace a:=F5 a;obtain⟨gB,a⟩:=a;replace a:=bind_some a;obtain⟨eP,gC,a⟩:=a;replace a:=bind_some a;obtain⟨eQ,gD,a⟩:=a;replace a:=bind_some a;obtain⟨y,gE,a⟩:=a;refine B9 12 [Kc (.agg (Am e f g i j m n o p q b d r).toArray),Kc (.agg (Am e f g i j m n o p q b d r).toArray),Kc (I eO),Kc (I (It d3 cP)),Kc (I (NB eO (It d3 cP))),Kv (Hd MX) (zf Z w [some b1]) eP,Kv (Hd MX) (zf Z w [some b1]) eQ,Kv (PN (Gp AM) (Ev .i64)) (zf Z w [some b1]) y,Kv (PN (Gp AM) (Ev .i64)) (zf Z w [some b1]) y,Kv (Gp AM) (zf Z w [some b1]) y.1,Kc (I y.2),Kv (Gp AM) (zf Z w [some b1]) y.1] mixed rfl rfl
        (Aa (oD (fun K=>AR (l:=(Am e f g i j m n o p q b d r)) Cj (es ((K.out 2 rfl).trans rfl)) (eN.ext K.AO) rfl rfl))
        (Aa (oD (fun K=>AR (l:=(Am e f g i j m n o p q b d r)) Cj (es ((K.out 2 rfl).trans rfl)) (eN.ext K.AO) rfl rfl))
        (Aa (Dl rfl rfl (fun a' w' ph K=>(Ar Mp rfl (CR (es (K.dq 1 59))) (Q5 aC r e f g i j m n o p q b d ZA _ (dX.mv (Ah K.AO)).all (dY.mv (Ah K.AO)).all (dZ.mv (Ah K.AO)).all (d0.mv (Ah K.AO)).all (d1.mv (Ah K.AO)).all (d2.mv (Ah K.AO)).all eO gA)).mono (fun _ _ h=>⟨h.2,h.1⟩)))
        (Aa (oD (fun K=>Aq (es ((K.out 9 rfl).trans rfl))))
        (Aa (oD (fun K=>UQ (es (K.dq 2 60)) (es (K.dq 3 61)) gB))
        (Aa (Dl rfl rfl (fun a' w' ph K=>(Ar VO rfl (Dw (es (K.dq 0 58)) (es (K.dq 4 62))) (a60 aC r (NB eO (It d3 cP)) e f g i j m n o p q b d (zf Z w [some b1]) _ (dX.mv (Ah K.AO)) (dY.mv (Ah K.AO)) (dZ.mv (Ah K.AO)) (d0.mv (Ah K.AO)) (d1.mv (Ah K.AO)) (d2.mv (Ah K.AO)) eP gC)).mono (fun _ _ h=>⟨(Hd MX).mv h.2 ((eM.ext K.AO).Da (Nat.le_refl _)),h.1⟩)))
        (Aa (Dl rfl rfl (fun a' w' ph K=>by obtain⟨_,fQ,⟨bP,bQ,bR,bS,bT,bU,bV,bW,bX,bY,bZ,b4,rfl,c2,c3,c4,c5,c6,c7⟩⟩:=K.dq 5 63;exact(Ar GR rfl (CR (es (t:=63) (v:=.agg (Am bP bQ bR bS bT bU bV bW bX bY bZ b4 eP).toArray) fQ)) (Lh aC eP bP bQ bR bS bT bU bV bW bX bY bZ b4 (zf Z w [some b1]) _ c2 c3 c4 c5 c6 c7 eQ gD)).mono (fun _ _ h=>⟨(Hd MX).mv h.2 ((eM.ext K.AO).Da (Nat.le_refl _)),h.1⟩)))
        (Aa (Dl rfl rfl (fun a' w' ph K=>by obtain⟨_,fR,⟨b5,b6,b7,b8,b9,cA,cB,cC,cD,cE,cF,cG,rfl,c8,c9,dA,dB,dC,dD⟩⟩:=K.dq 6 64;exact(Ar RH rfl (CR (es (t:=64) (v:=.agg (Am b5 b6 b7 b8 b9 cA cB cC cD cE cF cG eQ).toArray) fR)) (WC aC eQ b5 b6 b7 b8 b9 cA cB cC cD cE cF cG (zf Z w [some b1]) _ c8 c9 dA dB dC dD y gE)).mono (fun _ _ h=>⟨(PN (Gp AM) (Ev .i64)).mv h.2 ((eM.ext K.AO).Da (Nat.le_refl _)),h.1⟩)))
        (Aa (Dl rfl rfl (fun a' w' ph K=>(Aq (v:=sl a' 65) rfl).mono (fun u CJ ⟨hu,hw⟩=>by subst hu;subst hw;exact⟨K.dq 7 65,Ext.refl _⟩)))
        (Aa (Dl rfl rfl (fun a' w' ph K=>by obtain⟨_,_,d9,⟨aI,aJ,rfl,cH⟩,rfl⟩:=K.dq 8 57;exact(BH (v:=.slice aI y.1.length aJ) (es (t:=57) (v:=.tuple #[.slice aI y.1.length aJ,I y.2]) d9) rfl).mono (fun u CJ ⟨hu,hw⟩=>by subst hu;subst hw;exact⟨⟨aI,aJ,rfl,cH⟩,Ext.refl _⟩)))
        (Aa (oD (fun K=>by obtain⟨_,_,d9,⟨aI,aJ,rfl,cH⟩,rfl⟩:=K.dq 8 57;exact BH (es (t:=57) d9) rfl))
        (Aa (Dl rfl rfl (fun a' w' ph K=>(LU (v:=sl a' 66) rfl).mono (fun u CJ ⟨hu,hw⟩=>by subst hu;subst hw;exact⟨K.dq 9 66,Ext.refl _⟩)))
        (B8 _))))))))))))) ?_
    intro hC;rintro _ rfl _ rfl _ rfl _ rfl _ rfl _ ⟨_,rfl,⟨bP,bQ,bR,bS,bT,bU,bV,bW,bX,bY,bZ,b4,rfl,c2,c3,c4,c5,c6,c7⟩⟩ _ ⟨_,rfl,⟨b5,b6,b7,b8,b9,cA,cB,cC,cD,cE,cF,cG,rfl,c8,c9,dA,dB,dC,dD⟩⟩ _ _ _ _ _ _ _ rfl _ ⟨aI,aJ,rfl,cH⟩ fD;have eD:=eM.ext fD;refine wA (v:=I y.2) rfl<|Ag<|Ab<|Af<|Ad<|wM (v:=I aE.2) rfl<|wD (fun st=>Dj (eR st) (eR st))<|wM (v:=.bool (aE.2==0)) rfl ?_;rcases Ak (aE.2==0) with aB|aB
    ·replace a:=Az a aB;refine An rfl rfl (Ae rfl aB) rfl (by decide) (fun st=>Aq (v:=I y.2) (eR st))<|An rfl rfl (Ae rfl aB) rfl (by decide) (fun st=>Dj (eR st) (eR st))<|An rfl rfl (Ae rfl aB) rfl (by decide) (fun st=>Aq (v:=.bool (y.2==9)) (eR st)) ?_;rcases Ak (y.2==9) with s|s
     ·replace a:=Az a s;refine Au (c:=true) rfl rfl (Ae rfl s) (by decide) rfl (by decide)<|Au (c:=true) rfl rfl (Ae rfl s) (by decide) rfl (by decide)<|Au (c:=true) rfl rfl (Ae rfl s) (by decide) rfl (by decide)<|FQ rfl rfl rfl rfl (by decide)<|FQ rfl rfl rfl rfl (by decide)<|FQ rfl rfl rfl rfl (by decide)<|FQ rfl rfl rfl rfl (by decide)<|FQ rfl rfl rfl rfl (by decide)<|Au (c:=true) rfl rfl (Ae rfl s) (by decide) rfl (by decide)<|An rfl rfl (Ae rfl aB) rfl (by decide) (fun st=>AY (v:=.bool true) (eR st) s (eR st))<|wD (fun st=>AY (v:=.bool true) (eR st) aB (eR st))<|wM (v:=.bool true) rfl ?_;replace a:=Ck a;obtain⟨gF,a⟩:=a;refine Di rfl rfl rfl rfl (by decide) (fun st=>Ar EI (eR st) Gx (a37 aC ZA _ gF)) ?_;rintro _ hD ⟨gG,rfl⟩;have gH:=eD.ext gG;refine wD (fun st=>AY (v:=.bool true) (eR st) rfl (eR st))<|wA (v:=.bool true) rfl<|Ag<|Ab<|AI ?_;have cL:=oi a;refine AJ rfl rfl ?_;exact⟨gH.Bc,congrArg Value.bool cL⟩
     ·replace a:=AA a s;refine An rfl rfl (Ae rfl s) rfl (by decide) (fun st=>Aq (v:=I y.2) (eR st))<|An rfl rfl (Ae rfl s) rfl (by decide) (fun st=>Dj (eR st) (eR st))<|An rfl rfl (Ae rfl s) rfl (by decide) (fun st=>Aq (v:=.bool (y.2==0)) (eR st)) ?_;rcases Ak (y.2==0) with aF|aF
      ·replace a:=Az a aF;refine An rfl rfl (Ae rfl aF) rfl (by decide) (fun st=>Aq (v:=I (It d3 cP)) (eR st)) ?_;replace a:=bind_some a;obtain⟨fV,gI,a⟩:=a;refine Di rfl rfl (Ae rfl aF) rfl (by decide) (fun st=>Ar Ms (eR st) (CR (eR st)) (Q7 aC (It d3 cP) (zf Z w [some b1]) _ fV gI)) ?_;rintro _ hE ⟨fE,⟨fF,fG,rfl,cI⟩⟩;have gJ:=eD.ext fE;have cI:=cI.mv (eD.Da (Nat.le_refl _));refine An rfl rfl (Ae rfl aF) rfl (by decide) (fun st=>Aq (v:=.slice z x.1.length aA) (eR st)) ?_;have eA:=(((((aK.mv (Ah d4)).mv (Ah d5)).mv (Ah d8)).mv (Ah fD)).mv (Ah fE));replace a:=bind_some a;obtain⟨dE,gK,a⟩:=a;refine Di rfl rfl (Ae rfl aF) rfl (by decide) (fun st=>Ar TN (eR st) (Dw (eR st) (eR st)) (a62 aC fV x.1 fF fG z aA ZA _ cI.all eA.all dE gK)) ?_;rintro _ hF ⟨gL,rfl⟩;have gM:=gJ.ext gL;refine An rfl rfl (Ae rfl aF) rfl (by decide) (fun st=>Dz (eR st))<|An rfl rfl (Ae rfl s) rfl (by decide) (fun st=>AY (v:=.bool !dE) (eR st) aF (eR st))<|An rfl rfl (Ae rfl aB) rfl (by decide) (fun st=>BC (v:=.bool !dE) (eR st) s (eR st))<|wD (fun st=>AY (v:=.bool !dE) (eR st) aB (eR st))<|wM (v:=.bool !dE) rfl ?_;rcases Ak (!dE) with cJ|cJ
       ·replace a:=Az a cJ;have gR:dE=false:=by simpa using cJ
        replace a:=Ck a;obtain⟨gN,a⟩:=a;refine Di rfl rfl (Ae rfl cJ) rfl (by decide) (fun st=>Ar EI (eR st) Gx (a37 aC ZA _ gN)) ?_;rintro _ hG ⟨gO,rfl⟩;have gP:=gM.ext gO;refine wD (fun st=>AY (v:=.bool true) (eR st) cJ (eR st))<|wA (v:=.bool true) rfl<|Ag<|Ab<|AI ?_;have cL:=oi a;refine AJ rfl rfl ?_;exact⟨gP.Bc,congrArg Value.bool cL⟩
       ·replace a:=AA a cJ;exact absurd (oi a) (by decide)
      ·replace a:=AA a aF;exact absurd (oi a) (by decide)
    ·replace a:=AA a aB;exact absurd (oi a) (by decide)
end Go.Proofs.YtbhofkcbfblijaaGreat
end
section
namespace Go.Proofs.YtbhofkcbfblijaaGreat
open Go.RowKit Go.ChangeShapes Go.WideShapes Go.ChangeAt
theorem Zi(t:Aj)(k:Int)(h1:Iz .u8 k):∃K,LD K t k=some true:=YN t k (by have:=QC h1;omega) (by have:=QC h1;omega)
set_option maxRecDepth 100000 in
theorem Xb(os:Os)(started:os.Started)(H:Type)(enc:TypeId×Value→H):
  ReturnsInHanded {} Tryz.checked os 10 .any (Rows.tradeLeftSpec.pre6 enc Tryz.prog Tryz.f10 Rows.tradeLeftRow.domain false) (Rows.tradeLeftSpec.post enc Tryz.prog Tryz.f10 false true false false):=by
 refine returnsInHanded_of_change_sized (C:=Tryz.checked) RB started (by kernel_rfl) Tryz.func10
  (ChangeSpec.witness6 (enc:=enc) (C:=Tryz.checked) false ⟨#[], #[.agg #[.slice none 0 0,.slice none 0 0,.slice none 0 0,.int .i64 0,.slice none 0 0,.slice none 0 0,.slice none 0 0],.int .u8 0],[]⟩ 8 (by kernel_rfl) (by kernel_rfl) (by kernel_rfl) (by kernel_rfl)) ?_
 intro W base args ds gs before d aE aN aF _;have a:∀(j:Nat) t v,Tryz.f10.params[j]?=some t→args[j]?=some v→Value.okWide Tryz.prog W .any base t v:=d;have b:=aE;obtain⟨p,q,aG,aO,rfl,aT,aU⟩:=aE;have f:DataW.TrodAll enc Tryz.prog W 0 (fun _=>true) true Tryz.f10.params.toList args.toList ds p:=aG;obtain⟨rfl,rfl⟩:=trodVars_none aO;simp only[List.append_nil] at b;have aH:∀x∈p,x.block<W.heap.size:=fun x hx=>by simpa using b.lt x hx
 have aI:=f;have c:(DataW.weightsEach Tryz.prog (Tryz.f10.params.toList++[]) (ds++[])).all (· ≤reachBytes)=true:=aF;rw[Tryz.params10] at f a c;obtain⟨v0,v1,d0,d1,aP,aQ,rfl,rfl,rfl,h0,h1⟩:=trodAll_two f;obtain⟨aJ,aV,aK,⟨g,h,i,k,l,m,n,o,r,s,u,w,rfl,y,z,aA,aB,aC,aD⟩,w0⟩:=Nr Tryz.underlying67 O7 (a 0 67 v0 rfl rfl) h0 (Li (j:=0) c rfl rfl);obtain⟨x1,aL,w1⟩:=Lz Tryz.underlying5 (a 1 5 v1 rfl rfl) h1;subst aK;subst aL;obtain⟨K,aR⟩:=Zi aJ x1 w1;refine(LS (a10 K aJ x1 g h i k l m n o r s u w ZA W y z aA aB aC aD aR)).mono fun e W' ⟨v,he,hx,aS⟩=>?_;subst he;subst aS;exact⟨_,rfl,Ko (pa:=(aP++aQ)) (pv:=[]) b (fun _ _ _=>trodAll_mk1 (shut_bool Tryz.underlying4 _)) (fun sp hs=>LR P5 P6 (by rw[Tryz.params10];decide) aI hx aH sp (fun x aM=>hs x (by simpa using aM))) (fun _ _=>rfl) (by simp) hx (ok_one (by kernel_rfl) rfl (okWide_bool_mk Tryz.underlying4 _))⟩
theorem RO:((Rows.tradeLeftRow.inPlace==Tryz.checked.prog.inPlace 10)&&(Rows.tradeLeftRow.unfollowed==Tryz.checked.prog.unfollowed 10)&&(Rows.tradeLeftRow.recurses==Tryz.checked.prog.recurses 10)&&(Rows.tradeLeftRow.named==Tryz.checked.prog.varsNamed 10))=true:=by kernel_rfl
theorem Yc:joinedFacts Tryz.checked.prog 10 Tryz.f10 Rows.tradeLeftSpec Rows.tradeLeftRow=true:=by
 unfold joinedFacts;exact(Bf (Bf (Bf (Bf (Bf (Bf (Bf (Bf (Bf (Bf (Bf (Bf (Bf (Bf (Bf (Bf (Bf (Bf (Bf (Bf (Bf (Bf (Bf (Bf (Bf (Bf (Bf (Bf (Bf (Bf (Bf (by kernel_rfl) O8) O9) (by kernel_rfl)) (by kernel_rfl)) (by kernel_rfl)) NX) (by kernel_rfl)) NY) (FI (FI (FI RO)))) (IE (FI (FI RO)))) (IE (FI RO))) (IE RO)) (by kernel_rfl)) (by kernel_rfl)) (by kernel_rfl)) (by kernel_rfl)) (by kernel_rfl)) (by kernel_rfl)) (by kernel_rfl)) (by kernel_rfl)) (by kernel_rfl)) Pa) (by kernel_rfl)) NZ) (FI (FI Hs))) (IE (FI Hs))) (IE Hs)) (by kernel_rfl)) (by kernel_rfl)) (by kernel_rfl)) (by kernel_rfl))
theorem tradeLeft_holds:Rows.TradeLeftSaid:=
 OpenClaim.holds_of_wide 10 Tryz.f10 rfl rfl rfl rfl rfl rfl rfl ⟨rfl,rfl,rfl,rfl,rfl⟩ rfl rfl rfl rfl rfl (by kernel_rfl) Tryz.func10 Yc
  (of_decide_eq_true (by kernel_rfl)) (by unfold Func.isWrapper;rw[if_neg (by decide+kernel)];exact⟨rfl,rfl⟩)
  (fun os started H enc _=>Xb os started H enc)
end Go.Proofs.YtbhofkcbfblijaaGreat
end
