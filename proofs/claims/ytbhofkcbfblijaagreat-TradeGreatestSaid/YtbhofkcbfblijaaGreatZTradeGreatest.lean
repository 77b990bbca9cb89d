import Derived.Test.YtbhofkcbfblijaaGreatETradeGreatest
import Derived.Test.YtbhofkcbfblijaaGreatRows
/-
  Proved: the law TradeGreatest returns true for every argument that the row hands over, and leaves every argument as it was; no condition beside the row's own.
-/
set_option linter.all false
section
namespace Go.Proofs.YtbhofkcbfblijaaGreat
open Go.RowKit Go.WideShapes
def HA(a:Nat)(c:Ah)(h:Int)(t:Int):Option (Bool):=
 (CY a c).bind fun u=>cond (!u) ((Es (BF a=some true)).bind fun _=>some (true)) ((CD a c).bind fun v=>(J1 a v).bind fun b=>cond (b.2.2 !=0) (cond (b.2.2==9) ((Es (BF a=some true)).bind fun _=>some (true)) (cond (b.2.2==11) ((Es (BF a=some true)).bind fun _=>some (true)) (some (false)))) ((Cq a c).bind fun d=>(DJ a b.1 (c.Ab.length:Int)).bind fun f=>cond ((d.length:Int)==0) (some (false)) (cond (!f.2) (some (false)) ((EI .i64 h).bind fun _=>(rem h (d.length:Int)).bind fun _=>(idx d (h%(d.length:Int))).bind fun i=>(DD a c i f.1).bind fun j=>cond (decide (j<b.2.1)) (some (false)) ((CD a c).bind fun k=>(Cr a b.1).bind fun l=>(Gl a k l b.2.1).bind fun m=>cond (!m) (some (false)) ((CD a c).bind fun n=>(Cr a b.1).bind fun o=>(i64 (b.2.1+1)).bind fun _=>(Gl a n o (b.2.1+1)).bind fun p=>cond (p) (some (false)) ((Em a c t).bind fun g=>(CD a c).bind fun q=>(Cr a g).bind fun r=>(F7 a q r).bind fun e=>cond (e.2==0) (cond (decide (e.1.Lo≤b.2.1)) (cond (decide (e.1.Lo<b.2.1)) ((Es (BF a=some true)).bind fun _=>some (true)) ((C0 a g b.1).bind fun s=>cond (!s) ((Es (BF a=some true)).bind fun _=>some (true)) (some (false)))) (some (false))) (some (false)))))))))
end Go.Proofs.YtbhofkcbfblijaaGreat
end
section
namespace Go.Proofs.YtbhofkcbfblijaaGreat
section
variable{K:Nat}(hK:1000≤K)
include hK
theorem Sq(ha:BF K=some true)(t:Ah)(n k:Int)(hn:0≤n)(y:n<65536)(hk:0≤k)(aQ:k<256):HA K t n k=some true:=by
 unfold HA;rcases M4 hK t with h|⟨h,a,hr⟩
 ·rw[bd h,nf,DG ha]
 rw[bd hr,nt];have hlen:=Gn h;have z:=a.kl;obtain⟨s,w,g1,g2,g3⟩:=Yf hK h;rw[bd (It hK t hlen),bd g1]
 by_cases h0:BY t=0
 ·obtain⟨hb,rfl⟩:=g3 h0;have v:=(C8 h0).2;have aR:=Iz hK a;obtain⟨b,aA,rfl⟩:=hb.is;have c:DX t.Ab.length 0 (BE b)=true:=O2 aA;have aU:2^t.Ab.length≤2^3:=Nat.pow_le_pow_right (by omega) z;have aH:=Js b;have q:FJ (BE b)=b:=Ti (by omega);have aI:0<(Bf t).length:=List.length_pos_iff.2 v;obtain⟨i,hi⟩:∃i:Nat,n%((Bf t).length:Int)=(i:Int):=⟨(n%((Bf t).length:Int)).toNat,by have:=Int.emod_nonneg n (by omega:((Bf t).length:Int)≠0);omega⟩;have d:i<(Bf t).length:=by have:=Int.emod_lt_of_pos n (by omega:(0:Int)<(Bf t).length);omega
  have f:=KZ c;obtain⟨r,aV,_,aJ⟩:=NY hK h (BB:=BE b) (by omega);have g:=aJ (by rw[f,h0]);have aS:=NL a g;have aK:=g.all _ (List.getElem_mem d);obtain⟨p,aL,_,aM⟩:=PC hK h (BB:=BE b) (by omega) (EH t (BE b));obtain⟨aN,aB,_,aC⟩:=PC hK h (BB:=BE b) (by omega) (EH t (BE b)+1);have aO:p=true:=by rw[aM r (by rw[f,h0]) g];exact dt (by omega)
  have aP:aN=false:=by rw[aC r (by rw[f,h0]) g];exact df (by omega)
  subst aO;subst aP;have aT:=Qe a (BE b) (Bf t)[i];obtain⟨k',rfl⟩:∃k':Nat,k=k':=⟨k.toNat,by omega⟩;have j:=RG k' t.Ab.length;obtain⟨aW,aD,_,aE⟩:=NY hK h (BB:=BE (k'&&&(2^t.Ab.length-1))) (by have:=Js (k'&&&(2^t.Ab.length-1));omega);have m:=KZ (O2 j);have aF:=aE (by rw[m,h0]);have x:=NL a aF;have u:=hb.Abi _ j;rw[h0,cf (EW rfl),bd (JH hK a),bd (NM hK (n:=t.Ab.length) (by omega) (show(BE b).length≤900 by omega)),cf (NP v),c,nt,if_pos rfl,q,Rm hn y,LF hn (by omega),hi,B5 d,bd (PR hK a (Je hK a (List.getElem_mem d)) (by omega)),cf (df (show¬DW t (BE b) (Bf t)[i]<EH t (BE b) by omega)),
   bd (It hK t hlen),bd (J5 hK (BE b) (by omega)),bd aL,nt,bd (It hK t hlen),bd (J5 hK (BE b) (by omega)),Br (show-9223372036854775808≤EH t (BE b)+1 by
    obtain⟨l,hl,e⟩:=g.lo;have:=Qe a (BE b) l;omega) (show EH t (BE b)+1≤9223372036854775807 by omega),bd aB,cf rfl,bd (S8 hK a (by omega)),bd (It hK t hlen),bd (J5 hK _ (by have:=Js (k'&&&(2^t.Ab.length-1));omega)),bd aD,m,h0,ct (F9 rfl),x,
   ct (dt (show EH t (BE (k'&&&(2^t.Ab.length-1)))≤EH t (BE b) by omega))]
  by_cases o:EH t (BE (k'&&&(2^t.Ab.length-1)))<EH t (BE b)
  ·rw[ct (dt o),DG ha]
  ·have aG:lexB (BE (k'&&&(2^t.Ab.length-1))) (BE b)=false:=by
    rcases u with h1|h1
    ·exact absurd h1 o
    ·exact h1.2
   rw[cf (df o),bd (NK hK (by have:=Js (k'&&&(2^t.Ab.length-1));omega) (show(BE b).length≤900 by omega)),aG,nf,DG ha]
 ·have hs:=RJ a h0;rw[ct (FX h0)];rcases hs with e|e
  ·rw[e,ct (F9 rfl),DG ha]
  ·rw[e,cf (IU (show(11:Int)≠9 by decide)),ct (F9 rfl),DG ha]
end
theorem Tj(t:Ah)(n k:Int)(hn:0≤n)(a:n<65536)(hk:0≤k)(b:k<256):∃K,HA K t n k=some true:=⟨1000,Sq (Nat.le_refl _) L2 t n k hn a hk b⟩
end Go.Proofs.YtbhofkcbfblijaaGreat
end
section
namespace Go.Proofs.YtbhofkcbfblijaaGreat
open Go.RowKit Go.WideShapes
set_option maxRecDepth 20000
open HF
attribute [local irreducible] Dm WL CC CW LV B7 Ih GL One Bg
set_option maxHeartbeats 4000000 in
theorem a13 aD z e8 f5 e f c d g i j m o p q r(Z:Nat→Prop) w(f6:Sl Az w Z e f z.Ag)(f7:Sl (Bs (Ao .i64)) w Z c d z.Ab)(f8:Sl AH w Z g i z.Ak)(f9:Sl Ba w Z j m z.AJ)(gA:Sl Bc w Z o p z.Aw)(gB:Sl Bp w Z q r z.Ar)(a:HA aD z e8 f5=some true):
 B7 Tryz.prog 13 #[.agg (Ai e f c d g i j m o p q r z).toArray,.int .u16 e8,.int .u8 f5] w (fun v w'=>Ext w w'∧v=.bool true):=by
 unfold HA at a;refine rq (N:=123) Tryz.func13 fun h9 ha iA=>?_;have gI:=sA 0 ha;have gJ:=sA 1 ha;have gK:=sA 2 ha;clear ha;have gD:Hp FN [] w [] w:=Hp.start (BL.none w);have ⟨eB,eC,eD,eE,eF,eG⟩:=Cp f6 f7 f8 f9 gA gB (Bd (Z:=Z) (L:=[]) w);refine cr<|wE (fun st=>BP (v:=.agg (Ai e f c d g i j m o p q r z).toArray) (cs:=(Ai e f c d g i j m o p q r z).toArray) (ee st gI) rfl) ?_;rintro _ w1 ⟨b1,rfl,dJ⟩;have hP:=gD.nb dJ;have h6:=gD.BU dJ;refine wA (v:=.bool false) rfl<|wn<|Af<|cr<|wD (fun st=>AK (l:=(Ai e f c d g i j m o p q r z)) Cc (eR st) dJ.bk rfl rfl) ?_;have ⟨cP,cQ,cR,cS,cT,cU⟩:=Cp eB eC eD eE eF eG (AA dJ);replace a:=bind_some a;obtain⟨gC,hQ,a⟩:=a;refine wE (fun st=>Aj QT (eR st) (Cy (eR st)) (X7 aD z e f c d g i j m o p q r ZA _ cP.all cQ.all cR.all cS.all cT.all cU.all gC hQ)) ?_;rintro _ iT ⟨e9,rfl⟩;have fA:=hP.ext e9;refine wD (fun st=>CJ (eR st))<|wn ?_;rcases Ae (!gC) with bU|bU
 ·replace a:=Ap a bU;have h7:gC=false:=by simpa using bU
  refine Am rfl bU<|Af<|Al ?_;replace a:=Ci a;obtain⟨hR,a⟩:=a;refine wE (fun st=>Aj EZ (eR st) Gj (a37 aD ZA _ hR)) ?_;rintro _ iU ⟨hS,rfl⟩;have hT:=fA.ext hS;refine wA (v:=.bool true) rfl<|wn<|Av<|AG ?_;have aY:=oi a;refine Ay rfl rfl ?_;exact⟨hT.AS,congrArg Value.bool aY⟩
 ·replace a:=Aq a bU;have h8:gC=true:=by simpa using bU
  refine An rfl bU<|cn<|Af<|Al ?_;have d3:=(dJ.bk.ext e9);refine wD (fun st=>AK (l:=(Ai e f c d g i j m o p q r z)) Cc (eR st) d3 rfl rfl) ?_;have ⟨cV,cW,cX,cY,cZ,c0⟩:=Cp cP cQ cR cS cT cU (Ac e9);replace a:=bind_some a;obtain⟨hU,hV,a⟩:=a;refine wE (fun st=>Aj Ic (eR st) (Cy (eR st)) (M5 aD z e f c d g i j m o p q r (zf Z w [some b1]) _ cV cW cX cY cZ c0 hU hV)) ?_;rintro _ iB ⟨fB,⟨_,rfl,⟨fC,fD,fE,fF,fG,fH,fI,fJ,fK,fL,fM,fN,rfl,a3,a4,a5,a7,a8,a9⟩⟩⟩;have gE:=fA.ext fB;have ⟨a3,a4,a5,a7,a8,a9⟩:=Cp a3 a4 a5 a7 a8 a9 (fA.CQ (Nat.le_refl _));replace a:=bind_some a;obtain⟨b,gL,a⟩:=a;refine wE (fun st=>Aj XS (eR st) (Cy (eR st)) (a34 aD hU fC fD fE fF fG fH fI fJ fK fL fM fN (zf Z w [some b1]) _ a3 a4 a5 a7 a8 a9 b gL)) ?_;rintro _ iC ⟨dN,⟨_,_,_,rfl,⟨u,x,rfl,bA⟩,rfl,rfl⟩⟩;have d4:=gE.ext dN;have bA:=bA.mv (gE.CQ (Nat.le_refl _));refine wM (v:=.tuple #[.slice u b.1.length x,I b.2.1,I b.2.2]) rfl<|wD (fun st=>Bz (v:=.slice u b.1.length x) (eR st) rfl)<|wD (fun st=>Bz (v:=I b.2.1) (eR st) rfl)<|wD (fun st=>Bz (v:=I b.2.2) (eR st) rfl)<|wA (v:=.slice u b.1.length x) rfl<|wA (v:=I b.2.1) rfl<|wA (v:=I b.2.2) rfl<|wn<|Af<|cr<|wM (v:=I b.2.2) rfl<|wD (fun st=>Db (eR st) (eR st))<|wn ?_;rcases Ae (b.2.2 !=0) with bV|bV
  ·replace a:=Ap a bV;refine Am rfl bV<|cr<|wM (v:=I b.2.2) rfl<|wD (fun st=>CT (eR st) (eR st))<|wM (v:=.bool (b.2.2==9)) rfl ?_;rcases Ae (b.2.2==9) with aG|aG
   ·replace a:=Ap a aG;refine wF aG<|wF aG<|wD (fun st=>AW (v:=.bool true) (eR st) aG (eR st))<|wM (v:=.bool true) rfl ?_;replace a:=Ci a;obtain⟨gM,a⟩:=a;refine Ss rfl rfl rfl rfl (by decide) (fun st=>Aj EZ (eR st) Gj (a37 aD ZA _ gM)) ?_;rintro _ iD ⟨gN,rfl⟩;have hW:=d4.ext gN;refine wD (fun st=>AW (v:=.bool true) (eR st) rfl (eR st))<|wA (v:=.bool true) rfl<|wn<|Av<|AG ?_;have aY:=oi a;refine Ay rfl rfl ?_;exact⟨hW.AS,congrArg Value.bool aY⟩
   ·replace a:=Aq a aG;refine wN aG (v:=I b.2.2) rfl<|wG aG (fun st=>CT (eR st) (eR st))<|wD (fun st=>Bo (v:=.bool (b.2.2==11)) (eR st) aG (eR st))<|wM (v:=.bool (b.2.2==11)) rfl ?_;rcases Ae (b.2.2==11) with bW|bW
    ·replace a:=Ap a bW;replace a:=Ci a;obtain⟨gO,a⟩:=a;refine wX bW (fun st=>Aj EZ (eR st) Gj (a37 aD ZA _ gO)) ?_;rintro _ iE ⟨gP,rfl⟩;have hX:=d4.ext gP;refine wD (fun st=>AW (v:=.bool true) (eR st) bW (eR st))<|wA (v:=.bool true) rfl<|wn<|Av<|AG ?_;have aY:=oi a;refine Ay rfl rfl ?_;exact⟨hX.AS,congrArg Value.bool aY⟩
    ·replace a:=Aq a bW;exact absurd (oi a) (by decide)
  ·replace a:=Aq a bV;refine An rfl bV<|cn<|Af<|Al ?_;have d5:=((d3.ext fB).ext dN);refine wD (fun st=>AK (l:=(Ai e f c d g i j m o p q r z)) Cc (eR st) d5 rfl rfl) ?_;have ⟨c1,c2,c3,c4,c5,c6⟩:=Cp cV cW cX cY cZ c0 (mt (Ac fB) (Ac dN));replace a:=bind_some a;obtain⟨aH,gQ,a⟩:=a;refine wE (fun st=>Aj Nv (eR st) (Cy (eR st)) (a53 aD z e f c d g i j m o p q r (zf Z w [some b1]) _ c1 c2 c3 c4 c5 c6 aH gQ)) ?_;rintro _ iF ⟨dB,⟨aZ,a0,rfl,bB⟩⟩;have hY:=d4.ext dB;have bB:=bB.mv (d4.CQ (Nat.le_refl _));refine wA (v:=.slice aZ aH.length a0) rfl<|wr<|wM (v:=.slice u b.1.length x) rfl<|wD (fun st=>Ad (eR st) (DQ _ _))<|wD (fun st=>Ad (eR st) (DP _ _)) ?_;have d6:=(d5.ext dB);refine wD (fun st=>As (v:=.slice c z.Ab.length d) DH (eR st) d6 rfl)<|wD (fun st=>Be Tryz.underlying23 (eR st)) ?_;have bS:=(bA.mv (Ac dB));replace a:=bind_some a;obtain⟨aE,gR,a⟩:=a;refine wE (fun st=>Aj Q0 (eR st) (CN (eR st) (eR st)) (Yi aD b.1 (z.Ab.length:Int) u x ZA _ bS.all aE gR)) ?_;rintro _ iG ⟨bX,⟨_,_,rfl,rfl,rfl⟩⟩;have dK:=hY.ext bX;refine wM (v:=.tuple #[I aE.1,.bool aE.2]) rfl<|wD (fun st=>Bz (v:=I aE.1) (eR st) rfl)<|wD (fun st=>Bz (v:=.bool aE.2) (eR st) rfl)<|wA (v:=I aE.1) rfl<|wA (v:=.bool aE.2) rfl<|wn<|Af<|Af ?_;rcases Ae ((aH.length:Int)==0) with bC|bC
   ·replace a:=Ap a bC;exact absurd (oi a) (by decide)
   ·replace a:=Aq a bC;rcases Ae (!aE.2) with s|s
    ·replace a:=Ap a s;exact absurd (oi a) (by decide)
    ·replace a:=Aq a s;have hM:aE.2=true:=by simpa using s
     have bT:=(d6.ext bX);replace a:=Dy a;obtain⟨gS,a⟩:=a;replace a:=GM a;obtain⟨fO,a⟩:=a;replace a:=AP a;obtain⟨i31,gF,gT,gU,gV,a⟩:=a;have dL:=(bB.mv (Ac bX));obtain⟨hZ,h3,_,gW,⟨d7,d8,rfl,fP⟩,gX⟩:=Sl.Cz dL rfl gU;have ⟨aM,aN,aO,aP,aQ,aR⟩:=Cp c1 c2 c3 c4 c5 c6 (mt (Ac dB) (Ac bX));replace a:=bind_some a;obtain⟨c7,gY,a⟩:=a;rcases Ae (decide (c7<b.2.1)) with aF|aF
     ·replace a:=Ap a aF;exact absurd (oi a) (by decide)
     ·replace a:=Aq a aF;replace a:=bind_some a;obtain⟨d9,gZ,a⟩:=a;have aI:=(bS.mv (Ac bX));replace a:=bind_some a;obtain⟨eA,g0,a⟩:=a;replace a:=bind_some a;obtain⟨bY,g1,a⟩:=a;rcases Ae (!bY) with aB|aB
      ·replace a:=Ap a aB;exact absurd (oi a) (by decide)
      ·replace a:=Aq a aB;have hN:bY=true:=by simpa using aB
       replace a:=bind_some a;obtain⟨fQ,g2,a⟩:=a;replace a:=bind_some a;obtain⟨fR,g3,a⟩:=a;replace a:=AF a;obtain⟨g4,a⟩:=a;refine BK 38 [Kc (.slice aZ aH.length a0),Kc (I (aH.length:Int)),Kc (.bool ((aH.length:Int)==0)),Kc (.bool ((aH.length:Int)==0)),Kc (.bool aE.2),Kc (.bool !aE.2),Kc (.bool !aE.2),Kc (.bool !aE.2),Kc (.agg (Ai e f c d g i j m o p q r z).toArray),Kc (.slice aZ aH.length a0),Kc (.int .u16 e8),Kc (I e8),Kc (.slice aZ aH.length a0),Kc (I (aH.length:Int)),Kc (I (e8%(aH.length:Int))),Kc (pt hZ (h3+i31)),Kc (.slice d7 gF.length d8),Kc (I aE.1),Kc (I c7),Kc (I b.2.1),Kc (.bool (decide (c7<b.2.1))),Kc (.bool (decide (c7<b.2.1))),Kc (.bool (decide (c7<b.2.1))),Kc (.agg (Ai e f c d g i j m o p q r z).toArray),Kv (Fx Pa) (zf Z w [some b1]) d9,Kc (.slice u b.1.length x),Kv (Fq (Ao .i64)) (zf Z w [some b1]) eA,Kc (I b.2.1),Kc (.bool bY),Kc (.bool !bY),Kc (.bool !bY),Kc (.bool !bY),Kc (.agg (Ai e f c d g i j m o p q r z).toArray),Kv (Fx Pa) (zf Z w [some b1]) fQ,Kc (.slice u b.1.length x),Kv (Fq (Ao .i64)) (zf Z w [some b1]) fR,Kc (I b.2.1),Kc (I (b.2.1+1))] mixed rfl rfl
           (Aa (oD (fun K=>Au (K.kO 10)))
           (Aa (oD (fun K=>Be Tryz.underlying23 (es (K.dq 0 49))))
           (Aa (oD (fun K=>CT (es (K.dq 1 50)) (ec (v:=I 0))))
           (Aa (oD (fun K=>Au (es (K.dq 2 51))))
           (Aa (oG bC (fun K=>Au (K.kO 12)))
           (Aa (oG bC (fun K=>CJ (es (K.dq 4 53))))
           (Aa (oD (fun K=>Bo (es (K.dq 3 52)) bC (es (K.dq 5 54))))
           (Aa (oD (fun K=>Au (es (K.dq 6 55))))
           (Aa (oG s (fun K=>AK (l:=(Ai e f c d g i j m o p q r z)) Cc (K.kO 3) (bT.ext K.AD) rfl rfl))
           (Aa (oG s (fun K=>Au (K.kO 10)))
           (Aa (oG s (fun K=>Au (es ((K.out 1 rfl).trans gJ))))
           (Aa (oG s (fun K=>Er (k:=.i64) Rb Tryz.underlying3 (es (K.dq 10 59)) gS))
           (Aa (oG s (fun K=>Au (K.kO 10)))
           (Aa (oG s (fun K=>Be Tryz.underlying23 (es (K.dq 12 61))))
           (Aa (oG s (fun K=>JO (es (K.dq 11 60)) (es (K.dq 13 62)) fO.1 fO.2))
           (Aa (oG s (fun K=>AR (k:=i31) Tryz.underlying23 ES (es (K.dq 9 58)) gW (es (K.dq 14 63)) gT gV))
           (Aa (oG s (fun K=>Bb DB (es (K.dq 15 64)) (gX.mv (Ac K.AD)) rfl))
           (Aa (oG s (fun K=>Au (K.kO 11)))
           (Aa (oX s (fun K=>(Aj QY rfl (Dx (es (K.dq 8 57)) (es (K.dq 16 65)) (es (K.dq 17 66))) (Yg aD z gF aE.1 e f c d g i j m o p q r d7 d8 ZA _ (aM.mv (Ac K.AD)).all (aN.mv (Ac K.AD)).all (aO.mv (Ac K.AD)).all (aP.mv (Ac K.AD)).all (aQ.mv (Ac K.AD)).all (aR.mv (Ac K.AD)).all (fP.mv (Ac K.AD)).all c7 gY)).mono (fun _ _ h=>⟨h.2,h.1⟩)))
           (Aa (oG s (fun K=>Au (K.kO 8)))
           (Aa (oG s (fun K=>B9 (es (K.dq 18 67)) (es (K.dq 19 68))))
           (Aa (oD (fun K=>Bo (es (K.dq 7 56)) s (es (K.dq 20 69))))
           (Aa (oD (fun K=>Au (es (K.dq 21 70))))
           (Aa (oG aF (fun K=>AK (l:=(Ai e f c d g i j m o p q r z)) Cc (K.kO 3) (bT.ext K.AD) rfl rfl))
           (Aa (oX aF (fun K=>(Aj Ic rfl (Cy (es (K.dq 23 72))) (M5 aD z e f c d g i j m o p q r (zf Z w [some b1]) _ (aM.mv (Ac K.AD)) (aN.mv (Ac K.AD)) (aO.mv (Ac K.AD)) (aP.mv (Ac K.AD)) (aQ.mv (Ac K.AD)) (aR.mv (Ac K.AD)) d9 gZ)).mono (fun _ _ h=>⟨(Fx Pa).mv h.2 ((dK.ext K.AD).CQ (Nat.le_refl _)),h.1⟩)))
           (Aa (oG aF (fun K=>Au (K.kO 7)))
           (Aa (oX aF (fun K=>(Aj J6 rfl (Cy (es (K.dq 25 74))) (a51 aD b.1 u x (zf Z w [some b1]) _ (aI.mv (Ac K.AD)) eA g0)).mono (fun _ _ h=>⟨(Fq (Ao .i64)).mv h.2 ((dK.ext K.AD).CQ (Nat.le_refl _)),h.1⟩)))
           (Aa (oG aF (fun K=>Au (K.kO 8)))
           (Aa (oX aF (fun K=>match K.dq 26 75 with|⟨bZ,b4,fS,c8⟩=>by obtain⟨_,fT,⟨bD,bE,bF,bG,bH,bI,bJ,bK,bL,bM,bN,bO,rfl,b5,b6,b7,b8,b9,cA⟩⟩:=K.dq 24 73;exact(Aj Vm rfl (Dx (es (t:=73) (v:=.agg (Ai bD bE bF bG bH bI bJ bK bL bM bN bO d9).toArray) fT) (es (t:=75) (v:=.slice bZ eA.length b4) fS) (es (K.dq 27 76))) (a64 aD d9 eA b.2.1 bD bE bF bG bH bI bJ bK bL bM bN bO bZ b4 ZA _ b5.all b6.all b7.all b8.all b9.all cA.all c8.all bY g1)).mono (fun _ _ h=>⟨h.2,h.1⟩)))
           (Aa (oG aF (fun K=>CJ (es (K.dq 28 77))))
           (Aa (oD (fun K=>Bo (es (K.dq 22 71)) aF (es (K.dq 29 78))))
           (Aa (oD (fun K=>Au (es (K.dq 30 79))))
           (Aa (oG aB (fun K=>AK (l:=(Ai e f c d g i j m o p q r z)) Cc (K.kO 3) (bT.ext K.AD) rfl rfl))
           (Aa (oX aB (fun K=>(Aj Ic rfl (Cy (es (K.dq 32 81))) (M5 aD z e f c d g i j m o p q r (zf Z w [some b1]) _ (aM.mv (Ac K.AD)) (aN.mv (Ac K.AD)) (aO.mv (Ac K.AD)) (aP.mv (Ac K.AD)) (aQ.mv (Ac K.AD)) (aR.mv (Ac K.AD)) fQ g2)).mono (fun _ _ h=>⟨(Fx Pa).mv h.2 ((dK.ext K.AD).CQ (Nat.le_refl _)),h.1⟩)))
           (Aa (oG aB (fun K=>Au (K.kO 7)))
           (Aa (oX aB (fun K=>(Aj J6 rfl (Cy (es (K.dq 34 83))) (a51 aD b.1 u x (zf Z w [some b1]) _ (aI.mv (Ac K.AD)) fR g3)).mono (fun _ _ h=>⟨(Fq (Ao .i64)).mv h.2 ((dK.ext K.AD).CQ (Nat.le_refl _)),h.1⟩)))
           (Aa (oG aB (fun K=>Au (K.kO 8)))
           (Aa (oG aB (fun K=>BG (es (K.dq 36 85)) (ec (v:=I 1)) g4))
           (BI _))))))))))))))))))))))))))))))))))))))) ?_
       intro iH;rintro _ rfl _ rfl _ rfl _ rfl _ rfl _ rfl _ rfl _ rfl _ rfl _ rfl _ rfl _ rfl _ rfl _ rfl _ rfl _ rfl _ rfl _ rfl _ rfl _ rfl _ rfl _ rfl _ rfl _ rfl _ ⟨_,rfl,⟨bD,bE,bF,bG,bH,bI,bJ,bK,bL,bM,bN,bO,rfl,b5,b6,b7,b8,b9,cA⟩⟩ _ rfl _ ⟨bZ,b4,rfl,c8⟩ _ rfl _ rfl _ rfl _ rfl _ rfl _ rfl _ ⟨_,rfl,⟨eH,eI,eJ,eK,eM,eN,eO,eP,eQ,eS,eT,eU,rfl,dO,dP,dQ,dR,dS,dT⟩⟩ _ rfl _ ⟨fU,fV,rfl,eV⟩ _ rfl _ rfl dC;have g5:=dK.ext dC;replace a:=bind_some a;obtain⟨fW,g6,a⟩:=a;refine wX aB (fun st=>Aj Vm (eR st) (Dx (eR st) (eR st) (eR st)) (a64 aD fQ fR (b.2.1+1) eH eI eJ eK eM eN eO eP eQ eS eT eU fU fV ZA _ dO.all dP.all dQ.all dR.all dS.all dT.all eV.all fW g6)) ?_;rintro _ iI ⟨dD,rfl⟩;have fX:=g5.ext dD;refine wD (fun st=>Bo (v:=.bool fW) (eR st) aB (eR st))<|wn ?_;rcases Ae (fW) with dE|dE
       ·replace a:=Ap a dE;exact absurd (oi a) (by decide)
       ·replace a:=Aq a dE;refine An rfl dE<|cn<|Af<|Al ?_;have dM:=((bT.ext dC).ext dD);refine wD (fun st=>AK (l:=(Ai e f c d g i j m o p q r z)) Cc (eR st) dM rfl rfl)<|wM (v:=.int .u8 f5) gK ?_;have ⟨cB,cC,cD,cE,cF,cG⟩:=Cp aM aN aO aP aQ aR (mt (Ac dC) (Ac dD));replace a:=bind_some a;obtain⟨c9,g7,a⟩:=a;refine wE (fun st=>Aj Tc (eR st) (CN (eR st) (eR st)) (a49 aD z f5 e f c d g i j m o p q r (zf Z w [some b1]) _ cB cC cD cE cF cG c9 g7)) ?_;rintro _ iJ ⟨dF,⟨aJ,aK,rfl,bP⟩⟩;have fY:=fX.ext dF;have bP:=bP.mv (fX.CQ (Nat.le_refl _));refine wA (v:=.slice aJ c9.length aK) rfl<|wn<|Af<|Al ?_;have fZ:=(dM.ext dF);refine wD (fun st=>AK (l:=(Ai e f c d g i j m o p q r z)) Cc (eR st) fZ rfl rfl) ?_;have ⟨dU,dV,dW,dX,dY,dZ⟩:=Cp cB cC cD cE cF cG (Ac dF);replace a:=bind_some a;obtain⟨gG,g8,a⟩:=a;refine wE (fun st=>Aj Ic (eR st) (Cy (eR st)) (M5 aD z e f c d g i j m o p q r (zf Z w [some b1]) _ dU dV dW dX dY dZ gG g8)) ?_;rintro _ iK ⟨d0,⟨_,rfl,⟨eW,eX,eY,eZ,e0,e1,e2,e3,e4,e5,e6,e7,rfl,aS,aT,aU,aV,aW,aX⟩⟩⟩;have f0:=fY.ext d0;have ⟨aS,aT,aU,aV,aW,aX⟩:=Cp aS aT aU aV aW aX (fY.CQ (Nat.le_refl _));refine wM (v:=.slice aJ c9.length aK) rfl ?_;have a2:=(bP.mv (Ac d0));replace a:=bind_some a;obtain⟨gH,g9,a⟩:=a;refine wE (fun st=>Aj J6 (eR st) (Cy (eR st)) (a51 aD c9 aJ aK (zf Z w [some b1]) _ a2 gH g9)) ?_;rintro _ iL ⟨dG,⟨f1,f2,rfl,bQ⟩⟩;have hA:=f0.ext dG;have bQ:=bQ.mv (f0.CQ (Nat.le_refl _));have ⟨cJ,cK,cL,cM,cN,cO⟩:=Cp aS aT aU aV aW aX (Ac dG);replace a:=bind_some a;obtain⟨y,hB,a⟩:=a;refine wE (fun st=>Aj QN (eR st) (CN (eR st) (eR st)) (XX aD gG gH eW eX eY eZ e0 e1 e2 e3 e4 e5 e6 e7 f1 f2 ZA _ cJ.all cK.all cL.all cM.all cN.all cO.all bQ.all y hB)) ?_;rintro _ iM ⟨d1,⟨_,_,rfl,⟨_,rfl,rfl⟩,rfl⟩⟩;have f3:=hA.ext d1;refine wM (v:=.tuple #[.agg #[I y.1.Lo,I y.1.Hi],I y.2]) rfl<|wD (fun st=>Bz (v:=.agg #[I y.1.Lo,I y.1.Hi]) (eR st) rfl)<|wD (fun st=>Bz (v:=I y.2) (eR st) rfl)<|wE (fun st=>CR (cs:= #[I 0,I 0]) LP rfl) ?_;rintro _ iN ⟨iO,rfl,cH⟩;have d2:=f3.nb cH;have h4:=f3.BU cH;refine Cs rfl rfl (fun st=>Ca (n:=2) (l:=[I y.1.Lo,I y.1.Hi]) (DO:= #[I y.1.Lo,I y.1.Hi]) (eR st) (eR st) IV cH.bk rfl rfl (show 0+2≤2 by decide) (BJ rfl) rfl) ?_;rintro _ iP cI;have f4:=d2.gr cI.gr 0 rfl;refine wA (v:=I y.2) rfl<|wr<|wM (v:=I y.2) rfl<|wD (fun st=>CT (eR st) (eR st))<|wM (v:=.bool (y.2==0)) rfl ?_;rcases Ae (y.2==0) with aL|aL
        ·replace a:=Ap a aL;refine wG aL (fun st=>Ad (eR st) (Ng _ _))<|wG aL (fun st=>As (v:=I y.1.Lo) Bh (eR st) cI.bk rfl)<|wN aL (v:=I b.2.1) rfl<|wG aL (fun st=>JP (eR st) (eR st))<|wD (fun st=>AW (v:=.bool (decide (y.1.Lo≤b.2.1))) (eR st) aL (eR st))<|wM (v:=.bool (decide (y.1.Lo≤b.2.1))) rfl ?_;rcases Ae (decide (y.1.Lo≤b.2.1)) with aC|aC
         ·replace a:=Ap a aC;refine wG aC (fun st=>Ad (eR st) (Ng _ _))<|wG aC (fun st=>As (v:=I y.1.Lo) Bh (eR st) cI.bk rfl)<|wN aC (v:=I b.2.1) rfl<|wG aC (fun st=>B9 (eR st) (eR st))<|wG aC (fun st=>Au (v:=.bool (decide (y.1.Lo<b.2.1))) (eR st)) ?_;rcases Ae (decide (y.1.Lo<b.2.1)) with aA|aA
          ·replace a:=Ap a aA;refine wF aA<|wF aA<|wF aA<|wF aA<|wG aC (fun st=>AW (v:=.bool true) (eR st) aA (eR st))<|wD (fun st=>AW (v:=.bool true) (eR st) aC (eR st))<|wM (v:=.bool true) rfl ?_;replace a:=Ci a;obtain⟨hC,a⟩:=a;refine Ss rfl rfl rfl rfl (by decide) (fun st=>Aj EZ (eR st) Gj (a37 aD ZA _ hC)) ?_;rintro _ iQ ⟨hD,rfl⟩;have hE:=f4.ext hD;refine wD (fun st=>AW (v:=.bool true) (eR st) rfl (eR st))<|wA (v:=.bool true) rfl<|wn<|Av ?_;have aY:=oi a;refine Ay rfl rfl ?_;exact⟨hE.AS,congrArg Value.bool aY⟩
          ·replace a:=Aq a aA;refine wN aA (v:=.slice aJ c9.length aK) rfl<|wG aA (fun st=>Au (v:=.slice u b.1.length x) (eR st)) ?_;have dH:=((((a2.mv (Ac dG)).mv (Ac d1)).mv (AA cH)).mv (d2.Co cI.gr 0 rfl));have dI:=((((((((aI.mv (Ac dC)).mv (Ac dD)).mv (Ac dF)).mv (Ac d0)).mv (Ac dG)).mv (Ac d1)).mv (AA cH)).mv (d2.Co cI.gr 0 rfl));replace a:=bind_some a;obtain⟨dA,hF,a⟩:=a;refine wX aA (fun st=>Aj PA (eR st) (CN (eR st) (eR st)) (Vf aD c9 b.1 aJ aK u x ZA _ dH.all dI.all dA hF)) ?_;rintro _ iR ⟨hG,rfl⟩;have hH:=f4.ext hG;refine wG aA (fun st=>CJ (eR st))<|wG aC (fun st=>Bo (v:=.bool !dA) (eR st) aA (eR st))<|wD (fun st=>AW (v:=.bool !dA) (eR st) aC (eR st))<|wM (v:=.bool !dA) rfl ?_;rcases Ae (!dA) with bR|bR
           ·replace a:=Ap a bR;have hO:dA=false:=by simpa using bR
            replace a:=Ci a;obtain⟨hI,a⟩:=a;refine wX bR (fun st=>Aj EZ (eR st) Gj (a37 aD ZA _ hI)) ?_;rintro _ iS ⟨hJ,rfl⟩;have hL:=hH.ext hJ;refine wD (fun st=>AW (v:=.bool true) (eR st) bR (eR st))<|wA (v:=.bool true) rfl<|wn<|Av ?_;have aY:=oi a;refine Ay rfl rfl ?_;exact⟨hL.AS,congrArg Value.bool aY⟩
           ·replace a:=Aq a bR;exact absurd (oi a) (by decide)
         ·replace a:=Aq a aC;exact absurd (oi a) (by decide)
        ·replace a:=Aq a aL;exact absurd (oi a) (by decide)
end Go.Proofs.YtbhofkcbfblijaaGreat
end
section
namespace Go.Proofs.YtbhofkcbfblijaaGreat
open Go.RowKit Go.ChangeShapes Go.WideShapes Go.ChangeAt
theorem TK(t:Ah)(n k:Int)(h1:IH .u16 n)(h2:IH .u8 k):∃K,HA K t n k=some true:=Tj t n k (by have:=Rn h1;omega) (by have:=Rn h1;omega) (by have:=T5 h2;omega) (by have:=T5 h2;omega)
set_option maxRecDepth 100000 in
theorem Si(os:Os)(started:os.Started)(H:Type)(enc:TypeId×Value→H):
  ReturnsInHanded {} Tryz.checked os 13 .any (Rows.tradeGreatestSpec.pre6 enc Tryz.prog Tryz.f13 Rows.tradeGreatestRow.domain false) (Rows.tradeGreatestSpec.post enc Tryz.prog Tryz.f13 false true false false):=by
 refine returnsInHanded_of_change_sized (C:=Tryz.checked) R8 started (by kernel_rfl) Tryz.func13
  (ChangeSpec.witness6 (enc:=enc) (C:=Tryz.checked) false ⟨#[], #[.agg #[.slice none 0 0,.slice none 0 0,.slice none 0 0,.int .i64 0,.slice none 0 0,.slice none 0 0,.slice none 0 0],.int .u16 0,.int .u8 0],[]⟩ 8 (by kernel_rfl) (by kernel_rfl) (by kernel_rfl) (by kernel_rfl)) ?_
 intro W base args ds gs before d aF aP aG _;have a:∀(j:Nat) t v,Tryz.f13.params[j]?=some t→args[j]?=some v→Value.okWide Tryz.prog W .any base t v:=d;have b:=aF;obtain⟨p,q,aH,aQ,rfl,aW,aX⟩:=aF;have g:DataW.TrodAll enc Tryz.prog W 0 (fun _=>true) true Tryz.f13.params.toList args.toList ds p:=aH;obtain⟨rfl,rfl⟩:=trodVars_none aQ;simp only[List.append_nil] at b;have aI:∀x∈p,x.block<W.heap.size:=fun x f=>by simpa using b.lt x f
 have aJ:=g;have c:(DataW.weightsEach Tryz.prog (Tryz.f13.params.toList++[]) (ds++[])).all (· ≤reachBytes)=true:=aG;rw[Tryz.params13] at g a c;obtain⟨v0,v1,v2,d0,d1,d2,aR,aS,aT,rfl,rfl,rfl,h0,h1,h2⟩:=trodAll_three g;obtain⟨aK,aY,aL,⟨h,i,k,l,m,n,o,r,s,u,w,y,rfl,z,aA,aB,aC,aD,aE⟩,w0⟩:=OD Tryz.underlying67 Ps (a 0 67 v0 rfl rfl) h0 (LQ (j:=0) c rfl rfl);obtain⟨x1,aM,w1⟩:=MG Tryz.underlying27 (a 1 27 v1 rfl rfl) h1;obtain⟨x2,aN,w2⟩:=MG Tryz.underlying5 (a 2 5 v2 rfl rfl) h2;subst aL;subst aM;subst aN;obtain⟨K,aU⟩:=TK aK x1 x2 w1 w2;refine(MR (a13 K aK x1 x2 h i k l m n o r s u w y ZA W z aA aB aC aD aE aU)).mono fun e W' ⟨v,he,f,aV⟩=>?_;subst he;subst aV;exact⟨_,rfl,Lq (pa:=(aR++aS++aT)) (pv:=[]) b (fun _ _ _=>trodAll_mk1 (shut_bool Tryz.underlying4 _)) (fun sp hs=>MQ Qq Qr (by rw[Tryz.params13];decide) aJ f aI sp (fun x aO=>hs x (by simpa using aO))) (fun _ _=>rfl) (by simp) f (ok_one (by kernel_rfl) rfl (okWide_bool_mk Tryz.underlying4 _))⟩
theorem M9:((Rows.tradeGreatestRow.inPlace==Tryz.checked.prog.inPlace 13)&&(Rows.tradeGreatestRow.unfollowed==Tryz.checked.prog.unfollowed 13)&&(Rows.tradeGreatestRow.recurses==Tryz.checked.prog.recurses 13)&&(Rows.tradeGreatestRow.named==Tryz.checked.prog.varsNamed 13))=true:=by kernel_rfl
theorem Sr:joinedFacts Tryz.checked.prog 13 Tryz.f13 Rows.tradeGreatestSpec Rows.tradeGreatestRow=true:=by
 unfold joinedFacts;exact(Bu (Bu (Bu (Bu (Bu (Bu (Bu (Bu (Bu (Bu (Bu (Bu (Bu (Bu (Bu (Bu (Bu (Bu (Bu (Bu (Bu (Bu (Bu (Bu (Bu (Bu (Bu (Bu (Bu (Bu (Bu (by kernel_rfl) Pt) Pu) (by kernel_rfl)) (by kernel_rfl)) (by kernel_rfl)) OE) (by kernel_rfl)) OF) (F8 (F8 (F8 M9)))) (JJ (F8 (F8 M9)))) (JJ (F8 M9))) (JJ M9)) (by kernel_rfl)) (by kernel_rfl)) (by kernel_rfl)) (by kernel_rfl)) (by kernel_rfl)) (by kernel_rfl)) (by kernel_rfl)) (by kernel_rfl)) (by kernel_rfl)) Pv) (by kernel_rfl)) OG) (F8 (F8 Iu))) (JJ (F8 Iu))) (JJ Iu)) (by kernel_rfl)) (by kernel_rfl)) (by kernel_rfl)) (by kernel_rfl))
theorem tradeGreatest_holds:Rows.TradeGreatestSaid:=
 OpenClaim.holds_of_wide 13 Tryz.f13 rfl rfl rfl rfl rfl rfl rfl ⟨rfl,rfl,rfl,rfl,rfl⟩ rfl rfl rfl rfl rfl (by kernel_rfl) Tryz.func13 Sr
  (of_decide_eq_true (by kernel_rfl)) (by unfold Func.isWrapper;rw[if_neg (by decide+kernel)];exact⟨rfl,rfl⟩)
  (fun os started H enc _=>Si os started H enc)
end Go.Proofs.YtbhofkcbfblijaaGreat
end
