import Derived.Test.YtbhofkcbfblijaaGreatETradeFirst
import Derived.Test.YtbhofkcbfblijaaGreatRows
/-
  Proved: the law TradeFirst returns true for every argument that the row hands over, and leaves every argument as it was; no condition beside the row's own.
-/
set_option linter.all false
section
namespace Go.Proofs.YtbhofkcbfblijaaGreat
open Go.RowKit Go.WideShapes
def Mw(b:Nat)(c:Aj):Option (Bool):=
 (B6 b c).bind fun m=>cond (!m) ((EG (Bx b=some true)).bind fun _=>some (true)) ((Co b c).bind fun n=>(Kx b n).bind fun a=>cond (a.2 !=0) ((Co b c).bind fun e=>(F9 b e).bind fun d=>cond (a.2==7) (cond (d.2==0) ((EG (Bx b=some true)).bind fun _=>some (true)) (cond (a.2==11) (cond (d.2==a.2) ((EG (Bx b=some true)).bind fun _=>some (true)) (some (false))) (some (false)))) (cond (a.2==11) (cond (d.2==a.2) ((EG (Bx b=some true)).bind fun _=>some (true)) (some (false))) (some (false)))) ((i64 ((c.Ao.length:Int)-1)).bind fun _=>(Dh b a.1 0 ((c.Ao.length:Int)-1)).bind fun f=>cond (!f) (some (false)) ((E5 .u64 a.1).bind fun _=>(EV (1:Int) a.1).bind fun _=>(i64 ((CY (1:Int) a.1)-1)).bind fun _=>(Iw b c ((CY (1:Int) a.1)-1)).bind fun g=>(Co b g).bind fun h=>(F9 b h).bind fun i=>(E5 .u64 a.1).bind fun _=>(EV (2:Int) a.1).bind fun _=>(i64 ((CY (2:Int) a.1)-1)).bind fun _=>(Iw b c ((CY (2:Int) a.1)-1)).bind fun j=>(Co b j).bind fun k=>(F9 b k).bind fun l=>cond (i.2==0) (cond (l.2==9) ((EG (Bx b=some true)).bind fun _=>some (true)) (some (false))) (some (false)))))
end Go.Proofs.YtbhofkcbfblijaaGreat
end
section
namespace Go.Proofs.YtbhofkcbfblijaaGreat
section
variable{K:Nat}(hK:1000≤K)
include hK
theorem W9(ha:Bx K=some true)(t:Aj):Mw K t=some true:=by
 unfold Mw;rcases I4 hK t with h|⟨h,a,hr⟩
 ·rw[bd h,nf,Dt ha]
 rw[bd hr,nt];have hlen:=E9 h;have s:=a.nl;obtain⟨n,e,g1,g2,g3⟩:=Ut hK h;obtain⟨b,b1,_,_⟩:=O2 hK h;rw[bd (GI hK t hlen),bd g1]
 by_cases h0:B5 t=0
 ·rcases g3 h0 with⟨i,rfl,rfl,hi⟩|⟨rfl,rfl,c⟩
  ·have u:=hi.lt;obtain⟨s1,s2,j,x,y,k,m⟩:=L3 i (by omega);have v:=Nat.two_pow_pos (i+1);have w:2^(i+1)≤2^5:=Nat.pow_le_pow_right (by omega) (by omega);have o:((2^i:Nat):Int)-1=((2^i-1:Nat):Int):=by omega
   have p:((2^(i+1):Nat):Int)-1=((2^(i+1)-1:Nat):Int):=by omega
   have d:=Uw a (2^i-1);have f:=Uw a (2^(i+1)-1);obtain⟨z,g⟩:=S5 hK h a h0 d;obtain⟨d1,d2⟩:=S5 hK h a h0 f;have q1:E1 (C8 t (Kd (2^i-1) 0 t.Ao)) []=FW t i:=by
    unfold FW E1;show(Bo t.C).any (fun l=>BB (As t l) [] 0 (Kd (2^i-1) 0 t.Ao))=(Bo t.C).any (fun l=>BB (As t l) [] 0 (t.Ao.take i))
    congr 1;funext l;exact X9 _ (by omega)
   have q:E1 (C8 t (Kd (2^(i+1)-1) 0 t.Ao)) []=FW t (i+1):=by
    unfold FW E1;show(Bo t.C).any (fun l=>BB (As t l) [] 0 (Kd (2^(i+1)-1) 0 t.Ao))=(Bo t.C).any (fun l=>BB (As t l) [] 0 (t.Ao.take (i+1)))
    congr 1;funext l;exact X9 _ (by omega)
   rw[q1,hi.before,if_pos rfl] at g;rw[q,hi.not,if_neg (by simp)] at d2;rw[cf (E6 rfl),AZ (by omega) (by omega),bd (Jk ..),Dv.2 ⟨by omega,by omega⟩,nt,bd s1,bd s2,j,o,AZ (by omega) (by omega),bd (VN hK t (by omega) _),bd (GI hK _ d.len),bd g,bd s1,bd k,m,p,AZ (by omega) (by omega),bd (VN hK t (by omega) _),bd (GI hK _ f.len),bd d2,ct (EO rfl),ct (EO rfl),Dt ha]
  ·have hs:BQ t=0:=by
    rw[PS a h0,if_pos];unfold FW E1 at c;rw[List.take_length] at c;exact c
   rw[ct (Fy (by decide)),bd (GI hK t hlen),bd b1,ct (EO rfl),ct (EO hs),Dt ha]
 ·obtain⟨rfl,rfl⟩:=g2 h0;have hs:=AcT h0;have r:B5 t=11:=by
   rcases Oq a with h1|h1
   ·exact absurd h1.1 h0
   ·exact h1.1
  rw[ct (Fy h0),bd (GI hK t hlen),bd b1,hs,r,cf (Gw (show(11:Int)≠7 by decide)),ct (EO rfl),ct (EO rfl),Dt ha]
end
theorem Ya(t:Aj):∃K,Mw K t=some true:=⟨1000,W9 (Nat.le_refl _) Lc t⟩
end Go.Proofs.YtbhofkcbfblijaaGreat
end
section
namespace Go.Proofs.YtbhofkcbfblijaaGreat
open Go.RowKit Go.WideShapes
set_option maxRecDepth 20000
open HF
attribute [local irreducible] Eb WL CC CW LV Cw JC HO One Bv
set_option maxHeartbeats 4000000 in
theorem a9 x t g h i j m n o p q r e f(Z:Nat→Prop) w(fP:Sl AM w Z g h t.Al)(fQ:Sl (BO (Ay .i64)) w Z i j t.Ac)(fR:Sl AQ w Z m n t.Ap)(fS:Sl Bm w Z o p t.AH)(fT:Sl Bl w Z q r t.Aw)(fU:Sl BA w Z e f t.Ao)(a:Mw x t=some true):
 Cw Tryz.prog 9 #[.agg (Am g h i j m n o p q r e f t).toArray] w (fun v w'=>Ext w w'∧v=.bool true):=by
 unfold Mw at a;refine AS (N:=85) Tryz.func9 rfl rfl (by simp) ?_;intro hF ha hG;have f3:=sA 0 ha;clear ha;have fW:Hp FN [] w [] w:=Hp.start (Cc.none w);have ⟨cZ,c0,c1,c2,c3,c4⟩:=Cz fP fQ fR fS fT fU (Bh (Z:=Z) (L:=[]) w);refine Af<|Ad<|wE (fun st=>Ci (v:=.agg (Am g h i j m n o p q r e f t).toArray) (cs:=(Am g h i j m n o p q r e f t).toArray) (ee st f3) rfl) ?_;rintro _ w1 ⟨b1,rfl,cM⟩;have g2:=fW.nb cM;have hC:=fW.Cr cM;refine wA (v:=.bool false) rfl<|Ag<|Ab<|Af<|Af<|Ad<|wD (fun st=>AR (l:=(Am g h i j m n o p q r e f t)) Cj (eR st) cM.bk rfl rfl) ?_;have ⟨cC,cD,cE,cF,cG,cH⟩:=Cz cZ c0 c1 c2 c3 c4 (AP cM);replace a:=bind_some a;obtain⟨fV,g3,a⟩:=a;refine wE (fun st=>Ar NC (eR st) (CR (eR st)) (R7 x t g h i j m n o p q r e f ZA _ cC.all cD.all cE.all cF.all cG.all cH.all fV g3)) ?_;rintro _ hX ⟨e1,rfl⟩;have e2:=g2.ext e1;refine wD (fun st=>Dz (eR st))<|Ag<|Ab ?_;rcases Ak (!fV) with bP|bP
 ·replace a:=Az a bP;have hD:fV=false:=by simpa using bP
  refine AD rfl bP<|Af<|Ad ?_;replace a:=Ck a;obtain⟨g4,a⟩:=a;refine wE (fun st=>Ar EI (eR st) Gx (a37 x ZA _ g4)) ?_;rintro _ hY ⟨g5,rfl⟩;have g6:=e2.ext g5;refine wA (v:=.bool true) rfl<|Ag<|Ab<|AI<|Ax ?_;have bA:=oi a;refine AJ rfl rfl ?_;exact⟨g6.Bc,congrArg Value.bool bA⟩
 ·replace a:=AA a bP;have hE:fV=true:=by simpa using bP
  refine AE rfl bP<|AL<|Ab<|Af<|Ad ?_;have cL:=(cM.bk.ext e1);refine wD (fun st=>AR (l:=(Am g h i j m n o p q r e f t)) Cj (eR st) cL rfl rfl) ?_;have ⟨bB,bC,bD,bE,bF,bG⟩:=Cz cC cD cE cF cG cH (Ah e1);replace a:=bind_some a;obtain⟨g7,g8,a⟩:=a;refine wE (fun st=>Ar GR (eR st) (CR (eR st)) (Lh x t g h i j m n o p q r e f (zf Z w [some b1]) _ bB bC bD bE bF bG g7 g8)) ?_;rintro _ hH ⟨cN,⟨_,rfl,⟨e3,e4,e5,e6,e7,e8,e9,fA,fB,fC,fD,fE,rfl,bH,bI,bJ,bK,bL,bM⟩⟩⟩;have g9:=e2.ext cN;have ⟨bH,bI,bJ,bK,bL,bM⟩:=Cz bH bI bJ bK bL bM (e2.Da (Nat.le_refl _));replace a:=bind_some a;obtain⟨b,f4,a⟩:=a;refine wE (fun st=>Ar XD (eR st) (CR (eR st)) (a42 x g7 e3 e4 e5 e6 e7 e8 e9 fA fB fC fD fE ZA _ bH.all bI.all bJ.all bK.all bL.all bM.all b f4)) ?_;rintro _ hI ⟨bQ,⟨_,_,rfl,rfl,rfl⟩⟩;have fF:=g9.ext bQ;refine wM (v:=.tuple #[I b.1,I b.2]) rfl<|wD (fun st=>BH (v:=I b.1) (eR st) rfl)<|wD (fun st=>BH (v:=I b.2) (eR st) rfl)<|wA (v:=I b.1) rfl<|wA (v:=I b.2) rfl<|Ag<|Ab<|Af<|Af<|Ad<|wM (v:=I b.2) rfl<|wD (fun st=>DW (eR st) (eR st))<|Ag<|Ab ?_;rcases Ak (b.2 !=0) with bR|bR
  ·replace a:=Az a bR;refine AD rfl bR<|Af<|Ad ?_;have bO:=((cL.ext cN).ext bQ);refine wD (fun st=>AR (l:=(Am g h i j m n o p q r e f t)) Cj (eR st) bO rfl rfl) ?_;have ⟨c5,c6,c7,c8,c9,dA⟩:=Cz bB bC bD bE bF bG (mt (Ah cN) (Ah bQ));replace a:=bind_some a;obtain⟨fX,f5,a⟩:=a;refine wE (fun st=>Ar GR (eR st) (CR (eR st)) (Lh x t g h i j m n o p q r e f (zf Z w [some b1]) _ c5 c6 c7 c8 c9 dA fX f5)) ?_;rintro _ hJ ⟨f6,⟨_,rfl,⟨dB,dC,dD,dE,dF,dG,dH,dI,dJ,dK,dL,dM,rfl,aA,aB,aC,aD,aE,aF⟩⟩⟩;have fY:=fF.ext f6;have ⟨aA,aB,aC,aD,aE,aF⟩:=Cz aA aB aC aD aE aF (fF.Da (Nat.le_refl _));replace a:=bind_some a;obtain⟨d,f7,a⟩:=a;refine wE (fun st=>Ar RH (eR st) (CR (eR st)) (WC x fX dB dC dD dE dF dG dH dI dJ dK dL dM (zf Z w [some b1]) _ aA aB aC aD aE aF d f7)) ?_;rintro _ hL ⟨f8,⟨_,_,rfl,⟨bS,bT,rfl,cI⟩,rfl⟩⟩;have fG:=fY.ext f8;have cI:=cI.mv (fY.Da (Nat.le_refl _));refine wM (v:=.tuple #[.slice bS d.1.length bT,I d.2]) rfl<|wD (fun st=>BH (v:=.slice bS d.1.length bT) (eR st) rfl)<|wD (fun st=>BH (v:=I d.2) (eR st) rfl)<|wA (v:=.slice bS d.1.length bT) rfl<|wA (v:=I d.2) rfl<|Ag<|Ab<|Af<|Ad<|wM (v:=I b.2) rfl<|wD (fun st=>Dj (eR st) (eR st))<|wM (v:=.bool (b.2==7)) rfl ?_;rcases Ak (b.2==7) with u|u
   ·replace a:=Az a u;refine An rfl rfl (Ae rfl u) rfl (by decide) (fun st=>Aq (v:=I d.2) (eR st))<|An rfl rfl (Ae rfl u) rfl (by decide) (fun st=>Dj (eR st) (eR st))<|wD (fun st=>AY (v:=.bool (d.2==0)) (eR st) u (eR st))<|wM (v:=.bool (d.2==0)) rfl ?_;rcases Ak (d.2==0) with s|s
    ·replace a:=Az a s;refine Au (c:=true) rfl rfl (Ae rfl s) (by decide) rfl (by decide)<|Au (c:=true) rfl rfl (Ae rfl s) (by decide) rfl (by decide)<|Au (c:=true) rfl rfl (Ae rfl s) (by decide) rfl (by decide)<|FQ rfl rfl rfl rfl (by decide)<|FQ rfl rfl rfl rfl (by decide)<|FQ rfl rfl rfl rfl (by decide)<|Au (c:=true) rfl rfl (Ae rfl s) (by decide) rfl (by decide)<|wD (fun st=>AY (v:=.bool true) (eR st) s (eR st))<|wM (v:=.bool true) rfl ?_;replace a:=Ck a;obtain⟨f9,a⟩:=a;refine Di rfl rfl rfl rfl (by decide) (fun st=>Ar EI (eR st) Gx (a37 x ZA _ f9)) ?_;rintro _ hM ⟨gA,rfl⟩;have hA:=fG.ext gA;refine wD (fun st=>AY (v:=.bool true) (eR st) rfl (eR st))<|wA (v:=.bool true) rfl<|Ag<|Ab<|AI<|Ax ?_;have bA:=oi a;refine AJ rfl rfl ?_;exact⟨hA.Bc,congrArg Value.bool bA⟩
    ·replace a:=AA a s;refine An rfl rfl (Ae rfl s) rfl (by decide) (fun st=>Aq (v:=I b.2) (eR st))<|An rfl rfl (Ae rfl s) rfl (by decide) (fun st=>Dj (eR st) (eR st))<|An rfl rfl (Ae rfl s) rfl (by decide) (fun st=>Aq (v:=.bool (b.2==11)) (eR st)) ?_;rcases Ak (b.2==11) with aG|aG
     ·replace a:=Az a aG;refine An rfl rfl (Ae rfl aG) rfl (by decide) (fun st=>Aq (v:=I d.2) (eR st))<|An rfl rfl (Ae rfl aG) rfl (by decide) (fun st=>Aq (v:=I b.2) (eR st))<|An rfl rfl (Ae rfl aG) rfl (by decide) (fun st=>Dj (eR st) (eR st))<|An rfl rfl (Ae rfl s) rfl (by decide) (fun st=>AY (v:=.bool (d.2==b.2)) (eR st) aG (eR st))<|wD (fun st=>BC (v:=.bool (d.2==b.2)) (eR st) s (eR st))<|wM (v:=.bool (d.2==b.2)) rfl ?_;rcases Ak (d.2==b.2) with bU|bU
      ·replace a:=Az a bU;replace a:=Ck a;obtain⟨gB,a⟩:=a;refine Di rfl rfl (Ae rfl bU) rfl (by decide) (fun st=>Ar EI (eR st) Gx (a37 x ZA _ gB)) ?_;rintro _ hN ⟨gC,rfl⟩;have hB:=fG.ext gC;refine wD (fun st=>AY (v:=.bool true) (eR st) bU (eR st))<|wA (v:=.bool true) rfl<|Ag<|Ab<|AI<|Ax ?_;have bA:=oi a;refine AJ rfl rfl ?_;exact⟨hB.Bc,congrArg Value.bool bA⟩
      ·replace a:=AA a bU;exact absurd (oi a) (by decide)
     ·replace a:=AA a aG;exact absurd (oi a) (by decide)
   ·replace a:=AA a u;refine Au (c:=false) rfl rfl (Ae rfl u) (by decide) rfl (by decide)<|Au (c:=false) rfl rfl (Ae rfl u) (by decide) rfl (by decide)<|wD (fun st=>BC (v:=.bool false) (eR st) u (eR st))<|wM (v:=.bool false) rfl<|An rfl rfl rfl rfl (by decide) (fun st=>Aq (v:=I b.2) (eR st))<|An rfl rfl rfl rfl (by decide) (fun st=>Dj (eR st) (eR st))<|An rfl rfl rfl rfl (by decide) (fun st=>Aq (v:=.bool (b.2==11)) (eR st)) ?_;rcases Ak (b.2==11) with aH|aH
    ·replace a:=Az a aH;refine An rfl rfl (Ae rfl aH) rfl (by decide) (fun st=>Aq (v:=I d.2) (eR st))<|An rfl rfl (Ae rfl aH) rfl (by decide) (fun st=>Aq (v:=I b.2) (eR st))<|An rfl rfl (Ae rfl aH) rfl (by decide) (fun st=>Dj (eR st) (eR st))<|An rfl rfl rfl rfl (by decide) (fun st=>AY (v:=.bool (d.2==b.2)) (eR st) aH (eR st))<|wD (fun st=>BC (v:=.bool (d.2==b.2)) (eR st) rfl (eR st))<|wM (v:=.bool (d.2==b.2)) rfl ?_;rcases Ak (d.2==b.2) with bV|bV
     ·replace a:=Az a bV;replace a:=Ck a;obtain⟨gD,a⟩:=a;refine Di rfl rfl (Ae rfl bV) rfl (by decide) (fun st=>Ar EI (eR st) Gx (a37 x ZA _ gD)) ?_;rintro _ hO ⟨gE,rfl⟩;have gF:=fG.ext gE;refine wD (fun st=>AY (v:=.bool true) (eR st) bV (eR st))<|wA (v:=.bool true) rfl<|Ag<|Ab<|AI<|Ax ?_;have bA:=oi a;refine AJ rfl rfl ?_;exact⟨gF.Bc,congrArg Value.bool bA⟩
     ·replace a:=AA a bV;exact absurd (oi a) (by decide)
    ·replace a:=AA a aH;exact absurd (oi a) (by decide)
  ·replace a:=AA a bR;refine AE rfl bR<|AL<|Ab<|Af<|Af<|Ad<|wM (v:=I b.1) rfl<|wD (fun st=>Ai (eR st) (Fx _ _)) ?_;have bO:=((cL.ext cN).ext bQ);refine wD (fun st=>AG (v:=.slice e t.Ao.length f) GF (eR st) bO rfl)<|wD (fun st=>Bu Tryz.underlying65 (eR st)) ?_;replace a:=AK a;obtain⟨gG,a⟩:=a;refine wD (fun st=>Ex (eR st) (eR st) gG) ?_;replace a:=bind_some a;obtain⟨fH,gH,a⟩:=a;refine wE (fun st=>Ar Fk (eR st) (EN (eR st) (eR st) (eR st)) (IW x b.1 0 ((t.Ao.length:Int)-1) ZA _ fH gH)) ?_;rintro _ hP ⟨cP,rfl⟩;have fI:=fF.ext cP;refine wD (fun st=>Dz (eR st))<|Ag<|Ab ?_;rcases Ak (!fH) with bW|bW
   ·replace a:=Az a bW;exact absurd (oi a) (by decide)
   ·replace a:=AA a bW;have g1:fH=true:=by simpa using bW
    refine AE rfl bW<|AL<|Ab<|Af<|Ad ?_;have cO:=(bO.ext cP);refine wD (fun st=>AR (l:=(Am g h i j m n o p q r e f t)) Cj (eR st) cO rfl rfl)<|wM (v:=I b.1) rfl ?_;replace a:=D1 a;obtain⟨gI,a⟩:=a;refine wD (fun st=>EX (k:=.u64) GV Tryz.underlying91 (eR st) gI) ?_;replace a:=E3 a;obtain⟨gJ,a⟩:=a;refine wD (fun st=>HL (eR st) (eR st) gJ) ?_;replace a:=AK a;obtain⟨gK,a⟩:=a;refine wD (fun st=>Ex (eR st) (eR st) gK) ?_;have ⟨bX,bY,bZ,b4,b5,b6⟩:=Cz bB bC bD bE bF bG (mt (Ah cN) (mt (Ah bQ) (Ah cP)));replace a:=bind_some a;obtain⟨fZ,gL,a⟩:=a;refine wE (fun st=>Ar VO (eR st) (Dw (eR st) (eR st)) (a60 x t ((CY (1:Int) b.1)-1) g h i j m n o p q r e f (zf Z w [some b1]) _ bX bY bZ b4 b5 b6 fZ gL)) ?_;rintro _ hQ ⟨cQ,⟨_,rfl,⟨dN,dO,dP,dQ,dR,dS,dT,dU,dV,dW,dX,dY,rfl,aI,aJ,aK,aL,aM,aN⟩⟩⟩;have fJ:=fI.ext cQ;have ⟨aI,aJ,aK,aL,aM,aN⟩:=Cz aI aJ aK aL aM aN (fI.Da (Nat.le_refl _));replace a:=bind_some a;obtain⟨f0,gM,a⟩:=a;refine wE (fun st=>Ar GR (eR st) (CR (eR st)) (Lh x fZ dN dO dP dQ dR dS dT dU dV dW dX dY (zf Z w [some b1]) _ aI aJ aK aL aM aN f0 gM)) ?_;rintro _ hR ⟨cR,⟨_,rfl,⟨dZ,d0,d1,d2,d3,d4,d5,d6,d7,d8,d9,eA,rfl,aO,aP,aQ,aR,aS,aT⟩⟩⟩;have fK:=fJ.ext cR;have ⟨aO,aP,aQ,aR,aS,aT⟩:=Cz aO aP aQ aR aS aT (fJ.Da (Nat.le_refl _));replace a:=bind_some a;obtain⟨z,gN,a⟩:=a;refine wE (fun st=>Ar RH (eR st) (CR (eR st)) (WC x f0 dZ d0 d1 d2 d3 d4 d5 d6 d7 d8 d9 eA (zf Z w [some b1]) _ aO aP aQ aR aS aT z gN)) ?_;rintro _ hS ⟨cS,⟨_,_,rfl,⟨b7,b8,rfl,cJ⟩,rfl⟩⟩;have fL:=fK.ext cS;have cJ:=cJ.mv (fK.Da (Nat.le_refl _));refine wM (v:=.tuple #[.slice b7 z.1.length b8,I z.2]) rfl<|wD (fun st=>BH (v:=.slice b7 z.1.length b8) (eR st) rfl)<|wD (fun st=>BH (v:=I z.2) (eR st) rfl)<|wA (v:=.slice b7 z.1.length b8) rfl<|wA (v:=I z.2) rfl<|Ag<|Ab<|Af<|Ad ?_;have fM:=(((cO.ext cQ).ext cR).ext cS);refine wD (fun st=>AR (l:=(Am g h i j m n o p q r e f t)) Cj (eR st) fM rfl rfl)<|wM (v:=I b.1) rfl ?_;replace a:=D1 a;obtain⟨gO,a⟩:=a;refine wD (fun st=>EX (k:=.u64) GV Tryz.underlying91 (eR st) gO) ?_;replace a:=E3 a;obtain⟨gP,a⟩:=a;refine wD (fun st=>HL (eR st) (eR st) gP) ?_;replace a:=AK a;obtain⟨gQ,a⟩:=a;refine wD (fun st=>Ex (eR st) (eR st) gQ) ?_;have ⟨cT,cU,cV,cW,cX,cY⟩:=Cz bX bY bZ b4 b5 b6 (mt (Ah cQ) (mt (Ah cR) (Ah cS)));replace a:=bind_some a;obtain⟨f1,gR,a⟩:=a;refine wE (fun st=>Ar VO (eR st) (Dw (eR st) (eR st)) (a60 x t ((CY (2:Int) b.1)-1) g h i j m n o p q r e f (zf Z w [some b1]) _ cT cU cV cW cX cY f1 gR)) ?_;rintro _ hT ⟨gS,⟨_,rfl,⟨eB,eC,eD,eE,eF,eG,eH,eI,eJ,eK,eM,eN,rfl,aU,aV,aW,aX,aY,aZ⟩⟩⟩;have fN:=fL.ext gS;have ⟨aU,aV,aW,aX,aY,aZ⟩:=Cz aU aV aW aX aY aZ (fL.Da (Nat.le_refl _));replace a:=bind_some a;obtain⟨f2,gT,a⟩:=a;refine wE (fun st=>Ar GR (eR st) (CR (eR st)) (Lh x f1 eB eC eD eE eF eG eH eI eJ eK eM eN (zf Z w [some b1]) _ aU aV aW aX aY aZ f2 gT)) ?_;rintro _ hU ⟨gU,⟨_,rfl,⟨eO,eP,eQ,eS,eT,eU,eV,eW,eX,eY,eZ,e0,rfl,a0,a2,a3,a4,a5,a8⟩⟩⟩;have fO:=fN.ext gU;have ⟨a0,a2,a3,a4,a5,a8⟩:=Cz a0 a2 a3 a4 a5 a8 (fN.Da (Nat.le_refl _));replace a:=bind_some a;obtain⟨y,gV,a⟩:=a;refine wE (fun st=>Ar RH (eR st) (CR (eR st)) (WC x f2 eO eP eQ eS eT eU eV eW eX eY eZ e0 (zf Z w [some b1]) _ a0 a2 a3 a4 a5 a8 y gV)) ?_;rintro _ hV ⟨gW,⟨_,_,rfl,⟨b9,cA,rfl,cK⟩,rfl⟩⟩;have gX:=fO.ext gW;have cK:=cK.mv (fO.Da (Nat.le_refl _));refine wM (v:=.tuple #[.slice b9 y.1.length cA,I y.2]) rfl<|wD (fun st=>BH (v:=.slice b9 y.1.length cA) (eR st) rfl)<|wD (fun st=>BH (v:=I y.2) (eR st) rfl)<|wA (v:=.slice b9 y.1.length cA) rfl<|wA (v:=I y.2) rfl<|Ag<|Ab<|Af<|Ad<|wM (v:=I z.2) rfl<|wD (fun st=>Dj (eR st) (eR st))<|wM (v:=.bool (z.2==0)) rfl ?_;rcases Ak (z.2==0) with bN|bN
    ·replace a:=Az a bN;refine An rfl rfl (Ae rfl bN) rfl (by decide) (fun st=>Aq (v:=I y.2) (eR st))<|An rfl rfl (Ae rfl bN) rfl (by decide) (fun st=>Dj (eR st) (eR st))<|wD (fun st=>AY (v:=.bool (y.2==9)) (eR st) bN (eR st))<|wM (v:=.bool (y.2==9)) rfl ?_;rcases Ak (y.2==9) with cB|cB
     ·replace a:=Az a cB;replace a:=Ck a;obtain⟨gY,a⟩:=a;refine Di rfl rfl (Ae rfl cB) rfl (by decide) (fun st=>Ar EI (eR st) Gx (a37 x ZA _ gY)) ?_;rintro _ hW ⟨gZ,rfl⟩;have g0:=gX.ext gZ;refine wD (fun st=>AY (v:=.bool true) (eR st) cB (eR st))<|wA (v:=.bool true) rfl<|Ag<|Ab<|AI ?_;have bA:=oi a;refine AJ rfl rfl ?_;exact⟨g0.Bc,congrArg Value.bool bA⟩
     ·replace a:=AA a cB;exact absurd (oi a) (by decide)
    ·replace a:=AA a bN;exact absurd (oi a) (by decide)
end Go.Proofs.YtbhofkcbfblijaaGreat
end
section
namespace Go.Proofs.YtbhofkcbfblijaaGreat
open Go.RowKit Go.ChangeShapes Go.WideShapes Go.ChangeAt
set_option maxRecDepth 100000 in
theorem Ws(os:Os)(started:os.Started)(H:Type)(enc:TypeId×Value→H):
  ReturnsInHanded {} Tryz.checked os 9 .any (Rows.tradeFirstSpec.pre6 enc Tryz.prog Tryz.f9 Rows.tradeFirstRow.domain false) (Rows.tradeFirstSpec.post enc Tryz.prog Tryz.f9 false true false false):=by
 refine returnsInHanded_of_change_sized (C:=Tryz.checked) RB started (by kernel_rfl) Tryz.func9
  (ChangeSpec.witness6 (enc:=enc) (C:=Tryz.checked) false ⟨#[], #[.agg #[.slice none 0 0,.slice none 0 0,.slice none 0 0,.int .i64 0,.slice none 0 0,.slice none 0 0,.slice none 0 0]],[]⟩ 8 (by kernel_rfl) (by kernel_rfl) (by kernel_rfl) (by kernel_rfl)) ?_
 intro W base args ds gs before d aE aM aF _;have a:∀(j:Nat) t v,Tryz.f9.params[j]?=some t→args[j]?=some v→Value.okWide Tryz.prog W .any base t v:=d;have b:=aE;obtain⟨p,q,aG,aN,rfl,aQ,aR⟩:=aE;have f:DataW.TrodAll enc Tryz.prog W 0 (fun _=>true) true Tryz.f9.params.toList args.toList ds p:=aG;obtain⟨rfl,rfl⟩:=trodVars_none aN;simp only[List.append_nil] at b;have aH:∀x∈p,x.block<W.heap.size:=fun x hx=>by simpa using b.lt x hx
 have aI:=f;have c:(DataW.weightsEach Tryz.prog (Tryz.f9.params.toList++[]) (ds++[])).all (· ≤reachBytes)=true:=aF;rw[Tryz.params9] at f a c;obtain⟨v0,d0,rfl,rfl,h0⟩:=trodAll_one f;obtain⟨aJ,aS,aK,⟨g,h,i,k,l,m,n,o,r,s,u,w,rfl,y,z,aA,aB,aC,aD⟩,w0⟩:=Nr Tryz.underlying67 O7 (a 0 67 v0 rfl rfl) h0 (Li (j:=0) c rfl rfl);subst aK;obtain⟨K,aO⟩:=Ya aJ;refine(LS (a9 K aJ g h i k l m n o r s u w ZA W y z aA aB aC aD aO)).mono fun e W' ⟨v,he,hx,aP⟩=>?_;subst he;subst aP;exact⟨_,rfl,Ko (pa:=p) (pv:=[]) b (fun _ _ _=>trodAll_mk1 (shut_bool Tryz.underlying4 _)) (fun sp hs=>LR P5 P6 (by rw[Tryz.params9];decide) aI hx aH sp (fun x aL=>hs x (by simpa using aL))) (fun _ _=>rfl) (by simp) hx (ok_one (by kernel_rfl) rfl (okWide_bool_mk Tryz.underlying4 _))⟩
theorem Rx:((Rows.tradeFirstRow.inPlace==Tryz.checked.prog.inPlace 9)&&(Rows.tradeFirstRow.unfollowed==Tryz.checked.prog.unfollowed 9)&&(Rows.tradeFirstRow.recurses==Tryz.checked.prog.recurses 9)&&(Rows.tradeFirstRow.named==Tryz.checked.prog.varsNamed 9))=true:=by kernel_rfl
theorem Xa:joinedFacts Tryz.checked.prog 9 Tryz.f9 Rows.tradeFirstSpec Rows.tradeFirstRow=true:=by
 unfold joinedFacts;exact(Bf (Bf (Bf (Bf (Bf (Bf (Bf (Bf (Bf (Bf (Bf (Bf (Bf (Bf (Bf (Bf (Bf (Bf (Bf (Bf (Bf (Bf (Bf (Bf (Bf (Bf (Bf (Bf (Bf (Bf (Bf (by kernel_rfl) O8) O9) (by kernel_rfl)) (by kernel_rfl)) (by kernel_rfl)) NX) (by kernel_rfl)) NY) (FI (FI (FI Rx)))) (IE (FI (FI Rx)))) (IE (FI Rx))) (IE Rx)) (by kernel_rfl)) (by kernel_rfl)) (by kernel_rfl)) (by kernel_rfl)) (by kernel_rfl)) (by kernel_rfl)) (by kernel_rfl)) (by kernel_rfl)) (by kernel_rfl)) Pa) (by kernel_rfl)) NZ) (FI (FI Hs))) (IE (FI Hs))) (IE Hs)) (by kernel_rfl)) (by kernel_rfl)) (by kernel_rfl)) (by kernel_rfl))
theorem tradeFirst_holds:Rows.TradeFirstSaid:=
 OpenClaim.holds_of_wide 9 Tryz.f9 rfl rfl rfl rfl rfl rfl rfl ⟨rfl,rfl,rfl,rfl,rfl⟩ rfl rfl rfl rfl rfl (by kernel_rfl) Tryz.func9 Xa
  (of_decide_eq_true (by kernel_rfl)) (by unfold Func.isWrapper;rw[if_neg (by decide+kernel)];exact⟨rfl,rfl⟩)
  (fun os started H enc _=>Ws os started H enc)
end Go.Proofs.YtbhofkcbfblijaaGreat
end
