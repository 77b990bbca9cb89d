import Derived.Test.YtbhofkcbfblijaaGreatETradeBounds
import Derived.Test.YtbhofkcbfblijaaGreatRows
/-
  Proved: the law TradeBounds returns true for every argument that the row hands over, and leaves every argument as it was; no condition beside the row's own.
-/
set_option linter.all false
section
namespace Go.Proofs.YtbhofkcbfblijaaGreat
open Go.RowKit Go.WideShapes
def ER(f:Nat)(g:AD)(b:(List AL)×Int)(c:(List (List Int))×Int):Nat→Int→Option ((Bool)⊕(Unit))
 |0,_=>none
 |i+1,a=>cond (decide (a<(b.1.length:Int))) ((idx b.1 a).bind fun d=>(D0 f g c.1 a).bind fun h=>(Dv f h).bind fun e=>cond ([d.Lo,d.Hi] !=[e.Lo,e.Hi]) (some (.inl false)) ((i64 (a+1)).bind fun _=>ER f g b c i (a+1))) (some (.inr ()))
def FH(f:Nat)(g:AD)(b:(List AL)×Int)(c:(List (List Int))×Int):Nat→Int→Option ((Bool)⊕(Unit))
 |0,_=>none
 |i+1,a=>cond (decide (a<(b.1.length:Int))) ((idx b.1 a).bind fun d=>(D0 f g c.1 a).bind fun h=>(Dv f h).bind fun e=>cond ([d.Lo,d.Hi] !=[e.Lo,e.Hi]) (some (.inl false)) ((i64 (a+1)).bind fun _=>FH f g b c i (a+1))) (some (.inr ()))
def ES(f:Nat)(g:AD)(b:(List AL)×Int)(c:(List (List Int))×Int):Nat→Int→Option ((Bool)⊕(Unit))
 |0,_=>none
 |i+1,a=>cond (decide (a<(b.1.length:Int))) ((idx b.1 a).bind fun d=>(D0 f g c.1 a).bind fun h=>(Dv f h).bind fun e=>cond ([d.Lo,d.Hi] !=[e.Lo,e.Hi]) (some (.inl false)) ((i64 (a+1)).bind fun _=>ES f g b c i (a+1))) (some (.inr ()))
def FA(f:Nat)(h:AD)(b:(List AL)×Int)(e:(List (List Int))×Int):Nat→Int→Option ((Bool)⊕(Unit))
 |0,_=>none
 |i+1,a=>cond (decide (a<(b.1.length:Int))) ((idx b.1 a).bind fun c=>(D0 f h e.1 a).bind fun g=>(Dv f g).bind fun d=>cond ([c.Lo,c.Hi] !=[d.Lo,d.Hi]) (some (.inl false)) ((i64 (a+1)).bind fun _=>FA f h b e i (a+1))) (some (.inr ()))
def FB(a:Nat)(e:AD)(p:List Int)(q:Int):Option (Bool):=
 (GF a e).bind fun aA=>cond (!aA) ((ED (BU a=some true)).bind fun _=>some (true)) (cond (decide ((8:Int)<(p.length:Int))) ((ED (BU a=some true)).bind fun _=>some (true)) ((Eh a e).bind fun t=>(Hr a t).bind fun c=>(Eh a e).bind fun u=>(GD a p).bind fun v=>(G9 a u v).bind fun d=>(Eh a e).bind fun w=>(GD a p).bind fun x=>(HP a w x q).bind fun f=>(GH a e).bind fun b=>(Gl a e).bind fun y=>cond (y==0) ((Gq a p (e.Ab.length:Int)).bind fun h=>cond (!h.2) (cond (c.2 !=b.2) (some (false)) (cond (d.2 !=2) (some (false)) (cond ((2:Int) !=(0:Int)) (cond ([d.1.Lo,d.1.Hi] !=[0,0]) (some (false)) (cond (f) (some (false)) (cond (b.2 !=0) (cond ((c.1.length:Int) !=0) (some (false)) ((ED (BU a=some true)).bind fun _=>some (true))) (cond ((c.1.length:Int) !=(e.Ab.length:Int)) (some (false)) ((ER a e c b a (0:Int)).bind fun z=>Sum.elim (fun i=>some (i)) (fun i=>(ED (BU a=some true)).bind fun _=>some (true)) z))))) (cond (b.2 !=0) (cond ((c.1.length:Int) !=0) (some (false)) ((ED (BU a=some true)).bind fun _=>some (true))) (cond ((c.1.length:Int) !=(e.Ab.length:Int)) (some (false)) ((FH a e c b a (0:Int)).bind fun z=>Sum.elim (fun j=>some (j)) (fun j=>(EU a e b.1 h.1).bind fun r=>(Dv a r).bind fun s=>cond ([d.1.Lo,d.1.Hi]==[s.Lo,s.Hi]) (cond (f==(decide (q≤r.Lo))) ((ED (BU a=some true)).bind fun _=>some (true)) (some (false))) (some (false))) z)))))) (cond (c.2 !=b.2) (some (false)) (cond (d.2 !=b.2) (some (false)) (cond (b.2 !=0) (cond ([d.1.Lo,d.1.Hi] !=[0,0]) (some (false)) (cond (f) (some (false)) (cond ((c.1.length:Int) !=0) (some (false)) ((ED (BU a=some true)).bind fun _=>some (true))))) (cond ((c.1.length:Int) !=(e.Ab.length:Int)) (some (false)) ((ES a e c b a (0:Int)).bind fun z=>Sum.elim (fun k=>some (k)) (fun k=>(EU a e b.1 h.1).bind fun l=>(Dv a l).bind fun m=>cond ([d.1.Lo,d.1.Hi]==[m.Lo,m.Hi]) (cond (f==(decide (q≤l.Lo))) ((ED (BU a=some true)).bind fun _=>some (true)) (some (false))) (some (false))) z)))))) (cond (c.2 !=b.2) (some (false)) (cond (d.2 !=b.2) (some (false)) (cond (b.2 !=0) (cond ([d.1.Lo,d.1.Hi] !=[0,0]) (some (false)) (cond (f) (some (false)) (cond ((c.1.length:Int) !=0) (some (false)) ((ED (BU a=some true)).bind fun _=>some (true))))) (cond ((c.1.length:Int) !=(e.Ab.length:Int)) (some (false)) ((FA a e c b a (0:Int)).bind fun z=>Sum.elim (fun g=>some (g)) (fun g=>(EU a e b.1 0).bind fun n=>(Dv a n).bind fun o=>cond ([d.1.Lo,d.1.Hi]==[o.Lo,o.Hi]) (cond (f==(decide (q≤n.Lo))) ((ED (BU a=some true)).bind fun _=>some (true)) (some (false))) (some (false))) z)))))))
end Go.Proofs.YtbhofkcbfblijaaGreat
end
section
namespace Go.Proofs.YtbhofkcbfblijaaGreat
section
variable{K:Nat}(hK:1000≤K)
include hK
theorem Vf {t:AD} (d:OkT t) (e:B4 t≠[]) {b:List AL} (hb:Ww t b) (F:Nat→Int→Option (Bool⊕Unit))
  (f:∀m (i:Nat),F (m+1) (i:Int)=cond (decide ((i:Int)<(b.length:Int))) ((idx b (i:Int)).bind fun a=>(D0 K t (B4 t) (i:Int)).bind fun g=>(Dv K g).bind fun c=>cond ([a.Lo,a.Hi] !=[c.Lo,c.Hi]) (some (.inl false)) ((i64 ((i:Int)+1)).bind fun _=>F m ((i:Int)+1))) (some (.inr ()))):
  F K 0=some (.inr ()):=by
 have j:=d.kl;have l:=hb.len;have h:=Ke b (fun m i=>F m (i:Int)) (fun _=>true) false
  (fun m i hi=>by
   show F (m+1) (i:Int)=_;obtain⟨r,g1,g2⟩:=Ve hK d (k:=i) (by omega);rw[f,ct (dt (by omega)),Cp hi,bd g1,bd (AaM hK r),(hb.is i hi).uniq (g2 e),cf (nl rfl),BS (by omega) (by omega),Dw i,ct rfl])
  (fun m=>by
   show F (m+1) (b.length:Int)=_;rw[f,cf (df (by omega))]) (k:=K) (by omega)
 rw[show(b.all fun _=>true)=true from List.all_eq_true.2 fun _ _=>rfl] at h;exact h
theorem N0(ha:BU K=some true)(t:AD)(Cz:List Int)(n:Int):FB K t Cz n=some true:=by
 unfold FB;rw[bd (UJ hK t)];cases h:IJ t with
 |false=>rw[nf,FV ha]
 |true=>
  rw[nt]
  by_cases aB:8<Cz.length
  ·rw[ct (dt (by omega)),FV ha]
  have hlen:=Ki h;have aC:t.Ab.length≤100:=hlen.1.2.1;obtain⟨b,b1,b2,b3⟩:=Wx hK h;obtain⟨r,l,c,o⟩:=Tw hK h (Cz:=Cz) (by omega);obtain⟨p,v,d,q⟩:=R0 hK h (Cz:=Cz) (by omega) n;rw[cf (df (by omega)),bd (Mi hK t hlen),bd b1,bd (Mi hK t hlen),bd (Ru hK Cz (by omega)),bd l,bd (Mi hK t hlen),bd (Ru hK Cz (by omega)),bd v,bd (UK hK h),bd (SQ hK hlen)]
  by_cases a:Gr t=0
  ·have k:=Ju h a;have z:=k.kl;rw[ct (Le a),bd (Pf hK (n:=t.Ab.length) (by omega) (by omega))];cases hr:F9 t.Ab.length 0 Cz with
   |false=>
    have e:HQ t Cz=2:=by unfold HQ;rw[if_pos ⟨a,hr⟩]
    have f:=c (by omega);have g:=d (by omega);subst f;subst g;rw[nf,cf (Ib rfl),e,cf (Ib rfl),ct (J1 (by decide)),cf (nl rfl),cf rfl]
    by_cases h0:DZ t=0
    ·have hb:=b3 h0;rw[h0,if_pos rfl,cf (Ib rfl),cf (Ib (by rw[hb.len]))];have:=Vf hK k (Gt h0).2 hb (fun m i=>ER K t (b,(0:Int)) (B4 t,(0:Int)) m i) (fun m i=>rfl);rw[bd this];show(ED _).bind _=_;rw[FV ha]
    ·have j:=b2 h0;subst j;rw[ct (J1 h0),lz1,FV ha]
   |true=>
    have e:=Qt hr;rw[e] at l c o d q⊢;rw[nt,cf (Ib rfl),cf (Ib rfl)]
    by_cases h0:DZ t=0
    ·have hb:=b3 h0;have hm:=Lp hr;have aA:IY Cz<2^t.Ab.length:=PG hm;have aD:2^t.Ab.length≤2^8:=Nat.pow_le_pow_right (by omega) (by omega);obtain⟨w,w1,w2⟩:=WA hK k (s:=IY Cz) (by omega);have u:=w2 (Gt h0).2;rw[bits_mask (by omega) hr] at u;have x:=(o h0).uniq u;subst x;have y:=q r h0 u;subst y;rw[h0,if_pos rfl,cf (Ib rfl),cf (Ib (by rw[hb.len]))];have:=Vf hK k (Gt h0).2 hb (fun m i=>ES K t (b,(0:Int)) (B4 t,(0:Int)) m i) (fun m i=>rfl);rw[bd this];show(EU K t (B4 t) (if true=true then ((IY Cz:Nat):Int) else 0)).bind _=_;rw[if_pos rfl,bd w1,bd (AaM hK r),ct (el rfl),ct (bb _),FV ha]
    ·have j:=b2 h0;have f:=c h0;have g:=d h0;subst j;subst f;subst g;rw[ct (J1 h0),cf (nl rfl),cf rfl,lz1,FV ha]
  ·have hs:DZ t=Gr t:=by
    have:Ic t=Gr t:=by unfold Ic;rw[if_pos a]
    unfold DZ;rw[if_pos (by rw[this];exact a),this]
   have e:HQ t Cz=DZ t:=by unfold HQ;rw[if_neg (by simp[a])]
   have h0:DZ t≠0:=by rw[hs];exact a
   rw[e] at l c o d q⊢;have j:=b2 h0;have f:=c h0;have g:=d h0;subst j;subst f;subst g;rw[cf (LI a),cf (Ib rfl),cf (Ib rfl),ct (J1 h0),cf (nl rfl),cf rfl,lz1,FV ha]
end
theorem OL(t:AD)(l:List Int)(n:Int):∃K,FB K t l n=some true:=⟨1000,N0 (Nat.le_refl _) Pc t l n⟩
end Go.Proofs.YtbhofkcbfblijaaGreat
end
section
namespace Go.Proofs.YtbhofkcbfblijaaGreat
open Go.RowKit Go.WideShapes
set_option maxRecDepth 20000
open HF
attribute [local irreducible] Cg WL CC CW LV BN Hb EX One Ba
set_option maxHeartbeats 4000000 in
theorem a11 aI g eZ a3 i j e f m o p q r s t u b7 b8(Z:Nat→Prop) w(nN:Sl Ax w Z i j g.Aj)(nO:Sl (Bx (Al .i64)) w Z e f g.Ab)(nP:Sl AF w Z m o g.Aq)(nQ:Sl AT w Z p q g.AB)(nR:Sl AW w Z r s g.AE)(nS:Sl Bj w Z t u g.AK)(nT:Sl (Al .i64) w Z b7 b8 eZ)(a:FB aI g eZ a3=some true):
 BN Tryz.prog 11 #[.agg (Ar i j e f m o p q r s t u g).toArray,.slice b7 eZ.length b8,I a3] w (fun v w'=>Ext w w'∧v=.bool true):=by
 unfold FB at a;refine rq (N:=147) Tryz.func11 fun tA ha tB=>?_;have pA:=sA 0 ha;have hJ:=sA 1 ha;have e7:=sA 2 ha;clear ha;have oO:Hp FN [] w [] w:=Hp.start (Bw.none w);have ⟨k3,k4,k5,k6,k7,k8,k9⟩:=FF nN nO nP nQ nR nS nT (Bu (Z:=Z) (L:=[]) w);refine cr<|wE (fun st=>BL (v:=.agg (Ar i j e f m o p q r s t u g).toArray) (cs:=(Ar i j e f m o p q r s t u g).toArray) (ee st pA) rfl) ?_;rintro _ w1 ⟨b1,rfl,gO⟩;have rY:=oO.nb gO;have sG:=oO.BH gO;refine wA (v:=.bool false) rfl<|wn<|Af<|cr<|wD (fun st=>AO (l:=(Ar i j e f m o p q r s t u g)) DL (eR st) gO.bk rfl rfl) ?_;have ⟨gP,gQ,gR,gS,gT,gU⟩:=CA k3 k4 k5 k6 k7 k8 (Ay gO);replace a:=bind_some a;obtain⟨mS,rZ,a⟩:=a;refine wE (fun st=>Ak U1 (eR st) (Cd (eR st)) (a36 aI g i j e f m o p q r s t u ZA _ gP.all gQ.all gR.all gS.all gT.all gU.all mS rZ)) ?_;rintro _ t2 ⟨kU,rfl⟩;have kV:=rY.ext kU;refine wD (fun st=>Ca (eR st))<|wM (v:=.bool !mS) rfl ?_;rcases Ae (!mS) with b6|b6
 ·replace a:=Am a b6;have sH:mS=false:=by simpa using b6
  refine wF b6<|wF b6<|wF b6<|wD (fun st=>AR (v:=.bool true) (eR st) b6 (eR st))<|wn<|Ah rfl rfl<|Af<|Ai ?_;replace a:=B9 a;obtain⟨r0,a⟩:=a;refine wE (fun st=>Ak G3 (eR st) F6 (a37 aI ZA _ r0)) ?_;rintro _ t3 ⟨r1,rfl⟩;have r2:=kV.ext r1;refine wA (v:=.bool true) rfl<|wn<|Ap<|AG ?_;have aK:=oi a;refine Au rfl rfl ?_;exact⟨r2.AZ,congrArg Value.bool aK⟩
 ·replace a:=An a b6;have sI:mS=true:=by simpa using b6
  refine wN b6 (v:=.slice b7 eZ.length b8) hJ<|wG b6 (fun st=>Bn Tryz.underlying31 (eR st))<|wG b6 (fun st=>Fj (eR st) (eR st))<|wD (fun st=>Bg (v:=.bool (decide ((8:Int)<(eZ.length:Int)))) (eR st) b6 (eR st))<|wn ?_;rcases Ae (decide ((8:Int)<(eZ.length:Int))) with iR|iR
  ·replace a:=Am a iR;refine Ah rfl iR<|Af<|Ai ?_;replace a:=B9 a;obtain⟨pB,a⟩:=a;refine wE (fun st=>Ak G3 (eR st) F6 (a37 aI ZA _ pB)) ?_;rintro _ tC ⟨pC,rfl⟩;have r3:=kV.ext pC;refine wA (v:=.bool true) rfl<|wn<|Ap<|AG ?_;have aK:=oi a;refine Au rfl rfl ?_;exact⟨r3.AZ,congrArg Value.bool aK⟩
  ·replace a:=An a iR;refine Ao rfl iR<|cn<|Af<|Ai ?_;have kW:=(gO.bk.ext kU);refine wD (fun st=>AO (l:=(Ar i j e f m o p q r s t u g)) DL (eR st) kW rfl rfl) ?_;have ⟨gV,gW,gX,gY,gZ,g0⟩:=CA gP gQ gR gS gT gU (Ac kU);replace a:=bind_some a;obtain⟨oP,pD,a⟩:=a;refine wE (fun st=>Ak ND (eR st) (Cd (eR st)) (U6 aI g i j e f m o p q r s t u (zf Z w [some b1]) _ gV gW gX gY gZ g0 oP pD)) ?_;rintro _ tD ⟨hL,⟨_,rfl,⟨lA,lB,lC,lD,lE,lF,lG,lH,lI,lJ,lK,lL,rfl,dF,dG,dH,dI,dJ,dK⟩⟩⟩;have oQ:=kV.ext hL;have ⟨dF,dG,dH,dI,dJ,dK⟩:=CA dF dG dH dI dJ dK (kV.DQ (Nat.le_refl _));replace a:=bind_some a;obtain⟨z,pE,a⟩:=a;refine wE (fun st=>Ak U2 (eR st) (Cd (eR st)) (a33 aI oP lA lB lC lD lE lF lG lH lI lJ lK lL (zf Z w [some b1]) _ dF dG dH dI dJ dK z pE)) ?_;rintro _ tE ⟨hM,⟨_,_,rfl,⟨aB,aC,rfl,bA⟩,rfl⟩⟩;have oR:=oQ.ext hM;have bA:=bA.mv (oQ.DQ (Nat.le_refl _));refine wM (v:=.tuple #[.slice aB z.1.length aC,I z.2]) rfl<|wD (fun st=>Bs (v:=.slice aB z.1.length aC) (eR st) rfl)<|wD (fun st=>Bs (v:=I z.2) (eR st) rfl)<|wA (v:=.slice aB z.1.length aC) rfl<|wA (v:=I z.2) rfl<|wn<|Af<|Ai ?_;have kX:=((kW.ext hL).ext hM);refine wD (fun st=>AO (l:=(Ar i j e f m o p q r s t u g)) DL (eR st) kX rfl rfl) ?_;have ⟨g1,g2,g3,g4,g5,g6⟩:=CA gV gW gX gY gZ g0 (mt (Ac hL) (Ac hM));replace a:=bind_some a;obtain⟨oW,pF,a⟩:=a;refine wE (fun st=>Ak ND (eR st) (Cd (eR st)) (U6 aI g i j e f m o p q r s t u (zf Z w [some b1]) _ g1 g2 g3 g4 g5 g6 oW pF)) ?_;rintro _ tF ⟨cI,⟨_,rfl,⟨lM,lN,lO,lP,lQ,lR,lS,lT,lU,lV,lW,lX,rfl,dL,dM,dN,dO,dP,dQ⟩⟩⟩;have oY:=oR.ext cI;have ⟨dL,dM,dN,dO,dP,dQ⟩:=CA dL dM dN dO dP dQ (oR.DQ (Nat.le_refl _));refine wM (v:=.slice b7 eZ.length b8) hJ ?_;have g7:=(((((k9.mv (Ay gO)).mv (Ac kU)).mv (Ac hL)).mv (Ac hM)).mv (Ac cI));replace a:=bind_some a;obtain⟨oZ,pG,a⟩:=a;refine wE (fun st=>Ak RV (eR st) (Cd (eR st)) (a51 aI eZ b7 b8 (zf Z w [some b1]) _ g7 oZ pG)) ?_;rintro _ tG ⟨b9,⟨mT,mU,rfl,eA⟩⟩;have r4:=oY.ext b9;have eA:=eA.mv (oY.DQ (Nat.le_refl _));have ⟨hN,hO,hP,hQ,hR,hS⟩:=CA dL dM dN dO dP dQ (Ac b9);replace a:=bind_some a;obtain⟨b,pH,a⟩:=a;refine wE (fun st=>Ak RN (eR st) (Ci (eR st) (eR st)) (a50 aI oW oZ lM lN lO lP lQ lR lS lT lU lV lW lX mT mU ZA _ hN.all hO.all hP.all hQ.all hR.all hS.all eA.all b pH)) ?_;rintro _ tH ⟨cJ,⟨_,_,rfl,⟨_,rfl,rfl⟩,rfl⟩⟩;have o0:=r4.ext cJ;refine wM (v:=.tuple #[.agg #[I b.1.Lo,I b.1.Hi],I b.2]) rfl<|wD (fun st=>Bs (v:=.agg #[I b.1.Lo,I b.1.Hi]) (eR st) rfl)<|wD (fun st=>Bs (v:=I b.2) (eR st) rfl)<|wE (fun st=>BZ (cs:= #[I 0,I 0]) Jx rfl) ?_;rintro _ tI ⟨aG,rfl,bU⟩;have cK:=o0.nb bU;have r5:=o0.BH bU;refine BD rfl rfl (fun st=>Bt (n:=2) (l:=[I b.1.Lo,I b.1.Hi]) (Cm:= #[I b.1.Lo,I b.1.Hi]) (eR st) (eR st) GO bU.bk rfl rfl (show 0+2≤2 by decide) (AY rfl) rfl) ?_;rintro _ tJ aW;have mV:=cK.gr aW.gr 0 rfl;refine wA (v:=I b.2) rfl<|wn<|Af<|Ai ?_;have iS:=(((((kX.ext cI).ext b9).ext cJ).ext bU.gr).gr aW.gr (cK.nq 1 0));refine wD (fun st=>AO (l:=(Ar i j e f m o p q r s t u g)) DL (eR st) iS rfl rfl) ?_;have ⟨e8,e9,fA,fB,fC,fD⟩:=CA g1 g2 g3 g4 g5 g6 (mt (Ac cI) (mt (Ac b9) (mt (Ac cJ) (mt (Ay bU) (cK.By aW.gr 0 rfl)))));replace a:=bind_some a;obtain⟨o1,pI,a⟩:=a;refine wE (fun st=>Ak ND (eR st) (Cd (eR st)) (U6 aI g i j e f m o p q r s t u (zf Z w [some aG,some b1]) _ e8 e9 fA fB fC fD o1 pI)) ?_;rintro _ tK ⟨aX,⟨_,rfl,⟨lY,lZ,l0,l1,l2,l3,l4,l5,l6,l7,l8,l9,rfl,dR,dS,dT,dU,dV,dW⟩⟩⟩;have mW:=mV.ext aX;have ⟨dR,dS,dT,dU,dV,dW⟩:=CA dR dS dT dU dV dW (mV.DQ (Nat.le_refl _));refine wM (v:=.slice b7 eZ.length b8) hJ ?_;have fE:=(((((g7.mv (Ac b9)).mv (Ac cJ)).mv (Ay bU)).mv (cK.By aW.gr 0 rfl)).mv (Ac aX));replace a:=bind_some a;obtain⟨o2,pJ,a⟩:=a;refine wE (fun st=>Ak RV (eR st) (Cd (eR st)) (a51 aI eZ b7 b8 (zf Z w [some aG,some b1]) _ fE o2 pJ)) ?_;rintro _ tL ⟨aS,⟨mX,mY,rfl,eB⟩⟩;have pK:=mW.ext aS;have eB:=eB.mv (mW.DQ (Nat.le_refl _));refine wM (v:=I a3) e7 ?_;have ⟨gG,gH,gI,gJ,gK,gL⟩:=CA dR dS dT dU dV dW (Ac aS);replace a:=bind_some a;obtain⟨aF,pL,a⟩:=a;refine wE (fun st=>Ak AaO (eR st) (DX (eR st) (eR st) (eR st)) (a64 aI o1 o2 a3 lY lZ l0 l1 l2 l3 l4 l5 l6 l7 l8 l9 mX mY ZA _ gG.all gH.all gI.all gJ.all gK.all gL.all eB.all aF pL)) ?_;rintro _ tM ⟨aY,rfl⟩;have mZ:=pK.ext aY;refine wA (v:=.bool aF) rfl<|wn<|Af<|Ai ?_;have iT:=(((iS.ext aX).ext aS).ext aY);refine wD (fun st=>AO (l:=(Ar i j e f m o p q r s t u g)) DL (eR st) iT rfl rfl) ?_;have ⟨fF,fG,fH,fI,fJ,fK⟩:=CA e8 e9 fA fB fC fD (mt (Ac aX) (mt (Ac aS) (Ac aY)));replace a:=bind_some a;obtain⟨c,pM,a⟩:=a;refine wE (fun st=>Ak U4 (eR st) (Cd (eR st)) (a39 aI g i j e f m o p q r s t u (zf Z w [some aG,some b1]) _ fF fG fH fI fJ fK c pM)) ?_;rintro _ tN ⟨aZ,⟨_,_,rfl,⟨x,y,rfl,bB⟩,rfl⟩⟩;have pN:=mZ.ext aZ;have bB:=bB.mv (mZ.DQ (Nat.le_refl _));refine wM (v:=.tuple #[.slice x c.1.length y,I c.2]) rfl<|wD (fun st=>Bs (v:=.slice x c.1.length y) (eR st) rfl)<|wD (fun st=>Bs (v:=I c.2) (eR st) rfl)<|wA (v:=.slice x c.1.length y) rfl<|wA (v:=I c.2) rfl<|wr<|wM (v:=I c.2) rfl<|wA (v:=I c.2) rfl<|wA (v:=I 0) rfl<|wn<|Af<|Af<|Ai ?_;have fL:=(iT.ext aZ);refine wD (fun st=>AO (l:=(Ar i j e f m o p q r s t u g)) DL (eR st) fL rfl rfl) ?_;have ⟨bC,bD,bE,bF,bG,bH⟩:=CA fF fG fH fI fJ fK (Ac aZ);replace a:=bind_some a;obtain⟨o3,pO,a⟩:=a;refine wE (fun st=>Ak U0 (eR st) (Cd (eR st)) (a65 aI g i j e f m o p q r s t u ZA _ bC.all bD.all bE.all bF.all bG.all bH.all o3 pO)) ?_;rintro _ tO ⟨aJ,rfl⟩;have jH:=pN.ext aJ;refine wD (fun st=>Dt (eR st) (eR st))<|wn ?_;rcases Ae (o3==0) with fM|fM
   ·replace a:=Am a fM;refine Ah rfl fM<|cr<|wM (v:=.slice b7 eZ.length b8) hJ<|wD (fun st=>Ad (eR st) (GJ _ _))<|wD (fun st=>Ad (eR st) (EO _ _)) ?_;have bI:=(fL.ext aJ);refine wD (fun st=>Ag (v:=.slice e g.Ab.length f) DK (eR st) bI rfl)<|wD (fun st=>Bn Tryz.underlying23 (eR st)) ?_;have jI:=((((fE.mv (Ac aS)).mv (Ac aY)).mv (Ac aZ)).mv (Ac aJ));replace a:=bind_some a;obtain⟨aM,pP,a⟩:=a;refine wE (fun st=>Ak U5 (eR st) (Ci (eR st) (eR st)) (a52 aI eZ (g.Ab.length:Int) b7 b8 ZA _ jI.all aM pP)) ?_;rintro _ tP ⟨aN,⟨_,_,rfl,rfl,rfl⟩⟩;have eC:=jH.ext aN;refine wM (v:=.tuple #[I aM.1,.bool aM.2]) rfl<|wD (fun st=>Bs (v:=I aM.1) (eR st) rfl)<|wD (fun st=>Bs (v:=.bool aM.2) (eR st) rfl)<|wA (v:=I aM.1) rfl<|wA (v:=.bool aM.2) rfl<|wr<|wM (v:=I aM.1) rfl<|wA (v:=I aM.1) rfl<|wr<|wM (v:=.bool aM.2) rfl<|wD (fun st=>Ca (eR st))<|wn ?_;rcases Ae (!aM.2) with dX|dX
    ·replace a:=Am a dX;have rQ:aM.2=false:=by simpa using dX
     refine Ah rfl dX<|Ai<|wA (v:=I 2) rfl<|wn<|Af<|cr<|wM (v:=I z.2) rfl<|wM (v:=I c.2) rfl<|wD (fun st=>Cx (eR st) (eR st))<|wM (v:=.bool (z.2 !=c.2)) rfl ?_;rcases Ae (z.2 !=c.2) with dY|dY
     ·replace a:=Am a dY;exact absurd (oi a) (by decide)
     ·replace a:=An a dY;refine wN dY (v:=I b.2) rfl<|wN dY (v:=I 2) rfl<|wG dY (fun st=>Cx (eR st) (eR st))<|wD (fun st=>Bg (v:=.bool (b.2 !=2)) (eR st) dY (eR st))<|wM (v:=.bool (b.2 !=2)) rfl ?_;rcases Ae (b.2 !=2) with bV|bV
      ·replace a:=Am a bV;exact absurd (oi a) (by decide)
      ·replace a:=An a bV;refine wN bV (v:=I 2) rfl<|wG bV (fun st=>Cx (eR st) (eR st))<|wG bV (fun st=>AA (v:=.bool ((2:Int) !=(0:Int))) (eR st)) ?_;rcases Ae ((2:Int) !=(0:Int)) with aO|aO
       ·replace a:=Am a aO;have aV:=((((((aW.bk.ext aX).ext aS).ext aY).ext aZ).ext aJ).ext aN);refine wG aO (fun st=>AO (l:=[I b.1.Lo,I b.1.Hi]) EC (eR st) aV rfl rfl)<|wG aO (fun st=>Dz (vs:= #[]) (v:=.agg #[I 0,I 0]) QN (by kernel_rfl))<|wG aO (fun st=>LY (x1:=[b.1.Lo,b.1.Hi]) (x2:=[0,0]) Ja I9 (eR st) (eR st) rfl rfl rfl rfl)<|wG aO (fun st=>AA (v:=.bool ([b.1.Lo,b.1.Hi] !=[0,0])) (eR st)) ?_;rcases Ae ([b.1.Lo,b.1.Hi] !=[0,0]) with fN|fN
        ·replace a:=Am a fN;exact absurd (oi a) (by decide)
        ·replace a:=An a fN;refine wN fN (v:=.bool aF) rfl<|wG aO (fun st=>Bg (v:=.bool aF) (eR st) fN (eR st))<|wG bV (fun st=>AR (v:=.bool aF) (eR st) aO (eR st))<|wD (fun st=>Bg (v:=.bool aF) (eR st) bV (eR st))<|wM (v:=.bool aF) rfl ?_;rcases Ae (aF) with bW|bW
         ·replace a:=Am a bW;exact absurd (oi a) (by decide)
         ·replace a:=An a bW;refine wN bW (v:=I c.2) rfl<|wG bW (fun st=>Cx (eR st) (eR st))<|wG bW (fun st=>AA (v:=.bool (c.2 !=0)) (eR st)) ?_;rcases Ae (c.2 !=0) with a4|a4
          ·replace a:=Am a a4;refine wN a4 (v:=.slice aB z.1.length aC) rfl<|wG a4 (fun st=>Bn Tryz.underlying55 (eR st))<|wG a4 (fun st=>Cx (eR st) (eR st))<|wG bW (fun st=>AR (v:=.bool ((z.1.length:Int) !=0)) (eR st) a4 (eR st))<|wD (fun st=>Bg (v:=.bool ((z.1.length:Int) !=0)) (eR st) bW (eR st))<|wn ?_;rcases Ae ((z.1.length:Int) !=0) with hT|hT
           ·replace a:=Am a hT;exact absurd (oi a) (by decide)
           ·replace a:=An a hT;refine Ao rfl hT<|cn<|Af<|cr<|wM (v:=I c.2) rfl<|wD (fun st=>Cx (eR st) (eR st))<|wn<|Ah rfl a4<|Af<|Ai ?_;replace a:=B9 a;obtain⟨pQ,a⟩:=a;refine wE (fun st=>Ak G3 (eR st) F6 (a37 aI ZA _ pQ)) ?_;rintro _ tQ ⟨pR,rfl⟩;have pS:=eC.ext pR;refine wA (v:=.bool true) rfl<|wn<|Ap<|AG ?_;have aK:=oi a;refine Au rfl rfl ?_;exact⟨pS.AZ,congrArg Value.bool aK⟩
          ·replace a:=An a a4;refine wF a4<|wF a4<|wF a4<|wG bW (fun st=>Bg (v:=.bool false) (eR st) a4 (eR st))<|wD (fun st=>Bg (v:=.bool false) (eR st) bW (eR st))<|wn<|Ao rfl rfl<|cn<|Af<|cr<|wM (v:=I c.2) rfl<|wD (fun st=>Cx (eR st) (eR st))<|wn<|Ao rfl a4<|cn<|Af<|cr<|wM (v:=.slice aB z.1.length aC) rfl<|wD (fun st=>Bn Tryz.underlying55 (eR st))<|wD (fun st=>Ad (eR st) (GJ _ _))<|wD (fun st=>Ad (eR st) (EO _ _)) ?_;have a9:=(bI.ext aN);refine wD (fun st=>Ag (v:=.slice e g.Ab.length f) DK (eR st) a9 rfl)<|wD (fun st=>Bn Tryz.underlying23 (eR st))<|wD (fun st=>Cx (eR st) (eR st))<|wn ?_;rcases Ae ((z.1.length:Int) !=(g.Ab.length:Int)) with hU|hU
           ·replace a:=Am a hU;exact absurd (oi a) (by decide)
           ·replace a:=An a hU;refine Ao rfl hU<|cn<|Af<|cr<|wA (v:=I 0) rfl<|wn<|AI ?_;replace a:=bind_some a;obtain⟨z49,eD,a⟩:=a;refine BQ (fun dZ d aA=>(dZ=.ret∧∃eE,z49=.inl eE∧Fo X0 147 d∧sl d 6=.bool eE∧Hp FN [] w [some aG,some b1] aA)∨(dZ=.exit 0∧∃eE,z49=.inr eE∧Fo X0 147 d∧sl d 2=I a3∧sl d 3=pt b1 0∧sl d 9=pt aG 0∧sl d 11=.bool aF∧sl d 12=.slice x c.1.length y∧sl d 14=I 2∧sl d 15=I aM.1∧Hp FN [] w [some aG,some b1] aA∧Bk aA b1 67 (Ar i j e f m o p q r s t u g).toArray∧Bk aA aG 60 #[I b.1.Lo,I b.1.Hi]∧(fun aD=>Sl Ax aA aD i j g.Aj∧Sl (Bx (Al .i64)) aA aD e f g.Ab∧Sl AF aA aD m o g.Aq∧Sl AT aA aD p q g.AB∧Sl AW aA aD r s g.AE∧Sl Bj aA aD t u g.AK∧Sl (Bx (Al .i64)) aA aD x y c.1) (zf Z w [some aG,some b1]))) ?pT ?pU
            case pT=>
             clear a;refine BP (fun d0 d aA=>∃aP,ER aI g z c d0 aP=some z49∧Fo X0 147 d∧sl d 2=I a3∧sl d 3=pt b1 0∧sl d 7=.slice aB z.1.length aC∧sl d 9=pt aG 0∧sl d 11=.bool aF∧sl d 12=.slice x c.1.length y∧sl d 14=I 2∧sl d 15=I aM.1∧sl d 18=I aP∧Hp FN [] w [some aG,some b1] aA∧Bk aA b1 67 (Ar i j e f m o p q r s t u g).toArray∧Bk aA aG 60 #[I b.1.Lo,I b.1.Hi]∧(fun aD=>Sl Ax aA aD i j g.Aj∧Sl (Bx (Al .i64)) aA aD e f g.Ab∧Sl AF aA aD m o g.Aq∧Sl AT aA aD p q g.AB∧Sl AW aA aD r s g.AE∧Sl Bj aA aD t u g.AK∧Sl Ax aA aD aB aC z.1∧Sl (Bx (Al .i64)) aA aD x y c.1) (zf Z w [some aG,some b1])) aI ?pV ?pW
             case pV=>
              intro st;have ⟨bJ,bK,bL,bM,bN,bO⟩:=CA bC bD bE bF bG bH (mt (Ac aJ) (Ac aN));have a0:=(((((((((((bA.mv (Ac cI)).mv (Ac b9)).mv (Ac cJ)).mv (Ay bU)).mv (cK.By aW.gr 0 rfl)).mv (Ac aX)).mv (Ac aS)).mv (Ac aY)).mv (Ac aZ)).mv (Ac aJ)).mv (Ac aN));have a2:=((bB.mv (Ac aJ)).mv (Ac aN));exact⟨(0:Int),eD,qo st,sp st 2 e7,sp st 3 rfl,sp st 7 rfl,sp st 9 rfl,sp st 11 rfl,sp st 12 rfl,sp st 14 rfl,sp st 15 rfl,sp st 18 rfl,eC,a9,aV,bJ,bK,bL,bM,bN,bO,a0,a2⟩
             case pW=>
              rintro(_|d0) sP sQ ⟨aP,eD,nU,iU,fO,fP,iV,g8,eF,g9,hA,c7,m0,eG,fQ,cL,cM,cN,cO,cP,cQ,dC,bX⟩
              ·exact absurd (show none=some _ from eD) (by simp)
              rw[ER.eq_2] at eD;have a:=eD;clear eD;refine ro nU<|Af<|cr<|wM (v:=I aP) c7<|wM (v:=.slice aB z.1.length aC) fP<|wD (fun st=>Bn Tryz.underlying55 (eR st))<|wD (fun st=>B8 (eR st) (eR st))<|wn ?_;rcases Ae (decide (aP<(z.1.length:Int))) with fR|fR
              ·replace a:=Am a fR;refine Ah rfl fR<|cn<|Af<|AI<|Af ?_;replace a:=Bi a;obtain⟨i52,eV,pX,pY,pZ,a⟩:=a;obtain⟨r6,r7,_,p0,rfl,p1⟩:=Sl.elem dC (by decide) pY;replace a:=bind_some a;obtain⟨kY,p2,a⟩:=a;replace a:=bind_some a;obtain⟨fS,p3,a⟩:=a;refine BW 9 [Kc (.slice aB z.1.length aC),Kc (I aP),Kc (pt r6 (r7+i52*2)),Kc (.agg #[I eV.Lo,I eV.Hi]),Kc (.agg (Ar i j e f m o p q r s t u g).toArray),Kc (.slice x c.1.length y),Kc (I aP),Kc (.agg #[I kY.Lo,I kY.Hi]),Kc (.agg #[I fS.Lo,I fS.Hi])] mixed rfl rfl
                   (Aa (oD (fun K=>AA (es ((K.out 7 rfl).trans fP))))
                   (Aa (oD (fun K=>AA (es ((K.out 18 rfl).trans c7))))
                   (Aa (oD (fun K=>BC (k:=i52) Tryz.underlying55 GO (es (K.dq 0 115)) p0 (es (K.dq 1 116)) pX pZ))
                   (Aa (oD (fun K=>Cv (l:=[I eV.Lo,I eV.Hi]) EC (es (K.dq 2 117)) (p1.mv (Ac K.AV)) rfl rfl))
                   (Aa (oD (fun K=>AO (l:=(Ar i j e f m o p q r s t u g)) DL (es ((K.out 3 rfl).trans fO)) (eG.ext K.AV) rfl rfl))
                   (Aa (oD (fun K=>AA (es ((K.out 12 rfl).trans eF))))
                   (Aa (oD (fun K=>AA (es ((K.out 18 rfl).trans c7))))
                   (Aa (oE (fun K=>(Ak Pp rfl (DX (es (K.dq 4 119)) (es (K.dq 5 120)) (es (K.dq 6 121))) (Xb aI g c.1 aP i j e f m o p q r s t u x y ZA _ (cL.mv (Ac K.AV)).all (cM.mv (Ac K.AV)).all (cN.mv (Ac K.AV)).all (cO.mv (Ac K.AV)).all (cP.mv (Ac K.AV)).all (cQ.mv (Ac K.AV)).all (bX.mv (Ac K.AV)).all kY p2)).mono (fun _ _ h=>⟨(by obtain⟨_,rfl,rfl⟩:=h.2;rfl),h.1⟩)))
                   (Aa (oE (fun K=>(Ak K9 rfl (Cd (es (K.dq 7 122))) (Qn aI kY ZA _ fS p3)).mono (fun _ _ h=>⟨(by obtain⟨_,rfl,rfl⟩:=h.2;rfl),h.1⟩)))
                   (BR _)))))))))) ?_
               intro tR;rintro _ rfl _ rfl _ rfl _ rfl _ rfl _ rfl _ rfl _ rfl _ rfl hV;have m1:=m0.ext hV;refine wD (fun st=>LY (x1:=[eV.Lo,eV.Hi]) (x2:=[fS.Lo,fS.Hi]) Ja I9 (eR st) (eR st) rfl rfl rfl rfl)<|wn ?_;rcases Ae ([eV.Lo,eV.Hi] !=[fS.Lo,fS.Hi]) with fT|fT
               ·replace a:=Am a fT;refine Ah rfl fT<|cr<|wA (v:=.bool false) rfl<|wn<|Ap<|CO<|AG ?_;obtain rfl:=oi a;refine BG (fun st=>?_);exact .inl ⟨rfl,false,rfl,qo st,sp st 6 rfl,m1⟩
               ·replace a:=An a fT;refine Ao rfl fT<|Ce<|CG<|Ai<|wM (v:=I aP) c7 ?_;replace a:=AJ a;obtain⟨p4,a⟩:=a;refine wD (fun st=>BK (eR st) (eR st) p4)<|wA (v:=I (aP+1)) rfl<|Bc ?_;have m2:=(eG.ext hV);have mA:=(fQ.ext hV);have ⟨jJ,jK,jL,jM,jN,jO,hW,hX⟩:=EZ cL cM cN cO cP cQ dC bX (Ac hV);refine Br d0 (Nat.lt_succ_self _) (fun st=>?_);exact⟨(aP+1),a,qo st,sp st 2 iU,sp st 3 fO,sp st 7 fP,sp st 9 iV,sp st 11 g8,sp st 12 eF,sp st 14 g9,sp st 15 hA,sp st 18 rfl,m1,m2,mA,jJ,jK,jL,jM,jN,jO,hW,hX⟩
              ·replace a:=An a fR;refine Ao rfl fR<|DA ?_;obtain rfl:=oi a;refine BG (fun st=>?_);exact .inr ⟨rfl,(),rfl,qo st,sp st 2 iU,sp st 3 fO,sp st 9 iV,sp st 11 g8,sp st 12 eF,sp st 14 g9,sp st 15 hA,m0,eG,fQ,cL,cM,cN,cO,cP,cQ,bX⟩
            case pU=>
             rintro dZ sJ sR (⟨rfl,eE,rfl,fU,mB,hY⟩|⟨rfl,eE,rfl,fU,rR,rS,rT,p5,p6,jP,p7,hY,rU,p8,o4,o5,o6,o7,o8,o9,nM⟩)
             ·skip
              replace a:=CM a;refine lf fU<|CO ?_;have aK:=oi a;refine Au rfl mB ?_;exact⟨hY.AZ,congrArg Value.bool aK⟩
             ·skip
              replace a:=CN a;refine lf fU<|Be<|BM<|Af<|cr<|wM (v:=I 2) jP<|wD (fun st=>Cx (eR st) (eR st))<|wn<|Ah rfl aO<|Af<|Ai ?_;replace a:=B9 a;obtain⟨p9,a⟩:=a;refine wE (fun st=>Ak G3 (eR st) F6 (a37 aI ZA _ p9)) ?_;rintro _ tS ⟨qA,rfl⟩;have qB:=hY.ext qA;refine wA (v:=.bool true) rfl<|wn<|Ap<|AG ?_;have aK:=oi a;refine Au rfl rfl ?_;exact⟨qB.AZ,congrArg Value.bool aK⟩
       ·replace a:=An a aO;refine wF aO<|wF aO<|wF aO<|wF aO<|E9 rfl rfl rfl rfl (by decide)<|wF aO<|wG bV (fun st=>Bg (v:=.bool false) (eR st) aO (eR st))<|wD (fun st=>Bg (v:=.bool false) (eR st) bV (eR st))<|wM (v:=.bool false) rfl<|Gv rfl rfl rfl rfl (by decide) (fun st=>AA (v:=I c.2) (eR st))<|Gv rfl rfl rfl rfl (by decide) (fun st=>Cx (eR st) (eR st))<|Gv rfl rfl rfl rfl (by decide) (fun st=>AA (v:=.bool (c.2 !=0)) (eR st)) ?_;rcases Ae (c.2 !=0) with a5|a5
        ·replace a:=Am a a5;refine wN a5 (v:=.slice aB z.1.length aC) rfl<|wG a5 (fun st=>Bn Tryz.underlying55 (eR st))<|wG a5 (fun st=>Cx (eR st) (eR st))<|Gv rfl rfl rfl rfl (by decide) (fun st=>AR (v:=.bool ((z.1.length:Int) !=0)) (eR st) a5 (eR st))<|wD (fun st=>Bg (v:=.bool ((z.1.length:Int) !=0)) (eR st) rfl (eR st))<|wn ?_;rcases Ae ((z.1.length:Int) !=0) with hZ|hZ
         ·replace a:=Am a hZ;exact absurd (oi a) (by decide)
         ·replace a:=An a hZ;refine Ao rfl hZ<|cn<|Af<|cr<|wM (v:=I c.2) rfl<|wD (fun st=>Cx (eR st) (eR st))<|wn<|Ah rfl a5<|Af<|Ai ?_;replace a:=B9 a;obtain⟨qC,a⟩:=a;refine wE (fun st=>Ak G3 (eR st) F6 (a37 aI ZA _ qC)) ?_;rintro _ tT ⟨qD,rfl⟩;have qE:=eC.ext qD;refine wA (v:=.bool true) rfl<|wn<|Ap<|AG ?_;have aK:=oi a;refine Au rfl rfl ?_;exact⟨qE.AZ,congrArg Value.bool aK⟩
        ·replace a:=An a a5;refine wF a5<|wF a5<|wF a5<|Gv rfl rfl rfl rfl (by decide) (fun st=>Bg (v:=.bool false) (eR st) a5 (eR st))<|wD (fun st=>Bg (v:=.bool false) (eR st) rfl (eR st))<|wn<|Ao rfl rfl<|cn<|Af<|cr<|wM (v:=I c.2) rfl<|wD (fun st=>Cx (eR st) (eR st))<|wn<|Ao rfl a5<|cn<|Af<|cr<|wM (v:=.slice aB z.1.length aC) rfl<|wD (fun st=>Bn Tryz.underlying55 (eR st))<|wD (fun st=>Ad (eR st) (GJ _ _))<|wD (fun st=>Ad (eR st) (EO _ _)) ?_;have a9:=(bI.ext aN);refine wD (fun st=>Ag (v:=.slice e g.Ab.length f) DK (eR st) a9 rfl)<|wD (fun st=>Bn Tryz.underlying23 (eR st))<|wD (fun st=>Cx (eR st) (eR st))<|wn ?_;rcases Ae ((z.1.length:Int) !=(g.Ab.length:Int)) with h3|h3
         ·replace a:=Am a h3;exact absurd (oi a) (by decide)
         ·replace a:=An a h3;refine Ao rfl h3<|cn<|Af<|cr<|wA (v:=I 0) rfl<|wn<|AI ?_;replace a:=bind_some a;obtain⟨m3,eH,a⟩:=a;refine BQ (fun dZ d aA=>(dZ=.ret∧∃eI,m3=.inl eI∧Fo X0 147 d∧sl d 6=.bool eI∧Hp FN [] w [some aG,some b1] aA)∨(dZ=.exit 0∧∃eI,m3=.inr eI∧Fo X0 147 d∧sl d 2=I a3∧sl d 3=pt b1 0∧sl d 9=pt aG 0∧sl d 11=.bool aF∧sl d 12=.slice x c.1.length y∧sl d 14=I 2∧sl d 15=I aM.1∧Hp FN [] w [some aG,some b1] aA∧Bk aA b1 67 (Ar i j e f m o p q r s t u g).toArray∧Bk aA aG 60 #[I b.1.Lo,I b.1.Hi]∧(fun aD=>Sl Ax aA aD i j g.Aj∧Sl (Bx (Al .i64)) aA aD e f g.Ab∧Sl AF aA aD m o g.Aq∧Sl AT aA aD p q g.AB∧Sl AW aA aD r s g.AE∧Sl Bj aA aD t u g.AK∧Sl (Bx (Al .i64)) aA aD x y c.1) (zf Z w [some aG,some b1]))) ?qF ?qG
          case qF=>
           clear a;refine BP (fun d0 d aA=>∃aQ,FH aI g z c d0 aQ=some m3∧Fo X0 147 d∧sl d 2=I a3∧sl d 3=pt b1 0∧sl d 7=.slice aB z.1.length aC∧sl d 9=pt aG 0∧sl d 11=.bool aF∧sl d 12=.slice x c.1.length y∧sl d 14=I 2∧sl d 15=I aM.1∧sl d 18=I aQ∧Hp FN [] w [some aG,some b1] aA∧Bk aA b1 67 (Ar i j e f m o p q r s t u g).toArray∧Bk aA aG 60 #[I b.1.Lo,I b.1.Hi]∧(fun aD=>Sl Ax aA aD i j g.Aj∧Sl (Bx (Al .i64)) aA aD e f g.Ab∧Sl AF aA aD m o g.Aq∧Sl AT aA aD p q g.AB∧Sl AW aA aD r s g.AE∧Sl Bj aA aD t u g.AK∧Sl Ax aA aD aB aC z.1∧Sl (Bx (Al .i64)) aA aD x y c.1) (zf Z w [some aG,some b1])) aI ?qH ?qI
           case qH=>
            intro st;have aV:=((((((aW.bk.ext aX).ext aS).ext aY).ext aZ).ext aJ).ext aN);have ⟨bJ,bK,bL,bM,bN,bO⟩:=CA bC bD bE bF bG bH (mt (Ac aJ) (Ac aN));have a0:=(((((((((((bA.mv (Ac cI)).mv (Ac b9)).mv (Ac cJ)).mv (Ay bU)).mv (cK.By aW.gr 0 rfl)).mv (Ac aX)).mv (Ac aS)).mv (Ac aY)).mv (Ac aZ)).mv (Ac aJ)).mv (Ac aN));have a2:=((bB.mv (Ac aJ)).mv (Ac aN));exact⟨(0:Int),eH,qo st,sp st 2 e7,sp st 3 rfl,sp st 7 rfl,sp st 9 rfl,sp st 11 rfl,sp st 12 rfl,sp st 14 rfl,sp st 15 rfl,sp st 18 rfl,eC,a9,aV,bJ,bK,bL,bM,bN,bO,a0,a2⟩
           case qI=>
            rintro(_|d0) sS sT ⟨aQ,eH,nV,iW,fV,fW,iX,hB,eJ,hC,hD,c8,m4,eK,fX,cR,cS,cT,cU,cV,cW,dD,bY⟩
            ·exact absurd (show none=some _ from eH) (by simp)
            rw[FH.eq_2] at eH;have a:=eH;clear eH;refine ro nV<|Af<|cr<|wM (v:=I aQ) c8<|wM (v:=.slice aB z.1.length aC) fW<|wD (fun st=>Bn Tryz.underlying55 (eR st))<|wD (fun st=>B8 (eR st) (eR st))<|wn ?_;rcases Ae (decide (aQ<(z.1.length:Int))) with fY|fY
            ·replace a:=Am a fY;refine Ah rfl fY<|cn<|Af<|AI<|Af ?_;replace a:=Bi a;obtain⟨i67,eW,qJ,qK,qL,a⟩:=a;obtain⟨r8,r9,_,qM,rfl,qN⟩:=Sl.elem dD (by decide) qK;replace a:=bind_some a;obtain⟨kZ,qO,a⟩:=a;replace a:=bind_some a;obtain⟨fZ,qP,a⟩:=a;refine BW 9 [Kc (.slice aB z.1.length aC),Kc (I aQ),Kc (pt r8 (r9+i67*2)),Kc (.agg #[I eW.Lo,I eW.Hi]),Kc (.agg (Ar i j e f m o p q r s t u g).toArray),Kc (.slice x c.1.length y),Kc (I aQ),Kc (.agg #[I kZ.Lo,I kZ.Hi]),Kc (.agg #[I fZ.Lo,I fZ.Hi])] mixed rfl rfl
                 (Aa (oD (fun K=>AA (es ((K.out 7 rfl).trans fW))))
                 (Aa (oD (fun K=>AA (es ((K.out 18 rfl).trans c8))))
                 (Aa (oD (fun K=>BC (k:=i67) Tryz.underlying55 GO (es (K.dq 0 115)) qM (es (K.dq 1 116)) qJ qL))
                 (Aa (oD (fun K=>Cv (l:=[I eW.Lo,I eW.Hi]) EC (es (K.dq 2 117)) (qN.mv (Ac K.AV)) rfl rfl))
                 (Aa (oD (fun K=>AO (l:=(Ar i j e f m o p q r s t u g)) DL (es ((K.out 3 rfl).trans fV)) (eK.ext K.AV) rfl rfl))
                 (Aa (oD (fun K=>AA (es ((K.out 12 rfl).trans eJ))))
                 (Aa (oD (fun K=>AA (es ((K.out 18 rfl).trans c8))))
                 (Aa (oE (fun K=>(Ak Pp rfl (DX (es (K.dq 4 119)) (es (K.dq 5 120)) (es (K.dq 6 121))) (Xb aI g c.1 aQ i j e f m o p q r s t u x y ZA _ (cR.mv (Ac K.AV)).all (cS.mv (Ac K.AV)).all (cT.mv (Ac K.AV)).all (cU.mv (Ac K.AV)).all (cV.mv (Ac K.AV)).all (cW.mv (Ac K.AV)).all (bY.mv (Ac K.AV)).all kZ qO)).mono (fun _ _ h=>⟨(by obtain⟨_,rfl,rfl⟩:=h.2;rfl),h.1⟩)))
                 (Aa (oE (fun K=>(Ak K9 rfl (Cd (es (K.dq 7 122))) (Qn aI kZ ZA _ fZ qP)).mono (fun _ _ h=>⟨(by obtain⟨_,rfl,rfl⟩:=h.2;rfl),h.1⟩)))
                 (BR _)))))))))) ?_
             intro tU;rintro _ rfl _ rfl _ rfl _ rfl _ rfl _ rfl _ rfl _ rfl _ rfl h4;have m5:=m4.ext h4;refine wD (fun st=>LY (x1:=[eW.Lo,eW.Hi]) (x2:=[fZ.Lo,fZ.Hi]) Ja I9 (eR st) (eR st) rfl rfl rfl rfl)<|wn ?_;rcases Ae ([eW.Lo,eW.Hi] !=[fZ.Lo,fZ.Hi]) with f0|f0
             ·replace a:=Am a f0;refine Ah rfl f0<|cr<|wA (v:=.bool false) rfl<|wn<|Ap<|CO<|AG ?_;obtain rfl:=oi a;refine BG (fun st=>?_);exact .inl ⟨rfl,false,rfl,qo st,sp st 6 rfl,m5⟩
             ·replace a:=An a f0;refine Ao rfl f0<|Ce<|CG<|Ai<|wM (v:=I aQ) c8 ?_;replace a:=AJ a;obtain⟨qQ,a⟩:=a;refine wD (fun st=>BK (eR st) (eR st) qQ)<|wA (v:=I (aQ+1)) rfl<|Bc ?_;have m6:=(eK.ext h4);have mC:=(fX.ext h4);have ⟨jQ,jR,jS,jT,jU,jV,h5,h6⟩:=EZ cR cS cT cU cV cW dD bY (Ac h4);refine Br d0 (Nat.lt_succ_self _) (fun st=>?_);exact⟨(aQ+1),a,qo st,sp st 2 iW,sp st 3 fV,sp st 7 fW,sp st 9 iX,sp st 11 hB,sp st 12 eJ,sp st 14 hC,sp st 15 hD,sp st 18 rfl,m5,m6,mC,jQ,jR,jS,jT,jU,jV,h5,h6⟩
            ·replace a:=An a fY;refine Ao rfl fY<|DA ?_;obtain rfl:=oi a;refine BG (fun st=>?_);exact .inr ⟨rfl,(),rfl,qo st,sp st 2 iW,sp st 3 fV,sp st 9 iX,sp st 11 hB,sp st 12 eJ,sp st 14 hC,sp st 15 hD,m4,eK,fX,cR,cS,cT,cU,cV,cW,bY⟩
          case qG=>
           rintro dZ sK sU (⟨rfl,eI,rfl,f1,mD,h7⟩|⟨rfl,eI,rfl,f1,mE,mF,mG,jW,jX,jY,jZ,h7,mH,j0,iY,iZ,i0,i1,i2,i3,gM⟩)
           ·skip
            replace a:=CM a;refine lf f1<|CO ?_;have aK:=oi a;refine Au rfl mD ?_;exact⟨h7.AZ,congrArg Value.bool aK⟩
           ·skip
            replace a:=CN a;refine lf f1<|Be<|BM<|Af<|cr<|wM (v:=I 2) jY<|wD (fun st=>Cx (eR st) (eR st))<|wn<|Ao rfl aO<|cn<|cr<|wD (fun st=>AO (l:=(Ar i j e f m o p q r s t u g)) DL (ee st mF) mH rfl rfl)<|wM (v:=.slice x c.1.length y) jX<|wM (v:=I aM.1) jZ ?_;replace a:=bind_some a;obtain⟨bP,qR,a⟩:=a;refine wE (fun st=>Ak R1 (eR st) (DX (eR st) (eR st) (eR st)) (a68 aI g c.1 aM.1 i j e f m o p q r s t u x y ZA _ iY.all iZ.all i0.all i1.all i2.all i3.all gM.all bP qR)) ?_;rintro _ tV ⟨m7,⟨_,rfl,rfl⟩⟩;have m8:=h7.ext m7;refine wE (fun st=>BZ (cs:= #[I 0,I 0]) I6 rfl) ?_;rintro _ tW ⟨sB,rfl,h8⟩;have m9:=m8.nb h8;have sC:=m8.BH h8;refine BD rfl rfl (fun st=>Bt (n:=2) (l:=[I bP.Lo,I bP.Hi]) (Cm:= #[I bP.Lo,I bP.Hi]) (eR st) (eR st) Ie h8.bk rfl rfl (show 0+2≤2 by decide) (AY rfl) rfl) ?_;rintro _ tX h9;have qS:=m9.gr h9.gr 0 rfl;refine wn<|Af ?_;have mI:=(((j0.ext m7).ext h8.gr).gr h9.gr (m9.nq 1 0));replace a:=bind_some a;obtain⟨cX,qT,a⟩:=a;rcases Ae ([b.1.Lo,b.1.Hi]==[cX.Lo,cX.Hi]) with bZ|bZ
            ·replace a:=Am a bZ;refine BW 10 [Kc (.agg #[I b.1.Lo,I b.1.Hi]),Kc (.agg #[I bP.Lo,I bP.Hi]),Kc (.agg #[I cX.Lo,I cX.Hi]),Kc (.bool ([b.1.Lo,b.1.Hi]==[cX.Lo,cX.Hi])),Kc (.bool ([b.1.Lo,b.1.Hi]==[cX.Lo,cX.Hi])),Kc (.bool aF),Kc (pt sB 0),Kc (I bP.Lo),Kc (I a3),Kc (.bool (decide (a3≤bP.Lo)))] mixed rfl rfl
                 (Aa (oD (fun K=>AO (l:=[I b.1.Lo,I b.1.Hi]) EC (es ((K.out 9 rfl).trans mG)) (mI.ext K.AV) rfl rfl))
                 (Aa (oD (fun K=>AO (l:=[I bP.Lo,I bP.Hi]) FW (K.kO 19) (h9.bk.ext K.AV) rfl rfl))
                 (Aa (oE (fun K=>(Ak K9 rfl (Cd (es (K.dq 1 133))) (Qn aI bP ZA _ cX qT)).mono (fun _ _ h=>⟨(by obtain⟨_,rfl,rfl⟩:=h.2;rfl),h.1⟩)))
                 (Aa (oD (fun K=>NO (x1:=[b.1.Lo,b.1.Hi]) (x2:=[cX.Lo,cX.Hi]) Ja I9 (es (K.dq 0 132)) (es (K.dq 2 134)) rfl rfl rfl rfl))
                 (Aa (oD (fun K=>AA (es (K.dq 3 135))))
                 (Aa (oG bZ (fun K=>AA (es ((K.out 11 rfl).trans jW))))
                 (Aa (oG bZ (fun K=>Ad (K.kO 19) (I5 _ _)))
                 (Aa (oG bZ (fun K=>Ag Bq (es (K.dq 6 138)) (h9.bk.ext K.AV) rfl))
                 (Aa (oG bZ (fun K=>AA (es ((K.out 2 rfl).trans mE))))
                 (Aa (oG bZ (fun K=>HT (es (K.dq 7 139)) (es (K.dq 8 140))))
                 (BR _))))))))))) ?_
             intro tY;rintro _ rfl _ rfl _ rfl _ rfl _ rfl _ rfl _ rfl _ rfl _ rfl _ rfl qU;have qV:=qS.ext qU;refine wG bZ (fun st=>T8 NY (eR st) (eR st))<|wD (fun st=>AR (v:=.bool (aF==(decide (a3≤bP.Lo)))) (eR st) bZ (eR st))<|wM (v:=.bool (aF==(decide (a3≤bP.Lo)))) rfl ?_;rcases Ae (aF==(decide (a3≤bP.Lo))) with f2|f2
             ·replace a:=Am a f2;replace a:=B9 a;obtain⟨qW,a⟩:=a;refine wX f2 (fun st=>Ak G3 (eR st) F6 (a37 aI ZA _ qW)) ?_;rintro _ tZ ⟨qX,rfl⟩;have qY:=qV.ext qX;refine wD (fun st=>AR (v:=.bool true) (eR st) f2 (eR st))<|wA (v:=.bool true) rfl<|wn<|Ap ?_;have aK:=oi a;refine Au rfl rfl ?_;exact⟨qY.AZ,congrArg Value.bool aK⟩
             ·replace a:=An a f2;exact absurd (oi a) (by decide)
            ·replace a:=An a bZ;exact absurd (oi a) (by decide)
    ·replace a:=An a dX;have rV:aM.2=true:=by simpa using dX
     refine Ao rfl dX<|cn<|Af<|cr<|wM (v:=I z.2) rfl<|wM (v:=I c.2) rfl<|wD (fun st=>Cx (eR st) (eR st))<|wM (v:=.bool (z.2 !=c.2)) rfl ?_;rcases Ae (z.2 !=c.2) with d1|d1
     ·replace a:=Am a d1;exact absurd (oi a) (by decide)
     ·replace a:=An a d1;refine wN d1 (v:=I b.2) rfl<|wN d1 (v:=I c.2) rfl<|wG d1 (fun st=>Cx (eR st) (eR st))<|wD (fun st=>Bg (v:=.bool (b.2 !=c.2)) (eR st) d1 (eR st))<|wM (v:=.bool (b.2 !=c.2)) rfl ?_;rcases Ae (b.2 !=c.2) with b4|b4
      ·replace a:=Am a b4;exact absurd (oi a) (by decide)
      ·replace a:=An a b4;refine wN b4 (v:=I c.2) rfl<|wG b4 (fun st=>Cx (eR st) (eR st))<|wG b4 (fun st=>AA (v:=.bool (c.2 !=0)) (eR st)) ?_;rcases Ae (c.2 !=0) with aH|aH
       ·replace a:=Am a aH;have aV:=((((((aW.bk.ext aX).ext aS).ext aY).ext aZ).ext aJ).ext aN);refine wG aH (fun st=>AO (l:=[I b.1.Lo,I b.1.Hi]) EC (eR st) aV rfl rfl)<|wG aH (fun st=>Dz (vs:= #[]) (v:=.agg #[I 0,I 0]) QN (by kernel_rfl))<|wG aH (fun st=>LY (x1:=[b.1.Lo,b.1.Hi]) (x2:=[0,0]) Ja I9 (eR st) (eR st) rfl rfl rfl rfl)<|wG aH (fun st=>AA (v:=.bool ([b.1.Lo,b.1.Hi] !=[0,0])) (eR st)) ?_;rcases Ae ([b.1.Lo,b.1.Hi] !=[0,0]) with f3|f3
        ·replace a:=Am a f3;exact absurd (oi a) (by decide)
        ·replace a:=An a f3;refine wN f3 (v:=.bool aF) rfl<|wG aH (fun st=>Bg (v:=.bool aF) (eR st) f3 (eR st))<|wG b4 (fun st=>AR (v:=.bool aF) (eR st) aH (eR st))<|wD (fun st=>Bg (v:=.bool aF) (eR st) b4 (eR st))<|wM (v:=.bool aF) rfl ?_;rcases Ae (aF) with cY|cY
         ·replace a:=Am a cY;exact absurd (oi a) (by decide)
         ·replace a:=An a cY;refine wN cY (v:=I c.2) rfl<|wG cY (fun st=>Cx (eR st) (eR st))<|wN cY (v:=.bool (c.2 !=0)) rfl<|wN aH (v:=.slice aB z.1.length aC) rfl<|wG aH (fun st=>Bn Tryz.underlying55 (eR st))<|wG aH (fun st=>Cx (eR st) (eR st))<|wG cY (fun st=>AR (v:=.bool ((z.1.length:Int) !=0)) (eR st) aH (eR st))<|wD (fun st=>Bg (v:=.bool ((z.1.length:Int) !=0)) (eR st) cY (eR st))<|wn ?_;rcases Ae ((z.1.length:Int) !=0) with iA|iA
          ·replace a:=Am a iA;exact absurd (oi a) (by decide)
          ·replace a:=An a iA;refine Ao rfl iA<|cn<|Af<|cr<|wM (v:=I c.2) rfl<|wD (fun st=>Cx (eR st) (eR st))<|wn<|Ah rfl aH<|Af<|Ai ?_;replace a:=B9 a;obtain⟨qZ,a⟩:=a;refine wE (fun st=>Ak G3 (eR st) F6 (a37 aI ZA _ qZ)) ?_;rintro _ t0 ⟨q0,rfl⟩;have q2:=eC.ext q0;refine wA (v:=.bool true) rfl<|wn<|Ap<|AG ?_;have aK:=oi a;refine Au rfl rfl ?_;exact⟨q2.AZ,congrArg Value.bool aK⟩
       ·replace a:=An a aH;refine wF aH<|wF aH<|wF aH<|wF aH<|E9 rfl rfl rfl rfl (by decide)<|wF aH<|wG b4 (fun st=>Bg (v:=.bool false) (eR st) aH (eR st))<|wD (fun st=>Bg (v:=.bool false) (eR st) b4 (eR st))<|wM (v:=.bool false) rfl<|Gv rfl rfl rfl rfl (by decide) (fun st=>AA (v:=I c.2) (eR st))<|Gv rfl rfl rfl rfl (by decide) (fun st=>Cx (eR st) (eR st))<|Gv rfl rfl rfl rfl (by decide) (fun st=>AA (v:=.bool (c.2 !=0)) (eR st))<|wF aH<|wF aH<|wF aH<|Gv rfl rfl rfl rfl (by decide) (fun st=>Bg (v:=.bool false) (eR st) aH (eR st))<|wD (fun st=>Bg (v:=.bool false) (eR st) rfl (eR st))<|wn<|Ao rfl rfl<|cn<|Af<|cr<|wM (v:=I c.2) rfl<|wD (fun st=>Cx (eR st) (eR st))<|wn<|Ao rfl aH<|cn<|Af<|cr<|wM (v:=.slice aB z.1.length aC) rfl<|wD (fun st=>Bn Tryz.underlying55 (eR st))<|wD (fun st=>Ad (eR st) (GJ _ _))<|wD (fun st=>Ad (eR st) (EO _ _)) ?_;have a9:=(bI.ext aN);refine wD (fun st=>Ag (v:=.slice e g.Ab.length f) DK (eR st) a9 rfl)<|wD (fun st=>Bn Tryz.underlying23 (eR st))<|wD (fun st=>Cx (eR st) (eR st))<|wn ?_;rcases Ae ((z.1.length:Int) !=(g.Ab.length:Int)) with iB|iB
        ·replace a:=Am a iB;exact absurd (oi a) (by decide)
        ·replace a:=An a iB;refine Ao rfl iB<|cn<|Af<|cr<|wA (v:=I 0) rfl<|wn<|AI ?_;replace a:=bind_some a;obtain⟨nA,eM,a⟩:=a;refine BQ (fun dZ d aA=>(dZ=.ret∧∃eN,nA=.inl eN∧Fo X0 147 d∧sl d 6=.bool eN∧Hp FN [] w [some aG,some b1] aA)∨(dZ=.exit 0∧∃eN,nA=.inr eN∧Fo X0 147 d∧sl d 2=I a3∧sl d 3=pt b1 0∧sl d 9=pt aG 0∧sl d 11=.bool aF∧sl d 12=.slice x c.1.length y∧sl d 14=I c.2∧sl d 15=I aM.1∧Hp FN [] w [some aG,some b1] aA∧Bk aA b1 67 (Ar i j e f m o p q r s t u g).toArray∧Bk aA aG 60 #[I b.1.Lo,I b.1.Hi]∧(fun aD=>Sl Ax aA aD i j g.Aj∧Sl (Bx (Al .i64)) aA aD e f g.Ab∧Sl AF aA aD m o g.Aq∧Sl AT aA aD p q g.AB∧Sl AW aA aD r s g.AE∧Sl Bj aA aD t u g.AK∧Sl (Bx (Al .i64)) aA aD x y c.1) (zf Z w [some aG,some b1]))) ?q3 ?q4
         case q3=>
          clear a;refine BP (fun d0 d aA=>∃aR,ES aI g z c d0 aR=some nA∧Fo X0 147 d∧sl d 2=I a3∧sl d 3=pt b1 0∧sl d 7=.slice aB z.1.length aC∧sl d 9=pt aG 0∧sl d 11=.bool aF∧sl d 12=.slice x c.1.length y∧sl d 14=I c.2∧sl d 15=I aM.1∧sl d 18=I aR∧Hp FN [] w [some aG,some b1] aA∧Bk aA b1 67 (Ar i j e f m o p q r s t u g).toArray∧Bk aA aG 60 #[I b.1.Lo,I b.1.Hi]∧(fun aD=>Sl Ax aA aD i j g.Aj∧Sl (Bx (Al .i64)) aA aD e f g.Ab∧Sl AF aA aD m o g.Aq∧Sl AT aA aD p q g.AB∧Sl AW aA aD r s g.AE∧Sl Bj aA aD t u g.AK∧Sl Ax aA aD aB aC z.1∧Sl (Bx (Al .i64)) aA aD x y c.1) (zf Z w [some aG,some b1])) aI ?q5 ?q6
          case q5=>
           intro st;have aV:=((((((aW.bk.ext aX).ext aS).ext aY).ext aZ).ext aJ).ext aN);have ⟨bJ,bK,bL,bM,bN,bO⟩:=CA bC bD bE bF bG bH (mt (Ac aJ) (Ac aN));have a0:=(((((((((((bA.mv (Ac cI)).mv (Ac b9)).mv (Ac cJ)).mv (Ay bU)).mv (cK.By aW.gr 0 rfl)).mv (Ac aX)).mv (Ac aS)).mv (Ac aY)).mv (Ac aZ)).mv (Ac aJ)).mv (Ac aN));have a2:=((bB.mv (Ac aJ)).mv (Ac aN));exact⟨(0:Int),eM,qo st,sp st 2 e7,sp st 3 rfl,sp st 7 rfl,sp st 9 rfl,sp st 11 rfl,sp st 12 rfl,sp st 14 rfl,sp st 15 rfl,sp st 18 rfl,eC,a9,aV,bJ,bK,bL,bM,bN,bO,a0,a2⟩
          case q6=>
           rintro(_|d0) sV sW ⟨aR,eM,nW,i4,f4,f5,i5,hE,eO,hF,hG,c9,nB,eP,f6,cZ,c0,c1,c2,c3,c4,dE,b5⟩
           ·exact absurd (show none=some _ from eM) (by simp)
           rw[ES.eq_2] at eM;have a:=eM;clear eM;refine ro nW<|Af<|cr<|wM (v:=I aR) c9<|wM (v:=.slice aB z.1.length aC) f5<|wD (fun st=>Bn Tryz.underlying55 (eR st))<|wD (fun st=>B8 (eR st) (eR st))<|wn ?_;rcases Ae (decide (aR<(z.1.length:Int))) with f7|f7
           ·replace a:=Am a f7;refine Ah rfl f7<|cn<|Af<|AI<|Af ?_;replace a:=Bi a;obtain⟨i95,eX,q7,q8,q9,a⟩:=a;obtain⟨sD,sE,_,rA,rfl,rB⟩:=Sl.elem dE (by decide) q8;replace a:=bind_some a;obtain⟨k0,rC,a⟩:=a;replace a:=bind_some a;obtain⟨f8,rD,a⟩:=a;refine BW 9 [Kc (.slice aB z.1.length aC),Kc (I aR),Kc (pt sD (sE+i95*2)),Kc (.agg #[I eX.Lo,I eX.Hi]),Kc (.agg (Ar i j e f m o p q r s t u g).toArray),Kc (.slice x c.1.length y),Kc (I aR),Kc (.agg #[I k0.Lo,I k0.Hi]),Kc (.agg #[I f8.Lo,I f8.Hi])] mixed rfl rfl
                (Aa (oD (fun K=>AA (es ((K.out 7 rfl).trans f5))))
                (Aa (oD (fun K=>AA (es ((K.out 18 rfl).trans c9))))
                (Aa (oD (fun K=>BC (k:=i95) Tryz.underlying55 GO (es (K.dq 0 115)) rA (es (K.dq 1 116)) q7 q9))
                (Aa (oD (fun K=>Cv (l:=[I eX.Lo,I eX.Hi]) EC (es (K.dq 2 117)) (rB.mv (Ac K.AV)) rfl rfl))
                (Aa (oD (fun K=>AO (l:=(Ar i j e f m o p q r s t u g)) DL (es ((K.out 3 rfl).trans f4)) (eP.ext K.AV) rfl rfl))
                (Aa (oD (fun K=>AA (es ((K.out 12 rfl).trans eO))))
                (Aa (oD (fun K=>AA (es ((K.out 18 rfl).trans c9))))
                (Aa (oE (fun K=>(Ak Pp rfl (DX (es (K.dq 4 119)) (es (K.dq 5 120)) (es (K.dq 6 121))) (Xb aI g c.1 aR i j e f m o p q r s t u x y ZA _ (cZ.mv (Ac K.AV)).all (c0.mv (Ac K.AV)).all (c1.mv (Ac K.AV)).all (c2.mv (Ac K.AV)).all (c3.mv (Ac K.AV)).all (c4.mv (Ac K.AV)).all (b5.mv (Ac K.AV)).all k0 rC)).mono (fun _ _ h=>⟨(by obtain⟨_,rfl,rfl⟩:=h.2;rfl),h.1⟩)))
                (Aa (oE (fun K=>(Ak K9 rfl (Cd (es (K.dq 7 122))) (Qn aI k0 ZA _ f8 rD)).mono (fun _ _ h=>⟨(by obtain⟨_,rfl,rfl⟩:=h.2;rfl),h.1⟩)))
                (BR _)))))))))) ?_
            intro t1;rintro _ rfl _ rfl _ rfl _ rfl _ rfl _ rfl _ rfl _ rfl _ rfl iC;have nC:=nB.ext iC;refine wD (fun st=>LY (x1:=[eX.Lo,eX.Hi]) (x2:=[f8.Lo,f8.Hi]) Ja I9 (eR st) (eR st) rfl rfl rfl rfl)<|wn ?_;rcases Ae ([eX.Lo,eX.Hi] !=[f8.Lo,f8.Hi]) with f9|f9
            ·replace a:=Am a f9;refine Ah rfl f9<|cr<|wA (v:=.bool false) rfl<|wn<|Ap<|CO<|AG ?_;obtain rfl:=oi a;refine BG (fun st=>?_);exact .inl ⟨rfl,false,rfl,qo st,sp st 6 rfl,nC⟩
            ·replace a:=An a f9;refine Ao rfl f9<|Ce<|CG<|Ai<|wM (v:=I aR) c9 ?_;replace a:=AJ a;obtain⟨rE,a⟩:=a;refine wD (fun st=>BK (eR st) (eR st) rE)<|wA (v:=I (aR+1)) rfl<|Bc ?_;have nD:=(eP.ext iC);have mJ:=(f6.ext iC);have ⟨j1,j2,j3,j4,j5,j6,iD,iE⟩:=EZ cZ c0 c1 c2 c3 c4 dE b5 (Ac iC);refine Br d0 (Nat.lt_succ_self _) (fun st=>?_);exact⟨(aR+1),a,qo st,sp st 2 i4,sp st 3 f4,sp st 7 f5,sp st 9 i5,sp st 11 hE,sp st 12 eO,sp st 14 hF,sp st 15 hG,sp st 18 rfl,nC,nD,mJ,j1,j2,j3,j4,j5,j6,iD,iE⟩
           ·replace a:=An a f7;refine Ao rfl f7<|DA ?_;obtain rfl:=oi a;refine BG (fun st=>?_);exact .inr ⟨rfl,(),rfl,qo st,sp st 2 i4,sp st 3 f4,sp st 9 i5,sp st 11 hE,sp st 12 eO,sp st 14 hF,sp st 15 hG,nB,eP,f6,cZ,c0,c1,c2,c3,c4,b5⟩
         case q4=>
          rintro dZ sL sX (⟨rfl,eN,rfl,gA,mK,iF⟩|⟨rfl,eN,rfl,gA,mL,mM,mN,j7,j8,j9,kA,iF,mO,kB,i6,i7,i8,i9,jA,jB,gN⟩)
          ·skip
           replace a:=CM a;refine lf gA<|CO ?_;have aK:=oi a;refine Au rfl mK ?_;exact⟨iF.AZ,congrArg Value.bool aK⟩
          ·skip
           replace a:=CN a;refine lf gA<|Be<|BM<|Af<|cr<|wM (v:=I c.2) j9<|wD (fun st=>Cx (eR st) (eR st))<|wn<|Ao rfl aH<|cn<|cr<|wD (fun st=>AO (l:=(Ar i j e f m o p q r s t u g)) DL (ee st mM) mO rfl rfl)<|wM (v:=.slice x c.1.length y) j8<|wM (v:=I aM.1) kA ?_;replace a:=bind_some a;obtain⟨aT,nX,a⟩:=a;refine wE (fun st=>Ak R1 (eR st) (DX (eR st) (eR st) (eR st)) (a68 aI g c.1 aM.1 i j e f m o p q r s t u x y ZA _ i6.all i7.all i8.all i9.all jA.all jB.all gN.all aT nX)) ?_;rintro _ sY ⟨k1,⟨_,rfl,rfl⟩⟩;have nE:=iF.ext k1;refine wE (fun st=>BZ (cs:= #[I 0,I 0]) I6 rfl) ?_;rintro _ sZ ⟨rF,rfl,e0⟩;have nF:=nE.nb e0;have rW:=nE.BH e0;refine BD rfl rfl (fun st=>Bt (n:=2) (l:=[I aT.Lo,I aT.Hi]) (Cm:= #[I aT.Lo,I aT.Hi]) (eR st) (eR st) Ie e0.bk rfl rfl (show 0+2≤2 by decide) (AY rfl) rfl) ?_;rintro _ s0 e1;have rG:=nF.gr e1.gr 0 rfl;refine wn<|Af ?_;have mP:=(((kB.ext k1).ext e0.gr).gr e1.gr (nF.nq 1 0));replace a:=bind_some a;obtain⟨bQ,nY,a⟩:=a;rcases Ae ([b.1.Lo,b.1.Hi]==[bQ.Lo,bQ.Hi]) with a6|a6
           ·replace a:=Am a a6;refine BW 10 [Kc (.agg #[I b.1.Lo,I b.1.Hi]),Kc (.agg #[I aT.Lo,I aT.Hi]),Kc (.agg #[I bQ.Lo,I bQ.Hi]),Kc (.bool ([b.1.Lo,b.1.Hi]==[bQ.Lo,bQ.Hi])),Kc (.bool ([b.1.Lo,b.1.Hi]==[bQ.Lo,bQ.Hi])),Kc (.bool aF),Kc (pt rF 0),Kc (I aT.Lo),Kc (I a3),Kc (.bool (decide (a3≤aT.Lo)))] mixed rfl rfl
                (Aa (oD (fun K=>AO (l:=[I b.1.Lo,I b.1.Hi]) EC (es ((K.out 9 rfl).trans mN)) (mP.ext K.AV) rfl rfl))
                (Aa (oD (fun K=>AO (l:=[I aT.Lo,I aT.Hi]) FW (K.kO 19) (e1.bk.ext K.AV) rfl rfl))
                (Aa (oE (fun K=>(Ak K9 rfl (Cd (es (K.dq 1 133))) (Qn aI aT ZA _ bQ nY)).mono (fun _ _ h=>⟨(by obtain⟨_,rfl,rfl⟩:=h.2;rfl),h.1⟩)))
                (Aa (oD (fun K=>NO (x1:=[b.1.Lo,b.1.Hi]) (x2:=[bQ.Lo,bQ.Hi]) Ja I9 (es (K.dq 0 132)) (es (K.dq 2 134)) rfl rfl rfl rfl))
                (Aa (oD (fun K=>AA (es (K.dq 3 135))))
                (Aa (oG a6 (fun K=>AA (es ((K.out 11 rfl).trans j7))))
                (Aa (oG a6 (fun K=>Ad (K.kO 19) (I5 _ _)))
                (Aa (oG a6 (fun K=>Ag Bq (es (K.dq 6 138)) (e1.bk.ext K.AV) rfl))
                (Aa (oG a6 (fun K=>AA (es ((K.out 2 rfl).trans mL))))
                (Aa (oG a6 (fun K=>HT (es (K.dq 7 139)) (es (K.dq 8 140))))
                (BR _))))))))))) ?_
            intro s1;rintro _ rfl _ rfl _ rfl _ rfl _ rfl _ rfl _ rfl _ rfl _ rfl _ rfl nZ;have rH:=rG.ext nZ;refine wG a6 (fun st=>T8 NY (eR st) (eR st))<|wD (fun st=>AR (v:=.bool (aF==(decide (a3≤aT.Lo)))) (eR st) a6 (eR st))<|wM (v:=.bool (aF==(decide (a3≤aT.Lo)))) rfl ?_;rcases Ae (aF==(decide (a3≤aT.Lo))) with d5|d5
            ·replace a:=Am a d5;replace a:=B9 a;obtain⟨n0,a⟩:=a;refine wX d5 (fun st=>Ak G3 (eR st) F6 (a37 aI ZA _ n0)) ?_;rintro _ s2 ⟨n1,rfl⟩;have rI:=rH.ext n1;refine wD (fun st=>AR (v:=.bool true) (eR st) d5 (eR st))<|wA (v:=.bool true) rfl<|wn<|Ap ?_;have aK:=oi a;refine Au rfl rfl ?_;exact⟨rI.AZ,congrArg Value.bool aK⟩
            ·replace a:=An a d5;exact absurd (oi a) (by decide)
           ·replace a:=An a a6;exact absurd (oi a) (by decide)
   ·replace a:=An a fM;refine Ao rfl fM<|cn<|Af<|cr<|wM (v:=I z.2) rfl<|wM (v:=I c.2) rfl<|wD (fun st=>Cx (eR st) (eR st))<|wM (v:=.bool (z.2 !=c.2)) rfl ?_;rcases Ae (z.2 !=c.2) with cA|cA
    ·replace a:=Am a cA;exact absurd (oi a) (by decide)
    ·replace a:=An a cA;refine wN cA (v:=I b.2) rfl<|wN cA (v:=I c.2) rfl<|wG cA (fun st=>Cx (eR st) (eR st))<|wD (fun st=>Bg (v:=.bool (b.2 !=c.2)) (eR st) cA (eR st))<|wM (v:=.bool (b.2 !=c.2)) rfl ?_;rcases Ae (b.2 !=c.2) with a7|a7
     ·replace a:=Am a a7;exact absurd (oi a) (by decide)
     ·replace a:=An a a7;refine wN a7 (v:=I c.2) rfl<|wG a7 (fun st=>Cx (eR st) (eR st))<|wG a7 (fun st=>AA (v:=.bool (c.2 !=0)) (eR st)) ?_;rcases Ae (c.2 !=0) with aE|aE
      ·replace a:=Am a aE;have eQ:=(((((aW.bk.ext aX).ext aS).ext aY).ext aZ).ext aJ);refine wG aE (fun st=>AO (l:=[I b.1.Lo,I b.1.Hi]) EC (eR st) eQ rfl rfl)<|wG aE (fun st=>Dz (vs:= #[]) (v:=.agg #[I 0,I 0]) QN (by kernel_rfl))<|wG aE (fun st=>LY (x1:=[b.1.Lo,b.1.Hi]) (x2:=[0,0]) Ja I9 (eR st) (eR st) rfl rfl rfl rfl)<|wG aE (fun st=>AA (v:=.bool ([b.1.Lo,b.1.Hi] !=[0,0])) (eR st)) ?_;rcases Ae ([b.1.Lo,b.1.Hi] !=[0,0]) with d6|d6
       ·replace a:=Am a d6;exact absurd (oi a) (by decide)
       ·replace a:=An a d6;refine wN d6 (v:=.bool aF) rfl<|wG aE (fun st=>Bg (v:=.bool aF) (eR st) d6 (eR st))<|wG a7 (fun st=>AR (v:=.bool aF) (eR st) aE (eR st))<|wD (fun st=>Bg (v:=.bool aF) (eR st) a7 (eR st))<|wM (v:=.bool aF) rfl ?_;rcases Ae (aF) with bT|bT
        ·replace a:=Am a bT;exact absurd (oi a) (by decide)
        ·replace a:=An a bT;refine wN bT (v:=I c.2) rfl<|wG bT (fun st=>Cx (eR st) (eR st))<|wN bT (v:=.bool (c.2 !=0)) rfl<|wN aE (v:=.slice aB z.1.length aC) rfl<|wG aE (fun st=>Bn Tryz.underlying55 (eR st))<|wG aE (fun st=>Cx (eR st) (eR st))<|wG bT (fun st=>AR (v:=.bool ((z.1.length:Int) !=0)) (eR st) aE (eR st))<|wD (fun st=>Bg (v:=.bool ((z.1.length:Int) !=0)) (eR st) bT (eR st))<|wn ?_;rcases Ae ((z.1.length:Int) !=0) with e2|e2
         ·replace a:=Am a e2;exact absurd (oi a) (by decide)
         ·replace a:=An a e2;refine Ao rfl e2<|cn<|Af<|cr<|wM (v:=I c.2) rfl<|wD (fun st=>Cx (eR st) (eR st))<|wn<|Ah rfl aE<|Af<|Ai ?_;replace a:=B9 a;obtain⟨n2,a⟩:=a;refine wE (fun st=>Ak G3 (eR st) F6 (a37 aI ZA _ n2)) ?_;rintro _ s3 ⟨n3,rfl⟩;have rJ:=jH.ext n3;refine wA (v:=.bool true) rfl<|wn<|Ap<|AG ?_;have aK:=oi a;refine Au rfl rfl ?_;exact⟨rJ.AZ,congrArg Value.bool aK⟩
      ·replace a:=An a aE;refine wF aE<|wF aE<|wF aE<|wF aE<|E9 rfl rfl rfl rfl (by decide)<|wF aE<|wG a7 (fun st=>Bg (v:=.bool false) (eR st) aE (eR st))<|wD (fun st=>Bg (v:=.bool false) (eR st) a7 (eR st))<|wM (v:=.bool false) rfl<|Gv rfl rfl rfl rfl (by decide) (fun st=>AA (v:=I c.2) (eR st))<|Gv rfl rfl rfl rfl (by decide) (fun st=>Cx (eR st) (eR st))<|Gv rfl rfl rfl rfl (by decide) (fun st=>AA (v:=.bool (c.2 !=0)) (eR st))<|wF aE<|wF aE<|wF aE<|Gv rfl rfl rfl rfl (by decide) (fun st=>Bg (v:=.bool false) (eR st) aE (eR st))<|wD (fun st=>Bg (v:=.bool false) (eR st) rfl (eR st))<|wn<|Ao rfl rfl<|cn<|Af<|cr<|wM (v:=I c.2) rfl<|wD (fun st=>Cx (eR st) (eR st))<|wn<|Ao rfl aE<|cn<|Af<|cr<|wM (v:=.slice aB z.1.length aC) rfl<|wD (fun st=>Bn Tryz.underlying55 (eR st))<|wD (fun st=>Ad (eR st) (GJ _ _))<|wD (fun st=>Ad (eR st) (EO _ _)) ?_;have bI:=(fL.ext aJ);refine wD (fun st=>Ag (v:=.slice e g.Ab.length f) DK (eR st) bI rfl)<|wD (fun st=>Bn Tryz.underlying23 (eR st))<|wD (fun st=>Cx (eR st) (eR st))<|wn ?_;rcases Ae ((z.1.length:Int) !=(g.Ab.length:Int)) with e3|e3
       ·replace a:=Am a e3;exact absurd (oi a) (by decide)
       ·replace a:=An a e3;refine Ao rfl e3<|cn<|Af<|cr<|wA (v:=I 0) rfl<|wn<|AI ?_;replace a:=bind_some a;obtain⟨z119,dA,a⟩:=a;refine BQ (fun dZ d aA=>(dZ=.ret∧∃dB,z119=.inl dB∧Fo X0 147 d∧sl d 6=.bool dB∧Hp FN [] w [some aG,some b1] aA)∨(dZ=.exit 0∧∃dB,z119=.inr dB∧Fo X0 147 d∧sl d 2=I a3∧sl d 3=pt b1 0∧sl d 9=pt aG 0∧sl d 11=.bool aF∧sl d 12=.slice x c.1.length y∧sl d 14=I c.2∧sl d 15=I 0∧Hp FN [] w [some aG,some b1] aA∧Bk aA b1 67 (Ar i j e f m o p q r s t u g).toArray∧Bk aA aG 60 #[I b.1.Lo,I b.1.Hi]∧(fun aD=>Sl Ax aA aD i j g.Aj∧Sl (Bx (Al .i64)) aA aD e f g.Ab∧Sl AF aA aD m o g.Aq∧Sl AT aA aD p q g.AB∧Sl AW aA aD r s g.AE∧Sl Bj aA aD t u g.AK∧Sl (Bx (Al .i64)) aA aD x y c.1) (zf Z w [some aG,some b1]))) ?n4 ?n5
        case n4=>
         clear a;refine BP (fun d0 d aA=>∃aL,FA aI g z c d0 aL=some z119∧Fo X0 147 d∧sl d 2=I a3∧sl d 3=pt b1 0∧sl d 7=.slice aB z.1.length aC∧sl d 9=pt aG 0∧sl d 11=.bool aF∧sl d 12=.slice x c.1.length y∧sl d 14=I c.2∧sl d 15=I 0∧sl d 18=I aL∧Hp FN [] w [some aG,some b1] aA∧Bk aA b1 67 (Ar i j e f m o p q r s t u g).toArray∧Bk aA aG 60 #[I b.1.Lo,I b.1.Hi]∧(fun aD=>Sl Ax aA aD i j g.Aj∧Sl (Bx (Al .i64)) aA aD e f g.Ab∧Sl AF aA aD m o g.Aq∧Sl AT aA aD p q g.AB∧Sl AW aA aD r s g.AE∧Sl Bj aA aD t u g.AK∧Sl Ax aA aD aB aC z.1∧Sl (Bx (Al .i64)) aA aD x y c.1) (zf Z w [some aG,some b1])) aI ?n6 ?n7
         case n6=>
          intro st;have eQ:=(((((aW.bk.ext aX).ext aS).ext aY).ext aZ).ext aJ);have ⟨kC,kD,kE,kF,kG,kH⟩:=CA bC bD bE bF bG bH (Ac aJ);have iG:=((((((((((bA.mv (Ac cI)).mv (Ac b9)).mv (Ac cJ)).mv (Ay bU)).mv (cK.By aW.gr 0 rfl)).mv (Ac aX)).mv (Ac aS)).mv (Ac aY)).mv (Ac aZ)).mv (Ac aJ));have iH:=(bB.mv (Ac aJ));exact⟨(0:Int),dA,qo st,sp st 2 e7,sp st 3 rfl,sp st 7 rfl,sp st 9 rfl,sp st 11 rfl,sp st 12 rfl,sp st 14 rfl,sp st 15 rfl,sp st 18 rfl,jH,bI,eQ,kC,kD,kE,kF,kG,kH,iG,iH⟩
         case n7=>
          rintro(_|d0) sM sN ⟨aL,dA,nG,hH,eS,eT,hI,gB,d2,gC,gD,cB,nH,d3,eY,cC,cD,cE,cF,cG,cH,c5,bR⟩
          ·exact absurd (show none=some _ from dA) (by simp)
          rw[FA.eq_2] at dA;have a:=dA;clear dA;refine ro nG<|Af<|cr<|wM (v:=I aL) cB<|wM (v:=.slice aB z.1.length aC) eT<|wD (fun st=>Bn Tryz.underlying55 (eR st))<|wD (fun st=>B8 (eR st) (eR st))<|wn ?_;rcases Ae (decide (aL<(z.1.length:Int))) with d7|d7
          ·replace a:=Am a d7;refine Ah rfl d7<|cn<|Af<|AI<|Af ?_;replace a:=Bi a;obtain⟨i122,c6,n8,n9,oA,a⟩:=a;obtain⟨rK,rL,_,oB,rfl,oC⟩:=Sl.elem c5 (by decide) n9;replace a:=bind_some a;obtain⟨iI,oF,a⟩:=a;replace a:=bind_some a;obtain⟨d4,oH,a⟩:=a;refine BW 9 [Kc (.slice aB z.1.length aC),Kc (I aL),Kc (pt rK (rL+i122*2)),Kc (.agg #[I c6.Lo,I c6.Hi]),Kc (.agg (Ar i j e f m o p q r s t u g).toArray),Kc (.slice x c.1.length y),Kc (I aL),Kc (.agg #[I iI.Lo,I iI.Hi]),Kc (.agg #[I d4.Lo,I d4.Hi])] mixed rfl rfl
               (Aa (oD (fun K=>AA (es ((K.out 7 rfl).trans eT))))
               (Aa (oD (fun K=>AA (es ((K.out 18 rfl).trans cB))))
               (Aa (oD (fun K=>BC (k:=i122) Tryz.underlying55 GO (es (K.dq 0 115)) oB (es (K.dq 1 116)) n8 oA))
               (Aa (oD (fun K=>Cv (l:=[I c6.Lo,I c6.Hi]) EC (es (K.dq 2 117)) (oC.mv (Ac K.AV)) rfl rfl))
               (Aa (oD (fun K=>AO (l:=(Ar i j e f m o p q r s t u g)) DL (es ((K.out 3 rfl).trans eS)) (d3.ext K.AV) rfl rfl))
               (Aa (oD (fun K=>AA (es ((K.out 12 rfl).trans d2))))
               (Aa (oD (fun K=>AA (es ((K.out 18 rfl).trans cB))))
               (Aa (oE (fun K=>(Ak Pp rfl (DX (es (K.dq 4 119)) (es (K.dq 5 120)) (es (K.dq 6 121))) (Xb aI g c.1 aL i j e f m o p q r s t u x y ZA _ (cC.mv (Ac K.AV)).all (cD.mv (Ac K.AV)).all (cE.mv (Ac K.AV)).all (cF.mv (Ac K.AV)).all (cG.mv (Ac K.AV)).all (cH.mv (Ac K.AV)).all (bR.mv (Ac K.AV)).all iI oF)).mono (fun _ _ h=>⟨(by obtain⟨_,rfl,rfl⟩:=h.2;rfl),h.1⟩)))
               (Aa (oE (fun K=>(Ak K9 rfl (Cd (es (K.dq 7 122))) (Qn aI iI ZA _ d4 oH)).mono (fun _ _ h=>⟨(by obtain⟨_,rfl,rfl⟩:=h.2;rfl),h.1⟩)))
               (BR _)))))))))) ?_
           intro s4;rintro _ rfl _ rfl _ rfl _ rfl _ rfl _ rfl _ rfl _ rfl _ rfl e4;have nI:=nH.ext e4;refine wD (fun st=>LY (x1:=[c6.Lo,c6.Hi]) (x2:=[d4.Lo,d4.Hi]) Ja I9 (eR st) (eR st) rfl rfl rfl rfl)<|wn ?_;rcases Ae ([c6.Lo,c6.Hi] !=[d4.Lo,d4.Hi]) with d8|d8
           ·replace a:=Am a d8;refine Ah rfl d8<|cr<|wA (v:=.bool false) rfl<|wn<|Ap<|CO<|AG ?_;obtain rfl:=oi a;refine BG (fun st=>?_);exact .inl ⟨rfl,false,rfl,qo st,sp st 6 rfl,nI⟩
           ·replace a:=An a d8;refine Ao rfl d8<|Ce<|CG<|Ai<|wM (v:=I aL) cB ?_;replace a:=AJ a;obtain⟨oI,a⟩:=a;refine wD (fun st=>BK (eR st) (eR st) oI)<|wA (v:=I (aL+1)) rfl<|Bc ?_;have nJ:=(d3.ext e4);have mQ:=(eY.ext e4);have ⟨kI,kJ,kK,kL,kM,kN,iJ,iK⟩:=EZ cC cD cE cF cG cH c5 bR (Ac e4);refine Br d0 (Nat.lt_succ_self _) (fun st=>?_);exact⟨(aL+1),a,qo st,sp st 2 hH,sp st 3 eS,sp st 7 eT,sp st 9 hI,sp st 11 gB,sp st 12 d2,sp st 14 gC,sp st 15 gD,sp st 18 rfl,nI,nJ,mQ,kI,kJ,kK,kL,kM,kN,iJ,iK⟩
          ·replace a:=An a d7;refine Ao rfl d7<|DA ?_;obtain rfl:=oi a;refine BG (fun st=>?_);exact .inr ⟨rfl,(),rfl,qo st,sp st 2 hH,sp st 3 eS,sp st 9 hI,sp st 11 gB,sp st 12 d2,sp st 14 gC,sp st 15 gD,nH,d3,eY,cC,cD,cE,cF,cG,cH,bR⟩
        case n5=>
         rintro dZ sF sO (⟨rfl,dB,rfl,eU,kP,gE⟩|⟨rfl,dB,rfl,eU,kQ,kR,kS,jC,jD,jE,jF,gE,kT,jG,iL,iM,iN,iO,iP,iQ,gF⟩)
         ·skip
          replace a:=CM a;refine lf eU<|CO ?_;have aK:=oi a;refine Au rfl kP ?_;exact⟨gE.AZ,congrArg Value.bool aK⟩
         ·skip
          replace a:=CN a;refine lf eU<|Be<|BM<|Af<|cr<|wM (v:=I c.2) jE<|wD (fun st=>Cx (eR st) (eR st))<|wn<|Ao rfl aE<|cn<|cr<|wD (fun st=>AO (l:=(Ar i j e f m o p q r s t u g)) DL (ee st kR) kT rfl rfl)<|wM (v:=.slice x c.1.length y) jD<|wM (v:=I 0) jF ?_;replace a:=bind_some a;obtain⟨aU,oJ,a⟩:=a;refine wE (fun st=>Ak R1 (eR st) (DX (eR st) (eR st) (eR st)) (a68 aI g c.1 0 i j e f m o p q r s t u x y ZA _ iL.all iM.all iN.all iO.all iP.all iQ.all gF.all aU oJ)) ?_;rintro _ s5 ⟨k2,⟨_,rfl,rfl⟩⟩;have nK:=gE.ext k2;refine wE (fun st=>BZ (cs:= #[I 0,I 0]) I6 rfl) ?_;rintro _ s6 ⟨rM,rfl,e5⟩;have nL:=nK.nb e5;have rX:=nK.BH e5;refine BD rfl rfl (fun st=>Bt (n:=2) (l:=[I aU.Lo,I aU.Hi]) (Cm:= #[I aU.Lo,I aU.Hi]) (eR st) (eR st) Ie e5.bk rfl rfl (show 0+2≤2 by decide) (AY rfl) rfl) ?_;rintro _ s7 e6;have rN:=nL.gr e6.gr 0 rfl;refine wn<|Af ?_;have mR:=(((jG.ext k2).ext e5.gr).gr e6.gr (nL.nq 1 0));replace a:=bind_some a;obtain⟨bS,oK,a⟩:=a;rcases Ae ([b.1.Lo,b.1.Hi]==[bS.Lo,bS.Hi]) with a8|a8
          ·replace a:=Am a a8;refine BW 10 [Kc (.agg #[I b.1.Lo,I b.1.Hi]),Kc (.agg #[I aU.Lo,I aU.Hi]),Kc (.agg #[I bS.Lo,I bS.Hi]),Kc (.bool ([b.1.Lo,b.1.Hi]==[bS.Lo,bS.Hi])),Kc (.bool ([b.1.Lo,b.1.Hi]==[bS.Lo,bS.Hi])),Kc (.bool aF),Kc (pt rM 0),Kc (I aU.Lo),Kc (I a3),Kc (.bool (decide (a3≤aU.Lo)))] mixed rfl rfl
               (Aa (oD (fun K=>AO (l:=[I b.1.Lo,I b.1.Hi]) EC (es ((K.out 9 rfl).trans kS)) (mR.ext K.AV) rfl rfl))
               (Aa (oD (fun K=>AO (l:=[I aU.Lo,I aU.Hi]) FW (K.kO 19) (e6.bk.ext K.AV) rfl rfl))
               (Aa (oE (fun K=>(Ak K9 rfl (Cd (es (K.dq 1 133))) (Qn aI aU ZA _ bS oK)).mono (fun _ _ h=>⟨(by obtain⟨_,rfl,rfl⟩:=h.2;rfl),h.1⟩)))
               (Aa (oD (fun K=>NO (x1:=[b.1.Lo,b.1.Hi]) (x2:=[bS.Lo,bS.Hi]) Ja I9 (es (K.dq 0 132)) (es (K.dq 2 134)) rfl rfl rfl rfl))
               (Aa (oD (fun K=>AA (es (K.dq 3 135))))
               (Aa (oG a8 (fun K=>AA (es ((K.out 11 rfl).trans jC))))
               (Aa (oG a8 (fun K=>Ad (K.kO 19) (I5 _ _)))
               (Aa (oG a8 (fun K=>Ag Bq (es (K.dq 6 138)) (e6.bk.ext K.AV) rfl))
               (Aa (oG a8 (fun K=>AA (es ((K.out 2 rfl).trans kQ))))
               (Aa (oG a8 (fun K=>HT (es (K.dq 7 139)) (es (K.dq 8 140))))
               (BR _))))))))))) ?_
           intro s8;rintro _ rfl _ rfl _ rfl _ rfl _ rfl _ rfl _ rfl _ rfl _ rfl _ rfl oL;have rO:=rN.ext oL;refine wG a8 (fun st=>T8 NY (eR st) (eR st))<|wD (fun st=>AR (v:=.bool (aF==(decide (a3≤aU.Lo)))) (eR st) a8 (eR st))<|wM (v:=.bool (aF==(decide (a3≤aU.Lo)))) rfl ?_;rcases Ae (aF==(decide (a3≤aU.Lo))) with d9|d9
           ·replace a:=Am a d9;replace a:=B9 a;obtain⟨oM,a⟩:=a;refine wX d9 (fun st=>Ak G3 (eR st) F6 (a37 aI ZA _ oM)) ?_;rintro _ s9 ⟨oN,rfl⟩;have rP:=rO.ext oN;refine wD (fun st=>AR (v:=.bool true) (eR st) d9 (eR st))<|wA (v:=.bool true) rfl<|wn<|Ap ?_;have aK:=oi a;refine Au rfl rfl ?_;exact⟨rP.AZ,congrArg Value.bool aK⟩
           ·replace a:=An a d9;exact absurd (oi a) (by decide)
          ·replace a:=An a a8;exact absurd (oi a) (by decide)
end Go.Proofs.YtbhofkcbfblijaaGreat
end
section
namespace Go.Proofs.YtbhofkcbfblijaaGreat
open Go.RowKit Go.ChangeShapes Go.WideShapes Go.ChangeAt
set_option maxRecDepth 100000 in
theorem NG(os:Os)(started:os.Started)(H:Type)(enc:TypeId×Value→H):
  ReturnsInHanded {} Tryz.checked os 11 .any (Rows.tradeBoundsSpec.pre6 enc Tryz.prog Tryz.f11 Rows.tradeBoundsRow.domain false) (Rows.tradeBoundsSpec.post enc Tryz.prog Tryz.f11 false true false false):=by
 refine returnsInHanded_of_change_sized (C:=Tryz.checked) AaI started (by kernel_rfl) Tryz.func11
  (ChangeSpec.witness6 (enc:=enc) (C:=Tryz.checked) false ⟨#[], #[.agg #[.slice none 0 0,.slice none 0 0,.slice none 0 0,.int .i64 0,.slice none 0 0,.slice none 0 0,.slice none 0 0],.slice none 0 0,.int .i64 0],[]⟩ 8 (by kernel_rfl) (by kernel_rfl) (by kernel_rfl) (by kernel_rfl)) ?_
 intro W base args ds gs before f aG aQ aH _;have a:∀(j:Nat) t v,Tryz.f11.params[j]?=some t→args[j]?=some v→Value.okWide Tryz.prog W .any base t v:=f;have d:=aG;obtain⟨p,q,aI,aR,rfl,aZ,a0⟩:=aG;have h:DataW.TrodAll enc Tryz.prog W 0 (fun _=>true) true Tryz.f11.params.toList args.toList ds p:=aI;obtain⟨rfl,rfl⟩:=trodVars_none aR;simp only[List.append_nil] at d;have aJ:∀x∈p,x.block<W.heap.size:=fun x g=>by simpa using d.lt x g
 have aK:=h;have c:(DataW.weightsEach Tryz.prog (Tryz.f11.params.toList++[]) (ds++[])).all (· ≤reachBytes)=true:=aH;rw[Tryz.params11] at h a c;obtain⟨v0,v1,v2,d0,d1,d2,aS,aT,aU,rfl,rfl,rfl,h0,h1,h2⟩:=trodAll_three h;obtain⟨aL,a2,aM,⟨i,k,l,m,n,o,r,s,u,w,y,z,rfl,aA,aB,aC,aD,aE,aF⟩,w0⟩:=Tq Tryz.underlying67 Va (a 0 67 v0 rfl rfl) h0 (NZ (j:=0) c rfl rfl);obtain⟨x1,aV,aW,aN,s1,w1⟩:=U9 Tryz.underlying31 (IK (b:=8) Tryz.underlying31 (by kernel_rfl) (by decide) (IB Tryz.underlying3) (by kernel_rfl)) (a 1 31 v1 rfl rfl) h1 (NZ (j:=1) c rfl rfl);obtain⟨x2,aO,w2⟩:=Zp Tryz.underlying3 (a 2 3 v2 rfl rfl) h2;subst aM;subst aN;subst aO;obtain⟨K,aX⟩:=OL aL x1 x2;refine(Qr (a11 K aL x1 x2 i k l m n o r s u w y z aV aW ZA W aA aB aC aD aE aF s1 aX)).mono fun e W' ⟨v,he,g,aY⟩=>?_;subst he;subst aY;exact⟨_,rfl,Oh (pa:=(aS++aT++aU)) (pv:=[]) d (fun _ _ _=>trodAll_mk1 (shut_bool Tryz.underlying4 _)) (fun sp hs=>Qq W9 Xa (by rw[Tryz.params11];decide) aK g aJ sp (fun x aP=>hs x (by simpa using aP))) (fun _ _=>rfl) (by simp) g (ok_one (by kernel_rfl) rfl (okWide_bool_mk Tryz.underlying4 _))⟩
theorem JE:((Rows.tradeBoundsRow.inPlace==Tryz.checked.prog.inPlace 11)&&(Rows.tradeBoundsRow.unfollowed==Tryz.checked.prog.unfollowed 11)&&(Rows.tradeBoundsRow.recurses==Tryz.checked.prog.recurses 11)&&(Rows.tradeBoundsRow.named==Tryz.checked.prog.varsNamed 11))=true:=by kernel_rfl
theorem N1:joinedFacts Tryz.checked.prog 11 Tryz.f11 Rows.tradeBoundsSpec Rows.tradeBoundsRow=true:=by
 unfold joinedFacts;exact(CF (CF (CF (CF (CF (CF (CF (CF (CF (CF (CF (CF (CF (CF (CF (CF (CF (CF (CF (CF (CF (CF (CF (CF (CF (CF (CF (CF (CF (CF (CF (by kernel_rfl) Vb) Vc) (by kernel_rfl)) (by kernel_rfl)) (by kernel_rfl)) Ts) (by kernel_rfl)) Tt) (KE (KE (KE JE)))) (Oi (KE (KE JE)))) (Oi (KE JE))) (Oi JE)) (by kernel_rfl)) (by kernel_rfl)) (by kernel_rfl)) (by kernel_rfl)) (by kernel_rfl)) (by kernel_rfl)) (by kernel_rfl)) (by kernel_rfl)) (by kernel_rfl)) Vd) (by kernel_rfl)) Tu) (KE (KE Mr))) (Oi (KE Mr))) (Oi Mr)) (by kernel_rfl)) (by kernel_rfl)) (by kernel_rfl)) (by kernel_rfl))
theorem tradeBounds_holds:Rows.TradeBoundsSaid:=
 OpenClaim.holds_of_wide 11 Tryz.f11 rfl rfl rfl rfl rfl rfl rfl ⟨rfl,rfl,rfl,rfl,rfl⟩ rfl rfl rfl rfl rfl (by kernel_rfl) Tryz.func11 N1
  (of_decide_eq_true (by kernel_rfl)) (by unfold Func.isWrapper;rw[if_neg (by decide+kernel)];exact⟨rfl,rfl⟩)
  (fun os started H enc _=>NG os started H enc)
end Go.Proofs.YtbhofkcbfblijaaGreat
end
