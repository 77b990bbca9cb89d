import Derived.Test.YtbhofkcbfblijaaGreatETradeEnds
import Derived.Test.YtbhofkcbfblijaaGreatRows
/-
  Proved: the law TradeEnds returns true for every argument that the row hands over, and leaves every argument as it was; no condition beside the row's own.
-/
set_option linter.all false
section
namespace Go.Proofs.YtbhofkcbfblijaaGreat
open Go.RowKit Go.WideShapes
def CD(c:AN×Int)(d:Int)(e:Int)(f:AN)(g:AN):Nat→Int→Int→Option (Int)
 |0,_,_=>none
 |h+1,b,a=>cond (decide (a<4)) ((idx ([d==f.Lo,d==g.Hi,e==c.1.Lo,e==c.1.Hi]:List Bool) a).bind fun i=>cond (i) ((Jc .u64 a).bind fun _=>(Li (1:Int) a).bind fun _=>(Nk b (Gr (1:Int) a)).bind fun _=>(i64 (a+1)).bind fun _=>CD c d e f g h (Lp b (Gr (1:Int) a)) (a+1)) ((i64 (a+1)).bind fun _=>CD c d e f g h b (a+1))) (some (b))
def Ds(f:Nat)(d:AE)(g:Int)(e:(List AN)×Int)(h:AN×Int)(i:Int×Bool)(c:(List (List Int))):Nat→Int→Int→Option (Int)
 |0,_,_=>none
 |q+1,b,a=>cond (decide (a<(c.length:Int))) ((idx c a).bind fun j=>(FC f d j (g%(d.Ab.length:Int))).bind fun k=>(idx c a).bind fun l=>(Hh f d l i.1).bind fun m=>(idx e.1 (g%(d.Ab.length:Int))).bind fun n=>(idx e.1 (g%(d.Ab.length:Int))).bind fun o=>(CD h k m n o f b (0:Int)).bind fun p=>(i64 (a+1)).bind fun _=>Ds f d g e h i c q p (a+1)) (some (b))
def Fk(a:Nat)(c:AE)(f:Int)(m:Int):Option (Bool):=
 (EX a c).bind fun n=>cond (!n) ((Fw (Cq a=some true)).bind fun _=>some (true)) (cond ((c.Ab.length:Int)==0) ((Fw (Cq a=some true)).bind fun _=>some (true)) ((Jc .i64 f).bind fun _=>(rem f (c.Ab.length:Int)).bind fun _=>(HM a c m).bind fun e=>(Dn a c).bind fun g=>(Hk a g).bind fun b=>(Dn a c).bind fun h=>(FT a e).bind fun i=>(HW a h i).bind fun d=>cond (b.2 !=0) (cond (b.2==9) (cond (d.2==b.2) ((Fw (Cq a=some true)).bind fun _=>some (true)) (some (false))) (cond (b.2==11) (cond (d.2==b.2) ((Fw (Cq a=some true)).bind fun _=>some (true)) (some (false))) (some (false)))) (cond (d.2 !=0) (some (false)) (cond ((b.1.length:Int) !=(c.Ab.length:Int)) (some (false)) ((Ht a e (c.Ab.length:Int)).bind fun j=>(F5 a c).bind fun k=>(Ds a c f b d j k a (0:Int) (0:Int)).bind fun l=>cond (l==15) ((Fw (Cq a=some true)).bind fun _=>some (true)) (some (false)))))))
end Go.Proofs.YtbhofkcbfblijaaGreat
end
section
namespace Go.Proofs.YtbhofkcbfblijaaGreat
theorem AaV{n:Nat}(h0:0<n){k:Int}(hk:0≤k):∃q:Nat,k%(n:Int)=(q:Int)∧q<n:=by
 have h1:=Int.emod_nonneg k (by omega:(n:Int)≠0);have h2:=Int.emod_lt_of_pos k (by omega:(0:Int)<n);exact⟨(k%(n:Int)).toNat,by omega,by omega⟩
def K7(b0 b1 b2 b3:Bool):Nat:=((b0.toNat|||2*b1.toNat)|||4*b2.toNat)|||8*b3.toNat
theorem JV:∀b0 b1 b2 b3:Bool,K7 b0 b1 b2 b3<16∧(K7 b0 b1 b2 b3).testBit 0=b0∧(K7 b0 b1 b2 b3).testBit 1=b1∧(K7 b0 b1 b2 b3).testBit 2=b2∧(K7 b0 b1 b2 b3).testBit 3=b3:=by decide
theorem Pw(T:List (List Int))(e:List Int→Nat):∀(s j:Nat),(T.foldl (fun s l=>s|||e l) s).testBit j=(s.testBit j||T.any fun l=>(e l).testBit j):=by
 induction T with
 |nil=>intro s j;simp
 |cons x T ih=>intro s j;rw[List.foldl_cons,ih,List.any_cons,Nat.testBit_or,Bool.or_assoc]
theorem Abk(T:List (List Int))(e:List Int→Nat)(h:∀l,e l<2^4):∀s,s<2^4→T.foldl (fun s l=>s|||e l) s<2^4:=by
 induction T with
 |nil=>intro s hs;exact hs
 |cons x T ih=>intro s hs;exact ih _ (Nat.or_lt_two_pow hs (h x))
theorem Aco{n:Nat}(h:n<2^4)(h0:n.testBit 0=true)(h1:n.testBit 1=true)(h2:n.testBit 2=true)(a:n.testBit 3=true):n=15:=by
 have:∀n:Nat,n<16→n.testBit 0=true→n.testBit 1=true→n.testBit 2=true→n.testBit 3=true→n=15:=by decide
 exact this n h h0 h1 h2 a
section
variable{K:Nat}(hK:1000≤K)
include hK
theorem WD(a:AN×Int)(n m:Int)(x y:AN)(s:Nat)(hs:s<2^4):CD a n m x y K (s:Int) 0=some ((s|||K7 (n==x.Lo) (n==y.Hi) (m==a.1.Lo) (m==a.1.Hi):Nat):Int):=by
 obtain⟨k,rfl⟩:∃k,K=k+5:=⟨K-5,by omega⟩;have step:∀(b0 b1 b2 b3:Bool) (j:Nat) (hj:j<4) (s k:Nat),s<2^4→[n==x.Lo,n==y.Hi,m==a.1.Lo,m==a.1.Hi]=[b0,b1,b2,b3]→
   CD a n m x y (k+1) (s:Int) (j:Int)=CD a n m x y k ((s|||2^j*([b0,b1,b2,b3].getD j false).toNat:Nat):Int) ((j+1:Nat):Int):=fun b0 b1 b2 b3 j hj s k hs hb=>by
  obtain⟨s1,s2,h,o,p,_⟩:=Ug j (by omega);have hlen:j<[b0,b1,b2,b3].length:=by simpa using hj
  rw[CD.eq_2,hb,ct (dt (by omega)),Cf hlen,Dk _ hlen];cases [b0,b1,b2,b3][j] with
  |true=>rw[ct rfl,bd s1,bd s2,h,RA (by omega) (by omega),BW (by omega) (by omega),DM j,WW,show true.toNat=1 from rfl,Nat.mul_one]
  |false=>rw[cf rfl,BW (by omega) (by omega),DM j,show false.toNat=0 from rfl,Nat.mul_zero,Nat.or_zero]
 generalize c:(n==x.Lo)=b0;generalize d:(n==y.Hi)=b1;generalize e:(m==a.1.Lo)=b2;generalize f:(m==a.1.Hi)=b3;have hb:[n==x.Lo,n==y.Hi,m==a.1.Lo,m==a.1.Hi]=[b0,b1,b2,b3]:=by rw[c,d,e,f]
 have hl:∀(s j:Nat) (b:Bool),s<2^4→j<4→s|||2^j*b.toNat<2^4:=fun s j b hs hj=>by
  refine Nat.or_lt_two_pow hs ?_;have:2^j≤2^3:=Nat.pow_le_pow_right (by omega) (by omega);cases b<;>simp[Bool.toNat]<;>omega
 have a0:=step b0 b1 b2 b3 0 (by omega) s (k+4) hs hb;have g:=hl s 0 b0 hs (by omega);have a1:=step b0 b1 b2 b3 1 (by omega) _ (k+3) g hb;have q1:=hl _ 1 b1 g (by omega);have a2:=step b0 b1 b2 b3 2 (by omega) _ (k+2) q1 hb;have i:=hl _ 2 b2 q1 (by omega);have a3:=step b0 b1 b2 b3 3 (by omega) _ (k+1) i hb;have l:CD a n m x y (k+1) ((((s|||2^0*b0.toNat)|||2^1*b1.toNat)|||2^2*b2.toNat)|||2^3*b3.toNat:Nat) ((3+1:Nat):Int)=some ((s|||K7 b0 b1 b2 b3:Nat):Int):=by
  rw[CD.eq_2,cf (df (by omega))]
  congr 2
  unfold K7;simp[Nat.or_assoc]
 exact a0.trans (a1.trans (a2.trans (a3.trans l)))
theorem Px(ha:Cq K=some true)(t:AE)(k b:Int)(hk:0≤k)(aM:k<256)(hb:0≤b)(aN:b<256):Fk K t k b=some true:=by
 unfold Fk;rcases Od hK t with h|⟨h,a,hr⟩
 ·rw[bd h,nf,FD ha]
 rw[bd hr,nt];have hlen:=Ki h;have x:=a.kl
 by_cases aO:t.Ab.length=0
 ·rw[ct (H3 (by omega)),FD ha]
 obtain⟨q,aE,j⟩:=AaV (n:=t.Ab.length) (by omega) hk;obtain⟨b',rfl⟩:∃b':Nat,b=b':=⟨b.toNat,by omega⟩;have c:=Zm b' t.Ab.length;rw[cf (KD (by omega)),T6 hk (by omega),Ns hk (by omega),bd (AaP hK a (by omega))];generalize b'&&&(2^t.Ab.length-1)=s at c;have aP:=WA s;have aS:2^t.Ab.length≤2^3:=Nat.pow_le_pow_right (by omega) x;obtain⟨B,aF,aT,aG⟩:=WB hK h;obtain⟨r,aH,aU,aI⟩:=Zk hK h (DI:=CX s) (by omega);have m:=QB (OA c);rw[bd (Kp hK t hlen),bd aF,bd (Kp hK t hlen),bd (Pa hK _ (by omega)),bd aH,m]
 by_cases h0:En t=0
 ·have y:=aG h0;have aA:=aI (by rw[m,h0]);have aQ:=y.len;have f:q<B.length:=by omega
  have o:=y.is q f;have aR:=Oc hK a;have u:∀(d n i:Nat) (z:Nat),(CV t).length=i+d→d<n→z<2^4→
    Ds K t k (B,0) (r,0) ((s:Int),true) (CV t) n (z:Int) (i:Int)=some ((((CV t).drop i).foldl (fun z l=>z|||K7 ((Bx t l).getD q 0==B[q].Lo) ((Bx t l).getD q 0==B[q].Hi) (Jh t (CX s) l==r.Lo) (Jh t (CX s) l==r.Hi)) z:Nat):Int):=by
   intro d
   induction d with
   |zero=>
    intro n i z aJ aK v;obtain⟨n,rfl⟩:∃w,n=w+1:=⟨n-1,by omega⟩;rw[Ds.eq_2,cf (df (by omega)),List.drop_eq_nil_of_le (by omega)];rfl
   |succ d ih=>
    intro n i z aJ aK v;obtain⟨n,rfl⟩:∃w,n=w+1:=⟨n-1,by omega⟩;have hi:i<(CV t).length:=by omega
    have p:=Pc hK a (List.getElem_mem hi);have aB:q<(Bx t (CV t)[i]).length:=by rw[Gb];exact j
    have aC:=PC hK a p j;rw[←Dk (0:Int) aB] at aC;rw[Ds.eq_2,ct (dt (by omega)),Cf hi,aE,bd aC,Cf hi,bd (Zl hK a p (by omega))];show(idx B (q:Int)).bind _=_;rw[Cf f];show(idx B (q:Int)).bind _=_;rw[Cf f,bd (WD hK (r,0) _ _ _ _ z v),BW (by omega) (by omega),DM i,List.drop_eq_getElem_cons hi,List.foldl_cons];exact ih n (i+1) _ (by omega) (by omega) (Nat.or_lt_two_pow v (JV _ _ _ _).1)
  have g:=u (CV t).length K 0 0 (by omega) (by omega) (by omega);rw[List.drop_zero] at g;have aD:(CV t).foldl (fun z l=>z|||K7 ((Bx t l).getD q 0==B[q].Lo) ((Bx t l).getD q 0==B[q].Hi) (Jh t (CX s) l==r.Lo) (Jh t (CX s) l==r.Hi)) 0=15:=by
   refine Aco (Abk _ _ (fun l=>(JV _ _ _ _).1) 0 (by omega)) ?_ ?_ ?_ ?_
   ·rw[Pw,Nat.zero_testBit,Bool.false_or,List.any_eq_true];obtain⟨l,hl,e⟩:=o.lo;exact⟨l,hl,by rw[(JV _ _ _ _).2.1];exact H3 e⟩
   ·rw[Pw,Nat.zero_testBit,Bool.false_or,List.any_eq_true];obtain⟨l,hl,e⟩:=o.hi;exact⟨l,hl,by rw[(JV _ _ _ _).2.2.1];exact H3 e⟩
   ·rw[Pw,Nat.zero_testBit,Bool.false_or,List.any_eq_true];obtain⟨l,hl,e⟩:=aA.lo;exact⟨l,hl,by rw[(JV _ _ _ _).2.2.2.1];exact H3 e⟩
   ·rw[Pw,Nat.zero_testBit,Bool.false_or,List.any_eq_true];obtain⟨l,hl,e⟩:=aA.hi;exact⟨l,hl,by rw[(JV _ _ _ _).2.2.2.2];exact H3 e⟩
  rw[aD] at g;have aL:Ds K t k (B,0) (r,0) ((s:Int),true) (CV t) K 0 0=some 15:=g;rw[h0,cf (JD rfl),cf (JD rfl),cf (JD (show(B.length:Int)=(t.Ab.length:Int) by omega)),bd (Uh hK (n:=t.Ab.length) (by omega) (by omega)),OA c,if_pos rfl,Vp (by omega),bd (O9 hK a),bd aL,ct (H3 rfl),FD ha]
 ·rw[ct (Jo h0)];rcases SS a h0 with e|e
  ·rw[e,ct (H3 rfl),ct (H3 rfl),FD ha]
  ·rw[e,cf (KD (show(11:Int)≠9 by decide)),ct (H3 rfl),ct (H3 rfl),FD ha]
end
theorem Qb(t:AE)(k b:Int)(hk:0≤k)(a:k<256)(hb:0≤b)(c:b<256):∃K,Fk K t k b=some true:=⟨1000,Px (Nat.le_refl _) Pb t k b hk a hb c⟩
end Go.Proofs.YtbhofkcbfblijaaGreat
end
section
namespace Go.Proofs.YtbhofkcbfblijaaGreat
open Go.RowKit Go.WideShapes
set_option maxRecDepth 20000
open HF
attribute [local irreducible] Ce WL CC CW LV BO G2 E9 One Bc
set_option maxHeartbeats 4000000 in
theorem a6 aM i cH g0 m o d e p q r s t x y z(Z:Nat→Prop) w(g1:Sl AA w Z m o i.Ak)(g2:Sl (BH (Ai .i64)) w Z d e i.Ab)(g3:Sl AH w Z p q i.Aw)(g4:Sl AZ w Z r s i.AB)(g5:Sl Bb w Z t x i.AF)(g6:Sl Bq w Z y z i.AM)(a:Fk aM i cH g0=some true):
 BO Tryz.prog 6 #[.agg (Ay m o d e p q r s t x y z i).toArray,.int .u8 cH,.int .u8 g0] w (fun v w'=>Ext w w'∧v=.bool true):=by
 unfold Fk at a;refine rq (N:=155) Tryz.func6 fun kC ha kD=>?_;have hS:=sA 0 ha;have hT:=sA 1 ha;have hU:=sA 2 ha;clear ha;have hB:Hp FN [] w [] w:=Hp.start (BC.none w);have ⟨fL,fM,fN,fO,fP,fQ⟩:=CA g1 g2 g3 g4 g5 g6 (Bz (Z:=Z) (L:=[]) w);refine cr<|wE (fun st=>BN (v:=.agg (Ay m o d e p q r s t x y z i).toArray) (cs:=(Ay m o d e p q r s t x y z i).toArray) (ee st hS) rfl) ?_;rintro _ w1 ⟨b1,rfl,eJ⟩;have jQ:=hB.nb eJ;have j3:=hB.BJ eJ;refine wA (v:=.bool false) rfl<|wn<|Af<|cr<|wD (fun st=>Ba (l:=(Ay m o d e p q r s t x y z i)) E6 (eR st) eJ.bk rfl rfl) ?_;have ⟨dE,dF,dG,dH,dI,dJ⟩:=CA fL fM fN fO fP fQ (Az eJ);replace a:=bind_some a;obtain⟨gK,jR,a⟩:=a;refine wE (fun st=>Aj U9 (eR st) (Ck (eR st)) (a48 aM i m o d e p q r s t x y z ZA _ dE.all dF.all dG.all dH.all dI.all dJ.all gK jR)) ?_;rintro _ kV ⟨gL,rfl⟩;have fE:=jQ.ext gL;refine wD (fun st=>Ca (eR st))<|wM (v:=.bool !gK) rfl ?_;rcases Ae (!gK) with aF|aF
 ·replace a:=An a aF;have j4:gK=false:=by simpa using aF
  refine wF aF<|wF aF<|wF aF<|wF aF<|wF aF<|wD (fun st=>AY (v:=.bool true) (eR st) aF (eR st))<|wn<|Ah rfl rfl<|Af<|Al ?_;replace a:=Cl a;obtain⟨jS,a⟩:=a;refine wE (fun st=>Aj JI (eR st) Hv (a37 aM ZA _ jS)) ?_;rintro _ kW ⟨jT,rfl⟩;have jU:=fE.ext jT;refine wA (v:=.bool true) rfl<|wn<|Am<|AG ?_;have bF:=oi a;refine Av rfl rfl ?_;exact⟨jU.Bf,congrArg Value.bool bF⟩
 ·replace a:=Ao a aF;have j5:gK=true:=by simpa using aF
  refine wG aF (fun st=>Ad (eR st) (ER _ _))<|wG aF (fun st=>Ad (eR st) (DE _ _)) ?_;have cI:=(eJ.bk.ext gL);refine wG aF (fun st=>Ag (v:=.slice d i.Ab.length e) C2 (eR st) cI rfl)<|wG aF (fun st=>Br Tryz.underlying23 (eR st))<|wG aF (fun st=>Dp (eR st) (eR st))<|wD (fun st=>Bs (v:=.bool ((i.Ab.length:Int)==0)) (eR st) aF (eR st))<|wn ?_;rcases Ae ((i.Ab.length:Int)==0) with eK|eK
  ·replace a:=An a eK;refine Ah rfl eK<|Af<|Al ?_;replace a:=Cl a;obtain⟨hV,a⟩:=a;refine wE (fun st=>Aj JI (eR st) Hv (a37 aM ZA _ hV)) ?_;rintro _ kE ⟨hW,rfl⟩;have jV:=fE.ext hW;refine wA (v:=.bool true) rfl<|wn<|Am<|AG ?_;have bF:=oi a;refine Av rfl rfl ?_;exact⟨jV.Bf,congrArg Value.bool bF⟩
  ·replace a:=Ao a eK;refine Aq rfl eK<|cn<|cr<|wM (v:=.int .u8 cH) hT ?_;replace a:=GI a;obtain⟨hX,a⟩:=a;refine wD (fun st=>It (k:=.i64) AaS Tryz.underlying3 (eR st) hX)<|wD (fun st=>Ad (eR st) (ER _ _))<|wD (fun st=>Ad (eR st) (DE _ _))<|wD (fun st=>Ag (v:=.slice d i.Ab.length e) C2 (eR st) cI rfl)<|wD (fun st=>Br Tryz.underlying23 (eR st)) ?_;replace a:=I0 a;obtain⟨gM,a⟩:=a;refine wD (fun st=>Ls (eR st) (eR st) gM.1 gM.2)<|wA (v:=I (cH%(i.Ab.length:Int))) rfl<|wr<|wD (fun st=>Ba (l:=(Ay m o d e p q r s t x y z i)) E6 (eR st) cI rfl rfl)<|wM (v:=.int .u8 g0) hU ?_;have ⟨dK,dL,dM,dN,dO,dP⟩:=CA dE dF dG dH dI dJ (Ac gL);replace a:=bind_some a;obtain⟨dQ,hY,a⟩:=a;refine wE (fun st=>Aj AaU (eR st) (Ci (eR st) (eR st)) (a49 aM i g0 m o d e p q r s t x y z (zf Z w [some b1]) _ dK dL dM dN dO dP dQ hY)) ?_;rintro _ kF ⟨eS,⟨aR,aS,rfl,bK⟩⟩;have hC:=fE.ext eS;have bK:=bK.mv (fE.DR (Nat.le_refl _));refine wA (v:=.slice aR dQ.length aS) rfl<|wn<|Af<|Al ?_;have fF:=(cI.ext eS);refine wD (fun st=>Ba (l:=(Ay m o d e p q r s t x y z i)) E6 (eR st) fF rfl rfl) ?_;have ⟨dR,dS,dT,dU,dV,dW⟩:=CA dK dL dM dN dO dP (Ac eS);replace a:=bind_some a;obtain⟨hD,hZ,a⟩:=a;refine wE (fun st=>Aj Lh (eR st) (Ck (eR st)) (Qt aM i m o d e p q r s t x y z (zf Z w [some b1]) _ dR dS dT dU dV dW hD hZ)) ?_;rintro _ kG ⟨d6,⟨_,rfl,⟨fR,fS,fT,fU,fV,fW,fX,fY,fZ,f0,f1,f2,rfl,aY,aZ,a0,a2,a3,a4⟩⟩⟩;have hE:=hC.ext d6;have ⟨aY,aZ,a0,a2,a3,a4⟩:=CA aY aZ a0 a2 a3 a4 (hC.DR (Nat.le_refl _));replace a:=bind_some a;obtain⟨f,h3,a⟩:=a;refine wE (fun st=>Aj U6 (eR st) (Ck (eR st)) (a33 aM hD fR fS fT fU fV fW fX fY fZ f0 f1 f2 (zf Z w [some b1]) _ aY aZ a0 a2 a3 a4 f h3)) ?_;rintro _ kH ⟨d7,⟨_,_,rfl,⟨aB,aC,rfl,bL⟩,rfl⟩⟩;have hF:=hE.ext d7;have bL:=bL.mv (hE.DR (Nat.le_refl _));refine wM (v:=.tuple #[.slice aB f.1.length aC,I f.2]) rfl<|wD (fun st=>Bw (v:=.slice aB f.1.length aC) (eR st) rfl)<|wD (fun st=>Bw (v:=I f.2) (eR st) rfl)<|wA (v:=.slice aB f.1.length aC) rfl<|wA (v:=I f.2) rfl<|wn<|Af<|Al ?_;have fG:=((fF.ext d6).ext d7);refine wD (fun st=>Ba (l:=(Ay m o d e p q r s t x y z i)) E6 (eR st) fG rfl rfl) ?_;have ⟨dX,dY,dZ,d0,d1,d2⟩:=CA dR dS dT dU dV dW (mt (Ac d6) (Ac d7));replace a:=bind_some a;obtain⟨hG,h4,a⟩:=a;refine wE (fun st=>Aj Lh (eR st) (Ck (eR st)) (Qt aM i m o d e p q r s t x y z (zf Z w [some b1]) _ dX dY dZ d0 d1 d2 hG h4)) ?_;rintro _ kI ⟨cJ,⟨_,rfl,⟨f3,f4,f5,f6,f7,f8,f9,gA,gB,gC,gD,gE,rfl,a5,a7,a8,a9,bA,bB⟩⟩⟩;have hH:=hF.ext cJ;have ⟨a5,a7,a8,a9,bA,bB⟩:=CA a5 a7 a8 a9 bA bB (hF.DR (Nat.le_refl _));refine wM (v:=.slice aR dQ.length aS) rfl ?_;have b9:=(((bK.mv (Ac d6)).mv (Ac d7)).mv (Ac cJ));replace a:=bind_some a;obtain⟨hI,h5,a⟩:=a;refine wE (fun st=>Aj Pp (eR st) (Ck (eR st)) (a51 aM dQ aR aS (zf Z w [some b1]) _ b9 hI h5)) ?_;rintro _ kJ ⟨bM,⟨gN,gO,rfl,bN⟩⟩;have jW:=hH.ext bM;have bN:=bN.mv (hH.DR (Nat.le_refl _));have ⟨d8,d9,eA,eB,eC,eD⟩:=CA a5 a7 a8 a9 bA bB (Ac bM);replace a:=bind_some a;obtain⟨c,h6,a⟩:=a;refine wE (fun st=>Aj U0 (eR st) (Ci (eR st) (eR st)) (a50 aM hG hI f3 f4 f5 f6 f7 f8 f9 gA gB gC gD gE gN gO ZA _ d8.all d9.all eA.all eB.all eC.all eD.all bN.all c h6)) ?_;rintro _ kK ⟨cK,⟨_,_,rfl,⟨_,rfl,rfl⟩,rfl⟩⟩;have gP:=jW.ext cK;refine wM (v:=.tuple #[.agg #[I c.1.Lo,I c.1.Hi],I c.2]) rfl<|wD (fun st=>Bw (v:=.agg #[I c.1.Lo,I c.1.Hi]) (eR st) rfl)<|wD (fun st=>Bw (v:=I c.2) (eR st) rfl)<|wE (fun st=>B8 (cs:= #[I 0,I 0]) JR rfl) ?_;rintro _ kL ⟨aX,rfl,bC⟩;have cL:=gP.nb bC;have jX:=gP.BJ bC;refine BI rfl rfl (fun st=>By (n:=2) (l:=[I c.1.Lo,I c.1.Hi]) (CB:= #[I c.1.Lo,I c.1.Hi]) (eR st) (eR st) Hs bC.bk rfl rfl (show 0+2≤2 by decide) (Bh rfl) rfl) ?_;rintro _ kM bO;have eT:=cL.gr bO.gr 0 rfl;refine wA (v:=I c.2) rfl<|wn<|Af<|cr<|wM (v:=I f.2) rfl<|wD (fun st=>D1 (eR st) (eR st))<|wn ?_;rcases Ae (f.2 !=0) with cM|cM
   ·replace a:=An a cM;refine Ah rfl cM<|cr<|wM (v:=I f.2) rfl<|wD (fun st=>Dp (eR st) (eR st))<|wM (v:=.bool (f.2==9)) rfl ?_;rcases Ae (f.2==9) with aP|aP
    ·replace a:=An a aP;refine wF aP<|wF aP<|wD (fun st=>AY (v:=.bool true) (eR st) aP (eR st))<|wM (v:=.bool true) rfl<|KK rfl rfl rfl rfl (by decide) (fun st=>Au (v:=I c.2) (eR st))<|KK rfl rfl rfl rfl (by decide) (fun st=>Au (v:=I f.2) (eR st))<|KK rfl rfl rfl rfl (by decide) (fun st=>Dp (eR st) (eR st))<|wD (fun st=>AY (v:=.bool (c.2==f.2)) (eR st) rfl (eR st))<|wM (v:=.bool (c.2==f.2)) rfl ?_;rcases Ae (c.2==f.2) with cN|cN
     ·replace a:=An a cN;replace a:=Cl a;obtain⟨h7,a⟩:=a;refine wX cN (fun st=>Aj JI (eR st) Hv (a37 aM ZA _ h7)) ?_;rintro _ kN ⟨h8,rfl⟩;have h9:=eT.ext h8;refine wD (fun st=>AY (v:=.bool true) (eR st) cN (eR st))<|wA (v:=.bool true) rfl<|wn<|Am<|AG ?_;have bF:=oi a;refine Av rfl rfl ?_;exact⟨h9.Bf,congrArg Value.bool bF⟩
     ·replace a:=Ao a cN;exact absurd (oi a) (by decide)
    ·replace a:=Ao a aP;refine wN aP (v:=I f.2) rfl<|wG aP (fun st=>Dp (eR st) (eR st))<|wD (fun st=>Bs (v:=.bool (f.2==11)) (eR st) aP (eR st))<|wM (v:=.bool (f.2==11)) rfl ?_;rcases Ae (f.2==11) with bD|bD
     ·replace a:=An a bD;refine wN bD (v:=I c.2) rfl<|wN bD (v:=I f.2) rfl<|wG bD (fun st=>Dp (eR st) (eR st))<|wD (fun st=>AY (v:=.bool (c.2==f.2)) (eR st) bD (eR st))<|wM (v:=.bool (c.2==f.2)) rfl ?_;rcases Ae (c.2==f.2) with cO|cO
      ·replace a:=An a cO;replace a:=Cl a;obtain⟨iA,a⟩:=a;refine wX cO (fun st=>Aj JI (eR st) Hv (a37 aM ZA _ iA)) ?_;rintro _ kP ⟨iB,rfl⟩;have iC:=eT.ext iB;refine wD (fun st=>AY (v:=.bool true) (eR st) cO (eR st))<|wA (v:=.bool true) rfl<|wn<|Am<|AG ?_;have bF:=oi a;refine Av rfl rfl ?_;exact⟨iC.Bf,congrArg Value.bool bF⟩
      ·replace a:=Ao a cO;exact absurd (oi a) (by decide)
     ·replace a:=Ao a bD;exact absurd (oi a) (by decide)
   ·replace a:=Ao a cM;refine Aq rfl cM<|cn<|Af<|cr<|wM (v:=I c.2) rfl<|wD (fun st=>D1 (eR st) (eR st))<|wM (v:=.bool (c.2 !=0)) rfl ?_;rcases Ae (c.2 !=0) with aJ|aJ
    ·replace a:=An a aJ;exact absurd (oi a) (by decide)
    ·replace a:=Ao a aJ;refine wN aJ (v:=.slice aB f.1.length aC) rfl<|wG aJ (fun st=>Br Tryz.underlying55 (eR st))<|wG aJ (fun st=>Ad (eR st) (ER _ _))<|wG aJ (fun st=>Ad (eR st) (DE _ _)) ?_;have cP:=(((((fG.ext cJ).ext bM).ext cK).ext bC.gr).gr bO.gr (cL.nq 1 0));refine wG aJ (fun st=>Ag (v:=.slice d i.Ab.length e) C2 (eR st) cP rfl)<|wG aJ (fun st=>Br Tryz.underlying23 (eR st))<|wG aJ (fun st=>D1 (eR st) (eR st))<|wD (fun st=>Bs (v:=.bool ((f.1.length:Int) !=(i.Ab.length:Int))) (eR st) aJ (eR st))<|wn ?_;rcases Ae ((f.1.length:Int) !=(i.Ab.length:Int)) with eE|eE
     ·replace a:=An a eE;exact absurd (oi a) (by decide)
     ·replace a:=Ao a eE;refine Aq rfl eE<|cn<|cr<|wM (v:=.slice aR dQ.length aS) rfl<|wD (fun st=>Ad (eR st) (ER _ _))<|wD (fun st=>Ad (eR st) (DE _ _))<|wD (fun st=>Ag (v:=.slice d i.Ab.length e) C2 (eR st) cP rfl)<|wD (fun st=>Br Tryz.underlying23 (eR st)) ?_;have eF:=((((b9.mv (Ac bM)).mv (Ac cK)).mv (Az bC)).mv (cL.BA bO.gr 0 rfl));replace a:=bind_some a;obtain⟨aN,iD,a⟩:=a;refine wE (fun st=>Aj AaT (eR st) (Ci (eR st) (eR st)) (a52 aM dQ (i.Ab.length:Int) aR aS ZA _ eF.all aN iD)) ?_;rintro _ kQ ⟨cQ,⟨_,_,rfl,rfl,rfl⟩⟩;have gQ:=eT.ext cQ;refine wM (v:=.tuple #[I aN.1,.bool aN.2]) rfl<|wD (fun st=>Bw (v:=I aN.1) (eR st) rfl)<|wD (fun st=>Bw (v:=.bool aN.2) (eR st) rfl)<|wA (v:=I aN.1) rfl<|wA (v:=.bool aN.2) rfl<|wr<|wA (v:=I 0) rfl<|wn<|Af<|Al ?_;have eM:=(cP.ext cQ);refine wD (fun st=>Ba (l:=(Ay m o d e p q r s t x y z i)) E6 (eR st) eM rfl rfl) ?_;have ⟨cR,cS,cT,cU,cV,cW⟩:=CA dX dY dZ d0 d1 d2 (mt (Ac cJ) (mt (Ac bM) (mt (Ac cK) (mt (Az bC) (mt (cL.BA bO.gr 0 rfl) (Ac cQ))))));replace a:=bind_some a;obtain⟨aT,iE,a⟩:=a;refine wE (fun st=>Aj U5 (eR st) (Ck (eR st)) (a53 aM i m o d e p q r s t x y z (zf Z w [some aX,some b1]) _ cR cS cT cU cV cW aT iE)) ?_;rintro _ kR ⟨cX,⟨aG,aH,rfl,bP⟩⟩;have iF:=gQ.ext cX;have bP:=bP.mv (gQ.DR (Nat.le_refl _));refine wA (v:=.slice aG aT.length aH) rfl<|wn<|Af<|cr<|wA (v:=I 0) rfl<|wn<|AI ?_;replace a:=bind_some a;obtain⟨eN,bQ,a⟩:=a;refine BY (fun gR g aU=>(gR=.exit 0∧Fo X0 155 g∧sl g 15=I eN∧Hp FN [] w [some aX,some b1] aU)) ?iG ?iH
      case iG=>
       clear a;refine BX (fun eO g aU=>∃bG,∃aA,Ds aM i cH f c aN aT eO bG aA=some eN∧Fo X0 155 g∧sl g 3=pt b1 0∧sl g 7=I (cH%(i.Ab.length:Int))∧sl g 9=.slice aB f.1.length aC∧sl g 11=pt aX 0∧sl g 13=I aN.1∧sl g 15=I bG∧sl g 16=.slice aG aT.length aH∧sl g 17=I aA∧Hp FN [] w [some aX,some b1] aU∧Bk aU b1 67 (Ay m o d e p q r s t x y z i).toArray∧Bk aU aX 60 #[I c.1.Lo,I c.1.Hi]∧(fun eP=>Sl AA aU eP m o i.Ak∧Sl (BH (Ai .i64)) aU eP d e i.Ab∧Sl AH aU eP p q i.Aw∧Sl AZ aU eP r s i.AB∧Sl Bb aU eP t x i.AF∧Sl Bq aU eP y z i.AM∧Sl AA aU eP aB aC f.1∧Sl (BH (Ai .i64)) aU eP aG aH aT) (zf Z w [some aX,some b1])) aM ?iI ?iJ
       case iI=>
        intro st;have gS:=(eM.ext cX);have gF:=((bO.bk.ext cQ).ext cX);have ⟨eU,eV,eW,eX,eY,eZ⟩:=CA cR cS cT cU cV cW (Ac cX);have eG:=(((((((bL.mv (Ac cJ)).mv (Ac bM)).mv (Ac cK)).mv (Az bC)).mv (cL.BA bO.gr 0 rfl)).mv (Ac cQ)).mv (Ac cX));exact⟨(0:Int),(0:Int),bQ,qo st,sp st 3 rfl,sp st 7 rfl,sp st 9 rfl,sp st 11 rfl,sp st 13 rfl,sp st 15 rfl,sp st 16 rfl,sp st 17 rfl,iF,gS,gF,eU,eV,eW,eX,eY,eZ,eG,bP⟩
       case iJ=>
        rintro(_|eO) j8 j9 ⟨bG,aA,bQ,g7,cY,bH,cZ,bR,d3,d4,aV,aW,gT,bS,e0,cA,cB,cC,cD,cE,cF,dD,aL⟩
        ·exact absurd (show none=some _ from bQ) (by simp)
        rw[Ds.eq_2] at bQ;have a:=bQ;clear bQ;refine ro g7<|Af<|cr<|wM (v:=I aA) aW<|wM (v:=.slice aG aT.length aH) aV<|wD (fun st=>Br Tryz.underlying23 (eR st))<|wD (fun st=>B9 (eR st) (eR st))<|wn ?_;rcases Ae (decide (aA<(aT.length:Int))) with c0|c0
        ·replace a:=An a c0;refine Ah rfl c0<|cn<|Af<|AI<|Af ?_;replace a:=AT a;obtain⟨i46,hJ,iK,iL,iM,a⟩:=a;obtain⟨jY,jZ,_,iN,⟨fH,fI,rfl,gU⟩,iO⟩:=Sl.Cy aL rfl iL;replace a:=bind_some a;obtain⟨aD,iP,a⟩:=a;replace a:=AT a;obtain⟨i48,hL,iQ,iR,iS,a⟩:=a;obtain⟨j0,j1,_,iT,⟨fJ,fK,rfl,gV⟩,iU⟩:=Sl.Cy aL rfl iR;refine BU 13 [Kc (.agg (Ay m o d e p q r s t x y z i).toArray),Kc (.slice aG aT.length aH),Kc (I aA),Kc (pt jY (jZ+i46)),Kc (.slice fH hJ.length fI),Kc (I (cH%(i.Ab.length:Int))),Kc (I aD),Kc (.agg (Ay m o d e p q r s t x y z i).toArray),Kc (.slice aG aT.length aH),Kc (I aA),Kc (pt j0 (j1+i48)),Kc (.slice fJ hL.length fK),Kc (I aN.1)] mixed rfl rfl
             (Aa (oD (fun K=>Ba (l:=(Ay m o d e p q r s t x y z i)) E6 (es ((K.out 3 rfl).trans cY)) (bS.ext K.AQ) rfl rfl))
             (Aa (oD (fun K=>Au (es ((K.out 16 rfl).trans aV))))
             (Aa (oD (fun K=>Au (es ((K.out 17 rfl).trans aW))))
             (Aa (oD (fun K=>Bi (k:=i46) Tryz.underlying23 EO (es (K.dq 1 102)) iN (es (K.dq 2 103)) iK iM))
             (Aa (oD (fun K=>Bp CO (es (K.dq 3 104)) (iO.mv (Ac K.AQ)) rfl))
             (Aa (oD (fun K=>Au (es ((K.out 7 rfl).trans bH))))
             (Aa (oE (fun K=>(Aj RU rfl (Ek (es (K.dq 0 101)) (es (K.dq 4 105)) (es (K.dq 5 106))) (a54 aM i hJ (cH%(i.Ab.length:Int)) m o d e p q r s t x y z fH fI ZA _ (cA.mv (Ac K.AQ)).all (cB.mv (Ac K.AQ)).all (cC.mv (Ac K.AQ)).all (cD.mv (Ac K.AQ)).all (cE.mv (Ac K.AQ)).all (cF.mv (Ac K.AQ)).all (gU.mv (Ac K.AQ)).all aD iP)).mono (fun _ _ h=>⟨h.2,h.1⟩)))
             (Aa (oD (fun K=>Ba (l:=(Ay m o d e p q r s t x y z i)) E6 (es ((K.out 3 rfl).trans cY)) (bS.ext K.AQ) rfl rfl))
             (Aa (oD (fun K=>Au (es ((K.out 16 rfl).trans aV))))
             (Aa (oD (fun K=>Au (es ((K.out 17 rfl).trans aW))))
             (Aa (oD (fun K=>Bi (k:=i48) Tryz.underlying23 EO (es (K.dq 8 109)) iT (es (K.dq 9 110)) iQ iS))
             (Aa (oD (fun K=>Bp CO (es (K.dq 10 111)) (iU.mv (Ac K.AQ)) rfl))
             (Aa (oD (fun K=>Au (es ((K.out 13 rfl).trans d3))))
             (BS _)))))))))))))) ?_
         intro kS;rintro _ rfl _ rfl _ rfl _ rfl _ rfl _ rfl _ rfl _ rfl _ rfl _ rfl _ rfl _ rfl _ rfl bT;have iV:=gT.ext bT;have ⟨c1,c2,c3,c4,c5,c6,eQ⟩:=IF cA cB cC cD cE cF gV (Ac bT);replace a:=bind_some a;obtain⟨aE,iW,a⟩:=a;refine wE (fun st=>Aj AaQ (eR st) (Ek (eR st) (eR st) (eR st)) (a55 aM i hL aN.1 m o d e p q r s t x y z fJ fK ZA _ c1.all c2.all c3.all c4.all c5.all c6.all eQ.all aE iW)) ?_;rintro _ j2 ⟨bU,rfl⟩;have e1:=iV.ext bU;refine wA (v:=I aD) rfl<|wA (v:=I aE) rfl<|wn<|Af ?_;replace a:=AT a;obtain⟨i52,bI,iX,iY,iZ,a⟩:=a;have aQ:=((dD.mv (Ac bT)).mv (Ac bU));obtain⟨hM,hN,_,i0,rfl,i1⟩:=Sl.elem aQ (by decide) iY;replace a:=AT a;obtain⟨i53,bJ,i2,i3,i4,a⟩:=a;obtain⟨hO,hP,_,i5,rfl,i6⟩:=Sl.elem aQ (by decide) i3;have bV:=((e0.ext bT).ext bU);refine BU 24 [Kc (I aD),Kc (.slice aB f.1.length aC),Kc (I (cH%(i.Ab.length:Int))),Kc (pt hM (hN+i52*2)),Kc (pt hM (hN+i52*2)),Kc (I bI.Lo),Kc (.bool (aD==bI.Lo)),Kc (I aD),Kc (.slice aB f.1.length aC),Kc (I (cH%(i.Ab.length:Int))),Kc (pt hO (hP+i53*2)),Kc (pt hO (hP+i53*2+1)),Kc (I bJ.Hi),Kc (.bool (aD==bJ.Hi)),Kc (I aE),Kc (pt aX 0),Kc (I c.1.Lo),Kc (.bool (aE==c.1.Lo)),Kc (I aE),Kc (pt aX 1),Kc (I c.1.Hi),Kc (.bool (aE==c.1.Hi)),Kc (.agg #[.bool (aD==bI.Lo),.bool (aD==bJ.Hi),.bool (aE==c.1.Lo),.bool (aE==c.1.Hi)]),Kn j2.heap.size (fun b=>.pointer (some ⟨b,0,none⟩)) 90 #[.bool false,.bool false,.bool false,.bool false]] mixed rfl rfl
             (Aa (oD (fun K=>Au (K.kO 18)))
             (Aa (oD (fun K=>Au (es ((K.out 9 rfl).trans cZ))))
             (Aa (oD (fun K=>Au (es ((K.out 7 rfl).trans bH))))
             (Aa (oD (fun K=>Bu (k:=i52) Tryz.underlying55 Hs (es (K.dq 1 116)) i0 (es (K.dq 2 117)) iX iZ))
             (Aa (oD (fun K=>Ad (es (K.dq 3 118)) (S5 _ _ _)))
             (Aa (oD (fun K=>Bp Bg (es (K.dq 4 119)) (i1.mv (Ac K.AQ)) rfl))
             (Aa (oD (fun K=>Dp (es (K.dq 0 115)) (es (K.dq 5 120))))
             (Aa (oD (fun K=>Au (K.kO 18)))
             (Aa (oD (fun K=>Au (es ((K.out 9 rfl).trans cZ))))
             (Aa (oD (fun K=>Au (es ((K.out 7 rfl).trans bH))))
             (Aa (oD (fun K=>Bu (k:=i53) Tryz.underlying55 Hs (es (K.dq 8 123)) i5 (es (K.dq 9 124)) i2 i4))
             (Aa (oD (fun K=>Ad (es (K.dq 10 125)) (Zn _ _ _)))
             (Aa (oD (fun K=>DO Bg (es (K.dq 11 126)) (i6.mv (Ac K.AQ)) rfl))
             (Aa (oD (fun K=>Dp (es (K.dq 7 122)) (es (K.dq 12 127))))
             (Aa (oD (fun K=>Au (K.kO 19)))
             (Aa (oD (fun K=>Ad (es ((K.out 11 rfl).trans bR)) (LA _ _)))
             (Aa (oD (fun K=>Ag Bg (es (K.dq 15 130)) (bV.ext K.AQ) rfl))
             (Aa (oD (fun K=>Dp (es (K.dq 14 129)) (es (K.dq 16 131))))
             (Aa (oD (fun K=>Au (K.kO 19)))
             (Aa (oD (fun K=>Ad (es ((K.out 11 rfl).trans bR)) (LB _ _)))
             (Aa (oD (fun K=>Ag Bg (es (K.dq 19 134)) (bV.ext K.AQ) rfl))
             (Aa (oD (fun K=>Dp (es (K.dq 18 133)) (es (K.dq 20 135))))
             (Aa (oD (fun K=>DS (vs:= #[(0,.bool (aD==bI.Lo)),(1,.bool (aD==bJ.Hi)),(2,.bool (aE==c.1.Lo)),(3,.bool (aE==c.1.Hi))]) (v:=.agg #[.bool (aD==bI.Lo),.bool (aD==bJ.Hi),.bool (aE==c.1.Lo),.bool (aE==c.1.Hi)]) (pm4 (es (K.dq 6 121)) (es (K.dq 13 128)) (es (K.dq 17 132)) (es (K.dq 21 136))) (by kernel_rfl)))
             (Aa (oE (fun K=>(B8 (cs:= #[.bool false,.bool false,.bool false,.bool false]) Zo rfl).mono (fun u BD hh=>Abh (K.AQ).size hh)))
             (BS _))))))))))))))))))))))))) ?_
         intro kT;rintro _ rfl _ rfl _ rfl _ rfl _ rfl _ rfl _ rfl _ rfl _ rfl _ rfl _ rfl _ rfl _ rfl _ rfl _ rfl _ rfl _ rfl _ rfl _ rfl _ rfl _ rfl _ rfl _ rfl _ ⟨d5,rfl,aI,cG⟩ bW;have i7:=e1.ext bW;have bX:=e1.Zh i7 aI cG.lt;have g8:w.heap.size≤d5:=Nat.le_trans e1.sz aI;refine BI rfl rfl (fun st=>By (n:=4) (l:=[.bool (aD==bI.Lo),.bool (aD==bJ.Hi),.bool (aE==c.1.Lo),.bool (aE==c.1.Hi)]) (CB:= #[.bool (aD==bI.Lo),.bool (aD==bJ.Hi),.bool (aE==c.1.Lo),.bool (aE==c.1.Hi)]) (eR st) (eR st) Abj cG rfl rfl (show 0+4≤4 by decide) (Bh rfl) rfl) ?_;rintro _ hQ bE;have i8:=bX.gr bE.gr 0 rfl;refine wr<|wA (v:=I 0) rfl<|wn<|AI ?_;replace a:=bind_some a;obtain⟨gW,bY,a⟩:=a;refine BY (fun gR g aU=>(gR=.exit 2∧Fo X0 155 g∧sl g 3=pt b1 0∧sl g 7=I (cH%(i.Ab.length:Int))∧sl g 9=.slice aB f.1.length aC∧sl g 11=pt aX 0∧sl g 13=I aN.1∧sl g 15=I gW∧sl g 16=.slice aG aT.length aH∧sl g 17=I aA∧hQ=aU)) ?i9 ?jA
         case i9=>
          clear a;refine BX (fun eO g aU=>∃aK,∃j,CD c aD aE bI bJ eO aK j=some gW∧Fo X0 155 g∧sl g 3=pt b1 0∧sl g 7=I (cH%(i.Ab.length:Int))∧sl g 9=.slice aB f.1.length aC∧sl g 11=pt aX 0∧sl g 13=I aN.1∧sl g 15=I aK∧sl g 16=.slice aG aT.length aH∧sl g 17=I aA∧sl g 20=pt d5 0∧sl g 21=I j∧hQ=aU) aM ?jB ?jC
          case jB=>
           intro st;exact⟨bG,(0:Int),bY,qo st,sp st 3 cY,sp st 7 bH,sp st 9 cZ,sp st 11 bR,sp st 13 d3,sp st 15 d4,sp st 16 aV,sp st 17 aW,sp st 20 rfl,sp st 21 rfl,rfl⟩
          case jC=>
           rintro(_|eO) kA _ ⟨aK,j,bY,g9,c7,c8,c9,bZ,b4,b5,b6,b7,b8,aO,rfl⟩
           ·exact absurd (show none=some _ from bY) (by simp)
           rw[CD.eq_2] at bY;have a:=bY;clear bY;refine ro g9<|Af<|cr<|wM (v:=I j) aO<|wD (fun st=>B9 (eR st) (eR st))<|wn ?_;rcases Ae (decide (j<4)) with dA|dA
           ·replace a:=An a dA;refine Ah rfl dA<|cn<|Af<|AI<|cr<|wM (v:=I j) aO ?_;replace a:=AT a;obtain⟨i57,hR,jD,jE,jF,a⟩:=a;refine wD (fun st=>Gn (k:=i57) Tryz.underlying90 NG (ee st b8) (eR st) jD jF)<|wD (fun st=>Ag (v:=.bool hR) Ka (eR st) bE.bk (Zg (l:=[aD==bI.Lo,aD==bJ.Hi,aE==c.1.Lo,aE==c.1.Hi]) jE))<|wn ?_;rcases Ae (hR) with dB|dB
            ·replace a:=An a dB;refine Ah rfl dB<|Al<|wM (v:=I aK) b5<|wM (v:=I j) aO ?_;replace a:=GI a;obtain⟨jG,a⟩:=a;refine wD (fun st=>It (k:=.u64) MU Tryz.underlying91 (eR st) jG) ?_;replace a:=Kl a;obtain⟨jH,a⟩:=a;refine wD (fun st=>NR (eR st) (eR st) jH) ?_;replace a:=Lb a;obtain⟨jI,a⟩:=a;refine wD (fun st=>TQ (eR st) (eR st) jI)<|wA (v:=I (Lp aK (Gr (1:Int) j))) rfl<|Bj<|CU<|Al<|wM (v:=I j) aO ?_;replace a:=AL a;obtain⟨jJ,a⟩:=a;refine wD (fun st=>BL (eR st) (eR st) jJ)<|wA (v:=I (j+1)) rfl<|Bj ?_;refine Bv eO (Nat.lt_succ_self _) (fun st=>?_);exact⟨(Lp aK (Gr (1:Int) j)),(j+1),a,qo st,sp st 3 c7,sp st 7 c8,sp st 9 c9,sp st 11 bZ,sp st 13 b4,sp st 15 rfl,sp st 16 b6,sp st 17 b7,sp st 20 b8,sp st 21 rfl,rfl⟩
            ·replace a:=Ao a dB;refine Aq rfl dB<|Cp<|CU<|Al<|wM (v:=I j) aO ?_;replace a:=AL a;obtain⟨jK,a⟩:=a;refine wD (fun st=>BL (eR st) (eR st) jK)<|wA (v:=I (j+1)) rfl<|Bj ?_;refine Bv eO (Nat.lt_succ_self _) (fun st=>?_);exact⟨aK,(j+1),a,qo st,sp st 3 c7,sp st 7 c8,sp st 9 c9,sp st 11 bZ,sp st 13 b4,sp st 15 b5,sp st 16 b6,sp st 17 b7,sp st 20 b8,sp st 21 rfl,rfl⟩
           ·replace a:=Ao a dA;refine Aq rfl dA<|DG ?_;obtain rfl:=oi a;refine BF (fun st=>?_);exact⟨rfl,qo st,sp st 3 c7,sp st 7 c8,sp st 9 c9,sp st 11 bZ,sp st 13 b4,sp st 15 b5,sp st 16 b6,sp st 17 b7,rfl⟩
         case jA=>
          rintro gR j6 _ (⟨rfl,gX,gG,gH,gI,e2,e3,e4,e5,e6,rfl⟩);refine lf gX<|Bd<|CU<|Al<|wM (v:=I aA) e6 ?_;replace a:=AL a;obtain⟨jL,a⟩:=a;refine wD (fun st=>BL (eR st) (eR st) jL)<|wA (v:=I (aA+1)) rfl<|Bj ?_;have jM:=i8.erase 0;have gY:=((((bS.ext bT).ext bU).ext bW).gr bE.gr (bX.nq 2 0));have gJ:=((bV.ext bW).gr bE.gr (bX.nq 1 0));have ⟨e7,e8,e9,fA,fB,fC⟩:=CA c1 c2 c3 c4 c5 c6 (mt (Ac bU) (mt (P9 (Ac bW) aI) (mt (bX.BA bE.gr 0 rfl) (AD 0))));have eH:=(((aQ.mv (P9 (Ac bW) aI)).mv (bX.BA bE.gr 0 rfl)).mv (AD 0));have eI:=(((((aL.mv (Ac bT)).mv (Ac bU)).mv (P9 (Ac bW) aI)).mv (bX.BA bE.gr 0 rfl)).mv (AD 0));refine Bv eO (Nat.lt_succ_self _) (fun st=>?_);exact⟨gW,(aA+1),a,qo st,sp st 3 gG,sp st 7 gH,sp st 9 gI,sp st 11 e2,sp st 13 e3,sp st 15 e4,sp st 16 e5,sp st 17 rfl,jM,gY,gJ,e7,e8,e9,fA,fB,fC,eH,eI⟩
        ·replace a:=Ao a c0;refine Aq rfl c0<|DG ?_;obtain rfl:=oi a;refine BF (fun st=>?_);exact⟨rfl,qo st,sp st 15 d4,gT⟩
      case iH=>
       rintro gR j7 kB (⟨rfl,gZ,fD,hA⟩);refine lf gZ<|Bd<|BM<|cr<|wM (v:=I eN) fD<|wD (fun st=>Dp (eR st) (eR st))<|wM (v:=.bool (eN==15)) rfl ?_;rcases Ae (eN==15) with dC|dC
       ·replace a:=An a dC;replace a:=Cl a;obtain⟨jN,a⟩:=a;refine wX dC (fun st=>Aj JI (eR st) Hv (a37 aM ZA _ jN)) ?_;rintro _ kU ⟨jO,rfl⟩;have jP:=hA.ext jO;refine wD (fun st=>AY (v:=.bool true) (eR st) dC (eR st))<|wA (v:=.bool true) rfl<|wn<|Am ?_;have bF:=oi a;refine Av rfl rfl ?_;exact⟨jP.Bf,congrArg Value.bool bF⟩
       ·replace a:=Ao a dC;exact absurd (oi a) (by decide)
end Go.Proofs.YtbhofkcbfblijaaGreat
end
section
namespace Go.Proofs.YtbhofkcbfblijaaGreat
open Go.RowKit Go.ChangeShapes Go.WideShapes Go.ChangeAt
theorem QF(t:AE)(k b:Int)(h1:GD .u8 k)(h2:GD .u8 b):∃K,Fk K t k b=some true:=Qb t k b (by have:=W7 h1;omega) (by have:=W7 h1;omega) (by have:=W7 h2;omega) (by have:=W7 h2;omega)
set_option maxRecDepth 100000 in
theorem OL(os:Os)(started:os.Started)(H:Type)(enc:TypeId×Value→H):
  ReturnsInHanded {} Tryz.checked os 6 .any (Rows.tradeEndsSpec.pre6 enc Tryz.prog Tryz.f6 Rows.tradeEndsRow.domain false) (Rows.tradeEndsSpec.post enc Tryz.prog Tryz.f6 false true false false):=by
 refine returnsInHanded_of_change_sized (C:=Tryz.checked) AaD started (by kernel_rfl) Tryz.func6
  (ChangeSpec.witness6 (enc:=enc) (C:=Tryz.checked) false ⟨#[], #[.agg #[.slice none 0 0,.slice none 0 0,.slice none 0 0,.int .i64 0,.slice none 0 0,.slice none 0 0,.slice none 0 0],.int .u8 0,.int .u8 0],[]⟩ 8 (by kernel_rfl) (by kernel_rfl) (by kernel_rfl) (by kernel_rfl)) ?_
 intro W base args ds gs before d aF aP aG _;have a:∀(j:Nat) t v,Tryz.f6.params[j]?=some t→args[j]?=some v→Value.okWide Tryz.prog W .any base t v:=d;have b:=aF;obtain⟨p,q,aH,aQ,rfl,aW,aX⟩:=aF;have g:DataW.TrodAll enc Tryz.prog W 0 (fun _=>true) true Tryz.f6.params.toList args.toList ds p:=aH;obtain⟨rfl,rfl⟩:=trodVars_none aQ;simp only[List.append_nil] at b;have aI:∀x∈p,x.block<W.heap.size:=fun x f=>by simpa using b.lt x f
 have aJ:=g;have c:(DataW.weightsEach Tryz.prog (Tryz.f6.params.toList++[]) (ds++[])).all (· ≤reachBytes)=true:=aG;rw[Tryz.params6] at g a c;obtain⟨v0,v1,v2,d0,d1,d2,aR,aS,aT,rfl,rfl,rfl,h0,h1,h2⟩:=trodAll_three g;obtain⟨aK,aY,aL,⟨h,i,k,l,m,n,o,r,s,u,w,y,rfl,z,aA,aB,aC,aD,aE⟩,w0⟩:=Tv Tryz.underlying67 Vd (a 0 67 v0 rfl rfl) h0 (P2 (j:=0) c rfl rfl);obtain⟨x1,aM,w1⟩:=P3 Tryz.underlying5 (a 1 5 v1 rfl rfl) h1;obtain⟨x2,aN,w2⟩:=P3 Tryz.underlying5 (a 2 5 v2 rfl rfl) h2;subst aL;subst aM;subst aN;obtain⟨K,aU⟩:=QF aK x1 x2 w1 w2;refine(Qw (a6 K aK x1 x2 h i k l m n o r s u w y ZA W z aA aB aC aD aE aU)).mono fun e W' ⟨v,he,f,aV⟩=>?_;subst he;subst aV;exact⟨_,rfl,Oe (pa:=(aR++aS++aT)) (pv:=[]) b (fun _ _ _=>trodAll_mk1 (shut_bool Tryz.underlying4 _)) (fun sp hs=>Qv W3 W4 (by rw[Tryz.params6];decide) aJ f aI sp (fun x aO=>hs x (by simpa using aO))) (fun _ _=>rfl) (by simp) f (ok_one (by kernel_rfl) rfl (okWide_bool_mk Tryz.underlying4 _))⟩
theorem Kd:((Rows.tradeEndsRow.inPlace==Tryz.checked.prog.inPlace 6)&&(Rows.tradeEndsRow.unfollowed==Tryz.checked.prog.unfollowed 6)&&(Rows.tradeEndsRow.recurses==Tryz.checked.prog.recurses 6)&&(Rows.tradeEndsRow.named==Tryz.checked.prog.varsNamed 6))=true:=by kernel_rfl
theorem Py:joinedFacts Tryz.checked.prog 6 Tryz.f6 Rows.tradeEndsSpec Rows.tradeEndsRow=true:=by
 unfold joinedFacts;exact(CG (CG (CG (CG (CG (CG (CG (CG (CG (CG (CG (CG (CG (CG (CG (CG (CG (CG (CG (CG (CG (CG (CG (CG (CG (CG (CG (CG (CG (CG (CG (by kernel_rfl) Ve) Vf) (by kernel_rfl)) (by kernel_rfl)) (by kernel_rfl)) Tw) (by kernel_rfl)) Tx) (KJ (KJ (KJ Kd)))) (Of (KJ (KJ Kd)))) (Of (KJ Kd))) (Of Kd)) (by kernel_rfl)) (by kernel_rfl)) (by kernel_rfl)) (by kernel_rfl)) (by kernel_rfl)) (by kernel_rfl)) (by kernel_rfl)) (by kernel_rfl)) (by kernel_rfl)) Vg) (by kernel_rfl)) Ty) (KJ (KJ Mw))) (Of (KJ Mw))) (Of Mw)) (by kernel_rfl)) (by kernel_rfl)) (by kernel_rfl)) (by kernel_rfl))
theorem tradeEnds_holds:Rows.TradeEndsSaid:=
 OpenClaim.holds_of_wide 6 Tryz.f6 rfl rfl rfl rfl rfl rfl rfl ⟨rfl,rfl,rfl,rfl,rfl⟩ rfl rfl rfl rfl rfl (by kernel_rfl) Tryz.func6 Py
  (of_decide_eq_true (by kernel_rfl)) (by unfold Func.isWrapper;rw[if_neg (by decide+kernel)];exact⟨rfl,rfl⟩)
  (fun os started H enc _=>OL os started H enc)
end Go.Proofs.YtbhofkcbfblijaaGreat
end
