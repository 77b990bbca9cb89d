import Derived.Test.YtbhofkcbfblijaaGreatETradeSums
import Derived.Test.YtbhofkcbfblijaaGreatRows
/-
  Proved: the law TradeSums returns true for every argument that the row hands over, and leaves every argument as it was; no condition beside the row's own.
-/
set_option linter.all false
section
namespace Go.Proofs.YtbhofkcbfblijaaGreat
open Go.RowKit Go.WideShapes
def IJ(j:Nat)(f:Aj)(e:(List AN)×Int):Nat→Int→Int→Int→Int→Option (Int×Int×Int)
 |0,_,_,_,_=>none
 |k+1,b,c,d,a=>cond (decide (a<(e.1.length:Int))) ((BZ j f a).bind fun g=>(i64 (f.Flat*g)).bind fun _=>(i64 (b+(f.Flat*g))).bind fun _=>(idx e.1 a).bind fun h=>(i64 (c+h.Lo)).bind fun _=>(idx e.1 a).bind fun i=>(i64 (d+i.Hi)).bind fun _=>(i64 (a+1)).bind fun _=>IJ j f e k (b+(f.Flat*g)) (c+h.Lo) (d+i.Hi) (a+1)) (some ((b,c,d)))
def LB(b:Nat)(a:Aj)(i:Int):Option (Bool):=
 (B6 b a).bind fun s=>cond (!s) ((EG (Bx b=some true)).bind fun _=>some (true)) (cond ((a.Ac.length:Int)==0) ((EG (Bx b=some true)).bind fun _=>some (true)) ((E5 .i64 i).bind fun _=>(rem i (a.Ac.length:Int)).bind fun _=>(Co b a).bind fun n=>(F9 b n).bind fun c=>(Co b a).bind fun o=>(Gn b o ([]:List Int)).bind fun f=>(Co b a).bind fun p=>(Gn b p [i%(a.Ac.length:Int)]).bind fun g=>(Co b a).bind fun q=>(Em b a 255).bind fun r=>(Gn b q r).bind fun h=>cond (c.2 !=0) (cond (c.2==9) (cond (f.2==c.2) (cond (g.2==c.2) (cond (h.2==c.2) ((EG (Bx b=some true)).bind fun _=>some (true)) (some (false))) (some (false))) (some (false))) (cond (c.2==11) (cond (f.2==c.2) (cond (g.2==c.2) (cond (h.2==c.2) ((EG (Bx b=some true)).bind fun _=>some (true)) (some (false))) (some (false))) (some (false))) (some (false)))) (cond (f.2 !=0) (some (false)) (cond (g.2 !=0) (some (false)) (cond (h.2 !=0) (some (false)) (cond ((c.1.length:Int) !=(a.Ac.length:Int)) (some (false)) ((IJ b a c b (0:Int) (0:Int) (0:Int) (0:Int)).bind fun d=>(BZ b a (i%(a.Ac.length:Int))).bind fun e=>(i64 (a.Flat*e)).bind fun _=>(i64 (d.1-(a.Flat*e))).bind fun _=>(Hq b d.1 d.1).bind fun j=>cond ([f.1.Lo,f.1.Hi]==[j.Lo,j.Hi]) ((idx c.1 (i%(a.Ac.length:Int))).bind fun k=>(i64 (k.Lo+(d.1-(a.Flat*e)))).bind fun _=>(idx c.1 (i%(a.Ac.length:Int))).bind fun l=>(i64 (l.Hi+(d.1-(a.Flat*e)))).bind fun _=>(Hq b (k.Lo+(d.1-(a.Flat*e))) (l.Hi+(d.1-(a.Flat*e)))).bind fun m=>cond ([g.1.Lo,g.1.Hi]==[m.Lo,m.Hi]) (cond (decide (d.2.1≤h.1.Lo)) (cond (decide (h.1.Hi≤d.2.2)) ((EG (Bx b=some true)).bind fun _=>some (true)) (some (false))) (some (false))) (some (false))) (some (false)))))))))
end Go.Proofs.YtbhofkcbfblijaaGreat
end
section
namespace Go.Proofs.YtbhofkcbfblijaaGreat
theorem AaF{n:Nat}(h0:0<n){k:Int}(hk:0≤k):∃q:Nat,k%(n:Int)=(q:Int)∧q<n:=by
 have h1:=Int.emod_nonneg k (by omega:(n:Int)≠0);have h2:=Int.emod_lt_of_pos k (by omega:(0:Int)<n);exact⟨(k%(n:Int)).toNat,by omega,by omega⟩
section
variable{K:Nat}(hK:1000≤K)
include hK
def OV (t:Aj) (k:Nat):Int:=(t.Ac.getD k []).sum*t.Flat
omit hK in
theorem Af5 (t:Aj) (l:List Int):Ep t [] l=Du (OV t) t.Ac.length:=by
 unfold Ep
 exact Ic _ fun k _=>by unfold EM;rfl
omit hK in
theorem Zb (f g:Nat→Int) (q:Nat) (h:∀k,k≠q→f k=g k):∀n,Du f n=Du g n+if q<n then f q-g q else 0
 |0=>by simp[Du]
 |n+1=>by
  rw[Du,Du,Zb f g q h n]
  by_cases e:q=n
  ·subst e
   rw[if_neg (by omega),if_pos (by omega)];omega
  ·rw[h n (Ne.symm e)]
   by_cases hq:q<n
   ·rw[if_pos hq,if_pos (by omega)];omega
   ·rw[if_neg hq,if_neg (by omega)];omega
omit hK in
theorem YI {t:Aj} {q:Nat} (hq:q<t.Ac.length) (l:List Int):Ep t [(q:Int)] l=(As t l).getD q 0+(Du (OV t) t.Ac.length-OV t q):=by
 have h:=Zb (EM t [(q:Int)] l) (OV t) q (fun k hk=>by
  unfold EM
  rw[if_neg (by rw[List.contains_iff_mem,List.mem_singleton];omega)];rfl) t.Ac.length
 rw[if_pos hq] at h
 unfold Ep
 rw[h]
 have:EM t [(q:Int)] l q=(As t l).getD q 0:=by unfold EM;rw[if_pos (by rw[List.contains_iff_mem,List.mem_singleton])]
 rw[this];omega
theorem XW(ha:Bx K=some true)(t:Aj)(k:Int)(hk:0≤k)(aZ:k<256):LB K t k=some true:=by
 unfold LB;rcases I4 hK t with h|⟨h,j,hr⟩
 ·rw[bd h,nf,Dt ha]
 rw[bd hr,nt];have hlen:=E9 h;have aH:=j.kl
 by_cases a0:t.Ac.length=0
 ·rw[ct (EO (by omega)),Dt ha]
 obtain⟨q,hq,a⟩:=AaF (n:=t.Ac.length) (by omega) hk;obtain⟨B,aM,a4,aN⟩:=O2 hK h;have w0:C9 t.Ac.length 0 []=true:=rfl;have w1:C9 t.Ac.length 0 [(q:Int)]=true:=by rw[C9,Dv.2 ⟨by omega,by omega⟩];rfl
 have aA:=OU 255 t.Ac.length;have w2:=GS aA;have a2:=I1 (255&&&(2^t.Ac.length-1));obtain⟨r,aO,_,aP⟩:=Ny hK h (BL:=[]) (by simp);obtain⟨u,aQ,_,aR⟩:=Ny hK h (BL:=[(q:Int)]) (by simp);obtain⟨v,v1,_,v3⟩:=Ny hK h (BL:=Ba (255&&&(2^t.Ac.length-1))) (by omega);have aB:Em K t 255=some (Ba (255&&&(2^t.Ac.length-1))):=Sm hK j (s:=255) (by omega);rw[cf (Gw (by omega)),QL hk (by omega),I7 hk (by omega),hq,bd (GI hK t hlen),bd aM,bd (GI hK t hlen),bd aO,bd (GI hK t hlen),bd aQ,bd (GI hK t hlen),bd aB,bd v1,I9 w0,I9 w1,I9 w2]
 by_cases h0:BQ t=0
 ·have x:=aN h0;have a3:=x.len;have aI:=aP (by rw[I9 w0,h0]);have aS:=aR (by rw[I9 w1,h0]);have aJ:=v3 (by rw[I9 w2,h0]);have m:q<B.length:=by omega
  have y:=x.is q m
  
  have er:r=⟨Du (OV t) t.Ac.length,Du (OV t) t.Ac.length⟩:=by
   obtain⟨l,_,aC⟩:=aI.lo;obtain⟨l',_,aD⟩:=aI.hi;rw[Af5] at aC aD;exact Ji aC.symm aD.symm
  have aT:u=⟨B[q].Lo+(Du (OV t) t.Ac.length-OV t q),B[q].Hi+(Du (OV t) t.Ac.length-OV t q)⟩:=by
   refine aS.uniq ⟨?_,?_,fun l hl=>?_⟩
   ·obtain⟨l,hl,e⟩:=y.lo;exact⟨l,hl,by rw[YI a];simp only at e⊢;omega⟩
   ·obtain⟨l,hl,e⟩:=y.hi;exact⟨l,hl,by rw[YI a];simp only at e⊢;omega⟩
   ·have:=y.all l hl;rw[YI a];simp only at this⊢;omega
  have o:∀l,Ep t (Ba (255&&&(2^t.Ac.length-1))) l=Du (fun k=>(As t l).getD k 0) t.Ac.length:=fun l=>by
   unfold Ep;refine Ic _ fun k hk=>?_;unfold EM;rw[if_pos];have hb:∀c:Nat,c≤3→∀k,k<c→(255&&&(2^c-1)).testBit k=true:=by decide
   rw[Ka (by omega)];exact hb _ aH _ hk
  have aK:Du (fun k=>(B.getD k ⟨0,0⟩).Lo) t.Ac.length≤v.Lo:=by
   obtain⟨l,hl,e⟩:=aJ.lo;rw[←e,o];refine W1 _ fun k hk=>?_;rw[Cx _ (show k<B.length by omega)];exact((x.is k (by omega)).all l hl).1
  have aL:v.Hi≤Du (fun k=>(B.getD k ⟨0,0⟩).Hi) t.Ac.length:=by
   obtain⟨l,hl,e⟩:=aJ.hi;rw[←e,o];refine W1 _ fun k hk=>?_;rw[Cx _ (show k<B.length by omega)];exact((x.is k (by omega)).all l hl).2
  have p:∀k (hk:k<B.length),0≤B[k].Lo∧B[k].Lo≤9000∧0≤B[k].Hi∧B[k].Hi≤9000:=fun k hk=>by
   obtain⟨l,_,e⟩:=(x.is k hk).lo;obtain⟨l',_,aU⟩:=(x.is k hk).hi;have:=N0 j l k;have:=N0 j l' k;have aC:(As t l).getD k 0=B[k].Lo:=e;have aD:(As t l').getD k 0=B[k].Hi:=aU;omega
  have w:∀k,k<t.Ac.length→0≤OV t k∧OV t k≤9000:=fun k hk=>Ly j k hk;have aE:∀(d n i:Nat),B.length=i+d→d<n→IJ K t (B,0) n (Du (OV t) i) (Du (fun k=>(B.getD k ⟨0,0⟩).Lo) i) (Du (fun k=>(B.getD k ⟨0,0⟩).Hi) i) (i:Int)=
    some (Du (OV t) t.Ac.length,Du (fun k=>(B.getD k ⟨0,0⟩).Lo) t.Ac.length,Du (fun k=>(B.getD k ⟨0,0⟩).Hi) t.Ac.length):=by
   intro d
   induction d with
   |zero=>
    intro n i aV hn;obtain⟨n,rfl⟩:∃aF,n=aF+1:=⟨n-1,by omega⟩;obtain rfl:i=t.Ac.length:=by omega
    rw[IJ.eq_2,cf (df (show¬(t.Ac.length:Int)<(B.length:Int) by omega))]
   |succ d ih=>
    intro n i aV hn;obtain⟨n,rfl⟩:∃aF,n=aF+1:=⟨n-1,by omega⟩;have hi:i<B.length:=by omega
    have z:i<t.Ac.length:=by omega
    have a5:=HM (f:=OV t) (b:=9000) i fun k hk=>w k (by omega);have a8:=HM (f:=fun k=>(B.getD k ⟨0,0⟩).Lo) (b:=9000) i fun k hk=>by have:=p k (by omega);rw[Cx _ (show k<B.length by omega)];omega
    have a9:=HM (f:=fun k=>(B.getD k ⟨0,0⟩).Hi) (b:=9000) i fun k hk=>by have:=p k (by omega);rw[Cx _ (show k<B.length by omega)];omega
    have aW:=p i hi;have aX:=w i z;have aG:t.Flat*t.Ac[i].sum=OV t i:=by unfold OV;rw[Cx _ z,Int.mul_comm]
    have:=ih n (i+1) (by omega) (by omega);simp only[Du] at this;rw[Cx _ hi] at this;rw[IJ.eq_2,ct (dt (show(i:Int)<(B.length:Int) by omega)),bd (Ih hK j z),aG,AZ (by omega) (by omega),AZ (by omega) (by omega)];show(idx B (i:Int)).bind _=_;rw[BS hi,AZ (by omega) (by omega)];show(idx B (i:Int)).bind _=_;rw[BS hi,AZ (by omega) (by omega),AZ (by omega) (by omega),CZ i,this]
  have g:=aE B.length K 0 (by omega) (by omega);have aY:IJ K t (B,0) K 0 0 0 0=_:=g;have bA:=HM (f:=OV t) (b:=9000) t.Ac.length fun k hk=>w k hk;have aW:=p q m;have aX:=w q a;have aG:t.Flat*t.Ac[q].sum=OV t q:=by unfold OV;rw[Cx _ a,Int.mul_comm]
  rw[h0,cf (E6 rfl),cf (E6 rfl),cf (E6 rfl),cf (E6 rfl),cf (E6 (show(B.length:Int)=(t.Ac.length:Int) by omega)),bd aY,bd (Ih hK j a),aG,AZ (by omega) (by omega),AZ (by omega) (by omega)];unfold Hq;rw[Option.bind_some,ct (el (by rw[er]))];show(idx B (q:Int)).bind _=_;rw[BS m,AZ (by omega) (by omega)];show(idx B (q:Int)).bind _=_;rw[BS m,AZ (by omega) (by omega),Option.bind_some,ct (el (by rw[aT])),ct (dt aK),ct (dt aL),Dt ha]
 ·rw[ct (Fy h0)];rcases Qh j h0 with e|e
  ·rw[e,ct (EO rfl),ct (EO rfl),ct (EO rfl),ct (EO rfl),Dt ha]
  ·rw[e,cf (Gw (show(11:Int)≠9 by decide)),ct (EO rfl),ct (EO rfl),ct (EO rfl),ct (EO rfl),Dt ha]
end
theorem YJ(t:Aj)(k:Int)(hk:0≤k)(a:k<256):∃K,LB K t k=some true:=⟨1000,XW (Nat.le_refl _) Lc t k hk a⟩
end Go.Proofs.YtbhofkcbfblijaaGreat
end
section
namespace Go.Proofs.YtbhofkcbfblijaaGreat
open Go.RowKit Go.WideShapes
set_option maxRecDepth 20000
open HF
attribute [local irreducible] Eb WL CC CW LV Cw JC HO One Bv
set_option maxHeartbeats 4000000 in
theorem a7 bX aD cS aV aW aK aL aX aY aZ a0 a2 a3 a4 a5(Z:Nat→Prop) w(jB:Sl AM w Z aV aW aD.Al)(jC:Sl (BO (Ay .i64)) w Z aK aL aD.Ac)(jD:Sl AQ w Z aX aY aD.Ap)(jE:Sl Bm w Z aZ a0 aD.AH)(jF:Sl Bl w Z a2 a3 aD.Aw)(jG:Sl BA w Z a4 a5 aD.Ao)(a:LB bX aD cS=some true):
 Cw Tryz.prog 7 #[.agg (Am aV aW aK aL aX aY aZ a0 a2 a3 a4 a5 aD).toArray,.int .u8 cS] w (fun v w'=>Ext w w'∧v=.bool true):=by
 unfold LB at a;refine AS (N:=185) Tryz.func7 rfl rfl (by simp) ?_;intro mI ha mJ;have j0:=sA 0 ha;have j1:=sA 1 ha;clear ha;have jK:Hp FN [] w [] w:=Hp.start (Cc.none w);have ⟨hD,hE,hF,hG,hH,hI⟩:=Cz jB jC jD jE jF jG (Bh (Z:=Z) (L:=[]) w);refine Af<|Ad<|wE (fun st=>Ci (v:=.agg (Am aV aW aK aL aX aY aZ a0 a2 a3 a4 a5 aD).toArray) (cs:=(Am aV aW aK aL aX aY aZ a0 a2 a3 a4 a5 aD).toArray) (ee st j0) rfl) ?_;rintro _ w1 ⟨b1,rfl,f1⟩;have lY:=jK.nb f1;have mB:=jK.Cr f1;refine wA (v:=.bool false) rfl<|Ag<|Ab<|Af<|Af<|Ad<|wD (fun st=>AR (l:=(Am aV aW aK aL aX aY aZ a0 a2 a3 a4 a5 aD)) Cj (eR st) f1.bk rfl rfl) ?_;have ⟨e1,e2,e3,e4,e5,e6⟩:=Cz hD hE hF hG hH hI (AP f1);replace a:=bind_some a;obtain⟨iX,lZ,a⟩:=a;refine wE (fun st=>Ar NC (eR st) (CR (eR st)) (R7 bX aD aV aW aK aL aX aY aZ a0 a2 a3 a4 a5 ZA _ e1.all e2.all e3.all e4.all e5.all e6.all iX lZ)) ?_;rintro _ m4 ⟨iY,rfl⟩;have g7:=lY.ext iY;refine wD (fun st=>Dz (eR st))<|wM (v:=.bool !iX) rfl ?_;rcases Ak (!iX) with bR|bR
 ·replace a:=Az a bR;have mC:iX=false:=by simpa using bR
  refine Au (c:=true) rfl rfl (Ae rfl bR) (by decide) rfl (by decide)<|Au (c:=true) rfl rfl (Ae rfl bR) (by decide) rfl (by decide)<|Au (c:=true) rfl rfl (Ae rfl bR) (by decide) rfl (by decide)<|Au (c:=true) rfl rfl (Ae rfl bR) (by decide) rfl (by decide)<|Au (c:=true) rfl rfl (Ae rfl bR) (by decide) rfl (by decide)<|wD (fun st=>AY (v:=.bool true) (eR st) bR (eR st))<|Ag<|Ab<|AD rfl rfl<|Af<|Ad ?_;replace a:=Ck a;obtain⟨l0,a⟩:=a;refine wE (fun st=>Ar EI (eR st) Gx (a37 bX ZA _ l0)) ?_;rintro _ m5 ⟨l1,rfl⟩;have l2:=g7.ext l1;refine wA (v:=.bool true) rfl<|Ag<|Ab<|AI<|Ax ?_;have dT:=oi a;refine AJ rfl rfl ?_;exact⟨l2.Bc,congrArg Value.bool dT⟩
 ·replace a:=AA a bR;have mD:iX=true:=by simpa using bR
  refine An rfl rfl (Ae rfl bR) rfl (by decide) (fun st=>Ai (eR st) (Ee _ _))<|An rfl rfl (Ae rfl bR) rfl (by decide) (fun st=>Ai (eR st) (Ei _ _)) ?_;have d9:=(f1.bk.ext iY);refine An rfl rfl (Ae rfl bR) rfl (by decide) (fun st=>AG (v:=.slice aK aD.Ac.length aL) El (eR st) d9 rfl)<|An rfl rfl (Ae rfl bR) rfl (by decide) (fun st=>Bu Tryz.underlying23 (eR st))<|An rfl rfl (Ae rfl bR) rfl (by decide) (fun st=>Dj (eR st) (eR st))<|wD (fun st=>BC (v:=.bool ((aD.Ac.length:Int)==0)) (eR st) bR (eR st))<|Ag<|Ab ?_;rcases Ak ((aD.Ac.length:Int)==0) with f2|f2
  ·replace a:=Az a f2;refine AD rfl f2<|Af<|Ad ?_;replace a:=Ck a;obtain⟨j2,a⟩:=a;refine wE (fun st=>Ar EI (eR st) Gx (a37 bX ZA _ j2)) ?_;rintro _ mK ⟨j3,rfl⟩;have l3:=g7.ext j3;refine wA (v:=.bool true) rfl<|Ag<|Ab<|AI<|Ax ?_;have dT:=oi a;refine AJ rfl rfl ?_;exact⟨l3.Bc,congrArg Value.bool dT⟩
  ·replace a:=AA a f2;refine AE rfl f2<|AL<|Ab<|Af<|Ad<|wM (v:=.int .u8 cS) j1 ?_;replace a:=D1 a;obtain⟨j4,a⟩:=a;refine wD (fun st=>EX (k:=.i64) Rh Tryz.underlying3 (eR st) j4)<|wD (fun st=>Ai (eR st) (Ee _ _))<|wD (fun st=>Ai (eR st) (Ei _ _))<|wD (fun st=>AG (v:=.slice aK aD.Ac.length aL) El (eR st) d9 rfl)<|wD (fun st=>Bu Tryz.underlying23 (eR st)) ?_;replace a:=Fu a;obtain⟨iZ,a⟩:=a;refine wD (fun st=>HG (eR st) (eR st) iZ.1 iZ.2)<|wA (v:=I (cS%(aD.Ac.length:Int))) rfl<|Ag<|Ab<|Af<|Ad<|wD (fun st=>AR (l:=(Am aV aW aK aL aX aY aZ a0 a2 a3 a4 a5 aD)) Cj (eR st) d9 rfl rfl) ?_;have ⟨e7,e8,e9,fA,fB,fC⟩:=Cz e1 e2 e3 e4 e5 e6 (Ah iY);replace a:=bind_some a;obtain⟨jL,j5,a⟩:=a;refine wE (fun st=>Ar GR (eR st) (CR (eR st)) (Lh bX aD aV aW aK aL aX aY aZ a0 a2 a3 a4 a5 (zf Z w [some b1]) _ e7 e8 e9 fA fB fC jL j5)) ?_;rintro _ mL ⟨gO,⟨_,rfl,⟨hJ,hL,hM,hN,hO,hP,hQ,hR,hS,hT,hU,hV,rfl,cW,cX,cY,cZ,c0,c1⟩⟩⟩;have jM:=g7.ext gO;have ⟨cW,cX,cY,cZ,c0,c1⟩:=Cz cW cX cY cZ c0 c1 (g7.Da (Nat.le_refl _));replace a:=bind_some a;obtain⟨aC,j6,a⟩:=a;refine wE (fun st=>Ar RH (eR st) (CR (eR st)) (WC bX jL hJ hL hM hN hO hP hQ hR hS hT hU hV (zf Z w [some b1]) _ cW cX cY cZ c0 c1 aC j6)) ?_;rintro _ mM ⟨gP,⟨_,_,rfl,⟨bH,bI,rfl,d0⟩,rfl⟩⟩;have jN:=jM.ext gP;have d0:=d0.mv (jM.Da (Nat.le_refl _));refine wM (v:=.tuple #[.slice bH aC.1.length bI,I aC.2]) rfl<|wD (fun st=>BH (v:=.slice bH aC.1.length bI) (eR st) rfl)<|wD (fun st=>BH (v:=I aC.2) (eR st) rfl)<|wA (v:=.slice bH aC.1.length bI) rfl<|wA (v:=I aC.2) rfl<|Ag<|Ab<|Af<|Ad ?_;have g8:=((d9.ext gO).ext gP);refine wD (fun st=>AR (l:=(Am aV aW aK aL aX aY aZ a0 a2 a3 a4 a5 aD)) Cj (eR st) g8 rfl rfl) ?_;have ⟨fD,fE,fF,fG,fH,fI⟩:=Cz e7 e8 e9 fA fB fC (mt (Ah gO) (Ah gP));replace a:=bind_some a;obtain⟨jO,j7,a⟩:=a;refine wE (fun st=>Ar GR (eR st) (CR (eR st)) (Lh bX aD aV aW aK aL aX aY aZ a0 a2 a3 a4 a5 (zf Z w [some b1]) _ fD fE fF fG fH fI jO j7)) ?_;rintro _ mN ⟨fS,⟨_,rfl,⟨hW,hX,hY,hZ,h3,h4,h6,h7,h8,h9,iA,iB,rfl,c2,c3,c4,c5,c6,c7⟩⟩⟩;have l4:=jN.ext fS;have ⟨c2,c3,c4,c5,c6,c7⟩:=Cz c2 c3 c4 c5 c6 c7 (jN.Da (Nat.le_refl _));replace a:=bind_some a;obtain⟨a8,j8,a⟩:=a;refine wE (fun st=>Ar QA (eR st) (Dw (eR st) (eR st)) (UZ bX jO ([]:List Int) hW hX hY hZ h3 h4 h6 h7 h8 h9 iA iB none 0 ZA _ c2.all c3.all c4.all c5.all c6.all c7.all (Sl.nil (Ay .i64) _ _) a8 j8)) ?_;rintro _ mO ⟨fT,⟨_,_,rfl,⟨_,rfl,rfl⟩,rfl⟩⟩;have jP:=l4.ext fT;refine wM (v:=.tuple #[.agg #[I a8.1.Lo,I a8.1.Hi],I a8.2]) rfl<|wD (fun st=>BH (v:=.agg #[I a8.1.Lo,I a8.1.Hi]) (eR st) rfl)<|wD (fun st=>BH (v:=I a8.2) (eR st) rfl)<|wE (fun st=>DH (cs:= #[I 0,I 0]) MD rfl) ?_;rintro _ mP ⟨bB,rfl,d1⟩;have g9:=jP.nb d1;have l5:=jP.Cr d1;refine Dk rfl rfl (fun st=>CS (n:=2) (l:=[I a8.1.Lo,I a8.1.Hi]) (EZ:= #[I a8.1.Lo,I a8.1.Hi]) (eR st) (eR st) JG d1.bk rfl rfl (show 0+2≤2 by decide) (Cg rfl) rfl) ?_;rintro _ mQ eA;have i0:=g9.gr eA.gr 0 rfl;refine wA (v:=I a8.2) rfl<|Ag<|Ab<|Af<|Ad ?_;have eB:=((((g8.ext fS).ext fT).ext d1.gr).gr eA.gr (g9.nq 1 0));refine wD (fun st=>AR (l:=(Am aV aW aK aL aX aY aZ a0 a2 a3 a4 a5 aD)) Cj (eR st) eB rfl rfl) ?_;have ⟨c8,c9,dA,dB,dC,dD⟩:=Cz fD fE fF fG fH fI (mt (Ah fS) (mt (Ah fT) (mt (AP d1) (g9.C4 eA.gr 0 rfl))));replace a:=bind_some a;obtain⟨jQ,j9,a⟩:=a;refine wE (fun st=>Ar GR (eR st) (CR (eR st)) (Lh bX aD aV aW aK aL aX aY aZ a0 a2 a3 a4 a5 (zf Z w [some bB,some b1]) _ c8 c9 dA dB dC dD jQ j9)) ?_;rintro _ mR ⟨dE,⟨_,rfl,⟨iC,iD,iE,iF,iG,iH,iI,iJ,iK,iL,iM,iN,rfl,dF,dG,dH,dI,dJ,dK⟩⟩⟩;have i1:=i0.ext dE;have ⟨dF,dG,dH,dI,dJ,dK⟩:=Cz dF dG dH dI dJ dK (i0.Da (Nat.le_refl _));refine wM (v:=I (cS%(aD.Ac.length:Int))) rfl<|wE (fun st=>De (e:=3) (vs:= #[(0,I (cS%(aD.Ac.length:Int)))]) (cs:= #[I (cS%(aD.Ac.length:Int))]) (JN (eR st)) (by kernel_rfl)) ?_;rintro _ mS ⟨bJ,rfl,bY⟩;have kA:=i1.nb bY;have l6:=i1.Cr bY;have ⟨eU,eV,eW,eX,eY,eZ⟩:=Cz dF dG dH dI dJ dK (AP bY);replace a:=bind_some a;obtain⟨aP,kB,a⟩:=a;refine wE (fun st=>Ar QA (eR st) (Dw (eR st) (eR st)) (UZ bX jQ [cS%(aD.Ac.length:Int)] iC iD iE iF iG iH iI iJ iK iL iM iN (some ⟨bJ,0,none⟩) 1 ZA _ eU.all eV.all eW.all eX.all eY.all eZ.all (LY (e:=(Ay .i64)) (xs:=[cS%(aD.Ac.length:Int)]) (DQ:=[[I (cS%(aD.Ac.length:Int))]]) bY.bk trivial ⟨rfl,trivial⟩ rfl (Nat.le_refl _)) aP kB)) ?_;rintro _ mT ⟨dL,⟨_,_,rfl,⟨_,rfl,rfl⟩,rfl⟩⟩;have i2:=kA.ext dL;refine wM (v:=.tuple #[.agg #[I aP.1.Lo,I aP.1.Hi],I aP.2]) rfl<|wD (fun st=>BH (v:=.agg #[I aP.1.Lo,I aP.1.Hi]) (eR st) rfl)<|wD (fun st=>BH (v:=I aP.2) (eR st) rfl)<|wE (fun st=>DH (cs:= #[I 0,I 0]) MD rfl) ?_;rintro _ mU ⟨bE,rfl,b6⟩;have dM:=i2.nb b6;have l7:=i2.Cr b6;refine Dk rfl rfl (fun st=>CS (n:=2) (l:=[I aP.1.Lo,I aP.1.Hi]) (EZ:= #[I aP.1.Lo,I aP.1.Hi]) (eR st) (eR st) JG b6.bk rfl rfl (show 0+2≤2 by decide) (Cg rfl) rfl) ?_;rintro _ i3 cF;have kC:=dM.gr cF.gr 0 rfl;refine wA (v:=I aP.2) rfl<|Ag<|Ab<|Af ?_;have kD:=kC.nil;have f3:=(((((eB.ext dE).ext bY.gr).ext dL).ext b6.gr).gr cF.gr (dM.nq 3 0));have ⟨eC,eD,eE,eF,eG,eH⟩:=Cz c8 c9 dA dB dC dD (mt (Ah dE) (mt (AP bY) (mt (Ah dL) (mt (AP b6) (mt (dM.C4 cF.gr 0 rfl) CA)))));replace a:=bind_some a;obtain⟨cT,kE,a⟩:=a;replace a:=bind_some a;obtain⟨f4,kF,a⟩:=a;replace a:=bind_some a;obtain⟨aA,kG,a⟩:=a;obtain⟨l8,bC⟩:∃m6:(Nat→Bool)→(Nat→Value)→World→Prop,m6=(fun D V bK=>∃(aH:Option Nat) (f:Nat) (g:Option Addr) (i:Nat) (j:Option Addr) (m:Nat) (o:Option Addr) (p:Nat) (q:Option Addr) (r:Nat) (s:Option Addr) (u:Nat) (x:Option Addr) (y:Nat) (aE:Option Addr) (aF:Nat),Hp FN [] w [aH,some bE,some bJ,some bB,some b1] bK∧Ext i3 bK∧(∀d8,Mv i3 (ZZ FN [] d8 w.heap.size [none,some bE,some bJ,some bB,some b1]) bK (ZZ FN [] d8 w.heap.size [aH,some bE,some bJ,some bB,some b1]))∧(∀cE,aH=some cE→i3.heap.size≤cE)∧(D 8=false→aH=none)∧(D 0=true→V 0=.agg (Am aV aW aK aL aX aY aZ a0 a2 a3 a4 a5 aD).toArray)∧(D 1=true→V 1=.agg (Am g i j m o p q r s u x y cT).toArray∧Sl AM bK (zf Z w [aH,some bE,some bJ,some bB,some b1]) g i cT.Al∧Sl (BO (Ay .i64)) bK (zf Z w [aH,some bE,some bJ,some bB,some b1]) j m cT.Ac∧Sl AQ bK (zf Z w [aH,some bE,some bJ,some bB,some b1]) o p cT.Ap∧Sl Bm bK (zf Z w [aH,some bE,some bJ,some bB,some b1]) q r cT.AH∧Sl Bl bK (zf Z w [aH,some bE,some bJ,some bB,some b1]) s u cT.Aw∧Sl BA bK (zf Z w [aH,some bE,some bJ,some bB,some b1]) x y cT.Ao)∧(D 2=true→V 2=.agg (Am aV aW aK aL aX aY aZ a0 a2 a3 a4 a5 aD).toArray)∧(D 3=true→V 3=.slice aE f4.length aF∧Sl (Ay .i64) bK (zf Z w [aH,some bE,some bJ,some bB,some b1]) aE aF f4)∧(D 4=true→V 4=.tuple #[.agg #[I aA.1.Lo,I aA.1.Hi],I aA.2])∧(D 5=true→V 5=.tuple #[.agg #[I aA.1.Lo,I aA.1.Hi],I aA.2])∧(D 6=true→V 6=.agg #[I aA.1.Lo,I aA.1.Hi])∧(D 7=true→V 7=I aA.2)∧(D 8=true→D 9=false→Bk bK f 60 #[I 0,I 0])∧(D 8=true→V 8=pt f 0∧aH=some f∧w.heap.size≤f)∧(D 9=true→Bk bK f 60 #[I aA.1.Lo,I aA.1.Hi])):=⟨_,rfl⟩;refine Ld 10 l8 mixed rfl rfl (by rw[bC];exact⟨none,0,none,0,none,0,none,0,none,0,none,0,none,0,none,0,(kD.ext (DX _)),DX _,fun _=>Ah (DX _),fun _ z=>(by cases z),fun _=>rfl,fun z=>absurd (show false=true from z) (by decide),fun z=>absurd (show false=true from z) (by decide),fun z=>absurd (show false=true from z) (by decide),fun z=>absurd (show false=true from z) (by decide),fun z=>absurd (show false=true from z) (by decide),fun z=>absurd (show false=true from z) (by decide),fun z=>absurd (show false=true from z) (by decide),fun z=>absurd (show false=true from z) (by decide),fun z=>absurd (show false=true from z) (by decide),fun z=>absurd (show false=true from z) (by decide),fun z=>absurd (show false=true from z) (by decide)⟩)
       ⟨sj (k:=0) rfl (fun D V a' w' K b=>by
            rw[bC] at b;refine X4 b fun aH f g i b=>X4 b fun j m o p b=>X4 b fun q r s u b=>X4 b fun x y aE aF b=>Y8 b fun aN bO bD aB aG _ d aR b=>Y4 b fun aI aS aO aT b=>Y3 b fun a9 aM aJ b=>?_;have bA:=b;exact(AR (l:=(Am aV aW aK aL aX aY aZ a0 a2 a3 a4 a5 aD)) Cj (es ((K.out 2 rfl).trans rfl)) (f3.ext bO) rfl rfl).mono fun v CJ ⟨dU,dV⟩=>by subst dU;subst dV;rw[bC];exact⟨aH,f,g,i,j,m,o,p,q,r,s,u,x,y,aE,aF,aN,bO,bD,aB,aG,fun _=>rfl,d,aR,aI,aS,aO,aT,a9,aM,aJ,bA⟩),
        sj (k:=1) rfl (fun D V a' w' K b=>by
            rw[bC] at b;refine X4 b fun aH f g i b=>X4 b fun j m o p b=>X4 b fun q r s u b=>X4 b fun x y aE aF b=>Y8 b fun aN bO bD aB aG aU _ aR b=>Y4 b fun aI aS aO aT b=>Y3 b fun a9 aM aJ b=>?_;have bA:=b;have f5:=aU (K.dn 0 rfl);refine(Ar GR rfl (CR (es (t:=58) (v:=.agg (Am aV aW aK aL aX aY aZ a0 a2 a3 a4 a5 aD).toArray) ((K.dq 0 58).trans f5))) (Lh bX aD aV aW aK aL aX aY aZ a0 a2 a3 a4 a5 _ _ (eC.mv (bD _)) (eD.mv (bD _)) (eE.mv (bD _)) (eF.mv (bD _)) (eG.mv (bD _)) (eH.mv (bD _)) cT kE)).mono ?_;rintro v CJ ⟨aQ,⟨_,rfl,⟨g,i,j,m,o,p,q,r,s,u,x,y,rfl,b7,b8,b9,cA,cB,cC⟩⟩⟩;rw[bC];exact⟨aH,f,g,i,j,m,o,p,q,r,s,u,x,y,aE,aF,(aN.ext aQ),(Ext.trans bO aQ),(fun d8=>(bD d8).trans (Ah aQ)),aB,aG,aU,fun _=>⟨rfl,b7.mv (aN.Da (Nat.le_refl _)),b8.mv (aN.Da (Nat.le_refl _)),b9.mv (aN.Da (Nat.le_refl _)),cA.mv (aN.Da (Nat.le_refl _)),cB.mv (aN.Da (Nat.le_refl _)),cC.mv (aN.Da (Nat.le_refl _))⟩,aR,fun z=>⟨(aI z).1,((aI z).2.mv (Ah aQ))⟩,aS,aO,aT,a9,fun z f6=>((aM z f6).ext aQ),aJ,fun z=>((bA z).ext aQ)⟩),
        sj (k:=2) rfl (fun D V a' w' K b=>by
            rw[bC] at b;refine X4 b fun aH f g i b=>X4 b fun j m o p b=>X4 b fun q r s u b=>X4 b fun x y aE aF b=>Y8 b fun aN bO bD aB aG aU d _ b=>Y4 b fun aI aS aO aT b=>Y3 b fun a9 aM aJ b=>?_;have bA:=b;exact(AR (l:=(Am aV aW aK aL aX aY aZ a0 a2 a3 a4 a5 aD)) Cj (es ((K.out 2 rfl).trans rfl)) (f3.ext bO) rfl rfl).mono fun v CJ ⟨dU,dV⟩=>by subst dU;subst dV;rw[bC];exact⟨aH,f,g,i,j,m,o,p,q,r,s,u,x,y,aE,aF,aN,bO,bD,aB,aG,aU,d,fun _=>rfl,aI,aS,aO,aT,a9,aM,aJ,bA⟩),
        sj (k:=3) rfl (fun D V a' w' K b=>by
            rw[bC] at b;refine X4 b fun aH f g i b=>X4 b fun j m o p b=>X4 b fun q r s u b=>X4 b fun x y aE aF b=>Y8 b fun aN bO bD aB aG aU d aR b=>Y4 b fun _ aS aO aT b=>Y3 b fun a9 aM aJ b=>?_;have bA:=b;have f7:=aR (K.dn 2 rfl);refine(Ar Sp rfl (Dw (es (t:=60) (v:=.agg (Am aV aW aK aL aX aY aZ a0 a2 a3 a4 a5 aD).toArray) ((K.dq 2 60).trans f7)) (ec (v:=.int .u8 255))) (a49 bX aD 255 aV aW aK aL aX aY aZ a0 a2 a3 a4 a5 _ _ (eC.mv (bD _)) (eD.mv (bD _)) (eE.mv (bD _)) (eF.mv (bD _)) (eG.mv (bD _)) (eH.mv (bD _)) f4 kF)).mono ?_;rintro v CJ ⟨aQ,⟨aE,aF,rfl,cQ⟩⟩;rw[bC];exact⟨aH,f,g,i,j,m,o,p,q,r,s,u,x,y,aE,aF,(aN.ext aQ),(Ext.trans bO aQ),(fun d8=>(bD d8).trans (Ah aQ)),aB,aG,aU,fun z=>⟨(d z).1,((d z).2.1.mv (Ah aQ)),((d z).2.2.1.mv (Ah aQ)),((d z).2.2.2.1.mv (Ah aQ)),((d z).2.2.2.2.1.mv (Ah aQ)),((d z).2.2.2.2.2.1.mv (Ah aQ)),((d z).2.2.2.2.2.2.mv (Ah aQ))⟩,aR,fun _=>⟨rfl,cQ.mv (aN.Da (Nat.le_refl _))⟩,aS,aO,aT,a9,fun z f6=>((aM z f6).ext aQ),aJ,fun z=>((bA z).ext aQ)⟩),
        sj (k:=4) rfl (fun D V a' w' K b=>by
            rw[bC] at b;refine X4 b fun aH f g i b=>X4 b fun j m o p b=>X4 b fun q r s u b=>X4 b fun x y aE aF b=>Y8 b fun aN bO bD aB aG aU d aR b=>Y4 b fun aI _ aO aT b=>Y3 b fun a9 aM aJ b=>?_;have bA:=b;obtain⟨f8,b7,b8,b9,cA,cB,cC⟩:=d (K.dn 1 rfl);obtain⟨f9,cQ⟩:=aI (K.dn 3 rfl);refine(Ar QA rfl (Dw (es (t:=59) (v:=.agg (Am g i j m o p q r s u x y cT).toArray) ((K.dq 1 59).trans f8)) (es (t:=61) (v:=.slice aE f4.length aF) ((K.dq 3 61).trans f9))) (UZ bX cT f4 g i j m o p q r s u x y aE aF ZA _ b7.all b8.all b9.all cA.all cB.all cC.all cQ.all aA kG)).mono ?_;rintro v CJ ⟨aQ,⟨_,_,rfl,⟨_,rfl,rfl⟩,rfl⟩⟩;rw[bC];exact⟨aH,f,g,i,j,m,o,p,q,r,s,u,x,y,aE,aF,(aN.ext aQ),(Ext.trans bO aQ),(fun d8=>(bD d8).trans (Ah aQ)),aB,aG,aU,fun z=>⟨(d z).1,((d z).2.1.mv (Ah aQ)),((d z).2.2.1.mv (Ah aQ)),((d z).2.2.2.1.mv (Ah aQ)),((d z).2.2.2.2.1.mv (Ah aQ)),((d z).2.2.2.2.2.1.mv (Ah aQ)),((d z).2.2.2.2.2.2.mv (Ah aQ))⟩,aR,fun z=>⟨(aI z).1,((aI z).2.mv (Ah aQ))⟩,fun _=>rfl,aO,aT,a9,fun z f6=>((aM z f6).ext aQ),aJ,fun z=>((bA z).ext aQ)⟩),
        sj (k:=5) rfl (fun D V a' w' K b=>by
            rw[bC] at b;refine X4 b fun aH f g i b=>X4 b fun j m o p b=>X4 b fun q r s u b=>X4 b fun x y aE aF b=>Y8 b fun aN bO bD aB aG aU d aR b=>Y4 b fun aI aS _ aT b=>Y3 b fun a9 aM aJ b=>?_;have bA:=b;have gA:=aS (K.dn 4 rfl);exact(Aq (v:=.tuple #[.agg #[I aA.1.Lo,I aA.1.Hi],I aA.2]) (es (t:=62) (v:=.tuple #[.agg #[I aA.1.Lo,I aA.1.Hi],I aA.2]) ((K.dq 4 62).trans gA))).mono fun v CJ ⟨dU,dV⟩=>by subst dU;subst dV;rw[bC];exact⟨aH,f,g,i,j,m,o,p,q,r,s,u,x,y,aE,aF,aN,bO,bD,aB,aG,aU,d,aR,aI,aS,fun _=>rfl,aT,a9,aM,aJ,bA⟩),
        sj (k:=6) rfl (fun D V a' w' K b=>by
            rw[bC] at b;refine X4 b fun aH f g i b=>X4 b fun j m o p b=>X4 b fun q r s u b=>X4 b fun x y aE aF b=>Y8 b fun aN bO bD aB aG aU d aR b=>Y4 b fun aI aS aO _ b=>Y3 b fun a9 aM aJ b=>?_;have bA:=b;have dW:=aO (K.dn 5 rfl);exact(BH (v:=.agg #[I aA.1.Lo,I aA.1.Hi]) (es (t:=57) (v:=.tuple #[.agg #[I aA.1.Lo,I aA.1.Hi],I aA.2]) ((K.dq 5 57).trans dW)) rfl).mono fun v CJ ⟨dU,dV⟩=>by subst dU;subst dV;rw[bC];exact⟨aH,f,g,i,j,m,o,p,q,r,s,u,x,y,aE,aF,aN,bO,bD,aB,aG,aU,d,aR,aI,aS,aO,fun _=>rfl,a9,aM,aJ,bA⟩),
        sj (k:=7) rfl (fun D V a' w' K b=>by
            rw[bC] at b;refine X4 b fun aH f g i b=>X4 b fun j m o p b=>X4 b fun q r s u b=>X4 b fun x y aE aF b=>Y8 b fun aN bO bD aB aG aU d aR b=>Y4 b fun aI aS aO aT b=>Y3 b fun _ aM aJ b=>?_;have bA:=b;have dW:=aO (K.dn 5 rfl);exact(BH (v:=I aA.2) (es (t:=57) (v:=.tuple #[.agg #[I aA.1.Lo,I aA.1.Hi],I aA.2]) ((K.dq 5 57).trans dW)) rfl).mono fun v CJ ⟨dU,dV⟩=>by subst dU;subst dV;rw[bC];exact⟨aH,f,g,i,j,m,o,p,q,r,s,u,x,y,aE,aF,aN,bO,bD,aB,aG,aU,d,aR,aI,aS,aO,aT,fun _=>rfl,aM,aJ,bA⟩),
        sj (k:=8) rfl (fun D V a' w' K b=>by
            rw[bC] at b;refine X4 b fun _ _ g i b=>X4 b fun j m o p b=>X4 b fun q r s u b=>X4 b fun x y aE aF b=>Y8 b fun aN bO bD aB aG aU d aR b=>Y4 b fun aI aS aO aT b=>Y3 b fun a9 _ _ b=>?_;have bA:=b;have kH:=aG K.me;subst kH;refine(DH (cs:= #[I 0,I 0]) MD rfl).mono ?_;rintro v CJ ⟨l9,rfl,fU⟩;have cU:=NL fU;have bZ:=fU.gr;rw[bC];exact⟨(some l9),l9,g,i,j,m,o,p,q,r,s,u,x,y,aE,aF,(aN.row bZ 0 rfl cU),(Ext.trans bO bZ),(fun d8=>(bD d8).trans (aN.DN bZ 0 rfl (fun cE bS=>(cU cE bS).1))),(JK aB bO.size cU),fun z=>absurd (show true=false from z) (by decide),aU,fun z=>⟨(d z).1,((d z).2.1.mv (aN.DN bZ 0 rfl (fun cE bS=>(cU cE bS).1))),((d z).2.2.1.mv (aN.DN bZ 0 rfl (fun cE bS=>(cU cE bS).1))),((d z).2.2.2.1.mv (aN.DN bZ 0 rfl (fun cE bS=>(cU cE bS).1))),((d z).2.2.2.2.1.mv (aN.DN bZ 0 rfl (fun cE bS=>(cU cE bS).1))),((d z).2.2.2.2.2.1.mv (aN.DN bZ 0 rfl (fun cE bS=>(cU cE bS).1))),((d z).2.2.2.2.2.2.mv (aN.DN bZ 0 rfl (fun cE bS=>(cU cE bS).1)))⟩,aR,fun z=>⟨(aI z).1,((aI z).2.mv (aN.DN bZ 0 rfl (fun cE bS=>(cU cE bS).1)))⟩,aS,aO,aT,a9,fun _ _=>fU.bk,fun _=>⟨rfl,rfl,Nat.le_trans aN.sz (Nat.le_of_eq fU.Jj.symm)⟩,fun z=>(Qk K.me (K.down 9 _ rfl z 8 rfl)).elim⟩),
        sj (k:=9) rfl (fun D V a' w' K b=>by
            rw[bC] at b;refine X4 b fun _ f g i b=>X4 b fun j m o p b=>X4 b fun q r s u b=>X4 b fun x y aE aF b=>Y8 b fun aN bO bD aB _ aU d aR b=>Y4 b fun aI aS aO aT b=>Y3 b fun a9 aM aJ b=>?_;have bA:=b;have gB:=aT (K.dn 6 rfl);have eI:=(aJ (K.dn 8 rfl)).1;have gC:=(aJ (K.dn 8 rfl)).2.1;subst gC;have gD:=aM (K.dn 8 rfl) K.me;refine(CS (n:=2) (l:=[I aA.1.Lo,I aA.1.Hi]) (EZ:= #[I aA.1.Lo,I aA.1.Hi]) (es (t:=12) (v:=pt f 0) ((K.dq 8 12).trans eI)) (es (t:=63) (v:=.agg #[I aA.1.Lo,I aA.1.Hi]) ((K.dq 6 63).trans gB)) JG gD rfl rfl (show 0+2≤2 by decide) (Cg rfl) rfl).mono ?_;rintro v CJ jR;have bZ:=jR.gr;rw[bC];exact⟨(some f),f,g,i,j,m,o,p,q,r,s,u,x,y,aE,aF,(aN.gr bZ 0 rfl),(Sx bO bZ aB),(fun d8=>(bD d8).trans (aN.C4 bZ 0 rfl)),aB,fun z=>absurd (K.dn 8 rfl) (by rw[show D 8=false from z];decide),aU,fun z=>⟨(d z).1,((d z).2.1.mv (aN.C4 bZ 0 rfl)),((d z).2.2.1.mv (aN.C4 bZ 0 rfl)),((d z).2.2.2.1.mv (aN.C4 bZ 0 rfl)),((d z).2.2.2.2.1.mv (aN.C4 bZ 0 rfl)),((d z).2.2.2.2.2.1.mv (aN.C4 bZ 0 rfl)),((d z).2.2.2.2.2.2.mv (aN.C4 bZ 0 rfl))⟩,aR,fun z=>⟨(aI z).1,((aI z).2.mv (aN.C4 bZ 0 rfl))⟩,aS,aO,aT,a9,fun _ z=>absurd (show true=false from z) (by decide),fun z=>⟨(aJ z).1,rfl,(aJ z).2.2⟩,fun _=>jR.bk⟩),trivial⟩ ?_
   intro mV mW mX bP bF;rw[bC] at bF;clear bC;refine X4 bF fun aH f g i bF=>X4 bF fun j m o p bF=>X4 bF fun q r s u bF=>X4 bF fun x y aE aF bF=>Y8 bF fun fV fW hA aB aG aU d aR bF=>Y4 bF fun aI aS aO aT bF=>Y3 bF fun a9 aM aJ bF=>?_;have bA:=bF;clear bF;have f5:=aU (bP 0 (by decide));obtain⟨f8,b7,b8,b9,cA,cB,cC⟩:=d (bP 1 (by decide));have f7:=aR (bP 2 (by decide));obtain⟨f9,cQ⟩:=aI (bP 3 (by decide));have gA:=aS (bP 4 (by decide));have dW:=aO (bP 5 (by decide));have gB:=aT (bP 6 (by decide));have i4:=a9 (bP 7 (by decide));obtain⟨eI,iO,kI⟩:=aJ (bP 8 (by decide));subst iO;have iP:=bA (bP 9 (by decide));refine wA (v:=I aA.2) i4<|Ag<|Ab<|Af<|Af<|Ad<|wM (v:=I aC.2) rfl<|wD (fun st=>DW (eR st) (eR st))<|Ag<|Ab ?_;rcases Ak (aC.2 !=0) with eJ|eJ
   ·replace a:=Az a eJ;refine AD rfl eJ<|Af<|Ad<|wM (v:=I aC.2) rfl<|wD (fun st=>Dj (eR st) (eR st))<|wM (v:=.bool (aC.2==9)) rfl ?_;rcases Ak (aC.2==9) with cD|cD
    ·replace a:=Az a cD;refine Au (c:=true) rfl rfl (Ae rfl cD) (by decide) rfl (by decide)<|Au (c:=true) rfl rfl (Ae rfl cD) (by decide) rfl (by decide)<|wD (fun st=>AY (v:=.bool true) (eR st) cD (eR st))<|wM (v:=.bool true) rfl<|An rfl rfl rfl rfl (by decide) (fun st=>Aq (v:=I a8.2) (eR st))<|An rfl rfl rfl rfl (by decide) (fun st=>Aq (v:=I aC.2) (eR st))<|An rfl rfl rfl rfl (by decide) (fun st=>Dj (eR st) (eR st))<|wD (fun st=>AY (v:=.bool (a8.2==aC.2)) (eR st) rfl (eR st))<|wM (v:=.bool (a8.2==aC.2)) rfl ?_;rcases Ak (a8.2==aC.2) with dN|dN
     ·replace a:=Az a dN;refine An rfl rfl (Ae rfl dN) rfl (by decide) (fun st=>Aq (v:=I aP.2) (eR st))<|An rfl rfl (Ae rfl dN) rfl (by decide) (fun st=>Aq (v:=I aC.2) (eR st))<|An rfl rfl (Ae rfl dN) rfl (by decide) (fun st=>Dj (eR st) (eR st))<|wD (fun st=>AY (v:=.bool (aP.2==aC.2)) (eR st) dN (eR st))<|wM (v:=.bool (aP.2==aC.2)) rfl ?_;rcases Ak (aP.2==aC.2) with dO|dO
      ·replace a:=Az a dO;refine An rfl rfl (Ae rfl dO) rfl (by decide) (fun st=>Aq (v:=I aA.2) (eR st))<|An rfl rfl (Ae rfl dO) rfl (by decide) (fun st=>Aq (v:=I aC.2) (eR st))<|An rfl rfl (Ae rfl dO) rfl (by decide) (fun st=>Dj (eR st) (eR st))<|wD (fun st=>AY (v:=.bool (aA.2==aC.2)) (eR st) dO (eR st))<|wM (v:=.bool (aA.2==aC.2)) rfl ?_;rcases Ak (aA.2==aC.2) with eK|eK
       ·replace a:=Az a eK;replace a:=Ck a;obtain⟨kJ,a⟩:=a;refine Di rfl rfl (Ae rfl eK) rfl (by decide) (fun st=>Ar EI (eR st) Gx (a37 bX ZA _ kJ)) ?_;rintro _ mY ⟨kK,rfl⟩;have kL:=fV.ext kK;refine wD (fun st=>AY (v:=.bool true) (eR st) eK (eR st))<|wA (v:=.bool true) rfl<|Ag<|Ab<|AI<|Ax ?_;have dT:=oi a;refine AJ rfl rfl ?_;exact⟨kL.Bc,congrArg Value.bool dT⟩
       ·replace a:=AA a eK;exact absurd (oi a) (by decide)
      ·replace a:=AA a dO;exact absurd (oi a) (by decide)
     ·replace a:=AA a dN;exact absurd (oi a) (by decide)
    ·replace a:=AA a cD;refine An rfl rfl (Ae rfl cD) rfl (by decide) (fun st=>Aq (v:=I aC.2) (eR st))<|An rfl rfl (Ae rfl cD) rfl (by decide) (fun st=>Dj (eR st) (eR st))<|wD (fun st=>BC (v:=.bool (aC.2==11)) (eR st) cD (eR st))<|wM (v:=.bool (aC.2==11)) rfl ?_;rcases Ak (aC.2==11) with dP|dP
     ·replace a:=Az a dP;refine An rfl rfl (Ae rfl dP) rfl (by decide) (fun st=>Aq (v:=I a8.2) (eR st))<|An rfl rfl (Ae rfl dP) rfl (by decide) (fun st=>Aq (v:=I aC.2) (eR st))<|An rfl rfl (Ae rfl dP) rfl (by decide) (fun st=>Dj (eR st) (eR st))<|wD (fun st=>AY (v:=.bool (a8.2==aC.2)) (eR st) dP (eR st))<|wM (v:=.bool (a8.2==aC.2)) rfl ?_;rcases Ak (a8.2==aC.2) with dQ|dQ
      ·replace a:=Az a dQ;refine An rfl rfl (Ae rfl dQ) rfl (by decide) (fun st=>Aq (v:=I aP.2) (eR st))<|An rfl rfl (Ae rfl dQ) rfl (by decide) (fun st=>Aq (v:=I aC.2) (eR st))<|An rfl rfl (Ae rfl dQ) rfl (by decide) (fun st=>Dj (eR st) (eR st))<|wD (fun st=>AY (v:=.bool (aP.2==aC.2)) (eR st) dQ (eR st))<|wM (v:=.bool (aP.2==aC.2)) rfl ?_;rcases Ak (aP.2==aC.2) with dR|dR
       ·replace a:=Az a dR;refine An rfl rfl (Ae rfl dR) rfl (by decide) (fun st=>Aq (v:=I aA.2) (eR st))<|An rfl rfl (Ae rfl dR) rfl (by decide) (fun st=>Aq (v:=I aC.2) (eR st))<|An rfl rfl (Ae rfl dR) rfl (by decide) (fun st=>Dj (eR st) (eR st))<|wD (fun st=>AY (v:=.bool (aA.2==aC.2)) (eR st) dR (eR st))<|wM (v:=.bool (aA.2==aC.2)) rfl ?_;rcases Ak (aA.2==aC.2) with eM|eM
        ·replace a:=Az a eM;replace a:=Ck a;obtain⟨kM,a⟩:=a;refine Di rfl rfl (Ae rfl eM) rfl (by decide) (fun st=>Ar EI (eR st) Gx (a37 bX ZA _ kM)) ?_;rintro _ mZ ⟨kN,rfl⟩;have kO:=fV.ext kN;refine wD (fun st=>AY (v:=.bool true) (eR st) eM (eR st))<|wA (v:=.bool true) rfl<|Ag<|Ab<|AI<|Ax ?_;have dT:=oi a;refine AJ rfl rfl ?_;exact⟨kO.Bc,congrArg Value.bool dT⟩
        ·replace a:=AA a eM;exact absurd (oi a) (by decide)
       ·replace a:=AA a dR;exact absurd (oi a) (by decide)
      ·replace a:=AA a dQ;exact absurd (oi a) (by decide)
     ·replace a:=AA a dP;exact absurd (oi a) (by decide)
   ·replace a:=AA a eJ;refine AE rfl eJ<|AL<|Ab<|Af<|Af<|Ad<|wM (v:=I a8.2) rfl<|wD (fun st=>DW (eR st) (eR st))<|wM (v:=.bool (a8.2 !=0)) rfl ?_;rcases Ak (a8.2 !=0) with d2|d2
    ·replace a:=Az a d2;exact absurd (oi a) (by decide)
    ·replace a:=AA a d2;refine An rfl rfl (Ae rfl d2) rfl (by decide) (fun st=>Aq (v:=I aP.2) (eR st))<|An rfl rfl (Ae rfl d2) rfl (by decide) (fun st=>DW (eR st) (eR st))<|wD (fun st=>BC (v:=.bool (aP.2 !=0)) (eR st) d2 (eR st))<|wM (v:=.bool (aP.2 !=0)) rfl ?_;rcases Ak (aP.2 !=0) with d3|d3
     ·replace a:=Az a d3;exact absurd (oi a) (by decide)
     ·replace a:=AA a d3;refine An rfl rfl (Ae rfl d3) rfl (by decide) (fun st=>Aq (v:=I aA.2) (eR st))<|An rfl rfl (Ae rfl d3) rfl (by decide) (fun st=>DW (eR st) (eR st))<|wD (fun st=>BC (v:=.bool (aA.2 !=0)) (eR st) d3 (eR st))<|wM (v:=.bool (aA.2 !=0)) rfl ?_;rcases Ak (aA.2 !=0) with bT|bT
      ·replace a:=Az a bT;exact absurd (oi a) (by decide)
      ·replace a:=AA a bT;refine An rfl rfl (Ae rfl bT) rfl (by decide) (fun st=>Aq (v:=.slice bH aC.1.length bI) (eR st))<|An rfl rfl (Ae rfl bT) rfl (by decide) (fun st=>Bu Tryz.underlying55 (eR st))<|An rfl rfl (Ae rfl bT) rfl (by decide) (fun st=>Ai (eR st) (Ee _ _))<|An rfl rfl (Ae rfl bT) rfl (by decide) (fun st=>Ai (eR st) (Ei _ _)) ?_;have gE:=((((((eB.ext dE).ext bY.gr).ext dL).ext b6.gr).gr cF.gr (dM.nq 3 0)).ext fW);refine An rfl rfl (Ae rfl bT) rfl (by decide) (fun st=>AG (v:=.slice aK aD.Ac.length aL) El (eR st) gE rfl)<|An rfl rfl (Ae rfl bT) rfl (by decide) (fun st=>Bu Tryz.underlying23 (eR st))<|An rfl rfl (Ae rfl bT) rfl (by decide) (fun st=>DW (eR st) (eR st))<|wD (fun st=>BC (v:=.bool ((aC.1.length:Int) !=(aD.Ac.length:Int))) (eR st) bT (eR st))<|Ag<|Ab ?_;rcases Ak ((aC.1.length:Int) !=(aD.Ac.length:Int)) with fX|fX
       ·replace a:=Az a fX;exact absurd (oi a) (by decide)
       ·replace a:=AA a fX;refine AE rfl fX<|AL<|Ab<|Af<|Ad<|wA (v:=I 0) rfl<|wA (v:=I 0) rfl<|wA (v:=I 0) rfl<|Ag<|Ab<|Af<|Af<|Ad<|wA (v:=I 0) rfl<|Ag<|Ab<|AT ?_;replace a:=bind_some a;obtain⟨bL,d4,a⟩:=a;refine Cm (fun mA bN bK=>(mA=.exit 0∧bN.tmps.size=185∧bN.defers=(X0).ds∧sl bN 2=pt b1 0∧sl bN 5=I (cS%(aD.Ac.length:Int))∧sl bN 6=.slice bH aC.1.length bI∧sl bN 8=pt bB 0∧sl bN 10=pt bE 0∧sl bN 12=pt f 0∧sl bN 14=I bL.1∧sl bN 15=I bL.2.1∧sl bN 16=I bL.2.2∧Hp FN [] w [some f,some bE,some bJ,some bB,some b1] bK∧Bk bK b1 67 (Am aV aW aK aL aX aY aZ a0 a2 a3 a4 a5 aD).toArray∧Bk bK bB 60 #[I a8.1.Lo,I a8.1.Hi]∧Bk bK bE 60 #[I aP.1.Lo,I aP.1.Hi]∧Bk bK f 60 #[I aA.1.Lo,I aA.1.Hi]∧Sl AM bK (zf Z w [some f,some bE,some bJ,some bB,some b1]) aV aW aD.Al∧Sl (BO (Ay .i64)) bK (zf Z w [some f,some bE,some bJ,some bB,some b1]) aK aL aD.Ac∧Sl AQ bK (zf Z w [some f,some bE,some bJ,some bB,some b1]) aX aY aD.Ap∧Sl Bm bK (zf Z w [some f,some bE,some bJ,some bB,some b1]) aZ a0 aD.AH∧Sl Bl bK (zf Z w [some f,some bE,some bJ,some bB,some b1]) a2 a3 aD.Aw∧Sl BA bK (zf Z w [some f,some bE,some bJ,some bB,some b1]) a4 a5 aD.Ao∧Sl AM bK (zf Z w [some f,some bE,some bJ,some bB,some b1]) bH bI aC.1)) ?kP ?kQ
        case kP=>
         clear a;refine Cl (fun(kR:Nat) (bN:Act) (bK:World)=>∃bU,∃bV,∃bW,∃bM,IJ bX aD aC kR bU bV bW bM=some bL∧bN.tmps.size=185∧bN.defers=(X0).ds∧sl bN 2=pt b1 0∧sl bN 5=I (cS%(aD.Ac.length:Int))∧sl bN 6=.slice bH aC.1.length bI∧sl bN 8=pt bB 0∧sl bN 10=pt bE 0∧sl bN 12=pt f 0∧sl bN 14=I bU∧sl bN 15=I bV∧sl bN 16=I bW∧sl bN 17=I bM∧Hp FN [] w [some f,some bE,some bJ,some bB,some b1] bK∧Bk bK b1 67 (Am aV aW aK aL aX aY aZ a0 a2 a3 a4 a5 aD).toArray∧Bk bK bB 60 #[I a8.1.Lo,I a8.1.Hi]∧Bk bK bE 60 #[I aP.1.Lo,I aP.1.Hi]∧Bk bK f 60 #[I aA.1.Lo,I aA.1.Hi]∧Sl AM bK (zf Z w [some f,some bE,some bJ,some bB,some b1]) aV aW aD.Al∧Sl (BO (Ay .i64)) bK (zf Z w [some f,some bE,some bJ,some bB,some b1]) aK aL aD.Ac∧Sl AQ bK (zf Z w [some f,some bE,some bJ,some bB,some b1]) aX aY aD.Ap∧Sl Bm bK (zf Z w [some f,some bE,some bJ,some bB,some b1]) aZ a0 aD.AH∧Sl Bl bK (zf Z w [some f,some bE,some bJ,some bB,some b1]) a2 a3 aD.Aw∧Sl BA bK (zf Z w [some f,some bE,some bJ,some bB,some b1]) a4 a5 aD.Ao∧Sl AM bK (zf Z w [some f,some bE,some bJ,some bB,some b1]) bH bI aC.1) bX ?kS ?kT
         case kS=>
          intro st;have iQ:=((((((eA.bk.ext dE).ext bY.gr).ext dL).ext b6.gr).gr cF.gr (dM.nq 2 0)).ext fW);have iR:=(cF.bk.ext fW);have ⟨gQ,gR,gS,gT,gU,gV⟩:=Cz c8 c9 dA dB dC dD (mt (Ah dE) (mt (AP bY) (mt (Ah dL) (mt (AP b6) (mt (dM.C4 cF.gr 0 rfl) (mt CA (hA _)))))));have fY:=(((((((((((d0.mv (Ah fS)).mv (Ah fT)).mv (AP d1)).mv (g9.C4 eA.gr 0 rfl)).mv (Ah dE)).mv (AP bY)).mv (Ah dL)).mv (AP b6)).mv (dM.C4 cF.gr 0 rfl)).mv CA).mv (hA _));exact⟨(0:Int),(0:Int),(0:Int),(0:Int),d4,qz st,qd st,sp st 2 rfl,sp st 5 rfl,sp st 6 rfl,sp st 8 rfl,sp st 10 rfl,sp st 12 eI,sp st 14 rfl,sp st 15 rfl,sp st 16 rfl,sp st 17 rfl,fV,gE,iQ,iR,iP,gQ,gR,gS,gT,gU,gV,fY⟩
         case kT=>
          rintro(_|kR) mF mG ⟨bU,bV,bW,bM,d4,jH,jI,dX,gF,cG,gG,fJ,fK,fL,fM,fN,b4,i5,cR,eN,eO,dY,cH,cI,cJ,cK,cL,cM,bQ⟩
          ·exact absurd (show none=some _ from d4) (by simp)
          rw[IJ.eq_2] at d4;have a:=d4;clear d4;refine B7 (N:=185) jH jI<|Af<|Af<|Ad<|wM (v:=I bM) b4<|wM (v:=.slice bH aC.1.length bI) cG<|wD (fun st=>Bu Tryz.underlying55 (eR st))<|wD (fun st=>CO (eR st) (eR st))<|Ag<|Ab ?_;rcases Ak (decide (bM<(aC.1.length:Int))) with eP|eP
          ·replace a:=Az a eP;refine AD rfl eP<|AL<|Ab<|Af<|AT ?_;replace a:=bind_some a;obtain⟨fO,kU,a⟩:=a;replace a:=AK a;obtain⟨kV,a⟩:=a;replace a:=AK a;obtain⟨kW,a⟩:=a;replace a:=AW a;obtain⟨i58,hB,kX,kY,kZ,a⟩:=a;obtain⟨jS,jT,_,k0,rfl,k1⟩:=Sl.elem bQ (by decide) kY;replace a:=AK a;obtain⟨k2,a⟩:=a;replace a:=AW a;obtain⟨i60,hC,k3,k4,k5,a⟩:=a;obtain⟨jU,jV,_,k6,rfl,k7⟩:=Sl.elem bQ (by decide) k4;replace a:=AK a;obtain⟨k8,a⟩:=a;refine B9 24 [Kc (I bU),Kc (pt b1 3),Kc (I aD.Flat),Kc (.agg (Am aV aW aK aL aX aY aZ a0 a2 a3 a4 a5 aD).toArray),Kc (I bM),Kc (I fO),Kc (I (aD.Flat*fO)),Kc (I (bU+(aD.Flat*fO))),Kc (I bV),Kc (.slice bH aC.1.length bI),Kc (I bM),Kc (pt jS (jT+i58*2)),Kc (pt jS (jT+i58*2)),Kc (I hB.Lo),Kc (I (bV+hB.Lo)),Kc (I bW),Kc (.slice bH aC.1.length bI),Kc (I bM),Kc (pt jU (jV+i60*2)),Kc (pt jU (jV+i60*2+1)),Kc (I hC.Hi),Kc (I (bW+hC.Hi)),Kc (I (bU+(aD.Flat*fO))),Kc (I (bV+hB.Lo))] mixed rfl rfl
               (Aa (oD (fun K=>Aq (es (t:=14) ((K.later 22 14 _ rfl rfl rfl).trans fL))))
               (Aa (oD (fun K=>Ai (es ((K.out 2 rfl).trans dX)) (QH _ _)))
               (Aa (oD (fun K=>AG Bz (es (K.dq 1 117)) (cR.ext K.AO) rfl))
               (Aa (oD (fun K=>AR (l:=(Am aV aW aK aL aX aY aZ a0 a2 a3 a4 a5 aD)) Cj (es ((K.out 2 rfl).trans dX)) (cR.ext K.AO) rfl rfl))
               (Aa (oD (fun K=>Aq (es ((K.out 17 rfl).trans b4))))
               (Aa (Dl rfl rfl (fun a' w' ph K=>(Ar Jx rfl (Dw (es (K.dq 3 119)) (es (K.dq 4 120))) (OS bX aD bM aV aW aK aL aX aY aZ a0 a2 a3 a4 a5 ZA _ (cH.mv (Ah K.AO)).all (cI.mv (Ah K.AO)).all (cJ.mv (Ah K.AO)).all (cK.mv (Ah K.AO)).all (cL.mv (Ah K.AO)).all (cM.mv (Ah K.AO)).all fO kU)).mono (fun _ _ h=>⟨h.2,h.1⟩)))
               (Aa (oD (fun K=>KY (es (K.dq 2 118)) (es (K.dq 5 121)) kV))
               (Aa (oD (fun K=>B0 (es (K.dq 0 116)) (es (K.dq 6 122)) kW))
               (Aa (oD (fun K=>Aq (es (t:=15) ((K.later 23 15 _ rfl rfl rfl).trans fM))))
               (Aa (oD (fun K=>Aq (es ((K.out 6 rfl).trans cG))))
               (Aa (oD (fun K=>Aq (es ((K.out 17 rfl).trans b4))))
               (Aa (oD (fun K=>BR (k:=i58) Tryz.underlying55 JG (es (K.dq 9 125)) k0 (es (K.dq 10 126)) kX kZ))
               (Aa (oD (fun K=>Ai (es (K.dq 11 127)) (VY _ _ _)))
               (Aa (oD (fun K=>Bg Bz (es (K.dq 12 128)) (k1.mv (Ah K.AO)) rfl))
               (Aa (oD (fun K=>B0 (es (K.dq 8 124)) (es (K.dq 13 129)) k2))
               (Aa (oD (fun K=>Aq (es (t:=16) ((K.later 24 16 _ rfl rfl rfl).trans fN))))
               (Aa (oD (fun K=>Aq (es ((K.out 6 rfl).trans cG))))
               (Aa (oD (fun K=>Aq (es ((K.out 17 rfl).trans b4))))
               (Aa (oD (fun K=>BR (k:=i60) Tryz.underlying55 JG (es (K.dq 16 132)) k6 (es (K.dq 17 133)) k3 k5))
               (Aa (oD (fun K=>Ai (es (K.dq 18 134)) (Wc _ _ _)))
               (Aa (oD (fun K=>Gj Bz (es (K.dq 19 135)) (k7.mv (Ah K.AO)) rfl))
               (Aa (oD (fun K=>B0 (es (K.dq 15 131)) (es (K.dq 20 136)) k8))
               (Aa (oD (fun K=>LU (es (K.dq 7 123))))
               (Aa (oD (fun K=>LU (es (K.dq 14 130))))
               (B8 _))))))))))))))))))))))))) ?_
           intro m0;rintro _ rfl _ rfl _ rfl _ rfl _ rfl _ rfl _ rfl _ rfl _ rfl _ rfl _ rfl _ rfl _ rfl _ rfl _ rfl _ rfl _ rfl _ rfl _ rfl _ rfl _ rfl _ rfl _ rfl _ rfl d5;have k9:=i5.ext d5;refine wA (v:=I (bW+hC.Hi)) rfl<|Ag<|Bs<|Ab<|Ad<|wM (v:=I bM) b4 ?_;replace a:=AK a;obtain⟨lA,a⟩:=a;refine wD (fun st=>B0 (eR st) (eR st) lA)<|wA (v:=I (bM+1)) rfl<|Ag ?_;have i6:=(cR.ext d5);have iS:=(eN.ext d5);have iT:=(eO.ext d5);have gH:=(dY.ext d5);have ⟨gW,gX,gY,gZ,g0,g1,fZ⟩:=E0 cH cI cJ cK cL cM bQ (Ah d5);refine Bw kR (Nat.lt_succ_self _) (fun st=>?_);exact⟨(bU+(aD.Flat*fO)),(bV+hB.Lo),(bW+hC.Hi),(bM+1),a,qz st,qd st,sp st 2 dX,sp st 5 gF,sp st 6 cG,sp st 8 gG,sp st 10 fJ,sp st 12 fK,sp st 14 rfl,sp st 15 rfl,sp st 16 rfl,sp st 17 rfl,k9,i6,iS,iT,gH,gW,gX,gY,gZ,g0,g1,fZ⟩
          ·replace a:=AA a eP;refine AE rfl eP<|Cd<|AB<|AB ?_;obtain rfl:=oi a;refine B4 (fun st=>?_);exact⟨rfl,qz st,qd st,sp st 2 dX,sp st 5 gF,sp st 6 cG,sp st 8 gG,sp st 10 fJ,sp st 12 fK,sp st 14 fL,sp st 15 fM,sp st 16 fN,i5,cR,eN,eO,dY,cH,cI,cJ,cK,cL,cM,bQ⟩
        case kQ=>
         rintro mA mE mH (⟨rfl,i7,i8,fP,d6,fQ,iU,g2,eQ,dS,g3,g4,jJ,fR,g5,g6,f0,gI,gJ,gK,gL,gM,gN,e0⟩);refine Cn (X:=X0) (N:=185) i7 i8<|Bn<|Ab<|Af ?_;replace a:=bind_some a;obtain⟨cV,lB,a⟩:=a;replace a:=AK a;obtain⟨lC,a⟩:=a;refine B9 7 [Kc (I bL.1),Kc (pt b1 3),Kc (I aD.Flat),Kc (.agg (Am aV aW aK aL aX aY aZ a0 a2 a3 a4 a5 aD).toArray),Kc (I (cS%(aD.Ac.length:Int))),Kc (I cV),Kc (I (aD.Flat*cV))] mixed rfl rfl
             (Aa (oD (fun K=>Aq (es ((K.out 14 rfl).trans dS))))
             (Aa (oD (fun K=>Ai (es ((K.out 2 rfl).trans fP)) (QH _ _)))
             (Aa (oD (fun K=>AG Bz (es (K.dq 1 139)) (fR.ext K.AO) rfl))
             (Aa (oD (fun K=>AR (l:=(Am aV aW aK aL aX aY aZ a0 a2 a3 a4 a5 aD)) Cj (es ((K.out 2 rfl).trans fP)) (fR.ext K.AO) rfl rfl))
             (Aa (oD (fun K=>Aq (es ((K.out 5 rfl).trans d6))))
             (Aa (Dl rfl rfl (fun a' w' ph K=>(Ar Jx rfl (Dw (es (K.dq 3 141)) (es (K.dq 4 142))) (OS bX aD (cS%(aD.Ac.length:Int)) aV aW aK aL aX aY aZ a0 a2 a3 a4 a5 ZA _ (gI.mv (Ah K.AO)).all (gJ.mv (Ah K.AO)).all (gK.mv (Ah K.AO)).all (gL.mv (Ah K.AO)).all (gM.mv (Ah K.AO)).all (gN.mv (Ah K.AO)).all cV lB)).mono (fun _ _ h=>⟨h.2,h.1⟩)))
             (Aa (oD (fun K=>KY (es (K.dq 2 140)) (es (K.dq 5 143)) lC))
             (B8 _)))))))) ?_
         intro m1;rintro _ rfl _ rfl _ rfl _ rfl _ rfl _ rfl _ rfl eS;have lD:=jJ.ext eS;replace a:=AK a;obtain⟨lE,a⟩:=a;refine wD (fun st=>Ex (eR st) (eR st) lE)<|wA (v:=I (bL.1-(aD.Flat*cV))) rfl<|Ag<|Ab<|Af ?_;have iV:=(g5.ext eS);replace a:=bind_some a;obtain⟨cN,lF,a⟩:=a;rcases Ak ([a8.1.Lo,a8.1.Hi]==[cN.Lo,cN.Hi]) with bG|bG
         ·replace a:=Az a bG;have iW:=(g6.ext eS);replace a:=AW a;obtain⟨i70,i9,lG,lH,lI,a⟩:=a;have dZ:=(e0.mv (Ah eS));obtain⟨jW,jX,_,lJ,rfl,lK⟩:=Sl.elem dZ (by decide) lH;replace a:=AK a;obtain⟨lL,a⟩:=a;replace a:=AW a;obtain⟨i72,jA,lM,lN,lO,a⟩:=a;obtain⟨jY,jZ,_,lP,rfl,lQ⟩:=Sl.elem dZ (by decide) lN;replace a:=AK a;obtain⟨lR,a⟩:=a;replace a:=bind_some a;obtain⟨b5,lS,a⟩:=a;rcases Ak ([aP.1.Lo,aP.1.Hi]==[b5.Lo,b5.Hi]) with cO|cO
          ·replace a:=Az a cO;have d7:=(f0.ext eS);rcases Ak (decide (bL.2.1≤aA.1.Lo)) with cP|cP
           ·replace a:=Az a cP;refine B9 34 [Kc (.agg #[I a8.1.Lo,I a8.1.Hi]),Kc (I bL.1),Kc (I bL.1),Kc (.agg #[I cN.Lo,I cN.Hi]),Kc (.bool ([a8.1.Lo,a8.1.Hi]==[cN.Lo,cN.Hi])),Kc (.bool ([a8.1.Lo,a8.1.Hi]==[cN.Lo,cN.Hi])),Kc (.agg #[I aP.1.Lo,I aP.1.Hi]),Kc (.slice bH aC.1.length bI),Kc (I (cS%(aD.Ac.length:Int))),Kc (pt jW (jX+i70*2)),Kc (pt jW (jX+i70*2)),Kc (I i9.Lo),Kc (I (bL.1-(aD.Flat*cV))),Kc (I (i9.Lo+(bL.1-(aD.Flat*cV)))),Kc (.slice bH aC.1.length bI),Kc (I (cS%(aD.Ac.length:Int))),Kc (pt jY (jZ+i72*2)),Kc (pt jY (jZ+i72*2+1)),Kc (I jA.Hi),Kc (I (bL.1-(aD.Flat*cV))),Kc (I (jA.Hi+(bL.1-(aD.Flat*cV)))),Kc (.agg #[I b5.Lo,I b5.Hi]),Kc (.bool ([aP.1.Lo,aP.1.Hi]==[b5.Lo,b5.Hi])),Kc (.bool ([aP.1.Lo,aP.1.Hi]==[b5.Lo,b5.Hi])),Kc (.bool ([aP.1.Lo,aP.1.Hi]==[b5.Lo,b5.Hi])),Kc (pt f 0),Kc (I aA.1.Lo),Kc (I bL.2.1),Kc (.bool (decide (bL.2.1≤aA.1.Lo))),Kc (.bool (decide (bL.2.1≤aA.1.Lo))),Kc (.bool (decide (bL.2.1≤aA.1.Lo))),Kc (pt f 1),Kc (I aA.1.Hi),Kc (I bL.2.2)] mixed rfl rfl
                (Aa (oD (fun K=>AR (l:=[I a8.1.Lo,I a8.1.Hi]) Jm (es ((K.out 8 rfl).trans iU)) (iV.ext K.AO) rfl rfl))
                (Aa (oD (fun K=>Aq (es ((K.out 14 rfl).trans dS))))
                (Aa (oD (fun K=>Aq (es ((K.out 14 rfl).trans dS))))
                (Aa (Dl rfl rfl (fun a' w' ph K=>(Ar TF rfl (Dw (es (K.dq 1 147)) (es (K.dq 2 148))) (a57 bX bL.1 bL.1 ZA _ cN lF)).mono (fun _ _ h=>⟨(by obtain⟨_,rfl,rfl⟩:=h.2;rfl),h.1⟩)))
                (Aa (oD (fun K=>TS (x1:=[a8.1.Lo,a8.1.Hi]) (x2:=[cN.Lo,cN.Hi]) Pz Py (es (K.dq 0 146)) (es (K.dq 3 149)) rfl rfl rfl rfl))
                (Aa (oD (fun K=>Aq (es (K.dq 4 150))))
                (Aa (Bb rfl rfl rfl (fun _=>rfl) (fun a' w' ph K=>Ae (K.dq 5 151) bG) (fun a' w' ph K=>AR (l:=[I aP.1.Lo,I aP.1.Hi]) Jm (es ((K.out 10 rfl).trans g2)) (iW.ext K.AO) rfl rfl))
                (Aa (Bb rfl rfl rfl (fun _=>rfl) (fun a' w' ph K=>Ae (K.dq 5 151) bG) (fun a' w' ph K=>Aq (es ((K.out 6 rfl).trans fQ))))
                (Aa (Bb rfl rfl rfl (fun _=>rfl) (fun a' w' ph K=>Ae (K.dq 5 151) bG) (fun a' w' ph K=>Aq (es ((K.out 5 rfl).trans d6))))
                (Aa (Bb rfl rfl rfl (fun _=>rfl) (fun a' w' ph K=>Ae (K.dq 5 151) bG) (fun a' w' ph K=>BR (k:=i70) Tryz.underlying55 JG (es (K.dq 7 153)) lJ (es (K.dq 8 154)) lG lI))
                (Aa (Bb rfl rfl rfl (fun _=>rfl) (fun a' w' ph K=>Ae (K.dq 5 151) bG) (fun a' w' ph K=>Ai (es (K.dq 9 155)) (VY _ _ _)))
                (Aa (Bb rfl rfl rfl (fun _=>rfl) (fun a' w' ph K=>Ae (K.dq 5 151) bG) (fun a' w' ph K=>Bg Bz (es (K.dq 10 156)) (lK.mv (Ah K.AO)) rfl))
                (Aa (Bb rfl rfl rfl (fun _=>rfl) (fun a' w' ph K=>Ae (K.dq 5 151) bG) (fun a' w' ph K=>Aq (es ((K.out 18 rfl).trans rfl))))
                (Aa (Bb rfl rfl rfl (fun _=>rfl) (fun a' w' ph K=>Ae (K.dq 5 151) bG) (fun a' w' ph K=>B0 (es (K.dq 11 157)) (es (K.dq 12 158)) lL))
                (Aa (Bb rfl rfl rfl (fun _=>rfl) (fun a' w' ph K=>Ae (K.dq 5 151) bG) (fun a' w' ph K=>Aq (es ((K.out 6 rfl).trans fQ))))
                (Aa (Bb rfl rfl rfl (fun _=>rfl) (fun a' w' ph K=>Ae (K.dq 5 151) bG) (fun a' w' ph K=>Aq (es ((K.out 5 rfl).trans d6))))
                (Aa (Bb rfl rfl rfl (fun _=>rfl) (fun a' w' ph K=>Ae (K.dq 5 151) bG) (fun a' w' ph K=>BR (k:=i72) Tryz.underlying55 JG (es (K.dq 14 160)) lP (es (K.dq 15 161)) lM lO))
                (Aa (Bb rfl rfl rfl (fun _=>rfl) (fun a' w' ph K=>Ae (K.dq 5 151) bG) (fun a' w' ph K=>Ai (es (K.dq 16 162)) (Wc _ _ _)))
                (Aa (Bb rfl rfl rfl (fun _=>rfl) (fun a' w' ph K=>Ae (K.dq 5 151) bG) (fun a' w' ph K=>Gj Bz (es (K.dq 17 163)) (lQ.mv (Ah K.AO)) rfl))
                (Aa (Bb rfl rfl rfl (fun _=>rfl) (fun a' w' ph K=>Ae (K.dq 5 151) bG) (fun a' w' ph K=>Aq (es ((K.out 18 rfl).trans rfl))))
                (Aa (Bb rfl rfl rfl (fun _=>rfl) (fun a' w' ph K=>Ae (K.dq 5 151) bG) (fun a' w' ph K=>B0 (es (K.dq 18 164)) (es (K.dq 19 165)) lR))
                (Aa (IT rfl rfl rfl (fun a' w' ph K=>Ae (K.dq 5 151) bG) (fun a' w' ph K=>(Ar TF rfl (Dw (es (K.dq 13 159)) (es (K.dq 20 166))) (a57 bX (i9.Lo+(bL.1-(aD.Flat*cV))) (jA.Hi+(bL.1-(aD.Flat*cV))) ZA _ b5 lS)).mono (fun _ _ h=>⟨(by obtain⟨_,rfl,rfl⟩:=h.2;rfl),h.1⟩)))
                (Aa (Bb rfl rfl rfl (fun _=>rfl) (fun a' w' ph K=>Ae (K.dq 5 151) bG) (fun a' w' ph K=>TS (x1:=[aP.1.Lo,aP.1.Hi]) (x2:=[b5.Lo,b5.Hi]) Pz Py (es (K.dq 6 152)) (es (K.dq 21 167)) rfl rfl rfl rfl))
                (Aa (oD (fun K=>AY (es (K.dq 5 151)) bG (es (K.dq 22 168))))
                (Aa (oD (fun K=>Aq (es (K.dq 23 169))))
                (Aa (Bb rfl rfl rfl (fun _=>rfl) (fun a' w' ph K=>Ae (K.dq 24 170) cO) (fun a' w' ph K=>Ai (es ((K.out 12 rfl).trans eQ)) (OR _ _)))
                (Aa (Bb rfl rfl rfl (fun _=>rfl) (fun a' w' ph K=>Ae (K.dq 24 170) cO) (fun a' w' ph K=>AG Bz (es (K.dq 25 171)) (d7.ext K.AO) rfl))
                (Aa (Bb rfl rfl rfl (fun _=>rfl) (fun a' w' ph K=>Ae (K.dq 24 170) cO) (fun a' w' ph K=>Aq (es ((K.out 15 rfl).trans g3))))
                (Aa (Bb rfl rfl rfl (fun _=>rfl) (fun a' w' ph K=>Ae (K.dq 24 170) cO) (fun a' w' ph K=>IX (es (K.dq 26 172)) (es (K.dq 27 173))))
                (Aa (oD (fun K=>AY (es (K.dq 24 170)) cO (es (K.dq 28 174))))
                (Aa (oD (fun K=>Aq (es (K.dq 29 175))))
                (Aa (Bb rfl rfl rfl (fun _=>rfl) (fun a' w' ph K=>Ae (K.dq 30 176) cP) (fun a' w' ph K=>Ai (es ((K.out 12 rfl).trans eQ)) (QG _ _)))
                (Aa (Bb rfl rfl rfl (fun _=>rfl) (fun a' w' ph K=>Ae (K.dq 30 176) cP) (fun a' w' ph K=>AG Bz (es (K.dq 31 177)) (d7.ext K.AO) rfl))
                (Aa (Bb rfl rfl rfl (fun _=>rfl) (fun a' w' ph K=>Ae (K.dq 30 176) cP) (fun a' w' ph K=>Aq (es ((K.out 16 rfl).trans g4))))
                (B8 _))))))))))))))))))))))))))))))))))) ?_
            intro m2;rintro _ rfl _ rfl _ rfl _ rfl _ rfl _ rfl _ rfl _ rfl _ rfl _ rfl _ rfl _ rfl _ rfl _ rfl _ rfl _ rfl _ rfl _ rfl _ rfl _ rfl _ rfl _ rfl _ rfl _ rfl _ rfl _ rfl _ rfl _ rfl _ rfl _ rfl _ rfl _ rfl _ rfl _ rfl lT;have lU:=lD.ext lT;refine An rfl rfl (Ae rfl cP) rfl (by decide) (fun st=>LX (eR st) (eR st))<|wD (fun st=>AY (v:=.bool (decide (aA.1.Hi≤bL.2.2))) (eR st) cP (eR st))<|wM (v:=.bool (decide (aA.1.Hi≤bL.2.2))) rfl ?_;rcases Ak (decide (aA.1.Hi≤bL.2.2)) with eT|eT
            ·replace a:=Az a eT;replace a:=Ck a;obtain⟨lV,a⟩:=a;refine Di rfl rfl (Ae rfl eT) rfl (by decide) (fun st=>Ar EI (eR st) Gx (a37 bX ZA _ lV)) ?_;rintro _ m3 ⟨lW,rfl⟩;have lX:=lU.ext lW;refine wD (fun st=>AY (v:=.bool true) (eR st) eT (eR st))<|wA (v:=.bool true) rfl<|Ag<|Ab<|AI ?_;have dT:=oi a;refine AJ rfl rfl ?_;exact⟨lX.Bc,congrArg Value.bool dT⟩
            ·replace a:=AA a eT;exact absurd (oi a) (by decide)
           ·replace a:=AA a cP;exact absurd (oi a) (by decide)
          ·replace a:=AA a cO;exact absurd (oi a) (by decide)
         ·replace a:=AA a bG;exact absurd (oi a) (by decide)
end Go.Proofs.YtbhofkcbfblijaaGreat
end
section
namespace Go.Proofs.YtbhofkcbfblijaaGreat
open Go.RowKit Go.ChangeShapes Go.WideShapes Go.ChangeAt
theorem Zg(t:Aj)(k:Int)(h1:Iz .u8 k):∃K,LB K t k=some true:=YJ t k (by have:=QC h1;omega) (by have:=QC h1;omega)
set_option maxRecDepth 100000 in
theorem W2(os:Os)(started:os.Started)(H:Type)(enc:TypeId×Value→H):
  ReturnsInHanded {} Tryz.checked os 7 .any (Rows.tradeSumsSpec.pre6 enc Tryz.prog Tryz.f7 Rows.tradeSumsRow.domain false) (Rows.tradeSumsSpec.post enc Tryz.prog Tryz.f7 false true false false):=by
 refine returnsInHanded_of_change_sized (C:=Tryz.checked) RB started (by kernel_rfl) Tryz.func7
  (ChangeSpec.witness6 (enc:=enc) (C:=Tryz.checked) false ⟨#[], #[.agg #[.slice none 0 0,.slice none 0 0,.slice none 0 0,.int .i64 0,.slice none 0 0,.slice none 0 0,.slice none 0 0],.int .u8 0],[]⟩ 8 (by kernel_rfl) (by kernel_rfl) (by kernel_rfl) (by kernel_rfl)) ?_
 intro W base args ds gs before d aE aN aF _;have a:∀(j:Nat) t v,Tryz.f7.params[j]?=some t→args[j]?=some v→Value.okWide Tryz.prog W .any base t v:=d;have b:=aE;obtain⟨p,q,aG,aO,rfl,aT,aU⟩:=aE;have f:DataW.TrodAll enc Tryz.prog W 0 (fun _=>true) true Tryz.f7.params.toList args.toList ds p:=aG;obtain⟨rfl,rfl⟩:=trodVars_none aO;simp only[List.append_nil] at b;have aH:∀x∈p,x.block<W.heap.size:=fun x hx=>by simpa using b.lt x hx
 have aI:=f;have c:(DataW.weightsEach Tryz.prog (Tryz.f7.params.toList++[]) (ds++[])).all (· ≤reachBytes)=true:=aF;rw[Tryz.params7] at f a c;obtain⟨v0,v1,d0,d1,aP,aQ,rfl,rfl,rfl,h0,h1⟩:=trodAll_two f;obtain⟨aJ,aV,aK,⟨g,h,i,k,l,m,n,o,r,s,u,w,rfl,y,z,aA,aB,aC,aD⟩,w0⟩:=Nr Tryz.underlying67 O7 (a 0 67 v0 rfl rfl) h0 (Li (j:=0) c rfl rfl);obtain⟨x1,aL,w1⟩:=Lz Tryz.underlying5 (a 1 5 v1 rfl rfl) h1;subst aK;subst aL;obtain⟨K,aR⟩:=Zg aJ x1 w1;refine(LS (a7 K aJ x1 g h i k l m n o r s u w ZA W y z aA aB aC aD aR)).mono fun e W' ⟨v,he,hx,aS⟩=>?_;subst he;subst aS;exact⟨_,rfl,Ko (pa:=(aP++aQ)) (pv:=[]) b (fun _ _ _=>trodAll_mk1 (shut_bool Tryz.underlying4 _)) (fun sp hs=>LR P5 P6 (by rw[Tryz.params7];decide) aI hx aH sp (fun x aM=>hs x (by simpa using aM))) (fun _ _=>rfl) (by simp) hx (ok_one (by kernel_rfl) rfl (okWide_bool_mk Tryz.underlying4 _))⟩
theorem RM:((Rows.tradeSumsRow.inPlace==Tryz.checked.prog.inPlace 7)&&(Rows.tradeSumsRow.unfollowed==Tryz.checked.prog.unfollowed 7)&&(Rows.tradeSumsRow.recurses==Tryz.checked.prog.recurses 7)&&(Rows.tradeSumsRow.named==Tryz.checked.prog.varsNamed 7))=true:=by kernel_rfl
theorem XX:joinedFacts Tryz.checked.prog 7 Tryz.f7 Rows.tradeSumsSpec Rows.tradeSumsRow=true:=by
 unfold joinedFacts;exact(Bf (Bf (Bf (Bf (Bf (Bf (Bf (Bf (Bf (Bf (Bf (Bf (Bf (Bf (Bf (Bf (Bf (Bf (Bf (Bf (Bf (Bf (Bf (Bf (Bf (Bf (Bf (Bf (Bf (Bf (Bf (by kernel_rfl) O8) O9) (by kernel_rfl)) (by kernel_rfl)) (by kernel_rfl)) NX) (by kernel_rfl)) NY) (FI (FI (FI RM)))) (IE (FI (FI RM)))) (IE (FI RM))) (IE RM)) (by kernel_rfl)) (by kernel_rfl)) (by kernel_rfl)) (by kernel_rfl)) (by kernel_rfl)) (by kernel_rfl)) (by kernel_rfl)) (by kernel_rfl)) (by kernel_rfl)) Pa) (by kernel_rfl)) NZ) (FI (FI Hs))) (IE (FI Hs))) (IE Hs)) (by kernel_rfl)) (by kernel_rfl)) (by kernel_rfl)) (by kernel_rfl))
theorem tradeSums_holds:Rows.TradeSumsSaid:=
 OpenClaim.holds_of_wide 7 Tryz.f7 rfl rfl rfl rfl rfl rfl rfl ⟨rfl,rfl,rfl,rfl,rfl⟩ rfl rfl rfl rfl rfl (by kernel_rfl) Tryz.func7 XX
  (of_decide_eq_true (by kernel_rfl)) (by unfold Func.isWrapper;rw[if_neg (by decide+kernel)];exact⟨rfl,rfl⟩)
  (fun os started H enc _=>W2 os started H enc)
end Go.Proofs.YtbhofkcbfblijaaGreat
end
