import Derived.Test.YtkljfdkmjdjpfaaGreatBB7
import Derived.ProofKit
import Derived.ChangeSame
import Derived.SizedLaws
import Derived.Deep.Slices
import Derived.Test.YtkljfdkmjdjpfaaGreatProg
import Derived.Test.YtkljfdkmjdjpfaaGreatRows
/-
  Proved: the law RackNoBetter returns true for every argument that the row hands over, and leaves every argument as it was; no condition beside the row's own.
-/
set_option linter.all false
section
set_option linter.unusedVariables false
set_option linter.unusedSimpArgs false
namespace Go.Proofs.YtkljfdkmjdjpfaaGreat
open Go.RowKit Go.WideShapes
def Cc(c:Nat)(d:Ap)(f:(List (List Int))):Nat→Int→Int→Option ((Bool)⊕(Int))
 |0,_,_=>none
 |g+1,b,a=>cond (decide (a<(d.Ae.length:Int))) ((CT c d).bind fun h=>(Dn c f).bind fun i=>(Ed c h i a).bind fun e=>cond (e.2 !=0) (some (.inl false)) (cond (e.1==1) ((i64 (b+1)).bind fun _=>(i64 (a+1)).bind fun _=>Cc c d f g (b+1) (a+1)) ((i64 (a+1)).bind fun _=>Cc c d f g b (a+1)))) (some (.inr b))
def DL(a:Nat)(b:Ap)(o:List Int):Option (Bool):=
 (ER a b).bind fun r2=>cond (!r2) ((Gh (Eb a=some true)).bind fun _=>some (true)) ((ES a b o).bind fun g=>(CT a b).bind fun h=>(FT a h).bind fun d=>(CT a b).bind fun i=>(FV a i).bind fun e=>(CT a b).bind fun j=>(Dn a g).bind fun k=>(Fl a j k).bind fun f=>cond (d.2.2 !=0) (some (false)) (cond (e.2.2 !=0) (some (false)) (cond (f.2.2 !=0) (some (false)) (cond (decide (f.1<d.2.1)) (some (false)) ((CT a b).bind fun l=>(Dn a g).bind fun m=>(i64 (d.2.1-1)).bind fun _=>(DP a l m (d.2.1-1)).bind fun n=>cond (n) (some (false)) ((Cc a b g a (0:Int) (0:Int)).bind fun z=>Sum.elim (fun c=>some (c)) (fun c=>cond (decide (c≤e.2.1)) ((Gh (Eb a=some true)).bind fun _=>some (true)) (some (false))) z))))))
end Go.Proofs.YtkljfdkmjdjpfaaGreat
end
section
namespace Go.Proofs.YtkljfdkmjdjpfaaGreat
section
variable{K:Nat}(hK:2000≤K){y:Ap}(h:check y=0)
include hK h
theorem J2:CT K y=some y:=Rn hK y (by have:=(Fx h).n4;omega)
theorem LL{o:List (List Int)}(a:C3 y o=true):Dn K o=some o:=by
 obtain⟨b,c,_⟩:=IJ h a;exact Qp hK o b c
end
theorem OO{K:Nat}(hK:2000≤K){y:Ap}(a:check y=0){o:List (List Int)}(b:C3 y o=true):∀(k m i:Nat) (s:Int),y.Ae.length=i+k→k<m→0≤s→s≤i→
  Cc K y o m s (i:Int)=some (.inr (s+((List.range' i k).countP (fun i=>(BL y).all (Gd y o i)):Nat))):=by
 have c:=Fx a;have f:=c.n4;intro k
 induction k with
 |zero=>
  intro m i s h hm h0 d;cases m with
  |zero=>omega
  |succ m=>rw[Cc.eq_2,cf (df (by omega))];simp
 |succ k ih=>
  intro m i s h hm h0 d;cases m with
  |zero=>omega
  |succ m=>
   have hi:i<y.Ae.length:=by omega
   have e:(verdict y o i==1)=(BL y).all (Gd y o i):=by
    rw[Bool.eq_iff_iff,beq_iff_eq,(OJ y o i).1,List.all_eq_true]
   rw[Cc.eq_2,ct (dt (by omega)),bd (J2 hK a),bd (LL hK a b),bd (Ly hK a b hi),cf (by rfl),List.range'_succ,List.countP_cons];show cond (verdict y o i==1) _ _=_;rw[e];cases (BL y).all (Gd y o i) with
   |true=>
    rw[ct rfl,BJ (by omega) (by omega),BJ (by omega) (by omega),DI,ih m (i+1) (s+1) (by omega) (by omega) (by omega) (by omega)]
    congr 2;simp;omega
   |false=>
    rw[cf rfl,BJ (by omega) (by omega),DI,ih m (i+1) s (by omega) (by omega) (by omega) (by omega)]
    congr 2
theorem Kj(y:Ap)(ws:List Int)(hw:W8 ws):∃K,DL K y ws=some true:=by
 refine⟨2000,?_⟩;have hK:2000≤2000:=Nat.le_refl _;have e:=OM hK;unfold DL;rw[bd (Qr hK y)];cases f:JW y with
 |false=>rw[nf,Ga e]
 |true=>
  obtain⟨a,k⟩:=Qs f;have c:=Fx a;obtain⟨o,g,b⟩:=Qu hK y c ws hw;obtain⟨h,l,m⟩:=Lc c;obtain⟨s1,s2,n⟩:=Jf c;have p:=h o b;have i:=s1 o b;have j:=KJ c (GF y).2;have d:=OO hK a b y.Ae.length 2000 0 0 (by omega) (by omega) (by omega) (by omega);rw[Int.natCast_zero,←List.range_eq_range',Int.zero_add] at d;rw[nt,bd g,bd (J2 hK a),bd (Py hK a),bd (J2 hK a),bd (Pz hK a),bd (J2 hK a),bd (LL hK a b),bd (Px hK a b),cf (by rfl),cf (by rfl),cf (by rfl),cf (df (by show¬(CP y o).1<(GF y).1;omega)),bd (J2 hK a),bd (LL hK a b)];show(i64 ((GF y).1-1)).bind _=_;rw[BJ (by omega) (by omega)];show(DP 2000 y o ((GF y).1-1)).bind _=_;rw[bd (JX hK a b _),cf (df (by omega)),bd d];show cond (decide ((F1 y o:Int)≤(Gn y).1)) _ _=_;rw[ct (dt i),Ga e]
end Go.Proofs.YtkljfdkmjdjpfaaGreat
end
section
set_option linter.unusedVariables false
set_option linter.unusedSimpArgs false
namespace Go.Proofs.YtkljfdkmjdjpfaaGreat
open Go.RowKit Go.WideShapes
set_option maxRecDepth 20000
open HF
attribute [local irreducible] BD WL CC CW LV BF D1 Dy One Bf
set_option maxHeartbeats 4000000 in
theorem a9(r:Nat)(b:Ap)(cU:List Int)(c:Option Addr)(d:Nat)(a2:Option Addr)(a3:Nat)(Z:Nat→Prop)(w:World)(dO:Sl AJ w Z c d b.Ae)(dP:Sl (Ay .u8) w Z a2 a3 cU)(a:DL r b cU=some true):
 BF Tryz.prog 9 #[.agg #[I b.Ak,I b.Ag,I b.An,I b.Av,.slice c b.Ae.length d],.slice a2 cU.length a3] w (fun v w'=>Ext w w'∧v=.bool true):=by
 unfold DL at a;refine A3 (N:=101) Tryz.func9 rfl rfl (by simp) ?_;intro fJ d8 fK;have d9:=AH (i:=0) (v:=.agg #[I b.Ak,I b.Ag,I b.An,I b.Av,.slice c b.Ae.length d]) d8 rfl;have eA:=AH (i:=1) (v:=.slice a2 cU.length a3) d8 rfl;clear d8;have dT:Hp FN [] w [] w:=Hp.start (BH.none w);have cV:=dO.mv (Bi (Z:=Z) (L:=[]) w);have cW:=dP.mv (Bi (Z:=Z) (L:=[]) w);refine Ad<|Ab<|we rfl (fun st=>BU (v:=.agg #[I b.Ak,I b.Ag,I b.An,I b.Av,.slice c b.Ae.length d]) (cs:= #[I b.Ak,I b.Ag,I b.An,I b.Av,.slice c b.Ae.length d]) (ee st d9) rfl) ?_;rintro _ w1 ⟨s,rfl,bT⟩;have e5:=dT.nb bT;have fC:=dT.BK bT;refine wa rfl (v:=.bool false) rfl<|Af<|Aa<|Ad<|Ad<|Ab<|wd rfl (fun st=>Bd (l:=[I b.Ak,I b.Ag,I b.An,I b.Av,.slice c b.Ae.length d]) Fy (ee st rfl) bT.bk rfl rfl) ?_;have bU:=(cV.mv (Aw bT));replace a:=bind_some a;obtain⟨r2,e6,a⟩:=a;refine we rfl (fun st=>AL Ta (ee st rfl) (Cw (ee st rfl)) (UO r b c d ZA _ bU.all r2 e6)) ?_;rintro _ f2 ⟨cP,rfl⟩;have c9:=e5.ext cP;refine wd rfl (fun st=>DC (ee st rfl))<|Af<|Aa ?_;rcases Ao (!r2) with a4|a4
 ·replace a:=AD a a4;have fD:r2=false:=by simpa using a4
  refine Az rfl a4<|Ad<|Ab ?_;replace a:=Dc a;obtain⟨e7,a⟩:=a;refine we rfl (fun st=>AL PR (ee st rfl) Ij (T9 r ZA _ e7)) ?_;rintro _ f3 ⟨e8,rfl⟩;have e9:=c9.ext e8;refine wa rfl (v:=.bool true) rfl<|Af<|Aa<|AB<|Ax ?_;have cF:=Option.some.inj a;refine AO rfl rfl ?_;exact⟨e9.Bo,congrArg Value.bool cF⟩
 ·replace a:=AE a a4;have fE:r2=true:=by simpa using a4
  refine AI rfl a4<|AT<|Aa<|Ad<|Ab ?_;have cQ:=(bT.bk.ext cP);refine wd rfl (fun st=>Bd (l:=[I b.Ak,I b.Ag,I b.An,I b.Av,.slice c b.Ae.length d]) Fy (ee st rfl) cQ rfl rfl)<|wm rfl (v:=.slice a2 cU.length a3) eA ?_;have bV:=(bU.mv (Aj cP));have cX:=((cW.mv (Aw bT)).mv (Aj cP));replace a:=bind_some a;obtain⟨a5,fA,a⟩:=a;refine we rfl (fun st=>AL Tb (ee st rfl) (Ew (ee st rfl) (ee st rfl)) (a59 r b cU c d a2 a3 (ZZ FN [] Z w.heap.size [some s]) _ bV cX a5 fA)) ?_;rintro _ fL ⟨dA,⟨k,m,rfl,a6⟩⟩;have dU:=c9.ext dA;have a6:=a6.mv (c9.CV (Nat.le_refl _));refine wa rfl (v:=.slice k a5.length m) rfl<|Af<|Aa<|Ad<|Ab ?_;have cR:=(cQ.ext dA);refine wd rfl (fun st=>Bd (l:=[I b.Ak,I b.Ag,I b.An,I b.Av,.slice c b.Ae.length d]) Fy (ee st rfl) cR rfl rfl) ?_;have bW:=(bV.mv (Aj dA));replace a:=bind_some a;obtain⟨dV,eB,a⟩:=a;refine we rfl (fun st=>AL J1 (ee st rfl) (Cw (ee st rfl)) (a31 r b c d (ZZ FN [] Z w.heap.size [some s]) _ bW dV eB)) ?_;rintro _ fM ⟨b2,⟨_,rfl,⟨cY,cZ,rfl,aG⟩⟩⟩;have dW:=dU.ext b2;have aG:=aG.mv (dU.CV (Nat.le_refl _));replace a:=bind_some a;obtain⟨g,eC,a⟩:=a;refine we rfl (fun st=>AL PL (ee st rfl) (Cw (ee st rfl)) (T8 r dV cY cZ (ZZ FN [] Z w.heap.size [some s]) _ aG g eC)) ?_;rintro _ fN ⟨b3,⟨_,_,_,rfl,⟨a7,a8,rfl,bX⟩,rfl,rfl⟩⟩;have dX:=dW.ext b3;have bX:=bX.mv (dW.CV (Nat.le_refl _));refine wm rfl (v:=.tuple #[.slice a7 g.1.length a8,I g.2.1,I g.2.2]) rfl<|wd rfl (fun st=>Bw (v:=.slice a7 g.1.length a8) (ee st rfl) rfl)<|wd rfl (fun st=>Bw (v:=I g.2.1) (ee st rfl) rfl)<|wd rfl (fun st=>Bw (v:=I g.2.2) (ee st rfl) rfl)<|wa rfl (v:=.slice a7 g.1.length a8) rfl<|wa rfl (v:=I g.2.1) rfl<|wa rfl (v:=I g.2.2) rfl<|Af<|Aa<|Ad<|Ab ?_;have cS:=((cR.ext b2).ext b3);refine wd rfl (fun st=>Bd (l:=[I b.Ak,I b.Ag,I b.An,I b.Av,.slice c b.Ae.length d]) Fy (ee st rfl) cS rfl rfl) ?_;have bY:=((bW.mv (Aj b2)).mv (Aj b3));replace a:=bind_some a;obtain⟨dY,eD,a⟩:=a;refine we rfl (fun st=>AL J1 (ee st rfl) (Cw (ee st rfl)) (a31 r b c d (ZZ FN [] Z w.heap.size [some s]) _ bY dY eD)) ?_;rintro _ fO ⟨b4,⟨_,rfl,⟨c0,c1,rfl,aH⟩⟩⟩;have dZ:=dX.ext b4;have aH:=aH.mv (dX.CV (Nat.le_refl _));replace a:=bind_some a;obtain⟨h,eE,a⟩:=a;refine we rfl (fun st=>AL PN (ee st rfl) (Cw (ee st rfl)) (a51 r dY c0 c1 (ZZ FN [] Z w.heap.size [some s]) _ aH h eE)) ?_;rintro _ fP ⟨b5,⟨_,_,_,rfl,⟨bA,bB,rfl,bZ⟩,rfl,rfl⟩⟩;have d0:=dZ.ext b5;have bZ:=bZ.mv (dZ.CV (Nat.le_refl _));refine wm rfl (v:=.tuple #[.slice bA h.1.length bB,I h.2.1,I h.2.2]) rfl<|wd rfl (fun st=>Bw (v:=.slice bA h.1.length bB) (ee st rfl) rfl)<|wd rfl (fun st=>Bw (v:=I h.2.1) (ee st rfl) rfl)<|wd rfl (fun st=>Bw (v:=I h.2.2) (ee st rfl) rfl)<|wa rfl (v:=.slice bA h.1.length bB) rfl<|wa rfl (v:=I h.2.1) rfl<|wa rfl (v:=I h.2.2) rfl<|Af<|Aa<|Ad<|Ab ?_;have cT:=((cS.ext b4).ext b5);refine wd rfl (fun st=>Bd (l:=[I b.Ak,I b.Ag,I b.An,I b.Av,.slice c b.Ae.length d]) Fy (ee st rfl) cT rfl rfl) ?_;have b1:=((bY.mv (Aj b4)).mv (Aj b5));replace a:=bind_some a;obtain⟨d1,eG,a⟩:=a;refine we rfl (fun st=>AL J1 (ee st rfl) (Cw (ee st rfl)) (a31 r b c d (ZZ FN [] Z w.heap.size [some s]) _ b1 d1 eG)) ?_;rintro _ fQ ⟨b6,⟨_,rfl,⟨c2,c3,rfl,aI⟩⟩⟩;have d2:=d0.ext b6;have aI:=aI.mv (d0.CV (Nat.le_refl _));refine wm rfl (v:=.slice k a5.length m) rfl ?_;have bC:=(((((a6.mv (Aj b2)).mv (Aj b3)).mv (Aj b4)).mv (Aj b5)).mv (Aj b6));replace a:=bind_some a;obtain⟨d3,eH,a⟩:=a;refine we rfl (fun st=>AL Nl (ee st rfl) (Cw (ee st rfl)) (Tj r a5 k m (ZZ FN [] Z w.heap.size [some s]) _ bC d3 eH)) ?_;rintro _ fR ⟨bD,⟨dB,dC,rfl,aQ⟩⟩;have cI:=d2.ext bD;have aQ:=aQ.mv (d2.CV (Nat.le_refl _));have bQ:=(aI.mv (Aj bD));replace a:=bind_some a;obtain⟨f,eI,a⟩:=a;refine we rfl (fun st=>AL Nj (ee st rfl) (Ew (ee st rfl) (ee st rfl)) (Th r d1 d3 c2 c3 dB dC (ZZ FN [] Z w.heap.size [some s]) _ bQ aQ f eI)) ?_;rintro _ fS ⟨b7,⟨_,_,_,rfl,rfl,⟨_,rfl,⟨aA,aB,aC,aD,rfl,bE,bF⟩⟩,rfl⟩⟩;have dD:=cI.ext b7;have bE:=bE.mv (cI.CV (Nat.le_refl _));have bF:=bF.mv (cI.CV (Nat.le_refl _));refine wm rfl (v:=.tuple #[I f.1,.agg #[.slice aA f.2.1.Comes.length aB,.slice aC f.2.1.An.length aD],I f.2.2]) rfl<|wd rfl (fun st=>Bw (v:=I f.1) (ee st rfl) rfl)<|wd rfl (fun st=>Bw (v:=.agg #[.slice aA f.2.1.Comes.length aB,.slice aC f.2.1.An.length aD]) (ee st rfl) rfl)<|wd rfl (fun st=>Bw (v:=I f.2.2) (ee st rfl) rfl)<|we rfl (fun st=>BQ (cs:= #[.slice none 0 0,.slice none 0 0]) GA rfl) ?_;rintro _ fT ⟨aO,rfl,aR⟩;have b8:=dD.nb aR;have fB:=dD.BK aR;refine wa rfl (v:=I f.1) rfl<|Bh rfl rfl (fun st=>Bc (n:=2) (l:=[.slice aA f.2.1.Comes.length aB,.slice aC f.2.1.An.length aD]) (Cd:= #[.slice aA f.2.1.Comes.length aB,.slice aC f.2.1.An.length aD]) (ee st rfl) (ee st rfl) GG aR.bk rfl rfl (show 0+2≤2 by decide) (AP rfl) rfl) ?_;rintro _ fU b9;have dE:=b8.gr b9.gr 0 rfl;refine wa rfl (v:=I f.2.2) rfl<|Af<|Aa<|Ad<|Ad<|Ab<|wm rfl (v:=I g.2.2) rfl<|wd rfl (fun st=>Fh (ee st rfl) (ee st rfl))<|wm rfl (v:=.bool (g.2.2 !=0)) rfl ?_;rcases Ao (g.2.2 !=0) with aS|aS
  ·replace a:=AD a aS;exact absurd (Option.some.inj a) (by decide)
  ·replace a:=AE a aS;refine As rfl rfl (Ac rfl aS) rfl (by decide) (fun st=>AZ (v:=I h.2.2) (ee st rfl))<|As rfl rfl (Ac rfl aS) rfl (by decide) (fun st=>Fh (ee st rfl) (ee st rfl))<|wd rfl (fun st=>Bm (v:=.bool (h.2.2 !=0)) (ee st rfl) aS (ee st rfl))<|wm rfl (v:=.bool (h.2.2 !=0)) rfl ?_;rcases Ao (h.2.2 !=0) with aT|aT
   ·replace a:=AD a aT;exact absurd (Option.some.inj a) (by decide)
   ·replace a:=AE a aT;refine As rfl rfl (Ac rfl aT) rfl (by decide) (fun st=>AZ (v:=I f.2.2) (ee st rfl))<|As rfl rfl (Ac rfl aT) rfl (by decide) (fun st=>Fh (ee st rfl) (ee st rfl))<|wd rfl (fun st=>Bm (v:=.bool (f.2.2 !=0)) (ee st rfl) aT (ee st rfl))<|wm rfl (v:=.bool (f.2.2 !=0)) rfl ?_;rcases Ao (f.2.2 !=0) with aJ|aJ
    ·replace a:=AD a aJ;exact absurd (Option.some.inj a) (by decide)
    ·replace a:=AE a aJ;refine As rfl rfl (Ac rfl aJ) rfl (by decide) (fun st=>AZ (v:=I f.1) (ee st rfl))<|As rfl rfl (Ac rfl aJ) rfl (by decide) (fun st=>AZ (v:=I g.2.1) (ee st rfl))<|As rfl rfl (Ac rfl aJ) rfl (by decide) (fun st=>Cx (ee st rfl) (ee st rfl))<|wd rfl (fun st=>Bm (v:=.bool (decide (f.1<g.2.1))) (ee st rfl) aJ (ee st rfl))<|wm rfl (v:=.bool (decide (f.1<g.2.1))) rfl ?_;rcases Ao (decide (f.1<g.2.1)) with o|o
     ·replace a:=AD a o;exact absurd (Option.some.inj a) (by decide)
     ·replace a:=AE a o;have cG:=(((((cT.ext b6).ext bD).ext b7).ext aR.gr).gr b9.gr (b8.ne 1 0 rfl rfl rfl));refine As rfl rfl (Ac rfl o) rfl (by decide) (fun st=>Bd (l:=[I b.Ak,I b.Ag,I b.An,I b.Av,.slice c b.Ae.length d]) Fy (ee st rfl) cG rfl rfl) ?_;have bG:=(((((b1.mv (Aj b6)).mv (Aj bD)).mv (Aj b7)).mv (Aw aR)).mv (b8.AR b9.gr 0 rfl));replace a:=bind_some a;obtain⟨d4,eJ,a⟩:=a;refine Dj rfl rfl (Ac rfl o) rfl (by decide) (fun st=>AL J1 (ee st rfl) (Cw (ee st rfl)) (a31 r b c d (ZZ FN [] Z w.heap.size [some aO,some s]) _ bG d4 eJ)) ?_;rintro _ fV ⟨cA,⟨_,rfl,⟨c4,c5,rfl,aK⟩⟩⟩;have dF:=dE.ext cA;have aK:=aK.mv (dE.CV (Nat.le_refl _));refine As rfl rfl (Ac rfl o) rfl (by decide) (fun st=>AZ (v:=.slice k a5.length m) (ee st rfl)) ?_;have a0:=(((((bC.mv (Aj bD)).mv (Aj b7)).mv (Aw aR)).mv (b8.AR b9.gr 0 rfl)).mv (Aj cA));replace a:=bind_some a;obtain⟨d5,eK,a⟩:=a;refine Dj rfl rfl (Ac rfl o) rfl (by decide) (fun st=>AL Nl (ee st rfl) (Cw (ee st rfl)) (Tj r a5 k m (ZZ FN [] Z w.heap.size [some aO,some s]) _ a0 d5 eK)) ?_;rintro _ fW ⟨bH,⟨dG,dH,rfl,aU⟩⟩;have eL:=dF.ext bH;have aU:=aU.mv (dF.CV (Nat.le_refl _));refine As rfl rfl (Ac rfl o) rfl (by decide) (fun st=>AZ (v:=I g.2.1) (ee st rfl)) ?_;replace a:=AU a;obtain⟨eM,a⟩:=a;refine As rfl rfl (Ac rfl o) rfl (by decide) (fun st=>Mb (ee st rfl) (ee st rfl) eM) ?_;have bR:=(aK.mv (Aj bH));replace a:=bind_some a;obtain⟨dI,eN,a⟩:=a;refine Dj rfl rfl (Ac rfl o) rfl (by decide) (fun st=>AL PQ (ee st rfl) (E8 (ee st rfl) (ee st rfl) (ee st rfl)) (a49 r d4 d5 (g.2.1-1) c4 c5 dG dH ZA _ bR.all aU.all dI eN)) ?_;rintro _ fX ⟨cB,rfl⟩;have eO:=eL.ext cB;refine wd rfl (fun st=>Bm (v:=.bool dI) (ee st rfl) o (ee st rfl))<|Af<|Aa ?_;rcases Ao (dI) with cC|cC
      ·replace a:=AD a cC;exact absurd (Option.some.inj a) (by decide)
      ·replace a:=AE a cC;refine AI rfl cC<|AT<|Aa<|Ad<|Ab<|wa rfl (v:=I 0) rfl<|Af<|Aa<|Ad<|Ad<|Ab<|wa rfl (v:=I 0) rfl<|Af<|Aa<|A8 ?_;replace a:=bind_some a;obtain⟨dJ,aV,a⟩:=a;refine Cn (fun eP p cJ=>(eP=.ret∧∃q,dJ=.inl q∧p.tmps.size=101∧p.defers=(X0).ds∧sl p 4=.bool q∧Hp FN [] w [some aO,some s] cJ)∨(eP=.exit 0∧∃q,dJ=.inr q∧p.tmps.size=101∧p.defers=(X0).ds∧sl p 10=I h.2.1∧sl p 15=I q∧Hp FN [] w [some aO,some s] cJ)) ?eQ ?eR
       case eQ=>
        clear a;refine Cm (fun(dQ:Nat) (p:Act) (cJ:World)=>∃j,∃e,Cc r b a5 dQ j e=some dJ∧p.tmps.size=101∧p.defers=(X0).ds∧sl p 2=pt s 0∧sl p 5=.slice k a5.length m∧sl p 10=I h.2.1∧sl p 15=I j∧sl p 16=I e∧Hp FN [] w [some aO,some s] cJ∧Bk cJ s 63 #[I b.Ak,I b.Ag,I b.An,I b.Av,.slice c b.Ae.length d]∧Sl AJ cJ (ZZ FN [] Z w.heap.size [some aO,some s]) c d b.Ae∧Sl (Bz (Ay .i64)) cJ (ZZ FN [] Z w.heap.size [some aO,some s]) k m a5) r ?eS ?eU
        case eS=>
         intro st;have dK:=(((cG.ext cA).ext bH).ext cB);have cK:=(((bG.mv (Aj cA)).mv (Aj bH)).mv (Aj cB));have cH:=((a0.mv (Aj bH)).mv (Aj cB));exact⟨(0:Int),(0:Int),aV,qz st,qd st,sp st 2 rfl,sp st 5 rfl,sp st 10 rfl,sp st 15 rfl,sp st 16 rfl,eO,dK,cK,cH⟩
        case eU=>
         rintro(_|dQ) fG fH ⟨j,e,aV,dR,dS,aP,bI,aW,aX,aE,cL,aF,t,cD⟩
         ·exact absurd (show none=some _ from aV) (by simp)
         rw[Cc.eq_2] at aV;have a:=aV;clear aV;refine B1 (N:=101) dR dS<|Ad<|Ad<|Ab<|wm rfl (v:=I e) aE<|wd rfl (fun st=>Am (ee st aP) (Gz _ _))<|wd rfl (fun st=>Ar (v:=.slice c b.Ae.length d) GR (ee st rfl) aF rfl)<|wd rfl (fun st=>BS Tryz.underlying61 (ee st rfl))<|wd rfl (fun st=>Cx (ee st rfl) (ee st rfl))<|Af<|Aa ?_;rcases Ao (decide (e<(b.Ae.length:Int))) with bJ|bJ
         ·replace a:=AD a bJ;refine Az rfl bJ<|AT<|Aa<|Ad<|A8<|Ad<|Ab<|wd rfl (fun st=>Bd (l:=[I b.Ak,I b.Ag,I b.An,I b.Av,.slice c b.Ae.length d]) Fy (ee st aP) aF rfl rfl) ?_;replace a:=bind_some a;obtain⟨d6,eV,a⟩:=a;refine we rfl (fun st=>AL J1 (ee st rfl) (Cw (ee st rfl)) (a31 r b c d (ZZ FN [] Z w.heap.size [some aO,some s]) _ t d6 eV)) ?_;rintro _ fY ⟨aY,⟨_,rfl,⟨c6,c7,rfl,aL⟩⟩⟩;have dL:=cL.ext aY;have aL:=aL.mv (cL.CV (Nat.le_refl _));refine wm rfl (v:=.slice k a5.length m) bI ?_;have u:=(cD.mv (Aj aY));replace a:=bind_some a;obtain⟨d7,eW,a⟩:=a;refine we rfl (fun st=>AL Nl (ee st rfl) (Cw (ee st rfl)) (Tj r a5 k m (ZZ FN [] Z w.heap.size [some aO,some s]) _ u d7 eW)) ?_;rintro _ fZ ⟨x,⟨dM,dN,rfl,aZ⟩⟩;have eX:=dL.ext x;have aZ:=aZ.mv (dL.CV (Nat.le_refl _));refine wm rfl (v:=I e) aE ?_;have bS:=(aL.mv (Aj x));replace a:=bind_some a;obtain⟨y,eY,a⟩:=a;refine we rfl (fun st=>AL Nk (ee st rfl) (E8 (ee st rfl) (ee st rfl) (ee st rfl)) (a40 r d6 d7 e c6 c7 dM dN ZA _ bS.all aZ.all y eY)) ?_;rintro _ f0 ⟨aM,⟨_,_,rfl,rfl,rfl⟩⟩;have cM:=eX.ext aM;refine wm rfl (v:=.tuple #[I y.1,I y.2]) rfl<|wd rfl (fun st=>Bw (v:=I y.1) (ee st rfl) rfl)<|wd rfl (fun st=>Bw (v:=I y.2) (ee st rfl) rfl)<|wa rfl (v:=I y.1) rfl<|wa rfl (v:=I y.2) rfl<|Af<|Aa<|Ad<|Ad<|Ab<|wm rfl (v:=I y.2) rfl<|wd rfl (fun st=>Fh (ee st rfl) (ee st rfl))<|Af<|Aa ?_;rcases Ao (y.2 !=0) with bK|bK
          ·replace a:=AD a bK;refine Az rfl bK<|Ad<|Ab<|wa rfl (v:=.bool false) rfl<|Af<|Aa<|AB<|Ax<|AW<|Ax<|Ax ?_;obtain rfl:=Option.some.inj a;refine BY (fun st=>?_);exact .inl ⟨rfl,false,rfl,qz st,qd st,sp st 4 rfl,cM⟩
          ·replace a:=AE a bK;refine AI rfl bK<|AT<|Aa<|Ad<|Ab<|wm rfl (v:=I y.1) rfl<|wd rfl (fun st=>CO (ee st rfl) (ee st rfl))<|Af<|Aa ?_;rcases Ao (y.1==1) with bL|bL
           ·replace a:=AD a bL;refine Az rfl bL<|Ab<|wm rfl (v:=I j) aX ?_;replace a:=AU a;obtain⟨eZ,a⟩:=a;refine wd rfl (fun st=>BA (ee st rfl) (ee st rfl) eZ)<|wa rfl (v:=I (j+1)) rfl<|Af<|Bl<|Aa<|Ab<|wm rfl (v:=I e) aE ?_;replace a:=AU a;obtain⟨e0,a⟩:=a;refine wd rfl (fun st=>BA (ee st rfl) (ee st rfl) e0)<|wa rfl (v:=I (e+1)) rfl<|Af ?_;have bM:=(((aF.ext aY).ext x).ext aM);have aN:=(((t.mv (Aj aY)).mv (Aj x)).mv (Aj aM));have z:=((u.mv (Aj x)).mv (Aj aM));refine BB dQ (Nat.lt_succ_self _) (fun st=>?_);exact⟨(j+1),(e+1),a,qz st,qd st,sp st 2 aP,sp st 5 bI,sp st 10 aW,sp st 15 rfl,sp st 16 rfl,cM,bM,aN,z⟩
           ·replace a:=AE a bL;refine AI rfl bL<|AT<|Bl<|Aa<|Ab<|wm rfl (v:=I e) aE ?_;replace a:=AU a;obtain⟨e1,a⟩:=a;refine wd rfl (fun st=>BA (ee st rfl) (ee st rfl) e1)<|wa rfl (v:=I (e+1)) rfl<|Af ?_;have bM:=(((aF.ext aY).ext x).ext aM);have aN:=(((t.mv (Aj aY)).mv (Aj x)).mv (Aj aM));have z:=((u.mv (Aj x)).mv (Aj aM));refine BB dQ (Nat.lt_succ_self _) (fun st=>?_);exact⟨j,(e+1),a,qz st,qd st,sp st 2 aP,sp st 5 bI,sp st 10 aW,sp st 15 aX,sp st 16 rfl,cM,bM,aN,z⟩
         ·replace a:=AE a bJ;refine AI rfl bJ<|Ci<|AQ<|AQ ?_;obtain rfl:=Option.some.inj a;refine BY (fun st=>?_);exact .inr ⟨rfl,j,rfl,qz st,qd st,sp st 10 aW,sp st 15 aX,cL⟩
       case eR=>
        rintro eP fF fI (⟨rfl,q,rfl,bN,bO,c8,cE⟩|⟨rfl,q,rfl,bN,bO,cN,cO,cE⟩)
        ·skip
         replace a:=Ex a;refine Co (X:=X0) (N:=101) bN bO<|AW<|Ax ?_;have cF:=Option.some.inj a;refine AO rfl c8 ?_;exact⟨cE.Bo,congrArg Value.bool cF⟩
        ·skip
         replace a:=Ey a;refine Co (X:=X0) (N:=101) bN bO<|Br<|Aa<|Ad<|Ab<|wm rfl (v:=I q) cO<|wm rfl (v:=I h.2.1) cN<|wd rfl (fun st=>E7 (ee st rfl) (ee st rfl))<|wm rfl (v:=.bool (decide (q≤h.2.1))) rfl ?_;rcases Ao (decide (q≤h.2.1)) with bP|bP
         ·replace a:=AD a bP;replace a:=Dc a;obtain⟨e2,a⟩:=a;refine Dj rfl rfl (Ac rfl bP) rfl (by decide) (fun st=>AL PR (ee st rfl) Ij (T9 r ZA _ e2)) ?_;rintro _ f1 ⟨e3,rfl⟩;have e4:=cE.ext e3;refine wd rfl (fun st=>AV (v:=.bool true) (ee st rfl) bP (ee st rfl))<|wa rfl (v:=.bool true) rfl<|Af<|Aa<|AB ?_;have cF:=Option.some.inj a;refine AO rfl rfl ?_;exact⟨e4.Bo,congrArg Value.bool cF⟩
         ·replace a:=AE a bP;exact absurd (Option.some.inj a) (by decide)
end Go.Proofs.YtkljfdkmjdjpfaaGreat
end
section
namespace Go.Proofs.YtkljfdkmjdjpfaaGreat
open Go.RowKit Go.ChangeShapes Go.WideShapes
theorem Nn{α β:Type}{g:α→Option β}:∀{l:List α} {r:List β},l.mapM g=some r→∀(i:Nat) (x:α),l[i]?=some x→∃y,r[i]?=some y∧g x=some y
 |[],_,_,i,x,b=>by simp at b
 |a::l,r,h,i,x,b=>by
  rw[List.mapM_cons] at h;obtain⟨y,d,e⟩:=Option.bind_eq_some_iff.1 h;obtain⟨ys,c,f⟩:=Option.bind_eq_some_iff.1 e;obtain rfl:y::ys=r:=by simpa using f
  cases i with
  |zero=>
   obtain rfl:a=x:=by simpa using b
   exact⟨y,rfl,d⟩
  |succ i=>exact Nn c i x (by simpa using b)
theorem IS{H:Type}{P:Program}{e:TypeId}{d:DataW H}{n:Nat}(b:n∈d.weights P e):∀{l:List (DataW H)},d∈l→n∈DataW.weightsAll P e l
 |[],h=>by cases h
 |a::l,h=>by
  rw[DataW.weightsAll,List.mem_append];rcases List.mem_cons.1 h with rfl|h
  ·exact .inl b
  ·exact .inr (IS b h)
def KP {H:Type} (P:Program) (t:TypeId) (d:DataW H):Prop:=∀n∈d.weights P t,n≤reachBytes
theorem Oa{H:Type}{P:Program}{a:List TypeId}{ds:List (DataW H)}(h:(DataW.weightsEach P a ds).all (· ≤reachBytes)=true){j:Nat}{t:TypeId}{d:DataW H}(b:a[j]?=some t)(c:ds[j]?=some d):KP P t d:=fun n e=>by
 have:=List.all_eq_true.1 h _ (DataW.weights_mem_each b c n e);simpa using this
def L7 {α:Type} (P:Program) (t:TypeId) (e:DO α) (wf:α→Prop):Prop:=
 ∀(H:Type) (enc:TypeId×Value→H) (w:World) (sp:Nat→Bool) (fuel:Nat) (cs:List Value) (x:DataW H×List MemPlace),DataW.trod enc P w 0 sp true fuel t cs=some x→KP P t x.1→∃a,e.R w ZA cs a∧wf a
def Hn(k:IntKind)(n:Int):Prop:=(Lit.int k n).wf=true
section
variable{P:Program}{t:TypeId}
theorem GB{k:IntKind}(a:P.underlying t=some (.int k)):L7 P t (Ay k) (Hn k):=by
 intro H enc w sp fuel cs x h _;obtain⟨n,b,_,c⟩:=DataW.trod_int a h;exact⟨n,b,c⟩
theorem IC {e:Array Field} (g:P.underlying t=some (.struct e)) {H:Type} {enc:TypeId×Value→H} {w:World} {sp:Nat→Bool} {fuel:Nat} {cs:List Value} {x:DataW H×List MemPlace} (h:DataW.trod enc P w 0 sp true fuel t cs=some x):
  cs.length=P.cellsOf t∧∃c,∀(i a off:Nat),(e[i]?).map (fun f=>(f.type,f.offset))=some (a,off)→∃y,DataW.trod enc P w 0 sp true c a ((cs.drop off).take (P.cellsOf a))=some y∧(KP P t x.1→KP P a y.1):=by
 cases fuel with
 |zero=>simp[DataW.trod] at h
 |succ fuel=>
  unfold DataW.trod at h;simp only[g] at h;split at h
  ·rename_i m
   obtain⟨xs,o,rfl⟩:=Option.map_eq_some_iff.1 h;refine⟨m,fuel,fun i a off p=>?_⟩;obtain⟨f,b,he⟩:=Option.map_eq_some_iff.1 p;obtain⟨k,q⟩:f.type=a∧f.offset=off:=by simpa using he
   rw[←Array.getElem?_toList] at b;obtain⟨y,r,l⟩:=Nn o i f b;rw[k,q] at l;refine⟨y,l,fun s n u=>s n ?_⟩;simp only[DataW.weights,g];exact DataW.weights_mem_each (j:=i) (t:=a) (d:=y.1) (by rw[List.getElem?_map,b];simp[k]) (by rw[List.getElem?_map,r];rfl) n u
  ·cases h
theorem OP{w:World}{a:Addr}{n:Nat}{cs:List Value}(h:w.cells? 0 a n=some cs):cs.length=n∧∀j u,cs[j]?=some u→w.cell? (a.add j)=some u:=by
 unfold World.cells? at h;rw[if_pos (Nat.zero_le _)] at h;have d:=mapM_some_length h;refine⟨by simpa using d,?_⟩;have key:∀(l:List Nat) (r:List Value),l.mapM (fun i=>w.cell? (a.add i))=some r→∀(j i:Nat) (u:Value),l[j]?=some i→r[j]?=some u→w.cell? (a.add i)=some u:=by
  intro l
  induction l with
  |nil=>intro r _ j i u c;simp at c
  |cons b l ih=>
   intro r h j i u c e;rw[List.mapM_cons] at h;obtain⟨y,m,f⟩:=Option.bind_eq_some_iff.1 h;obtain⟨ys,g,o⟩:=Option.bind_eq_some_iff.1 f;obtain rfl:y::ys=r:=by simpa using o
   cases j with
   |zero=>
    obtain rfl:b=i:=by simpa using c
    obtain rfl:y=u:=by simpa using e
    exact m
   |succ j=>exact ih ys g j i u (by simpa using c) (by simpa using e)
 intro j u c;have k:j<n:=by
  have:=(List.getElem?_eq_some_iff.1 c).1;have f:cs.length=n:=by simpa using d
  omega
 exact key _ _ h j j u (by simp[k]) c
theorem PT{w:World}{a:Addr}{u:Value}(h:w.cell? a=some u):∃b o,a=⟨b,o,none⟩∧b<w.heap.size:=by
 obtain⟨b,o,pt⟩:=a;cases pt with
 |none=>
  refine⟨b,o,rfl,?_⟩;unfold World.cell? at h;cases c:w.heap[b]? with
  |none=>simp[c] at h
  |some o=>exact(Array.getElem?_eq_some_iff.1 c).1
 |some q=>
  unfold World.cell? at h;cases c:w.heap[b]? with
  |none=>simp[c] at h
  |some ob=>cases ob<;>simp[c] at h
theorem add_add{a:Addr}{k j:Nat}(h:k≤j):(a.add k).add (j-k)=a.add j:=by
 obtain⟨b,o,pt⟩:=a;cases pt with
 |none=>rw[ET,ET,ET];congr 1;omega
 |some q=>
  unfold Addr.add
  by_cases c:j=0
  ·have:k=0:=by omega
   subst this;subst c;simp
  ·by_cases d:k=0
   ·subst d;simp[c]
   ·by_cases e:j-k=0
    ·have:j=k:=by omega
     subst this;simp[d]
    ·simp[c,d,e];omega
theorem L8 {α:Type} {e:TypeId} {ee:DO α} {wf:α→Prop} (aB:P.underlying t=some (.slice e)) (aM:P.cellsOf e=ee.sz) (h0:0<ee.sz) (aN:L7 P e ee wf) {b:Nat} (aE:P.bytesOf e=b):L7 P t (Bz ee) (fun xs=>xs.length*b≤140737488351232∧∀x∈xs,wf x):=by
 intro H enc w sp fuel cs x h y;rcases Go.Deep.open_slice aB h with⟨rfl,_⟩|⟨a,len,cap,m,n0,D,aT,rfl,_,aF,aR,hm,aG,aC⟩
 ·exact⟨[],⟨none,0,rfl,Sl.nil _ _ _⟩,by simp,by simp⟩
 ·have aS:len≤m:=by rw[hm];split<;>omega
  subst aG;have l:len*b≤140737488351232:=by
   have:=y ((((List.range len).map D).length+((List.range (m-len)).map fun j=>D (len+j)).length)*P.bytesOf e) (by simp[DataW.weights,aB]);rw[aE] at this;have c:len*b≤(((List.range len).map D).length+((List.range (m-len)).map fun j=>D (len+j)).length)*b:=Nat.mul_le_mul_right _ (by simp);exact Nat.le_trans c this
  have p:∀i,i<len→KP P e (D i):=fun i hi n aH=>y n (by
   simp only[DataW.weights,aB];rw[List.mem_cons,List.mem_append];exact .inr (.inl (IS aH (List.mem_map.2 ⟨i,by simpa using hi,rfl⟩))))
  have key:∀n,n≤len→∃Ba xs,R2 ee w ZA Ba xs∧xs.length=n∧(∀x∈xs,wf x)∧∀j u,Ba.flatten[j]?=some u→w.cell? (a.add j)=some u:=by
   intro n
   induction n with
   |zero=>exact fun _=>⟨[],[],trivial,rfl,by simp,by simp⟩
   |succ n ih=>
    intro aH;obtain⟨Ba,xs,q,c,aD,r⟩:=ih (by omega);obtain⟨ds,aO,aI⟩:=aC n (by omega);obtain⟨z,aP,aJ⟩:=aN _ _ _ _ _ _ _ aI (p n (by omega));obtain⟨aU,s⟩:=OP aO;refine⟨Ba++[ds],xs++[z],q.append ⟨aP,trivial⟩,by simp[c],?_,?_⟩
    ·intro x f;rcases List.mem_append.1 f with f|f
     ·exact aD x f
     ·rw[List.mem_singleton.1 f];exact aJ
    ·intro j u d;rw[List.flatten_append] at d;rcases Nat.lt_or_ge j Ba.flatten.length with g|k
     ·rw[List.getElem?_append_left g] at d;exact r j u d
     ·rw[List.getElem?_append_right k] at d;have v:=s (j-Ba.flatten.length) u (by simpa using d);have aK:Ba.flatten.length=n*ee.sz:=by rw[q.H4,c]
      rw[aK] at v k;rw[aM] at v;rw[add_add k] at v;exact v
  obtain⟨Ba,xs,q,c,aD,r⟩:=key len (Nat.le_refl _);refine⟨xs,⟨some a,cap,by rw[c],by rw[c];exact aF,(fun e=>by cases e),Ba,q,?_⟩,by rw[c];exact l,aD⟩;cases aL:Ba.flatten with
  |nil=>exact .inl rfl
  |cons u us=>
   have hu:=r 0 u (by rw[aL];rfl);obtain⟨b,o,aA,g⟩:=PT hu;have aQ:a=⟨b,o,none⟩:=by
    obtain⟨b',o',pt⟩:=a;cases pt<;>simp[Addr.add] at aA⊢;exact aA
   subst aQ;refine .inr ⟨b,o,rfl,trivial,g,fun j u d=>?_⟩;have:=r j u (by rw[aL];exact d);rw[ET] at this;exact this
end
section
variable{H:Type}{enc:TypeId×Value→H}{P:Program}{W W':World}
theorem Jp{sp:Nat→Bool}:∀{e:List TypeId} {vs:List Value} {ds:List (DataW H)} {ps:List MemPlace},DataW.TrodAll enc P W 0 sp true e vs ds ps→(∀p∈ps,W.sameAt W' p)→DataW.TrodAll enc P W' 0 sp true e vs ds ps
 |[],_,_,_,h,_=>by
  obtain⟨rfl,rfl,rfl⟩:=trodAll_nil h;exact rfl
 |_::_,_,_,_,h,f=>by
  obtain⟨v,j,d,k,a,b,rfl,rfl,rfl,⟨n,g⟩,i⟩:=trodAll_cons h;exact⟨a,b,⟨n,DataW.trod_carry n _ _ _ g fun p c=>f p (List.mem_append_left _ c)⟩,Jp i fun p c=>f p (List.mem_append_right _ c),rfl⟩
theorem PU(K:Kids P (· <P.types.size))(c:∀t e,t<P.types.size→P.underlying t=some (.slice e)→0<P.cellsOf e){a:List TypeId}{vs:List Value}{ds:List (DataW H)}{ps:List MemPlace}(d:∀t∈a,t<P.types.size)
  (f:DataW.TrodAll enc P W 0 (fun _=>true) true a vs ds ps)(g:Ext W W')(b:∀p∈ps,p.block<W.heap.size)(sp:Nat→Bool)(h:∀p∈ps,sp p.block=true):DataW.TrodAll enc P W' 0 sp true a vs ds ps:=
 Jp (DataW.TrodAll.respare K c d f h) fun p i=>(Js g).same (b p i)
variable{α:Type}{e:DO α}{wf:α→Prop}{t:TypeId}{b0:Nat}{v:Value}{d:DataW H}{p:List MemPlace}{sp:Nat→Bool}
theorem R7{c:Array Field}(f:P.underlying t=some (.struct c))(g:L7 P t e wf)(b:Value.okWide P W .any b0 t v)(h:DataW.Trod enc P W 0 sp true t v d p)(i:KP P t d):∃a cs,v=.agg cs.toArray∧e.R W ZA cs a∧wf a:=by
 unfold Value.okWide at b;rw[f] at b;obtain⟨cs,rfl,_⟩:=b;obtain⟨n,j⟩:=h;obtain⟨a,k,l⟩:=g _ _ _ _ _ _ _ j i;exact⟨a,cs.toList,by simp,k,l⟩
theorem Tk{ee:TypeId}(f:P.underlying t=some (.slice ee)){wf:List α→Prop}(g:L7 P t (Bz e) wf)(i:Value.okWide P W .any b0 t v)(h:DataW.Trod enc P W 0 sp true t v d p)(j:KP P t d):∃xs A c,v=.slice A xs.length c∧Sl e W ZA A c xs∧wf xs:=by
 obtain⟨A,n,c,rfl⟩:=okWide_slice f i;obtain⟨m,hm⟩:=h;obtain⟨xs,⟨a,b,k,l⟩,o⟩:=g _ _ _ _ _ _ _ hm j;have:Value.slice A n c=Value.slice a xs.length b:=by simpa[Value.cells] using k
 exact⟨xs,a,b,this,l,o⟩
theorem NA {f:Func} {s:ChangeSpec} {apart fresh handsOn again:Bool} {args:Array Value} {v:Value} {ds gs:List (DataW H)} {before pa pv:List MemPlace}
  (k:DataW.Whole enc P f.params.toList s.vars apart W args.toList ds gs before)
  (g:∀(b:Nat) (sp:Nat→Bool) (n:Bool),DataW.TrodAll enc P W' b sp n f.resultTypes.toList (v.resultList f.resultTypes.size) (s.fn H (ds++gs)).results [])
  (c:∀sp:Nat→Bool,(∀p∈before,sp p.block=true)→DataW.TrodAll enc P W' 0 sp true f.params.toList args.toList (s.fn H (ds++gs)).args pa)
  (d:∀sp:Nat→Bool,(∀p∈before,sp p.block=true)→DataW.TrodVars enc P W' sp s.vars (s.fn H (ds++gs)).vars pv)
  (e:before=pa++pv) (o:Ext W W')
  (l:∀(j:Nat) (t:TypeId) (r:Value),f.resultTypes[j]?=some t→(v.resultList f.resultTypes.size)[j]?=some r→Value.okWide P W' .any 0 t r):
  s.post enc P f apart fresh handsOn again W args v W':=by
 have m:=Js o;have h:∀p∈before,p.block<W.heap.size:=fun p a=>k.lt p a;have hold:∀p∈before,(fun b=>decide (b<W.heap.size)) p.block=true:=fun p a=>by simpa using h p a
 refine⟨ds,gs,before,[],pa,pv,k,g _ _ _,c _ hold,d _ hold,World.keptBut_mono (fun p a=>⟨a,?_⟩) (m.frame (· ∈before)),fun _=>?_⟩
 ·rw[e,List.mem_append] at a;exact Or.inr a
 ·obtain⟨_,_,_,_,_,q,u⟩:=k;refine⟨l,_,_,([]++pa)++pv,⟨[]++pa,pv,trodAll_append (c _ (fun _ _=>rfl)) (g _ _ _),d _ (fun _ _=>rfl),rfl,?_,?_⟩,?_⟩
  ·intro b off a;have i:MemPlace.cell b off∈before:=by rw[e];simpa using a
   rw[m.frozen (h _ i)];exact q b off i
  ·intro w;have:=u w;rw[e] at this;simpa using this
  ·intro p a _;rw[e];simpa using a
theorem PV{f:FuncId}{args:Array Value}{w:World}{R:Value→World→Prop}(h:BF P f args w R):Calls P f args w (fun e w'=>∃v,e=.returned v∧R v w'):=h
end
end Go.Proofs.YtkljfdkmjdjpfaaGreat
end
section
set_option linter.unusedVariables false
set_option linter.unusedSimpArgs false
namespace Go.Proofs.YtkljfdkmjdjpfaaGreat
open Go.RowKit Go.ChangeShapes Go.WideShapes
theorem TU:∀{cs:List Value},cs.length=2→∃a0 a1,cs=[a0,a1]
 |[a0,a1],_=>⟨a0,a1,rfl⟩
theorem QV:∀{cs:List Value},cs.length=5→∃a0 a1 a2 a3 a4,cs=[a0,a1,a2,a3,a4]
 |[a0,a1,a2,a3,a4],_=>⟨a0,a1,a2,a3,a4,rfl⟩
theorem R8:L7 Tryz.prog 116 NI (fun x=>(Hn .i64 x.Lo∧Hn .i64 x.Hi)):=by
 intro H enc w sp fuel cs x h c;obtain⟨d,j,e⟩:=IC Tryz.underlying116 h;have k:Tryz.prog.cellsOf 116=2:=by kernel_rfl
 rw[k] at d;have f:Tryz.prog.cellsOf 3=1:=by kernel_rfl
 obtain⟨a0,a1,rfl⟩:=TU d;obtain⟨m,a,g⟩:=e 0 3 0 rfl;simp only[f,List.drop_zero,List.drop_succ_cons,List.take_succ_cons,List.take_zero] at a;obtain⟨n0,h0,w0⟩:=(GB Tryz.underlying3) _ _ _ _ _ _ _ a (g c);cases h0;obtain⟨y1,b,i⟩:=e 1 3 1 rfl;simp only[f,List.drop_zero,List.drop_succ_cons,List.take_succ_cons,List.take_zero] at b;obtain⟨n1,l,w1⟩:=(GB Tryz.underlying3) _ _ _ _ _ _ _ b (i c);cases l;exact⟨⟨n0,n1⟩,rfl,w0,w1⟩
theorem R9:L7 Tryz.prog 118 AJ (fun x=>((Hn .i64 ((⟨x.Au,x.AG⟩:CI).Lo)∧Hn .i64 ((⟨x.Au,x.AG⟩:CI).Hi))∧Hn .i64 x.AN∧Hn .i64 x.B0∧Hn .i64 x.B6)):=by
 intro H enc w sp fuel cs x h a;obtain⟨j,o,b⟩:=IC Tryz.underlying118 h;have p:Tryz.prog.cellsOf 118=5:=by kernel_rfl
 rw[p] at j;have g:Tryz.prog.cellsOf 3=1:=by kernel_rfl
 have i:Tryz.prog.cellsOf 116=2:=by kernel_rfl
 obtain⟨a0,a1,a2,a3,a4,rfl⟩:=QV j;obtain⟨y,c,k⟩:=b 0 116 0 rfl;simp only[i,List.drop_zero,List.drop_succ_cons,List.take_succ_cons,List.take_zero] at c;obtain⟨n0,h0,w0⟩:=R8 _ _ _ _ _ _ _ c (k a);cases h0;obtain⟨y1,d,l⟩:=b 1 3 2 rfl;simp only[g,List.drop_zero,List.drop_succ_cons,List.take_succ_cons,List.take_zero] at d;obtain⟨n1,q,w1⟩:=(GB Tryz.underlying3) _ _ _ _ _ _ _ d (l a);cases q;obtain⟨z,e,m⟩:=b 2 3 3 rfl;simp only[g,List.drop_zero,List.drop_succ_cons,List.take_succ_cons,List.take_zero] at e;obtain⟨r,s,w2⟩:=(GB Tryz.underlying3) _ _ _ _ _ _ _ e (m a);cases s;obtain⟨aA,f,n⟩:=b 3 3 4 rfl;simp only[g,List.drop_zero,List.drop_succ_cons,List.take_succ_cons,List.take_zero] at f;obtain⟨t,u,v⟩:=(GB Tryz.underlying3) _ _ _ _ _ _ _ f (n a);cases u;exact⟨⟨n0.Lo,n0.Hi,n1,r,t⟩,rfl,w0,w1,w2,v⟩
theorem Tl:L7 Tryz.prog 63 H9 (fun x=>(Hn .i64 x.Ak∧Hn .i64 x.Ag∧Hn .i64 x.An∧Hn .i64 x.Av∧(x.Ae.length*40≤140737488351232∧∀y∈x.Ae,((Hn .i64 ((⟨y.Au,y.AG⟩:CI).Lo)∧Hn .i64 ((⟨y.Au,y.AG⟩:CI).Hi))∧Hn .i64 y.AN∧Hn .i64 y.B0∧Hn .i64 y.B6)))):=by
 intro H enc w sp fuel cs x h a;obtain⟨k,r,c⟩:=IC Tryz.underlying63 h;have s:Tryz.prog.cellsOf 63=5:=by kernel_rfl
 rw[s] at k;have d:Tryz.prog.cellsOf 3=1:=by kernel_rfl
 have l:Tryz.prog.cellsOf 61=1:=by kernel_rfl
 obtain⟨a0,a1,a2,a3,a4,rfl⟩:=QV k;obtain⟨aH,e,m⟩:=c 0 3 0 rfl;simp only[d,List.drop_zero,List.drop_succ_cons,List.take_succ_cons,List.take_zero] at e;obtain⟨n0,h0,w0⟩:=(GB Tryz.underlying3) _ _ _ _ _ _ _ e (m a);cases h0;obtain⟨y1,f,n⟩:=c 1 3 1 rfl;simp only[d,List.drop_zero,List.drop_succ_cons,List.take_succ_cons,List.take_zero] at f;obtain⟨n1,t,w1⟩:=(GB Tryz.underlying3) _ _ _ _ _ _ _ f (n a);cases t;obtain⟨aI,g,o⟩:=c 2 3 2 rfl;simp only[d,List.drop_zero,List.drop_succ_cons,List.take_succ_cons,List.take_zero] at g;obtain⟨u,v,w2⟩:=(GB Tryz.underlying3) _ _ _ _ _ _ _ g (o a);cases v;obtain⟨aJ,i,p⟩:=c 3 3 3 rfl;simp only[d,List.drop_zero,List.drop_succ_cons,List.take_succ_cons,List.take_zero] at i;obtain⟨z,aA,aB⟩:=(GB Tryz.underlying3) _ _ _ _ _ _ _ i (p a);cases aA;obtain⟨aK,j,q⟩:=c 4 61 4 rfl;simp only[l,List.drop_zero,List.drop_succ_cons,List.take_succ_cons,List.take_zero] at j;obtain⟨n4,⟨aC,aD,aE,aF⟩,aG⟩:=(L8 (b:=40) Tryz.underlying61 (by kernel_rfl) (by decide) R9 (by kernel_rfl)) _ _ _ _ _ _ _ j (q a);cases aE;exact⟨⟨n0,n1,u,z,n4⟩,⟨aC,aD,rfl,aF⟩,w0,w1,w2,aB,aG⟩
theorem Ux:ownKnob Tryz.prog.godebug=none:=by kernel_rfl
theorem TV:Kids Tryz.prog (· <Tryz.prog.types.size):=kids_rows (by kernel_rfl) (by kernel_rfl)
theorem TW:∀t e,t<Tryz.prog.types.size→Tryz.prog.underlying t=some (.slice e)→0<Tryz.prog.cellsOf e:=slices_full_of Tryz.prog (by kernel_rfl)
theorem UP{x:Int}(h:Hn .u8 x):0≤x∧x<256:=by
 have a:(decide (IntKind.u8.min≤x)&&decide (x≤IntKind.u8.max))=true:=h;rw[Bool.and_eq_true,decide_eq_true_eq,decide_eq_true_eq] at a;have b:IntKind.u8.min=0:=by decide
 have c:IntKind.u8.max=255:=by decide
 omega
end Go.Proofs.YtkljfdkmjdjpfaaGreat
end
section
set_option linter.unusedVariables false
set_option linter.unusedSimpArgs false
namespace Go.Proofs.YtkljfdkmjdjpfaaGreat
open Go.RowKit Go.ChangeShapes Go.WideShapes Go.ChangeAt
theorem KQ(y:Ap)(ws:List Int)(h9:(ws.length*1≤140737488351232∧∀y∈ws,Hn .u8 y)):∃K,DL K y ws=some true:=Kj y ws (fun x a=>by have:=UP (h9.2 x a);omega)
set_option maxRecDepth 100000 in
theorem Jq(os:Os)(started:os.Started)(H:Type)(enc:TypeId×Value→H):
  ReturnsInHanded {} Tryz.checked os 9 .any (Rows.rackNoBetterSpec.pre6 enc Tryz.prog Tryz.f9 Rows.rackNoBetterRow.domain false) (Rows.rackNoBetterSpec.post enc Tryz.prog Tryz.f9 false true false false):=by
 refine returnsInHanded_of_change_sized (C:=Tryz.checked) Ux started (by kernel_rfl) Tryz.func9
  (ChangeSpec.witness6 (enc:=enc) (C:=Tryz.checked) false ⟨#[], #[.agg #[.int .i64 0,.int .i64 0,.int .i64 0,.int .i64 0,.slice none 0 0],.slice none 0 0],[]⟩ 8 (by kernel_rfl) (by kernel_rfl) (by kernel_rfl) (by kernel_rfl)) ?_
 intro W base args ds gs before f m aA n _;have a:∀(j:Nat) t v,Tryz.f9.params[j]?=some t→args[j]?=some v→Value.okWide Tryz.prog W .any base t v:=f;have d:=m;obtain⟨p,q,o,aB,rfl,aK,aL⟩:=m;have h:DataW.TrodAll enc Tryz.prog W 0 (fun _=>true) true Tryz.f9.params.toList args.toList ds p:=o;obtain⟨rfl,rfl⟩:=trodVars_none aB;simp only[List.append_nil] at d;have r:∀x∈p,x.block<W.heap.size:=fun x g=>by simpa using d.lt x g
 have s:=h;have c:(DataW.weightsEach Tryz.prog (Tryz.f9.params.toList++[]) (ds++[])).all (· ≤reachBytes)=true:=n;rw[Tryz.params9] at h a c;obtain⟨v0,v1,d0,d1,aC,aD,rfl,rfl,rfl,h0,aE⟩:=trodAll_two h;obtain⟨u,aM,w,⟨i,k,rfl,l⟩,w0⟩:=R7 Tryz.underlying63 Tl (a 0 63 v0 rfl rfl) h0 (Oa (j:=0) c rfl rfl);obtain⟨x1,aF,aG,y,s1,w1⟩:=Tk Tryz.underlying109 (L8 (b:=1) Tryz.underlying109 (by kernel_rfl) (by decide) (GB Tryz.underlying5) (by kernel_rfl)) (a 1 109 v1 rfl rfl) aE (Oa (j:=1) c rfl rfl);subst w;subst y;obtain⟨K,aH⟩:=KQ u x1 w1;refine(PV (a9 K u x1 i k aF aG ZA W l s1 aH)).mono fun e W' ⟨v,he,g,aI⟩=>?_;subst he;subst aI;exact⟨_,rfl,NA (pa:=(aC++aD)) (pv:=[]) d (fun _ _ _=>trodAll_mk1 (shut_bool Tryz.underlying4 _)) (fun sp aJ=>PU TV TW (by rw[Tryz.params9];decide) s g r sp (fun x z=>aJ x (by simpa using z))) (fun _ _=>rfl) (by simp) g (ok_one (by kernel_rfl) rfl (okWide_bool_mk Tryz.underlying4 _))⟩
theorem rackNoBetter_holds:Rows.RackNoBetterSaid:=
 OpenClaim.holds_of_wide 9 Tryz.f9 rfl rfl rfl rfl rfl rfl rfl ⟨rfl,rfl,rfl,rfl,rfl⟩ rfl rfl rfl rfl rfl (by kernel_rfl) Tryz.func9 (by kernel_rfl)
  (of_decide_eq_true (by kernel_rfl)) (by unfold Func.isWrapper;first|(rw[if_pos (by decide+kernel)];kernel_rfl)|(rw[if_neg (by decide+kernel)];exact⟨rfl,rfl⟩))
  (fun os started H enc _=>Jq os started H enc)
end Go.Proofs.YtkljfdkmjdjpfaaGreat
end
