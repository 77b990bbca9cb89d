import Derived.Test.YtkljfdkmjdjpfaaGreatBB8
import Derived.ProofKit
import Derived.ChangeSame
import Derived.SizedLaws
import Derived.Deep.Slices
import Derived.Test.YtkljfdkmjdjpfaaGreatProg
import Derived.Test.YtkljfdkmjdjpfaaGreatRows
/-
  Proved: the law RackSaves returns true for every argument that the row hands over, and leaves every argument as it was; no condition beside the row's own.
-/
set_option linter.all false
section
set_option linter.unusedVariables false
set_option linter.unusedSimpArgs false
namespace Go.Proofs.YtkljfdkmjdjpfaaGreat
open Go.RowKit Go.WideShapes
def FB(a:Nat)(d:Ar)(e:List (List Int))(g:Int):Option (Bool):=
 (FT a d).bind fun r2=>cond (!r2) ((E6 (BH a=some true)).bind fun _=>some (true)) ((FE a e).bind fun aQ=>cond (!aQ) ((E6 (BH a=some true)).bind fun _=>some (true)) ((E8 a d).bind fun aD=>(EN a e).bind fun aE=>(EO a aD aE g).bind fun c=>(E8 a d).bind fun aF=>(EN a e).bind fun aG=>(Ge a aF aG).bind fun b=>(FC a d).bind fun f=>cond (f==0) ((Fb a d e).bind fun aH=>cond (!aH) (cond ((2:Int) !=(0:Int)) (cond (c.2==2) (cond (b.2.2==2) (cond (c.1==0) (cond (b.1==0) ((i64 ((b.2.1.Comes.length:Int)+(b.2.1.Ap.length:Int))).bind fun _=>cond (((b.2.1.Comes.length:Int)+(b.2.1.Ap.length:Int))==0) ((E6 (BH a=some true)).bind fun _=>some (true)) (some (false))) (some (false))) (some (false))) (some (false))) (some (false))) ((Eg a d).bind fun i=>cond (b.2.2 !=0) (some (false)) ((EB a d i e).bind fun aI=>cond (b.1 !=aI) (some (false)) ((Dg a b.2.1).bind fun aJ=>(D4 a d aJ).bind fun aK=>cond (!aK) (some (false)) ((Dg a b.2.1).bind fun aL=>(DF a d e aL).bind fun aM=>(Ec a d aM).bind fun aN=>cond (aN !=b.1) (some (false)) ((i64 ((d.Ad.length:Int)-1)).bind fun _=>(CJ a g 0 ((d.Ad.length:Int)-1)).bind fun aO=>cond (!aO) (cond (c.2==2) (cond (c.1==0) ((E6 (BH a=some true)).bind fun _=>some (true)) (some (false))) (some (false))) ((Er a d i e).bind fun aP=>(idx aP g).bind fun m=>cond (m==(i.length:Int)) (cond (c.2==0) (cond (c.1==1) ((E6 (BH a=some true)).bind fun _=>some (true)) (some (false))) (some (false))) (cond (m==0) (cond (c.2==0) (cond (c.1==2) ((E6 (BH a=some true)).bind fun _=>some (true)) (some (false))) (some (false))) (cond (c.2==0) (cond (c.1==3) ((E6 (BH a=some true)).bind fun _=>some (true)) (some (false))) (some (false))))))))))) (cond (f !=0) (cond (c.2==f) (cond (b.2.2==f) (cond (c.1==0) (cond (b.1==0) ((i64 ((b.2.1.Comes.length:Int)+(b.2.1.Ap.length:Int))).bind fun _=>cond (((b.2.1.Comes.length:Int)+(b.2.1.Ap.length:Int))==0) ((E6 (BH a=some true)).bind fun _=>some (true)) (some (false))) (some (false))) (some (false))) (some (false))) (some (false))) ((Eg a d).bind fun j=>cond (b.2.2 !=0) (some (false)) ((EB a d j e).bind fun n=>cond (b.1 !=n) (some (false)) ((Dg a b.2.1).bind fun o=>(D4 a d o).bind fun p=>cond (!p) (some (false)) ((Dg a b.2.1).bind fun q=>(DF a d e q).bind fun r=>(Ec a d r).bind fun s=>cond (s !=b.1) (some (false)) ((i64 ((d.Ad.length:Int)-1)).bind fun _=>(CJ a g 0 ((d.Ad.length:Int)-1)).bind fun t=>cond (!t) (cond (c.2==2) (cond (c.1==0) ((E6 (BH a=some true)).bind fun _=>some (true)) (some (false))) (some (false))) ((Er a d j e).bind fun u=>(idx u g).bind fun k=>cond (k==(j.length:Int)) (cond (c.2==0) (cond (c.1==1) ((E6 (BH a=some true)).bind fun _=>some (true)) (some (false))) (some (false))) (cond (k==0) (cond (c.2==0) (cond (c.1==2) ((E6 (BH a=some true)).bind fun _=>some (true)) (some (false))) (some (false))) (cond (c.2==0) (cond (c.1==3) ((E6 (BH a=some true)).bind fun _=>some (true)) (some (false))) (some (false)))))))))))) (cond (f !=0) (cond (c.2==f) (cond (b.2.2==f) (cond (c.1==0) (cond (b.1==0) ((i64 ((b.2.1.Comes.length:Int)+(b.2.1.Ap.length:Int))).bind fun _=>cond (((b.2.1.Comes.length:Int)+(b.2.1.Ap.length:Int))==0) ((E6 (BH a=some true)).bind fun _=>some (true)) (some (false))) (some (false))) (some (false))) (some (false))) (some (false))) ((Eg a d).bind fun h=>cond (b.2.2 !=0) (some (false)) ((EB a d h e).bind fun v=>cond (b.1 !=v) (some (false)) ((Dg a b.2.1).bind fun w=>(D4 a d w).bind fun x=>cond (!x) (some (false)) ((Dg a b.2.1).bind fun y=>(DF a d e y).bind fun z=>(Ec a d z).bind fun aA=>cond (aA !=b.1) (some (false)) ((i64 ((d.Ad.length:Int)-1)).bind fun _=>(CJ a g 0 ((d.Ad.length:Int)-1)).bind fun aB=>cond (!aB) (cond (c.2==2) (cond (c.1==0) ((E6 (BH a=some true)).bind fun _=>some (true)) (some (false))) (some (false))) ((Er a d h e).bind fun aC=>(idx aC g).bind fun l=>cond (l==(h.length:Int)) (cond (c.2==0) (cond (c.1==1) ((E6 (BH a=some true)).bind fun _=>some (true)) (some (false))) (some (false))) (cond (l==0) (cond (c.2==0) (cond (c.1==2) ((E6 (BH a=some true)).bind fun _=>some (true)) (some (false))) (some (false))) (cond (c.2==0) (cond (c.1==3) ((E6 (BH a=some true)).bind fun _=>some (true)) (some (false))) (some (false)))))))))))))
end Go.Proofs.YtkljfdkmjdjpfaaGreat
end
section
namespace Go.Proofs.YtkljfdkmjdjpfaaGreat
theorem Mt:∀(o:List (List Int)),(∀l∈o,l.length≤6)→o.flatten.length≤6*o.length
 |[],_=>by simp
 |l::o,h=>by
  have b:=Mt o fun x a=>h x (List.mem_cons_of_mem _ a);have c:=h l (List.mem_cons_self ..);rw[List.flatten_cons,List.length_append,List.length_cons];omega
theorem nz{x:Int}(h:x≠0):(x==0)=false:=beq_eq_false_iff_ne.2 h
theorem WC{x:Int}(h:x≠0):(x !=0)=true:=by unfold bne;rw[nz h];rfl
theorem MW(y:Ar)(o:List (List Int))(n:Int):∃K,FB K y o n=some true:=by
 refine⟨2000,?_⟩;have hK:2000≤2000:=Nat.le_refl _;have g:=Qh hK;unfold FB;rw[bd (Te hK y)];cases v:Mo y with
 |false=>rw[nf,FV g]
 |true=>
  have r:=R9 v;obtain⟨b,aB,aC⟩:=Sb hK o;rw[nt,bd aB];cases b with
  |false=>rw[nf,FV g]
  |true=>
   obtain⟨aF,w⟩:=aC rfl;have h:o.length≤1000:=by omega
   have k:∀l∈o,l.length≤1000:=fun l aD=>by have:=w l aD;omega
   have s:o.flatten.length≤1000:=by have:=Mt o w;omega
   obtain⟨p,c⟩:∃p,p=(if check y≠0 then (0,check y) else if DA y o=false∨Fx n 0 ((y.Ad.length:Int)-1)=false then (0,2) else (verdict y o n.toNat,0):Int×Int):=⟨_,rfl⟩;have x:=Pe y o n hK h s;rw[←c] at x;obtain⟨q,j⟩:∃q,q=(if check y≠0 then (0,⟨[],[]⟩,check y) else if DA y o=false then (0,⟨[],[]⟩,2) else ((CG y o).1,(CG y o).2,0):Int×AW×Int):=⟨_,rfl⟩;have eq:=N4 y o hK h s;rw[←j] at eq;rw[nt,bd (Ph hK y r),bd (Ol hK o h k),bd x,bd (Ph hK y r),bd (Ol hK o h k),bd eq,bd (R8 hK y)]
   by_cases f:check y=0
   ·have d:=G4 f;rw[if_neg (by simp[f])] at c j;rw[f,ct (by rfl),bd (Q3 y o d.n4 h k hK)];cases a:DA y o with
    |false=>
     rw[if_pos (.inl a)] at c;rw[if_pos a] at j;subst c;subst j;rw[nf,ct (by rfl),ct (by rfl),ct (by rfl),ct (by rfl),ct (by rfl),bd (show i64 _=some (0:Int) from rfl),ct (by rfl),FV g]
    |true=>
     rw[if_neg (by simp[a])] at j;subst j;obtain⟨_,z,aE⟩:=Ho d o;have aA:(B6 y o (CG y o).2).length=y.Ad.length:=FX ..;rw[nt,cf (by rfl),bd (RX y d hK),cf (by rfl),bd (Q6 y d o a hK),cf (by simp),bd (show Dg 2000 (CG y o).2=some (CG y o).2 from rfl),bd (Q1 y d _ hK),z,nt,bd (show Dg 2000 (CG y o).2=some (CG y o).2 from rfl),bd (KS y d o a _ z hK),bd (Nj y _ d.n4 aA hK),cf (by simp[aE]),By (by omega) (by omega),bd (KH ..)];cases m:Fx n 0 ((y.Ad.length:Int)-1) with
     |false=>
      rw[if_pos (.inr m)] at c;subst c;rw[nf,ct (by rfl),ct (by rfl),FV g]
     |true=>
      rw[if_neg (by simp[a,m])] at c;subst c;rw[Fc] at m;obtain⟨i,rfl⟩:=Int.eq_ofNat_of_zero_le m.1;have hi:i<y.Ad.length:=by omega
      have u:i<(Ht y o).length:=by rw[No];exact hi
      have e:(Ht y o)[i]=(Ht y o).getD i 0:=by rw[List.getD_eq_getElem?_getD,List.getElem?_eq_getElem u];rfl
      rw[nt,bd (Qd y d o a hK),B7 u,e,Qe d o hi,OZ d o hi,Int.toNat_natCast];unfold verdict;cases (Cf y).all (Iq y o i) with
      |true=>rw[ct rfl,ct (by rfl),ct (by rfl),FV g]
      |false=>
       rw[cf rfl];cases (Cf y).all (fun t=> !Iq y o i t) with
       |true=>rw[ct rfl,ct (by rfl),ct (by rfl),FV g]
       |false=>rw[cf rfl,ct (by rfl),ct (by rfl),FV g]
   ·rw[if_pos f] at c j;subst c;subst j;rw[cf (nz f),ct (WC f),ct (by simp),ct (by simp),ct (by rfl),ct (by rfl),bd (show i64 _=some (0:Int) from rfl),ct (by rfl),FV g]
end Go.Proofs.YtkljfdkmjdjpfaaGreat
end
section
set_option linter.unusedVariables false
set_option linter.unusedSimpArgs false
namespace Go.Proofs.YtkljfdkmjdjpfaaGreat
open Go.RowKit Go.WideShapes
set_option maxRecDepth 20000
open HF
attribute [local irreducible] BP WL CC CW LV BM Ev DC One Bn
set_option maxHeartbeats 4000000 in
theorem a5(s:Nat)(b:Ar)(aF:List (List Int))(c7:Int)(f:Option Addr)(g:Nat)(q:Option Addr)(r:Nat)(Z:Nat→Prop)(w:World)(hZ:Sl AQ w Z f g b.Ad)(h1:Sl (BG (AF .i64)) w Z q r aF)(a:FB s b aF c7=some true):
 BM Tryz.prog 5 #[.agg #[I b.Am,I b.Aj,I b.Ap,I b.AA,.slice f b.Ad.length g],.slice q aF.length r,I c7] w (fun v w'=>Ext w w'∧v=.bool true):=by
 unfold FB at a;refine Bb (N:=153) Tryz.func5 rfl rfl (by simp) ?_;intro mY h2 mZ;have jX:=AP (i:=0) (v:=.agg #[I b.Am,I b.Aj,I b.Ap,I b.AA,.slice f b.Ad.length g]) h2 rfl;have aI:=AP (i:=1) (v:=.slice q aF.length r) h2 rfl;have b5:=AP (i:=2) (v:=I c7) h2 rfl;clear h2;have jI:Hp FN [] w [] w:=Hp.start (BN.none w);have g9:=hZ.mv (Bf (Z:=Z) (L:=[]) w);have hA:=h1.mv (Bf (Z:=Z) (L:=[]) w);refine Ae<|Aa<|we rfl (fun st=>BZ (v:=.agg #[I b.Am,I b.Aj,I b.Ap,I b.AA,.slice f b.Ad.length g]) (cs:= #[I b.Am,I b.Aj,I b.Ap,I b.AA,.slice f b.Ad.length g]) (ee st jX) rfl) ?_;rintro _ w1 ⟨aG,rfl,fP⟩;have lZ:=jI.nb fP;have mB:=jI.BJ fP;refine wa rfl (v:=.bool false) rfl<|Af<|Ab<|Ae<|Ae<|Aa<|wd rfl (fun st=>A5 (l:=[I b.Am,I b.Aj,I b.Ap,I b.AA,.slice f b.Ad.length g]) CT (ee st rfl) fP.bk rfl rfl) ?_;have fQ:=(g9.mv (AB fP));replace a:=bind_some a;obtain⟨r2,l0,a⟩:=a;refine we rfl (fun st=>AG UR (ee st rfl) (CD (ee st rfl)) (Ww s b f g ZA _ fQ.all r2 l0)) ?_;rintro _ nP ⟨g2,rfl⟩;have jJ:=lZ.ext g2;refine wd rfl (fun st=>C0 (ee st rfl))<|wm rfl (v:=.bool !r2) rfl ?_;rcases An (!r2) with a3|a3
 ·replace a:=Ax a a3;have mC:r2=false:=by simpa using a3
  refine Ao (c:=true) rfl rfl (Ac rfl a3) (by decide) rfl (by decide)<|Ao (c:=true) rfl rfl (Ac rfl a3) (by decide) rfl (by decide)<|Ao (c:=true) rfl rfl (Ac rfl a3) (by decide) rfl (by decide)<|wd rfl (fun st=>AO (v:=.bool true) (ee st rfl) a3 (ee st rfl))<|Af<|Ab<|Az rfl rfl<|Ae<|Aa ?_;replace a:=Ck a;obtain⟨l1,a⟩:=a;refine we rfl (fun st=>AG FZ (ee st rfl) Gv (Ik s ZA _ l1)) ?_;rintro _ nQ ⟨l2,rfl⟩;have l3:=jJ.ext l2;refine wa rfl (v:=.bool true) rfl<|Af<|Ab<|AM<|AD ?_;have u:=Option.some.inj a;refine AT rfl rfl ?_;exact⟨l3.Bu,congrArg Value.bool u⟩
 ·replace a:=Ay a a3;have mD:r2=true:=by simpa using a3
  refine As rfl rfl (Ac rfl a3) rfl (by decide) (fun st=>AK (v:=.slice q aF.length r) (ee st aI)) ?_;have fR:=((hA.mv (AB fP)).mv (Ai g2));replace a:=bind_some a;obtain⟨hM,l4,a⟩:=a;refine CB rfl rfl (Ac rfl a3) rfl (by decide) (fun st=>AG U2 (ee st rfl) (CD (ee st rfl)) (a28 s aF q r ZA _ fR.all hM l4)) ?_;rintro _ m0 ⟨g3,rfl⟩;have hN:=jJ.ext g3;refine As rfl rfl (Ac rfl a3) rfl (by decide) (fun st=>C0 (ee st rfl))<|wd rfl (fun st=>Br (v:=.bool !hM) (ee st rfl) a3 (ee st rfl))<|Af<|Ab ?_;rcases An (!hM) with b6|b6
  ·replace a:=Ax a b6;have lO:hM=false:=by simpa using b6
   refine Az rfl b6<|Ae<|Aa ?_;replace a:=Ck a;obtain⟨jY,a⟩:=a;refine we rfl (fun st=>AG FZ (ee st rfl) Gv (Ik s ZA _ jY)) ?_;rintro _ m1 ⟨jZ,rfl⟩;have l5:=hN.ext jZ;refine wa rfl (v:=.bool true) rfl<|Af<|Ab<|AM<|AD ?_;have u:=Option.some.inj a;refine AT rfl rfl ?_;exact⟨l5.Bu,congrArg Value.bool u⟩
  ·replace a:=Ay a b6;have lP:hM=true:=by simpa using b6
   refine AE rfl b6<|AV<|Ab<|Ae<|Aa ?_;have g4:=((fP.bk.ext g2).ext g3);refine wd rfl (fun st=>A5 (l:=[I b.Am,I b.Aj,I b.Ap,I b.AA,.slice f b.Ad.length g]) CT (ee st rfl) g4 rfl rfl) ?_;have fS:=((fQ.mv (Ai g2)).mv (Ai g3));replace a:=bind_some a;obtain⟨jK,j0,a⟩:=a;refine we rfl (fun st=>AG Rl (ee st rfl) (CD (ee st rfl)) (a31 s b f g (ZZ FN [] Z w.heap.size [some aG]) _ fS jK j0)) ?_;rintro _ m2 ⟨f2,⟨_,rfl,⟨hB,hC,rfl,b7⟩⟩⟩;have jL:=hN.ext f2;have b7:=b7.mv (hN.Cy (Nat.le_refl _));refine wm rfl (v:=.slice q aF.length r) aI ?_;have fT:=((fR.mv (Ai g3)).mv (Ai f2));replace a:=bind_some a;obtain⟨jM,j1,a⟩:=a;refine we rfl (fun st=>AG Rm (ee st rfl) (CD (ee st rfl)) (V0 s aF q r (ZZ FN [] Z w.heap.size [some aG]) _ fT jM j1)) ?_;rintro _ m3 ⟨eV,⟨hO,hP,rfl,dQ⟩⟩;have l6:=jL.ext eV;have dQ:=dQ.mv (jL.Cy (Nat.le_refl _));refine wm rfl (v:=I c7) b5 ?_;have f3:=(b7.mv (Ai eV));replace a:=bind_some a;obtain⟨e,j2,a⟩:=a;refine we rfl (fun st=>AG OL (ee st rfl) (Em (ee st rfl) (ee st rfl) (ee st rfl)) (a40 s jK jM c7 hB hC hO hP ZA _ f3.all dQ.all e j2)) ?_;rintro _ m4 ⟨f4,⟨_,_,rfl,rfl,rfl⟩⟩;have jN:=l6.ext f4;refine wm rfl (v:=.tuple #[I e.1,I e.2]) rfl<|wd rfl (fun st=>B1 (v:=I e.1) (ee st rfl) rfl)<|wd rfl (fun st=>B1 (v:=I e.2) (ee st rfl) rfl)<|wa rfl (v:=I e.1) rfl<|wa rfl (v:=I e.2) rfl<|Af<|Ab<|Ae<|Aa ?_;have g5:=(((g4.ext f2).ext eV).ext f4);refine wd rfl (fun st=>A5 (l:=[I b.Am,I b.Aj,I b.Ap,I b.AA,.slice f b.Ad.length g]) CT (ee st rfl) g5 rfl rfl) ?_;have fU:=(((fS.mv (Ai f2)).mv (Ai eV)).mv (Ai f4));replace a:=bind_some a;obtain⟨jO,j3,a⟩:=a;refine we rfl (fun st=>AG Rl (ee st rfl) (CD (ee st rfl)) (a31 s b f g (ZZ FN [] Z w.heap.size [some aG]) _ fU jO j3)) ?_;rintro _ m5 ⟨f5,⟨_,rfl,⟨hD,hE,rfl,b8⟩⟩⟩;have jP:=jN.ext f5;have b8:=b8.mv (jN.Cy (Nat.le_refl _));refine wm rfl (v:=.slice q aF.length r) aI ?_;have dR:=(((fT.mv (Ai eV)).mv (Ai f4)).mv (Ai f5));replace a:=bind_some a;obtain⟨jQ,j4,a⟩:=a;refine we rfl (fun st=>AG Rm (ee st rfl) (CD (ee st rfl)) (V0 s aF q r (ZZ FN [] Z w.heap.size [some aG]) _ dR jQ j4)) ?_;rintro _ m6 ⟨dS,⟨hQ,hR,rfl,dT⟩⟩;have gP:=jP.ext dS;have dT:=dT.mv (jP.Cy (Nat.le_refl _));have fN:=(b8.mv (Ai dS));replace a:=bind_some a;obtain⟨d,j5,a⟩:=a;refine we rfl (fun st=>AG OH (ee st rfl) (El (ee st rfl) (ee st rfl)) (Va s jO jQ hD hE hQ hR (ZZ FN [] Z w.heap.size [some aG]) _ fN dT d j5)) ?_;rintro _ m7 ⟨eW,⟨_,_,_,rfl,rfl,⟨_,rfl,⟨j,m,o,p,rfl,aU,aV⟩⟩,rfl⟩⟩;have hS:=gP.ext eW;have aU:=aU.mv (gP.Cy (Nat.le_refl _));have aV:=aV.mv (gP.Cy (Nat.le_refl _));refine wm rfl (v:=.tuple #[I d.1,.agg #[.slice j d.2.1.Comes.length m,.slice o d.2.1.Ap.length p],I d.2.2]) rfl<|wd rfl (fun st=>B1 (v:=I d.1) (ee st rfl) rfl)<|wd rfl (fun st=>B1 (v:=.agg #[.slice j d.2.1.Comes.length m,.slice o d.2.1.Ap.length p]) (ee st rfl) rfl)<|wd rfl (fun st=>B1 (v:=I d.2.2) (ee st rfl) rfl)<|we rfl (fun st=>BW (cs:= #[.slice none 0 0,.slice none 0 0]) Hb rfl) ?_;rintro _ m8 ⟨y,rfl,aJ⟩;have aW:=hS.nb aJ;have l7:=hS.BJ aJ;refine wa rfl (v:=I d.1) rfl<|Bj rfl rfl (fun st=>Bi (n:=2) (l:=[.slice j d.2.1.Comes.length m,.slice o d.2.1.Ap.length p]) (B8:= #[.slice j d.2.1.Comes.length m,.slice o d.2.1.Ap.length p]) (ee st rfl) (ee st rfl) Hh aJ.bk rfl rfl (show 0+2≤2 by decide) (AU rfl) rfl) ?_;rintro _ m9 aB;have j6:=aW.gr aB.gr 0 rfl;refine wa rfl (v:=I d.2.2) rfl<|Af<|Ab<|Ae<|Aa ?_;have eX:=(((((g5.ext f5).ext dS).ext eW).ext aJ.gr).gr aB.gr (aW.ne 1 0 rfl rfl rfl));refine wd rfl (fun st=>A5 (l:=[I b.Am,I b.Aj,I b.Ap,I b.AA,.slice f b.Ad.length g]) CT (ee st rfl) eX rfl rfl) ?_;have b9:=(((((fU.mv (Ai f5)).mv (Ai dS)).mv (Ai eW)).mv (AB aJ)).mv (aW.AN aB.gr 0 rfl));replace a:=bind_some a;obtain⟨aC,j7,a⟩:=a;refine we rfl (fun st=>AG US (ee st rfl) (CD (ee st rfl)) (Wv s b f g ZA _ b9.all aC j7)) ?_;rintro _ nA ⟨x,rfl⟩;have f6:=j6.ext x;refine wa rfl (v:=I aC) rfl<|Af<|Ab<|Ae<|Ae<|Aa<|wm rfl (v:=I aC) rfl<|wd rfl (fun st=>BC (ee st rfl) (ee st rfl))<|wm rfl (v:=.bool (aC==0)) rfl ?_;rcases An (aC==0) with aK|aK
   ·replace a:=Ax a aK;have a4:=(eX.ext x);refine As rfl rfl (Ac rfl aK) rfl (by decide) (fun st=>A5 (l:=[I b.Am,I b.Aj,I b.Ap,I b.AA,.slice f b.Ad.length g]) CT (ee st rfl) a4 rfl rfl)<|As rfl rfl (Ac rfl aK) rfl (by decide) (fun st=>AK (v:=.slice q aF.length r) (ee st aI)) ?_;have aL:=(b9.mv (Ai x));have cA:=(((((dR.mv (Ai dS)).mv (Ai eW)).mv (AB aJ)).mv (aW.AN aB.gr 0 rfl)).mv (Ai x));replace a:=bind_some a;obtain⟨gJ,j8,a⟩:=a;refine CB rfl rfl (Ac rfl aK) rfl (by decide) (fun st=>AG U3 (ee st rfl) (El (ee st rfl) (ee st rfl)) (WB s b aF f g q r ZA _ aL.all cA.all gJ j8)) ?_;rintro _ nB ⟨aE,rfl⟩;have dU:=f6.ext aE;refine As rfl rfl (Ac rfl aK) rfl (by decide) (fun st=>C0 (ee st rfl))<|wd rfl (fun st=>AO (v:=.bool !gJ) (ee st rfl) aK (ee st rfl))<|Af<|Ab ?_;rcases An (!gJ) with cB|cB
    ·replace a:=Ax a cB;have lQ:gJ=false:=by simpa using cB
     refine Az rfl cB<|Aa<|wa rfl (v:=I 2) rfl<|Af<|Ab<|Ae<|Ae<|Aa<|wm rfl (v:=I 2) rfl<|wd rfl (fun st=>Ei (ee st rfl) (ee st rfl))<|Af<|Ab ?_;rcases An ((2:Int) !=(0:Int)) with eY|eY
     ·replace a:=Ax a eY;refine Az rfl eY<|Ae<|Aa<|wm rfl (v:=I e.2) rfl<|wm rfl (v:=I 2) rfl<|wd rfl (fun st=>BC (ee st rfl) (ee st rfl))<|wm rfl (v:=.bool (e.2==2)) rfl ?_;rcases An (e.2==2) with cC|cC
      ·replace a:=Ax a cC;refine As rfl rfl (Ac rfl cC) rfl (by decide) (fun st=>AK (v:=I d.2.2) (ee st rfl))<|As rfl rfl (Ac rfl cC) rfl (by decide) (fun st=>AK (v:=I 2) (ee st rfl))<|As rfl rfl (Ac rfl cC) rfl (by decide) (fun st=>BC (ee st rfl) (ee st rfl))<|wd rfl (fun st=>AO (v:=.bool (d.2.2==2)) (ee st rfl) cC (ee st rfl))<|wm rfl (v:=.bool (d.2.2==2)) rfl ?_;rcases An (d.2.2==2) with dV|dV
       ·replace a:=Ax a dV;refine As rfl rfl (Ac rfl dV) rfl (by decide) (fun st=>AK (v:=I e.1) (ee st rfl))<|As rfl rfl (Ac rfl dV) rfl (by decide) (fun st=>BC (ee st rfl) (ee st rfl))<|wd rfl (fun st=>AO (v:=.bool (e.1==0)) (ee st rfl) dV (ee st rfl))<|wm rfl (v:=.bool (e.1==0)) rfl ?_;rcases An (e.1==0) with dW|dW
        ·replace a:=Ax a dW;refine As rfl rfl (Ac rfl dW) rfl (by decide) (fun st=>AK (v:=I d.1) (ee st rfl))<|As rfl rfl (Ac rfl dW) rfl (by decide) (fun st=>BC (ee st rfl) (ee st rfl))<|wd rfl (fun st=>AO (v:=.bool (d.1==0)) (ee st rfl) dW (ee st rfl))<|wm rfl (v:=.bool (d.1==0)) rfl ?_;rcases An (d.1==0) with aO|aO
         ·replace a:=Ax a aO;refine As rfl rfl (Ac rfl aO) rfl (by decide) (fun st=>Ak (ee st rfl) (GV _ _)) ?_;have a6:=((aB.bk.ext x).ext aE);refine As rfl rfl (Ac rfl aO) rfl (by decide) (fun st=>Au (v:=.slice j d.2.1.Comes.length m) Dh (ee st rfl) a6 rfl)<|As rfl rfl (Ac rfl aO) rfl (by decide) (fun st=>BB Tryz.underlying23 (ee st rfl))<|As rfl rfl (Ac rfl aO) rfl (by decide) (fun st=>Ak (ee st rfl) (Gt _ _))<|As rfl rfl (Ac rfl aO) rfl (by decide) (fun st=>Au (v:=.slice o d.2.1.Ap.length p) EU (ee st rfl) a6 rfl)<|As rfl rfl (Ac rfl aO) rfl (by decide) (fun st=>BB Tryz.underlying65 (ee st rfl)) ?_;replace a:=AR a;obtain⟨j9,a⟩:=a;refine As rfl rfl (Ac rfl aO) rfl (by decide) (fun st=>Bp (ee st rfl) (ee st rfl) j9)<|As rfl rfl (Ac rfl aO) rfl (by decide) (fun st=>BC (ee st rfl) (ee st rfl))<|wd rfl (fun st=>AO (v:=.bool (((d.2.1.Comes.length:Int)+(d.2.1.Ap.length:Int))==0)) (ee st rfl) aO (ee st rfl))<|wm rfl (v:=.bool (((d.2.1.Comes.length:Int)+(d.2.1.Ap.length:Int))==0)) rfl ?_;rcases An (((d.2.1.Comes.length:Int)+(d.2.1.Ap.length:Int))==0) with eZ|eZ
          ·replace a:=Ax a eZ;replace a:=Ck a;obtain⟨kA,a⟩:=a;refine CB rfl rfl (Ac rfl eZ) rfl (by decide) (fun st=>AG FZ (ee st rfl) Gv (Ik s ZA _ kA)) ?_;rintro _ nC ⟨kB,rfl⟩;have kC:=dU.ext kB;refine wd rfl (fun st=>AO (v:=.bool true) (ee st rfl) eZ (ee st rfl))<|wa rfl (v:=.bool true) rfl<|Af<|Ab<|AM<|AD ?_;have u:=Option.some.inj a;refine AT rfl rfl ?_;exact⟨kC.Bu,congrArg Value.bool u⟩
          ·replace a:=Ay a eZ;exact absurd (Option.some.inj a) (by decide)
         ·replace a:=Ay a aO;exact absurd (Option.some.inj a) (by decide)
        ·replace a:=Ay a dW;exact absurd (Option.some.inj a) (by decide)
       ·replace a:=Ay a dV;exact absurd (Option.some.inj a) (by decide)
      ·replace a:=Ay a cC;exact absurd (Option.some.inj a) (by decide)
     ·replace a:=Ay a eY;refine AE rfl eY<|AV<|Ab<|Ae<|Aa ?_;have bN:=(a4.ext aE);refine wd rfl (fun st=>A5 (l:=[I b.Am,I b.Aj,I b.Ap,I b.AA,.slice f b.Ad.length g]) CT (ee st rfl) bN rfl rfl) ?_;have aX:=(aL.mv (Ai aE));replace a:=bind_some a;obtain⟨eI,kD,a⟩:=a;refine we rfl (fun st=>AG OI (ee st rfl) (CD (ee st rfl)) (Vc s b f g (ZZ FN [] Z w.heap.size [some y,some aG]) _ aX eI kD)) ?_;rintro _ nD ⟨cD,⟨a7,a8,rfl,bS⟩⟩;have f7:=dU.ext cD;have bS:=bS.mv (dU.Cy (Nat.le_refl _));refine wa rfl (v:=.slice a7 eI.length a8) rfl<|Af<|Ab<|Ae<|Ae ?_;rcases An (d.2.2 !=0) with a2|a2
      ·replace a:=Ax a a2;exact absurd (Option.some.inj a) (by decide)
      ·replace a:=Ay a a2;have bO:=(bN.ext cD);have aY:=(aX.mv (Ai cD));have cE:=((cA.mv (Ai aE)).mv (Ai cD));replace a:=bind_some a;obtain⟨fV,kE,a⟩:=a;rcases An (d.1 !=fV) with bB|bB
       ·replace a:=Ax a bB;exact absurd (Option.some.inj a) (by decide)
       ·replace a:=Ay a bB;have fW:=(((aB.bk.ext x).ext aE).ext cD);have bY:=(((((aU.mv (AB aJ)).mv (aW.AN aB.gr 0 rfl)).mv (Ai x)).mv (Ai aE)).mv (Ai cD));have bZ:=(((((aV.mv (AB aJ)).mv (aW.AN aB.gr 0 rfl)).mv (Ai x)).mv (Ai aE)).mv (Ai cD));replace a:=bind_some a;obtain⟨gK,kF,a⟩:=a;replace a:=bind_some a;obtain⟨e0,kG,a⟩:=a;rcases An (!e0) with aH|aH
        ·replace a:=Ax a aH;exact absurd (Option.some.inj a) (by decide)
        ·replace a:=Ay a aH;have lR:e0=true:=by simpa using aH
         replace a:=bind_some a;obtain⟨gL,kH,a⟩:=a;replace a:=bind_some a;obtain⟨g6,kI,a⟩:=a;replace a:=bind_some a;obtain⟨g7,kJ,a⟩:=a;refine Cx 26 [Kc (I d.2.2),Kc (.bool (d.2.2 !=0)),Kc (.bool (d.2.2 !=0)),Kc (I d.1),Kc (.agg #[I b.Am,I b.Aj,I b.Ap,I b.AA,.slice f b.Ad.length g]),Kc (.slice a7 eI.length a8),Kc (.slice q aF.length r),Kc (I fV),Kc (.bool (d.1 !=fV)),Kc (.bool (d.1 !=fV)),Kc (.bool (d.1 !=fV)),Kc (.agg #[I b.Am,I b.Aj,I b.Ap,I b.AA,.slice f b.Ad.length g]),Kc (.agg #[.slice j d.2.1.Comes.length m,.slice o d.2.1.Ap.length p]),Kv (C1 Cp) (ZZ FN [] Z w.heap.size [some y,some aG]) gK,Kc (.bool e0),Kc (.bool !e0),Kc (.bool !e0),Kc (.bool !e0),Kc (.agg #[I b.Am,I b.Aj,I b.Ap,I b.AA,.slice f b.Ad.length g]),Kc (.agg #[I b.Am,I b.Aj,I b.Ap,I b.AA,.slice f b.Ad.length g]),Kc (.slice q aF.length r),Kc (.agg #[.slice j d.2.1.Comes.length m,.slice o d.2.1.Ap.length p]),Kv (C1 Cp) (ZZ FN [] Z w.heap.size [some y,some aG]) gL,Kv (Fj Bz) (ZZ FN [] Z w.heap.size [some y,some aG]) g6,Kc (I g7),Kc (I d.1)] mixed rfl rfl
             (Ag (od rfl (fun _=>rfl) (fun K=>AK (es ((K.out 11 rfl).trans rfl))))
             (Ag (od rfl (fun _=>rfl) (fun K=>Ei (es (K.Av 0 86 rfl rfl)) (ec (v:=I 0))))
             (Ag (od rfl (fun _=>rfl) (fun K=>AK (es (K.Av 1 87 rfl rfl))))
             (Ag (A6 rfl rfl rfl (fun _=>rfl) (fun a' w' ph K=>Ac (K.Av 2 88 rfl rfl) a2) (fun a' w' ph K=>AK (es ((K.out 9 rfl).trans rfl))))
             (Ag (A6 rfl rfl rfl (fun _=>rfl) (fun a' w' ph K=>Ac (K.Av 2 88 rfl rfl) a2) (fun a' w' ph K=>A5 (l:=[I b.Am,I b.Aj,I b.Ap,I b.AA,.slice f b.Ad.length g]) CT (es ((K.out 3 rfl).trans rfl)) (bO.ext K.Bc) rfl rfl))
             (Ag (A6 rfl rfl rfl (fun _=>rfl) (fun a' w' ph K=>Ac (K.Av 2 88 rfl rfl) a2) (fun a' w' ph K=>AK (es ((K.out 13 rfl).trans rfl))))
             (Ag (A6 rfl rfl rfl (fun _=>rfl) (fun a' w' ph K=>Ac (K.Av 2 88 rfl rfl) a2) (fun a' w' ph K=>AK (es ((K.out 1 rfl).trans aI))))
             (Ag (C3 rfl rfl rfl (fun a' w' ph K=>Ac (K.Av 2 88 rfl rfl) a2) (fun a' w' ph K=>(AG OJ rfl (Em (es (K.Av 4 90 rfl rfl)) (es (K.Av 5 91 rfl rfl)) (es (K.Av 6 92 rfl rfl))) (Ve s b eI aF f g a7 a8 q r ZA _ (aY.mv (Ai K.Bc)).all (bS.mv (Ai K.Bc)).all (cE.mv (Ai K.Bc)).all fV kE)).mono (fun _ _ h=>⟨h.2,h.1⟩)))
             (Ag (A6 rfl rfl rfl (fun _=>rfl) (fun a' w' ph K=>Ac (K.Av 2 88 rfl rfl) a2) (fun a' w' ph K=>Ei (es (K.Av 3 89 rfl rfl)) (es (K.Av 7 93 rfl rfl))))
             (Ag (od rfl (fun _=>rfl) (fun K=>Br (es (K.Av 2 88 rfl rfl)) a2 (es (K.Av 8 94 rfl rfl))))
             (Ag (od rfl (fun _=>rfl) (fun K=>AK (es (K.Av 9 95 rfl rfl))))
             (Ag (A6 rfl rfl rfl (fun _=>rfl) (fun a' w' ph K=>Ac (K.Av 10 96 rfl rfl) bB) (fun a' w' ph K=>A5 (l:=[I b.Am,I b.Aj,I b.Ap,I b.AA,.slice f b.Ad.length g]) CT (es ((K.out 3 rfl).trans rfl)) (bO.ext K.Bc) rfl rfl))
             (Ag (A6 rfl rfl rfl (fun _=>rfl) (fun a' w' ph K=>Ac (K.Av 10 96 rfl rfl) bB) (fun a' w' ph K=>A5 (l:=[.slice j d.2.1.Comes.length m,.slice o d.2.1.Ap.length p]) Ff (es ((K.out 10 rfl).trans rfl)) (fW.ext K.Bc) rfl rfl))
             (Ag (C3 rfl rfl rfl (fun a' w' ph K=>Ac (K.Av 10 96 rfl rfl) bB) (fun a' w' ph K=>(AG JC rfl (CD (es (K.Av 12 98 rfl rfl))) (PH s d.2.1 j m o p (ZZ FN [] Z w.heap.size [some y,some aG]) _ (bY.mv (Ai K.Bc)) (bZ.mv (Ai K.Bc)) gK kF)).mono (fun _ _ h=>⟨(C1 Cp).mv h.2 ((f7.ext K.Bc).Cy (Nat.le_refl _)),h.1⟩)))
             (Ag (C3 rfl rfl rfl (fun a' w' ph K=>Ac (K.Av 10 96 rfl rfl) bB) (fun a' w' ph K=>by obtain⟨_,hT,⟨dX,dY,dZ,d0,rfl,e1,e2⟩⟩:=K.Av 13 99 rfl rfl;exact(AG OM rfl (El (es (K.Av 11 97 rfl rfl)) (es (t:=99) (v:=.agg #[.slice dX gK.Comes.length dY,.slice dZ gK.Ap.length d0]) hT)) (a37 s b gK f g dX dY dZ d0 ZA _ (aY.mv (Ai K.Bc)).all e1.all e2.all e0 kG)).mono (fun _ _ h=>⟨h.2,h.1⟩)))
             (Ag (A6 rfl rfl rfl (fun _=>rfl) (fun a' w' ph K=>Ac (K.Av 10 96 rfl rfl) bB) (fun a' w' ph K=>C0 (es (K.Av 14 100 rfl rfl))))
             (Ag (od rfl (fun _=>rfl) (fun K=>Br (es (K.Av 10 96 rfl rfl)) bB (es (K.Av 15 101 rfl rfl))))
             (Ag (od rfl (fun _=>rfl) (fun K=>AK (es (K.Av 16 102 rfl rfl))))
             (Ag (A6 rfl rfl rfl (fun _=>rfl) (fun a' w' ph K=>Ac (K.Av 17 103 rfl rfl) aH) (fun a' w' ph K=>A5 (l:=[I b.Am,I b.Aj,I b.Ap,I b.AA,.slice f b.Ad.length g]) CT (es ((K.out 3 rfl).trans rfl)) (bO.ext K.Bc) rfl rfl))
             (Ag (A6 rfl rfl rfl (fun _=>rfl) (fun a' w' ph K=>Ac (K.Av 17 103 rfl rfl) aH) (fun a' w' ph K=>A5 (l:=[I b.Am,I b.Aj,I b.Ap,I b.AA,.slice f b.Ad.length g]) CT (es ((K.out 3 rfl).trans rfl)) (bO.ext K.Bc) rfl rfl))
             (Ag (A6 rfl rfl rfl (fun _=>rfl) (fun a' w' ph K=>Ac (K.Av 17 103 rfl rfl) aH) (fun a' w' ph K=>AK (es ((K.out 1 rfl).trans aI))))
             (Ag (A6 rfl rfl rfl (fun _=>rfl) (fun a' w' ph K=>Ac (K.Av 17 103 rfl rfl) aH) (fun a' w' ph K=>A5 (l:=[.slice j d.2.1.Comes.length m,.slice o d.2.1.Ap.length p]) Ff (es ((K.out 10 rfl).trans rfl)) (fW.ext K.Bc) rfl rfl))
             (Ag (C3 rfl rfl rfl (fun a' w' ph K=>Ac (K.Av 17 103 rfl rfl) aH) (fun a' w' ph K=>(AG JC rfl (CD (es (K.Av 21 107 rfl rfl))) (PH s d.2.1 j m o p (ZZ FN [] Z w.heap.size [some y,some aG]) _ (bY.mv (Ai K.Bc)) (bZ.mv (Ai K.Bc)) gL kH)).mono (fun _ _ h=>⟨(C1 Cp).mv h.2 ((f7.ext K.Bc).Cy (Nat.le_refl _)),h.1⟩)))
             (Ag (C3 rfl rfl rfl (fun a' w' ph K=>Ac (K.Av 17 103 rfl rfl) aH) (fun a' w' ph K=>by obtain⟨_,hU,⟨d1,d2,d3,d4,rfl,e3,e4⟩⟩:=K.Av 22 108 rfl rfl;exact(AG KX rfl (Em (es (K.Av 19 105 rfl rfl)) (es (K.Av 20 106 rfl rfl)) (es (t:=108) (v:=.agg #[.slice d1 gL.Comes.length d2,.slice d3 gL.Ap.length d4]) hU)) (Rp s b aF gL f g q r d1 d2 d3 d4 (ZZ FN [] Z w.heap.size [some y,some aG]) _ (aY.mv (Ai K.Bc)) (cE.mv (Ai K.Bc)) e3 e4 g6 kI)).mono (fun _ _ h=>⟨(Fj Bz).mv h.2 ((f7.ext K.Bc).Cy (Nat.le_refl _)),h.1⟩)))
             (Ag (C3 rfl rfl rfl (fun a' w' ph K=>Ac (K.Av 17 103 rfl rfl) aH) (fun a' w' ph K=>match K.Av 23 109 rfl rfl with|⟨e5,e6,hV,fX⟩=>(AG Mr rfl (El (es (K.Av 18 104 rfl rfl)) (es (t:=109) (v:=.slice e5 g6.length e6) hV)) (SO s b g6 f g e5 e6 ZA _ (aY.mv (Ai K.Bc)).all fX.all g7 kJ)).mono (fun _ _ h=>⟨h.2,h.1⟩)))
             (Ag (A6 rfl rfl rfl (fun _=>rfl) (fun a' w' ph K=>Ac (K.Av 17 103 rfl rfl) aH) (fun a' w' ph K=>AK (es ((K.out 9 rfl).trans rfl))))
             (Ca _))))))))))))))))))))))))))) ?_
         intro nE;rintro _ rfl _ rfl _ rfl _ rfl _ rfl _ rfl _ rfl _ rfl _ rfl _ rfl _ rfl _ rfl _ rfl _ ⟨_,rfl,⟨dX,dY,dZ,d0,rfl,e1,e2⟩⟩ _ rfl _ rfl _ rfl _ rfl _ rfl _ rfl _ rfl _ rfl _ ⟨_,rfl,⟨d1,d2,d3,d4,rfl,e3,e4⟩⟩ _ ⟨e5,e6,rfl,fX⟩ _ rfl _ rfl e7;have kK:=f7.ext e7;refine As rfl rfl (Ac rfl aH) rfl (by decide) (fun st=>Ei (ee st rfl) (ee st rfl))<|wd rfl (fun st=>Br (v:=.bool (g7 !=d.1)) (ee st rfl) aH (ee st rfl))<|Af<|Ab ?_;rcases An (g7 !=d.1) with f8|f8
         ·replace a:=Ax a f8;exact absurd (Option.some.inj a) (by decide)
         ·replace a:=Ay a f8;refine AE rfl f8<|AV<|Ab<|Ae<|Ae<|Aa<|wm rfl (v:=I c7) b5<|wd rfl (fun st=>Ak (ee st rfl) (CV _ _)) ?_;have gM:=(bO.ext e7);refine wd rfl (fun st=>Au (v:=.slice f b.Ad.length g) Du (ee st rfl) gM rfl)<|wd rfl (fun st=>BB Tryz.underlying61 (ee st rfl)) ?_;replace a:=AR a;obtain⟨kL,a⟩:=a;refine wd rfl (fun st=>I3 (ee st rfl) (ee st rfl) kL) ?_;replace a:=bind_some a;obtain⟨g8,kM,a⟩:=a;refine we rfl (fun st=>AG Hu (ee st rfl) (Em (ee st rfl) (ee st rfl) (ee st rfl)) (a46 s c7 0 ((b.Ad.length:Int)-1) ZA _ g8 kM)) ?_;rintro _ nF ⟨e8,rfl⟩;have gQ:=kK.ext e8;refine wd rfl (fun st=>C0 (ee st rfl))<|Af<|Ab ?_;rcases An (!g8) with cF|cF
          ·replace a:=Ax a cF;have lS:g8=false:=by simpa using cF
           refine Az rfl cF<|Ae<|Aa<|wm rfl (v:=I e.2) rfl<|wd rfl (fun st=>BC (ee st rfl) (ee st rfl))<|wm rfl (v:=.bool (e.2==2)) rfl ?_;rcases An (e.2==2) with d5|d5
           ·replace a:=Ax a d5;refine As rfl rfl (Ac rfl d5) rfl (by decide) (fun st=>AK (v:=I e.1) (ee st rfl))<|As rfl rfl (Ac rfl d5) rfl (by decide) (fun st=>BC (ee st rfl) (ee st rfl))<|wd rfl (fun st=>AO (v:=.bool (e.1==0)) (ee st rfl) d5 (ee st rfl))<|wm rfl (v:=.bool (e.1==0)) rfl ?_;rcases An (e.1==0) with e9|e9
            ·replace a:=Ax a e9;replace a:=Ck a;obtain⟨kN,a⟩:=a;refine CB rfl rfl (Ac rfl e9) rfl (by decide) (fun st=>AG FZ (ee st rfl) Gv (Ik s ZA _ kN)) ?_;rintro _ nG ⟨kO,rfl⟩;have kP:=gQ.ext kO;refine wd rfl (fun st=>AO (v:=.bool true) (ee st rfl) e9 (ee st rfl))<|wa rfl (v:=.bool true) rfl<|Af<|Ab<|AM<|AD ?_;have u:=Option.some.inj a;refine AT rfl rfl ?_;exact⟨kP.Bu,congrArg Value.bool u⟩
            ·replace a:=Ay a e9;exact absurd (Option.some.inj a) (by decide)
           ·replace a:=Ay a d5;exact absurd (Option.some.inj a) (by decide)
          ·replace a:=Ay a cF;have lT:g8=true:=by simpa using cF
           refine AE rfl cF<|AV<|Ab<|Ae<|Aa<|wa rfl (v:=I 3) rfl<|Af<|Ab<|Ae<|Ae<|Aa ?_;have hW:=(gM.ext e8);refine wd rfl (fun st=>A5 (l:=[I b.Am,I b.Aj,I b.Ap,I b.AA,.slice f b.Ad.length g]) CT (ee st rfl) hW rfl rfl)<|wm rfl (v:=.slice a7 eI.length a8) rfl<|wm rfl (v:=.slice q aF.length r) aI ?_;have gR:=((aY.mv (Ai e7)).mv (Ai e8));have f9:=((bS.mv (Ai e7)).mv (Ai e8));have gS:=((cE.mv (Ai e7)).mv (Ai e8));replace a:=bind_some a;obtain⟨l8,kQ,a⟩:=a;refine we rfl (fun st=>AG OK (ee st rfl) (Em (ee st rfl) (ee st rfl) (ee st rfl)) (Vf s b eI aF f g a7 a8 q r (ZZ FN [] Z w.heap.size [some y,some aG]) _ gR f9 gS l8 kQ)) ?_;rintro _ nH ⟨kR,⟨l9,mA,rfl,d6⟩⟩;have gT:=gQ.ext kR;have d6:=d6.mv (gQ.Cy (Nat.le_refl _));refine wm rfl (v:=I c7) b5 ?_;replace a:=A3 a;obtain⟨i73,fY,kS,kT,kU,a⟩:=a;obtain⟨nI,nJ,_,kV,rfl,kW⟩:=Sl.Dc d6 rfl kT;refine wd rfl (fun st=>Bs (k:=i73) Tryz.underlying23 CH (ee st rfl) kV (ee st rfl) kS kU)<|wd rfl (fun st=>BO (v:=I fY) AZ (ee st rfl) kW rfl)<|wa rfl (v:=I fY) rfl<|Af<|Ab<|Ae<|Aa<|wm rfl (v:=I fY) rfl<|wm rfl (v:=.slice a7 eI.length a8) rfl<|wd rfl (fun st=>BB Tryz.underlying92 (ee st rfl))<|wd rfl (fun st=>BC (ee st rfl) (ee st rfl))<|Af<|Ab ?_;rcases An (fY==(eI.length:Int)) with fA|fA
           ·replace a:=Ax a fA;refine Az rfl fA<|Aa<|wa rfl (v:=I 1) rfl<|Af<|Ab<|Ae<|Aa<|wm rfl (v:=I e.2) rfl<|wd rfl (fun st=>BC (ee st rfl) (ee st rfl))<|wm rfl (v:=.bool (e.2==0)) rfl ?_;rcases An (e.2==0) with cG|cG
            ·replace a:=Ax a cG;refine As rfl rfl (Ac rfl cG) rfl (by decide) (fun st=>AK (v:=I e.1) (ee st rfl))<|As rfl rfl (Ac rfl cG) rfl (by decide) (fun st=>AK (v:=I 1) (ee st rfl))<|As rfl rfl (Ac rfl cG) rfl (by decide) (fun st=>BC (ee st rfl) (ee st rfl))<|wd rfl (fun st=>AO (v:=.bool (e.1==1)) (ee st rfl) cG (ee st rfl))<|wm rfl (v:=.bool (e.1==1)) rfl ?_;rcases An (e.1==1) with fB|fB
             ·replace a:=Ax a fB;replace a:=Ck a;obtain⟨kX,a⟩:=a;refine CB rfl rfl (Ac rfl fB) rfl (by decide) (fun st=>AG FZ (ee st rfl) Gv (Ik s ZA _ kX)) ?_;rintro _ nK ⟨kY,rfl⟩;have kZ:=gT.ext kY;refine wd rfl (fun st=>AO (v:=.bool true) (ee st rfl) fB (ee st rfl))<|wa rfl (v:=.bool true) rfl<|Af<|Ab<|AM ?_;have u:=Option.some.inj a;refine AT rfl rfl ?_;exact⟨kZ.Bu,congrArg Value.bool u⟩
             ·replace a:=Ay a fB;exact absurd (Option.some.inj a) (by decide)
            ·replace a:=Ay a cG;exact absurd (Option.some.inj a) (by decide)
           ·replace a:=Ay a fA;refine AE rfl fA<|Ae<|Aa<|wm rfl (v:=I fY) rfl<|wd rfl (fun st=>BC (ee st rfl) (ee st rfl))<|Af<|Ab ?_;rcases An (fY==0) with fC|fC
            ·replace a:=Ax a fC;refine Az rfl fC<|Aa<|wa rfl (v:=I 2) rfl<|Af<|Ab<|Ae<|Aa<|wm rfl (v:=I e.2) rfl<|wd rfl (fun st=>BC (ee st rfl) (ee st rfl))<|wm rfl (v:=.bool (e.2==0)) rfl ?_;rcases An (e.2==0) with cH|cH
             ·replace a:=Ax a cH;refine As rfl rfl (Ac rfl cH) rfl (by decide) (fun st=>AK (v:=I e.1) (ee st rfl))<|As rfl rfl (Ac rfl cH) rfl (by decide) (fun st=>AK (v:=I 2) (ee st rfl))<|As rfl rfl (Ac rfl cH) rfl (by decide) (fun st=>BC (ee st rfl) (ee st rfl))<|wd rfl (fun st=>AO (v:=.bool (e.1==2)) (ee st rfl) cH (ee st rfl))<|wm rfl (v:=.bool (e.1==2)) rfl ?_;rcases An (e.1==2) with fD|fD
              ·replace a:=Ax a fD;replace a:=Ck a;obtain⟨k0,a⟩:=a;refine CB rfl rfl (Ac rfl fD) rfl (by decide) (fun st=>AG FZ (ee st rfl) Gv (Ik s ZA _ k0)) ?_;rintro _ nL ⟨k1,rfl⟩;have k2:=gT.ext k1;refine wd rfl (fun st=>AO (v:=.bool true) (ee st rfl) fD (ee st rfl))<|wa rfl (v:=.bool true) rfl<|Af<|Ab<|AM ?_;have u:=Option.some.inj a;refine AT rfl rfl ?_;exact⟨k2.Bu,congrArg Value.bool u⟩
              ·replace a:=Ay a fD;exact absurd (Option.some.inj a) (by decide)
             ·replace a:=Ay a cH;exact absurd (Option.some.inj a) (by decide)
            ·replace a:=Ay a fC;refine AE rfl fC<|AV<|Ab<|Ae<|Aa<|wm rfl (v:=I e.2) rfl<|wd rfl (fun st=>BC (ee st rfl) (ee st rfl))<|wm rfl (v:=.bool (e.2==0)) rfl ?_;rcases An (e.2==0) with cI|cI
             ·replace a:=Ax a cI;refine As rfl rfl (Ac rfl cI) rfl (by decide) (fun st=>AK (v:=I e.1) (ee st rfl))<|As rfl rfl (Ac rfl cI) rfl (by decide) (fun st=>AK (v:=I 3) (ee st rfl))<|As rfl rfl (Ac rfl cI) rfl (by decide) (fun st=>BC (ee st rfl) (ee st rfl))<|wd rfl (fun st=>AO (v:=.bool (e.1==3)) (ee st rfl) cI (ee st rfl))<|wm rfl (v:=.bool (e.1==3)) rfl ?_;rcases An (e.1==3) with fE|fE
              ·replace a:=Ax a fE;replace a:=Ck a;obtain⟨k3,a⟩:=a;refine CB rfl rfl (Ac rfl fE) rfl (by decide) (fun st=>AG FZ (ee st rfl) Gv (Ik s ZA _ k3)) ?_;rintro _ nM ⟨k4,rfl⟩;have k5:=gT.ext k4;refine wd rfl (fun st=>AO (v:=.bool true) (ee st rfl) fE (ee st rfl))<|wa rfl (v:=.bool true) rfl<|Af<|Ab<|AM ?_;have u:=Option.some.inj a;refine AT rfl rfl ?_;exact⟨k5.Bu,congrArg Value.bool u⟩
              ·replace a:=Ay a fE;exact absurd (Option.some.inj a) (by decide)
             ·replace a:=Ay a cI;exact absurd (Option.some.inj a) (by decide)
    ·replace a:=Ay a cB;have lU:gJ=true:=by simpa using cB
     refine AE rfl cB<|AV<|Ab<|Ae<|Ae<|Aa<|wm rfl (v:=I aC) rfl<|wd rfl (fun st=>Ei (ee st rfl) (ee st rfl))<|Af<|Ab ?_;rcases An (aC !=0) with fF|fF
     ·replace a:=Ax a fF;refine Az rfl fF<|Ae<|Aa<|wm rfl (v:=I e.2) rfl<|wm rfl (v:=I aC) rfl<|wd rfl (fun st=>BC (ee st rfl) (ee st rfl))<|wm rfl (v:=.bool (e.2==aC)) rfl ?_;rcases An (e.2==aC) with cJ|cJ
      ·replace a:=Ax a cJ;refine As rfl rfl (Ac rfl cJ) rfl (by decide) (fun st=>AK (v:=I d.2.2) (ee st rfl))<|As rfl rfl (Ac rfl cJ) rfl (by decide) (fun st=>AK (v:=I aC) (ee st rfl))<|As rfl rfl (Ac rfl cJ) rfl (by decide) (fun st=>BC (ee st rfl) (ee st rfl))<|wd rfl (fun st=>AO (v:=.bool (d.2.2==aC)) (ee st rfl) cJ (ee st rfl))<|wm rfl (v:=.bool (d.2.2==aC)) rfl ?_;rcases An (d.2.2==aC) with d7|d7
       ·replace a:=Ax a d7;refine As rfl rfl (Ac rfl d7) rfl (by decide) (fun st=>AK (v:=I e.1) (ee st rfl))<|As rfl rfl (Ac rfl d7) rfl (by decide) (fun st=>BC (ee st rfl) (ee st rfl))<|wd rfl (fun st=>AO (v:=.bool (e.1==0)) (ee st rfl) d7 (ee st rfl))<|wm rfl (v:=.bool (e.1==0)) rfl ?_;rcases An (e.1==0) with d8|d8
        ·replace a:=Ax a d8;refine As rfl rfl (Ac rfl d8) rfl (by decide) (fun st=>AK (v:=I d.1) (ee st rfl))<|As rfl rfl (Ac rfl d8) rfl (by decide) (fun st=>BC (ee st rfl) (ee st rfl))<|wd rfl (fun st=>AO (v:=.bool (d.1==0)) (ee st rfl) d8 (ee st rfl))<|wm rfl (v:=.bool (d.1==0)) rfl ?_;rcases An (d.1==0) with aP|aP
         ·replace a:=Ax a aP;refine As rfl rfl (Ac rfl aP) rfl (by decide) (fun st=>Ak (ee st rfl) (GV _ _)) ?_;have a6:=((aB.bk.ext x).ext aE);refine As rfl rfl (Ac rfl aP) rfl (by decide) (fun st=>Au (v:=.slice j d.2.1.Comes.length m) Dh (ee st rfl) a6 rfl)<|As rfl rfl (Ac rfl aP) rfl (by decide) (fun st=>BB Tryz.underlying23 (ee st rfl))<|As rfl rfl (Ac rfl aP) rfl (by decide) (fun st=>Ak (ee st rfl) (Gt _ _))<|As rfl rfl (Ac rfl aP) rfl (by decide) (fun st=>Au (v:=.slice o d.2.1.Ap.length p) EU (ee st rfl) a6 rfl)<|As rfl rfl (Ac rfl aP) rfl (by decide) (fun st=>BB Tryz.underlying65 (ee st rfl)) ?_;replace a:=AR a;obtain⟨k6,a⟩:=a;refine As rfl rfl (Ac rfl aP) rfl (by decide) (fun st=>Bp (ee st rfl) (ee st rfl) k6)<|As rfl rfl (Ac rfl aP) rfl (by decide) (fun st=>BC (ee st rfl) (ee st rfl))<|wd rfl (fun st=>AO (v:=.bool (((d.2.1.Comes.length:Int)+(d.2.1.Ap.length:Int))==0)) (ee st rfl) aP (ee st rfl))<|wm rfl (v:=.bool (((d.2.1.Comes.length:Int)+(d.2.1.Ap.length:Int))==0)) rfl ?_;rcases An (((d.2.1.Comes.length:Int)+(d.2.1.Ap.length:Int))==0) with fG|fG
          ·replace a:=Ax a fG;replace a:=Ck a;obtain⟨k7,a⟩:=a;refine CB rfl rfl (Ac rfl fG) rfl (by decide) (fun st=>AG FZ (ee st rfl) Gv (Ik s ZA _ k7)) ?_;rintro _ nN ⟨k8,rfl⟩;have k9:=dU.ext k8;refine wd rfl (fun st=>AO (v:=.bool true) (ee st rfl) fG (ee st rfl))<|wa rfl (v:=.bool true) rfl<|Af<|Ab<|AM<|AD ?_;have u:=Option.some.inj a;refine AT rfl rfl ?_;exact⟨k9.Bu,congrArg Value.bool u⟩
          ·replace a:=Ay a fG;exact absurd (Option.some.inj a) (by decide)
         ·replace a:=Ay a aP;exact absurd (Option.some.inj a) (by decide)
        ·replace a:=Ay a d8;exact absurd (Option.some.inj a) (by decide)
       ·replace a:=Ay a d7;exact absurd (Option.some.inj a) (by decide)
      ·replace a:=Ay a cJ;exact absurd (Option.some.inj a) (by decide)
     ·replace a:=Ay a fF;refine AE rfl fF<|AV<|Ab<|Ae<|Aa ?_;have bN:=(a4.ext aE);refine wd rfl (fun st=>A5 (l:=[I b.Am,I b.Aj,I b.Ap,I b.AA,.slice f b.Ad.length g]) CT (ee st rfl) bN rfl rfl) ?_;have aX:=(aL.mv (Ai aE));replace a:=bind_some a;obtain⟨eJ,lA,a⟩:=a;refine we rfl (fun st=>AG OI (ee st rfl) (CD (ee st rfl)) (Vc s b f g (ZZ FN [] Z w.heap.size [some y,some aG]) _ aX eJ lA)) ?_;rintro _ nO ⟨cK,⟨a9,bA,rfl,bT⟩⟩;have gA:=dU.ext cK;have bT:=bT.mv (dU.Cy (Nat.le_refl _));refine wa rfl (v:=.slice a9 eJ.length bA) rfl<|Af<|Ab<|Ae<|Ae ?_;rcases An (d.2.2 !=0) with aM|aM
      ·replace a:=Ax a aM;exact absurd (Option.some.inj a) (by decide)
      ·replace a:=Ay a aM;have bP:=(bN.ext cK);have aZ:=(aX.mv (Ai cK));have cL:=((cA.mv (Ai aE)).mv (Ai cK));replace a:=bind_some a;obtain⟨d9,h3,a⟩:=a;rcases An (d.1 !=d9) with aQ|aQ
       ·replace a:=Ax a aQ;exact absurd (Option.some.inj a) (by decide)
       ·replace a:=Ay a aQ;have fZ:=(((aB.bk.ext x).ext aE).ext cK);have b1:=(((((aU.mv (AB aJ)).mv (aW.AN aB.gr 0 rfl)).mv (Ai x)).mv (Ai aE)).mv (Ai cK));have b2:=(((((aV.mv (AB aJ)).mv (aW.AN aB.gr 0 rfl)).mv (Ai x)).mv (Ai aE)).mv (Ai cK));replace a:=bind_some a;obtain⟨fH,h4,a⟩:=a;replace a:=bind_some a;obtain⟨cM,h5,a⟩:=a;rcases An (!cM) with z|z
        ·replace a:=Ax a z;exact absurd (Option.some.inj a) (by decide)
        ·replace a:=Ay a z;have jR:cM=true:=by simpa using z
         replace a:=bind_some a;obtain⟨fI,h6,a⟩:=a;replace a:=bind_some a;obtain⟨gB,h7,a⟩:=a;replace a:=bind_some a;obtain⟨gC,h8,a⟩:=a;refine Cx 26 [Kc (I d.2.2),Kc (.bool (d.2.2 !=0)),Kc (.bool (d.2.2 !=0)),Kc (I d.1),Kc (.agg #[I b.Am,I b.Aj,I b.Ap,I b.AA,.slice f b.Ad.length g]),Kc (.slice a9 eJ.length bA),Kc (.slice q aF.length r),Kc (I d9),Kc (.bool (d.1 !=d9)),Kc (.bool (d.1 !=d9)),Kc (.bool (d.1 !=d9)),Kc (.agg #[I b.Am,I b.Aj,I b.Ap,I b.AA,.slice f b.Ad.length g]),Kc (.agg #[.slice j d.2.1.Comes.length m,.slice o d.2.1.Ap.length p]),Kv (C1 Cp) (ZZ FN [] Z w.heap.size [some y,some aG]) fH,Kc (.bool cM),Kc (.bool !cM),Kc (.bool !cM),Kc (.bool !cM),Kc (.agg #[I b.Am,I b.Aj,I b.Ap,I b.AA,.slice f b.Ad.length g]),Kc (.agg #[I b.Am,I b.Aj,I b.Ap,I b.AA,.slice f b.Ad.length g]),Kc (.slice q aF.length r),Kc (.agg #[.slice j d.2.1.Comes.length m,.slice o d.2.1.Ap.length p]),Kv (C1 Cp) (ZZ FN [] Z w.heap.size [some y,some aG]) fI,Kv (Fj Bz) (ZZ FN [] Z w.heap.size [some y,some aG]) gB,Kc (I gC),Kc (I d.1)] mixed rfl rfl
             (Ag (od rfl (fun _=>rfl) (fun K=>AK (es ((K.out 11 rfl).trans rfl))))
             (Ag (od rfl (fun _=>rfl) (fun K=>Ei (es (K.Av 0 86 rfl rfl)) (ec (v:=I 0))))
             (Ag (od rfl (fun _=>rfl) (fun K=>AK (es (K.Av 1 87 rfl rfl))))
             (Ag (A6 rfl rfl rfl (fun _=>rfl) (fun a' w' ph K=>Ac (K.Av 2 88 rfl rfl) aM) (fun a' w' ph K=>AK (es ((K.out 9 rfl).trans rfl))))
             (Ag (A6 rfl rfl rfl (fun _=>rfl) (fun a' w' ph K=>Ac (K.Av 2 88 rfl rfl) aM) (fun a' w' ph K=>A5 (l:=[I b.Am,I b.Aj,I b.Ap,I b.AA,.slice f b.Ad.length g]) CT (es ((K.out 3 rfl).trans rfl)) (bP.ext K.Bc) rfl rfl))
             (Ag (A6 rfl rfl rfl (fun _=>rfl) (fun a' w' ph K=>Ac (K.Av 2 88 rfl rfl) aM) (fun a' w' ph K=>AK (es ((K.out 13 rfl).trans rfl))))
             (Ag (A6 rfl rfl rfl (fun _=>rfl) (fun a' w' ph K=>Ac (K.Av 2 88 rfl rfl) aM) (fun a' w' ph K=>AK (es ((K.out 1 rfl).trans aI))))
             (Ag (C3 rfl rfl rfl (fun a' w' ph K=>Ac (K.Av 2 88 rfl rfl) aM) (fun a' w' ph K=>(AG OJ rfl (Em (es (K.Av 4 90 rfl rfl)) (es (K.Av 5 91 rfl rfl)) (es (K.Av 6 92 rfl rfl))) (Ve s b eJ aF f g a9 bA q r ZA _ (aZ.mv (Ai K.Bc)).all (bT.mv (Ai K.Bc)).all (cL.mv (Ai K.Bc)).all d9 h3)).mono (fun _ _ h=>⟨h.2,h.1⟩)))
             (Ag (A6 rfl rfl rfl (fun _=>rfl) (fun a' w' ph K=>Ac (K.Av 2 88 rfl rfl) aM) (fun a' w' ph K=>Ei (es (K.Av 3 89 rfl rfl)) (es (K.Av 7 93 rfl rfl))))
             (Ag (od rfl (fun _=>rfl) (fun K=>Br (es (K.Av 2 88 rfl rfl)) aM (es (K.Av 8 94 rfl rfl))))
             (Ag (od rfl (fun _=>rfl) (fun K=>AK (es (K.Av 9 95 rfl rfl))))
             (Ag (A6 rfl rfl rfl (fun _=>rfl) (fun a' w' ph K=>Ac (K.Av 10 96 rfl rfl) aQ) (fun a' w' ph K=>A5 (l:=[I b.Am,I b.Aj,I b.Ap,I b.AA,.slice f b.Ad.length g]) CT (es ((K.out 3 rfl).trans rfl)) (bP.ext K.Bc) rfl rfl))
             (Ag (A6 rfl rfl rfl (fun _=>rfl) (fun a' w' ph K=>Ac (K.Av 10 96 rfl rfl) aQ) (fun a' w' ph K=>A5 (l:=[.slice j d.2.1.Comes.length m,.slice o d.2.1.Ap.length p]) Ff (es ((K.out 10 rfl).trans rfl)) (fZ.ext K.Bc) rfl rfl))
             (Ag (C3 rfl rfl rfl (fun a' w' ph K=>Ac (K.Av 10 96 rfl rfl) aQ) (fun a' w' ph K=>(AG JC rfl (CD (es (K.Av 12 98 rfl rfl))) (PH s d.2.1 j m o p (ZZ FN [] Z w.heap.size [some y,some aG]) _ (b1.mv (Ai K.Bc)) (b2.mv (Ai K.Bc)) fH h4)).mono (fun _ _ h=>⟨(C1 Cp).mv h.2 ((gA.ext K.Bc).Cy (Nat.le_refl _)),h.1⟩)))
             (Ag (C3 rfl rfl rfl (fun a' w' ph K=>Ac (K.Av 10 96 rfl rfl) aQ) (fun a' w' ph K=>by obtain⟨_,hF,⟨cN,cO,cP,cQ,rfl,eK,eL⟩⟩:=K.Av 13 99 rfl rfl;exact(AG OM rfl (El (es (K.Av 11 97 rfl rfl)) (es (t:=99) (v:=.agg #[.slice cN fH.Comes.length cO,.slice cP fH.Ap.length cQ]) hF)) (a37 s b fH f g cN cO cP cQ ZA _ (aZ.mv (Ai K.Bc)).all eK.all eL.all cM h5)).mono (fun _ _ h=>⟨h.2,h.1⟩)))
             (Ag (A6 rfl rfl rfl (fun _=>rfl) (fun a' w' ph K=>Ac (K.Av 10 96 rfl rfl) aQ) (fun a' w' ph K=>C0 (es (K.Av 14 100 rfl rfl))))
             (Ag (od rfl (fun _=>rfl) (fun K=>Br (es (K.Av 10 96 rfl rfl)) aQ (es (K.Av 15 101 rfl rfl))))
             (Ag (od rfl (fun _=>rfl) (fun K=>AK (es (K.Av 16 102 rfl rfl))))
             (Ag (A6 rfl rfl rfl (fun _=>rfl) (fun a' w' ph K=>Ac (K.Av 17 103 rfl rfl) z) (fun a' w' ph K=>A5 (l:=[I b.Am,I b.Aj,I b.Ap,I b.AA,.slice f b.Ad.length g]) CT (es ((K.out 3 rfl).trans rfl)) (bP.ext K.Bc) rfl rfl))
             (Ag (A6 rfl rfl rfl (fun _=>rfl) (fun a' w' ph K=>Ac (K.Av 17 103 rfl rfl) z) (fun a' w' ph K=>A5 (l:=[I b.Am,I b.Aj,I b.Ap,I b.AA,.slice f b.Ad.length g]) CT (es ((K.out 3 rfl).trans rfl)) (bP.ext K.Bc) rfl rfl))
             (Ag (A6 rfl rfl rfl (fun _=>rfl) (fun a' w' ph K=>Ac (K.Av 17 103 rfl rfl) z) (fun a' w' ph K=>AK (es ((K.out 1 rfl).trans aI))))
             (Ag (A6 rfl rfl rfl (fun _=>rfl) (fun a' w' ph K=>Ac (K.Av 17 103 rfl rfl) z) (fun a' w' ph K=>A5 (l:=[.slice j d.2.1.Comes.length m,.slice o d.2.1.Ap.length p]) Ff (es ((K.out 10 rfl).trans rfl)) (fZ.ext K.Bc) rfl rfl))
             (Ag (C3 rfl rfl rfl (fun a' w' ph K=>Ac (K.Av 17 103 rfl rfl) z) (fun a' w' ph K=>(AG JC rfl (CD (es (K.Av 21 107 rfl rfl))) (PH s d.2.1 j m o p (ZZ FN [] Z w.heap.size [some y,some aG]) _ (b1.mv (Ai K.Bc)) (b2.mv (Ai K.Bc)) fI h6)).mono (fun _ _ h=>⟨(C1 Cp).mv h.2 ((gA.ext K.Bc).Cy (Nat.le_refl _)),h.1⟩)))
             (Ag (C3 rfl rfl rfl (fun a' w' ph K=>Ac (K.Av 17 103 rfl rfl) z) (fun a' w' ph K=>by obtain⟨_,hG,⟨cR,cS,cT,cU,rfl,eM,eN⟩⟩:=K.Av 22 108 rfl rfl;exact(AG KX rfl (Em (es (K.Av 19 105 rfl rfl)) (es (K.Av 20 106 rfl rfl)) (es (t:=108) (v:=.agg #[.slice cR fI.Comes.length cS,.slice cT fI.Ap.length cU]) hG)) (Rp s b aF fI f g q r cR cS cT cU (ZZ FN [] Z w.heap.size [some y,some aG]) _ (aZ.mv (Ai K.Bc)) (cL.mv (Ai K.Bc)) eM eN gB h7)).mono (fun _ _ h=>⟨(Fj Bz).mv h.2 ((gA.ext K.Bc).Cy (Nat.le_refl _)),h.1⟩)))
             (Ag (C3 rfl rfl rfl (fun a' w' ph K=>Ac (K.Av 17 103 rfl rfl) z) (fun a' w' ph K=>match K.Av 23 109 rfl rfl with|⟨eA,eB,hH,fJ⟩=>(AG Mr rfl (El (es (K.Av 18 104 rfl rfl)) (es (t:=109) (v:=.slice eA gB.length eB) hH)) (SO s b gB f g eA eB ZA _ (aZ.mv (Ai K.Bc)).all fJ.all gC h8)).mono (fun _ _ h=>⟨h.2,h.1⟩)))
             (Ag (A6 rfl rfl rfl (fun _=>rfl) (fun a' w' ph K=>Ac (K.Av 17 103 rfl rfl) z) (fun a' w' ph K=>AK (es ((K.out 9 rfl).trans rfl))))
             (Ca _))))))))))))))))))))))))))) ?_
         intro mE;rintro _ rfl _ rfl _ rfl _ rfl _ rfl _ rfl _ rfl _ rfl _ rfl _ rfl _ rfl _ rfl _ rfl _ ⟨_,rfl,⟨cN,cO,cP,cQ,rfl,eK,eL⟩⟩ _ rfl _ rfl _ rfl _ rfl _ rfl _ rfl _ rfl _ rfl _ ⟨_,rfl,⟨cR,cS,cT,cU,rfl,eM,eN⟩⟩ _ ⟨eA,eB,rfl,fJ⟩ _ rfl _ rfl c8;have lB:=gA.ext c8;refine As rfl rfl (Ac rfl z) rfl (by decide) (fun st=>Ei (ee st rfl) (ee st rfl))<|wd rfl (fun st=>Br (v:=.bool (gC !=d.1)) (ee st rfl) z (ee st rfl))<|Af<|Ab ?_;rcases An (gC !=d.1) with eS|eS
         ·replace a:=Ax a eS;exact absurd (Option.some.inj a) (by decide)
         ·replace a:=Ay a eS;refine AE rfl eS<|AV<|Ab<|Ae<|Ae<|Aa<|wm rfl (v:=I c7) b5<|wd rfl (fun st=>Ak (ee st rfl) (CV _ _)) ?_;have gN:=(bP.ext c8);refine wd rfl (fun st=>Au (v:=.slice f b.Ad.length g) Du (ee st rfl) gN rfl)<|wd rfl (fun st=>BB Tryz.underlying61 (ee st rfl)) ?_;replace a:=AR a;obtain⟨iA,a⟩:=a;refine wd rfl (fun st=>I3 (ee st rfl) (ee st rfl) iA) ?_;replace a:=bind_some a;obtain⟨gD,iB,a⟩:=a;refine we rfl (fun st=>AG Hu (ee st rfl) (Em (ee st rfl) (ee st rfl) (ee st rfl)) (a46 s c7 0 ((b.Ad.length:Int)-1) ZA _ gD iB)) ?_;rintro _ mF ⟨c9,rfl⟩;have gU:=lB.ext c9;refine wd rfl (fun st=>C0 (ee st rfl))<|Af<|Ab ?_;rcases An (!gD) with bC|bC
          ·replace a:=Ax a bC;have jS:gD=false:=by simpa using bC
           refine Az rfl bC<|Ae<|Aa<|wm rfl (v:=I e.2) rfl<|wd rfl (fun st=>BC (ee st rfl) (ee st rfl))<|wm rfl (v:=.bool (e.2==2)) rfl ?_;rcases An (e.2==2) with bU|bU
           ·replace a:=Ax a bU;refine As rfl rfl (Ac rfl bU) rfl (by decide) (fun st=>AK (v:=I e.1) (ee st rfl))<|As rfl rfl (Ac rfl bU) rfl (by decide) (fun st=>BC (ee st rfl) (ee st rfl))<|wd rfl (fun st=>AO (v:=.bool (e.1==0)) (ee st rfl) bU (ee st rfl))<|wm rfl (v:=.bool (e.1==0)) rfl ?_;rcases An (e.1==0) with dA|dA
            ·replace a:=Ax a dA;replace a:=Ck a;obtain⟨iC,a⟩:=a;refine CB rfl rfl (Ac rfl dA) rfl (by decide) (fun st=>AG FZ (ee st rfl) Gv (Ik s ZA _ iC)) ?_;rintro _ mG ⟨iD,rfl⟩;have lC:=gU.ext iD;refine wd rfl (fun st=>AO (v:=.bool true) (ee st rfl) dA (ee st rfl))<|wa rfl (v:=.bool true) rfl<|Af<|Ab<|AM<|AD ?_;have u:=Option.some.inj a;refine AT rfl rfl ?_;exact⟨lC.Bu,congrArg Value.bool u⟩
            ·replace a:=Ay a dA;exact absurd (Option.some.inj a) (by decide)
           ·replace a:=Ay a bU;exact absurd (Option.some.inj a) (by decide)
          ·replace a:=Ay a bC;have jT:gD=true:=by simpa using bC
           refine AE rfl bC<|AV<|Ab<|Ae<|Aa<|wa rfl (v:=I 3) rfl<|Af<|Ab<|Ae<|Ae<|Aa ?_;have hX:=(gN.ext c9);refine wd rfl (fun st=>A5 (l:=[I b.Am,I b.Aj,I b.Ap,I b.AA,.slice f b.Ad.length g]) CT (ee st rfl) hX rfl rfl)<|wm rfl (v:=.slice a9 eJ.length bA) rfl<|wm rfl (v:=.slice q aF.length r) aI ?_;have gV:=((aZ.mv (Ai c8)).mv (Ai c9));have gE:=((bT.mv (Ai c8)).mv (Ai c9));have gW:=((cL.mv (Ai c8)).mv (Ai c9));replace a:=bind_some a;obtain⟨lD,iE,a⟩:=a;refine we rfl (fun st=>AG OK (ee st rfl) (Em (ee st rfl) (ee st rfl) (ee st rfl)) (Vf s b eJ aF f g a9 bA q r (ZZ FN [] Z w.heap.size [some y,some aG]) _ gV gE gW lD iE)) ?_;rintro _ mH ⟨iF,⟨lV,lW,rfl,cV⟩⟩;have gX:=gU.ext iF;have cV:=cV.mv (gU.Cy (Nat.le_refl _));refine wm rfl (v:=I c7) b5 ?_;replace a:=A3 a;obtain⟨i125,eC,iG,iH,iI,a⟩:=a;obtain⟨mI,mJ,_,iJ,rfl,iK⟩:=Sl.Dc cV rfl iH;refine wd rfl (fun st=>Bs (k:=i125) Tryz.underlying23 CH (ee st rfl) iJ (ee st rfl) iG iI)<|wd rfl (fun st=>BO (v:=I eC) AZ (ee st rfl) iK rfl)<|wa rfl (v:=I eC) rfl<|Af<|Ab<|Ae<|Aa<|wm rfl (v:=I eC) rfl<|wm rfl (v:=.slice a9 eJ.length bA) rfl<|wd rfl (fun st=>BB Tryz.underlying92 (ee st rfl))<|wd rfl (fun st=>BC (ee st rfl) (ee st rfl))<|Af<|Ab ?_;rcases An (eC==(eJ.length:Int)) with dB|dB
           ·replace a:=Ax a dB;refine Az rfl dB<|Aa<|wa rfl (v:=I 1) rfl<|Af<|Ab<|Ae<|Aa<|wm rfl (v:=I e.2) rfl<|wd rfl (fun st=>BC (ee st rfl) (ee st rfl))<|wm rfl (v:=.bool (e.2==0)) rfl ?_;rcases An (e.2==0) with bD|bD
            ·replace a:=Ax a bD;refine As rfl rfl (Ac rfl bD) rfl (by decide) (fun st=>AK (v:=I e.1) (ee st rfl))<|As rfl rfl (Ac rfl bD) rfl (by decide) (fun st=>AK (v:=I 1) (ee st rfl))<|As rfl rfl (Ac rfl bD) rfl (by decide) (fun st=>BC (ee st rfl) (ee st rfl))<|wd rfl (fun st=>AO (v:=.bool (e.1==1)) (ee st rfl) bD (ee st rfl))<|wm rfl (v:=.bool (e.1==1)) rfl ?_;rcases An (e.1==1) with dC|dC
             ·replace a:=Ax a dC;replace a:=Ck a;obtain⟨iL,a⟩:=a;refine CB rfl rfl (Ac rfl dC) rfl (by decide) (fun st=>AG FZ (ee st rfl) Gv (Ik s ZA _ iL)) ?_;rintro _ mK ⟨iM,rfl⟩;have lE:=gX.ext iM;refine wd rfl (fun st=>AO (v:=.bool true) (ee st rfl) dC (ee st rfl))<|wa rfl (v:=.bool true) rfl<|Af<|Ab<|AM ?_;have u:=Option.some.inj a;refine AT rfl rfl ?_;exact⟨lE.Bu,congrArg Value.bool u⟩
             ·replace a:=Ay a dC;exact absurd (Option.some.inj a) (by decide)
            ·replace a:=Ay a bD;exact absurd (Option.some.inj a) (by decide)
           ·replace a:=Ay a dB;refine AE rfl dB<|Ae<|Aa<|wm rfl (v:=I eC) rfl<|wd rfl (fun st=>BC (ee st rfl) (ee st rfl))<|Af<|Ab ?_;rcases An (eC==0) with dD|dD
            ·replace a:=Ax a dD;refine Az rfl dD<|Aa<|wa rfl (v:=I 2) rfl<|Af<|Ab<|Ae<|Aa<|wm rfl (v:=I e.2) rfl<|wd rfl (fun st=>BC (ee st rfl) (ee st rfl))<|wm rfl (v:=.bool (e.2==0)) rfl ?_;rcases An (e.2==0) with bE|bE
             ·replace a:=Ax a bE;refine As rfl rfl (Ac rfl bE) rfl (by decide) (fun st=>AK (v:=I e.1) (ee st rfl))<|As rfl rfl (Ac rfl bE) rfl (by decide) (fun st=>AK (v:=I 2) (ee st rfl))<|As rfl rfl (Ac rfl bE) rfl (by decide) (fun st=>BC (ee st rfl) (ee st rfl))<|wd rfl (fun st=>AO (v:=.bool (e.1==2)) (ee st rfl) bE (ee st rfl))<|wm rfl (v:=.bool (e.1==2)) rfl ?_;rcases An (e.1==2) with dE|dE
              ·replace a:=Ax a dE;replace a:=Ck a;obtain⟨iN,a⟩:=a;refine CB rfl rfl (Ac rfl dE) rfl (by decide) (fun st=>AG FZ (ee st rfl) Gv (Ik s ZA _ iN)) ?_;rintro _ mL ⟨iO,rfl⟩;have lF:=gX.ext iO;refine wd rfl (fun st=>AO (v:=.bool true) (ee st rfl) dE (ee st rfl))<|wa rfl (v:=.bool true) rfl<|Af<|Ab<|AM ?_;have u:=Option.some.inj a;refine AT rfl rfl ?_;exact⟨lF.Bu,congrArg Value.bool u⟩
              ·replace a:=Ay a dE;exact absurd (Option.some.inj a) (by decide)
             ·replace a:=Ay a bE;exact absurd (Option.some.inj a) (by decide)
            ·replace a:=Ay a dD;refine AE rfl dD<|AV<|Ab<|Ae<|Aa<|wm rfl (v:=I e.2) rfl<|wd rfl (fun st=>BC (ee st rfl) (ee st rfl))<|wm rfl (v:=.bool (e.2==0)) rfl ?_;rcases An (e.2==0) with bF|bF
             ·replace a:=Ax a bF;refine As rfl rfl (Ac rfl bF) rfl (by decide) (fun st=>AK (v:=I e.1) (ee st rfl))<|As rfl rfl (Ac rfl bF) rfl (by decide) (fun st=>AK (v:=I 3) (ee st rfl))<|As rfl rfl (Ac rfl bF) rfl (by decide) (fun st=>BC (ee st rfl) (ee st rfl))<|wd rfl (fun st=>AO (v:=.bool (e.1==3)) (ee st rfl) bF (ee st rfl))<|wm rfl (v:=.bool (e.1==3)) rfl ?_;rcases An (e.1==3) with dF|dF
              ·replace a:=Ax a dF;replace a:=Ck a;obtain⟨iP,a⟩:=a;refine CB rfl rfl (Ac rfl dF) rfl (by decide) (fun st=>AG FZ (ee st rfl) Gv (Ik s ZA _ iP)) ?_;rintro _ mM ⟨iQ,rfl⟩;have lG:=gX.ext iQ;refine wd rfl (fun st=>AO (v:=.bool true) (ee st rfl) dF (ee st rfl))<|wa rfl (v:=.bool true) rfl<|Af<|Ab<|AM ?_;have u:=Option.some.inj a;refine AT rfl rfl ?_;exact⟨lG.Bu,congrArg Value.bool u⟩
              ·replace a:=Ay a dF;exact absurd (Option.some.inj a) (by decide)
             ·replace a:=Ay a bF;exact absurd (Option.some.inj a) (by decide)
   ·replace a:=Ay a aK;refine Ao (c:=false) rfl rfl (Ac rfl aK) (by decide) rfl (by decide)<|Ao (c:=false) rfl rfl (Ac rfl aK) (by decide) rfl (by decide)<|Ao (c:=false) rfl rfl (Ac rfl aK) (by decide) rfl (by decide)<|Ao (c:=false) rfl rfl (Ac rfl aK) (by decide) rfl (by decide)<|wd rfl (fun st=>Br (v:=.bool false) (ee st rfl) aK (ee st rfl))<|Af<|Ab<|AE rfl rfl<|AV<|Ab<|Ae<|Ae<|Aa<|wm rfl (v:=I aC) rfl<|wd rfl (fun st=>Ei (ee st rfl) (ee st rfl))<|Af<|Ab ?_;rcases An (aC !=0) with dG|dG
    ·replace a:=Ax a dG;refine Az rfl dG<|Ae<|Aa<|wm rfl (v:=I e.2) rfl<|wm rfl (v:=I aC) rfl<|wd rfl (fun st=>BC (ee st rfl) (ee st rfl))<|wm rfl (v:=.bool (e.2==aC)) rfl ?_;rcases An (e.2==aC) with bG|bG
     ·replace a:=Ax a bG;refine As rfl rfl (Ac rfl bG) rfl (by decide) (fun st=>AK (v:=I d.2.2) (ee st rfl))<|As rfl rfl (Ac rfl bG) rfl (by decide) (fun st=>AK (v:=I aC) (ee st rfl))<|As rfl rfl (Ac rfl bG) rfl (by decide) (fun st=>BC (ee st rfl) (ee st rfl))<|wd rfl (fun st=>AO (v:=.bool (d.2.2==aC)) (ee st rfl) bG (ee st rfl))<|wm rfl (v:=.bool (d.2.2==aC)) rfl ?_;rcases An (d.2.2==aC) with bV|bV
      ·replace a:=Ax a bV;refine As rfl rfl (Ac rfl bV) rfl (by decide) (fun st=>AK (v:=I e.1) (ee st rfl))<|As rfl rfl (Ac rfl bV) rfl (by decide) (fun st=>BC (ee st rfl) (ee st rfl))<|wd rfl (fun st=>AO (v:=.bool (e.1==0)) (ee st rfl) bV (ee st rfl))<|wm rfl (v:=.bool (e.1==0)) rfl ?_;rcases An (e.1==0) with bW|bW
       ·replace a:=Ax a bW;refine As rfl rfl (Ac rfl bW) rfl (by decide) (fun st=>AK (v:=I d.1) (ee st rfl))<|As rfl rfl (Ac rfl bW) rfl (by decide) (fun st=>BC (ee st rfl) (ee st rfl))<|wd rfl (fun st=>AO (v:=.bool (d.1==0)) (ee st rfl) bW (ee st rfl))<|wm rfl (v:=.bool (d.1==0)) rfl ?_;rcases An (d.1==0) with aD|aD
        ·replace a:=Ax a aD;refine As rfl rfl (Ac rfl aD) rfl (by decide) (fun st=>Ak (ee st rfl) (GV _ _)) ?_;have f0:=(aB.bk.ext x);refine As rfl rfl (Ac rfl aD) rfl (by decide) (fun st=>Au (v:=.slice j d.2.1.Comes.length m) Dh (ee st rfl) f0 rfl)<|As rfl rfl (Ac rfl aD) rfl (by decide) (fun st=>BB Tryz.underlying23 (ee st rfl))<|As rfl rfl (Ac rfl aD) rfl (by decide) (fun st=>Ak (ee st rfl) (Gt _ _))<|As rfl rfl (Ac rfl aD) rfl (by decide) (fun st=>Au (v:=.slice o d.2.1.Ap.length p) EU (ee st rfl) f0 rfl)<|As rfl rfl (Ac rfl aD) rfl (by decide) (fun st=>BB Tryz.underlying65 (ee st rfl)) ?_;replace a:=AR a;obtain⟨iR,a⟩:=a;refine As rfl rfl (Ac rfl aD) rfl (by decide) (fun st=>Bp (ee st rfl) (ee st rfl) iR)<|As rfl rfl (Ac rfl aD) rfl (by decide) (fun st=>BC (ee st rfl) (ee st rfl))<|wd rfl (fun st=>AO (v:=.bool (((d.2.1.Comes.length:Int)+(d.2.1.Ap.length:Int))==0)) (ee st rfl) aD (ee st rfl))<|wm rfl (v:=.bool (((d.2.1.Comes.length:Int)+(d.2.1.Ap.length:Int))==0)) rfl ?_;rcases An (((d.2.1.Comes.length:Int)+(d.2.1.Ap.length:Int))==0) with dH|dH
         ·replace a:=Ax a dH;replace a:=Ck a;obtain⟨iS,a⟩:=a;refine CB rfl rfl (Ac rfl dH) rfl (by decide) (fun st=>AG FZ (ee st rfl) Gv (Ik s ZA _ iS)) ?_;rintro _ mN ⟨iT,rfl⟩;have lH:=f6.ext iT;refine wd rfl (fun st=>AO (v:=.bool true) (ee st rfl) dH (ee st rfl))<|wa rfl (v:=.bool true) rfl<|Af<|Ab<|AM<|AD ?_;have u:=Option.some.inj a;refine AT rfl rfl ?_;exact⟨lH.Bu,congrArg Value.bool u⟩
         ·replace a:=Ay a dH;exact absurd (Option.some.inj a) (by decide)
        ·replace a:=Ay a aD;exact absurd (Option.some.inj a) (by decide)
       ·replace a:=Ay a bW;exact absurd (Option.some.inj a) (by decide)
      ·replace a:=Ay a bV;exact absurd (Option.some.inj a) (by decide)
     ·replace a:=Ay a bG;exact absurd (Option.some.inj a) (by decide)
    ·replace a:=Ay a dG;refine AE rfl dG<|AV<|Ab<|Ae<|Aa ?_;have a4:=(eX.ext x);refine wd rfl (fun st=>A5 (l:=[I b.Am,I b.Aj,I b.Ap,I b.AA,.slice f b.Ad.length g]) CT (ee st rfl) a4 rfl rfl) ?_;have aL:=(b9.mv (Ai x));replace a:=bind_some a;obtain⟨bQ,iU,a⟩:=a;refine we rfl (fun st=>AG OI (ee st rfl) (CD (ee st rfl)) (Vc s b f g (ZZ FN [] Z w.heap.size [some y,some aG]) _ aL bQ iU)) ?_;rintro _ mO ⟨bH,⟨aS,aT,rfl,bI⟩⟩;have gF:=f6.ext bH;have bI:=bI.mv (f6.Cy (Nat.le_refl _));refine wa rfl (v:=.slice aS bQ.length aT) rfl<|Af<|Ab<|Ae<|Ae ?_;rcases An (d.2.2 !=0) with aN|aN
     ·replace a:=Ax a aN;exact absurd (Option.some.inj a) (by decide)
     ·replace a:=Ay a aN;have bR:=(a4.ext bH);have a0:=(aL.mv (Ai bH));have cW:=((((((dR.mv (Ai dS)).mv (Ai eW)).mv (AB aJ)).mv (aW.AN aB.gr 0 rfl)).mv (Ai x)).mv (Ai bH));replace a:=bind_some a;obtain⟨eD,iV,a⟩:=a;rcases An (d.1 !=eD) with aR|aR
      ·replace a:=Ax a aR;exact absurd (Option.some.inj a) (by decide)
      ·replace a:=Ay a aR;have f1:=((aB.bk.ext x).ext bH);have b3:=((((aU.mv (AB aJ)).mv (aW.AN aB.gr 0 rfl)).mv (Ai x)).mv (Ai bH));have b4:=((((aV.mv (AB aJ)).mv (aW.AN aB.gr 0 rfl)).mv (Ai x)).mv (Ai bH));replace a:=bind_some a;obtain⟨fK,iW,a⟩:=a;replace a:=bind_some a;obtain⟨cX,iX,a⟩:=a;rcases An (!cX) with aA|aA
       ·replace a:=Ax a aA;exact absurd (Option.some.inj a) (by decide)
       ·replace a:=Ay a aA;have jU:cX=true:=by simpa using aA
        replace a:=bind_some a;obtain⟨fL,iY,a⟩:=a;replace a:=bind_some a;obtain⟨gG,iZ,a⟩:=a;replace a:=bind_some a;obtain⟨gH,i0,a⟩:=a;refine Cx 26 [Kc (I d.2.2),Kc (.bool (d.2.2 !=0)),Kc (.bool (d.2.2 !=0)),Kc (I d.1),Kc (.agg #[I b.Am,I b.Aj,I b.Ap,I b.AA,.slice f b.Ad.length g]),Kc (.slice aS bQ.length aT),Kc (.slice q aF.length r),Kc (I eD),Kc (.bool (d.1 !=eD)),Kc (.bool (d.1 !=eD)),Kc (.bool (d.1 !=eD)),Kc (.agg #[I b.Am,I b.Aj,I b.Ap,I b.AA,.slice f b.Ad.length g]),Kc (.agg #[.slice j d.2.1.Comes.length m,.slice o d.2.1.Ap.length p]),Kv (C1 Cp) (ZZ FN [] Z w.heap.size [some y,some aG]) fK,Kc (.bool cX),Kc (.bool !cX),Kc (.bool !cX),Kc (.bool !cX),Kc (.agg #[I b.Am,I b.Aj,I b.Ap,I b.AA,.slice f b.Ad.length g]),Kc (.agg #[I b.Am,I b.Aj,I b.Ap,I b.AA,.slice f b.Ad.length g]),Kc (.slice q aF.length r),Kc (.agg #[.slice j d.2.1.Comes.length m,.slice o d.2.1.Ap.length p]),Kv (C1 Cp) (ZZ FN [] Z w.heap.size [some y,some aG]) fL,Kv (Fj Bz) (ZZ FN [] Z w.heap.size [some y,some aG]) gG,Kc (I gH),Kc (I d.1)] mixed rfl rfl
            (Ag (od rfl (fun _=>rfl) (fun K=>AK (es ((K.out 11 rfl).trans rfl))))
            (Ag (od rfl (fun _=>rfl) (fun K=>Ei (es (K.Av 0 86 rfl rfl)) (ec (v:=I 0))))
            (Ag (od rfl (fun _=>rfl) (fun K=>AK (es (K.Av 1 87 rfl rfl))))
            (Ag (A6 rfl rfl rfl (fun _=>rfl) (fun a' w' ph K=>Ac (K.Av 2 88 rfl rfl) aN) (fun a' w' ph K=>AK (es ((K.out 9 rfl).trans rfl))))
            (Ag (A6 rfl rfl rfl (fun _=>rfl) (fun a' w' ph K=>Ac (K.Av 2 88 rfl rfl) aN) (fun a' w' ph K=>A5 (l:=[I b.Am,I b.Aj,I b.Ap,I b.AA,.slice f b.Ad.length g]) CT (es ((K.out 3 rfl).trans rfl)) (bR.ext K.Bc) rfl rfl))
            (Ag (A6 rfl rfl rfl (fun _=>rfl) (fun a' w' ph K=>Ac (K.Av 2 88 rfl rfl) aN) (fun a' w' ph K=>AK (es ((K.out 13 rfl).trans rfl))))
            (Ag (A6 rfl rfl rfl (fun _=>rfl) (fun a' w' ph K=>Ac (K.Av 2 88 rfl rfl) aN) (fun a' w' ph K=>AK (es ((K.out 1 rfl).trans aI))))
            (Ag (C3 rfl rfl rfl (fun a' w' ph K=>Ac (K.Av 2 88 rfl rfl) aN) (fun a' w' ph K=>(AG OJ rfl (Em (es (K.Av 4 90 rfl rfl)) (es (K.Av 5 91 rfl rfl)) (es (K.Av 6 92 rfl rfl))) (Ve s b bQ aF f g aS aT q r ZA _ (a0.mv (Ai K.Bc)).all (bI.mv (Ai K.Bc)).all (cW.mv (Ai K.Bc)).all eD iV)).mono (fun _ _ h=>⟨h.2,h.1⟩)))
            (Ag (A6 rfl rfl rfl (fun _=>rfl) (fun a' w' ph K=>Ac (K.Av 2 88 rfl rfl) aN) (fun a' w' ph K=>Ei (es (K.Av 3 89 rfl rfl)) (es (K.Av 7 93 rfl rfl))))
            (Ag (od rfl (fun _=>rfl) (fun K=>Br (es (K.Av 2 88 rfl rfl)) aN (es (K.Av 8 94 rfl rfl))))
            (Ag (od rfl (fun _=>rfl) (fun K=>AK (es (K.Av 9 95 rfl rfl))))
            (Ag (A6 rfl rfl rfl (fun _=>rfl) (fun a' w' ph K=>Ac (K.Av 10 96 rfl rfl) aR) (fun a' w' ph K=>A5 (l:=[I b.Am,I b.Aj,I b.Ap,I b.AA,.slice f b.Ad.length g]) CT (es ((K.out 3 rfl).trans rfl)) (bR.ext K.Bc) rfl rfl))
            (Ag (A6 rfl rfl rfl (fun _=>rfl) (fun a' w' ph K=>Ac (K.Av 10 96 rfl rfl) aR) (fun a' w' ph K=>A5 (l:=[.slice j d.2.1.Comes.length m,.slice o d.2.1.Ap.length p]) Ff (es ((K.out 10 rfl).trans rfl)) (f1.ext K.Bc) rfl rfl))
            (Ag (C3 rfl rfl rfl (fun a' w' ph K=>Ac (K.Av 10 96 rfl rfl) aR) (fun a' w' ph K=>(AG JC rfl (CD (es (K.Av 12 98 rfl rfl))) (PH s d.2.1 j m o p (ZZ FN [] Z w.heap.size [some y,some aG]) _ (b3.mv (Ai K.Bc)) (b4.mv (Ai K.Bc)) fK iW)).mono (fun _ _ h=>⟨(C1 Cp).mv h.2 ((gF.ext K.Bc).Cy (Nat.le_refl _)),h.1⟩)))
            (Ag (C3 rfl rfl rfl (fun a' w' ph K=>Ac (K.Av 10 96 rfl rfl) aR) (fun a' w' ph K=>by obtain⟨_,hI,⟨cY,cZ,c0,c1,rfl,eO,eP⟩⟩:=K.Av 13 99 rfl rfl;exact(AG OM rfl (El (es (K.Av 11 97 rfl rfl)) (es (t:=99) (v:=.agg #[.slice cY fK.Comes.length cZ,.slice c0 fK.Ap.length c1]) hI)) (a37 s b fK f g cY cZ c0 c1 ZA _ (a0.mv (Ai K.Bc)).all eO.all eP.all cX iX)).mono (fun _ _ h=>⟨h.2,h.1⟩)))
            (Ag (A6 rfl rfl rfl (fun _=>rfl) (fun a' w' ph K=>Ac (K.Av 10 96 rfl rfl) aR) (fun a' w' ph K=>C0 (es (K.Av 14 100 rfl rfl))))
            (Ag (od rfl (fun _=>rfl) (fun K=>Br (es (K.Av 10 96 rfl rfl)) aR (es (K.Av 15 101 rfl rfl))))
            (Ag (od rfl (fun _=>rfl) (fun K=>AK (es (K.Av 16 102 rfl rfl))))
            (Ag (A6 rfl rfl rfl (fun _=>rfl) (fun a' w' ph K=>Ac (K.Av 17 103 rfl rfl) aA) (fun a' w' ph K=>A5 (l:=[I b.Am,I b.Aj,I b.Ap,I b.AA,.slice f b.Ad.length g]) CT (es ((K.out 3 rfl).trans rfl)) (bR.ext K.Bc) rfl rfl))
            (Ag (A6 rfl rfl rfl (fun _=>rfl) (fun a' w' ph K=>Ac (K.Av 17 103 rfl rfl) aA) (fun a' w' ph K=>A5 (l:=[I b.Am,I b.Aj,I b.Ap,I b.AA,.slice f b.Ad.length g]) CT (es ((K.out 3 rfl).trans rfl)) (bR.ext K.Bc) rfl rfl))
            (Ag (A6 rfl rfl rfl (fun _=>rfl) (fun a' w' ph K=>Ac (K.Av 17 103 rfl rfl) aA) (fun a' w' ph K=>AK (es ((K.out 1 rfl).trans aI))))
            (Ag (A6 rfl rfl rfl (fun _=>rfl) (fun a' w' ph K=>Ac (K.Av 17 103 rfl rfl) aA) (fun a' w' ph K=>A5 (l:=[.slice j d.2.1.Comes.length m,.slice o d.2.1.Ap.length p]) Ff (es ((K.out 10 rfl).trans rfl)) (f1.ext K.Bc) rfl rfl))
            (Ag (C3 rfl rfl rfl (fun a' w' ph K=>Ac (K.Av 17 103 rfl rfl) aA) (fun a' w' ph K=>(AG JC rfl (CD (es (K.Av 21 107 rfl rfl))) (PH s d.2.1 j m o p (ZZ FN [] Z w.heap.size [some y,some aG]) _ (b3.mv (Ai K.Bc)) (b4.mv (Ai K.Bc)) fL iY)).mono (fun _ _ h=>⟨(C1 Cp).mv h.2 ((gF.ext K.Bc).Cy (Nat.le_refl _)),h.1⟩)))
            (Ag (C3 rfl rfl rfl (fun a' w' ph K=>Ac (K.Av 17 103 rfl rfl) aA) (fun a' w' ph K=>by obtain⟨_,hJ,⟨c2,c3,c4,c5,rfl,eQ,eR⟩⟩:=K.Av 22 108 rfl rfl;exact(AG KX rfl (Em (es (K.Av 19 105 rfl rfl)) (es (K.Av 20 106 rfl rfl)) (es (t:=108) (v:=.agg #[.slice c2 fL.Comes.length c3,.slice c4 fL.Ap.length c5]) hJ)) (Rp s b aF fL f g q r c2 c3 c4 c5 (ZZ FN [] Z w.heap.size [some y,some aG]) _ (a0.mv (Ai K.Bc)) (cW.mv (Ai K.Bc)) eQ eR gG iZ)).mono (fun _ _ h=>⟨(Fj Bz).mv h.2 ((gF.ext K.Bc).Cy (Nat.le_refl _)),h.1⟩)))
            (Ag (C3 rfl rfl rfl (fun a' w' ph K=>Ac (K.Av 17 103 rfl rfl) aA) (fun a' w' ph K=>match K.Av 23 109 rfl rfl with|⟨eE,eG,hL,fM⟩=>(AG Mr rfl (El (es (K.Av 18 104 rfl rfl)) (es (t:=109) (v:=.slice eE gG.length eG) hL)) (SO s b gG f g eE eG ZA _ (a0.mv (Ai K.Bc)).all fM.all gH i0)).mono (fun _ _ h=>⟨h.2,h.1⟩)))
            (Ag (A6 rfl rfl rfl (fun _=>rfl) (fun a' w' ph K=>Ac (K.Av 17 103 rfl rfl) aA) (fun a' w' ph K=>AK (es ((K.out 9 rfl).trans rfl))))
            (Ca _))))))))))))))))))))))))))) ?_
        intro mP;rintro _ rfl _ rfl _ rfl _ rfl _ rfl _ rfl _ rfl _ rfl _ rfl _ rfl _ rfl _ rfl _ rfl _ ⟨_,rfl,⟨cY,cZ,c0,c1,rfl,eO,eP⟩⟩ _ rfl _ rfl _ rfl _ rfl _ rfl _ rfl _ rfl _ rfl _ ⟨_,rfl,⟨c2,c3,c4,c5,rfl,eQ,eR⟩⟩ _ ⟨eE,eG,rfl,fM⟩ _ rfl _ rfl dI;have lI:=gF.ext dI;refine As rfl rfl (Ac rfl aA) rfl (by decide) (fun st=>Ei (ee st rfl) (ee st rfl))<|wd rfl (fun st=>Br (v:=.bool (gH !=d.1)) (ee st rfl) aA (ee st rfl))<|Af<|Ab ?_;rcases An (gH !=d.1) with eU|eU
        ·replace a:=Ax a eU;exact absurd (Option.some.inj a) (by decide)
        ·replace a:=Ay a eU;refine AE rfl eU<|AV<|Ab<|Ae<|Ae<|Aa<|wm rfl (v:=I c7) b5<|wd rfl (fun st=>Ak (ee st rfl) (CV _ _)) ?_;have gO:=(bR.ext dI);refine wd rfl (fun st=>Au (v:=.slice f b.Ad.length g) Du (ee st rfl) gO rfl)<|wd rfl (fun st=>BB Tryz.underlying61 (ee st rfl)) ?_;replace a:=AR a;obtain⟨i1,a⟩:=a;refine wd rfl (fun st=>I3 (ee st rfl) (ee st rfl) i1) ?_;replace a:=bind_some a;obtain⟨gI,i2,a⟩:=a;refine we rfl (fun st=>AG Hu (ee st rfl) (Em (ee st rfl) (ee st rfl) (ee st rfl)) (a46 s c7 0 ((b.Ad.length:Int)-1) ZA _ gI i2)) ?_;rintro _ mQ ⟨dJ,rfl⟩;have gY:=lI.ext dJ;refine wd rfl (fun st=>C0 (ee st rfl))<|Af<|Ab ?_;rcases An (!gI) with bJ|bJ
         ·replace a:=Ax a bJ;have jV:gI=false:=by simpa using bJ
          refine Az rfl bJ<|Ae<|Aa<|wm rfl (v:=I e.2) rfl<|wd rfl (fun st=>BC (ee st rfl) (ee st rfl))<|wm rfl (v:=.bool (e.2==2)) rfl ?_;rcases An (e.2==2) with bX|bX
          ·replace a:=Ax a bX;refine As rfl rfl (Ac rfl bX) rfl (by decide) (fun st=>AK (v:=I e.1) (ee st rfl))<|As rfl rfl (Ac rfl bX) rfl (by decide) (fun st=>BC (ee st rfl) (ee st rfl))<|wd rfl (fun st=>AO (v:=.bool (e.1==0)) (ee st rfl) bX (ee st rfl))<|wm rfl (v:=.bool (e.1==0)) rfl ?_;rcases An (e.1==0) with dK|dK
           ·replace a:=Ax a dK;replace a:=Ck a;obtain⟨i3,a⟩:=a;refine CB rfl rfl (Ac rfl dK) rfl (by decide) (fun st=>AG FZ (ee st rfl) Gv (Ik s ZA _ i3)) ?_;rintro _ mR ⟨i4,rfl⟩;have lJ:=gY.ext i4;refine wd rfl (fun st=>AO (v:=.bool true) (ee st rfl) dK (ee st rfl))<|wa rfl (v:=.bool true) rfl<|Af<|Ab<|AM<|AD ?_;have u:=Option.some.inj a;refine AT rfl rfl ?_;exact⟨lJ.Bu,congrArg Value.bool u⟩
           ·replace a:=Ay a dK;exact absurd (Option.some.inj a) (by decide)
          ·replace a:=Ay a bX;exact absurd (Option.some.inj a) (by decide)
         ·replace a:=Ay a bJ;have jW:gI=true:=by simpa using bJ
          refine AE rfl bJ<|AV<|Ab<|Ae<|Aa<|wa rfl (v:=I 3) rfl<|Af<|Ab<|Ae<|Ae<|Aa ?_;have hY:=(gO.ext dJ);refine wd rfl (fun st=>A5 (l:=[I b.Am,I b.Aj,I b.Ap,I b.AA,.slice f b.Ad.length g]) CT (ee st rfl) hY rfl rfl)<|wm rfl (v:=.slice aS bQ.length aT) rfl<|wm rfl (v:=.slice q aF.length r) aI ?_;have gZ:=((a0.mv (Ai dI)).mv (Ai dJ));have fO:=((bI.mv (Ai dI)).mv (Ai dJ));have g0:=((cW.mv (Ai dI)).mv (Ai dJ));replace a:=bind_some a;obtain⟨lK,i5,a⟩:=a;refine we rfl (fun st=>AG OK (ee st rfl) (Em (ee st rfl) (ee st rfl) (ee st rfl)) (Vf s b bQ aF f g aS aT q r (ZZ FN [] Z w.heap.size [some y,some aG]) _ gZ fO g0 lK i5)) ?_;rintro _ mS ⟨i6,⟨lX,lY,rfl,c6⟩⟩;have g1:=gY.ext i6;have c6:=c6.mv (gY.Cy (Nat.le_refl _));refine wm rfl (v:=I c7) b5 ?_;replace a:=A3 a;obtain⟨i176,eH,i7,i8,i9,a⟩:=a;obtain⟨mT,mU,_,jA,rfl,jB⟩:=Sl.Dc c6 rfl i8;refine wd rfl (fun st=>Bs (k:=i176) Tryz.underlying23 CH (ee st rfl) jA (ee st rfl) i7 i9)<|wd rfl (fun st=>BO (v:=I eH) AZ (ee st rfl) jB rfl)<|wa rfl (v:=I eH) rfl<|Af<|Ab<|Ae<|Aa<|wm rfl (v:=I eH) rfl<|wm rfl (v:=.slice aS bQ.length aT) rfl<|wd rfl (fun st=>BB Tryz.underlying92 (ee st rfl))<|wd rfl (fun st=>BC (ee st rfl) (ee st rfl))<|Af<|Ab ?_;rcases An (eH==(bQ.length:Int)) with dL|dL
          ·replace a:=Ax a dL;refine Az rfl dL<|Aa<|wa rfl (v:=I 1) rfl<|Af<|Ab<|Ae<|Aa<|wm rfl (v:=I e.2) rfl<|wd rfl (fun st=>BC (ee st rfl) (ee st rfl))<|wm rfl (v:=.bool (e.2==0)) rfl ?_;rcases An (e.2==0) with bK|bK
           ·replace a:=Ax a bK;refine As rfl rfl (Ac rfl bK) rfl (by decide) (fun st=>AK (v:=I e.1) (ee st rfl))<|As rfl rfl (Ac rfl bK) rfl (by decide) (fun st=>AK (v:=I 1) (ee st rfl))<|As rfl rfl (Ac rfl bK) rfl (by decide) (fun st=>BC (ee st rfl) (ee st rfl))<|wd rfl (fun st=>AO (v:=.bool (e.1==1)) (ee st rfl) bK (ee st rfl))<|wm rfl (v:=.bool (e.1==1)) rfl ?_;rcases An (e.1==1) with dM|dM
            ·replace a:=Ax a dM;replace a:=Ck a;obtain⟨jC,a⟩:=a;refine CB rfl rfl (Ac rfl dM) rfl (by decide) (fun st=>AG FZ (ee st rfl) Gv (Ik s ZA _ jC)) ?_;rintro _ mV ⟨jD,rfl⟩;have lL:=g1.ext jD;refine wd rfl (fun st=>AO (v:=.bool true) (ee st rfl) dM (ee st rfl))<|wa rfl (v:=.bool true) rfl<|Af<|Ab<|AM ?_;have u:=Option.some.inj a;refine AT rfl rfl ?_;exact⟨lL.Bu,congrArg Value.bool u⟩
            ·replace a:=Ay a dM;exact absurd (Option.some.inj a) (by decide)
           ·replace a:=Ay a bK;exact absurd (Option.some.inj a) (by decide)
          ·replace a:=Ay a dL;refine AE rfl dL<|Ae<|Aa<|wm rfl (v:=I eH) rfl<|wd rfl (fun st=>BC (ee st rfl) (ee st rfl))<|Af<|Ab ?_;rcases An (eH==0) with dN|dN
           ·replace a:=Ax a dN;refine Az rfl dN<|Aa<|wa rfl (v:=I 2) rfl<|Af<|Ab<|Ae<|Aa<|wm rfl (v:=I e.2) rfl<|wd rfl (fun st=>BC (ee st rfl) (ee st rfl))<|wm rfl (v:=.bool (e.2==0)) rfl ?_;rcases An (e.2==0) with bL|bL
            ·replace a:=Ax a bL;refine As rfl rfl (Ac rfl bL) rfl (by decide) (fun st=>AK (v:=I e.1) (ee st rfl))<|As rfl rfl (Ac rfl bL) rfl (by decide) (fun st=>AK (v:=I 2) (ee st rfl))<|As rfl rfl (Ac rfl bL) rfl (by decide) (fun st=>BC (ee st rfl) (ee st rfl))<|wd rfl (fun st=>AO (v:=.bool (e.1==2)) (ee st rfl) bL (ee st rfl))<|wm rfl (v:=.bool (e.1==2)) rfl ?_;rcases An (e.1==2) with dO|dO
             ·replace a:=Ax a dO;replace a:=Ck a;obtain⟨jE,a⟩:=a;refine CB rfl rfl (Ac rfl dO) rfl (by decide) (fun st=>AG FZ (ee st rfl) Gv (Ik s ZA _ jE)) ?_;rintro _ mW ⟨jF,rfl⟩;have lM:=g1.ext jF;refine wd rfl (fun st=>AO (v:=.bool true) (ee st rfl) dO (ee st rfl))<|wa rfl (v:=.bool true) rfl<|Af<|Ab<|AM ?_;have u:=Option.some.inj a;refine AT rfl rfl ?_;exact⟨lM.Bu,congrArg Value.bool u⟩
             ·replace a:=Ay a dO;exact absurd (Option.some.inj a) (by decide)
            ·replace a:=Ay a bL;exact absurd (Option.some.inj a) (by decide)
           ·replace a:=Ay a dN;refine AE rfl dN<|AV<|Ab<|Ae<|Aa<|wm rfl (v:=I e.2) rfl<|wd rfl (fun st=>BC (ee st rfl) (ee st rfl))<|wm rfl (v:=.bool (e.2==0)) rfl ?_;rcases An (e.2==0) with bM|bM
            ·replace a:=Ax a bM;refine As rfl rfl (Ac rfl bM) rfl (by decide) (fun st=>AK (v:=I e.1) (ee st rfl))<|As rfl rfl (Ac rfl bM) rfl (by decide) (fun st=>AK (v:=I 3) (ee st rfl))<|As rfl rfl (Ac rfl bM) rfl (by decide) (fun st=>BC (ee st rfl) (ee st rfl))<|wd rfl (fun st=>AO (v:=.bool (e.1==3)) (ee st rfl) bM (ee st rfl))<|wm rfl (v:=.bool (e.1==3)) rfl ?_;rcases An (e.1==3) with dP|dP
             ·replace a:=Ax a dP;replace a:=Ck a;obtain⟨jG,a⟩:=a;refine CB rfl rfl (Ac rfl dP) rfl (by decide) (fun st=>AG FZ (ee st rfl) Gv (Ik s ZA _ jG)) ?_;rintro _ mX ⟨jH,rfl⟩;have lN:=g1.ext jH;refine wd rfl (fun st=>AO (v:=.bool true) (ee st rfl) dP (ee st rfl))<|wa rfl (v:=.bool true) rfl<|Af<|Ab<|AM ?_;have u:=Option.some.inj a;refine AT rfl rfl ?_;exact⟨lN.Bu,congrArg Value.bool u⟩
             ·replace a:=Ay a dP;exact absurd (Option.some.inj a) (by decide)
            ·replace a:=Ay a bM;exact absurd (Option.some.inj a) (by decide)
end Go.Proofs.YtkljfdkmjdjpfaaGreat
end
section
namespace Go.Proofs.YtkljfdkmjdjpfaaGreat
open Go.RowKit Go.ChangeShapes Go.WideShapes
theorem ON{α β:Type}{g:α→Option β}:∀{l:List α} {r:List β},l.mapM g=some r→∀(i:Nat) (x:α),l[i]?=some x→∃y,r[i]?=some y∧g x=some y
 |[],_,_,i,x,b=>by simp at b
 |a::l,r,h,i,x,b=>by
  rw[List.mapM_cons] at h;obtain⟨y,d,e⟩:=Option.bind_eq_some_iff.1 h;obtain⟨ys,c,f⟩:=Option.bind_eq_some_iff.1 e;obtain rfl:y::ys=r:=by simpa using f
  cases i with
  |zero=>
   obtain rfl:a=x:=by simpa using b
   exact⟨y,rfl,d⟩
  |succ i=>exact ON c i x (by simpa using b)
theorem JD{H:Type}{P:Program}{e:TypeId}{d:DataW H}{n:Nat}(b:n∈d.weights P e):∀{l:List (DataW H)},d∈l→n∈DataW.weightsAll P e l
 |[],h=>by cases h
 |a::l,h=>by
  rw[DataW.weightsAll,List.mem_append];rcases List.mem_cons.1 h with rfl|h
  ·exact .inl b
  ·exact .inr (JD b h)
def LN {H:Type} (P:Program) (t:TypeId) (d:DataW H):Prop:=∀n∈d.weights P t,n≤reachBytes
theorem PI{H:Type}{P:Program}{a:List TypeId}{ds:List (DataW H)}(h:(DataW.weightsEach P a ds).all (· ≤reachBytes)=true){j:Nat}{t:TypeId}{d:DataW H}(b:a[j]?=some t)(c:ds[j]?=some d):LN P t d:=fun n e=>by
 have:=List.all_eq_true.1 h _ (DataW.weights_mem_each b c n e);simpa using this
def Nl {α:Type} (P:Program) (t:TypeId) (e:En α) (wf:α→Prop):Prop:=
 ∀(H:Type) (enc:TypeId×Value→H) (w:World) (sp:Nat→Bool) (fuel:Nat) (cs:List Value) (x:DataW H×List MemPlace),DataW.trod enc P w 0 sp true fuel t cs=some x→LN P t x.1→∃a,e.R w ZA cs a∧wf a
def HY(k:IntKind)(n:Int):Prop:=(Lit.int k n).wf=true
section
variable{P:Program}{t:TypeId}
theorem Hc{k:IntKind}(a:P.underlying t=some (.int k)):Nl P t (AF k) (HY k):=by
 intro H enc w sp fuel cs x h _;obtain⟨n,b,_,c⟩:=DataW.trod_int a h;exact⟨n,b,c⟩
theorem Jo {e:Array Field} (g:P.underlying t=some (.struct e)) {H:Type} {enc:TypeId×Value→H} {w:World} {sp:Nat→Bool} {fuel:Nat} {cs:List Value} {x:DataW H×List MemPlace} (h:DataW.trod enc P w 0 sp true fuel t cs=some x):
  cs.length=P.cellsOf t∧∃c,∀(i a off:Nat),(e[i]?).map (fun f=>(f.type,f.offset))=some (a,off)→∃y,DataW.trod enc P w 0 sp true c a ((cs.drop off).take (P.cellsOf a))=some y∧(LN P t x.1→LN P a y.1):=by
 cases fuel with
 |zero=>simp[DataW.trod] at h
 |succ fuel=>
  unfold DataW.trod at h;simp only[g] at h;split at h
  ·rename_i m
   obtain⟨xs,o,rfl⟩:=Option.map_eq_some_iff.1 h;refine⟨m,fuel,fun i a off p=>?_⟩;obtain⟨f,b,he⟩:=Option.map_eq_some_iff.1 p;obtain⟨k,q⟩:f.type=a∧f.offset=off:=by simpa using he
   rw[←Array.getElem?_toList] at b;obtain⟨y,r,l⟩:=ON o i f b;rw[k,q] at l;refine⟨y,l,fun s n u=>s n ?_⟩;simp only[DataW.weights,g];exact DataW.weights_mem_each (j:=i) (t:=a) (d:=y.1) (by rw[List.getElem?_map,b];simp[k]) (by rw[List.getElem?_map,r];rfl) n u
  ·cases h
theorem Qj{w:World}{a:Addr}{n:Nat}{cs:List Value}(h:w.cells? 0 a n=some cs):cs.length=n∧∀j u,cs[j]?=some u→w.cell? (a.add j)=some u:=by
 unfold World.cells? at h;rw[if_pos (Nat.zero_le _)] at h;have d:=mapM_some_length h;refine⟨by simpa using d,?_⟩;have key:∀(l:List Nat) (r:List Value),l.mapM (fun i=>w.cell? (a.add i))=some r→∀(j i:Nat) (u:Value),l[j]?=some i→r[j]?=some u→w.cell? (a.add i)=some u:=by
  intro l
  induction l with
  |nil=>intro r _ j i u c;simp at c
  |cons b l ih=>
   intro r h j i u c e;rw[List.mapM_cons] at h;obtain⟨y,m,f⟩:=Option.bind_eq_some_iff.1 h;obtain⟨ys,g,o⟩:=Option.bind_eq_some_iff.1 f;obtain rfl:y::ys=r:=by simpa using o
   cases j with
   |zero=>
    obtain rfl:b=i:=by simpa using c
    obtain rfl:y=u:=by simpa using e
    exact m
   |succ j=>exact ih ys g j i u (by simpa using c) (by simpa using e)
 intro j u c;have k:j<n:=by
  have:=(List.getElem?_eq_some_iff.1 c).1;have f:cs.length=n:=by simpa using d
  omega
 exact key _ _ h j j u (by simp[k]) c
theorem Rq{w:World}{a:Addr}{u:Value}(h:w.cell? a=some u):∃b o,a=⟨b,o,none⟩∧b<w.heap.size:=by
 obtain⟨b,o,pt⟩:=a;cases pt with
 |none=>
  refine⟨b,o,rfl,?_⟩;unfold World.cell? at h;cases c:w.heap[b]? with
  |none=>simp[c] at h
  |some o=>exact(Array.getElem?_eq_some_iff.1 c).1
 |some q=>
  unfold World.cell? at h;cases c:w.heap[b]? with
  |none=>simp[c] at h
  |some ob=>cases ob<;>simp[c] at h
theorem add_add{a:Addr}{k j:Nat}(h:k≤j):(a.add k).add (j-k)=a.add j:=by
 obtain⟨b,o,pt⟩:=a;cases pt with
 |none=>rw[F4,F4,F4];congr 1;omega
 |some q=>
  unfold Addr.add
  by_cases c:j=0
  ·have:k=0:=by omega
   subst this;subst c;simp
  ·by_cases d:k=0
   ·subst d;simp[c]
   ·by_cases e:j-k=0
    ·have:j=k:=by omega
     subst this;simp[d]
    ·simp[c,d,e];omega
theorem KY {α:Type} {e:TypeId} {ee:En α} {wf:α→Prop} (aB:P.underlying t=some (.slice e)) (aM:P.cellsOf e=ee.sz) (h0:0<ee.sz) (aN:Nl P e ee wf) {b:Nat} (aE:P.bytesOf e=b):Nl P t (BG ee) (fun xs=>xs.length*b≤140737488351232∧∀x∈xs,wf x):=by
 intro H enc w sp fuel cs x h y;rcases Go.Deep.open_slice aB h with⟨rfl,_⟩|⟨a,len,cap,m,n0,D,aT,rfl,_,aF,aR,hm,aG,aC⟩
 ·exact⟨[],⟨none,0,rfl,Sl.nil _ _ _⟩,by simp,by simp⟩
 ·have aS:len≤m:=by rw[hm];split<;>omega
  subst aG;have l:len*b≤140737488351232:=by
   have:=y ((((List.range len).map D).length+((List.range (m-len)).map fun j=>D (len+j)).length)*P.bytesOf e) (by simp[DataW.weights,aB]);rw[aE] at this;have c:len*b≤(((List.range len).map D).length+((List.range (m-len)).map fun j=>D (len+j)).length)*b:=Nat.mul_le_mul_right _ (by simp);exact Nat.le_trans c this
  have p:∀i,i<len→LN P e (D i):=fun i hi n aH=>y n (by
   simp only[DataW.weights,aB];rw[List.mem_cons,List.mem_append];exact .inr (.inl (JD aH (List.mem_map.2 ⟨i,by simpa using hi,rfl⟩))))
  have key:∀n,n≤len→∃Bm xs,R2 ee w ZA Bm xs∧xs.length=n∧(∀x∈xs,wf x)∧∀j u,Bm.flatten[j]?=some u→w.cell? (a.add j)=some u:=by
   intro n
   induction n with
   |zero=>exact fun _=>⟨[],[],trivial,rfl,by simp,by simp⟩
   |succ n ih=>
    intro aH;obtain⟨Bm,xs,q,c,aD,r⟩:=ih (by omega);obtain⟨ds,aO,aI⟩:=aC n (by omega);obtain⟨z,aP,aJ⟩:=aN _ _ _ _ _ _ _ aI (p n (by omega));obtain⟨aU,s⟩:=Qj aO;refine⟨Bm++[ds],xs++[z],q.append ⟨aP,trivial⟩,by simp[c],?_,?_⟩
    ·intro x f;rcases List.mem_append.1 f with f|f
     ·exact aD x f
     ·rw[List.mem_singleton.1 f];exact aJ
    ·intro j u d;rw[List.flatten_append] at d;rcases Nat.lt_or_ge j Bm.flatten.length with g|k
     ·rw[List.getElem?_append_left g] at d;exact r j u d
     ·rw[List.getElem?_append_right k] at d;have v:=s (j-Bm.flatten.length) u (by simpa using d);have aK:Bm.flatten.length=n*ee.sz:=by rw[q.Jj,c]
      rw[aK] at v k;rw[aM] at v;rw[add_add k] at v;exact v
  obtain⟨Bm,xs,q,c,aD,r⟩:=key len (Nat.le_refl _);refine⟨xs,⟨some a,cap,by rw[c],by rw[c];exact aF,(fun e=>by cases e),Bm,q,?_⟩,by rw[c];exact l,aD⟩;cases aL:Bm.flatten with
  |nil=>exact .inl rfl
  |cons u us=>
   have hu:=r 0 u (by rw[aL];rfl);obtain⟨b,o,aA,g⟩:=Rq hu;have aQ:a=⟨b,o,none⟩:=by
    obtain⟨b',o',pt⟩:=a;cases pt<;>simp[Addr.add] at aA⊢;exact aA
   subst aQ;refine .inr ⟨b,o,rfl,trivial,g,fun j u d=>?_⟩;have:=r j u (by rw[aL];exact d);rw[F4] at this;exact this
end
section
variable{H:Type}{enc:TypeId×Value→H}{P:Program}{W W':World}
theorem Kh{sp:Nat→Bool}:∀{e:List TypeId} {vs:List Value} {ds:List (DataW H)} {ps:List MemPlace},DataW.TrodAll enc P W 0 sp true e vs ds ps→(∀p∈ps,W.sameAt W' p)→DataW.TrodAll enc P W' 0 sp true e vs ds ps
 |[],_,_,_,h,_=>by
  obtain⟨rfl,rfl,rfl⟩:=trodAll_nil h;exact rfl
 |_::_,_,_,_,h,f=>by
  obtain⟨v,j,d,k,a,b,rfl,rfl,rfl,⟨n,g⟩,i⟩:=trodAll_cons h;exact⟨a,b,⟨n,DataW.trod_carry n _ _ _ g fun p c=>f p (List.mem_append_left _ c)⟩,Kh i fun p c=>f p (List.mem_append_right _ c),rfl⟩
theorem Rr(K:Kids P (· <P.types.size))(c:∀t e,t<P.types.size→P.underlying t=some (.slice e)→0<P.cellsOf e){a:List TypeId}{vs:List Value}{ds:List (DataW H)}{ps:List MemPlace}(d:∀t∈a,t<P.types.size)
  (f:DataW.TrodAll enc P W 0 (fun _=>true) true a vs ds ps)(g:Ext W W')(b:∀p∈ps,p.block<W.heap.size)(sp:Nat→Bool)(h:∀p∈ps,sp p.block=true):DataW.TrodAll enc P W' 0 sp true a vs ds ps:=
 Kh (DataW.TrodAll.respare K c d f h) fun p i=>(Kj g).same (b p i)
variable{α:Type}{e:En α}{wf:α→Prop}{t:TypeId}{b0:Nat}{v:Value}{d:DataW H}{p:List MemPlace}{sp:Nat→Bool}
theorem TU{c:Array Field}(f:P.underlying t=some (.struct c))(g:Nl P t e wf)(b:Value.okWide P W .any b0 t v)(h:DataW.Trod enc P W 0 sp true t v d p)(i:LN P t d):∃a cs,v=.agg cs.toArray∧e.R W ZA cs a∧wf a:=by
 unfold Value.okWide at b;rw[f] at b;obtain⟨cs,rfl,_⟩:=b;obtain⟨n,j⟩:=h;obtain⟨a,k,l⟩:=g _ _ _ _ _ _ _ j i;exact⟨a,cs.toList,by simp,k,l⟩
theorem Vg{ee:TypeId}(f:P.underlying t=some (.slice ee)){wf:List α→Prop}(g:Nl P t (BG e) wf)(i:Value.okWide P W .any b0 t v)(h:DataW.Trod enc P W 0 sp true t v d p)(j:LN P t d):∃xs A c,v=.slice A xs.length c∧Sl e W ZA A c xs∧wf xs:=by
 obtain⟨A,n,c,rfl⟩:=okWide_slice f i;obtain⟨m,hm⟩:=h;obtain⟨xs,⟨a,b,k,l⟩,o⟩:=g _ _ _ _ _ _ _ hm j;have:Value.slice A n c=Value.slice a xs.length b:=by simpa[Value.cells] using k
 exact⟨xs,a,b,this,l,o⟩
theorem TV{k:IntKind}(a:P.underlying t=some (.int k))(b:Value.okWide P W .any b0 t v)(h:DataW.Trod enc P W 0 sp true t v d p):∃n,v=.int k n∧HY k n:=by
 obtain⟨n,c,_,_,e⟩:=open_int a b h;exact⟨n,c,e⟩
theorem O2 {f:Func} {s:ChangeSpec} {apart fresh handsOn again:Bool} {args:Array Value} {v:Value} {ds gs:List (DataW H)} {before pa pv:List MemPlace}
  (k:DataW.Whole enc P f.params.toList s.vars apart W args.toList ds gs before)
  (g:∀(b:Nat) (sp:Nat→Bool) (n:Bool),DataW.TrodAll enc P W' b sp n f.resultTypes.toList (v.resultList f.resultTypes.size) (s.fn H (ds++gs)).results [])
  (c:∀sp:Nat→Bool,(∀p∈before,sp p.block=true)→DataW.TrodAll enc P W' 0 sp true f.params.toList args.toList (s.fn H (ds++gs)).args pa)
  (d:∀sp:Nat→Bool,(∀p∈before,sp p.block=true)→DataW.TrodVars enc P W' sp s.vars (s.fn H (ds++gs)).vars pv)
  (e:before=pa++pv) (o:Ext W W')
  (l:∀(j:Nat) (t:TypeId) (r:Value),f.resultTypes[j]?=some t→(v.resultList f.resultTypes.size)[j]?=some r→Value.okWide P W' .any 0 t r):
  s.post enc P f apart fresh handsOn again W args v W':=by
 have m:=Kj o;have h:∀p∈before,p.block<W.heap.size:=fun p a=>k.lt p a;have hold:∀p∈before,(fun b=>decide (b<W.heap.size)) p.block=true:=fun p a=>by simpa using h p a
 refine⟨ds,gs,before,[],pa,pv,k,g _ _ _,c _ hold,d _ hold,World.keptBut_mono (fun p a=>⟨a,?_⟩) (m.frame (· ∈before)),fun _=>?_⟩
 ·rw[e,List.mem_append] at a;exact Or.inr a
 ·obtain⟨_,_,_,_,_,q,u⟩:=k;refine⟨l,_,_,([]++pa)++pv,⟨[]++pa,pv,trodAll_append (c _ (fun _ _=>rfl)) (g _ _ _),d _ (fun _ _=>rfl),rfl,?_,?_⟩,?_⟩
  ·intro b off a;have i:MemPlace.cell b off∈before:=by rw[e];simpa using a
   rw[m.frozen (h _ i)];exact q b off i
  ·intro w;have:=u w;rw[e] at this;simpa using this
  ·intro p a _;rw[e];simpa using a
theorem Rs{f:FuncId}{args:Array Value}{w:World}{R:Value→World→Prop}(h:BM P f args w R):Calls P f args w (fun e w'=>∃v,e=.returned v∧R v w'):=h
end
end Go.Proofs.YtkljfdkmjdjpfaaGreat
end
section
set_option linter.unusedVariables false
set_option linter.unusedSimpArgs false
namespace Go.Proofs.YtkljfdkmjdjpfaaGreat
open Go.RowKit Go.ChangeShapes Go.WideShapes
theorem VN:∀{cs:List Value},cs.length=2→∃a0 a1,cs=[a0,a1]
 |[a0,a1],_=>⟨a0,a1,rfl⟩
theorem SP:∀{cs:List Value},cs.length=5→∃a0 a1 a2 a3 a4,cs=[a0,a1,a2,a3,a4]
 |[a0,a1,a2,a3,a4],_=>⟨a0,a1,a2,a3,a4,rfl⟩
theorem TW:Nl Tryz.prog 116 O9 (fun x=>(HY .i64 x.Lo∧HY .i64 x.Hi)):=by
 intro H enc w sp fuel cs x h c;obtain⟨d,j,e⟩:=Jo Tryz.underlying116 h;have k:Tryz.prog.cellsOf 116=2:=by kernel_rfl
 rw[k] at d;have f:Tryz.prog.cellsOf 3=1:=by kernel_rfl
 obtain⟨a0,a1,rfl⟩:=VN d;obtain⟨m,a,g⟩:=e 0 3 0 rfl;simp only[f,List.drop_zero,List.drop_succ_cons,List.take_succ_cons,List.take_zero] at a;obtain⟨n0,h0,w0⟩:=(Hc Tryz.underlying3) _ _ _ _ _ _ _ a (g c);cases h0;obtain⟨y1,b,i⟩:=e 1 3 1 rfl;simp only[f,List.drop_zero,List.drop_succ_cons,List.take_succ_cons,List.take_zero] at b;obtain⟨n1,l,w1⟩:=(Hc Tryz.underlying3) _ _ _ _ _ _ _ b (i c);cases l;exact⟨⟨n0,n1⟩,rfl,w0,w1⟩
theorem TX:Nl Tryz.prog 118 AQ (fun x=>((HY .i64 ((⟨x.Aw,x.AJ⟩:CK).Lo)∧HY .i64 ((⟨x.Aw,x.AJ⟩:CK).Hi))∧HY .i64 x.Aq∧HY .i64 x.BY∧HY .i64 x.Ch)):=by
 intro H enc w sp fuel cs x h a;obtain⟨j,o,b⟩:=Jo Tryz.underlying118 h;have p:Tryz.prog.cellsOf 118=5:=by kernel_rfl
 rw[p] at j;have g:Tryz.prog.cellsOf 3=1:=by kernel_rfl
 have i:Tryz.prog.cellsOf 116=2:=by kernel_rfl
 obtain⟨a0,a1,a2,a3,a4,rfl⟩:=SP j;obtain⟨y,c,k⟩:=b 0 116 0 rfl;simp only[i,List.drop_zero,List.drop_succ_cons,List.take_succ_cons,List.take_zero] at c;obtain⟨n0,h0,w0⟩:=TW _ _ _ _ _ _ _ c (k a);cases h0;obtain⟨y1,d,l⟩:=b 1 3 2 rfl;simp only[g,List.drop_zero,List.drop_succ_cons,List.take_succ_cons,List.take_zero] at d;obtain⟨n1,q,w1⟩:=(Hc Tryz.underlying3) _ _ _ _ _ _ _ d (l a);cases q;obtain⟨z,e,m⟩:=b 2 3 3 rfl;simp only[g,List.drop_zero,List.drop_succ_cons,List.take_succ_cons,List.take_zero] at e;obtain⟨r,s,w2⟩:=(Hc Tryz.underlying3) _ _ _ _ _ _ _ e (m a);cases s;obtain⟨aA,f,n⟩:=b 3 3 4 rfl;simp only[g,List.drop_zero,List.drop_succ_cons,List.take_succ_cons,List.take_zero] at f;obtain⟨t,u,v⟩:=(Hc Tryz.underlying3) _ _ _ _ _ _ _ f (n a);cases u;exact⟨⟨n0.Lo,n0.Hi,n1,r,t⟩,rfl,w0,w1,w2,v⟩
theorem Vh:Nl Tryz.prog 63 IT (fun x=>(HY .i64 x.Am∧HY .i64 x.Aj∧HY .i64 x.Ap∧HY .i64 x.AA∧(x.Ad.length*40≤140737488351232∧∀y∈x.Ad,((HY .i64 ((⟨y.Aw,y.AJ⟩:CK).Lo)∧HY .i64 ((⟨y.Aw,y.AJ⟩:CK).Hi))∧HY .i64 y.Aq∧HY .i64 y.BY∧HY .i64 y.Ch)))):=by
 intro H enc w sp fuel cs x h a;obtain⟨k,r,c⟩:=Jo Tryz.underlying63 h;have s:Tryz.prog.cellsOf 63=5:=by kernel_rfl
 rw[s] at k;have d:Tryz.prog.cellsOf 3=1:=by kernel_rfl
 have l:Tryz.prog.cellsOf 61=1:=by kernel_rfl
 obtain⟨a0,a1,a2,a3,a4,rfl⟩:=SP k;obtain⟨aH,e,m⟩:=c 0 3 0 rfl;simp only[d,List.drop_zero,List.drop_succ_cons,List.take_succ_cons,List.take_zero] at e;obtain⟨n0,h0,w0⟩:=(Hc Tryz.underlying3) _ _ _ _ _ _ _ e (m a);cases h0;obtain⟨y1,f,n⟩:=c 1 3 1 rfl;simp only[d,List.drop_zero,List.drop_succ_cons,List.take_succ_cons,List.take_zero] at f;obtain⟨n1,t,w1⟩:=(Hc Tryz.underlying3) _ _ _ _ _ _ _ f (n a);cases t;obtain⟨aI,g,o⟩:=c 2 3 2 rfl;simp only[d,List.drop_zero,List.drop_succ_cons,List.take_succ_cons,List.take_zero] at g;obtain⟨u,v,w2⟩:=(Hc Tryz.underlying3) _ _ _ _ _ _ _ g (o a);cases v;obtain⟨aJ,i,p⟩:=c 3 3 3 rfl;simp only[d,List.drop_zero,List.drop_succ_cons,List.take_succ_cons,List.take_zero] at i;obtain⟨z,aA,aB⟩:=(Hc Tryz.underlying3) _ _ _ _ _ _ _ i (p a);cases aA;obtain⟨aK,j,q⟩:=c 4 61 4 rfl;simp only[l,List.drop_zero,List.drop_succ_cons,List.take_succ_cons,List.take_zero] at j;obtain⟨n4,⟨aC,aD,aE,aF⟩,aG⟩:=(KY (b:=40) Tryz.underlying61 (by kernel_rfl) (by decide) TX (by kernel_rfl)) _ _ _ _ _ _ _ j (q a);cases aE;exact⟨⟨n0,n1,u,z,n4⟩,⟨aC,aD,rfl,aF⟩,w0,w1,w2,aB,aG⟩
theorem Wl:ownKnob Tryz.prog.godebug=none:=by kernel_rfl
theorem VO:Kids Tryz.prog (· <Tryz.prog.types.size):=kids_rows (by kernel_rfl) (by kernel_rfl)
theorem VP:∀t e,t<Tryz.prog.types.size→Tryz.prog.underlying t=some (.slice e)→0<Tryz.prog.cellsOf e:=slices_full_of Tryz.prog (by kernel_rfl)
end Go.Proofs.YtkljfdkmjdjpfaaGreat
end
section
set_option linter.unusedVariables false
set_option linter.unusedSimpArgs false
namespace Go.Proofs.YtkljfdkmjdjpfaaGreat
open Go.RowKit Go.ChangeShapes Go.WideShapes Go.ChangeAt
set_option maxRecDepth 100000 in
theorem LO(os:Os)(started:os.Started)(H:Type)(enc:TypeId×Value→H):
  ReturnsInHanded {} Tryz.checked os 5 .any (Rows.rackSavesSpec.pre6 enc Tryz.prog Tryz.f5 Rows.rackSavesRow.domain false) (Rows.rackSavesSpec.post enc Tryz.prog Tryz.f5 false true false false):=by
 refine returnsInHanded_of_change_sized (C:=Tryz.checked) Wl started (by kernel_rfl) Tryz.func5
  (ChangeSpec.witness6 (enc:=enc) (C:=Tryz.checked) false ⟨#[], #[.agg #[.int .i64 0,.int .i64 0,.int .i64 0,.int .i64 0,.slice none 0 0],.slice none 0 0,.int .i64 0],[]⟩ 8 (by kernel_rfl) (by kernel_rfl) (by kernel_rfl) (by kernel_rfl)) ?_
 intro W base args ds gs before f m aB n _;have a:∀(j:Nat) t v,Tryz.f5.params[j]?=some t→args[j]?=some v→Value.okWide Tryz.prog W .any base t v:=f;have d:=m;obtain⟨p,q,o,aC,rfl,aN,aO⟩:=m;have h:DataW.TrodAll enc Tryz.prog W 0 (fun _=>true) true Tryz.f5.params.toList args.toList ds p:=o;obtain⟨rfl,rfl⟩:=trodVars_none aC;simp only[List.append_nil] at d;have r:∀x∈p,x.block<W.heap.size:=fun x g=>by simpa using d.lt x g
 have s:=h;have c:(DataW.weightsEach Tryz.prog (Tryz.f5.params.toList++[]) (ds++[])).all (· ≤reachBytes)=true:=n;rw[Tryz.params5] at h a c;obtain⟨v0,v1,v2,d0,d1,d2,aD,aE,aF,rfl,rfl,rfl,h0,aG,aH⟩:=trodAll_three h;obtain⟨u,aP,w,⟨i,k,rfl,l⟩,w0⟩:=TU Tryz.underlying63 Vh (a 0 63 v0 rfl rfl) h0 (PI (j:=0) c rfl rfl);obtain⟨x1,aI,aJ,y,s1,w1⟩:=Vg Tryz.underlying64 (KY (b:=24) Tryz.underlying64 (by kernel_rfl) (by decide) (KY (b:=8) Tryz.underlying23 (by kernel_rfl) (by decide) (Hc Tryz.underlying3) (by kernel_rfl)) (by kernel_rfl)) (a 1 64 v1 rfl rfl) aG (PI (j:=1) c rfl rfl);obtain⟨x2,z,w2⟩:=TV Tryz.underlying3 (a 2 3 v2 rfl rfl) aH;subst w;subst y;subst z;obtain⟨K,aK⟩:=MW u x1 x2;refine(Rs (a5 K u x1 x2 i k aI aJ ZA W l s1 aK)).mono fun e W' ⟨v,he,g,aL⟩=>?_;subst he;subst aL;exact⟨_,rfl,O2 (pa:=(aD++aE++aF)) (pv:=[]) d (fun _ _ _=>trodAll_mk1 (shut_bool Tryz.underlying4 _)) (fun sp aM=>Rr VO VP (by rw[Tryz.params5];decide) s g r sp (fun x aA=>aM x (by simpa using aA))) (fun _ _=>rfl) (by simp) g (ok_one (by kernel_rfl) rfl (okWide_bool_mk Tryz.underlying4 _))⟩
theorem rackSaves_holds:Rows.RackSavesSaid:=
 OpenClaim.holds_of_wide 5 Tryz.f5 rfl rfl rfl rfl rfl rfl rfl ⟨rfl,rfl,rfl,rfl,rfl⟩ rfl rfl rfl rfl rfl (by kernel_rfl) Tryz.func5 (by kernel_rfl)
  (of_decide_eq_true (by kernel_rfl)) (by unfold Func.isWrapper;first|(rw[if_pos (by decide+kernel)];kernel_rfl)|(rw[if_neg (by decide+kernel)];exact⟨rfl,rfl⟩))
  (fun os started H enc _=>LO os started H enc)
end Go.Proofs.YtkljfdkmjdjpfaaGreat
end
