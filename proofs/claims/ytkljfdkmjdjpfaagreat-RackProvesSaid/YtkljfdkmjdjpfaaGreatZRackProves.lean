import Derived.Test.YtkljfdkmjdjpfaaGreatBB8
import Derived.ProofKit
import Derived.ChangeSame
import Derived.SizedLaws
import Derived.Deep.Slices
import Derived.Test.YtkljfdkmjdjpfaaGreatProg
import Derived.Test.YtkljfdkmjdjpfaaGreatRows
/-
  Proved: the law RackProves returns true for every argument that the row hands over, and leaves every argument as it was; no condition beside the row's own.
-/
set_option linter.all false
section
set_option linter.unusedVariables false
set_option linter.unusedSimpArgs false
namespace Go.Proofs.YtkljfdkmjdjpfaaGreat
open Go.RowKit Go.WideShapes
def Fp(a:Nat)(b:Ar)(c:List (List Int))(e:AT)(d:Int):Option (Bool):=
 (FP a b).bind fun aR=>cond (!aR) ((FT (CF a=some true)).bind fun _=>some (true)) ((FB a c).bind fun f=>cond (!f) ((FT (CF a=some true)).bind fun _=>some (true)) (cond (decide ((8:Int)<(e.Comes.length:Int))) ((FT (CF a=some true)).bind fun _=>some (true)) (cond (decide ((12:Int)<(e.Ao.length:Int))) ((FT (CF a=some true)).bind fun _=>some (true)) ((Fz a b).bind fun g=>cond (g==0) ((E7 a b c).bind fun h=>cond (h) ((E6 a b e).bind fun i=>cond (i) ((E8 a b c e).bind fun j=>(Fa a b j).bind fun k=>(EC a b).bind fun l=>(Fb a b l c).bind fun m=>(CO a b).bind fun n=>(CE a c).bind fun o=>(DU a e).bind fun p=>(CJ a n o p d).bind fun q=>cond (q==(decide (d≤k))) ((CO a b).bind fun r=>(CE a c).bind fun s=>(CL a r s d).bind fun t=>cond (t==(decide (m≤d))) ((FT (CF a=some true)).bind fun _=>some (true)) (some (false))) (some (false))) ((EC a b).bind fun u=>(Fb a b u c).bind fun v=>(CO a b).bind fun w=>(CE a c).bind fun x=>(DU a e).bind fun y=>(CJ a w x y d).bind fun z=>cond (z==false) ((CO a b).bind fun aA=>(CE a c).bind fun aB=>(CL a aA aB d).bind fun aC=>cond (aC==(decide (v≤d))) ((FT (CF a=some true)).bind fun _=>some (true)) (some (false))) (some (false)))) ((CO a b).bind fun aD=>(CE a c).bind fun aE=>(DU a e).bind fun aF=>(CJ a aD aE aF d).bind fun aG=>cond (aG==false) ((CO a b).bind fun aH=>(CE a c).bind fun aI=>(CL a aH aI d).bind fun aJ=>cond (aJ==false) ((FT (CF a=some true)).bind fun _=>some (true)) (some (false))) (some (false)))) ((CO a b).bind fun aK=>(CE a c).bind fun aL=>(DU a e).bind fun aM=>(CJ a aK aL aM d).bind fun aN=>cond (aN==false) ((CO a b).bind fun aO=>(CE a c).bind fun aP=>(CL a aO aP d).bind fun aQ=>cond (aQ==false) ((FT (CF a=some true)).bind fun _=>some (true)) (some (false))) (some (false)))))))
end Go.Proofs.YtkljfdkmjdjpfaaGreat
end
section
namespace Go.Proofs.YtkljfdkmjdjpfaaGreat
theorem Mt:∀(o:List (List Int)),(∀l∈o,l.length≤6)→o.flatten.length≤6*o.length
 |[],_=>by simp
 |l::o,h=>by
  have b:=Mt o fun x a=>h x (List.mem_cons_of_mem _ a);have c:=h l (List.mem_cons_self ..);rw[List.flatten_cons,List.length_append,List.length_cons];omega
theorem nz{x:Int}(h:x≠0):(x==0)=false:=beq_eq_false_iff_ne.2 h
theorem Mu(y:Ar)(o:List (List Int))(t:AT)(n:Int):∃K,Fp K y o t n=some true:=by
 refine⟨2000,?_⟩;have hK:2000≤2000:=Nat.le_refl _;have g:=P7 hK;unfold Fp;rw[bd (S9 hK y)];cases r:Mp y with
 |false=>rw[nf,Fx g]
 |true=>
  have d:=RZ r;obtain⟨b,w,x⟩:=R1 hK o;rw[nt,bd w];cases b with
  |false=>rw[nf,Fx g]
  |true=>
   obtain⟨aA,s⟩:=x rfl;rw[nt]
   by_cases u:(8:Int)<(t.Comes.length:Int)
   ·rw[ct (dt u),Fx g]
   rw[cf (df u)]
   by_cases hw:(12:Int)<(t.Ao.length:Int)
   ·rw[ct (dt hw),Fx g]
   have a:o.length≤1000:=by omega
   have c:∀l∈o,l.length≤1000:=fun l z=>by have:=s l z;omega
   have m:o.flatten.length≤1000:=by have:=Mt o s;omega
   have eT:=RX 2000 t (by omega) (by omega);have k:=Lp y o t n hK a m;have p:=KL y o n hK a m;rw[cf (df hw),bd (RY hK y)]
   by_cases e:check y=0
   ·have h:=GZ e;rw[e,ct (by rfl),bd (QT y o h.n4 a c hK)];cases f:D6 y o with
    |false=>
     have i:CJ 2000 y o t n=some false:=by rw[k,f,Bool.false_and,Bool.and_false]
     have j:CL 2000 y o n=some false:=by rw[p,f,Bool.false_and,Bool.and_false]
     rw[cf rfl,bd (HE hK y d),bd (He hK o a c),bd eT,bd i,ct (by rfl),bd (HE hK y d),bd (He hK o a c),bd j,ct (by rfl),Fx g]
    |true=>
     rw[ct rfl,bd (QR y h t hK)];have j:CL 2000 y o n=some (decide ((CX y o).1≤n)):=by rw[p,f,dt e,Bool.true_and,Bool.true_and]
     cases q:Er y t with
     |false=>
      have i:CJ 2000 y o t n=some false:=by rw[k,q,Bool.false_and,Bool.and_false,Bool.and_false]
      rw[cf rfl,bd (Oh y h hK),bd (Nl y h o f hK),bd (HE hK y d),bd (He hK o a c),bd eT,bd i,ct (by rfl),bd (HE hK y d),bd (He hK o a c),bd j,ct (by simp),Fx g]
     |true=>
      have i:CJ 2000 y o t n=some (decide (n≤(C8 y (B6 y o t):Int))):=by rw[k,q,f,dt e,Bool.true_and,Bool.true_and,Bool.true_and]
      have v:(B6 y o t).length=y.Ad.length:=GL ..;rw[ct rfl,bd (Ni y h o f t q hK),bd (Nk y _ h.n4 v hK),bd (Oh y h hK),bd (Nl y h o f hK),bd (HE hK y d),bd (He hK o a c),bd eT,bd i,ct (by simp),bd (HE hK y d),bd (He hK o a c),bd j,ct (by simp),Fx g]
   ·have i:CJ 2000 y o t n=some false:=by rw[k,df e,Bool.false_and]
    have j:CL 2000 y o n=some false:=by rw[p,df e,Bool.false_and]
    rw[cf (nz e),bd (HE hK y d),bd (He hK o a c),bd eT,bd i,ct (by rfl),bd (HE hK y d),bd (He hK o a c),bd j,ct (by rfl),Fx g]
end Go.Proofs.YtkljfdkmjdjpfaaGreat
end
section
set_option linter.unusedVariables false
set_option linter.unusedSimpArgs false
namespace Go.Proofs.YtkljfdkmjdjpfaaGreat
open Go.RowKit Go.WideShapes
set_option maxRecDepth 20000
open HF
attribute [local irreducible] BO WL CC CW LV BN EB DH One Bq
set_option maxHeartbeats 4000000 in
theorem a6(q:Nat)(b:Ar)(aB:List (List Int))(p:AT)(y:Int)(d:Option Addr)(e:Nat)(g:Option Addr)(j:Nat)(k:Option Addr)(m:Nat)(n:Option Addr)(o:Nat)(Z:Nat→Prop)(w:World)(gE:Sl AP w Z d e b.Ad)(gF:Sl (BD (AB .i64)) w Z g j aB)(gG:Sl (AB .i64) w Z k m p.Comes)(gH:Sl Bu w Z n o p.Ao)(a:Fp q b aB p y=some true):
 BN Tryz.prog 6 #[.agg #[I b.Am,I b.Ak,I b.Ao,I b.Ay,.slice d b.Ad.length e],.slice g aB.length j,.agg #[.slice k p.Comes.length m,.slice n p.Ao.length o],I y] w (fun v w'=>Ext w w'∧v=.bool true):=by
 unfold Fp at a;refine Bd (N:=90) Tryz.func6 rfl rfl (by simp) ?_;intro jD fV jE;have g1:=AO (i:=0) (v:=.agg #[I b.Am,I b.Ak,I b.Ao,I b.Ay,.slice d b.Ad.length e]) fV rfl;have aD:=AO (i:=1) (v:=.slice g aB.length j) fV rfl;have g2:=AO (i:=2) (v:=.agg #[.slice k p.Comes.length m,.slice n p.Ao.length o]) fV rfl;have aM:=AO (i:=3) (v:=I y) fV rfl;clear fV;have gW:Hp FN [] w [] w:=Hp.start (BM.none w);have fT:=gE.mv (Bf (Z:=Z) (L:=[]) w);have fU:=gF.mv (Bf (Z:=Z) (L:=[]) w);have a9:=gG.mv (Bf (Z:=Z) (L:=[]) w);have bA:=gH.mv (Bf (Z:=Z) (L:=[]) w);refine Ag<|Ab<|we rfl (fun st=>BY (v:=.agg #[I b.Am,I b.Ak,I b.Ao,I b.Ay,.slice d b.Ad.length e]) (cs:= #[I b.Am,I b.Ak,I b.Ao,I b.Ay,.slice d b.Ad.length e]) (ee st g1) rfl) ?_;rintro _ w1 ⟨s,rfl,aU⟩;have gX:=gW.nb aU;have i9:=gW.BL aU;refine we rfl (fun st=>BY (v:=.agg #[.slice k p.Comes.length m,.slice n p.Ao.length o]) (cs:= #[.slice k p.Comes.length m,.slice n p.Ao.length o]) (ee st g2) rfl) ?_;rintro _ w2 ⟨u,rfl,aT⟩;have i1:=gX.nb aT;have jA:=gX.BL aT;refine wa rfl (v:=.bool false) rfl<|Af<|Aa<|Ag<|Ag<|Ab ?_;have fG:=(aU.bk.ext aT.gr);refine wd rfl (fun st=>A8 (l:=[I b.Am,I b.Ak,I b.Ao,I b.Ay,.slice d b.Ad.length e]) Dn (ee st rfl) fG rfl rfl) ?_;have eA:=((fT.mv (Ax aU)).mv (Ax aT));replace a:=bind_some a;obtain⟨fW,i2,a⟩:=a;refine we rfl (fun st=>AI UM (ee st rfl) (Co (ee st rfl)) (Wo q b d e ZA _ eA.all fW i2)) ?_;rintro _ jY ⟨aV,rfl⟩;have gY:=i1.ext aV;refine wd rfl (fun st=>DC (ee st rfl))<|wm rfl (v:=.bool !fW) rfl ?_;rcases Ap (!fW) with aR|aR
 ·replace a:=AD a aR;have jB:fW=false:=by simpa using aR
  refine Aj (c:=true) rfl rfl (Ac rfl aR) (by decide) rfl (by decide)<|Aj (c:=true) rfl rfl (Ac rfl aR) (by decide) rfl (by decide)<|Aj (c:=true) rfl rfl (Ac rfl aR) (by decide) rfl (by decide)<|wd rfl (fun st=>AV (v:=.bool true) (ee st rfl) aR (ee st rfl))<|wm rfl (v:=.bool true) rfl<|Aj rfl rfl rfl (by decide) rfl (by decide)<|Aj rfl rfl rfl (by decide) rfl (by decide)<|Aj rfl rfl rfl (by decide) rfl (by decide)<|Aj rfl rfl rfl (by decide) rfl (by decide)<|wd rfl (fun st=>AV (v:=.bool true) (ee st rfl) rfl (ee st rfl))<|wm rfl (v:=.bool true) rfl<|Aj rfl rfl rfl (by decide) rfl (by decide)<|Aj rfl rfl rfl (by decide) rfl (by decide)<|Aj rfl rfl rfl (by decide) rfl (by decide)<|Aj rfl rfl rfl (by decide) rfl (by decide)<|wd rfl (fun st=>AV (v:=.bool true) (ee st rfl) rfl (ee st rfl))<|Af<|Aa<|Az rfl rfl<|Ag<|Ab ?_;replace a:=CI a;obtain⟨i3,a⟩:=a;refine we rfl (fun st=>AI Ij (ee st rfl) HA (Np q ZA _ i3)) ?_;rintro _ jZ ⟨i4,rfl⟩;have i5:=gY.ext i4;refine wa rfl (v:=.bool true) rfl<|Af<|Aa<|AM<|AA ?_;have aN:=Option.some.inj a;refine AU rfl rfl ?_;exact⟨i5.Bz,congrArg Value.bool aN⟩
 ·replace a:=AE a aR;have jC:fW=true:=by simpa using aR
  refine Aw rfl rfl (Ac rfl aR) rfl (by decide) (fun st=>AL (v:=.slice g aB.length j) (ee st aD)) ?_;have bB:=(((fU.mv (Ax aU)).mv (Ax aT)).mv (Ai aV));replace a:=bind_some a;obtain⟨eB,g3,a⟩:=a;refine Dt rfl rfl (Ac rfl aR) rfl (by decide) (fun st=>AI UU (ee st rfl) (Co (ee st rfl)) (a28 q aB g j ZA _ bB.all eB g3)) ?_;rintro _ jF ⟨aG,rfl⟩;have fH:=gY.ext aG;refine Aw rfl rfl (Ac rfl aR) rfl (by decide) (fun st=>DC (ee st rfl))<|wd rfl (fun st=>Br (v:=.bool !eB) (ee st rfl) aR (ee st rfl))<|wm rfl (v:=.bool !eB) rfl ?_;rcases Ap (!eB) with aA|aA
  ·replace a:=AD a aA;have iZ:eB=false:=by simpa using aA
   refine Aj (c:=true) rfl rfl (Ac rfl aA) (by decide) rfl (by decide)<|Aj (c:=true) rfl rfl (Ac rfl aA) (by decide) rfl (by decide)<|Aj (c:=true) rfl rfl (Ac rfl aA) (by decide) rfl (by decide)<|Aj (c:=true) rfl rfl (Ac rfl aA) (by decide) rfl (by decide)<|wd rfl (fun st=>AV (v:=.bool true) (ee st rfl) aA (ee st rfl))<|wm rfl (v:=.bool true) rfl<|Aj rfl rfl rfl (by decide) rfl (by decide)<|Aj rfl rfl rfl (by decide) rfl (by decide)<|Aj rfl rfl rfl (by decide) rfl (by decide)<|Aj rfl rfl rfl (by decide) rfl (by decide)<|wd rfl (fun st=>AV (v:=.bool true) (ee st rfl) rfl (ee st rfl))<|Af<|Aa<|Az rfl rfl<|Ag<|Ab ?_;replace a:=CI a;obtain⟨g4,a⟩:=a;refine we rfl (fun st=>AI Ij (ee st rfl) HA (Np q ZA _ g4)) ?_;rintro _ jG ⟨g5,rfl⟩;have i6:=fH.ext g5;refine wa rfl (v:=.bool true) rfl<|Af<|Aa<|AM<|AA ?_;have aN:=Option.some.inj a;refine AU rfl rfl ?_;exact⟨i6.Bz,congrArg Value.bool aN⟩
  ·replace a:=AE a aA;have i0:eB=true:=by simpa using aA
   refine Aw rfl rfl (Ac rfl aA) rfl (by decide) (fun st=>An (ee st rfl) (HJ _ _)) ?_;have a7:=((aT.bk.ext aV).ext aG);refine Aw rfl rfl (Ac rfl aA) rfl (by decide) (fun st=>Av (v:=.slice k p.Comes.length m) Du (ee st rfl) a7 rfl)<|Aw rfl rfl (Ac rfl aA) rfl (by decide) (fun st=>BH Tryz.underlying23 (ee st rfl))<|Aw rfl rfl (Ac rfl aA) rfl (by decide) (fun st=>F7 (ee st rfl) (ee st rfl))<|wd rfl (fun st=>Br (v:=.bool (decide ((8:Int)<(p.Comes.length:Int)))) (ee st rfl) aA (ee st rfl))<|wm rfl (v:=.bool (decide ((8:Int)<(p.Comes.length:Int)))) rfl ?_;rcases Ap (decide ((8:Int)<(p.Comes.length:Int))) with aE|aE
   ·replace a:=AD a aE;refine Aj (c:=true) rfl rfl (Ac rfl aE) (by decide) rfl (by decide)<|Aj (c:=true) rfl rfl (Ac rfl aE) (by decide) rfl (by decide)<|Aj (c:=true) rfl rfl (Ac rfl aE) (by decide) rfl (by decide)<|Aj (c:=true) rfl rfl (Ac rfl aE) (by decide) rfl (by decide)<|wd rfl (fun st=>AV (v:=.bool true) (ee st rfl) aE (ee st rfl))<|Af<|Aa<|Az rfl rfl<|Ag<|Ab ?_;replace a:=CI a;obtain⟨g6,a⟩:=a;refine we rfl (fun st=>AI Ij (ee st rfl) HA (Np q ZA _ g6)) ?_;rintro _ jH ⟨g7,rfl⟩;have i7:=fH.ext g7;refine wa rfl (v:=.bool true) rfl<|Af<|Aa<|AM<|AA ?_;have aN:=Option.some.inj a;refine AU rfl rfl ?_;exact⟨i7.Bz,congrArg Value.bool aN⟩
   ·replace a:=AE a aE;refine Aw rfl rfl (Ac rfl aE) rfl (by decide) (fun st=>An (ee st rfl) (Hk _ _))<|Aw rfl rfl (Ac rfl aE) rfl (by decide) (fun st=>Av (v:=.slice n p.Ao.length o) Fo (ee st rfl) a7 rfl)<|Aw rfl rfl (Ac rfl aE) rfl (by decide) (fun st=>BH Tryz.underlying65 (ee st rfl))<|Aw rfl rfl (Ac rfl aE) rfl (by decide) (fun st=>F7 (ee st rfl) (ee st rfl))<|wd rfl (fun st=>Br (v:=.bool (decide ((12:Int)<(p.Ao.length:Int)))) (ee st rfl) aE (ee st rfl))<|Af<|Aa ?_;rcases Ap (decide ((12:Int)<(p.Ao.length:Int))) with cQ|cQ
    ·replace a:=AD a cQ;refine Az rfl cQ<|Ag<|Ab ?_;replace a:=CI a;obtain⟨g8,a⟩:=a;refine we rfl (fun st=>AI Ij (ee st rfl) HA (Np q ZA _ g8)) ?_;rintro _ jI ⟨g9,rfl⟩;have i8:=fH.ext g9;refine wa rfl (v:=.bool true) rfl<|Af<|Aa<|AM<|AA ?_;have aN:=Option.some.inj a;refine AU rfl rfl ?_;exact⟨i8.Bz,congrArg Value.bool aN⟩
    ·replace a:=AE a cQ;refine AG rfl cQ<|AX<|Aa<|Ag<|Ab ?_;have eO:=((fG.ext aV).ext aG);refine wd rfl (fun st=>A8 (l:=[I b.Am,I b.Ak,I b.Ao,I b.Ay,.slice d b.Ad.length e]) Dn (ee st rfl) eO rfl rfl) ?_;have bC:=((eA.mv (Ai aV)).mv (Ai aG));replace a:=bind_some a;obtain⟨fX,hA,a⟩:=a;refine we rfl (fun st=>AI UN (ee st rfl) (Co (ee st rfl)) (Wn q b d e ZA _ bC.all fX hA)) ?_;rintro _ jJ ⟨z,rfl⟩;have gZ:=fH.ext z;refine wd rfl (fun st=>CG (ee st rfl) (ee st rfl))<|wm rfl (v:=.bool (fX==0)) rfl ?_;rcases Ap (fX==0) with aO|aO
     ·replace a:=AD a aO;have eP:=(eO.ext z);refine Aw rfl rfl (Ac rfl aO) rfl (by decide) (fun st=>A8 (l:=[I b.Am,I b.Ak,I b.Ao,I b.Ay,.slice d b.Ad.length e]) Dn (ee st rfl) eP rfl rfl)<|Aw rfl rfl (Ac rfl aO) rfl (by decide) (fun st=>AL (v:=.slice g aB.length j) (ee st aD)) ?_;have bD:=(bC.mv (Ai z));have aX:=((bB.mv (Ai aG)).mv (Ai z));replace a:=bind_some a;obtain⟨aL,hB,a⟩:=a;refine Dt rfl rfl (Ac rfl aO) rfl (by decide) (fun st=>AI UW (ee st rfl) (EF (ee st rfl) (ee st rfl)) (Ws q b aB d e g j ZA _ bD.all aX.all aL hB)) ?_;rintro _ jK ⟨aC,rfl⟩;have eQ:=gZ.ext aC;refine wd rfl (fun st=>AV (v:=.bool aL) (ee st rfl) aO (ee st rfl))<|wa rfl (v:=.bool aL) rfl<|Af<|Aa<|Ag ?_;rcases Ap (aL) with f|f
      ·replace a:=AD a f;have aS:=(eP.ext aC);have aW:=((a7.ext z).ext aC);have aF:=(bD.mv (Ai aC));have aP:=((((((a9.mv (Ax aU)).mv (Ax aT)).mv (Ai aV)).mv (Ai aG)).mv (Ai z)).mv (Ai aC));have aQ:=((((((bA.mv (Ax aU)).mv (Ax aT)).mv (Ai aV)).mv (Ai aG)).mv (Ai z)).mv (Ai aC));replace a:=bind_some a;obtain⟨a8,fY,a⟩:=a;rcases Ap (a8) with x|x
       ·replace a:=AD a x;have cR:=(aX.mv (Ai aC));replace a:=bind_some a;obtain⟨fI,hC,a⟩:=a;replace a:=bind_some a;obtain⟨cF,hD,a⟩:=a;refine B9 14 [Kc (.bool aL),Kc (.bool aL),Kc (.agg #[I b.Am,I b.Ak,I b.Ao,I b.Ay,.slice d b.Ad.length e]),Kc (.agg #[.slice k p.Comes.length m,.slice n p.Ao.length o]),Kc (.bool a8),Kc (.bool a8),Kc (.bool a8),Kc (.agg #[I b.Am,I b.Ak,I b.Ao,I b.Ay,.slice d b.Ad.length e]),Kc (.agg #[I b.Am,I b.Ak,I b.Ao,I b.Ay,.slice d b.Ad.length e]),Kc (.slice g aB.length j),Kc (.agg #[.slice k p.Comes.length m,.slice n p.Ao.length o]),Kv (DX BC) (ZZ FN [] Z w.heap.size [some u,some s]) fI,Kc (I cF),Kc (I y)] mixed rfl rfl
            (Ae (od rfl (fun _=>rfl) (fun K=>AL (es ((K.out 9 rfl).trans rfl))))
            (Ae (od rfl (fun _=>rfl) (fun K=>AL (es (K.As 0 41 rfl rfl))))
            (Ae (Bb rfl rfl rfl (fun _=>rfl) (fun a' w' ph K=>Ac (K.As 1 42 rfl rfl) f) (fun a' w' ph K=>A8 (l:=[I b.Am,I b.Ak,I b.Ao,I b.Ay,.slice d b.Ad.length e]) Dn (es ((K.out 4 rfl).trans rfl)) (aS.ext K.A3) rfl rfl))
            (Ae (Bb rfl rfl rfl (fun _=>rfl) (fun a' w' ph K=>Ac (K.As 1 42 rfl rfl) f) (fun a' w' ph K=>A8 (l:=[.slice k p.Comes.length m,.slice n p.Ao.length o]) Ho (es ((K.out 6 rfl).trans rfl)) (aW.ext K.A3) rfl rfl))
            (Ae (CU rfl rfl rfl (fun a' w' ph K=>Ac (K.As 1 42 rfl rfl) f) (fun a' w' ph K=>(AI Rg rfl (EF (es (K.As 2 43 rfl rfl)) (es (K.As 3 44 rfl rfl))) (a37 q b p d e k m n o ZA _ (aF.mv (Ai K.A3)).all (aP.mv (Ai K.A3)).all (aQ.mv (Ai K.A3)).all a8 fY)).mono (fun _ _ h=>⟨h.2,h.1⟩)))
            (Ae (od rfl (fun _=>rfl) (fun K=>AV (es (K.As 1 42 rfl rfl)) f (es (K.As 4 45 rfl rfl))))
            (Ae (od rfl (fun _=>rfl) (fun K=>AL (es (K.As 5 46 rfl rfl))))
            (Ae (Bb rfl rfl rfl (fun _=>rfl) (fun a' w' ph K=>Ac (K.As 6 47 rfl rfl) x) (fun a' w' ph K=>A8 (l:=[I b.Am,I b.Ak,I b.Ao,I b.Ay,.slice d b.Ad.length e]) Dn (es ((K.out 4 rfl).trans rfl)) (aS.ext K.A3) rfl rfl))
            (Ae (Bb rfl rfl rfl (fun _=>rfl) (fun a' w' ph K=>Ac (K.As 6 47 rfl rfl) x) (fun a' w' ph K=>A8 (l:=[I b.Am,I b.Ak,I b.Ao,I b.Ay,.slice d b.Ad.length e]) Dn (es ((K.out 4 rfl).trans rfl)) (aS.ext K.A3) rfl rfl))
            (Ae (Bb rfl rfl rfl (fun _=>rfl) (fun a' w' ph K=>Ac (K.As 6 47 rfl rfl) x) (fun a' w' ph K=>AL (es ((K.out 1 rfl).trans aD))))
            (Ae (Bb rfl rfl rfl (fun _=>rfl) (fun a' w' ph K=>Ac (K.As 6 47 rfl rfl) x) (fun a' w' ph K=>A8 (l:=[.slice k p.Comes.length m,.slice n p.Ao.length o]) Ho (es ((K.out 6 rfl).trans rfl)) (aW.ext K.A3) rfl rfl))
            (Ae (CU rfl rfl rfl (fun a' w' ph K=>Ac (K.As 6 47 rfl rfl) x) (fun a' w' ph K=>(AI Q9 rfl (EM (es (K.As 8 49 rfl rfl)) (es (K.As 9 50 rfl rfl)) (es (K.As 10 51 rfl rfl))) (VP q b aB p d e g j k m n o (ZZ FN [] Z w.heap.size [some u,some s]) _ (aF.mv (Ai K.A3)) (cR.mv (Ai K.A3)) (aP.mv (Ai K.A3)) (aQ.mv (Ai K.A3)) fI hC)).mono (fun _ _ h=>⟨(DX BC).mv h.2 ((eQ.ext K.A3).Cw (Nat.le_refl _)),h.1⟩)))
            (Ae (CU rfl rfl rfl (fun a' w' ph K=>Ac (K.As 6 47 rfl rfl) x) (fun a' w' ph K=>match K.As 11 52 rfl rfl with|⟨cS,cT,fZ,eC⟩=>(AI Ra rfl (EF (es (K.As 7 48 rfl rfl)) (es (t:=52) (v:=.slice cS fI.length cT) fZ)) (VQ q b fI d e cS cT ZA _ (aF.mv (Ai K.A3)).all eC.all cF hD)).mono (fun _ _ h=>⟨h.2,h.1⟩)))
            (Ae (Bb rfl rfl rfl (fun _=>rfl) (fun a' w' ph K=>Ac (K.As 6 47 rfl rfl) x) (fun a' w' ph K=>AL (es ((K.out 3 rfl).trans aM))))
            (BP _))))))))))))))) ?_
        intro g0;rintro _ rfl _ rfl _ rfl _ rfl _ rfl _ rfl _ rfl _ rfl _ rfl _ rfl _ rfl _ ⟨cS,cT,rfl,eC⟩ _ rfl _ rfl r;have f0:=eQ.ext r;refine Aw rfl rfl (Ac rfl x) rfl (by decide) (fun st=>KY (ee st rfl) (ee st rfl))<|wd rfl (fun st=>AV (v:=.bool (decide (y≤cF))) (ee st rfl) x (ee st rfl))<|wa rfl (v:=.bool (decide (y≤cF))) rfl<|Af<|Aa<|Ag ?_;have cU:=(aS.ext r);have aY:=(aF.mv (Ai r));replace a:=bind_some a;obtain⟨fJ,hE,a⟩:=a;have cV:=(cR.mv (Ai r));replace a:=bind_some a;obtain⟨cG,hF,a⟩:=a;refine B9 8 [Kc (.bool aL),Kc (.bool aL),Kc (.agg #[I b.Am,I b.Ak,I b.Ao,I b.Ay,.slice d b.Ad.length e]),Kc (.agg #[I b.Am,I b.Ak,I b.Ao,I b.Ay,.slice d b.Ad.length e]),Kv (DX CA) (ZZ FN [] Z w.heap.size [some u,some s]) fJ,Kc (.slice g aB.length j),Kc (I cG),Kc (I y)] mixed rfl rfl
            (Ae (od rfl (fun _=>rfl) (fun K=>AL (es ((K.out 9 rfl).trans rfl))))
            (Ae (od rfl (fun _=>rfl) (fun K=>AL (es (K.As 0 57 rfl rfl))))
            (Ae (Bb rfl rfl rfl (fun _=>rfl) (fun a' w' ph K=>Ac (K.As 1 58 rfl rfl) f) (fun a' w' ph K=>A8 (l:=[I b.Am,I b.Ak,I b.Ao,I b.Ay,.slice d b.Ad.length e]) Dn (es ((K.out 4 rfl).trans rfl)) (cU.ext K.A3) rfl rfl))
            (Ae (Bb rfl rfl rfl (fun _=>rfl) (fun a' w' ph K=>Ac (K.As 1 58 rfl rfl) f) (fun a' w' ph K=>A8 (l:=[I b.Am,I b.Ak,I b.Ao,I b.Ay,.slice d b.Ad.length e]) Dn (es ((K.out 4 rfl).trans rfl)) (cU.ext K.A3) rfl rfl))
            (Ae (CU rfl rfl rfl (fun a' w' ph K=>Ac (K.As 1 58 rfl rfl) f) (fun a' w' ph K=>(AI Rb rfl (Co (es (K.As 3 60 rfl rfl))) (VO q b d e (ZZ FN [] Z w.heap.size [some u,some s]) _ (aY.mv (Ai K.A3)) fJ hE)).mono (fun _ _ h=>⟨(DX CA).mv h.2 ((f0.ext K.A3).Cw (Nat.le_refl _)),h.1⟩)))
            (Ae (Bb rfl rfl rfl (fun _=>rfl) (fun a' w' ph K=>Ac (K.As 1 58 rfl rfl) f) (fun a' w' ph K=>AL (es ((K.out 1 rfl).trans aD))))
            (Ae (CU rfl rfl rfl (fun a' w' ph K=>Ac (K.As 1 58 rfl rfl) f) (fun a' w' ph K=>match K.As 4 61 rfl rfl with|⟨cW,cX,gI,eD⟩=>(AI Rc rfl (EM (es (K.As 2 59 rfl rfl)) (es (t:=61) (v:=.slice cW fJ.length cX) gI) (es (K.As 5 62 rfl rfl))) (VR q b fJ aB d e cW cX g j ZA _ (aY.mv (Ai K.A3)).all eD.all (cV.mv (Ai K.A3)).all cG hF)).mono (fun _ _ h=>⟨h.2,h.1⟩)))
            (Ae (Bb rfl rfl rfl (fun _=>rfl) (fun a' w' ph K=>Ac (K.As 1 58 rfl rfl) f) (fun a' w' ph K=>AL (es ((K.out 3 rfl).trans aM))))
            (BP _))))))))) ?_
        intro jL;rintro _ rfl _ rfl _ rfl _ rfl _ ⟨cW,cX,rfl,eD⟩ _ rfl _ rfl _ rfl aZ;have bE:=f0.ext aZ;refine Aw rfl rfl (Ac rfl f) rfl (by decide) (fun st=>EH (ee st rfl) (ee st rfl))<|wd rfl (fun st=>AV (v:=.bool (decide (cG≤y))) (ee st rfl) f (ee st rfl))<|wa rfl (v:=.bool (decide (cG≤y))) rfl<|Af<|Aa<|Ag ?_;have eR:=(cU.ext aZ);have cY:=(aY.mv (Ai aZ));replace a:=bind_some a;obtain⟨cH,hG,a⟩:=a;have cZ:=(cV.mv (Ai aZ));replace a:=bind_some a;obtain⟨fK,hH,a⟩:=a;have f1:=((aW.ext r).ext aZ);have e8:=((aP.mv (Ai r)).mv (Ai aZ));have e9:=((aQ.mv (Ai r)).mv (Ai aZ));replace a:=bind_some a;obtain⟨eS,hI,a⟩:=a;replace a:=bind_some a;obtain⟨eU,hJ,a⟩:=a;rcases Ap (eU==(decide (y≤cF))) with aH|aH
        ·replace a:=AD a aH;replace a:=bind_some a;obtain⟨cI,hL,a⟩:=a;replace a:=bind_some a;obtain⟨fL,hM,a⟩:=a;replace a:=bind_some a;obtain⟨eV,hN,a⟩:=a;refine B9 18 [Kc (.agg #[I b.Am,I b.Ak,I b.Ao,I b.Ay,.slice d b.Ad.length e]),Kv (Cx Eu) (ZZ FN [] Z w.heap.size [some u,some s]) cH,Kc (.slice g aB.length j),Kv (DX (BD (AB .i64))) (ZZ FN [] Z w.heap.size [some u,some s]) fK,Kc (.agg #[.slice k p.Comes.length m,.slice n p.Ao.length o]),Kv (Cx CA) (ZZ FN [] Z w.heap.size [some u,some s]) eS,Kc (I y),Kc (.bool eU),Kc (.bool (decide (y≤cF))),Kc (.bool (eU==(decide (y≤cF)))),Kc (.bool (eU==(decide (y≤cF)))),Kc (.agg #[I b.Am,I b.Ak,I b.Ao,I b.Ay,.slice d b.Ad.length e]),Kv (Cx Eu) (ZZ FN [] Z w.heap.size [some u,some s]) cI,Kc (.slice g aB.length j),Kv (DX (BD (AB .i64))) (ZZ FN [] Z w.heap.size [some u,some s]) fL,Kc (I y),Kc (.bool eV),Kc (.bool (decide (cG≤y)))] mixed rfl rfl
             (Ae (od rfl (fun _=>rfl) (fun K=>A8 (l:=[I b.Am,I b.Ak,I b.Ao,I b.Ay,.slice d b.Ad.length e]) Dn (es ((K.out 4 rfl).trans rfl)) (eR.ext K.A3) rfl rfl))
             (Ae (Dd rfl rfl (fun a' w' ph K=>(AI Ik rfl (Co (es (K.As 0 67 rfl rfl))) (a31 q b d e (ZZ FN [] Z w.heap.size [some u,some s]) _ (cY.mv (Ai K.A3)) cH hG)).mono (fun _ _ h=>⟨(Cx Eu).mv h.2 ((bE.ext K.A3).Cw (Nat.le_refl _)),h.1⟩)))
             (Ae (od rfl (fun _=>rfl) (fun K=>AL (es ((K.out 1 rfl).trans aD))))
             (Ae (Dd rfl rfl (fun a' w' ph K=>(AI Il rfl (Co (es (K.As 2 69 rfl rfl))) (No q aB g j (ZZ FN [] Z w.heap.size [some u,some s]) _ (cZ.mv (Ai K.A3)) fK hH)).mono (fun _ _ h=>⟨(DX (BD (AB .i64))).mv h.2 ((bE.ext K.A3).Cw (Nat.le_refl _)),h.1⟩)))
             (Ae (od rfl (fun _=>rfl) (fun K=>A8 (l:=[.slice k p.Comes.length m,.slice n p.Ao.length o]) Ho (es ((K.out 6 rfl).trans rfl)) (f1.ext K.A3) rfl rfl))
             (Ae (Dd rfl rfl (fun a' w' ph K=>(AI Mr rfl (Co (es (K.As 4 71 rfl rfl))) (SH q p k m n o (ZZ FN [] Z w.heap.size [some u,some s]) _ (e8.mv (Ai K.A3)) (e9.mv (Ai K.A3)) eS hI)).mono (fun _ _ h=>⟨(Cx CA).mv h.2 ((bE.ext K.A3).Cw (Nat.le_refl _)),h.1⟩)))
             (Ae (od rfl (fun _=>rfl) (fun K=>AL (es ((K.out 3 rfl).trans aM))))
             (Ae (Dd rfl rfl (fun a' w' ph K=>match K.As 3 70 rfl rfl with|⟨c0,c1,gJ,eE⟩=>by obtain⟨_,gK,⟨bF,bG,rfl,c2⟩⟩:=K.As 1 68 rfl rfl;obtain⟨_,gL,⟨bH,bI,bJ,bK,rfl,c3,c4⟩⟩:=K.As 5 72 rfl rfl;exact(AI KW rfl (ND (es (t:=68) (v:=.agg #[I cH.Am,I cH.Ak,I cH.Ao,I cH.Ay,.slice bF cH.Ad.length bG]) gK) (es (t:=70) (v:=.slice c0 fK.length c1) gJ) (es (t:=72) (v:=.agg #[.slice bH eS.Comes.length bI,.slice bJ eS.Ao.length bK]) gL) (es (K.As 6 73 rfl rfl))) (Ri q cH fK eS y bF bG c0 c1 bH bI bJ bK ZA _ c2.all eE.all c3.all c4.all eU hJ)).mono (fun _ _ h=>⟨h.2,h.1⟩)))
             (Ae (od rfl (fun _=>rfl) (fun K=>AL (es ((K.out 10 rfl).trans rfl))))
             (Ae (od rfl (fun _=>rfl) (fun K=>I5 IC (es (K.As 7 74 rfl rfl)) (es (K.As 8 75 rfl rfl))))
             (Ae (od rfl (fun _=>rfl) (fun K=>AL (es (K.As 9 76 rfl rfl))))
             (Ae (Bb rfl rfl rfl (fun _=>rfl) (fun a' w' ph K=>Ac (K.As 10 77 rfl rfl) aH) (fun a' w' ph K=>A8 (l:=[I b.Am,I b.Ak,I b.Ao,I b.Ay,.slice d b.Ad.length e]) Dn (es ((K.out 4 rfl).trans rfl)) (eR.ext K.A3) rfl rfl))
             (Ae (CU rfl rfl rfl (fun a' w' ph K=>Ac (K.As 10 77 rfl rfl) aH) (fun a' w' ph K=>(AI Ik rfl (Co (es (K.As 11 78 rfl rfl))) (a31 q b d e (ZZ FN [] Z w.heap.size [some u,some s]) _ (cY.mv (Ai K.A3)) cI hL)).mono (fun _ _ h=>⟨(Cx Eu).mv h.2 ((bE.ext K.A3).Cw (Nat.le_refl _)),h.1⟩)))
             (Ae (Bb rfl rfl rfl (fun _=>rfl) (fun a' w' ph K=>Ac (K.As 10 77 rfl rfl) aH) (fun a' w' ph K=>AL (es ((K.out 1 rfl).trans aD))))
             (Ae (CU rfl rfl rfl (fun a' w' ph K=>Ac (K.As 10 77 rfl rfl) aH) (fun a' w' ph K=>(AI Il rfl (Co (es (K.As 13 80 rfl rfl))) (No q aB g j (ZZ FN [] Z w.heap.size [some u,some s]) _ (cZ.mv (Ai K.A3)) fL hM)).mono (fun _ _ h=>⟨(DX (BD (AB .i64))).mv h.2 ((bE.ext K.A3).Cw (Nat.le_refl _)),h.1⟩)))
             (Ae (Bb rfl rfl rfl (fun _=>rfl) (fun a' w' ph K=>Ac (K.As 10 77 rfl rfl) aH) (fun a' w' ph K=>AL (es ((K.out 3 rfl).trans aM))))
             (Ae (CU rfl rfl rfl (fun a' w' ph K=>Ac (K.As 10 77 rfl rfl) aH) (fun a' w' ph K=>match K.As 14 81 rfl rfl with|⟨c5,c6,f2,eG⟩=>by obtain⟨_,f3,⟨bL,bM,rfl,c7⟩⟩:=K.As 12 79 rfl rfl;exact(AI KX rfl (EM (es (t:=79) (v:=.agg #[I cI.Am,I cI.Ak,I cI.Ao,I cI.Ay,.slice bL cI.Ad.length bM]) f3) (es (t:=81) (v:=.slice c5 fL.length c6) f2) (es (K.As 15 82 rfl rfl))) (a49 q cI fL y bL bM c5 c6 ZA _ c7.all eG.all eV hN)).mono (fun _ _ h=>⟨h.2,h.1⟩)))
             (Ae (Bb rfl rfl rfl (fun _=>rfl) (fun a' w' ph K=>Ac (K.As 10 77 rfl rfl) aH) (fun a' w' ph K=>AL (es ((K.out 11 rfl).trans rfl))))
             (BP _))))))))))))))))))) ?_
         intro jM;rintro _ rfl _ ⟨_,rfl,⟨bF,bG,rfl,c2⟩⟩ _ rfl _ ⟨c0,c1,rfl,eE⟩ _ rfl _ ⟨_,rfl,⟨bH,bI,bJ,bK,rfl,c3,c4⟩⟩ _ rfl _ rfl _ rfl _ rfl _ rfl _ rfl _ ⟨_,rfl,⟨bL,bM,rfl,c7⟩⟩ _ rfl _ ⟨c5,c6,rfl,eG⟩ _ rfl _ rfl _ rfl hO;have hP:=bE.ext hO;refine Aw rfl rfl (Ac rfl aH) rfl (by decide) (fun st=>I5 IC (ee st rfl) (ee st rfl))<|wd rfl (fun st=>AV (v:=.bool (eV==(decide (cG≤y)))) (ee st rfl) aH (ee st rfl))<|wm rfl (v:=.bool (eV==(decide (cG≤y)))) rfl ?_;rcases Ap (eV==(decide (cG≤y))) with c8|c8
         ·replace a:=AD a c8;replace a:=CI a;obtain⟨hQ,a⟩:=a;refine Dt rfl rfl (Ac rfl c8) rfl (by decide) (fun st=>AI Ij (ee st rfl) HA (Np q ZA _ hQ)) ?_;rintro _ jN ⟨hR,rfl⟩;have hS:=hP.ext hR;refine wd rfl (fun st=>AV (v:=.bool true) (ee st rfl) c8 (ee st rfl))<|wa rfl (v:=.bool true) rfl<|Af<|Aa<|AM ?_;have aN:=Option.some.inj a;refine AU rfl rfl ?_;exact⟨hS.Bz,congrArg Value.bool aN⟩
         ·replace a:=AE a c8;exact absurd (Option.some.inj a) (by decide)
        ·replace a:=AE a aH;exact absurd (Option.some.inj a) (by decide)
       ·replace a:=AE a x;refine B9 14 [Kc (.bool aL),Kc (.bool aL),Kc (.agg #[I b.Am,I b.Ak,I b.Ao,I b.Ay,.slice d b.Ad.length e]),Kc (.agg #[.slice k p.Comes.length m,.slice n p.Ao.length o]),Kc (.bool a8),Kc (.bool a8),Kc (.bool a8),Kc undef,Kc undef,Kc undef,Kc undef,Kc undef,Kc undef,Kc undef] mixed rfl rfl
            (Ae (od rfl (fun _=>rfl) (fun K=>AL (es ((K.out 9 rfl).trans rfl))))
            (Ae (od rfl (fun _=>rfl) (fun K=>AL (es (K.As 0 41 rfl rfl))))
            (Ae (Bb rfl rfl rfl (fun _=>rfl) (fun a' w' ph K=>Ac (K.As 1 42 rfl rfl) f) (fun a' w' ph K=>A8 (l:=[I b.Am,I b.Ak,I b.Ao,I b.Ay,.slice d b.Ad.length e]) Dn (es ((K.out 4 rfl).trans rfl)) (aS.ext K.A3) rfl rfl))
            (Ae (Bb rfl rfl rfl (fun _=>rfl) (fun a' w' ph K=>Ac (K.As 1 42 rfl rfl) f) (fun a' w' ph K=>A8 (l:=[.slice k p.Comes.length m,.slice n p.Ao.length o]) Ho (es ((K.out 6 rfl).trans rfl)) (aW.ext K.A3) rfl rfl))
            (Ae (CU rfl rfl rfl (fun a' w' ph K=>Ac (K.As 1 42 rfl rfl) f) (fun a' w' ph K=>(AI Rg rfl (EF (es (K.As 2 43 rfl rfl)) (es (K.As 3 44 rfl rfl))) (a37 q b p d e k m n o ZA _ (aF.mv (Ai K.A3)).all (aP.mv (Ai K.A3)).all (aQ.mv (Ai K.A3)).all a8 fY)).mono (fun _ _ h=>⟨h.2,h.1⟩)))
            (Ae (od rfl (fun _=>rfl) (fun K=>AV (es (K.As 1 42 rfl rfl)) f (es (K.As 4 45 rfl rfl))))
            (Ae (od rfl (fun _=>rfl) (fun K=>AL (es (K.As 5 46 rfl rfl))))
            (Ae (Bj (c:=false) rfl rfl rfl (by decide) (fun a' w' ph K=>Ac (K.As 6 47 rfl rfl) x) (fun _=>rfl))
            (Ae (Bj (c:=false) rfl rfl rfl (by decide) (fun a' w' ph K=>Ac (K.As 6 47 rfl rfl) x) (fun _=>rfl))
            (Ae (Bj (c:=false) rfl rfl rfl (by decide) (fun a' w' ph K=>Ac (K.As 6 47 rfl rfl) x) (fun _=>rfl))
            (Ae (Bj (c:=false) rfl rfl rfl (by decide) (fun a' w' ph K=>Ac (K.As 6 47 rfl rfl) x) (fun _=>rfl))
            (Ae (Bj (c:=false) rfl rfl rfl (by decide) (fun a' w' ph K=>Ac (K.As 6 47 rfl rfl) x) (fun _=>rfl))
            (Ae (Bj (c:=false) rfl rfl rfl (by decide) (fun a' w' ph K=>Ac (K.As 6 47 rfl rfl) x) (fun _=>rfl))
            (Ae (Bj (c:=false) rfl rfl rfl (by decide) (fun a' w' ph K=>Ac (K.As 6 47 rfl rfl) x) (fun _=>rfl))
            (BP _))))))))))))))) ?_
        intro g0;rintro _ rfl _ rfl _ rfl _ rfl _ rfl _ rfl _ rfl _ rfl _ rfl _ rfl _ rfl _ rfl _ rfl _ rfl r;have f4:=eQ.ext r;refine Aj (c:=false) rfl rfl (Ac rfl x) (by decide) rfl (by decide)<|wd rfl (fun st=>Br (v:=.bool false) (ee st rfl) x (ee st rfl))<|wa rfl (v:=.bool false) rfl<|Af<|Aa<|Ag ?_;have c9:=(aS.ext r);have a0:=(aF.mv (Ai r));replace a:=bind_some a;obtain⟨fM,hT,a⟩:=a;have dA:=((aX.mv (Ai aC)).mv (Ai r));replace a:=bind_some a;obtain⟨cJ,hU,a⟩:=a;refine B9 8 [Kc (.bool aL),Kc (.bool aL),Kc (.agg #[I b.Am,I b.Ak,I b.Ao,I b.Ay,.slice d b.Ad.length e]),Kc (.agg #[I b.Am,I b.Ak,I b.Ao,I b.Ay,.slice d b.Ad.length e]),Kv (DX CA) (ZZ FN [] Z w.heap.size [some u,some s]) fM,Kc (.slice g aB.length j),Kc (I cJ),Kc (I y)] mixed rfl rfl
            (Ae (od rfl (fun _=>rfl) (fun K=>AL (es ((K.out 9 rfl).trans rfl))))
            (Ae (od rfl (fun _=>rfl) (fun K=>AL (es (K.As 0 57 rfl rfl))))
            (Ae (Bb rfl rfl rfl (fun _=>rfl) (fun a' w' ph K=>Ac (K.As 1 58 rfl rfl) f) (fun a' w' ph K=>A8 (l:=[I b.Am,I b.Ak,I b.Ao,I b.Ay,.slice d b.Ad.length e]) Dn (es ((K.out 4 rfl).trans rfl)) (c9.ext K.A3) rfl rfl))
            (Ae (Bb rfl rfl rfl (fun _=>rfl) (fun a' w' ph K=>Ac (K.As 1 58 rfl rfl) f) (fun a' w' ph K=>A8 (l:=[I b.Am,I b.Ak,I b.Ao,I b.Ay,.slice d b.Ad.length e]) Dn (es ((K.out 4 rfl).trans rfl)) (c9.ext K.A3) rfl rfl))
            (Ae (CU rfl rfl rfl (fun a' w' ph K=>Ac (K.As 1 58 rfl rfl) f) (fun a' w' ph K=>(AI Rb rfl (Co (es (K.As 3 60 rfl rfl))) (VO q b d e (ZZ FN [] Z w.heap.size [some u,some s]) _ (a0.mv (Ai K.A3)) fM hT)).mono (fun _ _ h=>⟨(DX CA).mv h.2 ((f4.ext K.A3).Cw (Nat.le_refl _)),h.1⟩)))
            (Ae (Bb rfl rfl rfl (fun _=>rfl) (fun a' w' ph K=>Ac (K.As 1 58 rfl rfl) f) (fun a' w' ph K=>AL (es ((K.out 1 rfl).trans aD))))
            (Ae (CU rfl rfl rfl (fun a' w' ph K=>Ac (K.As 1 58 rfl rfl) f) (fun a' w' ph K=>match K.As 4 61 rfl rfl with|⟨dB,dC,gM,eH⟩=>(AI Rc rfl (EM (es (K.As 2 59 rfl rfl)) (es (t:=61) (v:=.slice dB fM.length dC) gM) (es (K.As 5 62 rfl rfl))) (VR q b fM aB d e dB dC g j ZA _ (a0.mv (Ai K.A3)).all eH.all (dA.mv (Ai K.A3)).all cJ hU)).mono (fun _ _ h=>⟨h.2,h.1⟩)))
            (Ae (Bb rfl rfl rfl (fun _=>rfl) (fun a' w' ph K=>Ac (K.As 1 58 rfl rfl) f) (fun a' w' ph K=>AL (es ((K.out 3 rfl).trans aM))))
            (BP _))))))))) ?_
        intro jO;rintro _ rfl _ rfl _ rfl _ rfl _ ⟨dB,dC,rfl,eH⟩ _ rfl _ rfl _ rfl a2;have bN:=f4.ext a2;refine Aw rfl rfl (Ac rfl f) rfl (by decide) (fun st=>EH (ee st rfl) (ee st rfl))<|wd rfl (fun st=>AV (v:=.bool (decide (cJ≤y))) (ee st rfl) f (ee st rfl))<|wa rfl (v:=.bool (decide (cJ≤y))) rfl<|Af<|Aa<|Ag ?_;have eW:=(c9.ext a2);have dD:=(a0.mv (Ai a2));replace a:=bind_some a;obtain⟨cK,hV,a⟩:=a;have dE:=(dA.mv (Ai a2));replace a:=bind_some a;obtain⟨fN,hW,a⟩:=a;have f5:=((aW.ext r).ext a2);have fA:=((aP.mv (Ai r)).mv (Ai a2));have fB:=((aQ.mv (Ai r)).mv (Ai a2));replace a:=bind_some a;obtain⟨eX,hX,a⟩:=a;replace a:=bind_some a;obtain⟨eY,hY,a⟩:=a;rcases Ap (eY==false) with aI|aI
        ·replace a:=AD a aI;replace a:=bind_some a;obtain⟨cL,hZ,a⟩:=a;replace a:=bind_some a;obtain⟨fO,h1,a⟩:=a;replace a:=bind_some a;obtain⟨eZ,h2,a⟩:=a;refine B9 18 [Kc (.agg #[I b.Am,I b.Ak,I b.Ao,I b.Ay,.slice d b.Ad.length e]),Kv (Cx Eu) (ZZ FN [] Z w.heap.size [some u,some s]) cK,Kc (.slice g aB.length j),Kv (DX (BD (AB .i64))) (ZZ FN [] Z w.heap.size [some u,some s]) fN,Kc (.agg #[.slice k p.Comes.length m,.slice n p.Ao.length o]),Kv (Cx CA) (ZZ FN [] Z w.heap.size [some u,some s]) eX,Kc (I y),Kc (.bool eY),Kc (.bool false),Kc (.bool (eY==false)),Kc (.bool (eY==false)),Kc (.agg #[I b.Am,I b.Ak,I b.Ao,I b.Ay,.slice d b.Ad.length e]),Kv (Cx Eu) (ZZ FN [] Z w.heap.size [some u,some s]) cL,Kc (.slice g aB.length j),Kv (DX (BD (AB .i64))) (ZZ FN [] Z w.heap.size [some u,some s]) fO,Kc (I y),Kc (.bool eZ),Kc (.bool (decide (cJ≤y)))] mixed rfl rfl
             (Ae (od rfl (fun _=>rfl) (fun K=>A8 (l:=[I b.Am,I b.Ak,I b.Ao,I b.Ay,.slice d b.Ad.length e]) Dn (es ((K.out 4 rfl).trans rfl)) (eW.ext K.A3) rfl rfl))
             (Ae (Dd rfl rfl (fun a' w' ph K=>(AI Ik rfl (Co (es (K.As 0 67 rfl rfl))) (a31 q b d e (ZZ FN [] Z w.heap.size [some u,some s]) _ (dD.mv (Ai K.A3)) cK hV)).mono (fun _ _ h=>⟨(Cx Eu).mv h.2 ((bN.ext K.A3).Cw (Nat.le_refl _)),h.1⟩)))
             (Ae (od rfl (fun _=>rfl) (fun K=>AL (es ((K.out 1 rfl).trans aD))))
             (Ae (Dd rfl rfl (fun a' w' ph K=>(AI Il rfl (Co (es (K.As 2 69 rfl rfl))) (No q aB g j (ZZ FN [] Z w.heap.size [some u,some s]) _ (dE.mv (Ai K.A3)) fN hW)).mono (fun _ _ h=>⟨(DX (BD (AB .i64))).mv h.2 ((bN.ext K.A3).Cw (Nat.le_refl _)),h.1⟩)))
             (Ae (od rfl (fun _=>rfl) (fun K=>A8 (l:=[.slice k p.Comes.length m,.slice n p.Ao.length o]) Ho (es ((K.out 6 rfl).trans rfl)) (f5.ext K.A3) rfl rfl))
             (Ae (Dd rfl rfl (fun a' w' ph K=>(AI Mr rfl (Co (es (K.As 4 71 rfl rfl))) (SH q p k m n o (ZZ FN [] Z w.heap.size [some u,some s]) _ (fA.mv (Ai K.A3)) (fB.mv (Ai K.A3)) eX hX)).mono (fun _ _ h=>⟨(Cx CA).mv h.2 ((bN.ext K.A3).Cw (Nat.le_refl _)),h.1⟩)))
             (Ae (od rfl (fun _=>rfl) (fun K=>AL (es ((K.out 3 rfl).trans aM))))
             (Ae (Dd rfl rfl (fun a' w' ph K=>match K.As 3 70 rfl rfl with|⟨dF,dG,gN,eI⟩=>by obtain⟨_,gO,⟨bO,bP,rfl,dH⟩⟩:=K.As 1 68 rfl rfl;obtain⟨_,gP,⟨bQ,bR,bS,bT,rfl,dI,dJ⟩⟩:=K.As 5 72 rfl rfl;exact(AI KW rfl (ND (es (t:=68) (v:=.agg #[I cK.Am,I cK.Ak,I cK.Ao,I cK.Ay,.slice bO cK.Ad.length bP]) gO) (es (t:=70) (v:=.slice dF fN.length dG) gN) (es (t:=72) (v:=.agg #[.slice bQ eX.Comes.length bR,.slice bS eX.Ao.length bT]) gP) (es (K.As 6 73 rfl rfl))) (Ri q cK fN eX y bO bP dF dG bQ bR bS bT ZA _ dH.all eI.all dI.all dJ.all eY hY)).mono (fun _ _ h=>⟨h.2,h.1⟩)))
             (Ae (od rfl (fun _=>rfl) (fun K=>AL (es ((K.out 10 rfl).trans rfl))))
             (Ae (od rfl (fun _=>rfl) (fun K=>I5 IC (es (K.As 7 74 rfl rfl)) (es (K.As 8 75 rfl rfl))))
             (Ae (od rfl (fun _=>rfl) (fun K=>AL (es (K.As 9 76 rfl rfl))))
             (Ae (Bb rfl rfl rfl (fun _=>rfl) (fun a' w' ph K=>Ac (K.As 10 77 rfl rfl) aI) (fun a' w' ph K=>A8 (l:=[I b.Am,I b.Ak,I b.Ao,I b.Ay,.slice d b.Ad.length e]) Dn (es ((K.out 4 rfl).trans rfl)) (eW.ext K.A3) rfl rfl))
             (Ae (CU rfl rfl rfl (fun a' w' ph K=>Ac (K.As 10 77 rfl rfl) aI) (fun a' w' ph K=>(AI Ik rfl (Co (es (K.As 11 78 rfl rfl))) (a31 q b d e (ZZ FN [] Z w.heap.size [some u,some s]) _ (dD.mv (Ai K.A3)) cL hZ)).mono (fun _ _ h=>⟨(Cx Eu).mv h.2 ((bN.ext K.A3).Cw (Nat.le_refl _)),h.1⟩)))
             (Ae (Bb rfl rfl rfl (fun _=>rfl) (fun a' w' ph K=>Ac (K.As 10 77 rfl rfl) aI) (fun a' w' ph K=>AL (es ((K.out 1 rfl).trans aD))))
             (Ae (CU rfl rfl rfl (fun a' w' ph K=>Ac (K.As 10 77 rfl rfl) aI) (fun a' w' ph K=>(AI Il rfl (Co (es (K.As 13 80 rfl rfl))) (No q aB g j (ZZ FN [] Z w.heap.size [some u,some s]) _ (dE.mv (Ai K.A3)) fO h1)).mono (fun _ _ h=>⟨(DX (BD (AB .i64))).mv h.2 ((bN.ext K.A3).Cw (Nat.le_refl _)),h.1⟩)))
             (Ae (Bb rfl rfl rfl (fun _=>rfl) (fun a' w' ph K=>Ac (K.As 10 77 rfl rfl) aI) (fun a' w' ph K=>AL (es ((K.out 3 rfl).trans aM))))
             (Ae (CU rfl rfl rfl (fun a' w' ph K=>Ac (K.As 10 77 rfl rfl) aI) (fun a' w' ph K=>match K.As 14 81 rfl rfl with|⟨dK,dL,f6,eJ⟩=>by obtain⟨_,f7,⟨bU,bV,rfl,dM⟩⟩:=K.As 12 79 rfl rfl;exact(AI KX rfl (EM (es (t:=79) (v:=.agg #[I cL.Am,I cL.Ak,I cL.Ao,I cL.Ay,.slice bU cL.Ad.length bV]) f7) (es (t:=81) (v:=.slice dK fO.length dL) f6) (es (K.As 15 82 rfl rfl))) (a49 q cL fO y bU bV dK dL ZA _ dM.all eJ.all eZ h2)).mono (fun _ _ h=>⟨h.2,h.1⟩)))
             (Ae (Bb rfl rfl rfl (fun _=>rfl) (fun a' w' ph K=>Ac (K.As 10 77 rfl rfl) aI) (fun a' w' ph K=>AL (es ((K.out 11 rfl).trans rfl))))
             (BP _))))))))))))))))))) ?_
         intro jP;rintro _ rfl _ ⟨_,rfl,⟨bO,bP,rfl,dH⟩⟩ _ rfl _ ⟨dF,dG,rfl,eI⟩ _ rfl _ ⟨_,rfl,⟨bQ,bR,bS,bT,rfl,dI,dJ⟩⟩ _ rfl _ rfl _ rfl _ rfl _ rfl _ rfl _ ⟨_,rfl,⟨bU,bV,rfl,dM⟩⟩ _ rfl _ ⟨dK,dL,rfl,eJ⟩ _ rfl _ rfl _ rfl h3;have h4:=bN.ext h3;refine Aw rfl rfl (Ac rfl aI) rfl (by decide) (fun st=>I5 IC (ee st rfl) (ee st rfl))<|wd rfl (fun st=>AV (v:=.bool (eZ==(decide (cJ≤y)))) (ee st rfl) aI (ee st rfl))<|wm rfl (v:=.bool (eZ==(decide (cJ≤y)))) rfl ?_;rcases Ap (eZ==(decide (cJ≤y))) with dN|dN
         ·replace a:=AD a dN;replace a:=CI a;obtain⟨h5,a⟩:=a;refine Dt rfl rfl (Ac rfl dN) rfl (by decide) (fun st=>AI Ij (ee st rfl) HA (Np q ZA _ h5)) ?_;rintro _ jQ ⟨h6,rfl⟩;have h7:=h4.ext h6;refine wd rfl (fun st=>AV (v:=.bool true) (ee st rfl) dN (ee st rfl))<|wa rfl (v:=.bool true) rfl<|Af<|Aa<|AM ?_;have aN:=Option.some.inj a;refine AU rfl rfl ?_;exact⟨h7.Bz,congrArg Value.bool aN⟩
         ·replace a:=AE a dN;exact absurd (Option.some.inj a) (by decide)
        ·replace a:=AE a aI;exact absurd (Option.some.inj a) (by decide)
      ·replace a:=AE a f;refine B9 14 [Kc (.bool aL),Kc (.bool aL),Kc undef,Kc undef,Kc undef,Kc (.bool false),Kc (.bool false),Kc undef,Kc undef,Kc undef,Kc undef,Kc undef,Kc undef,Kc undef] mixed rfl rfl
           (Ae (od rfl (fun _=>rfl) (fun K=>AL (es ((K.out 9 rfl).trans rfl))))
           (Ae (od rfl (fun _=>rfl) (fun K=>AL (es (K.As 0 41 rfl rfl))))
           (Ae (Bj (c:=false) rfl rfl rfl (by decide) (fun a' w' ph K=>Ac (K.As 1 42 rfl rfl) f) (fun _=>rfl))
           (Ae (Bj (c:=false) rfl rfl rfl (by decide) (fun a' w' ph K=>Ac (K.As 1 42 rfl rfl) f) (fun _=>rfl))
           (Ae (Bj (c:=false) rfl rfl rfl (by decide) (fun a' w' ph K=>Ac (K.As 1 42 rfl rfl) f) (fun _=>rfl))
           (Ae (od rfl (fun _=>rfl) (fun K=>Br (es (K.As 1 42 rfl rfl)) f (ec (v:=.bool false))))
           (Ae (od rfl (fun _=>rfl) (fun K=>AL (es (K.As 5 46 rfl rfl))))
           (Ae (Bj (c:=false) rfl rfl rfl (by decide) (fun a' w' ph K=>(show sl a' 47=.bool false from K.As 6 47 rfl rfl)) (fun _=>rfl))
           (Ae (Bj (c:=false) rfl rfl rfl (by decide) (fun a' w' ph K=>(show sl a' 47=.bool false from K.As 6 47 rfl rfl)) (fun _=>rfl))
           (Ae (Bj (c:=false) rfl rfl rfl (by decide) (fun a' w' ph K=>(show sl a' 47=.bool false from K.As 6 47 rfl rfl)) (fun _=>rfl))
           (Ae (Bj (c:=false) rfl rfl rfl (by decide) (fun a' w' ph K=>(show sl a' 47=.bool false from K.As 6 47 rfl rfl)) (fun _=>rfl))
           (Ae (Bj (c:=false) rfl rfl rfl (by decide) (fun a' w' ph K=>(show sl a' 47=.bool false from K.As 6 47 rfl rfl)) (fun _=>rfl))
           (Ae (Bj (c:=false) rfl rfl rfl (by decide) (fun a' w' ph K=>(show sl a' 47=.bool false from K.As 6 47 rfl rfl)) (fun _=>rfl))
           (Ae (Bj (c:=false) rfl rfl rfl (by decide) (fun a' w' ph K=>(show sl a' 47=.bool false from K.As 6 47 rfl rfl)) (fun _=>rfl))
           (BP _))))))))))))))) ?_
       intro g0;rintro _ rfl _ rfl _ rfl _ rfl _ rfl _ rfl _ rfl _ rfl _ rfl _ rfl _ rfl _ rfl _ rfl _ rfl r;have h8:=eQ.ext r;refine Aj rfl rfl rfl (by decide) rfl (by decide)<|wd rfl (fun st=>Br (v:=.bool false) (ee st rfl) rfl (ee st rfl))<|wa rfl (v:=.bool false) rfl<|Af<|Aa<|Ag ?_;refine B9 8 [Kc (.bool aL),Kc (.bool aL),Kc undef,Kc undef,Kc undef,Kc undef,Kc undef,Kc undef] mixed rfl rfl
           (Ae (od rfl (fun _=>rfl) (fun K=>AL (es ((K.out 9 rfl).trans rfl))))
           (Ae (od rfl (fun _=>rfl) (fun K=>AL (es (K.As 0 57 rfl rfl))))
           (Ae (Bj (c:=false) rfl rfl rfl (by decide) (fun a' w' ph K=>Ac (K.As 1 58 rfl rfl) f) (fun _=>rfl))
           (Ae (Bj (c:=false) rfl rfl rfl (by decide) (fun a' w' ph K=>Ac (K.As 1 58 rfl rfl) f) (fun _=>rfl))
           (Ae (Bj (c:=false) rfl rfl rfl (by decide) (fun a' w' ph K=>Ac (K.As 1 58 rfl rfl) f) (fun _=>rfl))
           (Ae (Bj (c:=false) rfl rfl rfl (by decide) (fun a' w' ph K=>Ac (K.As 1 58 rfl rfl) f) (fun _=>rfl))
           (Ae (Bj (c:=false) rfl rfl rfl (by decide) (fun a' w' ph K=>Ac (K.As 1 58 rfl rfl) f) (fun _=>rfl))
           (Ae (Bj (c:=false) rfl rfl rfl (by decide) (fun a' w' ph K=>Ac (K.As 1 58 rfl rfl) f) (fun _=>rfl))
           (BP _))))))))) ?_
       intro jR;rintro _ rfl _ rfl _ rfl _ rfl _ rfl _ rfl _ rfl _ rfl a3;have bW:=h8.ext a3;refine Aj (c:=false) rfl rfl (Ac rfl f) (by decide) rfl (by decide)<|wd rfl (fun st=>Br (v:=.bool false) (ee st rfl) f (ee st rfl))<|wa rfl (v:=.bool false) rfl<|Af<|Aa<|Ag ?_;have e0:=(((eP.ext aC).ext r).ext a3);have dO:=(((bD.mv (Ai aC)).mv (Ai r)).mv (Ai a3));replace a:=bind_some a;obtain⟨cM,iA,a⟩:=a;have dP:=(((aX.mv (Ai aC)).mv (Ai r)).mv (Ai a3));replace a:=bind_some a;obtain⟨fP,iB,a⟩:=a;have f8:=((((a7.ext z).ext aC).ext r).ext a3);have fC:=((((((((a9.mv (Ax aU)).mv (Ax aT)).mv (Ai aV)).mv (Ai aG)).mv (Ai z)).mv (Ai aC)).mv (Ai r)).mv (Ai a3));have fD:=((((((((bA.mv (Ax aU)).mv (Ax aT)).mv (Ai aV)).mv (Ai aG)).mv (Ai z)).mv (Ai aC)).mv (Ai r)).mv (Ai a3));replace a:=bind_some a;obtain⟨e1,iC,a⟩:=a;replace a:=bind_some a;obtain⟨e2,iD,a⟩:=a;rcases Ap (e2==false) with aJ|aJ
       ·replace a:=AD a aJ;replace a:=bind_some a;obtain⟨cN,iE,a⟩:=a;replace a:=bind_some a;obtain⟨fQ,iF,a⟩:=a;replace a:=bind_some a;obtain⟨e3,iG,a⟩:=a;refine B9 18 [Kc (.agg #[I b.Am,I b.Ak,I b.Ao,I b.Ay,.slice d b.Ad.length e]),Kv (Cx Eu) (ZZ FN [] Z w.heap.size [some u,some s]) cM,Kc (.slice g aB.length j),Kv (DX (BD (AB .i64))) (ZZ FN [] Z w.heap.size [some u,some s]) fP,Kc (.agg #[.slice k p.Comes.length m,.slice n p.Ao.length o]),Kv (Cx CA) (ZZ FN [] Z w.heap.size [some u,some s]) e1,Kc (I y),Kc (.bool e2),Kc (.bool false),Kc (.bool (e2==false)),Kc (.bool (e2==false)),Kc (.agg #[I b.Am,I b.Ak,I b.Ao,I b.Ay,.slice d b.Ad.length e]),Kv (Cx Eu) (ZZ FN [] Z w.heap.size [some u,some s]) cN,Kc (.slice g aB.length j),Kv (DX (BD (AB .i64))) (ZZ FN [] Z w.heap.size [some u,some s]) fQ,Kc (I y),Kc (.bool e3),Kc (.bool false)] mixed rfl rfl
            (Ae (od rfl (fun _=>rfl) (fun K=>A8 (l:=[I b.Am,I b.Ak,I b.Ao,I b.Ay,.slice d b.Ad.length e]) Dn (es ((K.out 4 rfl).trans rfl)) (e0.ext K.A3) rfl rfl))
            (Ae (Dd rfl rfl (fun a' w' ph K=>(AI Ik rfl (Co (es (K.As 0 67 rfl rfl))) (a31 q b d e (ZZ FN [] Z w.heap.size [some u,some s]) _ (dO.mv (Ai K.A3)) cM iA)).mono (fun _ _ h=>⟨(Cx Eu).mv h.2 ((bW.ext K.A3).Cw (Nat.le_refl _)),h.1⟩)))
            (Ae (od rfl (fun _=>rfl) (fun K=>AL (es ((K.out 1 rfl).trans aD))))
            (Ae (Dd rfl rfl (fun a' w' ph K=>(AI Il rfl (Co (es (K.As 2 69 rfl rfl))) (No q aB g j (ZZ FN [] Z w.heap.size [some u,some s]) _ (dP.mv (Ai K.A3)) fP iB)).mono (fun _ _ h=>⟨(DX (BD (AB .i64))).mv h.2 ((bW.ext K.A3).Cw (Nat.le_refl _)),h.1⟩)))
            (Ae (od rfl (fun _=>rfl) (fun K=>A8 (l:=[.slice k p.Comes.length m,.slice n p.Ao.length o]) Ho (es ((K.out 6 rfl).trans rfl)) (f8.ext K.A3) rfl rfl))
            (Ae (Dd rfl rfl (fun a' w' ph K=>(AI Mr rfl (Co (es (K.As 4 71 rfl rfl))) (SH q p k m n o (ZZ FN [] Z w.heap.size [some u,some s]) _ (fC.mv (Ai K.A3)) (fD.mv (Ai K.A3)) e1 iC)).mono (fun _ _ h=>⟨(Cx CA).mv h.2 ((bW.ext K.A3).Cw (Nat.le_refl _)),h.1⟩)))
            (Ae (od rfl (fun _=>rfl) (fun K=>AL (es ((K.out 3 rfl).trans aM))))
            (Ae (Dd rfl rfl (fun a' w' ph K=>match K.As 3 70 rfl rfl with|⟨dQ,dR,gQ,eK⟩=>by obtain⟨_,gR,⟨bX,bY,rfl,dS⟩⟩:=K.As 1 68 rfl rfl;obtain⟨_,gS,⟨bZ,b1,b2,b3,rfl,dT,dU⟩⟩:=K.As 5 72 rfl rfl;exact(AI KW rfl (ND (es (t:=68) (v:=.agg #[I cM.Am,I cM.Ak,I cM.Ao,I cM.Ay,.slice bX cM.Ad.length bY]) gR) (es (t:=70) (v:=.slice dQ fP.length dR) gQ) (es (t:=72) (v:=.agg #[.slice bZ e1.Comes.length b1,.slice b2 e1.Ao.length b3]) gS) (es (K.As 6 73 rfl rfl))) (Ri q cM fP e1 y bX bY dQ dR bZ b1 b2 b3 ZA _ dS.all eK.all dT.all dU.all e2 iD)).mono (fun _ _ h=>⟨h.2,h.1⟩)))
            (Ae (od rfl (fun _=>rfl) (fun K=>AL (es ((K.out 10 rfl).trans rfl))))
            (Ae (od rfl (fun _=>rfl) (fun K=>I5 IC (es (K.As 7 74 rfl rfl)) (es (K.As 8 75 rfl rfl))))
            (Ae (od rfl (fun _=>rfl) (fun K=>AL (es (K.As 9 76 rfl rfl))))
            (Ae (Bb rfl rfl rfl (fun _=>rfl) (fun a' w' ph K=>Ac (K.As 10 77 rfl rfl) aJ) (fun a' w' ph K=>A8 (l:=[I b.Am,I b.Ak,I b.Ao,I b.Ay,.slice d b.Ad.length e]) Dn (es ((K.out 4 rfl).trans rfl)) (e0.ext K.A3) rfl rfl))
            (Ae (CU rfl rfl rfl (fun a' w' ph K=>Ac (K.As 10 77 rfl rfl) aJ) (fun a' w' ph K=>(AI Ik rfl (Co (es (K.As 11 78 rfl rfl))) (a31 q b d e (ZZ FN [] Z w.heap.size [some u,some s]) _ (dO.mv (Ai K.A3)) cN iE)).mono (fun _ _ h=>⟨(Cx Eu).mv h.2 ((bW.ext K.A3).Cw (Nat.le_refl _)),h.1⟩)))
            (Ae (Bb rfl rfl rfl (fun _=>rfl) (fun a' w' ph K=>Ac (K.As 10 77 rfl rfl) aJ) (fun a' w' ph K=>AL (es ((K.out 1 rfl).trans aD))))
            (Ae (CU rfl rfl rfl (fun a' w' ph K=>Ac (K.As 10 77 rfl rfl) aJ) (fun a' w' ph K=>(AI Il rfl (Co (es (K.As 13 80 rfl rfl))) (No q aB g j (ZZ FN [] Z w.heap.size [some u,some s]) _ (dP.mv (Ai K.A3)) fQ iF)).mono (fun _ _ h=>⟨(DX (BD (AB .i64))).mv h.2 ((bW.ext K.A3).Cw (Nat.le_refl _)),h.1⟩)))
            (Ae (Bb rfl rfl rfl (fun _=>rfl) (fun a' w' ph K=>Ac (K.As 10 77 rfl rfl) aJ) (fun a' w' ph K=>AL (es ((K.out 3 rfl).trans aM))))
            (Ae (CU rfl rfl rfl (fun a' w' ph K=>Ac (K.As 10 77 rfl rfl) aJ) (fun a' w' ph K=>match K.As 14 81 rfl rfl with|⟨dV,dW,f9,eL⟩=>by obtain⟨_,gA,⟨b4,b5,rfl,dX⟩⟩:=K.As 12 79 rfl rfl;exact(AI KX rfl (EM (es (t:=79) (v:=.agg #[I cN.Am,I cN.Ak,I cN.Ao,I cN.Ay,.slice b4 cN.Ad.length b5]) gA) (es (t:=81) (v:=.slice dV fQ.length dW) f9) (es (K.As 15 82 rfl rfl))) (a49 q cN fQ y b4 b5 dV dW ZA _ dX.all eL.all e3 iG)).mono (fun _ _ h=>⟨h.2,h.1⟩)))
            (Ae (Bb rfl rfl rfl (fun _=>rfl) (fun a' w' ph K=>Ac (K.As 10 77 rfl rfl) aJ) (fun a' w' ph K=>AL (es ((K.out 11 rfl).trans rfl))))
            (BP _))))))))))))))))))) ?_
        intro jS;rintro _ rfl _ ⟨_,rfl,⟨bX,bY,rfl,dS⟩⟩ _ rfl _ ⟨dQ,dR,rfl,eK⟩ _ rfl _ ⟨_,rfl,⟨bZ,b1,b2,b3,rfl,dT,dU⟩⟩ _ rfl _ rfl _ rfl _ rfl _ rfl _ rfl _ ⟨_,rfl,⟨b4,b5,rfl,dX⟩⟩ _ rfl _ ⟨dV,dW,rfl,eL⟩ _ rfl _ rfl _ rfl iH;have iI:=bW.ext iH;refine Aw rfl rfl (Ac rfl aJ) rfl (by decide) (fun st=>I5 IC (ee st rfl) (ee st rfl))<|wd rfl (fun st=>AV (v:=.bool (e3==false)) (ee st rfl) aJ (ee st rfl))<|wm rfl (v:=.bool (e3==false)) rfl ?_;rcases Ap (e3==false) with dY|dY
        ·replace a:=AD a dY;replace a:=CI a;obtain⟨iJ,a⟩:=a;refine Dt rfl rfl (Ac rfl dY) rfl (by decide) (fun st=>AI Ij (ee st rfl) HA (Np q ZA _ iJ)) ?_;rintro _ jT ⟨iK,rfl⟩;have iL:=iI.ext iK;refine wd rfl (fun st=>AV (v:=.bool true) (ee st rfl) dY (ee st rfl))<|wa rfl (v:=.bool true) rfl<|Af<|Aa<|AM ?_;have aN:=Option.some.inj a;refine AU rfl rfl ?_;exact⟨iL.Bz,congrArg Value.bool aN⟩
        ·replace a:=AE a dY;exact absurd (Option.some.inj a) (by decide)
       ·replace a:=AE a aJ;exact absurd (Option.some.inj a) (by decide)
     ·replace a:=AE a aO;refine Aj (c:=false) rfl rfl (Ac rfl aO) (by decide) rfl (by decide)<|Aj (c:=false) rfl rfl (Ac rfl aO) (by decide) rfl (by decide)<|Aj (c:=false) rfl rfl (Ac rfl aO) (by decide) rfl (by decide)<|wd rfl (fun st=>Br (v:=.bool false) (ee st rfl) aO (ee st rfl))<|wa rfl (v:=.bool false) rfl<|Af<|Aa<|Ag ?_;refine B9 14 [Kc (.bool false),Kc (.bool false),Kc undef,Kc undef,Kc undef,Kc (.bool false),Kc (.bool false),Kc undef,Kc undef,Kc undef,Kc undef,Kc undef,Kc undef,Kc undef] mixed rfl rfl
          (Ae (od rfl (fun _=>rfl) (fun K=>AL (es ((K.out 9 rfl).trans rfl))))
          (Ae (od rfl (fun _=>rfl) (fun K=>AL (es (K.As 0 41 rfl rfl))))
          (Ae (Bj (c:=false) rfl rfl rfl (by decide) (fun a' w' ph K=>(show sl a' 42=.bool false from K.As 1 42 rfl rfl)) (fun _=>rfl))
          (Ae (Bj (c:=false) rfl rfl rfl (by decide) (fun a' w' ph K=>(show sl a' 42=.bool false from K.As 1 42 rfl rfl)) (fun _=>rfl))
          (Ae (Bj (c:=false) rfl rfl rfl (by decide) (fun a' w' ph K=>(show sl a' 42=.bool false from K.As 1 42 rfl rfl)) (fun _=>rfl))
          (Ae (od rfl (fun _=>rfl) (fun K=>Br (es (K.As 1 42 rfl rfl)) rfl (ec (v:=.bool false))))
          (Ae (od rfl (fun _=>rfl) (fun K=>AL (es (K.As 5 46 rfl rfl))))
          (Ae (Bj (c:=false) rfl rfl rfl (by decide) (fun a' w' ph K=>(show sl a' 47=.bool false from K.As 6 47 rfl rfl)) (fun _=>rfl))
          (Ae (Bj (c:=false) rfl rfl rfl (by decide) (fun a' w' ph K=>(show sl a' 47=.bool false from K.As 6 47 rfl rfl)) (fun _=>rfl))
          (Ae (Bj (c:=false) rfl rfl rfl (by decide) (fun a' w' ph K=>(show sl a' 47=.bool false from K.As 6 47 rfl rfl)) (fun _=>rfl))
          (Ae (Bj (c:=false) rfl rfl rfl (by decide) (fun a' w' ph K=>(show sl a' 47=.bool false from K.As 6 47 rfl rfl)) (fun _=>rfl))
          (Ae (Bj (c:=false) rfl rfl rfl (by decide) (fun a' w' ph K=>(show sl a' 47=.bool false from K.As 6 47 rfl rfl)) (fun _=>rfl))
          (Ae (Bj (c:=false) rfl rfl rfl (by decide) (fun a' w' ph K=>(show sl a' 47=.bool false from K.As 6 47 rfl rfl)) (fun _=>rfl))
          (Ae (Bj (c:=false) rfl rfl rfl (by decide) (fun a' w' ph K=>(show sl a' 47=.bool false from K.As 6 47 rfl rfl)) (fun _=>rfl))
          (BP _))))))))))))))) ?_
      intro jU;rintro _ rfl _ rfl _ rfl _ rfl _ rfl _ rfl _ rfl _ rfl _ rfl _ rfl _ rfl _ rfl _ rfl _ rfl a4;have iM:=gZ.ext a4;refine Aj rfl rfl rfl (by decide) rfl (by decide)<|wd rfl (fun st=>Br (v:=.bool false) (ee st rfl) rfl (ee st rfl))<|wa rfl (v:=.bool false) rfl<|Af<|Aa<|Ag ?_;refine B9 8 [Kc (.bool false),Kc (.bool false),Kc undef,Kc undef,Kc undef,Kc undef,Kc undef,Kc undef] mixed rfl rfl
          (Ae (od rfl (fun _=>rfl) (fun K=>AL (es ((K.out 9 rfl).trans rfl))))
          (Ae (od rfl (fun _=>rfl) (fun K=>AL (es (K.As 0 57 rfl rfl))))
          (Ae (Bj (c:=false) rfl rfl rfl (by decide) (fun a' w' ph K=>(show sl a' 58=.bool false from K.As 1 58 rfl rfl)) (fun _=>rfl))
          (Ae (Bj (c:=false) rfl rfl rfl (by decide) (fun a' w' ph K=>(show sl a' 58=.bool false from K.As 1 58 rfl rfl)) (fun _=>rfl))
          (Ae (Bj (c:=false) rfl rfl rfl (by decide) (fun a' w' ph K=>(show sl a' 58=.bool false from K.As 1 58 rfl rfl)) (fun _=>rfl))
          (Ae (Bj (c:=false) rfl rfl rfl (by decide) (fun a' w' ph K=>(show sl a' 58=.bool false from K.As 1 58 rfl rfl)) (fun _=>rfl))
          (Ae (Bj (c:=false) rfl rfl rfl (by decide) (fun a' w' ph K=>(show sl a' 58=.bool false from K.As 1 58 rfl rfl)) (fun _=>rfl))
          (Ae (Bj (c:=false) rfl rfl rfl (by decide) (fun a' w' ph K=>(show sl a' 58=.bool false from K.As 1 58 rfl rfl)) (fun _=>rfl))
          (BP _))))))))) ?_
      intro jV;rintro _ rfl _ rfl _ rfl _ rfl _ rfl _ rfl _ rfl _ rfl a5;have b6:=iM.ext a5;refine Aj rfl rfl rfl (by decide) rfl (by decide)<|wd rfl (fun st=>Br (v:=.bool false) (ee st rfl) rfl (ee st rfl))<|wa rfl (v:=.bool false) rfl<|Af<|Aa<|Ag ?_;have e4:=(((eO.ext z).ext a4).ext a5);have dZ:=(((bC.mv (Ai z)).mv (Ai a4)).mv (Ai a5));replace a:=bind_some a;obtain⟨cO,iN,a⟩:=a;have d0:=((((bB.mv (Ai aG)).mv (Ai z)).mv (Ai a4)).mv (Ai a5));replace a:=bind_some a;obtain⟨fR,iO,a⟩:=a;have gB:=(((a7.ext z).ext a4).ext a5);have fE:=(((((((a9.mv (Ax aU)).mv (Ax aT)).mv (Ai aV)).mv (Ai aG)).mv (Ai z)).mv (Ai a4)).mv (Ai a5));have fF:=(((((((bA.mv (Ax aU)).mv (Ax aT)).mv (Ai aV)).mv (Ai aG)).mv (Ai z)).mv (Ai a4)).mv (Ai a5));replace a:=bind_some a;obtain⟨e5,iP,a⟩:=a;replace a:=bind_some a;obtain⟨e6,iQ,a⟩:=a;rcases Ap (e6==false) with aK|aK
      ·replace a:=AD a aK;replace a:=bind_some a;obtain⟨cP,iR,a⟩:=a;replace a:=bind_some a;obtain⟨fS,iS,a⟩:=a;replace a:=bind_some a;obtain⟨e7,iT,a⟩:=a;refine B9 18 [Kc (.agg #[I b.Am,I b.Ak,I b.Ao,I b.Ay,.slice d b.Ad.length e]),Kv (Cx Eu) (ZZ FN [] Z w.heap.size [some u,some s]) cO,Kc (.slice g aB.length j),Kv (DX (BD (AB .i64))) (ZZ FN [] Z w.heap.size [some u,some s]) fR,Kc (.agg #[.slice k p.Comes.length m,.slice n p.Ao.length o]),Kv (Cx CA) (ZZ FN [] Z w.heap.size [some u,some s]) e5,Kc (I y),Kc (.bool e6),Kc (.bool false),Kc (.bool (e6==false)),Kc (.bool (e6==false)),Kc (.agg #[I b.Am,I b.Ak,I b.Ao,I b.Ay,.slice d b.Ad.length e]),Kv (Cx Eu) (ZZ FN [] Z w.heap.size [some u,some s]) cP,Kc (.slice g aB.length j),Kv (DX (BD (AB .i64))) (ZZ FN [] Z w.heap.size [some u,some s]) fS,Kc (I y),Kc (.bool e7),Kc (.bool false)] mixed rfl rfl
           (Ae (od rfl (fun _=>rfl) (fun K=>A8 (l:=[I b.Am,I b.Ak,I b.Ao,I b.Ay,.slice d b.Ad.length e]) Dn (es ((K.out 4 rfl).trans rfl)) (e4.ext K.A3) rfl rfl))
           (Ae (Dd rfl rfl (fun a' w' ph K=>(AI Ik rfl (Co (es (K.As 0 67 rfl rfl))) (a31 q b d e (ZZ FN [] Z w.heap.size [some u,some s]) _ (dZ.mv (Ai K.A3)) cO iN)).mono (fun _ _ h=>⟨(Cx Eu).mv h.2 ((b6.ext K.A3).Cw (Nat.le_refl _)),h.1⟩)))
           (Ae (od rfl (fun _=>rfl) (fun K=>AL (es ((K.out 1 rfl).trans aD))))
           (Ae (Dd rfl rfl (fun a' w' ph K=>(AI Il rfl (Co (es (K.As 2 69 rfl rfl))) (No q aB g j (ZZ FN [] Z w.heap.size [some u,some s]) _ (d0.mv (Ai K.A3)) fR iO)).mono (fun _ _ h=>⟨(DX (BD (AB .i64))).mv h.2 ((b6.ext K.A3).Cw (Nat.le_refl _)),h.1⟩)))
           (Ae (od rfl (fun _=>rfl) (fun K=>A8 (l:=[.slice k p.Comes.length m,.slice n p.Ao.length o]) Ho (es ((K.out 6 rfl).trans rfl)) (gB.ext K.A3) rfl rfl))
           (Ae (Dd rfl rfl (fun a' w' ph K=>(AI Mr rfl (Co (es (K.As 4 71 rfl rfl))) (SH q p k m n o (ZZ FN [] Z w.heap.size [some u,some s]) _ (fE.mv (Ai K.A3)) (fF.mv (Ai K.A3)) e5 iP)).mono (fun _ _ h=>⟨(Cx CA).mv h.2 ((b6.ext K.A3).Cw (Nat.le_refl _)),h.1⟩)))
           (Ae (od rfl (fun _=>rfl) (fun K=>AL (es ((K.out 3 rfl).trans aM))))
           (Ae (Dd rfl rfl (fun a' w' ph K=>match K.As 3 70 rfl rfl with|⟨d1,d2,gT,eM⟩=>by obtain⟨_,gU,⟨b7,b8,rfl,d3⟩⟩:=K.As 1 68 rfl rfl;obtain⟨_,gV,⟨b9,cA,cB,cC,rfl,d4,d5⟩⟩:=K.As 5 72 rfl rfl;exact(AI KW rfl (ND (es (t:=68) (v:=.agg #[I cO.Am,I cO.Ak,I cO.Ao,I cO.Ay,.slice b7 cO.Ad.length b8]) gU) (es (t:=70) (v:=.slice d1 fR.length d2) gT) (es (t:=72) (v:=.agg #[.slice b9 e5.Comes.length cA,.slice cB e5.Ao.length cC]) gV) (es (K.As 6 73 rfl rfl))) (Ri q cO fR e5 y b7 b8 d1 d2 b9 cA cB cC ZA _ d3.all eM.all d4.all d5.all e6 iQ)).mono (fun _ _ h=>⟨h.2,h.1⟩)))
           (Ae (od rfl (fun _=>rfl) (fun K=>AL (es ((K.out 10 rfl).trans rfl))))
           (Ae (od rfl (fun _=>rfl) (fun K=>I5 IC (es (K.As 7 74 rfl rfl)) (es (K.As 8 75 rfl rfl))))
           (Ae (od rfl (fun _=>rfl) (fun K=>AL (es (K.As 9 76 rfl rfl))))
           (Ae (Bb rfl rfl rfl (fun _=>rfl) (fun a' w' ph K=>Ac (K.As 10 77 rfl rfl) aK) (fun a' w' ph K=>A8 (l:=[I b.Am,I b.Ak,I b.Ao,I b.Ay,.slice d b.Ad.length e]) Dn (es ((K.out 4 rfl).trans rfl)) (e4.ext K.A3) rfl rfl))
           (Ae (CU rfl rfl rfl (fun a' w' ph K=>Ac (K.As 10 77 rfl rfl) aK) (fun a' w' ph K=>(AI Ik rfl (Co (es (K.As 11 78 rfl rfl))) (a31 q b d e (ZZ FN [] Z w.heap.size [some u,some s]) _ (dZ.mv (Ai K.A3)) cP iR)).mono (fun _ _ h=>⟨(Cx Eu).mv h.2 ((b6.ext K.A3).Cw (Nat.le_refl _)),h.1⟩)))
           (Ae (Bb rfl rfl rfl (fun _=>rfl) (fun a' w' ph K=>Ac (K.As 10 77 rfl rfl) aK) (fun a' w' ph K=>AL (es ((K.out 1 rfl).trans aD))))
           (Ae (CU rfl rfl rfl (fun a' w' ph K=>Ac (K.As 10 77 rfl rfl) aK) (fun a' w' ph K=>(AI Il rfl (Co (es (K.As 13 80 rfl rfl))) (No q aB g j (ZZ FN [] Z w.heap.size [some u,some s]) _ (d0.mv (Ai K.A3)) fS iS)).mono (fun _ _ h=>⟨(DX (BD (AB .i64))).mv h.2 ((b6.ext K.A3).Cw (Nat.le_refl _)),h.1⟩)))
           (Ae (Bb rfl rfl rfl (fun _=>rfl) (fun a' w' ph K=>Ac (K.As 10 77 rfl rfl) aK) (fun a' w' ph K=>AL (es ((K.out 3 rfl).trans aM))))
           (Ae (CU rfl rfl rfl (fun a' w' ph K=>Ac (K.As 10 77 rfl rfl) aK) (fun a' w' ph K=>match K.As 14 81 rfl rfl with|⟨d6,d7,gC,eN⟩=>by obtain⟨_,gD,⟨cD,cE,rfl,d8⟩⟩:=K.As 12 79 rfl rfl;exact(AI KX rfl (EM (es (t:=79) (v:=.agg #[I cP.Am,I cP.Ak,I cP.Ao,I cP.Ay,.slice cD cP.Ad.length cE]) gD) (es (t:=81) (v:=.slice d6 fS.length d7) gC) (es (K.As 15 82 rfl rfl))) (a49 q cP fS y cD cE d6 d7 ZA _ d8.all eN.all e7 iT)).mono (fun _ _ h=>⟨h.2,h.1⟩)))
           (Ae (Bb rfl rfl rfl (fun _=>rfl) (fun a' w' ph K=>Ac (K.As 10 77 rfl rfl) aK) (fun a' w' ph K=>AL (es ((K.out 11 rfl).trans rfl))))
           (BP _))))))))))))))))))) ?_
       intro jW;rintro _ rfl _ ⟨_,rfl,⟨b7,b8,rfl,d3⟩⟩ _ rfl _ ⟨d1,d2,rfl,eM⟩ _ rfl _ ⟨_,rfl,⟨b9,cA,cB,cC,rfl,d4,d5⟩⟩ _ rfl _ rfl _ rfl _ rfl _ rfl _ rfl _ ⟨_,rfl,⟨cD,cE,rfl,d8⟩⟩ _ rfl _ ⟨d6,d7,rfl,eN⟩ _ rfl _ rfl _ rfl iU;have iV:=b6.ext iU;refine Aw rfl rfl (Ac rfl aK) rfl (by decide) (fun st=>I5 IC (ee st rfl) (ee st rfl))<|wd rfl (fun st=>AV (v:=.bool (e7==false)) (ee st rfl) aK (ee st rfl))<|wm rfl (v:=.bool (e7==false)) rfl ?_;rcases Ap (e7==false) with d9|d9
       ·replace a:=AD a d9;replace a:=CI a;obtain⟨iW,a⟩:=a;refine Dt rfl rfl (Ac rfl d9) rfl (by decide) (fun st=>AI Ij (ee st rfl) HA (Np q ZA _ iW)) ?_;rintro _ jX ⟨iX,rfl⟩;have iY:=iV.ext iX;refine wd rfl (fun st=>AV (v:=.bool true) (ee st rfl) d9 (ee st rfl))<|wa rfl (v:=.bool true) rfl<|Af<|Aa<|AM ?_;have aN:=Option.some.inj a;refine AU rfl rfl ?_;exact⟨iY.Bz,congrArg Value.bool aN⟩
       ·replace a:=AE a d9;exact absurd (Option.some.inj a) (by decide)
      ·replace a:=AE a aK;exact absurd (Option.some.inj a) (by decide)
end Go.Proofs.YtkljfdkmjdjpfaaGreat
end
section
namespace Go.Proofs.YtkljfdkmjdjpfaaGreat
open Go.RowKit Go.ChangeShapes Go.WideShapes
theorem OH{α β:Type}{g:α→Option β}:∀{l:List α} {r:List β},l.mapM g=some r→∀(i:Nat) (x:α),l[i]?=some x→∃y,r[i]?=some y∧g x=some y
 |[],_,_,i,x,b=>by simp at b
 |a::l,r,h,i,x,b=>by
  rw[List.mapM_cons] at h;obtain⟨y,d,e⟩:=Option.bind_eq_some_iff.1 h;obtain⟨ys,c,f⟩:=Option.bind_eq_some_iff.1 e;obtain rfl:y::ys=r:=by simpa using f
  cases i with
  |zero=>
   obtain rfl:a=x:=by simpa using b
   exact⟨y,rfl,d⟩
  |succ i=>exact OH c i x (by simpa using b)
theorem JC{H:Type}{P:Program}{e:TypeId}{d:DataW H}{n:Nat}(b:n∈d.weights P e):∀{l:List (DataW H)},d∈l→n∈DataW.weightsAll P e l
 |[],h=>by cases h
 |a::l,h=>by
  rw[DataW.weightsAll,List.mem_append];rcases List.mem_cons.1 h with rfl|h
  ·exact .inl b
  ·exact .inr (JC b h)
def LQ {H:Type} (P:Program) (t:TypeId) (d:DataW H):Prop:=∀n∈d.weights P t,n≤reachBytes
theorem MW{H:Type}{P:Program}{a:List TypeId}{ds:List (DataW H)}(h:(DataW.weightsEach P a ds).all (· ≤reachBytes)=true){j:Nat}{t:TypeId}{d:DataW H}(b:a[j]?=some t)(c:ds[j]?=some d):LQ P t d:=fun n e=>by
 have:=List.all_eq_true.1 h _ (DataW.weights_mem_each b c n e);simpa using this
def LA {α:Type} (P:Program) (t:TypeId) (e:El α) (wf:α→Prop):Prop:=
 ∀(H:Type) (enc:TypeId×Value→H) (w:World) (sp:Nat→Bool) (fuel:Nat) (cs:List Value) (x:DataW H×List MemPlace),DataW.trod enc P w 0 sp true fuel t cs=some x→LQ P t x.1→∃a,e.R w ZA cs a∧wf a
def HV(k:IntKind)(n:Int):Prop:=(Lit.int k n).wf=true
section
variable{P:Program}{t:TypeId}
theorem GO{k:IntKind}(a:P.underlying t=some (.int k)):LA P t (AB k) (HV k):=by
 intro H enc w sp fuel cs x h _;obtain⟨n,b,_,c⟩:=DataW.trod_int a h;exact⟨n,b,c⟩
theorem Sm(a:P.underlying t=some .bool):LA P t Bu (fun _=>True):=by
 intro H enc w sp fuel cs x h _;obtain⟨b,c,_⟩:=DataW.trod_bool a h;exact⟨b,c,trivial⟩
theorem Ic {e:Array Field} (g:P.underlying t=some (.struct e)) {H:Type} {enc:TypeId×Value→H} {w:World} {sp:Nat→Bool} {fuel:Nat} {cs:List Value} {x:DataW H×List MemPlace} (h:DataW.trod enc P w 0 sp true fuel t cs=some x):
  cs.length=P.cellsOf t∧∃c,∀(i a off:Nat),(e[i]?).map (fun f=>(f.type,f.offset))=some (a,off)→∃y,DataW.trod enc P w 0 sp true c a ((cs.drop off).take (P.cellsOf a))=some y∧(LQ P t x.1→LQ P a y.1):=by
 cases fuel with
 |zero=>simp[DataW.trod] at h
 |succ fuel=>
  unfold DataW.trod at h;simp only[g] at h;split at h
  ·rename_i m
   obtain⟨xs,o,rfl⟩:=Option.map_eq_some_iff.1 h;refine⟨m,fuel,fun i a off p=>?_⟩;obtain⟨f,b,he⟩:=Option.map_eq_some_iff.1 p;obtain⟨k,q⟩:f.type=a∧f.offset=off:=by simpa using he
   rw[←Array.getElem?_toList] at b;obtain⟨y,r,l⟩:=OH o i f b;rw[k,q] at l;refine⟨y,l,fun s n u=>s n ?_⟩;simp only[DataW.weights,g];exact DataW.weights_mem_each (j:=i) (t:=a) (d:=y.1) (by rw[List.getElem?_map,b];simp[k]) (by rw[List.getElem?_map,r];rfl) n u
  ·cases h
theorem P9{w:World}{a:Addr}{n:Nat}{cs:List Value}(h:w.cells? 0 a n=some cs):cs.length=n∧∀j u,cs[j]?=some u→w.cell? (a.add j)=some u:=by
 unfold World.cells? at h;rw[if_pos (Nat.zero_le _)] at h;have d:=mapM_some_length h;refine⟨by simpa using d,?_⟩;have key:∀(l:List Nat) (r:List Value),l.mapM (fun i=>w.cell? (a.add i))=some r→∀(j i:Nat) (u:Value),l[j]?=some i→r[j]?=some u→w.cell? (a.add i)=some u:=by
  intro l
  induction l with
  |nil=>intro r _ j i u c;simp at c
  |cons b l ih=>
   intro r h j i u c e;rw[List.mapM_cons] at h;obtain⟨y,m,f⟩:=Option.bind_eq_some_iff.1 h;obtain⟨ys,g,o⟩:=Option.bind_eq_some_iff.1 f;obtain rfl:y::ys=r:=by simpa using o
   cases j with
   |zero=>
    obtain rfl:b=i:=by simpa using c
    obtain rfl:y=u:=by simpa using e
    exact m
   |succ j=>exact ih ys g j i u (by simpa using c) (by simpa using e)
 intro j u c;have k:j<n:=by
  have:=(List.getElem?_eq_some_iff.1 c).1;have f:cs.length=n:=by simpa using d
  omega
 exact key _ _ h j j u (by simp[k]) c
theorem Rk{w:World}{a:Addr}{u:Value}(h:w.cell? a=some u):∃b o,a=⟨b,o,none⟩∧b<w.heap.size:=by
 obtain⟨b,o,pt⟩:=a;cases pt with
 |none=>
  refine⟨b,o,rfl,?_⟩;unfold World.cell? at h;cases c:w.heap[b]? with
  |none=>simp[c] at h
  |some o=>exact(Array.getElem?_eq_some_iff.1 c).1
 |some q=>
  unfold World.cell? at h;cases c:w.heap[b]? with
  |none=>simp[c] at h
  |some ob=>cases ob<;>simp[c] at h
theorem add_add{a:Addr}{k j:Nat}(h:k≤j):(a.add k).add (j-k)=a.add j:=by
 obtain⟨b,o,pt⟩:=a;cases pt with
 |none=>rw[FY,FY,FY];congr 1;omega
 |some q=>
  unfold Addr.add
  by_cases c:j=0
  ·have:k=0:=by omega
   subst this;subst c;simp
  ·by_cases d:k=0
   ·subst d;simp[c]
   ·by_cases e:j-k=0
    ·have:j=k:=by omega
     subst this;simp[d]
    ·simp[c,d,e];omega
theorem Im {α:Type} {e:TypeId} {ee:El α} {wf:α→Prop} (aB:P.underlying t=some (.slice e)) (aM:P.cellsOf e=ee.sz) (h0:0<ee.sz) (aN:LA P e ee wf) {b:Nat} (aE:P.bytesOf e=b):LA P t (BD ee) (fun xs=>xs.length*b≤140737488351232∧∀x∈xs,wf x):=by
 intro H enc w sp fuel cs x h y;rcases Go.Deep.open_slice aB h with⟨rfl,_⟩|⟨a,len,cap,m,n0,D,aT,rfl,_,aF,aR,hm,aG,aC⟩
 ·exact⟨[],⟨none,0,rfl,Sl.nil _ _ _⟩,by simp,by simp⟩
 ·have aS:len≤m:=by rw[hm];split<;>omega
  subst aG;have l:len*b≤140737488351232:=by
   have:=y ((((List.range len).map D).length+((List.range (m-len)).map fun j=>D (len+j)).length)*P.bytesOf e) (by simp[DataW.weights,aB]);rw[aE] at this;have c:len*b≤(((List.range len).map D).length+((List.range (m-len)).map fun j=>D (len+j)).length)*b:=Nat.mul_le_mul_right _ (by simp);exact Nat.le_trans c this
  have p:∀i,i<len→LQ P e (D i):=fun i hi n aH=>y n (by
   simp only[DataW.weights,aB];rw[List.mem_cons,List.mem_append];exact .inr (.inl (JC aH (List.mem_map.2 ⟨i,by simpa using hi,rfl⟩))))
  have key:∀n,n≤len→∃Bm xs,R2 ee w ZA Bm xs∧xs.length=n∧(∀x∈xs,wf x)∧∀j u,Bm.flatten[j]?=some u→w.cell? (a.add j)=some u:=by
   intro n
   induction n with
   |zero=>exact fun _=>⟨[],[],trivial,rfl,by simp,by simp⟩
   |succ n ih=>
    intro aH;obtain⟨Bm,xs,q,c,aD,r⟩:=ih (by omega);obtain⟨ds,aO,aI⟩:=aC n (by omega);obtain⟨z,aP,aJ⟩:=aN _ _ _ _ _ _ _ aI (p n (by omega));obtain⟨aU,s⟩:=P9 aO;refine⟨Bm++[ds],xs++[z],q.append ⟨aP,trivial⟩,by simp[c],?_,?_⟩
    ·intro x f;rcases List.mem_append.1 f with f|f
     ·exact aD x f
     ·rw[List.mem_singleton.1 f];exact aJ
    ·intro j u d;rw[List.flatten_append] at d;rcases Nat.lt_or_ge j Bm.flatten.length with g|k
     ·rw[List.getElem?_append_left g] at d;exact r j u d
     ·rw[List.getElem?_append_right k] at d;have v:=s (j-Bm.flatten.length) u (by simpa using d);have aK:Bm.flatten.length=n*ee.sz:=by rw[q.Jk,c]
      rw[aK] at v k;rw[aM] at v;rw[add_add k] at v;exact v
  obtain⟨Bm,xs,q,c,aD,r⟩:=key len (Nat.le_refl _);refine⟨xs,⟨some a,cap,by rw[c],by rw[c];exact aF,(fun e=>by cases e),Bm,q,?_⟩,by rw[c];exact l,aD⟩;cases aL:Bm.flatten with
  |nil=>exact .inl rfl
  |cons u us=>
   have hu:=r 0 u (by rw[aL];rfl);obtain⟨b,o,aA,g⟩:=Rk hu;have aQ:a=⟨b,o,none⟩:=by
    obtain⟨b',o',pt⟩:=a;cases pt<;>simp[Addr.add] at aA⊢;exact aA
   subst aQ;refine .inr ⟨b,o,rfl,trivial,g,fun j u d=>?_⟩;have:=r j u (by rw[aL];exact d);rw[FY] at this;exact this
end
section
variable{H:Type}{enc:TypeId×Value→H}{P:Program}{W W':World}
theorem Kg{sp:Nat→Bool}:∀{e:List TypeId} {vs:List Value} {ds:List (DataW H)} {ps:List MemPlace},DataW.TrodAll enc P W 0 sp true e vs ds ps→(∀p∈ps,W.sameAt W' p)→DataW.TrodAll enc P W' 0 sp true e vs ds ps
 |[],_,_,_,h,_=>by
  obtain⟨rfl,rfl,rfl⟩:=trodAll_nil h;exact rfl
 |_::_,_,_,_,h,f=>by
  obtain⟨v,j,d,k,a,b,rfl,rfl,rfl,⟨n,g⟩,i⟩:=trodAll_cons h;exact⟨a,b,⟨n,DataW.trod_carry n _ _ _ g fun p c=>f p (List.mem_append_left _ c)⟩,Kg i fun p c=>f p (List.mem_append_right _ c),rfl⟩
theorem Rl(K:Kids P (· <P.types.size))(c:∀t e,t<P.types.size→P.underlying t=some (.slice e)→0<P.cellsOf e){a:List TypeId}{vs:List Value}{ds:List (DataW H)}{ps:List MemPlace}(d:∀t∈a,t<P.types.size)
  (f:DataW.TrodAll enc P W 0 (fun _=>true) true a vs ds ps)(g:Ext W W')(b:∀p∈ps,p.block<W.heap.size)(sp:Nat→Bool)(h:∀p∈ps,sp p.block=true):DataW.TrodAll enc P W' 0 sp true a vs ds ps:=
 Kg (DataW.TrodAll.respare K c d f h) fun p i=>(Ki g).same (b p i)
variable{α:Type}{e:El α}{wf:α→Prop}{t:TypeId}{b0:Nat}{v:Value}{d:DataW H}{p:List MemPlace}{sp:Nat→Bool}
theorem Py{c:Array Field}(f:P.underlying t=some (.struct c))(g:LA P t e wf)(b:Value.okWide P W .any b0 t v)(h:DataW.Trod enc P W 0 sp true t v d p)(i:LQ P t d):∃a cs,v=.agg cs.toArray∧e.R W ZA cs a∧wf a:=by
 unfold Value.okWide at b;rw[f] at b;obtain⟨cs,rfl,_⟩:=b;obtain⟨n,j⟩:=h;obtain⟨a,k,l⟩:=g _ _ _ _ _ _ _ j i;exact⟨a,cs.toList,by simp,k,l⟩
theorem U4{ee:TypeId}(f:P.underlying t=some (.slice ee)){wf:List α→Prop}(g:LA P t (BD e) wf)(i:Value.okWide P W .any b0 t v)(h:DataW.Trod enc P W 0 sp true t v d p)(j:LQ P t d):∃xs A c,v=.slice A xs.length c∧Sl e W ZA A c xs∧wf xs:=by
 obtain⟨A,n,c,rfl⟩:=okWide_slice f i;obtain⟨m,hm⟩:=h;obtain⟨xs,⟨a,b,k,l⟩,o⟩:=g _ _ _ _ _ _ _ hm j;have:Value.slice A n c=Value.slice a xs.length b:=by simpa[Value.cells] using k
 exact⟨xs,a,b,this,l,o⟩
theorem TQ{k:IntKind}(a:P.underlying t=some (.int k))(b:Value.okWide P W .any b0 t v)(h:DataW.Trod enc P W 0 sp true t v d p):∃n,v=.int k n∧HV k n:=by
 obtain⟨n,c,_,_,e⟩:=open_int a b h;exact⟨n,c,e⟩
theorem OU {f:Func} {s:ChangeSpec} {apart fresh handsOn again:Bool} {args:Array Value} {v:Value} {ds gs:List (DataW H)} {before pa pv:List MemPlace}
  (k:DataW.Whole enc P f.params.toList s.vars apart W args.toList ds gs before)
  (g:∀(b:Nat) (sp:Nat→Bool) (n:Bool),DataW.TrodAll enc P W' b sp n f.resultTypes.toList (v.resultList f.resultTypes.size) (s.fn H (ds++gs)).results [])
  (c:∀sp:Nat→Bool,(∀p∈before,sp p.block=true)→DataW.TrodAll enc P W' 0 sp true f.params.toList args.toList (s.fn H (ds++gs)).args pa)
  (d:∀sp:Nat→Bool,(∀p∈before,sp p.block=true)→DataW.TrodVars enc P W' sp s.vars (s.fn H (ds++gs)).vars pv)
  (e:before=pa++pv) (o:Ext W W')
  (l:∀(j:Nat) (t:TypeId) (r:Value),f.resultTypes[j]?=some t→(v.resultList f.resultTypes.size)[j]?=some r→Value.okWide P W' .any 0 t r):
  s.post enc P f apart fresh handsOn again W args v W':=by
 have m:=Ki o;have h:∀p∈before,p.block<W.heap.size:=fun p a=>k.lt p a;have hold:∀p∈before,(fun b=>decide (b<W.heap.size)) p.block=true:=fun p a=>by simpa using h p a
 refine⟨ds,gs,before,[],pa,pv,k,g _ _ _,c _ hold,d _ hold,World.keptBut_mono (fun p a=>⟨a,?_⟩) (m.frame (· ∈before)),fun _=>?_⟩
 ·rw[e,List.mem_append] at a;exact Or.inr a
 ·obtain⟨_,_,_,_,_,q,u⟩:=k;refine⟨l,_,_,([]++pa)++pv,⟨[]++pa,pv,trodAll_append (c _ (fun _ _=>rfl)) (g _ _ _),d _ (fun _ _=>rfl),rfl,?_,?_⟩,?_⟩
  ·intro b off a;have i:MemPlace.cell b off∈before:=by rw[e];simpa using a
   rw[m.frozen (h _ i)];exact q b off i
  ·intro w;have:=u w;rw[e] at this;simpa using this
  ·intro p a _;rw[e];simpa using a
theorem Rm{f:FuncId}{args:Array Value}{w:World}{R:Value→World→Prop}(h:BN P f args w R):Calls P f args w (fun e w'=>∃v,e=.returned v∧R v w'):=h
end
end Go.Proofs.YtkljfdkmjdjpfaaGreat
end
section
set_option linter.unusedVariables false
set_option linter.unusedSimpArgs false
namespace Go.Proofs.YtkljfdkmjdjpfaaGreat
open Go.RowKit Go.ChangeShapes Go.WideShapes
theorem SI:∀{cs:List Value},cs.length=2→∃a0 a1,cs=[a0,a1]
 |[a0,a1],_=>⟨a0,a1,rfl⟩
theorem SJ:∀{cs:List Value},cs.length=5→∃a0 a1 a2 a3 a4,cs=[a0,a1,a2,a3,a4]
 |[a0,a1,a2,a3,a4],_=>⟨a0,a1,a2,a3,a4,rfl⟩
theorem TR:LA Tryz.prog 116 O1 (fun x=>(HV .i64 x.Lo∧HV .i64 x.Hi)):=by
 intro H enc w sp fuel cs x h c;obtain⟨d,j,e⟩:=Ic Tryz.underlying116 h;have k:Tryz.prog.cellsOf 116=2:=by kernel_rfl
 rw[k] at d;have f:Tryz.prog.cellsOf 3=1:=by kernel_rfl
 obtain⟨a0,a1,rfl⟩:=SI d;obtain⟨m,a,g⟩:=e 0 3 0 rfl;simp only[f,List.drop_zero,List.drop_succ_cons,List.take_succ_cons,List.take_zero] at a;obtain⟨n0,h0,w0⟩:=(GO Tryz.underlying3) _ _ _ _ _ _ _ a (g c);cases h0;obtain⟨y1,b,i⟩:=e 1 3 1 rfl;simp only[f,List.drop_zero,List.drop_succ_cons,List.take_succ_cons,List.take_zero] at b;obtain⟨n1,l,w1⟩:=(GO Tryz.underlying3) _ _ _ _ _ _ _ b (i c);cases l;exact⟨⟨n0,n1⟩,rfl,w0,w1⟩
theorem TS:LA Tryz.prog 118 AP (fun x=>((HV .i64 ((⟨x.Au,x.AH⟩:CK).Lo)∧HV .i64 ((⟨x.Au,x.AH⟩:CK).Hi))∧HV .i64 x.Aq∧HV .i64 x.B1∧HV .i64 x.Cj)):=by
 intro H enc w sp fuel cs x h a;obtain⟨j,o,b⟩:=Ic Tryz.underlying118 h;have p:Tryz.prog.cellsOf 118=5:=by kernel_rfl
 rw[p] at j;have g:Tryz.prog.cellsOf 3=1:=by kernel_rfl
 have i:Tryz.prog.cellsOf 116=2:=by kernel_rfl
 obtain⟨a0,a1,a2,a3,a4,rfl⟩:=SJ j;obtain⟨y,c,k⟩:=b 0 116 0 rfl;simp only[i,List.drop_zero,List.drop_succ_cons,List.take_succ_cons,List.take_zero] at c;obtain⟨n0,h0,w0⟩:=TR _ _ _ _ _ _ _ c (k a);cases h0;obtain⟨y1,d,l⟩:=b 1 3 2 rfl;simp only[g,List.drop_zero,List.drop_succ_cons,List.take_succ_cons,List.take_zero] at d;obtain⟨n1,q,w1⟩:=(GO Tryz.underlying3) _ _ _ _ _ _ _ d (l a);cases q;obtain⟨z,e,m⟩:=b 2 3 3 rfl;simp only[g,List.drop_zero,List.drop_succ_cons,List.take_succ_cons,List.take_zero] at e;obtain⟨r,s,w2⟩:=(GO Tryz.underlying3) _ _ _ _ _ _ _ e (m a);cases s;obtain⟨aA,f,n⟩:=b 3 3 4 rfl;simp only[g,List.drop_zero,List.drop_succ_cons,List.take_succ_cons,List.take_zero] at f;obtain⟨t,u,v⟩:=(GO Tryz.underlying3) _ _ _ _ _ _ _ f (n a);cases u;exact⟨⟨n0.Lo,n0.Hi,n1,r,t⟩,rfl,w0,w1,w2,v⟩
theorem U5:LA Tryz.prog 63 Eu (fun x=>(HV .i64 x.Am∧HV .i64 x.Ak∧HV .i64 x.Ao∧HV .i64 x.Ay∧(x.Ad.length*40≤140737488351232∧∀y∈x.Ad,((HV .i64 ((⟨y.Au,y.AH⟩:CK).Lo)∧HV .i64 ((⟨y.Au,y.AH⟩:CK).Hi))∧HV .i64 y.Aq∧HV .i64 y.B1∧HV .i64 y.Cj)))):=by
 intro H enc w sp fuel cs x h a;obtain⟨k,r,c⟩:=Ic Tryz.underlying63 h;have s:Tryz.prog.cellsOf 63=5:=by kernel_rfl
 rw[s] at k;have d:Tryz.prog.cellsOf 3=1:=by kernel_rfl
 have l:Tryz.prog.cellsOf 61=1:=by kernel_rfl
 obtain⟨a0,a1,a2,a3,a4,rfl⟩:=SJ k;obtain⟨aH,e,m⟩:=c 0 3 0 rfl;simp only[d,List.drop_zero,List.drop_succ_cons,List.take_succ_cons,List.take_zero] at e;obtain⟨n0,h0,w0⟩:=(GO Tryz.underlying3) _ _ _ _ _ _ _ e (m a);cases h0;obtain⟨y1,f,n⟩:=c 1 3 1 rfl;simp only[d,List.drop_zero,List.drop_succ_cons,List.take_succ_cons,List.take_zero] at f;obtain⟨n1,t,w1⟩:=(GO Tryz.underlying3) _ _ _ _ _ _ _ f (n a);cases t;obtain⟨aI,g,o⟩:=c 2 3 2 rfl;simp only[d,List.drop_zero,List.drop_succ_cons,List.take_succ_cons,List.take_zero] at g;obtain⟨u,v,w2⟩:=(GO Tryz.underlying3) _ _ _ _ _ _ _ g (o a);cases v;obtain⟨aJ,i,p⟩:=c 3 3 3 rfl;simp only[d,List.drop_zero,List.drop_succ_cons,List.take_succ_cons,List.take_zero] at i;obtain⟨z,aA,aB⟩:=(GO Tryz.underlying3) _ _ _ _ _ _ _ i (p a);cases aA;obtain⟨aK,j,q⟩:=c 4 61 4 rfl;simp only[l,List.drop_zero,List.drop_succ_cons,List.take_succ_cons,List.take_zero] at j;obtain⟨n4,⟨aC,aD,aE,aF⟩,aG⟩:=(Im (b:=40) Tryz.underlying61 (by kernel_rfl) (by decide) TS (by kernel_rfl)) _ _ _ _ _ _ _ j (q a);cases aE;exact⟨⟨n0,n1,u,z,n4⟩,⟨aC,aD,rfl,aF⟩,w0,w1,w2,aB,aG⟩
theorem U6:LA Tryz.prog 67 CA (fun x=>((x.Comes.length*8≤140737488351232∧∀y∈x.Comes,HV .i64 y)∧(x.Ao.length*1≤140737488351232∧∀y∈x.Ao,True))):=by
 intro H enc w sp fuel cs x h d;obtain⟨e,l,f⟩:=Ic Tryz.underlying67 h;have m:Tryz.prog.cellsOf 67=2:=by kernel_rfl
 rw[m] at e;have g:Tryz.prog.cellsOf 23=1:=by kernel_rfl
 have i:Tryz.prog.cellsOf 65=1:=by kernel_rfl
 obtain⟨a0,a1,rfl⟩:=SI e;obtain⟨t,a,j⟩:=f 0 23 0 rfl;simp only[g,List.drop_zero,List.drop_succ_cons,List.take_succ_cons,List.take_zero] at a;obtain⟨n0,⟨n,o,h0,p⟩,w0⟩:=(Im (b:=8) Tryz.underlying23 (by kernel_rfl) (by decide) (GO Tryz.underlying3) (by kernel_rfl)) _ _ _ _ _ _ _ a (j d);cases h0;obtain⟨y1,c,k⟩:=f 1 65 1 rfl;simp only[i,List.drop_zero,List.drop_succ_cons,List.take_succ_cons,List.take_zero] at c;obtain⟨n1,⟨q,r,s,s1⟩,w1⟩:=(Im (b:=1) Tryz.underlying65 (by kernel_rfl) (by decide) (Sm Tryz.underlying4) (by kernel_rfl)) _ _ _ _ _ _ _ c (k d);cases s;exact⟨⟨n0,n1⟩,⟨n,o,q,r,rfl,p,s1⟩,w0,w1⟩
theorem Wc:ownKnob Tryz.prog.godebug=none:=by kernel_rfl
theorem Vz:Kids Tryz.prog (· <Tryz.prog.types.size):=kids_rows (by kernel_rfl) (by kernel_rfl)
theorem VA:∀t e,t<Tryz.prog.types.size→Tryz.prog.underlying t=some (.slice e)→0<Tryz.prog.cellsOf e:=slices_full_of Tryz.prog (by kernel_rfl)
end Go.Proofs.YtkljfdkmjdjpfaaGreat
end
section
set_option linter.unusedVariables false
set_option linter.unusedSimpArgs false
namespace Go.Proofs.YtkljfdkmjdjpfaaGreat
open Go.RowKit Go.ChangeShapes Go.WideShapes Go.ChangeAt
set_option maxRecDepth 100000 in
theorem Lf(os:Os)(started:os.Started)(H:Type)(enc:TypeId×Value→H):
  ReturnsInHanded {} Tryz.checked os 6 .any (Rows.rackProvesSpec.pre6 enc Tryz.prog Tryz.f6 Rows.rackProvesRow.domain false) (Rows.rackProvesSpec.post enc Tryz.prog Tryz.f6 false true false false):=by
 refine returnsInHanded_of_change_sized (C:=Tryz.checked) Wc started (by kernel_rfl) Tryz.func6
  (ChangeSpec.witness6 (enc:=enc) (C:=Tryz.checked) false ⟨#[], #[.agg #[.int .i64 0,.int .i64 0,.int .i64 0,.int .i64 0,.slice none 0 0],.slice none 0 0,.agg #[.slice none 0 0,.slice none 0 0],.int .i64 0],[]⟩ 8 (by kernel_rfl) (by kernel_rfl) (by kernel_rfl) (by kernel_rfl)) ?_
 intro W base args ds gs before f w aJ y _;have a:∀(j:Nat) t v,Tryz.f6.params[j]?=some t→args[j]?=some v→Value.okWide Tryz.prog W .any base t v:=f;have d:=w;obtain⟨p,q,z,aK,rfl,aX,aY⟩:=w;have h:DataW.TrodAll enc Tryz.prog W 0 (fun _=>true) true Tryz.f6.params.toList args.toList ds p:=z;obtain⟨rfl,rfl⟩:=trodVars_none aK;simp only[List.append_nil] at d;have aA:∀x∈p,x.block<W.heap.size:=fun x g=>by simpa using d.lt x g
 have aB:=h;have c:(DataW.weightsEach Tryz.prog (Tryz.f6.params.toList++[]) (ds++[])).all (· ≤reachBytes)=true:=y;rw[Tryz.params6] at h a c;obtain⟨v0,v1,v2,v3,d0,d1,d2,d3,aL,aM,aN,aO,rfl,rfl,rfl,h0,aP,aQ,aR⟩:=trodAll_four h;obtain⟨aC,aZ,aD,⟨i,k,rfl,l⟩,w0⟩:=Py Tryz.underlying63 U5 (a 0 63 v0 rfl rfl) h0 (MW (j:=0) c rfl rfl);obtain⟨x1,aS,aT,aE,s1,w1⟩:=U4 Tryz.underlying64 (Im (b:=24) Tryz.underlying64 (by kernel_rfl) (by decide) (Im (b:=8) Tryz.underlying23 (by kernel_rfl) (by decide) (GO Tryz.underlying3) (by kernel_rfl)) (by kernel_rfl)) (a 1 64 v1 rfl rfl) aP (MW (j:=1) c rfl rfl);obtain⟨x2,a0,aF,⟨m,n,o,r,rfl,s,u⟩,w2⟩:=Py Tryz.underlying67 U6 (a 2 67 v2 rfl rfl) aQ (MW (j:=2) c rfl rfl);obtain⟨aG,aH,a2⟩:=TQ Tryz.underlying3 (a 3 3 v3 rfl rfl) aR;subst aD;subst aE;subst aF;subst aH;obtain⟨K,aU⟩:=Mu aC x1 x2 aG;refine(Rm (a6 K aC x1 x2 aG i k aS aT m n o r ZA W l s1 s u aU)).mono fun e W' ⟨v,he,g,aV⟩=>?_;subst he;subst aV;exact⟨_,rfl,OU (pa:=(aL++aM++aN++aO)) (pv:=[]) d (fun _ _ _=>trodAll_mk1 (shut_bool Tryz.underlying4 _)) (fun sp aW=>Rl Vz VA (by rw[Tryz.params6];decide) aB g aA sp (fun x aI=>aW x (by simpa using aI))) (fun _ _=>rfl) (by simp) g (ok_one (by kernel_rfl) rfl (okWide_bool_mk Tryz.underlying4 _))⟩
theorem rackProves_holds:Rows.RackProvesSaid:=
 OpenClaim.holds_of_wide 6 Tryz.f6 rfl rfl rfl rfl rfl rfl rfl ⟨rfl,rfl,rfl,rfl,rfl⟩ rfl rfl rfl rfl rfl (by kernel_rfl) Tryz.func6 (by kernel_rfl)
  (of_decide_eq_true (by kernel_rfl)) (by unfold Func.isWrapper;first|(rw[if_pos (by decide+kernel)];kernel_rfl)|(rw[if_neg (by decide+kernel)];exact⟨rfl,rfl⟩))
  (fun os started H enc _=>Lf os started H enc)
end Go.Proofs.YtkljfdkmjdjpfaaGreat
end
