import Derived.Test.YtkljfdkmjdjpfaaGreatBB7
import Derived.ProofKit
import Derived.ChangeSame
import Derived.SizedLaws
import Derived.Deep.Slices
import Derived.Test.YtkljfdkmjdjpfaaGreatProg
import Derived.Test.YtkljfdkmjdjpfaaGreatRows
/-
  Proved: the law RackPlays returns true for every argument that the row hands over, and leaves every argument as it was; no condition beside the row's own.
-/
set_option linter.all false
section
set_option linter.unusedVariables false
set_option linter.unusedSimpArgs false
namespace Go.Proofs.YtkljfdkmjdjpfaaGreat
open Go.RowKit Go.WideShapes
def Fb(a:Nat)(c:Ar)(f:List (List Int))(e:AX):Option (Bool):=
 (FD a c).bind fun w=>cond (!w) ((Fz (B4 a=some true)).bind fun _=>some (true)) ((Fh a f).bind fun g=>cond (!g) ((Fz (B4 a=some true)).bind fun _=>some (true)) (cond (decide ((8:Int)<(e.Comes.length:Int))) ((Fz (B4 a=some true)).bind fun _=>some (true)) (cond (decide ((12:Int)<(e.Ap.length:Int))) ((Fz (B4 a=some true)).bind fun _=>some (true)) ((EJ a c).bind fun h=>(Ff a f).bind fun i=>(Fg a e).bind fun j=>(FT a h i j).bind fun b=>(Fc a c).bind fun d=>(EJ a c).bind fun k=>(C9 a k).bind fun l=>cond (l !=d) (some (false)) (cond (d==0) ((EN a c f).bind fun m=>cond (!m) (cond ((2:Int) !=(0:Int)) (cond (b.2==2) (cond ((b.1.length:Int)==0) ((Fz (B4 a=some true)).bind fun _=>some (true)) (some (false))) (some (false))) (cond (b.2==0) ((DU a c f e).bind fun n=>(DE a b.1 n).bind fun o=>cond (o) ((Fz (B4 a=some true)).bind fun _=>some (true)) (some (false))) (some (false)))) ((EM a c e).bind fun p=>cond (!p) (cond ((2:Int) !=(0:Int)) (cond (b.2==2) (cond ((b.1.length:Int)==0) ((Fz (B4 a=some true)).bind fun _=>some (true)) (some (false))) (some (false))) (cond (b.2==0) ((DU a c f e).bind fun q=>(DE a b.1 q).bind fun r=>cond (r) ((Fz (B4 a=some true)).bind fun _=>some (true)) (some (false))) (some (false)))) (cond (d !=0) (cond (b.2==d) (cond ((b.1.length:Int)==0) ((Fz (B4 a=some true)).bind fun _=>some (true)) (some (false))) (some (false))) (cond (b.2==0) ((DU a c f e).bind fun s=>(DE a b.1 s).bind fun t=>cond (t) ((Fz (B4 a=some true)).bind fun _=>some (true)) (some (false))) (some (false)))))) (cond (d !=0) (cond (b.2==d) (cond ((b.1.length:Int)==0) ((Fz (B4 a=some true)).bind fun _=>some (true)) (some (false))) (some (false))) (cond (b.2==0) ((DU a c f e).bind fun u=>(DE a b.1 u).bind fun v=>cond (v) ((Fz (B4 a=some true)).bind fun _=>some (true)) (some (false))) (some (false)))))))))
end Go.Proofs.YtkljfdkmjdjpfaaGreat
end
section
namespace Go.Proofs.YtkljfdkmjdjpfaaGreat
theorem LS:∀(o:List (List Int)),(∀l∈o,l.length≤6)→o.flatten.length≤6*o.length
 |[],_=>by simp
 |l::o,h=>by
  have b:=LS o fun x a=>h x (List.mem_cons_of_mem _ a);have c:=h l (List.mem_cons_self ..);rw[List.flatten_cons,List.length_append,List.length_cons];omega
theorem nz{x:Int}(h:x≠0):(x==0)=false:=beq_eq_false_iff_ne.2 h
theorem Vv{x:Int}(h:x≠0):(x !=0)=true:=by unfold bne;rw[nz h];rfl
theorem Mk(y:Ar)(o:List (List Int))(t:AX):∃K,Fb K y o t=some true:=by
 refine⟨2000,?_⟩;have hK:2000≤2000:=Nat.le_refl _;have d:=Ps hK;unfold Fb;rw[bd (R8 hK y)];cases k:LL y with
 |false=>rw[nf,FK d]
 |true=>
  have g:=Q5 k;obtain⟨b,s,u⟩:=Q7 hK o;rw[nt,bd s];cases b with
  |false=>rw[nf,FK d]
  |true=>
   obtain⟨z,m⟩:=u rfl;rw[nt]
   by_cases n:(8:Int)<(t.Comes.length:Int)
   ·rw[ct (dt n),FK d]
   rw[cf (df n)]
   by_cases hw:(12:Int)<(t.Ap.length:Int)
   ·rw[ct (dt hw),FK d]
   have e:o.length≤1000:=by omega
   have h:∀l∈o,l.length≤1000:=fun l v=>by have:=m l v;omega
   have q:o.flatten.length≤1000:=by have:=LS o m;omega
   obtain⟨p,a⟩:∃p,p=(if check y≠0 then ([],check y) else if DQ y o=false∨Ep y t=false then ([],2) else (Ch y o t,0):List Ag×Int):=⟨_,rfl⟩;have r:=No y o t hK e q;rw[←a] at r;rw[cf (df hw),bd (Ow hK y g),bd (QZ hK o e h),bd (Q0 _ t (by omega) (by omega)),bd r,bd (Q4 hK y),bd (Ow hK y g),bd (HE hK y),cf (by simp)]
   by_cases c:check y=0
   ·have f:=GM c;rw[if_neg (by simp[c])] at a;rw[c,ct (by rfl),bd (Qa y o f.n4 e h hK)];cases i:DQ y o with
    |false=>
     rw[if_pos (.inl i)] at a;subst a;rw[nf,ct (by rfl),ct (by rfl),ct (by rfl),FK d]
    |true=>
     rw[nt,bd (P8 y f t hK)];cases j:Ep y t with
     |false=>
      rw[if_pos (.inr j)] at a;subst a;rw[nf,ct (by rfl),ct (by rfl),ct (by rfl),FK d]
     |true=>
      rw[if_neg (by simp[i,j])] at a;subst a;have w:=f.n4;have x:(Ch y o t).length=y.Ad.length:=G1 ..;rw[nt,cf (by rfl),ct (by rfl),bd (Qb y f o i t j hK),bd (Q3 hK (Ch y o t) (by omega)),ct rfl,FK d]
   ·rw[if_pos c] at a;subst a;rw[cf (nz c),ct (Vv c),ct (by simp),ct (by rfl),FK d]
end Go.Proofs.YtkljfdkmjdjpfaaGreat
end
section
set_option linter.unusedVariables false
set_option linter.unusedSimpArgs false
namespace Go.Proofs.YtkljfdkmjdjpfaaGreat
open Go.RowKit Go.WideShapes
set_option maxRecDepth 20000
open HF
attribute [local irreducible] BJ WL CC CW LV BL Ej DA One Bm
set_option maxHeartbeats 4000000 in
theorem a4(aC:Nat)(d:Ar)(aU:List (List Int))(s:AX)(e:Option Addr)(f:Nat)(y:Option Addr)(z:Nat)(n:Option Addr)(o:Nat)(p:Option Addr)(q:Nat)(Z:Nat→Prop)(w:World)(dY:Sl AQ w Z e f d.Ad)(dZ:Sl (BF (AG .i64)) w Z y z aU)(d0:Sl (AG .i64) w Z n o s.Comes)(d1:Sl Bw w Z p q s.Ap)(a:Fb aC d aU s=some true):
 BL Tryz.prog 4 #[.agg #[I d.Am,I d.An,I d.Ap,I d.AB,.slice e d.Ad.length f],.slice y aU.length z,.agg #[.slice n s.Comes.length o,.slice p s.Ap.length q]] w (fun v w'=>Ext w w'∧v=.bool true):=by
 unfold Fb at a;refine Ba (N:=88) Tryz.func4 rfl rfl (by simp) ?_;intro gR d2 gS;have eG:=AO (i:=0) (v:=.agg #[I d.Am,I d.An,I d.Ap,I d.AB,.slice e d.Ad.length f]) d2 rfl;have a5:=AO (i:=1) (v:=.slice y aU.length z) d2 rfl;have eH:=AO (i:=2) (v:=.agg #[.slice n s.Comes.length o,.slice p s.Ap.length q]) d2 rfl;clear d2;have d6:Hp FN [] w [] w:=Hp.start (BM.none w);have dD:=dY.mv (Bf (Z:=Z) (L:=[]) w);have dE:=dZ.mv (Bf (Z:=Z) (L:=[]) w);have dF:=d0.mv (Bf (Z:=Z) (L:=[]) w);have dG:=d1.mv (Bf (Z:=Z) (L:=[]) w);refine Ae<|Aa<|we rfl (fun st=>B1 (v:=.agg #[I d.Am,I d.An,I d.Ap,I d.AB,.slice e d.Ad.length f]) (cs:= #[I d.Am,I d.An,I d.Ap,I d.AB,.slice e d.Ad.length f]) (ee st eG) rfl) ?_;rintro _ w1 ⟨a2,rfl,bX⟩;have d7:=d6.nb bX;have gN:=d6.BN bX;refine we rfl (fun st=>B1 (v:=.agg #[.slice n s.Comes.length o,.slice p s.Ap.length q]) (cs:= #[.slice n s.Comes.length o,.slice p s.Ap.length q]) (ee st eH) rfl) ?_;rintro _ w2 ⟨a3,rfl,bU⟩;have gE:=d7.nb bU;have gO:=d7.BN bU;refine wa rfl (v:=.bool false) rfl<|Af<|Ab<|Ae<|Ae<|Aa ?_;have c5:=(bX.bk.ext bU.gr);refine wd rfl (fun st=>Bd (l:=[I d.Am,I d.An,I d.Ap,I d.AB,.slice e d.Ad.length f]) FE (ee st rfl) c5 rfl rfl) ?_;have cL:=((dD.mv (Ax bX)).mv (Ax bU));replace a:=bind_some a;obtain⟨dJ,gF,a⟩:=a;refine we rfl (fun st=>AN TK (ee st rfl) (CK (ee st rfl)) (Vn aC d e f ZA _ cL.all dJ gF)) ?_;rintro _ hJ ⟨bY,rfl⟩;have d8:=gE.ext bY;refine wd rfl (fun st=>Df (ee st rfl))<|wm rfl (v:=.bool !dJ) rfl ?_;rcases Ao (!dJ) with aT|aT
 ·replace a:=Ay a aT;have gP:dJ=false:=by simpa using aT
  refine Aj (c:=true) rfl rfl (Ac rfl aT) (by decide) rfl (by decide)<|Aj (c:=true) rfl rfl (Ac rfl aT) (by decide) rfl (by decide)<|Aj (c:=true) rfl rfl (Ac rfl aT) (by decide) rfl (by decide)<|wd rfl (fun st=>AS (v:=.bool true) (ee st rfl) aT (ee st rfl))<|wm rfl (v:=.bool true) rfl<|Aj rfl rfl rfl (by decide) rfl (by decide)<|Aj rfl rfl rfl (by decide) rfl (by decide)<|Aj rfl rfl rfl (by decide) rfl (by decide)<|Aj rfl rfl rfl (by decide) rfl (by decide)<|wd rfl (fun st=>AS (v:=.bool true) (ee st rfl) rfl (ee st rfl))<|wm rfl (v:=.bool true) rfl<|Aj rfl rfl rfl (by decide) rfl (by decide)<|Aj rfl rfl rfl (by decide) rfl (by decide)<|Aj rfl rfl rfl (by decide) rfl (by decide)<|Aj rfl rfl rfl (by decide) rfl (by decide)<|wd rfl (fun st=>AS (v:=.bool true) (ee st rfl) rfl (ee st rfl))<|Af<|Ab<|Av rfl rfl<|Ae<|Aa ?_;replace a:=Cz a;obtain⟨gG,a⟩:=a;refine we rfl (fun st=>AN GN (ee st rfl) GV (JR aC ZA _ gG)) ?_;rintro _ hL ⟨gH,rfl⟩;have gI:=d8.ext gH;refine wa rfl (v:=.bool true) rfl<|Af<|Ab<|AH<|Aw ?_;have aA:=Option.some.inj a;refine AP rfl rfl ?_;exact⟨gI.Bt,congrArg Value.bool aA⟩
 ·replace a:=Az a aT;have gQ:dJ=true:=by simpa using aT
  refine As rfl rfl (Ac rfl aT) rfl (by decide) (fun st=>AV (v:=.slice y aU.length z) (ee st a5)) ?_;have cM:=(((dE.mv (Ax bX)).mv (Ax bU)).mv (Ai bY));replace a:=bind_some a;obtain⟨cN,eI,a⟩:=a;refine Ct rfl rfl (Ac rfl aT) rfl (by decide) (fun st=>AN TV (ee st rfl) (CK (ee st rfl)) (a28 aC aU y z ZA _ cM.all cN eI)) ?_;rintro _ gT ⟨a6,rfl⟩;have bV:=d8.ext a6;refine As rfl rfl (Ac rfl aT) rfl (by decide) (fun st=>Df (ee st rfl))<|wd rfl (fun st=>Bu (v:=.bool !cN) (ee st rfl) aT (ee st rfl))<|wm rfl (v:=.bool !cN) rfl ?_;rcases Ao (!cN) with aD|aD
  ·replace a:=Ay a aD;have f8:cN=false:=by simpa using aD
   refine Aj (c:=true) rfl rfl (Ac rfl aD) (by decide) rfl (by decide)<|Aj (c:=true) rfl rfl (Ac rfl aD) (by decide) rfl (by decide)<|Aj (c:=true) rfl rfl (Ac rfl aD) (by decide) rfl (by decide)<|Aj (c:=true) rfl rfl (Ac rfl aD) (by decide) rfl (by decide)<|wd rfl (fun st=>AS (v:=.bool true) (ee st rfl) aD (ee st rfl))<|wm rfl (v:=.bool true) rfl<|Aj rfl rfl rfl (by decide) rfl (by decide)<|Aj rfl rfl rfl (by decide) rfl (by decide)<|Aj rfl rfl rfl (by decide) rfl (by decide)<|Aj rfl rfl rfl (by decide) rfl (by decide)<|wd rfl (fun st=>AS (v:=.bool true) (ee st rfl) rfl (ee st rfl))<|Af<|Ab<|Av rfl rfl<|Ae<|Aa ?_;replace a:=Cz a;obtain⟨eJ,a⟩:=a;refine we rfl (fun st=>AN GN (ee st rfl) GV (JR aC ZA _ eJ)) ?_;rintro _ gU ⟨eK,rfl⟩;have gJ:=bV.ext eK;refine wa rfl (v:=.bool true) rfl<|Af<|Ab<|AH<|Aw ?_;have aA:=Option.some.inj a;refine AP rfl rfl ?_;exact⟨gJ.Bt,congrArg Value.bool aA⟩
  ·replace a:=Az a aD;have f9:cN=true:=by simpa using aD
   refine As rfl rfl (Ac rfl aD) rfl (by decide) (fun st=>Ak (ee st rfl) (Io _ _)) ?_;have aY:=((bU.bk.ext bY).ext a6);refine As rfl rfl (Ac rfl aD) rfl (by decide) (fun st=>Au (v:=.slice n s.Comes.length o) Dp (ee st rfl) aY rfl)<|As rfl rfl (Ac rfl aD) rfl (by decide) (fun st=>BD Tryz.underlying23 (ee st rfl))<|As rfl rfl (Ac rfl aD) rfl (by decide) (fun st=>FP (ee st rfl) (ee st rfl))<|wd rfl (fun st=>Bu (v:=.bool (decide ((8:Int)<(s.Comes.length:Int)))) (ee st rfl) aD (ee st rfl))<|wm rfl (v:=.bool (decide ((8:Int)<(s.Comes.length:Int)))) rfl ?_;rcases Ao (decide ((8:Int)<(s.Comes.length:Int))) with aH|aH
   ·replace a:=Ay a aH;refine Aj (c:=true) rfl rfl (Ac rfl aH) (by decide) rfl (by decide)<|Aj (c:=true) rfl rfl (Ac rfl aH) (by decide) rfl (by decide)<|Aj (c:=true) rfl rfl (Ac rfl aH) (by decide) rfl (by decide)<|Aj (c:=true) rfl rfl (Ac rfl aH) (by decide) rfl (by decide)<|wd rfl (fun st=>AS (v:=.bool true) (ee st rfl) aH (ee st rfl))<|Af<|Ab<|Av rfl rfl<|Ae<|Aa ?_;replace a:=Cz a;obtain⟨eL,a⟩:=a;refine we rfl (fun st=>AN GN (ee st rfl) GV (JR aC ZA _ eL)) ?_;rintro _ gV ⟨eM,rfl⟩;have gK:=bV.ext eM;refine wa rfl (v:=.bool true) rfl<|Af<|Ab<|AH<|Aw ?_;have aA:=Option.some.inj a;refine AP rfl rfl ?_;exact⟨gK.Bt,congrArg Value.bool aA⟩
   ·replace a:=Az a aH;refine As rfl rfl (Ac rfl aH) rfl (by decide) (fun st=>Ak (ee st rfl) (HI _ _))<|As rfl rfl (Ac rfl aH) rfl (by decide) (fun st=>Au (v:=.slice p s.Ap.length q) Fi (ee st rfl) aY rfl)<|As rfl rfl (Ac rfl aH) rfl (by decide) (fun st=>BD Tryz.underlying65 (ee st rfl))<|As rfl rfl (Ac rfl aH) rfl (by decide) (fun st=>FP (ee st rfl) (ee st rfl))<|wd rfl (fun st=>Bu (v:=.bool (decide ((12:Int)<(s.Ap.length:Int)))) (ee st rfl) aH (ee st rfl))<|Af<|Ab ?_;rcases Ao (decide ((12:Int)<(s.Ap.length:Int))) with bZ|bZ
    ·replace a:=Ay a bZ;refine Av rfl bZ<|Ae<|Aa ?_;replace a:=Cz a;obtain⟨eN,a⟩:=a;refine we rfl (fun st=>AN GN (ee st rfl) GV (JR aC ZA _ eN)) ?_;rintro _ gW ⟨eO,rfl⟩;have gL:=bV.ext eO;refine wa rfl (v:=.bool true) rfl<|Af<|Ab<|AH<|Aw ?_;have aA:=Option.some.inj a;refine AP rfl rfl ?_;exact⟨gL.Bt,congrArg Value.bool aA⟩
    ·replace a:=Az a bZ;refine AE rfl bZ<|AT<|Ab<|Ae ?_;have c6:=((c5.ext bY).ext a6);have cO:=((cL.mv (Ai bY)).mv (Ai a6));replace a:=bind_some a;obtain⟨bW,eP,a⟩:=a;have bI:=(cM.mv (Ai a6));replace a:=bind_some a;obtain⟨c7,eQ,a⟩:=a;have aZ:=((((dF.mv (Ax bX)).mv (Ax bU)).mv (Ai bY)).mv (Ai a6));have a0:=((((dG.mv (Ax bX)).mv (Ax bU)).mv (Ai bY)).mv (Ai a6));replace a:=bind_some a;obtain⟨c0,eR,a⟩:=a;replace a:=bind_some a;obtain⟨b,eS,a⟩:=a;refine CL 11 [Kc (.agg #[I d.Am,I d.An,I d.Ap,I d.AB,.slice e d.Ad.length f]),Kv (Dr Hu) (ZZ FN [] Z w.heap.size [some a3,some a2]) bW,Kc (.slice y aU.length z),Kv (Fv (BF (AG .i64))) (ZZ FN [] Z w.heap.size [some a3,some a2]) c7,Kc (.agg #[.slice n s.Comes.length o,.slice p s.Ap.length q]),Kv (Dr Fo) (ZZ FN [] Z w.heap.size [some a3,some a2]) c0,Kv (Mq (Fv By) (Fy .i64)) (ZZ FN [] Z w.heap.size [some a3,some a2]) b,Kv (Mq (Fv By) (Fy .i64)) (ZZ FN [] Z w.heap.size [some a3,some a2]) b,Kv (Fv By) (ZZ FN [] Z w.heap.size [some a3,some a2]) b.1,Kc (I b.2),Kv (Fv By) (ZZ FN [] Z w.heap.size [some a3,some a2]) b.1] mixed rfl rfl
         (Ah (od rfl (fun _=>rfl) (fun K=>Bd (l:=[I d.Am,I d.An,I d.Ap,I d.AB,.slice e d.Ad.length f]) FE (es ((K.out 3 rfl).trans rfl)) (c6.ext K.Bs) rfl rfl))
         (Ah (EV rfl rfl (fun a' w' ph K=>(AN Qr rfl (CK (es (K.AA 0 32 rfl rfl))) (a31 aC d e f (ZZ FN [] Z w.heap.size [some a3,some a2]) _ (cO.mv (Ai K.Bs)) bW eP)).mono (fun _ _ h=>⟨(Dr Hu).mv h.2 ((bV.ext K.Bs).Dz (Nat.le_refl _)),h.1⟩)))
         (Ah (od rfl (fun _=>rfl) (fun K=>AV (es ((K.out 1 rfl).trans a5))))
         (Ah (EV rfl rfl (fun a' w' ph K=>(AN TW rfl (CK (es (K.AA 2 34 rfl rfl))) (Vt aC aU y z (ZZ FN [] Z w.heap.size [some a3,some a2]) _ (bI.mv (Ai K.Bs)) c7 eQ)).mono (fun _ _ h=>⟨(Fv (BF (AG .i64))).mv h.2 ((bV.ext K.Bs).Dz (Nat.le_refl _)),h.1⟩)))
         (Ah (od rfl (fun _=>rfl) (fun K=>Bd (l:=[.slice n s.Comes.length o,.slice p s.Ap.length q]) Jg (es ((K.out 5 rfl).trans rfl)) (aY.ext K.Bs) rfl rfl))
         (Ah (EV rfl rfl (fun a' w' ph K=>(AN TX rfl (CK (es (K.AA 4 36 rfl rfl))) (Vu aC s n o p q (ZZ FN [] Z w.heap.size [some a3,some a2]) _ (aZ.mv (Ai K.Bs)) (a0.mv (Ai K.Bs)) c0 eR)).mono (fun _ _ h=>⟨(Dr Fo).mv h.2 ((bV.ext K.Bs).Dz (Nat.le_refl _)),h.1⟩)))
         (Ah (EV rfl rfl (fun a' w' ph K=>match K.AA 3 35 rfl rfl with|⟨b1,b2,d3,cP⟩=>by obtain⟨_,d4,⟨bJ,bK,rfl,b3⟩⟩:=K.AA 1 33 rfl rfl;obtain⟨_,d5,⟨bL,bM,bN,bO,rfl,b4,b5⟩⟩:=K.AA 5 37 rfl rfl;exact(AN NW rfl (EU (es (t:=33) (v:=.agg #[I bW.Am,I bW.An,I bW.Ap,I bW.AB,.slice bJ bW.Ad.length bK]) d4) (es (t:=35) (v:=.slice b1 c7.length b2) d3) (es (t:=37) (v:=.agg #[.slice bL c0.Comes.length bM,.slice bN c0.Ap.length bO]) d5)) (T3 aC bW c7 c0 bJ bK b1 b2 bL bM bN bO (ZZ FN [] Z w.heap.size [some a3,some a2]) _ b3 cP b4 b5 b eS)).mono (fun _ _ h=>⟨(Mq (Fv By) (Fy .i64)).mv h.2 ((bV.ext K.Bs).Dz (Nat.le_refl _)),h.1⟩)))
         (Ah (EV rfl rfl (fun a' w' ph K=>(AV (v:=sl a' 38) rfl).mono (fun u Bz ⟨hu,hw⟩=>by subst hu;subst hw;exact⟨K.AA 6 38 rfl rfl,Ext.refl _⟩)))
         (Ah (EV rfl rfl (fun a' w' ph K=>by obtain⟨_,_,cS,⟨g,j,rfl,aI⟩,rfl⟩:=K.AA 7 31 rfl rfl;exact(B0 (v:=.slice g b.1.length j) (es (t:=31) (v:=.tuple #[.slice g b.1.length j,I b.2]) cS) rfl).mono (fun u Bz ⟨hu,hw⟩=>by subst hu;subst hw;exact⟨⟨g,j,rfl,aI⟩,Ext.refl _⟩)))
         (Ah (od rfl (fun _=>rfl) (fun K=>by obtain⟨_,_,cS,⟨g,j,rfl,aI⟩,rfl⟩:=K.AA 7 31 rfl rfl;exact B0 (es (t:=31) cS) rfl))
         (Ah (EV rfl rfl (fun a' w' ph K=>(K0 (v:=sl a' 39) rfl).mono (fun u Bz ⟨hu,hw⟩=>by subst hu;subst hw;exact⟨K.AA 8 39 rfl rfl,Ext.refl _⟩)))
         (Cg _)))))))))))) ?_
     intro gX;rintro _ rfl _ ⟨_,rfl,⟨bJ,bK,rfl,b3⟩⟩ _ rfl _ ⟨b1,b2,rfl,cP⟩ _ rfl _ ⟨_,rfl,⟨bL,bM,bN,bO,rfl,b4,b5⟩⟩ _ _ _ _ _ _ _ rfl _ ⟨g,j,rfl,aI⟩ aG;have gM:=bV.ext aG;refine wa rfl (v:=I b.2) rfl<|Af<|Ab<|Ae<|Aa ?_;have c8:=(c6.ext aG);refine wd rfl (fun st=>Bd (l:=[I d.Am,I d.An,I d.Ap,I d.AB,.slice e d.Ad.length f]) FE (ee st rfl) c8 rfl rfl) ?_;have cQ:=(cO.mv (Ai aG));replace a:=bind_some a;obtain⟨aK,eU,a⟩:=a;refine we rfl (fun st=>AN TL (ee st rfl) (CK (ee st rfl)) (Vm aC d e f ZA _ cQ.all aK eU)) ?_;rintro _ gY ⟨x,rfl⟩;have dK:=gM.ext x;refine wa rfl (v:=I aK) rfl<|Af<|Ab<|Ae<|Ae<|Aa ?_;have b6:=(c8.ext x);refine wd rfl (fun st=>Bd (l:=[I d.Am,I d.An,I d.Ap,I d.AB,.slice e d.Ad.length f]) FE (ee st rfl) b6 rfl rfl) ?_;have a7:=(cQ.mv (Ai x));replace a:=bind_some a;obtain⟨d9,eV,a⟩:=a;refine we rfl (fun st=>AN Qr (ee st rfl) (CK (ee st rfl)) (a31 aC d e f (ZZ FN [] Z w.heap.size [some a3,some a2]) _ a7 d9 eV)) ?_;rintro _ gZ ⟨k,⟨_,rfl,⟨dH,dI,rfl,a8⟩⟩⟩;have eW:=dK.ext k;have a8:=a8.mv (dK.Dz (Nat.le_refl _));replace a:=bind_some a;obtain⟨eA,eX,a⟩:=a;refine we rfl (fun st=>AN IH (ee st rfl) (CK (ee st rfl)) (NY aC d9 dH dI ZA _ a8.all eA eX)) ?_;rintro _ g0 ⟨m,rfl⟩;have cT:=eW.ext m;refine wm rfl (v:=I aK) rfl<|wd rfl (fun st=>EP (ee st rfl) (ee st rfl))<|Af<|Ab ?_;rcases Ao (eA !=aK) with cU|cU
     ·replace a:=Ay a cU;exact absurd (Option.some.inj a) (by decide)
     ·replace a:=Az a cU;refine AE rfl cU<|AT<|Ab<|Ae<|Ae<|Aa<|wm rfl (v:=I aK) rfl<|wd rfl (fun st=>B7 (ee st rfl) (ee st rfl))<|wm rfl (v:=.bool (aK==0)) rfl ?_;rcases Ao (aK==0) with r|r
      ·replace a:=Ay a r;have aV:=((b6.ext k).ext m);refine As rfl rfl (Ac rfl r) rfl (by decide) (fun st=>Bd (l:=[I d.Am,I d.An,I d.Ap,I d.AB,.slice e d.Ad.length f]) FE (ee st rfl) aV rfl rfl)<|As rfl rfl (Ac rfl r) rfl (by decide) (fun st=>AV (v:=.slice y aU.length z) (ee st a5)) ?_;have aL:=((a7.mv (Ai k)).mv (Ai m));have aJ:=((((bI.mv (Ai aG)).mv (Ai x)).mv (Ai k)).mv (Ai m));replace a:=bind_some a;obtain⟨c1,eY,a⟩:=a;refine Ct rfl rfl (Ac rfl r) rfl (by decide) (fun st=>AN TY (ee st rfl) (Er (ee st rfl) (ee st rfl)) (Vs aC d aU e f y z ZA _ aL.all aJ.all c1 eY)) ?_;rintro _ g1 ⟨aB,rfl⟩;have cV:=cT.ext aB;refine As rfl rfl (Ac rfl r) rfl (by decide) (fun st=>Df (ee st rfl))<|As rfl rfl (Ac rfl r) rfl (by decide) (fun st=>AV (v:=.bool !c1) (ee st rfl)) ?_;rcases Ao (!c1) with aE|aE
       ·replace a:=Ay a aE;have gA:c1=false:=by simpa using aE
        refine Aj (c:=true) rfl rfl (Ac rfl aE) (by decide) rfl (by decide)<|Aj (c:=true) rfl rfl (Ac rfl aE) (by decide) rfl (by decide)<|Aj (c:=true) rfl rfl (Ac rfl aE) (by decide) rfl (by decide)<|Aj (c:=true) rfl rfl (Ac rfl aE) (by decide) rfl (by decide)<|As rfl rfl (Ac rfl r) rfl (by decide) (fun st=>AS (v:=.bool true) (ee st rfl) aE (ee st rfl))<|wd rfl (fun st=>AS (v:=.bool true) (ee st rfl) r (ee st rfl))<|Af<|Ab<|Av rfl rfl<|Aa<|wa rfl (v:=I 2) rfl<|Af<|Ab<|Ae<|Ae<|Aa<|wm rfl (v:=I 2) rfl<|wd rfl (fun st=>EP (ee st rfl) (ee st rfl))<|Af<|Ab ?_;rcases Ao ((2:Int) !=(0:Int)) with b7|b7
        ·replace a:=Ay a b7;refine Av rfl b7<|Ae<|Aa<|wm rfl (v:=I b.2) rfl<|wm rfl (v:=I 2) rfl<|wd rfl (fun st=>B7 (ee st rfl) (ee st rfl))<|wm rfl (v:=.bool (b.2==2)) rfl ?_;rcases Ao (b.2==2) with a9|a9
         ·replace a:=Ay a a9;refine As rfl rfl (Ac rfl a9) rfl (by decide) (fun st=>AV (v:=.slice g b.1.length j) (ee st rfl))<|As rfl rfl (Ac rfl a9) rfl (by decide) (fun st=>BD Tryz.underlying70 (ee st rfl))<|As rfl rfl (Ac rfl a9) rfl (by decide) (fun st=>B7 (ee st rfl) (ee st rfl))<|wd rfl (fun st=>AS (v:=.bool ((b.1.length:Int)==0)) (ee st rfl) a9 (ee st rfl))<|wm rfl (v:=.bool ((b.1.length:Int)==0)) rfl ?_;rcases Ao ((b.1.length:Int)==0) with b8|b8
          ·replace a:=Ay a b8;replace a:=Cz a;obtain⟨eZ,a⟩:=a;refine Ct rfl rfl (Ac rfl b8) rfl (by decide) (fun st=>AN GN (ee st rfl) GV (JR aC ZA _ eZ)) ?_;rintro _ g2 ⟨e0,rfl⟩;have e1:=cV.ext e0;refine wd rfl (fun st=>AS (v:=.bool true) (ee st rfl) b8 (ee st rfl))<|wa rfl (v:=.bool true) rfl<|Af<|Ab<|AH<|Aw ?_;have aA:=Option.some.inj a;refine AP rfl rfl ?_;exact⟨e1.Bt,congrArg Value.bool aA⟩
          ·replace a:=Az a b8;exact absurd (Option.some.inj a) (by decide)
         ·replace a:=Az a a9;exact absurd (Option.some.inj a) (by decide)
        ·replace a:=Az a b7;refine AE rfl b7<|AT<|Ab<|Ae<|Aa<|wm rfl (v:=I b.2) rfl<|wd rfl (fun st=>B7 (ee st rfl) (ee st rfl))<|wm rfl (v:=.bool (b.2==0)) rfl ?_;rcases Ao (b.2==0) with aP|aP
         ·replace a:=Ay a aP;refine As rfl rfl (Ac rfl aP) rfl (by decide) (fun st=>AV (v:=.slice g b.1.length j) (ee st rfl)) ?_;have aW:=(aV.ext aB);refine As rfl rfl (Ac rfl aP) rfl (by decide) (fun st=>Bd (l:=[I d.Am,I d.An,I d.Ap,I d.AB,.slice e d.Ad.length f]) FE (ee st rfl) aW rfl rfl)<|As rfl rfl (Ac rfl aP) rfl (by decide) (fun st=>AV (v:=.slice y aU.length z) (ee st a5)) ?_;have aX:=(((((aY.ext aG).ext x).ext k).ext m).ext aB);refine As rfl rfl (Ac rfl aP) rfl (by decide) (fun st=>Bd (l:=[.slice n s.Comes.length o,.slice p s.Ap.length q]) Jg (ee st rfl) aX rfl rfl) ?_;have aM:=(aL.mv (Ai aB));have c2:=(aJ.mv (Ai aB));have aN:=(((((aZ.mv (Ai aG)).mv (Ai x)).mv (Ai k)).mv (Ai m)).mv (Ai aB));have aO:=(((((a0.mv (Ai aG)).mv (Ai x)).mv (Ai k)).mv (Ai m)).mv (Ai aB));replace a:=bind_some a;obtain⟨eB,e2,a⟩:=a;refine Ct rfl rfl (Ac rfl aP) rfl (by decide) (fun st=>AN LP (ee st rfl) (EU (ee st rfl) (ee st rfl) (ee st rfl)) (RF aC d aU s e f y z n o p q (ZZ FN [] Z w.heap.size [some a3,some a2]) _ aM c2 aN aO eB e2)) ?_;rintro _ g3 ⟨dL,⟨dM,dN,rfl,bP⟩⟩;have e3:=cV.ext dL;have bP:=bP.mv (cV.Dz (Nat.le_refl _));have cW:=(((((aI.mv (Ai x)).mv (Ai k)).mv (Ai m)).mv (Ai aB)).mv (Ai dL));replace a:=bind_some a;obtain⟨c9,e4,a⟩:=a;refine Ct rfl rfl (Ac rfl aP) rfl (by decide) (fun st=>AN LQ (ee st rfl) (Er (ee st rfl) (ee st rfl)) (RG aC b.1 eB g j dM dN ZA _ cW.all bP.all c9 e4)) ?_;rintro _ g4 ⟨e5,rfl⟩;have e6:=e3.ext e5;refine wd rfl (fun st=>AS (v:=.bool c9) (ee st rfl) aP (ee st rfl))<|wm rfl (v:=.bool c9) rfl ?_;rcases Ao (c9) with b9|b9
          ·replace a:=Ay a b9;replace a:=Cz a;obtain⟨e7,a⟩:=a;refine Ct rfl rfl (Ac rfl b9) rfl (by decide) (fun st=>AN GN (ee st rfl) GV (JR aC ZA _ e7)) ?_;rintro _ g5 ⟨e8,rfl⟩;have e9:=e6.ext e8;refine wd rfl (fun st=>AS (v:=.bool true) (ee st rfl) b9 (ee st rfl))<|wa rfl (v:=.bool true) rfl<|Af<|Ab<|AH ?_;have aA:=Option.some.inj a;refine AP rfl rfl ?_;exact⟨e9.Bt,congrArg Value.bool aA⟩
          ·replace a:=Az a b9;exact absurd (Option.some.inj a) (by decide)
         ·replace a:=Az a aP;exact absurd (Option.some.inj a) (by decide)
       ·replace a:=Az a aE;have gB:c1=true:=by simpa using aE
        have aW:=(aV.ext aB);refine As rfl rfl (Ac rfl aE) rfl (by decide) (fun st=>Bd (l:=[I d.Am,I d.An,I d.Ap,I d.AB,.slice e d.Ad.length f]) FE (ee st rfl) aW rfl rfl) ?_;have aX:=(((((aY.ext aG).ext x).ext k).ext m).ext aB);refine As rfl rfl (Ac rfl aE) rfl (by decide) (fun st=>Bd (l:=[.slice n s.Comes.length o,.slice p s.Ap.length q]) Jg (ee st rfl) aX rfl rfl) ?_;have aM:=(aL.mv (Ai aB));have aN:=(((((aZ.mv (Ai aG)).mv (Ai x)).mv (Ai k)).mv (Ai m)).mv (Ai aB));have aO:=(((((a0.mv (Ai aG)).mv (Ai x)).mv (Ai k)).mv (Ai m)).mv (Ai aB));replace a:=bind_some a;obtain⟨cR,fA,a⟩:=a;refine Ct rfl rfl (Ac rfl aE) rfl (by decide) (fun st=>AN TZ (ee st rfl) (Er (ee st rfl) (ee st rfl)) (a37 aC d s e f n o p q ZA _ aM.all aN.all aO.all cR fA)) ?_;rintro _ g6 ⟨aF,rfl⟩;have bQ:=cV.ext aF;refine As rfl rfl (Ac rfl aE) rfl (by decide) (fun st=>Df (ee st rfl))<|As rfl rfl (Ac rfl r) rfl (by decide) (fun st=>Bu (v:=.bool !cR) (ee st rfl) aE (ee st rfl))<|wd rfl (fun st=>AS (v:=.bool !cR) (ee st rfl) r (ee st rfl))<|Af<|Ab ?_;rcases Ao (!cR) with bA|bA
        ·replace a:=Ay a bA;have gC:cR=false:=by simpa using bA
         refine Av rfl bA<|Aa<|wa rfl (v:=I 2) rfl<|Af<|Ab<|Ae<|Ae<|Aa<|wm rfl (v:=I 2) rfl<|wd rfl (fun st=>EP (ee st rfl) (ee st rfl))<|Af<|Ab ?_;rcases Ao ((2:Int) !=(0:Int)) with cA|cA
         ·replace a:=Ay a cA;refine Av rfl cA<|Ae<|Aa<|wm rfl (v:=I b.2) rfl<|wm rfl (v:=I 2) rfl<|wd rfl (fun st=>B7 (ee st rfl) (ee st rfl))<|wm rfl (v:=.bool (b.2==2)) rfl ?_;rcases Ao (b.2==2) with bB|bB
          ·replace a:=Ay a bB;refine As rfl rfl (Ac rfl bB) rfl (by decide) (fun st=>AV (v:=.slice g b.1.length j) (ee st rfl))<|As rfl rfl (Ac rfl bB) rfl (by decide) (fun st=>BD Tryz.underlying70 (ee st rfl))<|As rfl rfl (Ac rfl bB) rfl (by decide) (fun st=>B7 (ee st rfl) (ee st rfl))<|wd rfl (fun st=>AS (v:=.bool ((b.1.length:Int)==0)) (ee st rfl) bB (ee st rfl))<|wm rfl (v:=.bool ((b.1.length:Int)==0)) rfl ?_;rcases Ao ((b.1.length:Int)==0) with cB|cB
           ·replace a:=Ay a cB;replace a:=Cz a;obtain⟨fB,a⟩:=a;refine Ct rfl rfl (Ac rfl cB) rfl (by decide) (fun st=>AN GN (ee st rfl) GV (JR aC ZA _ fB)) ?_;rintro _ g7 ⟨fC,rfl⟩;have fD:=bQ.ext fC;refine wd rfl (fun st=>AS (v:=.bool true) (ee st rfl) cB (ee st rfl))<|wa rfl (v:=.bool true) rfl<|Af<|Ab<|AH<|Aw ?_;have aA:=Option.some.inj a;refine AP rfl rfl ?_;exact⟨fD.Bt,congrArg Value.bool aA⟩
           ·replace a:=Az a cB;exact absurd (Option.some.inj a) (by decide)
          ·replace a:=Az a bB;exact absurd (Option.some.inj a) (by decide)
         ·replace a:=Az a cA;refine AE rfl cA<|AT<|Ab<|Ae<|Aa<|wm rfl (v:=I b.2) rfl<|wd rfl (fun st=>B7 (ee st rfl) (ee st rfl))<|wm rfl (v:=.bool (b.2==0)) rfl ?_;rcases Ao (b.2==0) with aQ|aQ
          ·replace a:=Ay a aQ;refine As rfl rfl (Ac rfl aQ) rfl (by decide) (fun st=>AV (v:=.slice g b.1.length j) (ee st rfl)) ?_;have cC:=(aW.ext aF);refine As rfl rfl (Ac rfl aQ) rfl (by decide) (fun st=>Bd (l:=[I d.Am,I d.An,I d.Ap,I d.AB,.slice e d.Ad.length f]) FE (ee st rfl) cC rfl rfl)<|As rfl rfl (Ac rfl aQ) rfl (by decide) (fun st=>AV (v:=.slice y aU.length z) (ee st a5)) ?_;have cD:=(aX.ext aF);refine As rfl rfl (Ac rfl aQ) rfl (by decide) (fun st=>Bd (l:=[.slice n s.Comes.length o,.slice p s.Ap.length q]) Jg (ee st rfl) cD rfl rfl) ?_;have bC:=(aM.mv (Ai aF));have bD:=((aJ.mv (Ai aB)).mv (Ai aF));have bE:=(aN.mv (Ai aF));have bF:=(aO.mv (Ai aF));replace a:=bind_some a;obtain⟨eC,fE,a⟩:=a;refine Ct rfl rfl (Ac rfl aQ) rfl (by decide) (fun st=>AN LP (ee st rfl) (EU (ee st rfl) (ee st rfl) (ee st rfl)) (RF aC d aU s e f y z n o p q (ZZ FN [] Z w.heap.size [some a3,some a2]) _ bC bD bE bF eC fE)) ?_;rintro _ g8 ⟨dO,⟨dP,dQ,rfl,bR⟩⟩;have fF:=bQ.ext dO;have bR:=bR.mv (bQ.Dz (Nat.le_refl _));have cX:=((((((aI.mv (Ai x)).mv (Ai k)).mv (Ai m)).mv (Ai aB)).mv (Ai aF)).mv (Ai dO));replace a:=bind_some a;obtain⟨dA,fG,a⟩:=a;refine Ct rfl rfl (Ac rfl aQ) rfl (by decide) (fun st=>AN LQ (ee st rfl) (Er (ee st rfl) (ee st rfl)) (RG aC b.1 eC g j dP dQ ZA _ cX.all bR.all dA fG)) ?_;rintro _ g9 ⟨fH,rfl⟩;have fI:=fF.ext fH;refine wd rfl (fun st=>AS (v:=.bool dA) (ee st rfl) aQ (ee st rfl))<|wm rfl (v:=.bool dA) rfl ?_;rcases Ao (dA) with cE|cE
           ·replace a:=Ay a cE;replace a:=Cz a;obtain⟨fJ,a⟩:=a;refine Ct rfl rfl (Ac rfl cE) rfl (by decide) (fun st=>AN GN (ee st rfl) GV (JR aC ZA _ fJ)) ?_;rintro _ hA ⟨fK,rfl⟩;have fL:=fI.ext fK;refine wd rfl (fun st=>AS (v:=.bool true) (ee st rfl) cE (ee st rfl))<|wa rfl (v:=.bool true) rfl<|Af<|Ab<|AH ?_;have aA:=Option.some.inj a;refine AP rfl rfl ?_;exact⟨fL.Bt,congrArg Value.bool aA⟩
           ·replace a:=Az a cE;exact absurd (Option.some.inj a) (by decide)
          ·replace a:=Az a aQ;exact absurd (Option.some.inj a) (by decide)
        ·replace a:=Az a bA;have gD:cR=true:=by simpa using bA
         refine AE rfl bA<|AT<|Ab<|Ae<|Ae<|Aa<|wm rfl (v:=I aK) rfl<|wd rfl (fun st=>EP (ee st rfl) (ee st rfl))<|Af<|Ab ?_;rcases Ao (aK !=0) with cF|cF
         ·replace a:=Ay a cF;refine Av rfl cF<|Ae<|Aa<|wm rfl (v:=I b.2) rfl<|wm rfl (v:=I aK) rfl<|wd rfl (fun st=>B7 (ee st rfl) (ee st rfl))<|wm rfl (v:=.bool (b.2==aK)) rfl ?_;rcases Ao (b.2==aK) with bG|bG
          ·replace a:=Ay a bG;refine As rfl rfl (Ac rfl bG) rfl (by decide) (fun st=>AV (v:=.slice g b.1.length j) (ee st rfl))<|As rfl rfl (Ac rfl bG) rfl (by decide) (fun st=>BD Tryz.underlying70 (ee st rfl))<|As rfl rfl (Ac rfl bG) rfl (by decide) (fun st=>B7 (ee st rfl) (ee st rfl))<|wd rfl (fun st=>AS (v:=.bool ((b.1.length:Int)==0)) (ee st rfl) bG (ee st rfl))<|wm rfl (v:=.bool ((b.1.length:Int)==0)) rfl ?_;rcases Ao ((b.1.length:Int)==0) with cG|cG
           ·replace a:=Ay a cG;replace a:=Cz a;obtain⟨fM,a⟩:=a;refine Ct rfl rfl (Ac rfl cG) rfl (by decide) (fun st=>AN GN (ee st rfl) GV (JR aC ZA _ fM)) ?_;rintro _ hB ⟨fN,rfl⟩;have fO:=bQ.ext fN;refine wd rfl (fun st=>AS (v:=.bool true) (ee st rfl) cG (ee st rfl))<|wa rfl (v:=.bool true) rfl<|Af<|Ab<|AH<|Aw ?_;have aA:=Option.some.inj a;refine AP rfl rfl ?_;exact⟨fO.Bt,congrArg Value.bool aA⟩
           ·replace a:=Az a cG;exact absurd (Option.some.inj a) (by decide)
          ·replace a:=Az a bG;exact absurd (Option.some.inj a) (by decide)
         ·replace a:=Az a cF;refine AE rfl cF<|AT<|Ab<|Ae<|Aa<|wm rfl (v:=I b.2) rfl<|wd rfl (fun st=>B7 (ee st rfl) (ee st rfl))<|wm rfl (v:=.bool (b.2==0)) rfl ?_;rcases Ao (b.2==0) with aR|aR
          ·replace a:=Ay a aR;refine As rfl rfl (Ac rfl aR) rfl (by decide) (fun st=>AV (v:=.slice g b.1.length j) (ee st rfl)) ?_;have cC:=(aW.ext aF);refine As rfl rfl (Ac rfl aR) rfl (by decide) (fun st=>Bd (l:=[I d.Am,I d.An,I d.Ap,I d.AB,.slice e d.Ad.length f]) FE (ee st rfl) cC rfl rfl)<|As rfl rfl (Ac rfl aR) rfl (by decide) (fun st=>AV (v:=.slice y aU.length z) (ee st a5)) ?_;have cD:=(aX.ext aF);refine As rfl rfl (Ac rfl aR) rfl (by decide) (fun st=>Bd (l:=[.slice n s.Comes.length o,.slice p s.Ap.length q]) Jg (ee st rfl) cD rfl rfl) ?_;have bC:=(aM.mv (Ai aF));have bD:=((aJ.mv (Ai aB)).mv (Ai aF));have bE:=(aN.mv (Ai aF));have bF:=(aO.mv (Ai aF));replace a:=bind_some a;obtain⟨eD,fP,a⟩:=a;refine Ct rfl rfl (Ac rfl aR) rfl (by decide) (fun st=>AN LP (ee st rfl) (EU (ee st rfl) (ee st rfl) (ee st rfl)) (RF aC d aU s e f y z n o p q (ZZ FN [] Z w.heap.size [some a3,some a2]) _ bC bD bE bF eD fP)) ?_;rintro _ hC ⟨dR,⟨dS,dT,rfl,bS⟩⟩;have fQ:=bQ.ext dR;have bS:=bS.mv (bQ.Dz (Nat.le_refl _));have cY:=((((((aI.mv (Ai x)).mv (Ai k)).mv (Ai m)).mv (Ai aB)).mv (Ai aF)).mv (Ai dR));replace a:=bind_some a;obtain⟨dB,fR,a⟩:=a;refine Ct rfl rfl (Ac rfl aR) rfl (by decide) (fun st=>AN LQ (ee st rfl) (Er (ee st rfl) (ee st rfl)) (RG aC b.1 eD g j dS dT ZA _ cY.all bS.all dB fR)) ?_;rintro _ hD ⟨fS,rfl⟩;have fT:=fQ.ext fS;refine wd rfl (fun st=>AS (v:=.bool dB) (ee st rfl) aR (ee st rfl))<|wm rfl (v:=.bool dB) rfl ?_;rcases Ao (dB) with cH|cH
           ·replace a:=Ay a cH;replace a:=Cz a;obtain⟨fU,a⟩:=a;refine Ct rfl rfl (Ac rfl cH) rfl (by decide) (fun st=>AN GN (ee st rfl) GV (JR aC ZA _ fU)) ?_;rintro _ hE ⟨fV,rfl⟩;have fW:=fT.ext fV;refine wd rfl (fun st=>AS (v:=.bool true) (ee st rfl) cH (ee st rfl))<|wa rfl (v:=.bool true) rfl<|Af<|Ab<|AH ?_;have aA:=Option.some.inj a;refine AP rfl rfl ?_;exact⟨fW.Bt,congrArg Value.bool aA⟩
           ·replace a:=Az a cH;exact absurd (Option.some.inj a) (by decide)
          ·replace a:=Az a aR;exact absurd (Option.some.inj a) (by decide)
      ·replace a:=Az a r;refine Aj (c:=false) rfl rfl (Ac rfl r) (by decide) rfl (by decide)<|Aj (c:=false) rfl rfl (Ac rfl r) (by decide) rfl (by decide)<|Aj (c:=false) rfl rfl (Ac rfl r) (by decide) rfl (by decide)<|Aj (c:=false) rfl rfl (Ac rfl r) (by decide) rfl (by decide)<|Aj (c:=false) rfl rfl (Ac rfl r) (by decide) rfl (by decide)<|G0 rfl rfl rfl rfl (by decide)<|G0 rfl rfl rfl rfl (by decide)<|G0 rfl rfl rfl rfl (by decide)<|G0 rfl rfl rfl rfl (by decide)<|Aj (c:=false) rfl rfl (Ac rfl r) (by decide) rfl (by decide)<|wd rfl (fun st=>Bu (v:=.bool false) (ee st rfl) r (ee st rfl))<|Af<|Ab<|AE rfl rfl<|AT<|Ab<|Ae<|Ae<|Aa<|wm rfl (v:=I aK) rfl<|wd rfl (fun st=>EP (ee st rfl) (ee st rfl))<|Af<|Ab ?_;rcases Ao (aK !=0) with cI|cI
       ·replace a:=Ay a cI;refine Av rfl cI<|Ae<|Aa<|wm rfl (v:=I b.2) rfl<|wm rfl (v:=I aK) rfl<|wd rfl (fun st=>B7 (ee st rfl) (ee st rfl))<|wm rfl (v:=.bool (b.2==aK)) rfl ?_;rcases Ao (b.2==aK) with bH|bH
        ·replace a:=Ay a bH;refine As rfl rfl (Ac rfl bH) rfl (by decide) (fun st=>AV (v:=.slice g b.1.length j) (ee st rfl))<|As rfl rfl (Ac rfl bH) rfl (by decide) (fun st=>BD Tryz.underlying70 (ee st rfl))<|As rfl rfl (Ac rfl bH) rfl (by decide) (fun st=>B7 (ee st rfl) (ee st rfl))<|wd rfl (fun st=>AS (v:=.bool ((b.1.length:Int)==0)) (ee st rfl) bH (ee st rfl))<|wm rfl (v:=.bool ((b.1.length:Int)==0)) rfl ?_;rcases Ao ((b.1.length:Int)==0) with cJ|cJ
         ·replace a:=Ay a cJ;replace a:=Cz a;obtain⟨fX,a⟩:=a;refine Ct rfl rfl (Ac rfl cJ) rfl (by decide) (fun st=>AN GN (ee st rfl) GV (JR aC ZA _ fX)) ?_;rintro _ hF ⟨fY,rfl⟩;have fZ:=cT.ext fY;refine wd rfl (fun st=>AS (v:=.bool true) (ee st rfl) cJ (ee st rfl))<|wa rfl (v:=.bool true) rfl<|Af<|Ab<|AH<|Aw ?_;have aA:=Option.some.inj a;refine AP rfl rfl ?_;exact⟨fZ.Bt,congrArg Value.bool aA⟩
         ·replace a:=Az a cJ;exact absurd (Option.some.inj a) (by decide)
        ·replace a:=Az a bH;exact absurd (Option.some.inj a) (by decide)
       ·replace a:=Az a cI;refine AE rfl cI<|AT<|Ab<|Ae<|Aa<|wm rfl (v:=I b.2) rfl<|wd rfl (fun st=>B7 (ee st rfl) (ee st rfl))<|wm rfl (v:=.bool (b.2==0)) rfl ?_;rcases Ao (b.2==0) with aS|aS
        ·replace a:=Ay a aS;refine As rfl rfl (Ac rfl aS) rfl (by decide) (fun st=>AV (v:=.slice g b.1.length j) (ee st rfl)) ?_;have aV:=((b6.ext k).ext m);refine As rfl rfl (Ac rfl aS) rfl (by decide) (fun st=>Bd (l:=[I d.Am,I d.An,I d.Ap,I d.AB,.slice e d.Ad.length f]) FE (ee st rfl) aV rfl rfl)<|As rfl rfl (Ac rfl aS) rfl (by decide) (fun st=>AV (v:=.slice y aU.length z) (ee st a5)) ?_;have dU:=((((aY.ext aG).ext x).ext k).ext m);refine As rfl rfl (Ac rfl aS) rfl (by decide) (fun st=>Bd (l:=[.slice n s.Comes.length o,.slice p s.Ap.length q]) Jg (ee st rfl) dU rfl rfl) ?_;have aL:=((a7.mv (Ai k)).mv (Ai m));have aJ:=((((bI.mv (Ai aG)).mv (Ai x)).mv (Ai k)).mv (Ai m));have c3:=((((aZ.mv (Ai aG)).mv (Ai x)).mv (Ai k)).mv (Ai m));have c4:=((((a0.mv (Ai aG)).mv (Ai x)).mv (Ai k)).mv (Ai m));replace a:=bind_some a;obtain⟨eE,f0,a⟩:=a;refine Ct rfl rfl (Ac rfl aS) rfl (by decide) (fun st=>AN LP (ee st rfl) (EU (ee st rfl) (ee st rfl) (ee st rfl)) (RF aC d aU s e f y z n o p q (ZZ FN [] Z w.heap.size [some a3,some a2]) _ aL aJ c3 c4 eE f0)) ?_;rintro _ hG ⟨dV,⟨dW,dX,rfl,bT⟩⟩;have f1:=cT.ext dV;have bT:=bT.mv (cT.Dz (Nat.le_refl _));have cZ:=((((aI.mv (Ai x)).mv (Ai k)).mv (Ai m)).mv (Ai dV));replace a:=bind_some a;obtain⟨dC,f2,a⟩:=a;refine Ct rfl rfl (Ac rfl aS) rfl (by decide) (fun st=>AN LQ (ee st rfl) (Er (ee st rfl) (ee st rfl)) (RG aC b.1 eE g j dW dX ZA _ cZ.all bT.all dC f2)) ?_;rintro _ hH ⟨f3,rfl⟩;have f4:=f1.ext f3;refine wd rfl (fun st=>AS (v:=.bool dC) (ee st rfl) aS (ee st rfl))<|wm rfl (v:=.bool dC) rfl ?_;rcases Ao (dC) with cK|cK
         ·replace a:=Ay a cK;replace a:=Cz a;obtain⟨f5,a⟩:=a;refine Ct rfl rfl (Ac rfl cK) rfl (by decide) (fun st=>AN GN (ee st rfl) GV (JR aC ZA _ f5)) ?_;rintro _ hI ⟨f6,rfl⟩;have f7:=f4.ext f6;refine wd rfl (fun st=>AS (v:=.bool true) (ee st rfl) cK (ee st rfl))<|wa rfl (v:=.bool true) rfl<|Af<|Ab<|AH ?_;have aA:=Option.some.inj a;refine AP rfl rfl ?_;exact⟨f7.Bt,congrArg Value.bool aA⟩
         ·replace a:=Az a cK;exact absurd (Option.some.inj a) (by decide)
        ·replace a:=Az a aS;exact absurd (Option.some.inj a) (by decide)
end Go.Proofs.YtkljfdkmjdjpfaaGreat
end
section
namespace Go.Proofs.YtkljfdkmjdjpfaaGreat
open Go.RowKit Go.ChangeShapes Go.WideShapes
theorem NZ{α β:Type}{g:α→Option β}:∀{l:List α} {r:List β},l.mapM g=some r→∀(i:Nat) (x:α),l[i]?=some x→∃y,r[i]?=some y∧g x=some y
 |[],_,_,i,x,b=>by simp at b
 |a::l,r,h,i,x,b=>by
  rw[List.mapM_cons] at h;obtain⟨y,d,e⟩:=Option.bind_eq_some_iff.1 h;obtain⟨ys,c,f⟩:=Option.bind_eq_some_iff.1 e;obtain rfl:y::ys=r:=by simpa using f
  cases i with
  |zero=>
   obtain rfl:a=x:=by simpa using b
   exact⟨y,rfl,d⟩
  |succ i=>exact NZ c i x (by simpa using b)
theorem Jh{H:Type}{P:Program}{e:TypeId}{d:DataW H}{n:Nat}(b:n∈d.weights P e):∀{l:List (DataW H)},d∈l→n∈DataW.weightsAll P e l
 |[],h=>by cases h
 |a::l,h=>by
  rw[DataW.weightsAll,List.mem_append];rcases List.mem_cons.1 h with rfl|h
  ·exact .inl b
  ·exact .inr (Jh b h)
def Le {H:Type} (P:Program) (t:TypeId) (d:DataW H):Prop:=∀n∈d.weights P t,n≤reachBytes
theorem Ml{H:Type}{P:Program}{a:List TypeId}{ds:List (DataW H)}(h:(DataW.weightsEach P a ds).all (· ≤reachBytes)=true){j:Nat}{t:TypeId}{d:DataW H}(b:a[j]?=some t)(c:ds[j]?=some d):Le P t d:=fun n e=>by
 have:=List.all_eq_true.1 h _ (DataW.weights_mem_each b c n e);simpa using this
def KZ {α:Type} (P:Program) (t:TypeId) (e:D4 α) (wf:α→Prop):Prop:=
 ∀(H:Type) (enc:TypeId×Value→H) (w:World) (sp:Nat→Bool) (fuel:Nat) (cs:List Value) (x:DataW H×List MemPlace),DataW.trod enc P w 0 sp true fuel t cs=some x→Le P t x.1→∃a,e.R w ZA cs a∧wf a
def HB(k:IntKind)(n:Int):Prop:=(Lit.int k n).wf=true
section
variable{P:Program}{t:TypeId}
theorem GA{k:IntKind}(a:P.underlying t=some (.int k)):KZ P t (AG k) (HB k):=by
 intro H enc w sp fuel cs x h _;obtain⟨n,b,_,c⟩:=DataW.trod_int a h;exact⟨n,b,c⟩
theorem Rm(a:P.underlying t=some .bool):KZ P t Bw (fun _=>True):=by
 intro H enc w sp fuel cs x h _;obtain⟨b,c,_⟩:=DataW.trod_bool a h;exact⟨b,c,trivial⟩
theorem HS {e:Array Field} (g:P.underlying t=some (.struct e)) {H:Type} {enc:TypeId×Value→H} {w:World} {sp:Nat→Bool} {fuel:Nat} {cs:List Value} {x:DataW H×List MemPlace} (h:DataW.trod enc P w 0 sp true fuel t cs=some x):
  cs.length=P.cellsOf t∧∃c,∀(i a off:Nat),(e[i]?).map (fun f=>(f.type,f.offset))=some (a,off)→∃y,DataW.trod enc P w 0 sp true c a ((cs.drop off).take (P.cellsOf a))=some y∧(Le P t x.1→Le P a y.1):=by
 cases fuel with
 |zero=>simp[DataW.trod] at h
 |succ fuel=>
  unfold DataW.trod at h;simp only[g] at h;split at h
  ·rename_i m
   obtain⟨xs,o,rfl⟩:=Option.map_eq_some_iff.1 h;refine⟨m,fuel,fun i a off p=>?_⟩;obtain⟨f,b,he⟩:=Option.map_eq_some_iff.1 p;obtain⟨k,q⟩:f.type=a∧f.offset=off:=by simpa using he
   rw[←Array.getElem?_toList] at b;obtain⟨y,r,l⟩:=NZ o i f b;rw[k,q] at l;refine⟨y,l,fun s n u=>s n ?_⟩;simp only[DataW.weights,g];exact DataW.weights_mem_each (j:=i) (t:=a) (d:=y.1) (by rw[List.getElem?_map,b];simp[k]) (by rw[List.getElem?_map,r];rfl) n u
  ·cases h
theorem Pu{w:World}{a:Addr}{n:Nat}{cs:List Value}(h:w.cells? 0 a n=some cs):cs.length=n∧∀j u,cs[j]?=some u→w.cell? (a.add j)=some u:=by
 unfold World.cells? at h;rw[if_pos (Nat.zero_le _)] at h;have d:=mapM_some_length h;refine⟨by simpa using d,?_⟩;have key:∀(l:List Nat) (r:List Value),l.mapM (fun i=>w.cell? (a.add i))=some r→∀(j i:Nat) (u:Value),l[j]?=some i→r[j]?=some u→w.cell? (a.add i)=some u:=by
  intro l
  induction l with
  |nil=>intro r _ j i u c;simp at c
  |cons b l ih=>
   intro r h j i u c e;rw[List.mapM_cons] at h;obtain⟨y,m,f⟩:=Option.bind_eq_some_iff.1 h;obtain⟨ys,g,o⟩:=Option.bind_eq_some_iff.1 f;obtain rfl:y::ys=r:=by simpa using o
   cases j with
   |zero=>
    obtain rfl:b=i:=by simpa using c
    obtain rfl:y=u:=by simpa using e
    exact m
   |succ j=>exact ih ys g j i u (by simpa using c) (by simpa using e)
 intro j u c;have k:j<n:=by
  have:=(List.getElem?_eq_some_iff.1 c).1;have f:cs.length=n:=by simpa using d
  omega
 exact key _ _ h j j u (by simp[k]) c
theorem Qt{w:World}{a:Addr}{u:Value}(h:w.cell? a=some u):∃b o,a=⟨b,o,none⟩∧b<w.heap.size:=by
 obtain⟨b,o,pt⟩:=a;cases pt with
 |none=>
  refine⟨b,o,rfl,?_⟩;unfold World.cell? at h;cases c:w.heap[b]? with
  |none=>simp[c] at h
  |some o=>exact(Array.getElem?_eq_some_iff.1 c).1
 |some q=>
  unfold World.cell? at h;cases c:w.heap[b]? with
  |none=>simp[c] at h
  |some ob=>cases ob<;>simp[c] at h
theorem add_add{a:Addr}{k j:Nat}(h:k≤j):(a.add k).add (j-k)=a.add j:=by
 obtain⟨b,o,pt⟩:=a;cases pt with
 |none=>rw[FI,FI,FI];congr 1;omega
 |some q=>
  unfold Addr.add
  by_cases c:j=0
  ·have:k=0:=by omega
   subst this;subst c;simp
  ·by_cases d:k=0
   ·subst d;simp[c]
   ·by_cases e:j-k=0
    ·have:j=k:=by omega
     subst this;simp[d]
    ·simp[c,d,e];omega
theorem H2 {α:Type} {e:TypeId} {ee:D4 α} {wf:α→Prop} (aB:P.underlying t=some (.slice e)) (aM:P.cellsOf e=ee.sz) (h0:0<ee.sz) (aN:KZ P e ee wf) {b:Nat} (aE:P.bytesOf e=b):KZ P t (BF ee) (fun xs=>xs.length*b≤140737488351232∧∀x∈xs,wf x):=by
 intro H enc w sp fuel cs x h y;rcases Go.Deep.open_slice aB h with⟨rfl,_⟩|⟨a,len,cap,m,n0,D,aT,rfl,_,aF,aR,hm,aG,aC⟩
 ·exact⟨[],⟨none,0,rfl,Sl.nil _ _ _⟩,by simp,by simp⟩
 ·have aS:len≤m:=by rw[hm];split<;>omega
  subst aG;have l:len*b≤140737488351232:=by
   have:=y ((((List.range len).map D).length+((List.range (m-len)).map fun j=>D (len+j)).length)*P.bytesOf e) (by simp[DataW.weights,aB]);rw[aE] at this;have c:len*b≤(((List.range len).map D).length+((List.range (m-len)).map fun j=>D (len+j)).length)*b:=Nat.mul_le_mul_right _ (by simp);exact Nat.le_trans c this
  have p:∀i,i<len→Le P e (D i):=fun i hi n aH=>y n (by
   simp only[DataW.weights,aB];rw[List.mem_cons,List.mem_append];exact .inr (.inl (Jh aH (List.mem_map.2 ⟨i,by simpa using hi,rfl⟩))))
  have key:∀n,n≤len→∃Bg xs,R2 ee w ZA Bg xs∧xs.length=n∧(∀x∈xs,wf x)∧∀j u,Bg.flatten[j]?=some u→w.cell? (a.add j)=some u:=by
   intro n
   induction n with
   |zero=>exact fun _=>⟨[],[],trivial,rfl,by simp,by simp⟩
   |succ n ih=>
    intro aH;obtain⟨Bg,xs,q,c,aD,r⟩:=ih (by omega);obtain⟨ds,aO,aI⟩:=aC n (by omega);obtain⟨z,aP,aJ⟩:=aN _ _ _ _ _ _ _ aI (p n (by omega));obtain⟨aU,s⟩:=Pu aO;refine⟨Bg++[ds],xs++[z],q.append ⟨aP,trivial⟩,by simp[c],?_,?_⟩
    ·intro x f;rcases List.mem_append.1 f with f|f
     ·exact aD x f
     ·rw[List.mem_singleton.1 f];exact aJ
    ·intro j u d;rw[List.flatten_append] at d;rcases Nat.lt_or_ge j Bg.flatten.length with g|k
     ·rw[List.getElem?_append_left g] at d;exact r j u d
     ·rw[List.getElem?_append_right k] at d;have v:=s (j-Bg.flatten.length) u (by simpa using d);have aK:Bg.flatten.length=n*ee.sz:=by rw[q.I0,c]
      rw[aK] at v k;rw[aM] at v;rw[add_add k] at v;exact v
  obtain⟨Bg,xs,q,c,aD,r⟩:=key len (Nat.le_refl _);refine⟨xs,⟨some a,cap,by rw[c],by rw[c];exact aF,(fun e=>by cases e),Bg,q,?_⟩,by rw[c];exact l,aD⟩;cases aL:Bg.flatten with
  |nil=>exact .inl rfl
  |cons u us=>
   have hu:=r 0 u (by rw[aL];rfl);obtain⟨b,o,aA,g⟩:=Qt hu;have aQ:a=⟨b,o,none⟩:=by
    obtain⟨b',o',pt⟩:=a;cases pt<;>simp[Addr.add] at aA⊢;exact aA
   subst aQ;refine .inr ⟨b,o,rfl,trivial,g,fun j u d=>?_⟩;have:=r j u (by rw[aL];exact d);rw[FI] at this;exact this
end
section
variable{H:Type}{enc:TypeId×Value→H}{P:Program}{W W':World}
theorem JS{sp:Nat→Bool}:∀{e:List TypeId} {vs:List Value} {ds:List (DataW H)} {ps:List MemPlace},DataW.TrodAll enc P W 0 sp true e vs ds ps→(∀p∈ps,W.sameAt W' p)→DataW.TrodAll enc P W' 0 sp true e vs ds ps
 |[],_,_,_,h,_=>by
  obtain⟨rfl,rfl,rfl⟩:=trodAll_nil h;exact rfl
 |_::_,_,_,_,h,f=>by
  obtain⟨v,j,d,k,a,b,rfl,rfl,rfl,⟨n,g⟩,i⟩:=trodAll_cons h;exact⟨a,b,⟨n,DataW.trod_carry n _ _ _ g fun p c=>f p (List.mem_append_left _ c)⟩,JS i fun p c=>f p (List.mem_append_right _ c),rfl⟩
theorem Qu(K:Kids P (· <P.types.size))(c:∀t e,t<P.types.size→P.underlying t=some (.slice e)→0<P.cellsOf e){a:List TypeId}{vs:List Value}{ds:List (DataW H)}{ps:List MemPlace}(d:∀t∈a,t<P.types.size)
  (f:DataW.TrodAll enc P W 0 (fun _=>true) true a vs ds ps)(g:Ext W W')(b:∀p∈ps,p.block<W.heap.size)(sp:Nat→Bool)(h:∀p∈ps,sp p.block=true):DataW.TrodAll enc P W' 0 sp true a vs ds ps:=
 JS (DataW.TrodAll.respare K c d f h) fun p i=>(JT g).same (b p i)
variable{α:Type}{e:D4 α}{wf:α→Prop}{t:TypeId}{b0:Nat}{v:Value}{d:DataW H}{p:List MemPlace}{sp:Nat→Bool}
theorem OS{c:Array Field}(f:P.underlying t=some (.struct c))(g:KZ P t e wf)(b:Value.okWide P W .any b0 t v)(h:DataW.Trod enc P W 0 sp true t v d p)(i:Le P t d):∃a cs,v=.agg cs.toArray∧e.R W ZA cs a∧wf a:=by
 unfold Value.okWide at b;rw[f] at b;obtain⟨cs,rfl,_⟩:=b;obtain⟨n,j⟩:=h;obtain⟨a,k,l⟩:=g _ _ _ _ _ _ _ j i;exact⟨a,cs.toList,by simp,k,l⟩
theorem T7{ee:TypeId}(f:P.underlying t=some (.slice ee)){wf:List α→Prop}(g:KZ P t (BF e) wf)(i:Value.okWide P W .any b0 t v)(h:DataW.Trod enc P W 0 sp true t v d p)(j:Le P t d):∃xs A c,v=.slice A xs.length c∧Sl e W ZA A c xs∧wf xs:=by
 obtain⟨A,n,c,rfl⟩:=okWide_slice f i;obtain⟨m,hm⟩:=h;obtain⟨xs,⟨a,b,k,l⟩,o⟩:=g _ _ _ _ _ _ _ hm j;have:Value.slice A n c=Value.slice a xs.length b:=by simpa[Value.cells] using k
 exact⟨xs,a,b,this,l,o⟩
theorem Oc {f:Func} {s:ChangeSpec} {apart fresh handsOn again:Bool} {args:Array Value} {v:Value} {ds gs:List (DataW H)} {before pa pv:List MemPlace}
  (k:DataW.Whole enc P f.params.toList s.vars apart W args.toList ds gs before)
  (g:∀(b:Nat) (sp:Nat→Bool) (n:Bool),DataW.TrodAll enc P W' b sp n f.resultTypes.toList (v.resultList f.resultTypes.size) (s.fn H (ds++gs)).results [])
  (c:∀sp:Nat→Bool,(∀p∈before,sp p.block=true)→DataW.TrodAll enc P W' 0 sp true f.params.toList args.toList (s.fn H (ds++gs)).args pa)
  (d:∀sp:Nat→Bool,(∀p∈before,sp p.block=true)→DataW.TrodVars enc P W' sp s.vars (s.fn H (ds++gs)).vars pv)
  (e:before=pa++pv) (o:Ext W W')
  (l:∀(j:Nat) (t:TypeId) (r:Value),f.resultTypes[j]?=some t→(v.resultList f.resultTypes.size)[j]?=some r→Value.okWide P W' .any 0 t r):
  s.post enc P f apart fresh handsOn again W args v W':=by
 have m:=JT o;have h:∀p∈before,p.block<W.heap.size:=fun p a=>k.lt p a;have hold:∀p∈before,(fun b=>decide (b<W.heap.size)) p.block=true:=fun p a=>by simpa using h p a
 refine⟨ds,gs,before,[],pa,pv,k,g _ _ _,c _ hold,d _ hold,World.keptBut_mono (fun p a=>⟨a,?_⟩) (m.frame (· ∈before)),fun _=>?_⟩
 ·rw[e,List.mem_append] at a;exact Or.inr a
 ·obtain⟨_,_,_,_,_,q,u⟩:=k;refine⟨l,_,_,([]++pa)++pv,⟨[]++pa,pv,trodAll_append (c _ (fun _ _=>rfl)) (g _ _ _),d _ (fun _ _=>rfl),rfl,?_,?_⟩,?_⟩
  ·intro b off a;have i:MemPlace.cell b off∈before:=by rw[e];simpa using a
   rw[m.frozen (h _ i)];exact q b off i
  ·intro w;have:=u w;rw[e] at this;simpa using this
  ·intro p a _;rw[e];simpa using a
theorem Qv{f:FuncId}{args:Array Value}{w:World}{R:Value→World→Prop}(h:BL P f args w R):Calls P f args w (fun e w'=>∃v,e=.returned v∧R v w'):=h
end
end Go.Proofs.YtkljfdkmjdjpfaaGreat
end
section
set_option linter.unusedVariables false
set_option linter.unusedSimpArgs false
namespace Go.Proofs.YtkljfdkmjdjpfaaGreat
open Go.RowKit Go.ChangeShapes Go.WideShapes
theorem RH:∀{cs:List Value},cs.length=2→∃a0 a1,cs=[a0,a1]
 |[a0,a1],_=>⟨a0,a1,rfl⟩
theorem RI:∀{cs:List Value},cs.length=5→∃a0 a1 a2 a3 a4,cs=[a0,a1,a2,a3,a4]
 |[a0,a1,a2,a3,a4],_=>⟨a0,a1,a2,a3,a4,rfl⟩
theorem SO:KZ Tryz.prog 116 Oj (fun x=>(HB .i64 x.Lo∧HB .i64 x.Hi)):=by
 intro H enc w sp fuel cs x h c;obtain⟨d,j,e⟩:=HS Tryz.underlying116 h;have k:Tryz.prog.cellsOf 116=2:=by kernel_rfl
 rw[k] at d;have f:Tryz.prog.cellsOf 3=1:=by kernel_rfl
 obtain⟨a0,a1,rfl⟩:=RH d;obtain⟨m,a,g⟩:=e 0 3 0 rfl;simp only[f,List.drop_zero,List.drop_succ_cons,List.take_succ_cons,List.take_zero] at a;obtain⟨n0,h0,w0⟩:=(GA Tryz.underlying3) _ _ _ _ _ _ _ a (g c);cases h0;obtain⟨y1,b,i⟩:=e 1 3 1 rfl;simp only[f,List.drop_zero,List.drop_succ_cons,List.take_succ_cons,List.take_zero] at b;obtain⟨n1,l,w1⟩:=(GA Tryz.underlying3) _ _ _ _ _ _ _ b (i c);cases l;exact⟨⟨n0,n1⟩,rfl,w0,w1⟩
theorem SP:KZ Tryz.prog 118 AQ (fun x=>((HB .i64 ((⟨x.AD,x.AM⟩:CQ).Lo)∧HB .i64 ((⟨x.AD,x.AM⟩:CQ).Hi))∧HB .i64 x.Aq∧HB .i64 x.BY∧HB .i64 x.Cr)):=by
 intro H enc w sp fuel cs x h a;obtain⟨j,o,b⟩:=HS Tryz.underlying118 h;have p:Tryz.prog.cellsOf 118=5:=by kernel_rfl
 rw[p] at j;have g:Tryz.prog.cellsOf 3=1:=by kernel_rfl
 have i:Tryz.prog.cellsOf 116=2:=by kernel_rfl
 obtain⟨a0,a1,a2,a3,a4,rfl⟩:=RI j;obtain⟨y,c,k⟩:=b 0 116 0 rfl;simp only[i,List.drop_zero,List.drop_succ_cons,List.take_succ_cons,List.take_zero] at c;obtain⟨n0,h0,w0⟩:=SO _ _ _ _ _ _ _ c (k a);cases h0;obtain⟨y1,d,l⟩:=b 1 3 2 rfl;simp only[g,List.drop_zero,List.drop_succ_cons,List.take_succ_cons,List.take_zero] at d;obtain⟨n1,q,w1⟩:=(GA Tryz.underlying3) _ _ _ _ _ _ _ d (l a);cases q;obtain⟨z,e,m⟩:=b 2 3 3 rfl;simp only[g,List.drop_zero,List.drop_succ_cons,List.take_succ_cons,List.take_zero] at e;obtain⟨r,s,w2⟩:=(GA Tryz.underlying3) _ _ _ _ _ _ _ e (m a);cases s;obtain⟨aA,f,n⟩:=b 3 3 4 rfl;simp only[g,List.drop_zero,List.drop_succ_cons,List.take_succ_cons,List.take_zero] at f;obtain⟨t,u,v⟩:=(GA Tryz.underlying3) _ _ _ _ _ _ _ f (n a);cases u;exact⟨⟨n0.Lo,n0.Hi,n1,r,t⟩,rfl,w0,w1,w2,v⟩
theorem T8:KZ Tryz.prog 63 Hu (fun x=>(HB .i64 x.Am∧HB .i64 x.An∧HB .i64 x.Ap∧HB .i64 x.AB∧(x.Ad.length*40≤140737488351232∧∀y∈x.Ad,((HB .i64 ((⟨y.AD,y.AM⟩:CQ).Lo)∧HB .i64 ((⟨y.AD,y.AM⟩:CQ).Hi))∧HB .i64 y.Aq∧HB .i64 y.BY∧HB .i64 y.Cr)))):=by
 intro H enc w sp fuel cs x h a;obtain⟨k,r,c⟩:=HS Tryz.underlying63 h;have s:Tryz.prog.cellsOf 63=5:=by kernel_rfl
 rw[s] at k;have d:Tryz.prog.cellsOf 3=1:=by kernel_rfl
 have l:Tryz.prog.cellsOf 61=1:=by kernel_rfl
 obtain⟨a0,a1,a2,a3,a4,rfl⟩:=RI k;obtain⟨aH,e,m⟩:=c 0 3 0 rfl;simp only[d,List.drop_zero,List.drop_succ_cons,List.take_succ_cons,List.take_zero] at e;obtain⟨n0,h0,w0⟩:=(GA Tryz.underlying3) _ _ _ _ _ _ _ e (m a);cases h0;obtain⟨y1,f,n⟩:=c 1 3 1 rfl;simp only[d,List.drop_zero,List.drop_succ_cons,List.take_succ_cons,List.take_zero] at f;obtain⟨n1,t,w1⟩:=(GA Tryz.underlying3) _ _ _ _ _ _ _ f (n a);cases t;obtain⟨aI,g,o⟩:=c 2 3 2 rfl;simp only[d,List.drop_zero,List.drop_succ_cons,List.take_succ_cons,List.take_zero] at g;obtain⟨u,v,w2⟩:=(GA Tryz.underlying3) _ _ _ _ _ _ _ g (o a);cases v;obtain⟨aJ,i,p⟩:=c 3 3 3 rfl;simp only[d,List.drop_zero,List.drop_succ_cons,List.take_succ_cons,List.take_zero] at i;obtain⟨z,aA,aB⟩:=(GA Tryz.underlying3) _ _ _ _ _ _ _ i (p a);cases aA;obtain⟨aK,j,q⟩:=c 4 61 4 rfl;simp only[l,List.drop_zero,List.drop_succ_cons,List.take_succ_cons,List.take_zero] at j;obtain⟨n4,⟨aC,aD,aE,aF⟩,aG⟩:=(H2 (b:=40) Tryz.underlying61 (by kernel_rfl) (by decide) SP (by kernel_rfl)) _ _ _ _ _ _ _ j (q a);cases aE;exact⟨⟨n0,n1,u,z,n4⟩,⟨aC,aD,rfl,aF⟩,w0,w1,w2,aB,aG⟩
theorem T9:KZ Tryz.prog 67 Fo (fun x=>((x.Comes.length*8≤140737488351232∧∀y∈x.Comes,HB .i64 y)∧(x.Ap.length*1≤140737488351232∧∀y∈x.Ap,True))):=by
 intro H enc w sp fuel cs x h d;obtain⟨e,l,f⟩:=HS Tryz.underlying67 h;have m:Tryz.prog.cellsOf 67=2:=by kernel_rfl
 rw[m] at e;have g:Tryz.prog.cellsOf 23=1:=by kernel_rfl
 have i:Tryz.prog.cellsOf 65=1:=by kernel_rfl
 obtain⟨a0,a1,rfl⟩:=RH e;obtain⟨t,a,j⟩:=f 0 23 0 rfl;simp only[g,List.drop_zero,List.drop_succ_cons,List.take_succ_cons,List.take_zero] at a;obtain⟨n0,⟨n,o,h0,p⟩,w0⟩:=(H2 (b:=8) Tryz.underlying23 (by kernel_rfl) (by decide) (GA Tryz.underlying3) (by kernel_rfl)) _ _ _ _ _ _ _ a (j d);cases h0;obtain⟨y1,c,k⟩:=f 1 65 1 rfl;simp only[i,List.drop_zero,List.drop_succ_cons,List.take_succ_cons,List.take_zero] at c;obtain⟨n1,⟨q,r,s,s1⟩,w1⟩:=(H2 (b:=1) Tryz.underlying65 (by kernel_rfl) (by decide) (Rm Tryz.underlying4) (by kernel_rfl)) _ _ _ _ _ _ _ c (k d);cases s;exact⟨⟨n0,n1⟩,⟨n,o,q,r,rfl,p,s1⟩,w0,w1⟩
theorem Vc:ownKnob Tryz.prog.godebug=none:=by kernel_rfl
theorem UF:Kids Tryz.prog (· <Tryz.prog.types.size):=kids_rows (by kernel_rfl) (by kernel_rfl)
theorem UG:∀t e,t<Tryz.prog.types.size→Tryz.prog.underlying t=some (.slice e)→0<Tryz.prog.cellsOf e:=slices_full_of Tryz.prog (by kernel_rfl)
end Go.Proofs.YtkljfdkmjdjpfaaGreat
end
section
set_option linter.unusedVariables false
set_option linter.unusedSimpArgs false
namespace Go.Proofs.YtkljfdkmjdjpfaaGreat
open Go.RowKit Go.ChangeShapes Go.WideShapes Go.ChangeAt
set_option maxRecDepth 100000 in
theorem Lf(os:Os)(started:os.Started)(H:Type)(enc:TypeId×Value→H):
  ReturnsInHanded {} Tryz.checked os 4 .any (Rows.rackPlaysSpec.pre6 enc Tryz.prog Tryz.f4 Rows.rackPlaysRow.domain false) (Rows.rackPlaysSpec.post enc Tryz.prog Tryz.f4 false true false false):=by
 refine returnsInHanded_of_change_sized (C:=Tryz.checked) Vc started (by kernel_rfl) Tryz.func4
  (ChangeSpec.witness6 (enc:=enc) (C:=Tryz.checked) false ⟨#[], #[.agg #[.int .i64 0,.int .i64 0,.int .i64 0,.int .i64 0,.slice none 0 0],.slice none 0 0,.agg #[.slice none 0 0,.slice none 0 0]],[]⟩ 8 (by kernel_rfl) (by kernel_rfl) (by kernel_rfl) (by kernel_rfl)) ?_
 intro W base args ds gs before f w aH y _;have a:∀(j:Nat) t v,Tryz.f4.params[j]?=some t→args[j]?=some v→Value.okWide Tryz.prog W .any base t v:=f;have d:=w;obtain⟨p,q,z,aI,rfl,aT,aU⟩:=w;have h:DataW.TrodAll enc Tryz.prog W 0 (fun _=>true) true Tryz.f4.params.toList args.toList ds p:=z;obtain⟨rfl,rfl⟩:=trodVars_none aI;simp only[List.append_nil] at d;have aA:∀x∈p,x.block<W.heap.size:=fun x g=>by simpa using d.lt x g
 have aB:=h;have c:(DataW.weightsEach Tryz.prog (Tryz.f4.params.toList++[]) (ds++[])).all (· ≤reachBytes)=true:=y;rw[Tryz.params4] at h a c;obtain⟨v0,v1,v2,d0,d1,d2,aJ,aK,aL,rfl,rfl,rfl,h0,aM,aN⟩:=trodAll_three h;obtain⟨aC,aV,aD,⟨i,k,rfl,l⟩,w0⟩:=OS Tryz.underlying63 T8 (a 0 63 v0 rfl rfl) h0 (Ml (j:=0) c rfl rfl);obtain⟨x1,aO,aP,aE,s1,w1⟩:=T7 Tryz.underlying64 (H2 (b:=24) Tryz.underlying64 (by kernel_rfl) (by decide) (H2 (b:=8) Tryz.underlying23 (by kernel_rfl) (by decide) (GA Tryz.underlying3) (by kernel_rfl)) (by kernel_rfl)) (a 1 64 v1 rfl rfl) aM (Ml (j:=1) c rfl rfl);obtain⟨x2,aW,aF,⟨m,n,o,r,rfl,s,u⟩,w2⟩:=OS Tryz.underlying67 T9 (a 2 67 v2 rfl rfl) aN (Ml (j:=2) c rfl rfl);subst aD;subst aE;subst aF;obtain⟨K,aQ⟩:=Mk aC x1 x2;refine(Qv (a4 K aC x1 x2 i k aO aP m n o r ZA W l s1 s u aQ)).mono fun e W' ⟨v,he,g,aR⟩=>?_;subst he;subst aR;exact⟨_,rfl,Oc (pa:=(aJ++aK++aL)) (pv:=[]) d (fun _ _ _=>trodAll_mk1 (shut_bool Tryz.underlying4 _)) (fun sp aS=>Qu UF UG (by rw[Tryz.params4];decide) aB g aA sp (fun x aG=>aS x (by simpa using aG))) (fun _ _=>rfl) (by simp) g (ok_one (by kernel_rfl) rfl (okWide_bool_mk Tryz.underlying4 _))⟩
theorem rackPlays_holds:Rows.RackPlaysSaid:=
 OpenClaim.holds_of_wide 4 Tryz.f4 rfl rfl rfl rfl rfl rfl rfl ⟨rfl,rfl,rfl,rfl,rfl⟩ rfl rfl rfl rfl rfl (by kernel_rfl) Tryz.func4 (by kernel_rfl)
  (of_decide_eq_true (by kernel_rfl)) (by unfold Func.isWrapper;first|(rw[if_pos (by decide+kernel)];kernel_rfl)|(rw[if_neg (by decide+kernel)];exact⟨rfl,rfl⟩))
  (fun os started H enc _=>Lf os started H enc)
end Go.Proofs.YtkljfdkmjdjpfaaGreat
end
