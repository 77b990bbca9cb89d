import Derived.Test.YtkljfdkmjdjpfaaGreatBB8
import Derived.ProofKit
import Derived.ChangeSame
import Derived.SizedLaws
import Derived.Deep.Slices
import Derived.Test.YtkljfdkmjdjpfaaGreatProg
import Derived.Test.YtkljfdkmjdjpfaaGreatRows
/-
  Proved: the law RackBest returns true for every argument that the row hands over, and leaves every argument as it was; no condition beside the row's own.
-/
set_option linter.all false
section
set_option linter.unusedVariables false
set_option linter.unusedSimpArgs false
namespace Go.Proofs.YtkljfdkmjdjpfaaGreat
open Go.RowKit Go.WideShapes
def Ck(g:Nat)(d:Int×Int×Int)(f:(List AU))(e:(List Int)):Nat→Int→(List Int)→Int→Option (Int×(List Int))
 |0,_,_,_=>none
 |h+1,c,b,a=>cond (decide (a<(e.length:Int))) ((idx e a).bind fun i=>cond (i==(f.length:Int)) ((i64 (c+1)).bind fun _=>(C0 g d.2.2 a).bind fun j=>cond (!j) ((Gi (((b.length+[a].length:Nat):Int)≤140737488355328/8)).bind fun _=>(i64 (a+1)).bind fun _=>Ck g d f e h (c+1) (b++[a]) (a+1)) ((i64 (a+1)).bind fun _=>Ck g d f e h (c+1) b (a+1))) ((C0 g d.2.2 a).bind fun k=>cond (!k) ((Gi (((b.length+[a].length:Nat):Int)≤140737488355328/8)).bind fun _=>(i64 (a+1)).bind fun _=>Ck g d f e h c (b++[a]) (a+1)) ((i64 (a+1)).bind fun _=>Ck g d f e h c b (a+1)))) (some ((c,b)))
def F2(a:Nat)(d:Ao):Option (Bool):=
 (F4 a d).bind fun r2=>cond (!r2) ((Gi (Ew a=some true)).bind fun _=>some (true)) ((ED a d).bind fun q=>(GP a q).bind fun b=>(ED a d).bind fun j=>(GQ a j).bind fun c=>(ED a d).bind fun k=>(Fy a k).bind fun e=>(FL a d).bind fun f=>cond (f !=0) (cond (b.2.2==f) (cond (c.2.2==f) (cond (e.2==f) ((i64 ((b.1.length:Int)+(c.1.length:Int))).bind fun _=>(i64 (((b.1.length:Int)+(c.1.length:Int))+(e.1.length:Int))).bind fun _=>cond ((((b.1.length:Int)+(c.1.length:Int))+(e.1.length:Int))==0) (cond (b.2.1==0) (cond (c.2.1==0) ((Gi (Ew a=some true)).bind fun _=>some (true)) (some (false))) (some (false))) (some (false))) (some (false))) (some (false))) (some (false))) ((Ge a d).bind fun g=>cond (b.2.2 !=0) (some (false)) (cond (c.2.2 !=0) (some (false)) (cond (e.2 !=0) (some (false)) (cond (b.2.1 !=g.1) (some (false)) (cond (c.2.1 !=g.2.1) (some (false)) ((Ex a d b.1).bind fun l=>cond (!l) (some (false)) ((Ex a d c.1).bind fun m=>cond (!m) (some (false)) ((EM a d).bind fun h=>(EV a d h c.1).bind fun n=>(Ck a g h n a (0:Int) ([]:List Int) (0:Int)).bind fun i=>(Fh a d h b.1).bind fun o=>cond (o==b.2.1) (cond (i.1==c.2.1) ((Fc a e.1 i.2).bind fun p=>cond (p) ((Gi (Ew a=some true)).bind fun _=>some (true)) (some (false))) (some (false))) (some (false)))))))))))
end Go.Proofs.YtkljfdkmjdjpfaaGreat
end
section
namespace Go.Proofs.YtkljfdkmjdjpfaaGreat
theorem nz{x:Int}(h:x≠0):(x==0)=false:=beq_eq_false_iff_ne.2 h
theorem XA{x:Int}(h:x≠0):(x !=0)=true:=by unfold bne;rw[nz h];rfl
theorem Tm{K:Nat}{y:Ao}(d:DH y)(o:List (List Int))(r:Int×Int×Int)(b:Nat)(l:r.2.2=(b:Int))(n:∀j,j<y.Ac.length→b.testBit j=It y j):∀(k m i:Nat) (s:Int) (a:List Int),y.Ac.length=i+k→k<m→0≤s→s≤i→a.length≤i→
  Ck K r (Gv y) (Hh y o) m s a (i:Int)=some (s+((List.range' i k).countP (fun i=>(BD y).all (E3 y o i)):Nat),a++Eg y i k):=by
 have u:=d.n4;intro k
 induction k with
 |zero=>
  intro m i s a h hm h0 p f;cases m with
  |zero=>omega
  |succ m=>
   rw[Ck.eq_2,cf (df (by rw[GC];omega))];simp[Eg]
 |succ k ih=>
  intro m i s a h hm h0 p f;cases m with
  |zero=>omega
  |succ m=>
   have hi:i<y.Ac.length:=by omega
   have c:i<(Hh y o).length:=by rw[GC];exact hi
   have e:((Hh y o)[i]==((Gv y).length:Int))=(BD y).all (E3 y o i):=by
    rw[←MN d o hi,List.getD_eq_getElem?_getD,List.getElem?_eq_getElem c];rfl
   have g:C0 K r.2.2 (i:Int)=some (It y i):=by rw[l,Lu K b i (by omega),n i hi]
   have q:a++Eg y i (k+1)=(cond (It y i) a (a++[(i:Int)]))++Eg y (i+1) k:=by
    unfold Eg;rw[List.range'_succ,List.filter_cons];show a++List.map _ (if (!It y i)=true then _ else _)=_;cases It y i with
    |true=>rfl
    |false=>simp
   rw[Ck.eq_2,ct (dt (by rw[GC];omega)),BZ c,e,List.range'_succ,List.countP_cons,q];cases v:(BD y).all (E3 y o i) with
   |true=>
    rw[ct rfl,Bv (by omega) (by omega),bd g];cases t:It y i with
    |true=>
     rw[nt,Bv (by omega) (by omega),CJ,ih m (i+1) (s+1) a (by omega) (by omega) (by omega) (by omega) (by omega)]
     congr 2;simp;omega
    |false=>
     rw[nf,F6 (by simp only[List.length_cons,List.length_nil];omega),Bv (by omega) (by omega),CJ,ih m (i+1) (s+1) (a++[(i:Int)]) (by omega) (by omega) (by omega) (by omega) (by simp;omega)]
     congr 2;simp;omega
   |false=>
    rw[cf rfl,bd g];cases t:It y i with
    |true=>
     rw[nt,Bv (by omega) (by omega),CJ,ih m (i+1) s a (by omega) (by omega) (by omega) (by omega) (by omega)]
     congr 2
    |false=>
     rw[nf,F6 (by simp only[List.length_cons,List.length_nil];omega),Bv (by omega) (by omega),CJ,ih m (i+1) s (a++[(i:Int)]) (by omega) (by omega) (by omega) (by omega) (by simp;omega)]
     congr 2
theorem Nv(y:Ao)(n:Nat):(Eg y 0 n).length≤n:=by
 unfold Eg;rw[List.length_map];refine Nat.le_trans (List.length_filter_le ..) ?_;simp
theorem N4(y:Ao):∃K,F2 K y=some true:=by
 refine⟨2000,?_⟩;have hK:2000≤2000:=Nat.le_refl _;have f:=QV hK;unfold F2;rw[bd (Ud hK y)];cases h:MP y with
 |false=>rw[nf,F6 f]
 |true=>
  have d:=S5 h;rw[nt,bd (Nh hK y d),bd (RB y hK),bd (Nh hK y d),bd (RD y hK),bd (Nh hK y d),bd (MG y hK),bd (S4 hK y)]
  by_cases a:check y=0
  ·have c:=Hf a;have s:=c.n4;rw[if_neg (by simp[a]),if_neg (by simp[a]),if_neg (by simp[a]),a];obtain⟨b,j,k⟩:=S3 y c hK;obtain⟨_,g,l⟩:=Kr c;obtain⟨_,s2,m⟩:=IM c;obtain⟨o1,n,t⟩:=HV c g;obtain⟨o,p,u⟩:=HV c s2;have e:=Tm (K:=2000) c (Ga y).2.2 ((Ht y).1,(Ga y).1,(b:Int)) b rfl k y.Ac.length 2000 0 0 [] (by omega) (by omega) (by omega) (by omega) (by simp);rw[Int.natCast_zero,←List.range_eq_range',Int.zero_add,List.nil_append] at e;have q:((List.range y.Ac.length).countP (fun i=>(BD y).all (E3 y (Ga y).2.2 i)):Nat)=E2 y (Ga y).2.2:=rfl;rw[q] at e;have r:=Nv y y.Ac.length;rw[cf (by rfl),bd j,cf (by rfl),cf (by rfl),cf (by rfl),cf (by simp),cf (by simp),bd (NP y _ c.n4 o1 n hK),g,nt,bd (NP y _ c.n4 o p hK),s2,nt,bd (OU y c hK),bd (MM y c _ s2 hK),bd e,bd (NX y c _ g hK),ct (by simp[l]),ct (by simp[m]),bd (P0 hK (Eg y 0 y.Ac.length) (by omega)),ct rfl,F6 f]
  ·rw[if_pos a,if_pos a,if_pos a,ct (XA a),ct (by simp),ct (by simp),ct (by simp),bd (show i64 _=some (0:Int) from rfl),bd (show i64 _=some (0:Int) from rfl),ct (by rfl),ct (by rfl),ct (by rfl),F6 f]
end Go.Proofs.YtkljfdkmjdjpfaaGreat
end
section
set_option linter.unusedVariables false
set_option linter.unusedSimpArgs false
namespace Go.Proofs.YtkljfdkmjdjpfaaGreat
open Go.RowKit Go.WideShapes
set_option maxRecDepth 20000
open HF
attribute [local irreducible] BO WL CC CW LV BP EA DJ One Bn
set_option maxHeartbeats 4000000 in
theorem a7(aV:Nat)(c:Ao)(f:Option Addr)(g:Nat)(Z:Nat→Prop)(w:World)(fX:Sl AK w Z f g c.Ac)(a:F2 aV c=some true):
 BP Tryz.prog 7 #[.agg #[I c.Ak,I c.Aj,I c.Ap,I c.Ax,.slice f c.Ac.length g]] w (fun v w'=>Ext w w'∧v=.bool true):=by
 unfold F2 at a;refine Ba (N:=169) Tryz.func7 rfl rfl (by simp) ?_;intro iP hZ iQ;have gA:=AR (i:=0) (v:=.agg #[I c.Ak,I c.Aj,I c.Ap,I c.Ax,.slice f c.Ac.length g]) hZ rfl;clear hZ;have f1:Hp FN [] w [] w:=Hp.start (BQ.none w);have eZ:=fX.mv (Bj (Z:=Z) (L:=[]) w);refine Ad<|Aa<|we rfl (fun st=>B4 (v:=.agg #[I c.Ak,I c.Aj,I c.Ap,I c.Ax,.slice f c.Ac.length g]) (cs:= #[I c.Ak,I c.Aj,I c.Ap,I c.Ax,.slice f c.Ac.length g]) (ee st gA) rfl) ?_;rintro _ w1 ⟨o,rfl,d2⟩;have h1:=f1.nb d2;have iI:=f1.BL d2;refine wa rfl (v:=.bool false) rfl<|Ae<|Ab<|Ad<|Ad<|Aa<|wd rfl (fun st=>Bc (l:=[I c.Ak,I c.Aj,I c.Ap,I c.Ax,.slice f c.Ac.length g]) Ea (ee st rfl) d2.bk rfl rfl) ?_;have c4:=(eZ.mv (Az d2));replace a:=bind_some a;obtain⟨r2,h2,a⟩:=a;refine we rfl (fun st=>AS VT (ee st rfl) (CK (ee st rfl)) (Xw aV c f g ZA _ c4.all r2 h2)) ?_;rintro _ i7 ⟨fD,rfl⟩;have fE:=h1.ext fD;refine wd rfl (fun st=>Ds (ee st rfl))<|Ae<|Ab ?_;rcases Aq (!r2) with cM|cM
 ·replace a:=AD a cM;have iJ:r2=false:=by simpa using cM
  refine Ay rfl cM<|Ad<|Aa ?_;replace a:=CY a;obtain⟨h3,a⟩:=a;refine we rfl (fun st=>AS Pq (ee st rfl) I0 (V9 aV ZA _ h3)) ?_;rintro _ i8 ⟨h4,rfl⟩;have h5:=fE.ext h4;refine wa rfl (v:=.bool true) rfl<|Ae<|Ab<|AO<|AI ?_;have d3:=Option.some.inj a;refine AW rfl rfl ?_;exact⟨h5.Bz,congrArg Value.bool d3⟩
 ·replace a:=AE a cM;have iK:r2=true:=by simpa using cM
  refine AF rfl cM<|AV<|Ab<|Ad<|Aa ?_;have eO:=(d2.bk.ext fD);refine wd rfl (fun st=>Bc (l:=[I c.Ak,I c.Aj,I c.Ap,I c.Ax,.slice f c.Ac.length g]) Ea (ee st rfl) eO rfl rfl) ?_;have c5:=(c4.mv (Ai fD));replace a:=bind_some a;obtain⟨h6,h7,a⟩:=a;refine we rfl (fun st=>AS Pr (ee st rfl) (CK (ee st rfl)) (a31 aV c f g (ZZ FN [] Z w.heap.size [some o]) _ c5 h6 h7)) ?_;rintro _ iR ⟨fF,⟨_,rfl,⟨fG,fH,rfl,b4⟩⟩⟩;have f2:=fE.ext fF;have b4:=b4.mv (fE.C3 (Nat.le_refl _));replace a:=bind_some a;obtain⟨j,gB,a⟩:=a;refine we rfl (fun st=>AS R7 (ee st rfl) (CK (ee st rfl)) (WW aV h6 fG fH (ZZ FN [] Z w.heap.size [some o]) _ b4 j gB)) ?_;rintro _ iS ⟨eB,⟨_,_,_,rfl,⟨p,q,rfl,b5⟩,rfl,rfl⟩⟩;have f3:=f2.ext eB;have b5:=b5.mv (f2.C3 (Nat.le_refl _));refine wm rfl (v:=.tuple #[.slice p j.1.length q,I j.2.1,I j.2.2]) rfl<|wd rfl (fun st=>BI (v:=.slice p j.1.length q) (ee st rfl) rfl)<|wd rfl (fun st=>BI (v:=I j.2.1) (ee st rfl) rfl)<|wd rfl (fun st=>BI (v:=I j.2.2) (ee st rfl) rfl)<|wa rfl (v:=.slice p j.1.length q) rfl<|wa rfl (v:=I j.2.1) rfl<|wa rfl (v:=I j.2.2) rfl<|Ae<|Ab<|Ad<|Aa ?_;have eP:=((eO.ext fF).ext eB);refine wd rfl (fun st=>Bc (l:=[I c.Ak,I c.Aj,I c.Ap,I c.Ax,.slice f c.Ac.length g]) Ea (ee st rfl) eP rfl rfl) ?_;have c6:=((c5.mv (Ai fF)).mv (Ai eB));replace a:=bind_some a;obtain⟨f4,gC,a⟩:=a;refine we rfl (fun st=>AS Pr (ee st rfl) (CK (ee st rfl)) (a31 aV c f g (ZZ FN [] Z w.heap.size [some o]) _ c6 f4 gC)) ?_;rintro _ iT ⟨c9,⟨_,rfl,⟨e0,e1,rfl,bM⟩⟩⟩;have f5:=f3.ext c9;have bM:=bM.mv (f3.C3 (Nat.le_refl _));replace a:=bind_some a;obtain⟨n,gD,a⟩:=a;refine we rfl (fun st=>AS R8 (ee st rfl) (CK (ee st rfl)) (a51 aV f4 e0 e1 (ZZ FN [] Z w.heap.size [some o]) _ bM n gD)) ?_;rintro _ iU ⟨dA,⟨_,_,_,rfl,⟨aM,aN,rfl,b6⟩,rfl,rfl⟩⟩;have f6:=f5.ext dA;have b6:=b6.mv (f5.C3 (Nat.le_refl _));refine wm rfl (v:=.tuple #[.slice aM n.1.length aN,I n.2.1,I n.2.2]) rfl<|wd rfl (fun st=>BI (v:=.slice aM n.1.length aN) (ee st rfl) rfl)<|wd rfl (fun st=>BI (v:=I n.2.1) (ee st rfl) rfl)<|wd rfl (fun st=>BI (v:=I n.2.2) (ee st rfl) rfl)<|wa rfl (v:=.slice aM n.1.length aN) rfl<|wa rfl (v:=I n.2.1) rfl<|wa rfl (v:=I n.2.2) rfl<|Ae<|Ab<|Ad<|Aa ?_;have eQ:=((eP.ext c9).ext dA);refine wd rfl (fun st=>Bc (l:=[I c.Ak,I c.Aj,I c.Ap,I c.Ax,.slice f c.Ac.length g]) Ea (ee st rfl) eQ rfl rfl) ?_;have c7:=((c6.mv (Ai c9)).mv (Ai dA));replace a:=bind_some a;obtain⟨f7,gE,a⟩:=a;refine we rfl (fun st=>AS Pr (ee st rfl) (CK (ee st rfl)) (a31 aV c f g (ZZ FN [] Z w.heap.size [some o]) _ c7 f7 gE)) ?_;rintro _ iV ⟨cN,⟨_,rfl,⟨e2,e3,rfl,bN⟩⟩⟩;have f8:=f6.ext cN;have bN:=bN.mv (f6.C3 (Nat.le_refl _));replace a:=bind_some a;obtain⟨s,gF,a⟩:=a;refine we rfl (fun st=>AS R9 (ee st rfl) (CK (ee st rfl)) (WX aV f7 e2 e3 (ZZ FN [] Z w.heap.size [some o]) _ bN s gF)) ?_;rintro _ iW ⟨cO,⟨_,_,rfl,⟨t,u,rfl,b7⟩,rfl⟩⟩;have h8:=f8.ext cO;have b7:=b7.mv (f8.C3 (Nat.le_refl _));refine wm rfl (v:=.tuple #[.slice t s.1.length u,I s.2]) rfl<|wd rfl (fun st=>BI (v:=.slice t s.1.length u) (ee st rfl) rfl)<|wd rfl (fun st=>BI (v:=I s.2) (ee st rfl) rfl)<|wa rfl (v:=.slice t s.1.length u) rfl<|wa rfl (v:=I s.2) rfl<|Ae<|Ab<|Ad<|Ad<|Aa ?_;have eR:=((eQ.ext cN).ext cO);refine wd rfl (fun st=>Bc (l:=[I c.Ak,I c.Aj,I c.Ap,I c.Ax,.slice f c.Ac.length g]) Ea (ee st rfl) eR rfl rfl) ?_;have c8:=((c7.mv (Ai cN)).mv (Ai cO));replace a:=bind_some a;obtain⟨aW,gG,a⟩:=a;refine we rfl (fun st=>AS VU (ee st rfl) (CK (ee st rfl)) (Xv aV c f g ZA _ c8.all aW gG)) ?_;rintro _ iX ⟨b8,rfl⟩;have fI:=h8.ext b8;refine wa rfl (v:=I aW) rfl<|Ae<|Ab<|Ad<|Aa<|wm rfl (v:=I aW) rfl<|wd rfl (fun st=>FH (ee st rfl) (ee st rfl))<|Ae<|Ab ?_;rcases Aq (aW !=0) with cP|cP
  ·replace a:=AD a cP;refine Ay rfl cP<|Ad<|Aa<|wm rfl (v:=I j.2.2) rfl<|wm rfl (v:=I aW) rfl<|wd rfl (fun st=>Cl (ee st rfl) (ee st rfl))<|wm rfl (v:=.bool (j.2.2==aW)) rfl ?_;rcases Aq (j.2.2==aW) with bP|bP
   ·replace a:=AD a bP;refine Av rfl rfl (Af rfl bP) rfl (by decide) (fun st=>AP (v:=I n.2.2) (ee st rfl))<|Av rfl rfl (Af rfl bP) rfl (by decide) (fun st=>AP (v:=I aW) (ee st rfl))<|Av rfl rfl (Af rfl bP) rfl (by decide) (fun st=>Cl (ee st rfl) (ee st rfl))<|wd rfl (fun st=>AZ (v:=.bool (n.2.2==aW)) (ee st rfl) bP (ee st rfl))<|wm rfl (v:=.bool (n.2.2==aW)) rfl ?_;rcases Aq (n.2.2==aW) with bQ|bQ
    ·replace a:=AD a bQ;refine Av rfl rfl (Af rfl bQ) rfl (by decide) (fun st=>AP (v:=I s.2) (ee st rfl))<|Av rfl rfl (Af rfl bQ) rfl (by decide) (fun st=>AP (v:=I aW) (ee st rfl))<|Av rfl rfl (Af rfl bQ) rfl (by decide) (fun st=>Cl (ee st rfl) (ee st rfl))<|wd rfl (fun st=>AZ (v:=.bool (s.2==aW)) (ee st rfl) bQ (ee st rfl))<|wm rfl (v:=.bool (s.2==aW)) rfl ?_;rcases Aq (s.2==aW) with aL|aL
     ·replace a:=AD a aL;refine Av rfl rfl (Af rfl aL) rfl (by decide) (fun st=>AP (v:=.slice p j.1.length q) (ee st rfl))<|Av rfl rfl (Af rfl aL) rfl (by decide) (fun st=>BE Tryz.underlying64 (ee st rfl))<|Av rfl rfl (Af rfl aL) rfl (by decide) (fun st=>AP (v:=.slice aM n.1.length aN) (ee st rfl))<|Av rfl rfl (Af rfl aL) rfl (by decide) (fun st=>BE Tryz.underlying64 (ee st rfl)) ?_;replace a:=AN a;obtain⟨gH,a⟩:=a;refine Av rfl rfl (Af rfl aL) rfl (by decide) (fun st=>Bh (ee st rfl) (ee st rfl) gH)<|Av rfl rfl (Af rfl aL) rfl (by decide) (fun st=>AP (v:=.slice t s.1.length u) (ee st rfl))<|Av rfl rfl (Af rfl aL) rfl (by decide) (fun st=>BE Tryz.underlying23 (ee st rfl)) ?_;replace a:=AN a;obtain⟨gI,a⟩:=a;refine Av rfl rfl (Af rfl aL) rfl (by decide) (fun st=>Bh (ee st rfl) (ee st rfl) gI)<|Av rfl rfl (Af rfl aL) rfl (by decide) (fun st=>Cl (ee st rfl) (ee st rfl))<|wd rfl (fun st=>AZ (v:=.bool ((((j.1.length:Int)+(n.1.length:Int))+(s.1.length:Int))==0)) (ee st rfl) aL (ee st rfl))<|wm rfl (v:=.bool ((((j.1.length:Int)+(n.1.length:Int))+(s.1.length:Int))==0)) rfl ?_;rcases Aq ((((j.1.length:Int)+(n.1.length:Int))+(s.1.length:Int))==0) with b9|b9
      ·replace a:=AD a b9;refine Av rfl rfl (Af rfl b9) rfl (by decide) (fun st=>AP (v:=I j.2.1) (ee st rfl))<|Av rfl rfl (Af rfl b9) rfl (by decide) (fun st=>Cl (ee st rfl) (ee st rfl))<|wd rfl (fun st=>AZ (v:=.bool (j.2.1==0)) (ee st rfl) b9 (ee st rfl))<|wm rfl (v:=.bool (j.2.1==0)) rfl ?_;rcases Aq (j.2.1==0) with cA|cA
       ·replace a:=AD a cA;refine Av rfl rfl (Af rfl cA) rfl (by decide) (fun st=>AP (v:=I n.2.1) (ee st rfl))<|Av rfl rfl (Af rfl cA) rfl (by decide) (fun st=>Cl (ee st rfl) (ee st rfl))<|wd rfl (fun st=>AZ (v:=.bool (n.2.1==0)) (ee st rfl) cA (ee st rfl))<|wm rfl (v:=.bool (n.2.1==0)) rfl ?_;rcases Aq (n.2.1==0) with cQ|cQ
        ·replace a:=AD a cQ;replace a:=CY a;obtain⟨gJ,a⟩:=a;refine DI rfl rfl (Af rfl cQ) rfl (by decide) (fun st=>AS Pq (ee st rfl) I0 (V9 aV ZA _ gJ)) ?_;rintro _ iY ⟨gK,rfl⟩;have gL:=fI.ext gK;refine wd rfl (fun st=>AZ (v:=.bool true) (ee st rfl) cQ (ee st rfl))<|wa rfl (v:=.bool true) rfl<|Ae<|Ab<|AO<|AI ?_;have d3:=Option.some.inj a;refine AW rfl rfl ?_;exact⟨gL.Bz,congrArg Value.bool d3⟩
        ·replace a:=AE a cQ;exact absurd (Option.some.inj a) (by decide)
       ·replace a:=AE a cA;exact absurd (Option.some.inj a) (by decide)
      ·replace a:=AE a b9;exact absurd (Option.some.inj a) (by decide)
     ·replace a:=AE a aL;exact absurd (Option.some.inj a) (by decide)
    ·replace a:=AE a bQ;exact absurd (Option.some.inj a) (by decide)
   ·replace a:=AE a bP;exact absurd (Option.some.inj a) (by decide)
  ·replace a:=AE a cP;refine AF rfl cP<|AV<|Ab<|Ad<|Aa ?_;have d4:=(eR.ext b8);refine wd rfl (fun st=>Bc (l:=[I c.Ak,I c.Aj,I c.Ap,I c.Ax,.slice f c.Ac.length g]) Ea (ee st rfl) d4 rfl rfl) ?_;have cR:=(c8.mv (Ai b8));replace a:=bind_some a;obtain⟨aA,gM,a⟩:=a;refine we rfl (fun st=>AS VZ (ee st rfl) (CK (ee st rfl)) (a53 aV c f g ZA _ cR.all aA gM)) ?_;rintro _ iZ ⟨cB,⟨_,_,_,rfl,rfl,rfl,rfl⟩⟩;have gN:=fI.ext cB;refine wm rfl (v:=.tuple #[I aA.1,I aA.2.1,I aA.2.2]) rfl<|wd rfl (fun st=>BI (v:=I aA.1) (ee st rfl) rfl)<|wd rfl (fun st=>BI (v:=I aA.2.1) (ee st rfl) rfl)<|wd rfl (fun st=>BI (v:=I aA.2.2) (ee st rfl) rfl)<|wa rfl (v:=I aA.1) rfl<|wa rfl (v:=I aA.2.1) rfl<|wa rfl (v:=I aA.2.2) rfl<|Ae<|Ab<|Ad<|Ad<|Aa<|wm rfl (v:=I j.2.2) rfl<|wd rfl (fun st=>FH (ee st rfl) (ee st rfl))<|wm rfl (v:=.bool (j.2.2 !=0)) rfl ?_;rcases Aq (j.2.2 !=0) with cC|cC
   ·replace a:=AD a cC;exact absurd (Option.some.inj a) (by decide)
   ·replace a:=AE a cC;refine Av rfl rfl (Af rfl cC) rfl (by decide) (fun st=>AP (v:=I n.2.2) (ee st rfl))<|Av rfl rfl (Af rfl cC) rfl (by decide) (fun st=>FH (ee st rfl) (ee st rfl))<|wd rfl (fun st=>Bw (v:=.bool (n.2.2 !=0)) (ee st rfl) cC (ee st rfl))<|wm rfl (v:=.bool (n.2.2 !=0)) rfl ?_;rcases Aq (n.2.2 !=0) with cD|cD
    ·replace a:=AD a cD;exact absurd (Option.some.inj a) (by decide)
    ·replace a:=AE a cD;refine Av rfl rfl (Af rfl cD) rfl (by decide) (fun st=>AP (v:=I s.2) (ee st rfl))<|Av rfl rfl (Af rfl cD) rfl (by decide) (fun st=>FH (ee st rfl) (ee st rfl))<|wd rfl (fun st=>Bw (v:=.bool (s.2 !=0)) (ee st rfl) cD (ee st rfl))<|wm rfl (v:=.bool (s.2 !=0)) rfl ?_;rcases Aq (s.2 !=0) with bR|bR
     ·replace a:=AD a bR;exact absurd (Option.some.inj a) (by decide)
     ·replace a:=AE a bR;refine Av rfl rfl (Af rfl bR) rfl (by decide) (fun st=>AP (v:=I j.2.1) (ee st rfl))<|Av rfl rfl (Af rfl bR) rfl (by decide) (fun st=>AP (v:=I aA.1) (ee st rfl))<|Av rfl rfl (Af rfl bR) rfl (by decide) (fun st=>FH (ee st rfl) (ee st rfl))<|wd rfl (fun st=>Bw (v:=.bool (j.2.1 !=aA.1)) (ee st rfl) bR (ee st rfl))<|wm rfl (v:=.bool (j.2.1 !=aA.1)) rfl ?_;rcases Aq (j.2.1 !=aA.1) with bS|bS
      ·replace a:=AD a bS;exact absurd (Option.some.inj a) (by decide)
      ·replace a:=AE a bS;refine Av rfl rfl (Af rfl bS) rfl (by decide) (fun st=>AP (v:=I n.2.1) (ee st rfl))<|Av rfl rfl (Af rfl bS) rfl (by decide) (fun st=>AP (v:=I aA.2.1) (ee st rfl))<|Av rfl rfl (Af rfl bS) rfl (by decide) (fun st=>FH (ee st rfl) (ee st rfl))<|wd rfl (fun st=>Bw (v:=.bool (n.2.1 !=aA.2.1)) (ee st rfl) bS (ee st rfl))<|wm rfl (v:=.bool (n.2.1 !=aA.2.1)) rfl ?_;rcases Aq (n.2.1 !=aA.2.1) with a9|a9
       ·replace a:=AD a a9;exact absurd (Option.some.inj a) (by decide)
       ·replace a:=AE a a9;have d5:=(d4.ext cB);refine Av rfl rfl (Af rfl a9) rfl (by decide) (fun st=>Bc (l:=[I c.Ak,I c.Aj,I c.Ap,I c.Ax,.slice f c.Ac.length g]) Ea (ee st rfl) d5 rfl rfl)<|Av rfl rfl (Af rfl a9) rfl (by decide) (fun st=>AP (v:=.slice p j.1.length q) (ee st rfl)) ?_;have cS:=(cR.mv (Ai cB));have bZ:=((((((b5.mv (Ai c9)).mv (Ai dA)).mv (Ai cN)).mv (Ai cO)).mv (Ai b8)).mv (Ai cB));replace a:=bind_some a;obtain⟨d6,gO,a⟩:=a;refine DI rfl rfl (Af rfl a9) rfl (by decide) (fun st=>AS Sc (ee st rfl) (EK (ee st rfl) (ee st rfl)) (WZ aV c j.1 f g p q ZA _ cS.all bZ.all d6 gO)) ?_;rintro _ i0 ⟨cE,rfl⟩;have gP:=gN.ext cE;refine Av rfl rfl (Af rfl a9) rfl (by decide) (fun st=>Ds (ee st rfl))<|wd rfl (fun st=>Bw (v:=.bool !d6) (ee st rfl) a9 (ee st rfl))<|wm rfl (v:=.bool !d6) rfl ?_;rcases Aq (!d6) with a5|a5
        ·replace a:=AD a a5;exact absurd (Option.some.inj a) (by decide)
        ·replace a:=AE a a5;have hT:d6=true:=by simpa using a5
         have d7:=(d5.ext cE);refine Av rfl rfl (Af rfl a5) rfl (by decide) (fun st=>Bc (l:=[I c.Ak,I c.Aj,I c.Ap,I c.Ax,.slice f c.Ac.length g]) Ea (ee st rfl) d7 rfl rfl)<|Av rfl rfl (Af rfl a5) rfl (by decide) (fun st=>AP (v:=.slice aM n.1.length aN) (ee st rfl)) ?_;have cT:=(cS.mv (Ai cE));have b1:=(((((b6.mv (Ai cN)).mv (Ai cO)).mv (Ai b8)).mv (Ai cB)).mv (Ai cE));replace a:=bind_some a;obtain⟨eS,gQ,a⟩:=a;refine DI rfl rfl (Af rfl a5) rfl (by decide) (fun st=>AS Sc (ee st rfl) (EK (ee st rfl) (ee st rfl)) (WZ aV c n.1 f g aM aN ZA _ cT.all b1.all eS gQ)) ?_;rintro _ i1 ⟨cF,rfl⟩;have fJ:=gP.ext cF;refine Av rfl rfl (Af rfl a5) rfl (by decide) (fun st=>Ds (ee st rfl))<|wd rfl (fun st=>Bw (v:=.bool !eS) (ee st rfl) a5 (ee st rfl))<|Ae<|Ab ?_;rcases Aq (!eS) with cU|cU
         ·replace a:=AD a cU;exact absurd (Option.some.inj a) (by decide)
         ·replace a:=AE a cU;have hU:eS=true:=by simpa using cU
          refine AF rfl cU<|AV<|Ab<|Ad<|Aa ?_;have d8:=(d7.ext cF);refine wd rfl (fun st=>Bc (l:=[I c.Ak,I c.Aj,I c.Ap,I c.Ax,.slice f c.Ac.length g]) Ea (ee st rfl) d8 rfl rfl) ?_;have cV:=(cT.mv (Ai cF));replace a:=bind_some a;obtain⟨aR,gR,a⟩:=a;refine we rfl (fun st=>AS R3 (ee st rfl) (CK (ee st rfl)) (WY aV c f g (ZZ FN [] Z w.heap.size [some o]) _ cV aR gR)) ?_;rintro _ i2 ⟨cG,⟨x,y,rfl,bJ⟩⟩;have fK:=fJ.ext cG;have bJ:=bJ.mv (fJ.C3 (Nat.le_refl _));refine wa rfl (v:=.slice x aR.length y) rfl<|Ae<|Ab<|Ad<|Aa<|wa rfl (v:=I 0) rfl<|Ae<|Ab<|Ad<|Aa ?_;have d9:=(d8.ext cG);refine wd rfl (fun st=>Bc (l:=[I c.Ak,I c.Aj,I c.Ap,I c.Ax,.slice f c.Ac.length g]) Ea (ee st rfl) d9 rfl rfl)<|wm rfl (v:=.slice x aR.length y) rfl<|wm rfl (v:=.slice aM n.1.length aN) rfl ?_;have cW:=(cV.mv (Ai cG));have dB:=((b1.mv (Ai cF)).mv (Ai cG));replace a:=bind_some a;obtain⟨bA,gS,a⟩:=a;refine we rfl (fun st=>AS R5 (ee st rfl) (Fo (ee st rfl) (ee st rfl) (ee st rfl)) (W2 aV c aR n.1 f g x y aM aN (ZZ FN [] Z w.heap.size [some o]) _ cW bJ dB bA gS)) ?_;rintro _ cX ⟨cH,⟨aO,aP,rfl,cI⟩⟩;have gT:=fK.ext cH;have cI:=cI.mv (fK.C3 (Nat.le_refl _));refine wa rfl (v:=.slice aO bA.length aP) rfl<|Ae<|Ab<|Ad<|Aa<|wa rfl (v:=.slice none 0 0) rfl<|Ae<|Ab<|Ad<|Ad<|Aa<|wa rfl (v:=I 0) rfl<|Ae<|Ab<|AX ?_;have gU:Hp FN [] w [none,some o] cX:=gT.nil;have gV:AB (Aw .i64) 3 w.heap.size cX (ZZ FN [] Z w.heap.size [none,some o]) none 0 ([]:List Int):=AB.nil _ _ _ _ _;replace a:=bind_some a;obtain⟨bB,cJ,a⟩:=a;refine B3 (fun iA aB bL=>(iA=.exit 0∧∃h aE,aB.tmps.size=169∧aB.defers=(X0).ds∧sl aB 1=pt o 0∧sl aB 3=.slice p j.1.length q∧sl aB 4=I j.2.1∧sl aB 7=I n.2.1∧sl aB 9=.slice t s.1.length u∧sl aB 15=.slice x aR.length y∧sl aB 16=I bB.1∧sl aB 18=.slice h bB.2.length aE∧Hp FN [] w [ob h,some o] bL∧AB (Aw .i64) 3 w.heap.size bL (ZZ FN [] Z w.heap.size [ob h,some o]) h aE bB.2∧Bk bL o 63 #[I c.Ak,I c.Aj,I c.Ap,I c.Ax,.slice f c.Ac.length g]∧Sl AK bL (ZZ FN [] Z w.heap.size [ob h,some o]) f g c.Ac∧Sl (Bo (Aw .i64)) bL (ZZ FN [] Z w.heap.size [ob h,some o]) p q j.1∧Sl (Aw .i64) bL (ZZ FN [] Z w.heap.size [ob h,some o]) t u s.1∧Sl CH bL (ZZ FN [] Z w.heap.size [ob h,some o]) x y aR)) ?gW ?gX
          case gW=>
           clear a;refine B0 (fun(e4:Nat) (aB:Act) (bL:World)=>∃aK,∃m,∃b,∃d r,Ck aV aA aR bA e4 aK m b=some bB∧aB.tmps.size=169∧aB.defers=(X0).ds∧sl aB 1=pt o 0∧sl aB 3=.slice p j.1.length q∧sl aB 4=I j.2.1∧sl aB 7=I n.2.1∧sl aB 9=.slice t s.1.length u∧sl aB 14=I aA.2.2∧sl aB 15=.slice x aR.length y∧sl aB 16=I aK∧sl aB 17=.slice aO bA.length aP∧sl aB 18=.slice d m.length r∧sl aB 19=I b∧Hp FN [] w [ob d,some o] bL∧AB (Aw .i64) 3 w.heap.size bL (ZZ FN [] Z w.heap.size [ob d,some o]) d r m∧Bk bL o 63 #[I c.Ak,I c.Aj,I c.Ap,I c.Ax,.slice f c.Ac.length g]∧Sl AK bL (ZZ FN [] Z w.heap.size [ob d,some o]) f g c.Ac∧Sl (Bo (Aw .i64)) bL (ZZ FN [] Z w.heap.size [ob d,some o]) p q j.1∧Sl (Aw .i64) bL (ZZ FN [] Z w.heap.size [ob d,some o]) t u s.1∧Sl CH bL (ZZ FN [] Z w.heap.size [ob d,some o]) x y aR∧Sl (Aw .i64) bL (ZZ FN [] Z w.heap.size [ob d,some o]) aO aP bA) aV ?gY ?gZ
           case gY=>
            intro st;have fL:=(d9.ext cH);have eC:Sl AK cX (ZZ FN [] Z w.heap.size [none,some o]) f g c.Ac:=((cW.mv (Ai cH)).mv BR);have dC:Sl (Bo (Aw .i64)) cX (ZZ FN [] Z w.heap.size [none,some o]) p q j.1:=(((((bZ.mv (Ai cE)).mv (Ai cF)).mv (Ai cG)).mv (Ai cH)).mv BR);have dD:Sl (Aw .i64) cX (ZZ FN [] Z w.heap.size [none,some o]) t u s.1:=(((((((b7.mv (Ai b8)).mv (Ai cB)).mv (Ai cE)).mv (Ai cF)).mv (Ai cG)).mv (Ai cH)).mv BR);have dE:Sl CH cX (ZZ FN [] Z w.heap.size [none,some o]) x y aR:=((bJ.mv (Ai cH)).mv BR);have dF:Sl (Aw .i64) cX (ZZ FN [] Z w.heap.size [none,some o]) aO aP bA:=(cI.mv BR);exact⟨(0:Int),([]:List Int),(0:Int),none,0,cJ,qz st,qd st,sp st 1 rfl,sp st 3 rfl,sp st 4 rfl,sp st 7 rfl,sp st 9 rfl,sp st 14 rfl,sp st 15 rfl,sp st 16 rfl,sp st 17 rfl,sp st 18 rfl,sp st 19 rfl,gU,gV,fL,eC,dC,dD,dE,dF⟩
           case gZ=>
            rintro(_|e4) iM iN ⟨aK,m,b,d,r,cJ,fY,fZ,bC,bD,bE,bF,bG,aS,aT,bK,aU,a0,z,eD,aF,a2,aQ,aG,aH,aI,aJ⟩
            ·exact absurd (show none=some _ from cJ) (by simp)
            rw[Ck.eq_2] at cJ;have a:=cJ;clear cJ;refine BM (N:=169) fY fZ<|Ad<|Ad<|Aa<|wm rfl (v:=I b) z<|wm rfl (v:=.slice aO bA.length aP) aU<|wd rfl (fun st=>BE Tryz.underlying23 (ee st rfl))<|wd rfl (fun st=>Ca (ee st rfl) (ee st rfl))<|Ae<|Ab ?_;rcases Aq (decide (b<(bA.length:Int))) with cY|cY
            ·replace a:=AD a cY;refine Ay rfl cY<|AV<|Ab<|Ad<|AX<|Ad<|Ad<|Aa<|wm rfl (v:=.slice aO bA.length aP) aU<|wm rfl (v:=I b) z ?_;replace a:=AY a;obtain⟨i58,f9,g0,g1,g2,a⟩:=a;obtain⟨i3,i4,_,g3,rfl,g4⟩:=Sl.C1 aJ rfl g1;refine wd rfl (fun st=>Bg (k:=i58) Tryz.underlying23 CI (ee st rfl) g3 (ee st rfl) g0 g2)<|wd rfl (fun st=>BG (v:=I f9) A3 (ee st rfl) g4 rfl)<|wm rfl (v:=.slice x aR.length y) aT<|wd rfl (fun st=>BE Tryz.underlying92 (ee st rfl))<|wd rfl (fun st=>Cl (ee st rfl) (ee st rfl))<|Ae<|Ab ?_;rcases Aq (f9==(aR.length:Int)) with cZ|cZ
             ·replace a:=AD a cZ;refine Ay rfl cZ<|Aa<|wm rfl (v:=I aK) bK ?_;replace a:=AN a;obtain⟨g5,a⟩:=a;refine wd rfl (fun st=>Bh (ee st rfl) (ee st rfl) g5)<|wa rfl (v:=I (aK+1)) rfl<|Ae<|Ab<|Ad<|Aa<|wm rfl (v:=I aA.2.2) aS<|wm rfl (v:=I b) z ?_;replace a:=bind_some a;obtain⟨eU,g6,a⟩:=a;refine we rfl (fun st=>AS Ji (ee st rfl) (EK (ee st rfl) (ee st rfl)) (Ps aV aA.2.2 b ZA _ eU g6)) ?_;rintro _ iB ⟨aC,rfl⟩;have eE:=eD.ext aC;refine wd rfl (fun st=>Ds (ee st rfl))<|Ae<|Ab ?_;rcases Aq (!eU) with bT|bT
              ·replace a:=AD a bT;have hV:eU=false:=by simpa using bT
               refine Ay rfl bT<|Aa<|wm rfl (v:=.slice d m.length r) a0<|wm rfl (v:=I b) z<|we rfl (fun st=>BN (e:=3) (vs:= #[(0,I b)]) (cs:= #[I b]) (Hq (ee st rfl)) (by kernel_rfl)) ?_;rintro _ iC ⟨fM,rfl,aX⟩;have a6:=eE.nb aX;have iD:=eE.BL aX;have dG:AB (Aw .i64) 3 w.heap.size iC (ZZ FN [] Z w.heap.size [some fM,ob d,some o]) d r m:=((aF.ext aC (Ai aC)).ext aX.gr (Az aX));replace a:=CY a;obtain⟨fN,a⟩:=a;refine we rfl (fun st=>Ix (ys:=[b]) Tryz.underlying23 G5 rfl rfl (by decide) (ee st rfl) rfl (ee st rfl) dG (IT (Be:=[[I b]]) aX.bk ⟨rfl,trivial⟩ rfl) (by have:=fN;simp only[maxLen];omega) (by have:=fN;omega) a6.sz (by simp)) ?_;rintro _ b2 ⟨a3,eV,rfl,bH,bU,g7⟩;have g8:Hp FN [] w [some fM,ob a3,some o] b2:=a6.row bH 1 rfl bU;have g9:AB (Aw .i64) 3 w.heap.size b2 (ZZ FN [] Z w.heap.size [some fM,ob a3,some o]) a3 eV (m++[b]):=EP g7 (a6.CG bH 1 rfl (fun k aY=>(bU k aY).1));refine wa rfl (v:=.slice a3 ((m++[b]).length) eV) rfl<|Ae<|A8<|Ab<|Aa<|wm rfl (v:=I b) z ?_;replace a:=AN a;obtain⟨hA,a⟩:=a;refine wd rfl (fun st=>Bh (ee st rfl) (ee st rfl) hA)<|wa rfl (v:=I (b+1)) rfl<|Ae ?_;have hB:Hp FN [] w [ob a3,some o] b2:=g8.erase 0;have e5:AB (Aw .i64) 3 w.heap.size b2 (ZZ FN [] Z w.heap.size [ob a3,some o]) a3 eV (m++[b]):=(g9.up (AM 0));have fO:=(((a2.ext aC).ext aX.gr).gr bH (a6.ne 2 1 rfl rfl rfl));have eG:Sl AK b2 (ZZ FN [] Z w.heap.size [ob a3,some o]) f g c.Ac:=((((aQ.mv (Ai aC)).mv (Az aX)).mv (a6.CG bH 1 rfl (fun k aY=>(bU k aY).1))).mv (AM 0));have dH:Sl (Bo (Aw .i64)) b2 (ZZ FN [] Z w.heap.size [ob a3,some o]) p q j.1:=((((aG.mv (Ai aC)).mv (Az aX)).mv (a6.CG bH 1 rfl (fun k aY=>(bU k aY).1))).mv (AM 0));have dI:Sl (Aw .i64) b2 (ZZ FN [] Z w.heap.size [ob a3,some o]) t u s.1:=((((aH.mv (Ai aC)).mv (Az aX)).mv (a6.CG bH 1 rfl (fun k aY=>(bU k aY).1))).mv (AM 0));have dJ:Sl CH b2 (ZZ FN [] Z w.heap.size [ob a3,some o]) x y aR:=((((aI.mv (Ai aC)).mv (Az aX)).mv (a6.CG bH 1 rfl (fun k aY=>(bU k aY).1))).mv (AM 0));have dK:Sl (Aw .i64) b2 (ZZ FN [] Z w.heap.size [ob a3,some o]) aO aP bA:=((((aJ.mv (Ai aC)).mv (Az aX)).mv (a6.CG bH 1 rfl (fun k aY=>(bU k aY).1))).mv (AM 0));refine Bb e4 (Nat.lt_succ_self _) (fun st=>?_);exact⟨(aK+1),(m++[b]),(b+1),a3,eV,a,qz st,qd st,sp st 1 bC,sp st 3 bD,sp st 4 bE,sp st 7 bF,sp st 9 bG,sp st 14 aS,sp st 15 aT,sp st 16 rfl,sp st 17 aU,sp st 18 rfl,sp st 19 rfl,hB,e5,fO,eG,dH,dI,dJ,dK⟩
              ·replace a:=AE a bT;have hW:eU=true:=by simpa using bT
               refine AF rfl bT<|AV<|A8<|Ab<|Aa<|wm rfl (v:=I b) z ?_;replace a:=AN a;obtain⟨hC,a⟩:=a;refine wd rfl (fun st=>Bh (ee st rfl) (ee st rfl) hC)<|wa rfl (v:=I (b+1)) rfl<|Ae ?_;have dL:AB (Aw .i64) 3 w.heap.size iB (ZZ FN [] Z w.heap.size [ob d,some o]) d r m:=(aF.ext aC (Ai aC));have fP:=(a2.ext aC);have eH:=(aQ.mv (Ai aC));have dM:=(aG.mv (Ai aC));have dN:=(aH.mv (Ai aC));have dO:=(aI.mv (Ai aC));have dP:=(aJ.mv (Ai aC));refine Bb e4 (Nat.lt_succ_self _) (fun st=>?_);exact⟨(aK+1),m,(b+1),d,r,a,qz st,qd st,sp st 1 bC,sp st 3 bD,sp st 4 bE,sp st 7 bF,sp st 9 bG,sp st 14 aS,sp st 15 aT,sp st 16 rfl,sp st 17 aU,sp st 18 a0,sp st 19 rfl,eE,dL,fP,eH,dM,dN,dO,dP⟩
             ·replace a:=AE a cZ;refine AF rfl cZ<|AV<|Ab<|Ad<|Aa<|wm rfl (v:=I aA.2.2) aS<|wm rfl (v:=I b) z ?_;replace a:=bind_some a;obtain⟨eW,hD,a⟩:=a;refine we rfl (fun st=>AS Ji (ee st rfl) (EK (ee st rfl) (ee st rfl)) (Ps aV aA.2.2 b ZA _ eW hD)) ?_;rintro _ iE ⟨aD,rfl⟩;have eI:=eD.ext aD;refine wd rfl (fun st=>Ds (ee st rfl))<|Ae<|Ab ?_;rcases Aq (!eW) with bV|bV
              ·replace a:=AD a bV;have hX:eW=false:=by simpa using bV
               refine Ay rfl bV<|Aa<|wm rfl (v:=.slice d m.length r) a0<|wm rfl (v:=I b) z<|we rfl (fun st=>BN (e:=3) (vs:= #[(0,I b)]) (cs:= #[I b]) (Hq (ee st rfl)) (by kernel_rfl)) ?_;rintro _ iF ⟨fQ,rfl,aZ⟩;have a8:=eI.nb aZ;have iG:=eI.BL aZ;have dQ:AB (Aw .i64) 3 w.heap.size iF (ZZ FN [] Z w.heap.size [some fQ,ob d,some o]) d r m:=((aF.ext aD (Ai aD)).ext aZ.gr (Az aZ));replace a:=CY a;obtain⟨fR,a⟩:=a;refine we rfl (fun st=>Ix (ys:=[b]) Tryz.underlying23 G5 rfl rfl (by decide) (ee st rfl) rfl (ee st rfl) dQ (IT (Be:=[[I b]]) aZ.bk ⟨rfl,trivial⟩ rfl) (by have:=fR;simp only[maxLen];omega) (by have:=fR;omega) a8.sz (by simp)) ?_;rintro _ b3 ⟨a4,eX,rfl,bI,bW,hE⟩;have hF:Hp FN [] w [some fQ,ob a4,some o] b3:=a8.row bI 1 rfl bW;have hG:AB (Aw .i64) 3 w.heap.size b3 (ZZ FN [] Z w.heap.size [some fQ,ob a4,some o]) a4 eX (m++[b]):=EP hE (a8.CG bI 1 rfl (fun k aY=>(bW k aY).1));refine wa rfl (v:=.slice a4 ((m++[b]).length) eX) rfl<|Ae<|A8<|Ab<|Aa<|wm rfl (v:=I b) z ?_;replace a:=AN a;obtain⟨hH,a⟩:=a;refine wd rfl (fun st=>Bh (ee st rfl) (ee st rfl) hH)<|wa rfl (v:=I (b+1)) rfl<|Ae ?_;have hI:Hp FN [] w [ob a4,some o] b3:=hF.erase 0;have e6:AB (Aw .i64) 3 w.heap.size b3 (ZZ FN [] Z w.heap.size [ob a4,some o]) a4 eX (m++[b]):=(hG.up (AM 0));have fS:=(((a2.ext aD).ext aZ.gr).gr bI (a8.ne 2 1 rfl rfl rfl));have eJ:Sl AK b3 (ZZ FN [] Z w.heap.size [ob a4,some o]) f g c.Ac:=((((aQ.mv (Ai aD)).mv (Az aZ)).mv (a8.CG bI 1 rfl (fun k aY=>(bW k aY).1))).mv (AM 0));have dR:Sl (Bo (Aw .i64)) b3 (ZZ FN [] Z w.heap.size [ob a4,some o]) p q j.1:=((((aG.mv (Ai aD)).mv (Az aZ)).mv (a8.CG bI 1 rfl (fun k aY=>(bW k aY).1))).mv (AM 0));have dS:Sl (Aw .i64) b3 (ZZ FN [] Z w.heap.size [ob a4,some o]) t u s.1:=((((aH.mv (Ai aD)).mv (Az aZ)).mv (a8.CG bI 1 rfl (fun k aY=>(bW k aY).1))).mv (AM 0));have dT:Sl CH b3 (ZZ FN [] Z w.heap.size [ob a4,some o]) x y aR:=((((aI.mv (Ai aD)).mv (Az aZ)).mv (a8.CG bI 1 rfl (fun k aY=>(bW k aY).1))).mv (AM 0));have dU:Sl (Aw .i64) b3 (ZZ FN [] Z w.heap.size [ob a4,some o]) aO aP bA:=((((aJ.mv (Ai aD)).mv (Az aZ)).mv (a8.CG bI 1 rfl (fun k aY=>(bW k aY).1))).mv (AM 0));refine Bb e4 (Nat.lt_succ_self _) (fun st=>?_);exact⟨aK,(m++[b]),(b+1),a4,eX,a,qz st,qd st,sp st 1 bC,sp st 3 bD,sp st 4 bE,sp st 7 bF,sp st 9 bG,sp st 14 aS,sp st 15 aT,sp st 16 bK,sp st 17 aU,sp st 18 rfl,sp st 19 rfl,hI,e6,fS,eJ,dR,dS,dT,dU⟩
              ·replace a:=AE a bV;have hY:eW=true:=by simpa using bV
               refine AF rfl bV<|AV<|A8<|Ab<|Aa<|wm rfl (v:=I b) z ?_;replace a:=AN a;obtain⟨hJ,a⟩:=a;refine wd rfl (fun st=>Bh (ee st rfl) (ee st rfl) hJ)<|wa rfl (v:=I (b+1)) rfl<|Ae ?_;have dV:AB (Aw .i64) 3 w.heap.size iE (ZZ FN [] Z w.heap.size [ob d,some o]) d r m:=(aF.ext aD (Ai aD));have fT:=(a2.ext aD);have eK:=(aQ.mv (Ai aD));have dW:=(aG.mv (Ai aD));have dX:=(aH.mv (Ai aD));have dY:=(aI.mv (Ai aD));have dZ:=(aJ.mv (Ai aD));refine Bb e4 (Nat.lt_succ_self _) (fun st=>?_);exact⟨aK,m,(b+1),d,r,a,qz st,qd st,sp st 1 bC,sp st 3 bD,sp st 4 bE,sp st 7 bF,sp st 9 bG,sp st 14 aS,sp st 15 aT,sp st 16 bK,sp st 17 aU,sp st 18 a0,sp st 19 rfl,eI,dV,fT,eK,dW,dX,dY,dZ⟩
            ·replace a:=AE a cY;refine AF rfl cY<|BT<|AH<|AH ?_;obtain rfl:=Option.some.inj a;refine BU (fun st=>?_);exact⟨rfl,d,r,qz st,qd st,sp st 1 bC,sp st 3 bD,sp st 4 bE,sp st 7 bF,sp st 9 bG,sp st 15 aT,sp st 16 bK,sp st 18 a0,eD,aF,a2,aQ,aG,aH,aI⟩
          case gX=>
           rintro iA iL iO (⟨rfl,h,aE,fU,fV,e7,e8,e9,fA,fB,eL,eM,eN,f0,cK,fC,eA,c1,c2,c3⟩);refine Cc (X:=X0) (N:=169) fU fV<|Bd<|Ab<|Ad<|Aa<|wd rfl (fun st=>Bc (l:=[I c.Ak,I c.Aj,I c.Ap,I c.Ax,.slice f c.Ac.length g]) Ea (ee st e7) fC rfl rfl)<|wm rfl (v:=.slice x aR.length y) eL<|wm rfl (v:=.slice p j.1.length q) e8 ?_;replace a:=bind_some a;obtain⟨fW,hL,a⟩:=a;refine we rfl (fun st=>AS R4 (ee st rfl) (Fo (ee st rfl) (ee st rfl) (ee st rfl)) (W1 aV c aR j.1 f g x y p q ZA _ eA.all c3.all c1.all fW hL)) ?_;rintro _ iH ⟨d0,rfl⟩;have hM:=f0.ext d0;refine wm rfl (v:=I j.2.1) e9<|wd rfl (fun st=>Cl (ee st rfl) (ee st rfl))<|wm rfl (v:=.bool (fW==j.2.1)) rfl ?_;rcases Aq (fW==j.2.1) with bX|bX
           ·replace a:=AD a bX;refine Av rfl rfl (Af rfl bX) rfl (by decide) (fun st=>AP (v:=I bB.1) (ee st eM))<|Av rfl rfl (Af rfl bX) rfl (by decide) (fun st=>AP (v:=I n.2.1) (ee st fA))<|Av rfl rfl (Af rfl bX) rfl (by decide) (fun st=>Cl (ee st rfl) (ee st rfl))<|wd rfl (fun st=>AZ (v:=.bool (bB.1==n.2.1)) (ee st rfl) bX (ee st rfl))<|wm rfl (v:=.bool (bB.1==n.2.1)) rfl ?_;rcases Aq (bB.1==n.2.1) with bY|bY
            ·replace a:=AD a bY;refine Av rfl rfl (Af rfl bY) rfl (by decide) (fun st=>AP (v:=.slice t s.1.length u) (ee st fB))<|Av rfl rfl (Af rfl bY) rfl (by decide) (fun st=>AP (v:=.slice h bB.2.length aE) (ee st eN)) ?_;have d1:=(c2.mv (Ai d0));have cL:AB (Aw .i64) 3 w.heap.size iH (ZZ FN [] Z w.heap.size [ob h,some o]) h aE bB.2:=(cK.ext d0 (Ai d0));replace a:=bind_some a;obtain⟨eY,hN,a⟩:=a;refine DI rfl rfl (Af rfl bY) rfl (by decide) (fun st=>AS Sb (ee st rfl) (EK (ee st rfl) (ee st rfl)) (WR aV s.1 bB.2 t u h aE ZA _ d1.all cL.all eY hN)) ?_;rintro _ i5 ⟨hO,rfl⟩;have hP:=hM.ext hO;refine wd rfl (fun st=>AZ (v:=.bool eY) (ee st rfl) bY (ee st rfl))<|wm rfl (v:=.bool eY) rfl ?_;rcases Aq (eY) with c0|c0
             ·replace a:=AD a c0;replace a:=CY a;obtain⟨hQ,a⟩:=a;refine DI rfl rfl (Af rfl c0) rfl (by decide) (fun st=>AS Pq (ee st rfl) I0 (V9 aV ZA _ hQ)) ?_;rintro _ i6 ⟨hR,rfl⟩;have hS:=hP.ext hR;refine wd rfl (fun st=>AZ (v:=.bool true) (ee st rfl) c0 (ee st rfl))<|wa rfl (v:=.bool true) rfl<|Ae<|Ab<|AO ?_;have d3:=Option.some.inj a;refine AW rfl rfl ?_;exact⟨hS.Bz,congrArg Value.bool d3⟩
             ·replace a:=AE a c0;exact absurd (Option.some.inj a) (by decide)
            ·replace a:=AE a bY;exact absurd (Option.some.inj a) (by decide)
           ·replace a:=AE a bX;exact absurd (Option.some.inj a) (by decide)
end Go.Proofs.YtkljfdkmjdjpfaaGreat
end
section
namespace Go.Proofs.YtkljfdkmjdjpfaaGreat
open Go.RowKit Go.ChangeShapes Go.WideShapes
theorem Pt{α β:Type}{g:α→Option β}:∀{l:List α} {r:List β},l.mapM g=some r→∀(i:Nat) (x:α),l[i]?=some x→∃y,r[i]?=some y∧g x=some y
 |[],_,_,i,x,b=>by simp at b
 |a::l,r,h,i,x,b=>by
  rw[List.mapM_cons] at h;obtain⟨y,d,e⟩:=Option.bind_eq_some_iff.1 h;obtain⟨ys,c,f⟩:=Option.bind_eq_some_iff.1 e;obtain rfl:y::ys=r:=by simpa using f
  cases i with
  |zero=>
   obtain rfl:a=x:=by simpa using b
   exact⟨y,rfl,d⟩
  |succ i=>exact Pt c i x (by simpa using b)
theorem JZ{H:Type}{P:Program}{e:TypeId}{d:DataW H}{n:Nat}(b:n∈d.weights P e):∀{l:List (DataW H)},d∈l→n∈DataW.weightsAll P e l
 |[],h=>by cases h
 |a::l,h=>by
  rw[DataW.weightsAll,List.mem_append];rcases List.mem_cons.1 h with rfl|h
  ·exact .inl b
  ·exact .inr (JZ b h)
def Nw {H:Type} (P:Program) (t:TypeId) (d:DataW H):Prop:=∀n∈d.weights P t,n≤reachBytes
theorem US{H:Type}{P:Program}{a:List TypeId}{ds:List (DataW H)}(h:(DataW.weightsEach P a ds).all (· ≤reachBytes)=true){j:Nat}{t:TypeId}{d:DataW H}(b:a[j]?=some t)(c:ds[j]?=some d):Nw P t d:=fun n e=>by
 have:=List.all_eq_true.1 h _ (DataW.weights_mem_each b c n e);simpa using this
def Pu {α:Type} (P:Program) (t:TypeId) (e:Ep α) (wf:α→Prop):Prop:=
 ∀(H:Type) (enc:TypeId×Value→H) (w:World) (sp:Nat→Bool) (fuel:Nat) (cs:List Value) (x:DataW H×List MemPlace),DataW.trod enc P w 0 sp true fuel t cs=some x→Nw P t x.1→∃a,e.R w ZA cs a∧wf a
def IB(k:IntKind)(n:Int):Prop:=(Lit.int k n).wf=true
section
variable{P:Program}{t:TypeId}
theorem HJ{k:IntKind}(a:P.underlying t=some (.int k)):Pu P t (Aw k) (IB k):=by
 intro H enc w sp fuel cs x h _;obtain⟨n,b,_,c⟩:=DataW.trod_int a h;exact⟨n,b,c⟩
theorem JJ {e:Array Field} (g:P.underlying t=some (.struct e)) {H:Type} {enc:TypeId×Value→H} {w:World} {sp:Nat→Bool} {fuel:Nat} {cs:List Value} {x:DataW H×List MemPlace} (h:DataW.trod enc P w 0 sp true fuel t cs=some x):
  cs.length=P.cellsOf t∧∃c,∀(i a off:Nat),(e[i]?).map (fun f=>(f.type,f.offset))=some (a,off)→∃y,DataW.trod enc P w 0 sp true c a ((cs.drop off).take (P.cellsOf a))=some y∧(Nw P t x.1→Nw P a y.1):=by
 cases fuel with
 |zero=>simp[DataW.trod] at h
 |succ fuel=>
  unfold DataW.trod at h;simp only[g] at h;split at h
  ·rename_i m
   obtain⟨xs,o,rfl⟩:=Option.map_eq_some_iff.1 h;refine⟨m,fuel,fun i a off p=>?_⟩;obtain⟨f,b,he⟩:=Option.map_eq_some_iff.1 p;obtain⟨k,q⟩:f.type=a∧f.offset=off:=by simpa using he
   rw[←Array.getElem?_toList] at b;obtain⟨y,r,l⟩:=Pt o i f b;rw[k,q] at l;refine⟨y,l,fun s n u=>s n ?_⟩;simp only[DataW.weights,g];exact DataW.weights_mem_each (j:=i) (t:=a) (d:=y.1) (by rw[List.getElem?_map,b];simp[k]) (by rw[List.getElem?_map,r];rfl) n u
  ·cases h
theorem QY{w:World}{a:Addr}{n:Nat}{cs:List Value}(h:w.cells? 0 a n=some cs):cs.length=n∧∀j u,cs[j]?=some u→w.cell? (a.add j)=some u:=by
 unfold World.cells? at h;rw[if_pos (Nat.zero_le _)] at h;have d:=mapM_some_length h;refine⟨by simpa using d,?_⟩;have key:∀(l:List Nat) (r:List Value),l.mapM (fun i=>w.cell? (a.add i))=some r→∀(j i:Nat) (u:Value),l[j]?=some i→r[j]?=some u→w.cell? (a.add i)=some u:=by
  intro l
  induction l with
  |nil=>intro r _ j i u c;simp at c
  |cons b l ih=>
   intro r h j i u c e;rw[List.mapM_cons] at h;obtain⟨y,m,f⟩:=Option.bind_eq_some_iff.1 h;obtain⟨ys,g,o⟩:=Option.bind_eq_some_iff.1 f;obtain rfl:y::ys=r:=by simpa using o
   cases j with
   |zero=>
    obtain rfl:b=i:=by simpa using c
    obtain rfl:y=u:=by simpa using e
    exact m
   |succ j=>exact ih ys g j i u (by simpa using c) (by simpa using e)
 intro j u c;have k:j<n:=by
  have:=(List.getElem?_eq_some_iff.1 c).1;have f:cs.length=n:=by simpa using d
  omega
 exact key _ _ h j j u (by simp[k]) c
theorem Se{w:World}{a:Addr}{u:Value}(h:w.cell? a=some u):∃b o,a=⟨b,o,none⟩∧b<w.heap.size:=by
 obtain⟨b,o,pt⟩:=a;cases pt with
 |none=>
  refine⟨b,o,rfl,?_⟩;unfold World.cell? at h;cases c:w.heap[b]? with
  |none=>simp[c] at h
  |some o=>exact(Array.getElem?_eq_some_iff.1 c).1
 |some q=>
  unfold World.cell? at h;cases c:w.heap[b]? with
  |none=>simp[c] at h
  |some ob=>cases ob<;>simp[c] at h
theorem add_add{a:Addr}{k j:Nat}(h:k≤j):(a.add k).add (j-k)=a.add j:=by
 obtain⟨b,o,pt⟩:=a;cases pt with
 |none=>rw[FO,FO,FO];congr 1;omega
 |some q=>
  unfold Addr.add
  by_cases c:j=0
  ·have:k=0:=by omega
   subst this;subst c;simp
  ·by_cases d:k=0
   ·subst d;simp[c]
   ·by_cases e:j-k=0
    ·have:j=k:=by omega
     subst this;simp[d]
    ·simp[c,d,e];omega
theorem Sf {α:Type} {e:TypeId} {ee:Ep α} {wf:α→Prop} (aB:P.underlying t=some (.slice e)) (aM:P.cellsOf e=ee.sz) (h0:0<ee.sz) (aN:Pu P e ee wf) {b:Nat} (aE:P.bytesOf e=b):Pu P t (Bo ee) (fun xs=>xs.length*b≤140737488351232∧∀x∈xs,wf x):=by
 intro H enc w sp fuel cs x h y;rcases Go.Deep.open_slice aB h with⟨rfl,_⟩|⟨a,len,cap,m,n0,D,aT,rfl,_,aF,aR,hm,aG,aC⟩
 ·exact⟨[],⟨none,0,rfl,Sl.nil _ _ _⟩,by simp,by simp⟩
 ·have aS:len≤m:=by rw[hm];split<;>omega
  subst aG;have l:len*b≤140737488351232:=by
   have:=y ((((List.range len).map D).length+((List.range (m-len)).map fun j=>D (len+j)).length)*P.bytesOf e) (by simp[DataW.weights,aB]);rw[aE] at this;have c:len*b≤(((List.range len).map D).length+((List.range (m-len)).map fun j=>D (len+j)).length)*b:=Nat.mul_le_mul_right _ (by simp);exact Nat.le_trans c this
  have p:∀i,i<len→Nw P e (D i):=fun i hi n aH=>y n (by
   simp only[DataW.weights,aB];rw[List.mem_cons,List.mem_append];exact .inr (.inl (JZ aH (List.mem_map.2 ⟨i,by simpa using hi,rfl⟩))))
  have key:∀n,n≤len→∃Be xs,R2 ee w ZA Be xs∧xs.length=n∧(∀x∈xs,wf x)∧∀j u,Be.flatten[j]?=some u→w.cell? (a.add j)=some u:=by
   intro n
   induction n with
   |zero=>exact fun _=>⟨[],[],trivial,rfl,by simp,by simp⟩
   |succ n ih=>
    intro aH;obtain⟨Be,xs,q,c,aD,r⟩:=ih (by omega);obtain⟨ds,aO,aI⟩:=aC n (by omega);obtain⟨z,aP,aJ⟩:=aN _ _ _ _ _ _ _ aI (p n (by omega));obtain⟨aU,s⟩:=QY aO;refine⟨Be++[ds],xs++[z],q.append ⟨aP,trivial⟩,by simp[c],?_,?_⟩
    ·intro x f;rcases List.mem_append.1 f with f|f
     ·exact aD x f
     ·rw[List.mem_singleton.1 f];exact aJ
    ·intro j u d;rw[List.flatten_append] at d;rcases Nat.lt_or_ge j Be.flatten.length with g|k
     ·rw[List.getElem?_append_left g] at d;exact r j u d
     ·rw[List.getElem?_append_right k] at d;have v:=s (j-Be.flatten.length) u (by simpa using d);have aK:Be.flatten.length=n*ee.sz:=by rw[q.Ik,c]
      rw[aK] at v k;rw[aM] at v;rw[add_add k] at v;exact v
  obtain⟨Be,xs,q,c,aD,r⟩:=key len (Nat.le_refl _);refine⟨xs,⟨some a,cap,by rw[c],by rw[c];exact aF,(fun e=>by cases e),Be,q,?_⟩,by rw[c];exact l,aD⟩;cases aL:Be.flatten with
  |nil=>exact .inl rfl
  |cons u us=>
   have hu:=r 0 u (by rw[aL];rfl);obtain⟨b,o,aA,g⟩:=Se hu;have aQ:a=⟨b,o,none⟩:=by
    obtain⟨b',o',pt⟩:=a;cases pt<;>simp[Addr.add] at aA⊢;exact aA
   subst aQ;refine .inr ⟨b,o,rfl,trivial,g,fun j u d=>?_⟩;have:=r j u (by rw[aL];exact d);rw[FO] at this;exact this
end
section
variable{H:Type}{enc:TypeId×Value→H}{P:Program}{W W':World}
theorem KM{sp:Nat→Bool}:∀{e:List TypeId} {vs:List Value} {ds:List (DataW H)} {ps:List MemPlace},DataW.TrodAll enc P W 0 sp true e vs ds ps→(∀p∈ps,W.sameAt W' p)→DataW.TrodAll enc P W' 0 sp true e vs ds ps
 |[],_,_,_,h,_=>by
  obtain⟨rfl,rfl,rfl⟩:=trodAll_nil h;exact rfl
 |_::_,_,_,_,h,f=>by
  obtain⟨v,j,d,k,a,b,rfl,rfl,rfl,⟨n,g⟩,i⟩:=trodAll_cons h;exact⟨a,b,⟨n,DataW.trod_carry n _ _ _ g fun p c=>f p (List.mem_append_left _ c)⟩,KM i fun p c=>f p (List.mem_append_right _ c),rfl⟩
theorem Sg(K:Kids P (· <P.types.size))(c:∀t e,t<P.types.size→P.underlying t=some (.slice e)→0<P.cellsOf e){a:List TypeId}{vs:List Value}{ds:List (DataW H)}{ps:List MemPlace}(d:∀t∈a,t<P.types.size)
  (f:DataW.TrodAll enc P W 0 (fun _=>true) true a vs ds ps)(g:Ext W W')(b:∀p∈ps,p.block<W.heap.size)(sp:Nat→Bool)(h:∀p∈ps,sp p.block=true):DataW.TrodAll enc P W' 0 sp true a vs ds ps:=
 KM (DataW.TrodAll.respare K c d f h) fun p i=>(KO g).same (b p i)
variable{α:Type}{e:Ep α}{wf:α→Prop}{t:TypeId}{b0:Nat}{v:Value}{d:DataW H}{p:List MemPlace}{sp:Nat→Bool}
theorem UT{c:Array Field}(f:P.underlying t=some (.struct c))(g:Pu P t e wf)(b:Value.okWide P W .any b0 t v)(h:DataW.Trod enc P W 0 sp true t v d p)(i:Nw P t d):∃a cs,v=.agg cs.toArray∧e.R W ZA cs a∧wf a:=by
 unfold Value.okWide at b;rw[f] at b;obtain⟨cs,rfl,_⟩:=b;obtain⟨n,j⟩:=h;obtain⟨a,k,l⟩:=g _ _ _ _ _ _ _ j i;exact⟨a,cs.toList,by simp,k,l⟩
theorem PJ {f:Func} {s:ChangeSpec} {apart fresh handsOn again:Bool} {args:Array Value} {v:Value} {ds gs:List (DataW H)} {before pa pv:List MemPlace}
  (k:DataW.Whole enc P f.params.toList s.vars apart W args.toList ds gs before)
  (g:∀(b:Nat) (sp:Nat→Bool) (n:Bool),DataW.TrodAll enc P W' b sp n f.resultTypes.toList (v.resultList f.resultTypes.size) (s.fn H (ds++gs)).results [])
  (c:∀sp:Nat→Bool,(∀p∈before,sp p.block=true)→DataW.TrodAll enc P W' 0 sp true f.params.toList args.toList (s.fn H (ds++gs)).args pa)
  (d:∀sp:Nat→Bool,(∀p∈before,sp p.block=true)→DataW.TrodVars enc P W' sp s.vars (s.fn H (ds++gs)).vars pv)
  (e:before=pa++pv) (o:Ext W W')
  (l:∀(j:Nat) (t:TypeId) (r:Value),f.resultTypes[j]?=some t→(v.resultList f.resultTypes.size)[j]?=some r→Value.okWide P W' .any 0 t r):
  s.post enc P f apart fresh handsOn again W args v W':=by
 have m:=KO o;have h:∀p∈before,p.block<W.heap.size:=fun p a=>k.lt p a;have hold:∀p∈before,(fun b=>decide (b<W.heap.size)) p.block=true:=fun p a=>by simpa using h p a
 refine⟨ds,gs,before,[],pa,pv,k,g _ _ _,c _ hold,d _ hold,World.keptBut_mono (fun p a=>⟨a,?_⟩) (m.frame (· ∈before)),fun _=>?_⟩
 ·rw[e,List.mem_append] at a;exact Or.inr a
 ·obtain⟨_,_,_,_,_,q,u⟩:=k;refine⟨l,_,_,([]++pa)++pv,⟨[]++pa,pv,trodAll_append (c _ (fun _ _=>rfl)) (g _ _ _),d _ (fun _ _=>rfl),rfl,?_,?_⟩,?_⟩
  ·intro b off a;have i:MemPlace.cell b off∈before:=by rw[e];simpa using a
   rw[m.frozen (h _ i)];exact q b off i
  ·intro w;have:=u w;rw[e] at this;simpa using this
  ·intro p a _;rw[e];simpa using a
theorem Sh{f:FuncId}{args:Array Value}{w:World}{R:Value→World→Prop}(h:BP P f args w R):Calls P f args w (fun e w'=>∃v,e=.returned v∧R v w'):=h
end
end Go.Proofs.YtkljfdkmjdjpfaaGreat
end
section
set_option linter.unusedVariables false
set_option linter.unusedSimpArgs false
namespace Go.Proofs.YtkljfdkmjdjpfaaGreat
open Go.RowKit Go.ChangeShapes Go.WideShapes
theorem WG:∀{cs:List Value},cs.length=2→∃a0 a1,cs=[a0,a1]
 |[a0,a1],_=>⟨a0,a1,rfl⟩
theorem TF:∀{cs:List Value},cs.length=5→∃a0 a1 a2 a3 a4,cs=[a0,a1,a2,a3,a4]
 |[a0,a1,a2,a3,a4],_=>⟨a0,a1,a2,a3,a4,rfl⟩
theorem UU:Pu Tryz.prog 116 PT (fun x=>(IB .i64 x.Lo∧IB .i64 x.Hi)):=by
 intro H enc w sp fuel cs x h c;obtain⟨d,j,e⟩:=JJ Tryz.underlying116 h;have k:Tryz.prog.cellsOf 116=2:=by kernel_rfl
 rw[k] at d;have f:Tryz.prog.cellsOf 3=1:=by kernel_rfl
 obtain⟨a0,a1,rfl⟩:=WG d;obtain⟨m,a,g⟩:=e 0 3 0 rfl;simp only[f,List.drop_zero,List.drop_succ_cons,List.take_succ_cons,List.take_zero] at a;obtain⟨n0,h0,w0⟩:=(HJ Tryz.underlying3) _ _ _ _ _ _ _ a (g c);cases h0;obtain⟨y1,b,i⟩:=e 1 3 1 rfl;simp only[f,List.drop_zero,List.drop_succ_cons,List.take_succ_cons,List.take_zero] at b;obtain⟨n1,l,w1⟩:=(HJ Tryz.underlying3) _ _ _ _ _ _ _ b (i c);cases l;exact⟨⟨n0,n1⟩,rfl,w0,w1⟩
theorem UW:Pu Tryz.prog 118 AK (fun x=>((IB .i64 ((⟨x.As,x.AJ⟩:CN).Lo)∧IB .i64 ((⟨x.As,x.AJ⟩:CN).Hi))∧IB .i64 x.Ar∧IB .i64 x.BV∧IB .i64 x.Ce)):=by
 intro H enc w sp fuel cs x h a;obtain⟨j,o,b⟩:=JJ Tryz.underlying118 h;have p:Tryz.prog.cellsOf 118=5:=by kernel_rfl
 rw[p] at j;have g:Tryz.prog.cellsOf 3=1:=by kernel_rfl
 have i:Tryz.prog.cellsOf 116=2:=by kernel_rfl
 obtain⟨a0,a1,a2,a3,a4,rfl⟩:=TF j;obtain⟨y,c,k⟩:=b 0 116 0 rfl;simp only[i,List.drop_zero,List.drop_succ_cons,List.take_succ_cons,List.take_zero] at c;obtain⟨n0,h0,w0⟩:=UU _ _ _ _ _ _ _ c (k a);cases h0;obtain⟨y1,d,l⟩:=b 1 3 2 rfl;simp only[g,List.drop_zero,List.drop_succ_cons,List.take_succ_cons,List.take_zero] at d;obtain⟨n1,q,w1⟩:=(HJ Tryz.underlying3) _ _ _ _ _ _ _ d (l a);cases q;obtain⟨z,e,m⟩:=b 2 3 3 rfl;simp only[g,List.drop_zero,List.drop_succ_cons,List.take_succ_cons,List.take_zero] at e;obtain⟨r,s,w2⟩:=(HJ Tryz.underlying3) _ _ _ _ _ _ _ e (m a);cases s;obtain⟨aA,f,n⟩:=b 3 3 4 rfl;simp only[g,List.drop_zero,List.drop_succ_cons,List.take_succ_cons,List.take_zero] at f;obtain⟨t,u,v⟩:=(HJ Tryz.underlying3) _ _ _ _ _ _ _ f (n a);cases u;exact⟨⟨n0.Lo,n0.Hi,n1,r,t⟩,rfl,w0,w1,w2,v⟩
theorem Wa:Pu Tryz.prog 63 Jb (fun x=>(IB .i64 x.Ak∧IB .i64 x.Aj∧IB .i64 x.Ap∧IB .i64 x.Ax∧(x.Ac.length*40≤140737488351232∧∀y∈x.Ac,((IB .i64 ((⟨y.As,y.AJ⟩:CN).Lo)∧IB .i64 ((⟨y.As,y.AJ⟩:CN).Hi))∧IB .i64 y.Ar∧IB .i64 y.BV∧IB .i64 y.Ce)))):=by
 intro H enc w sp fuel cs x h a;obtain⟨k,r,c⟩:=JJ Tryz.underlying63 h;have s:Tryz.prog.cellsOf 63=5:=by kernel_rfl
 rw[s] at k;have d:Tryz.prog.cellsOf 3=1:=by kernel_rfl
 have l:Tryz.prog.cellsOf 61=1:=by kernel_rfl
 obtain⟨a0,a1,a2,a3,a4,rfl⟩:=TF k;obtain⟨aH,e,m⟩:=c 0 3 0 rfl;simp only[d,List.drop_zero,List.drop_succ_cons,List.take_succ_cons,List.take_zero] at e;obtain⟨n0,h0,w0⟩:=(HJ Tryz.underlying3) _ _ _ _ _ _ _ e (m a);cases h0;obtain⟨y1,f,n⟩:=c 1 3 1 rfl;simp only[d,List.drop_zero,List.drop_succ_cons,List.take_succ_cons,List.take_zero] at f;obtain⟨n1,t,w1⟩:=(HJ Tryz.underlying3) _ _ _ _ _ _ _ f (n a);cases t;obtain⟨aI,g,o⟩:=c 2 3 2 rfl;simp only[d,List.drop_zero,List.drop_succ_cons,List.take_succ_cons,List.take_zero] at g;obtain⟨u,v,w2⟩:=(HJ Tryz.underlying3) _ _ _ _ _ _ _ g (o a);cases v;obtain⟨aJ,i,p⟩:=c 3 3 3 rfl;simp only[d,List.drop_zero,List.drop_succ_cons,List.take_succ_cons,List.take_zero] at i;obtain⟨z,aA,aB⟩:=(HJ Tryz.underlying3) _ _ _ _ _ _ _ i (p a);cases aA;obtain⟨aK,j,q⟩:=c 4 61 4 rfl;simp only[l,List.drop_zero,List.drop_succ_cons,List.take_succ_cons,List.take_zero] at j;obtain⟨n4,⟨aC,aD,aE,aF⟩,aG⟩:=(Sf (b:=40) Tryz.underlying61 (by kernel_rfl) (by decide) UW (by kernel_rfl)) _ _ _ _ _ _ _ j (q a);cases aE;exact⟨⟨n0,n1,u,z,n4⟩,⟨aC,aD,rfl,aF⟩,w0,w1,w2,aB,aG⟩
theorem Xl:ownKnob Tryz.prog.godebug=none:=by kernel_rfl
theorem WH:Kids Tryz.prog (· <Tryz.prog.types.size):=kids_rows (by kernel_rfl) (by kernel_rfl)
theorem WI:∀t e,t<Tryz.prog.types.size→Tryz.prog.underlying t=some (.slice e)→0<Tryz.prog.cellsOf e:=slices_full_of Tryz.prog (by kernel_rfl)
end Go.Proofs.YtkljfdkmjdjpfaaGreat
end
section
set_option linter.unusedVariables false
set_option linter.unusedSimpArgs false
namespace Go.Proofs.YtkljfdkmjdjpfaaGreat
open Go.RowKit Go.ChangeShapes Go.WideShapes Go.ChangeAt
set_option maxRecDepth 100000 in
theorem MU(os:Os)(started:os.Started)(H:Type)(enc:TypeId×Value→H):
  ReturnsInHanded {} Tryz.checked os 7 .any (Rows.rackBestSpec.pre6 enc Tryz.prog Tryz.f7 Rows.rackBestRow.domain false) (Rows.rackBestSpec.post enc Tryz.prog Tryz.f7 false true false false):=by
 refine returnsInHanded_of_change_sized (C:=Tryz.checked) Xl started (by kernel_rfl) Tryz.func7
  (ChangeSpec.witness6 (enc:=enc) (C:=Tryz.checked) false ⟨#[], #[.agg #[.int .i64 0,.int .i64 0,.int .i64 0,.int .i64 0,.slice none 0 0]],[]⟩ 8 (by kernel_rfl) (by kernel_rfl) (by kernel_rfl) (by kernel_rfl)) ?_
 intro W base args ds gs before d l y m _;have a:∀(j:Nat) t v,Tryz.f7.params[j]?=some t→args[j]?=some v→Value.okWide Tryz.prog W .any base t v:=d;have b:=l;obtain⟨p,q,n,z,rfl,aD,aE⟩:=l;have g:DataW.TrodAll enc Tryz.prog W 0 (fun _=>true) true Tryz.f7.params.toList args.toList ds p:=n;obtain⟨rfl,rfl⟩:=trodVars_none z;simp only[List.append_nil] at b;have o:∀x∈p,x.block<W.heap.size:=fun x f=>by simpa using b.lt x f
 have r:=g;have c:(DataW.weightsEach Tryz.prog (Tryz.f7.params.toList++[]) (ds++[])).all (· ≤reachBytes)=true:=m;rw[Tryz.params7] at g a c;obtain⟨v0,d0,rfl,rfl,h0⟩:=trodAll_one g;obtain⟨s,aF,u,⟨h,i,rfl,k⟩,w0⟩:=UT Tryz.underlying63 Wa (a 0 63 v0 rfl rfl) h0 (US (j:=0) c rfl rfl);subst u;obtain⟨K,aA⟩:=N4 s;refine(Sh (a7 K s h i ZA W k aA)).mono fun e W' ⟨v,he,f,aB⟩=>?_;subst he;subst aB;exact⟨_,rfl,PJ (pa:=p) (pv:=[]) b (fun _ _ _=>trodAll_mk1 (shut_bool Tryz.underlying4 _)) (fun sp aC=>Sg WH WI (by rw[Tryz.params7];decide) r f o sp (fun x w=>aC x (by simpa using w))) (fun _ _=>rfl) (by simp) f (ok_one (by kernel_rfl) rfl (okWide_bool_mk Tryz.underlying4 _))⟩
theorem rackBest_holds:Rows.RackBestSaid:=
 OpenClaim.holds_of_wide 7 Tryz.f7 rfl rfl rfl rfl rfl rfl rfl ⟨rfl,rfl,rfl,rfl,rfl⟩ rfl rfl rfl rfl rfl (by kernel_rfl) Tryz.func7 (by kernel_rfl)
  (of_decide_eq_true (by kernel_rfl)) (by unfold Func.isWrapper;first|(rw[if_pos (by decide+kernel)];kernel_rfl)|(rw[if_neg (by decide+kernel)];exact⟨rfl,rfl⟩))
  (fun os started H enc _=>MU os started H enc)
end Go.Proofs.YtkljfdkmjdjpfaaGreat
end
