import Derived.Test.YtkljfdkmjdjpfaaGreatBB7
import Derived.ProofKit
import Derived.ChangeSame
import Derived.SizedLaws
import Derived.Deep.Slices
import Derived.Test.YtkljfdkmjdjpfaaGreatProg
import Derived.Test.YtkljfdkmjdjpfaaGreatRows
/-
  Proved: the law RackSunny returns true for every argument that the row hands over, and leaves every argument as it was; no condition beside the row's own.
-/
set_option linter.all false
section
namespace Go.Proofs.YtkljfdkmjdjpfaaGreat
section
variable{K:Nat}(hK:2000≤K){y:Ao}(h:check y=0)
include hK h
theorem Uc:ED K y=some y:=R0 hK y (by have:=(Fo h).n4;omega)
theorem SM{o:List (List Int)}(a:Dn y o=true):Em K o=some o:=by
 obtain⟨h1,b,_⟩:=IY h a;exact QV hK o h1 b
omit hK in
theorem SN {t:AS} (ht:Eh y t=true):En K t=some t:=by
 have hy:=Fo h
 obtain⟨h1,_,h3⟩:=GR.1 ht
 have:=Gx h3
 have:=hy.n4
 have:=hy.h9
 exact QW K t (by omega) (by omega)
end
theorem Ki(y:Ao)(o:List (List Int))(t:AS):(BO y o t).length=y.Ac.length:=GO ..
end Go.Proofs.YtkljfdkmjdjpfaaGreat
end
section
set_option linter.unusedVariables false
set_option linter.unusedSimpArgs false
namespace Go.Proofs.YtkljfdkmjdjpfaaGreat
open Go.RowKit Go.WideShapes
def CL(c:Ao):Nat→Int→(List (List Int))→Option ((List (List Int)))
 |0,_,_=>none
 |d+1,a,b=>cond (decide (a<((EJ c.Ac (0:Int) (min c.Ah (c.Ac.length:Int))).length:Int))) ((idx b a).bind fun e=>(i64 (a+1)).bind fun _=>CL c d (a+1) (b.set a.toNat [a])) (some (b))
def Ch(k:Nat)(e:Ao)(b:AS)(c:(List Ar)×Int):Nat→Int→Option ((Bool)⊕(Unit))
 |0,_=>none
 |l+1,a=>cond (decide (a<(c.1.length:Int))) ((idx b.Comes a).bind fun m=>(idx b.Comes a).bind fun f=>(idx (EJ e.Ac (0:Int) (min e.Ah (e.Ac.length:Int))) a).bind fun g=>(i64 (f+g.AI)).bind fun _=>(i64 ((f+g.AI)-1)).bind fun _=>(CY k m ((f+g.AI)-1) true).bind fun d=>cond (decide (e.Aj<d.Bc)) ((idx b.Comes a).bind fun n=>(CY k n (-1) false).bind fun h=>(idx c.1 a).bind fun i=>cond (!Ga [.inl i.On,.inl i.Bc,.inr i.AI] [.inl h.On,.inl h.Bc,.inr h.AI]) (some (.inl false)) ((i64 (a+1)).bind fun _=>Ch k e b c l (a+1))) ((idx c.1 a).bind fun j=>cond (!Ga [.inl j.On,.inl j.Bc,.inr j.AI] [.inl d.On,.inl d.Bc,.inr d.AI]) (some (.inl false)) ((i64 (a+1)).bind fun _=>Ch k e b c l (a+1)))) (some (.inr ()))
def Ef(b:Nat)(a:Ao)(k:Int):Option (Bool):=
 (Eo b a).bind fun l=>cond (!l) ((FX (Dw b=some true)).bind fun _=>some (true)) (cond ((a.Ac.length:Int)==0) ((FX (Dw b=some true)).bind fun _=>some (true)) ((OV a.Ac.length (0:Int) (min a.Ah (a.Ac.length:Int))).bind fun _=>(Eo b (⟨a.Aj,a.Ah,0,a.Av,EJ a.Ac (0:Int) (min a.Ah (a.Ac.length:Int))⟩:Ao)).bind fun f=>cond (!f) ((FX (Dw b=some true)).bind fun _=>some (true)) ((JV a.Ah 24).bind fun _=>(CL a b (0:Int) (List.replicate a.Ah.toNat ([]:List Int))).bind fun g=>(Fl b (⟨a.Aj,a.Ah,0,a.Av,EJ a.Ac (0:Int) (min a.Ah (a.Ac.length:Int))⟩:Ao) k).bind fun e=>(ED b (⟨a.Aj,a.Ah,0,a.Av,EJ a.Ac (0:Int) (min a.Ah (a.Ac.length:Int))⟩:Ao)).bind fun h=>(Em b g).bind fun i=>(En b e).bind fun j=>(FD b h i j).bind fun c=>cond (c.2 !=0) (some (false)) (cond ((c.1.length:Int) !=((EJ a.Ac (0:Int) (min a.Ah (a.Ac.length:Int))).length:Int)) (some (false)) ((Ch b a e c b (0:Int)).bind fun z=>Sum.elim (fun d=>some (d)) (fun d=>(FX (Dw b=some true)).bind fun _=>some (true)) z)))))
end Go.Proofs.YtkljfdkmjdjpfaaGreat
end
section
namespace Go.Proofs.YtkljfdkmjdjpfaaGreat
def Es(n r:Nat):List (List Int):=(List.range n).map (fun i:Nat=>[(i:Int)])++List.replicate r []
theorem Qm{α:Type}(x v:α)(b:List α):∀(a:List α),(a++x::b).set a.length v=a++v::b
 |[]=>rfl
 |z::a=>by rw[List.cons_append,List.length_cons,List.set_cons_succ,Qm x v b a,List.cons_append]
theorem Rb(n r:Nat):(Es n (r+1)).set n [(n:Int)]=Es (n+1) r:=by
 unfold Es;have:=Qm ([]:List Int) [(n:Int)] (List.replicate r []) ((List.range n).map (fun i:Nat=>[(i:Int)]));rw[List.length_map,List.length_range] at this;rw[List.replicate_succ,this,List.range_succ,List.map_append,List.append_assoc];rfl
theorem SO(y:Ao)(n:Nat)(a:(EJ y.Ac (0:Int) (min y.Ah (y.Ac.length:Int))).length=n)(h9:n≤1000)(q:Nat):∀(j m i:Nat),n=i+j→j<m→
  CL y m (i:Int) (Es i (j+q))=some (Es n q):=by
 intro j
 induction j with
 |zero=>
  intro m i h hm;cases m with
  |zero=>omega
  |succ m=>rw[CL.eq_2,a,cf (df (by omega)),show n=i by omega,Nat.zero_add]
 |succ j ih=>
  intro m i h hm;cases m with
  |zero=>omega
  |succ m=>
   have hi:i<(Es i (j+1+q)).length:=by unfold Es;simp;omega
   rw[CL.eq_2,a,ct (dt (by omega)),Dm hi,BM (by omega) (by omega),DJ,Int.toNat_natCast,show j+1+q=(j+q)+1 by omega,Rb];exact ih m (i+1) (by omega) (by omega)
theorem Rc(r:Nat):∀n:Nat,(Es n r).flatten=iota n:=by
 intro n;unfold Es iota;rw[List.flatten_append];have h1:(List.replicate r ([]:List Int)).flatten=[]:=by
  induction r with
  |zero=>rfl
  |succ r ih=>rw[List.replicate_succ,List.flatten_cons,ih];rfl
 have b:∀l:List Nat,(l.map (fun i:Nat=>[(i:Int)])).flatten=l.map fun i:Nat=>(i:Int):=by
  intro l
  induction l with
  |nil=>rfl
  |cons a l ih=>rw[List.map_cons,List.flatten_cons,ih];rfl
 rw[h1,b,List.append_nil]
theorem Qn(n r:Nat){i:Nat}(hi:i<n):∃a b,Es n r=a++([]++(i:Int)::[])::b:=by
 have:[(i:Int)]∈Es n r:=List.mem_append_left _ (List.mem_map.2 ⟨i,List.mem_range.2 hi,rfl⟩);obtain⟨a,b,e⟩:=List.append_of_mem this;exact⟨a,b,e⟩
theorem SP{K:Nat}{y x:Ao}(l:check x=0)(p:x.Aj=y.Aj)(q:x.Ac=EJ y.Ac (0:Int) (min y.Ah (y.Ac.length:Int)))(hw:x.An=0){r:Nat}(s:Dn x (Es x.Ac.length r)=true){t:AS}(ht:Eh x t=true)(z:Int):∀(j m i:Nat),x.Ac.length=i+j→j<m→
  Ch K y t (BO x (Es x.Ac.length r) t,z) m (i:Int)=some (.inr ()):=by
 have c:=Fo l;have aB:=c.n4;have h9:=c.h9;have h0:=c.h0;obtain⟨_,_,n⟩:=GR.1 ht;have v:=Gx n;have w:=Ki x (Es x.Ac.length r) t;intro j
 induction j with
 |zero=>
  intro m i h hm;cases m with
  |zero=>omega
  |succ m=>rw[Ch.eq_2,cf (df (by show¬(i:Int)<((BO x (Es x.Ac.length r) t).length:Int);omega))]
 |succ j ih=>
  intro m i h hm;cases m with
  |zero=>omega
  |succ m=>
   have hi:i<x.Ac.length:=by omega
   have b:i<t.Comes.length:=by omega
   have d:i<(BO x (Es x.Ac.length r) t).length:=by omega
   have f:=RX c ht hi;rw[Mn _ b] at f;have aA:=GN.1 (c.KX _ (K0 hi));have o:x.Ac[i]=Dr x i:=by unfold Dr;rw[List.getD_eq_getElem?_getD,List.getElem?_eq_getElem hi];rfl
   have k:(BO x (Es x.Ac.length r) t)[i]=Dx x t.An (Dr x i) t.Comes[i]:=by
    obtain⟨aC,aD,e⟩:=Qn x.Ac.length r hi;have h1:=RW s hi e t;have u:IC x (Es x.Ac.length r) t i=(BO x (Es x.Ac.length r) t)[i]:=by
     unfold IC;rw[List.getD_eq_getElem?_getD,List.getElem?_eq_getElem d];rfl
    rw[←u,h1,Mn _ b];show Dx x t.An (Dr x i) (max 0 t.Comes[i])=_;rw[show max 0 t.Comes[i]=t.Comes[i] by omega]
   have a:=N1 c hw ht hi f.1 f.2;have go:(i64 ((i:Int)+1)).bind (fun _=>Ch K y t (BO x (Es x.Ac.length r) t,z) m ((i:Int)+1))=some (.inr ()):=by
    rw[BM (by omega) (by omega),DJ];exact ih m (i+1) (by omega) (by omega)
   rw[Ch.eq_2,ct (dt (by show(i:Int)<((BO x (Es x.Ac.length r) t).length:Int);omega)),Dm b,Dm b,←q,Dm hi,o,BM (by omega) (by omega),BM (by omega) (by omega),bd (show CY K t.Comes[i] (t.Comes[i]+(Dr x i).AI-1) true=some ⟨t.Comes[i],t.Comes[i]+(Dr x i).AI-1,true⟩ from rfl),←p]
   by_cases g:x.Aj<t.Comes[i]+(Dr x i).AI-1
   ·rw[if_pos g] at a;rw[ct (dt g),Dm b,bd (show CY K t.Comes[i] (-1) false=some ⟨t.Comes[i],-1,false⟩ from rfl),Dm (xs:=(BO x (Es x.Ac.length r) t,z).1) d];show cond (!Ga [.inl (BO x (Es x.Ac.length r) t)[i].On,.inl (BO x (Es x.Ac.length r) t)[i].Bc,.inr (BO x (Es x.Ac.length r) t)[i].AI] _) _ _=_;rw[k,a,Nr ⟨t.Comes[i],-1,false⟩,nt];exact go
   ·rw[if_neg g] at a;rw[cf (df g),Dm (xs:=(BO x (Es x.Ac.length r) t,z).1) d];show cond (!Ga [.inl (BO x (Es x.Ac.length r) t)[i].On,.inl (BO x (Es x.Ac.length r) t)[i].Bc,.inr (BO x (Es x.Ac.length r) t)[i].AI] _) _ _=_;rw[k,a,Nr ⟨t.Comes[i],t.Comes[i]+(Dr x i).AI-1,true⟩,nt];exact go
theorem L5(y:Ao)(n:Int)(h0:0≤n)(h1:n≤65535):∃K,Ef K y n=some true:=by
 refine⟨2000,?_⟩;have hK:2000≤2000:=Nat.le_refl _;have c:=Pm hK;unfold Ef;rw[bd (Ns hK y)];cases k:IX y with
 |false=>rw[nf,FK c]
 |true=>
  obtain⟨h,z⟩:=Nt k;have hy:=Fo h;have u:=hy.r1;have v:=hy.r2;rw[nt];cases aA:((y.Ac.length:Int)==0) with
  |true=>rw[ct rfl,FK c]
  |false=>
   rw[cf rfl,U3 (by omega) (by omega) (by omega)];obtain⟨x,b⟩:∃x:Ao,x=⟨y.Aj,y.Ah,0,y.Av,EJ y.Ac (0:Int) (min y.Ah (y.Ac.length:Int))⟩:=⟨_,rfl⟩;rw[←b,bd (Ns hK x)];cases i:IX x with
   |false=>rw[nf,FK c]
   |true=>
    obtain⟨a,w⟩:=Nt i;have j:=Fo a;obtain⟨t,l,ht⟩:=R5 hK x j n h0 h1;have m:x.Aj=y.Aj:=by rw[b]
    have d:x.Ac=EJ y.Ac (0:Int) (min y.Ah (y.Ac.length:Int)):=by rw[b]
    have o:x.An=0:=by rw[b]
    have p:x.Ah=y.Ah:=by rw[b]
    have hlen:(x.Ac.length:Int)=min y.Ah (y.Ac.length:Int):=by
     rw[d];unfold EJ;rw[List.length_drop,List.length_take];show((min (min y.Ah (y.Ac.length:Int)).toNat y.Ac.length-0:Nat):Int)=_;omega
    obtain⟨q,r⟩:∃q:Nat,y.Ah.toNat=x.Ac.length+q:=⟨y.Ah.toNat-x.Ac.length,by omega⟩;have g:Dn x (Es x.Ac.length q)=true:=by
     refine E2.2 ⟨?_,by rw[Rc]⟩;unfold Es;rw[List.length_append,List.length_map,List.length_range,List.length_replicate,p];omega
    have e:=SO y x.Ac.length (by rw[d]) (by omega) q x.Ac.length 2000 0 (by omega) (by omega);have f:=SP (K:=2000) a m d o g ht 0 x.Ac.length 2000 0 (by omega) (by omega);have s:List.replicate y.Ah.toNat ([]:List Int)=Es 0 (x.Ac.length+q):=by rw[r];rfl
    rw[Int.natCast_zero] at e f;rw[nt,Oc (by omega) (by omega) (by omega),s,bd e,bd l,bd (Uc hK a),bd (SM hK a g),bd (SN a ht),bd (P8 hK a g ht),cf (by rfl),←d,cf (by simp[Ki]),bd f,Sum.elim_inr,FK c]
end Go.Proofs.YtkljfdkmjdjpfaaGreat
end
section
set_option linter.unusedVariables false
set_option linter.unusedSimpArgs false
namespace Go.Proofs.YtkljfdkmjdjpfaaGreat
open Go.RowKit Go.WideShapes
set_option maxRecDepth 20000
open HF
attribute [local irreducible] BD WL CC CW LV BJ Ea Ds One Bi
set_option maxHeartbeats 4000000 in
theorem VF(aZ:Nat)(a:Ao)(dT:Int)(aL:Option Addr)(aM:Nat)(Z:Nat→Prop)(w:World)(fI:Sl AJ w Z aL aM a.Ac)(d:Ef aZ a dT=some true):
 BJ Tryz.prog 13 #[.agg #[I a.Aj,I a.Ah,I a.An,I a.Av,.slice aL a.Ac.length aM],.int .u16 dT] w (fun v w'=>Ext w w'∧v=.bool true):=by
 unfold Ef at d;refine A3 (N:=120) Tryz.func13 rfl rfl (by simp) ?_;intro jN f3 jO;have f4:=AM (i:=0) (v:=.agg #[I a.Aj,I a.Ah,I a.An,I a.Av,.slice aL a.Ac.length aM]) f3 rfl;have f5:=AM (i:=1) (v:=.int .u16 dT) f3 rfl;clear f3;have fU:Hp FN [] w [] w:=Hp.start (BK.none w);have eC:=fI.mv (Bn (Z:=Z) (L:=[]) w);refine Ad<|Ab<|we rfl (fun st=>BX (v:=.agg #[I a.Aj,I a.Ah,I a.An,I a.Av,.slice aL a.Ac.length aM]) (cs:= #[I a.Aj,I a.Ah,I a.An,I a.Av,.slice aL a.Ac.length aM]) (ee st f4) rfl) ?_;rintro _ w1 ⟨m,rfl,dK⟩;have fV:=fU.nb dK;have i4:=fU.BE dK;refine wa rfl (v:=.bool false) rfl<|Ae<|Aa<|Ad<|Ab<|wd rfl (fun st=>Bd (l:=[I a.Aj,I a.Ah,I a.An,I a.Av,.slice aL a.Ac.length aM]) Fz (ee st rfl) dK.bk rfl rfl)<|we rfl (fun st=>BF (cs:= #[I 0,I 0,I 0,I 0,.slice none 0 0]) SL rfl) ?_;rintro _ w2 ⟨j,rfl,dL⟩;have eU:=fV.nb dL;have i5:=fV.BE dL;refine Bg rfl rfl (fun st=>A8 (n:=5) (l:=[I a.Aj,I a.Ah,I a.An,I a.Av,.slice aL a.Ac.length aM]) (B4:= #[I a.Aj,I a.Ah,I a.An,I a.Av,.slice aL a.Ac.length aM]) (ee st rfl) (ee st rfl) UJ dL.bk rfl rfl (show 0+5≤5 by decide) (AN rfl) rfl) ?_;rintro _ j3 d0;have eV:=eU.gr d0.gr 0 rfl;refine Ae<|Aa<|Ad<|Ab<|wd rfl (fun st=>Am (ee st rfl) (Ky _ _))<|Bg rfl rfl (fun st=>A8 (n:=1) (l:=[I 0]) (B4:= #[I a.Aj,I a.Ah,I 0,I a.Av,.slice aL a.Ac.length aM]) (ee st rfl) (ee st rfl) Df d0.bk rfl rfl (show 2+1≤5 by decide) (AN rfl) rfl) ?_;rintro _ j4 d1;have iI:=eV.gr d1.gr 0 rfl;refine Ae<|Aa<|Ad<|Ad<|Ab ?_;have d2:=(((dK.bk.ext dL.gr).gr d0.gr (eU.ne 1 0 rfl rfl rfl)).gr d1.gr (eV.ne 1 0 rfl rfl rfl));refine wd rfl (fun st=>Bd (l:=[I a.Aj,I a.Ah,I a.An,I a.Av,.slice aL a.Ac.length aM]) Fz (ee st rfl) d2 rfl rfl) ?_;have cZ:=((((eC.mv (Aw dK)).mv (Aw dL)).mv (eU.AP d0.gr 0 rfl)).mv (eV.AP d1.gr 0 rfl));replace d:=bind_some d;obtain⟨eW,iJ,d⟩:=d;refine we rfl (fun st=>AO Qk (ee st rfl) (CD (ee st rfl)) (UX aZ a aL aM ZA _ cZ.all eW iJ)) ?_;rintro _ jB ⟨d3,rfl⟩;have d4:=iI.ext d3;refine wd rfl (fun st=>DE (ee st rfl))<|wm rfl (v:=.bool !eW) rfl ?_;rcases Ap (!eW) with aS|aS
 ·replace d:=AG d aS;have i6:eW=false:=by simpa using aS
  refine Ai (c:=true) rfl rfl (Af rfl aS) (by decide) rfl (by decide)<|Ai (c:=true) rfl rfl (Af rfl aS) (by decide) rfl (by decide)<|Ai (c:=true) rfl rfl (Af rfl aS) (by decide) rfl (by decide)<|Ai (c:=true) rfl rfl (Af rfl aS) (by decide) rfl (by decide)<|wd rfl (fun st=>AZ (v:=.bool true) (ee st rfl) aS (ee st rfl))<|Ae<|Aa<|Az rfl rfl<|Ad<|Ab ?_;replace d:=CU d;obtain⟨iK,d⟩:=d;refine we rfl (fun st=>AO LG (ee st rfl) HP (RA aZ ZA _ iK)) ?_;rintro _ jP ⟨iL,rfl⟩;have iM:=d4.ext iL;refine wa rfl (v:=.bool true) rfl<|Ae<|Aa<|AF<|Ax ?_;have bM:=Option.some.inj d;refine AR rfl rfl ?_;exact⟨iM.Bq,congrArg Value.bool bM⟩
 ·replace d:=AH d aS;have iN:eW=true:=by simpa using aS
  refine Au rfl rfl (Af rfl aS) rfl (by decide) (fun st=>Am (ee st rfl) (EG _ _)) ?_;have b7:=(d2.ext d3);refine Au rfl rfl (Af rfl aS) rfl (by decide) (fun st=>As (v:=.slice aL a.Ac.length aM) FA (ee st rfl) b7 rfl)<|Au rfl rfl (Af rfl aS) rfl (by decide) (fun st=>BT Tryz.underlying61 (ee st rfl))<|Au rfl rfl (Af rfl aS) rfl (by decide) (fun st=>CT (ee st rfl) (ee st rfl))<|wd rfl (fun st=>Bu (v:=.bool ((a.Ac.length:Int)==0)) (ee st rfl) aS (ee st rfl))<|Ae<|Aa ?_;rcases Ap ((a.Ac.length:Int)==0) with b8|b8
  ·replace d:=AG d b8;refine Az rfl b8<|Ad<|Ab ?_;replace d:=CU d;obtain⟨f6,d⟩:=d;refine we rfl (fun st=>AO LG (ee st rfl) HP (RA aZ ZA _ f6)) ?_;rintro _ jQ ⟨f7,rfl⟩;have iO:=d4.ext f7;refine wa rfl (v:=.bool true) rfl<|Ae<|Aa<|AF<|Ax ?_;have bM:=Option.some.inj d;refine AR rfl rfl ?_;exact⟨iO.Bq,congrArg Value.bool bM⟩
  ·replace d:=AH d b8;refine AL rfl b8<|AV<|Aa<|Ad<|Ab<|wd rfl (fun st=>Am (ee st rfl) (EG _ _))<|wd rfl (fun st=>As (v:=.slice aL a.Ac.length aM) FA (ee st rfl) b7 rfl)<|wd rfl (fun st=>Am (ee st rfl) (I1 _ _))<|wd rfl (fun st=>As (v:=I a.Ah) AW (ee st rfl) b7 rfl)<|wd rfl (fun st=>Am (ee st rfl) (EG _ _))<|wd rfl (fun st=>As (v:=.slice aL a.Ac.length aM) FA (ee st rfl) b7 rfl)<|wd rfl (fun st=>BT Tryz.underlying61 (ee st rfl))<|wd rfl (fun st=>OM (ee st rfl) (ee st rfl)) ?_;replace d:=PC d;obtain⟨f8,d⟩:=d;have eD:=(cZ.mv (Ak d3));refine we rfl (fun st=>Ta (e:=AJ) (Z:=_) (xs:=a.Ac) Tryz.underlying61 HM rfl (ee st rfl) U0 (U1 (ee st rfl)) eD f8) ?_;rintro _ jB ⟨⟨aI,aJ,rfl,f9⟩,rfl⟩;refine wd rfl (fun st=>Am (ee st rfl) (EG _ _)) ?_;have fJ:=(d1.bk.ext d3);refine Bg rfl rfl (fun st=>A8 (n:=1) (l:=[.slice aI ((EJ a.Ac (0:Int) (min a.Ah (a.Ac.length:Int))).length) aJ]) (B4:= #[I a.Aj,I a.Ah,I 0,I a.Av,.slice aI ((EJ a.Ac (0:Int) (min a.Ah (a.Ac.length:Int))).length) aJ]) (ee st rfl) (ee st rfl) UK fJ rfl rfl (show 4+1≤5 by decide) (AN rfl) rfl) ?_;rintro _ jR c9;have iP:=d4.gr c9.gr 0 rfl;refine Ae<|Aa<|Ad<|Ad<|Ab<|wd rfl (fun st=>Bd (l:=[I a.Aj,I a.Ah,I 0,I a.Av,.slice aI ((EJ a.Ac (0:Int) (min a.Ah (a.Ac.length:Int))).length) aJ]) Fz (ee st rfl) c9.bk rfl rfl) ?_;have dM:=(f9.mv (d4.AP c9.gr 0 rfl));replace d:=bind_some d;obtain⟨d5,gA,d⟩:=d;refine we rfl (fun st=>AO Qk (ee st rfl) (CD (ee st rfl)) (UX aZ (⟨a.Aj,a.Ah,0,a.Av,EJ a.Ac (0:Int) (min a.Ah (a.Ac.length:Int))⟩:Ao) aI aJ ZA _ dM.all d5 gA)) ?_;rintro _ jS ⟨dU,rfl⟩;have d6:=iP.ext dU;refine wd rfl (fun st=>DE (ee st rfl))<|Ae<|Aa ?_;rcases Ap (!d5) with bD|bD
   ·replace d:=AG d bD;have iG:d5=false:=by simpa using bD
    refine Az rfl bD<|Ad<|Ab ?_;replace d:=CU d;obtain⟨gB,d⟩:=d;refine we rfl (fun st=>AO LG (ee st rfl) HP (RA aZ ZA _ gB)) ?_;rintro _ jT ⟨gC,rfl⟩;have gD:=d6.ext gC;refine wa rfl (v:=.bool true) rfl<|Ae<|Aa<|AF<|Ax ?_;have bM:=Option.some.inj d;refine AR rfl rfl ?_;exact⟨gD.Bq,congrArg Value.bool bM⟩
   ·replace d:=AH d bD;have iH:d5=true:=by simpa using bD
    refine AL rfl bD<|AV<|Aa<|Ad<|Ab<|wd rfl (fun st=>Am (ee st rfl) (I1 _ _)) ?_;have d7:=(c9.bk.ext dU);refine wd rfl (fun st=>As (v:=I a.Ah) AW (ee st rfl) d7 rfl) ?_;replace d:=G5 d;obtain⟨gE,d⟩:=d;refine we rfl (fun st=>Hy (e:=(BC (Ay .i64))) (z:=([]:List Int)) (zc:=[.slice none 0 0]) (n0:=w.heap.size) (b':=24) Tryz.underlying64 I4 rfl rfl (ee st rfl) (ee st rfl) gE (fun _ _=>⟨_,_,rfl,Sl.nil _ _ _⟩) d6.sz (by decide)) ?_;rintro _ fW ⟨p,rfl,dV,fK,dW,fL⟩;have gF:Hp FN [] w [some p,some j,some m] fW:=d6.new dW dV fK;have iQ:w.heap.size≤p:=Nat.le_trans d6.sz dV;have gG:AB (BC (Ay .i64)) 23 w.heap.size fW (ZZ FN [] Z w.heap.size [some p,some j,some m]) (some ⟨p,0,none⟩) a.Ah.toNat (List.replicate a.Ah.toNat ([]:List Int)):=fL _;refine wa rfl (v:=.slice (some ⟨p,0,none⟩) ((List.replicate a.Ah.toNat ([]:List Int)).length) a.Ah.toNat) rfl<|Ae<|Aa<|Ad<|Ad<|Ab<|wa rfl (v:=I 0) rfl<|Ae<|Aa<|Ba ?_;replace d:=bind_some d;obtain⟨b9,bS,d⟩:=d;refine Co (fun eE aD aU=>(eE=.exit 0∧aD.tmps.size=120∧aD.defers=(X0).ds∧sl aD 1=.int .u16 dT∧sl aD 5=pt j 0∧sl aD 6=.slice (some ⟨p,0,none⟩) b9.length a.Ah.toNat∧Hp FN [] w [some p,some j,some m] aU∧AB (BC (Ay .i64)) 23 w.heap.size aU (ZZ FN [] Z w.heap.size [some p,some j,some m]) (some ⟨p,0,none⟩) a.Ah.toNat b9∧Bk aU j 63 #[I a.Aj,I a.Ah,I 0,I a.Av,.slice aI ((EJ a.Ac (0:Int) (min a.Ah (a.Ac.length:Int))).length) aJ]∧Sl AJ aU (ZZ FN [] Z w.heap.size [some p,some j,some m]) aI aJ (EJ a.Ac (0:Int) (min a.Ah (a.Ac.length:Int))))) ?gH ?gI
    case gH=>
     clear d;refine Cn (fun(dN:Nat) (aD:Act) (aU:World)=>∃f,∃o,CL a dN f o=some b9∧aD.tmps.size=120∧aD.defers=(X0).ds∧sl aD 1=.int .u16 dT∧sl aD 5=pt j 0∧sl aD 6=.slice (some ⟨p,0,none⟩) o.length a.Ah.toNat∧sl aD 7=I f∧Hp FN [] w [some p,some j,some m] aU∧AB (BC (Ay .i64)) 23 w.heap.size aU (ZZ FN [] Z w.heap.size [some p,some j,some m]) (some ⟨p,0,none⟩) a.Ah.toNat o∧Bk aU j 63 #[I a.Aj,I a.Ah,I 0,I a.Av,.slice aI ((EJ a.Ac (0:Int) (min a.Ah (a.Ac.length:Int))).length) aJ]∧Sl AJ aU (ZZ FN [] Z w.heap.size [some p,some j,some m]) aI aJ (EJ a.Ac (0:Int) (min a.Ah (a.Ac.length:Int)))) aZ ?gJ ?gK
     case gJ=>
      intro st;have eX:=(d7.ext dW);have eG:=((dM.mv (Ak dU)).mv (Ed dW dV));exact⟨(0:Int),(List.replicate a.Ah.toNat ([]:List Int)),bS,qz st,qd st,sp st 1 f5,sp st 5 rfl,sp st 6 rfl,sp st 7 rfl,gF,gG,eX,eG⟩
     case gK=>
      rintro(_|dN) jC jD ⟨f,o,bS,fM,fN,dO,cA,cB,bN,dX,bO,bT,cC⟩
      ·exact absurd (show none=some _ from bS) (by simp)
      rw[CL.eq_2] at bS;have d:=bS;clear bS;refine B5 (N:=120) fM fN<|Ad<|Ad<|Ab<|wm rfl (v:=I f) bN<|wd rfl (fun st=>Am (ee st cA) (EG _ _))<|wd rfl (fun st=>As (v:=.slice aI ((EJ a.Ac (0:Int) (min a.Ah (a.Ac.length:Int))).length) aJ) FA (ee st rfl) bT rfl)<|wd rfl (fun st=>BT Tryz.underlying61 (ee st rfl))<|wd rfl (fun st=>CB (ee st rfl) (ee st rfl))<|Ae<|Aa ?_;rcases Ap (decide (f<((EJ a.Ac (0:Int) (min a.Ah (a.Ac.length:Int))).length:Int))) with cD|cD
      ·replace d:=AG d cD;refine Az rfl cD<|AV<|Aa<|Ad<|Ba<|Ab<|wm rfl (v:=.slice (some ⟨p,0,none⟩) o.length a.Ah.toNat) cB<|wm rfl (v:=I f) bN<|wm rfl (v:=I f) bN<|we rfl (fun st=>BH (e:=3) (vs:= #[(0,I f)]) (cs:= #[I f]) (Hb (ee st rfl)) (by kernel_rfl)) ?_;rintro _ d8 ⟨eY,rfl,bE⟩;have eZ:=dX.nb bE;have e0:=dX.BE bE;replace d:=Br d;obtain⟨i30,jU,e1,e2,dY,d⟩:=d;have b4:AB (BC (Ay .i64)) 23 w.heap.size d8 (ZZ FN [] Z w.heap.size [some eY,some p,some j,some m]) (some ⟨p,0,none⟩) a.Ah.toNat o:=(bO.ext bE.gr (Aw bE));obtain⟨jV,jW,_,e3,⟨i7,i8,rfl,iR⟩,jE⟩:=AB.Hk b4 rfl e2
       skip
       refine wd rfl (fun st=>BI (k:=i30) Tryz.underlying64 Fv (ee st rfl) e3 (ee st rfl) e1 dY) ?_;have e4:f.toNat=i30:=by rw[e1,Int.toNat_natCast]
       have dA:Hp FN [] w [some p,some j,some m] d8:=eZ.erase 0;have eH:=bE.bk;have e5:Sl (Ay .i64) d8 (ZZ FN [] Z w.heap.size [some p,some j,some m]) (some ⟨eY,0,none⟩) 1 [f]:=FY (e:=(Ay .i64)) (xs:=[f]) (Be:=[[I f]]) eH (eZ.lit 0 rfl e0) ⟨rfl,trivial⟩ rfl (Nat.le_refl _);have dP:AB (BC (Ay .i64)) 23 w.heap.size d8 (ZZ FN [] Z w.heap.size [some p,some j,some m]) (some ⟨p,0,none⟩) a.Ah.toNat o:=(b4.up (AK 0));refine Bg rfl rfl (fun st=>F1 (k:=i30) (z':=[f]) (l:=[.slice (some ⟨eY,0,none⟩) 1 1]) dP e2 e3 rfl (ee st rfl) (ee st rfl) Fv rfl rfl (AN rfl) ⟨_,_,rfl,e5⟩) ?_;rintro _ fX ⟨dB,gL⟩;have gM:=dA.gr dB 0 rfl;have gN:AB (BC (Ay .i64)) 23 w.heap.size fX (ZZ FN [] Z w.heap.size [some p,some j,some m]) (some ⟨p,0,none⟩) a.Ah.toNat (o.set f.toNat [f]):=by rw[show o.set f.toNat [f]=o.set i30 [f] from congrArg (fun gO=>o.set gO [f]) e4];exact F7 gL (dA.AP dB 0 rfl)
       have jF:(o.set f.toNat [f])[i30]?=some [f]:=by rw[show o.set f.toNat [f]=o.set i30 [f] from congrArg (fun gO=>o.set gO [f]) e4];exact List.getElem?_set_self dY
       have jG:i30<(o.set f.toNat [f]).length:=by rw[List.length_set];exact dY
       have gP:=(cB).trans (show(.slice (some ⟨p,0,none⟩) o.length a.Ah.toNat:Value)=.slice (some ⟨p,0,none⟩) ((o.set f.toNat [f]).length) a.Ah.toNat by simp only[List.length_set]);have jH:(.slice (some ⟨p,0,none⟩) o.length a.Ah.toNat:Value)=.slice (some ⟨p,0,none⟩) ((o.set f.toNat [f]).length) a.Ah.toNat:=by simp only[List.length_set]
       refine Ae<|Bp<|Aa<|Ab<|wm rfl (v:=I f) bN ?_;replace d:=AU d;obtain⟨gQ,d⟩:=d;refine wd rfl (fun st=>By (ee st rfl) (ee st rfl) gQ)<|wa rfl (v:=I (f+1)) rfl<|Ae ?_;have e6:=((bT.ext bE.gr).gr dB (dA.ne 1 0 rfl rfl rfl));have eI:Sl AJ fX (ZZ FN [] Z w.heap.size [some p,some j,some m]) aI aJ (EJ a.Ac (0:Int) (min a.Ah (a.Ac.length:Int))):=(((cC.mv (Aw bE)).mv (AK 0)).mv (dA.AP dB 0 rfl));refine Bx dN (Nat.lt_succ_self _) (fun st=>?_);exact⟨(f+1),(o.set f.toNat [f]),d,qz st,qd st,sp st 1 dO,sp st 5 cA,sp st 6 gP,sp st 7 rfl,gM,gN,e6,eI⟩
      ·replace d:=AH d cD;refine AL rfl cD<|Cj<|AQ<|AQ ?_;obtain rfl:=Option.some.inj d;refine BZ (fun st=>?_);exact⟨rfl,qz st,qd st,sp st 1 dO,sp st 5 cA,sp st 6 cB,dX,bO,bT,cC⟩
    case gI=>
     rintro eE i9 jI (⟨rfl,e7,e8,eJ,a7,eK,dC,dZ,c0,cE⟩);refine Cq (X:=X0) (N:=120) e7 e8<|Bt<|Aa<|Ad<|Ab<|wd rfl (fun st=>Bd (l:=[I a.Aj,I a.Ah,I 0,I a.Av,.slice aI ((EJ a.Ac (0:Int) (min a.Ah (a.Ac.length:Int))).length) aJ]) Fz (ee st a7) c0 rfl rfl)<|wm rfl (v:=.int .u16 dT) eJ ?_;replace d:=bind_some d;obtain⟨aE,gR,d⟩:=d;refine we rfl (fun st=>AO T3 (ee st rfl) (EZ (ee st rfl) (ee st rfl)) (VD aZ (⟨a.Aj,a.Ah,0,a.Av,EJ a.Ac (0:Int) (min a.Ah (a.Ac.length:Int))⟩:Ao) dT aI aJ (ZZ FN [] Z w.heap.size [some p,some j,some m]) _ cE aE gR)) ?_;rintro _ jX ⟨cF,⟨_,rfl,⟨r,s,aF,aG,rfl,bF,bG⟩⟩⟩;have e9:=dC.ext cF;have bF:=bF.mv (dC.Dp (Nat.le_refl _));have bG:=bG.mv (dC.Dp (Nat.le_refl _));refine we rfl (fun st=>BF (cs:= #[.slice none 0 0,.slice none 0 0]) KB rfl) ?_;rintro _ jY ⟨g,rfl,aV⟩;have bH:=e9.nb aV;have iS:=e9.BE aV;refine Bg rfl rfl (fun st=>A8 (n:=2) (l:=[.slice r aE.Comes.length s,.slice aF aE.An.length aG]) (B4:= #[.slice r aE.Comes.length s,.slice aF aE.An.length aG]) (ee st rfl) (ee st rfl) Po aV.bk rfl rfl (show 0+2≤2 by decide) (AN rfl) rfl) ?_;rintro _ c1 a0;have fA:=bH.gr a0.gr 0 rfl;refine Ae<|Aa<|Ad ?_;have eL:AB (BC (Ay .i64)) 23 w.heap.size c1 (ZZ FN [] Z w.heap.size [some g,some p,some j,some m]) (some ⟨p,0,none⟩) a.Ah.toNat b9:=(((dZ.ext cF (Ak cF)).ext aV.gr (Aw aV)).gr a0.gr (fun k jJ=>bH.ne 1 0 rfl (congrArg some jJ) rfl) (bH.AP a0.gr 0 rfl));have cG:Hp FN [] w [some g,some j,some m] c1:=fA.erase 1;have fB:Sl (BC (Ay .i64)) c1 (ZZ FN [] Z w.heap.size [some g,some j,some m]) (some ⟨p,0,none⟩) a.Ah.toNat b9:=fA.Rk 1 rfl eL;have dQ:=(((c0.ext cF).ext aV.gr).gr a0.gr (bH.ne 2 0 rfl rfl rfl));have c2:Sl AJ c1 (ZZ FN [] Z w.heap.size [some g,some j,some m]) aI aJ (EJ a.Ac (0:Int) (min a.Ah (a.Ac.length:Int))):=((((cE.mv (Ak cF)).mv (Aw aV)).mv (bH.AP a0.gr 0 rfl)).mv (AK 1));replace d:=bind_some d;obtain⟨b5,gS,d⟩:=d;replace d:=bind_some d;obtain⟨d9,gT,d⟩:=d;have c3:=a0.bk;have a9:Sl (Ay .i64) c1 (ZZ FN [] Z w.heap.size [some g,some j,some m]) r s aE.Comes:=(((bF.mv (Aw aV)).mv (bH.AP a0.gr 0 rfl)).mv (AK 1));have bA:Sl Bo c1 (ZZ FN [] Z w.heap.size [some g,some j,some m]) aF aG aE.An:=(((bG.mv (Aw aV)).mv (bH.AP a0.gr 0 rfl)).mv (AK 1));replace d:=bind_some d;obtain⟨dR,gU,d⟩:=d;replace d:=bind_some d;obtain⟨aB,gV,d⟩:=d;refine CI 11 [Kc (.agg #[I a.Aj,I a.Ah,I 0,I a.Av,.slice aI ((EJ a.Ac (0:Int) (min a.Ah (a.Ac.length:Int))).length) aJ]),Kv (C5 Hn) (ZZ FN [] Z w.heap.size [some g,some j,some m]) b5,Kc (.slice (some ⟨p,0,none⟩) b9.length a.Ah.toNat),Kv (E0 (BC (Ay .i64))) (ZZ FN [] Z w.heap.size [some g,some j,some m]) d9,Kc (.agg #[.slice r aE.Comes.length s,.slice aF aE.An.length aG]),Kv (C5 EV) (ZZ FN [] Z w.heap.size [some g,some j,some m]) dR,Kv (Mb (E0 BY) (Fi .i64)) (ZZ FN [] Z w.heap.size [some g,some j,some m]) aB,Kv (Mb (E0 BY) (Fi .i64)) (ZZ FN [] Z w.heap.size [some g,some j,some m]) aB,Kv (E0 BY) (ZZ FN [] Z w.heap.size [some g,some j,some m]) aB.1,Kc (I aB.2),Kv (E0 BY) (ZZ FN [] Z w.heap.size [some g,some j,some m]) aB.1] mixed rfl rfl
         (Ag (od rfl (fun _=>rfl) (fun K=>Bd (l:=[I a.Aj,I a.Ah,I 0,I a.Av,.slice aI ((EJ a.Ac (0:Int) (min a.Ah (a.Ac.length:Int))).length) aJ]) Fz (es ((K.out 5 rfl).trans a7)) (dQ.ext K.Bj) rfl rfl))
         (Ag (DP rfl rfl (fun a' w' ph K=>(AO TZ rfl (CD (es (K.AD 0 58 rfl rfl))) (a31 aZ (⟨a.Aj,a.Ah,0,a.Av,EJ a.Ac (0:Int) (min a.Ah (a.Ac.length:Int))⟩:Ao) aI aJ (ZZ FN [] Z w.heap.size [some g,some j,some m]) _ (c2.mv (Ak K.Bj)) b5 gS)).mono (fun _ _ h=>⟨(C5 Hn).mv h.2 ((cG.ext K.Bj).Dp (Nat.le_refl _)),h.1⟩)))
         (Ag (od rfl (fun _=>rfl) (fun K=>A5 (es ((K.out 6 rfl).trans eK))))
         (Ag (DP rfl rfl (fun a' w' ph K=>(AO T0 rfl (CD (es (K.AD 2 60 rfl rfl))) (VB aZ b9 (some ⟨p,0,none⟩) a.Ah.toNat (ZZ FN [] Z w.heap.size [some g,some j,some m]) _ (fB.mv (Ak K.Bj)) d9 gT)).mono (fun _ _ h=>⟨(E0 (BC (Ay .i64))).mv h.2 ((cG.ext K.Bj).Dp (Nat.le_refl _)),h.1⟩)))
         (Ag (od rfl (fun _=>rfl) (fun K=>Bd (l:=[.slice r aE.Comes.length s,.slice aF aE.An.length aG]) LD (es ((K.out 8 rfl).trans rfl)) (c3.ext K.Bj) rfl rfl))
         (Ag (DP rfl rfl (fun a' w' ph K=>(AO T1 rfl (CD (es (K.AD 4 62 rfl rfl))) (VC aZ aE r s aF aG (ZZ FN [] Z w.heap.size [some g,some j,some m]) _ (a9.mv (Ak K.Bj)) (bA.mv (Ak K.Bj)) dR gU)).mono (fun _ _ h=>⟨(C5 EV).mv h.2 ((cG.ext K.Bj).Dp (Nat.le_refl _)),h.1⟩)))
         (Ag (DP rfl rfl (fun a' w' ph K=>match K.AD 3 61 rfl rfl with|⟨cH,cI,fO,c4⟩=>by obtain⟨_,fP,⟨bU,bV,rfl,cJ⟩⟩:=K.AD 1 59 rfl rfl;obtain⟨_,fQ,⟨bW,bX,bY,bZ,rfl,cK,cL⟩⟩:=K.AD 5 63 rfl rfl;exact(AO NN rfl (Ff (es (t:=59) (v:=.agg #[I b5.Aj,I b5.Ah,I b5.An,I b5.Av,.slice bU b5.Ac.length bV]) fP) (es (t:=61) (v:=.slice cH d9.length cI) fO) (es (t:=63) (v:=.agg #[.slice bW dR.Comes.length bX,.slice bY dR.An.length bZ]) fQ)) (T8 aZ b5 d9 dR bU bV cH cI bW bX bY bZ (ZZ FN [] Z w.heap.size [some g,some j,some m]) _ cJ c4 cK cL aB gV)).mono (fun _ _ h=>⟨(Mb (E0 BY) (Fi .i64)).mv h.2 ((cG.ext K.Bj).Dp (Nat.le_refl _)),h.1⟩)))
         (Ag (DP rfl rfl (fun a' w' ph K=>(A5 (v:=sl a' 64) rfl).mono (fun u Bm ⟨hu,hw⟩=>by subst hu;subst hw;exact⟨K.AD 6 64 rfl rfl,Ext.refl _⟩)))
         (Ag (DP rfl rfl (fun a' w' ph K=>by obtain⟨_,_,dD,⟨y,aA,rfl,a8⟩,rfl⟩:=K.AD 7 57 rfl rfl;exact(BU (v:=.slice y aB.1.length aA) (es (t:=57) (v:=.tuple #[.slice y aB.1.length aA,I aB.2]) dD) rfl).mono (fun u Bm ⟨hu,hw⟩=>by subst hu;subst hw;exact⟨⟨y,aA,rfl,a8⟩,Ext.refl _⟩)))
         (Ag (od rfl (fun _=>rfl) (fun K=>by obtain⟨_,_,dD,⟨y,aA,rfl,a8⟩,rfl⟩:=K.AD 7 57 rfl rfl;exact BU (es (t:=57) dD) rfl))
         (Ag (DP rfl rfl (fun a' w' ph K=>(KR (v:=sl a' 65) rfl).mono (fun u Bm ⟨hu,hw⟩=>by subst hu;subst hw;exact⟨K.AD 8 65 rfl rfl,Ext.refl _⟩)))
         (B7 _)))))))))))) ?_
     intro jZ;rintro _ rfl _ ⟨_,rfl,⟨bU,bV,rfl,cJ⟩⟩ _ rfl _ ⟨cH,cI,rfl,c4⟩ _ rfl _ ⟨_,rfl,⟨bW,bX,bY,bZ,rfl,cK,cL⟩⟩ _ _ _ _ _ _ _ rfl _ ⟨y,aA,rfl,a8⟩ b1;have gW:=cG.ext b1;refine wa rfl (v:=I aB.2) rfl<|Ae<|Aa<|Ad<|Ad<|Ab<|wm rfl (v:=I aB.2) rfl<|wd rfl (fun st=>FV (ee st rfl) (ee st rfl))<|wm rfl (v:=.bool (aB.2 !=0)) rfl ?_;rcases Ap (aB.2 !=0) with aT|aT
     ·replace d:=AG d aT;exact absurd (Option.some.inj d) (by decide)
     ·replace d:=AH d aT;refine Au rfl rfl (Af rfl aT) rfl (by decide) (fun st=>A5 (v:=.slice y aB.1.length aA) (ee st rfl))<|Au rfl rfl (Af rfl aT) rfl (by decide) (fun st=>BT Tryz.underlying70 (ee st rfl))<|Au rfl rfl (Af rfl aT) rfl (by decide) (fun st=>Am (ee st a7) (EG _ _)) ?_;have dS:=(dQ.ext b1);refine Au rfl rfl (Af rfl aT) rfl (by decide) (fun st=>As (v:=.slice aI ((EJ a.Ac (0:Int) (min a.Ah (a.Ac.length:Int))).length) aJ) FA (ee st rfl) dS rfl)<|Au rfl rfl (Af rfl aT) rfl (by decide) (fun st=>BT Tryz.underlying61 (ee st rfl))<|Au rfl rfl (Af rfl aT) rfl (by decide) (fun st=>FV (ee st rfl) (ee st rfl))<|wd rfl (fun st=>Bu (v:=.bool ((aB.1.length:Int) !=((EJ a.Ac (0:Int) (min a.Ah (a.Ac.length:Int))).length:Int))) (ee st rfl) aT (ee st rfl))<|Ae<|Aa ?_;rcases Ap ((aB.1.length:Int) !=((EJ a.Ac (0:Int) (min a.Ah (a.Ac.length:Int))).length:Int)) with dE|dE
      ·replace d:=AG d dE;exact absurd (Option.some.inj d) (by decide)
      ·replace d:=AH d dE;refine AL rfl dE<|AV<|Aa<|Ad<|Ad<|Ab<|wa rfl (v:=I 0) rfl<|Ae<|Aa<|Ba ?_;replace d:=bind_some d;obtain⟨fC,b2,d⟩:=d;refine Co (fun eE aD aU=>(eE=.ret∧∃b3,fC=.inl b3∧aD.tmps.size=120∧aD.defers=(X0).ds∧sl aD 4=.bool b3∧Hp FN [] w [some g,some j,some m] aU)∨(eE=.exit 2∧∃b3,fC=.inr b3∧aD.tmps.size=120∧aD.defers=(X0).ds∧Hp FN [] w [some g,some j,some m] aU)) ?gX ?gY
       case gX=>
        clear d;refine Cn (fun(dN:Nat) (aD:Act) (aU:World)=>∃q,Ch aZ a aE aB dN q=some fC∧aD.tmps.size=120∧aD.defers=(X0).ds∧sl aD 5=pt j 0∧sl aD 8=pt g 0∧sl aD 9=.slice y aB.1.length aA∧sl aD 11=I q∧Hp FN [] w [some g,some j,some m] aU∧Bk aU j 63 #[I a.Aj,I a.Ah,I 0,I a.Av,.slice aI ((EJ a.Ac (0:Int) (min a.Ah (a.Ac.length:Int))).length) aJ]∧Bk aU g 67 #[.slice r aE.Comes.length s,.slice aF aE.An.length aG]∧Sl AJ aU (ZZ FN [] Z w.heap.size [some g,some j,some m]) aI aJ (EJ a.Ac (0:Int) (min a.Ah (a.Ac.length:Int)))∧Sl (Ay .i64) aU (ZZ FN [] Z w.heap.size [some g,some j,some m]) r s aE.Comes∧Sl Bo aU (ZZ FN [] Z w.heap.size [some g,some j,some m]) aF aG aE.An∧Sl BY aU (ZZ FN [] Z w.heap.size [some g,some j,some m]) y aA aB.1) aZ ?gZ ?g0
        case gZ=>
         intro st;have eM:=(c3.ext b1);have eN:=(c2.mv (Ak b1));have cT:=(a9.mv (Ak b1));have cU:=(bA.mv (Ak b1));exact⟨(0:Int),b2,qz st,qd st,sp st 5 a7,sp st 8 rfl,sp st 9 rfl,sp st 11 rfl,gW,dS,eM,eN,cT,cU,a8⟩
        case g0=>
         rintro(_|dN) jK g1 ⟨q,b2,fR,fS,bP,a2,a3,aH,dF,c5,aW,bI,aN,a4,bB⟩
         ·exact absurd (show none=some _ from b2) (by simp)
         rw[Ch.eq_2] at b2;have d:=b2;clear b2;refine B5 (N:=120) fR fS<|Ad<|Ad<|Ab<|wm rfl (v:=I q) aH<|wm rfl (v:=.slice y aB.1.length aA) a3<|wd rfl (fun st=>BT Tryz.underlying70 (ee st rfl))<|wd rfl (fun st=>CB (ee st rfl) (ee st rfl))<|Ae<|Aa ?_;rcases Ap (decide (q<(aB.1.length:Int))) with cM|cM
         ·replace d:=AG d cM;refine Az rfl cM<|AV<|Aa<|Ad<|Ba<|Ad ?_;replace d:=Br d;obtain⟨i51,fY,g2,g3,g4,d⟩:=d;obtain⟨iT,iU,_,g5,rfl,g6⟩:=Sl.EK aN rfl g3;replace d:=Br d;obtain⟨i52,eA,g7,g8,g9,d⟩:=d;obtain⟨iV,iW,_,hA,rfl,hB⟩:=Sl.EK aN rfl g8;replace d:=Br d;obtain⟨i53,eB,hC,hD,hE,d⟩:=d;obtain⟨fZ,f0,_,hF,rfl,hG⟩:=Sl.elem bI (by decide) hD;replace d:=AU d;obtain⟨hH,d⟩:=d;replace d:=AU d;obtain⟨hI,d⟩:=d;replace d:=bind_some d;obtain⟨aC,hJ,d⟩:=d;refine CI 20 [Kc (pt g 0),Kc (.slice r aE.Comes.length s),Kc (I q),Kc (pt iT (iU+i51)),Kc (I fY),Kc (pt g 0),Kc (.slice r aE.Comes.length s),Kc (I q),Kc (pt iV (iW+i52)),Kc (I eA),Kc (pt j 4),Kc (.slice aI ((EJ a.Ac (0:Int) (min a.Ah (a.Ac.length:Int))).length) aJ),Kc (I q),Kc (pt fZ (f0+i53*5)),Kc (pt fZ (f0+i53*5+2)),Kc (I eB.AI),Kc (I (eA+eB.AI)),Kc (I ((eA+eB.AI)-1)),Kc (.agg #[I aC.On,I aC.Bc,.bool aC.AI]),Kn g1.heap.size (fun b=>.pointer (some ⟨b,0,none⟩)) 115 #[I 0,I 0,.bool false]] mixed rfl rfl
              (Ag (od rfl (fun _=>rfl) (fun K=>Am (es ((K.out 8 rfl).trans a2)) (H7 _ _)))
              (Ag (od rfl (fun _=>rfl) (fun K=>As Er (es (K.AD 0 83 rfl rfl)) (aW.ext K.Bj) rfl))
              (Ag (od rfl (fun _=>rfl) (fun K=>A5 (es ((K.out 11 rfl).trans aH))))
              (Ag (od rfl (fun _=>rfl) (fun K=>BI (k:=i51) Tryz.underlying23 Df (es (K.AD 1 84 rfl rfl)) g5 (es (K.AD 2 85 rfl rfl)) g2 g4))
              (Ag (od rfl (fun _=>rfl) (fun K=>Ct AW (es (K.AD 3 86 rfl rfl)) (g6.mv (Ak K.Bj)) rfl))
              (Ag (od rfl (fun _=>rfl) (fun K=>Am (es ((K.out 8 rfl).trans a2)) (H7 _ _)))
              (Ag (od rfl (fun _=>rfl) (fun K=>As Er (es (K.AD 5 88 rfl rfl)) (aW.ext K.Bj) rfl))
              (Ag (od rfl (fun _=>rfl) (fun K=>A5 (es ((K.out 11 rfl).trans aH))))
              (Ag (od rfl (fun _=>rfl) (fun K=>BI (k:=i52) Tryz.underlying23 Df (es (K.AD 6 89 rfl rfl)) hA (es (K.AD 7 90 rfl rfl)) g7 g9))
              (Ag (od rfl (fun _=>rfl) (fun K=>Ct AW (es (K.AD 8 91 rfl rfl)) (hB.mv (Ak K.Bj)) rfl))
              (Ag (od rfl (fun _=>rfl) (fun K=>Am (es ((K.out 5 rfl).trans bP)) (EG _ _)))
              (Ag (od rfl (fun _=>rfl) (fun K=>As FA (es (K.AD 10 93 rfl rfl)) (c5.ext K.Bj) rfl))
              (Ag (od rfl (fun _=>rfl) (fun K=>A5 (es ((K.out 11 rfl).trans aH))))
              (Ag (od rfl (fun _=>rfl) (fun K=>Ck (k:=i53) Tryz.underlying61 HM (es (K.AD 11 94 rfl rfl)) hF (es (K.AD 12 95 rfl rfl)) hC hE))
              (Ag (od rfl (fun _=>rfl) (fun K=>Am (es (K.AD 13 96 rfl rfl)) (Q6 _ _ _)))
              (Ag (od rfl (fun _=>rfl) (fun K=>G3 AW (es (K.AD 14 97 rfl rfl)) (hG.mv (Ak K.Bj)) rfl))
              (Ag (od rfl (fun _=>rfl) (fun K=>By (es (K.AD 9 92 rfl rfl)) (es (K.AD 15 98 rfl rfl)) hH))
              (Ag (od rfl (fun _=>rfl) (fun K=>Mt (es (K.AD 16 99 rfl rfl)) (ec (v:=I 1)) hI))
              (Ag (DP rfl rfl (fun a' w' ph K=>(AO LF rfl (Ff (es (K.AD 4 87 rfl rfl)) (es (K.AD 17 100 rfl rfl)) (ec (v:=.bool true))) (Ry aZ fY ((eA+eB.AI)-1) true ZA _ aC hJ)).mono (fun _ _ h=>⟨(by obtain⟨_,rfl,rfl⟩:=h.2;rfl),h.1⟩)))
              (Ag (DP rfl rfl (fun a' w' ph K=>(BF (cs:= #[I 0,I 0,.bool false]) GS rfl).mono (fun u Bm jL=>Rh (K.Bj).size jL)))
              (B7 _))))))))))))))))))))) ?_
          intro iX;rintro _ rfl _ rfl _ rfl _ rfl _ rfl _ rfl _ rfl _ rfl _ rfl _ rfl _ rfl _ rfl _ rfl _ rfl _ rfl _ rfl _ rfl _ rfl _ rfl _ ⟨aR,rfl,x,b6⟩ aP;have hL:=dF.ext aP;have aQ:Hp FN [] w [some aR,some g,some j,some m] iX:=dF.Kr hL x b6.lt;have fT:w.heap.size≤aR:=Nat.le_trans dF.sz x;refine Bg rfl rfl (fun st=>A8 (n:=3) (l:=[I aC.On,I aC.Bc,.bool aC.AI]) (B4:= #[I aC.On,I aC.Bc,.bool aC.AI]) (ee st rfl) (ee st rfl) DR b6 rfl rfl (show 0+3≤3 by decide) (AN rfl) rfl) ?_;rintro _ f1 aK;have fD:=aQ.gr aK.gr 0 rfl;refine Ae<|Aa<|Ad<|Ad<|Ab<|wd rfl (fun st=>Am (ee st rfl) (Jx _ _))<|wd rfl (fun st=>As (v:=I aC.Bc) AW (ee st rfl) aK.bk rfl)<|wd rfl (fun st=>Am (ee st bP) (FF _ _)) ?_;have cN:=((c5.ext aP).gr aK.gr (aQ.ne 2 0 rfl rfl rfl));refine wd rfl (fun st=>As (v:=I a.Aj) AW (ee st rfl) cN rfl)<|wd rfl (fun st=>FW (ee st rfl) (ee st rfl))<|Ae<|Aa ?_;rcases Ap (decide (a.Aj<aC.Bc)) with cO|cO
          ·replace d:=AG d cO;refine Az rfl cO<|Ab<|wd rfl (fun st=>Am (ee st a2) (H7 _ _)) ?_;have c6:=((aW.ext aP).gr aK.gr (aQ.ne 1 0 rfl rfl rfl));refine wd rfl (fun st=>As (v:=.slice r aE.Comes.length s) Er (ee st rfl) c6 rfl)<|wm rfl (v:=I q) aH ?_;replace d:=Br d;obtain⟨i59,f2,hM,hN,hO,d⟩:=d;have bC:Sl (Ay .i64) f1 (ZZ FN [] Z w.heap.size [some aR,some g,some j,some m]) r s aE.Comes:=((aN.mv (DT (Ak aP) x)).mv (aQ.AP aK.gr 0 rfl));obtain⟨j0,j1,_,hP,rfl,hQ⟩:=Sl.EK bC rfl hN;refine wd rfl (fun st=>BI (k:=i59) Tryz.underlying23 Df (ee st rfl) hP (ee st rfl) hM hO)<|wd rfl (fun st=>Ct (v:=I f2) AW (ee st rfl) hQ rfl) ?_;replace d:=bind_some d;obtain⟨aO,hR,d⟩:=d;refine we rfl (fun st=>AO LF (ee st rfl) (Ff (ee st rfl) (ee st rfl) (ee st rfl)) (Ry aZ f2 (-1) false ZA _ aO hR)) ?_;rintro _ iY ⟨a5,⟨_,rfl,rfl⟩⟩;have bJ:=fD.ext a5;have dG:Bk iY aR 115 #[I aC.On,I aC.Bc,.bool aC.AI]:=(aK.bk.ext a5);refine Bg rfl rfl (fun st=>A8 (n:=3) (l:=[I aO.On,I aO.Bc,.bool aO.AI]) (B4:= #[I aO.On,I aO.Bc,.bool aO.AI]) (ee st rfl) (ee st rfl) DR dG rfl rfl (show 0+3≤3 by decide) (AN rfl) rfl) ?_;rintro _ iZ a6;have hS:=bJ.gr a6.gr 0 rfl;refine Ae<|Aa<|Ad ?_;replace d:=Br d;obtain⟨i64,aX,hT,hU,hV,d⟩:=d;have bQ:Sl BY iZ (ZZ FN [] Z w.heap.size [some aR,some g,some j,some m]) y aA aB.1:=((((bB.mv (DT (Ak aP) x)).mv (aQ.AP aK.gr 0 rfl)).mv (Ak a5)).mv (bJ.AP a6.gr 0 rfl));obtain⟨i0,i1,_,hW,rfl,hX⟩:=Sl.elem bQ (by decide) hU;refine CI 5 [Kc (.slice y aB.1.length aA),Kc (I q),Kc (pt i0 (i1+i64*3)),Kc (.agg #[I aX.On,I aX.Bc,.bool aX.AI]),Kc (.agg #[I aO.On,I aO.Bc,.bool aO.AI])] mixed rfl rfl
               (Ag (od rfl (fun _=>rfl) (fun K=>A5 (es ((K.out 9 rfl).trans a3))))
               (Ag (od rfl (fun _=>rfl) (fun K=>A5 (es ((K.out 11 rfl).trans aH))))
               (Ag (od rfl (fun _=>rfl) (fun K=>Ck (k:=i64) Tryz.underlying70 DR (es (K.AD 0 113 rfl rfl)) hW (es (K.AD 1 114 rfl rfl)) hT hV))
               (Ag (od rfl (fun _=>rfl) (fun K=>C3 (l:=[I aX.On,I aX.Bc,.bool aX.AI]) Db (es (K.AD 2 115 rfl rfl)) (hX.mv (Ak K.Bj)) rfl rfl))
               (Ag (od rfl (fun _=>rfl) (fun K=>Bd (l:=[I aO.On,I aO.Bc,.bool aO.AI]) Db (es ((K.out 12 rfl).trans rfl)) (a6.bk.ext K.Bj) rfl rfl))
               (B7 _)))))) ?_
           intro c7;rintro _ rfl _ rfl _ rfl _ rfl _ rfl bK;have fE:=hS.ext bK;refine wd rfl (fun st=>Ro (x1:=[.inl aX.On,.inl aX.Bc,.inr aX.AI]) (x2:=[.inl aO.On,.inl aO.Bc,.inr aO.AI]) Is I2 (ee st rfl) (ee st rfl) rfl rfl rfl rfl)<|Ae<|Aa ?_;rcases Ap (!Ga [.inl aX.On,.inl aX.Bc,.inr aX.AI] [.inl aO.On,.inl aO.Bc,.inr aO.AI]) with cP|cP
           ·replace d:=AG d cP;refine Az rfl cP<|Ad<|Ab<|wa rfl (v:=.bool false) rfl<|Ae<|Aa<|AF<|AY<|Ax<|Ax ?_;have hY:Hp FN [] w [some g,some j,some m] c7:=fE.erase 0;obtain rfl:=Option.some.inj d;refine BZ (fun st=>?_);exact .inl ⟨rfl,false,rfl,qz st,qd st,sp st 4 rfl,hY⟩
           ·replace d:=AH d cP;refine AL rfl cP<|AV<|Bp<|Aa<|Ab<|wm rfl (v:=I q) aH ?_;replace d:=AU d;obtain⟨hZ,d⟩:=d;refine wd rfl (fun st=>By (ee st rfl) (ee st rfl) hZ)<|wa rfl (v:=I (q+1)) rfl<|Ae ?_;have h2:Hp FN [] w [some g,some j,some m] c7:=fE.erase 0;have fF:=(((cN.ext a5).gr a6.gr (bJ.ne 2 0 rfl rfl rfl)).ext bK);have eO:=(((c6.ext a5).gr a6.gr (bJ.ne 1 0 rfl rfl rfl)).ext bK);have eP:Sl AJ c7 (ZZ FN [] Z w.heap.size [some g,some j,some m]) aI aJ (EJ a.Ac (0:Int) (min a.Ah (a.Ac.length:Int))):=((((((bI.mv (DT (Ak aP) x)).mv (aQ.AP aK.gr 0 rfl)).mv (Ak a5)).mv (bJ.AP a6.gr 0 rfl)).mv (Ak bK)).mv (AK 0));have cV:Sl (Ay .i64) c7 (ZZ FN [] Z w.heap.size [some g,some j,some m]) r s aE.Comes:=((((bC.mv (Ak a5)).mv (bJ.AP a6.gr 0 rfl)).mv (Ak bK)).mv (AK 0));have cW:Sl Bo c7 (ZZ FN [] Z w.heap.size [some g,some j,some m]) aF aG aE.An:=((((((a4.mv (DT (Ak aP) x)).mv (aQ.AP aK.gr 0 rfl)).mv (Ak a5)).mv (bJ.AP a6.gr 0 rfl)).mv (Ak bK)).mv (AK 0));have dH:Sl BY c7 (ZZ FN [] Z w.heap.size [some g,some j,some m]) y aA aB.1:=((bQ.mv (Ak bK)).mv (AK 0));refine Bx dN (Nat.lt_succ_self _) (fun st=>?_);exact⟨(q+1),d,qz st,qd st,sp st 5 bP,sp st 8 a2,sp st 9 a3,sp st 11 rfl,h2,fF,eO,eP,cV,cW,dH⟩
          ·replace d:=AH d cO;refine AL rfl cO<|AV<|Aa<|Ad ?_;replace d:=Br d;obtain⟨i68,aY,h4,h5,h6,d⟩:=d;have bR:Sl BY f1 (ZZ FN [] Z w.heap.size [some aR,some g,some j,some m]) y aA aB.1:=((bB.mv (DT (Ak aP) x)).mv (aQ.AP aK.gr 0 rfl));obtain⟨i2,i3,_,h7,rfl,h8⟩:=Sl.elem bR (by decide) h5;refine CI 5 [Kc (.slice y aB.1.length aA),Kc (I q),Kc (pt i2 (i3+i68*3)),Kc (.agg #[I aY.On,I aY.Bc,.bool aY.AI]),Kc (.agg #[I aC.On,I aC.Bc,.bool aC.AI])] mixed rfl rfl
               (Ag (od rfl (fun _=>rfl) (fun K=>A5 (es ((K.out 9 rfl).trans a3))))
               (Ag (od rfl (fun _=>rfl) (fun K=>A5 (es ((K.out 11 rfl).trans aH))))
               (Ag (od rfl (fun _=>rfl) (fun K=>Ck (k:=i68) Tryz.underlying70 DR (es (K.AD 0 113 rfl rfl)) h7 (es (K.AD 1 114 rfl rfl)) h4 h6))
               (Ag (od rfl (fun _=>rfl) (fun K=>C3 (l:=[I aY.On,I aY.Bc,.bool aY.AI]) Db (es (K.AD 2 115 rfl rfl)) (h8.mv (Ak K.Bj)) rfl rfl))
               (Ag (od rfl (fun _=>rfl) (fun K=>Bd (l:=[I aC.On,I aC.Bc,.bool aC.AI]) Db (es ((K.out 12 rfl).trans rfl)) (aK.bk.ext K.Bj) rfl rfl))
               (B7 _)))))) ?_
           intro c8;rintro _ rfl _ rfl _ rfl _ rfl _ rfl bL;have fG:=fD.ext bL;refine wd rfl (fun st=>Ro (x1:=[.inl aY.On,.inl aY.Bc,.inr aY.AI]) (x2:=[.inl aC.On,.inl aC.Bc,.inr aC.AI]) Is I2 (ee st rfl) (ee st rfl) rfl rfl rfl rfl)<|Ae<|Aa ?_;rcases Ap (!Ga [.inl aY.On,.inl aY.Bc,.inr aY.AI] [.inl aC.On,.inl aC.Bc,.inr aC.AI]) with cQ|cQ
           ·replace d:=AG d cQ;refine Az rfl cQ<|Ad<|Ab<|wa rfl (v:=.bool false) rfl<|Ae<|Aa<|AF<|AY<|Ax<|Ax ?_;have iA:Hp FN [] w [some g,some j,some m] c8:=fG.erase 0;obtain rfl:=Option.some.inj d;refine BZ (fun st=>?_);exact .inl ⟨rfl,false,rfl,qz st,qd st,sp st 4 rfl,iA⟩
           ·replace d:=AH d cQ;refine AL rfl cQ<|AV<|Bp<|Aa<|Ab<|wm rfl (v:=I q) aH ?_;replace d:=AU d;obtain⟨iB,d⟩:=d;refine wd rfl (fun st=>By (ee st rfl) (ee st rfl) iB)<|wa rfl (v:=I (q+1)) rfl<|Ae ?_;have iC:Hp FN [] w [some g,some j,some m] c8:=fG.erase 0;have fH:=(cN.ext bL);have eQ:=(((aW.ext aP).gr aK.gr (aQ.ne 1 0 rfl rfl rfl)).ext bL);have eR:Sl AJ c8 (ZZ FN [] Z w.heap.size [some g,some j,some m]) aI aJ (EJ a.Ac (0:Int) (min a.Ah (a.Ac.length:Int))):=((((bI.mv (DT (Ak aP) x)).mv (aQ.AP aK.gr 0 rfl)).mv (Ak bL)).mv (AK 0));have cX:Sl (Ay .i64) c8 (ZZ FN [] Z w.heap.size [some g,some j,some m]) r s aE.Comes:=((((aN.mv (DT (Ak aP) x)).mv (aQ.AP aK.gr 0 rfl)).mv (Ak bL)).mv (AK 0));have cY:Sl Bo c8 (ZZ FN [] Z w.heap.size [some g,some j,some m]) aF aG aE.An:=((((a4.mv (DT (Ak aP) x)).mv (aQ.AP aK.gr 0 rfl)).mv (Ak bL)).mv (AK 0));have dI:Sl BY c8 (ZZ FN [] Z w.heap.size [some g,some j,some m]) y aA aB.1:=((bR.mv (Ak bL)).mv (AK 0));refine Bx dN (Nat.lt_succ_self _) (fun st=>?_);exact⟨(q+1),d,qz st,qd st,sp st 5 bP,sp st 8 a2,sp st 9 a3,sp st 11 rfl,iC,fH,eQ,eR,cX,cY,dI⟩
         ·replace d:=AH d cM;refine AL rfl cM<|Cj<|AQ<|AQ ?_;obtain rfl:=Option.some.inj d;refine BZ (fun st=>?_);exact .inr ⟨rfl,(),rfl,qz st,qd st,dF⟩
       case gY=>
        rintro eE jA jM (⟨rfl,b3,rfl,cR,cS,eS,dJ⟩|⟨rfl,b3,rfl,cR,cS,dJ⟩)
        ·skip
         replace d:=EL d;refine Cq (X:=X0) (N:=120) cR cS<|AY<|Ax ?_;have bM:=Option.some.inj d;refine AR rfl eS ?_;exact⟨dJ.Bq,congrArg Value.bool bM⟩
        ·skip
         replace d:=EM d;refine Cq (X:=X0) (N:=120) cR cS<|Bt<|Aa<|Ad<|Ab ?_;replace d:=CU d;obtain⟨iD,d⟩:=d;refine we rfl (fun st=>AO LG (ee st rfl) HP (RA aZ ZA _ iD)) ?_;rintro _ j2 ⟨iE,rfl⟩;have iF:=dJ.ext iE;refine wa rfl (v:=.bool true) rfl<|Ae<|Aa<|AF ?_;have bM:=Option.some.inj d;refine AR rfl rfl ?_;exact⟨iF.Bq,congrArg Value.bool bM⟩
end Go.Proofs.YtkljfdkmjdjpfaaGreat
end
section
namespace Go.Proofs.YtkljfdkmjdjpfaaGreat
open Go.RowKit Go.ChangeShapes Go.WideShapes
theorem NO{α β:Type}{g:α→Option β}:∀{l:List α} {r:List β},l.mapM g=some r→∀(i:Nat) (x:α),l[i]?=some x→∃y,r[i]?=some y∧g x=some y
 |[],_,_,i,x,b=>by simp at b
 |a::l,r,h,i,x,b=>by
  rw[List.mapM_cons] at h;obtain⟨y,hy,d⟩:=Option.bind_eq_some_iff.1 h;obtain⟨ys,c,h3⟩:=Option.bind_eq_some_iff.1 d;obtain rfl:y::ys=r:=by simpa using h3
  cases i with
  |zero=>
   obtain rfl:a=x:=by simpa using b
   exact⟨y,rfl,hy⟩
  |succ i=>exact NO c i x (by simpa using b)
theorem I7{H:Type}{P:Program}{e:TypeId}{d:DataW H}{n:Nat}(b:n∈d.weights P e):∀{l:List (DataW H)},d∈l→n∈DataW.weightsAll P e l
 |[],h=>by cases h
 |a::l,h=>by
  rw[DataW.weightsAll,List.mem_append];rcases List.mem_cons.1 h with rfl|h
  ·exact .inl b
  ·exact .inr (I7 b h)
def L6 {H:Type} (P:Program) (t:TypeId) (d:DataW H):Prop:=∀n∈d.weights P t,n≤reachBytes
theorem SQ{H:Type}{P:Program}{a:List TypeId}{ds:List (DataW H)}(h:(DataW.weightsEach P a ds).all (· ≤reachBytes)=true){j:Nat}{t:TypeId}{d:DataW H}(ht:a[j]?=some t)(b:ds[j]?=some d):L6 P t d:=fun n c=>by
 have:=List.all_eq_true.1 h _ (DataW.weights_mem_each ht b n c);simpa using this
def NP {α:Type} (P:Program) (t:TypeId) (e:DV α) (wf:α→Prop):Prop:=
 ∀(H:Type) (enc:TypeId×Value→H) (w:World) (sp:Nat→Bool) (fuel:Nat) (cs:List Value) (x:DataW H×List MemPlace),DataW.trod enc P w 0 sp true fuel t cs=some x→L6 P t x.1→∃a,e.R w ZA cs a∧wf a
def Hg(k:IntKind)(n:Int):Prop:=(Lit.int k n).wf=true
section
variable{P:Program}{t:TypeId}
theorem GX{k:IntKind}(ht:P.underlying t=some (.int k)):NP P t (Ay k) (Hg k):=by
 intro H enc w sp fuel cs x h _;obtain⟨n,h1,_,h3⟩:=DataW.trod_int ht h;exact⟨n,h1,h3⟩
theorem IN {e:Array Field} (ht:P.underlying t=some (.struct e)) {H:Type} {enc:TypeId×Value→H} {w:World} {sp:Nat→Bool} {fuel:Nat} {cs:List Value} {x:DataW H×List MemPlace} (h:DataW.trod enc P w 0 sp true fuel t cs=some x):
  cs.length=P.cellsOf t∧∃c,∀(i a off:Nat),(e[i]?).map (fun f=>(f.type,f.offset))=some (a,off)→∃y,DataW.trod enc P w 0 sp true c a ((cs.drop off).take (P.cellsOf a))=some y∧(L6 P t x.1→L6 P a y.1):=by
 cases fuel with
 |zero=>simp[DataW.trod] at h
 |succ fuel=>
  unfold DataW.trod at h;simp only[ht] at h;split at h
  ·rename_i l
   obtain⟨xs,m,rfl⟩:=Option.map_eq_some_iff.1 h;refine⟨l,fuel,fun i a off o=>?_⟩;obtain⟨f,b,he⟩:=Option.map_eq_some_iff.1 o;obtain⟨g,p⟩:f.type=a∧f.offset=off:=by simpa using he
   rw[←Array.getElem?_toList] at b;obtain⟨y,hy,k⟩:=NO m i f b;rw[g,p] at k;refine⟨y,k,fun q n r=>q n ?_⟩;simp only[DataW.weights,ht];exact DataW.weights_mem_each (j:=i) (t:=a) (d:=y.1) (by rw[List.getElem?_map,b];simp[g]) (by rw[List.getElem?_map,hy];rfl) n r
  ·cases h
theorem Pp{w:World}{a:Addr}{n:Nat}{cs:List Value}(h:w.cells? 0 a n=some cs):cs.length=n∧∀j u,cs[j]?=some u→w.cell? (a.add j)=some u:=by
 unfold World.cells? at h;rw[if_pos (Nat.zero_le _)] at h;have d:=mapM_some_length h;refine⟨by simpa using d,?_⟩;have key:∀(l:List Nat) (r:List Value),l.mapM (fun i=>w.cell? (a.add i))=some r→∀(j i:Nat) (u:Value),l[j]?=some i→r[j]?=some u→w.cell? (a.add i)=some u:=by
  intro l
  induction l with
  |nil=>intro r _ j i u c;simp at c
  |cons b l ih=>
   intro r h j i u c e;rw[List.mapM_cons] at h;obtain⟨y,hy,f⟩:=Option.bind_eq_some_iff.1 h;obtain⟨ys,g,h3⟩:=Option.bind_eq_some_iff.1 f;obtain rfl:y::ys=r:=by simpa using h3
   cases j with
   |zero=>
    obtain rfl:b=i:=by simpa using c
    obtain rfl:y=u:=by simpa using e
    exact hy
   |succ j=>exact ih ys g j i u (by simpa using c) (by simpa using e)
 intro j u c;have k:j<n:=by
  have:=(List.getElem?_eq_some_iff.1 c).1;have f:cs.length=n:=by simpa using d
  omega
 exact key _ _ h j j u (by simp[k]) c
theorem Qo{w:World}{a:Addr}{u:Value}(h:w.cell? a=some u):∃b o,a=⟨b,o,none⟩∧b<w.heap.size:=by
 obtain⟨b,o,pt⟩:=a;cases pt with
 |none=>
  refine⟨b,o,rfl,?_⟩;unfold World.cell? at h;cases c:w.heap[b]? with
  |none=>simp[c] at h
  |some o=>exact(Array.getElem?_eq_some_iff.1 c).1
 |some q=>
  unfold World.cell? at h;cases c:w.heap[b]? with
  |none=>simp[c] at h
  |some ob=>cases ob<;>simp[c] at h
theorem add_add{a:Addr}{k j:Nat}(h:k≤j):(a.add k).add (j-k)=a.add j:=by
 obtain⟨b,o,pt⟩:=a;cases pt with
 |none=>rw[E7,E7,E7];congr 1;omega
 |some q=>
  unfold Addr.add
  by_cases c:j=0
  ·have:k=0:=by omega
   subst this;subst c;simp
  ·by_cases d:k=0
   ·subst d;simp[c]
   ·by_cases e:j-k=0
    ·have:j=k:=by omega
     subst this;simp[d]
    ·simp[c,d,e];omega
theorem Qp {α:Type} {e:TypeId} {ee:DV α} {wf:α→Prop} (ht:P.underlying t=some (.slice e)) (aJ:P.cellsOf e=ee.sz) (h0:0<ee.sz) (aK:NP P e ee wf) {b:Nat} (aB:P.bytesOf e=b):NP P t (BC ee) (fun xs=>xs.length*b≤140737488351232∧∀x∈xs,wf x):=by
 intro H enc w sp fuel cs x h v;rcases Go.Deep.open_slice ht h with⟨rfl,_⟩|⟨a,len,cap,m,n0,D,aQ,rfl,_,aC,aO,hm,aD,aA⟩
 ·exact⟨[],⟨none,0,rfl,Sl.nil _ _ _⟩,by simp,by simp⟩
 ·have aP:len≤m:=by rw[hm];split<;>omega
  subst aD;have l:len*b≤140737488351232:=by
   have:=v ((((List.range len).map D).length+((List.range (m-len)).map fun j=>D (len+j)).length)*P.bytesOf e) (by simp[DataW.weights,ht]);rw[aB] at this;have c:len*b≤(((List.range len).map D).length+((List.range (m-len)).map fun j=>D (len+j)).length)*b:=Nat.mul_le_mul_right _ (by simp);exact Nat.le_trans c this
  have p:∀i,i<len→L6 P e (D i):=fun i hi n aE=>v n (by
   simp only[DataW.weights,ht];rw[List.mem_cons,List.mem_append];exact .inr (.inl (I7 aE (List.mem_map.2 ⟨i,by simpa using hi,rfl⟩))))
  have key:∀n,n≤len→∃Be xs,R2 ee w ZA Be xs∧xs.length=n∧(∀x∈xs,wf x)∧∀j u,Be.flatten[j]?=some u→w.cell? (a.add j)=some u:=by
   intro n
   induction n with
   |zero=>exact fun _=>⟨[],[],trivial,rfl,by simp,by simp⟩
   |succ n ih=>
    intro aE;obtain⟨Be,xs,h1,c,h3,q⟩:=ih (by omega);obtain⟨ds,aL,aF⟩:=aA n (by omega);obtain⟨z,aM,aG⟩:=aK _ _ _ _ _ _ _ aF (p n (by omega));obtain⟨aR,r⟩:=Pp aL;refine⟨Be++[ds],xs++[z],h1.append ⟨aM,trivial⟩,by simp[c],?_,?_⟩
    ·intro x f;rcases List.mem_append.1 f with f|f
     ·exact h3 x f
     ·rw[List.mem_singleton.1 f];exact aG
    ·intro j u d;rw[List.flatten_append] at d;rcases Nat.lt_or_ge j Be.flatten.length with g|k
     ·rw[List.getElem?_append_left g] at d;exact q j u d
     ·rw[List.getElem?_append_right k] at d;have s:=r (j-Be.flatten.length) u (by simpa using d);have aH:Be.flatten.length=n*ee.sz:=by rw[h1.Ig,c]
      rw[aH] at s k;rw[aJ] at s;rw[add_add k] at s;exact s
  obtain⟨Be,xs,h1,c,h3,q⟩:=key len (Nat.le_refl _);refine⟨xs,⟨some a,cap,by rw[c],by rw[c];exact aC,(fun e=>by cases e),Be,h1,?_⟩,by rw[c];exact l,h3⟩;cases aI:Be.flatten with
  |nil=>exact .inl rfl
  |cons u us=>
   have hu:=q 0 u (by rw[aI];rfl);obtain⟨b,o,y,g⟩:=Qo hu;have aN:a=⟨b,o,none⟩:=by
    obtain⟨b',o',pt⟩:=a;cases pt<;>simp[Addr.add] at y⊢;exact y
   subst aN;refine .inr ⟨b,o,rfl,trivial,g,fun j u d=>?_⟩;have:=q j u (by rw[aI];exact d);rw[E7] at this;exact this
end
section
variable{H:Type}{enc:TypeId×Value→H}{P:Program}{W W':World}
theorem JC{sp:Nat→Bool}:∀{e:List TypeId} {vs:List Value} {ds:List (DataW H)} {ps:List MemPlace},DataW.TrodAll enc P W 0 sp true e vs ds ps→(∀p∈ps,W.sameAt W' p)→DataW.TrodAll enc P W' 0 sp true e vs ds ps
 |[],_,_,_,h,_=>by
  obtain⟨rfl,rfl,rfl⟩:=trodAll_nil h;exact rfl
 |_::_,_,_,_,h,f=>by
  obtain⟨v,j,d,k,a,b,rfl,rfl,rfl,⟨n,g⟩,i⟩:=trodAll_cons h;exact⟨a,b,⟨n,DataW.trod_carry n _ _ _ g fun p c=>f p (List.mem_append_left _ c)⟩,JC i fun p c=>f p (List.mem_append_right _ c),rfl⟩
theorem Qq(K:Kids P (· <P.types.size))(c:∀t e,t<P.types.size→P.underlying t=some (.slice e)→0<P.cellsOf e){a:List TypeId}{vs:List Value}{ds:List (DataW H)}{ps:List MemPlace}(d:∀t∈a,t<P.types.size)
  (f:DataW.TrodAll enc P W 0 (fun _=>true) true a vs ds ps)(g:Ext W W')(b:∀p∈ps,p.block<W.heap.size)(sp:Nat→Bool)(h:∀p∈ps,sp p.block=true):DataW.TrodAll enc P W' 0 sp true a vs ds ps:=
 JC (DataW.TrodAll.respare K c d f h) fun p i=>(JE g).same (b p i)
variable{α:Type}{e:DV α}{wf:α→Prop}{t:TypeId}{b0:Nat}{v:Value}{d:DataW H}{p:List MemPlace}{sp:Nat→Bool}
theorem SR{c:Array Field}(ht:P.underlying t=some (.struct c))(f:NP P t e wf)(b:Value.okWide P W .any b0 t v)(h:DataW.Trod enc P W 0 sp true t v d p)(g:L6 P t d):∃a cs,v=.agg cs.toArray∧e.R W ZA cs a∧wf a:=by
 unfold Value.okWide at b;rw[ht] at b;obtain⟨cs,rfl,_⟩:=b;obtain⟨n,i⟩:=h;obtain⟨a,h1,j⟩:=f _ _ _ _ _ _ _ i g;exact⟨a,cs.toList,by simp,h1,j⟩
theorem SS{k:IntKind}(ht:P.underlying t=some (.int k))(a:Value.okWide P W .any b0 t v)(h:DataW.Trod enc P W 0 sp true t v d p):∃n,v=.int k n∧Hg k n:=by
 obtain⟨n,h1,_,_,b⟩:=open_int ht a h;exact⟨n,h1,b⟩
theorem N4 {f:Func} {s:ChangeSpec} {apart fresh handsOn again:Bool} {args:Array Value} {v:Value} {ds gs:List (DataW H)} {before pa pv:List MemPlace}
  (k:DataW.Whole enc P f.params.toList s.vars apart W args.toList ds gs before)
  (g:∀(b:Nat) (sp:Nat→Bool) (n:Bool),DataW.TrodAll enc P W' b sp n f.resultTypes.toList (v.resultList f.resultTypes.size) (s.fn H (ds++gs)).results [])
  (c:∀sp:Nat→Bool,(∀p∈before,sp p.block=true)→DataW.TrodAll enc P W' 0 sp true f.params.toList args.toList (s.fn H (ds++gs)).args pa)
  (d:∀sp:Nat→Bool,(∀p∈before,sp p.block=true)→DataW.TrodVars enc P W' sp s.vars (s.fn H (ds++gs)).vars pv)
  (e:before=pa++pv) (o:Ext W W')
  (l:∀(j:Nat) (t:TypeId) (r:Value),f.resultTypes[j]?=some t→(v.resultList f.resultTypes.size)[j]?=some r→Value.okWide P W' .any 0 t r):
  s.post enc P f apart fresh handsOn again W args v W':=by
 have m:=JE o;have h:∀p∈before,p.block<W.heap.size:=fun p a=>k.lt p a;have hold:∀p∈before,(fun b=>decide (b<W.heap.size)) p.block=true:=fun p a=>by simpa using h p a
 refine⟨ds,gs,before,[],pa,pv,k,g _ _ _,c _ hold,d _ hold,World.keptBut_mono (fun p a=>⟨a,?_⟩) (m.frame (· ∈before)),fun _=>?_⟩
 ·rw[e,List.mem_append] at a;exact Or.inr a
 ·obtain⟨_,_,_,_,_,q,u⟩:=k;refine⟨l,_,_,([]++pa)++pv,⟨[]++pa,pv,trodAll_append (c _ (fun _ _=>rfl)) (g _ _ _),d _ (fun _ _=>rfl),rfl,?_,?_⟩,?_⟩
  ·intro b off a;have i:MemPlace.cell b off∈before:=by rw[e];simpa using a
   rw[m.frozen (h _ i)];exact q b off i
  ·intro w;have:=u w;rw[e] at this;simpa using this
  ·intro p a _;rw[e];simpa using a
theorem Qr{f:FuncId}{args:Array Value}{w:World}{R:Value→World→Prop}(h:BJ P f args w R):Calls P f args w (fun e w'=>∃v,e=.returned v∧R v w'):=h
end
end Go.Proofs.YtkljfdkmjdjpfaaGreat
end
section
set_option linter.unusedVariables false
set_option linter.unusedSimpArgs false
namespace Go.Proofs.YtkljfdkmjdjpfaaGreat
open Go.RowKit Go.ChangeShapes Go.WideShapes
theorem UL:∀{cs:List Value},cs.length=2→∃a0 a1,cs=[a0,a1]
 |[a0,a1],_=>⟨a0,a1,rfl⟩
theorem RB:∀{cs:List Value},cs.length=5→∃a0 a1 a2 a3 a4,cs=[a0,a1,a2,a3,a4]
 |[a0,a1,a2,a3,a4],_=>⟨a0,a1,a2,a3,a4,rfl⟩
theorem SU:NP Tryz.prog 116 Ob (fun x=>(Hg .i64 x.Lo∧Hg .i64 x.Hi)):=by
 intro H enc w sp fuel cs x h c;obtain⟨d,j,e⟩:=IN Tryz.underlying116 h;have k:Tryz.prog.cellsOf 116=2:=by kernel_rfl
 rw[k] at d;have f:Tryz.prog.cellsOf 3=1:=by kernel_rfl
 obtain⟨a0,a1,rfl⟩:=UL d;obtain⟨l,a,g⟩:=e 0 3 0 rfl;simp only[f,List.drop_zero,List.drop_succ_cons,List.take_succ_cons,List.take_zero] at a;obtain⟨n0,h0,w0⟩:=(GX Tryz.underlying3) _ _ _ _ _ _ _ a (g c);cases h0;obtain⟨y1,b,i⟩:=e 1 3 1 rfl;simp only[f,List.drop_zero,List.drop_succ_cons,List.take_succ_cons,List.take_zero] at b;obtain⟨n1,h1,w1⟩:=(GX Tryz.underlying3) _ _ _ _ _ _ _ b (i c);cases h1;exact⟨⟨n0,n1⟩,rfl,w0,w1⟩
theorem SV:NP Tryz.prog 118 AJ (fun x=>((Hg .i64 ((⟨x.Aq,x.AA⟩:Cv).Lo)∧Hg .i64 ((⟨x.Aq,x.AA⟩:Cv).Hi))∧Hg .i64 x.AI∧Hg .i64 x.B3∧Hg .i64 x.Ci)):=by
 intro H enc w sp fuel cs x h a;obtain⟨j,o,b⟩:=IN Tryz.underlying118 h;have p:Tryz.prog.cellsOf 118=5:=by kernel_rfl
 rw[p] at j;have g:Tryz.prog.cellsOf 3=1:=by kernel_rfl
 have i:Tryz.prog.cellsOf 116=2:=by kernel_rfl
 obtain⟨a0,a1,a2,a3,a4,rfl⟩:=RB j;obtain⟨u,c,k⟩:=b 0 116 0 rfl;simp only[i,List.drop_zero,List.drop_succ_cons,List.take_succ_cons,List.take_zero] at c;obtain⟨n0,h0,w0⟩:=SU _ _ _ _ _ _ _ c (k a);cases h0;obtain⟨y1,d,l⟩:=b 1 3 2 rfl;simp only[g,List.drop_zero,List.drop_succ_cons,List.take_succ_cons,List.take_zero] at d;obtain⟨n1,h1,w1⟩:=(GX Tryz.underlying3) _ _ _ _ _ _ _ d (l a);cases h1;obtain⟨v,e,m⟩:=b 2 3 3 rfl;simp only[g,List.drop_zero,List.drop_succ_cons,List.take_succ_cons,List.take_zero] at e;obtain⟨q,r,w2⟩:=(GX Tryz.underlying3) _ _ _ _ _ _ _ e (m a);cases r;obtain⟨y,f,n⟩:=b 3 3 4 rfl;simp only[g,List.drop_zero,List.drop_succ_cons,List.take_succ_cons,List.take_zero] at f;obtain⟨s,h3,t⟩:=(GX Tryz.underlying3) _ _ _ _ _ _ _ f (n a);cases h3;exact⟨⟨n0.Lo,n0.Hi,n1,q,s⟩,rfl,w0,w1,w2,t⟩
theorem Ud:NP Tryz.prog 63 Hn (fun x=>(Hg .i64 x.Aj∧Hg .i64 x.Ah∧Hg .i64 x.An∧Hg .i64 x.Av∧(x.Ac.length*40≤140737488351232∧∀y∈x.Ac,((Hg .i64 ((⟨y.Aq,y.AA⟩:Cv).Lo)∧Hg .i64 ((⟨y.Aq,y.AA⟩:Cv).Hi))∧Hg .i64 y.AI∧Hg .i64 y.B3∧Hg .i64 y.Ci)))):=by
 intro H enc w sp fuel cs x h a;obtain⟨k,r,c⟩:=IN Tryz.underlying63 h;have s:Tryz.prog.cellsOf 63=5:=by kernel_rfl
 rw[s] at k;have d:Tryz.prog.cellsOf 3=1:=by kernel_rfl
 have l:Tryz.prog.cellsOf 61=1:=by kernel_rfl
 obtain⟨a0,a1,a2,a3,a4,rfl⟩:=RB k;obtain⟨aF,e,m⟩:=c 0 3 0 rfl;simp only[d,List.drop_zero,List.drop_succ_cons,List.take_succ_cons,List.take_zero] at e;obtain⟨n0,h0,w0⟩:=(GX Tryz.underlying3) _ _ _ _ _ _ _ e (m a);cases h0;obtain⟨y1,f,n⟩:=c 1 3 1 rfl;simp only[d,List.drop_zero,List.drop_succ_cons,List.take_succ_cons,List.take_zero] at f;obtain⟨n1,h1,w1⟩:=(GX Tryz.underlying3) _ _ _ _ _ _ _ f (n a);cases h1;obtain⟨aG,g,o⟩:=c 2 3 2 rfl;simp only[d,List.drop_zero,List.drop_succ_cons,List.take_succ_cons,List.take_zero] at g;obtain⟨t,u,w2⟩:=(GX Tryz.underlying3) _ _ _ _ _ _ _ g (o a);cases u;obtain⟨aH,i,p⟩:=c 3 3 3 rfl;simp only[d,List.drop_zero,List.drop_succ_cons,List.take_succ_cons,List.take_zero] at i;obtain⟨v,h3,z⟩:=(GX Tryz.underlying3) _ _ _ _ _ _ _ i (p a);cases h3;obtain⟨aI,j,q⟩:=c 4 61 4 rfl;simp only[l,List.drop_zero,List.drop_succ_cons,List.take_succ_cons,List.take_zero] at j;obtain⟨n4,⟨aA,aB,aC,aD⟩,aE⟩:=(Qp (b:=40) Tryz.underlying61 (by kernel_rfl) (by decide) SV (by kernel_rfl)) _ _ _ _ _ _ _ j (q a);cases aC;exact⟨⟨n0,n1,t,v,n4⟩,⟨aA,aB,rfl,aD⟩,w0,w1,w2,z,aE⟩
theorem Vj:ownKnob Tryz.prog.godebug=none:=by kernel_rfl
theorem UM:Kids Tryz.prog (· <Tryz.prog.types.size):=kids_rows (by kernel_rfl) (by kernel_rfl)
theorem UN:∀t e,t<Tryz.prog.types.size→Tryz.prog.underlying t=some (.slice e)→0<Tryz.prog.cellsOf e:=slices_full_of Tryz.prog (by kernel_rfl)
theorem Ue{x:Int}(h:Hg .u16 x):0≤x∧x<65536:=by
 have a:(decide (IntKind.u16.min≤x)&&decide (x≤IntKind.u16.max))=true:=h;rw[Bool.and_eq_true,decide_eq_true_eq,decide_eq_true_eq] at a;have b:IntKind.u16.min=0:=by decide
 have c:IntKind.u16.max=65535:=by decide
 omega
end Go.Proofs.YtkljfdkmjdjpfaaGreat
end
section
set_option linter.unusedVariables false
set_option linter.unusedSimpArgs false
namespace Go.Proofs.YtkljfdkmjdjpfaaGreat
open Go.RowKit Go.ChangeShapes Go.WideShapes Go.ChangeAt
theorem Ms(y:Ao)(n:Int)(h1:Hg .u16 n):∃K,Ef K y n=some true:=L5 y n (by have:=Ue h1;omega) (by have:=Ue h1;omega)
set_option maxRecDepth 100000 in
theorem K3(os:Os)(started:os.Started)(H:Type)(enc:TypeId×Value→H):
  ReturnsInHanded {} Tryz.checked os 13 .any (Rows.rackSunnySpec.pre6 enc Tryz.prog Tryz.f13 Rows.rackSunnyRow.domain false) (Rows.rackSunnySpec.post enc Tryz.prog Tryz.f13 false true false false):=by
 refine returnsInHanded_of_change_sized (C:=Tryz.checked) Vj started (by kernel_rfl) Tryz.func13
  (ChangeSpec.witness6 (enc:=enc) (C:=Tryz.checked) false ⟨#[], #[.agg #[.int .i64 0,.int .i64 0,.int .i64 0,.int .i64 0,.slice none 0 0],.int .u16 0],[]⟩ 8 (by kernel_rfl) (by kernel_rfl) (by kernel_rfl) (by kernel_rfl)) ?_
 intro W base args ds gs before d l z m _;have a:∀(j:Nat) t v,Tryz.f13.params[j]?=some t→args[j]?=some v→Value.okWide Tryz.prog W .any base t v:=d;have b:=l;obtain⟨p,q,n,aA,rfl,aG,aH⟩:=l;have g:DataW.TrodAll enc Tryz.prog W 0 (fun _=>true) true Tryz.f13.params.toList args.toList ds p:=n;obtain⟨rfl,rfl⟩:=trodVars_none aA;simp only[List.append_nil] at b;have o:∀x∈p,x.block<W.heap.size:=fun x f=>by simpa using b.lt x f
 have r:=g;have c:(DataW.weightsEach Tryz.prog (Tryz.f13.params.toList++[]) (ds++[])).all (· ≤reachBytes)=true:=m;rw[Tryz.params13] at g a c;obtain⟨v0,v1,d0,d1,aB,aC,rfl,rfl,rfl,h0,h1⟩:=trodAll_two g;obtain⟨s,aI,u,⟨h,i,rfl,k⟩,w0⟩:=SR Tryz.underlying63 Ud (a 0 63 v0 rfl rfl) h0 (SQ (j:=0) c rfl rfl);obtain⟨x1,w,w1⟩:=SS Tryz.underlying27 (a 1 27 v1 rfl rfl) h1;subst u;subst w;obtain⟨K,aD⟩:=Ms s x1 w1;refine(Qr (VF K s x1 h i ZA W k aD)).mono fun e W' ⟨v,he,f,aE⟩=>?_;subst he;subst aE;exact⟨_,rfl,N4 (pa:=(aB++aC)) (pv:=[]) b (fun _ _ _=>trodAll_mk1 (shut_bool Tryz.underlying4 _)) (fun sp aF=>Qq UM UN (by rw[Tryz.params13];decide) r f o sp (fun x y=>aF x (by simpa using y))) (fun _ _=>rfl) (by simp) f (ok_one (by kernel_rfl) rfl (okWide_bool_mk Tryz.underlying4 _))⟩
theorem rackSunny_holds:Rows.RackSunnySaid:=
 OpenClaim.holds_of_wide 13 Tryz.f13 rfl rfl rfl rfl rfl rfl rfl ⟨rfl,rfl,rfl,rfl,rfl⟩ rfl rfl rfl rfl rfl (by kernel_rfl) Tryz.func13 (by kernel_rfl)
  (of_decide_eq_true (by kernel_rfl)) (by unfold Func.isWrapper;first|(rw[if_pos (by decide+kernel)];kernel_rfl)|(rw[if_neg (by decide+kernel)];exact⟨rfl,rfl⟩))
  (fun os started H enc _=>K3 os started H enc)
end Go.Proofs.YtkljfdkmjdjpfaaGreat
end
