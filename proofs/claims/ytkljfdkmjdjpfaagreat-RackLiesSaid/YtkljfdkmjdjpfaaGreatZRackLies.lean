import Derived.Test.YtkljfdkmjdjpfaaGreatBB7
import Derived.ProofKit
import Derived.ChangeSame
import Derived.SizedLaws
import Derived.Deep.Slices
import Derived.Test.YtkljfdkmjdjpfaaGreatProg
import Derived.Test.YtkljfdkmjdjpfaaGreatRows
/-
  Proved: the law RackLies returns true for every argument that the row hands over, and leaves every argument as it was; no condition beside the row's own.
-/
set_option linter.all false
section
namespace Go.Proofs.YtkljfdkmjdjpfaaGreat
section
variable{K:Nat}(hK:2000≤K){y:Ar}(h:check y=0)
include hK h
theorem Ux:EU K y=some y:=Sn hK y (by have:=(FQ h).n4;omega)
theorem S9{o:List (List Int)}(a:Dz y o=true):EA K o=some o:=by
 obtain⟨h1,b,_⟩:=Hn h a;exact Rf hK o h1 b
omit hK in
theorem Ta {t:AZ} (ht:Et y t=true):EB K t=some t:=by
 have hy:=FQ h
 obtain⟨h1,_,h3⟩:=Hz.1 ht
 have:=GQ h3
 have:=hy.n4
 have:=hy.h9
 exact Rg K t (by omega) (by omega)
end
theorem N6(y:Ar)(o:List (List Int))(t:AZ):(B8 y o t).length=y.Ag.length:=G9 ..
end Go.Proofs.YtkljfdkmjdjpfaaGreat
end
section
set_option linter.unusedVariables false
set_option linter.unusedSimpArgs false
namespace Go.Proofs.YtkljfdkmjdjpfaaGreat
open Go.RowKit Go.WideShapes
def Cg(e:Ar)(c:AZ)(d:Av):Nat→Int→Int→Option (Int)
 |0,_,_=>none
 |f+1,b,a=>cond (decide (a≤e.Am)) (cond (decide (a≤d.AD)) ((idx c.Ao a).bind fun g=>cond (!g) ((i64 (b+1)).bind fun _=>(i64 (a+1)).bind fun _=>Cg e c d f (b+1) (a+1)) ((i64 (a+1)).bind fun _=>Cg e c d f b (a+1))) (some (b))) (some (b))
def CV(e:Ar)(c:AZ)(d:Av):Nat→Int→Int→Option (Int)
 |0,_,_=>none
 |f+1,b,a=>cond (decide (a≤e.Am)) (cond (decide (a≤d.AD)) ((idx c.Ao a).bind fun g=>cond (!g) ((i64 (b+1)).bind fun _=>(i64 (a+1)).bind fun _=>CV e c d f (b+1) (a+1)) ((i64 (a+1)).bind fun _=>CV e c d f b (a+1))) (some (b))) (some (b))
def D0(e:Ar)(c:AZ)(d:Av):Nat→Int→Int→Option (Int)
 |0,_,_=>none
 |f+1,b,a=>cond (decide (a≤e.Am)) (cond (decide (a≤d.AD)) ((idx c.Ao a).bind fun g=>cond (!g) ((i64 (b+1)).bind fun _=>(i64 (a+1)).bind fun _=>D0 e c d f (b+1) (a+1)) ((i64 (a+1)).bind fun _=>D0 e c d f b (a+1))) (some (b))) (some (b))
def CR(e:Ar)(c:AZ)(d:Av):Nat→Int→Int→Option (Int)
 |0,_,_=>none
 |g+1,b,a=>cond (decide (a≤e.Am)) (cond (decide (a≤d.AD)) ((idx c.Ao a).bind fun f=>cond (!f) ((i64 (b+1)).bind fun _=>(i64 (a+1)).bind fun _=>CR e c d g (b+1) (a+1)) ((i64 (a+1)).bind fun _=>CR e c d g b (a+1))) (some (b))) (some (b))
def BC(h:Nat)(e:Ar)(d:AZ)(f:(List (List Int)))(g:(List Av)×Int)(c:Int):Nat→Int→Bool→Int→Option ((Bool)⊕(Unit))
 |0,_,_,_=>none
 |j+1,k,l,b=>(idx f c).bind fun o=>cond (decide (b<(o.length:Int))) ((idx f c).bind fun p=>(idx p b).bind fun i=>(idx g.1 i).bind fun a=>cond (decide (a.On<0)) (cond (a.On !=(-1)) (some (.inl false)) (cond (a.AD !=(-1)) (some (.inl false)) (cond (a.AM) (some (.inl false)) ((i64 (b+1)).bind fun _=>BC h e d f g c j k true (b+1))))) (cond (l) (some (.inl false)) ((idx d.Comes i).bind fun q=>cond (a.On !=(max k q)) (some (.inl false)) (cond (decide (e.Am<a.On)) (some (.inl false)) (cond (decide (e.Am<a.AD)) (some (.inl false)) (cond (a.AD !=(-1)) (cond (decide (a.AD<a.On)) (some (.inl false)) (cond (a.AM) (cond (decide (a.AD<0)) (some (.inl false)) ((i64 (a.AD+1)).bind fun _=>(Cg e d a h (0:Int) a.On).bind fun r=>cond (decide ((0:Int)≤a.AD)) ((idx e.Ag i).bind fun s=>cond (a.AM !=(r==s.AM)) (some (.inl false)) ((i64 (b+1)).bind fun _=>BC h e d f g c j (a.AD+1) (decide (a.AD<0)) (b+1))) (cond (a.AM !=false) (some (.inl false)) ((i64 (b+1)).bind fun _=>BC h e d f g c j (a.AD+1) (decide (a.AD<0)) (b+1))))) ((i64 (a.AD+1)).bind fun _=>(CV e d a h (0:Int) a.On).bind fun t=>cond (decide ((0:Int)≤a.AD)) ((idx e.Ag i).bind fun u=>cond (a.AM !=(t==u.AM)) (some (.inl false)) ((i64 (b+1)).bind fun _=>BC h e d f g c j (a.AD+1) (decide (a.AD<0)) (b+1))) (cond (a.AM !=false) (some (.inl false)) ((i64 (b+1)).bind fun _=>BC h e d f g c j (a.AD+1) (decide (a.AD<0)) (b+1)))))) (cond (a.AM) (cond (decide (a.AD<0)) (some (.inl false)) ((i64 (a.AD+1)).bind fun _=>(D0 e d a h (0:Int) a.On).bind fun z87=>cond (decide ((0:Int)≤a.AD)) ((idx e.Ag i).bind fun v=>cond (a.AM !=(z87==v.AM)) (some (.inl false)) ((i64 (b+1)).bind fun _=>BC h e d f g c j (a.AD+1) (decide (a.AD<0)) (b+1))) (cond (a.AM !=false) (some (.inl false)) ((i64 (b+1)).bind fun _=>BC h e d f g c j (a.AD+1) (decide (a.AD<0)) (b+1))))) ((i64 (a.AD+1)).bind fun _=>(CR e d a h (0:Int) a.On).bind fun m=>cond (decide ((0:Int)≤a.AD)) ((idx e.Ag i).bind fun n=>cond (a.AM !=(m==n.AM)) (some (.inl false)) ((i64 (b+1)).bind fun _=>BC h e d f g c j (a.AD+1) (decide (a.AD<0)) (b+1))) (cond (a.AM !=false) (some (.inl false)) ((i64 (b+1)).bind fun _=>BC h e d f g c j (a.AD+1) (decide (a.AD<0)) (b+1))))))))))) (some (.inr ()))
def CX(f:Nat)(g:Ar)(d:AZ)(b:(List (List Int)))(e:(List Av)×Int):Nat→Int→Option ((Bool)⊕(Unit))
 |0,_=>none
 |h+1,a=>cond (decide (a<(b.length:Int))) ((BC f g d b e a f (0:Int) false (0:Int)).bind fun z=>Sum.elim (fun c=>some (.inl c)) (fun c=>(i64 (a+1)).bind fun _=>CX f g d b e h (a+1)) z) (some (.inr ()))
def EE(a:Nat)(b:Ar)(j:Int)(k:List Int):Option (Bool):=
 (Fm a b).bind fun r2=>cond (!r2) ((Gb (EC a=some true)).bind fun _=>some (true)) ((FE a b j).bind fun e=>(Fo a b k).bind fun f=>(EU a b).bind fun g=>(EA a f).bind fun h=>(EB a e).bind fun i=>(FX a g h i).bind fun c=>cond (c.2 !=0) (some (false)) (cond ((c.1.length:Int) !=(b.Ag.length:Int)) (some (false)) ((CX a b e f c a (0:Int)).bind fun z=>Sum.elim (fun d=>some (d)) (fun d=>(Gb (EC a=some true)).bind fun _=>some (true)) z)))
end Go.Proofs.YtkljfdkmjdjpfaaGreat
end
section
namespace Go.Proofs.YtkljfdkmjdjpfaaGreat
theorem Rx(y:Ar)(t:AZ)(s:Av)(d k:Nat)(hw:d+k<t.Ao.length)(c:(t.Ao.length:Int)=y.Am+1)(h9:y.Am≤9)(e:s.AD=(d:Int)+k):∀(j m i:Nat) (a:Int),i+j=k+1→j<m→0≤a→a≤i→
  Cg y t s m a ((d+i:Nat):Int)=some (a+(Ie ((t.Ao.drop (d+i)).take j):Int)):=by
 intro j
 induction j with
 |zero=>
  intro m i a h hm h0 h1;cases m with
  |zero=>omega
  |succ m=>
   rw[Cg.eq_2,List.take_zero]
   by_cases b:((d+i:Nat):Int)≤y.Am
   ·rw[ct (dt b),cf (df (by omega))];simp[Ie]
   ·rw[cf (df b)];simp[Ie]
 |succ j ih=>
  intro m i a h hm h0 h1;cases m with
  |zero=>omega
  |succ m=>
   have hi:d+i<t.Ao.length:=by omega
   rw[Cg.eq_2,ct (dt (by omega)),ct (dt (by omega)),C3 hi,List.drop_eq_getElem_cons hi,List.take_succ_cons,Ie];cases f:t.Ao[d+i] with
   |true=>
    rw[nt,BJ (by omega) (by omega),DG,show d+i+1=d+(i+1) from rfl,ih m (i+1) a (by omega) (by omega) h0 (by omega)]
    congr 1
    show a+(_:Int)=a+((0+_:Nat):Int);omega
   |false=>
    rw[nf,BJ (by omega) (by omega),BJ (by omega) (by omega),DG,show d+i+1=d+(i+1) from rfl,ih m (i+1) (a+1) (by omega) (by omega) (by omega) (by omega)]
    congr 1
    show a+1+(_:Int)=a+((1+_:Nat):Int);omega
theorem N7(y:Ar)(t:AZ)(s:Av):∀(m:Nat) (a b:Int),CV y t s m a b=Cg y t s m a b
 |0,_,_=>rfl
 |m+1,a,b=>by
  rw[CV.eq_2,Cg.eq_2];simp only[N7 y t s m]
theorem QE(y:Ar)(t:AZ)(s:Av)(d:s.AD=-1)(a b:Int)(e:0≤b){m:Nat}(hm:0<m):CR y t s m a b=some a:=by
 cases m with
 |zero=>omega
 |succ m=>
  rw[CR.eq_2]
  by_cases c:b≤y.Am
  ·rw[ct (dt c),cf (df (by omega))]
  ·rw[cf (df c)]
theorem L0(y:Ar)(w:List Bool)(c:List Int)(i:Int):∀(l:List Int) (f:Int),Ga y w c (l++[i]) f=Hm y (C1 y w (DI y i) (max (Ga y w c l f) (Dd c i)))
 |[],_=>rfl
 |a::l,f=>L0 y w c i l _
theorem Ry{K:Nat}(hK:2000≤K){y:Ar}(aB:check y=0){o:List (List Int)}(aE:Dz y o=true){t:AZ}(ht:Et y t=true){q:Nat}(l:q<o.length)(z:Int):∀(k m i:Nat) (f:Int) (e:Bool),o[q].length=i+k→k<m→
  (e=false∧f=Ga y t.Ao t.Comes (o[q].take i) 0∨e=true∧Ga y t.Ao t.Comes (o[q].take i) 0=y.Am+1)→
  BC K y t o (B8 y o t,z) (q:Int) m f e (i:Int)=some (.inr ()):=by
 have hy:=FQ aB;have aX:=hy.n4;have aT:=hy.h0;have aI:=hy.h9;obtain⟨hw,_,aJ⟩:=Hz.1 ht;have aU:=GQ aJ;intro k
 induction k with
 |zero=>
  intro m i f e h hm _;cases m with
  |zero=>omega
  |succ m=>rw[BC.eq_2,C3 l,cf (df (by omega))]
 |succ k ih=>
  intro m i f e h hm x;cases m with
  |zero=>omega
  |succ m=>
   have hi:i<o[q].length:=by omega
   have aV:=(Hn aB aE).2.1 _ (List.getElem_mem l);have aK:o=o.take q++(o[q].take i++o[q][i]::o[q].drop (i+1))::o.drop (q+1):=by
    rw[←List.drop_eq_getElem_cons hi,List.take_append_drop,←List.drop_eq_getElem_cons l,List.take_append_drop]
   have aL:o[q][i]∈o.flatten:=List.mem_flatten.2 ⟨_,List.getElem_mem l,List.getElem_mem hi⟩;obtain⟨aS,aY⟩:=(NL aE).1 aL;obtain⟨b,n⟩:=Int.eq_ofNat_of_zero_le aS;have c:b<y.Ag.length:=by omega
   have aC:=Rb aE aK t;rw[n,Int.toNat_natCast] at aC;obtain⟨aM,aN⟩:=List.getElem?_eq_some_iff.1 aC;have aW:=Sj hy ht c;obtain⟨F0,aZ⟩:=NM t.Comes hw (o[q].take i) 0 (by omega) (by omega);have a:Ga y t.Ao t.Comes (o[q].take (i+1)) 0=Hm y (C1 y t.Ao (DI y (b:Int)) (max (Ga y t.Ao t.Comes (o[q].take i) 0) (Dd t.Comes b))):=by
    rw[List.take_add_one,List.getElem?_eq_getElem hi];show Ga y t.Ao t.Comes (o[q].take i++[o[q][i]]) 0=_;rw[L0,n]
   generalize Ga y t.Ao t.Comes (o[q].take i) 0=F at*;have go:∀(aA:Int) (p:Bool),(p=false∧aA=Ga y t.Ao t.Comes (o[q].take (i+1)) 0∨p=true∧Ga y t.Ao t.Comes (o[q].take (i+1)) 0=y.Am+1)→(i64 ((i:Int)+1)).bind (fun _=>BC K y t o (B8 y o t,z) (q:Int) m aA p ((i:Int)+1))=some (.inr ()):=by
    intro aA p he;rw[BJ (by omega) (by omega),DG];exact ih m (i+1) aA p (by omega) (by omega) he
   rw[BC.eq_2,C3 l,ct (dt (by omega)),C3 l,C3 hi,n,C3 (xs:=(B8 y o t,z).1) aM];show cond (decide ((B8 y o t)[b].On<0)) _ _=_;rw[aN];obtain⟨D,aF⟩:∃D:Int,D=max F (Dd t.Comes b):=⟨_,rfl⟩;rw[←aF] at a⊢
   by_cases g:y.Am<D
   ·have aG:C1 y t.Ao (DI y (b:Int)) D=⟨-1,-1,false⟩:=if_pos g;rw[aG] at a⊢;rw[ct (by rfl),cf (by rfl),cf (by rfl),cf (by rfl)];exact go _ _ (.inr ⟨rfl,a⟩)
   ·obtain⟨d,aH⟩:=Int.eq_ofNat_of_zero_le (show 0≤D by omega);have aG:C1 y t.Ao (DI y (b:Int)) D=E8 (DI y (b:Int)) D (t.Ao.drop d) D 0 0:=by
     unfold C1;rw[if_neg g,aH,Int.toNat_natCast]
    obtain⟨s1,s2⟩:=KG (DI y (b:Int)) D (t.Ao.drop d) D 0 0;rw[←aG] at s1 s2;have aD:b<t.Comes.length:=by omega
    have aO:e=false∧f=F:=by
     rcases x with x|⟨_,x⟩
     ·exact x
     ·omega
    obtain⟨rfl,rfl⟩:=aO;generalize a0:C1 y t.Ao (DI y (b:Int)) D=s at*;rw[Ql _ aD] at aF;rw[cf (df (by omega)),cf (by rfl),C3 aD,←aF,s1,cf (by simp),cf (df (by omega))];rcases s2 with⟨r,u⟩|⟨aP,aQ,r,u⟩
    ·rw[cf (df (by omega)),cf (by rw[r];rfl),u,cf rfl,BJ (by omega) (by omega),bd (QE y t s r 0 D (by omega) (by omega)),cf (df (by omega)),cf (by rfl)];refine go _ _ (.inr ⟨dt (by omega),?_⟩);rw[a];unfold Hm;rw[r];rfl
    ·rw[List.length_drop] at aQ;have v:=Rx y t s d aP (by omega) hw aI (by rw[r,aH]) (aP+1) K 0 0 (by omega) (by omega) (by omega) (by omega);rw[Nat.add_zero,←aH,Int.zero_add] at v;have aR:=Ra y c;have j:s.AD+1=Ga y t.Ao t.Comes (o[q].take (i+1)) 0:=by
      rw[a];unfold Hm;rw[cf (by rw[beq_eq_false_iff_ne];omega)]
     rw[Int.zero_add,aR] at u;rw[cf (df (by omega)),ct (by rw[bne_iff_ne];omega),cf (df (by omega))];cases w:s.AM with
     |true=>
      rw[ct rfl,cf (df (by omega)),BJ (by omega) (by omega),bd v,ct (dt (by omega)),C3 c,←u,w,cf (by rfl)];exact go _ _ (.inl ⟨df (by omega),j⟩)
     |false=>
      rw[cf rfl,BJ (by omega) (by omega),N7,bd v,ct (dt (by omega)),C3 c,←u,w,cf (by rfl)];exact go _ _ (.inl ⟨df (by omega),j⟩)
theorem RA{K:Nat}(hK:2000≤K){y:Ar}(a:check y=0){o:List (List Int)}(c:Dz y o=true){t:AZ}(ht:Et y t=true)(z:Int):∀(k m q:Nat),o.length=q+k→k<m→
  CX K y t o (B8 y o t,z) m (q:Int)=some (.inr ()):=by
 have h1:=(Hn a c).1;intro k
 induction k with
 |zero=>
  intro m q h hm;cases m with
  |zero=>omega
  |succ m=>rw[CX.eq_2,cf (df (by omega))]
 |succ k ih=>
  intro m q h hm;cases m with
  |zero=>omega
  |succ m=>
   have d:q<o.length:=by omega
   have e:=(Hn a c).2.1 _ (List.getElem_mem d);have b:=Ry hK a c ht d z o[q].length K 0 0 false (by omega) (by omega) (.inl ⟨rfl,rfl⟩);rw[Int.natCast_zero] at b;rw[CX.eq_2,ct (dt (by omega)),bd b,Sum.elim_inr,BJ (by omega) (by omega),DG];exact ih m (q+1) (by omega) (by omega)
theorem MO(y:Ar)(n:Int)(h0:0≤n)(h1:n≤65535)(ws:List Int)(hw:W8 ws):∃K,EE K y n ws=some true:=by
 refine⟨2000,?_⟩;have hK:2000≤2000:=Nat.le_refl _;have d:=PD hK;unfold EE;rw[bd (Ri hK y)];cases e:KH y with
 |false=>rw[nf,FV d]
 |true=>
  obtain⟨a,h⟩:=Rj e;have hy:=FQ a;obtain⟨t,f,ht⟩:=Su hK y hy n h0 h1;obtain⟨o,g,b⟩:=Rl hK y hy ws hw;have c:=RA hK a b ht 0 o.length 2000 0 (by omega) (by have:=(Hn a b).1;omega);rw[Int.natCast_zero] at c;rw[nt,bd f,bd g,bd (Ux hK a),bd (S9 hK a b),bd (Ta a ht),bd (Qp hK a b ht),cf (by rfl),cf (by simp[N6]),bd c,Sum.elim_inr,FV d]
end Go.Proofs.YtkljfdkmjdjpfaaGreat
end
section
set_option linter.unusedVariables false
set_option linter.unusedSimpArgs false
namespace Go.Proofs.YtkljfdkmjdjpfaaGreat
open Go.RowKit Go.WideShapes
set_option maxRecDepth 20000
open HF
attribute [local irreducible] BL WL CC CW LV BO Ef DC One Bn
set_option maxHeartbeats 4000000 in
theorem V1(gT:Nat)(f:Ar)(nW:Int)(mQ:List Int)(aI:Option Addr)(aJ:Nat)(gU:Option Addr)(gV:Nat)(Z:Nat→Prop)(w:World)(qQ:Sl AQ w Z aI aJ f.Ag)(qR:Sl (Az .u8) w Z gU gV mQ)(d:EE gT f nW mQ=some true):
 BO Tryz.prog 10 #[.agg #[I f.Am,I f.Ak,I f.Ao,I f.AA,.slice aI f.Ag.length aJ],.int .u16 nW,.slice gU mQ.length gV] w (fun v w'=>Ext w w'∧v=.bool true):=by
 unfold EE at d;refine Be (N:=183) Tryz.func10 rfl rfl (by simp) ?_;intro aA6 qS aA7;have vL:=AR (i:=0) (v:=.agg #[I f.Am,I f.Ak,I f.Ao,I f.AA,.slice aI f.Ag.length aJ]) qS rfl;have vM:=AR (i:=1) (v:=.int .u16 nW) qS rfl;have vN:=AR (i:=2) (v:=.slice gU mQ.length gV) qS rfl;clear qS;have sO:Hp FN [] w [] w:=Hp.start (BQ.none w);have o6:=qQ.mv (Br (Z:=Z) (L:=[]) w);have o7:=qR.mv (Br (Z:=Z) (L:=[]) w);refine Af<|Ad<|we rfl (fun st=>B5 (v:=.agg #[I f.Am,I f.Ak,I f.Ao,I f.AA,.slice aI f.Ag.length aJ]) (cs:= #[I f.Am,I f.Ak,I f.Ao,I f.AA,.slice aI f.Ag.length aJ]) (ee st vL) rfl) ?_;rintro _ w1 ⟨p,rfl,jZ⟩;have z8:=sO.nb jZ;have aAK:=sO.BM jZ;refine wa rfl (v:=.bool false) rfl<|Ae<|Ac<|Af<|Af<|Ad<|wd rfl (fun st=>Bl (l:=[I f.Am,I f.Ak,I f.Ao,I f.AA,.slice aI f.Ag.length aJ]) F8 (ee st rfl) jZ.bk rfl rfl) ?_;have i9:=(o6.mv (Ax jZ));replace d:=bind_some d;obtain⟨r2,z9,d⟩:=d;refine we rfl (fun st=>AX Um (ee st rfl) (CN (ee st rfl)) (VZ gT f aI aJ ZA _ i9.all r2 z9)) ?_;rintro _ o8 ⟨l8,rfl⟩;have sP:=z8.ext l8;refine wd rfl (fun st=>Dl (ee st rfl))<|Ae<|Ac ?_;rcases Aq (!r2) with j0|j0
 ·replace d:=AF d j0;have aAL:r2=false:=by simpa using j0
  refine Ay rfl j0<|Af<|Ad ?_;replace d:=CS d;obtain⟨aAA,d⟩:=d;refine we rfl (fun st=>AX QC (ee st rfl) IZ (Vi gT ZA _ aAA)) ?_;rintro _ aBO ⟨aAB,rfl⟩;have aAC:=sP.ext aAB;refine wa rfl (v:=.bool true) rfl<|Ae<|Ac<|AI<|As ?_;have nK:=Option.some.inj d;refine A3 rfl rfl ?_;exact⟨aAC.By,congrArg Value.bool nK⟩
 ·replace d:=AG d j0;have aAM:r2=true:=by simpa using j0
  refine AH rfl j0<|AY<|Ac<|Af ?_;have aAD:Hp FN [] w [none,some p] o8:=sP.nil;have oS:=(jZ.bk.ext l8);have l9:Sl AQ o8 (ZZ FN [] Z w.heap.size [none,some p]) aI aJ f.Ag:=((i9.mv (Ah l8)).mv BT);replace d:=bind_some d;obtain⟨aC,vO,d⟩:=d;have o9:Sl (Az .u8) o8 (ZZ FN [] Z w.heap.size [none,some p]) gU gV mQ:=(((o7.mv (Ax jZ)).mv (Ah l8)).mv BT);replace d:=bind_some d;obtain⟨aV,vP,d⟩:=d;obtain⟨aAT,cB⟩:∃aBP:(Nat→Bool)→(Nat→Value)→World→Prop,aBP=(fun D V aW=>∃(bA:Option Nat) (e:Nat) (g:Option Addr) (j:Nat) (q:Option Addr) (r:Nat) (x:Option Addr) (y:Nat),Hp FN [] w [bA,some p] aW∧Ext o8 aW∧(∀nL,Mv o8 (ZZ FN [] nL w.heap.size [none,some p]) aW (ZZ FN [] nL w.heap.size [bA,some p]))∧(∀lH,bA=some lH→o8.heap.size≤lH)∧(D 6=false→bA=none)∧(D 0=true→V 0=.agg #[I f.Am,I f.Ak,I f.Ao,I f.AA,.slice aI f.Ag.length aJ])∧(D 1=true→V 1=.int .u16 nW)∧(D 2=true→V 2=.agg #[.slice g aC.Comes.length j,.slice q aC.Ao.length r]∧Sl (Az .i64) aW (ZZ FN [] Z w.heap.size [bA,some p]) g j aC.Comes∧Sl Bo aW (ZZ FN [] Z w.heap.size [bA,some p]) q r aC.Ao)∧(D 3=true→V 3=.agg #[I f.Am,I f.Ak,I f.Ao,I f.AA,.slice aI f.Ag.length aJ])∧(D 4=true→V 4=.slice gU mQ.length gV)∧(D 5=true→V 5=.slice x aV.length y∧Sl (BA (Az .i64)) aW (ZZ FN [] Z w.heap.size [bA,some p]) x y aV)∧(D 6=true→Bk aW e 67 #[.slice none 0 0,.slice none 0 0])∧(D 6=true→V 6=pt e 0∧bA=some e∧w.heap.size≤e)):=⟨_,rfl⟩;refine Iv 7 aAT mixed rfl rfl (by rw[cB];exact⟨none,0,none,0,none,0,none,0,(aAD.ext (Cj _)),Cj _,fun _=>Ah (Cj _),fun _ bM=>(by cases bM),fun _=>rfl,fun bM=>absurd (show false=true from bM) (by decide),fun bM=>absurd (show false=true from bM) (by decide),fun bM=>absurd (show false=true from bM) (by decide),fun bM=>absurd (show false=true from bM) (by decide),fun bM=>absurd (show false=true from bM) (by decide),fun bM=>absurd (show false=true from bM) (by decide),fun bM=>absurd (show false=true from bM) (by decide),fun bM=>absurd (show false=true from bM) (by decide)⟩)
      ⟨sj (k:=0) rfl (fun D V a' w' K aK=>by
           rw[cB] at aK;refine X4 aK fun bA e g j aK=>X4 aK fun q r x y aK=>Y8 aK fun bY cE cF aZ a0 _ bN a8 aK=>Y4 aK fun bO bP bI bG aK=>?_;have bQ:=aK;exact(Bl (l:=[I f.Am,I f.Ak,I f.Ao,I f.AA,.slice aI f.Ag.length aJ]) F8 (es ((K.out 3 rfl).trans rfl)) (oS.ext cE) rfl rfl).mono fun v Bj ⟨j1,j2⟩=>by subst j1;subst j2;rw[cB];exact⟨bA,e,g,j,q,r,x,y,bY,cE,cF,aZ,a0,fun _=>rfl,bN,a8,bO,bP,bI,bG,bQ⟩),
       sj (k:=1) rfl (fun D V a' w' K aK=>by
           rw[cB] at aK;refine X4 aK fun bA e g j aK=>X4 aK fun q r x y aK=>Y8 aK fun bY cE cF aZ a0 bR _ a8 aK=>Y4 aK fun bO bP bI bG aK=>?_;have bQ:=aK;exact(AN (v:=.int .u16 nW) (es ((K.out 1 rfl).trans vM))).mono fun v Bj ⟨j1,j2⟩=>by subst j1;subst j2;rw[cB];exact⟨bA,e,g,j,q,r,x,y,bY,cE,cF,aZ,a0,bR,fun _=>rfl,a8,bO,bP,bI,bG,bQ⟩),
       sj (k:=2) rfl (fun D V a' w' K aK=>by
           rw[cB] at aK;refine X4 aK fun bA e g j aK=>X4 aK fun q r x y aK=>Y8 aK fun bY cE cF aZ a0 bR bN _ aK=>Y4 aK fun bO bP bI bG aK=>?_;have bQ:=aK;have oT:=bR (K.dn 0 rfl);have oU:=bN (K.dn 1 rfl);refine(AX Un rfl (EZ (es (t:=23) (v:=.agg #[I f.Am,I f.Ak,I f.Ao,I f.AA,.slice aI f.Ag.length aJ]) ((K.An 0 23 rfl rfl).trans oT)) (es (t:=24) (v:=.int .u16 nW) ((K.An 1 24 rfl rfl).trans oU))) (V0 gT f nW aI aJ _ _ (l9.mv (cF _)) aC vO)).mono ?_;rintro v Bj ⟨cD,⟨_,rfl,⟨g,j,q,r,rfl,iJ,iK⟩⟩⟩;rw[cB];exact⟨bA,e,g,j,q,r,x,y,(bY.ext cD),(Ext.trans cE cD),(fun nL=>(cF nL).trans (Ah cD)),aZ,a0,bR,bN,fun _=>⟨rfl,iJ.mv (bY.Dn (Nat.le_refl _)),iK.mv (bY.Dn (Nat.le_refl _))⟩,bO,bP,fun bM=>⟨(bI bM).1,((bI bM).2.mv (Ah cD))⟩,fun bM=>((bG bM).ext cD),bQ⟩),
       sj (k:=3) rfl (fun D V a' w' K aK=>by
           rw[cB] at aK;refine X4 aK fun bA e g j aK=>X4 aK fun q r x y aK=>Y8 aK fun bY cE cF aZ a0 bR bN a8 aK=>Y4 aK fun _ bP bI bG aK=>?_;have bQ:=aK;exact(Bl (l:=[I f.Am,I f.Ak,I f.Ao,I f.AA,.slice aI f.Ag.length aJ]) F8 (es ((K.out 3 rfl).trans rfl)) (oS.ext cE) rfl rfl).mono fun v Bj ⟨j1,j2⟩=>by subst j1;subst j2;rw[cB];exact⟨bA,e,g,j,q,r,x,y,bY,cE,cF,aZ,a0,bR,bN,a8,fun _=>rfl,bP,bI,bG,bQ⟩),
       sj (k:=4) rfl (fun D V a' w' K aK=>by
           rw[cB] at aK;refine X4 aK fun bA e g j aK=>X4 aK fun q r x y aK=>Y8 aK fun bY cE cF aZ a0 bR bN a8 aK=>Y4 aK fun bO _ bI bG aK=>?_;have bQ:=aK;exact(AN (v:=.slice gU mQ.length gV) (es ((K.out 2 rfl).trans vN))).mono fun v Bj ⟨j1,j2⟩=>by subst j1;subst j2;rw[cB];exact⟨bA,e,g,j,q,r,x,y,bY,cE,cF,aZ,a0,bR,bN,a8,bO,fun _=>rfl,bI,bG,bQ⟩),
       sj (k:=5) rfl (fun D V a' w' K aK=>by
           rw[cB] at aK;refine X4 aK fun bA e g j aK=>X4 aK fun q r x y aK=>Y8 aK fun bY cE cF aZ a0 bR bN a8 aK=>Y4 aK fun bO bP _ bG aK=>?_;have bQ:=aK;have oV:=bO (K.dn 3 rfl);have oW:=bP (K.dn 4 rfl);refine(AX Uo rfl (EZ (es (t:=26) (v:=.agg #[I f.Am,I f.Ak,I f.Ao,I f.AA,.slice aI f.Ag.length aJ]) ((K.An 3 26 rfl rfl).trans oV)) (es (t:=27) (v:=.slice gU mQ.length gV) ((K.An 4 27 rfl rfl).trans oW))) (a59 gT f mQ aI aJ gU gV _ _ (l9.mv (cF _)) (o9.mv (cF _)) aV vP)).mono ?_;rintro v Bj ⟨cD,⟨x,y,rfl,jA⟩⟩;rw[cB];exact⟨bA,e,g,j,q,r,x,y,(bY.ext cD),(Ext.trans cE cD),(fun nL=>(cF nL).trans (Ah cD)),aZ,a0,bR,bN,fun bM=>⟨(a8 bM).1,((a8 bM).2.1.mv (Ah cD)),((a8 bM).2.2.mv (Ah cD))⟩,bO,bP,fun _=>⟨rfl,jA.mv (bY.Dn (Nat.le_refl _))⟩,fun bM=>((bG bM).ext cD),bQ⟩),
       sj (k:=6) rfl (fun D V a' w' K aK=>by
           rw[cB] at aK;refine X4 aK fun _ _ g j aK=>X4 aK fun q r x y aK=>Y8 aK fun bY cE cF aZ a0 bR bN a8 aK=>Y4 aK fun bO bP bI _ aK=>?_;have bQ:=aK;have vQ:=a0 K.me;subst vQ;refine(BP (cs:= #[.slice none 0 0,.slice none 0 0]) KW rfl).mono ?_;rintro v Bj ⟨aAE,rfl,mR⟩;have mA:=IN mR;have pA:=mR.gr;rw[cB];exact⟨(some aAE),aAE,g,j,q,r,x,y,(bY.row pA 0 rfl mA),(Ext.trans cE pA),(fun nL=>(cF nL).trans (bY.CD pA 0 rfl (fun lH j3=>(mA lH j3).1))),(F2 aZ cE.size mA),fun bM=>absurd (show true=false from bM) (by decide),bR,bN,fun bM=>⟨(a8 bM).1,((a8 bM).2.1.mv (bY.CD pA 0 rfl (fun lH j3=>(mA lH j3).1))),((a8 bM).2.2.mv (bY.CD pA 0 rfl (fun lH j3=>(mA lH j3).1)))⟩,bO,bP,fun bM=>⟨(bI bM).1,((bI bM).2.mv (bY.CD pA 0 rfl (fun lH j3=>(mA lH j3).1)))⟩,fun _=>mR.bk,fun _=>⟨rfl,rfl,Nat.le_trans bY.sz (Nat.le_of_eq mR.En.symm)⟩⟩),trivial⟩ ?_
  intro aBQ aBR aBS c0 cM;rw[cB] at cM;clear cB;refine X4 cM fun bA e g j cM=>X4 cM fun q r x y cM=>Y8 cM fun jB vR vS aZ a0 bR bN a8 cM=>Y4 cM fun bO bP bI bG cM=>?_;have bQ:=cM;clear cM;have oT:=bR (c0 0 (by decide));have oU:=bN (c0 1 (by decide));obtain⟨qT,iJ,iK⟩:=a8 (c0 2 (by decide));have oV:=bO (c0 3 (by decide));have oW:=bP (c0 4 (by decide));obtain⟨qU,jA⟩:=bI (c0 5 (by decide));obtain⟨mS,pN,z1⟩:=bQ (c0 6 (by decide));subst pN;have pO:=bG (c0 6 (by decide));refine Bq rfl rfl (fun st=>Bg (n:=2) (l:=[.slice g aC.Comes.length j,.slice q aC.Ao.length r]) (Ci:= #[.slice g aC.Comes.length j,.slice q aC.Ao.length r]) (ee st mS) (ee st qT) PF pO rfl rfl (show 0+2≤2 by decide) (AW rfl) rfl) ?_;rintro _ mB gW;have nM:Hp FN [] w [some e,some p] mB:=jB.gr gW.gr 0 rfl;refine wa rfl (v:=.slice x aV.length y) qU<|Ae<|Ac<|Af ?_;have oX:Bk mB p 63 #[I f.Am,I f.Ak,I f.Ao,I f.AA,.slice aI f.Ag.length aJ]:=(((jZ.bk.ext l8).ext vR).gr gW.gr (jB.ne 1 0 rfl rfl rfl));have mC:Sl AQ mB (ZZ FN [] Z w.heap.size [some e,some p]) aI aJ f.Ag:=((((i9.mv (Ah l8)).mv BT).mv (vS _)).mv (jB.AS gW.gr 0 rfl));replace d:=bind_some d;obtain⟨jT,vT,d⟩:=d;have jU:Sl (BA (Az .i64)) mB (ZZ FN [] Z w.heap.size [some e,some p]) x y aV:=(jA.mv (jB.AS gW.gr 0 rfl));replace d:=bind_some d;obtain⟨oY,vU,d⟩:=d;have iR:Sl (Az .i64) mB (ZZ FN [] Z w.heap.size [some e,some p]) g j aC.Comes:=(iJ.mv (jB.AS gW.gr 0 rfl));have iS:Sl Bo mB (ZZ FN [] Z w.heap.size [some e,some p]) q r aC.Ao:=(iK.mv (jB.AS gW.gr 0 rfl));replace d:=bind_some d;obtain⟨nN,vV,d⟩:=d;replace d:=bind_some d;obtain⟨aR,vW,d⟩:=d;refine B3 11 [Kc (.agg #[I f.Am,I f.Ak,I f.Ao,I f.AA,.slice aI f.Ag.length aJ]),Kv (Df HP) (ZZ FN [] Z w.heap.size [some e,some p]) jT,Kc (.slice x aV.length y),Kv (E1 (BA (Az .i64))) (ZZ FN [] Z w.heap.size [some e,some p]) oY,Kc (.agg #[.slice g aC.Comes.length j,.slice q aC.Ao.length r]),Kv (Df E9) (ZZ FN [] Z w.heap.size [some e,some p]) nN,Kv (Mt (E1 BW) (Ft .i64)) (ZZ FN [] Z w.heap.size [some e,some p]) aR,Kv (Mt (E1 BW) (Ft .i64)) (ZZ FN [] Z w.heap.size [some e,some p]) aR,Kv (E1 BW) (ZZ FN [] Z w.heap.size [some e,some p]) aR.1,Kc (I aR.2),Kv (E1 BW) (ZZ FN [] Z w.heap.size [some e,some p]) aR.1] mixed rfl rfl
      (Aa (od rfl (fun _=>rfl) (fun K=>Bl (l:=[I f.Am,I f.Ak,I f.Ao,I f.AA,.slice aI f.Ag.length aJ]) F8 (es ((K.out 3 rfl).trans rfl)) (oX.ext K.Bc) rfl rfl))
      (Aa (Eg rfl rfl (fun a' w' ph K=>(AX Uj rfl (CN (es (K.An 0 30 rfl rfl))) (a31 gT f aI aJ (ZZ FN [] Z w.heap.size [some e,some p]) _ (mC.mv (Ah K.Bc)) jT vT)).mono (fun _ _ h=>⟨(Df HP).mv h.2 ((nM.ext K.Bc).Dn (Nat.le_refl _)),h.1⟩)))
      (Aa (od rfl (fun _=>rfl) (fun K=>AN (es ((K.out 8 rfl).trans rfl))))
      (Aa (Eg rfl rfl (fun a' w' ph K=>(AX Uk rfl (CN (es (K.An 2 32 rfl rfl))) (VX gT aV x y (ZZ FN [] Z w.heap.size [some e,some p]) _ (jU.mv (Ah K.Bc)) oY vU)).mono (fun _ _ h=>⟨(E1 (BA (Az .i64))).mv h.2 ((nM.ext K.Bc).Dn (Nat.le_refl _)),h.1⟩)))
      (Aa (od rfl (fun _=>rfl) (fun K=>Bl (l:=[.slice g aC.Comes.length j,.slice q aC.Ao.length r]) LY (es ((K.out 7 rfl).trans mS)) (gW.bk.ext K.Bc) rfl rfl))
      (Aa (Eg rfl rfl (fun a' w' ph K=>(AX Ul rfl (CN (es (K.An 4 34 rfl rfl))) (VY gT aC g j q r (ZZ FN [] Z w.heap.size [some e,some p]) _ (iR.mv (Ah K.Bc)) (iS.mv (Ah K.Bc)) nN vV)).mono (fun _ _ h=>⟨(Df E9).mv h.2 ((nM.ext K.Bc).Dn (Nat.le_refl _)),h.1⟩)))
      (Aa (Eg rfl rfl (fun a' w' ph K=>match K.An 3 33 rfl rfl with|⟨j4,j5,qV,mD⟩=>by obtain⟨_,qW,⟨jC,jD,rfl,j6⟩⟩:=K.An 1 31 rfl rfl;obtain⟨_,qX,⟨jE,jF,jG,jH,rfl,j7,j8⟩⟩:=K.An 5 35 rfl rfl;exact(AX N5 rfl (FH (es (t:=31) (v:=.agg #[I jT.Am,I jT.Ak,I jT.Ao,I jT.AA,.slice jC jT.Ag.length jD]) qW) (es (t:=33) (v:=.slice j4 oY.length j5) qV) (es (t:=35) (v:=.agg #[.slice jE nN.Comes.length jF,.slice jG nN.Ao.length jH]) qX)) (Ut gT jT oY nN jC jD j4 j5 jE jF jG jH (ZZ FN [] Z w.heap.size [some e,some p]) _ j6 mD j7 j8 aR vW)).mono (fun _ _ h=>⟨(Mt (E1 BW) (Ft .i64)).mv h.2 ((nM.ext K.Bc).Dn (Nat.le_refl _)),h.1⟩)))
      (Aa (Eg rfl rfl (fun a' w' ph K=>(AN (v:=sl a' 36) rfl).mono (fun u Bj ⟨hu,hw⟩=>by subst hu;subst hw;exact⟨K.An 6 36 rfl rfl,Ext.refl _⟩)))
      (Aa (Eg rfl rfl (fun a' w' ph K=>by obtain⟨_,_,mT,⟨aF,aG,rfl,g4⟩,rfl⟩:=K.An 7 29 rfl rfl;exact(B4 (v:=.slice aF aR.1.length aG) (es (t:=29) (v:=.tuple #[.slice aF aR.1.length aG,I aR.2]) mT) rfl).mono (fun u Bj ⟨hu,hw⟩=>by subst hu;subst hw;exact⟨⟨aF,aG,rfl,g4⟩,Ext.refl _⟩)))
      (Aa (od rfl (fun _=>rfl) (fun K=>by obtain⟨_,_,mT,⟨aF,aG,rfl,g4⟩,rfl⟩:=K.An 7 29 rfl rfl;exact B4 (es (t:=29) mT) rfl))
      (Aa (Eg rfl rfl (fun a' w' ph K=>(Hq (v:=sl a' 37) rfl).mono (fun u Bj ⟨hu,hw⟩=>by subst hu;subst hw;exact⟨K.An 8 37 rfl rfl,Ext.refl _⟩)))
      (BI _)))))))))))) ?_
  intro aA8;rintro _ rfl _ ⟨_,rfl,⟨jC,jD,rfl,j6⟩⟩ _ rfl _ ⟨j4,j5,rfl,mD⟩ _ rfl _ ⟨_,rfl,⟨jE,jF,jG,jH,rfl,j7,j8⟩⟩ _ _ _ _ _ _ _ rfl _ ⟨aF,aG,rfl,g4⟩ iL;have aAF:=nM.ext iL;refine wa rfl (v:=I aR.2) rfl<|Ae<|Ac<|Af<|Af<|Ad<|wm rfl (v:=I aR.2) rfl<|wd rfl (fun st=>Ev (ee st rfl) (ee st rfl))<|wm rfl (v:=.bool (aR.2 !=0)) rfl ?_;rcases Aq (aR.2 !=0) with dN|dN
  ·replace d:=AF d dN;exact absurd (Option.some.inj d) (by decide)
  ·replace d:=AG d dN;refine Aw rfl rfl (Ab rfl dN) rfl (by decide) (fun st=>AN (v:=.slice aF aR.1.length aG) (ee st rfl))<|Aw rfl rfl (Ab rfl dN) rfl (by decide) (fun st=>BX Tryz.underlying70 (ee st rfl))<|Aw rfl rfl (Ab rfl dN) rfl (by decide) (fun st=>Ai (ee st rfl) (Fc _ _)) ?_;have oZ:=(oX.ext iL);refine Aw rfl rfl (Ab rfl dN) rfl (by decide) (fun st=>Ap (v:=.slice aI f.Ag.length aJ) FR (ee st rfl) oZ rfl)<|Aw rfl rfl (Ab rfl dN) rfl (by decide) (fun st=>BX Tryz.underlying61 (ee st rfl))<|Aw rfl rfl (Ab rfl dN) rfl (by decide) (fun st=>Ev (ee st rfl) (ee st rfl))<|wd rfl (fun st=>Bd (v:=.bool ((aR.1.length:Int) !=(f.Ag.length:Int))) (ee st rfl) dN (ee st rfl))<|Ae<|Ac ?_;rcases Aq ((aR.1.length:Int) !=(f.Ag.length:Int)) with mU|mU
   ·replace d:=AF d mU;exact absurd (Option.some.inj d) (by decide)
   ·replace d:=AG d mU;refine AH rfl mU<|AY<|Ac<|Af<|Af<|Ad<|wa rfl (v:=I 0) rfl<|Ae<|Ac<|Ba ?_;replace d:=bind_some d;obtain⟨z20,jI,d⟩:=d;refine Ce (fun dZ a aW=>(dZ=.ret∧∃jJ,z20=.inl jJ∧a.tmps.size=183∧a.defers=(X0).ds∧sl a 6=.bool jJ∧Hp FN [] w [some e,some p] aW)∨(dZ=.exit 0∧∃jJ,z20=.inr jJ∧a.tmps.size=183∧a.defers=(X0).ds∧Hp FN [] w [some e,some p] aW)) ?vX ?vY
    case vX=>
     clear d;refine Cd (fun(bS:Nat) (a:Act) (aW:World)=>∃aP,CX gT f aC aV aR bS aP=some z20∧a.tmps.size=183∧a.defers=(X0).ds∧sl a 3=pt p 0∧sl a 7=pt e 0∧sl a 8=.slice x aV.length y∧sl a 9=.slice aF aR.1.length aG∧sl a 11=I aP∧Hp FN [] w [some e,some p] aW∧Bk aW p 63 #[I f.Am,I f.Ak,I f.Ao,I f.AA,.slice aI f.Ag.length aJ]∧Bk aW e 67 #[.slice g aC.Comes.length j,.slice q aC.Ao.length r]∧Sl AQ aW (ZZ FN [] Z w.heap.size [some e,some p]) aI aJ f.Ag∧Sl (Az .i64) aW (ZZ FN [] Z w.heap.size [some e,some p]) g j aC.Comes∧Sl Bo aW (ZZ FN [] Z w.heap.size [some e,some p]) q r aC.Ao∧Sl (BA (Az .i64)) aW (ZZ FN [] Z w.heap.size [some e,some p]) x y aV∧Sl BW aW (ZZ FN [] Z w.heap.size [some e,some p]) aF aG aR.1) gT ?vZ ?v0
     case vZ=>
      intro st;have pB:=(gW.bk.ext iL);have pC:=(mC.mv (Ah iL));have mV:=(iR.mv (Ah iL));have mW:=(iS.mv (Ah iL));have nO:=(jU.mv (Ah iL));exact⟨(0:Int),jI,qz st,qd st,sp st 3 rfl,sp st 7 mS,sp st 8 rfl,sp st 9 rfl,sp st 11 rfl,aAF,oZ,pB,pC,mV,mW,nO,g4⟩
     case v0=>
      rintro(_|bS) aAU aAV ⟨aP,jI,qY,qZ,pP,pQ,nP,pR,mE,sQ,pD,nQ,nR,j9,kA,lI,lJ⟩
      ·exact absurd (show none=some _ from jI) (by simp)
      rw[CX.eq_2] at jI;have d:=jI;clear jI;refine B2 (N:=183) qY qZ<|Af<|Af<|Ad<|wm rfl (v:=I aP) mE<|wm rfl (v:=.slice x aV.length y) nP<|wd rfl (fun st=>BX Tryz.underlying64 (ee st rfl))<|wd rfl (fun st=>Cq (ee st rfl) (ee st rfl))<|Ae<|Ac ?_;rcases Aq (decide (aP<(aV.length:Int))) with kB|kB
      ·replace d:=AF d kB;refine Ay rfl kB<|AY<|Ac<|Af<|Ba<|Af<|Ad<|wa rfl (v:=I 0) rfl<|wa rfl (v:=.bool false) rfl<|Ae<|Ac<|Af<|Ad<|wa rfl (v:=I 0) rfl<|Ae<|Ac<|Ba ?_;replace d:=bind_some d;obtain⟨z22,jK,d⟩:=d;refine Ce (fun dZ a aW=>(dZ=.ret∧∃iM,z22=.inl iM∧a.tmps.size=183∧a.defers=(X0).ds∧sl a 6=.bool iM∧Hp FN [] w [some e,some p] aW)∨(dZ=.exit 2∧∃iM,z22=.inr iM∧a.tmps.size=183∧a.defers=(X0).ds∧sl a 3=pt p 0∧sl a 7=pt e 0∧sl a 8=.slice x aV.length y∧sl a 9=.slice aF aR.1.length aG∧sl a 11=I aP∧Hp FN [] w [some e,some p] aW∧Bk aW p 63 #[I f.Am,I f.Ak,I f.Ao,I f.AA,.slice aI f.Ag.length aJ]∧Bk aW e 67 #[.slice g aC.Comes.length j,.slice q aC.Ao.length r]∧Sl AQ aW (ZZ FN [] Z w.heap.size [some e,some p]) aI aJ f.Ag∧Sl (Az .i64) aW (ZZ FN [] Z w.heap.size [some e,some p]) g j aC.Comes∧Sl Bo aW (ZZ FN [] Z w.heap.size [some e,some p]) q r aC.Ao∧Sl (BA (Az .i64)) aW (ZZ FN [] Z w.heap.size [some e,some p]) x y aV∧Sl BW aW (ZZ FN [] Z w.heap.size [some e,some p]) aF aG aR.1)) ?v1 ?v2
       case v1=>
        clear d;refine Cd (fun(bS:Nat) (a:Act) (aW:World)=>∃m,∃a2,∃aB,BC gT f aC aV aR aP bS m a2 aB=some z22∧a.tmps.size=183∧a.defers=(X0).ds∧sl a 3=pt p 0∧sl a 7=pt e 0∧sl a 8=.slice x aV.length y∧sl a 9=.slice aF aR.1.length aG∧sl a 11=I aP∧sl a 12=I m∧sl a 13=.bool a2∧sl a 14=I aB∧Hp FN [] w [some e,some p] aW∧Bk aW p 63 #[I f.Am,I f.Ak,I f.Ao,I f.AA,.slice aI f.Ag.length aJ]∧Bk aW e 67 #[.slice g aC.Comes.length j,.slice q aC.Ao.length r]∧Sl AQ aW (ZZ FN [] Z w.heap.size [some e,some p]) aI aJ f.Ag∧Sl (Az .i64) aW (ZZ FN [] Z w.heap.size [some e,some p]) g j aC.Comes∧Sl Bo aW (ZZ FN [] Z w.heap.size [some e,some p]) q r aC.Ao∧Sl (BA (Az .i64)) aW (ZZ FN [] Z w.heap.size [some e,some p]) x y aV∧Sl BW aW (ZZ FN [] Z w.heap.size [some e,some p]) aF aG aR.1) gT ?v3 ?v4
        case v3=>
         intro st;exact⟨(0:Int),false,(0:Int),jK,qz st,qd st,sp st 3 pP,sp st 7 pQ,sp st 8 nP,sp st 9 pR,sp st 11 mE,sp st 12 rfl,sp st 13 rfl,sp st 14 rfl,sQ,pD,nQ,nR,j9,kA,lI,lJ⟩
        case v4=>
         rintro(_|bS) aAW aAX ⟨m,a2,aB,jK,q0,q1,bH,bT,cC,cN,b3,cG,cH,b6,pS,jL,gX,a7,cO,aH,aN,aQ⟩
         ·exact absurd (show none=some _ from jK) (by simp)
         rw[BC.eq_2] at jK;have d:=jK;clear jK;refine B2 (N:=183) q0 q1<|Af<|Af<|Ad<|wm rfl (v:=I aB) b6<|wm rfl (v:=.slice x aV.length y) cC<|wm rfl (v:=I aP) b3 ?_;replace d:=Bt d;obtain⟨i23,sR,v5,v6,v7,d⟩:=d;obtain⟨aA9,aBA,_,v8,⟨q2,q3,rfl,aAG⟩,v9⟩:=Sl.Ed aN rfl v6;refine wd rfl (fun st=>Bv (k:=i23) Tryz.underlying64 EK (ee st rfl) v8 (ee st rfl) v5 v7)<|wd rfl (fun st=>BU (v:=.slice q2 sR.length q3) DB (ee st rfl) v9 rfl)<|wd rfl (fun st=>BX Tryz.underlying23 (ee st rfl))<|wd rfl (fun st=>Cq (ee st rfl) (ee st rfl))<|Ae<|Ac ?_;rcases Aq (decide (aB<(sR.length:Int))) with kC|kC
         ·replace d:=AF d kC;refine Ay rfl kC<|AY<|Ac<|Af<|Ba<|Af<|Ad<|wm rfl (v:=.slice x aV.length y) cC<|wm rfl (v:=I aP) b3 ?_;replace d:=Bt d;obtain⟨i25,aAH,wA,wB,wC,d⟩:=d;obtain⟨aBB,aBC,_,wD,⟨q4,q5,rfl,pT⟩,wE⟩:=Sl.Ed aN rfl wB;refine wd rfl (fun st=>Bv (k:=i25) Tryz.underlying64 EK (ee st rfl) wD (ee st rfl) wA wC)<|wd rfl (fun st=>BU (v:=.slice q4 aAH.length q5) DB (ee st rfl) wE rfl)<|wm rfl (v:=I aB) b6 ?_;replace d:=Bt d;obtain⟨i26,bF,wF,wG,wH,d⟩:=d;obtain⟨aBD,aBE,_,wI,rfl,wJ⟩:=Sl.Ed pT rfl wG;refine wd rfl (fun st=>Bv (k:=i26) Tryz.underlying23 C8 (ee st rfl) wI (ee st rfl) wF wH)<|wd rfl (fun st=>BU (v:=I bF) AP (ee st rfl) wJ rfl)<|wa rfl (v:=I bF) rfl<|Ae<|Ac<|Af<|Ad<|wm rfl (v:=.slice aF aR.1.length aG) cN<|wm rfl (v:=I bF) rfl ?_;replace d:=Bt d;obtain⟨i27,b,wK,wL,wM,d⟩:=d;obtain⟨aBF,aBG,_,wN,rfl,wO⟩:=Sl.elem aQ (by decide) wL;refine wd rfl (fun st=>Cf (k:=i27) Tryz.underlying70 El (ee st rfl) wN (ee st rfl) wK wM)<|wd rfl (fun st=>Dp (l:=[I b.On,I b.AD,.bool b.AM]) DU (ee st rfl) wO rfl rfl)<|we rfl (fun st=>BP (cs:= #[I 0,I 0,.bool false]) Hc rfl) ?_;rintro _ aBH ⟨s,rfl,aD⟩;have aE:=pS.nb aD;have aAI:=pS.BM aD;refine Bq rfl rfl (fun st=>Bg (n:=3) (l:=[I b.On,I b.AD,.bool b.AM]) (Ci:= #[I b.On,I b.AD,.bool b.AM]) (ee st rfl) (ee st rfl) El aD.bk rfl rfl (show 0+3≤3 by decide) (AW rfl) rfl) ?_;rintro _ iT z;have dO:=aE.gr z.gr 0 rfl;refine Ae<|Ac<|Af<|Af<|Ad<|wd rfl (fun st=>Ai (ee st rfl) (Eu _ _))<|wd rfl (fun st=>Ap (v:=I b.On) AP (ee st rfl) z.bk rfl)<|wd rfl (fun st=>Cq (ee st rfl) (ee st rfl))<|Ae<|Ac ?_;rcases Aq (decide (b.On<0)) with kD|kD
          ·replace d:=AF d kD;refine Ay rfl kD<|Af<|Af<|Ad<|wd rfl (fun st=>Ai (ee st rfl) (Eu _ _))<|wd rfl (fun st=>Ap (v:=I b.On) AP (ee st rfl) z.bk rfl)<|wd rfl (fun st=>Ev (ee st rfl) (ee st rfl))<|wm rfl (v:=.bool (b.On !=(-1))) rfl ?_;rcases Aq (b.On !=(-1)) with cP|cP
           ·replace d:=AF d cP;refine Aj (c:=true) rfl rfl (Ab rfl cP) (by decide) rfl (by decide)<|Aj (c:=true) rfl rfl (Ab rfl cP) (by decide) rfl (by decide)<|Aj (c:=true) rfl rfl (Ab rfl cP) (by decide) rfl (by decide)<|wd rfl (fun st=>AT (v:=.bool true) (ee st rfl) cP (ee st rfl))<|wm rfl (v:=.bool true) rfl<|Aj rfl rfl rfl (by decide) rfl (by decide)<|Aj rfl rfl rfl (by decide) rfl (by decide)<|wd rfl (fun st=>AT (v:=.bool true) (ee st rfl) rfl (ee st rfl))<|Ae<|Ac<|Ay rfl rfl<|Af<|Ad<|wa rfl (v:=.bool false) rfl<|Ae<|Ac<|AI<|As<|As<|AV<|As<|As ?_;have wP:Hp FN [] w [some e,some p] iT:=dO.erase 0;obtain rfl:=Option.some.inj d;refine BD (fun st=>?_);exact .inl ⟨rfl,false,rfl,qz st,qd st,sp st 6 rfl,wP⟩
           ·replace d:=AG d cP;refine Aw rfl rfl (Ab rfl cP) rfl (by decide) (fun st=>Ai (ee st rfl) (Cu _ _))<|Aw rfl rfl (Ab rfl cP) rfl (by decide) (fun st=>Ap (v:=I b.AD) AP (ee st rfl) z.bk rfl)<|Aw rfl rfl (Ab rfl cP) rfl (by decide) (fun st=>Ev (ee st rfl) (ee st rfl))<|wd rfl (fun st=>Bd (v:=.bool (b.AD !=(-1))) (ee st rfl) cP (ee st rfl))<|wm rfl (v:=.bool (b.AD !=(-1))) rfl ?_;rcases Aq (b.AD !=(-1)) with d0|d0
            ·replace d:=AF d d0;refine Aj (c:=true) rfl rfl (Ab rfl d0) (by decide) rfl (by decide)<|Aj (c:=true) rfl rfl (Ab rfl d0) (by decide) rfl (by decide)<|wd rfl (fun st=>AT (v:=.bool true) (ee st rfl) d0 (ee st rfl))<|Ae<|Ac<|Ay rfl rfl<|Af<|Ad<|wa rfl (v:=.bool false) rfl<|Ae<|Ac<|AI<|As<|As<|AV<|As<|As ?_;have wQ:Hp FN [] w [some e,some p] iT:=dO.erase 0;obtain rfl:=Option.some.inj d;refine BD (fun st=>?_);exact .inl ⟨rfl,false,rfl,qz st,qd st,sp st 6 rfl,wQ⟩
            ·replace d:=AG d d0;refine Aw rfl rfl (Ab rfl d0) rfl (by decide) (fun st=>Ai (ee st rfl) (FM _ _))<|Aw rfl rfl (Ab rfl d0) rfl (by decide) (fun st=>Ap (v:=.bool b.AM) FA (ee st rfl) z.bk rfl)<|wd rfl (fun st=>Bd (v:=.bool b.AM) (ee st rfl) d0 (ee st rfl))<|Ae<|Ac ?_;rcases Aq (b.AM) with kE|kE
             ·replace d:=AF d kE;refine Ay rfl kE<|Af<|Ad<|wa rfl (v:=.bool false) rfl<|Ae<|Ac<|AI<|As<|As<|AV<|As<|As ?_;have wR:Hp FN [] w [some e,some p] iT:=dO.erase 0;obtain rfl:=Option.some.inj d;refine BD (fun st=>?_);exact .inl ⟨rfl,false,rfl,qz st,qd st,sp st 6 rfl,wR⟩
             ·replace d:=AG d kE;refine AH rfl kE<|AY<|Ac<|Af<|Ad<|wa rfl (v:=.bool true) rfl<|Ae<|Ac<|B1<|AK<|Bx<|Ac<|Ad<|wm rfl (v:=I aB) b6 ?_;replace d:=AU d;obtain⟨wS,d⟩:=d;refine wd rfl (fun st=>Bu (ee st rfl) (ee st rfl) wS)<|wa rfl (v:=I (aB+1)) rfl<|Ae ?_;have wT:Hp FN [] w [some e,some p] iT:=dO.erase 0;have pU:=((jL.ext aD.gr).gr z.gr (aE.ne 2 0 rfl rfl rfl));have nX:=((gX.ext aD.gr).gr z.gr (aE.ne 1 0 rfl rfl rfl));have nY:Sl AQ iT (ZZ FN [] Z w.heap.size [some e,some p]) aI aJ f.Ag:=(((a7.mv (Ax aD)).mv (aE.AS z.gr 0 rfl)).mv (AB 0));have lK:Sl (Az .i64) iT (ZZ FN [] Z w.heap.size [some e,some p]) g j aC.Comes:=(((cO.mv (Ax aD)).mv (aE.AS z.gr 0 rfl)).mv (AB 0));have lL:Sl Bo iT (ZZ FN [] Z w.heap.size [some e,some p]) q r aC.Ao:=(((aH.mv (Ax aD)).mv (aE.AS z.gr 0 rfl)).mv (AB 0));have mX:Sl (BA (Az .i64)) iT (ZZ FN [] Z w.heap.size [some e,some p]) x y aV:=(((aN.mv (Ax aD)).mv (aE.AS z.gr 0 rfl)).mv (AB 0));have mY:Sl BW iT (ZZ FN [] Z w.heap.size [some e,some p]) aF aG aR.1:=(((aQ.mv (Ax aD)).mv (aE.AS z.gr 0 rfl)).mv (AB 0));refine Bs bS (Nat.lt_succ_self _) (fun st=>?_);exact⟨m,true,(aB+1),d,qz st,qd st,sp st 3 bH,sp st 7 bT,sp st 8 cC,sp st 9 cN,sp st 11 b3,sp st 12 cG,sp st 13 rfl,sp st 14 rfl,wT,pU,nX,nY,lK,lL,mX,mY⟩
          ·replace d:=AG d kD;refine AH rfl kD<|AY<|Ac<|Af<|Af ?_;rcases Aq (a2) with aA|aA
           ·replace d:=AF d aA;refine B3 36 [Kc (.bool a2),Kc (.bool a2),Kc undef,Kc undef,Kc undef,Kc undef,Kc undef,Kc undef,Kc undef,Kc undef,Kc undef,Kc undef,Kc (.bool true),Kc (.bool true),Kc undef,Kc undef,Kc undef,Kc undef,Kc undef,Kc (.bool true),Kc (.bool true),Kc undef,Kc undef,Kc undef,Kc undef,Kc undef,Kc (.bool true),Kc (.bool true),Kc undef,Kc undef,Kc undef,Kc undef,Kc undef,Kc undef,Kc undef,Kc undef] mixed rfl rfl
                (Aa (od rfl (fun _=>rfl) (fun K=>AN (es ((K.out 13 rfl).trans cH))))
                (Aa (od rfl (fun _=>rfl) (fun K=>AN (es (K.An 0 90 rfl rfl))))
                (Aa (A5 (c:=true) rfl rfl rfl (by decide) (fun a' w' ph K=>Ab (K.An 1 91 rfl rfl) aA) (fun _=>rfl))
                (Aa (A5 (c:=true) rfl rfl rfl (by decide) (fun a' w' ph K=>Ab (K.An 1 91 rfl rfl) aA) (fun _=>rfl))
                (Aa (A5 (c:=true) rfl rfl rfl (by decide) (fun a' w' ph K=>Ab (K.An 1 91 rfl rfl) aA) (fun _=>rfl))
                (Aa (A5 (c:=true) rfl rfl rfl (by decide) (fun a' w' ph K=>Ab (K.An 1 91 rfl rfl) aA) (fun _=>rfl))
                (Aa (A5 (c:=true) rfl rfl rfl (by decide) (fun a' w' ph K=>Ab (K.An 1 91 rfl rfl) aA) (fun _=>rfl))
                (Aa (A5 (c:=true) rfl rfl rfl (by decide) (fun a' w' ph K=>Ab (K.An 1 91 rfl rfl) aA) (fun _=>rfl))
                (Aa (A5 (c:=true) rfl rfl rfl (by decide) (fun a' w' ph K=>Ab (K.An 1 91 rfl rfl) aA) (fun _=>rfl))
                (Aa (A5 (c:=true) rfl rfl rfl (by decide) (fun a' w' ph K=>Ab (K.An 1 91 rfl rfl) aA) (fun _=>rfl))
                (Aa (A5 (c:=true) rfl rfl rfl (by decide) (fun a' w' ph K=>Ab (K.An 1 91 rfl rfl) aA) (fun _=>rfl))
                (Aa (A5 (c:=true) rfl rfl rfl (by decide) (fun a' w' ph K=>Ab (K.An 1 91 rfl rfl) aA) (fun _=>rfl))
                (Aa (od rfl (fun _=>rfl) (fun K=>AT (es (K.An 1 91 rfl rfl)) aA (ec (v:=.bool true))))
                (Aa (od rfl (fun _=>rfl) (fun K=>AN (es (K.An 12 102 rfl rfl))))
                (Aa (A5 (c:=true) rfl rfl rfl (by decide) (fun a' w' ph K=>(show sl a' 103=.bool true from K.An 13 103 rfl rfl)) (fun _=>rfl))
                (Aa (A5 (c:=true) rfl rfl rfl (by decide) (fun a' w' ph K=>(show sl a' 103=.bool true from K.An 13 103 rfl rfl)) (fun _=>rfl))
                (Aa (A5 (c:=true) rfl rfl rfl (by decide) (fun a' w' ph K=>(show sl a' 103=.bool true from K.An 13 103 rfl rfl)) (fun _=>rfl))
                (Aa (A5 (c:=true) rfl rfl rfl (by decide) (fun a' w' ph K=>(show sl a' 103=.bool true from K.An 13 103 rfl rfl)) (fun _=>rfl))
                (Aa (A5 (c:=true) rfl rfl rfl (by decide) (fun a' w' ph K=>(show sl a' 103=.bool true from K.An 13 103 rfl rfl)) (fun _=>rfl))
                (Aa (od rfl (fun _=>rfl) (fun K=>AT (es (K.An 13 103 rfl rfl)) rfl (ec (v:=.bool true))))
                (Aa (od rfl (fun _=>rfl) (fun K=>AN (es (K.An 19 109 rfl rfl))))
                (Aa (A5 (c:=true) rfl rfl rfl (by decide) (fun a' w' ph K=>(show sl a' 110=.bool true from K.An 20 110 rfl rfl)) (fun _=>rfl))
                (Aa (A5 (c:=true) rfl rfl rfl (by decide) (fun a' w' ph K=>(show sl a' 110=.bool true from K.An 20 110 rfl rfl)) (fun _=>rfl))
                (Aa (A5 (c:=true) rfl rfl rfl (by decide) (fun a' w' ph K=>(show sl a' 110=.bool true from K.An 20 110 rfl rfl)) (fun _=>rfl))
                (Aa (A5 (c:=true) rfl rfl rfl (by decide) (fun a' w' ph K=>(show sl a' 110=.bool true from K.An 20 110 rfl rfl)) (fun _=>rfl))
                (Aa (A5 (c:=true) rfl rfl rfl (by decide) (fun a' w' ph K=>(show sl a' 110=.bool true from K.An 20 110 rfl rfl)) (fun _=>rfl))
                (Aa (od rfl (fun _=>rfl) (fun K=>AT (es (K.An 20 110 rfl rfl)) rfl (ec (v:=.bool true))))
                (Aa (od rfl (fun _=>rfl) (fun K=>AN (es (K.An 26 116 rfl rfl))))
                (Aa (A5 (c:=true) rfl rfl rfl (by decide) (fun a' w' ph K=>(show sl a' 117=.bool true from K.An 27 117 rfl rfl)) (fun _=>rfl))
                (Aa (A5 (c:=true) rfl rfl rfl (by decide) (fun a' w' ph K=>(show sl a' 117=.bool true from K.An 27 117 rfl rfl)) (fun _=>rfl))
                (Aa (A5 (c:=true) rfl rfl rfl (by decide) (fun a' w' ph K=>(show sl a' 117=.bool true from K.An 27 117 rfl rfl)) (fun _=>rfl))
                (Aa (A5 (c:=true) rfl rfl rfl (by decide) (fun a' w' ph K=>(show sl a' 117=.bool true from K.An 27 117 rfl rfl)) (fun _=>rfl))
                (Aa (D4 rfl rfl rfl (fun a' w' ph K=>K.An 31 121 rfl rfl) (fun _=>rfl))
                (Aa (D4 rfl rfl rfl (fun a' w' ph K=>K.An 31 121 rfl rfl) (fun _=>rfl))
                (Aa (D4 rfl rfl rfl (fun a' w' ph K=>K.An 31 121 rfl rfl) (fun _=>rfl))
                (Aa (D4 rfl rfl rfl (fun a' w' ph K=>K.An 31 121 rfl rfl) (fun _=>rfl))
                (BI _))))))))))))))))))))))))))))))))))))) ?_
            intro gS;rintro _ rfl _ rfl _ rfl _ rfl _ rfl _ rfl _ rfl _ rfl _ rfl _ rfl _ rfl _ rfl _ rfl _ rfl _ rfl _ rfl _ rfl _ rfl _ rfl _ rfl _ rfl _ rfl _ rfl _ rfl _ rfl _ rfl _ rfl _ rfl _ rfl _ rfl _ rfl _ rfl _ rfl _ rfl _ rfl _ rfl o;have wU:=dO.ext o;refine CY rfl rfl rfl rfl (by decide)<|Aj rfl rfl rfl (by decide) rfl (by decide)<|wd rfl (fun st=>AT (v:=.bool true) (ee st rfl) rfl (ee st rfl))<|wm rfl (v:=.bool true) rfl<|Aj rfl rfl rfl (by decide) rfl (by decide)<|Aj rfl rfl rfl (by decide) rfl (by decide)<|Aj rfl rfl rfl (by decide) rfl (by decide)<|CY rfl rfl rfl rfl (by decide)<|CY rfl rfl rfl rfl (by decide)<|CY rfl rfl rfl rfl (by decide)<|Aj rfl rfl rfl (by decide) rfl (by decide)<|wd rfl (fun st=>AT (v:=.bool true) (ee st rfl) rfl (ee st rfl))<|Ae<|Ac<|Ay rfl rfl<|Af<|Ad<|wa rfl (v:=.bool false) rfl<|Ae<|Ac<|AI<|As<|AV<|As<|As ?_;have wV:Hp FN [] w [some e,some p] gS:=wU.erase 0;obtain rfl:=Option.some.inj d;refine BD (fun st=>?_);exact .inl ⟨rfl,false,rfl,qz st,qd st,sp st 6 rfl,wV⟩
           ·replace d:=AG d aA;have aM:=((gX.ext aD.gr).gr z.gr (aE.ne 1 0 rfl rfl rfl));replace d:=Bt d;obtain⟨i37,aL,kF,wW,kG,d⟩:=d;have aX:=((cO.mv (Ax aD)).mv (aE.AS z.gr 0 rfl));obtain⟨dP,dQ,_,kH,rfl,kI⟩:=Sl.Ed aX rfl wW;rcases Aq (b.On !=(max m aL)) with aO|aO
            ·replace d:=AF d aO;refine B3 36 [Kc (.bool a2),Kc (.bool a2),Kc (pt s 0),Kc (I b.On),Kc (I m),Kc (pt e 0),Kc (.slice g aC.Comes.length j),Kc (I bF),Kc (pt dP (dQ+i37)),Kc (I aL),Kc (I (max m aL)),Kc (.bool (b.On !=(max m aL))),Kc (.bool (b.On !=(max m aL))),Kc (.bool (b.On !=(max m aL))),Kc undef,Kc undef,Kc undef,Kc undef,Kc undef,Kc (.bool true),Kc (.bool true),Kc undef,Kc undef,Kc undef,Kc undef,Kc undef,Kc (.bool true),Kc (.bool true),Kc undef,Kc undef,Kc undef,Kc undef,Kc undef,Kc undef,Kc undef,Kc undef] mixed rfl rfl
                 (Aa (od rfl (fun _=>rfl) (fun K=>AN (es ((K.out 13 rfl).trans cH))))
                 (Aa (od rfl (fun _=>rfl) (fun K=>AN (es (K.An 0 90 rfl rfl))))
                 (Aa (AE rfl rfl rfl (fun _=>rfl) (fun a' w' ph K=>Ab (K.An 1 91 rfl rfl) aA) (fun a' w' ph K=>Ai (es ((K.out 16 rfl).trans rfl)) (Eu _ _)))
                 (Aa (AE rfl rfl rfl (fun _=>rfl) (fun a' w' ph K=>Ab (K.An 1 91 rfl rfl) aA) (fun a' w' ph K=>Ap AP (es (K.An 2 92 rfl rfl)) (z.bk.ext K.Bc) rfl))
                 (Aa (AE rfl rfl rfl (fun _=>rfl) (fun a' w' ph K=>Ab (K.An 1 91 rfl rfl) aA) (fun a' w' ph K=>AN (es ((K.out 12 rfl).trans cG))))
                 (Aa (AE rfl rfl rfl (fun _=>rfl) (fun a' w' ph K=>Ab (K.An 1 91 rfl rfl) aA) (fun a' w' ph K=>Ai (es ((K.out 7 rfl).trans bT)) (HI _ _)))
                 (Aa (AE rfl rfl rfl (fun _=>rfl) (fun a' w' ph K=>Ab (K.An 1 91 rfl rfl) aA) (fun a' w' ph K=>Ap DB (es (K.An 5 95 rfl rfl)) (aM.ext K.Bc) rfl))
                 (Aa (AE rfl rfl rfl (fun _=>rfl) (fun a' w' ph K=>Ab (K.An 1 91 rfl rfl) aA) (fun a' w' ph K=>AN (es ((K.out 15 rfl).trans rfl))))
                 (Aa (AE rfl rfl rfl (fun _=>rfl) (fun a' w' ph K=>Ab (K.An 1 91 rfl rfl) aA) (fun a' w' ph K=>Bv (k:=i37) Tryz.underlying23 C8 (es (K.An 6 96 rfl rfl)) kH (es (K.An 7 97 rfl rfl)) kF kG))
                 (Aa (AE rfl rfl rfl (fun _=>rfl) (fun a' w' ph K=>Ab (K.An 1 91 rfl rfl) aA) (fun a' w' ph K=>BU AP (es (K.An 8 98 rfl rfl)) (kI.mv (Ah K.Bc)) rfl))
                 (Aa (AE rfl rfl rfl (fun _=>rfl) (fun a' w' ph K=>Ab (K.An 1 91 rfl rfl) aA) (fun a' w' ph K=>KK (es (K.An 4 94 rfl rfl)) (es (K.An 9 99 rfl rfl))))
                 (Aa (AE rfl rfl rfl (fun _=>rfl) (fun a' w' ph K=>Ab (K.An 1 91 rfl rfl) aA) (fun a' w' ph K=>Ev (es (K.An 3 93 rfl rfl)) (es (K.An 10 100 rfl rfl))))
                 (Aa (od rfl (fun _=>rfl) (fun K=>Bd (es (K.An 1 91 rfl rfl)) aA (es (K.An 11 101 rfl rfl))))
                 (Aa (od rfl (fun _=>rfl) (fun K=>AN (es (K.An 12 102 rfl rfl))))
                 (Aa (A5 (c:=true) rfl rfl rfl (by decide) (fun a' w' ph K=>Ab (K.An 13 103 rfl rfl) aO) (fun _=>rfl))
                 (Aa (A5 (c:=true) rfl rfl rfl (by decide) (fun a' w' ph K=>Ab (K.An 13 103 rfl rfl) aO) (fun _=>rfl))
                 (Aa (A5 (c:=true) rfl rfl rfl (by decide) (fun a' w' ph K=>Ab (K.An 13 103 rfl rfl) aO) (fun _=>rfl))
                 (Aa (A5 (c:=true) rfl rfl rfl (by decide) (fun a' w' ph K=>Ab (K.An 13 103 rfl rfl) aO) (fun _=>rfl))
                 (Aa (A5 (c:=true) rfl rfl rfl (by decide) (fun a' w' ph K=>Ab (K.An 13 103 rfl rfl) aO) (fun _=>rfl))
                 (Aa (od rfl (fun _=>rfl) (fun K=>AT (es (K.An 13 103 rfl rfl)) aO (ec (v:=.bool true))))
                 (Aa (od rfl (fun _=>rfl) (fun K=>AN (es (K.An 19 109 rfl rfl))))
                 (Aa (A5 (c:=true) rfl rfl rfl (by decide) (fun a' w' ph K=>(show sl a' 110=.bool true from K.An 20 110 rfl rfl)) (fun _=>rfl))
                 (Aa (A5 (c:=true) rfl rfl rfl (by decide) (fun a' w' ph K=>(show sl a' 110=.bool true from K.An 20 110 rfl rfl)) (fun _=>rfl))
                 (Aa (A5 (c:=true) rfl rfl rfl (by decide) (fun a' w' ph K=>(show sl a' 110=.bool true from K.An 20 110 rfl rfl)) (fun _=>rfl))
                 (Aa (A5 (c:=true) rfl rfl rfl (by decide) (fun a' w' ph K=>(show sl a' 110=.bool true from K.An 20 110 rfl rfl)) (fun _=>rfl))
                 (Aa (A5 (c:=true) rfl rfl rfl (by decide) (fun a' w' ph K=>(show sl a' 110=.bool true from K.An 20 110 rfl rfl)) (fun _=>rfl))
                 (Aa (od rfl (fun _=>rfl) (fun K=>AT (es (K.An 20 110 rfl rfl)) rfl (ec (v:=.bool true))))
                 (Aa (od rfl (fun _=>rfl) (fun K=>AN (es (K.An 26 116 rfl rfl))))
                 (Aa (A5 (c:=true) rfl rfl rfl (by decide) (fun a' w' ph K=>(show sl a' 117=.bool true from K.An 27 117 rfl rfl)) (fun _=>rfl))
                 (Aa (A5 (c:=true) rfl rfl rfl (by decide) (fun a' w' ph K=>(show sl a' 117=.bool true from K.An 27 117 rfl rfl)) (fun _=>rfl))
                 (Aa (A5 (c:=true) rfl rfl rfl (by decide) (fun a' w' ph K=>(show sl a' 117=.bool true from K.An 27 117 rfl rfl)) (fun _=>rfl))
                 (Aa (A5 (c:=true) rfl rfl rfl (by decide) (fun a' w' ph K=>(show sl a' 117=.bool true from K.An 27 117 rfl rfl)) (fun _=>rfl))
                 (Aa (D4 rfl rfl rfl (fun a' w' ph K=>K.An 31 121 rfl rfl) (fun _=>rfl))
                 (Aa (D4 rfl rfl rfl (fun a' w' ph K=>K.An 31 121 rfl rfl) (fun _=>rfl))
                 (Aa (D4 rfl rfl rfl (fun a' w' ph K=>K.An 31 121 rfl rfl) (fun _=>rfl))
                 (Aa (D4 rfl rfl rfl (fun a' w' ph K=>K.An 31 121 rfl rfl) (fun _=>rfl))
                 (BI _))))))))))))))))))))))))))))))))))))) ?_
             intro gS;rintro _ rfl _ rfl _ rfl _ rfl _ rfl _ rfl _ rfl _ rfl _ rfl _ rfl _ rfl _ rfl _ rfl _ rfl _ rfl _ rfl _ rfl _ rfl _ rfl _ rfl _ rfl _ rfl _ rfl _ rfl _ rfl _ rfl _ rfl _ rfl _ rfl _ rfl _ rfl _ rfl _ rfl _ rfl _ rfl _ rfl o;have wX:=dO.ext o;refine CY rfl rfl rfl rfl (by decide)<|Aj rfl rfl rfl (by decide) rfl (by decide)<|wd rfl (fun st=>AT (v:=.bool true) (ee st rfl) rfl (ee st rfl))<|wm rfl (v:=.bool true) rfl<|Aj rfl rfl rfl (by decide) rfl (by decide)<|Aj rfl rfl rfl (by decide) rfl (by decide)<|Aj rfl rfl rfl (by decide) rfl (by decide)<|CY rfl rfl rfl rfl (by decide)<|CY rfl rfl rfl rfl (by decide)<|CY rfl rfl rfl rfl (by decide)<|Aj rfl rfl rfl (by decide) rfl (by decide)<|wd rfl (fun st=>AT (v:=.bool true) (ee st rfl) rfl (ee st rfl))<|Ae<|Ac<|Ay rfl rfl<|Af<|Ad<|wa rfl (v:=.bool false) rfl<|Ae<|Ac<|AI<|As<|AV<|As<|As ?_;have wY:Hp FN [] w [some e,some p] gS:=wX.erase 0;obtain rfl:=Option.some.inj d;refine BD (fun st=>?_);exact .inl ⟨rfl,false,rfl,qz st,qd st,sp st 6 rfl,wY⟩
            ·replace d:=AG d aO;have aS:=((jL.ext aD.gr).gr z.gr (aE.ne 2 0 rfl rfl rfl));rcases Aq (decide (f.Am<b.On)) with aU|aU
             ·replace d:=AF d aU;refine B3 36 [Kc (.bool a2),Kc (.bool a2),Kc (pt s 0),Kc (I b.On),Kc (I m),Kc (pt e 0),Kc (.slice g aC.Comes.length j),Kc (I bF),Kc (pt dP (dQ+i37)),Kc (I aL),Kc (I (max m aL)),Kc (.bool (b.On !=(max m aL))),Kc (.bool (b.On !=(max m aL))),Kc (.bool (b.On !=(max m aL))),Kc (pt s 0),Kc (I b.On),Kc (pt p 0),Kc (I f.Am),Kc (.bool (decide (f.Am<b.On))),Kc (.bool (decide (f.Am<b.On))),Kc (.bool (decide (f.Am<b.On))),Kc undef,Kc undef,Kc undef,Kc undef,Kc undef,Kc (.bool true),Kc (.bool true),Kc undef,Kc undef,Kc undef,Kc undef,Kc undef,Kc undef,Kc undef,Kc undef] mixed rfl rfl
                  (Aa (od rfl (fun _=>rfl) (fun K=>AN (es ((K.out 13 rfl).trans cH))))
                  (Aa (od rfl (fun _=>rfl) (fun K=>AN (es (K.An 0 90 rfl rfl))))
                  (Aa (AE rfl rfl rfl (fun _=>rfl) (fun a' w' ph K=>Ab (K.An 1 91 rfl rfl) aA) (fun a' w' ph K=>Ai (es ((K.out 16 rfl).trans rfl)) (Eu _ _)))
                  (Aa (AE rfl rfl rfl (fun _=>rfl) (fun a' w' ph K=>Ab (K.An 1 91 rfl rfl) aA) (fun a' w' ph K=>Ap AP (es (K.An 2 92 rfl rfl)) (z.bk.ext K.Bc) rfl))
                  (Aa (AE rfl rfl rfl (fun _=>rfl) (fun a' w' ph K=>Ab (K.An 1 91 rfl rfl) aA) (fun a' w' ph K=>AN (es ((K.out 12 rfl).trans cG))))
                  (Aa (AE rfl rfl rfl (fun _=>rfl) (fun a' w' ph K=>Ab (K.An 1 91 rfl rfl) aA) (fun a' w' ph K=>Ai (es ((K.out 7 rfl).trans bT)) (HI _ _)))
                  (Aa (AE rfl rfl rfl (fun _=>rfl) (fun a' w' ph K=>Ab (K.An 1 91 rfl rfl) aA) (fun a' w' ph K=>Ap DB (es (K.An 5 95 rfl rfl)) (aM.ext K.Bc) rfl))
                  (Aa (AE rfl rfl rfl (fun _=>rfl) (fun a' w' ph K=>Ab (K.An 1 91 rfl rfl) aA) (fun a' w' ph K=>AN (es ((K.out 15 rfl).trans rfl))))
                  (Aa (AE rfl rfl rfl (fun _=>rfl) (fun a' w' ph K=>Ab (K.An 1 91 rfl rfl) aA) (fun a' w' ph K=>Bv (k:=i37) Tryz.underlying23 C8 (es (K.An 6 96 rfl rfl)) kH (es (K.An 7 97 rfl rfl)) kF kG))
                  (Aa (AE rfl rfl rfl (fun _=>rfl) (fun a' w' ph K=>Ab (K.An 1 91 rfl rfl) aA) (fun a' w' ph K=>BU AP (es (K.An 8 98 rfl rfl)) (kI.mv (Ah K.Bc)) rfl))
                  (Aa (AE rfl rfl rfl (fun _=>rfl) (fun a' w' ph K=>Ab (K.An 1 91 rfl rfl) aA) (fun a' w' ph K=>KK (es (K.An 4 94 rfl rfl)) (es (K.An 9 99 rfl rfl))))
                  (Aa (AE rfl rfl rfl (fun _=>rfl) (fun a' w' ph K=>Ab (K.An 1 91 rfl rfl) aA) (fun a' w' ph K=>Ev (es (K.An 3 93 rfl rfl)) (es (K.An 10 100 rfl rfl))))
                  (Aa (od rfl (fun _=>rfl) (fun K=>Bd (es (K.An 1 91 rfl rfl)) aA (es (K.An 11 101 rfl rfl))))
                  (Aa (od rfl (fun _=>rfl) (fun K=>AN (es (K.An 12 102 rfl rfl))))
                  (Aa (AE rfl rfl rfl (fun _=>rfl) (fun a' w' ph K=>Ab (K.An 13 103 rfl rfl) aO) (fun a' w' ph K=>Ai (es ((K.out 16 rfl).trans rfl)) (Eu _ _)))
                  (Aa (AE rfl rfl rfl (fun _=>rfl) (fun a' w' ph K=>Ab (K.An 13 103 rfl rfl) aO) (fun a' w' ph K=>Ap AP (es (K.An 14 104 rfl rfl)) (z.bk.ext K.Bc) rfl))
                  (Aa (AE rfl rfl rfl (fun _=>rfl) (fun a' w' ph K=>Ab (K.An 13 103 rfl rfl) aO) (fun a' w' ph K=>Ai (es ((K.out 3 rfl).trans bH)) (DP _ _)))
                  (Aa (AE rfl rfl rfl (fun _=>rfl) (fun a' w' ph K=>Ab (K.An 13 103 rfl rfl) aO) (fun a' w' ph K=>Ap AP (es (K.An 16 106 rfl rfl)) (aS.ext K.Bc) rfl))
                  (Aa (AE rfl rfl rfl (fun _=>rfl) (fun a' w' ph K=>Ab (K.An 13 103 rfl rfl) aO) (fun a' w' ph K=>E0 (es (K.An 15 105 rfl rfl)) (es (K.An 17 107 rfl rfl))))
                  (Aa (od rfl (fun _=>rfl) (fun K=>Bd (es (K.An 13 103 rfl rfl)) aO (es (K.An 18 108 rfl rfl))))
                  (Aa (od rfl (fun _=>rfl) (fun K=>AN (es (K.An 19 109 rfl rfl))))
                  (Aa (A5 (c:=true) rfl rfl rfl (by decide) (fun a' w' ph K=>Ab (K.An 20 110 rfl rfl) aU) (fun _=>rfl))
                  (Aa (A5 (c:=true) rfl rfl rfl (by decide) (fun a' w' ph K=>Ab (K.An 20 110 rfl rfl) aU) (fun _=>rfl))
                  (Aa (A5 (c:=true) rfl rfl rfl (by decide) (fun a' w' ph K=>Ab (K.An 20 110 rfl rfl) aU) (fun _=>rfl))
                  (Aa (A5 (c:=true) rfl rfl rfl (by decide) (fun a' w' ph K=>Ab (K.An 20 110 rfl rfl) aU) (fun _=>rfl))
                  (Aa (A5 (c:=true) rfl rfl rfl (by decide) (fun a' w' ph K=>Ab (K.An 20 110 rfl rfl) aU) (fun _=>rfl))
                  (Aa (od rfl (fun _=>rfl) (fun K=>AT (es (K.An 20 110 rfl rfl)) aU (ec (v:=.bool true))))
                  (Aa (od rfl (fun _=>rfl) (fun K=>AN (es (K.An 26 116 rfl rfl))))
                  (Aa (A5 (c:=true) rfl rfl rfl (by decide) (fun a' w' ph K=>(show sl a' 117=.bool true from K.An 27 117 rfl rfl)) (fun _=>rfl))
                  (Aa (A5 (c:=true) rfl rfl rfl (by decide) (fun a' w' ph K=>(show sl a' 117=.bool true from K.An 27 117 rfl rfl)) (fun _=>rfl))
                  (Aa (A5 (c:=true) rfl rfl rfl (by decide) (fun a' w' ph K=>(show sl a' 117=.bool true from K.An 27 117 rfl rfl)) (fun _=>rfl))
                  (Aa (A5 (c:=true) rfl rfl rfl (by decide) (fun a' w' ph K=>(show sl a' 117=.bool true from K.An 27 117 rfl rfl)) (fun _=>rfl))
                  (Aa (D4 rfl rfl rfl (fun a' w' ph K=>K.An 31 121 rfl rfl) (fun _=>rfl))
                  (Aa (D4 rfl rfl rfl (fun a' w' ph K=>K.An 31 121 rfl rfl) (fun _=>rfl))
                  (Aa (D4 rfl rfl rfl (fun a' w' ph K=>K.An 31 121 rfl rfl) (fun _=>rfl))
                  (Aa (D4 rfl rfl rfl (fun a' w' ph K=>K.An 31 121 rfl rfl) (fun _=>rfl))
                  (BI _))))))))))))))))))))))))))))))))))))) ?_
              intro gS;rintro _ rfl _ rfl _ rfl _ rfl _ rfl _ rfl _ rfl _ rfl _ rfl _ rfl _ rfl _ rfl _ rfl _ rfl _ rfl _ rfl _ rfl _ rfl _ rfl _ rfl _ rfl _ rfl _ rfl _ rfl _ rfl _ rfl _ rfl _ rfl _ rfl _ rfl _ rfl _ rfl _ rfl _ rfl _ rfl _ rfl o;have wZ:=dO.ext o;refine CY rfl rfl rfl rfl (by decide)<|Aj rfl rfl rfl (by decide) rfl (by decide)<|wd rfl (fun st=>AT (v:=.bool true) (ee st rfl) rfl (ee st rfl))<|wm rfl (v:=.bool true) rfl<|Aj rfl rfl rfl (by decide) rfl (by decide)<|Aj rfl rfl rfl (by decide) rfl (by decide)<|Aj rfl rfl rfl (by decide) rfl (by decide)<|CY rfl rfl rfl rfl (by decide)<|CY rfl rfl rfl rfl (by decide)<|CY rfl rfl rfl rfl (by decide)<|Aj rfl rfl rfl (by decide) rfl (by decide)<|wd rfl (fun st=>AT (v:=.bool true) (ee st rfl) rfl (ee st rfl))<|Ae<|Ac<|Ay rfl rfl<|Af<|Ad<|wa rfl (v:=.bool false) rfl<|Ae<|Ac<|AI<|As<|AV<|As<|As ?_;have w3:Hp FN [] w [some e,some p] gS:=wZ.erase 0;obtain rfl:=Option.some.inj d;refine BD (fun st=>?_);exact .inl ⟨rfl,false,rfl,qz st,qd st,sp st 6 rfl,w3⟩
             ·replace d:=AG d aU;rcases Aq (decide (f.Am<b.AD)) with bB|bB
              ·replace d:=AF d bB;refine B3 36 [Kc (.bool a2),Kc (.bool a2),Kc (pt s 0),Kc (I b.On),Kc (I m),Kc (pt e 0),Kc (.slice g aC.Comes.length j),Kc (I bF),Kc (pt dP (dQ+i37)),Kc (I aL),Kc (I (max m aL)),Kc (.bool (b.On !=(max m aL))),Kc (.bool (b.On !=(max m aL))),Kc (.bool (b.On !=(max m aL))),Kc (pt s 0),Kc (I b.On),Kc (pt p 0),Kc (I f.Am),Kc (.bool (decide (f.Am<b.On))),Kc (.bool (decide (f.Am<b.On))),Kc (.bool (decide (f.Am<b.On))),Kc (pt s 1),Kc (I b.AD),Kc (pt p 0),Kc (I f.Am),Kc (.bool (decide (f.Am<b.AD))),Kc (.bool (decide (f.Am<b.AD))),Kc (.bool (decide (f.Am<b.AD))),Kc undef,Kc undef,Kc undef,Kc undef,Kc undef,Kc undef,Kc undef,Kc undef] mixed rfl rfl
                   (Aa (od rfl (fun _=>rfl) (fun K=>AN (es ((K.out 13 rfl).trans cH))))
                   (Aa (od rfl (fun _=>rfl) (fun K=>AN (es (K.An 0 90 rfl rfl))))
                   (Aa (AE rfl rfl rfl (fun _=>rfl) (fun a' w' ph K=>Ab (K.An 1 91 rfl rfl) aA) (fun a' w' ph K=>Ai (es ((K.out 16 rfl).trans rfl)) (Eu _ _)))
                   (Aa (AE rfl rfl rfl (fun _=>rfl) (fun a' w' ph K=>Ab (K.An 1 91 rfl rfl) aA) (fun a' w' ph K=>Ap AP (es (K.An 2 92 rfl rfl)) (z.bk.ext K.Bc) rfl))
                   (Aa (AE rfl rfl rfl (fun _=>rfl) (fun a' w' ph K=>Ab (K.An 1 91 rfl rfl) aA) (fun a' w' ph K=>AN (es ((K.out 12 rfl).trans cG))))
                   (Aa (AE rfl rfl rfl (fun _=>rfl) (fun a' w' ph K=>Ab (K.An 1 91 rfl rfl) aA) (fun a' w' ph K=>Ai (es ((K.out 7 rfl).trans bT)) (HI _ _)))
                   (Aa (AE rfl rfl rfl (fun _=>rfl) (fun a' w' ph K=>Ab (K.An 1 91 rfl rfl) aA) (fun a' w' ph K=>Ap DB (es (K.An 5 95 rfl rfl)) (aM.ext K.Bc) rfl))
                   (Aa (AE rfl rfl rfl (fun _=>rfl) (fun a' w' ph K=>Ab (K.An 1 91 rfl rfl) aA) (fun a' w' ph K=>AN (es ((K.out 15 rfl).trans rfl))))
                   (Aa (AE rfl rfl rfl (fun _=>rfl) (fun a' w' ph K=>Ab (K.An 1 91 rfl rfl) aA) (fun a' w' ph K=>Bv (k:=i37) Tryz.underlying23 C8 (es (K.An 6 96 rfl rfl)) kH (es (K.An 7 97 rfl rfl)) kF kG))
                   (Aa (AE rfl rfl rfl (fun _=>rfl) (fun a' w' ph K=>Ab (K.An 1 91 rfl rfl) aA) (fun a' w' ph K=>BU AP (es (K.An 8 98 rfl rfl)) (kI.mv (Ah K.Bc)) rfl))
                   (Aa (AE rfl rfl rfl (fun _=>rfl) (fun a' w' ph K=>Ab (K.An 1 91 rfl rfl) aA) (fun a' w' ph K=>KK (es (K.An 4 94 rfl rfl)) (es (K.An 9 99 rfl rfl))))
                   (Aa (AE rfl rfl rfl (fun _=>rfl) (fun a' w' ph K=>Ab (K.An 1 91 rfl rfl) aA) (fun a' w' ph K=>Ev (es (K.An 3 93 rfl rfl)) (es (K.An 10 100 rfl rfl))))
                   (Aa (od rfl (fun _=>rfl) (fun K=>Bd (es (K.An 1 91 rfl rfl)) aA (es (K.An 11 101 rfl rfl))))
                   (Aa (od rfl (fun _=>rfl) (fun K=>AN (es (K.An 12 102 rfl rfl))))
                   (Aa (AE rfl rfl rfl (fun _=>rfl) (fun a' w' ph K=>Ab (K.An 13 103 rfl rfl) aO) (fun a' w' ph K=>Ai (es ((K.out 16 rfl).trans rfl)) (Eu _ _)))
                   (Aa (AE rfl rfl rfl (fun _=>rfl) (fun a' w' ph K=>Ab (K.An 13 103 rfl rfl) aO) (fun a' w' ph K=>Ap AP (es (K.An 14 104 rfl rfl)) (z.bk.ext K.Bc) rfl))
                   (Aa (AE rfl rfl rfl (fun _=>rfl) (fun a' w' ph K=>Ab (K.An 13 103 rfl rfl) aO) (fun a' w' ph K=>Ai (es ((K.out 3 rfl).trans bH)) (DP _ _)))
                   (Aa (AE rfl rfl rfl (fun _=>rfl) (fun a' w' ph K=>Ab (K.An 13 103 rfl rfl) aO) (fun a' w' ph K=>Ap AP (es (K.An 16 106 rfl rfl)) (aS.ext K.Bc) rfl))
                   (Aa (AE rfl rfl rfl (fun _=>rfl) (fun a' w' ph K=>Ab (K.An 13 103 rfl rfl) aO) (fun a' w' ph K=>E0 (es (K.An 15 105 rfl rfl)) (es (K.An 17 107 rfl rfl))))
                   (Aa (od rfl (fun _=>rfl) (fun K=>Bd (es (K.An 13 103 rfl rfl)) aO (es (K.An 18 108 rfl rfl))))
                   (Aa (od rfl (fun _=>rfl) (fun K=>AN (es (K.An 19 109 rfl rfl))))
                   (Aa (AE rfl rfl rfl (fun _=>rfl) (fun a' w' ph K=>Ab (K.An 20 110 rfl rfl) aU) (fun a' w' ph K=>Ai (es ((K.out 16 rfl).trans rfl)) (Cu _ _)))
                   (Aa (AE rfl rfl rfl (fun _=>rfl) (fun a' w' ph K=>Ab (K.An 20 110 rfl rfl) aU) (fun a' w' ph K=>Ap AP (es (K.An 21 111 rfl rfl)) (z.bk.ext K.Bc) rfl))
                   (Aa (AE rfl rfl rfl (fun _=>rfl) (fun a' w' ph K=>Ab (K.An 20 110 rfl rfl) aU) (fun a' w' ph K=>Ai (es ((K.out 3 rfl).trans bH)) (DP _ _)))
                   (Aa (AE rfl rfl rfl (fun _=>rfl) (fun a' w' ph K=>Ab (K.An 20 110 rfl rfl) aU) (fun a' w' ph K=>Ap AP (es (K.An 23 113 rfl rfl)) (aS.ext K.Bc) rfl))
                   (Aa (AE rfl rfl rfl (fun _=>rfl) (fun a' w' ph K=>Ab (K.An 20 110 rfl rfl) aU) (fun a' w' ph K=>E0 (es (K.An 22 112 rfl rfl)) (es (K.An 24 114 rfl rfl))))
                   (Aa (od rfl (fun _=>rfl) (fun K=>Bd (es (K.An 20 110 rfl rfl)) aU (es (K.An 25 115 rfl rfl))))
                   (Aa (od rfl (fun _=>rfl) (fun K=>AN (es (K.An 26 116 rfl rfl))))
                   (Aa (A5 (c:=true) rfl rfl rfl (by decide) (fun a' w' ph K=>Ab (K.An 27 117 rfl rfl) bB) (fun _=>rfl))
                   (Aa (A5 (c:=true) rfl rfl rfl (by decide) (fun a' w' ph K=>Ab (K.An 27 117 rfl rfl) bB) (fun _=>rfl))
                   (Aa (A5 (c:=true) rfl rfl rfl (by decide) (fun a' w' ph K=>Ab (K.An 27 117 rfl rfl) bB) (fun _=>rfl))
                   (Aa (A5 (c:=true) rfl rfl rfl (by decide) (fun a' w' ph K=>Ab (K.An 27 117 rfl rfl) bB) (fun _=>rfl))
                   (Aa (D4 rfl rfl rfl (fun a' w' ph K=>K.An 31 121 rfl rfl) (fun _=>rfl))
                   (Aa (D4 rfl rfl rfl (fun a' w' ph K=>K.An 31 121 rfl rfl) (fun _=>rfl))
                   (Aa (D4 rfl rfl rfl (fun a' w' ph K=>K.An 31 121 rfl rfl) (fun _=>rfl))
                   (Aa (D4 rfl rfl rfl (fun a' w' ph K=>K.An 31 121 rfl rfl) (fun _=>rfl))
                   (BI _))))))))))))))))))))))))))))))))))))) ?_
               intro gS;rintro _ rfl _ rfl _ rfl _ rfl _ rfl _ rfl _ rfl _ rfl _ rfl _ rfl _ rfl _ rfl _ rfl _ rfl _ rfl _ rfl _ rfl _ rfl _ rfl _ rfl _ rfl _ rfl _ rfl _ rfl _ rfl _ rfl _ rfl _ rfl _ rfl _ rfl _ rfl _ rfl _ rfl _ rfl _ rfl _ rfl o;have w4:=dO.ext o;refine CY rfl rfl rfl rfl (by decide)<|Aj (c:=true) rfl rfl (Ab rfl bB) (by decide) rfl (by decide)<|wd rfl (fun st=>AT (v:=.bool true) (ee st rfl) bB (ee st rfl))<|wm rfl (v:=.bool true) rfl<|Aj rfl rfl rfl (by decide) rfl (by decide)<|Aj rfl rfl rfl (by decide) rfl (by decide)<|Aj rfl rfl rfl (by decide) rfl (by decide)<|CY rfl rfl rfl rfl (by decide)<|CY rfl rfl rfl rfl (by decide)<|CY rfl rfl rfl rfl (by decide)<|Aj rfl rfl rfl (by decide) rfl (by decide)<|wd rfl (fun st=>AT (v:=.bool true) (ee st rfl) rfl (ee st rfl))<|Ae<|Ac<|Ay rfl rfl<|Af<|Ad<|wa rfl (v:=.bool false) rfl<|Ae<|Ac<|AI<|As<|AV<|As<|As ?_;have w5:Hp FN [] w [some e,some p] gS:=w4.erase 0;obtain rfl:=Option.some.inj d;refine BD (fun st=>?_);exact .inl ⟨rfl,false,rfl,qz st,qd st,sp st 6 rfl,w5⟩
              ·replace d:=AG d bB;rcases Aq (b.AD !=(-1)) with bZ|bZ
               ·replace d:=AF d bZ;refine B3 36 [Kc (.bool a2),Kc (.bool a2),Kc (pt s 0),Kc (I b.On),Kc (I m),Kc (pt e 0),Kc (.slice g aC.Comes.length j),Kc (I bF),Kc (pt dP (dQ+i37)),Kc (I aL),Kc (I (max m aL)),Kc (.bool (b.On !=(max m aL))),Kc (.bool (b.On !=(max m aL))),Kc (.bool (b.On !=(max m aL))),Kc (pt s 0),Kc (I b.On),Kc (pt p 0),Kc (I f.Am),Kc (.bool (decide (f.Am<b.On))),Kc (.bool (decide (f.Am<b.On))),Kc (.bool (decide (f.Am<b.On))),Kc (pt s 1),Kc (I b.AD),Kc (pt p 0),Kc (I f.Am),Kc (.bool (decide (f.Am<b.AD))),Kc (.bool (decide (f.Am<b.AD))),Kc (.bool (decide (f.Am<b.AD))),Kc (pt s 1),Kc (I b.AD),Kc (.bool (b.AD !=(-1))),Kc (.bool (b.AD !=(-1))),Kc (pt s 1),Kc (I b.AD),Kc (pt s 0),Kc (I b.On)] mixed rfl rfl
                    (Aa (od rfl (fun _=>rfl) (fun K=>AN (es ((K.out 13 rfl).trans cH))))
                    (Aa (od rfl (fun _=>rfl) (fun K=>AN (es (K.An 0 90 rfl rfl))))
                    (Aa (AE rfl rfl rfl (fun _=>rfl) (fun a' w' ph K=>Ab (K.An 1 91 rfl rfl) aA) (fun a' w' ph K=>Ai (es ((K.out 16 rfl).trans rfl)) (Eu _ _)))
                    (Aa (AE rfl rfl rfl (fun _=>rfl) (fun a' w' ph K=>Ab (K.An 1 91 rfl rfl) aA) (fun a' w' ph K=>Ap AP (es (K.An 2 92 rfl rfl)) (z.bk.ext K.Bc) rfl))
                    (Aa (AE rfl rfl rfl (fun _=>rfl) (fun a' w' ph K=>Ab (K.An 1 91 rfl rfl) aA) (fun a' w' ph K=>AN (es ((K.out 12 rfl).trans cG))))
                    (Aa (AE rfl rfl rfl (fun _=>rfl) (fun a' w' ph K=>Ab (K.An 1 91 rfl rfl) aA) (fun a' w' ph K=>Ai (es ((K.out 7 rfl).trans bT)) (HI _ _)))
                    (Aa (AE rfl rfl rfl (fun _=>rfl) (fun a' w' ph K=>Ab (K.An 1 91 rfl rfl) aA) (fun a' w' ph K=>Ap DB (es (K.An 5 95 rfl rfl)) (aM.ext K.Bc) rfl))
                    (Aa (AE rfl rfl rfl (fun _=>rfl) (fun a' w' ph K=>Ab (K.An 1 91 rfl rfl) aA) (fun a' w' ph K=>AN (es ((K.out 15 rfl).trans rfl))))
                    (Aa (AE rfl rfl rfl (fun _=>rfl) (fun a' w' ph K=>Ab (K.An 1 91 rfl rfl) aA) (fun a' w' ph K=>Bv (k:=i37) Tryz.underlying23 C8 (es (K.An 6 96 rfl rfl)) kH (es (K.An 7 97 rfl rfl)) kF kG))
                    (Aa (AE rfl rfl rfl (fun _=>rfl) (fun a' w' ph K=>Ab (K.An 1 91 rfl rfl) aA) (fun a' w' ph K=>BU AP (es (K.An 8 98 rfl rfl)) (kI.mv (Ah K.Bc)) rfl))
                    (Aa (AE rfl rfl rfl (fun _=>rfl) (fun a' w' ph K=>Ab (K.An 1 91 rfl rfl) aA) (fun a' w' ph K=>KK (es (K.An 4 94 rfl rfl)) (es (K.An 9 99 rfl rfl))))
                    (Aa (AE rfl rfl rfl (fun _=>rfl) (fun a' w' ph K=>Ab (K.An 1 91 rfl rfl) aA) (fun a' w' ph K=>Ev (es (K.An 3 93 rfl rfl)) (es (K.An 10 100 rfl rfl))))
                    (Aa (od rfl (fun _=>rfl) (fun K=>Bd (es (K.An 1 91 rfl rfl)) aA (es (K.An 11 101 rfl rfl))))
                    (Aa (od rfl (fun _=>rfl) (fun K=>AN (es (K.An 12 102 rfl rfl))))
                    (Aa (AE rfl rfl rfl (fun _=>rfl) (fun a' w' ph K=>Ab (K.An 13 103 rfl rfl) aO) (fun a' w' ph K=>Ai (es ((K.out 16 rfl).trans rfl)) (Eu _ _)))
                    (Aa (AE rfl rfl rfl (fun _=>rfl) (fun a' w' ph K=>Ab (K.An 13 103 rfl rfl) aO) (fun a' w' ph K=>Ap AP (es (K.An 14 104 rfl rfl)) (z.bk.ext K.Bc) rfl))
                    (Aa (AE rfl rfl rfl (fun _=>rfl) (fun a' w' ph K=>Ab (K.An 13 103 rfl rfl) aO) (fun a' w' ph K=>Ai (es ((K.out 3 rfl).trans bH)) (DP _ _)))
                    (Aa (AE rfl rfl rfl (fun _=>rfl) (fun a' w' ph K=>Ab (K.An 13 103 rfl rfl) aO) (fun a' w' ph K=>Ap AP (es (K.An 16 106 rfl rfl)) (aS.ext K.Bc) rfl))
                    (Aa (AE rfl rfl rfl (fun _=>rfl) (fun a' w' ph K=>Ab (K.An 13 103 rfl rfl) aO) (fun a' w' ph K=>E0 (es (K.An 15 105 rfl rfl)) (es (K.An 17 107 rfl rfl))))
                    (Aa (od rfl (fun _=>rfl) (fun K=>Bd (es (K.An 13 103 rfl rfl)) aO (es (K.An 18 108 rfl rfl))))
                    (Aa (od rfl (fun _=>rfl) (fun K=>AN (es (K.An 19 109 rfl rfl))))
                    (Aa (AE rfl rfl rfl (fun _=>rfl) (fun a' w' ph K=>Ab (K.An 20 110 rfl rfl) aU) (fun a' w' ph K=>Ai (es ((K.out 16 rfl).trans rfl)) (Cu _ _)))
                    (Aa (AE rfl rfl rfl (fun _=>rfl) (fun a' w' ph K=>Ab (K.An 20 110 rfl rfl) aU) (fun a' w' ph K=>Ap AP (es (K.An 21 111 rfl rfl)) (z.bk.ext K.Bc) rfl))
                    (Aa (AE rfl rfl rfl (fun _=>rfl) (fun a' w' ph K=>Ab (K.An 20 110 rfl rfl) aU) (fun a' w' ph K=>Ai (es ((K.out 3 rfl).trans bH)) (DP _ _)))
                    (Aa (AE rfl rfl rfl (fun _=>rfl) (fun a' w' ph K=>Ab (K.An 20 110 rfl rfl) aU) (fun a' w' ph K=>Ap AP (es (K.An 23 113 rfl rfl)) (aS.ext K.Bc) rfl))
                    (Aa (AE rfl rfl rfl (fun _=>rfl) (fun a' w' ph K=>Ab (K.An 20 110 rfl rfl) aU) (fun a' w' ph K=>E0 (es (K.An 22 112 rfl rfl)) (es (K.An 24 114 rfl rfl))))
                    (Aa (od rfl (fun _=>rfl) (fun K=>Bd (es (K.An 20 110 rfl rfl)) aU (es (K.An 25 115 rfl rfl))))
                    (Aa (od rfl (fun _=>rfl) (fun K=>AN (es (K.An 26 116 rfl rfl))))
                    (Aa (AE rfl rfl rfl (fun _=>rfl) (fun a' w' ph K=>Ab (K.An 27 117 rfl rfl) bB) (fun a' w' ph K=>Ai (es ((K.out 16 rfl).trans rfl)) (Cu _ _)))
                    (Aa (AE rfl rfl rfl (fun _=>rfl) (fun a' w' ph K=>Ab (K.An 27 117 rfl rfl) bB) (fun a' w' ph K=>Ap AP (es (K.An 28 118 rfl rfl)) (z.bk.ext K.Bc) rfl))
                    (Aa (AE rfl rfl rfl (fun _=>rfl) (fun a' w' ph K=>Ab (K.An 27 117 rfl rfl) bB) (fun a' w' ph K=>Ev (es (K.An 29 119 rfl rfl)) (ec (v:=I (-1)))))
                    (Aa (AE rfl rfl rfl (fun _=>rfl) (fun a' w' ph K=>Ab (K.An 27 117 rfl rfl) bB) (fun a' w' ph K=>AN (es (K.An 30 120 rfl rfl))))
                    (Aa (AE rfl rfl rfl (fun _=>rfl) (fun a' w' ph K=>Ab (K.An 31 121 rfl rfl) bZ) (fun a' w' ph K=>Ai (es ((K.out 16 rfl).trans rfl)) (Cu _ _)))
                    (Aa (AE rfl rfl rfl (fun _=>rfl) (fun a' w' ph K=>Ab (K.An 31 121 rfl rfl) bZ) (fun a' w' ph K=>Ap AP (es (K.An 32 122 rfl rfl)) (z.bk.ext K.Bc) rfl))
                    (Aa (AE rfl rfl rfl (fun _=>rfl) (fun a' w' ph K=>Ab (K.An 31 121 rfl rfl) bZ) (fun a' w' ph K=>Ai (es ((K.out 16 rfl).trans rfl)) (Eu _ _)))
                    (Aa (AE rfl rfl rfl (fun _=>rfl) (fun a' w' ph K=>Ab (K.An 31 121 rfl rfl) bZ) (fun a' w' ph K=>Ap AP (es (K.An 34 124 rfl rfl)) (z.bk.ext K.Bc) rfl))
                    (BI _))))))))))))))))))))))))))))))))))))) ?_
                intro gS;rintro _ rfl _ rfl _ rfl _ rfl _ rfl _ rfl _ rfl _ rfl _ rfl _ rfl _ rfl _ rfl _ rfl _ rfl _ rfl _ rfl _ rfl _ rfl _ rfl _ rfl _ rfl _ rfl _ rfl _ rfl _ rfl _ rfl _ rfl _ rfl _ rfl _ rfl _ rfl _ rfl _ rfl _ rfl _ rfl _ rfl o;have mZ:=dO.ext o;refine Aw rfl rfl (Ab rfl bZ) rfl (by decide) (fun st=>Cq (ee st rfl) (ee st rfl))<|Aw rfl rfl (Ab rfl bB) rfl (by decide) (fun st=>AT (v:=.bool (decide (b.AD<b.On))) (ee st rfl) bZ (ee st rfl))<|wd rfl (fun st=>Bd (v:=.bool (decide (b.AD<b.On))) (ee st rfl) bB (ee st rfl))<|wm rfl (v:=.bool (decide (b.AD<b.On))) rfl ?_;rcases Aq (decide (b.AD<b.On)) with b1|b1
                ·replace d:=AF d b1;refine Aj (c:=true) rfl rfl (Ab rfl b1) (by decide) rfl (by decide)<|Aj (c:=true) rfl rfl (Ab rfl b1) (by decide) rfl (by decide)<|Aj (c:=true) rfl rfl (Ab rfl b1) (by decide) rfl (by decide)<|CY rfl rfl rfl rfl (by decide)<|CY rfl rfl rfl rfl (by decide)<|CY rfl rfl rfl rfl (by decide)<|Aj (c:=true) rfl rfl (Ab rfl b1) (by decide) rfl (by decide)<|wd rfl (fun st=>AT (v:=.bool true) (ee st rfl) b1 (ee st rfl))<|Ae<|Ac<|Ay rfl rfl<|Af<|Ad<|wa rfl (v:=.bool false) rfl<|Ae<|Ac<|AI<|As<|AV<|As<|As ?_;have w6:Hp FN [] w [some e,some p] gS:=mZ.erase 0;obtain rfl:=Option.some.inj d;refine BD (fun st=>?_);exact .inl ⟨rfl,false,rfl,qz st,qd st,sp st 6 rfl,w6⟩
                ·replace d:=AG d b1;refine Aw rfl rfl (Ab rfl b1) rfl (by decide) (fun st=>Ai (ee st rfl) (FM _ _)) ?_;have b4:=(z.bk.ext o);refine Aw rfl rfl (Ab rfl b1) rfl (by decide) (fun st=>Ap (v:=.bool b.AM) FA (ee st rfl) b4 rfl)<|Aw rfl rfl (Ab rfl b1) rfl (by decide) (fun st=>AN (v:=.bool b.AM) (ee st rfl)) ?_;rcases Aq (b.AM) with cQ|cQ
                 ·replace d:=AF d cQ;refine Aw rfl rfl (Ab rfl cQ) rfl (by decide) (fun st=>Ai (ee st rfl) (Cu _ _))<|Aw rfl rfl (Ab rfl cQ) rfl (by decide) (fun st=>Ap (v:=I b.AD) AP (ee st rfl) b4 rfl)<|Aw rfl rfl (Ab rfl cQ) rfl (by decide) (fun st=>Cq (ee st rfl) (ee st rfl))<|Aw rfl rfl (Ab rfl b1) rfl (by decide) (fun st=>AT (v:=.bool (decide (b.AD<0))) (ee st rfl) cQ (ee st rfl))<|wd rfl (fun st=>Bd (v:=.bool (decide (b.AD<0))) (ee st rfl) b1 (ee st rfl))<|Ae<|Ac ?_;rcases Aq (decide (b.AD<0)) with kJ|kJ
                  ·replace d:=AF d kJ;refine Ay rfl kJ<|Af<|Ad<|wa rfl (v:=.bool false) rfl<|Ae<|Ac<|AI<|As<|AV<|As<|As ?_;have w7:Hp FN [] w [some e,some p] gS:=mZ.erase 0;obtain rfl:=Option.some.inj d;refine BD (fun st=>?_);exact .inl ⟨rfl,false,rfl,qz st,qd st,sp st 6 rfl,w7⟩
                  ·replace d:=AG d kJ;refine AH rfl kJ<|AY<|Ac<|Af ?_;replace d:=AU d;obtain⟨w8,d⟩:=d;refine B3 7 [Kc (pt s 1),Kc (I b.AD),Kc (I (b.AD+1)),Kc (pt s 1),Kc (I b.AD),Kc (.bool (decide (b.AD<0))),Kc (I (b.AD+1))] mixed rfl rfl
                       (Aa (od rfl (fun _=>rfl) (fun K=>Ai (es ((K.out 16 rfl).trans rfl)) (Cu _ _)))
                       (Aa (od rfl (fun _=>rfl) (fun K=>Ap AP (es (K.An 0 138 rfl rfl)) (b4.ext K.Bc) rfl))
                       (Aa (od rfl (fun _=>rfl) (fun K=>Bu (es (K.An 1 139 rfl rfl)) (ec (v:=I 1)) w8))
                       (Aa (od rfl (fun _=>rfl) (fun K=>Ai (es ((K.out 16 rfl).trans rfl)) (Cu _ _)))
                       (Aa (od rfl (fun _=>rfl) (fun K=>Ap AP (es (K.An 3 141 rfl rfl)) (b4.ext K.Bc) rfl))
                       (Aa (od rfl (fun _=>rfl) (fun K=>Cq (es (K.An 4 142 rfl rfl)) (ec (v:=I 0))))
                       (Aa (od rfl (fun _=>rfl) (fun K=>Hq (es (K.An 2 140 rfl rfl))))
                       (BI _)))))))) ?_
                   intro sS;rintro _ rfl _ rfl _ rfl _ rfl _ rfl _ rfl _ rfl bJ;have pV:=mZ.ext bJ;refine wa rfl (v:=.bool (decide (b.AD<0))) rfl<|Ae<|Ac<|Af<|Ad<|wa rfl (v:=I 0) rfl<|Ae<|Ac<|Af<|Af<|Ad<|wd rfl (fun st=>Ai (ee st rfl) (Eu _ _)) ?_;have cI:=(b4.ext bJ);refine wd rfl (fun st=>Ap (v:=I b.On) AP (ee st rfl) cI rfl)<|wa rfl (v:=I b.On) rfl<|Ae<|Ac<|Ba ?_;replace d:=bind_some d;obtain⟨mF,jM,d⟩:=d;refine Ce (fun dZ a aW=>(dZ=.exit 4∧a.tmps.size=183∧a.defers=(X0).ds∧sl a 3=pt p 0∧sl a 7=pt e 0∧sl a 8=.slice x aV.length y∧sl a 9=.slice aF aR.1.length aG∧sl a 11=I aP∧sl a 12=I (b.AD+1)∧sl a 13=.bool (decide (b.AD<0))∧sl a 14=I aB∧sl a 15=I bF∧sl a 16=pt s 0∧sl a 17=I mF∧sl a 92=pt s 0∧sl a 93=I b.On∧sl a 94=I m∧sl a 95=pt e 0∧sl a 96=.slice g aC.Comes.length j∧sl a 97=I bF∧sl a 98=pt dP (dQ+i37)∧sl a 99=I aL∧sl a 100=I (max m aL)∧sl a 101=.bool (b.On !=(max m aL))∧sl a 104=pt s 0∧sl a 105=I b.On∧sl a 106=pt p 0∧sl a 107=I f.Am∧sl a 108=.bool (decide (f.Am<b.On))∧sl a 111=pt s 1∧sl a 112=I b.AD∧sl a 113=pt p 0∧sl a 114=I f.Am∧sl a 115=.bool (decide (f.Am<b.AD))∧sl a 118=pt s 1∧sl a 119=I b.AD∧sl a 120=.bool (b.AD !=(-1))∧sl a 121=.bool (b.AD !=(-1))∧sl a 122=pt s 1∧sl a 123=I b.AD∧sl a 124=pt s 0∧sl a 125=I b.On∧sl a 126=.bool (decide (b.AD<b.On))∧sl a 127=.bool (decide (b.AD<b.On))∧sl a 130=pt s 2∧sl a 131=.bool b.AM∧sl a 132=.bool b.AM∧sl a 133=pt s 1∧sl a 134=I b.AD∧sl a 135=.bool (decide (b.AD<0))∧sl a 136=.bool (decide (b.AD<0))∧sS=aW)) ?w9 ?xA
                   case w9=>
                    clear d;refine Cd (fun(bS:Nat) (a:Act) (aW:World)=>∃cR,∃a3,Cg f aC b bS cR a3=some mF∧a.tmps.size=183∧a.defers=(X0).ds∧sl a 3=pt p 0∧sl a 7=pt e 0∧sl a 8=.slice x aV.length y∧sl a 9=.slice aF aR.1.length aG∧sl a 11=I aP∧sl a 12=I (b.AD+1)∧sl a 13=.bool (decide (b.AD<0))∧sl a 14=I aB∧sl a 15=I bF∧sl a 16=pt s 0∧sl a 17=I cR∧sl a 18=I a3∧sl a 92=pt s 0∧sl a 93=I b.On∧sl a 94=I m∧sl a 95=pt e 0∧sl a 96=.slice g aC.Comes.length j∧sl a 97=I bF∧sl a 98=pt dP (dQ+i37)∧sl a 99=I aL∧sl a 100=I (max m aL)∧sl a 101=.bool (b.On !=(max m aL))∧sl a 104=pt s 0∧sl a 105=I b.On∧sl a 106=pt p 0∧sl a 107=I f.Am∧sl a 108=.bool (decide (f.Am<b.On))∧sl a 111=pt s 1∧sl a 112=I b.AD∧sl a 113=pt p 0∧sl a 114=I f.Am∧sl a 115=.bool (decide (f.Am<b.AD))∧sl a 118=pt s 1∧sl a 119=I b.AD∧sl a 120=.bool (b.AD !=(-1))∧sl a 121=.bool (b.AD !=(-1))∧sl a 122=pt s 1∧sl a 123=I b.AD∧sl a 124=pt s 0∧sl a 125=I b.On∧sl a 126=.bool (decide (b.AD<b.On))∧sl a 127=.bool (decide (b.AD<b.On))∧sl a 130=pt s 2∧sl a 131=.bool b.AM∧sl a 132=.bool b.AM∧sl a 133=pt s 1∧sl a 134=I b.AD∧sl a 135=.bool (decide (b.AD<0))∧sl a 136=.bool (decide (b.AD<0))∧sS=aW) gT ?xB ?xC
                    case xB=>
                     intro st;exact⟨(0:Int),b.On,jM,qz st,qd st,sp st 3 bH,sp st 7 bT,sp st 8 cC,sp st 9 cN,sp st 11 b3,sp st 12 rfl,sp st 13 rfl,sp st 14 b6,sp st 15 rfl,sp st 16 rfl,sp st 17 rfl,sp st 18 rfl,sp st 92 rfl,sp st 93 rfl,sp st 94 rfl,sp st 95 rfl,sp st 96 rfl,sp st 97 rfl,sp st 98 rfl,sp st 99 rfl,sp st 100 rfl,sp st 101 rfl,sp st 104 rfl,sp st 105 rfl,sp st 106 rfl,sp st 107 rfl,sp st 108 rfl,sp st 111 rfl,sp st 112 rfl,sp st 113 rfl,sp st 114 rfl,sp st 115 rfl,sp st 118 rfl,sp st 119 rfl,sp st 120 rfl,sp st 121 rfl,sp st 122 rfl,sp st 123 rfl,sp st 124 rfl,sp st 125 rfl,sp st 126 rfl,sp st 127 rfl,sp st 130 rfl,sp st 131 rfl,sp st 132 rfl,sp st 133 rfl,sp st 134 rfl,sp st 135 rfl,sp st 136 rfl,rfl⟩
                    case xC=>
                     rintro(_|bS) aAY _ ⟨cR,a3,jM,q6,q7,gY,gZ,iU,iV,g5,g6,g7,g8,g9,dR,hA,dS,hB,hC,hD,hE,hF,hG,hH,hI,d1,d2,d3,d4,d5,d6,d7,d8,d9,eA,eB,eC,eD,eE,eG,eH,eI,eJ,eK,eL,eM,eN,eO,eP,eQ,eR,eS,eU,eV,rfl⟩
                     ·exact absurd (show none=some _ from jM) (by simp)
                     rw[Cg.eq_2] at jM;have d:=jM;clear jM;refine B2 (N:=183) q6 q7<|Af<|Af<|Ad<|wm rfl (v:=I a3) dS<|wd rfl (fun st=>Ai (ee st gY) (DP _ _)) ?_;have iW:=((aS.ext o).ext bJ);refine wd rfl (fun st=>Ap (v:=I f.Am) AP (ee st rfl) iW rfl)<|wd rfl (fun st=>Ee (ee st rfl) (ee st rfl))<|wm rfl (v:=.bool (decide (a3≤f.Am))) rfl ?_;rcases Aq (decide (a3≤f.Am)) with b7|b7
                     ·replace d:=AF d b7;refine Aw rfl rfl (Ab rfl b7) rfl (by decide) (fun st=>AN (v:=I a3) (ee st dS))<|Aw rfl rfl (Ab rfl b7) rfl (by decide) (fun st=>Ai (ee st dR) (Cu _ _))<|Aw rfl rfl (Ab rfl b7) rfl (by decide) (fun st=>Ap (v:=I b.AD) AP (ee st rfl) cI rfl)<|Aw rfl rfl (Ab rfl b7) rfl (by decide) (fun st=>Ee (ee st rfl) (ee st rfl))<|wd rfl (fun st=>AT (v:=.bool (decide (a3≤b.AD))) (ee st rfl) b7 (ee st rfl))<|Ae<|Ac ?_;rcases Aq (decide (a3≤b.AD)) with kK|kK
                      ·replace d:=AF d kK;refine Ay rfl kK<|AY<|Ac<|Af<|Ba<|Af<|Ad<|wd rfl (fun st=>Ai (ee st gZ) (HZ _ _)) ?_;have nZ:=((aM.ext o).ext bJ);refine wd rfl (fun st=>Ap (v:=.slice q aC.Ao.length r) FG (ee st rfl) nZ rfl)<|wm rfl (v:=I a3) dS ?_;replace d:=Bt d;obtain⟨i50,o0,xD,xE,xF,d⟩:=d;have lM:=((((aH.mv (Ax aD)).mv (aE.AS z.gr 0 rfl)).mv (Ah o)).mv (Ah bJ));obtain⟨aBI,aBJ,_,xG,rfl,xH⟩:=Sl.Ed lM rfl xE;refine wd rfl (fun st=>Bv (k:=i50) Tryz.underlying65 If (ee st rfl) xG (ee st rfl) xD xF)<|wd rfl (fun st=>BU (v:=.bool o0) FA (ee st rfl) xH rfl)<|wd rfl (fun st=>Dl (ee st rfl))<|Ae<|Ac ?_;rcases Aq (!o0) with iN|iN
                       ·replace d:=AF d iN;have z2:o0=false:=by simpa using iN
                        refine Ay rfl iN<|Ad<|wm rfl (v:=I cR) hA ?_;replace d:=AU d;obtain⟨xI,d⟩:=d;refine wd rfl (fun st=>Bu (ee st rfl) (ee st rfl) xI)<|wa rfl (v:=I (cR+1)) rfl<|Ae<|Bi<|Ac<|Ad<|wm rfl (v:=I a3) dS ?_;replace d:=AU d;obtain⟨xJ,d⟩:=d;refine wd rfl (fun st=>Bu (ee st rfl) (ee st rfl) xJ)<|wa rfl (v:=I (a3+1)) rfl<|Ae ?_;refine Bs bS (Nat.lt_succ_self _) (fun st=>?_);exact⟨(cR+1),(a3+1),d,qz st,qd st,sp st 3 gY,sp st 7 gZ,sp st 8 iU,sp st 9 iV,sp st 11 g5,sp st 12 g6,sp st 13 g7,sp st 14 g8,sp st 15 g9,sp st 16 dR,sp st 17 rfl,sp st 18 rfl,sp st 92 hB,sp st 93 hC,sp st 94 hD,sp st 95 hE,sp st 96 hF,sp st 97 hG,sp st 98 hH,sp st 99 hI,sp st 100 d1,sp st 101 d2,sp st 104 d3,sp st 105 d4,sp st 106 d5,sp st 107 d6,sp st 108 d7,sp st 111 d8,sp st 112 d9,sp st 113 eA,sp st 114 eB,sp st 115 eC,sp st 118 eD,sp st 119 eE,sp st 120 eG,sp st 121 eH,sp st 122 eI,sp st 123 eJ,sp st 124 eK,sp st 125 eL,sp st 126 eM,sp st 127 eN,sp st 130 eO,sp st 131 eP,sp st 132 eQ,sp st 133 eR,sp st 134 eS,sp st 135 eU,sp st 136 eV,rfl⟩
                       ·replace d:=AG d iN;have z3:o0=true:=by simpa using iN
                        refine AH rfl iN<|AY<|Bi<|Ac<|Ad<|wm rfl (v:=I a3) dS ?_;replace d:=AU d;obtain⟨xK,d⟩:=d;refine wd rfl (fun st=>Bu (ee st rfl) (ee st rfl) xK)<|wa rfl (v:=I (a3+1)) rfl<|Ae ?_;refine Bs bS (Nat.lt_succ_self _) (fun st=>?_);exact⟨cR,(a3+1),d,qz st,qd st,sp st 3 gY,sp st 7 gZ,sp st 8 iU,sp st 9 iV,sp st 11 g5,sp st 12 g6,sp st 13 g7,sp st 14 g8,sp st 15 g9,sp st 16 dR,sp st 17 hA,sp st 18 rfl,sp st 92 hB,sp st 93 hC,sp st 94 hD,sp st 95 hE,sp st 96 hF,sp st 97 hG,sp st 98 hH,sp st 99 hI,sp st 100 d1,sp st 101 d2,sp st 104 d3,sp st 105 d4,sp st 106 d5,sp st 107 d6,sp st 108 d7,sp st 111 d8,sp st 112 d9,sp st 113 eA,sp st 114 eB,sp st 115 eC,sp st 118 eD,sp st 119 eE,sp st 120 eG,sp st 121 eH,sp st 122 eI,sp st 123 eJ,sp st 124 eK,sp st 125 eL,sp st 126 eM,sp st 127 eN,sp st 130 eO,sp st 131 eP,sp st 132 eQ,sp st 133 eR,sp st 134 eS,sp st 135 eU,sp st 136 eV,rfl⟩
                      ·replace d:=AG d kK;refine AH rfl kK<|B1<|AK<|AK ?_;obtain rfl:=Option.some.inj d;refine BD (fun st=>?_);exact⟨rfl,qz st,qd st,sp st 3 gY,sp st 7 gZ,sp st 8 iU,sp st 9 iV,sp st 11 g5,sp st 12 g6,sp st 13 g7,sp st 14 g8,sp st 15 g9,sp st 16 dR,sp st 17 hA,sp st 92 hB,sp st 93 hC,sp st 94 hD,sp st 95 hE,sp st 96 hF,sp st 97 hG,sp st 98 hH,sp st 99 hI,sp st 100 d1,sp st 101 d2,sp st 104 d3,sp st 105 d4,sp st 106 d5,sp st 107 d6,sp st 108 d7,sp st 111 d8,sp st 112 d9,sp st 113 eA,sp st 114 eB,sp st 115 eC,sp st 118 eD,sp st 119 eE,sp st 120 eG,sp st 121 eH,sp st 122 eI,sp st 123 eJ,sp st 124 eK,sp st 125 eL,sp st 126 eM,sp st 127 eN,sp st 130 eO,sp st 131 eP,sp st 132 eQ,sp st 133 eR,sp st 134 eS,sp st 135 eU,sp st 136 eV,rfl⟩
                     ·replace d:=AG d b7;refine Aj (c:=false) rfl rfl (Ab rfl b7) (by decide) rfl (by decide)<|Aj (c:=false) rfl rfl (Ab rfl b7) (by decide) rfl (by decide)<|Aj (c:=false) rfl rfl (Ab rfl b7) (by decide) rfl (by decide)<|Aj (c:=false) rfl rfl (Ab rfl b7) (by decide) rfl (by decide)<|wd rfl (fun st=>Bd (v:=.bool false) (ee st rfl) b7 (ee st rfl))<|Ae<|Ac<|AH rfl rfl<|B1<|AK<|AK ?_;obtain rfl:=Option.some.inj d;refine BD (fun st=>?_);exact⟨rfl,qz st,qd st,sp st 3 gY,sp st 7 gZ,sp st 8 iU,sp st 9 iV,sp st 11 g5,sp st 12 g6,sp st 13 g7,sp st 14 g8,sp st 15 g9,sp st 16 dR,sp st 17 hA,sp st 92 hB,sp st 93 hC,sp st 94 hD,sp st 95 hE,sp st 96 hF,sp st 97 hG,sp st 98 hH,sp st 99 hI,sp st 100 d1,sp st 101 d2,sp st 104 d3,sp st 105 d4,sp st 106 d5,sp st 107 d6,sp st 108 d7,sp st 111 d8,sp st 112 d9,sp st 113 eA,sp st 114 eB,sp st 115 eC,sp st 118 eD,sp st 119 eE,sp st 120 eG,sp st 121 eH,sp st 122 eI,sp st 123 eJ,sp st 124 eK,sp st 125 eL,sp st 126 eM,sp st 127 eN,sp st 130 eO,sp st 131 eP,sp st 132 eQ,sp st 133 eR,sp st 134 eS,sp st 135 eU,sp st 136 eV,rfl⟩
                   case xA=>
                    rintro dZ aAN _ (⟨rfl,pW,pX,jN,mG,mH,mI,kL,kM,kN,kO,n0,eW,n1,xL,xM,xN,xO,xP,xQ,xR,xS,sT,sU,sV,sW,sX,sY,sZ,s0,s1,s2,s3,s4,s5,s6,s7,s8,s9,tA,tB,tC,tD,tE,tF,tG,tH,tI,tJ,tK,tL,rfl⟩);refine Ch (X:=X0) (N:=183) pW pX<|Bx<|Ac<|Af ?_;rcases Aq (decide ((0:Int)≤b.AD)) with bC|bC
                    ·replace d:=AF d bC;have iW:=((aS.ext o).ext bJ);replace d:=Bt d;obtain⟨i59,o1,xT,xU,xV,d⟩:=d;have kP:=((((a7.mv (Ax aD)).mv (aE.AS z.gr 0 rfl)).mv (Ah o)).mv (Ah bJ));obtain⟨tM,tN,_,xW,rfl,xX⟩:=Sl.elem kP (by decide) xU;refine B3 15 [Kc (pt s 2),Kc (.bool b.AM),Kc (pt s 1),Kc (I b.AD),Kc (.bool (decide ((0:Int)≤b.AD))),Kc (.bool (decide ((0:Int)≤b.AD))),Kc (I mF),Kc (pt p 4),Kc (.slice aI f.Ag.length aJ),Kc (I bF),Kc (pt tM (tN+i59*5)),Kc (pt tM (tN+i59*5+2)),Kc (I o1.AM),Kc (.bool (mF==o1.AM)),Kc (.bool (mF==o1.AM))] mixed rfl rfl
                         (Aa (od rfl (fun _=>rfl) (fun K=>Ai (es ((K.out 16 rfl).trans eW)) (FM _ _)))
                         (Aa (od rfl (fun _=>rfl) (fun K=>Ap FA (es (K.An 0 166 rfl rfl)) (cI.ext K.Bc) rfl))
                         (Aa (od rfl (fun _=>rfl) (fun K=>Ai (es ((K.out 16 rfl).trans eW)) (Cu _ _)))
                         (Aa (od rfl (fun _=>rfl) (fun K=>Ap AP (es (K.An 2 168 rfl rfl)) (cI.ext K.Bc) rfl))
                         (Aa (od rfl (fun _=>rfl) (fun K=>He (es (K.An 3 169 rfl rfl)) (ec (v:=I 0))))
                         (Aa (od rfl (fun _=>rfl) (fun K=>AN (es (K.An 4 170 rfl rfl))))
                         (Aa (AE rfl rfl rfl (fun _=>rfl) (fun a' w' ph K=>Ab (K.An 5 171 rfl rfl) bC) (fun a' w' ph K=>AN (es ((K.out 17 rfl).trans n1))))
                         (Aa (AE rfl rfl rfl (fun _=>rfl) (fun a' w' ph K=>Ab (K.An 5 171 rfl rfl) bC) (fun a' w' ph K=>Ai (es ((K.out 3 rfl).trans jN)) (Fc _ _)))
                         (Aa (AE rfl rfl rfl (fun _=>rfl) (fun a' w' ph K=>Ab (K.An 5 171 rfl rfl) bC) (fun a' w' ph K=>Ap FR (es (K.An 7 173 rfl rfl)) (iW.ext K.Bc) rfl))
                         (Aa (AE rfl rfl rfl (fun _=>rfl) (fun a' w' ph K=>Ab (K.An 5 171 rfl rfl) bC) (fun a' w' ph K=>AN (es ((K.out 15 rfl).trans n0))))
                         (Aa (AE rfl rfl rfl (fun _=>rfl) (fun a' w' ph K=>Ab (K.An 5 171 rfl rfl) bC) (fun a' w' ph K=>Cf (k:=i59) Tryz.underlying61 Ho (es (K.An 8 174 rfl rfl)) xW (es (K.An 9 175 rfl rfl)) xT xV))
                         (Aa (AE rfl rfl rfl (fun _=>rfl) (fun a' w' ph K=>Ab (K.An 5 171 rfl rfl) bC) (fun a' w' ph K=>Ai (es (K.An 10 176 rfl rfl)) (JX _ _ _)))
                         (Aa (AE rfl rfl rfl (fun _=>rfl) (fun a' w' ph K=>Ab (K.An 5 171 rfl rfl) bC) (fun a' w' ph K=>Gq AP (es (K.An 11 177 rfl rfl)) (xX.mv (Ah K.Bc)) rfl))
                         (Aa (AE rfl rfl rfl (fun _=>rfl) (fun a' w' ph K=>Ab (K.An 5 171 rfl rfl) bC) (fun a' w' ph K=>CP (es (K.An 6 172 rfl rfl)) (es (K.An 12 178 rfl rfl))))
                         (Aa (od rfl (fun _=>rfl) (fun K=>AT (es (K.An 5 171 rfl rfl)) bC (es (K.An 13 179 rfl rfl))))
                         (BI _)))))))))))))))) ?_
                     intro cS;rintro _ rfl _ rfl _ rfl _ rfl _ rfl _ rfl _ rfl _ rfl _ rfl _ rfl _ rfl _ rfl _ rfl _ rfl _ rfl bU;have pY:=pV.ext bU;refine wd rfl (fun st=>Il Iu (ee st rfl) (ee st rfl))<|Ae<|Ac ?_;rcases Aq (b.AM !=(mF==o1.AM)) with kQ|kQ
                     ·replace d:=AF d kQ;refine Ay rfl kQ<|Af<|Ad<|wa rfl (v:=.bool false) rfl<|Ae<|Ac<|AI<|AV<|As<|As ?_;have xY:Hp FN [] w [some e,some p] cS:=pY.erase 0;obtain rfl:=Option.some.inj d;refine BD (fun st=>?_);exact .inl ⟨rfl,false,rfl,qz st,qd st,sp st 6 rfl,xY⟩
                     ·replace d:=AG d kQ;refine AH rfl kQ<|AY<|Bi<|Ac<|Ad<|wm rfl (v:=I aB) kO ?_;replace d:=AU d;obtain⟨xZ,d⟩:=d;refine wd rfl (fun st=>Bu (ee st rfl) (ee st rfl) xZ)<|wa rfl (v:=I (aB+1)) rfl<|Ae ?_;have x0:Hp FN [] w [some e,some p] cS:=pY.erase 0;have pZ:=(iW.ext bU);have n2:=(((aM.ext o).ext bJ).ext bU);have n3:Sl AQ cS (ZZ FN [] Z w.heap.size [some e,some p]) aI aJ f.Ag:=((kP.mv (Ah bU)).mv (AB 0));have lN:Sl (Az .i64) cS (ZZ FN [] Z w.heap.size [some e,some p]) g j aC.Comes:=((((aX.mv (Ah o)).mv (Ah bJ)).mv (Ah bU)).mv (AB 0));have lO:Sl Bo cS (ZZ FN [] Z w.heap.size [some e,some p]) q r aC.Ao:=((((((aH.mv (Ax aD)).mv (aE.AS z.gr 0 rfl)).mv (Ah o)).mv (Ah bJ)).mv (Ah bU)).mv (AB 0));have m0:Sl (BA (Az .i64)) cS (ZZ FN [] Z w.heap.size [some e,some p]) x y aV:=((((((aN.mv (Ax aD)).mv (aE.AS z.gr 0 rfl)).mv (Ah o)).mv (Ah bJ)).mv (Ah bU)).mv (AB 0));have m1:Sl BW cS (ZZ FN [] Z w.heap.size [some e,some p]) aF aG aR.1:=((((((aQ.mv (Ax aD)).mv (aE.AS z.gr 0 rfl)).mv (Ah o)).mv (Ah bJ)).mv (Ah bU)).mv (AB 0));refine Bs bS (Nat.lt_succ_self _) (fun st=>?_);exact⟨(b.AD+1),(decide (b.AD<0)),(aB+1),d,qz st,qd st,sp st 3 jN,sp st 7 mG,sp st 8 mH,sp st 9 mI,sp st 11 kL,sp st 12 kM,sp st 13 kN,sp st 14 rfl,x0,pZ,n2,n3,lN,lO,m0,m1⟩
                    ·replace d:=AG d bC;refine B3 15 [Kc (pt s 2),Kc (.bool b.AM),Kc (pt s 1),Kc (I b.AD),Kc (.bool (decide ((0:Int)≤b.AD))),Kc (.bool (decide ((0:Int)≤b.AD))),Kc undef,Kc undef,Kc undef,Kc undef,Kc undef,Kc undef,Kc undef,Kc undef,Kc (.bool false)] mixed rfl rfl
                         (Aa (od rfl (fun _=>rfl) (fun K=>Ai (es ((K.out 16 rfl).trans eW)) (FM _ _)))
                         (Aa (od rfl (fun _=>rfl) (fun K=>Ap FA (es (K.An 0 166 rfl rfl)) (cI.ext K.Bc) rfl))
                         (Aa (od rfl (fun _=>rfl) (fun K=>Ai (es ((K.out 16 rfl).trans eW)) (Cu _ _)))
                         (Aa (od rfl (fun _=>rfl) (fun K=>Ap AP (es (K.An 2 168 rfl rfl)) (cI.ext K.Bc) rfl))
                         (Aa (od rfl (fun _=>rfl) (fun K=>He (es (K.An 3 169 rfl rfl)) (ec (v:=I 0))))
                         (Aa (od rfl (fun _=>rfl) (fun K=>AN (es (K.An 4 170 rfl rfl))))
                         (Aa (A5 (c:=false) rfl rfl rfl (by decide) (fun a' w' ph K=>Ab (K.An 5 171 rfl rfl) bC) (fun _=>rfl))
                         (Aa (A5 (c:=false) rfl rfl rfl (by decide) (fun a' w' ph K=>Ab (K.An 5 171 rfl rfl) bC) (fun _=>rfl))
                         (Aa (A5 (c:=false) rfl rfl rfl (by decide) (fun a' w' ph K=>Ab (K.An 5 171 rfl rfl) bC) (fun _=>rfl))
                         (Aa (A5 (c:=false) rfl rfl rfl (by decide) (fun a' w' ph K=>Ab (K.An 5 171 rfl rfl) bC) (fun _=>rfl))
                         (Aa (A5 (c:=false) rfl rfl rfl (by decide) (fun a' w' ph K=>Ab (K.An 5 171 rfl rfl) bC) (fun _=>rfl))
                         (Aa (A5 (c:=false) rfl rfl rfl (by decide) (fun a' w' ph K=>Ab (K.An 5 171 rfl rfl) bC) (fun _=>rfl))
                         (Aa (A5 (c:=false) rfl rfl rfl (by decide) (fun a' w' ph K=>Ab (K.An 5 171 rfl rfl) bC) (fun _=>rfl))
                         (Aa (A5 (c:=false) rfl rfl rfl (by decide) (fun a' w' ph K=>Ab (K.An 5 171 rfl rfl) bC) (fun _=>rfl))
                         (Aa (od rfl (fun _=>rfl) (fun K=>Bd (es (K.An 5 171 rfl rfl)) bC (ec (v:=.bool false))))
                         (BI _)))))))))))))))) ?_
                     intro cS;rintro _ rfl _ rfl _ rfl _ rfl _ rfl _ rfl _ rfl _ rfl _ rfl _ rfl _ rfl _ rfl _ rfl _ rfl _ rfl bU;have p0:=pV.ext bU;refine wd rfl (fun st=>Il Iu (ee st rfl) (ee st rfl))<|Ae<|Ac ?_;rcases Aq (b.AM !=false) with kR|kR
                     ·replace d:=AF d kR;refine Ay rfl kR<|Af<|Ad<|wa rfl (v:=.bool false) rfl<|Ae<|Ac<|AI<|AV<|As<|As ?_;have x1:Hp FN [] w [some e,some p] cS:=p0.erase 0;obtain rfl:=Option.some.inj d;refine BD (fun st=>?_);exact .inl ⟨rfl,false,rfl,qz st,qd st,sp st 6 rfl,x1⟩
                     ·replace d:=AG d kR;refine AH rfl kR<|AY<|Bi<|Ac<|Ad<|wm rfl (v:=I aB) kO ?_;replace d:=AU d;obtain⟨x2,d⟩:=d;refine wd rfl (fun st=>Bu (ee st rfl) (ee st rfl) x2)<|wa rfl (v:=I (aB+1)) rfl<|Ae ?_;have x3:Hp FN [] w [some e,some p] cS:=p0.erase 0;have p1:=(((aS.ext o).ext bJ).ext bU);have n5:=(((aM.ext o).ext bJ).ext bU);have n6:Sl AQ cS (ZZ FN [] Z w.heap.size [some e,some p]) aI aJ f.Ag:=((((((a7.mv (Ax aD)).mv (aE.AS z.gr 0 rfl)).mv (Ah o)).mv (Ah bJ)).mv (Ah bU)).mv (AB 0));have lP:Sl (Az .i64) cS (ZZ FN [] Z w.heap.size [some e,some p]) g j aC.Comes:=((((aX.mv (Ah o)).mv (Ah bJ)).mv (Ah bU)).mv (AB 0));have lQ:Sl Bo cS (ZZ FN [] Z w.heap.size [some e,some p]) q r aC.Ao:=((((((aH.mv (Ax aD)).mv (aE.AS z.gr 0 rfl)).mv (Ah o)).mv (Ah bJ)).mv (Ah bU)).mv (AB 0));have m2:Sl (BA (Az .i64)) cS (ZZ FN [] Z w.heap.size [some e,some p]) x y aV:=((((((aN.mv (Ax aD)).mv (aE.AS z.gr 0 rfl)).mv (Ah o)).mv (Ah bJ)).mv (Ah bU)).mv (AB 0));have m3:Sl BW cS (ZZ FN [] Z w.heap.size [some e,some p]) aF aG aR.1:=((((((aQ.mv (Ax aD)).mv (aE.AS z.gr 0 rfl)).mv (Ah o)).mv (Ah bJ)).mv (Ah bU)).mv (AB 0));refine Bs bS (Nat.lt_succ_self _) (fun st=>?_);exact⟨(b.AD+1),(decide (b.AD<0)),(aB+1),d,qz st,qd st,sp st 3 jN,sp st 7 mG,sp st 8 mH,sp st 9 mI,sp st 11 kL,sp st 12 kM,sp st 13 kN,sp st 14 rfl,x3,p1,n5,n6,lP,lQ,m2,m3⟩
                 ·replace d:=AG d cQ;refine Aj (c:=false) rfl rfl (Ab rfl cQ) (by decide) rfl (by decide)<|Aj (c:=false) rfl rfl (Ab rfl cQ) (by decide) rfl (by decide)<|Aj (c:=false) rfl rfl (Ab rfl cQ) (by decide) rfl (by decide)<|Aw rfl rfl (Ab rfl b1) rfl (by decide) (fun st=>Bd (v:=.bool false) (ee st rfl) cQ (ee st rfl))<|wd rfl (fun st=>Bd (v:=.bool false) (ee st rfl) b1 (ee st rfl))<|Ae<|Ac<|AH rfl rfl<|AY<|Ac<|Af ?_;replace d:=AU d;obtain⟨x4,d⟩:=d;refine B3 7 [Kc (pt s 1),Kc (I b.AD),Kc (I (b.AD+1)),Kc (pt s 1),Kc (I b.AD),Kc (.bool (decide (b.AD<0))),Kc (I (b.AD+1))] mixed rfl rfl
                      (Aa (od rfl (fun _=>rfl) (fun K=>Ai (es ((K.out 16 rfl).trans rfl)) (Cu _ _)))
                      (Aa (od rfl (fun _=>rfl) (fun K=>Ap AP (es (K.An 0 138 rfl rfl)) (b4.ext K.Bc) rfl))
                      (Aa (od rfl (fun _=>rfl) (fun K=>Bu (es (K.An 1 139 rfl rfl)) (ec (v:=I 1)) x4))
                      (Aa (od rfl (fun _=>rfl) (fun K=>Ai (es ((K.out 16 rfl).trans rfl)) (Cu _ _)))
                      (Aa (od rfl (fun _=>rfl) (fun K=>Ap AP (es (K.An 3 141 rfl rfl)) (b4.ext K.Bc) rfl))
                      (Aa (od rfl (fun _=>rfl) (fun K=>Cq (es (K.An 4 142 rfl rfl)) (ec (v:=I 0))))
                      (Aa (od rfl (fun _=>rfl) (fun K=>Hq (es (K.An 2 140 rfl rfl))))
                      (BI _)))))))) ?_
                  intro tO;rintro _ rfl _ rfl _ rfl _ rfl _ rfl _ rfl _ rfl bK;have p2:=mZ.ext bK;refine wa rfl (v:=.bool (decide (b.AD<0))) rfl<|Ae<|Ac<|Af<|Ad<|wa rfl (v:=I 0) rfl<|Ae<|Ac<|Af<|Af<|Ad<|wd rfl (fun st=>Ai (ee st rfl) (Eu _ _)) ?_;have cJ:=(b4.ext bK);refine wd rfl (fun st=>Ap (v:=I b.On) AP (ee st rfl) cJ rfl)<|wa rfl (v:=I b.On) rfl<|Ae<|Ac<|Ba ?_;replace d:=bind_some d;obtain⟨mJ,jO,d⟩:=d;refine Ce (fun dZ a aW=>(dZ=.exit 4∧a.tmps.size=183∧a.defers=(X0).ds∧sl a 3=pt p 0∧sl a 7=pt e 0∧sl a 8=.slice x aV.length y∧sl a 9=.slice aF aR.1.length aG∧sl a 11=I aP∧sl a 12=I (b.AD+1)∧sl a 13=.bool (decide (b.AD<0))∧sl a 14=I aB∧sl a 15=I bF∧sl a 16=pt s 0∧sl a 17=I mJ∧sl a 92=pt s 0∧sl a 93=I b.On∧sl a 94=I m∧sl a 95=pt e 0∧sl a 96=.slice g aC.Comes.length j∧sl a 97=I bF∧sl a 98=pt dP (dQ+i37)∧sl a 99=I aL∧sl a 100=I (max m aL)∧sl a 101=.bool (b.On !=(max m aL))∧sl a 104=pt s 0∧sl a 105=I b.On∧sl a 106=pt p 0∧sl a 107=I f.Am∧sl a 108=.bool (decide (f.Am<b.On))∧sl a 111=pt s 1∧sl a 112=I b.AD∧sl a 113=pt p 0∧sl a 114=I f.Am∧sl a 115=.bool (decide (f.Am<b.AD))∧sl a 118=pt s 1∧sl a 119=I b.AD∧sl a 120=.bool (b.AD !=(-1))∧sl a 121=.bool (b.AD !=(-1))∧sl a 122=pt s 1∧sl a 123=I b.AD∧sl a 124=pt s 0∧sl a 125=I b.On∧sl a 126=.bool (decide (b.AD<b.On))∧sl a 127=.bool (decide (b.AD<b.On))∧sl a 130=pt s 2∧sl a 131=.bool b.AM∧sl a 132=.bool b.AM∧sl a 136=.bool false∧tO=aW)) ?x5 ?x6
                  case x5=>
                   clear d;refine Cd (fun(bS:Nat) (a:Act) (aW:World)=>∃cT,∃a4,CV f aC b bS cT a4=some mJ∧a.tmps.size=183∧a.defers=(X0).ds∧sl a 3=pt p 0∧sl a 7=pt e 0∧sl a 8=.slice x aV.length y∧sl a 9=.slice aF aR.1.length aG∧sl a 11=I aP∧sl a 12=I (b.AD+1)∧sl a 13=.bool (decide (b.AD<0))∧sl a 14=I aB∧sl a 15=I bF∧sl a 16=pt s 0∧sl a 17=I cT∧sl a 18=I a4∧sl a 92=pt s 0∧sl a 93=I b.On∧sl a 94=I m∧sl a 95=pt e 0∧sl a 96=.slice g aC.Comes.length j∧sl a 97=I bF∧sl a 98=pt dP (dQ+i37)∧sl a 99=I aL∧sl a 100=I (max m aL)∧sl a 101=.bool (b.On !=(max m aL))∧sl a 104=pt s 0∧sl a 105=I b.On∧sl a 106=pt p 0∧sl a 107=I f.Am∧sl a 108=.bool (decide (f.Am<b.On))∧sl a 111=pt s 1∧sl a 112=I b.AD∧sl a 113=pt p 0∧sl a 114=I f.Am∧sl a 115=.bool (decide (f.Am<b.AD))∧sl a 118=pt s 1∧sl a 119=I b.AD∧sl a 120=.bool (b.AD !=(-1))∧sl a 121=.bool (b.AD !=(-1))∧sl a 122=pt s 1∧sl a 123=I b.AD∧sl a 124=pt s 0∧sl a 125=I b.On∧sl a 126=.bool (decide (b.AD<b.On))∧sl a 127=.bool (decide (b.AD<b.On))∧sl a 130=pt s 2∧sl a 131=.bool b.AM∧sl a 132=.bool b.AM∧sl a 136=.bool false∧tO=aW) gT ?x7 ?x8
                   case x7=>
                    intro st;exact⟨(0:Int),b.On,jO,qz st,qd st,sp st 3 bH,sp st 7 bT,sp st 8 cC,sp st 9 cN,sp st 11 b3,sp st 12 rfl,sp st 13 rfl,sp st 14 b6,sp st 15 rfl,sp st 16 rfl,sp st 17 rfl,sp st 18 rfl,sp st 92 rfl,sp st 93 rfl,sp st 94 rfl,sp st 95 rfl,sp st 96 rfl,sp st 97 rfl,sp st 98 rfl,sp st 99 rfl,sp st 100 rfl,sp st 101 rfl,sp st 104 rfl,sp st 105 rfl,sp st 106 rfl,sp st 107 rfl,sp st 108 rfl,sp st 111 rfl,sp st 112 rfl,sp st 113 rfl,sp st 114 rfl,sp st 115 rfl,sp st 118 rfl,sp st 119 rfl,sp st 120 rfl,sp st 121 rfl,sp st 122 rfl,sp st 123 rfl,sp st 124 rfl,sp st 125 rfl,sp st 126 rfl,sp st 127 rfl,sp st 130 rfl,sp st 131 rfl,sp st 132 rfl,sp st 136 rfl,rfl⟩
                   case x8=>
                    rintro(_|bS) aAZ _ ⟨cT,a4,jO,q8,q9,g0,g1,iX,iY,hJ,hL,hM,hN,hO,dT,hP,dU,hQ,hR,hS,hT,hU,hV,hW,hX,eX,eY,eZ,e0,e1,e2,e3,e4,e5,e6,e7,e8,e9,fA,fB,fC,fD,fE,fF,fG,fH,fI,fJ,fK,fL,fM,rfl⟩
                    ·exact absurd (show none=some _ from jO) (by simp)
                    rw[CV.eq_2] at jO;have d:=jO;clear jO;refine B2 (N:=183) q8 q9<|Af<|Af<|Ad<|wm rfl (v:=I a4) dU<|wd rfl (fun st=>Ai (ee st g0) (DP _ _)) ?_;have iZ:=((aS.ext o).ext bK);refine wd rfl (fun st=>Ap (v:=I f.Am) AP (ee st rfl) iZ rfl)<|wd rfl (fun st=>Ee (ee st rfl) (ee st rfl))<|wm rfl (v:=.bool (decide (a4≤f.Am))) rfl ?_;rcases Aq (decide (a4≤f.Am)) with b8|b8
                    ·replace d:=AF d b8;refine Aw rfl rfl (Ab rfl b8) rfl (by decide) (fun st=>AN (v:=I a4) (ee st dU))<|Aw rfl rfl (Ab rfl b8) rfl (by decide) (fun st=>Ai (ee st dT) (Cu _ _))<|Aw rfl rfl (Ab rfl b8) rfl (by decide) (fun st=>Ap (v:=I b.AD) AP (ee st rfl) cJ rfl)<|Aw rfl rfl (Ab rfl b8) rfl (by decide) (fun st=>Ee (ee st rfl) (ee st rfl))<|wd rfl (fun st=>AT (v:=.bool (decide (a4≤b.AD))) (ee st rfl) b8 (ee st rfl))<|Ae<|Ac ?_;rcases Aq (decide (a4≤b.AD)) with kS|kS
                     ·replace d:=AF d kS;refine Ay rfl kS<|AY<|Ac<|Af<|Ba<|Af<|Ad<|wd rfl (fun st=>Ai (ee st g1) (HZ _ _)) ?_;have n7:=((aM.ext o).ext bK);refine wd rfl (fun st=>Ap (v:=.slice q aC.Ao.length r) FG (ee st rfl) n7 rfl)<|wm rfl (v:=I a4) dU ?_;replace d:=Bt d;obtain⟨i69,o2,x9,yA,yB,d⟩:=d;have lR:=((((aH.mv (Ax aD)).mv (aE.AS z.gr 0 rfl)).mv (Ah o)).mv (Ah bK));obtain⟨aBK,aBL,_,yC,rfl,yD⟩:=Sl.Ed lR rfl yA;refine wd rfl (fun st=>Bv (k:=i69) Tryz.underlying65 If (ee st rfl) yC (ee st rfl) x9 yB)<|wd rfl (fun st=>BU (v:=.bool o2) FA (ee st rfl) yD rfl)<|wd rfl (fun st=>Dl (ee st rfl))<|Ae<|Ac ?_;rcases Aq (!o2) with iO|iO
                      ·replace d:=AF d iO;have z4:o2=false:=by simpa using iO
                       refine Ay rfl iO<|Ad<|wm rfl (v:=I cT) hP ?_;replace d:=AU d;obtain⟨yE,d⟩:=d;refine wd rfl (fun st=>Bu (ee st rfl) (ee st rfl) yE)<|wa rfl (v:=I (cT+1)) rfl<|Ae<|Bi<|Ac<|Ad<|wm rfl (v:=I a4) dU ?_;replace d:=AU d;obtain⟨yF,d⟩:=d;refine wd rfl (fun st=>Bu (ee st rfl) (ee st rfl) yF)<|wa rfl (v:=I (a4+1)) rfl<|Ae ?_;refine Bs bS (Nat.lt_succ_self _) (fun st=>?_);exact⟨(cT+1),(a4+1),d,qz st,qd st,sp st 3 g0,sp st 7 g1,sp st 8 iX,sp st 9 iY,sp st 11 hJ,sp st 12 hL,sp st 13 hM,sp st 14 hN,sp st 15 hO,sp st 16 dT,sp st 17 rfl,sp st 18 rfl,sp st 92 hQ,sp st 93 hR,sp st 94 hS,sp st 95 hT,sp st 96 hU,sp st 97 hV,sp st 98 hW,sp st 99 hX,sp st 100 eX,sp st 101 eY,sp st 104 eZ,sp st 105 e0,sp st 106 e1,sp st 107 e2,sp st 108 e3,sp st 111 e4,sp st 112 e5,sp st 113 e6,sp st 114 e7,sp st 115 e8,sp st 118 e9,sp st 119 fA,sp st 120 fB,sp st 121 fC,sp st 122 fD,sp st 123 fE,sp st 124 fF,sp st 125 fG,sp st 126 fH,sp st 127 fI,sp st 130 fJ,sp st 131 fK,sp st 132 fL,sp st 136 fM,rfl⟩
                      ·replace d:=AG d iO;have z5:o2=true:=by simpa using iO
                       refine AH rfl iO<|AY<|Bi<|Ac<|Ad<|wm rfl (v:=I a4) dU ?_;replace d:=AU d;obtain⟨yG,d⟩:=d;refine wd rfl (fun st=>Bu (ee st rfl) (ee st rfl) yG)<|wa rfl (v:=I (a4+1)) rfl<|Ae ?_;refine Bs bS (Nat.lt_succ_self _) (fun st=>?_);exact⟨cT,(a4+1),d,qz st,qd st,sp st 3 g0,sp st 7 g1,sp st 8 iX,sp st 9 iY,sp st 11 hJ,sp st 12 hL,sp st 13 hM,sp st 14 hN,sp st 15 hO,sp st 16 dT,sp st 17 hP,sp st 18 rfl,sp st 92 hQ,sp st 93 hR,sp st 94 hS,sp st 95 hT,sp st 96 hU,sp st 97 hV,sp st 98 hW,sp st 99 hX,sp st 100 eX,sp st 101 eY,sp st 104 eZ,sp st 105 e0,sp st 106 e1,sp st 107 e2,sp st 108 e3,sp st 111 e4,sp st 112 e5,sp st 113 e6,sp st 114 e7,sp st 115 e8,sp st 118 e9,sp st 119 fA,sp st 120 fB,sp st 121 fC,sp st 122 fD,sp st 123 fE,sp st 124 fF,sp st 125 fG,sp st 126 fH,sp st 127 fI,sp st 130 fJ,sp st 131 fK,sp st 132 fL,sp st 136 fM,rfl⟩
                     ·replace d:=AG d kS;refine AH rfl kS<|B1<|AK<|AK ?_;obtain rfl:=Option.some.inj d;refine BD (fun st=>?_);exact⟨rfl,qz st,qd st,sp st 3 g0,sp st 7 g1,sp st 8 iX,sp st 9 iY,sp st 11 hJ,sp st 12 hL,sp st 13 hM,sp st 14 hN,sp st 15 hO,sp st 16 dT,sp st 17 hP,sp st 92 hQ,sp st 93 hR,sp st 94 hS,sp st 95 hT,sp st 96 hU,sp st 97 hV,sp st 98 hW,sp st 99 hX,sp st 100 eX,sp st 101 eY,sp st 104 eZ,sp st 105 e0,sp st 106 e1,sp st 107 e2,sp st 108 e3,sp st 111 e4,sp st 112 e5,sp st 113 e6,sp st 114 e7,sp st 115 e8,sp st 118 e9,sp st 119 fA,sp st 120 fB,sp st 121 fC,sp st 122 fD,sp st 123 fE,sp st 124 fF,sp st 125 fG,sp st 126 fH,sp st 127 fI,sp st 130 fJ,sp st 131 fK,sp st 132 fL,sp st 136 fM,rfl⟩
                    ·replace d:=AG d b8;refine Aj (c:=false) rfl rfl (Ab rfl b8) (by decide) rfl (by decide)<|Aj (c:=false) rfl rfl (Ab rfl b8) (by decide) rfl (by decide)<|Aj (c:=false) rfl rfl (Ab rfl b8) (by decide) rfl (by decide)<|Aj (c:=false) rfl rfl (Ab rfl b8) (by decide) rfl (by decide)<|wd rfl (fun st=>Bd (v:=.bool false) (ee st rfl) b8 (ee st rfl))<|Ae<|Ac<|AH rfl rfl<|B1<|AK<|AK ?_;obtain rfl:=Option.some.inj d;refine BD (fun st=>?_);exact⟨rfl,qz st,qd st,sp st 3 g0,sp st 7 g1,sp st 8 iX,sp st 9 iY,sp st 11 hJ,sp st 12 hL,sp st 13 hM,sp st 14 hN,sp st 15 hO,sp st 16 dT,sp st 17 hP,sp st 92 hQ,sp st 93 hR,sp st 94 hS,sp st 95 hT,sp st 96 hU,sp st 97 hV,sp st 98 hW,sp st 99 hX,sp st 100 eX,sp st 101 eY,sp st 104 eZ,sp st 105 e0,sp st 106 e1,sp st 107 e2,sp st 108 e3,sp st 111 e4,sp st 112 e5,sp st 113 e6,sp st 114 e7,sp st 115 e8,sp st 118 e9,sp st 119 fA,sp st 120 fB,sp st 121 fC,sp st 122 fD,sp st 123 fE,sp st 124 fF,sp st 125 fG,sp st 126 fH,sp st 127 fI,sp st 130 fJ,sp st 131 fK,sp st 132 fL,sp st 136 fM,rfl⟩
                  case x6=>
                   rintro dZ aAO _ (⟨rfl,p3,p4,jP,mK,mL,mM,kT,kU,kV,kW,n8,fN,n9,yH,yI,yJ,yK,yL,yM,yN,yO,tP,tQ,tR,tS,tT,tU,tV,tW,tX,tY,tZ,t0,t1,t2,t3,t4,t5,t6,t7,t8,t9,uA,uB,uC,uD,uE,rfl⟩);refine Ch (X:=X0) (N:=183) p3 p4<|Bx<|Ac<|Af ?_;rcases Aq (decide ((0:Int)≤b.AD)) with bD|bD
                   ·replace d:=AF d bD;have iZ:=((aS.ext o).ext bK);replace d:=Bt d;obtain⟨i78,o3,yP,yQ,yR,d⟩:=d;have kX:=((((a7.mv (Ax aD)).mv (aE.AS z.gr 0 rfl)).mv (Ah o)).mv (Ah bK));obtain⟨uF,uG,_,yS,rfl,yT⟩:=Sl.elem kX (by decide) yQ;refine B3 15 [Kc (pt s 2),Kc (.bool b.AM),Kc (pt s 1),Kc (I b.AD),Kc (.bool (decide ((0:Int)≤b.AD))),Kc (.bool (decide ((0:Int)≤b.AD))),Kc (I mJ),Kc (pt p 4),Kc (.slice aI f.Ag.length aJ),Kc (I bF),Kc (pt uF (uG+i78*5)),Kc (pt uF (uG+i78*5+2)),Kc (I o3.AM),Kc (.bool (mJ==o3.AM)),Kc (.bool (mJ==o3.AM))] mixed rfl rfl
                        (Aa (od rfl (fun _=>rfl) (fun K=>Ai (es ((K.out 16 rfl).trans fN)) (FM _ _)))
                        (Aa (od rfl (fun _=>rfl) (fun K=>Ap FA (es (K.An 0 166 rfl rfl)) (cJ.ext K.Bc) rfl))
                        (Aa (od rfl (fun _=>rfl) (fun K=>Ai (es ((K.out 16 rfl).trans fN)) (Cu _ _)))
                        (Aa (od rfl (fun _=>rfl) (fun K=>Ap AP (es (K.An 2 168 rfl rfl)) (cJ.ext K.Bc) rfl))
                        (Aa (od rfl (fun _=>rfl) (fun K=>He (es (K.An 3 169 rfl rfl)) (ec (v:=I 0))))
                        (Aa (od rfl (fun _=>rfl) (fun K=>AN (es (K.An 4 170 rfl rfl))))
                        (Aa (AE rfl rfl rfl (fun _=>rfl) (fun a' w' ph K=>Ab (K.An 5 171 rfl rfl) bD) (fun a' w' ph K=>AN (es ((K.out 17 rfl).trans n9))))
                        (Aa (AE rfl rfl rfl (fun _=>rfl) (fun a' w' ph K=>Ab (K.An 5 171 rfl rfl) bD) (fun a' w' ph K=>Ai (es ((K.out 3 rfl).trans jP)) (Fc _ _)))
                        (Aa (AE rfl rfl rfl (fun _=>rfl) (fun a' w' ph K=>Ab (K.An 5 171 rfl rfl) bD) (fun a' w' ph K=>Ap FR (es (K.An 7 173 rfl rfl)) (iZ.ext K.Bc) rfl))
                        (Aa (AE rfl rfl rfl (fun _=>rfl) (fun a' w' ph K=>Ab (K.An 5 171 rfl rfl) bD) (fun a' w' ph K=>AN (es ((K.out 15 rfl).trans n8))))
                        (Aa (AE rfl rfl rfl (fun _=>rfl) (fun a' w' ph K=>Ab (K.An 5 171 rfl rfl) bD) (fun a' w' ph K=>Cf (k:=i78) Tryz.underlying61 Ho (es (K.An 8 174 rfl rfl)) yS (es (K.An 9 175 rfl rfl)) yP yR))
                        (Aa (AE rfl rfl rfl (fun _=>rfl) (fun a' w' ph K=>Ab (K.An 5 171 rfl rfl) bD) (fun a' w' ph K=>Ai (es (K.An 10 176 rfl rfl)) (JX _ _ _)))
                        (Aa (AE rfl rfl rfl (fun _=>rfl) (fun a' w' ph K=>Ab (K.An 5 171 rfl rfl) bD) (fun a' w' ph K=>Gq AP (es (K.An 11 177 rfl rfl)) (yT.mv (Ah K.Bc)) rfl))
                        (Aa (AE rfl rfl rfl (fun _=>rfl) (fun a' w' ph K=>Ab (K.An 5 171 rfl rfl) bD) (fun a' w' ph K=>CP (es (K.An 6 172 rfl rfl)) (es (K.An 12 178 rfl rfl))))
                        (Aa (od rfl (fun _=>rfl) (fun K=>AT (es (K.An 5 171 rfl rfl)) bD (es (K.An 13 179 rfl rfl))))
                        (BI _)))))))))))))))) ?_
                    intro cU;rintro _ rfl _ rfl _ rfl _ rfl _ rfl _ rfl _ rfl _ rfl _ rfl _ rfl _ rfl _ rfl _ rfl _ rfl _ rfl bV;have p5:=p2.ext bV;refine wd rfl (fun st=>Il Iu (ee st rfl) (ee st rfl))<|Ae<|Ac ?_;rcases Aq (b.AM !=(mJ==o3.AM)) with kY|kY
                    ·replace d:=AF d kY;refine Ay rfl kY<|Af<|Ad<|wa rfl (v:=.bool false) rfl<|Ae<|Ac<|AI<|AV<|As<|As ?_;have yU:Hp FN [] w [some e,some p] cU:=p5.erase 0;obtain rfl:=Option.some.inj d;refine BD (fun st=>?_);exact .inl ⟨rfl,false,rfl,qz st,qd st,sp st 6 rfl,yU⟩
                    ·replace d:=AG d kY;refine AH rfl kY<|AY<|Bi<|Ac<|Ad<|wm rfl (v:=I aB) kW ?_;replace d:=AU d;obtain⟨yV,d⟩:=d;refine wd rfl (fun st=>Bu (ee st rfl) (ee st rfl) yV)<|wa rfl (v:=I (aB+1)) rfl<|Ae ?_;have yW:Hp FN [] w [some e,some p] cU:=p5.erase 0;have p6:=(iZ.ext bV);have oA:=(((aM.ext o).ext bK).ext bV);have oB:Sl AQ cU (ZZ FN [] Z w.heap.size [some e,some p]) aI aJ f.Ag:=((kX.mv (Ah bV)).mv (AB 0));have lS:Sl (Az .i64) cU (ZZ FN [] Z w.heap.size [some e,some p]) g j aC.Comes:=((((aX.mv (Ah o)).mv (Ah bK)).mv (Ah bV)).mv (AB 0));have lT:Sl Bo cU (ZZ FN [] Z w.heap.size [some e,some p]) q r aC.Ao:=((((((aH.mv (Ax aD)).mv (aE.AS z.gr 0 rfl)).mv (Ah o)).mv (Ah bK)).mv (Ah bV)).mv (AB 0));have m4:Sl (BA (Az .i64)) cU (ZZ FN [] Z w.heap.size [some e,some p]) x y aV:=((((((aN.mv (Ax aD)).mv (aE.AS z.gr 0 rfl)).mv (Ah o)).mv (Ah bK)).mv (Ah bV)).mv (AB 0));have m5:Sl BW cU (ZZ FN [] Z w.heap.size [some e,some p]) aF aG aR.1:=((((((aQ.mv (Ax aD)).mv (aE.AS z.gr 0 rfl)).mv (Ah o)).mv (Ah bK)).mv (Ah bV)).mv (AB 0));refine Bs bS (Nat.lt_succ_self _) (fun st=>?_);exact⟨(b.AD+1),(decide (b.AD<0)),(aB+1),d,qz st,qd st,sp st 3 jP,sp st 7 mK,sp st 8 mL,sp st 9 mM,sp st 11 kT,sp st 12 kU,sp st 13 kV,sp st 14 rfl,yW,p6,oA,oB,lS,lT,m4,m5⟩
                   ·replace d:=AG d bD;refine B3 15 [Kc (pt s 2),Kc (.bool b.AM),Kc (pt s 1),Kc (I b.AD),Kc (.bool (decide ((0:Int)≤b.AD))),Kc (.bool (decide ((0:Int)≤b.AD))),Kc undef,Kc undef,Kc undef,Kc undef,Kc undef,Kc undef,Kc undef,Kc undef,Kc (.bool false)] mixed rfl rfl
                        (Aa (od rfl (fun _=>rfl) (fun K=>Ai (es ((K.out 16 rfl).trans fN)) (FM _ _)))
                        (Aa (od rfl (fun _=>rfl) (fun K=>Ap FA (es (K.An 0 166 rfl rfl)) (cJ.ext K.Bc) rfl))
                        (Aa (od rfl (fun _=>rfl) (fun K=>Ai (es ((K.out 16 rfl).trans fN)) (Cu _ _)))
                        (Aa (od rfl (fun _=>rfl) (fun K=>Ap AP (es (K.An 2 168 rfl rfl)) (cJ.ext K.Bc) rfl))
                        (Aa (od rfl (fun _=>rfl) (fun K=>He (es (K.An 3 169 rfl rfl)) (ec (v:=I 0))))
                        (Aa (od rfl (fun _=>rfl) (fun K=>AN (es (K.An 4 170 rfl rfl))))
                        (Aa (A5 (c:=false) rfl rfl rfl (by decide) (fun a' w' ph K=>Ab (K.An 5 171 rfl rfl) bD) (fun _=>rfl))
                        (Aa (A5 (c:=false) rfl rfl rfl (by decide) (fun a' w' ph K=>Ab (K.An 5 171 rfl rfl) bD) (fun _=>rfl))
                        (Aa (A5 (c:=false) rfl rfl rfl (by decide) (fun a' w' ph K=>Ab (K.An 5 171 rfl rfl) bD) (fun _=>rfl))
                        (Aa (A5 (c:=false) rfl rfl rfl (by decide) (fun a' w' ph K=>Ab (K.An 5 171 rfl rfl) bD) (fun _=>rfl))
                        (Aa (A5 (c:=false) rfl rfl rfl (by decide) (fun a' w' ph K=>Ab (K.An 5 171 rfl rfl) bD) (fun _=>rfl))
                        (Aa (A5 (c:=false) rfl rfl rfl (by decide) (fun a' w' ph K=>Ab (K.An 5 171 rfl rfl) bD) (fun _=>rfl))
                        (Aa (A5 (c:=false) rfl rfl rfl (by decide) (fun a' w' ph K=>Ab (K.An 5 171 rfl rfl) bD) (fun _=>rfl))
                        (Aa (A5 (c:=false) rfl rfl rfl (by decide) (fun a' w' ph K=>Ab (K.An 5 171 rfl rfl) bD) (fun _=>rfl))
                        (Aa (od rfl (fun _=>rfl) (fun K=>Bd (es (K.An 5 171 rfl rfl)) bD (ec (v:=.bool false))))
                        (BI _)))))))))))))))) ?_
                    intro cU;rintro _ rfl _ rfl _ rfl _ rfl _ rfl _ rfl _ rfl _ rfl _ rfl _ rfl _ rfl _ rfl _ rfl _ rfl _ rfl bV;have p7:=p2.ext bV;refine wd rfl (fun st=>Il Iu (ee st rfl) (ee st rfl))<|Ae<|Ac ?_;rcases Aq (b.AM !=false) with kZ|kZ
                    ·replace d:=AF d kZ;refine Ay rfl kZ<|Af<|Ad<|wa rfl (v:=.bool false) rfl<|Ae<|Ac<|AI<|AV<|As<|As ?_;have yX:Hp FN [] w [some e,some p] cU:=p7.erase 0;obtain rfl:=Option.some.inj d;refine BD (fun st=>?_);exact .inl ⟨rfl,false,rfl,qz st,qd st,sp st 6 rfl,yX⟩
                    ·replace d:=AG d kZ;refine AH rfl kZ<|AY<|Bi<|Ac<|Ad<|wm rfl (v:=I aB) kW ?_;replace d:=AU d;obtain⟨yY,d⟩:=d;refine wd rfl (fun st=>Bu (ee st rfl) (ee st rfl) yY)<|wa rfl (v:=I (aB+1)) rfl<|Ae ?_;have yZ:Hp FN [] w [some e,some p] cU:=p7.erase 0;have p8:=(((aS.ext o).ext bK).ext bV);have oC:=(((aM.ext o).ext bK).ext bV);have oD:Sl AQ cU (ZZ FN [] Z w.heap.size [some e,some p]) aI aJ f.Ag:=((((((a7.mv (Ax aD)).mv (aE.AS z.gr 0 rfl)).mv (Ah o)).mv (Ah bK)).mv (Ah bV)).mv (AB 0));have lU:Sl (Az .i64) cU (ZZ FN [] Z w.heap.size [some e,some p]) g j aC.Comes:=((((aX.mv (Ah o)).mv (Ah bK)).mv (Ah bV)).mv (AB 0));have lV:Sl Bo cU (ZZ FN [] Z w.heap.size [some e,some p]) q r aC.Ao:=((((((aH.mv (Ax aD)).mv (aE.AS z.gr 0 rfl)).mv (Ah o)).mv (Ah bK)).mv (Ah bV)).mv (AB 0));have m6:Sl (BA (Az .i64)) cU (ZZ FN [] Z w.heap.size [some e,some p]) x y aV:=((((((aN.mv (Ax aD)).mv (aE.AS z.gr 0 rfl)).mv (Ah o)).mv (Ah bK)).mv (Ah bV)).mv (AB 0));have m7:Sl BW cU (ZZ FN [] Z w.heap.size [some e,some p]) aF aG aR.1:=((((((aQ.mv (Ax aD)).mv (aE.AS z.gr 0 rfl)).mv (Ah o)).mv (Ah bK)).mv (Ah bV)).mv (AB 0));refine Bs bS (Nat.lt_succ_self _) (fun st=>?_);exact⟨(b.AD+1),(decide (b.AD<0)),(aB+1),d,qz st,qd st,sp st 3 jP,sp st 7 mK,sp st 8 mL,sp st 9 mM,sp st 11 kT,sp st 12 kU,sp st 13 kV,sp st 14 rfl,yZ,p8,oC,oD,lU,lV,m6,m7⟩
               ·replace d:=AG d bZ;refine B3 36 [Kc (.bool a2),Kc (.bool a2),Kc (pt s 0),Kc (I b.On),Kc (I m),Kc (pt e 0),Kc (.slice g aC.Comes.length j),Kc (I bF),Kc (pt dP (dQ+i37)),Kc (I aL),Kc (I (max m aL)),Kc (.bool (b.On !=(max m aL))),Kc (.bool (b.On !=(max m aL))),Kc (.bool (b.On !=(max m aL))),Kc (pt s 0),Kc (I b.On),Kc (pt p 0),Kc (I f.Am),Kc (.bool (decide (f.Am<b.On))),Kc (.bool (decide (f.Am<b.On))),Kc (.bool (decide (f.Am<b.On))),Kc (pt s 1),Kc (I b.AD),Kc (pt p 0),Kc (I f.Am),Kc (.bool (decide (f.Am<b.AD))),Kc (.bool (decide (f.Am<b.AD))),Kc (.bool (decide (f.Am<b.AD))),Kc (pt s 1),Kc (I b.AD),Kc (.bool (b.AD !=(-1))),Kc (.bool (b.AD !=(-1))),Kc undef,Kc undef,Kc undef,Kc undef] mixed rfl rfl
                    (Aa (od rfl (fun _=>rfl) (fun K=>AN (es ((K.out 13 rfl).trans cH))))
                    (Aa (od rfl (fun _=>rfl) (fun K=>AN (es (K.An 0 90 rfl rfl))))
                    (Aa (AE rfl rfl rfl (fun _=>rfl) (fun a' w' ph K=>Ab (K.An 1 91 rfl rfl) aA) (fun a' w' ph K=>Ai (es ((K.out 16 rfl).trans rfl)) (Eu _ _)))
                    (Aa (AE rfl rfl rfl (fun _=>rfl) (fun a' w' ph K=>Ab (K.An 1 91 rfl rfl) aA) (fun a' w' ph K=>Ap AP (es (K.An 2 92 rfl rfl)) (z.bk.ext K.Bc) rfl))
                    (Aa (AE rfl rfl rfl (fun _=>rfl) (fun a' w' ph K=>Ab (K.An 1 91 rfl rfl) aA) (fun a' w' ph K=>AN (es ((K.out 12 rfl).trans cG))))
                    (Aa (AE rfl rfl rfl (fun _=>rfl) (fun a' w' ph K=>Ab (K.An 1 91 rfl rfl) aA) (fun a' w' ph K=>Ai (es ((K.out 7 rfl).trans bT)) (HI _ _)))
                    (Aa (AE rfl rfl rfl (fun _=>rfl) (fun a' w' ph K=>Ab (K.An 1 91 rfl rfl) aA) (fun a' w' ph K=>Ap DB (es (K.An 5 95 rfl rfl)) (aM.ext K.Bc) rfl))
                    (Aa (AE rfl rfl rfl (fun _=>rfl) (fun a' w' ph K=>Ab (K.An 1 91 rfl rfl) aA) (fun a' w' ph K=>AN (es ((K.out 15 rfl).trans rfl))))
                    (Aa (AE rfl rfl rfl (fun _=>rfl) (fun a' w' ph K=>Ab (K.An 1 91 rfl rfl) aA) (fun a' w' ph K=>Bv (k:=i37) Tryz.underlying23 C8 (es (K.An 6 96 rfl rfl)) kH (es (K.An 7 97 rfl rfl)) kF kG))
                    (Aa (AE rfl rfl rfl (fun _=>rfl) (fun a' w' ph K=>Ab (K.An 1 91 rfl rfl) aA) (fun a' w' ph K=>BU AP (es (K.An 8 98 rfl rfl)) (kI.mv (Ah K.Bc)) rfl))
                    (Aa (AE rfl rfl rfl (fun _=>rfl) (fun a' w' ph K=>Ab (K.An 1 91 rfl rfl) aA) (fun a' w' ph K=>KK (es (K.An 4 94 rfl rfl)) (es (K.An 9 99 rfl rfl))))
                    (Aa (AE rfl rfl rfl (fun _=>rfl) (fun a' w' ph K=>Ab (K.An 1 91 rfl rfl) aA) (fun a' w' ph K=>Ev (es (K.An 3 93 rfl rfl)) (es (K.An 10 100 rfl rfl))))
                    (Aa (od rfl (fun _=>rfl) (fun K=>Bd (es (K.An 1 91 rfl rfl)) aA (es (K.An 11 101 rfl rfl))))
                    (Aa (od rfl (fun _=>rfl) (fun K=>AN (es (K.An 12 102 rfl rfl))))
                    (Aa (AE rfl rfl rfl (fun _=>rfl) (fun a' w' ph K=>Ab (K.An 13 103 rfl rfl) aO) (fun a' w' ph K=>Ai (es ((K.out 16 rfl).trans rfl)) (Eu _ _)))
                    (Aa (AE rfl rfl rfl (fun _=>rfl) (fun a' w' ph K=>Ab (K.An 13 103 rfl rfl) aO) (fun a' w' ph K=>Ap AP (es (K.An 14 104 rfl rfl)) (z.bk.ext K.Bc) rfl))
                    (Aa (AE rfl rfl rfl (fun _=>rfl) (fun a' w' ph K=>Ab (K.An 13 103 rfl rfl) aO) (fun a' w' ph K=>Ai (es ((K.out 3 rfl).trans bH)) (DP _ _)))
                    (Aa (AE rfl rfl rfl (fun _=>rfl) (fun a' w' ph K=>Ab (K.An 13 103 rfl rfl) aO) (fun a' w' ph K=>Ap AP (es (K.An 16 106 rfl rfl)) (aS.ext K.Bc) rfl))
                    (Aa (AE rfl rfl rfl (fun _=>rfl) (fun a' w' ph K=>Ab (K.An 13 103 rfl rfl) aO) (fun a' w' ph K=>E0 (es (K.An 15 105 rfl rfl)) (es (K.An 17 107 rfl rfl))))
                    (Aa (od rfl (fun _=>rfl) (fun K=>Bd (es (K.An 13 103 rfl rfl)) aO (es (K.An 18 108 rfl rfl))))
                    (Aa (od rfl (fun _=>rfl) (fun K=>AN (es (K.An 19 109 rfl rfl))))
                    (Aa (AE rfl rfl rfl (fun _=>rfl) (fun a' w' ph K=>Ab (K.An 20 110 rfl rfl) aU) (fun a' w' ph K=>Ai (es ((K.out 16 rfl).trans rfl)) (Cu _ _)))
                    (Aa (AE rfl rfl rfl (fun _=>rfl) (fun a' w' ph K=>Ab (K.An 20 110 rfl rfl) aU) (fun a' w' ph K=>Ap AP (es (K.An 21 111 rfl rfl)) (z.bk.ext K.Bc) rfl))
                    (Aa (AE rfl rfl rfl (fun _=>rfl) (fun a' w' ph K=>Ab (K.An 20 110 rfl rfl) aU) (fun a' w' ph K=>Ai (es ((K.out 3 rfl).trans bH)) (DP _ _)))
                    (Aa (AE rfl rfl rfl (fun _=>rfl) (fun a' w' ph K=>Ab (K.An 20 110 rfl rfl) aU) (fun a' w' ph K=>Ap AP (es (K.An 23 113 rfl rfl)) (aS.ext K.Bc) rfl))
                    (Aa (AE rfl rfl rfl (fun _=>rfl) (fun a' w' ph K=>Ab (K.An 20 110 rfl rfl) aU) (fun a' w' ph K=>E0 (es (K.An 22 112 rfl rfl)) (es (K.An 24 114 rfl rfl))))
                    (Aa (od rfl (fun _=>rfl) (fun K=>Bd (es (K.An 20 110 rfl rfl)) aU (es (K.An 25 115 rfl rfl))))
                    (Aa (od rfl (fun _=>rfl) (fun K=>AN (es (K.An 26 116 rfl rfl))))
                    (Aa (AE rfl rfl rfl (fun _=>rfl) (fun a' w' ph K=>Ab (K.An 27 117 rfl rfl) bB) (fun a' w' ph K=>Ai (es ((K.out 16 rfl).trans rfl)) (Cu _ _)))
                    (Aa (AE rfl rfl rfl (fun _=>rfl) (fun a' w' ph K=>Ab (K.An 27 117 rfl rfl) bB) (fun a' w' ph K=>Ap AP (es (K.An 28 118 rfl rfl)) (z.bk.ext K.Bc) rfl))
                    (Aa (AE rfl rfl rfl (fun _=>rfl) (fun a' w' ph K=>Ab (K.An 27 117 rfl rfl) bB) (fun a' w' ph K=>Ev (es (K.An 29 119 rfl rfl)) (ec (v:=I (-1)))))
                    (Aa (AE rfl rfl rfl (fun _=>rfl) (fun a' w' ph K=>Ab (K.An 27 117 rfl rfl) bB) (fun a' w' ph K=>AN (es (K.An 30 120 rfl rfl))))
                    (Aa (A5 (c:=false) rfl rfl rfl (by decide) (fun a' w' ph K=>Ab (K.An 31 121 rfl rfl) bZ) (fun _=>rfl))
                    (Aa (A5 (c:=false) rfl rfl rfl (by decide) (fun a' w' ph K=>Ab (K.An 31 121 rfl rfl) bZ) (fun _=>rfl))
                    (Aa (A5 (c:=false) rfl rfl rfl (by decide) (fun a' w' ph K=>Ab (K.An 31 121 rfl rfl) bZ) (fun _=>rfl))
                    (Aa (A5 (c:=false) rfl rfl rfl (by decide) (fun a' w' ph K=>Ab (K.An 31 121 rfl rfl) bZ) (fun _=>rfl))
                    (BI _))))))))))))))))))))))))))))))))))))) ?_
                intro gS;rintro _ rfl _ rfl _ rfl _ rfl _ rfl _ rfl _ rfl _ rfl _ rfl _ rfl _ rfl _ rfl _ rfl _ rfl _ rfl _ rfl _ rfl _ rfl _ rfl _ rfl _ rfl _ rfl _ rfl _ rfl _ rfl _ rfl _ rfl _ rfl _ rfl _ rfl _ rfl _ rfl _ rfl _ rfl _ rfl _ rfl o;have oE:=dO.ext o;refine Aj (c:=false) rfl rfl (Ab rfl bZ) (by decide) rfl (by decide)<|Aw rfl rfl (Ab rfl bB) rfl (by decide) (fun st=>Bd (v:=.bool false) (ee st rfl) bZ (ee st rfl))<|wd rfl (fun st=>Bd (v:=.bool false) (ee st rfl) bB (ee st rfl))<|wm rfl (v:=.bool false) rfl<|Aw rfl rfl rfl rfl (by decide) (fun st=>Ai (ee st rfl) (FM _ _)) ?_;have b5:=(z.bk.ext o);refine Aw rfl rfl rfl rfl (by decide) (fun st=>Ap (v:=.bool b.AM) FA (ee st rfl) b5 rfl)<|Aw rfl rfl rfl rfl (by decide) (fun st=>AN (v:=.bool b.AM) (ee st rfl)) ?_;rcases Aq (b.AM) with cV|cV
                ·replace d:=AF d cV;refine Aw rfl rfl (Ab rfl cV) rfl (by decide) (fun st=>Ai (ee st rfl) (Cu _ _))<|Aw rfl rfl (Ab rfl cV) rfl (by decide) (fun st=>Ap (v:=I b.AD) AP (ee st rfl) b5 rfl)<|Aw rfl rfl (Ab rfl cV) rfl (by decide) (fun st=>Cq (ee st rfl) (ee st rfl))<|Aw rfl rfl rfl rfl (by decide) (fun st=>AT (v:=.bool (decide (b.AD<0))) (ee st rfl) cV (ee st rfl))<|wd rfl (fun st=>Bd (v:=.bool (decide (b.AD<0))) (ee st rfl) rfl (ee st rfl))<|Ae<|Ac ?_;rcases Aq (decide (b.AD<0)) with k0|k0
                 ·replace d:=AF d k0;refine Ay rfl k0<|Af<|Ad<|wa rfl (v:=.bool false) rfl<|Ae<|Ac<|AI<|As<|AV<|As<|As ?_;have y0:Hp FN [] w [some e,some p] gS:=oE.erase 0;obtain rfl:=Option.some.inj d;refine BD (fun st=>?_);exact .inl ⟨rfl,false,rfl,qz st,qd st,sp st 6 rfl,y0⟩
                 ·replace d:=AG d k0;refine AH rfl k0<|AY<|Ac<|Af ?_;replace d:=AU d;obtain⟨y2,d⟩:=d;refine B3 7 [Kc (pt s 1),Kc (I b.AD),Kc (I (b.AD+1)),Kc (pt s 1),Kc (I b.AD),Kc (.bool (decide (b.AD<0))),Kc (I (b.AD+1))] mixed rfl rfl
                      (Aa (od rfl (fun _=>rfl) (fun K=>Ai (es ((K.out 16 rfl).trans rfl)) (Cu _ _)))
                      (Aa (od rfl (fun _=>rfl) (fun K=>Ap AP (es (K.An 0 138 rfl rfl)) (b5.ext K.Bc) rfl))
                      (Aa (od rfl (fun _=>rfl) (fun K=>Bu (es (K.An 1 139 rfl rfl)) (ec (v:=I 1)) y2))
                      (Aa (od rfl (fun _=>rfl) (fun K=>Ai (es ((K.out 16 rfl).trans rfl)) (Cu _ _)))
                      (Aa (od rfl (fun _=>rfl) (fun K=>Ap AP (es (K.An 3 141 rfl rfl)) (b5.ext K.Bc) rfl))
                      (Aa (od rfl (fun _=>rfl) (fun K=>Cq (es (K.An 4 142 rfl rfl)) (ec (v:=I 0))))
                      (Aa (od rfl (fun _=>rfl) (fun K=>Hq (es (K.An 2 140 rfl rfl))))
                      (BI _)))))))) ?_
                  intro uH;rintro _ rfl _ rfl _ rfl _ rfl _ rfl _ rfl _ rfl bL;have p9:=oE.ext bL;refine wa rfl (v:=.bool (decide (b.AD<0))) rfl<|Ae<|Ac<|Af<|Ad<|wa rfl (v:=I 0) rfl<|Ae<|Ac<|Af<|Af<|Ad<|wd rfl (fun st=>Ai (ee st rfl) (Eu _ _)) ?_;have cK:=(b5.ext bL);refine wd rfl (fun st=>Ap (v:=I b.On) AP (ee st rfl) cK rfl)<|wa rfl (v:=I b.On) rfl<|Ae<|Ac<|Ba ?_;replace d:=bind_some d;obtain⟨z87,jQ,d⟩:=d;refine Ce (fun dZ a aW=>(dZ=.exit 4∧a.tmps.size=183∧a.defers=(X0).ds∧sl a 3=pt p 0∧sl a 7=pt e 0∧sl a 8=.slice x aV.length y∧sl a 9=.slice aF aR.1.length aG∧sl a 11=I aP∧sl a 12=I (b.AD+1)∧sl a 13=.bool (decide (b.AD<0))∧sl a 14=I aB∧sl a 15=I bF∧sl a 16=pt s 0∧sl a 17=I z87∧sl a 92=pt s 0∧sl a 93=I b.On∧sl a 94=I m∧sl a 95=pt e 0∧sl a 96=.slice g aC.Comes.length j∧sl a 97=I bF∧sl a 98=pt dP (dQ+i37)∧sl a 99=I aL∧sl a 100=I (max m aL)∧sl a 101=.bool (b.On !=(max m aL))∧sl a 104=pt s 0∧sl a 105=I b.On∧sl a 106=pt p 0∧sl a 107=I f.Am∧sl a 108=.bool (decide (f.Am<b.On))∧sl a 111=pt s 1∧sl a 112=I b.AD∧sl a 113=pt p 0∧sl a 114=I f.Am∧sl a 115=.bool (decide (f.Am<b.AD))∧sl a 118=pt s 1∧sl a 119=I b.AD∧sl a 120=.bool (b.AD !=(-1))∧sl a 121=.bool (b.AD !=(-1))∧sl a 127=.bool false∧sl a 130=pt s 2∧sl a 131=.bool b.AM∧sl a 132=.bool b.AM∧sl a 133=pt s 1∧sl a 134=I b.AD∧sl a 135=.bool (decide (b.AD<0))∧sl a 136=.bool (decide (b.AD<0))∧uH=aW)) ?y3 ?y4
                  case y3=>
                   clear d;refine Cd (fun(bS:Nat) (a:Act) (aW:World)=>∃cW,∃a5,D0 f aC b bS cW a5=some z87∧a.tmps.size=183∧a.defers=(X0).ds∧sl a 3=pt p 0∧sl a 7=pt e 0∧sl a 8=.slice x aV.length y∧sl a 9=.slice aF aR.1.length aG∧sl a 11=I aP∧sl a 12=I (b.AD+1)∧sl a 13=.bool (decide (b.AD<0))∧sl a 14=I aB∧sl a 15=I bF∧sl a 16=pt s 0∧sl a 17=I cW∧sl a 18=I a5∧sl a 92=pt s 0∧sl a 93=I b.On∧sl a 94=I m∧sl a 95=pt e 0∧sl a 96=.slice g aC.Comes.length j∧sl a 97=I bF∧sl a 98=pt dP (dQ+i37)∧sl a 99=I aL∧sl a 100=I (max m aL)∧sl a 101=.bool (b.On !=(max m aL))∧sl a 104=pt s 0∧sl a 105=I b.On∧sl a 106=pt p 0∧sl a 107=I f.Am∧sl a 108=.bool (decide (f.Am<b.On))∧sl a 111=pt s 1∧sl a 112=I b.AD∧sl a 113=pt p 0∧sl a 114=I f.Am∧sl a 115=.bool (decide (f.Am<b.AD))∧sl a 118=pt s 1∧sl a 119=I b.AD∧sl a 120=.bool (b.AD !=(-1))∧sl a 121=.bool (b.AD !=(-1))∧sl a 127=.bool false∧sl a 130=pt s 2∧sl a 131=.bool b.AM∧sl a 132=.bool b.AM∧sl a 133=pt s 1∧sl a 134=I b.AD∧sl a 135=.bool (decide (b.AD<0))∧sl a 136=.bool (decide (b.AD<0))∧uH=aW) gT ?y5 ?y6
                   case y5=>
                    intro st;exact⟨(0:Int),b.On,jQ,qz st,qd st,sp st 3 bH,sp st 7 bT,sp st 8 cC,sp st 9 cN,sp st 11 b3,sp st 12 rfl,sp st 13 rfl,sp st 14 b6,sp st 15 rfl,sp st 16 rfl,sp st 17 rfl,sp st 18 rfl,sp st 92 rfl,sp st 93 rfl,sp st 94 rfl,sp st 95 rfl,sp st 96 rfl,sp st 97 rfl,sp st 98 rfl,sp st 99 rfl,sp st 100 rfl,sp st 101 rfl,sp st 104 rfl,sp st 105 rfl,sp st 106 rfl,sp st 107 rfl,sp st 108 rfl,sp st 111 rfl,sp st 112 rfl,sp st 113 rfl,sp st 114 rfl,sp st 115 rfl,sp st 118 rfl,sp st 119 rfl,sp st 120 rfl,sp st 121 rfl,sp st 127 rfl,sp st 130 rfl,sp st 131 rfl,sp st 132 rfl,sp st 133 rfl,sp st 134 rfl,sp st 135 rfl,sp st 136 rfl,rfl⟩
                   case y6=>
                    rintro(_|bS) aA0 _ ⟨cW,a5,jQ,rA,rB,g2,g3,i0,i1,hY,hZ,h2,h4,h5,dV,h6,dW,h7,h8,iA,iB,iC,iD,iE,iF,fO,fP,fQ,fR,fS,fT,fU,fV,fW,fX,fY,fZ,f0,f1,f2,f3,f4,f5,f6,f7,f8,f9,gA,gB,rfl⟩
                    ·exact absurd (show none=some _ from jQ) (by simp)
                    rw[D0.eq_2] at jQ;have d:=jQ;clear jQ;refine B2 (N:=183) rA rB<|Af<|Af<|Ad<|wm rfl (v:=I a5) dW<|wd rfl (fun st=>Ai (ee st g2) (DP _ _)) ?_;have i2:=((aS.ext o).ext bL);refine wd rfl (fun st=>Ap (v:=I f.Am) AP (ee st rfl) i2 rfl)<|wd rfl (fun st=>Ee (ee st rfl) (ee st rfl))<|wm rfl (v:=.bool (decide (a5≤f.Am))) rfl ?_;rcases Aq (decide (a5≤f.Am)) with b9|b9
                    ·replace d:=AF d b9;refine Aw rfl rfl (Ab rfl b9) rfl (by decide) (fun st=>AN (v:=I a5) (ee st dW))<|Aw rfl rfl (Ab rfl b9) rfl (by decide) (fun st=>Ai (ee st dV) (Cu _ _))<|Aw rfl rfl (Ab rfl b9) rfl (by decide) (fun st=>Ap (v:=I b.AD) AP (ee st rfl) cK rfl)<|Aw rfl rfl (Ab rfl b9) rfl (by decide) (fun st=>Ee (ee st rfl) (ee st rfl))<|wd rfl (fun st=>AT (v:=.bool (decide (a5≤b.AD))) (ee st rfl) b9 (ee st rfl))<|Ae<|Ac ?_;rcases Aq (decide (a5≤b.AD)) with k1|k1
                     ·replace d:=AF d k1;refine Ay rfl k1<|AY<|Ac<|Af<|Ba<|Af<|Ad<|wd rfl (fun st=>Ai (ee st g3) (HZ _ _)) ?_;have oF:=((aM.ext o).ext bL);refine wd rfl (fun st=>Ap (v:=.slice q aC.Ao.length r) FG (ee st rfl) oF rfl)<|wm rfl (v:=I a5) dW ?_;replace d:=Bt d;obtain⟨i90,o4,y7,y8,y9,d⟩:=d;have lW:=((((aH.mv (Ax aD)).mv (aE.AS z.gr 0 rfl)).mv (Ah o)).mv (Ah bL));obtain⟨aBM,aBN,_,zA,rfl,zB⟩:=Sl.Ed lW rfl y8;refine wd rfl (fun st=>Bv (k:=i90) Tryz.underlying65 If (ee st rfl) zA (ee st rfl) y7 y9)<|wd rfl (fun st=>BU (v:=.bool o4) FA (ee st rfl) zB rfl)<|wd rfl (fun st=>Dl (ee st rfl))<|Ae<|Ac ?_;rcases Aq (!o4) with iP|iP
                      ·replace d:=AF d iP;have z6:o4=false:=by simpa using iP
                       refine Ay rfl iP<|Ad<|wm rfl (v:=I cW) h6 ?_;replace d:=AU d;obtain⟨zC,d⟩:=d;refine wd rfl (fun st=>Bu (ee st rfl) (ee st rfl) zC)<|wa rfl (v:=I (cW+1)) rfl<|Ae<|Bi<|Ac<|Ad<|wm rfl (v:=I a5) dW ?_;replace d:=AU d;obtain⟨zD,d⟩:=d;refine wd rfl (fun st=>Bu (ee st rfl) (ee st rfl) zD)<|wa rfl (v:=I (a5+1)) rfl<|Ae ?_;refine Bs bS (Nat.lt_succ_self _) (fun st=>?_);exact⟨(cW+1),(a5+1),d,qz st,qd st,sp st 3 g2,sp st 7 g3,sp st 8 i0,sp st 9 i1,sp st 11 hY,sp st 12 hZ,sp st 13 h2,sp st 14 h4,sp st 15 h5,sp st 16 dV,sp st 17 rfl,sp st 18 rfl,sp st 92 h7,sp st 93 h8,sp st 94 iA,sp st 95 iB,sp st 96 iC,sp st 97 iD,sp st 98 iE,sp st 99 iF,sp st 100 fO,sp st 101 fP,sp st 104 fQ,sp st 105 fR,sp st 106 fS,sp st 107 fT,sp st 108 fU,sp st 111 fV,sp st 112 fW,sp st 113 fX,sp st 114 fY,sp st 115 fZ,sp st 118 f0,sp st 119 f1,sp st 120 f2,sp st 121 f3,sp st 127 f4,sp st 130 f5,sp st 131 f6,sp st 132 f7,sp st 133 f8,sp st 134 f9,sp st 135 gA,sp st 136 gB,rfl⟩
                      ·replace d:=AG d iP;have z7:o4=true:=by simpa using iP
                       refine AH rfl iP<|AY<|Bi<|Ac<|Ad<|wm rfl (v:=I a5) dW ?_;replace d:=AU d;obtain⟨zE,d⟩:=d;refine wd rfl (fun st=>Bu (ee st rfl) (ee st rfl) zE)<|wa rfl (v:=I (a5+1)) rfl<|Ae ?_;refine Bs bS (Nat.lt_succ_self _) (fun st=>?_);exact⟨cW,(a5+1),d,qz st,qd st,sp st 3 g2,sp st 7 g3,sp st 8 i0,sp st 9 i1,sp st 11 hY,sp st 12 hZ,sp st 13 h2,sp st 14 h4,sp st 15 h5,sp st 16 dV,sp st 17 h6,sp st 18 rfl,sp st 92 h7,sp st 93 h8,sp st 94 iA,sp st 95 iB,sp st 96 iC,sp st 97 iD,sp st 98 iE,sp st 99 iF,sp st 100 fO,sp st 101 fP,sp st 104 fQ,sp st 105 fR,sp st 106 fS,sp st 107 fT,sp st 108 fU,sp st 111 fV,sp st 112 fW,sp st 113 fX,sp st 114 fY,sp st 115 fZ,sp st 118 f0,sp st 119 f1,sp st 120 f2,sp st 121 f3,sp st 127 f4,sp st 130 f5,sp st 131 f6,sp st 132 f7,sp st 133 f8,sp st 134 f9,sp st 135 gA,sp st 136 gB,rfl⟩
                     ·replace d:=AG d k1;refine AH rfl k1<|B1<|AK<|AK ?_;obtain rfl:=Option.some.inj d;refine BD (fun st=>?_);exact⟨rfl,qz st,qd st,sp st 3 g2,sp st 7 g3,sp st 8 i0,sp st 9 i1,sp st 11 hY,sp st 12 hZ,sp st 13 h2,sp st 14 h4,sp st 15 h5,sp st 16 dV,sp st 17 h6,sp st 92 h7,sp st 93 h8,sp st 94 iA,sp st 95 iB,sp st 96 iC,sp st 97 iD,sp st 98 iE,sp st 99 iF,sp st 100 fO,sp st 101 fP,sp st 104 fQ,sp st 105 fR,sp st 106 fS,sp st 107 fT,sp st 108 fU,sp st 111 fV,sp st 112 fW,sp st 113 fX,sp st 114 fY,sp st 115 fZ,sp st 118 f0,sp st 119 f1,sp st 120 f2,sp st 121 f3,sp st 127 f4,sp st 130 f5,sp st 131 f6,sp st 132 f7,sp st 133 f8,sp st 134 f9,sp st 135 gA,sp st 136 gB,rfl⟩
                    ·replace d:=AG d b9;refine Aj (c:=false) rfl rfl (Ab rfl b9) (by decide) rfl (by decide)<|Aj (c:=false) rfl rfl (Ab rfl b9) (by decide) rfl (by decide)<|Aj (c:=false) rfl rfl (Ab rfl b9) (by decide) rfl (by decide)<|Aj (c:=false) rfl rfl (Ab rfl b9) (by decide) rfl (by decide)<|wd rfl (fun st=>Bd (v:=.bool false) (ee st rfl) b9 (ee st rfl))<|Ae<|Ac<|AH rfl rfl<|B1<|AK<|AK ?_;obtain rfl:=Option.some.inj d;refine BD (fun st=>?_);exact⟨rfl,qz st,qd st,sp st 3 g2,sp st 7 g3,sp st 8 i0,sp st 9 i1,sp st 11 hY,sp st 12 hZ,sp st 13 h2,sp st 14 h4,sp st 15 h5,sp st 16 dV,sp st 17 h6,sp st 92 h7,sp st 93 h8,sp st 94 iA,sp st 95 iB,sp st 96 iC,sp st 97 iD,sp st 98 iE,sp st 99 iF,sp st 100 fO,sp st 101 fP,sp st 104 fQ,sp st 105 fR,sp st 106 fS,sp st 107 fT,sp st 108 fU,sp st 111 fV,sp st 112 fW,sp st 113 fX,sp st 114 fY,sp st 115 fZ,sp st 118 f0,sp st 119 f1,sp st 120 f2,sp st 121 f3,sp st 127 f4,sp st 130 f5,sp st 131 f6,sp st 132 f7,sp st 133 f8,sp st 134 f9,sp st 135 gA,sp st 136 gB,rfl⟩
                  case y4=>
                   rintro dZ aAP _ (⟨rfl,qA,qB,jR,mN,mO,mP,k2,k3,k4,k5,oG,gC,oH,zF,zG,zH,zI,zJ,zK,zL,zM,uI,uJ,uK,uL,uM,uN,uO,uP,uQ,uR,uS,uT,uU,uV,uW,uX,uY,uZ,u2,u3,u4,u5,u6,u7,rfl⟩);refine Ch (X:=X0) (N:=183) qA qB<|Bx<|Ac<|Af ?_;rcases Aq (decide ((0:Int)≤b.AD)) with bE|bE
                   ·replace d:=AF d bE;have i2:=((aS.ext o).ext bL);replace d:=Bt d;obtain⟨i99,o5,zN,zO,zP,d⟩:=d;have k6:=((((a7.mv (Ax aD)).mv (aE.AS z.gr 0 rfl)).mv (Ah o)).mv (Ah bL));obtain⟨u9,vA,_,zQ,rfl,zR⟩:=Sl.elem k6 (by decide) zO;refine B3 15 [Kc (pt s 2),Kc (.bool b.AM),Kc (pt s 1),Kc (I b.AD),Kc (.bool (decide ((0:Int)≤b.AD))),Kc (.bool (decide ((0:Int)≤b.AD))),Kc (I z87),Kc (pt p 4),Kc (.slice aI f.Ag.length aJ),Kc (I bF),Kc (pt u9 (vA+i99*5)),Kc (pt u9 (vA+i99*5+2)),Kc (I o5.AM),Kc (.bool (z87==o5.AM)),Kc (.bool (z87==o5.AM))] mixed rfl rfl
                        (Aa (od rfl (fun _=>rfl) (fun K=>Ai (es ((K.out 16 rfl).trans gC)) (FM _ _)))
                        (Aa (od rfl (fun _=>rfl) (fun K=>Ap FA (es (K.An 0 166 rfl rfl)) (cK.ext K.Bc) rfl))
                        (Aa (od rfl (fun _=>rfl) (fun K=>Ai (es ((K.out 16 rfl).trans gC)) (Cu _ _)))
                        (Aa (od rfl (fun _=>rfl) (fun K=>Ap AP (es (K.An 2 168 rfl rfl)) (cK.ext K.Bc) rfl))
                        (Aa (od rfl (fun _=>rfl) (fun K=>He (es (K.An 3 169 rfl rfl)) (ec (v:=I 0))))
                        (Aa (od rfl (fun _=>rfl) (fun K=>AN (es (K.An 4 170 rfl rfl))))
                        (Aa (AE rfl rfl rfl (fun _=>rfl) (fun a' w' ph K=>Ab (K.An 5 171 rfl rfl) bE) (fun a' w' ph K=>AN (es ((K.out 17 rfl).trans oH))))
                        (Aa (AE rfl rfl rfl (fun _=>rfl) (fun a' w' ph K=>Ab (K.An 5 171 rfl rfl) bE) (fun a' w' ph K=>Ai (es ((K.out 3 rfl).trans jR)) (Fc _ _)))
                        (Aa (AE rfl rfl rfl (fun _=>rfl) (fun a' w' ph K=>Ab (K.An 5 171 rfl rfl) bE) (fun a' w' ph K=>Ap FR (es (K.An 7 173 rfl rfl)) (i2.ext K.Bc) rfl))
                        (Aa (AE rfl rfl rfl (fun _=>rfl) (fun a' w' ph K=>Ab (K.An 5 171 rfl rfl) bE) (fun a' w' ph K=>AN (es ((K.out 15 rfl).trans oG))))
                        (Aa (AE rfl rfl rfl (fun _=>rfl) (fun a' w' ph K=>Ab (K.An 5 171 rfl rfl) bE) (fun a' w' ph K=>Cf (k:=i99) Tryz.underlying61 Ho (es (K.An 8 174 rfl rfl)) zQ (es (K.An 9 175 rfl rfl)) zN zP))
                        (Aa (AE rfl rfl rfl (fun _=>rfl) (fun a' w' ph K=>Ab (K.An 5 171 rfl rfl) bE) (fun a' w' ph K=>Ai (es (K.An 10 176 rfl rfl)) (JX _ _ _)))
                        (Aa (AE rfl rfl rfl (fun _=>rfl) (fun a' w' ph K=>Ab (K.An 5 171 rfl rfl) bE) (fun a' w' ph K=>Gq AP (es (K.An 11 177 rfl rfl)) (zR.mv (Ah K.Bc)) rfl))
                        (Aa (AE rfl rfl rfl (fun _=>rfl) (fun a' w' ph K=>Ab (K.An 5 171 rfl rfl) bE) (fun a' w' ph K=>CP (es (K.An 6 172 rfl rfl)) (es (K.An 12 178 rfl rfl))))
                        (Aa (od rfl (fun _=>rfl) (fun K=>AT (es (K.An 5 171 rfl rfl)) bE (es (K.An 13 179 rfl rfl))))
                        (BI _)))))))))))))))) ?_
                    intro cX;rintro _ rfl _ rfl _ rfl _ rfl _ rfl _ rfl _ rfl _ rfl _ rfl _ rfl _ rfl _ rfl _ rfl _ rfl _ rfl bW;have qC:=p9.ext bW;refine wd rfl (fun st=>Il Iu (ee st rfl) (ee st rfl))<|Ae<|Ac ?_;rcases Aq (b.AM !=(z87==o5.AM)) with i3|i3
                    ·replace d:=AF d i3;refine Ay rfl i3<|Af<|Ad<|wa rfl (v:=.bool false) rfl<|Ae<|Ac<|AI<|AV<|As<|As ?_;have zS:Hp FN [] w [some e,some p] cX:=qC.erase 0;obtain rfl:=Option.some.inj d;refine BD (fun st=>?_);exact .inl ⟨rfl,false,rfl,qz st,qd st,sp st 6 rfl,zS⟩
                    ·replace d:=AG d i3;refine AH rfl i3<|AY<|Bi<|Ac<|Ad<|wm rfl (v:=I aB) k5 ?_;replace d:=AU d;obtain⟨rC,d⟩:=d;refine wd rfl (fun st=>Bu (ee st rfl) (ee st rfl) rC)<|wa rfl (v:=I (aB+1)) rfl<|Ae ?_;have zT:Hp FN [] w [some e,some p] cX:=qC.erase 0;have qD:=(i2.ext bW);have oI:=(((aM.ext o).ext bL).ext bW);have oJ:Sl AQ cX (ZZ FN [] Z w.heap.size [some e,some p]) aI aJ f.Ag:=((k6.mv (Ah bW)).mv (AB 0));have lX:Sl (Az .i64) cX (ZZ FN [] Z w.heap.size [some e,some p]) g j aC.Comes:=((((aX.mv (Ah o)).mv (Ah bL)).mv (Ah bW)).mv (AB 0));have lY:Sl Bo cX (ZZ FN [] Z w.heap.size [some e,some p]) q r aC.Ao:=((((((aH.mv (Ax aD)).mv (aE.AS z.gr 0 rfl)).mv (Ah o)).mv (Ah bL)).mv (Ah bW)).mv (AB 0));have m8:Sl (BA (Az .i64)) cX (ZZ FN [] Z w.heap.size [some e,some p]) x y aV:=((((((aN.mv (Ax aD)).mv (aE.AS z.gr 0 rfl)).mv (Ah o)).mv (Ah bL)).mv (Ah bW)).mv (AB 0));have m9:Sl BW cX (ZZ FN [] Z w.heap.size [some e,some p]) aF aG aR.1:=((((((aQ.mv (Ax aD)).mv (aE.AS z.gr 0 rfl)).mv (Ah o)).mv (Ah bL)).mv (Ah bW)).mv (AB 0));refine Bs bS (Nat.lt_succ_self _) (fun st=>?_);exact⟨(b.AD+1),(decide (b.AD<0)),(aB+1),d,qz st,qd st,sp st 3 jR,sp st 7 mN,sp st 8 mO,sp st 9 mP,sp st 11 k2,sp st 12 k3,sp st 13 k4,sp st 14 rfl,zT,qD,oI,oJ,lX,lY,m8,m9⟩
                   ·replace d:=AG d bE;refine B3 15 [Kc (pt s 2),Kc (.bool b.AM),Kc (pt s 1),Kc (I b.AD),Kc (.bool (decide ((0:Int)≤b.AD))),Kc (.bool (decide ((0:Int)≤b.AD))),Kc undef,Kc undef,Kc undef,Kc undef,Kc undef,Kc undef,Kc undef,Kc undef,Kc (.bool false)] mixed rfl rfl
                        (Aa (od rfl (fun _=>rfl) (fun K=>Ai (es ((K.out 16 rfl).trans gC)) (FM _ _)))
                        (Aa (od rfl (fun _=>rfl) (fun K=>Ap FA (es (K.An 0 166 rfl rfl)) (cK.ext K.Bc) rfl))
                        (Aa (od rfl (fun _=>rfl) (fun K=>Ai (es ((K.out 16 rfl).trans gC)) (Cu _ _)))
                        (Aa (od rfl (fun _=>rfl) (fun K=>Ap AP (es (K.An 2 168 rfl rfl)) (cK.ext K.Bc) rfl))
                        (Aa (od rfl (fun _=>rfl) (fun K=>He (es (K.An 3 169 rfl rfl)) (ec (v:=I 0))))
                        (Aa (od rfl (fun _=>rfl) (fun K=>AN (es (K.An 4 170 rfl rfl))))
                        (Aa (A5 (c:=false) rfl rfl rfl (by decide) (fun a' w' ph K=>Ab (K.An 5 171 rfl rfl) bE) (fun _=>rfl))
                        (Aa (A5 (c:=false) rfl rfl rfl (by decide) (fun a' w' ph K=>Ab (K.An 5 171 rfl rfl) bE) (fun _=>rfl))
                        (Aa (A5 (c:=false) rfl rfl rfl (by decide) (fun a' w' ph K=>Ab (K.An 5 171 rfl rfl) bE) (fun _=>rfl))
                        (Aa (A5 (c:=false) rfl rfl rfl (by decide) (fun a' w' ph K=>Ab (K.An 5 171 rfl rfl) bE) (fun _=>rfl))
                        (Aa (A5 (c:=false) rfl rfl rfl (by decide) (fun a' w' ph K=>Ab (K.An 5 171 rfl rfl) bE) (fun _=>rfl))
                        (Aa (A5 (c:=false) rfl rfl rfl (by decide) (fun a' w' ph K=>Ab (K.An 5 171 rfl rfl) bE) (fun _=>rfl))
                        (Aa (A5 (c:=false) rfl rfl rfl (by decide) (fun a' w' ph K=>Ab (K.An 5 171 rfl rfl) bE) (fun _=>rfl))
                        (Aa (A5 (c:=false) rfl rfl rfl (by decide) (fun a' w' ph K=>Ab (K.An 5 171 rfl rfl) bE) (fun _=>rfl))
                        (Aa (od rfl (fun _=>rfl) (fun K=>Bd (es (K.An 5 171 rfl rfl)) bE (ec (v:=.bool false))))
                        (BI _)))))))))))))))) ?_
                    intro cX;rintro _ rfl _ rfl _ rfl _ rfl _ rfl _ rfl _ rfl _ rfl _ rfl _ rfl _ rfl _ rfl _ rfl _ rfl _ rfl bW;have qE:=p9.ext bW;refine wd rfl (fun st=>Il Iu (ee st rfl) (ee st rfl))<|Ae<|Ac ?_;rcases Aq (b.AM !=false) with i4|i4
                    ·replace d:=AF d i4;refine Ay rfl i4<|Af<|Ad<|wa rfl (v:=.bool false) rfl<|Ae<|Ac<|AI<|AV<|As<|As ?_;have zU:Hp FN [] w [some e,some p] cX:=qE.erase 0;obtain rfl:=Option.some.inj d;refine BD (fun st=>?_);exact .inl ⟨rfl,false,rfl,qz st,qd st,sp st 6 rfl,zU⟩
                    ·replace d:=AG d i4;refine AH rfl i4<|AY<|Bi<|Ac<|Ad<|wm rfl (v:=I aB) k5 ?_;replace d:=AU d;obtain⟨rD,d⟩:=d;refine wd rfl (fun st=>Bu (ee st rfl) (ee st rfl) rD)<|wa rfl (v:=I (aB+1)) rfl<|Ae ?_;have zV:Hp FN [] w [some e,some p] cX:=qE.erase 0;have qF:=(((aS.ext o).ext bL).ext bW);have oK:=(((aM.ext o).ext bL).ext bW);have oL:Sl AQ cX (ZZ FN [] Z w.heap.size [some e,some p]) aI aJ f.Ag:=((((((a7.mv (Ax aD)).mv (aE.AS z.gr 0 rfl)).mv (Ah o)).mv (Ah bL)).mv (Ah bW)).mv (AB 0));have lZ:Sl (Az .i64) cX (ZZ FN [] Z w.heap.size [some e,some p]) g j aC.Comes:=((((aX.mv (Ah o)).mv (Ah bL)).mv (Ah bW)).mv (AB 0));have l0:Sl Bo cX (ZZ FN [] Z w.heap.size [some e,some p]) q r aC.Ao:=((((((aH.mv (Ax aD)).mv (aE.AS z.gr 0 rfl)).mv (Ah o)).mv (Ah bL)).mv (Ah bW)).mv (AB 0));have nA:Sl (BA (Az .i64)) cX (ZZ FN [] Z w.heap.size [some e,some p]) x y aV:=((((((aN.mv (Ax aD)).mv (aE.AS z.gr 0 rfl)).mv (Ah o)).mv (Ah bL)).mv (Ah bW)).mv (AB 0));have nB:Sl BW cX (ZZ FN [] Z w.heap.size [some e,some p]) aF aG aR.1:=((((((aQ.mv (Ax aD)).mv (aE.AS z.gr 0 rfl)).mv (Ah o)).mv (Ah bL)).mv (Ah bW)).mv (AB 0));refine Bs bS (Nat.lt_succ_self _) (fun st=>?_);exact⟨(b.AD+1),(decide (b.AD<0)),(aB+1),d,qz st,qd st,sp st 3 jR,sp st 7 mN,sp st 8 mO,sp st 9 mP,sp st 11 k2,sp st 12 k3,sp st 13 k4,sp st 14 rfl,zV,qF,oK,oL,lZ,l0,nA,nB⟩
                ·replace d:=AG d cV;refine Aj (c:=false) rfl rfl (Ab rfl cV) (by decide) rfl (by decide)<|Aj (c:=false) rfl rfl (Ab rfl cV) (by decide) rfl (by decide)<|Aj (c:=false) rfl rfl (Ab rfl cV) (by decide) rfl (by decide)<|Aw rfl rfl rfl rfl (by decide) (fun st=>Bd (v:=.bool false) (ee st rfl) cV (ee st rfl))<|wd rfl (fun st=>Bd (v:=.bool false) (ee st rfl) rfl (ee st rfl))<|Ae<|Ac<|AH rfl rfl<|AY<|Ac<|Af ?_;replace d:=AU d;obtain⟨rE,d⟩:=d;refine B3 7 [Kc (pt s 1),Kc (I b.AD),Kc (I (b.AD+1)),Kc (pt s 1),Kc (I b.AD),Kc (.bool (decide (b.AD<0))),Kc (I (b.AD+1))] mixed rfl rfl
                     (Aa (od rfl (fun _=>rfl) (fun K=>Ai (es ((K.out 16 rfl).trans rfl)) (Cu _ _)))
                     (Aa (od rfl (fun _=>rfl) (fun K=>Ap AP (es (K.An 0 138 rfl rfl)) (b5.ext K.Bc) rfl))
                     (Aa (od rfl (fun _=>rfl) (fun K=>Bu (es (K.An 1 139 rfl rfl)) (ec (v:=I 1)) rE))
                     (Aa (od rfl (fun _=>rfl) (fun K=>Ai (es ((K.out 16 rfl).trans rfl)) (Cu _ _)))
                     (Aa (od rfl (fun _=>rfl) (fun K=>Ap AP (es (K.An 3 141 rfl rfl)) (b5.ext K.Bc) rfl))
                     (Aa (od rfl (fun _=>rfl) (fun K=>Cq (es (K.An 4 142 rfl rfl)) (ec (v:=I 0))))
                     (Aa (od rfl (fun _=>rfl) (fun K=>Hq (es (K.An 2 140 rfl rfl))))
                     (BI _)))))))) ?_
                 intro qG;rintro _ rfl _ rfl _ rfl _ rfl _ rfl _ rfl _ rfl a6;have qH:=oE.ext a6;refine wa rfl (v:=.bool (decide (b.AD<0))) rfl<|Ae<|Ac<|Af<|Ad<|wa rfl (v:=I 0) rfl<|Ae<|Ac<|Af<|Af<|Ad<|wd rfl (fun st=>Ai (ee st rfl) (Eu _ _)) ?_;have cL:=(b5.ext a6);refine wd rfl (fun st=>Ap (v:=I b.On) AP (ee st rfl) cL rfl)<|wa rfl (v:=I b.On) rfl<|Ae<|Ac<|Ba ?_;replace d:=bind_some d;obtain⟨jS,iG,d⟩:=d;refine Ce (fun dZ a aW=>(dZ=.exit 4∧a.tmps.size=183∧a.defers=(X0).ds∧sl a 3=pt p 0∧sl a 7=pt e 0∧sl a 8=.slice x aV.length y∧sl a 9=.slice aF aR.1.length aG∧sl a 11=I aP∧sl a 12=I (b.AD+1)∧sl a 13=.bool (decide (b.AD<0))∧sl a 14=I aB∧sl a 15=I bF∧sl a 16=pt s 0∧sl a 17=I jS∧sl a 92=pt s 0∧sl a 93=I b.On∧sl a 94=I m∧sl a 95=pt e 0∧sl a 96=.slice g aC.Comes.length j∧sl a 97=I bF∧sl a 98=pt dP (dQ+i37)∧sl a 99=I aL∧sl a 100=I (max m aL)∧sl a 101=.bool (b.On !=(max m aL))∧sl a 104=pt s 0∧sl a 105=I b.On∧sl a 106=pt p 0∧sl a 107=I f.Am∧sl a 108=.bool (decide (f.Am<b.On))∧sl a 111=pt s 1∧sl a 112=I b.AD∧sl a 113=pt p 0∧sl a 114=I f.Am∧sl a 115=.bool (decide (f.Am<b.AD))∧sl a 118=pt s 1∧sl a 119=I b.AD∧sl a 120=.bool (b.AD !=(-1))∧sl a 121=.bool (b.AD !=(-1))∧sl a 127=.bool false∧sl a 130=pt s 2∧sl a 131=.bool b.AM∧sl a 132=.bool b.AM∧sl a 136=.bool false∧qG=aW)) ?rF ?rG
                 case rF=>
                  clear d;refine Cd (fun(bS:Nat) (a:Act) (aW:World)=>∃cA,∃aT,CR f aC b bS cA aT=some jS∧a.tmps.size=183∧a.defers=(X0).ds∧sl a 3=pt p 0∧sl a 7=pt e 0∧sl a 8=.slice x aV.length y∧sl a 9=.slice aF aR.1.length aG∧sl a 11=I aP∧sl a 12=I (b.AD+1)∧sl a 13=.bool (decide (b.AD<0))∧sl a 14=I aB∧sl a 15=I bF∧sl a 16=pt s 0∧sl a 17=I cA∧sl a 18=I aT∧sl a 92=pt s 0∧sl a 93=I b.On∧sl a 94=I m∧sl a 95=pt e 0∧sl a 96=.slice g aC.Comes.length j∧sl a 97=I bF∧sl a 98=pt dP (dQ+i37)∧sl a 99=I aL∧sl a 100=I (max m aL)∧sl a 101=.bool (b.On !=(max m aL))∧sl a 104=pt s 0∧sl a 105=I b.On∧sl a 106=pt p 0∧sl a 107=I f.Am∧sl a 108=.bool (decide (f.Am<b.On))∧sl a 111=pt s 1∧sl a 112=I b.AD∧sl a 113=pt p 0∧sl a 114=I f.Am∧sl a 115=.bool (decide (f.Am<b.AD))∧sl a 118=pt s 1∧sl a 119=I b.AD∧sl a 120=.bool (b.AD !=(-1))∧sl a 121=.bool (b.AD !=(-1))∧sl a 127=.bool false∧sl a 130=pt s 2∧sl a 131=.bool b.AM∧sl a 132=.bool b.AM∧sl a 136=.bool false∧qG=aW) gT ?rH ?rI
                  case rH=>
                   intro st;exact⟨(0:Int),b.On,iG,qz st,qd st,sp st 3 bH,sp st 7 bT,sp st 8 cC,sp st 9 cN,sp st 11 b3,sp st 12 rfl,sp st 13 rfl,sp st 14 b6,sp st 15 rfl,sp st 16 rfl,sp st 17 rfl,sp st 18 rfl,sp st 92 rfl,sp st 93 rfl,sp st 94 rfl,sp st 95 rfl,sp st 96 rfl,sp st 97 rfl,sp st 98 rfl,sp st 99 rfl,sp st 100 rfl,sp st 101 rfl,sp st 104 rfl,sp st 105 rfl,sp st 106 rfl,sp st 107 rfl,sp st 108 rfl,sp st 111 rfl,sp st 112 rfl,sp st 113 rfl,sp st 114 rfl,sp st 115 rfl,sp st 118 rfl,sp st 119 rfl,sp st 120 rfl,sp st 121 rfl,sp st 127 rfl,sp st 130 rfl,sp st 131 rfl,sp st 132 rfl,sp st 136 rfl,rfl⟩
                  case rI=>
                   rintro(_|bS) aAQ _ ⟨cA,aT,iG,qI,qJ,dX,dY,iH,iI,gD,gE,gF,gG,gH,cY,gI,cZ,gJ,gK,gL,gM,gN,gO,gP,gQ,c1,c2,c3,c4,c5,c6,c7,c8,c9,dA,dB,dC,dD,dE,dF,dG,dH,dI,dJ,dK,dL,rfl⟩
                   ·exact absurd (show none=some _ from iG) (by simp)
                   rw[CR.eq_2] at iG;have d:=iG;clear iG;refine B2 (N:=183) qI qJ<|Af<|Af<|Ad<|wm rfl (v:=I aT) cZ<|wd rfl (fun st=>Ai (ee st dX) (DP _ _)) ?_;have i5:=((aS.ext o).ext a6);refine wd rfl (fun st=>Ap (v:=I f.Am) AP (ee st rfl) i5 rfl)<|wd rfl (fun st=>Ee (ee st rfl) (ee st rfl))<|wm rfl (v:=.bool (decide (aT≤f.Am))) rfl ?_;rcases Aq (decide (aT≤f.Am)) with bX|bX
                   ·replace d:=AF d bX;refine Aw rfl rfl (Ab rfl bX) rfl (by decide) (fun st=>AN (v:=I aT) (ee st cZ))<|Aw rfl rfl (Ab rfl bX) rfl (by decide) (fun st=>Ai (ee st cY) (Cu _ _))<|Aw rfl rfl (Ab rfl bX) rfl (by decide) (fun st=>Ap (v:=I b.AD) AP (ee st rfl) cL rfl)<|Aw rfl rfl (Ab rfl bX) rfl (by decide) (fun st=>Ee (ee st rfl) (ee st rfl))<|wd rfl (fun st=>AT (v:=.bool (decide (aT≤b.AD))) (ee st rfl) bX (ee st rfl))<|Ae<|Ac ?_;rcases Aq (decide (aT≤b.AD)) with i6|i6
                    ·replace d:=AF d i6;refine Ay rfl i6<|AY<|Ac<|Af<|Ba<|Af<|Ad<|wd rfl (fun st=>Ai (ee st dY) (HZ _ _)) ?_;have oM:=((aM.ext o).ext a6);refine wd rfl (fun st=>Ap (v:=.slice q aC.Ao.length r) FG (ee st rfl) oM rfl)<|wm rfl (v:=I aT) cZ ?_;replace d:=Bt d;obtain⟨i109,nC,rJ,rK,rL,d⟩:=d;have l1:=((((aH.mv (Ax aD)).mv (aE.AS z.gr 0 rfl)).mv (Ah o)).mv (Ah a6));obtain⟨aA1,aA2,_,rM,rfl,rN⟩:=Sl.Ed l1 rfl rK;refine wd rfl (fun st=>Bv (k:=i109) Tryz.underlying65 If (ee st rfl) rM (ee st rfl) rJ rL)<|wd rfl (fun st=>BU (v:=.bool nC) FA (ee st rfl) rN rfl)<|wd rfl (fun st=>Dl (ee st rfl))<|Ae<|Ac ?_;rcases Aq (!nC) with gR|gR
                     ·replace d:=AF d gR;have vB:nC=false:=by simpa using gR
                      refine Ay rfl gR<|Ad<|wm rfl (v:=I cA) gI ?_;replace d:=AU d;obtain⟨rO,d⟩:=d;refine wd rfl (fun st=>Bu (ee st rfl) (ee st rfl) rO)<|wa rfl (v:=I (cA+1)) rfl<|Ae<|Bi<|Ac<|Ad<|wm rfl (v:=I aT) cZ ?_;replace d:=AU d;obtain⟨rP,d⟩:=d;refine wd rfl (fun st=>Bu (ee st rfl) (ee st rfl) rP)<|wa rfl (v:=I (aT+1)) rfl<|Ae ?_;refine Bs bS (Nat.lt_succ_self _) (fun st=>?_);exact⟨(cA+1),(aT+1),d,qz st,qd st,sp st 3 dX,sp st 7 dY,sp st 8 iH,sp st 9 iI,sp st 11 gD,sp st 12 gE,sp st 13 gF,sp st 14 gG,sp st 15 gH,sp st 16 cY,sp st 17 rfl,sp st 18 rfl,sp st 92 gJ,sp st 93 gK,sp st 94 gL,sp st 95 gM,sp st 96 gN,sp st 97 gO,sp st 98 gP,sp st 99 gQ,sp st 100 c1,sp st 101 c2,sp st 104 c3,sp st 105 c4,sp st 106 c5,sp st 107 c6,sp st 108 c7,sp st 111 c8,sp st 112 c9,sp st 113 dA,sp st 114 dB,sp st 115 dC,sp st 118 dD,sp st 119 dE,sp st 120 dF,sp st 121 dG,sp st 127 dH,sp st 130 dI,sp st 131 dJ,sp st 132 dK,sp st 136 dL,rfl⟩
                     ·replace d:=AG d gR;have vC:nC=true:=by simpa using gR
                      refine AH rfl gR<|AY<|Bi<|Ac<|Ad<|wm rfl (v:=I aT) cZ ?_;replace d:=AU d;obtain⟨rQ,d⟩:=d;refine wd rfl (fun st=>Bu (ee st rfl) (ee st rfl) rQ)<|wa rfl (v:=I (aT+1)) rfl<|Ae ?_;refine Bs bS (Nat.lt_succ_self _) (fun st=>?_);exact⟨cA,(aT+1),d,qz st,qd st,sp st 3 dX,sp st 7 dY,sp st 8 iH,sp st 9 iI,sp st 11 gD,sp st 12 gE,sp st 13 gF,sp st 14 gG,sp st 15 gH,sp st 16 cY,sp st 17 gI,sp st 18 rfl,sp st 92 gJ,sp st 93 gK,sp st 94 gL,sp st 95 gM,sp st 96 gN,sp st 97 gO,sp st 98 gP,sp st 99 gQ,sp st 100 c1,sp st 101 c2,sp st 104 c3,sp st 105 c4,sp st 106 c5,sp st 107 c6,sp st 108 c7,sp st 111 c8,sp st 112 c9,sp st 113 dA,sp st 114 dB,sp st 115 dC,sp st 118 dD,sp st 119 dE,sp st 120 dF,sp st 121 dG,sp st 127 dH,sp st 130 dI,sp st 131 dJ,sp st 132 dK,sp st 136 dL,rfl⟩
                    ·replace d:=AG d i6;refine AH rfl i6<|B1<|AK<|AK ?_;obtain rfl:=Option.some.inj d;refine BD (fun st=>?_);exact⟨rfl,qz st,qd st,sp st 3 dX,sp st 7 dY,sp st 8 iH,sp st 9 iI,sp st 11 gD,sp st 12 gE,sp st 13 gF,sp st 14 gG,sp st 15 gH,sp st 16 cY,sp st 17 gI,sp st 92 gJ,sp st 93 gK,sp st 94 gL,sp st 95 gM,sp st 96 gN,sp st 97 gO,sp st 98 gP,sp st 99 gQ,sp st 100 c1,sp st 101 c2,sp st 104 c3,sp st 105 c4,sp st 106 c5,sp st 107 c6,sp st 108 c7,sp st 111 c8,sp st 112 c9,sp st 113 dA,sp st 114 dB,sp st 115 dC,sp st 118 dD,sp st 119 dE,sp st 120 dF,sp st 121 dG,sp st 127 dH,sp st 130 dI,sp st 131 dJ,sp st 132 dK,sp st 136 dL,rfl⟩
                   ·replace d:=AG d bX;refine Aj (c:=false) rfl rfl (Ab rfl bX) (by decide) rfl (by decide)<|Aj (c:=false) rfl rfl (Ab rfl bX) (by decide) rfl (by decide)<|Aj (c:=false) rfl rfl (Ab rfl bX) (by decide) rfl (by decide)<|Aj (c:=false) rfl rfl (Ab rfl bX) (by decide) rfl (by decide)<|wd rfl (fun st=>Bd (v:=.bool false) (ee st rfl) bX (ee st rfl))<|Ae<|Ac<|AH rfl rfl<|B1<|AK<|AK ?_;obtain rfl:=Option.some.inj d;refine BD (fun st=>?_);exact⟨rfl,qz st,qd st,sp st 3 dX,sp st 7 dY,sp st 8 iH,sp st 9 iI,sp st 11 gD,sp st 12 gE,sp st 13 gF,sp st 14 gG,sp st 15 gH,sp st 16 cY,sp st 17 gI,sp st 92 gJ,sp st 93 gK,sp st 94 gL,sp st 95 gM,sp st 96 gN,sp st 97 gO,sp st 98 gP,sp st 99 gQ,sp st 100 c1,sp st 101 c2,sp st 104 c3,sp st 105 c4,sp st 106 c5,sp st 107 c6,sp st 108 c7,sp st 111 c8,sp st 112 c9,sp st 113 dA,sp st 114 dB,sp st 115 dC,sp st 118 dD,sp st 119 dE,sp st 120 dF,sp st 121 dG,sp st 127 dH,sp st 130 dI,sp st 131 dJ,sp st 132 dK,sp st 136 dL,rfl⟩
                 case rG=>
                  rintro dZ aAJ _ (⟨rfl,pE,pF,iQ,k7,k8,k9,jV,jW,jX,jY,nS,dM,nT,vD,vE,vF,vG,vH,vI,vJ,vK,rR,rS,rT,rU,rV,rW,rX,rY,rZ,r0,r3,r4,r5,r6,r7,r8,r9,sA,sB,sC,sD,rfl⟩);refine Ch (X:=X0) (N:=183) pE pF<|Bx<|Ac<|Af ?_;rcases Aq (decide ((0:Int)≤b.AD)) with aY|aY
                  ·replace d:=AF d aY;have i5:=((aS.ext o).ext a6);replace d:=Bt d;obtain⟨i118,nD,sE,sF,sG,d⟩:=d;have lA:=((((a7.mv (Ax aD)).mv (aE.AS z.gr 0 rfl)).mv (Ah o)).mv (Ah a6));obtain⟨qK,qL,_,sH,rfl,sI⟩:=Sl.elem lA (by decide) sF;refine B3 15 [Kc (pt s 2),Kc (.bool b.AM),Kc (pt s 1),Kc (I b.AD),Kc (.bool (decide ((0:Int)≤b.AD))),Kc (.bool (decide ((0:Int)≤b.AD))),Kc (I jS),Kc (pt p 4),Kc (.slice aI f.Ag.length aJ),Kc (I bF),Kc (pt qK (qL+i118*5)),Kc (pt qK (qL+i118*5+2)),Kc (I nD.AM),Kc (.bool (jS==nD.AM)),Kc (.bool (jS==nD.AM))] mixed rfl rfl
                       (Aa (od rfl (fun _=>rfl) (fun K=>Ai (es ((K.out 16 rfl).trans dM)) (FM _ _)))
                       (Aa (od rfl (fun _=>rfl) (fun K=>Ap FA (es (K.An 0 166 rfl rfl)) (cL.ext K.Bc) rfl))
                       (Aa (od rfl (fun _=>rfl) (fun K=>Ai (es ((K.out 16 rfl).trans dM)) (Cu _ _)))
                       (Aa (od rfl (fun _=>rfl) (fun K=>Ap AP (es (K.An 2 168 rfl rfl)) (cL.ext K.Bc) rfl))
                       (Aa (od rfl (fun _=>rfl) (fun K=>He (es (K.An 3 169 rfl rfl)) (ec (v:=I 0))))
                       (Aa (od rfl (fun _=>rfl) (fun K=>AN (es (K.An 4 170 rfl rfl))))
                       (Aa (AE rfl rfl rfl (fun _=>rfl) (fun a' w' ph K=>Ab (K.An 5 171 rfl rfl) aY) (fun a' w' ph K=>AN (es ((K.out 17 rfl).trans nT))))
                       (Aa (AE rfl rfl rfl (fun _=>rfl) (fun a' w' ph K=>Ab (K.An 5 171 rfl rfl) aY) (fun a' w' ph K=>Ai (es ((K.out 3 rfl).trans iQ)) (Fc _ _)))
                       (Aa (AE rfl rfl rfl (fun _=>rfl) (fun a' w' ph K=>Ab (K.An 5 171 rfl rfl) aY) (fun a' w' ph K=>Ap FR (es (K.An 7 173 rfl rfl)) (i5.ext K.Bc) rfl))
                       (Aa (AE rfl rfl rfl (fun _=>rfl) (fun a' w' ph K=>Ab (K.An 5 171 rfl rfl) aY) (fun a' w' ph K=>AN (es ((K.out 15 rfl).trans nS))))
                       (Aa (AE rfl rfl rfl (fun _=>rfl) (fun a' w' ph K=>Ab (K.An 5 171 rfl rfl) aY) (fun a' w' ph K=>Cf (k:=i118) Tryz.underlying61 Ho (es (K.An 8 174 rfl rfl)) sH (es (K.An 9 175 rfl rfl)) sE sG))
                       (Aa (AE rfl rfl rfl (fun _=>rfl) (fun a' w' ph K=>Ab (K.An 5 171 rfl rfl) aY) (fun a' w' ph K=>Ai (es (K.An 10 176 rfl rfl)) (JX _ _ _)))
                       (Aa (AE rfl rfl rfl (fun _=>rfl) (fun a' w' ph K=>Ab (K.An 5 171 rfl rfl) aY) (fun a' w' ph K=>Gq AP (es (K.An 11 177 rfl rfl)) (sI.mv (Ah K.Bc)) rfl))
                       (Aa (AE rfl rfl rfl (fun _=>rfl) (fun a' w' ph K=>Ab (K.An 5 171 rfl rfl) aY) (fun a' w' ph K=>CP (es (K.An 6 172 rfl rfl)) (es (K.An 12 178 rfl rfl))))
                       (Aa (od rfl (fun _=>rfl) (fun K=>AT (es (K.An 5 171 rfl rfl)) aY (es (K.An 13 179 rfl rfl))))
                       (BI _)))))))))))))))) ?_
                   intro b2;rintro _ rfl _ rfl _ rfl _ rfl _ rfl _ rfl _ rfl _ rfl _ rfl _ rfl _ rfl _ rfl _ rfl _ rfl _ rfl a9;have qM:=qH.ext a9;refine wd rfl (fun st=>Il Iu (ee st rfl) (ee st rfl))<|Ae<|Ac ?_;rcases Aq (b.AM !=(jS==nD.AM)) with i7|i7
                   ·replace d:=AF d i7;refine Ay rfl i7<|Af<|Ad<|wa rfl (v:=.bool false) rfl<|Ae<|Ac<|AI<|AV<|As<|As ?_;have zW:Hp FN [] w [some e,some p] b2:=qM.erase 0;obtain rfl:=Option.some.inj d;refine BD (fun st=>?_);exact .inl ⟨rfl,false,rfl,qz st,qd st,sp st 6 rfl,zW⟩
                   ·replace d:=AG d i7;refine AH rfl i7<|AY<|Bi<|Ac<|Ad<|wm rfl (v:=I aB) jY ?_;replace d:=AU d;obtain⟨sJ,d⟩:=d;refine wd rfl (fun st=>Bu (ee st rfl) (ee st rfl) sJ)<|wa rfl (v:=I (aB+1)) rfl<|Ae ?_;have zX:Hp FN [] w [some e,some p] b2:=qM.erase 0;have qN:=(i5.ext a9);have oN:=(((aM.ext o).ext a6).ext a9);have oO:Sl AQ b2 (ZZ FN [] Z w.heap.size [some e,some p]) aI aJ f.Ag:=((lA.mv (Ah a9)).mv (AB 0));have l2:Sl (Az .i64) b2 (ZZ FN [] Z w.heap.size [some e,some p]) g j aC.Comes:=((((aX.mv (Ah o)).mv (Ah a6)).mv (Ah a9)).mv (AB 0));have l3:Sl Bo b2 (ZZ FN [] Z w.heap.size [some e,some p]) q r aC.Ao:=((((((aH.mv (Ax aD)).mv (aE.AS z.gr 0 rfl)).mv (Ah o)).mv (Ah a6)).mv (Ah a9)).mv (AB 0));have nE:Sl (BA (Az .i64)) b2 (ZZ FN [] Z w.heap.size [some e,some p]) x y aV:=((((((aN.mv (Ax aD)).mv (aE.AS z.gr 0 rfl)).mv (Ah o)).mv (Ah a6)).mv (Ah a9)).mv (AB 0));have nF:Sl BW b2 (ZZ FN [] Z w.heap.size [some e,some p]) aF aG aR.1:=((((((aQ.mv (Ax aD)).mv (aE.AS z.gr 0 rfl)).mv (Ah o)).mv (Ah a6)).mv (Ah a9)).mv (AB 0));refine Bs bS (Nat.lt_succ_self _) (fun st=>?_);exact⟨(b.AD+1),(decide (b.AD<0)),(aB+1),d,qz st,qd st,sp st 3 iQ,sp st 7 k7,sp st 8 k8,sp st 9 k9,sp st 11 jV,sp st 12 jW,sp st 13 jX,sp st 14 rfl,zX,qN,oN,oO,l2,l3,nE,nF⟩
                  ·replace d:=AG d aY;refine B3 15 [Kc (pt s 2),Kc (.bool b.AM),Kc (pt s 1),Kc (I b.AD),Kc (.bool (decide ((0:Int)≤b.AD))),Kc (.bool (decide ((0:Int)≤b.AD))),Kc undef,Kc undef,Kc undef,Kc undef,Kc undef,Kc undef,Kc undef,Kc undef,Kc (.bool false)] mixed rfl rfl
                       (Aa (od rfl (fun _=>rfl) (fun K=>Ai (es ((K.out 16 rfl).trans dM)) (FM _ _)))
                       (Aa (od rfl (fun _=>rfl) (fun K=>Ap FA (es (K.An 0 166 rfl rfl)) (cL.ext K.Bc) rfl))
                       (Aa (od rfl (fun _=>rfl) (fun K=>Ai (es ((K.out 16 rfl).trans dM)) (Cu _ _)))
                       (Aa (od rfl (fun _=>rfl) (fun K=>Ap AP (es (K.An 2 168 rfl rfl)) (cL.ext K.Bc) rfl))
                       (Aa (od rfl (fun _=>rfl) (fun K=>He (es (K.An 3 169 rfl rfl)) (ec (v:=I 0))))
                       (Aa (od rfl (fun _=>rfl) (fun K=>AN (es (K.An 4 170 rfl rfl))))
                       (Aa (A5 (c:=false) rfl rfl rfl (by decide) (fun a' w' ph K=>Ab (K.An 5 171 rfl rfl) aY) (fun _=>rfl))
                       (Aa (A5 (c:=false) rfl rfl rfl (by decide) (fun a' w' ph K=>Ab (K.An 5 171 rfl rfl) aY) (fun _=>rfl))
                       (Aa (A5 (c:=false) rfl rfl rfl (by decide) (fun a' w' ph K=>Ab (K.An 5 171 rfl rfl) aY) (fun _=>rfl))
                       (Aa (A5 (c:=false) rfl rfl rfl (by decide) (fun a' w' ph K=>Ab (K.An 5 171 rfl rfl) aY) (fun _=>rfl))
                       (Aa (A5 (c:=false) rfl rfl rfl (by decide) (fun a' w' ph K=>Ab (K.An 5 171 rfl rfl) aY) (fun _=>rfl))
                       (Aa (A5 (c:=false) rfl rfl rfl (by decide) (fun a' w' ph K=>Ab (K.An 5 171 rfl rfl) aY) (fun _=>rfl))
                       (Aa (A5 (c:=false) rfl rfl rfl (by decide) (fun a' w' ph K=>Ab (K.An 5 171 rfl rfl) aY) (fun _=>rfl))
                       (Aa (A5 (c:=false) rfl rfl rfl (by decide) (fun a' w' ph K=>Ab (K.An 5 171 rfl rfl) aY) (fun _=>rfl))
                       (Aa (od rfl (fun _=>rfl) (fun K=>Bd (es (K.An 5 171 rfl rfl)) aY (ec (v:=.bool false))))
                       (BI _)))))))))))))))) ?_
                   intro b2;rintro _ rfl _ rfl _ rfl _ rfl _ rfl _ rfl _ rfl _ rfl _ rfl _ rfl _ rfl _ rfl _ rfl _ rfl _ rfl a9;have qO:=qH.ext a9;refine wd rfl (fun st=>Il Iu (ee st rfl) (ee st rfl))<|Ae<|Ac ?_;rcases Aq (b.AM !=false) with i8|i8
                   ·replace d:=AF d i8;refine Ay rfl i8<|Af<|Ad<|wa rfl (v:=.bool false) rfl<|Ae<|Ac<|AI<|AV<|As<|As ?_;have zY:Hp FN [] w [some e,some p] b2:=qO.erase 0;obtain rfl:=Option.some.inj d;refine BD (fun st=>?_);exact .inl ⟨rfl,false,rfl,qz st,qd st,sp st 6 rfl,zY⟩
                   ·replace d:=AG d i8;refine AH rfl i8<|AY<|Bi<|Ac<|Ad<|wm rfl (v:=I aB) jY ?_;replace d:=AU d;obtain⟨sK,d⟩:=d;refine wd rfl (fun st=>Bu (ee st rfl) (ee st rfl) sK)<|wa rfl (v:=I (aB+1)) rfl<|Ae ?_;have zZ:Hp FN [] w [some e,some p] b2:=qO.erase 0;have qP:=(((aS.ext o).ext a6).ext a9);have oP:=(((aM.ext o).ext a6).ext a9);have oQ:Sl AQ b2 (ZZ FN [] Z w.heap.size [some e,some p]) aI aJ f.Ag:=((((((a7.mv (Ax aD)).mv (aE.AS z.gr 0 rfl)).mv (Ah o)).mv (Ah a6)).mv (Ah a9)).mv (AB 0));have l4:Sl (Az .i64) b2 (ZZ FN [] Z w.heap.size [some e,some p]) g j aC.Comes:=((((aX.mv (Ah o)).mv (Ah a6)).mv (Ah a9)).mv (AB 0));have l5:Sl Bo b2 (ZZ FN [] Z w.heap.size [some e,some p]) q r aC.Ao:=((((((aH.mv (Ax aD)).mv (aE.AS z.gr 0 rfl)).mv (Ah o)).mv (Ah a6)).mv (Ah a9)).mv (AB 0));have nG:Sl (BA (Az .i64)) b2 (ZZ FN [] Z w.heap.size [some e,some p]) x y aV:=((((((aN.mv (Ax aD)).mv (aE.AS z.gr 0 rfl)).mv (Ah o)).mv (Ah a6)).mv (Ah a9)).mv (AB 0));have nH:Sl BW b2 (ZZ FN [] Z w.heap.size [some e,some p]) aF aG aR.1:=((((((aQ.mv (Ax aD)).mv (aE.AS z.gr 0 rfl)).mv (Ah o)).mv (Ah a6)).mv (Ah a9)).mv (AB 0));refine Bs bS (Nat.lt_succ_self _) (fun st=>?_);exact⟨(b.AD+1),(decide (b.AD<0)),(aB+1),d,qz st,qd st,sp st 3 iQ,sp st 7 k7,sp st 8 k8,sp st 9 k9,sp st 11 jV,sp st 12 jW,sp st 13 jX,sp st 14 rfl,zZ,qP,oP,oQ,l4,l5,nG,nH⟩
         ·replace d:=AG d kC;refine AH rfl kC<|B1<|AK<|AK ?_;obtain rfl:=Option.some.inj d;refine BD (fun st=>?_);exact .inr ⟨rfl,(),rfl,qz st,qd st,sp st 3 bH,sp st 7 bT,sp st 8 cC,sp st 9 cN,sp st 11 b3,pS,jL,gX,a7,cO,aH,aN,aQ⟩
       case v2=>
        rintro dZ aAR aA3 (⟨rfl,iM,rfl,lB,lC,pG,nI⟩|⟨rfl,iM,rfl,lB,lC,pH,pI,pJ,pK,oR,nI,pL,nU,nV,lD,lE,l6,l7⟩)
        ·skip
         replace d:=EM d;refine Ch (X:=X0) (N:=183) lB lC<|AV<|AV<|As<|As ?_;obtain rfl:=Option.some.inj d;refine BD (fun st=>?_);exact .inl ⟨rfl,iM,rfl,qz st,qd st,sp st 6 pG,nI⟩
        ·skip
         replace d:=EN d;refine Ch (X:=X0) (N:=183) lB lC<|Bx<|Bi<|Ac<|Ad<|wm rfl (v:=I aP) oR ?_;replace d:=AU d;obtain⟨sL,d⟩:=d;refine wd rfl (fun st=>Bu (ee st rfl) (ee st rfl) sL)<|wa rfl (v:=I (aP+1)) rfl<|Ae ?_;refine Bs bS (Nat.lt_succ_self _) (fun st=>?_);exact⟨(aP+1),d,qz st,qd st,sp st 3 pH,sp st 7 pI,sp st 8 pJ,sp st 9 pK,sp st 11 rfl,nI,pL,nU,nV,lD,lE,l6,l7⟩
      ·replace d:=AG d kB;refine AH rfl kB<|B1<|AK<|AK ?_;obtain rfl:=Option.some.inj d;refine BD (fun st=>?_);exact .inr ⟨rfl,(),rfl,qz st,qd st,sQ⟩
    case vY=>
     rintro dZ aAS aA4 (⟨rfl,jJ,rfl,lF,lG,pM,nJ⟩|⟨rfl,jJ,rfl,lF,lG,nJ⟩)
     ·skip
      replace d:=EM d;refine Ch (X:=X0) (N:=183) lF lG<|AV<|As ?_;have nK:=Option.some.inj d;refine A3 rfl pM ?_;exact⟨nJ.By,congrArg Value.bool nK⟩
     ·skip
      replace d:=EN d;refine Ch (X:=X0) (N:=183) lF lG<|Bx<|Ac<|Af<|Ad ?_;replace d:=CS d;obtain⟨sM,d⟩:=d;refine we rfl (fun st=>AX QC (ee st rfl) IZ (Vi gT ZA _ sM)) ?_;rintro _ aA5 ⟨sN,rfl⟩;have z0:=nJ.ext sN;refine wa rfl (v:=.bool true) rfl<|Ae<|Ac<|AI ?_;have nK:=Option.some.inj d;refine A3 rfl rfl ?_;exact⟨z0.By,congrArg Value.bool nK⟩
end Go.Proofs.YtkljfdkmjdjpfaaGreat
end
section
namespace Go.Proofs.YtkljfdkmjdjpfaaGreat
open Go.RowKit Go.ChangeShapes Go.WideShapes
theorem N8{α β:Type}{g:α→Option β}:∀{l:List α} {r:List β},l.mapM g=some r→∀(i:Nat) (x:α),l[i]?=some x→∃y,r[i]?=some y∧g x=some y
 |[],_,_,i,x,b=>by simp at b
 |a::l,r,h,i,x,b=>by
  rw[List.mapM_cons] at h;obtain⟨y,hy,d⟩:=Option.bind_eq_some_iff.1 h;obtain⟨ys,c,h3⟩:=Option.bind_eq_some_iff.1 d;obtain rfl:y::ys=r:=by simpa using h3
  cases i with
  |zero=>
   obtain rfl:a=x:=by simpa using b
   exact⟨y,rfl,hy⟩
  |succ i=>exact N8 c i x (by simpa using b)
theorem Jv{H:Type}{P:Program}{e:TypeId}{d:DataW H}{n:Nat}(b:n∈d.weights P e):∀{l:List (DataW H)},d∈l→n∈DataW.weightsAll P e l
 |[],h=>by cases h
 |a::l,h=>by
  rw[DataW.weightsAll,List.mem_append];rcases List.mem_cons.1 h with rfl|h
  ·exact .inl b
  ·exact .inr (Jv b h)
def Lp {H:Type} (P:Program) (t:TypeId) (d:DataW H):Prop:=∀n∈d.weights P t,n≤reachBytes
theorem O3{H:Type}{P:Program}{a:List TypeId}{ds:List (DataW H)}(h:(DataW.weightsEach P a ds).all (· ≤reachBytes)=true){j:Nat}{t:TypeId}{d:DataW H}(ht:a[j]?=some t)(b:ds[j]?=some d):Lp P t d:=fun n c=>by
 have:=List.all_eq_true.1 h _ (DataW.weights_mem_each ht b n c);simpa using this
def MJ {α:Type} (P:Program) (t:TypeId) (e:D5 α) (wf:α→Prop):Prop:=
 ∀(H:Type) (enc:TypeId×Value→H) (w:World) (sp:Nat→Bool) (fuel:Nat) (cs:List Value) (x:DataW H×List MemPlace),DataW.trod enc P w 0 sp true fuel t cs=some x→Lp P t x.1→∃a,e.R w ZA cs a∧wf a
def Hh(k:IntKind)(n:Int):Prop:=(Lit.int k n).wf=true
section
variable{P:Program}{t:TypeId}
theorem G4{k:IntKind}(ht:P.underlying t=some (.int k)):MJ P t (Az k) (Hh k):=by
 intro H enc w sp fuel cs x h _;obtain⟨n,h1,_,h3⟩:=DataW.trod_int ht h;exact⟨n,h1,h3⟩
theorem Jg {e:Array Field} (ht:P.underlying t=some (.struct e)) {H:Type} {enc:TypeId×Value→H} {w:World} {sp:Nat→Bool} {fuel:Nat} {cs:List Value} {x:DataW H×List MemPlace} (h:DataW.trod enc P w 0 sp true fuel t cs=some x):
  cs.length=P.cellsOf t∧∃c,∀(i a off:Nat),(e[i]?).map (fun f=>(f.type,f.offset))=some (a,off)→∃y,DataW.trod enc P w 0 sp true c a ((cs.drop off).take (P.cellsOf a))=some y∧(Lp P t x.1→Lp P a y.1):=by
 cases fuel with
 |zero=>simp[DataW.trod] at h
 |succ fuel=>
  unfold DataW.trod at h;simp only[ht] at h;split at h
  ·rename_i l
   obtain⟨xs,m,rfl⟩:=Option.map_eq_some_iff.1 h;refine⟨l,fuel,fun i a off o=>?_⟩;obtain⟨f,b,he⟩:=Option.map_eq_some_iff.1 o;obtain⟨g,p⟩:f.type=a∧f.offset=off:=by simpa using he
   rw[←Array.getElem?_toList] at b;obtain⟨y,hy,k⟩:=N8 m i f b;rw[g,p] at k;refine⟨y,k,fun q n r=>q n ?_⟩;simp only[DataW.weights,ht];exact DataW.weights_mem_each (j:=i) (t:=a) (d:=y.1) (by rw[List.getElem?_map,b];simp[g]) (by rw[List.getElem?_map,hy];rfl) n r
  ·cases h
theorem PG{w:World}{a:Addr}{n:Nat}{cs:List Value}(h:w.cells? 0 a n=some cs):cs.length=n∧∀j u,cs[j]?=some u→w.cell? (a.add j)=some u:=by
 unfold World.cells? at h;rw[if_pos (Nat.zero_le _)] at h;have d:=mapM_some_length h;refine⟨by simpa using d,?_⟩;have key:∀(l:List Nat) (r:List Value),l.mapM (fun i=>w.cell? (a.add i))=some r→∀(j i:Nat) (u:Value),l[j]?=some i→r[j]?=some u→w.cell? (a.add i)=some u:=by
  intro l
  induction l with
  |nil=>intro r _ j i u c;simp at c
  |cons b l ih=>
   intro r h j i u c e;rw[List.mapM_cons] at h;obtain⟨y,hy,f⟩:=Option.bind_eq_some_iff.1 h;obtain⟨ys,g,h3⟩:=Option.bind_eq_some_iff.1 f;obtain rfl:y::ys=r:=by simpa using h3
   cases j with
   |zero=>
    obtain rfl:b=i:=by simpa using c
    obtain rfl:y=u:=by simpa using e
    exact hy
   |succ j=>exact ih ys g j i u (by simpa using c) (by simpa using e)
 intro j u c;have k:j<n:=by
  have:=(List.getElem?_eq_some_iff.1 c).1;have f:cs.length=n:=by simpa using d
  omega
 exact key _ _ h j j u (by simp[k]) c
theorem QF{w:World}{a:Addr}{u:Value}(h:w.cell? a=some u):∃b o,a=⟨b,o,none⟩∧b<w.heap.size:=by
 obtain⟨b,o,pt⟩:=a;cases pt with
 |none=>
  refine⟨b,o,rfl,?_⟩;unfold World.cell? at h;cases c:w.heap[b]? with
  |none=>simp[c] at h
  |some o=>exact(Array.getElem?_eq_some_iff.1 c).1
 |some q=>
  unfold World.cell? at h;cases c:w.heap[b]? with
  |none=>simp[c] at h
  |some ob=>cases ob<;>simp[c] at h
theorem add_add{a:Addr}{k j:Nat}(h:k≤j):(a.add k).add (j-k)=a.add j:=by
 obtain⟨b,o,pt⟩:=a;cases pt with
 |none=>rw[Fq,Fq,Fq];congr 1;omega
 |some q=>
  unfold Addr.add
  by_cases c:j=0
  ·have:k=0:=by omega
   subst this;subst c;simp
  ·by_cases d:k=0
   ·subst d;simp[c]
   ·by_cases e:j-k=0
    ·have:j=k:=by omega
     subst this;simp[d]
    ·simp[c,d,e];omega
theorem MK {α:Type} {e:TypeId} {ee:D5 α} {wf:α→Prop} (ht:P.underlying t=some (.slice e)) (aJ:P.cellsOf e=ee.sz) (h0:0<ee.sz) (aK:MJ P e ee wf) {b:Nat} (aB:P.bytesOf e=b):MJ P t (BA ee) (fun xs=>xs.length*b≤140737488351232∧∀x∈xs,wf x):=by
 intro H enc w sp fuel cs x h v;rcases Go.Deep.open_slice ht h with⟨rfl,_⟩|⟨a,len,cap,m,n0,D,aQ,rfl,_,aC,aO,hm,aD,aA⟩
 ·exact⟨[],⟨none,0,rfl,Sl.nil _ _ _⟩,by simp,by simp⟩
 ·have aP:len≤m:=by rw[hm];split<;>omega
  subst aD;have l:len*b≤140737488351232:=by
   have:=v ((((List.range len).map D).length+((List.range (m-len)).map fun j=>D (len+j)).length)*P.bytesOf e) (by simp[DataW.weights,ht]);rw[aB] at this;have c:len*b≤(((List.range len).map D).length+((List.range (m-len)).map fun j=>D (len+j)).length)*b:=Nat.mul_le_mul_right _ (by simp);exact Nat.le_trans c this
  have p:∀i,i<len→Lp P e (D i):=fun i hi n aE=>v n (by
   simp only[DataW.weights,ht];rw[List.mem_cons,List.mem_append];exact .inr (.inl (Jv aE (List.mem_map.2 ⟨i,by simpa using hi,rfl⟩))))
  have key:∀n,n≤len→∃Bh xs,R2 ee w ZA Bh xs∧xs.length=n∧(∀x∈xs,wf x)∧∀j u,Bh.flatten[j]?=some u→w.cell? (a.add j)=some u:=by
   intro n
   induction n with
   |zero=>exact fun _=>⟨[],[],trivial,rfl,by simp,by simp⟩
   |succ n ih=>
    intro aE;obtain⟨Bh,xs,h1,c,h3,q⟩:=ih (by omega);obtain⟨ds,aL,aF⟩:=aA n (by omega);obtain⟨z,aM,aG⟩:=aK _ _ _ _ _ _ _ aF (p n (by omega));obtain⟨aR,r⟩:=PG aL;refine⟨Bh++[ds],xs++[z],h1.append ⟨aM,trivial⟩,by simp[c],?_,?_⟩
    ·intro x f;rcases List.mem_append.1 f with f|f
     ·exact h3 x f
     ·rw[List.mem_singleton.1 f];exact aG
    ·intro j u d;rw[List.flatten_append] at d;rcases Nat.lt_or_ge j Bh.flatten.length with g|k
     ·rw[List.getElem?_append_left g] at d;exact q j u d
     ·rw[List.getElem?_append_right k] at d;have s:=r (j-Bh.flatten.length) u (by simpa using d);have aH:Bh.flatten.length=n*ee.sz:=by rw[h1.IG,c]
      rw[aH] at s k;rw[aJ] at s;rw[add_add k] at s;exact s
  obtain⟨Bh,xs,h1,c,h3,q⟩:=key len (Nat.le_refl _);refine⟨xs,⟨some a,cap,by rw[c],by rw[c];exact aC,(fun e=>by cases e),Bh,h1,?_⟩,by rw[c];exact l,h3⟩;cases aI:Bh.flatten with
  |nil=>exact .inl rfl
  |cons u us=>
   have hu:=q 0 u (by rw[aI];rfl);obtain⟨b,o,y,g⟩:=QF hu;have aN:a=⟨b,o,none⟩:=by
    obtain⟨b',o',pt⟩:=a;cases pt<;>simp[Addr.add] at y⊢;exact y
   subst aN;refine .inr ⟨b,o,rfl,trivial,g,fun j u d=>?_⟩;have:=q j u (by rw[aI];exact d);rw[Fq] at this;exact this
end
section
variable{H:Type}{enc:TypeId×Value→H}{P:Program}{W W':World}
theorem J0{sp:Nat→Bool}:∀{e:List TypeId} {vs:List Value} {ds:List (DataW H)} {ps:List MemPlace},DataW.TrodAll enc P W 0 sp true e vs ds ps→(∀p∈ps,W.sameAt W' p)→DataW.TrodAll enc P W' 0 sp true e vs ds ps
 |[],_,_,_,h,_=>by
  obtain⟨rfl,rfl,rfl⟩:=trodAll_nil h;exact rfl
 |_::_,_,_,_,h,f=>by
  obtain⟨v,j,d,k,a,b,rfl,rfl,rfl,⟨n,g⟩,i⟩:=trodAll_cons h;exact⟨a,b,⟨n,DataW.trod_carry n _ _ _ g fun p c=>f p (List.mem_append_left _ c)⟩,J0 i fun p c=>f p (List.mem_append_right _ c),rfl⟩
theorem QG(K:Kids P (· <P.types.size))(c:∀t e,t<P.types.size→P.underlying t=some (.slice e)→0<P.cellsOf e){a:List TypeId}{vs:List Value}{ds:List (DataW H)}{ps:List MemPlace}(d:∀t∈a,t<P.types.size)
  (f:DataW.TrodAll enc P W 0 (fun _=>true) true a vs ds ps)(g:Ext W W')(b:∀p∈ps,p.block<W.heap.size)(sp:Nat→Bool)(h:∀p∈ps,sp p.block=true):DataW.TrodAll enc P W' 0 sp true a vs ds ps:=
 J0 (DataW.TrodAll.respare K c d f h) fun p i=>(J1 g).same (b p i)
variable{α:Type}{e:D5 α}{wf:α→Prop}{t:TypeId}{b0:Nat}{v:Value}{d:DataW H}{p:List MemPlace}{sp:Nat→Bool}
theorem Tb{c:Array Field}(ht:P.underlying t=some (.struct c))(f:MJ P t e wf)(b:Value.okWide P W .any b0 t v)(h:DataW.Trod enc P W 0 sp true t v d p)(g:Lp P t d):∃a cs,v=.agg cs.toArray∧e.R W ZA cs a∧wf a:=by
 unfold Value.okWide at b;rw[ht] at b;obtain⟨cs,rfl,_⟩:=b;obtain⟨n,i⟩:=h;obtain⟨a,h1,j⟩:=f _ _ _ _ _ _ _ i g;exact⟨a,cs.toList,by simp,h1,j⟩
theorem Uy{ee:TypeId}(ht:P.underlying t=some (.slice ee)){wf:List α→Prop}(f:MJ P t (BA e) wf)(g:Value.okWide P W .any b0 t v)(h:DataW.Trod enc P W 0 sp true t v d p)(i:Lp P t d):∃xs A c,v=.slice A xs.length c∧Sl e W ZA A c xs∧wf xs:=by
 obtain⟨A,n,c,rfl⟩:=okWide_slice ht g;obtain⟨m,hm⟩:=h;obtain⟨xs,⟨a,b,h1,j⟩,h3⟩:=f _ _ _ _ _ _ _ hm i;have:Value.slice A n c=Value.slice a xs.length b:=by simpa[Value.cells] using h1
 exact⟨xs,a,b,this,j,h3⟩
theorem Tc{k:IntKind}(ht:P.underlying t=some (.int k))(a:Value.okWide P W .any b0 t v)(h:DataW.Trod enc P W 0 sp true t v d p):∃n,v=.int k n∧Hh k n:=by
 obtain⟨n,h1,_,_,b⟩:=open_int ht a h;exact⟨n,h1,b⟩
theorem Oq {f:Func} {s:ChangeSpec} {apart fresh handsOn again:Bool} {args:Array Value} {v:Value} {ds gs:List (DataW H)} {before pa pv:List MemPlace}
  (k:DataW.Whole enc P f.params.toList s.vars apart W args.toList ds gs before)
  (g:∀(b:Nat) (sp:Nat→Bool) (n:Bool),DataW.TrodAll enc P W' b sp n f.resultTypes.toList (v.resultList f.resultTypes.size) (s.fn H (ds++gs)).results [])
  (c:∀sp:Nat→Bool,(∀p∈before,sp p.block=true)→DataW.TrodAll enc P W' 0 sp true f.params.toList args.toList (s.fn H (ds++gs)).args pa)
  (d:∀sp:Nat→Bool,(∀p∈before,sp p.block=true)→DataW.TrodVars enc P W' sp s.vars (s.fn H (ds++gs)).vars pv)
  (e:before=pa++pv) (o:Ext W W')
  (l:∀(j:Nat) (t:TypeId) (r:Value),f.resultTypes[j]?=some t→(v.resultList f.resultTypes.size)[j]?=some r→Value.okWide P W' .any 0 t r):
  s.post enc P f apart fresh handsOn again W args v W':=by
 have m:=J1 o;have h:∀p∈before,p.block<W.heap.size:=fun p a=>k.lt p a;have hold:∀p∈before,(fun b=>decide (b<W.heap.size)) p.block=true:=fun p a=>by simpa using h p a
 refine⟨ds,gs,before,[],pa,pv,k,g _ _ _,c _ hold,d _ hold,World.keptBut_mono (fun p a=>⟨a,?_⟩) (m.frame (· ∈before)),fun _=>?_⟩
 ·rw[e,List.mem_append] at a;exact Or.inr a
 ·obtain⟨_,_,_,_,_,q,u⟩:=k;refine⟨l,_,_,([]++pa)++pv,⟨[]++pa,pv,trodAll_append (c _ (fun _ _=>rfl)) (g _ _ _),d _ (fun _ _=>rfl),rfl,?_,?_⟩,?_⟩
  ·intro b off a;have i:MemPlace.cell b off∈before:=by rw[e];simpa using a
   rw[m.frozen (h _ i)];exact q b off i
  ·intro w;have:=u w;rw[e] at this;simpa using this
  ·intro p a _;rw[e];simpa using a
theorem QH{f:FuncId}{args:Array Value}{w:World}{R:Value→World→Prop}(h:BO P f args w R):Calls P f args w (fun e w'=>∃v,e=.returned v∧R v w'):=h
end
end Go.Proofs.YtkljfdkmjdjpfaaGreat
end
section
set_option linter.unusedVariables false
set_option linter.unusedSimpArgs false
namespace Go.Proofs.YtkljfdkmjdjpfaaGreat
open Go.RowKit Go.ChangeShapes Go.WideShapes
theorem U5:∀{cs:List Value},cs.length=2→∃a0 a1,cs=[a0,a1]
 |[a0,a1],_=>⟨a0,a1,rfl⟩
theorem RU:∀{cs:List Value},cs.length=5→∃a0 a1 a2 a3 a4,cs=[a0,a1,a2,a3,a4]
 |[a0,a1,a2,a3,a4],_=>⟨a0,a1,a2,a3,a4,rfl⟩
theorem Td:MJ Tryz.prog 116 Oz (fun x=>(Hh .i64 x.Lo∧Hh .i64 x.Hi)):=by
 intro H enc w sp fuel cs x h c;obtain⟨d,j,e⟩:=Jg Tryz.underlying116 h;have k:Tryz.prog.cellsOf 116=2:=by kernel_rfl
 rw[k] at d;have f:Tryz.prog.cellsOf 3=1:=by kernel_rfl
 obtain⟨a0,a1,rfl⟩:=U5 d;obtain⟨l,a,g⟩:=e 0 3 0 rfl;simp only[f,List.drop_zero,List.drop_succ_cons,List.take_succ_cons,List.take_zero] at a;obtain⟨n0,h0,w0⟩:=(G4 Tryz.underlying3) _ _ _ _ _ _ _ a (g c);cases h0;obtain⟨y1,b,i⟩:=e 1 3 1 rfl;simp only[f,List.drop_zero,List.drop_succ_cons,List.take_succ_cons,List.take_zero] at b;obtain⟨n1,h1,w1⟩:=(G4 Tryz.underlying3) _ _ _ _ _ _ _ b (i c);cases h1;exact⟨⟨n0,n1⟩,rfl,w0,w1⟩
theorem Te:MJ Tryz.prog 118 AQ (fun x=>((Hh .i64 ((⟨x.Au,x.AJ⟩:CB).Lo)∧Hh .i64 ((⟨x.Au,x.AJ⟩:CB).Hi))∧Hh .i64 x.AM∧Hh .i64 x.Cc∧Hh .i64 x.Ct)):=by
 intro H enc w sp fuel cs x h a;obtain⟨j,o,b⟩:=Jg Tryz.underlying118 h;have p:Tryz.prog.cellsOf 118=5:=by kernel_rfl
 rw[p] at j;have g:Tryz.prog.cellsOf 3=1:=by kernel_rfl
 have i:Tryz.prog.cellsOf 116=2:=by kernel_rfl
 obtain⟨a0,a1,a2,a3,a4,rfl⟩:=RU j;obtain⟨u,c,k⟩:=b 0 116 0 rfl;simp only[i,List.drop_zero,List.drop_succ_cons,List.take_succ_cons,List.take_zero] at c;obtain⟨n0,h0,w0⟩:=Td _ _ _ _ _ _ _ c (k a);cases h0;obtain⟨y1,d,l⟩:=b 1 3 2 rfl;simp only[g,List.drop_zero,List.drop_succ_cons,List.take_succ_cons,List.take_zero] at d;obtain⟨n1,h1,w1⟩:=(G4 Tryz.underlying3) _ _ _ _ _ _ _ d (l a);cases h1;obtain⟨v,e,m⟩:=b 2 3 3 rfl;simp only[g,List.drop_zero,List.drop_succ_cons,List.take_succ_cons,List.take_zero] at e;obtain⟨q,r,w2⟩:=(G4 Tryz.underlying3) _ _ _ _ _ _ _ e (m a);cases r;obtain⟨y,f,n⟩:=b 3 3 4 rfl;simp only[g,List.drop_zero,List.drop_succ_cons,List.take_succ_cons,List.take_zero] at f;obtain⟨s,h3,t⟩:=(G4 Tryz.underlying3) _ _ _ _ _ _ _ f (n a);cases h3;exact⟨⟨n0.Lo,n0.Hi,n1,q,s⟩,rfl,w0,w1,w2,t⟩
theorem Uz:MJ Tryz.prog 63 HP (fun x=>(Hh .i64 x.Am∧Hh .i64 x.Ak∧Hh .i64 x.Ao∧Hh .i64 x.AA∧(x.Ag.length*40≤140737488351232∧∀y∈x.Ag,((Hh .i64 ((⟨y.Au,y.AJ⟩:CB).Lo)∧Hh .i64 ((⟨y.Au,y.AJ⟩:CB).Hi))∧Hh .i64 y.AM∧Hh .i64 y.Cc∧Hh .i64 y.Ct)))):=by
 intro H enc w sp fuel cs x h a;obtain⟨k,r,c⟩:=Jg Tryz.underlying63 h;have s:Tryz.prog.cellsOf 63=5:=by kernel_rfl
 rw[s] at k;have d:Tryz.prog.cellsOf 3=1:=by kernel_rfl
 have l:Tryz.prog.cellsOf 61=1:=by kernel_rfl
 obtain⟨a0,a1,a2,a3,a4,rfl⟩:=RU k;obtain⟨aF,e,m⟩:=c 0 3 0 rfl;simp only[d,List.drop_zero,List.drop_succ_cons,List.take_succ_cons,List.take_zero] at e;obtain⟨n0,h0,w0⟩:=(G4 Tryz.underlying3) _ _ _ _ _ _ _ e (m a);cases h0;obtain⟨y1,f,n⟩:=c 1 3 1 rfl;simp only[d,List.drop_zero,List.drop_succ_cons,List.take_succ_cons,List.take_zero] at f;obtain⟨n1,h1,w1⟩:=(G4 Tryz.underlying3) _ _ _ _ _ _ _ f (n a);cases h1;obtain⟨aG,g,o⟩:=c 2 3 2 rfl;simp only[d,List.drop_zero,List.drop_succ_cons,List.take_succ_cons,List.take_zero] at g;obtain⟨t,u,w2⟩:=(G4 Tryz.underlying3) _ _ _ _ _ _ _ g (o a);cases u;obtain⟨aH,i,p⟩:=c 3 3 3 rfl;simp only[d,List.drop_zero,List.drop_succ_cons,List.take_succ_cons,List.take_zero] at i;obtain⟨v,h3,z⟩:=(G4 Tryz.underlying3) _ _ _ _ _ _ _ i (p a);cases h3;obtain⟨aI,j,q⟩:=c 4 61 4 rfl;simp only[l,List.drop_zero,List.drop_succ_cons,List.take_succ_cons,List.take_zero] at j;obtain⟨n4,⟨aA,aB,aC,aD⟩,aE⟩:=(MK (b:=40) Tryz.underlying61 (by kernel_rfl) (by decide) Te (by kernel_rfl)) _ _ _ _ _ _ _ j (q a);cases aC;exact⟨⟨n0,n1,t,v,n4⟩,⟨aA,aB,rfl,aD⟩,w0,w1,w2,z,aE⟩
theorem VF:ownKnob Tryz.prog.godebug=none:=by kernel_rfl
theorem U6:Kids Tryz.prog (· <Tryz.prog.types.size):=kids_rows (by kernel_rfl) (by kernel_rfl)
theorem U7:∀t e,t<Tryz.prog.types.size→Tryz.prog.underlying t=some (.slice e)→0<Tryz.prog.cellsOf e:=slices_full_of Tryz.prog (by kernel_rfl)
theorem V2{x:Int}(h:Hh .u8 x):0≤x∧x<256:=by
 have a:(decide (IntKind.u8.min≤x)&&decide (x≤IntKind.u8.max))=true:=h;rw[Bool.and_eq_true,decide_eq_true_eq,decide_eq_true_eq] at a;have b:IntKind.u8.min=0:=by decide
 have c:IntKind.u8.max=255:=by decide
 omega
theorem UA{x:Int}(h:Hh .u16 x):0≤x∧x<65536:=by
 have a:(decide (IntKind.u16.min≤x)&&decide (x≤IntKind.u16.max))=true:=h;rw[Bool.and_eq_true,decide_eq_true_eq,decide_eq_true_eq] at a;have b:IntKind.u16.min=0:=by decide
 have c:IntKind.u16.max=65535:=by decide
 omega
end Go.Proofs.YtkljfdkmjdjpfaaGreat
end
section
set_option linter.unusedVariables false
set_option linter.unusedSimpArgs false
namespace Go.Proofs.YtkljfdkmjdjpfaaGreat
open Go.RowKit Go.ChangeShapes Go.WideShapes Go.ChangeAt
theorem N9(y:Ar)(n:Int)(ws:List Int)(h1:Hh .u16 n)(h9:(ws.length*1≤140737488351232∧∀y∈ws,Hh .u8 y)):∃K,EE K y n ws=some true:=MO y n (by have:=UA h1;omega) (by have:=UA h1;omega) ws (fun x a=>by have:=V2 (h9.2 x a);omega)
set_option maxRecDepth 100000 in
theorem L1(os:Os)(started:os.Started)(H:Type)(enc:TypeId×Value→H):
  ReturnsInHanded {} Tryz.checked os 10 .any (Rows.rackLiesSpec.pre6 enc Tryz.prog Tryz.f10 Rows.rackLiesRow.domain false) (Rows.rackLiesSpec.post enc Tryz.prog Tryz.f10 false true false false):=by
 refine returnsInHanded_of_change_sized (C:=Tryz.checked) VF started (by kernel_rfl) Tryz.func10
  (ChangeSpec.witness6 (enc:=enc) (C:=Tryz.checked) false ⟨#[], #[.agg #[.int .i64 0,.int .i64 0,.int .i64 0,.int .i64 0,.slice none 0 0],.int .u16 0,.slice none 0 0],[]⟩ 8 (by kernel_rfl) (by kernel_rfl) (by kernel_rfl) (by kernel_rfl)) ?_
 intro W base args ds gs before f m aB n _;have a:∀(j:Nat) t v,Tryz.f10.params[j]?=some t→args[j]?=some v→Value.okWide Tryz.prog W .any base t v:=f;have d:=m;obtain⟨p,q,o,aC,rfl,aM,aN⟩:=m;have h:DataW.TrodAll enc Tryz.prog W 0 (fun _=>true) true Tryz.f10.params.toList args.toList ds p:=o;obtain⟨rfl,rfl⟩:=trodVars_none aC;simp only[List.append_nil] at d;have r:∀x∈p,x.block<W.heap.size:=fun x g=>by simpa using d.lt x g
 have s:=h;have c:(DataW.weightsEach Tryz.prog (Tryz.f10.params.toList++[]) (ds++[])).all (· ≤reachBytes)=true:=n;rw[Tryz.params10] at h a c;obtain⟨v0,v1,v2,d0,d1,d2,aD,aE,aF,rfl,rfl,rfl,h0,h1,aG⟩:=trodAll_three h;obtain⟨u,aO,w,⟨i,k,rfl,l⟩,w0⟩:=Tb Tryz.underlying63 Uz (a 0 63 v0 rfl rfl) h0 (O3 (j:=0) c rfl rfl);obtain⟨x1,y,w1⟩:=Tc Tryz.underlying27 (a 1 27 v1 rfl rfl) h1;obtain⟨x2,aH,aI,z,s2,w2⟩:=Uy Tryz.underlying109 (MK (b:=1) Tryz.underlying109 (by kernel_rfl) (by decide) (G4 Tryz.underlying5) (by kernel_rfl)) (a 2 109 v2 rfl rfl) aG (O3 (j:=2) c rfl rfl);subst w;subst y;subst z;obtain⟨K,aJ⟩:=N9 u x1 x2 w1 w2;refine(QH (V1 K u x1 x2 i k aH aI ZA W l s2 aJ)).mono fun e W' ⟨v,he,g,aK⟩=>?_;subst he;subst aK;exact⟨_,rfl,Oq (pa:=(aD++aE++aF)) (pv:=[]) d (fun _ _ _=>trodAll_mk1 (shut_bool Tryz.underlying4 _)) (fun sp aL=>QG U6 U7 (by rw[Tryz.params10];decide) s g r sp (fun x aA=>aL x (by simpa using aA))) (fun _ _=>rfl) (by simp) g (ok_one (by kernel_rfl) rfl (okWide_bool_mk Tryz.underlying4 _))⟩
theorem rackLies_holds:Rows.RackLiesSaid:=
 OpenClaim.holds_of_wide 10 Tryz.f10 rfl rfl rfl rfl rfl rfl rfl ⟨rfl,rfl,rfl,rfl,rfl⟩ rfl rfl rfl rfl rfl (by kernel_rfl) Tryz.func10 (by kernel_rfl)
  (of_decide_eq_true (by kernel_rfl)) (by unfold Func.isWrapper;first|(rw[if_pos (by decide+kernel)];kernel_rfl)|(rw[if_neg (by decide+kernel)];exact⟨rfl,rfl⟩))
  (fun os started H enc _=>L1 os started H enc)
end Go.Proofs.YtkljfdkmjdjpfaaGreat
end
