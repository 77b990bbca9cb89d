import Derived.Test.YtbhofkcbfblijaaGreatCL6
import Derived.Test.YtbhofkcbfblijaaGreatRows
/-
  Proved: the law TradeLayer returns true for every argument that the row hands over, and leaves every argument as it was; no condition beside the row's own.
-/
set_option linter.all false
section
namespace Go.Proofs.YtbhofkcbfblijaaGreat
open Go.RowKit Go.WideShapes
def Ek(b:Nat)(a:AM)(e:Int)(g:Int):Option (Bool):=
 (EJ b a).bind fun n=>cond (!n) ((FP (C3 b=some true)).bind fun _=>some (true)) (cond ((a.Ab.length:Int)==0) ((FP (C3 b=some true)).bind fun _=>some (true)) (cond ((a.AF.length:Int)==0) ((FP (C3 b=some true)).bind fun _=>some (true)) ((Pa .i64 e).bind fun _=>(rem e (a.Ab.length:Int)).bind fun _=>(Pa .i64 g).bind fun _=>(rem g (a.AF.length:Int)).bind fun _=>(idx a.AF (g%(a.AF.length:Int))).bind fun c=>(DW b (⟨a.Ah,a.Ab,a.Ak⟩:AX)).bind fun h=>(idx a.Az c.Cd).bind fun i=>(F6 b h (e%(a.Ab.length:Int)) i.AW).bind fun d=>cond (d.2 !=0) ((Ec b (⟨a.Ah,a.Ab,a.Ak,a.Flat,a.Az,[c],([]:List BR)⟩:AM)).bind fun j=>(Hb b j).bind fun k=>cond (d.2==11) (cond (k.2==d.2) ((FP (C3 b=some true)).bind fun _=>some (true)) (some (false))) (some (false))) ((Ec b (⟨a.Ah,a.Ab,a.Ak,a.Flat,a.Az,[c],([]:List BR)⟩:AM)).bind fun l=>(GV b l [e%(a.Ab.length:Int)]).bind fun f=>cond (d.1==1) ((FY b a (e%(a.Ab.length:Int))).bind fun m=>cond (f==(decide (c.Ci≤m))) ((FP (C3 b=some true)).bind fun _=>some (true)) (some (false))) (cond (f==false) ((FP (C3 b=some true)).bind fun _=>some (true)) (some (false)))))))
end Go.Proofs.YtbhofkcbfblijaaGreat
end
section
namespace Go.Proofs.YtbhofkcbfblijaaGreat
def Iq(t:AM)(o:BH):AM:=⟨t.Ah,t.Ab,t.Ak,t.Flat,t.Az,[o],[]⟩
theorem T4{t:AM}(h:Hm t=true)(o:BH):Hm (Iq t o)=true:=by
 unfold Hm at h⊢;rw[Bool.and_eq_true,Bool.and_eq_true,Bool.and_eq_true] at h;show(Jq t.C&&(decide (t.Az.length≤5)&&(decide (([o]:List BH).length≤5)&&decide (([]:List BR).length≤7))))=true;rw[h.1,h.2.1];rfl
theorem SV{t:AM}(h:Fe t=0){o:BH}(a:o∈t.AF):Fe (Iq t o)=0:=by
 obtain⟨b,g,i,j,c,k,d,f,l⟩:=FT h;have e:Fe (Iq t o)=(if Fv t.C≠0 then Fv t.C else if 3<t.Az.length∨3<1∨5<0 then 3 else if !(Ev t.Flat 0 100) then 1 else if t.Az.length=0 then 1 else if !(GL 101 100 t.Az) then 1 else if !(Ie t o&&true) then 1 else if !true then 1 else 0):=rfl;rw[e,if_neg (by rw[b];simp),if_neg (by omega),if_neg (by rw[DB.2 c];simp),if_neg (by omega),if_neg (by rw[d];simp),if_neg (by rw[f o a];simp),if_neg (by simp)]
def FA(w:List Int)(x:AN):Int:=Dy (Hf x) w
theorem P6{c:AX}(a:OkC c){l:List Int}(hl:FQ c.Ap l=true){k:Nat}(b:k<c.AP.length):FA c.AP[k] (arr l)=Dy l c.AP[k]:=by
 have d:=a.hl;have e:=JA hl;have f:=a.Eg _ (List.getElem_mem b);unfold FA Dy Hf;rw[QA (by omega) (by omega)]
section
variable{K:Nat}(hK:1000≤K)
include hK
theorem T5(r:AK)(n:Int):Gm K r n=some ⟨min r.Lo n,max r.Hi n⟩:=by
 unfold Gm;rw[bd (Sa hK _ _)]
theorem OC{c:AX}(T:List AN)(l:T.length≤150)(g:Int)(F:AN→Int)(k:∀x∈T,Dx K c x g=some (F x)):∀(d m i:Nat) (e:List AN) (lo hi:Int),T.length=i+d→d<m→J5 e F ⟨lo,hi⟩→
  ∃a b,Ej K ⟨c.Ap,c.AP,c.AO,T⟩ g m (i:Int) lo hi=some (a,b)∧J5 (e++T.drop i) F ⟨a,b⟩
 |d,0,i,e,lo,hi,h,hm,_=>by omega
 |0,m+1,i,e,lo,hi,h,hm,j=>by
  refine⟨lo,hi,?_,by rw[List.drop_eq_nil_of_le (by omega),List.append_nil];exact j⟩;rw[Ej.eq_2,cf (df (show¬(i:Int)<(T.length:Int) by omega))]
 |d+1,m+1,i,e,lo,hi,h,hm,j=>by
  have f:i<T.length:=by omega
  obtain⟨a,b,g1,g2⟩:=OC T l g F k d m (i+1) (e++[T[i]]) _ _ (by omega) (by omega) (j.snoc T[i]);refine⟨a,b,?_,by rw[List.append_assoc] at g2;rw[List.drop_eq_getElem_cons f];exact g2⟩;rw[Ej.eq_2,ct (dt (show(i:Int)<(T.length:Int) by omega)),C1 f,bd (k _ (List.getElem_mem f)),bd (T5 hK _ _),Cs (by omega) (by omega),EX i];exact g1
theorem SW{c:AX}{T:List AN}(h0:T≠[])(e:T.length≤150)(b:Int)(F:AN→Int)(d:∀x∈T,Dx K c x b=some (F x)):∃r,GC K ⟨c.Ap,c.AP,c.AO,T⟩ b=some r∧J5 T F r:=by
 cases T with
 |nil=>exact absurd rfl h0
 |cons x X=>
  obtain⟨lo,hi,g1,g2⟩:=OC hK (c:=c) (x::X) e b F d (x::X).length K 0 [x] _ _ (by omega) (by omega) (J5.one F x);rw[Int.natCast_zero] at g1;refine⟨⟨lo,hi⟩,?_,?_⟩
  ·unfold GC;rw[bd (show idx (x::X) (0:Int)=some x from rfl),bd (d x (List.mem_cons_self ..)),bd g1]
  ·refine g2.map (S:=x::X) (g:=F) (fun y a=>⟨y,?_,rfl⟩) (fun y a=>⟨y,?_,rfl⟩)
   ·rw[List.drop_zero,List.singleton_append] at a;rcases List.mem_cons.1 a with rfl|a
    ·simp
    ·exact a
   ·rw[List.drop_zero];exact List.mem_append_right _ a
theorem T6 {c:AX} (a:OkC c) {k:Nat} (d:k<c.AP.length) {g:Int} (u:0≤g) (p:g≤100):
  (Di c=[]∧F6 K c (k:Int) g=some (0,11))∨(Di c≠[]∧∃v:Int,F6 K c (k:Int) g=some (v,0)∧(v=1↔∀l∈Di c,g≤Dy l c.AP[k])):=by
 have aC:=a.hl;have aD:=a.cl;have f:(Fi K (k:Int) c g).bind (fun r=>some (r,()))=some (true,()):=by
  have w:Fi K (k:Int) c g=some true:=by
   unfold Fi;have y:Ia K g=some true:=by unfold Ia;rw[bd (IA ..),DB.2 ⟨u,p⟩]
   rw[Cs (by omega) (by omega),bd (IA ..),DB.2 ⟨by omega,by omega⟩,ct rfl,bd y]
  rw[bd w]
 rcases Ty hK a (fun(st:Unit) (x:Unit)=>(Fi K (k:Int) c g).bind fun r=>some (r,())) () () f with⟨e,m⟩|⟨e,T,s,z,hm,m⟩
 ·left;refine⟨e,?_⟩;unfold F6;rw[bd m];rfl
 ·right;refine⟨e,?_⟩;have aA:∀x∈T,Dx K c x ((c.Ap.length:Int)+(k:Int))=some (FA c.AP[k] x):=fun x n=>by
   obtain⟨l,hl,rfl⟩:=(hm x).1 n;have i:=Lv ((FR a).1 hl);rw[Yl hK a i d,P6 a i d]
  obtain⟨r,gr,aB⟩:=SW hK s z _ _ aA;have j:J5 (Di c) (fun l=>Dy l c.AP[k]) r:=aB.map (fun x n=>by
   obtain⟨l,hl,rfl⟩:=(hm x).1 n;exact⟨l,hl,(P6 a (Lv ((FR a).1 hl)) d).symm⟩) (fun l hl=>⟨arr l,(hm _).2 ⟨l,hl,rfl⟩,P6 a (Lv ((FR a).1 hl)) d⟩)
  have o:F6 K c (k:Int) g=cond (decide (g≤r.Lo)) (some (1,0)) (cond (decide (r.Hi<g)) (some (2,0)) (some (3,0))):=by
   unfold F6;rw[bd m];show(i64 ((c.Ap.length:Int)+(k:Int))).bind _=_;rw[Cs (by omega) (by omega),bd gr]
  have b:g≤r.Lo↔∀l∈Di c,g≤Dy l c.AP[k]:=by
   constructor
   ·intro h l hl;have:=j.all l hl;omega
   ·intro h;obtain⟨l,hl,e⟩:=j.lo;have:=h l hl;omega
  by_cases q:g≤r.Lo
  ·exact⟨1,by rw[o,ct (dt q)],by rw[←b];simp[q]⟩
  ·by_cases t:r.Hi<g
   ·exact⟨2,by rw[o,cf (df q),ct (dt t)],by rw[←b];simp[q]⟩
   ·exact⟨3,by rw[o,cf (df q),cf (df t)],by rw[←b];simp[q]⟩
theorem M6(i:C3 K=some true)(t:AM)(n:Int)(aF:0≤n)(aN:n<256)(m:Int)(hm:0≤m)(aO:m<256):Ek K t n m=some true:=by
 unfold Ek;rcases Qj hK t with h|⟨h,j,aJ⟩
 ·rw[bd h,nf,Hd i]
 rw[bd aJ,nt]
 by_cases aP:t.Ab.length=0
 ·rw[ct (J1 (by omega)),Hd i]
 rw[cf (KW (by omega))]
 by_cases aQ:t.AF.length=0
 ·rw[ct (J1 (by omega)),Hd i]
 rw[cf (KW (by omega))];have aK:=j.c;have hlen:=KB h;obtain⟨k,aL⟩:∃k:Nat,n%(t.Ab.length:Int)=k:=⟨(n%(t.Ab.length:Int)).toNat,by have:=Int.emod_nonneg n (b:=(t.Ab.length:Int)) (by omega);omega⟩;have d:k<t.Ab.length:=by have:=Int.emod_lt_of_pos n (b:=(t.Ab.length:Int)) (by omega);omega
 obtain⟨q,aM⟩:∃q:Nat,m%(t.AF.length:Int)=q:=⟨(m%(t.AF.length:Int)).toNat,by have:=Int.emod_nonneg m (b:=(t.AF.length:Int)) (by omega);omega⟩;have o:q<t.AF.length:=by have:=Int.emod_lt_of_pos m (b:=(t.AF.length:Int)) (by omega);omega
 have aR:=(j.order _ (List.getElem_mem o));obtain⟨g,aG⟩:∃g:Nat,t.AF[q].Cd=g:=⟨t.AF[q].Cd.toNat,by omega⟩;have p:g<t.Az.length:=by omega
 have aA:=j.RE _ (List.getElem_mem p);have f:Hm (Iq t t.AF[q])=true:=T4 h _;have r:OkT (Iq t t.AF[q]):=Kf f (SV j.fault (List.getElem_mem o));have aB:=KB f;rw[Xn aF (by omega),W2 aF (by omega),Xn hm (by omega),W2 hm (by omega),aL,aM,C1 o];show(DW K t.C).bind _=_;rw[bd (PB hK t.C hlen.1),aG,C1 p];have s:HP (Iq t t.AF[q]) t.AF[q]=t.Az[g].AW:=by
  unfold HP;show(t.Az.getD (t.AF[q].Cd).toNat ⟨0,0⟩).AW=_;rw[aG,Int.toNat_natCast,Gi _ p]
 have aC:Hx (Iq t t.AF[q])=Di t.C:=by
  unfold Hx;show(Di t.C).filter (fun _=>true)=_;simp
 rcases T6 hK aK (k:=k) d aA.1.1 aA.1.2 with⟨e,g1⟩|⟨e,v,g1,g2⟩
 ·have u:FZ (Iq t t.AF[q])=11:=by
   rcases QK r with⟨_,aD⟩|⟨w,_⟩
   ·exact absurd e aD
   ·rw[Sy (by rw[w];simp),w]
  obtain⟨x,aS,f1,f2,_⟩:=Xm hK f;obtain⟨rfl,rfl⟩:=f2 (by rw[u];simp);rw[bd g1,ct (KX (show(11:Int)≠0 by decide))];show(Ec K (Iq t t.AF[q])).bind _=_;rw[bd (QE hK _ aB),bd f1,u,ct (J1 rfl),ct (J1 rfl),Hd i]
 ·have u:FZ (Iq t t.AF[q])=0:=by
   rcases QK r with⟨w,_⟩|⟨_,aD⟩
   ·rw[U3 r w,aC,if_neg e]
   ·exact absurd aD e
  rw[bd g1,cf (J2 rfl)];show(Ec K (Iq t t.AF[q])).bind _=_;have y:Hn (Iq t t.AF[q])=[H7 (Iq t t.AF[q]) t.AF[q]]:=rfl;have aE:HQ (Hn (Iq t t.AF[q])) [] [(k:Int)]=I2 (Iq t t.AF[q]) t.AF[q] k:=by
   rw[y];show((H7 (Iq t t.AF[q]) t.AF[q]).contains (k:Int)&&(!([]:List Int).contains (k:Int)&&true))=_;rw[U2 (t:=Iq t t.AF[q]) d];simp
  have aH:I2 (Iq t t.AF[q]) t.AF[q] k=(decide (t.AF[q].Ci≤t.Ab[k].sum)&&(Di t.C).all fun l=>decide (t.Az[g].AW≤Dy l t.Ab[k])):=by
   unfold I2;rw[aC,s];show(decide (t.AF[q].Ci≤(t.Ab.getD k []).sum)&&(Di t.C).all fun l=>decide (t.Az[g].AW≤Dy l (t.Ab.getD k [])))=_;rw[Gi _ d]
  rw[bd (QE hK _ aB),bd (Qi hK f (by simp)),u,dt rfl,Bool.true_and,aE,aH]
  by_cases z:v=1
  ·have a:((Di t.C).all fun l=>decide (t.Az[g].AW≤Dy l t.Ab[k]))=true:=by
    rw[List.all_eq_true];intro l hl;exact dt (g2.1 z l hl)
   rw[a,Bool.and_true,ct (J1 z),bd (Tm hK j d),ct (bb _),Hd i]
  ·have a:((Di t.C).all fun l=>decide (t.Az[g].AW≤Dy l t.Ab[k]))=false:=by
    rw[Bool.eq_false_iff];intro aI;rw[List.all_eq_true] at aI;exact z (g2.2 fun l hl=>of_decide_eq_true (aI l hl))
   rw[a,Bool.and_false,cf (KW z),ct (show(false==false)=true from rfl),Hd i]
end
theorem NI(t:AM)(n:Int)(c:0≤n)(a:n<256)(m:Int)(hm:0≤m)(b:m<256):∃K,Ek K t n m=some true:=⟨1000,M6 (Nat.le_refl _) RI t n c a m hm b⟩
end Go.Proofs.YtbhofkcbfblijaaGreat
end
section
namespace Go.Proofs.YtbhofkcbfblijaaGreat
open Go.RowKit Go.WideShapes
set_option maxRecDepth 20000
open HF
attribute [local irreducible] Ce WL CC CW LV BN GN EA One AZ
set_option maxHeartbeats 4000000 in
theorem a22 bI c aE dZ m o i j p q r s z aA aT aU(Z:Nat→Prop) w(d8:Sl Ay w Z m o c.Ah)(d9:Sl (BL (Am .i64)) w Z i j c.Ab)(eA:Sl AI w Z p q c.Ak)(eB:Sl Bd w Z r s c.Az)(eC:Sl Bc w Z z aA c.AF)(eD:Sl Bn w Z aT aU c.AV)(a:Ek bI c aE dZ=some true):
 BN Tryz.prog 22 #[.agg (AL m o i j p q r s z aA aT aU c).toArray,.int .u8 aE,.int .u8 dZ] w (fun v w'=>Ext w w'∧v=.bool true):=by
 unfold Ek at a;refine rq (N:=105) Tryz.func22 fun gI eE gJ=>?_;have eS:=sA 0 eE;have eT:=sA 1 eE;have eU:=sA 2 eE;clear eE;have eI:Hp FN [] w [] w:=Hp.start (By.none w);have ⟨dG,dH,dI,dJ,dK,dL⟩:=Dl d8 d9 eA eB eC eD (BM (Z:=Z) (L:=[]) w);refine cr<|wE (fun st=>BI (v:=.agg (AL m o i j p q r s z aA aT aU c).toArray) (cs:=(AL m o i j p q r s z aA aT aU c).toArray) (ee st eS) rfl) ?_;rintro _ w1 ⟨bC,rfl,c9⟩;have fX:=eI.nb c9;have gB:=eI.BD c9;refine wA (v:=.bool false) rfl<|wn<|Ag<|cr<|wD (fun st=>Ba (l:=(AL m o i j p q r s z aA aT aU c)) JX (eR st) c9.bk rfl rfl) ?_;have ⟨cT,cU,cV,cW,cX,cY⟩:=Dl dG dH dI dJ dK dL (As c9);replace a:=bind_some a;obtain⟨d0,fY,a⟩:=a;refine wE (fun st=>Ar XJ (eR st) (Cl (eR st)) (ZX bI c m o i j p q r s z aA aT aU ZA _ cT.all cU.all cV.all cW.all cX.all cY.all d0 fY)) ?_;rintro _ gE ⟨cZ,rfl⟩;have c0:=fX.ext cZ;refine wD (fun st=>Ch (eR st))<|wM (v:=.bool !d0) rfl ?_;rcases Ae (!d0) with aR|aR
 ·replace a:=Au a aR;have gC:d0=false:=by simpa using aR
  refine wF aR<|wF aR<|wF aR<|wF aR<|wF aR<|wD (fun st=>Be (v:=.bool true) (eR st) aR (eR st))<|wM (v:=.bool true) rfl<|wH<|wH<|wH<|wH<|wD (fun st=>Be (v:=.bool true) (eR st) rfl (eR st))<|wn<|Ai rfl rfl<|Ag<|Aq ?_;replace a:=CE a;obtain⟨fZ,a⟩:=a;refine wE (fun st=>Ar Lf (eR st) GF (a37 bI ZA _ fZ)) ?_;rintro _ gY ⟨f0,rfl⟩;have f1:=c0.ext f0;refine wA (v:=.bool true) rfl<|wn<|Al<|AG ?_;have bJ:=oi a;refine Ax rfl rfl ?_;exact⟨f1.Bg,congrArg Value.bool bJ⟩
 ·replace a:=Av a aR;have gD:d0=true:=by simpa using aR
  refine wG aR (fun st=>Ac (eR st) (IP _ _))<|wG aR (fun st=>Ac (eR st) (F5 _ _)) ?_;have bO:=(c9.bk.ext cZ);refine wG aR (fun st=>Af (v:=.slice i c.Ab.length j) DO (eR st) bO rfl)<|wG aR (fun st=>Bx Tryz.underlying23 (eR st))<|wG aR (fun st=>DT (eR st) (eR st))<|wD (fun st=>BB (v:=.bool ((c.Ab.length:Int)==0)) (eR st) aR (eR st))<|wM (v:=.bool ((c.Ab.length:Int)==0)) rfl ?_;rcases Ae ((c.Ab.length:Int)==0) with bD|bD
  ·replace a:=Au a bD;refine wF bD<|wF bD<|wF bD<|wF bD<|wD (fun st=>Be (v:=.bool true) (eR st) bD (eR st))<|wn<|Ai rfl rfl<|Ag<|Aq ?_;replace a:=CE a;obtain⟨eV,a⟩:=a;refine wE (fun st=>Ar Lf (eR st) GF (a37 bI ZA _ eV)) ?_;rintro _ gK ⟨eW,rfl⟩;have f2:=c0.ext eW;refine wA (v:=.bool true) rfl<|wn<|Al<|AG ?_;have bJ:=oi a;refine Ax rfl rfl ?_;exact⟨f2.Bg,congrArg Value.bool bJ⟩
  ·replace a:=Av a bD;refine wG bD (fun st=>Ac (eR st) (G2 _ _))<|wG bD (fun st=>Af (v:=.slice z c.AF.length aA) Ig (eR st) bO rfl)<|wG bD (fun st=>Bx Tryz.underlying64 (eR st))<|wG bD (fun st=>DT (eR st) (eR st))<|wD (fun st=>BB (v:=.bool ((c.AF.length:Int)==0)) (eR st) bD (eR st))<|wn ?_;rcases Ae ((c.AF.length:Int)==0) with cH|cH
   ·replace a:=Au a cH;refine Ai rfl cH<|Ag<|Aq ?_;replace a:=CE a;obtain⟨eX,a⟩:=a;refine wE (fun st=>Ar Lf (eR st) GF (a37 bI ZA _ eX)) ?_;rintro _ gL ⟨eY,rfl⟩;have f3:=c0.ext eY;refine wA (v:=.bool true) rfl<|wn<|Al<|AG ?_;have bJ:=oi a;refine Ax rfl rfl ?_;exact⟨f3.Bg,congrArg Value.bool bJ⟩
   ·replace a:=Av a cH;refine Aw rfl cH<|cn<|Ag ?_;replace a:=Pb a;obtain⟨eZ,a⟩:=a;replace a:=O5 a;obtain⟨d1,a⟩:=a;replace a:=Pb a;obtain⟨e0,a⟩:=a;replace a:=O5 a;obtain⟨d2,a⟩:=a;replace a:=Bo a;obtain⟨i20,f,e1,e2,e3,a⟩:=a;have c1:=(cX.mv (Ad cZ));obtain⟨f4,f5,_,e4,rfl,e5⟩:=Sl.elem c1 (by decide) e2;refine B8 19 [Kc (.int .u8 aE),Kc (I aE),Kc (pt bC 0),Kc (pt bC 1),Kc (.slice i c.Ab.length j),Kc (I (c.Ab.length:Int)),Kc (I (aE%(c.Ab.length:Int))),Kc (pt bC 5),Kc (.slice z c.AF.length aA),Kc (.int .u8 dZ),Kc (I dZ),Kc (pt bC 5),Kc (.slice z c.AF.length aA),Kc (I (c.AF.length:Int)),Kc (I (dZ%(c.AF.length:Int))),Kc (pt f4 (f5+i20*2)),Kc (.agg #[I f.Cd,I f.Ci]),Kn gE.heap.size (fun b=>.pointer (some ⟨b,0,none⟩)) 126 #[I 0,I 0],Kc (I (aE%(c.Ab.length:Int)))] mixed rfl rfl
        (Aa (oD (fun K=>AS (es ((K.out 1 rfl).trans eT))))
        (Aa (oD (fun K=>RQ (k:=.i64) XC Tryz.underlying3 (es (K.dq 0 31)) eZ))
        (Aa (oD (fun K=>Ac (K.kO 3) (IP _ _)))
        (Aa (oD (fun K=>Ac (es (K.dq 2 33)) (F5 _ _)))
        (Aa (oD (fun K=>Af DO (es (K.dq 3 34)) (bO.ext K.Bh) rfl))
        (Aa (oD (fun K=>Bx Tryz.underlying23 (es (K.dq 4 35))))
        (Aa (oD (fun K=>T8 (es (K.dq 1 32)) (es (K.dq 5 36)) d1.1 d1.2))
        (Aa (oD (fun K=>Ac (K.kO 3) (G2 _ _)))
        (Aa (oD (fun K=>Af Ig (es (K.dq 7 38)) (bO.ext K.Bh) rfl))
        (Aa (oD (fun K=>AS (es ((K.out 2 rfl).trans eU))))
        (Aa (oD (fun K=>RQ (k:=.i64) XC Tryz.underlying3 (es (K.dq 9 40)) e0))
        (Aa (oD (fun K=>Ac (K.kO 3) (G2 _ _)))
        (Aa (oD (fun K=>Af Ig (es (K.dq 11 42)) (bO.ext K.Bh) rfl))
        (Aa (oD (fun K=>Bx Tryz.underlying64 (es (K.dq 12 43))))
        (Aa (oD (fun K=>T8 (es (K.dq 10 41)) (es (K.dq 13 44)) d2.1 d2.2))
        (Aa (oD (fun K=>BA (k:=i20) Tryz.underlying64 KH (es (K.dq 8 39)) e4 (es (K.dq 14 45)) e1 e3))
        (Aa (oD (fun K=>Cp (l:=[I f.Cd,I f.Ci]) Rn (es (K.dq 15 46)) (e5.mv (Ad K.Bh)) rfl rfl))
        (Aa (oE (fun K=>(BP (cs:= #[I 0,I 0]) TN rfl).mono (fun u Bt gF=>Yb (K.Bh).size gF)))
        (Aa (oD (fun K=>I3 (es (K.dq 6 37))))
        (B5 _)))))))))))))))))))) ?_
    intro gM;rintro _ rfl _ rfl _ rfl _ rfl _ rfl _ rfl _ rfl _ rfl _ rfl _ rfl _ rfl _ rfl _ rfl _ rfl _ rfl _ rfl _ rfl _ ⟨d,rfl,aD,cE⟩ _ rfl b7;have f6:=c0.ext b7;have c2:=c0.UG f6 aD cE.lt;have eF:w.heap.size≤d:=Nat.le_trans c0.sz aD;refine Bu rfl rfl (fun st=>Bj (n:=2) (l:=[I f.Cd,I f.Ci]) (Cj:= #[I f.Cd,I f.Ci]) (eR st) (eR st) KH cE rfl rfl (show 0+2≤2 by decide) (AT rfl) rfl) ?_;rintro _ gN bQ;have eJ:=c2.gr bQ.gr 0 rfl;refine wn<|Ag<|Aq ?_;have dE:=((bO.ext b7).gr bQ.gr (c2.nq 1 0));refine wD (fun st=>Ba (l:=(AL m o i j p q r s z aA aT aU c)) JX (eR st) dE rfl rfl)<|wE (fun st=>BP (cs:= #[.slice none 0 0,.slice none 0 0,.slice none 0 0,I 0,.slice none 0 0,.slice none 0 0,.slice none 0 0]) WA rfl) ?_;rintro _ gO ⟨aS,rfl,bF⟩;have cI:=eJ.nb bF;have f7:=eJ.BD bF;refine Bu rfl rfl (fun st=>Bj (n:=7) (l:=(AL m o i j p q r s z aA aT aU c)) (Cj:=(AL m o i j p q r s z aA aT aU c).toArray) (eR st) (eR st) Yq bF.bk rfl rfl (show 0+7≤7 by decide) (AT rfl) rfl) ?_;rintro _ eK bK;have c5:=cI.gr bK.gr 0 rfl;refine wn<|Ag ?_;have b4:=((bQ.bk.ext bF.gr).gr bK.gr (cI.nq 1 0));refine NL 4 (fun ph _ gG=>TC eK (FU FN [some aS]) (OI eK _) ph gG) (fun _=>[]) [3] [Kc (.agg #[I f.Cd,I f.Ci]),Kv (E1 Bc) (zf Z w [some aS,some d,some bC]) [f],Kc (pt aS 6),Kt] mixed rfl rfl (NK _ _) (fun _ _ _ _ _ h g _=>R1 Om h g) (fun _=>Cw _)
        (Aa (oD (fun K=>Ba (l:=[I f.Cd,I f.Ci]) Rn (K.kO 8) (b4.B1 (Ph K.Bh) (c5.Cf 1 rfl [0] rfl ⟨rfl,trivial⟩ eL)) rfl rfl))
        (Aa (G4 rfl rfl (fun a' w' ph K=>(BK (e:=126) (vs:= #[(0,.agg #[I f.Cd,I f.Ci])]) (cs:= #[I f.Cd,I f.Ci]) (Hq (es (K.dq 0 49))) (by kernel_rfl)).mono (fun u Bt ⟨f8,hu,b5⟩=>⟨⟨_,_,hu,E5 (xs:=[f]) (Bz:=[[I f.Cd,I f.Ci]]) b5.bk ((c5.B1 (Ph K.Bh) (AE [0] ⟨rfl,trivial⟩ eL)).kn (Nat.le_of_eq b5.Ef.symm)) (R2.mv (Ad b5.gr) (show R2 Bc w' (zf Z w [some aS,some d,some bC]) [[I f.Cd,I f.Ci]] [f] from⟨rfl,trivial⟩)) rfl (Nat.le_refl _)⟩,b5.gr⟩)))
        (Aa (oD (fun K=>Ac (K.kO 9) (Io _ _)))
        (Aa (Qp rfl rfl (fun a' w' ph K=>(Bj (n:=1) (l:=[.slice none 0 0]) (Cj:= #[.slice m c.Ah.length o,.slice i c.Ab.length j,.slice p c.Ak.length q,I c.Flat,.slice r c.Az.length s,.slice z c.AF.length aA,.slice none 0 0]) (es (K.dq 2 51)) (ec (v:=.slice none 0 0)) Yr (bK.bk.ext (Kd K.Bh (K.OR 0 rfl))) rfl rfl (show 6+1≤7 by decide) (AT rfl) rfl).mono (fun v Bt f9=>by have eM:BC (FU FN [some aS]) w' Bt:=(Qs f9.gr);exact⟨trivial,RS ⟨fun _ _ _ h=>h,fun _ _ _ h=>(E1 Bc).mv h ((c5.ext (Kd K.Bh (K.OR 0 rfl))).Dz eM (AE [0] ⟨rfl,trivial⟩ eL)),fun _ _ _ h=>h,fun h=>absurd rfl h,trivial⟩,Uj K.Bh (K.OR 0 rfl) eM ⟨v,w',Bt,(Kd K.Bh (K.OR 0 rfl)),f9,Ext.refl _⟩⟩)))
        (B5 _))))) ?_
    intro gP;rintro _ rfl _ ⟨aB,aC,rfl,c3⟩ _ rfl ⟨_,e6,gH,e7,bG,eG,aV⟩;have bR:=c5.ext bG;revert e6 e7 eG;rintro _ gQ bL;have e8:=bR.gr bL.gr 0 rfl;intro aV;have bH:=e8.ext aV;refine wD (fun st=>Ac (eR st) (G2 _ _)) ?_;have dM:=(bL.bk.ext aV);refine Bu rfl rfl (fun st=>Bj (n:=1) (l:=[.slice aB ([f].length) aC]) (Cj:= #[.slice m c.Ah.length o,.slice i c.Ab.length j,.slice p c.Ak.length q,I c.Flat,.slice r c.Az.length s,.slice aB ([f].length) aC,.slice none 0 0]) (eR st) (eR st) Ys dM rfl rfl (show 5+1≤7 by decide) (AT rfl) rfl) ?_;rintro _ gR aX;have d3:=bH.gr aX.gr 0 rfl;refine wn<|Ag ?_;have cJ:=((((((dE.ext bF.gr).gr bK.gr (cI.nq 2 0)).ext bG).gr bL.gr (bR.nq 2 0)).ext aV).gr aX.gr (bH.nq 2 0));have ⟨bS,bT,bU⟩:=DH cT cU cV (mt (Ad cZ) (mt (Ms (Ad b7) aD) (mt (c2.Bb bQ.gr 0 rfl) (mt (As bF) (mt (cI.Bb bK.gr 0 rfl) (mt (Ad bG) (mt (bR.Bb bL.gr 0 rfl) (mt (Ad aV) (bH.Bb aX.gr 0 rfl)))))))));replace a:=bind_some a;obtain⟨dF,e9,a⟩:=a;have b6:=((((b4.ext bG).gr bL.gr (bR.nq 1 0)).ext aV).gr aX.gr (bH.nq 1 0));replace a:=Bo a;obtain⟨i29,eN,fA,fB,fC,a⟩:=a;have bV:=(((((((((cW.mv (Ad cZ)).mv (Ms (Ad b7) aD)).mv (c2.Bb bQ.gr 0 rfl)).mv (As bF)).mv (cI.Bb bK.gr 0 rfl)).mv (Ad bG)).mv (bR.Bb bL.gr 0 rfl)).mv (Ad aV)).mv (bH.Bb aX.gr 0 rfl));obtain⟨eO,eP,_,fD,rfl,fE⟩:=Sl.elem bV (by decide) fB;replace a:=bind_some a;obtain⟨x,fF,a⟩:=a;refine B8 16 [Kc (pt bC 0),Kc (.agg #[.slice m c.Ah.length o,.slice i c.Ab.length j,.slice p c.Ak.length q]),Kv (CO Ls) (zf Z w [some aS,some d,some bC]) dF,Kc (I (aE%(c.Ab.length:Int))),Kc (pt bC 4),Kc (.slice r c.Az.length s),Kc (pt d 0),Kc (I f.Cd),Kc (pt eO (eP+i29*2)),Kc (pt eO (eP+i29*2)),Kc (I eN.AW),Kc (.tuple #[I x.1,I x.2]),Kc (.tuple #[I x.1,I x.2]),Kc (I x.1),Kc (I x.2),Kc (I x.1)] mixed rfl rfl
        (Aa (oD (fun K=>Ac (K.kO 3) (IP _ _)))
        (Aa (oD (fun K=>Ba (l:=[.slice m c.Ah.length o,.slice i c.Ab.length j,.slice p c.Ak.length q]) Js (es (K.dq 0 54)) (cJ.ext K.Bh) rfl rfl))
        (Aa (oE (fun K=>(Ar SL rfl (Cl (es (K.dq 1 55))) (YH bI (⟨c.Ah,c.Ab,c.Ak⟩:AX) m o i j p q (zf Z w [some aS,some d,some bC]) _ (bS.mv (Ad K.Bh)) (bT.mv (Ad K.Bh)) (bU.mv (Ad K.Bh)) dF e9)).mono (fun _ _ h=>⟨(CO Ls).mv h.2 ((d3.ext K.Bh).Fh (Nat.le_refl _)),h.1⟩)))
        (Aa (oD (fun K=>AS (K.kO 7)))
        (Aa (oD (fun K=>Ac (K.kO 3) (GM _ _)))
        (Aa (oD (fun K=>Af HD (es (K.dq 4 58)) (cJ.ext K.Bh) rfl))
        (Aa (oD (fun K=>Ac (K.kO 8) (TO _ _)))
        (Aa (oD (fun K=>Af Bp (es (K.dq 6 60)) (b6.ext K.Bh) rfl))
        (Aa (oD (fun K=>BA (k:=i29) Tryz.underlying63 JW (es (K.dq 5 59)) fD (es (K.dq 7 61)) fA fC))
        (Aa (oD (fun K=>Ac (es (K.dq 8 62)) (LI _ _ _)))
        (Aa (oD (fun K=>B2 Bp (es (K.dq 9 63)) (fE.mv (Ad K.Bh)) rfl))
        (Aa (oE (fun K=>by obtain⟨_,eH,⟨b8,b9,cA,cB,cC,cD,rfl,cK,cL,cM⟩⟩:=K.dq 2 56;exact(Ar XK rfl (EG (es (t:=56) (v:=.agg (AR b8 b9 cA cB cC cD dF).toArray) eH) (es (K.dq 3 57)) (es (K.dq 10 64))) (Z4 bI dF (aE%(c.Ab.length:Int)) eN.AW b8 b9 cA cB cC cD ZA _ cK.all cL.all cM.all x fF)).mono (fun _ _ h=>⟨(by obtain⟨_,_,rfl,rfl,rfl⟩:=h.2;rfl),h.1⟩)))
        (Aa (oD (fun K=>AS (es (K.dq 11 65))))
        (Aa (oD (fun K=>Bv (es (K.dq 12 53)) rfl))
        (Aa (oD (fun K=>Bv (es (K.dq 12 53)) rfl))
        (Aa (oD (fun K=>I3 (es (K.dq 13 66))))
        (B5 _))))))))))))))))) ?_
    intro gS;rintro _ rfl _ rfl _ ⟨_,rfl,⟨b8,b9,cA,cB,cC,cD,rfl,cK,cL,cM⟩⟩ _ rfl _ rfl _ rfl _ rfl _ rfl _ rfl _ rfl _ rfl _ rfl _ rfl _ rfl _ rfl _ rfl aY;have bM:=d3.ext aY;refine wA (v:=I x.2) rfl<|wn<|Ag<|cr<|wM (v:=I x.2) rfl<|wD (fun st=>D1 (eR st) (eR st))<|wn ?_;rcases Ae (x.2 !=0) with cN|cN
    ·replace a:=Au a cN;refine Ai rfl cN<|Ag<|Aq ?_;have bP:=(aX.bk.ext aY);refine wD (fun st=>Ba (l:=[.slice m c.Ah.length o,.slice i c.Ab.length j,.slice p c.Ak.length q,I c.Flat,.slice r c.Az.length s,.slice aB ([f].length) aC,.slice none 0 0]) JX (eR st) bP rfl rfl) ?_;have ⟨aZ,a0,a2,a3⟩:=HT bS bT bU bV (Ad aY);have aW:=((c3.mv (bH.Bb aX.gr 0 rfl)).mv (Ad aY));replace a:=bind_some a;obtain⟨eQ,fG,a⟩:=a;refine wE (fun st=>Ar P2 (eR st) (Cl (eR st)) (XZ bI (⟨c.Ah,c.Ab,c.Ak,c.Flat,c.Az,[f],([]:List BR)⟩:AM) m o i j p q r s aB aC none 0 (zf Z w [some aS,some d,some bC]) _ aZ a0 a2 a3 aW (Sl.nil Bn _ _) eQ fG)) ?_;rintro _ gT ⟨fH,⟨_,rfl,⟨dN,dO,dP,dQ,dR,dS,dT,dU,dV,dW,dX,dY,rfl,bW,bX,bY,bZ,b1,b2⟩⟩⟩;have d4:=bM.ext fH;have ⟨bW,bX,bY,bZ,b1,b2⟩:=Dl bW bX bY bZ b1 b2 (bM.Fh (Nat.le_refl _));replace a:=bind_some a;obtain⟨bN,fI,a⟩:=a;refine wE (fun st=>Ar SM (eR st) (Cl (eR st)) (YD bI eQ dN dO dP dQ dR dS dT dU dV dW dX dY (zf Z w [some aS,some d,some bC]) _ bW bX bY bZ b1 b2 bN fI)) ?_;rintro _ gU ⟨fJ,⟨_,_,rfl,⟨cO,cP,rfl,c4⟩,rfl⟩⟩;have fK:=d4.ext fJ;have c4:=c4.mv (d4.Fh (Nat.le_refl _));refine wM (v:=.tuple #[.slice cO bN.1.length cP,I bN.2]) rfl<|wD (fun st=>Bv (v:=.slice cO bN.1.length cP) (eR st) rfl)<|wD (fun st=>Bv (v:=I bN.2) (eR st) rfl)<|wA (v:=.slice cO bN.1.length cP) rfl<|wA (v:=I bN.2) rfl<|wr<|wM (v:=I x.2) rfl<|wD (fun st=>DT (eR st) (eR st))<|wM (v:=.bool (x.2==11)) rfl ?_;rcases Ae (x.2==11) with b3|b3
     ·replace a:=Au a b3;refine wN b3 (v:=I bN.2) rfl<|wN b3 (v:=I x.2) rfl<|wG b3 (fun st=>DT (eR st) (eR st))<|wD (fun st=>Be (v:=.bool (bN.2==x.2)) (eR st) b3 (eR st))<|wM (v:=.bool (bN.2==x.2)) rfl ?_;rcases Ae (bN.2==x.2) with cQ|cQ
      ·replace a:=Au a cQ;replace a:=CE a;obtain⟨fL,a⟩:=a;refine wX cQ (fun st=>Ar Lf (eR st) GF (a37 bI ZA _ fL)) ?_;rintro _ gV ⟨fM,rfl⟩;have fN:=fK.ext fM;refine wD (fun st=>Be (v:=.bool true) (eR st) cQ (eR st))<|wA (v:=.bool true) rfl<|wn<|Al<|AG ?_;have bJ:=oi a;refine Ax rfl rfl ?_;exact⟨fN.Bg,congrArg Value.bool bJ⟩
      ·replace a:=Av a cQ;exact absurd (oi a) (by decide)
     ·replace a:=Av a b3;exact absurd (oi a) (by decide)
    ·replace a:=Av a cN;refine Aw rfl cN<|cn<|Ag ?_;have bP:=(aX.bk.ext aY);have ⟨aZ,a0,a2,a3⟩:=HT bS bT bU bV (Ad aY);have aW:=((c3.mv (bH.Bb aX.gr 0 rfl)).mv (Ad aY));replace a:=bind_some a;obtain⟨cF,d5,a⟩:=a;replace a:=bind_some a;obtain⟨cG,d6,a⟩:=a;rcases Ae (x.1==1) with y|y
     ·replace a:=Au a y;have d7:=(cJ.ext aY);have dB:=(((((((((c1.mv (Ms (Ad b7) aD)).mv (c2.Bb bQ.gr 0 rfl)).mv (As bF)).mv (cI.Bb bK.gr 0 rfl)).mv (Ad bG)).mv (bR.Bb bL.gr 0 rfl)).mv (Ad aV)).mv (bH.Bb aX.gr 0 rfl)).mv (Ad aY));have dC:=((((((((((cY.mv (Ad cZ)).mv (Ms (Ad b7) aD)).mv (c2.Bb bQ.gr 0 rfl)).mv (As bF)).mv (cI.Bb bK.gr 0 rfl)).mv (Ad bG)).mv (bR.Bb bL.gr 0 rfl)).mv (Ad aV)).mv (bH.Bb aX.gr 0 rfl)).mv (Ad aY));replace a:=bind_some a;obtain⟨dA,fO,a⟩:=a;have c6:=(b6.ext aY);refine B8 13 [Kc (.agg #[.slice m c.Ah.length o,.slice i c.Ab.length j,.slice p c.Ak.length q,I c.Flat,.slice r c.Az.length s,.slice aB ([f].length) aC,.slice none 0 0]),Kv (CO Jy) (zf Z w [some aS,some d,some bC]) cF,Kc (I (aE%(c.Ab.length:Int))),Kv (E1 (Am .i64)) (zf Z w [some aS,some d,some bC]) [aE%(c.Ab.length:Int)],Kc (.bool cG),Kc (I x.1),Kc (.bool (x.1==1)),Kc (.bool (x.1==1)),Kc (.agg (AL m o i j p q r s z aA aT aU c).toArray),Kc (I (aE%(c.Ab.length:Int))),Kc (I dA),Kc (pt d 1),Kc (I f.Ci)] mixed rfl rfl
          (Aa (oD (fun K=>Ba (l:=[.slice m c.Ah.length o,.slice i c.Ab.length j,.slice p c.Ak.length q,I c.Flat,.slice r c.Az.length s,.slice aB ([f].length) aC,.slice none 0 0]) JX (K.kO 9) (bP.ext K.Bh) rfl rfl))
          (Aa (oE (fun K=>(Ar P2 rfl (Cl (es (K.dq 0 86))) (XZ bI (⟨c.Ah,c.Ab,c.Ak,c.Flat,c.Az,[f],([]:List BR)⟩:AM) m o i j p q r s aB aC none 0 (zf Z w [some aS,some d,some bC]) _ (aZ.mv (Ad K.Bh)) (a0.mv (Ad K.Bh)) (a2.mv (Ad K.Bh)) (a3.mv (Ad K.Bh)) (aW.mv (Ad K.Bh)) (Sl.nil Bn _ _) cF d5)).mono (fun _ _ h=>⟨(CO Jy).mv h.2 ((bM.ext K.Bh).Fh (Nat.le_refl _)),h.1⟩)))
          (Aa (oD (fun K=>AS (K.kO 7)))
          (Aa (G4 rfl rfl (fun a' w' ph K=>(BK (e:=3) (vs:= #[(0,I (aE%(c.Ab.length:Int)))]) (cs:= #[I (aE%(c.Ab.length:Int))]) (Hq (es (K.dq 2 88))) (by kernel_rfl)).mono (fun u Bt ⟨f8,hu,b5⟩=>⟨⟨_,_,hu,E5 (xs:=[aE%(c.Ab.length:Int)]) (Bz:=[[I (aE%(c.Ab.length:Int))]]) b5.bk ((bM.ext K.Bh).kn (Nat.le_of_eq b5.Ef.symm)) (R2.mv (Ad b5.gr) (show R2 (Am .i64) w' (zf Z w [some aS,some d,some bC]) [[I (aE%(c.Ab.length:Int))]] [aE%(c.Ab.length:Int)] from⟨rfl,trivial⟩)) rfl (Nat.le_refl _)⟩,b5.gr⟩)))
          (Aa (oE (fun K=>match K.dq 3 89 with|⟨a4,a5,c7,bE⟩=>by obtain⟨_,c8,⟨aF,aG,aH,aI,aJ,aK,aL,aM,aN,aO,aP,aQ,rfl,a6,a7,a8,a9,bA,bB⟩⟩:=K.dq 1 87;exact(Ar SN rfl (Cr (es (t:=87) (v:=.agg (AL aF aG aH aI aJ aK aL aM aN aO aP aQ cF).toArray) c8) (es (t:=89) (v:=.slice a4 ([aE%(c.Ab.length:Int)].length) a5) c7)) (YE bI cF [aE%(c.Ab.length:Int)] aF aG aH aI aJ aK aL aM aN aO aP aQ a4 a5 ZA _ a6.all a7.all a8.all a9.all bA.all bB.all bE.all cG d6)).mono (fun _ _ h=>⟨h.2,h.1⟩)))
          (Aa (oD (fun K=>AS (K.kO 10)))
          (Aa (oD (fun K=>DT (es (K.dq 5 91)) (ec (v:=I 1))))
          (Aa (oD (fun K=>AS (es (K.dq 6 92))))
          (Aa (oG y (fun K=>Ba (l:=(AL m o i j p q r s z aA aT aU c)) JX (K.kO 3) (d7.ext K.Bh) rfl rfl))
          (Aa (oG y (fun K=>AS (K.kO 7)))
          (Aa (oX y (fun K=>(Ar Xx rfl (Cr (es (K.dq 8 94)) (es (K.dq 9 95))) (ZT bI c (aE%(c.Ab.length:Int)) m o i j p q r s z aA aT aU ZA _ (aZ.mv (Ad K.Bh)).all (a0.mv (Ad K.Bh)).all (a2.mv (Ad K.Bh)).all (a3.mv (Ad K.Bh)).all (dB.mv (Ad K.Bh)).all (dC.mv (Ad K.Bh)).all dA fO)).mono (fun _ _ h=>⟨h.2,h.1⟩)))
          (Aa (oG y (fun K=>Ac (K.kO 8) (TP _ _)))
          (Aa (oG y (fun K=>Af Bp (es (K.dq 11 97)) (c6.ext K.Bh) rfl))
          (B5 _)))))))))))))) ?_
      intro gA;rintro _ rfl _ ⟨_,rfl,⟨aF,aG,aH,aI,aJ,aK,aL,aM,aN,aO,aP,aQ,rfl,a6,a7,a8,a9,bA,bB⟩⟩ _ rfl _ ⟨a4,a5,rfl,bE⟩ _ rfl _ rfl _ rfl _ rfl _ rfl _ rfl _ rfl _ rfl _ rfl dD;have fP:=bM.ext dD;refine wG y (fun st=>HW (eR st) (eR st))<|wD (fun st=>Be (v:=.bool (decide (f.Ci≤dA))) (eR st) y (eR st))<|wD (fun st=>Uh Uq (eR st) (eR st))<|wM (v:=.bool (cG==(decide (f.Ci≤dA)))) rfl ?_;rcases Ae (cG==(decide (f.Ci≤dA))) with cR|cR
      ·replace a:=Au a cR;replace a:=CE a;obtain⟨fQ,a⟩:=a;refine wX cR (fun st=>Ar Lf (eR st) GF (a37 bI ZA _ fQ)) ?_;rintro _ gW ⟨fR,rfl⟩;have fS:=fP.ext fR;refine wD (fun st=>Be (v:=.bool true) (eR st) cR (eR st))<|wA (v:=.bool true) rfl<|wn<|Al ?_;have bJ:=oi a;refine Ax rfl rfl ?_;exact⟨fS.Bg,congrArg Value.bool bJ⟩
      ·replace a:=Av a cR;exact absurd (oi a) (by decide)
     ·replace a:=Av a y;refine B8 13 [Kc (.agg #[.slice m c.Ah.length o,.slice i c.Ab.length j,.slice p c.Ak.length q,I c.Flat,.slice r c.Az.length s,.slice aB ([f].length) aC,.slice none 0 0]),Kv (CO Jy) (zf Z w [some aS,some d,some bC]) cF,Kc (I (aE%(c.Ab.length:Int))),Kv (E1 (Am .i64)) (zf Z w [some aS,some d,some bC]) [aE%(c.Ab.length:Int)],Kc (.bool cG),Kc (I x.1),Kc (.bool (x.1==1)),Kc (.bool (x.1==1)),Kc undef,Kc undef,Kc undef,Kc undef,Kc undef] mixed rfl rfl
          (Aa (oD (fun K=>Ba (l:=[.slice m c.Ah.length o,.slice i c.Ab.length j,.slice p c.Ak.length q,I c.Flat,.slice r c.Az.length s,.slice aB ([f].length) aC,.slice none 0 0]) JX (K.kO 9) (bP.ext K.Bh) rfl rfl))
          (Aa (oE (fun K=>(Ar P2 rfl (Cl (es (K.dq 0 86))) (XZ bI (⟨c.Ah,c.Ab,c.Ak,c.Flat,c.Az,[f],([]:List BR)⟩:AM) m o i j p q r s aB aC none 0 (zf Z w [some aS,some d,some bC]) _ (aZ.mv (Ad K.Bh)) (a0.mv (Ad K.Bh)) (a2.mv (Ad K.Bh)) (a3.mv (Ad K.Bh)) (aW.mv (Ad K.Bh)) (Sl.nil Bn _ _) cF d5)).mono (fun _ _ h=>⟨(CO Jy).mv h.2 ((bM.ext K.Bh).Fh (Nat.le_refl _)),h.1⟩)))
          (Aa (oD (fun K=>AS (K.kO 7)))
          (Aa (G4 rfl rfl (fun a' w' ph K=>(BK (e:=3) (vs:= #[(0,I (aE%(c.Ab.length:Int)))]) (cs:= #[I (aE%(c.Ab.length:Int))]) (Hq (es (K.dq 2 88))) (by kernel_rfl)).mono (fun u Bt ⟨f8,hu,b5⟩=>⟨⟨_,_,hu,E5 (xs:=[aE%(c.Ab.length:Int)]) (Bz:=[[I (aE%(c.Ab.length:Int))]]) b5.bk ((bM.ext K.Bh).kn (Nat.le_of_eq b5.Ef.symm)) (R2.mv (Ad b5.gr) (show R2 (Am .i64) w' (zf Z w [some aS,some d,some bC]) [[I (aE%(c.Ab.length:Int))]] [aE%(c.Ab.length:Int)] from⟨rfl,trivial⟩)) rfl (Nat.le_refl _)⟩,b5.gr⟩)))
          (Aa (oE (fun K=>match K.dq 3 89 with|⟨a4,a5,c7,bE⟩=>by obtain⟨_,c8,⟨aF,aG,aH,aI,aJ,aK,aL,aM,aN,aO,aP,aQ,rfl,a6,a7,a8,a9,bA,bB⟩⟩:=K.dq 1 87;exact(Ar SN rfl (Cr (es (t:=87) (v:=.agg (AL aF aG aH aI aJ aK aL aM aN aO aP aQ cF).toArray) c8) (es (t:=89) (v:=.slice a4 ([aE%(c.Ab.length:Int)].length) a5) c7)) (YE bI cF [aE%(c.Ab.length:Int)] aF aG aH aI aJ aK aL aM aN aO aP aQ a4 a5 ZA _ a6.all a7.all a8.all a9.all bA.all bB.all bE.all cG d6)).mono (fun _ _ h=>⟨h.2,h.1⟩)))
          (Aa (oD (fun K=>AS (K.kO 10)))
          (Aa (oD (fun K=>DT (es (K.dq 5 91)) (ec (v:=I 1))))
          (Aa (oD (fun K=>AS (es (K.dq 6 92))))
          (Aa (oT y)
          (Aa (oT y)
          (Aa (oT y)
          (Aa (oT y)
          (Aa (oT y)
          (B5 _)))))))))))))) ?_
      intro gA;rintro _ rfl _ ⟨_,rfl,⟨aF,aG,aH,aI,aJ,aK,aL,aM,aN,aO,aP,aQ,rfl,a6,a7,a8,a9,bA,bB⟩⟩ _ rfl _ ⟨a4,a5,rfl,bE⟩ _ rfl _ rfl _ rfl _ rfl _ rfl _ rfl _ rfl _ rfl _ rfl dD;have fT:=bM.ext dD;refine wF y<|wD (fun st=>BB (v:=.bool false) (eR st) y (eR st))<|wD (fun st=>Uh Uq (eR st) (eR st))<|wM (v:=.bool (cG==false)) rfl ?_;rcases Ae (cG==false) with cS|cS
      ·replace a:=Au a cS;replace a:=CE a;obtain⟨fU,a⟩:=a;refine wX cS (fun st=>Ar Lf (eR st) GF (a37 bI ZA _ fU)) ?_;rintro _ gX ⟨fV,rfl⟩;have fW:=fT.ext fV;refine wD (fun st=>Be (v:=.bool true) (eR st) cS (eR st))<|wA (v:=.bool true) rfl<|wn<|Al ?_;have bJ:=oi a;refine Ax rfl rfl ?_;exact⟨fW.Bg,congrArg Value.bool bJ⟩
      ·replace a:=Av a cS;exact absurd (oi a) (by decide)
end Go.Proofs.YtbhofkcbfblijaaGreat
end
section
namespace Go.Proofs.YtbhofkcbfblijaaGreat
open Go.RowKit Go.ChangeShapes Go.WideShapes Go.ChangeAt
theorem Of(t:AM)(n m:Int)(a:Ge .u8 n)(b:Ge .u8 m):∃K,Ek K t n m=some true:=NI t n (by have:=Ut a;omega) (by have:=Ut a;omega) m (by have:=Ut b;omega) (by have:=Ut b;omega)
set_option maxRecDepth 100000 in
theorem Mz(os:Os)(started:os.Started)(H:Type)(enc:TypeId×Value→H):
  ReturnsInHanded {} Tryz.checked os 22 .any (Rows.tradeLayerSpec.pre6 enc Tryz.prog Tryz.f22 Rows.tradeLayerRow.domain false) (Rows.tradeLayerSpec.post enc Tryz.prog Tryz.f22 false true false false):=by
 refine returnsInHanded_of_change_sized (C:=Tryz.checked) ZB started (by kernel_rfl) Tryz.func22
  (ChangeSpec.witness6 (enc:=enc) (C:=Tryz.checked) false ⟨#[], #[.agg #[.slice none 0 0,.slice none 0 0,.slice none 0 0,.int .i64 0,.slice none 0 0,.slice none 0 0,.slice none 0 0],.int .u8 0,.int .u8 0],[]⟩ 8 (by kernel_rfl) (by kernel_rfl) (by kernel_rfl) (by kernel_rfl)) ?_
 intro W base args ds gs before d aF aP aG _;have a:∀(j:Nat) t v,Tryz.f22.params[j]?=some t→args[j]?=some v→Value.okWide Tryz.prog W .any base t v:=d;have b:=aF;obtain⟨p,q,aH,aQ,rfl,aZ,a0⟩:=aF;have g:DataW.TrodAll enc Tryz.prog W 0 (fun _=>true) true Tryz.f22.params.toList args.toList ds p:=aH;obtain⟨rfl,rfl⟩:=trodVars_none aQ;simp only[List.append_nil] at b;have aI:∀x∈p,x.block<W.heap.size:=fun x f=>by simpa using b.lt x f
 have aJ:=g;have c:(DataW.weightsEach Tryz.prog (Tryz.f22.params.toList++[]) (ds++[])).all (· ≤reachBytes)=true:=aG;rw[Tryz.params22] at g a c;obtain⟨v0,v1,v2,d0,d1,d2,aR,aS,aT,rfl,rfl,rfl,h0,aU,aV⟩:=trodAll_three g;obtain⟨aK,a2,aL,⟨h,i,k,l,m,n,o,r,s,u,w,y,rfl,z,aA,aB,aC,aD,aE⟩,w0⟩:=WC Tryz.underlying67 X7 (a 0 67 v0 rfl rfl) h0 (WB (j:=0) c rfl rfl);obtain⟨x1,aM,w1⟩:=Rp Tryz.underlying5 (a 1 5 v1 rfl rfl) aU;obtain⟨x2,aN,w2⟩:=Rp Tryz.underlying5 (a 2 5 v2 rfl rfl) aV;subst aL;subst aM;subst aN;obtain⟨K,aW⟩:=Of aK x1 x2 w1 w2;refine(SS (a22 K aK x1 x2 h i k l m n o r s u w y ZA W z aA aB aC aD aE aW)).mono fun e W' ⟨v,he,f,aX⟩=>?_;subst he;subst aX;exact⟨_,rfl,Ql (pa:=(aR++aS++aT)) (pv:=[]) b (fun _ _ _=>trodAll_mk1 (shut_bool Tryz.underlying4 _)) (fun sp aY=>SR Yw Yx (by rw[Tryz.params22];decide) aJ f aI sp (fun x aO=>aY x (by simpa using aO))) (fun _ _=>rfl) (by simp) f (ok_one (by kernel_rfl) rfl (okWide_bool_mk Tryz.underlying4 _))⟩
theorem IQ:((Rows.tradeLayerRow.inPlace==Tryz.checked.prog.inPlace 22)&&(Rows.tradeLayerRow.unfollowed==Tryz.checked.prog.unfollowed 22)&&(Rows.tradeLayerRow.recurses==Tryz.checked.prog.recurses 22)&&(Rows.tradeLayerRow.named==Tryz.checked.prog.varsNamed 22))=true:=by kernel_rfl
theorem M7:joinedFacts Tryz.checked.prog 22 Tryz.f22 Rows.tradeLayerSpec Rows.tradeLayerRow=true:=by
 unfold joinedFacts;exact(Ez (Ez (Ez (Ez (Ez (Ez (Ez (Ez (Ez (Ez (Ez (Ez (Ez (Ez (Ez (Ez (Ez (Ez (Ez (Ez (Ez (Ez (Ez (Ez (Ez (Ez (Ez (Ez (Ez (Ez (Ez (by kernel_rfl) X8) X9) (by kernel_rfl)) (by kernel_rfl)) (by kernel_rfl)) WH) (by kernel_rfl)) WI) (NH (NH (NH IQ)))) (SU (NH (NH IQ)))) (SU (NH IQ))) (SU IQ)) (by kernel_rfl)) (by kernel_rfl)) (by kernel_rfl)) (by kernel_rfl)) (by kernel_rfl)) (by kernel_rfl)) (by kernel_rfl)) (by kernel_rfl)) (by kernel_rfl)) Ya) (by kernel_rfl)) WJ) (NH (NH P5))) (SU (NH P5))) (SU P5)) (by kernel_rfl)) (by kernel_rfl)) (by kernel_rfl)) (by kernel_rfl))
theorem tradeLayer_holds:Rows.TradeLayerSaid:=
 OpenClaim.holds_of_wide 22 Tryz.f22 rfl rfl rfl rfl rfl rfl rfl ⟨rfl,rfl,rfl,rfl,rfl⟩ rfl rfl rfl rfl rfl (by kernel_rfl) Tryz.func22 M7
  (of_decide_eq_true (by kernel_rfl)) (by unfold Func.isWrapper;rw[if_neg (by decide+kernel)];exact⟨rfl,rfl⟩)
  (fun os started H enc _=>Mz os started H enc)
end Go.Proofs.YtbhofkcbfblijaaGreat
end
