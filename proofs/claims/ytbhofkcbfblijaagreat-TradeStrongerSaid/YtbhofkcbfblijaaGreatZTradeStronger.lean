import Derived.Test.YtbhofkcbfblijaaGreatETradeStronger
import Derived.Test.YtbhofkcbfblijaaGreatRows
/-
  Proved: the law TradeStronger returns true for every argument that the row hands over, and leaves every argument as it was; no condition beside the row's own.
-/
set_option linter.all false
section
namespace Go.Proofs.YtbhofkcbfblijaaGreat
open Go.RowKit Go.WideShapes
def G6(b:(List Int)×Int)(c:(List Int)×Int):Nat→Int→Option ((Bool)⊕(Unit))
 |0,_=>none
 |f+1,a=>cond (decide (a<(b.1.length:Int))) ((idx c.1 a).bind fun d=>(idx b.1 a).bind fun e=>cond (decide (d<e)) (some (.inl false)) ((i64 (a+1)).bind fun _=>G6 b c f (a+1))) (some (.inr ()))
def KH(b:Nat)(c:Aq)(l:Int)(e:Int)(h:Int):Option (Bool):=
 (B7 b c).bind fun p=>cond (!p) ((EX (BH b=some true)).bind fun _=>some (true)) ((Fh .i64 l).bind fun _=>(E5 b (⟨c.Af,c.Aa,c.Ag⟩:AU)).bind fun i=>(rem l i).bind fun _=>(Dg b (⟨c.Af,c.Aa,c.Ag⟩:AU) (l%i)).bind fun a=>(CL b a).bind fun j=>(Fh .i64 e).bind fun _=>(rem e (a.length:Int)).bind fun _=>(idx c.Af (e%(a.length:Int))).bind fun m=>(idx a (e%(a.length:Int))).bind fun k=>(Fh .i64 h).bind fun _=>(rem h (4:Int)).bind fun _=>(i64 (k+(h%4))).bind fun _=>(idx j (e%(a.length:Int))).bind fun q=>(Cv b c).bind fun n=>(JW b n a).bind fun d=>(Cv b c).bind fun o=>(JW b o (j.set (e%(a.length:Int)).toNat (min m.Hi (k+(h%4))))).bind fun f=>cond (d.2 !=0) (some (false)) (cond (f.2 !=0) (some (false)) (cond ((d.1.length:Int) !=(c.Aa.length:Int)) (some (false)) (cond ((f.1.length:Int) !=(d.1.length:Int)) (some (false)) ((G6 d f b (0:Int)).bind fun z=>Sum.elim (fun g=>some (g)) (fun g=>(EX (BH b=some true)).bind fun _=>some (true)) z)))))
end Go.Proofs.YtbhofkcbfblijaaGreat
end
section
namespace Go.Proofs.YtbhofkcbfblijaaGreat
theorem Ya:∀{g:List ES} {s p:Int},Ow s p g=true→0≤p→∀a b:Int,a≤b→0≤F5 g a∧F5 g a≤F5 g b∧F5 g b≤p
 |[],s,p,_,d,a,b,h=>⟨Int.le_refl _,Int.le_refl _,d⟩
 |x::g,s,p,c,d,a,b,h=>by
  rw[Ow,Bool.and_eq_true,Bool.and_eq_true] at c;have h2:=DB.1 c.2.1;have ih:=Ya c.2.2 h2.1 a b h;have e:∀s,F5 (x::g) s=if x.B6≤s then x.Ea else F5 g s:=fun s=>by
   unfold F5;rw[List.find?_cons]
   by_cases h:x.B6≤s
   ·rw[dt h,if_pos h]
   ·rw[df h,if_neg h]
  rw[e,e];split
  ·rw[if_pos (by omega)];omega
  ·split<;>omega
theorem AaJ:∀(w a b:List Int),(∀x∈w,0≤x)→a.length=b.length→(∀i,a.getD i 0≤b.getD i 0)→dot w a≤dot w b
 |[],a,b,_,_,_=>by cases a<;>cases b<;>simp[dot]
 |w::ws,[],[],_,_,_=>Int.le_refl _
 |w::ws,a::c,[],_,h,_=>by simp at h
 |w::ws,[],b::d,_,h,_=>by simp at h
 |w::ws,a::c,b::d,hw,hl,h=>by
  have h1:a≤b:=h 0;have h2:=AaJ ws c d (fun x hx=>hw x (List.mem_cons_of_mem _ hx)) (by simpa using hl) (fun i=>h (i+1));have e:w*a≤w*b:=Int.mul_le_mul_of_nonneg_left h1 (hw w (List.mem_cons_self ..));rw[dot,dot];omega
theorem AbJ:∀{rs:List AR} {l:List Int} {k:Nat} {v:Int},Dn rs l=true→(∀h:k<rs.length,DR v rs[k].Lo rs[k].Hi=true)→Dn rs (l.set k v)=true
 |[],[],_,_,_,_=>rfl
 |[],_::_,_,_,h,_=>by cases h
 |_::_,[],_,_,h,_=>by cases h
 |r::rs,x::xs,0,v,h,a=>by
  rw[Dn,Bool.and_eq_true] at h;rw[List.set_cons_zero,Dn,h.2,Bool.and_true];exact a (by simp)
 |r::rs,x::xs,k+1,v,h,a=>by
  rw[Dn,Bool.and_eq_true] at h;rw[List.set_cons_succ,Dn,h.1,Bool.true_and];exact AbJ h.2 fun hk=>a (by simp;omega)
theorem AcS:∀{rs:List AR} {l:List Int} {k:Nat},Dn rs l=true→(h1:k<rs.length)→(h2:k<l.length)→DR l[k] rs[k].Lo rs[k].Hi=true
 |[],_,_,_,h1,_=>by simp at h1
 |_::_,[],_,h,_,_=>by cases h
 |r::rs,x::xs,0,h,_,_=>by rw[Dn,Bool.and_eq_true] at h;exact h.1
 |r::rs,x::xs,k+1,h,h1,h2=>by
  rw[Dn,Bool.and_eq_true] at h;exact AcS h.2 (by simpa using h1) (by simpa using h2)
section
variable{K:Nat}(hK:1000≤K)
include hK
theorem U9(ha:BH K=some true)(t:Aq)(n k d:Int)(hn:0≤n)(w:n<65536)(hk:0≤k)(aE:k<256)(y:0≤d)(aF:d<256):KH K t n k d=some true:=by
 unfold KH;rcases IF hK t with h|⟨h,b,hr⟩
 ·rw[bd h,nf,DE ha]
 rw[bd hr,nt];have hlen:=Fj h;have aG:=b.hl;have aH:=b.kl;have aD:E5 K ⟨t.Af,t.Aa,t.Ag⟩=some (Ds t.Af):=Kk hK (c:=t.C) b.c;have u:1≤Ds t.Af:=LY hK (c:=t.C) b.c;have hm:=b.many;have z:=Int.emod_nonneg n (by omega:Ds t.Af≠0);have aI:=Int.emod_lt_of_pos n (by omega:0<Ds t.Af);have aA:Dg K ⟨t.Af,t.Aa,t.Ag⟩ (n%Ds t.Af)=some (Er t.Af (n%Ds t.Af)):=N8 hK (c:=t.C) (by show t.Af.length≤100;omega) b.c.ok (by omega);have f:Dn t.Af (Er t.Af (n%Ds t.Af))=true:=VU b.c.ok z;generalize Er t.Af (n%Ds t.Af)=a at aA f;have aJ:=Gn f;have h0:0<t.Af.length:=b.c.h0;have aB:=Qm (rs:=t.Af) b.c.ok f;obtain⟨q,hq⟩:∃q:Nat,k%(a.length:Int)=(q:Int):=⟨(k%(a.length:Int)).toNat,by have:=Int.emod_nonneg k (by omega:(a.length:Int)≠0);omega⟩;have g:q<a.length:=by have:=Int.emod_lt_of_pos k (by omega:(0:Int)<a.length);omega
 have r:q<t.Af.length:=by omega
 have hx:=aB _ (List.getElem_mem g);have aK:=DB.1 (AcS f r g);have aL:=Int.emod_nonneg d (by omega:(4:Int)≠0);have aM:=Int.emod_lt_of_pos d (by omega:(0:Int)<4);rw[PS hn w,bd aD,IQ hn u,bd aA,bd (Kg hK a (by omega)),PS hk (by omega),IQ hk (by omega),hq,BO r,BO g,PS y (by omega),IQ y (by omega),Be (by omega) (by omega),BO g,bd (GQ hK t hlen)];have v:Dn t.Af (a.set q (min t.Af[q].Hi (a[q]+d%4)))=true:=AbJ f fun _=>by rw[DB];omega
 rw[bd (UY hK h b f),bd (GQ hK t hlen),Int.toNat_natCast,bd (UY hK h b v),cf (EL rfl),cf (EL rfl),cf (EL (by rw[Di])),cf (EL (by rw[Di,Di]))];have hle:∀i (h1:i<(AA t a).length) (h2:i<(AA t (a.set q (min t.Af[q].Hi (a[q]+d%4)))).length),(AA t a)[i]≤(AA t (a.set q (min t.Af[q].Hi (a[q]+d%4))))[i]:=fun i h1 h2=>by
  rw[Di] at h1;have hw:=b.Hn _ (List.getElem_mem h1);have aC:CU a t.Aa[i]≤CU (a.set q (min t.Af[q].Hi (a[q]+d%4))) t.Aa[i]:=by
   unfold CU;refine Int.ediv_le_ediv (by omega) (AaJ _ _ _ (fun x hx=>(hw.2.1 x hx).1) (by simp) fun j=>?_)
   by_cases hj:j=q
   ·subst hj;rw[Ci _ g,Ci _ (by simpa using g),List.getElem_set_self];omega
   ·rw[List.getD_eq_getElem?_getD,List.getD_eq_getElem?_getD,List.getElem?_set_ne (Ne.symm hj)];exact Int.le_refl _
  have u:=Ya b.gr (by omega) _ _ aC;have:=Int.mul_le_mul_of_nonneg_right u.2.1 (show 0≤t.Aa[i].sum by omega);simpa[AA] using this
 have aN:=Di t a;have aO:=Di t (a.set q (min t.Af[q].Hi (a[q]+d%4)));generalize AA t (a.set q (min t.Af[q].Hi (a[q]+d%4)))=o at*;generalize AA t a=e at*;have l:=Jm e (fun m i=>G6 (e,0) (o,0) m (i:Int)) (fun _=>true) false
  (fun m i hi=>by
   show G6 (e,0) (o,0) (m+1) (i:Int)=_;have s:i<o.length:=by omega
   have:=hle i hi s;rw[G6.eq_2,ct (dt (show(i:Int)<(e.length:Int) by omega)),BO (xs:=o) s,BO (xs:=e) hi,cf (df (by omega)),Be (by omega) (by omega),CK i,ct rfl])
  (fun m=>by
   show G6 (e,0) (o,0) (m+1) (e.length:Int)=_;rw[G6.eq_2,cf (df (show¬(e.length:Int)<(e.length:Int) by omega))]) (k:=K) (by omega)
 rw[show(e.all fun _=>true)=true from List.all_eq_true.2 fun _ _=>rfl] at l;have p:G6 (e,0) (o,0) K 0=some (.inr ()):=l;rw[bd p];exact DE ha
end
theorem VV(t:Aq)(n k d:Int)(hn:0≤n)(a:n<65536)(hk:0≤k)(b:k<256)(e:0≤d)(c:d<256):∃K,KH K t n k d=some true:=⟨1000,U9 (Nat.le_refl _) KX t n k d hn a hk b e c⟩
end Go.Proofs.YtbhofkcbfblijaaGreat
end
section
namespace Go.Proofs.YtbhofkcbfblijaaGreat
open Go.RowKit Go.WideShapes
set_option maxRecDepth 20000
open HF
attribute [local irreducible] Eo WL CC CW LV CH Jx HO One BG
theorem Ah8 y d a b(Z:Nat→Prop) w(j:Sl (AF .i64) w Z a b d) p(e:CL y d=some p):
 CH Tryz.prog 51 #[.slice a d.length b] w (fun v w'=>Ext w w'∧∃A c,v=.slice A p.length c∧Ca (AF .i64) 3 w.heap.size w' (zf Z w [ob A]) A c p):=by
 unfold CL at e;refine Bb (N:=5) Tryz.func51 rfl rfl (by simp) ?_;intro aB ha aC;have q:=AO (i:=0) ha rfl;clear ha;have r:Hp FN [] w [] w:=Hp.start (Co.none w);have f:=j.mv (Al (Z:=Z) (L:=[]) w);refine Ai<|Ae<|wa rfl (v:=.slice none 0 0) rfl<|Aj<|Ad<|Ai<|Ae<|wm rfl (v:=.slice a d.length b) q ?_;have h:=r.nil;have s:Ca (AF .i64) 3 w.heap.size w (zf Z w [none]) none 0 ([]:List Int):=Ca.nil _ _ _ _ _;replace e:=Cu e;obtain⟨l,e⟩:=e;have g:=(f.mv Ba);refine we rfl (fun st=>HY (ys:=d) Tryz.underlying31 HI rfl rfl (by decide) (ee st rfl) rfl (ee st rfl) s g.n (by have:=l;simp only[maxLen];omega) (by have:=l;omega) h.sz) ?_;rintro _ aD ⟨z,aA,rfl,m,o,t⟩;have u:=h.row m 0 rfl o;have x:=EU t (h.CI m 0 rfl (fun k hk=>(o k hk).1));refine wa rfl (v:=.slice z ((([]:List Int)++d).length) aA) rfl<|Aj<|Ad<|AM ?_;obtain rfl:=oi e;refine AN rfl rfl ?_;exact⟨u.Bq,_,_,rfl,x.up (CR (DT [0] ⟨rfl,trivial⟩))⟩
set_option maxHeartbeats 4000000 in
theorem a8 bS b dG aS z d e f g n o aH aI aJ aK aL aM(Z:Nat→Prop) w(eU:Sl AT w Z d e b.Af)(eV:Sl (BY (AF .i64)) w Z f g b.Aa)(eW:Sl AX w Z n o b.Ag)(eX:Sl Bz w Z aH aI b.Ao)(eY:Sl Bw w Z aJ aK b.Am)(eZ:Sl BL w Z aL aM b.Ak)(a:KH bS b dG aS z=some true):
 CH Tryz.prog 8 #[.agg #[.slice d b.Af.length e,.slice f b.Aa.length g,.slice n b.Ag.length o,I b.Flat,.slice aH b.Ao.length aI,.slice aJ b.Am.length aK,.slice aL b.Ak.length aM],.int .u16 dG,.int .u8 aS,.int .u8 z] w (fun v w'=>Ext w w'∧v=.bool true):=by
 unfold KH at a;refine Bb (N:=108) Tryz.func8 rfl rfl (by simp) ?_;intro hG ha hH;have fD:=AO (i:=0) ha rfl;have fE:=AO (i:=1) ha rfl;have fF:=AO (i:=2) ha rfl;have fG:=AO (i:=3) ha rfl;clear ha;have e3:Hp FN [] w [] w:=Hp.start (Co.none w);have dH:=eU.mv (Al (Z:=Z) (L:=[]) w);have dI:=eV.mv (Al (Z:=Z) (L:=[]) w);have dJ:=eW.mv (Al (Z:=Z) (L:=[]) w);have dK:=eX.mv (Al (Z:=Z) (L:=[]) w);have dL:=eY.mv (Al (Z:=Z) (L:=[]) w);have dM:=eZ.mv (Al (Z:=Z) (L:=[]) w);refine Ai<|Ae<|we rfl (fun st=>Cs (v:=.agg #[.slice d b.Af.length e,.slice f b.Aa.length g,.slice n b.Ag.length o,I b.Flat,.slice aH b.Ao.length aI,.slice aJ b.Am.length aK,.slice aL b.Ak.length aM]) (cs:= #[.slice d b.Af.length e,.slice f b.Aa.length g,.slice n b.Ag.length o,I b.Flat,.slice aH b.Ao.length aI,.slice aJ b.Am.length aK,.slice aL b.Ak.length aM]) (ee st fD) rfl) ?_;rintro _ w1 ⟨b1,rfl,aX⟩;have gR:=e3.nb aX;have g4:=e3.Cz aX;refine wa rfl (v:=.bool false) rfl<|Aj<|Ad<|Ai<|Ai<|Ae<|wd rfl (fun st=>AW (l:=[.slice d b.Af.length e,.slice f b.Aa.length g,.slice n b.Ag.length o,I b.Flat,.slice aH b.Ao.length aI,.slice aJ b.Am.length aK,.slice aL b.Ak.length aM]) Ct (ee st rfl) aX.bk rfl rfl) ?_;have cA:=(dH.mv (An aX));have cB:=(dI.mv (An aX));have cC:=(dJ.mv (An aX));have cD:=(dK.mv (An aX));have cE:=(dL.mv (An aX));have cF:=(dM.mv (An aX));replace a:=bind_some a;obtain⟨e0,gS,a⟩:=a;refine we rfl (fun st=>Az M7 (ee st rfl) (C2 (ee st rfl)) (RJ bS b d e f g n o aH aI aJ aK aL aM ZA _ cA.all cB.all cC.all cD.all cE.all cF.all e0 gS)) ?_;rintro _ hV ⟨bP,rfl⟩;have e4:=gR.ext bP;refine wd rfl (fun st=>DK (ee st rfl))<|Aj<|Ad ?_;rcases As (!e0) with bT|bT
 ·replace a:=AG a bT;have g5:e0=false:=by simpa using bT
  refine AJ rfl bT<|Ai<|Ae ?_;replace a:=Cu a;obtain⟨gT,a⟩:=a;refine we rfl (fun st=>Az EY (ee st rfl) GK (a37 bS ZA _ gT)) ?_;rintro _ hW ⟨gU,rfl⟩;have gV:=e4.ext gU;refine wa rfl (v:=.bool true) rfl<|Aj<|Ad<|AM<|AE ?_;have c0:=oi a;refine AN rfl rfl ?_;exact⟨gV.Bq,congrArg Value.bool c0⟩
 ·replace a:=AH a bT;have g6:e0=true:=by simpa using bT
  refine AK rfl bT<|AQ<|Ad<|Ai ?_;have cU:=(aX.bk.ext bP);replace a:=Ee a;obtain⟨fH,a⟩:=a;have cG:=(cA.mv (Ab bP));have cH:=(cB.mv (Ab bP));have cI:=(cC.mv (Ab bP));replace a:=bind_some a;obtain⟨dD,fI,a⟩:=a;replace a:=Fs a;obtain⟨eE,a⟩:=a;refine Cm 8 [Kc (pt b1 0),Kc (.agg #[.slice d b.Af.length e,.slice f b.Aa.length g,.slice n b.Ag.length o]),Kc (.int .u16 dG),Kc (I dG),Kc (pt b1 0),Kc (.agg #[.slice d b.Af.length e,.slice f b.Aa.length g,.slice n b.Ag.length o]),Kc (I dD),Kc (I (dG%dD))] mixed rfl rfl
      (Ac (od rfl (fun _=>rfl) (fun K=>Ap (es ((K.out 4 rfl).trans rfl)) (El _ _)))
      (Ac (od rfl (fun _=>rfl) (fun K=>AW (l:=[.slice d b.Af.length e,.slice f b.Aa.length g,.slice n b.Ag.length o]) E6 (es (K.Ar 0 21 rfl rfl)) (cU.ext K.AV) rfl rfl))
      (Ac (od rfl (fun _=>rfl) (fun K=>Ay (es ((K.out 1 rfl).trans fE))))
      (Ac (od rfl (fun _=>rfl) (fun K=>Fa (k:=.i64) SV Tryz.underlying3 (es (K.Ar 2 23 rfl rfl)) fH))
      (Ac (od rfl (fun _=>rfl) (fun K=>Ap (es ((K.out 4 rfl).trans rfl)) (El _ _)))
      (Ac (od rfl (fun _=>rfl) (fun K=>AW (l:=[.slice d b.Af.length e,.slice f b.Aa.length g,.slice n b.Ag.length o]) E6 (es (K.Ar 4 25 rfl rfl)) (cU.ext K.AV) rfl rfl))
      (Ac (Dz rfl rfl (fun a' w' ph K=>(Az QN rfl (C2 (es (K.Ar 5 26 rfl rfl))) (a59 bS (⟨b.Af,b.Aa,b.Ag⟩:AU) d e f g n o ZA _ (cG.mv (Ab K.AV)).all (cH.mv (Ab K.AV)).all (cI.mv (Ab K.AV)).all dD fI)).mono (fun _ _ h=>⟨h.2,h.1⟩)))
      (Ac (od rfl (fun _=>rfl) (fun K=>Hw (es (K.Ar 3 24 rfl rfl)) (es (K.Ar 6 27 rfl rfl)) eE.1 eE.2))
      (Ck _))))))))) ?_
  intro hX;rintro _ rfl _ rfl _ rfl _ rfl _ rfl _ rfl _ rfl _ rfl bQ;have e5:=e4.ext bQ;have cJ:=(cG.mv (Ab bQ));have cK:=(cH.mv (Ab bQ));have cL:=(cI.mv (Ab bQ));replace a:=bind_some a;obtain⟨j,fJ,a⟩:=a;refine we rfl (fun st=>Az N9 (ee st rfl) (DH (ee st rfl) (ee st rfl)) (Sr bS (⟨b.Af,b.Aa,b.Ag⟩:AU) (dG%dD) d e f g n o (zf Z w [some b1]) _ cJ cK cL j fJ)) ?_;rintro _ hI ⟨aT,⟨aA,aB,rfl,aV⟩⟩;have bI:=e5.ext aT;have aV:=aV.mv (e5.Bo (Nat.le_refl _));refine wa rfl (v:=.slice aA j.length aB) rfl<|Aj<|Ad<|Ai<|Ae<|wm rfl (v:=.slice aA j.length aB) rfl ?_;replace a:=bind_some a;obtain⟨q,fK,a⟩:=a;refine we rfl (fun st=>Az JN (ee st rfl) (C2 (ee st rfl)) (Ah8 bS j aA aB (zf Z w [some b1]) _ aV q fK)) ?_;rintro _ hJ ⟨aP,c,s,rfl,aQ⟩;have gW:=bI.hand (D:=FN) (HE aP) eL aQ;have eF:=bI.Ag9 (Nat.le_refl _) aQ;refine wa rfl (v:=.slice c q.length s) rfl<|Aj<|Ad<|Ai<|Ae<|wm rfl (v:=.int .u8 aS) fF ?_;replace a:=Ee a;obtain⟨fL,a⟩:=a;refine wd rfl (fun st=>Fa (k:=.i64) Qv Tryz.underlying3 (ee st rfl) fL)<|wm rfl (v:=.slice aA j.length aB) rfl<|wd rfl (fun st=>BD Tryz.underlying31 (ee st rfl)) ?_;replace a:=Fs a;obtain⟨eG,a⟩:=a;refine wd rfl (fun st=>Hw (ee st rfl) (ee st rfl) eG.1 eG.2)<|wa rfl (v:=I (aS%(j.length:Int))) rfl<|Aj<|Ad<|Ai ?_;have dE:=(((cU.ext bQ).ext aT).ext aP);replace a:=Bi a;obtain⟨i20,t,fM,fN,fO,a⟩:=a;have cM:=((cJ.mv (Ab aT)).mv (bI.OI (D:=FN) (HE aP) eL aQ));obtain⟨e6,e7,_,fP,rfl,fQ⟩:=Sl.elem cM (by decide) fN;replace a:=Bi a;obtain⟨i21,r,fR,fS,fT,a⟩:=a;have bR:=(aV.mv (bI.OI (D:=FN) (HE aP) eL aQ));obtain⟨gX,gY,_,fU,rfl,fV⟩:=Sl.Dd bR rfl fS;replace a:=Ee a;obtain⟨fW,a⟩:=a;replace a:=Fs a;obtain⟨eH,a⟩:=a;replace a:=AP a;obtain⟨fX,a⟩:=a;refine Cm 18 [Kc (.slice c q.length s),Kc (I (aS%(j.length:Int))),Kc (pt b1 0),Kc (pt b1 0),Kc (.slice d b.Af.length e),Kc (I (aS%(j.length:Int))),Kc (pt e6 (e7+i20*2)),Kc (pt e6 (e7+i20*2+1)),Kc (I t.Hi),Kc (.slice aA j.length aB),Kc (I (aS%(j.length:Int))),Kc (pt gX (gY+i21)),Kc (I r),Kc (.int .u8 z),Kc (I z),Kc (I (z%4)),Kc (I (r+(z%4))),Kc (I (min t.Hi (r+(z%4))))] mixed rfl rfl
      (Ac (od rfl (fun _=>rfl) (fun K=>Ay (es ((K.out 10 rfl).trans rfl))))
      (Ac (od rfl (fun _=>rfl) (fun K=>Ay (es ((K.out 11 rfl).trans rfl))))
      (Ac (od rfl (fun _=>rfl) (fun K=>Ap (es ((K.out 4 rfl).trans rfl)) (El _ _)))
      (Ac (od rfl (fun _=>rfl) (fun K=>Ap (es (K.Ar 2 39 rfl rfl)) (E2 _ _)))
      (Ac (od rfl (fun _=>rfl) (fun K=>AL FF (es (K.Ar 3 40 rfl rfl)) (dE.ext K.AV) rfl))
      (Ac (od rfl (fun _=>rfl) (fun K=>Ay (es ((K.out 11 rfl).trans rfl))))
      (Ac (od rfl (fun _=>rfl) (fun K=>BZ (k:=i20) Tryz.underlying22 G7 (es (K.Ar 4 41 rfl rfl)) fP (es (K.Ar 5 42 rfl rfl)) fM fO))
      (Ac (od rfl (fun _=>rfl) (fun K=>Ap (es (K.Ar 6 43 rfl rfl)) (MU _ _ _)))
      (Ac (od rfl (fun _=>rfl) (fun K=>Gy BK (es (K.Ar 7 44 rfl rfl)) (fQ.mv (Ab K.AV)) rfl))
      (Ac (od rfl (fun _=>rfl) (fun K=>Ay (es ((K.out 9 rfl).trans rfl))))
      (Ac (od rfl (fun _=>rfl) (fun K=>Ay (es ((K.out 11 rfl).trans rfl))))
      (Ac (od rfl (fun _=>rfl) (fun K=>Bj (k:=i21) Tryz.underlying31 DY (es (K.Ar 9 46 rfl rfl)) fU (es (K.Ar 10 47 rfl rfl)) fR fT))
      (Ac (od rfl (fun _=>rfl) (fun K=>Bu BK (es (K.Ar 11 48 rfl rfl)) (fV.mv (Ab K.AV)) rfl))
      (Ac (od rfl (fun _=>rfl) (fun K=>Ay (es ((K.out 3 rfl).trans fG))))
      (Ac (od rfl (fun _=>rfl) (fun K=>Fa (k:=.i64) Qv Tryz.underlying3 (es (K.Ar 13 50 rfl rfl)) fW))
      (Ac (od rfl (fun _=>rfl) (fun K=>Hw (es (K.Ar 14 51 rfl rfl)) (ec (v:=I 4)) eH.1 eH.2))
      (Ac (od rfl (fun _=>rfl) (fun K=>Ce (es (K.Ar 12 49 rfl rfl)) (es (K.Ar 15 52 rfl rfl)) fX))
      (Ac (od rfl (fun _=>rfl) (fun K=>V4 (es (K.Ar 8 45 rfl rfl)) (es (K.Ar 16 53 rfl rfl))))
      (Ck _))))))))))))))))))) ?_
  intro hL;rintro _ rfl _ rfl _ rfl _ rfl _ rfl _ rfl _ rfl _ rfl _ rfl _ rfl _ rfl _ rfl _ rfl _ rfl _ rfl _ rfl _ rfl _ rfl aC;have aY:=gW.ext aC;replace a:=Bi a;obtain⟨i25,hM,eI,eJ,c4,a⟩:=a;have c1:=(eF.ext aC (Ab aC));obtain⟨hN,hO,_,eK,rfl,g8⟩:=Sl.Dd c1.all rfl eJ;refine wd rfl (fun st=>Bj (k:=i25) Tryz.underlying31 DY (ee st rfl) eK (ee st rfl) eI c4) ?_;have eM:(aS%(j.length:Int)).toNat=i25:=by rw[eI,Int.toNat_natCast]
  refine Dv rfl rfl (fun st=>Vt (k:=i25) (z':=min t.Hi (r+(z%4))) (l:=[I (min t.Hi (r+(z%4)))]) c1 eJ eK rfl (ee st rfl) (ee st rfl) DY rfl rfl (Cq rfl) rfl) ?_;rintro _ gZ ⟨aN,fY⟩;have bU:=aY.gr aN 0 rfl;have fZ:Ca (AF .i64) 3 w.heap.size gZ (zf Z w [ob c,some b1]) c s (q.set (aS%(j.length:Int)).toNat (min t.Hi (r+(z%4)))):=by rw[show q.set (aS%(j.length:Int)).toNat (min t.Hi (r+(z%4)))=q.set i25 (min t.Hi (r+(z%4))) from congrArg (fun f0=>q.set f0 (min t.Hi (r+(z%4)))) eM];exact WW fY (aY.Bf aN 0 rfl)
  have g9:(q.set (aS%(j.length:Int)).toNat (min t.Hi (r+(z%4))))[i25]?=some (min t.Hi (r+(z%4))):=by rw[show q.set (aS%(j.length:Int)).toNat (min t.Hi (r+(z%4)))=q.set i25 (min t.Hi (r+(z%4))) from congrArg (fun f0=>q.set f0 (min t.Hi (r+(z%4)))) eM];exact List.getElem?_set_self c4
  have hA:i25<(q.set (aS%(j.length:Int)).toNat (min t.Hi (r+(z%4)))).length:=by rw[List.length_set];exact c4
  have hB:(.slice c q.length s:Value)=.slice c ((q.set (aS%(j.length:Int)).toNat (min t.Hi (r+(z%4)))).length) s:=by simp only[List.length_set]
  have f1:(.slice c q.length s:Value)=.slice c ((q.set (aS%(j.length:Int)).toNat (min t.Hi (r+(z%4)))).length) s:=by simp only[List.length_set]
  have hC:(.slice c q.length s:Value)=.slice c ((q.set (aS%(j.length:Int)).toNat (min t.Hi (r+(z%4)))).length) s:=by simp only[List.length_set]
  refine Aj<|Ad<|Ai<|Ae ?_;have dF:=((dE.ext aC).gr aN (aY.ne 1 0 rfl rfl rfl));refine wd rfl (fun st=>AW (l:=[.slice d b.Af.length e,.slice f b.Aa.length g,.slice n b.Ag.length o,I b.Flat,.slice aH b.Ao.length aI,.slice aJ b.Am.length aK,.slice aL b.Ak.length aM]) Ct (ee st rfl) dF rfl rfl) ?_;have cN:=((cM.mv (Ab aC)).mv (aY.Bf aN 0 rfl));have cO:=((((cK.mv (Ab aT)).mv (bI.OI (D:=FN) (HE aP) eL aQ)).mv (Ab aC)).mv (aY.Bf aN 0 rfl));have cP:=((((cL.mv (Ab aT)).mv (bI.OI (D:=FN) (HE aP) eL aQ)).mv (Ab aC)).mv (aY.Bf aN 0 rfl));have cQ:=((((((cD.mv (Ab bP)).mv (Ab bQ)).mv (Ab aT)).mv (bI.OI (D:=FN) (HE aP) eL aQ)).mv (Ab aC)).mv (aY.Bf aN 0 rfl));have cR:=((((((cE.mv (Ab bP)).mv (Ab bQ)).mv (Ab aT)).mv (bI.OI (D:=FN) (HE aP) eL aQ)).mv (Ab aC)).mv (aY.Bf aN 0 rfl));have cS:=((((((cF.mv (Ab bP)).mv (Ab bQ)).mv (Ab aT)).mv (bI.OI (D:=FN) (HE aP) eL aQ)).mv (Ab aC)).mv (aY.Bf aN 0 rfl));replace a:=bind_some a;obtain⟨e8,f2,a⟩:=a;refine we rfl (fun st=>Az GY (ee st rfl) (C2 (ee st rfl)) (Ll bS b d e f g n o aH aI aJ aK aL aM (zf Z w [ob c,some b1]) _ cN cO cP cQ cR cS e8 f2)) ?_;rintro _ hP ⟨aD,⟨_,rfl,⟨dN,dO,dP,dQ,dR,dS,dT,dU,dV,dW,dX,dY,rfl,a2,a3,a4,a5,a9,bA⟩⟩⟩;have e9:=bU.ext aD;have a2:=a2.mv (bU.Bo (Nat.le_refl _));have a3:=a3.mv (bU.Bo (Nat.le_refl _));have a4:=a4.mv (bU.Bo (Nat.le_refl _));have a5:=a5.mv (bU.Bo (Nat.le_refl _));have a9:=a9.mv (bU.Bo (Nat.le_refl _));have bA:=bA.mv (bU.Bo (Nat.le_refl _));refine wm rfl (v:=.slice aA j.length aB) rfl ?_;have c2:=(((bR.mv (Ab aC)).mv (aY.Bf aN 0 rfl)).mv (Ab aD));replace a:=bind_some a;obtain⟨m,f3,a⟩:=a;refine we rfl (fun st=>Az VG (ee st rfl) (DH (ee st rfl) (ee st rfl)) (a32 bS e8 j dN dO dP dQ dR dS dT dU dV dW dX dY aA aB (zf Z w [ob c,some b1]) _ a2 a3 a4 a5 a9 bA c2 m f3)) ?_;rintro _ hQ ⟨aO,⟨_,_,rfl,⟨u,x,rfl,bJ⟩,rfl⟩⟩;have bB:=e9.ext aO;have bJ:=bJ.mv (e9.Bo (Nat.le_refl _));refine wm rfl (v:=.tuple #[.slice u m.1.length x,I m.2]) rfl<|wd rfl (fun st=>BS (v:=.slice u m.1.length x) (ee st rfl) rfl)<|wd rfl (fun st=>BS (v:=I m.2) (ee st rfl) rfl)<|wa rfl (v:=.slice u m.1.length x) rfl<|wa rfl (v:=I m.2) rfl<|Aj<|Ad<|Ai<|Ae ?_;have c3:=((dF.ext aD).ext aO);refine wd rfl (fun st=>AW (l:=[.slice d b.Af.length e,.slice f b.Aa.length g,.slice n b.Ag.length o,I b.Flat,.slice aH b.Ao.length aI,.slice aJ b.Am.length aK,.slice aL b.Ak.length aM]) Ct (ee st rfl) c3 rfl rfl) ?_;have c5:=((cN.mv (Ab aD)).mv (Ab aO));have c6:=((cO.mv (Ab aD)).mv (Ab aO));have c7:=((cP.mv (Ab aD)).mv (Ab aO));have c8:=((cQ.mv (Ab aD)).mv (Ab aO));have c9:=((cR.mv (Ab aD)).mv (Ab aO));have dA:=((cS.mv (Ab aD)).mv (Ab aO));replace a:=bind_some a;obtain⟨fA,f4,a⟩:=a;refine we rfl (fun st=>Az GY (ee st rfl) (C2 (ee st rfl)) (Ll bS b d e f g n o aH aI aJ aK aL aM (zf Z w [ob c,some b1]) _ c5 c6 c7 c8 c9 dA fA f4)) ?_;rintro _ hR ⟨bV,⟨_,rfl,⟨dZ,d0,d1,d2,d3,d4,d5,d6,d7,d8,d9,eA,rfl,bC,bD,bE,bF,bG,bH⟩⟩⟩;have eN:=bB.ext bV;have bC:=bC.mv (bB.Bo (Nat.le_refl _));have bD:=bD.mv (bB.Bo (Nat.le_refl _));have bE:=bE.mv (bB.Bo (Nat.le_refl _));have bF:=bF.mv (bB.Bo (Nat.le_refl _));have bG:=bG.mv (bB.Bo (Nat.le_refl _));have bH:=bH.mv (bB.Bo (Nat.le_refl _));refine wm rfl (v:=.slice c ((q.set (aS%(j.length:Int)).toNat (min t.Hi (r+(z%4)))).length) s) f1 ?_;have eB:=(((fZ.ext aD (Ab aD)).ext aO (Ab aO)).ext bV (Ab bV));have eO:=eN.erase 0;have eP:=eN.T1 0 rfl eB;have b4:=(bC.mv (Aw 0));have b5:=(bD.mv (Aw 0));have b6:=(bE.mv (Aw 0));have b7:=(bF.mv (Aw 0));have b8:=(bG.mv (Aw 0));have b9:=(bH.mv (Aw 0));replace a:=bind_some a;obtain⟨y,f5,a⟩:=a;refine we rfl (fun st=>Az VG (ee st rfl) (DH (ee st rfl) (ee st rfl)) (a32 bS fA (q.set (aS%(j.length:Int)).toNat (min t.Hi (r+(z%4)))) dZ d0 d1 d2 d3 d4 d5 d6 d7 d8 d9 eA c s (zf Z w [some b1]) _ b4 b5 b6 b7 b8 b9 eP y f5)) ?_;rintro _ hS ⟨dB,⟨_,_,rfl,⟨aE,aF,rfl,bK⟩,rfl⟩⟩;have f6:=eO.ext dB;have bK:=bK.mv (eO.Bo (Nat.le_refl _));refine wm rfl (v:=.tuple #[.slice aE y.1.length aF,I y.2]) rfl<|wd rfl (fun st=>BS (v:=.slice aE y.1.length aF) (ee st rfl) rfl)<|wd rfl (fun st=>BS (v:=I y.2) (ee st rfl) rfl)<|wa rfl (v:=.slice aE y.1.length aF) rfl<|wa rfl (v:=I y.2) rfl<|Aj<|Ad<|Ai<|Ai<|Ae<|wm rfl (v:=I m.2) rfl<|wd rfl (fun st=>D6 (ee st rfl) (ee st rfl))<|wm rfl (v:=.bool (m.2 !=0)) rfl ?_;rcases As (m.2 !=0) with bL|bL
  ·replace a:=AG a bL;exact absurd (oi a) (by decide)
  ·replace a:=AH a bL;refine Ax rfl rfl (Ah rfl bL) rfl (by decide) (fun st=>Ay (v:=I y.2) (ee st rfl))<|Ax rfl rfl (Ah rfl bL) rfl (by decide) (fun st=>D6 (ee st rfl) (ee st rfl))<|wd rfl (fun st=>BN (v:=.bool (y.2 !=0)) (ee st rfl) bL (ee st rfl))<|wm rfl (v:=.bool (y.2 !=0)) rfl ?_;rcases As (y.2 !=0) with aG|aG
   ·replace a:=AG a aG;exact absurd (oi a) (by decide)
   ·replace a:=AH a aG;refine Ax rfl rfl (Ah rfl aG) rfl (by decide) (fun st=>Ay (v:=.slice u m.1.length x) (ee st rfl))<|Ax rfl rfl (Ah rfl aG) rfl (by decide) (fun st=>BD Tryz.underlying31 (ee st rfl))<|Ax rfl rfl (Ah rfl aG) rfl (by decide) (fun st=>Ap (ee st rfl) (El _ _))<|Ax rfl rfl (Ah rfl aG) rfl (by decide) (fun st=>Ap (ee st rfl) (Ev _ _)) ?_;have eQ:=((c3.ext bV).ext dB);refine Ax rfl rfl (Ah rfl aG) rfl (by decide) (fun st=>AL (v:=.slice f b.Aa.length g) EB (ee st rfl) eQ rfl)<|Ax rfl rfl (Ah rfl aG) rfl (by decide) (fun st=>BD Tryz.underlying23 (ee st rfl))<|Ax rfl rfl (Ah rfl aG) rfl (by decide) (fun st=>D6 (ee st rfl) (ee st rfl))<|wd rfl (fun st=>BN (v:=.bool ((m.1.length:Int) !=(b.Aa.length:Int))) (ee st rfl) aG (ee st rfl))<|wm rfl (v:=.bool ((m.1.length:Int) !=(b.Aa.length:Int))) rfl ?_;rcases As ((m.1.length:Int) !=(b.Aa.length:Int)) with aR|aR
    ·replace a:=AG a aR;exact absurd (oi a) (by decide)
    ·replace a:=AH a aR;refine Ax rfl rfl (Ah rfl aR) rfl (by decide) (fun st=>Ay (v:=.slice aE y.1.length aF) (ee st rfl))<|Ax rfl rfl (Ah rfl aR) rfl (by decide) (fun st=>BD Tryz.underlying31 (ee st rfl))<|Ax rfl rfl (Ah rfl aR) rfl (by decide) (fun st=>Ay (v:=.slice u m.1.length x) (ee st rfl))<|Ax rfl rfl (Ah rfl aR) rfl (by decide) (fun st=>BD Tryz.underlying31 (ee st rfl))<|Ax rfl rfl (Ah rfl aR) rfl (by decide) (fun st=>D6 (ee st rfl) (ee st rfl))<|wd rfl (fun st=>BN (v:=.bool ((y.1.length:Int) !=(m.1.length:Int))) (ee st rfl) aR (ee st rfl))<|Aj<|Ad ?_;rcases As ((y.1.length:Int) !=(m.1.length:Int)) with cV|cV
     ·replace a:=AG a cV;exact absurd (oi a) (by decide)
     ·replace a:=AH a cV;refine AK rfl cV<|AQ<|Ad<|Ai<|Ai<|Ae<|wa rfl (v:=I 0) rfl<|Aj<|Ad<|Bc ?_;replace a:=bind_some a;obtain⟨eR,bM,a⟩:=a;refine Cx (fun f7 aU eC=>(f7=.ret∧∃bN,eR=.inl bN∧aU.tmps.size=108∧aU.defers=(X0).ds∧sl aU 8=.bool bN∧Hp FN [] w [some b1] eC)∨(f7=.exit 0∧∃bN,eR=.inr bN∧aU.tmps.size=108∧aU.defers=(X0).ds∧Hp FN [] w [some b1] eC)) ?f8 ?f9
      case f8=>
       clear a;refine Cw (fun(gA:Nat) (aU:Act) (eC:World)=>∃p,G6 m y gA p=some eR∧aU.tmps.size=108∧aU.defers=(X0).ds∧sl aU 12=.slice u m.1.length x∧sl aU 14=.slice aE y.1.length aF∧sl aU 16=I p∧Hp FN [] w [some b1] eC∧Sl (AF .i64) eC (zf Z w [some b1]) u x m.1∧Sl (AF .i64) eC (zf Z w [some b1]) aE aF y.1) bS ?gB ?gC
       case gB=>
        intro st;have cW:=(((bJ.mv (Ab bV)).mv (Aw 0)).mv (Ab dB));exact⟨(0:Int),bM,qz st,qd st,sp st 12 rfl,sp st 14 rfl,sp st 16 rfl,f6,cW,bK⟩
       case gC=>
        rintro(_|gA) hD hE ⟨p,bM,e1,e2,bO,cT,aW,eS,aZ,a0⟩
        ·exact absurd (show none=some _ from bM) (by simp)
        rw[G6.eq_2] at bM;have a:=bM;clear bM;refine Cl (N:=108) e1 e2<|Ai<|Ai<|Ae<|wm rfl (v:=I p) aW<|wm rfl (v:=.slice u m.1.length x) bO<|wd rfl (fun st=>BD Tryz.underlying31 (ee st rfl))<|wd rfl (fun st=>CY (ee st rfl) (ee st rfl))<|Aj<|Ad ?_;rcases As (decide (p<(m.1.length:Int))) with bW|bW
        ·replace a:=AG a bW;refine AJ rfl bW<|AQ<|Ad<|Ai<|Bc<|Ai ?_;replace a:=Bi a;obtain⟨i47,fB,gD,gE,gF,a⟩:=a;obtain⟨g0,g1,_,gG,rfl,gH⟩:=Sl.Dd a0 rfl gE;replace a:=Bi a;obtain⟨i48,fC,gI,gJ,gK,a⟩:=a;obtain⟨g2,g3,_,gL,rfl,gM⟩:=Sl.Dd aZ rfl gJ;refine Cm 8 [Kc (.slice aE y.1.length aF),Kc (I p),Kc (pt g0 (g1+i47)),Kc (I fB),Kc (.slice u m.1.length x),Kc (I p),Kc (pt g2 (g3+i48)),Kc (I fC)] mixed rfl rfl
             (Ac (od rfl (fun _=>rfl) (fun K=>Ay (es ((K.out 14 rfl).trans cT))))
             (Ac (od rfl (fun _=>rfl) (fun K=>Ay (es ((K.out 16 rfl).trans aW))))
             (Ac (od rfl (fun _=>rfl) (fun K=>Bj (k:=i47) Tryz.underlying31 DY (es (K.Ar 0 98 rfl rfl)) gG (es (K.Ar 1 99 rfl rfl)) gD gF))
             (Ac (od rfl (fun _=>rfl) (fun K=>Bu BK (es (K.Ar 2 100 rfl rfl)) (gH.mv (Ab K.AV)) rfl))
             (Ac (od rfl (fun _=>rfl) (fun K=>Ay (es ((K.out 12 rfl).trans bO))))
             (Ac (od rfl (fun _=>rfl) (fun K=>Ay (es ((K.out 16 rfl).trans aW))))
             (Ac (od rfl (fun _=>rfl) (fun K=>Bj (k:=i48) Tryz.underlying31 DY (es (K.Ar 4 102 rfl rfl)) gL (es (K.Ar 5 103 rfl rfl)) gI gK))
             (Ac (od rfl (fun _=>rfl) (fun K=>Bu BK (es (K.Ar 6 104 rfl rfl)) (gM.mv (Ab K.AV)) rfl))
             (Ck _))))))))) ?_
         intro hT;rintro _ rfl _ rfl _ rfl _ rfl _ rfl _ rfl _ rfl _ rfl dC;have eT:=eS.ext dC;refine wd rfl (fun st=>CY (ee st rfl) (ee st rfl))<|Aj<|Ad ?_;rcases As (decide (fB<fC)) with bX|bX
         ·replace a:=AG a bX;refine AJ rfl bX<|Ai<|Ae<|wa rfl (v:=.bool false) rfl<|Aj<|Ad<|AM<|Bv<|AE<|AE ?_;obtain rfl:=oi a;refine Cf (fun st=>?_);exact .inl ⟨rfl,false,rfl,qz st,qd st,sp st 8 rfl,eT⟩
         ·replace a:=AH a bX;refine AK rfl bX<|AQ<|BE<|Ad<|Ae<|wm rfl (v:=I p) aW ?_;replace a:=AP a;obtain⟨gN,a⟩:=a;refine wd rfl (fun st=>Ce (ee st rfl) (ee st rfl) gN)<|wa rfl (v:=I (p+1)) rfl<|Aj ?_;have cX:=(aZ.mv (Ab dC));have cY:=(a0.mv (Ab dC));refine BI gA (Nat.lt_succ_self _) (fun st=>?_);exact⟨(p+1),a,qz st,qd st,sp st 12 bO,sp st 14 cT,sp st 16 rfl,eT,cX,cY⟩
        ·replace a:=AH a bW;refine AK rfl bW<|Cp<|AI<|AI ?_;obtain rfl:=oi a;refine Cf (fun st=>?_);exact .inr ⟨rfl,(),rfl,qz st,qd st,eS⟩
      case f9=>
       rintro f7 g7 hF (⟨rfl,bN,rfl,bY,bZ,eD,cZ⟩|⟨rfl,bN,rfl,bY,bZ,cZ⟩)
       ·skip
        replace a:=Et a;refine Cy (X:=X0) (N:=108) bY bZ<|Bv<|AE ?_;have c0:=oi a;refine AN rfl eD ?_;exact⟨cZ.Bq,congrArg Value.bool c0⟩
       ·skip
        replace a:=Eu a;refine Cy (X:=X0) (N:=108) bY bZ<|By<|Ad<|Ai<|Ae ?_;replace a:=Cu a;obtain⟨gO,a⟩:=a;refine we rfl (fun st=>Az EY (ee st rfl) GK (a37 bS ZA _ gO)) ?_;rintro _ hU ⟨gP,rfl⟩;have gQ:=cZ.ext gP;refine wa rfl (v:=.bool true) rfl<|Aj<|Ad<|AM ?_;have c0:=oi a;refine AN rfl rfl ?_;exact⟨gQ.Bq,congrArg Value.bool c0⟩
end Go.Proofs.YtbhofkcbfblijaaGreat
end
section
namespace Go.Proofs.YtbhofkcbfblijaaGreat
open Go.RowKit Go.ChangeShapes Go.WideShapes Go.ChangeAt
theorem WA(t:Aq)(n k d:Int)(h1:Ik .u16 n)(h2:Ik .u8 k)(a:Ik .u8 d):∃K,KH K t n k d=some true:=VV t n k d (by have:=SO h1;omega) (by have:=SO h1;omega) (by have:=PO h2;omega) (by have:=PO h2;omega) (by have:=PO a;omega) (by have:=PO a;omega)
set_option maxRecDepth 100000 in
theorem UZ(os:Os)(started:os.Started)(H:Type)(enc:TypeId×Value→H):
  ReturnsInHanded {} Tryz.checked os 8 .any (Rows.tradeStrongerSpec.pre6 enc Tryz.prog Tryz.f8 Rows.tradeStrongerRow.domain false) (Rows.tradeStrongerSpec.post enc Tryz.prog Tryz.f8 false true false false):=by
 refine returnsInHanded_of_change_sized (C:=Tryz.checked) Re started (by kernel_rfl) Tryz.func8
  (ChangeSpec.witness6 (enc:=enc) (C:=Tryz.checked) false ⟨#[], #[.agg #[.slice none 0 0,.slice none 0 0,.slice none 0 0,.int .i64 0,.slice none 0 0,.slice none 0 0,.slice none 0 0],.int .u16 0,.int .u8 0,.int .u8 0],[]⟩ 8 (by kernel_rfl) (by kernel_rfl) (by kernel_rfl) (by kernel_rfl)) ?_
 intro W base args ds gs before d aE aQ aF _;have a:∀(j:Nat) t v,Tryz.f8.params[j]?=some t→args[j]?=some v→Value.okWide Tryz.prog W .any base t v:=d;have b:=aE;obtain⟨p,q,aG,aR,rfl,a0,a2⟩:=aE;have f:DataW.TrodAll enc Tryz.prog W 0 (fun _=>true) true Tryz.f8.params.toList args.toList ds p:=aG;obtain⟨rfl,rfl⟩:=trodVars_none aR;simp only[List.append_nil] at b;have aH:∀x∈p,x.block<W.heap.size:=fun x hx=>by simpa using b.lt x hx
 have aI:=f;have c:(DataW.weightsEach Tryz.prog (Tryz.f8.params.toList++[]) (ds++[])).all (· ≤reachBytes)=true:=aF;rw[Tryz.params8] at f a c;obtain⟨v0,v1,v2,v3,d0,d1,d2,d3,aS,aT,aU,aV,rfl,rfl,rfl,h0,h1,h2,aW⟩:=trodAll_four f;obtain⟨aJ,a3,aK,⟨g,h,i,k,l,m,n,o,r,s,u,w,rfl,y,z,aA,aB,aC,aD⟩,w0⟩:=Nl Tryz.underlying67 OX (a 0 67 v0 rfl rfl) h0 (Li (j:=0) c rfl rfl);obtain⟨x1,aL,w1⟩:=KE Tryz.underlying27 (a 1 27 v1 rfl rfl) h1;obtain⟨x2,aM,w2⟩:=KE Tryz.underlying5 (a 2 5 v2 rfl rfl) h2;obtain⟨aN,aO,aX⟩:=KE Tryz.underlying5 (a 3 5 v3 rfl rfl) aW;subst aK;subst aL;subst aM;subst aO;obtain⟨K,aY⟩:=WA aJ x1 x2 aN w1 w2 aX;refine(LO (a8 K aJ x1 x2 aN g h i k l m n o r s u w ZA W y z aA aB aC aD aY)).mono fun e W' ⟨v,he,hx,aZ⟩=>?_;subst he;subst aZ;exact⟨_,rfl,Kf (pa:=(aS++aT++aU++aV)) (pv:=[]) b (fun _ _ _=>trodAll_mk1 (shut_bool Tryz.underlying4 _)) (fun sp hs=>LN P0 P1 (by rw[Tryz.params8];decide) aI hx aH sp (fun x aP=>hs x (by simpa using aP))) (fun _ _=>rfl) (by simp) hx (ok_one (by kernel_rfl) rfl (okWide_bool_mk Tryz.underlying4 _))⟩
theorem Qh:((Rows.tradeStrongerRow.inPlace==Tryz.checked.prog.inPlace 8)&&(Rows.tradeStrongerRow.unfollowed==Tryz.checked.prog.unfollowed 8)&&(Rows.tradeStrongerRow.recurses==Tryz.checked.prog.recurses 8)&&(Rows.tradeStrongerRow.named==Tryz.checked.prog.varsNamed 8))=true:=by kernel_rfl
theorem Va:joinedFacts Tryz.checked.prog 8 Tryz.f8 Rows.tradeStrongerSpec Rows.tradeStrongerRow=true:=by
 unfold joinedFacts;exact(Bn (Bn (Bn (Bn (Bn (Bn (Bn (Bn (Bn (Bn (Bn (Bn (Bn (Bn (Bn (Bn (Bn (Bn (Bn (Bn (Bn (Bn (Bn (Bn (Bn (Bn (Bn (Bn (Bn (Bn (Bn (by kernel_rfl) OY) OZ) (by kernel_rfl)) (by kernel_rfl)) (by kernel_rfl)) NL) (by kernel_rfl)) NM) (FJ (FJ (FJ Qh)))) (Iw (FJ (FJ Qh)))) (Iw (FJ Qh))) (Iw Qh)) (by kernel_rfl)) (by kernel_rfl)) (by kernel_rfl)) (by kernel_rfl)) (by kernel_rfl)) (by kernel_rfl)) (by kernel_rfl)) (by kernel_rfl)) (by kernel_rfl)) O0) (by kernel_rfl)) NN) (FJ (FJ Ht))) (Iw (FJ Ht))) (Iw Ht)) (by kernel_rfl)) (by kernel_rfl)) (by kernel_rfl)) (by kernel_rfl))
theorem tradeStronger_holds:Rows.TradeStrongerSaid:=
 OpenClaim.holds_of_wide 8 Tryz.f8 rfl rfl rfl rfl rfl rfl rfl ⟨rfl,rfl,rfl,rfl,rfl⟩ rfl rfl rfl rfl rfl (by kernel_rfl) Tryz.func8 Va
  (of_decide_eq_true (by kernel_rfl)) (by unfold Func.isWrapper;rw[if_neg (by decide+kernel)];exact⟨rfl,rfl⟩)
  (fun os started H enc _=>UZ os started H enc)
end Go.Proofs.YtbhofkcbfblijaaGreat
end
