import Derived.Test.YtbhofkcbfblijaaGreatETradeTruth
import Derived.Test.YtbhofkcbfblijaaGreatRows
/-
  Proved: the law TradeTruth returns true for every argument that the row hands over, and leaves every argument as it was; no condition beside the row's own.
-/
set_option linter.all false
section
namespace Go.Proofs.YtbhofkcbfblijaaGreat
open Go.RowKit Go.WideShapes
def F2(g:Nat)(c:Ah)(d:(List Int)×Int)(f:(List Bl)×Int):Nat→Int→Int→Option ((Bool)⊕(Int))
 |0,_,_=>none
 |k+1,b,a=>cond (decide (a<(d.1.length:Int))) ((idx d.1 a).bind fun h=>(idx f.1 a).bind fun i=>(Lh g h i).bind fun j=>cond (!j) (some (.inl false)) ((Ef g c a).bind fun e=>(i64 (c.Flat*e)).bind fun _=>(i64 (b+(c.Flat*e))).bind fun _=>(i64 (a+1)).bind fun _=>F2 g c d f k (b+(c.Flat*e)) (a+1))) (some (.inr b))
def Fi(h:Nat)(e:Ah)(g:(List Int)×Int)(c:(List Int)):Nat→Int→Int→Option (Int)
 |0,_,_=>none
 |k+1,b,a=>cond (decide (a<(c.length:Int))) ((idx c a).bind fun i=>(idx g.1 i).bind fun f=>(idx c a).bind fun j=>(Ef h e j).bind fun d=>(i64 (e.Flat*d)).bind fun _=>(i64 (f-(e.Flat*d))).bind fun _=>(i64 (b+(f-(e.Flat*d)))).bind fun _=>(i64 (a+1)).bind fun _=>Fi h e g c k (b+(f-(e.Flat*d))) (a+1)) (some (b))
def Iw(a:Nat)(c:Ah)(aA:Int)(aB:List Int)(aC:Int):Option (Bool):=
 (CY a c).bind fun aD=>cond (!aD) ((Es (BF a=some true)).bind fun _=>some (true)) ((K6 a c aA aB).bind fun b=>(CD a b.1).bind fun k=>(Cr a b.2).bind fun l=>(LC a k l).bind fun d=>(CD a b.1).bind fun m=>(Cr a b.2).bind fun n=>(LI a m n).bind fun g=>cond (d.2 !=0) (some (false)) (cond ((d.1.length:Int) !=(c.Ab.length:Int)) (some (false)) ((HT a (⟨c.Ag,c.Ab,c.Ak⟩:AO)).bind fun o=>(Cr a b.2).bind fun p=>(HC a o p).bind fun q=>cond (g !=q) (some (false)) (cond (!g) ((Es (BF a=some true)).bind fun _=>some (true)) ((CD a b.1).bind fun r=>(Hm a r).bind fun f=>(Em a b.1 aC).bind fun h=>(CD a b.1).bind fun s=>(Cr a h).bind fun t=>(F7 a s t).bind fun i=>(CD a b.1).bind fun u=>(JA a u).bind fun j=>(CD a b.1).bind fun v=>(Jz a v).bind fun w=>cond (f.2 !=0) (some (false)) (cond (i.2 !=0) (some (false)) (cond (j.2 !=0) (some (false)) (cond ((j.1.length:Int) !=0) (some (false)) (cond (w.2 !=7) (some (false)) (cond ((f.1.length:Int) !=(d.1.length:Int)) (some (false)) ((F2 a c d f a (0:Int) (0:Int)).bind fun z=>Sum.elim (fun e=>some (e)) (fun e=>(Fi a c d h a e (0:Int)).bind fun x=>(Lh a x i.1).bind fun y=>cond (y) ((Es (BF a=some true)).bind fun _=>some (true)) (some (false))) z)))))))))))
end Go.Proofs.YtbhofkcbfblijaaGreat
end
section
namespace Go.Proofs.YtbhofkcbfblijaaGreat
theorem WA(p:Nat→Bool)(f:Nat→Int):∀n,(((List.range n).filter p).map f).sum=C4 (fun k=>if p k=true then f k else 0) n
 |0=>rfl
 |n+1=>by
  rw[List.range_succ,List.filter_append,List.map_append,List.sum_append,WA p f n,C4]
  congr 1
  rw[List.filter_cons];cases p n<;>simp
theorem AbM(s:Nat)(f:Nat→Int):((BE s).map fun x=>f x.toNat).sum=C4 (fun k=>if s.testBit k=true then f k else 0) 8:=by
 unfold BE;rw[List.map_map];have:((fun x:Int=>f x.toNat)∘fun x:Nat=>(x:Int))=f:=by funext x;simp
 rw[this];exact WA _ _ _
theorem Vb{f:Nat→Int}{n:Nat}(h:∀k,n≤k→f k=0):∀d,C4 f (n+d)=C4 f n
 |0=>rfl
 |d+1=>by rw[←Nat.add_assoc,C4,Vb h d,h _ (by omega)];omega
theorem WB(f g:Nat→Int):∀n,C4 f n+C4 g n=C4 (fun k=>f k+g k) n
 |0=>rfl
 |n+1=>by rw[C4,C4,C4,←WB f g n];omega
theorem AbN {t:Ah} (a:OkT t) {s:Nat} (hs:s<2^t.Ab.length) (l:List Int):
  C4 (fun k=>(t.Ab.getD k []).sum*t.Flat) t.Ab.length+((BE s).map fun x=>(AB t l).getD x.toNat 0-(t.Ab.getD x.toNat []).sum*t.Flat).sum=DW t (BE s) l:=by
 have c:=a.kl;have e:=AbM s fun k=>(AB t l).getD k 0-(t.Ab.getD k []).sum*t.Flat;rw[e];obtain⟨d,b⟩:∃d,8=t.Ab.length+d:=⟨8-t.Ab.length,by omega⟩;rw[b,Vb (fun k hk=>by rw[if_neg];intro g;have:=SW hs g;omega),WB];unfold DW;refine H3 _ fun k hk=>?_;unfold Ec;rw[KM (by omega)];cases s.testBit k<;>simp<;>omega
theorem AbO{n:Nat}{p:List Int→Bool}(h:p []=true):Nd n p []:=by
 have e:BE 0=[]:=by decide
 exact⟨⟨0,Nat.two_pow_pos n,e⟩,h,fun s _ _=>by unfold sh;cases BE s<;>rfl⟩
section
variable{K:Nat}(hK:1000≤K)
include hK
theorem Vc{ws:List Int}(hw:∀x∈ws,0≤x∧x<65536){i:Int}(hi:0≤i):∃x:Nat,x<65536∧F1 K ws i=some (x:Int):=by
 unfold F1
 by_cases h0:ws.length=0
 ·exact⟨0,by omega,by rw[ct (F9 (by omega))];rfl⟩
 ·obtain⟨q,hq⟩:∃q:Nat,i%(ws.length:Int)=(q:Int):=⟨(i%(ws.length:Int)).toNat,by have:=Int.emod_nonneg i (by omega:(ws.length:Int)≠0);omega⟩;have a:q<ws.length:=by have:=Int.emod_lt_of_pos i (by omega:(0:Int)<ws.length);omega
  have b:=hw _ (List.getElem_mem a);refine⟨ws[q].toNat,by omega,?_⟩;rw[cf (IU (by omega)),LF hi (by omega),hq,B5 a,Rm b.1 b.2,Int.toNat_of_nonneg b.1]
theorem Aed{t:Ah}(e:OkT t){n:Int}(hn:0≤n)(s:n<65536){ws:List Int}(hw:∀x∈ws,0≤x∧x<65536):∃(a:List Int) (ns:List Cu),Eu t.Ag a=true∧K6 K t n ws=some (Dp t ns,a)∧ns.length≤5∧∀x∈ns,Kb t x=true∧EB (AB t a) x=true:=by
 have aC:=e.hl;have aD:=e.kl;have aA:Ez K ⟨t.Ag,t.Ab,t.Ak⟩=some (Gt t.Ag):=Kp hK (c:=t.C) e.c;have aB:1≤Gt t.Ag:=NC hK (c:=t.C) e.c;have hm:=e.many;have u:=Int.emod_nonneg n (by omega:Gt t.Ag≠0);have aE:=Int.emod_lt_of_pos n (by omega:0<Gt t.Ag);have v:FM K ⟨t.Ag,t.Ab,t.Ak⟩ (n%Gt t.Ag)=some (HK t.Ag (n%Gt t.Ag)):=Po hK (c:=t.C) (by show t.Ag.length≤100;omega) e.c.ok (by omega);have j:Eu t.Ag (HK t.Ag (n%Gt t.Ag))=true:=AaB e.c.ok u;generalize HK t.Ag (n%Gt t.Ag)=a at v j;obtain⟨w0,aF,g0⟩:=Vc hK hw (i:=0) (by omega);have aG:=Int.emod_nonneg (w0:Int) (by omega:(6:Int)≠0);have aH:=Int.emod_lt_of_pos (w0:Int) (by omega:(0:Int)<6);have l:∀(d m i:Nat) (acc:List Cu),6=i+d→d<m→acc.length≤i→acc.length≤5→(∀x∈acc,Kb t x=true∧EB (AB t a) x=true)→
   ∃ns,G8 K t ws a m (i:Int) acc=some ns∧ns.length≤5∧∀x∈ns,Kb t x=true∧EB (AB t a) x=true:=by
  intro d
  induction d with
  |zero=>
   intro m i acc h hm ha f b;obtain⟨m,rfl⟩:∃r,m=r+1:=⟨m-1,by omega⟩;exact⟨acc,by rw[G8.eq_2,bd g0,LF (by omega) (by omega),cf (df (by omega))],f,b⟩
  |succ d ih=>
   intro m i acc h hm ha f b;obtain⟨m,rfl⟩:∃r,m=r+1:=⟨m-1,by omega⟩;rw[G8.eq_2,bd g0,LF (by omega) (by omega)]
   by_cases hi:(i:Int)<(w0:Int)%6
   ·rw[ct (dt hi)]
    by_cases aJ:0<t.Ab.length
    ·obtain⟨w,aI,g⟩:=Vc hK hw (i:=((i+1:Nat):Int)) (by omega);obtain⟨q,hq,o⟩:∃q:Nat,(w:Int)%(t.Ab.length:Int)=(q:Int)∧q<t.Ab.length:=by
      have h1:=Int.emod_nonneg (w:Int) (by omega:(t.Ab.length:Int)≠0);have h2:=Int.emod_lt_of_pos (w:Int) (by omega:(0:Int)<t.Ab.length);exact⟨((w:Int)%(t.Ab.length:Int)).toNat,by omega,by omega⟩
     have y:=Ld hK e j o;have p:q<(AB t a).length:=by rw[DC];exact o
     have hb:=e.RX a _ (List.getElem_mem p);have d1:=Int.ediv_nonneg (show(0:Int)≤(w:Int) by omega) (by omega:(0:Int)≤8);have d2:=Int.ediv_nonneg (show(0:Int)≤(w:Int) by omega) (by omega:(0:Int)≤512);have aK:=Int.emod_nonneg ((w:Int)/8) (by omega:(40:Int)≠0);have aL:=Int.emod_lt_of_pos ((w:Int)/8) (by omega:(0:Int)<40);have aM:=Int.emod_nonneg ((w:Int)/512) (by omega:(40:Int)≠0);have aN:=Int.emod_lt_of_pos ((w:Int)/512) (by omega:(0:Int)<40);have aO:(w:Int)/8≤w:=Int.ediv_le_self _ (by omega);have aP:(w:Int)/512≤w:=Int.ediv_le_self _ (by omega);rw[ct (dt (by omega)),Br (by omega) (by omega),CP i,bd g,LF (by omega) (by omega),hq,bd y,Vw (by omega) (by omega),Br (by omega) (by omega),LF (by omega) (by omega),Br (by omega) (by omega),Vw (by omega) (by omega),Br (by omega) (by omega),LF (by omega) (by omega),Br (by omega) (by omega),DG (by simp;omega),Br (by omega) (by omega)];refine ih m (i+1) _ (by omega) (by omega) (by simp;omega) (by simp;omega) fun x k=>?_;rcases List.mem_append.1 k with k|k
     ·exact b x k
     ·rw[List.mem_singleton.1 k];constructor
      ·unfold Kb;rw[Bool.and_eq_true];exact⟨Ei.2 ⟨by simp only;omega,by simp only;omega⟩,Vx.2 ⟨by simp only;omega,by simp only;omega,by simp only;omega⟩⟩
      ·unfold EB;rw[Int.toNat_natCast,Cl _ p,Ei];exact⟨by simp only;omega,by simp only;omega⟩
    ·exact⟨acc,by rw[cf (df (by omega))],f,b⟩
   ·exact⟨acc,by rw[cf (df hi)],f,b⟩
 obtain⟨ns,g1,g2,g3⟩:=l 6 K 0 [] (by omega) (by omega) (by simp) (by simp) (by simp);refine⟨a,ns,j,?_,g2,g3⟩;unfold K6;have z:G8 K t ws a K 0 []=some ns:=g1;rw[Rm hn s,bd aA,LF hn aB,bd v,bd z];rfl
theorem Um(ha:BF K=some true)(t:Ah)(n:Int)(hn:0≤n)(a3:n<65536)(ws:List Int)(hw:∀x∈ws,0≤x∧x<65536)(b:Int)(hb:0≤b)(bP:b<256):Iw K t n ws b=some true:=by
 unfold Iw;rcases M4 hK t with h|⟨h,g,hr⟩
 ·rw[bd h,nf,DG ha]
 have hlen:=Gn h;have bQ:=g.hl;have bR:=g.kl;obtain⟨a,ns,aK,bE,a4,aL⟩:=Aed hK g hn a3 hw;have j:OkT (Dp t ns):=Sc g a4 fun x l=>(aL x l).1;have l:Eh (Dp t ns)=true:=ZN h (by omega);have bS:a.length≤3:=by have:=KS aK;omega
 have aM:AB (Dp t ns) a=AB t a:=rfl;have a5:(Dp t ns).C=t.C:=rfl;have y:CK (AB (Dp t ns) a) [] 0 (Dp t ns).Ar=true:=(He _ _).2 fun x l=>(aL x l).2;have aN:CL (Dp t ns) a=Dr t.C a:=by unfold CL;rw[y,Bool.and_true];rfl
 have p:CD K (Dp t ns)=some (Dp t ns):=It hK _ j.len;have aT:HT K ⟨t.Ag,t.Ab,t.Ak⟩=some t.C:=XA hK t.C hlen.1;have a7:HC K t.C a=some (Dr t.C a):=Qj hK g.c (by omega);have a8:=DC t a;rw[bd hr,nt,bd bE];show(CD K (Dp t ns)).bind _=_;rw[bd p];show(Cr K a).bind _=_;rw[bd (J5 hK a (by omega)),bd (AbK hK l j aK)];show(CD K (Dp t ns)).bind _=_;rw[bd p];show(Cr K a).bind _=_;rw[bd (J5 hK a (by omega)),bd (WG hK l (by omega)),dt j.fault,Bool.true_and,aN,cf (EW rfl),cf (EW (by rw[aM,a8])),bd aT];show(Cr K a).bind _=_;rw[bd (J5 hK a (by omega)),bd a7,cf (X3 _)];cases a9:Dr t.C a with
 |false=>rw[nf,DG ha]
 |true=>
  have aA:a∈BR t.C:=(Gd g.c).2 a9;have aJ:De (Dp t ns)=0:=by
   rcases Aeb j with h1|h1
   ·exact h1.1
   ·rw[a5] at h1;rw[h1.2] at aA;cases aA
  have u:G9 (Dp t ns) []=true:=by unfold G9;rw[List.any_eq_true];exact⟨a,aA,y⟩
  have v:BY (Dp t ns)=0:=by rw[AaE j aJ,if_pos u]
  have aO:a∈Bf (Dp t ns):=(D0 j).2 (by rw[aN,a9]);obtain⟨b',rfl⟩:∃b':Nat,b=b':=⟨b.toNat,by omega⟩;have w:=RG b' t.Ab.length;have aC:Em K (Dp t ns) (b':Int)=some (BE (b'&&&(2^t.Ab.length-1))):=S8 hK j (by omega);generalize b'&&&(2^t.Ab.length-1)=s at w aC;have bT:=Js s;obtain⟨B,bF,_,bG⟩:=QS hK l;have bA:=bG v;have bU:B.length=t.Ab.length:=bA.len;obtain⟨r,bH,_,bI⟩:=NY hK l (BB:=BE s) (by omega);have aP:EG (Dp t ns) (BE s)=0:=by rw[KZ (t:=Dp t ns) (O2 w),v]
  have bJ:=bI aP;obtain⟨o,bK,_,bL⟩:=V1 hK l;have bM:o=[]:=(bL aJ).uniq (AbO u);subst bM;obtain⟨f,e,f1,_,f3⟩:=V2 hK l;have bB:e=7:=by
   rcases f3 aJ with⟨i,_,_,hi⟩|⟨h1,_⟩
   ·have ON:Gv (Dp t ns) (Dp t ns).Ar.length=true:=by
     unfold Gv;rw[List.take_length];exact u
    have:=Hy (show i+1≤(Dp t ns).Ar.length from hi.lt) ON;rw[hi.not] at this;cases this
   ·exact h1
  subst bB;rw[nt];show(CD K (Dp t ns)).bind _=_;rw[bd p,bd bF];show(Em K (Dp t ns) (b':Int)).bind _=_;rw[bd aC];show(CD K (Dp t ns)).bind _=_;rw[bd p,bd (J5 hK _ (by omega)),bd bH];show(CD K (Dp t ns)).bind _=_;rw[bd p,bd bK];show(CD K (Dp t ns)).bind _=_;rw[bd p,bd f1,v,aP,aJ,cf (EW rfl),cf (EW rfl),cf (EW rfl),lz1,cf (EW rfl),cf (EW (show(B.length:Int)=((AB (Dp t ns) a).length:Int) by rw[aM];omega))];have aD:∀k,k<t.Ab.length→0≤(t.Ab.getD k []).sum*t.Flat∧(t.Ab.getD k []).sum*t.Flat≤9000:=fun k hk=>KN g k hk;have aU:∀(d m i:Nat),(AB t a).length=i+d→d<m→F2 K t (AB t a,0) (B,0) m (C4 (fun k=>(t.Ab.getD k []).sum*t.Flat) i) (i:Int)=some (.inr (C4 (fun k=>(t.Ab.getD k []).sum*t.Flat) t.Ab.length)):=by
   intro d
   induction d with
   |zero=>
    intro m i aV hm;obtain⟨m,rfl⟩:∃aB,m=aB+1:=⟨m-1,by omega⟩;obtain rfl:i=t.Ab.length:=by omega
    rw[F2.eq_2,cf (df (show¬(t.Ab.length:Int)<((AB t a).length:Int) by omega))]
   |succ d ih=>
    intro m i aV hm;obtain⟨m,rfl⟩:∃aB,m=aB+1:=⟨m-1,by omega⟩;have hi:i<t.Ab.length:=by omega
    have aQ:i<(AB t a).length:=by omega
    have aR:i<B.length:=by omega
    have bW:=Hu (f:=fun k=>(t.Ab.getD k []).sum*t.Flat) (b:=9000) i fun k hk=>aD k (by omega);have bN:=aD i hi;have aW:t.Flat*t.Ab[i].sum=(t.Ab.getD i []).sum*t.Flat:=by rw[Cl _ hi,Int.mul_comm]
    have bC:=(bA.is i aR).all a aO;have aE:B[i].Lo≤(AB t a)[i]∧(AB t a)[i]≤B[i].Hi:=by
     have e:(AB (Dp t ns) a).getD i 0=(AB t a)[i]:=Cl _ aQ;have aF:B[i].Lo≤(AB (Dp t ns) a).getD i 0∧(AB (Dp t ns) a).getD i 0≤B[i].Hi:=bC;rw[e] at aF;exact aF
    have:=ih m (i+1) (by omega) (by omega);rw[C4] at this;rw[F2.eq_2,ct (dt (show(i:Int)<((AB t a).length:Int) by omega))];show(idx (AB t a) (i:Int)).bind _=_;rw[B5 aQ];show(idx B (i:Int)).bind _=_;rw[B5 aR];unfold Lh;rw[ct (dt aE.1),Option.bind_some,dt aE.2,nt,bd (MW hK g hi),aW,Br (by omega) (by omega),Br (by omega) (by omega),Br (by omega) (by omega),CP i,this]
  have bD:=aU (AB t a).length K 0 (by omega) (by omega);have aX:F2 K t (AB (Dp t ns) a,0) (B,0) K 0 0=_:=bD;have aY:∀x∈BE s,0≤x∧x<(t.Ab.length:Int):=KT (O2 w);have bX:=Hu (f:=fun k=>(t.Ab.getD k []).sum*t.Flat) (b:=9000) t.Ab.length fun k hk=>aD k hk;have aZ:∀(d m i:Nat) (z:Int),(BE s).length=i+d→d<m→-10000*(i:Int)≤z∧z≤27000+10000*(i:Int)→Fi K t (AB t a,0) (BE s) m z (i:Int)=some (z+(((BE s).drop i).map fun x=>(AB t a).getD x.toNat 0-(t.Ab.getD x.toNat []).sum*t.Flat).sum):=by
   intro d
   induction d with
   |zero=>
    intro m i z aV hm bO;obtain⟨m,rfl⟩:∃aB,m=aB+1:=⟨m-1,by omega⟩;rw[Fi.eq_2,cf (df (by omega)),List.drop_eq_nil_of_le (by omega)];simp
   |succ d ih=>
    intro m i z aV hm bO;obtain⟨m,rfl⟩:∃aB,m=aB+1:=⟨m-1,by omega⟩;have hi:i<(BE s).length:=by omega
    have hb:=aY _ (List.getElem_mem hi);obtain⟨q,hq⟩:∃q:Nat,(BE s)[i]=(q:Int):=⟨(BE s)[i].toNat,by omega⟩;have aG:q<t.Ab.length:=by omega
    have aH:q<(AB t a).length:=by omega
    have bN:=aD q aG;have aW:t.Flat*t.Ab[q].sum=(t.Ab.getD q []).sum*t.Flat:=by rw[Cl _ aG,Int.mul_comm]
    have bV:=g.RX a _ (List.getElem_mem aH);rw[Fi.eq_2,ct (dt (by omega)),B5 hi,hq];show(idx (AB t a) (q:Int)).bind _=_;rw[B5 aH,B5 hi,hq,bd (MW hK g aG),aW,Br (by omega) (by omega),Br (by omega) (by omega),Br (by omega) (by omega),Br (by omega) (by omega),CP i,ih m (i+1) _ (by omega) (by omega) (by omega),List.drop_eq_getElem_cons hi,List.map_cons,List.sum_cons,hq,Int.toNat_natCast,Cl (0:Int) aH]
    congr 1;omega
  have aS:=aZ (BE s).length K 0 (C4 (fun k=>(t.Ab.getD k []).sum*t.Flat) t.Ab.length) (by omega) (by omega) (by omega);rw[Int.natCast_zero,List.drop_zero,AbN g w] at aS;have a0:Fi K t (AB (Dp t ns) a,0) (BE s) K (C4 (fun k=>(t.Ab.getD k []).sum*t.Flat) t.Ab.length) 0=_:=aS;have aI:=bJ.all a aO;have a2:DW (Dp t ns) (BE s) a=DW t (BE s) a:=rfl;rw[a2] at aI;rw[bd aX];show(Fi K t (AB (Dp t ns) a,0) (BE s) K (C4 (fun k=>(t.Ab.getD k []).sum*t.Flat) t.Ab.length) 0).bind _=_;rw[bd a0];unfold Lh;rw[ct (dt aI.1),Option.bind_some,dt aI.2,ct rfl,DG ha]
end
theorem Vd(t:Ah)(n:Int)(hn:0≤n)(a:n<65536)(ws:List Int)(hw:∀x∈ws,0≤x∧x<65536)(b:Int)(hb:0≤b)(c:b<256):∃K,Iw K t n ws b=some true:=⟨1000,Um (Nat.le_refl _) L2 t n hn a ws hw b hb c⟩
end Go.Proofs.YtbhofkcbfblijaaGreat
end
section
namespace Go.Proofs.YtbhofkcbfblijaaGreat
open Go.RowKit Go.WideShapes
set_option maxRecDepth 20000
open HF
attribute [local irreducible] Dm WL CC CW LV B7 Ih GL One Bg
set_option maxHeartbeats 4000000 in
theorem a16 aS c m4 l9 m5 z aA x y aB aC aH aI aJ aK aL aM hJ hL(Z:Nat→Prop) w(m6:Sl Az w Z z aA c.Ag)(m7:Sl (Bs (Ao .i64)) w Z x y c.Ab)(m8:Sl AH w Z aB aC c.Ak)(m9:Sl Ba w Z aH aI c.AJ)(nA:Sl Bc w Z aJ aK c.Aw)(nB:Sl Bp w Z aL aM c.Ar)(nC:Sl (Ao .u16) w Z hJ hL l9)(a:Iw aS c m4 l9 m5=some true):
 B7 Tryz.prog 16 #[.agg (Ai z aA x y aB aC aH aI aJ aK aL aM c).toArray,.int .u16 m4,.slice hJ l9.length hL,.int .u8 m5] w (fun v w'=>Ext w w'∧v=.bool true):=by
 unfold Iw at a;refine rq (N:=184) Tryz.func16 fun rI ha rJ=>?_;have n0:=sA 0 ha;have n1:=sA 1 ha;have n2:=sA 2 ha;have n3:=sA 3 ha;clear ha;have nH:Hp FN [] w [] w:=Hp.start (BL.none w);have ⟨jM,jN,jO,jP,jQ,jR,jS⟩:=Ea m6 m7 m8 m9 nA nB nC (Bd (Z:=Z) (L:=[]) w);refine cr<|wE (fun st=>BP (v:=.agg (Ai z aA x y aB aC aH aI aJ aK aL aM c).toArray) (cs:=(Ai z aA x y aB aC aH aI aJ aK aL aM c).toArray) (ee st n0) rfl) ?_;rintro _ w1 ⟨b1,rfl,gR⟩;have qN:=nH.nb gR;have q7:=nH.BU gR;refine wA (v:=.bool false) rfl<|wn<|Af<|cr<|wD (fun st=>AK (l:=(Ai z aA x y aB aC aH aI aJ aK aL aM c)) Cc (eR st) gR.bk rfl rfl) ?_;have ⟨gS,gT,gU,gV,gW,gX⟩:=Cp jM jN jO jP jQ jR (AA gR);replace a:=bind_some a;obtain⟨nD,qO,a⟩:=a;refine wE (fun st=>Aj QT (eR st) (Cy (eR st)) (X7 aS c z aA x y aB aC aH aI aJ aK aL aM ZA _ gS.all gT.all gU.all gV.all gW.all gX.all nD qO)) ?_;rintro _ sG ⟨jG,rfl⟩;have mA:=qN.ext jG;refine wD (fun st=>CJ (eR st))<|wn ?_;rcases Ae (!nD) with fL|fL
 ·replace a:=Ap a fL;have q8:nD=false:=by simpa using fL
  refine Am rfl fL<|Af<|Al ?_;replace a:=Ci a;obtain⟨qP,a⟩:=a;refine wE (fun st=>Aj EZ (eR st) Gj (a37 aS ZA _ qP)) ?_;rintro _ sH ⟨qQ,rfl⟩;have qR:=mA.ext qQ;refine wA (v:=.bool true) rfl<|wn<|Av<|AG ?_;have fM:=oi a;refine Ay rfl rfl ?_;exact⟨qR.AS,congrArg Value.bool fM⟩
 ·replace a:=Aq a fL;have q9:nD=true:=by simpa using fL
  refine An rfl fL<|cn<|Af<|Al ?_;have jH:=(gR.bk.ext jG);refine wD (fun st=>AK (l:=(Ai z aA x y aB aC aH aI aJ aK aL aM c)) Cc (eR st) jH rfl rfl)<|wM (v:=.int .u16 m4) n1<|wM (v:=.slice hJ l9.length hL) n2 ?_;have ⟨gY,gZ,g0,g1,g2,g3⟩:=Cp gS gT gU gV gW gX (Ac jG);have jT:=((jS.mv (AA gR)).mv (Ac jG));replace a:=bind_some a;obtain⟨aU,qS,a⟩:=a;refine wE (fun st=>Aj Ae7 (eR st) (Dx (eR st) (eR st) (eR st)) (a78 aS c m4 l9 z aA x y aB aC aH aI aJ aK aL aM hJ hL (zf Z w [some b1]) _ gY gZ g0 g1 g2 g3 jT aU qS)) ?_;rintro _ rK ⟨jI,⟨_,_,rfl,⟨_,rfl,⟨e,f,g,i,j,m,o,p,q,r,s,u,rfl,eB,eC,eD,eE,eF,eG⟩⟩,⟨aX,aY,rfl,fN⟩⟩⟩;have nI:=mA.ext jI;have ⟨eB,eC,eD,eE,eF,eG,fN⟩:=Ea eB eC eD eE eF eG fN (mA.CQ (Nat.le_refl _));refine wM (v:=.tuple #[.agg (Ai e f g i j m o p q r s u aU.1).toArray,.slice aX aU.2.length aY]) rfl<|wD (fun st=>Bz (v:=.agg (Ai e f g i j m o p q r s u aU.1).toArray) (eR st) rfl)<|wD (fun st=>Bz (v:=.slice aX aU.2.length aY) (eR st) rfl)<|wE (fun st=>CR (cs:= #[.slice none 0 0,.slice none 0 0,.slice none 0 0,I 0,.slice none 0 0,.slice none 0 0,.slice none 0 0]) V4 rfl) ?_;rintro _ rL ⟨b,rfl,bL⟩;have g4:=nI.nb bL;have qT:=nI.BU bL;refine Cs rfl rfl (fun st=>Ca (n:=7) (l:=(Ai e f g i j m o p q r s u aU.1)) (DO:=(Ai e f g i j m o p q r s u aU.1).toArray) (eR st) (eR st) ZP bL.bk rfl rfl (show 0+7≤7 by decide) (BJ rfl) rfl) ?_;rintro _ rM bM;have nJ:=g4.gr bM.gr 0 rfl;refine wA (v:=.slice aX aU.2.length aY) rfl<|wr<|wD (fun st=>AK (l:=(Ai e f g i j m o p q r s u aU.1)) Cc (eR st) bM.bk rfl rfl) ?_;have ⟨eW,eX,eY,eZ,e0,e1⟩:=Cp eB eC eD eE eF eG (mt (AA bL) (g4.Co bM.gr 0 rfl));replace a:=bind_some a;obtain⟨nK,n4,a⟩:=a;refine wE (fun st=>Aj Ic (eR st) (Cy (eR st)) (M5 aS aU.1 e f g i j m o p q r s u (zf Z w [some b,some b1]) _ eW eX eY eZ e0 e1 nK n4)) ?_;rintro _ rN ⟨b7,⟨_,rfl,⟨jU,jV,jW,jX,jY,jZ,j0,j1,j2,j3,j4,j5,rfl,b8,b9,cA,cB,cC,cD⟩⟩⟩;have nL:=nJ.ext b7;have ⟨b8,b9,cA,cB,cC,cD⟩:=Cp b8 b9 cA cB cC cD (nJ.CQ (Nat.le_refl _));refine wM (v:=.slice aX aU.2.length aY) rfl ?_;have fO:=(((fN.mv (AA bL)).mv (g4.Co bM.gr 0 rfl)).mv (Ac b7));replace a:=bind_some a;obtain⟨nM,n5,a⟩:=a;refine wE (fun st=>Aj J6 (eR st) (Cy (eR st)) (a51 aS aU.2 aX aY (zf Z w [some b,some b1]) _ fO nM n5)) ?_;rintro _ rO ⟨bN,⟨mB,mC,rfl,eH⟩⟩;have nN:=nL.ext bN;have eH:=eH.mv (nL.CQ (Nat.le_refl _));have ⟨hM,hN,hO,hP,hQ,hR⟩:=Cp b8 b9 cA cB cC cD (Ac bN);replace a:=bind_some a;obtain⟨aD,n6,a⟩:=a;refine wE (fun st=>Aj Aay (eR st) (CN (eR st) (eR st)) (a32 aS nK nM jU jV jW jX jY jZ j0 j1 j2 j3 j4 j5 mB mC (zf Z w [some b,some b1]) _ hM hN hO hP hQ hR eH aD n6)) ?_;rintro _ rP ⟨cE,⟨_,_,rfl,⟨aE,aF,rfl,eI⟩,rfl⟩⟩;have nO:=nN.ext cE;have eI:=eI.mv (nN.CQ (Nat.le_refl _));refine wM (v:=.tuple #[.slice aE aD.1.length aF,I aD.2]) rfl<|wD (fun st=>Bz (v:=.slice aE aD.1.length aF) (eR st) rfl)<|wD (fun st=>Bz (v:=I aD.2) (eR st) rfl)<|wA (v:=.slice aE aD.1.length aF) rfl<|wA (v:=I aD.2) rfl<|wn<|Af<|Al ?_;have iE:=(((bM.bk.ext b7).ext bN).ext cE);refine wD (fun st=>AK (l:=(Ai e f g i j m o p q r s u aU.1)) Cc (eR st) iE rfl rfl) ?_;have ⟨e2,e3,e4,e5,e6,e7⟩:=Cp eW eX eY eZ e0 e1 (mt (Ac b7) (mt (Ac bN) (Ac cE)));replace a:=bind_some a;obtain⟨nP,n7,a⟩:=a;refine wE (fun st=>Aj Ic (eR st) (Cy (eR st)) (M5 aS aU.1 e f g i j m o p q r s u (zf Z w [some b,some b1]) _ e2 e3 e4 e5 e6 e7 nP n7)) ?_;rintro _ rQ ⟨bO,⟨_,rfl,⟨j6,j7,j8,j9,kA,kB,kC,kD,kE,kF,kG,kH,rfl,cF,cG,cH,cI,cJ,cK⟩⟩⟩;have mD:=nO.ext bO;have ⟨cF,cG,cH,cI,cJ,cK⟩:=Cp cF cG cH cI cJ cK (nO.CQ (Nat.le_refl _));refine wM (v:=.slice aX aU.2.length aY) rfl ?_;have e8:=(((fO.mv (Ac bN)).mv (Ac cE)).mv (Ac bO));replace a:=bind_some a;obtain⟨nQ,n8,a⟩:=a;refine wE (fun st=>Aj J6 (eR st) (Cy (eR st)) (a51 aS aU.2 aX aY (zf Z w [some b,some b1]) _ e8 nQ n8)) ?_;rintro _ rR ⟨bG,⟨mE,mF,rfl,eJ⟩⟩;have n9:=mD.ext bG;have eJ:=eJ.mv (mD.CQ (Nat.le_refl _));have ⟨gA,gB,gC,gD,gE,gF⟩:=Cp cF cG cH cI cJ cK (Ac bG);replace a:=bind_some a;obtain⟨dI,oA,a⟩:=a;refine wE (fun st=>Aj Ae6 (eR st) (CN (eR st) (eR st)) (a74 aS nP nQ j6 j7 j8 j9 kA kB kC kD kE kF kG kH mE mF ZA _ gA.all gB.all gC.all gD.all gE.all gF.all eJ.all dI oA)) ?_;rintro _ rS ⟨bP,rfl⟩;have mG:=n9.ext bP;refine wA (v:=.bool dI) rfl<|wn<|Af<|cr<|wM (v:=I aD.2) rfl<|wD (fun st=>Db (eR st) (eR st))<|wM (v:=.bool (aD.2 !=0)) rfl ?_;rcases Ae (aD.2 !=0) with aZ|aZ
  ·replace a:=Ap a aZ;exact absurd (oi a) (by decide)
  ·replace a:=Aq a aZ;refine wN aZ (v:=.slice aE aD.1.length aF) rfl<|wG aZ (fun st=>Be Tryz.underlying31 (eR st))<|wG aZ (fun st=>Ad (eR st) (DQ _ _))<|wG aZ (fun st=>Ad (eR st) (DP _ _)) ?_;have fP:=(((((((((jH.ext jI).ext bL.gr).gr bM.gr (g4.nq 1 0)).ext b7).ext bN).ext cE).ext bO).ext bG).ext bP);refine wG aZ (fun st=>As (v:=.slice x c.Ab.length y) DH (eR st) fP rfl)<|wG aZ (fun st=>Be Tryz.underlying23 (eR st))<|wG aZ (fun st=>Db (eR st) (eR st))<|wD (fun st=>Bo (v:=.bool ((aD.1.length:Int) !=(c.Ab.length:Int))) (eR st) aZ (eR st))<|wM (v:=.bool ((aD.1.length:Int) !=(c.Ab.length:Int))) rfl ?_;rcases Ae ((aD.1.length:Int) !=(c.Ab.length:Int)) with aW|aW
   ·replace a:=Ap a aW;exact absurd (oi a) (by decide)
   ·replace a:=Aq a aW;refine wN aW (v:=.bool dI) rfl<|wG aW (fun st=>Ad (eR st) (DQ _ _))<|wG aW (fun st=>AK (l:=[.slice z c.Ag.length aA,.slice x c.Ab.length y,.slice aB c.Ak.length aC]) Dt (eR st) fP rfl rfl) ?_;have ⟨fQ,fR,fS⟩:=DU gY gZ g0 (mt (Ac jI) (mt (AA bL) (mt (g4.Co bM.gr 0 rfl) (mt (Ac b7) (mt (Ac bN) (mt (Ac cE) (mt (Ac bO) (mt (Ac bG) (Ac bP)))))))));replace a:=bind_some a;obtain⟨nR,oB,a⟩:=a;refine wX aW (fun st=>Aj Aax (eR st) (Cy (eR st)) (a27 aS (⟨c.Ag,c.Ab,c.Ak⟩:AO) z aA x y aB aC (zf Z w [some b,some b1]) _ fQ fR fS nR oB)) ?_;rintro _ rT ⟨bQ,⟨_,rfl,⟨kI,kJ,kK,kL,kM,kN,rfl,cL,cM,cN⟩⟩⟩;have mH:=mG.ext bQ;have ⟨cL,cM,cN⟩:=DU cL cM cN (mG.CQ (Nat.le_refl _));refine wG aW (fun st=>Au (v:=.slice aX aU.2.length aY) (eR st)) ?_;have iF:=(((e8.mv (Ac bG)).mv (Ac bP)).mv (Ac bQ));replace a:=bind_some a;obtain⟨nS,oC,a⟩:=a;refine wX aW (fun st=>Aj J6 (eR st) (Cy (eR st)) (a51 aS aU.2 aX aY (zf Z w [some b,some b1]) _ iF nS oC)) ?_;rintro _ rU ⟨bR,⟨mI,mJ,rfl,eK⟩⟩;have oF:=mH.ext bR;have eK:=eK.mv (mH.CQ (Nat.le_refl _));have ⟨gG,gH,gI⟩:=DU cL cM cN (Ac bR);replace a:=bind_some a;obtain⟨mK,oH,a⟩:=a;refine wX aW (fun st=>Aj XK (eR st) (CN (eR st) (eR st)) (a79 aS nR nS kI kJ kK kL kM kN mI mJ ZA _ gG.all gH.all gI.all eK.all mK oH)) ?_;rintro _ rV ⟨cO,rfl⟩;have iO:=oF.ext cO;refine wG aW (fun st=>Sa Py (eR st) (eR st))<|wD (fun st=>Bo (v:=.bool (dI !=mK)) (eR st) aW (eR st))<|wn ?_;rcases Ae (dI !=mK) with hS|hS
    ·replace a:=Ap a hS;exact absurd (oi a) (by decide)
    ·replace a:=Aq a hS;refine An rfl hS<|cn<|Af<|cr<|wM (v:=.bool dI) rfl<|wD (fun st=>CJ (eR st))<|wn ?_;rcases Ae (!dI) with cP|cP
     ·replace a:=Ap a cP;have qJ:dI=false:=by simpa using cP
      refine Am rfl cP<|Af<|Al ?_;replace a:=Ci a;obtain⟨oI,a⟩:=a;refine wE (fun st=>Aj EZ (eR st) Gj (a37 aS ZA _ oI)) ?_;rintro _ rW ⟨oJ,rfl⟩;have oK:=iO.ext oJ;refine wA (v:=.bool true) rfl<|wn<|Av<|AG ?_;have fM:=oi a;refine Ay rfl rfl ?_;exact⟨oK.AS,congrArg Value.bool fM⟩
     ·replace a:=Aq a cP;have qK:dI=true:=by simpa using cP
      refine An rfl cP<|cn<|Af<|Al ?_;have g5:=((((((iE.ext bO).ext bG).ext bP).ext bQ).ext bR).ext cO);refine wD (fun st=>AK (l:=(Ai e f g i j m o p q r s u aU.1)) Cc (eR st) g5 rfl rfl) ?_;have ⟨dJ,dK,dL,dM,dN,dO⟩:=Cp e2 e3 e4 e5 e6 e7 (mt (Ac bO) (mt (Ac bG) (mt (Ac bP) (mt (Ac bQ) (mt (Ac bR) (Ac cO))))));replace a:=bind_some a;obtain⟨nT,oL,a⟩:=a;refine wE (fun st=>Aj Ic (eR st) (Cy (eR st)) (M5 aS aU.1 e f g i j m o p q r s u (zf Z w [some b,some b1]) _ dJ dK dL dM dN dO nT oL)) ?_;rintro _ rX ⟨cQ,⟨_,rfl,⟨kP,kQ,kR,kS,kT,kU,kV,kW,kX,kY,kZ,k0,rfl,cR,cS,cT,cU,cV,cW⟩⟩⟩;have mL:=iO.ext cQ;have ⟨cR,cS,cT,cU,cV,cW⟩:=Cp cR cS cT cU cV cW (iO.CQ (Nat.le_refl _));replace a:=bind_some a;obtain⟨aV,oM,a⟩:=a;refine wE (fun st=>Aj U6 (eR st) (Cy (eR st)) (a33 aS nT kP kQ kR kS kT kU kV kW kX kY kZ k0 (zf Z w [some b,some b1]) _ cR cS cT cU cV cW aV oM)) ?_;rintro _ rY ⟨cX,⟨_,_,rfl,⟨a0,a2,rfl,eM⟩,rfl⟩⟩;have mM:=mL.ext cX;have eM:=eM.mv (mL.CQ (Nat.le_refl _));refine wM (v:=.tuple #[.slice a0 aV.1.length a2,I aV.2]) rfl<|wD (fun st=>Bz (v:=.slice a0 aV.1.length a2) (eR st) rfl)<|wD (fun st=>Bz (v:=I aV.2) (eR st) rfl)<|wA (v:=.slice a0 aV.1.length a2) rfl<|wA (v:=I aV.2) rfl<|wn<|Af<|Al ?_;have g6:=((g5.ext cQ).ext cX);refine wD (fun st=>AK (l:=(Ai e f g i j m o p q r s u aU.1)) Cc (eR st) g6 rfl rfl)<|wM (v:=.int .u8 m5) n3 ?_;have ⟨dP,dQ,dR,dS,dT,dU⟩:=Cp dJ dK dL dM dN dO (mt (Ac cQ) (Ac cX));replace a:=bind_some a;obtain⟨a3,oN,a⟩:=a;refine wE (fun st=>Aj Tc (eR st) (CN (eR st) (eR st)) (a49 aS aU.1 m5 e f g i j m o p q r s u (zf Z w [some b,some b1]) _ dP dQ dR dS dT dU a3 oN)) ?_;rintro _ rZ ⟨bS,⟨aP,aQ,rfl,eN⟩⟩;have mN:=mM.ext bS;have eN:=eN.mv (mM.CQ (Nat.le_refl _));refine wA (v:=.slice aP a3.length aQ) rfl<|wn<|Af<|Al ?_;have g7:=(g6.ext bS);refine wD (fun st=>AK (l:=(Ai e f g i j m o p q r s u aU.1)) Cc (eR st) g7 rfl rfl) ?_;have ⟨dV,dW,dX,dY,dZ,d0⟩:=Cp dP dQ dR dS dT dU (Ac bS);replace a:=bind_some a;obtain⟨nU,oO,a⟩:=a;refine wE (fun st=>Aj Ic (eR st) (Cy (eR st)) (M5 aS aU.1 e f g i j m o p q r s u (zf Z w [some b,some b1]) _ dV dW dX dY dZ d0 nU oO)) ?_;rintro _ r0 ⟨bH,⟨_,rfl,⟨k1,k2,k3,k4,k5,k6,k7,k8,k9,lA,lB,lC,rfl,cY,cZ,c0,c1,c2,c3⟩⟩⟩;have mO:=mN.ext bH;have ⟨cY,cZ,c0,c1,c2,c3⟩:=Cp cY cZ c0 c1 c2 c3 (mN.CQ (Nat.le_refl _));refine wM (v:=.slice aP a3.length aQ) rfl ?_;have d1:=(eN.mv (Ac bH));replace a:=bind_some a;obtain⟨nV,oP,a⟩:=a;refine wE (fun st=>Aj J6 (eR st) (Cy (eR st)) (a51 aS a3 aP aQ (zf Z w [some b,some b1]) _ d1 nV oP)) ?_;rintro _ r1 ⟨a8,⟨mP,mQ,rfl,eO⟩⟩;have oQ:=mO.ext a8;have eO:=eO.mv (mO.CQ (Nat.le_refl _));have ⟨gJ,gK,gL,gM,gN,gO⟩:=Cp cY cZ c0 c1 c2 c3 (Ac a8);replace a:=bind_some a;obtain⟨aN,oR,a⟩:=a;refine wE (fun st=>Aj QN (eR st) (CN (eR st) (eR st)) (XX aS nU nV k1 k2 k3 k4 k5 k6 k7 k8 k9 lA lB lC mP mQ ZA _ gJ.all gK.all gL.all gM.all gN.all gO.all eO.all aN oR)) ?_;rintro _ r2 ⟨bI,⟨_,_,rfl,⟨_,rfl,rfl⟩,rfl⟩⟩;have mR:=oQ.ext bI;refine wM (v:=.tuple #[.agg #[I aN.1.Lo,I aN.1.Hi],I aN.2]) rfl<|wD (fun st=>Bz (v:=.agg #[I aN.1.Lo,I aN.1.Hi]) (eR st) rfl)<|wD (fun st=>Bz (v:=I aN.2) (eR st) rfl)<|wE (fun st=>CR (cs:= #[I 0,I 0]) LP rfl) ?_;rintro _ r3 ⟨d,rfl,a4⟩;have bJ:=mR.nb a4;have qU:=mR.BU a4;refine Cs rfl rfl (fun st=>Ca (n:=2) (l:=[I aN.1.Lo,I aN.1.Hi]) (DO:= #[I aN.1.Lo,I aN.1.Hi]) (eR st) (eR st) IV a4.bk rfl rfl (show 0+2≤2 by decide) (BJ rfl) rfl) ?_;rintro _ r4 a9;have mS:=bJ.gr a9.gr 0 rfl;refine wA (v:=I aN.2) rfl<|wn<|Af<|Al ?_;have g8:=(((((g7.ext bH).ext a8).ext bI).ext a4.gr).gr a9.gr (bJ.nq 1 0));refine wD (fun st=>AK (l:=(Ai e f g i j m o p q r s u aU.1)) Cc (eR st) g8 rfl rfl) ?_;have ⟨d2,d3,d4,d5,d6,d7⟩:=Cp dV dW dX dY dZ d0 (mt (Ac bH) (mt (Ac a8) (mt (Ac bI) (mt (AA a4) (bJ.Co a9.gr 0 rfl)))));replace a:=bind_some a;obtain⟨nW,oW,a⟩:=a;refine wE (fun st=>Aj Ic (eR st) (Cy (eR st)) (M5 aS aU.1 e f g i j m o p q r s u (zf Z w [some d,some b,some b1]) _ d2 d3 d4 d5 d6 d7 nW oW)) ?_;rintro _ r5 ⟨bA,⟨_,rfl,⟨lD,lE,lF,lG,lH,lI,lJ,lK,lL,lM,lN,lO,rfl,c4,c5,c6,c7,c8,c9⟩⟩⟩;have mT:=mS.ext bA;have ⟨c4,c5,c6,c7,c8,c9⟩:=Cp c4 c5 c6 c7 c8 c9 (mS.CQ (Nat.le_refl _));replace a:=bind_some a;obtain⟨a5,oY,a⟩:=a;refine wE (fun st=>Aj XW (eR st) (Cy (eR st)) (a43 aS nW lD lE lF lG lH lI lJ lK lL lM lN lO (zf Z w [some d,some b,some b1]) _ c4 c5 c6 c7 c8 c9 a5 oY)) ?_;rintro _ r6 ⟨bB,⟨_,_,rfl,⟨d8,d9,rfl,g9⟩,rfl⟩⟩;have mU:=mT.ext bB;have g9:=g9.mv (mT.CQ (Nat.le_refl _));refine wM (v:=.tuple #[.slice d8 a5.1.length d9,I a5.2]) rfl<|wD (fun st=>Bz (v:=.slice d8 a5.1.length d9) (eR st) rfl)<|wD (fun st=>Bz (v:=I a5.2) (eR st) rfl)<|wA (v:=.slice d8 a5.1.length d9) rfl<|wA (v:=I a5.2) rfl<|wn<|Af<|Al ?_;have lP:=((g8.ext bA).ext bB);refine wD (fun st=>AK (l:=(Ai e f g i j m o p q r s u aU.1)) Cc (eR st) lP rfl rfl) ?_;have ⟨hT,hU,hV,hW,hX,hY⟩:=Cp d2 d3 d4 d5 d6 d7 (mt (Ac bA) (Ac bB));replace a:=bind_some a;obtain⟨nX,oZ,a⟩:=a;refine wE (fun st=>Aj Ic (eR st) (Cy (eR st)) (M5 aS aU.1 e f g i j m o p q r s u (zf Z w [some d,some b,some b1]) _ hT hU hV hW hX hY nX oZ)) ?_;rintro _ r7 ⟨bT,⟨_,rfl,⟨lQ,lR,lS,lT,lU,lV,lW,lX,lY,lZ,l0,l1,rfl,dA,dB,dC,dD,dE,dF⟩⟩⟩;have o0:=mU.ext bT;have ⟨dA,dB,dC,dD,dE,dF⟩:=Cp dA dB dC dD dE dF (mU.CQ (Nat.le_refl _));replace a:=bind_some a;obtain⟨bU,o1,a⟩:=a;refine wE (fun st=>Aj XV (eR st) (Cy (eR st)) (a42 aS nX lQ lR lS lT lU lV lW lX lY lZ l0 l1 ZA _ dA.all dB.all dC.all dD.all dE.all dF.all bU o1)) ?_;rintro _ r8 ⟨bV,⟨_,_,rfl,rfl,rfl⟩⟩;have o2:=o0.ext bV;refine wM (v:=.tuple #[I bU.1,I bU.2]) rfl<|wD (fun st=>Bz (v:=I bU.1) (eR st) rfl)<|wD (fun st=>Bz (v:=I bU.2) (eR st) rfl)<|wA (v:=I bU.1) rfl<|wA (v:=I bU.2) rfl<|wn<|Af<|cr<|wM (v:=I aV.2) rfl<|wD (fun st=>Db (eR st) (eR st))<|wM (v:=.bool (aV.2 !=0)) rfl ?_;rcases Ae (aV.2 !=0) with eP|eP
      ·replace a:=Ap a eP;exact absurd (oi a) (by decide)
      ·replace a:=Aq a eP;refine wN eP (v:=I aN.2) rfl<|wG eP (fun st=>Db (eR st) (eR st))<|wD (fun st=>Bo (v:=.bool (aN.2 !=0)) (eR st) eP (eR st))<|wM (v:=.bool (aN.2 !=0)) rfl ?_;rcases Ae (aN.2 !=0) with eQ|eQ
       ·replace a:=Ap a eQ;exact absurd (oi a) (by decide)
       ·replace a:=Aq a eQ;refine wN eQ (v:=I a5.2) rfl<|wG eQ (fun st=>Db (eR st) (eR st))<|wD (fun st=>Bo (v:=.bool (a5.2 !=0)) (eR st) eQ (eR st))<|wM (v:=.bool (a5.2 !=0)) rfl ?_;rcases Ae (a5.2 !=0) with dG|dG
        ·replace a:=Ap a dG;exact absurd (oi a) (by decide)
        ·replace a:=Aq a dG;refine wN dG (v:=.slice d8 a5.1.length d9) rfl<|wG dG (fun st=>Be Tryz.underlying31 (eR st))<|wG dG (fun st=>Db (eR st) (eR st))<|wD (fun st=>Bo (v:=.bool ((a5.1.length:Int) !=0)) (eR st) dG (eR st))<|wM (v:=.bool ((a5.1.length:Int) !=0)) rfl ?_;rcases Ae ((a5.1.length:Int) !=0) with eS|eS
         ·replace a:=Ap a eS;exact absurd (oi a) (by decide)
         ·replace a:=Aq a eS;refine wN eS (v:=I bU.2) rfl<|wG eS (fun st=>Db (eR st) (eR st))<|wD (fun st=>Bo (v:=.bool (bU.2 !=7)) (eR st) eS (eR st))<|wM (v:=.bool (bU.2 !=7)) rfl ?_;rcases Ae (bU.2 !=7) with bK|bK
          ·replace a:=Ap a bK;exact absurd (oi a) (by decide)
          ·replace a:=Aq a bK;refine wN bK (v:=.slice a0 aV.1.length a2) rfl<|wG bK (fun st=>Be Tryz.underlying55 (eR st))<|wN bK (v:=.slice aE aD.1.length aF) rfl<|wG bK (fun st=>Be Tryz.underlying31 (eR st))<|wG bK (fun st=>Db (eR st) (eR st))<|wD (fun st=>Bo (v:=.bool ((aV.1.length:Int) !=(aD.1.length:Int))) (eR st) bK (eR st))<|wn ?_;rcases Ae ((aV.1.length:Int) !=(aD.1.length:Int)) with hZ|hZ
           ·replace a:=Ap a hZ;exact absurd (oi a) (by decide)
           ·replace a:=Aq a hZ;refine An rfl hZ<|cn<|cr<|wA (v:=I 0) rfl<|wn<|Af<|cr<|wA (v:=I 0) rfl<|wn<|AI ?_;replace a:=bind_some a;obtain⟨mV,eT,a⟩:=a;refine BX (fun l2 aG aO=>(l2=.ret∧∃bW,mV=.inl bW∧Fo X0 184 aG∧sl aG 8=.bool bW∧Hp FN [] w [some d,some b,some b1] aO)∨(l2=.exit 0∧∃bW,mV=.inr bW∧Fo X0 184 aG∧sl aG 4=pt b1 0∧sl aG 11=.slice aE aD.1.length aF∧sl aG 16=.slice aP a3.length aQ∧sl aG 17=pt d 0∧sl aG 23=I bW∧Hp FN [] w [some d,some b,some b1] aO∧Bk aO b1 67 (Ai z aA x y aB aC aH aI aJ aK aL aM c).toArray∧Bk aO d 60 #[I aN.1.Lo,I aN.1.Hi]∧Sl Az aO (zf Z w [some d,some b,some b1]) z aA c.Ag∧Sl (Bs (Ao .i64)) aO (zf Z w [some d,some b,some b1]) x y c.Ab∧Sl AH aO (zf Z w [some d,some b,some b1]) aB aC c.Ak∧Sl Ba aO (zf Z w [some d,some b,some b1]) aH aI c.AJ∧Sl Bc aO (zf Z w [some d,some b,some b1]) aJ aK c.Aw∧Sl Bp aO (zf Z w [some d,some b,some b1]) aL aM c.Ar∧Sl (Ao .i64) aO (zf Z w [some d,some b,some b1]) aE aF aD.1∧Sl (Ao .i64) aO (zf Z w [some d,some b,some b1]) aP aQ a3)) ?o3 ?o4
            case o3=>
             clear a;refine BW (fun iP aG aO=>∃a7,∃aR,F2 aS c aD aV iP a7 aR=some mV∧Fo X0 184 aG∧sl aG 4=pt b1 0∧sl aG 11=.slice aE aD.1.length aF∧sl aG 14=.slice a0 aV.1.length a2∧sl aG 16=.slice aP a3.length aQ∧sl aG 17=pt d 0∧sl aG 23=I a7∧sl aG 24=I aR∧Hp FN [] w [some d,some b,some b1] aO∧Bk aO b1 67 (Ai z aA x y aB aC aH aI aJ aK aL aM c).toArray∧Bk aO d 60 #[I aN.1.Lo,I aN.1.Hi]∧Sl Az aO (zf Z w [some d,some b,some b1]) z aA c.Ag∧Sl (Bs (Ao .i64)) aO (zf Z w [some d,some b,some b1]) x y c.Ab∧Sl AH aO (zf Z w [some d,some b,some b1]) aB aC c.Ak∧Sl Ba aO (zf Z w [some d,some b,some b1]) aH aI c.AJ∧Sl Bc aO (zf Z w [some d,some b,some b1]) aJ aK c.Aw∧Sl Bp aO (zf Z w [some d,some b,some b1]) aL aM c.Ar∧Sl (Ao .i64) aO (zf Z w [some d,some b,some b1]) aE aF aD.1∧Sl Az aO (zf Z w [some d,some b,some b1]) a0 a2 aV.1∧Sl (Ao .i64) aO (zf Z w [some d,some b,some b1]) aP aQ a3) aS ?o5 ?o6
             case o5=>
              intro st;have mW:=(((((((((((((((fP.ext bQ).ext bR).ext cO).ext cQ).ext cX).ext bS).ext bH).ext a8).ext bI).ext a4.gr).gr a9.gr (bJ.nq 2 0)).ext bA).ext bB).ext bT).ext bV);have l3:=((((a9.bk.ext bA).ext bB).ext bT).ext bV);have ⟨iQ,iR,iS⟩:=DU fQ fR fS (mt (Ac bQ) (mt (Ac bR) (mt (Ac cO) (mt (Ac cQ) (mt (Ac cX) (mt (Ac bS) (mt (Ac bH) (mt (Ac a8) (mt (Ac bI) (mt (AA a4) (mt (bJ.Co a9.gr 0 rfl) (mt (Ac bA) (mt (Ac bB) (mt (Ac bT) (Ac bV)))))))))))))));have ⟨iT,iU,iV⟩:=DU g1 g2 g3 (mt (Ac jI) (mt (AA bL) (mt (g4.Co bM.gr 0 rfl) (mt (Ac b7) (mt (Ac bN) (mt (Ac cE) (mt (Ac bO) (mt (Ac bG) (mt (Ac bP) (mt (Ac bQ) (mt (Ac bR) (mt (Ac cO) (mt (Ac cQ) (mt (Ac cX) (mt (Ac bS) (mt (Ac bH) (mt (Ac a8) (mt (Ac bI) (mt (AA a4) (mt (bJ.Co a9.gr 0 rfl) (mt (Ac bA) (mt (Ac bB) (mt (Ac bT) (Ac bV))))))))))))))))))))))));have h3:=((((((((((((((((((eI.mv (Ac bO)).mv (Ac bG)).mv (Ac bP)).mv (Ac bQ)).mv (Ac bR)).mv (Ac cO)).mv (Ac cQ)).mv (Ac cX)).mv (Ac bS)).mv (Ac bH)).mv (Ac a8)).mv (Ac bI)).mv (AA a4)).mv (bJ.Co a9.gr 0 rfl)).mv (Ac bA)).mv (Ac bB)).mv (Ac bT)).mv (Ac bV));have h4:=((((((((((eM.mv (Ac bS)).mv (Ac bH)).mv (Ac a8)).mv (Ac bI)).mv (AA a4)).mv (bJ.Co a9.gr 0 rfl)).mv (Ac bA)).mv (Ac bB)).mv (Ac bT)).mv (Ac bV));have h6:=((((((((d1.mv (Ac a8)).mv (Ac bI)).mv (AA a4)).mv (bJ.Co a9.gr 0 rfl)).mv (Ac bA)).mv (Ac bB)).mv (Ac bT)).mv (Ac bV));exact⟨(0:Int),(0:Int),eT,qo st,sp st 4 rfl,sp st 11 rfl,sp st 14 rfl,sp st 16 rfl,sp st 17 rfl,sp st 23 rfl,sp st 24 rfl,o2,mW,l3,iQ,iR,iS,iT,iU,iV,h3,h4,h6⟩
             case o6=>
              rintro(_|iP) rC rD ⟨a7,aR,eT,nE,eA,bX,hA,hB,hC,hD,bE,mX,hE,fT,e9,fA,fB,fC,fD,fE,bC,b4,b5⟩
              ·exact absurd (show none=some _ from eT) (by simp)
              rw[F2.eq_2] at eT;have a:=eT;clear eT;refine ro nE<|Af<|cr<|wM (v:=I aR) bE<|wM (v:=.slice aE aD.1.length aF) bX<|wD (fun st=>Be Tryz.underlying31 (eR st))<|wD (fun st=>B9 (eR st) (eR st))<|wn ?_;rcases Ae (decide (aR<(aD.1.length:Int))) with fU|fU
              ·replace a:=Ap a fU;refine Am rfl fU<|cn<|Af<|AI<|Af<|Af ?_;replace a:=AP a;obtain⟨i70,nY,o7,o8,o9,a⟩:=a;obtain⟨qV,qW,_,pA,rfl,pB⟩:=Sl.Cz bC rfl o8;replace a:=AP a;obtain⟨i71,iG,pC,pD,pE,a⟩:=a;obtain⟨qX,qY,_,pF,rfl,pG⟩:=Sl.elem b4 (by decide) pD;refine BK 8 [Kc (.slice aE aD.1.length aF),Kc (I aR),Kc (pt qV (qW+i70)),Kc (I nY),Kc (.slice a0 aV.1.length a2),Kc (I aR),Kc (pt qX (qY+i71*2)),Kc (.agg #[I iG.Lo,I iG.Hi])] mixed rfl rfl
                   (Aa (oD (fun K=>Au (es ((K.out 11 rfl).trans bX))))
                   (Aa (oD (fun K=>Au (es ((K.out 24 rfl).trans bE))))
                   (Aa (oD (fun K=>AR (k:=i70) Tryz.underlying31 C7 (es (K.dq 0 135)) pA (es (K.dq 1 136)) o7 o9))
                   (Aa (oD (fun K=>Bb Bh (es (K.dq 2 137)) (pB.mv (Ac K.AD)) rfl))
                   (Aa (oD (fun K=>Au (es ((K.out 14 rfl).trans hA))))
                   (Aa (oD (fun K=>Au (es ((K.out 24 rfl).trans bE))))
                   (Aa (oD (fun K=>BD (k:=i71) Tryz.underlying55 IV (es (K.dq 4 139)) pF (es (K.dq 5 140)) pC pE))
                   (Aa (oD (fun K=>DF (l:=[I iG.Lo,I iG.Hi]) Ht (es (K.dq 6 141)) (pG.mv (Ac K.AD)) rfl rfl))
                   (BI _))))))))) ?_
               intro r9;rintro _ rfl _ rfl _ rfl _ rfl _ rfl _ rfl _ rfl _ rfl fV;have pH:=mX.ext fV;replace a:=bind_some a;obtain⟨jJ,pI,a⟩:=a;refine wE (fun st=>Aj AaF (eR st) (CN (eR st) (eR st)) (a80 aS nY iG ZA _ jJ pI)) ?_;rintro _ sB ⟨fW,rfl⟩;have mY:=pH.ext fW;refine wD (fun st=>CJ (eR st))<|wn ?_;rcases Ae (!jJ) with dH|dH
               ·replace a:=Ap a dH;have qL:jJ=false:=by simpa using dH
                refine Am rfl dH<|cr<|wA (v:=.bool false) rfl<|wn<|Av<|AG<|Dd<|AG ?_;obtain rfl:=oi a;refine BC (fun st=>?_);exact .inl ⟨rfl,false,rfl,qo st,sp st 8 rfl,mY⟩
               ·replace a:=Aq a dH;have qM:jJ=true:=by simpa using dH
                refine An rfl dH<|cn ?_;have fX:=((hE.ext fV).ext fW);have ⟨fY,fZ,f0,f1,f2,f3⟩:=Cp e9 fA fB fC fD fE (mt (Ac fV) (Ac fW));replace a:=bind_some a;obtain⟨iH,pJ,a⟩:=a;replace a:=AF a;obtain⟨pK,a⟩:=a;refine BK 7 [Kc (I a7),Kc (pt b1 3),Kc (I c.Flat),Kc (.agg (Ai z aA x y aB aC aH aI aJ aK aL aM c).toArray),Kc (I aR),Kc (I iH),Kc (I (c.Flat*iH))] mixed rfl rfl
                    (Aa (oD (fun K=>Au (es (t:=23) ((K.later 8 23 _ rfl rfl rfl).trans hD))))
                    (Aa (oD (fun K=>Ad (es ((K.out 4 rfl).trans eA)) (Pf _ _)))
                    (Aa (oD (fun K=>As Bh (es (K.dq 1 146)) (fX.ext K.AD) rfl))
                    (Aa (oD (fun K=>AK (l:=(Ai z aA x y aB aC aH aI aJ aK aL aM c)) Cc (es ((K.out 4 rfl).trans eA)) (fX.ext K.AD) rfl rfl))
                    (Aa (oD (fun K=>Au (es ((K.out 24 rfl).trans bE))))
                    (Aa (oE (fun K=>(Aj Nn rfl (CN (es (K.dq 3 148)) (es (K.dq 4 149))) (RE aS c aR z aA x y aB aC aH aI aJ aK aL aM ZA _ (fY.mv (Ac K.AD)).all (fZ.mv (Ac K.AD)).all (f0.mv (Ac K.AD)).all (f1.mv (Ac K.AD)).all (f2.mv (Ac K.AD)).all (f3.mv (Ac K.AD)).all iH pJ)).mono (fun _ _ h=>⟨h.2,h.1⟩)))
                    (Aa (oD (fun K=>N0 (es (K.dq 2 147)) (es (K.dq 5 150)) pK))
                    (BI _)))))))) ?_
                intro sC;rintro _ rfl _ rfl _ rfl _ rfl _ rfl _ rfl _ rfl f4;have pL:=mY.ext f4;replace a:=AF a;obtain⟨pM,a⟩:=a;refine wD (fun st=>BG (eR st) (eR st) pM)<|wA (v:=I (a7+(c.Flat*iH))) rfl<|AU<|CS<|Al<|wM (v:=I aR) bE ?_;replace a:=AF a;obtain⟨pN,a⟩:=a;refine wD (fun st=>BG (eR st) (eR st) pN)<|wA (v:=I (aR+1)) rfl<|AU ?_;have mZ:=(fX.ext f4);have l4:=(((fT.ext fV).ext fW).ext f4);have ⟨iW,iX,iY,iZ,i0,i1⟩:=Cp fY fZ f0 f1 f2 f3 (Ac f4);have ⟨h7,h8,h9⟩:=DU bC b4 b5 (mt (Ac fV) (mt (Ac fW) (Ac f4)));refine Bi iP (Nat.lt_succ_self _) (fun st=>?_);exact⟨(a7+(c.Flat*iH)),(aR+1),a,qo st,sp st 4 eA,sp st 11 bX,sp st 14 hA,sp st 16 hB,sp st 17 hC,sp st 23 rfl,sp st 24 rfl,pL,mZ,l4,iW,iX,iY,iZ,i0,i1,h7,h8,h9⟩
              ·replace a:=Aq a fU;refine An rfl fU<|Dq ?_;obtain rfl:=oi a;refine BC (fun st=>?_);exact .inr ⟨rfl,a7,rfl,qo st,sp st 4 eA,sp st 11 bX,sp st 16 hB,sp st 17 hC,sp st 23 hD,mX,hE,fT,e9,fA,fB,fC,fD,fE,bC,b5⟩
            case o4=>
             rintro l2 rA rE (⟨rfl,bW,rfl,f5,l5,iA⟩|⟨rfl,bW,rfl,f5,l6,i2,i3,i4,i5,iA,l7,i6,iI,iJ,iK,iL,iM,iN,gP,gQ⟩)
             ·skip
              replace a:=C9 a;refine lf f5<|Dd ?_;have fM:=oi a;refine Ay rfl l5 ?_;exact⟨iA.AS,congrArg Value.bool fM⟩
             ·skip
              replace a:=Da a;refine lf f5<|AZ<|BS<|Af<|cr<|wA (v:=I 0) rfl<|wn<|AI ?_;replace a:=bind_some a;obtain⟨jK,eU,a⟩:=a;refine BX (fun l2 aG aO=>(l2=.exit 2∧Fo X0 184 aG∧sl aG 17=pt d 0∧sl aG 23=I jK∧Hp FN [] w [some d,some b,some b1] aO∧Bk aO d 60 #[I aN.1.Lo,I aN.1.Hi])) ?pO ?pP
              case pO=>
               clear a;refine BW (fun iP aG aO=>∃bF,∃aT,Fi aS c aD a3 iP bF aT=some jK∧Fo X0 184 aG∧sl aG 4=pt b1 0∧sl aG 11=.slice aE aD.1.length aF∧sl aG 16=.slice aP a3.length aQ∧sl aG 17=pt d 0∧sl aG 23=I bF∧sl aG 25=I aT∧Hp FN [] w [some d,some b,some b1] aO∧Bk aO b1 67 (Ai z aA x y aB aC aH aI aJ aK aL aM c).toArray∧Bk aO d 60 #[I aN.1.Lo,I aN.1.Hi]∧Sl Az aO (zf Z w [some d,some b,some b1]) z aA c.Ag∧Sl (Bs (Ao .i64)) aO (zf Z w [some d,some b,some b1]) x y c.Ab∧Sl AH aO (zf Z w [some d,some b,some b1]) aB aC c.Ak∧Sl Ba aO (zf Z w [some d,some b,some b1]) aH aI c.AJ∧Sl Bc aO (zf Z w [some d,some b,some b1]) aJ aK c.Aw∧Sl Bp aO (zf Z w [some d,some b,some b1]) aL aM c.Ar∧Sl (Ao .i64) aO (zf Z w [some d,some b,some b1]) aE aF aD.1∧Sl (Ao .i64) aO (zf Z w [some d,some b,some b1]) aP aQ a3) aS ?pQ ?pR
               case pQ=>
                intro st;exact⟨bW,(0:Int),eU,qo st,sp st 4 l6,sp st 11 i2,sp st 16 i3,sp st 17 i4,sp st 23 i5,sp st 25 rfl,iA,l7,i6,iI,iJ,iK,iL,iM,iN,gP,gQ⟩
               case pR=>
                rintro(_|iP) rF rG ⟨bF,aT,eU,nF,f6,hF,bY,hG,hH,bZ,m0,eV,f7,fF,fG,fH,fI,fJ,fK,b6,bD⟩
                ·exact absurd (show none=some _ from eU) (by simp)
                rw[Fi.eq_2] at eU;have a:=eU;clear eU;refine ro nF<|Af<|cr<|wM (v:=I aT) bZ<|wM (v:=.slice aP a3.length aQ) bY<|wD (fun st=>Be Tryz.underlying31 (eR st))<|wD (fun st=>B9 (eR st) (eR st))<|wn ?_;rcases Ae (decide (aT<(a3.length:Int))) with f8|f8
                ·replace a:=Ap a f8;refine Am rfl f8<|cn<|Af<|AI ?_;replace a:=AP a;obtain⟨i85,qZ,pS,pT,pU,a⟩:=a;obtain⟨q0,q2,_,pV,rfl,pW⟩:=Sl.Cz bD rfl pT;replace a:=AP a;obtain⟨i86,jL,pX,pY,pZ,a⟩:=a;obtain⟨q3,q4,_,p0,rfl,p1⟩:=Sl.Cz b6 rfl pY;replace a:=AP a;obtain⟨i87,nZ,p2,p3,p4,a⟩:=a;obtain⟨q5,q6,_,p5,rfl,p6⟩:=Sl.Cz bD rfl p3;replace a:=bind_some a;obtain⟨hI,p7,a⟩:=a;replace a:=AF a;obtain⟨p8,a⟩:=a;replace a:=AF a;obtain⟨p9,a⟩:=a;refine BK 18 [Kc (I bF),Kc (.slice aE aD.1.length aF),Kc (.slice aP a3.length aQ),Kc (I aT),Kc (pt q0 (q2+i85)),Kc (I qZ),Kc (pt q3 (q4+i86)),Kc (I jL),Kc (pt b1 3),Kc (I c.Flat),Kc (.agg (Ai z aA x y aB aC aH aI aJ aK aL aM c).toArray),Kc (.slice aP a3.length aQ),Kc (I aT),Kc (pt q5 (q6+i87)),Kc (I nZ),Kc (I hI),Kc (I (c.Flat*hI)),Kc (I (jL-(c.Flat*hI)))] mixed rfl rfl
                     (Aa (oD (fun K=>Au (es (t:=23) ((K.later 19 23 _ rfl rfl rfl).trans hH))))
                     (Aa (oD (fun K=>Au (es ((K.out 11 rfl).trans hF))))
                     (Aa (oD (fun K=>Au (es ((K.out 16 rfl).trans bY))))
                     (Aa (oD (fun K=>Au (es ((K.out 25 rfl).trans bZ))))
                     (Aa (oD (fun K=>AR (k:=i85) Tryz.underlying31 C7 (es (K.dq 2 161)) pV (es (K.dq 3 162)) pS pU))
                     (Aa (oD (fun K=>Bb Bh (es (K.dq 4 163)) (pW.mv (Ac K.AD)) rfl))
                     (Aa (oD (fun K=>AR (k:=i86) Tryz.underlying31 C7 (es (K.dq 1 160)) p0 (es (K.dq 5 164)) pX pZ))
                     (Aa (oD (fun K=>Bb Bh (es (K.dq 6 165)) (p1.mv (Ac K.AD)) rfl))
                     (Aa (oD (fun K=>Ad (es ((K.out 4 rfl).trans f6)) (Pf _ _)))
                     (Aa (oD (fun K=>As Bh (es (K.dq 8 167)) (eV.ext K.AD) rfl))
                     (Aa (oD (fun K=>AK (l:=(Ai z aA x y aB aC aH aI aJ aK aL aM c)) Cc (es ((K.out 4 rfl).trans f6)) (eV.ext K.AD) rfl rfl))
                     (Aa (oD (fun K=>Au (es ((K.out 16 rfl).trans bY))))
                     (Aa (oD (fun K=>Au (es ((K.out 25 rfl).trans bZ))))
                     (Aa (oD (fun K=>AR (k:=i87) Tryz.underlying31 C7 (es (K.dq 11 170)) p5 (es (K.dq 12 171)) p2 p4))
                     (Aa (oD (fun K=>Bb Bh (es (K.dq 13 172)) (p6.mv (Ac K.AD)) rfl))
                     (Aa (oE (fun K=>(Aj Nn rfl (CN (es (K.dq 10 169)) (es (K.dq 14 173))) (RE aS c nZ z aA x y aB aC aH aI aJ aK aL aM ZA _ (fF.mv (Ac K.AD)).all (fG.mv (Ac K.AD)).all (fH.mv (Ac K.AD)).all (fI.mv (Ac K.AD)).all (fJ.mv (Ac K.AD)).all (fK.mv (Ac K.AD)).all hI p7)).mono (fun _ _ h=>⟨h.2,h.1⟩)))
                     (Aa (oD (fun K=>N0 (es (K.dq 9 168)) (es (K.dq 15 174)) p8))
                     (Aa (oD (fun K=>El (es (K.dq 7 166)) (es (K.dq 16 175)) p9))
                     (BI _))))))))))))))))))) ?_
                 intro sD;rintro _ rfl _ rfl _ rfl _ rfl _ rfl _ rfl _ rfl _ rfl _ rfl _ rfl _ rfl _ rfl _ rfl _ rfl _ rfl _ rfl _ rfl _ rfl iB;have qA:=m0.ext iB;replace a:=AF a;obtain⟨qB,a⟩:=a;refine wD (fun st=>BG (eR st) (eR st) qB)<|wA (v:=I (bF+(jL-(c.Flat*hI)))) rfl<|AU<|CS<|Al<|wM (v:=I aT) bZ ?_;replace a:=AF a;obtain⟨qC,a⟩:=a;refine wD (fun st=>BG (eR st) (eR st) qC)<|wA (v:=I (aT+1)) rfl<|AU ?_;have m1:=(eV.ext iB);have l8:=(f7.ext iB);have ⟨i7,i8,i9,jA,jB,jC,iC,iD⟩:=GN fF fG fH fI fJ fK b6 bD (Ac iB);refine Bi iP (Nat.lt_succ_self _) (fun st=>?_);exact⟨(bF+(jL-(c.Flat*hI))),(aT+1),a,qo st,sp st 4 f6,sp st 11 hF,sp st 16 bY,sp st 17 hG,sp st 23 rfl,sp st 25 rfl,qA,m1,l8,i7,i8,i9,jA,jB,jC,iC,iD⟩
                ·replace a:=Aq a f8;refine An rfl f8<|Dq ?_;obtain rfl:=oi a;refine BC (fun st=>?_);exact⟨rfl,qo st,sp st 17 hG,sp st 23 hH,m0,f7⟩
              case pP=>
               rintro l2 rB rH (⟨rfl,m2,jD,jE,nG,jF⟩);refine lf m2<|AZ<|BS<|cr<|wM (v:=I jK) jE<|wD (fun st=>AK (l:=[I aN.1.Lo,I aN.1.Hi]) Ht (ee st jD) jF rfl rfl) ?_;replace a:=bind_some a;obtain⟨m3,qD,a⟩:=a;refine wE (fun st=>Aj AaF (eR st) (CN (eR st) (eR st)) (a80 aS jK aN.1 ZA _ m3 qD)) ?_;rintro _ sE ⟨qE,rfl⟩;have qF:=nG.ext qE;refine wM (v:=.bool m3) rfl ?_;rcases Ae (m3) with f9|f9
               ·replace a:=Ap a f9;replace a:=Ci a;obtain⟨qG,a⟩:=a;refine wX f9 (fun st=>Aj EZ (eR st) Gj (a37 aS ZA _ qG)) ?_;rintro _ sF ⟨qH,rfl⟩;have qI:=qF.ext qH;refine wD (fun st=>AW (v:=.bool true) (eR st) f9 (eR st))<|wA (v:=.bool true) rfl<|wn<|Av ?_;have fM:=oi a;refine Ay rfl rfl ?_;exact⟨qI.AS,congrArg Value.bool fM⟩
               ·replace a:=Aq a f9;exact absurd (oi a) (by decide)
end Go.Proofs.YtbhofkcbfblijaaGreat
end
section
namespace Go.Proofs.YtbhofkcbfblijaaGreat
open Go.RowKit Go.ChangeShapes Go.WideShapes Go.ChangeAt
theorem V6(t:Ah)(n:Int)(ws:List Int)(b:Int)(h1:IH .u16 n)(a:(ws.length*2≤140737488351232∧∀y∈ws,IH .u16 y))(h2:IH .u8 b):∃K,Iw K t n ws b=some true:=Vd t n (by have:=Rn h1;omega) (by have:=Rn h1;omega) ws (fun x c=>by have:=Rn (a.2 x c);omega) b (by have:=T5 h2;omega) (by have:=T5 h2;omega)
set_option maxRecDepth 100000 in
theorem TH(os:Os)(started:os.Started)(H:Type)(enc:TypeId×Value→H):
  ReturnsInHanded {} Tryz.checked os 16 .any (Rows.tradeTruthSpec.pre6 enc Tryz.prog Tryz.f16 Rows.tradeTruthRow.domain false) (Rows.tradeTruthSpec.post enc Tryz.prog Tryz.f16 false true false false):=by
 refine returnsInHanded_of_change_sized (C:=Tryz.checked) R8 started (by kernel_rfl) Tryz.func16
  (ChangeSpec.witness6 (enc:=enc) (C:=Tryz.checked) false ⟨#[], #[.agg #[.slice none 0 0,.slice none 0 0,.slice none 0 0,.int .i64 0,.slice none 0 0,.slice none 0 0,.slice none 0 0],.int .u16 0,.slice none 0 0,.int .u8 0],[]⟩ 8 (by kernel_rfl) (by kernel_rfl) (by kernel_rfl) (by kernel_rfl)) ?_
 intro W base args ds gs before f aG aS aH _;have a:∀(j:Nat) t v,Tryz.f16.params[j]?=some t→args[j]?=some v→Value.okWide Tryz.prog W .any base t v:=f;have d:=aG;obtain⟨p,q,aI,aT,rfl,a5,a7⟩:=aG;have h:DataW.TrodAll enc Tryz.prog W 0 (fun _=>true) true Tryz.f16.params.toList args.toList ds p:=aI;obtain⟨rfl,rfl⟩:=trodVars_none aT;simp only[List.append_nil] at d;have aJ:∀x∈p,x.block<W.heap.size:=fun x g=>by simpa using d.lt x g
 have aK:=h;have c:(DataW.weightsEach Tryz.prog (Tryz.f16.params.toList++[]) (ds++[])).all (· ≤reachBytes)=true:=aH;rw[Tryz.params16] at h a c;obtain⟨v0,v1,v2,v3,d0,d1,d2,d3,aU,aV,aW,aX,rfl,rfl,rfl,h0,h1,h2,aY⟩:=trodAll_four h;obtain⟨aL,a8,aM,⟨i,k,l,m,n,o,r,s,u,w,y,z,rfl,aA,aB,aC,aD,aE,aF⟩,w0⟩:=OD Tryz.underlying67 Ps (a 0 67 v0 rfl rfl) h0 (LQ (j:=0) c rfl rfl);obtain⟨x1,aN,w1⟩:=MG Tryz.underlying27 (a 1 27 v1 rfl rfl) h1;obtain⟨x2,aZ,a0,aO,s2,w2⟩:=Pz Tryz.underlying113 (KX (b:=2) Tryz.underlying113 (by kernel_rfl) (by decide) (Lf Tryz.underlying27) (by kernel_rfl)) (a 2 113 v2 rfl rfl) h2 (LQ (j:=2) c rfl rfl);obtain⟨aP,aQ,a2⟩:=MG Tryz.underlying5 (a 3 5 v3 rfl rfl) aY;subst aM;subst aN;subst aO;subst aQ;obtain⟨K,a3⟩:=V6 aL x1 x2 aP w1 w2 a2;refine(MR (a16 K aL x1 x2 aP i k l m n o r s u w y z aZ a0 ZA W aA aB aC aD aE aF s2 a3)).mono fun e W' ⟨v,he,g,a4⟩=>?_;subst he;subst a4;exact⟨_,rfl,Lq (pa:=(aU++aV++aW++aX)) (pv:=[]) d (fun _ _ _=>trodAll_mk1 (shut_bool Tryz.underlying4 _)) (fun sp hs=>MQ Qq Qr (by rw[Tryz.params16];decide) aK g aJ sp (fun x aR=>hs x (by simpa using aR))) (fun _ _=>rfl) (by simp) g (ok_one (by kernel_rfl) rfl (okWide_bool_mk Tryz.underlying4 _))⟩
theorem OI:((Rows.tradeTruthRow.inPlace==Tryz.checked.prog.inPlace 16)&&(Rows.tradeTruthRow.unfollowed==Tryz.checked.prog.unfollowed 16)&&(Rows.tradeTruthRow.recurses==Tryz.checked.prog.recurses 16)&&(Rows.tradeTruthRow.named==Tryz.checked.prog.varsNamed 16))=true:=by kernel_rfl
theorem Un:joinedFacts Tryz.checked.prog 16 Tryz.f16 Rows.tradeTruthSpec Rows.tradeTruthRow=true:=by
 unfold joinedFacts;exact(Bu (Bu (Bu (Bu (Bu (Bu (Bu (Bu (Bu (Bu (Bu (Bu (Bu (Bu (Bu (Bu (Bu (Bu (Bu (Bu (Bu (Bu (Bu (Bu (Bu (Bu (Bu (Bu (Bu (Bu (Bu (by kernel_rfl) Pt) Pu) (by kernel_rfl)) (by kernel_rfl)) (by kernel_rfl)) OE) (by kernel_rfl)) OF) (F8 (F8 (F8 OI)))) (JJ (F8 (F8 OI)))) (JJ (F8 OI))) (JJ OI)) (by kernel_rfl)) (by kernel_rfl)) (by kernel_rfl)) (by kernel_rfl)) (by kernel_rfl)) (by kernel_rfl)) (by kernel_rfl)) (by kernel_rfl)) (by kernel_rfl)) Pv) (by kernel_rfl)) OG) (F8 (F8 Iu))) (JJ (F8 Iu))) (JJ Iu)) (by kernel_rfl)) (by kernel_rfl)) (by kernel_rfl)) (by kernel_rfl))
theorem tradeTruth_holds:Rows.TradeTruthSaid:=
 OpenClaim.holds_of_wide 16 Tryz.f16 rfl rfl rfl rfl rfl rfl rfl ⟨rfl,rfl,rfl,rfl,rfl⟩ rfl rfl rfl rfl rfl (by kernel_rfl) Tryz.func16 Un
  (of_decide_eq_true (by kernel_rfl)) (by unfold Func.isWrapper;rw[if_neg (by decide+kernel)];exact⟨rfl,rfl⟩)
  (fun os started H enc _=>TH os started H enc)
end Go.Proofs.YtbhofkcbfblijaaGreat
end
