import Derived.Test.YtcdofnchafcfpaaGreatCM5
import Derived.Test.YtcdofnchafcfpaaGreatRows
/-
  Proved: the law TopDecided returns true for every argument that the row hands over, and leaves every argument as it was; no condition beside the row's own.
-/
set_option linter.all false
section
namespace Go.Proofs.YtcdofnchafcfpaaGreat
open Go.RowKit Go.WideShapes
def CU(h:Nat)(d:Av)(e:(List Int)×Int)(i:List Int):Nat→Int→(List Bq)→Option ((Bool×(List Bq))⊕((List Bq)))
 |0,_,_=>none
 |k+1,a,b=>cond (decide (a<(e.1.length:Int))) ((idx e.1 a).bind fun l=>(FY h d).bind fun j=>(i64 (j-1)).bind fun _=>(DA h l 0 (j-1)).bind fun m=>cond (!m) (some (.inl (false,b))) ((idx e.1 a).bind fun n=>(Eh h d i n).bind fun c=>(idx e.1 a).bind fun f=>(idx e.1 a).bind fun g=>cond (decide ((d.Ac.length:Int)≤f)) ((i64 (g-(d.Ac.length:Int))).bind fun _=>(Hs (((b.length+[(⟨decide ((d.Ac.length:Int)≤f),g-(d.Ac.length:Int),c,c⟩:Bq)].length:Nat):Int)≤140737488355328/32)).bind fun _=>(i64 (a+1)).bind fun _=>CU h d e i k (a+1) (b++[(⟨decide ((d.Ac.length:Int)≤f),g-(d.Ac.length:Int),c,c⟩:Bq)])) ((Hs (((b.length+[(⟨decide ((d.Ac.length:Int)≤f),g,c,c⟩:Bq)].length:Nat):Int)≤140737488355328/32)).bind fun _=>(i64 (a+1)).bind fun _=>CU h d e i k (a+1) (b++[(⟨decide ((d.Ac.length:Int)≤f),g,c,c⟩:Bq)])))) (some (.inr b))
def CK(k:Nat)(l:Av)(f:Int)(c:(List Int)×Int)(g:(List AH)×Int):Nat→Int→Int→Option ((Bool)⊕(Int))
 |0,_,_=>none
 |n+1,b,a=>cond (decide (a<(c.1.length:Int))) ((idx g.1 a).bind fun h=>(idx c.1 a).bind fun m=>(idx c.1 a).bind fun i=>cond ([h.Lo,h.Hi] !=[m,i]) (some (.inl false)) ((idx c.1 a).bind fun e=>(idx l.Ai a).bind fun j=>(Fa k j).bind fun d=>(i64 ((f%101)*d)).bind fun _=>(i64 (b+(max e ((f%101)*d)))).bind fun _=>(i64 (a+1)).bind fun _=>CK k l f c g n (b+(max e ((f%101)*d))) (a+1))) (some (.inr b))
def Et(a:Nat)(c:Av)(o:Int)(i:Int)(k:Int)(j:Int):Option (Bool):=
 (GC a c).bind fun u=>cond (!u) ((Dx a).bind fun v=>some (v)) ((EB a c).bind fun w=>cond (w !=0) ((Dx a).bind fun q=>some (q)) ((L5 .i64 i).bind fun _=>(rem i (101:Int)).bind fun _=>(Ei a c).bind fun r=>(Ho a r (i%101)).bind fun d=>(FX a c).bind fun e=>cond (d.2 !=0) (cond (d.2==11) (cond ((e.length:Int)==0) ((Dx a).bind fun s=>some (s)) (some (false))) (some (false))) (cond ((e.length:Int)==0) (some (false)) ((i64 ((c.Ap.length:Int)+(d.1.length:Int))).bind fun _=>cond (decide ((5:Int)<((c.Ap.length:Int)+(d.1.length:Int)))) ((Dx a).bind fun t=>some (t)) ((L5 .i64 o).bind fun _=>(rem o (e.length:Int)).bind fun _=>(idx e (o%(e.length:Int))).bind fun l=>(Hs (((([]:List Bq).length+c.Ap.length:Nat):Int)≤140737488355328/32)).bind fun _=>(CU a c d l a (0:Int) (([]:List Bq)++c.Ap)).bind fun z=>Sum.elim (fun f=>some (f.1)) (fun f=>(Ei a (⟨c.Ac,c.Ai,f⟩:Av)).bind fun b=>(L5 .i64 j).bind fun _=>(rem j (101:Int)).bind fun _=>(L5 .i64 k).bind fun _=>(rem k (101:Int)).bind fun _=>(Hs (((([]:List Int).length+l.length:Nat):Int)≤140737488355328/8)).bind fun _=>(Hc a (⟨b.Ac,b.Ai,b.Ap,j%101,[(⟨i%101,k%101⟩:B4)],([]:List CL),([]:List CT)⟩:AS) (([]:List Int)++l)).bind fun h=>(Gi a (⟨b.Ac,b.Ai,b.Ap,j%101,[(⟨i%101,k%101⟩:B4)],([]:List CL),([]:List CT)⟩:AS)).bind fun m=>(HN a (⟨b.Ac,b.Ai,b.Ap,j%101,[(⟨i%101,k%101⟩:B4)],([]:List CL),([]:List CT)⟩:AS)).bind fun n=>cond (h.2 !=0) (some (false)) (cond (m.2 !=0) (some (false)) (cond (n.2.2 !=0) (some (false)) (cond ((h.1.length:Int) !=(c.Ai.length:Int)) (some (false)) (cond ((m.1.length:Int) !=(h.1.length:Int)) (some (false)) ((CK a c j h m a (0:Int) (0:Int)).bind fun z=>Sum.elim (fun g=>some (g)) (fun g=>cond (n.2.1==g) ((Dx a).bind fun p=>some (p)) (some (false))) z)))))) z)))))
end Go.Proofs.YtcdofnchafcfpaaGreat
end
section
namespace Go.Proofs.YtcdofnchafcfpaaGreat
def EI(c:Av)(l:List Int)(x:Int):Bq:=⟨decide ((c.Ac.length:Int)≤x),if (c.Ac.length:Int)≤x then x-c.Ac.length else x,Fq c l x,Fq c l x⟩
def H3 (c:Av) (l xs:List Int):Av:=⟨c.Ac,c.Ai,c.Ap++xs.map (EI c l)⟩
def Dr(c:Av)(l xs:List Int)(n p f:Int):AS:=⟨c.Ac,c.Ai,c.Ap++xs.map (EI c l),f,[⟨n,p⟩],[],[]⟩
theorem Xw{c:Av}(hc:OkC c){l:List Int}(hl:Di c.Ac l=true){x:Int}(h0:0≤x)(h1:x<(c.Ac.length:Int)+c.Ai.length):0≤Fq c l x∧Fq c l x≤100:=by
 have hb:=ML hc.ok hl;have he:=F5 hl;unfold Fq
 by_cases h:(c.Ac.length:Int)≤x
 ·rw[if_pos h];have hk:(x-c.Ac.length).toNat<c.Ai.length:=by omega
  rw[C6 _ hk];obtain⟨_,h2,a,_⟩:=hc.DE _ (List.getElem_mem hk);exact M4 h2 hb a
 ·rw[if_neg h];have hk:x.toNat<l.length:=by omega
  rw[C6 _ hk];exact hb _ (List.getElem_mem hk)
theorem Sy{c:Av}(hc:OkC c){l:List Int}(hl:Di c.Ac l=true){x:Int}(h0:0≤x)(h1:x<(c.Ac.length:Int)+c.Ai.length)(c':Av)(a:c'.Ac=c.Ac)(b:c'.Ai=c.Ai):GD c' (EI c l x)=true:=by
 have hb:=Xw hc hl h0 h1;unfold GD EI;rw[Bool.and_eq_true,M3,DQ,a,b];refine⟨?_,by simp only;omega⟩
 by_cases h:(c.Ac.length:Int)≤x
 ·simp only[if_pos h,decide_eq_true h,cond_true];omega
 ·simp only[if_neg h,decide_eq_false h,cond_false];omega
theorem Pt{c c':Av}(a:c'.Ac=c.Ac)(b:c'.Ai=c.Ai)(t:Bq):GD c' t=GD c t:=by unfold GD;rw[a,b]
theorem Q5{c c':Av}(a:c'.Ac=c.Ac):HY c'=HY c:=by funext l;unfold HY ID;rw[a]
theorem Qr{c:Av}(l l' xs:List Int)(x:Int):FZ (H3 c l xs) l' (EI c l x)=Fq c l' x:=by
 unfold FZ EI Fq H3
 by_cases h:(c.Ac.length:Int)≤x
 ·simp only[if_pos h,decide_eq_true h,cond_true]
 ·simp only[if_neg h,decide_eq_false h,cond_false]
theorem VX{c:Av}(l l' xs:List Int):Ij (H3 c l xs) l'=true↔Ij c l'=true∧xs.map (Fq c l')=xs.map (Fq c l):=by
 have e:∀t:Bq,FZ (H3 c l xs) l' t=FZ c l' t:=fun t=>rfl;unfold Ij;show((c.Ap++xs.map (EI c l)).all _)=true↔_;rw[List.all_append,Bool.and_eq_true];refine and_congr Iff.rfl ?_;rw[List.all_eq_true];constructor
 ·intro h;refine List.map_congr_left fun x a=>?_;have:=h _ (List.mem_map_of_mem a);rw[Qr,DQ] at this;have h2:(EI c l x).AO=Fq c l x:=rfl;have b:(EI c l x).AP=Fq c l x:=rfl;rw[h2,b] at this;omega
 ·intro h t d;obtain⟨x,a,rfl⟩:=List.mem_map.1 d;rw[Qr,DQ];have h1:Fq c l' x=Fq c l x:=List.map_inj_left.1 h x a;have h2:(EI c l x).AO=Fq c l x:=rfl;have b:(EI c l x).AP=Fq c l x:=rfl;rw[h2,b,h1];omega
theorem VY{c:Av}(hc:OkC c){l:List Int}(hl:Di c.Ac l=true){xs:List Int}(hb:∀y∈xs,0≤y∧y<(c.Ac.length:Int)+c.Ai.length)(h5:c.Ap.length+xs.length≤5):Fm (H3 c l xs)=0:=by
 obtain⟨h1,h2,h,i,d,e,f,j⟩:=Gp hc.fault;unfold Fm;rw[if_neg,if_neg,if_neg,if_neg,if_neg,if_neg]
 ·show¬2000<Fv c.Ac;omega
 ·have:(H3 c l xs).Ap.all (GD (H3 c l xs))=true:=List.all_eq_true.2 fun t a=>by
   rcases List.mem_append.1 a with a|a
   ·rw[Pt (c:=c) (c':=H3 c l xs) rfl rfl];exact f t a
   ·obtain⟨x,b,rfl⟩:=List.mem_map.1 a;exact Sy hc hl (hb x b).1 (hb x b).2 _ rfl rfl
  rw[this];simp
 ·have:(H3 c l xs).Ai.all (HY (H3 c l xs))=true:=List.all_eq_true.2 fun t a=>by
   rw[Q5 (c:=c) (c':=H3 c l xs) rfl];exact e t a
  rw[this];simp
 ·have:((H3 c l xs).Ac.all fun r=>IP r.Lo r.Hi 0 100)=true:=List.all_eq_true.2 fun r g=>PJ.2 (d r g);rw[this];simp
 ·show¬c.Ac.length=0;omega
 ·show¬(3<c.Ac.length∨3<c.Ai.length∨5<(c.Ap++xs.map (EI c l)).length);rw[List.length_append,List.length_map];omega
section
variable{c:Av}(hc:OkC c){l:List Int}(hl:l∈Cj c){xs:List Int}(hb:∀y∈xs,0≤y∧y<(c.Ac.length:Int)+c.Ai.length)(h5:c.Ap.length+xs.length≤5){n p f:Int}(hn:0≤n∧n≤100)(hp:0≤p∧p≤100)(hf:0≤f∧f≤100)
include hc hl hb h5 hn hp hf
theorem Pd:Ge (Dr c l xs n p f)=0:=by
 have h0:Fm (Dr c l xs n p f).C=0:=VY hc (G1 hc hl) hb h5;unfold Ge;rw[if_neg (by rw[h0];simp),if_neg (by show¬(3<1∨3<0∨5<0);omega),if_neg,if_neg (by show¬(1=0);omega),if_neg,if_neg,if_neg]
 ·show¬(!(([]:List CT).all _))=true;simp
 ·show¬(!(([]:List CL).all _))=true;simp
 ·have:GK 101 100 [⟨n,p⟩]=true:=by
   rw[GK,GK,DQ.2 (show 0≤n∧n≤101-1 by omega),DQ.2 hp];rfl
  show¬(!(GK 101 100 [⟨n,p⟩]))=true;rw[this];simp
 ·show¬(!(Em f 0 100))=true;rw[DQ.2 hf];simp
theorem Qs:IH (Dr c l xs n p f)=true:=by
 obtain⟨h1,h2,b,d,e,g,h,i⟩:=Gp hc.fault;have a:=hc.DE;unfold IH;rw[Bool.and_eq_true,Bool.and_eq_true,Bool.and_eq_true,decide_eq_true_eq,decide_eq_true_eq,decide_eq_true_eq,JZ];refine⟨⟨?_,?_,?_,?_,.inr ?_⟩,?_,?_,?_⟩
 ·show c.Ac.length≤5;omega
 ·show c.Ai.length≤5;omega
 ·show(c.Ap++xs.map (EI c l)).length≤7;rw[List.length_append,List.length_map];omega
 ·intro w hw;have:=(a w hw).1;omega
 ·exact hc.many
 ·show 1≤5;omega
 ·show 0≤5;omega
 ·show 0≤7;omega
theorem MW:OkT (Dr c l xs n p f):=Jz (Qs hc hl hb h5 hn hp hf) (Pd hc hl hb h5 hn hp hf)
theorem T3{l':List Int}:l'∈EO (Dr c l xs n p f)↔l'∈Cj c∧xs.map (Fq c l')=xs.map (Fq c l):=by
 rw[IE (MW hc hl hb h5 hn hp hf)];unfold Gk;have e:EG (AW (Dr c l xs n p f) l') [] 0 (Dr c l xs n p f).BA=true:=rfl;rw[e,Bool.and_true,FM hc];show(Di c.Ac l'&&Ij (H3 c l xs) l')=true↔_;unfold Dt;rw[Bool.and_eq_true,VX,Bool.and_eq_true,and_assoc]
theorem Sz:l∈EO (Dr c l xs n p f):=(T3 hc hl hb h5 hn hp hf).2 ⟨hl,rfl⟩
theorem Xx:GL (Dr c l xs n p f)=0:=by
 have h1:=Sz hc hl hb h5 hn hp hf;have h2:l∈Cj (Dr c l xs n p f).C:=by
  have:=(IE (MW hc hl hb h5 hn hp hf)).1 h1;unfold Gk at this;rw[Bool.and_eq_true] at this;exact(FM (MW hc hl hb h5 hn hp hf).c).2 this.1
 have a:HZ (Dr c l xs n p f)=0:=by
  unfold HZ;rw[if_neg (by rw[Pd hc hl hb h5 hn hp hf];simp),if_neg (fun h=>by rw[h] at h2;cases h2)]
 unfold GL;rw[a,if_neg (by simp),if_neg (fun h=>by rw[h] at h1;cases h1)]
theorem No(e:Ti c n xs){l':List Int}(h:l'∈EO (Dr c l xs n p f)):AW (Dr c l xs n p f) l'=AW (Dr c l xs n p f) l:=by
 obtain⟨h1,h2⟩:=(T3 hc hl hb h5 hn hp hf).1 h;have g:=e.dec l' h1 l hl h2;unfold AW;show c.Ai.map _=c.Ai.map _;refine List.map_congr_left fun w hw=>?_;obtain⟨k,hk,rfl⟩:=List.getElem_of_mem hw;have hs:=UF g k hk;have:FI [⟨n,p⟩] (DS l' c.Ai[k])=FI [⟨n,p⟩] (DS l c.Ai[k]):=by
  unfold FI
  by_cases d:n≤DS l c.Ai[k]
  ·have b:=hs.2 d;simp[List.find?,d,b]
  ·have b:¬n≤DS l' c.Ai[k]:=fun a=>d (hs.1 a);simp[List.find?,d,b]
 show FI [⟨n,p⟩] (DS l' c.Ai[k])*_=FI [⟨n,p⟩] (DS l c.Ai[k])*_;rw[this]
theorem VZ(a:Ti c n xs)(CR:List Int):Hg (Dr c l xs n p f) CR=GF (Dr c l xs n p f) CR l:=by
 have hs:=Sz hc hl hb h5 hn hp hf;have b:IA (EO (Dr c l xs n p f)) (GF (Dr c l xs n p f) CR) ⟨GF (Dr c l xs n p f) CR l,GF (Dr c l xs n p f) CR l⟩:=
  ⟨⟨l,hs,rfl⟩,⟨l,hs,rfl⟩,fun l' d=>by
   have:GF (Dr c l xs n p f) CR l'=GF (Dr c l xs n p f) CR l:=Jh _ fun k _=>by
    unfold Il;rw[No hc hl hb h5 hn hp hf a d]
   rw[this];exact⟨Int.le_refl _,Int.le_refl _⟩⟩
 exact(Mo (MW hc hl hb h5 hn hp hf) b).symm
end
def Jr (t:AS) (l:List Int) (k:Nat):Int:=max ((AW t l).getD k 0) (t.Flat*(t.Ad.getD k []).sum)
theorem Xy{t:AS}(d:OkT t)(l:List Int){s:List Int}(h:OP (Hg t) t.Ad.length s)(hs:∀CR,Hg t CR=GF t CR l):Hg t s=DR (Jr t l) t.Ad.length:=by
 have up:∀CR,Hg t CR≤DR (Jr t l) t.Ad.length:=fun CR=>by
  rw[hs];refine OO _ fun k hk=>?_;unfold Il Jr;rw[Int.mul_comm t.Flat];split<;>omega
 have g:=d.kl;have hm:∀y∈(((List.range t.Ad.length).filter fun k:Nat=>decide ((t.Ad.getD k []).sum*t.Flat≤(AW t l).getD k 0)).map fun k:Nat=>(k:Int)),0≤y∧y<(t.Ad.length:Int):=fun y a=>by
  obtain⟨k,hk,rfl⟩:=List.mem_map.1 a;have:=List.mem_range.1 (List.mem_filter.1 hk).1;omega
 have hb:=h.Yw _ (PX hm);have e:Hg t (G0 (LB (((List.range t.Ad.length).filter fun k:Nat=>decide ((t.Ad.getD k []).sum*t.Flat≤(AW t l).getD k 0)).map fun k:Nat=>(k:Int))))=DR (Jr t l) t.Ad.length:=by
  rw[hs];refine Jh _ fun k hk=>?_;unfold Il Jr;rw[Int.mul_comm t.Flat,S9 (by omega)]
  by_cases c:(t.Ad.getD k []).sum*t.Flat≤(AW t l).getD k 0
  ·rw[if_pos]
   ·omega
   ·rw[Mn (fun x b=>(hm x b).1)];exact List.mem_map.2 ⟨k,List.mem_filter.2 ⟨List.mem_range.2 hk,decide_eq_true c⟩,rfl⟩
  ·rw[if_neg]
   ·omega
   ·rw[Mn (fun x b=>(hm x b).1)];intro a;obtain⟨j,f,e⟩:=List.mem_map.1 a;obtain rfl:j=k:=by omega
    exact c (of_decide_eq_true (List.mem_filter.1 f).2)
 have h2:=up s;rw[e] at hb;omega
section
variable{K:Nat}(hK:1000≤K)
include hK
theorem X3{c:Av}(hc:OkC c){l:List Int}(hl:Di c.Ac l=true){t:Int}(h0:0≤t)(h1:t<(c.Ac.length:Int)+c.Ai.length):Eh K c l t=some (Fq c l t):=by
 have b:=F5 hl;have d:=hc.hl;have f:=hc.cl;unfold Fq Eh
 by_cases h:(c.Ac.length:Int)≤t
 ·obtain⟨k,hk⟩:∃k:Nat,t=(c.Ac.length:Int)+k:=⟨(t-c.Ac.length).toNat,by omega⟩;have a:k<c.Ai.length:=by omega
  have e:t-(l.length:Int)=k:=by omega
  rw[if_pos h,cf (df (by omega)),BK (by omega) (by omega),e,CI a,bd (Ny hK hc hl a),show(t-(c.Ac.length:Int)).toNat=k by omega,C6 _ a]
 ·obtain⟨k,rfl⟩:=Int.eq_ofNat_of_zero_le h0;have a:k<l.length:=by omega
  rw[if_neg h,ct (dt (by omega)),CI a,Int.toNat_natCast,C6 _ a]
theorem SA{c:Av}(hc:OkC c){l:List Int}(hl:Di c.Ac l=true){xs:List Int}(hb:∀y∈xs,0≤y∧y<(c.Ac.length:Int)+c.Ai.length)(e:Int):∀(d k i:Nat) (acc:List Bq),xs.length=i+d→d<k→i+d≤100→acc.length+d≤1000→
  CU K c (xs,e) l k (i:Int) acc=some (.inr (acc++(xs.drop i).map (EI c l)))
 |d,0,i,acc,h,hk,_,_=>by omega
 |0,k+1,i,acc,h,hk,_,_=>by
  rw[CU.eq_2,cf (df (by show¬(i:Int)<(xs.length:Int);omega)),List.drop_eq_nil_of_le (by omega),List.map_nil,List.append_nil]
 |d+1,k+1,i,acc,h,hk,j,m=>by
  have hi:i<xs.length:=by omega
  have f:=hb _ (List.getElem_mem hi);have h1:=hc.hl;have h2:=hc.cl;have g:FY K c=some ((c.Ac.length:Int)+c.Ai.length):=by
   unfold FY;rw[BK (by omega) (by omega)]
  have b:=SA hc hl hb e d k (i+1) (acc++[EI c l xs[i]]) (by omega) (by omega) (by omega) (by simp;omega);rw[CU.eq_2,ct (dt (by show(i:Int)<(xs.length:Int);omega)),CI hi,bd g,BK (by omega) (by omega),bd (Mf ..),DQ.2 (by omega),nt,CI hi,bd (X3 hK hc hl f.1 f.2),CI hi,CI hi,List.drop_eq_getElem_cons hi,List.map_cons];have ea:acc++EI c l xs[i]::(xs.drop (i+1)).map (EI c l)=(acc++[EI c l xs[i]])++(xs.drop (i+1)).map (EI c l):=by simp
  rw[ea,←b]
  by_cases a:(c.Ac.length:Int)≤xs[i]
  ·rw[ct (dt a),BK (by omega) (by omega),GZ (by simp;omega),BK (by omega) (by omega),D5 i];have:(⟨decide ((c.Ac.length:Int)≤xs[i]),xs[i]-(c.Ac.length:Int),Fq c l xs[i],Fq c l xs[i]⟩:Bq)=EI c l xs[i]:=by unfold EI;rw[if_pos a]
   rw[this]
  ·rw[cf (df a),GZ (by simp;omega),BK (by omega) (by omega),D5 i];have:(⟨decide ((c.Ac.length:Int)≤xs[i]),xs[i],Fq c l xs[i],Fq c l xs[i]⟩:Bq)=EI c l xs[i]:=by unfold EI;rw[if_neg a]
   rw[this]
theorem SC{c:Av}(hc:OkC c){f0:Int}{t:AS}(e:OkT t)(l:List Int)(ec:t.Ad=c.Ai)(f:t.Flat=f0%101)(n o:Int){b:List AH}(hb:b.length=c.Ai.length)(g:∀k (hk:k<b.length),b[k]=⟨(AW t l).getD k 0,(AW t l).getD k 0⟩):∀(d k i:Nat),c.Ai.length=i+d→d<k→
  CK K c f0 (AW t l,n) (b,o) k (DR (Jr t l) i) (i:Int)=some (.inr (DR (Jr t l) c.Ai.length))
 |d,0,i,h,hk=>by omega
 |0,k+1,i,h,hk=>by
  have hm:=Fb t l;rw[ec] at hm;rw[CK.eq_2,cf (df (by show¬(i:Int)<((AW t l).length:Int);omega)),h,Nat.add_zero]
 |d+1,k+1,i,h,hk=>by
  have hm:=Fb t l;rw[ec] at hm;have hi:i<c.Ai.length:=by omega
  have h1:i<b.length:=by omega
  have h2:i<(AW t l).length:=by omega
  have z:=hc.cl;obtain⟨w1,w2,p,q⟩:=hc.DE _ (List.getElem_mem hi);have aA:=hc.hl;have r:=Ov hK c.Ai[i] (by omega) (fun x s=>by have:=w2 x s;omega);have v:=e.QL l _ (List.getElem_mem h2);have a:=e.flat;rw[f] at a;have w:=Ii a.1 a.2 (Int.le_of_lt p) q;have y:0≤DR (Jr t l) i∧DR (Jr t l) i≤9000*i:=KL i fun k hk=>by
   have j:k<c.Ai.length:=by omega
   have m:k<(AW t l).length:=by omega
   obtain⟨v1,v2,v3,v4⟩:=hc.DE _ (List.getElem_mem j);have a1:=e.QL l _ (List.getElem_mem m);have a2:=Ii a.1 a.2 (Int.le_of_lt v3) v4;unfold Jr;rw[ec,f,C6 _ j,C6 _ m];omega
  have u:b[i]=⟨(AW t l)[i],(AW t l)[i]⟩:=by rw[g i h1,C6 _ h2]
  have es:DR (Jr t l) i+max (AW t l)[i] (f0%101*c.Ai[i].sum)=DR (Jr t l) (i+1):=by
   rw[DR];unfold Jr;rw[ec,f,C6 _ hi,C6 _ h2]
  rw[CK.eq_2,ct (dt (by show(i:Int)<((AW t l).length:Int);omega)),CI h1,CI h2,CI h2,u,cf (nl rfl),CI h2,CI hi,bd r,BK (by omega) (by omega),BK (by omega) (by omega),BK (by omega) (by omega),D5 i,es];exact SC hc e l ec f n o hb g d k (i+1) (by omega) (by omega)
theorem Mr(aT:Dx K=some true)(c:Av)(w n p f:Int)(hw:0≤w)(a0:w<65536)(hn:0≤n)(a5:n<256)(hp:0≤p)(a9:p<256)(hf:0≤f)(bA:f<256):Et K c w n p f=some true:=by
 have u:((Dx K).bind fun r=>some r)=some true:=by rw[aT];rfl
 unfold Et;rw[bd (Ux hK c)];cases aH:Jw c with
 |false=>rw[nf,u]
 |true=>
  obtain⟨t1,t2,t3,t4,t5⟩:=JZ.1 aH;have hlen:Oz c:=⟨by omega,by omega,by omega,fun l hl=>by have:=t4 l hl;omega⟩;rw[nt,bd (Oy hK c (by omega) (by omega) (by omega) (fun l hl=>by have:=t4 l hl;omega))]
  by_cases h0:Fm c=0
  ·have hc:OkC c:=⟨hlen,h0,t5.resolve_left (fun h=>h h0)⟩;have a:0≤n%101∧n%101≤100:=by omega
   have d:0≤p%101∧p%101≤100:=by omega
   have g:0≤f%101∧f%101≤100:=by omega
   obtain⟨x,e,aU,aI,aJ⟩:=Tk hK hc a;rw[cf (HO h0),QV hn (by omega),Oq hn (by omega),bd (OJ hK c hlen),bd aU,bd (RB hK hc)]
   by_cases o:Cj c=[]
   ·obtain rfl:=aI o;show cond ((11:Int) !=0) (cond ((11:Int)==11) _ _) _=_;rw[ct (Jn (by decide)),ct (KG rfl),ct ((S8 _).2 o),u]
   ·obtain⟨rfl,v⟩:=aJ o;have q:∀y∈x,0≤y∧y<(c.Ac.length:Int)+c.Ai.length:=fun y aV=>by have:=M5 v.TR y aV;omega
    have bB:=LC (by omega) v.TR;have bH:=hc.hl;have hk:=hc.cl;show cond ((0:Int) !=0) _ (cond (((Cj c).length:Int)==0) _ ((i64 ((c.Ap.length:Int)+(x.length:Int))).bind fun _=>cond (decide ((5:Int)<(c.Ap.length:Int)+(x.length:Int))) _ _))=_;rw[cf (HO rfl),cf (OK o),BK (by omega) (by omega)]
    by_cases h5:5<(c.Ap.length:Int)+(x.length:Int)
    ·rw[ct (dt h5),u]
    ·have i:c.Ap.length+x.length≤5:=by omega
     have aW:0<(Cj c).length:=List.length_pos_iff.2 o;have aS:=Po hc;obtain⟨j,aX⟩:∃j:Nat,w%((Cj c).length:Int)=j:=⟨(w%((Cj c).length:Int)).toNat,by have:=Int.emod_nonneg w (by omega:((Cj c).length:Int)≠0);omega⟩;have aE:j<(Cj c).length:=by have:=Int.emod_lt_of_pos w (by omega:0<((Cj c).length:Int));omega
     have hl:(Cj c)[j]∈Cj c:=List.getElem_mem aE;generalize aK:(Cj c)[j]=l at hl;have z:=G1 hc hl;have bC:=F5 z;have aF:=SA hK hc z q 0 x.length K 0 ([]++c.Ap) (by omega) (by omega) (by omega) (by simp;omega);rw[Int.natCast_zero,List.drop_zero,List.nil_append] at aF;have aG:=MW hc hl q i a d g;have t:=Qs hc hl q i a d g;have aA:=Xx hc hl q i a d g;have aY:=Td hK t aG (l:=l) z;obtain⟨b,aL,_,aC⟩:=Ta hK t;obtain⟨s,m,aM,_,aZ⟩:=Wx hK t;have aC:=aC aA;obtain⟨aN,aO⟩:=aZ aA;rw[aA] at aL aM;have aP:∀k (hk:k<b.length),b[k]=⟨(AW (Dr c l x (n%101) (p%101) (f%101)) l).getD k 0,(AW (Dr c l x (n%101) (p%101) (f%101)) l).getD k 0⟩:=fun k hk=>by
      obtain⟨⟨bI,a1,a2⟩,⟨bJ,a3,a4⟩,_⟩:=aC.is k hk;rw[No hc hl q i a d g v a1] at a2;rw[No hc hl q i a d g v a3] at a4;exact Uz a2.symm a4.symm
     have aQ:b.length=c.Ai.length:=aC.len;have aB:=SC hK hc (f0:=f) aG l rfl rfl 0 0 aQ aP c.Ai.length K 0 (by omega) (by omega);have aD:=Xy aG l aN (VZ hc hl q i a d g v);have bD:(AW (Dr c l x (n%101) (p%101) (f%101)) l).length=c.Ai.length:=Fb _ l;have aR:Oz (H3 c l x):=⟨by show c.Ac.length≤100;omega,by show c.Ai.length≤100;omega,by show(c.Ap++x.map (EI c l)).length≤100;rw[List.length_append,List.length_map];omega,fun w hw=>by have:=(hc.DE w hw).1;omega⟩;rw[cf (df h5),QV hw (by omega),Oq hw (by omega),aX,CI aE,aK,GZ (by simp;omega),List.nil_append,bd aF];show((Ei K (H3 c l x)).bind _)=_;rw[bd (OJ hK _ aR),QV hf (by omega),Oq hf (by omega),QV hp (by omega),Oq hp (by omega),GZ (by simp;omega),List.nil_append];show((Hc K (Dr c l x (n%101) (p%101) (f%101)) l).bind fun bE=>(Gi K (Dr c l x (n%101) (p%101) (f%101))).bind fun bF=>(HN K (Dr c l x (n%101) (p%101) (f%101))).bind fun bG=>_)=_;rw[bd aY,bd aL,bd aM,cf (HO rfl),cf (HO rfl),cf (HO rfl),cf (HO (by show((AW _ l).length:Int)=_;omega)),cf (HO (by show(b.length:Int)=((AW _ l).length:Int);omega))];rw[Int.natCast_zero] at aB;show((CK K c f (AW (Dr c l x (n%101) (p%101) (f%101)) l,0) (b,0) K (0:Int) (0:Int)).bind _)=_;rw[show(0:Int)=DR (Jr (Dr c l x (n%101) (p%101) (f%101)) l) 0 from rfl] at aB;rw[show CK K c f (AW (Dr c l x (n%101) (p%101) (f%101)) l,0) (b,0) K (0:Int) (0:Int)=some (.inr (DR (Jr (Dr c l x (n%101) (p%101) (f%101)) l) c.Ai.length)) from aB];show cond (m==DR (Jr (Dr c l x (n%101) (p%101) (f%101)) l) c.Ai.length) _ _=_;rw[ct (KG (by rw[aO,aD];rfl)),u]
  ·rw[ct (Jn h0),u]
end
theorem Pu:Dx 1000=some true:=by kernel_rfl
theorem MX(c:Av)(w n p f:Int)(hw:0≤w)(a:w<65536)(hn:0≤n)(b:n<256)(hp:0≤p)(d:p<256)(hf:0≤f)(e:f<256):∃K,Et K c w n p f=some true:=⟨1000,Mr (Nat.le_refl _) Pu c w n p f hw a hn b hp d hf e⟩
end Go.Proofs.YtcdofnchafcfpaaGreat
end
section
namespace Go.Proofs.YtcdofnchafcfpaaGreat
open Go.RowKit Go.WideShapes
set_option maxRecDepth 20000
open HF
attribute [local irreducible] BW WL CC CW LV BG HJ E7 One AU
set_option maxHeartbeats 4000000 in
theorem a3 b9 g mQ cS dQ b6 j m o p aC aD(Z:Nat→Prop) w(lN:Sl Ay w Z j m g.Ac)(lO:Sl (BJ (Ao .i64)) w Z o p g.Ai)(lP:Sl AG w Z aC aD g.Ap)(a:Et b9 g mQ cS dQ b6=some true):
 BG Tryz.prog 3 #[.agg (An j m o p aC aD g).toArray,.int .u16 mQ,.int .u8 cS,.int .u8 dQ,.int .u8 b6] w (fun v w'=>Ext w w'∧v=.bool true):=by
 unfold Et at a;refine rq (N:=239) Tryz.func3 fun q5 jH q6=>?_;have mR:=sA 0 jH;have mS:=sA 1 jH;have mT:=sA 2 jH;have mU:=sA 3 jH;have mV:=sA 4 jH;clear jH;have mF:Hp FN [] w [] w:=Hp.start (Bp.none w);have ⟨jI,jJ,jK⟩:=Dd lN lO lP (Bw (Z:=Z) (L:=[]) w);refine cr<|wE (fun st=>BB (v:=.agg (An j m o p aC aD g).toArray) (cs:=(An j m o p aC aD g).toArray) (ee st mR) rfl) ?_;rintro _ w1 ⟨b1,rfl,hL⟩;have pW:=mF.nb hL;have qR:=mF.BD hL;refine wA (v:=.bool false) rfl<|wn<|Ag<|cr<|wD (fun st=>AQ (l:=(An j m o p aC aD g)) FK (eR st) hL.bk rfl rfl) ?_;have ⟨gE,gF,gG⟩:=Dd jI jJ jK (Aq hL);replace a:=bind_some a;obtain⟨kD,pX,a⟩:=a;refine wE (fun st=>Az XS (eR st) (Ct (eR st)) (a5 b9 g j m o p aC aD ZA _ gE.all gF.all gG.all kD pX)) ?_;rintro _ r7 ⟨kE,rfl⟩;have mG:=pW.ext kE;refine wD (fun st=>Cv (eR st))<|wM (v:=.bool !kD) rfl ?_;rcases Af (!kD) with cT|cT
 ·replace a:=Aw a cT;have qS:kD=false:=by simpa using cT
  refine wF cT<|wF cT<|wF cT<|wD (fun st=>Bz (v:=.bool true) (eR st) cT (eR st))<|wn<|Ak rfl rfl<|Ag<|Aj ?_;replace a:=bind_some a;obtain⟨pY,pZ,a⟩:=a;refine wE (fun st=>Az MU (eR st) Hr (a7 b9 ZA _ pY pZ)) ?_;rintro _ r8 ⟨p0,rfl⟩;have p1:=mG.ext p0;refine wA (v:=.bool pY) rfl<|wn<|Am<|AN ?_;have cU:=oi a;refine Ar rfl rfl ?_;exact⟨p1.Bb,congrArg Value.bool cU⟩
 ·replace a:=Ax a cT;have qT:kD=true:=by simpa using cT
  have i9:=(hL.bk.ext kE);refine wG cT (fun st=>AQ (l:=(An j m o p aC aD g)) FK (eR st) i9 rfl rfl) ?_;have ⟨gH,gI,gJ⟩:=Dd gE gF gG (Ab kE);replace a:=bind_some a;obtain⟨mW,p2,a⟩:=a;refine wX cT (fun st=>Az TY (eR st) (Ct (eR st)) (a6 b9 g j m o p aC aD ZA _ gH.all gI.all gJ.all mW p2)) ?_;rintro _ q7 ⟨kF,rfl⟩;have kG:=mG.ext kF;refine wG cT (fun st=>Fu (eR st) (eR st))<|wD (fun st=>Bt (v:=.bool (mW !=0)) (eR st) cT (eR st))<|wn ?_;rcases Af (mW !=0) with fA|fA
  ·replace a:=Aw a fA;refine Ak rfl fA<|Ag<|Aj ?_;replace a:=bind_some a;obtain⟨mH,mX,a⟩:=a;refine wE (fun st=>Az MU (eR st) Hr (a7 b9 ZA _ mH mX)) ?_;rintro _ q8 ⟨mY,rfl⟩;have p3:=kG.ext mY;refine wA (v:=.bool mH) rfl<|wn<|Am<|AN ?_;have cU:=oi a;refine Ar rfl rfl ?_;exact⟨p3.Bb,congrArg Value.bool cU⟩
  ·replace a:=Ax a fA;refine Au rfl fA<|cn<|cr<|wM (v:=.int .u8 cS) mT ?_;replace a:=KB a;obtain⟨mZ,a⟩:=a;refine wD (fun st=>Mx (k:=.i64) Tu Tryz.underlying3 (eR st) mZ) ?_;replace a:=JI a;obtain⟨kH,a⟩:=a;refine wD (fun st=>Mw (eR st) (eR st) kH.1 kH.2)<|wA (v:=I (cS%101)) rfl<|wn<|Ag<|Aj ?_;have jA:=(i9.ext kF);refine wD (fun st=>AQ (l:=(An j m o p aC aD g)) FK (eR st) jA rfl rfl) ?_;have ⟨gK,gL,gM⟩:=Dd gH gI gJ (Ab kF);replace a:=bind_some a;obtain⟨mI,m0,a⟩:=a;refine wE (fun st=>Az T0 (eR st) (Ct (eR st)) (a9 b9 g j m o p aC aD (zf Z w [some b1]) _ gK gL gM mI m0)) ?_;rintro _ q9 ⟨iG,⟨_,rfl,⟨jL,jM,jN,jO,jP,jQ,rfl,d2,d3,d4⟩⟩⟩;have mJ:=kG.ext iG;have ⟨d2,d3,d4⟩:=Dd d2 d3 d4 (kG.Ic (Nat.le_refl _));refine wM (v:=I (cS%101)) rfl ?_;replace a:=bind_some a;obtain⟨bF,m1,a⟩:=a;refine wE (fun st=>Az TZ (eR st) (CP (eR st) (eR st)) (a8 b9 mI (cS%101) jL jM jN jO jP jQ (zf Z w [some b1]) _ d2 d3 d4 bF m1)) ?_;rintro _ rA ⟨iH,⟨_,_,rfl,⟨bG,bH,rfl,eP⟩,rfl⟩⟩;have mK:=mJ.ext iH;have eP:=eP.mv (mJ.Ic (Nat.le_refl _));refine wM (v:=.tuple #[.slice bG bF.1.length bH,I bF.2]) rfl<|wD (fun st=>B1 (v:=.slice bG bF.1.length bH) (eR st) rfl)<|wD (fun st=>B1 (v:=I bF.2) (eR st) rfl)<|wA (v:=.slice bG bF.1.length bH) rfl<|wA (v:=I bF.2) rfl<|wn<|Ag<|Aj ?_;have jB:=((jA.ext iG).ext iH);refine wD (fun st=>AQ (l:=(An j m o p aC aD g)) FK (eR st) jB rfl rfl) ?_;have ⟨gN,gO,gP⟩:=Dd gK gL gM (mt (Ab iG) (Ab iH));replace a:=bind_some a;obtain⟨dR,m2,a⟩:=a;refine wE (fun st=>Az Xf (eR st) (Ct (eR st)) (ZH b9 g j m o p aC aD (zf Z w [some b1]) _ gN gO gP dR m2)) ?_;rintro _ rB ⟨fB,⟨c7,c8,rfl,eQ⟩⟩;have jC:=mK.ext fB;have eQ:=eQ.mv (mK.Ic (Nat.le_refl _));refine wA (v:=.slice c7 dR.length c8) rfl<|wn<|Ag<|cr<|wM (v:=I bF.2) rfl<|wD (fun st=>Fu (eR st) (eR st))<|wn ?_;rcases Af (bF.2 !=0) with fC|fC
   ·replace a:=Aw a fC;refine Ak rfl fC<|cr<|wM (v:=I bF.2) rfl<|wD (fun st=>Ft (eR st) (eR st))<|wM (v:=.bool (bF.2==11)) rfl ?_;rcases Af (bF.2==11) with d5|d5
    ·replace a:=Aw a d5;refine wN d5 (v:=.slice c7 dR.length c8) rfl<|wG d5 (fun st=>Bm Tryz.underlying23 (eR st))<|wG d5 (fun st=>Ft (eR st) (eR st))<|wD (fun st=>Bz (v:=.bool ((dR.length:Int)==0)) (eR st) d5 (eR st))<|wM (v:=.bool ((dR.length:Int)==0)) rfl ?_;rcases Af ((dR.length:Int)==0) with fD|fD
     ·replace a:=Aw a fD;replace a:=bind_some a;obtain⟨kI,m3,a⟩:=a;refine wX fD (fun st=>Az MU (eR st) Hr (a7 b9 ZA _ kI m3)) ?_;rintro _ rC ⟨m4,rfl⟩;have p4:=jC.ext m4;refine wD (fun st=>Bz (v:=.bool kI) (eR st) fD (eR st))<|wA (v:=.bool kI) rfl<|wn<|Am<|AN ?_;have cU:=oi a;refine Ar rfl rfl ?_;exact⟨p4.Bb,congrArg Value.bool cU⟩
     ·replace a:=Ax a fD;exact absurd (oi a) (by decide)
    ·replace a:=Ax a d5;exact absurd (oi a) (by decide)
   ·replace a:=Ax a fC;refine Au rfl fC<|cn<|Ag<|cr<|wM (v:=.slice c7 dR.length c8) rfl<|wD (fun st=>Bm Tryz.underlying23 (eR st))<|wD (fun st=>Ft (eR st) (eR st))<|wn ?_;rcases Af ((dR.length:Int)==0) with g4|g4
    ·replace a:=Aw a g4;exact absurd (oi a) (by decide)
    ·replace a:=Ax a g4;refine Au rfl g4<|cn<|Ag<|cr<|wD (fun st=>Ae (eR st) (Gm _ _)) ?_;have g5:=(jB.ext fB);refine wD (fun st=>Ah (v:=.slice aC g.Ap.length aD) H8 (eR st) g5 rfl)<|wD (fun st=>Bm Tryz.underlying24 (eR st))<|wM (v:=.slice bG bF.1.length bH) rfl<|wD (fun st=>Bm Tryz.underlying31 (eR st)) ?_;replace a:=AK a;obtain⟨m5,a⟩:=a;refine wD (fun st=>BF (eR st) (eR st) m5)<|wD (fun st=>GX (eR st) (eR st))<|wn ?_;rcases Af (decide ((5:Int)<((g.Ap.length:Int)+(bF.1.length:Int)))) with fE|fE
     ·replace a:=Aw a fE;refine Ak rfl fE<|Ag<|Aj ?_;replace a:=bind_some a;obtain⟨mL,m6,a⟩:=a;refine wE (fun st=>Az MU (eR st) Hr (a7 b9 ZA _ mL m6)) ?_;rintro _ rD ⟨m7,rfl⟩;have m8:=jC.ext m7;refine wA (v:=.bool mL) rfl<|wn<|Am<|AN ?_;have cU:=oi a;refine Ar rfl rfl ?_;exact⟨m8.Bb,congrArg Value.bool cU⟩
     ·replace a:=Ax a fE;refine Au rfl fE<|cn<|cr<|wM (v:=.slice c7 dR.length c8) rfl<|wM (v:=.int .u16 mQ) mS ?_;replace a:=KB a;obtain⟨m9,a⟩:=a;refine wD (fun st=>Mx (k:=.i64) XT Tryz.underlying3 (eR st) m9)<|wM (v:=.slice c7 dR.length c8) rfl<|wD (fun st=>Bm Tryz.underlying23 (eR st)) ?_;replace a:=JI a;obtain⟨kJ,a⟩:=a;refine wD (fun st=>Mw (eR st) (eR st) kJ.1 kJ.2) ?_;replace a:=Bg a;obtain⟨i34,bP,nA,nB,nC,a⟩:=a;obtain⟨rE,rF,_,nD,⟨bQ,bR,rfl,kK⟩,nE⟩:=Sl.CZ eQ rfl nB;refine wD (fun st=>Bx (k:=i34) Tryz.underlying23 F2 (eR st) nD (eR st) nA nC)<|wD (fun st=>BN (v:=.slice bQ bP.length bR) Dj (eR st) nE rfl)<|wA (v:=.slice bQ bP.length bR) rfl<|wr<|wD (fun st=>AQ (l:=(An j m o p aC aD g)) FK (eR st) g5 rfl rfl)<|wE (fun st=>BZ (cs:= #[.slice none 0 0,.slice none 0 0,.slice none 0 0]) VR rfl) ?_;rintro _ rG ⟨bD,rfl,c9⟩;have eS:=jC.nb c9;have p5:=jC.BD c9;refine Bv rfl rfl (fun st=>Bj (n:=3) (l:=(An j m o p aC aD g)) (Cn:=(An j m o p aC aD g).toArray) (eR st) (eR st) XU c9.bk rfl rfl (show 0+3≤3 by decide) (AT rfl) rfl) ?_;rintro _ rH d6;have kL:=eS.gr d6.gr 0 rfl;refine wr<|wE (fun st=>BT (e:=46) (vs:= #[]) (cs:= #[]) TB (by kernel_rfl)) ?_;rintro _ p6 ⟨mM,rfl,cW⟩;have cX:=kL.nb cW;have kM:=kL.BD cW;refine wD (fun st=>Ae (eR st) (Gm _ _)) ?_;have hM:=(((g5.ext c9.gr).gr d6.gr (eS.nq 1 0)).ext cW.gr);refine wD (fun st=>Ah (v:=.slice aC g.Ap.length aD) H8 (eR st) hM rfl) ?_;have nF:Bd AG 46 w.heap.size p6 (zf Z w [some mM,some bD,some b1]) (some ⟨mM,0,none⟩) 0 ([]:List Bq):=H4 (Bu:=[]) cW.bk kM trivial rfl (by simp[maxLen]);replace a:=C1 a;obtain⟨kN,a⟩:=a;have fF:=((((gP.mv (Ab fB)).mv (Aq c9)).mv (eS.AV d6.gr 0 rfl)).mv (Aq cW));refine wE (fun st=>G5 (ys:=g.Ap) Tryz.underlying24 Nl rfl rfl (by decide) (eR st) rfl (eR st) nF fF.n (by have:=kN;simp only[maxLen];omega) (by have:=kN;omega) cX.sz) ?_;rintro _ rI ⟨kP,kQ,rfl,dA,eT,nG⟩;have dB:=cX.row dA 0 rfl eT;have nH:=DW nG (cX.Cm dA 0 rfl (fun k hk=>(eT k hk).1));refine wD (fun st=>Ae (eR st) (Gm _ _)) ?_;have jR:=((d6.bk.ext cW.gr).gr dA (cX.nq 1 0));refine Bv rfl rfl (fun st=>Bj (n:=1) (l:=[.slice kP ((([]:List Bq)++g.Ap).length) kQ]) (Cn:= #[.slice j g.Ac.length m,.slice o g.Ai.length p,.slice kP ((([]:List Bq)++g.Ap).length) kQ]) (eR st) (eR st) Q1 jR rfl rfl (show 2+1≤3 by decide) (AT rfl) rfl) ?_;rintro _ rJ cY;have nI:=dB.gr cY.gr 1 rfl;refine wn<|Ag<|cr<|wA (v:=I 0) rfl<|wn<|AL ?_;replace a:=bind_some a;obtain⟨kR,eU,a⟩:=a;refine B2 (fun g6 aK a0=>(g6=.ret∧∃cG,kR=.inl cG∧∃(dS:Option Addr) (f3:Nat),Fo X0 239 aK∧sl aK 10=.bool cG.1∧Hp FN [] w [ob dS,some bD,some b1] a0)∨(g6=.exit 0∧∃cG,kR=.inr cG∧∃a2 bL,Fo X0 239 aK∧sl aK 3=.int .u8 dQ∧sl aK 4=.int .u8 b6∧sl aK 5=pt b1 0∧sl aK 11=I (cS%101)∧sl aK 15=.slice bQ bP.length bR∧sl aK 16=pt bD 0∧Hp FN [] w [ob a2,some bD,some b1] a0∧(fun cF=>Bd AG 46 w.heap.size a0 cF a2 bL cG∧Bk a0 b1 26 (An j m o p aC aD g).toArray∧Bk a0 bD 26 #[.slice j g.Ac.length m,.slice o g.Ai.length p,.slice a2 cG.length bL]∧Sl Ay a0 cF j m g.Ac∧Sl (BJ (Ao .i64)) a0 cF o p g.Ai∧Sl AG a0 cF aC aD g.Ap∧Sl (Ao .i64) a0 cF bQ bR bP) (zf Z w [ob a2,some bD,some b1]))) ?nJ ?nK
      case nJ=>
       clear a;refine BY (fun hN aK a0=>∃aU,∃aE,∃aX bI,CU b9 g bF bP hN aU aE=some kR∧Fo X0 239 aK∧sl aK 3=.int .u8 dQ∧sl aK 4=.int .u8 b6∧sl aK 5=pt b1 0∧sl aK 11=I (cS%101)∧sl aK 12=.slice bG bF.1.length bH∧sl aK 15=.slice bQ bP.length bR∧sl aK 16=pt bD 0∧sl aK 17=I aU∧Hp FN [] w [ob aX,some bD,some b1] a0∧(fun cF=>Bd AG 46 w.heap.size a0 cF aX bI aE∧Bk a0 b1 26 (An j m o p aC aD g).toArray∧Bk a0 bD 26 #[.slice j g.Ac.length m,.slice o g.Ai.length p,.slice aX aE.length bI]∧Sl Ay a0 cF j m g.Ac∧Sl (BJ (Ao .i64)) a0 cF o p g.Ai∧Sl AG a0 cF aC aD g.Ap∧Sl (Ao .i64) a0 cF bG bH bF.1∧Sl (Ao .i64) a0 cF bQ bR bP) (zf Z w [ob aX,some bD,some b1])) b9 ?nL ?nM
       case nL=>
        intro st;have jS:=(nH.gr cY.gr (fun k hk=>dB.ne 0 1 rfl (congrArg some hk) rfl) (dB.AV cY.gr 1 rfl));have kS:=((hM.gr dA (cX.nq 2 0)).gr cY.gr (dB.nq 2 1));have ⟨iI,iJ⟩:=KS gN gO (mt (Ab fB) (mt (Aq c9) (mt (eS.AV d6.gr 0 rfl) (mt (Aq cW) (mt (cX.Cm dA 0 rfl (fun k hk=>(eT k hk).1)) (dB.AV cY.gr 1 rfl))))));have iK:=((fF.mv (cX.Cm dA 0 rfl (fun k hk=>(eT k hk).1))).mv (dB.AV cY.gr 1 rfl));have g7:=((((((eP.mv (Ab fB)).mv (Aq c9)).mv (eS.AV d6.gr 0 rfl)).mv (Aq cW)).mv (cX.Cm dA 0 rfl (fun k hk=>(eT k hk).1))).mv (dB.AV cY.gr 1 rfl));have hO:=(((((kK.mv (Aq c9)).mv (eS.AV d6.gr 0 rfl)).mv (Aq cW)).mv (cX.Cm dA 0 rfl (fun k hk=>(eT k hk).1))).mv (dB.AV cY.gr 1 rfl));exact⟨(0:Int),(([]:List Bq)++g.Ap),kP,kQ,eU,qo st,sp st 3 mU,sp st 4 mV,sp st 5 rfl,sp st 11 rfl,sp st 12 rfl,sp st 15 rfl,sp st 16 rfl,sp st 17 rfl,nI,jS,kS,cY.bk,iI,iJ,iK,g7,hO⟩
       case nM=>
        rintro(_|hN) qW qX ⟨aU,aE,aX,bI,eU,lQ,fG,fH,cA,eV,bU,dO,bV,bW,kT,b5,eW,d7,dC,dD,dE,dT,eG⟩
        ·exact absurd (show none=some _ from eU) (by simp)
        rw[CU.eq_2] at eU;have a:=eU;clear eU;refine ro lQ<|Ag<|cr<|wM (v:=I aU) bW<|wM (v:=.slice bG bF.1.length bH) bU<|wD (fun st=>Bm Tryz.underlying31 (eR st))<|wD (fun st=>Cs (eR st) (eR st))<|wn ?_;rcases Af (decide (aU<(bF.1.length:Int))) with fI|fI
        ·replace a:=Aw a fI;refine Ak rfl fI<|cn<|Ag<|AL<|Ag<|Ag ?_;replace a:=Bg a;obtain⟨i45,mN,nN,nO,nP,a⟩:=a;obtain⟨p7,p8,_,nQ,rfl,nR⟩:=Sl.CZ dT rfl nO;replace a:=bind_some a;obtain⟨jD,nS,a⟩:=a;replace a:=AK a;obtain⟨nT,a⟩:=a;refine Cl 7 [Kc (.slice bG bF.1.length bH),Kc (I aU),Kc (pt p7 (p8+i45)),Kc (I mN),Kc (.agg (An j m o p aC aD g).toArray),Kc (I jD),Kc (I (jD-1))] mixed rfl rfl
             (Aa (oD (fun K=>Ba (es ((K.out 12 rfl).trans bU))))
             (Aa (oD (fun K=>Ba (es ((K.out 17 rfl).trans bW))))
             (Aa (oD (fun K=>Bx (k:=i45) Tryz.underlying31 Dm (es (K.dq 0 94)) nQ (es (K.dq 1 95)) nN nP))
             (Aa (oD (fun K=>BN Bs (es (K.dq 2 96)) (nR.mv (Ab K.Bo)) rfl))
             (Aa (oD (fun K=>AQ (l:=(An j m o p aC aD g)) FK (es ((K.out 5 rfl).trans cA)) (eW.ext K.Bo) rfl rfl))
             (Aa (oE (fun K=>(Az Xg rfl (Ct (es (K.dq 4 98))) (a12 b9 g j m o p aC aD ZA _ (dC.mv (Ab K.Bo)).all (dD.mv (Ab K.Bo)).all (dE.mv (Ab K.Bo)).all jD nS)).mono (fun _ _ h=>⟨h.2,h.1⟩)))
             (Aa (oD (fun K=>Hd (es (K.dq 5 99)) (ec (v:=I 1)) nT))
             (Cg _)))))))) ?_
         intro rK;rintro _ rfl _ rfl _ rfl _ rfl _ rfl _ rfl _ rfl cH;have nU:=kT.ext cH;replace a:=bind_some a;obtain⟨jE,nV,a⟩:=a;refine wE (fun st=>Az JS (eR st) (F9 (eR st) (eR st) (eR st)) (Pa b9 mN 0 (jD-1) ZA _ jE nV)) ?_;rintro _ rL ⟨cI,rfl⟩;have kU:=nU.ext cI;refine wD (fun st=>Cv (eR st))<|wn ?_;rcases Af (!jE) with d8|d8
         ·replace a:=Aw a d8;have pU:jE=false:=by simpa using d8
          refine Ak rfl d8<|cr<|wA (v:=.bool false) rfl<|wn<|Am<|AN<|C5<|AN ?_;obtain rfl:=oi a;refine BH (fun st=>?_);exact .inl ⟨rfl,(false,aE),rfl,aX,bI,qo st,sp st 10 rfl,kU⟩
         ·replace a:=Ax a d8;have pV:jE=true:=by simpa using d8
          refine Au rfl d8<|cn<|Ag ?_;have hP:=((eW.ext cH).ext cI);replace a:=Bg a;obtain⟨i54,mO,nW,nX,nY,a⟩:=a;have eH:=((dT.mv (Ab cH)).mv (Ab cI));obtain⟨p9,qA,_,nZ,rfl,n0⟩:=Sl.CZ eH rfl nX;refine Cl 6 [Kc (.agg (An j m o p aC aD g).toArray),Kc (.slice bQ bP.length bR),Kc (.slice bG bF.1.length bH),Kc (I aU),Kc (pt p9 (qA+i54)),Kc (I mO)] mixed rfl rfl
              (Aa (oD (fun K=>AQ (l:=(An j m o p aC aD g)) FK (es ((K.out 5 rfl).trans cA)) (hP.ext K.Bo) rfl rfl))
              (Aa (oD (fun K=>Ba (es ((K.out 15 rfl).trans dO))))
              (Aa (oD (fun K=>Ba (es ((K.out 12 rfl).trans bU))))
              (Aa (oD (fun K=>Ba (es ((K.out 17 rfl).trans bW))))
              (Aa (oD (fun K=>Bx (k:=i54) Tryz.underlying31 Dm (es (K.dq 2 105)) nZ (es (K.dq 3 106)) nW nY))
              (Aa (oD (fun K=>BN Bs (es (K.dq 4 107)) (n0.mv (Ab K.Bo)) rfl))
              (Cg _))))))) ?_
          intro rM;rintro _ rfl _ rfl _ rfl _ rfl _ rfl _ rfl cJ;have n1:=kU.ext cJ;have ⟨d9,eA,eB,dF⟩:=E1 dC dD dE eG (mt (Ab cH) (mt (Ab cI) (Ab cJ)));replace a:=bind_some a;obtain⟨i,n2,a⟩:=a;refine wE (fun st=>Az O5 (eR st) (F9 (eR st) (eR st) (eR st)) (Xp b9 g bP mO j m o p aC aD bQ bR ZA _ d9.all eA.all eB.all dF.all i n2)) ?_;rintro _ qB ⟨bX,rfl⟩;have iL:=n1.ext bX;refine wA (v:=I i) rfl<|wn<|Ag ?_;replace a:=Bg a;obtain⟨i58,bB,n3,n4,n5,a⟩:=a;have b7:=((eH.mv (Ab cJ)).mv (Ab bX));obtain⟨qC,qD,_,n6,rfl,n7⟩:=Sl.CZ b7 rfl n4;have fJ:=((hP.ext cJ).ext bX);replace a:=Bg a;obtain⟨i59,bE,n8,n9,oA,a⟩:=a;obtain⟨qE,qF,_,oB,rfl,oC⟩:=Sl.CZ b7 rfl n9;refine Cl 17 [Kc (.slice bG bF.1.length bH),Kc (I aU),Kc (pt qC (qD+i58)),Kc (I bB),Kc (pt b1 0),Kc (.slice j g.Ac.length m),Kc (I (g.Ac.length:Int)),Kc (.bool (decide ((g.Ac.length:Int)≤bB))),Kc (.slice bG bF.1.length bH),Kc (I aU),Kc (pt qE (qF+i59)),Kc (I bE),Kc (I i),Kc (I i),Kc (.agg #[I i,I i]),Kc (.agg #[.bool (decide ((g.Ac.length:Int)≤bB)),I bE,I i,I i]),Kn qB.heap.size (fun b=>.pointer (some ⟨b,0,none⟩)) 46 #[.bool false,I 0,I 0,I 0]] mixed rfl rfl
              (Aa (oD (fun K=>Ba (es ((K.out 12 rfl).trans bU))))
              (Aa (oD (fun K=>Ba (es ((K.out 17 rfl).trans bW))))
              (Aa (oD (fun K=>Bx (k:=i58) Tryz.underlying31 Dm (es (K.dq 0 110)) n6 (es (K.dq 1 111)) n3 n5))
              (Aa (oD (fun K=>BN Bs (es (K.dq 2 112)) (n7.mv (Ab K.Bo)) rfl))
              (Aa (oD (fun K=>Ae (es ((K.out 5 rfl).trans cA)) (Es _ _)))
              (Aa (oD (fun K=>Ah Fs (es (K.dq 4 114)) (fJ.ext K.Bo) rfl))
              (Aa (oD (fun K=>Bm Tryz.underlying22 (es (K.dq 5 115))))
              (Aa (oD (fun K=>Ip (es (K.dq 3 113)) (es (K.dq 6 116))))
              (Aa (oD (fun K=>Ba (es ((K.out 12 rfl).trans bU))))
              (Aa (oD (fun K=>Ba (es ((K.out 17 rfl).trans bW))))
              (Aa (oD (fun K=>Bx (k:=i59) Tryz.underlying31 Dm (es (K.dq 8 118)) oB (es (K.dq 9 119)) n8 oA))
              (Aa (oD (fun K=>BN Bs (es (K.dq 10 120)) (oC.mv (Ab K.Bo)) rfl))
              (Aa (oD (fun K=>Ba (K.kO 18)))
              (Aa (oD (fun K=>Ba (K.kO 18)))
              (Aa (oD (fun K=>DV (vs:= #[(0,I i),(1,I i)]) (v:=.agg #[I i,I i]) (IV (es (K.dq 12 122)) (es (K.dq 13 123))) (by kernel_rfl)))
              (Aa (oD (fun K=>DV (vs:= #[(0,.bool (decide ((g.Ac.length:Int)≤bB))),(1,I bE),(2,.agg #[I i,I i])]) (v:=.agg #[.bool (decide ((g.Ac.length:Int)≤bB)),I bE,I i,I i]) (V1 (es (K.dq 7 117)) (es (K.dq 11 121)) (es (K.dq 14 124))) (by kernel_rfl)))
              (Aa (oE (fun K=>(BZ (cs:= #[.bool false,I 0,I 0,I 0]) Nj rfl).mono (fun u Bi qY=>TF (K.Bo).size qY)))
              (Cg _)))))))))))))))))) ?_
          intro rN;rintro _ rfl _ rfl _ rfl _ rfl _ rfl _ rfl _ rfl _ rfl _ rfl _ rfl _ rfl _ rfl _ rfl _ rfl _ rfl _ rfl _ ⟨jT,rfl,aT,e4⟩ bM;have oF:=iL.ext bM;have bN:=iL.PE oF aT e4.lt;have lR:w.heap.size≤jT:=Nat.le_trans iL.sz aT;refine Bv rfl rfl (fun st=>Bj (n:=4) (l:=[.bool (decide ((g.Ac.length:Int)≤bB)),I bE,I i,I i]) (Cn:= #[.bool (decide ((g.Ac.length:Int)≤bB)),I bE,I i,I i]) (eR st) (eR st) LP e4 rfl rfl (show 0+4≤4 by decide) (AT rfl) rfl) ?_;rintro _ rO bC;have cK:=bN.gr bC.gr 0 rfl;refine wn<|Ag<|cr<|wD (fun st=>Ae (eR st) (LQ _ _))<|wD (fun st=>Ah (v:=.bool (decide ((g.Ac.length:Int)≤bB))) Jx (eR st) bC.bk rfl)<|wn ?_;rcases Af (decide ((g.Ac.length:Int)≤bB)) with fK|fK
          ·replace a:=Aw a fK;refine Ak rfl fK<|Aj<|wD (fun st=>Ae (eR st) (JB _ _))<|wD (fun st=>Ah (v:=I bE) Bs (eR st) bC.bk rfl)<|wD (fun st=>Ae (ee st cA) (Es _ _)) ?_;have hQ:=((fJ.ext bM).gr bC.gr (bN.nq 3 0));refine wD (fun st=>Ah (v:=.slice j g.Ac.length m) Fs (eR st) hQ rfl)<|wD (fun st=>Bm Tryz.underlying22 (eR st)) ?_;replace a:=AK a;obtain⟨oH,a⟩:=a;refine wD (fun st=>Hd (eR st) (eR st) oH)<|wD (fun st=>Ae (eR st) (JB _ _))<|Bv rfl rfl (fun st=>Bj (n:=1) (l:=[I (bE-(g.Ac.length:Int))]) (Cn:= #[.bool (decide ((g.Ac.length:Int)≤bB)),I (bE-(g.Ac.length:Int)),I i,I i]) (eR st) (eR st) Dm bC.bk rfl rfl (show 1+1≤4 by decide) (AT rfl) rfl) ?_;rintro _ rP cZ;have kV:=cK.gr cZ.gr 0 rfl;refine wn<|Aj<|wD (fun st=>Ae (ee st bV) (Gm _ _)) ?_;have gQ:=(((((((d7.ext cH).ext cI).ext cJ).ext bX).ext bM).gr bC.gr (bN.nq 2 0)).gr cZ.gr (cK.nq 2 0));refine wD (fun st=>Ah (v:=.slice aX aE.length bI) H8 (eR st) gQ rfl)<|wD (fun st=>AQ (l:=[.bool (decide ((g.Ac.length:Int)≤bB)),I (bE-(g.Ac.length:Int)),I i,I i]) Lu (eR st) cZ.bk rfl rfl)<|wE (fun st=>BT (e:=46) (vs:= #[(0,.agg #[.bool (decide ((g.Ac.length:Int)≤bB)),I (bE-(g.Ac.length:Int)),I i,I i])]) (cs:= #[.bool (decide ((g.Ac.length:Int)≤bB)),I (bE-(g.Ac.length:Int)),I i,I i]) (HC (eR st)) (by kernel_rfl)) ?_;rintro _ rQ ⟨rR,rfl,cL⟩;have dG:=kV.nb cL;have qG:=kV.BD cL;have fL:=((((((((b5.ext cH (Ab cH)).ext cI (Ab cI)).ext cJ (Ab cJ)).ext bX (Ab bX)).ext bM (Hn (Ab bM) aT)).gr bC.gr (fun k hk=>bN.ne 1 0 rfl (congrArg some hk) rfl) (bN.AV bC.gr 0 rfl)).gr cZ.gr (fun k hk=>cK.ne 1 0 rfl (congrArg some hk) rfl) (cK.AV cZ.gr 0 rfl)).ext cL.gr (Aq cL));replace a:=C1 a;obtain⟨kW,a⟩:=a;refine wE (fun st=>IB (ys:=[(⟨decide ((g.Ac.length:Int)≤bB),bE-(g.Ac.length:Int),i,i⟩:Bq)]) Tryz.underlying24 Nl rfl rfl (by decide) (eR st) rfl (eR st) fL (IM (Bu:=[[.bool (decide ((g.Ac.length:Int)≤bB)),I (bE-(g.Ac.length:Int)),I i,I i]]) cL.bk ⟨rfl,trivial⟩ rfl) (by have:=kW;simp only[maxLen];omega) (by have:=kW;omega) dG.sz (by simp)) ?_;rintro _ rS ⟨kX,kY,rfl,eC,fM,oI⟩;have eD:=dG.row eC 2 rfl fM;have oJ:=DW oI (dG.Cm eC 2 rfl (fun k hk=>(fM k hk).1));refine wD (fun st=>Ae (ee st bV) (Gm _ _)) ?_;have jU:=((gQ.ext cL.gr).gr eC (dG.nq 3 2));refine Bv rfl rfl (fun st=>Bj (n:=1) (l:=[.slice kX ((aE++[(⟨decide ((g.Ac.length:Int)≤bB),bE-(g.Ac.length:Int),i,i⟩:Bq)]).length) kY]) (Cn:= #[.slice j g.Ac.length m,.slice o g.Ai.length p,.slice kX ((aE++[(⟨decide ((g.Ac.length:Int)≤bB),bE-(g.Ac.length:Int),i,i⟩:Bq)]).length) kY]) (eR st) (eR st) Q1 jU rfl rfl (show 2+1≤3 by decide) (AT rfl) rfl) ?_;rintro _ rT dH;have oK:=eD.gr dH.gr 3 rfl;refine AZ<|De<|Aj<|wM (v:=I aU) bW ?_;replace a:=AK a;obtain⟨oL,a⟩:=a;refine wD (fun st=>BF (eR st) (eR st) oL)<|wA (v:=I (aU+1)) rfl<|AZ ?_;have oM:=oK.erase 0;have oN:=oM.erase 0;have jV:=(((oJ.gr dH.gr (fun k hk=>eD.ne 2 3 rfl (congrArg some hk) rfl) (eD.AV dH.gr 3 rfl)).up (Al 0)).up (Al 0));have kZ:=((((hQ.gr cZ.gr (cK.nq 3 0)).ext cL.gr).gr eC (dG.nq 4 2)).gr dH.gr (eD.nq 4 3));have jW:=dH.bk;have ⟨iM,iN,iO⟩:=Dd d9 eA eB (mt (Ab bX) (mt (Hn (Ab bM) aT) (mt (bN.AV bC.gr 0 rfl) (mt (cK.AV cZ.gr 0 rfl) (mt (Aq cL) (mt (dG.Cm eC 2 rfl (fun k hk=>(fM k hk).1)) (mt (eD.AV dH.gr 3 rfl) (mt (Al 0) (Al 0)))))))));have g8:=((((((((b7.mv (Hn (Ab bM) aT)).mv (bN.AV bC.gr 0 rfl)).mv (cK.AV cZ.gr 0 rfl)).mv (Aq cL)).mv (dG.Cm eC 2 rfl (fun k hk=>(fM k hk).1))).mv (eD.AV dH.gr 3 rfl)).mv (Al 0)).mv (Al 0));have hR:=(((((((((dF.mv (Ab bX)).mv (Hn (Ab bM) aT)).mv (bN.AV bC.gr 0 rfl)).mv (cK.AV cZ.gr 0 rfl)).mv (Aq cL)).mv (dG.Cm eC 2 rfl (fun k hk=>(fM k hk).1))).mv (eD.AV dH.gr 3 rfl)).mv (Al 0)).mv (Al 0));refine By hN (Nat.lt_succ_self _) (fun st=>?_);exact⟨(aU+1),(aE++[(⟨decide ((g.Ac.length:Int)≤bB),bE-(g.Ac.length:Int),i,i⟩:Bq)]),kX,kY,a,qo st,sp st 3 fG,sp st 4 fH,sp st 5 cA,sp st 11 eV,sp st 12 bU,sp st 15 dO,sp st 16 bV,sp st 17 rfl,oN,jV,kZ,jW,iM,iN,iO,g8,hR⟩
          ·replace a:=Ax a fK;refine Au rfl fK<|cn<|Aj<|wD (fun st=>Ae (ee st bV) (Gm _ _)) ?_;have gR:=((((((d7.ext cH).ext cI).ext cJ).ext bX).ext bM).gr bC.gr (bN.nq 2 0));refine wD (fun st=>Ah (v:=.slice aX aE.length bI) H8 (eR st) gR rfl)<|wD (fun st=>AQ (l:=[.bool (decide ((g.Ac.length:Int)≤bB)),I bE,I i,I i]) Lu (eR st) bC.bk rfl rfl)<|wE (fun st=>BT (e:=46) (vs:= #[(0,.agg #[.bool (decide ((g.Ac.length:Int)≤bB)),I bE,I i,I i])]) (cs:= #[.bool (decide ((g.Ac.length:Int)≤bB)),I bE,I i,I i]) (HC (eR st)) (by kernel_rfl)) ?_;rintro _ rU ⟨rV,rfl,cM⟩;have dI:=cK.nb cM;have qH:=cK.BD cM;have fN:=(((((((b5.ext cH (Ab cH)).ext cI (Ab cI)).ext cJ (Ab cJ)).ext bX (Ab bX)).ext bM (Hn (Ab bM) aT)).gr bC.gr (fun k hk=>bN.ne 1 0 rfl (congrArg some hk) rfl) (bN.AV bC.gr 0 rfl)).ext cM.gr (Aq cM));replace a:=C1 a;obtain⟨k0,a⟩:=a;refine wE (fun st=>IB (ys:=[(⟨decide ((g.Ac.length:Int)≤bB),bE,i,i⟩:Bq)]) Tryz.underlying24 Nl rfl rfl (by decide) (eR st) rfl (eR st) fN (IM (Bu:=[[.bool (decide ((g.Ac.length:Int)≤bB)),I bE,I i,I i]]) cM.bk ⟨rfl,trivial⟩ rfl) (by have:=k0;simp only[maxLen];omega) (by have:=k0;omega) dI.sz (by simp)) ?_;rintro _ rW ⟨k1,k2,rfl,eE,fO,oO⟩;have eF:=dI.row eE 2 rfl fO;have oP:=DW oO (dI.Cm eE 2 rfl (fun k hk=>(fO k hk).1));refine wD (fun st=>Ae (ee st bV) (Gm _ _)) ?_;have jX:=((gR.ext cM.gr).gr eE (dI.nq 3 2));refine Bv rfl rfl (fun st=>Bj (n:=1) (l:=[.slice k1 ((aE++[(⟨decide ((g.Ac.length:Int)≤bB),bE,i,i⟩:Bq)]).length) k2]) (Cn:= #[.slice j g.Ac.length m,.slice o g.Ai.length p,.slice k1 ((aE++[(⟨decide ((g.Ac.length:Int)≤bB),bE,i,i⟩:Bq)]).length) k2]) (eR st) (eR st) Q1 jX rfl rfl (show 2+1≤3 by decide) (AT rfl) rfl) ?_;rintro _ rX dJ;have oQ:=eF.gr dJ.gr 3 rfl;refine AZ<|De<|Aj<|wM (v:=I aU) bW ?_;replace a:=AK a;obtain⟨oR,a⟩:=a;refine wD (fun st=>BF (eR st) (eR st) oR)<|wA (v:=I (aU+1)) rfl<|AZ ?_;have oS:=oQ.erase 0;have oU:=oS.erase 0;have jY:=(((oP.gr dJ.gr (fun k hk=>eF.ne 2 3 rfl (congrArg some hk) rfl) (eF.AV dJ.gr 3 rfl)).up (Al 0)).up (Al 0));have k3:=(((((fJ.ext bM).gr bC.gr (bN.nq 3 0)).ext cM.gr).gr eE (dI.nq 4 2)).gr dJ.gr (eF.nq 4 3));have jZ:=dJ.bk;have ⟨iP,iQ,iR⟩:=Dd d9 eA eB (mt (Ab bX) (mt (Hn (Ab bM) aT) (mt (bN.AV bC.gr 0 rfl) (mt (Aq cM) (mt (dI.Cm eE 2 rfl (fun k hk=>(fO k hk).1)) (mt (eF.AV dJ.gr 3 rfl) (mt (Al 0) (Al 0))))))));have g9:=(((((((b7.mv (Hn (Ab bM) aT)).mv (bN.AV bC.gr 0 rfl)).mv (Aq cM)).mv (dI.Cm eE 2 rfl (fun k hk=>(fO k hk).1))).mv (eF.AV dJ.gr 3 rfl)).mv (Al 0)).mv (Al 0));have hS:=((((((((dF.mv (Ab bX)).mv (Hn (Ab bM) aT)).mv (bN.AV bC.gr 0 rfl)).mv (Aq cM)).mv (dI.Cm eE 2 rfl (fun k hk=>(fO k hk).1))).mv (eF.AV dJ.gr 3 rfl)).mv (Al 0)).mv (Al 0));refine By hN (Nat.lt_succ_self _) (fun st=>?_);exact⟨(aU+1),(aE++[(⟨decide ((g.Ac.length:Int)≤bB),bE,i,i⟩:Bq)]),k1,k2,a,qo st,sp st 3 fG,sp st 4 fH,sp st 5 cA,sp st 11 eV,sp st 12 bU,sp st 15 dO,sp st 16 bV,sp st 17 rfl,oU,jY,k3,jZ,iP,iQ,iR,g9,hS⟩
        ·replace a:=Ax a fI;refine Au rfl fI<|D3 ?_;obtain rfl:=oi a;refine BH (fun st=>?_);exact .inr ⟨rfl,aE,rfl,aX,bI,qo st,sp st 3 fG,sp st 4 fH,sp st 5 cA,sp st 11 eV,sp st 15 dO,sp st 16 bV,kT,b5,eW,d7,dC,dD,dE,eG⟩
      case nK=>
       rintro g6 qU qZ (⟨rfl,cG,rfl,dS,f3,fP,iS,e8⟩|⟨rfl,cG,rfl,a2,bL,fP,j0,j1,gS,iT,iU,iV,e8,eI,j2,iW,hT,hU,hV,hA⟩)
       ·skip
        replace a:=C7 a;refine lf fP<|C5 ?_;have cU:=oi a;refine Ar rfl iS ?_;exact⟨e8.Bb,congrArg Value.bool cU⟩
       ·skip
        replace a:=C8 a;refine lf fP<|Bc<|BI<|cr<|wD (fun st=>AQ (l:=[.slice j g.Ac.length m,.slice o g.Ai.length p,.slice a2 cG.length bL]) FK (ee st iV) iW rfl rfl) ?_;have k4:=e8.erase 0;have e6:=e8.MB 0 rfl eI;have ⟨fQ,fR⟩:=KS hT hU (Al 0);replace a:=bind_some a;obtain⟨y,oW,a⟩:=a;refine wE (fun st=>Az T0 (eR st) (Ct (eR st)) (a9 b9 (⟨g.Ac,g.Ai,cG⟩:Av) j m o p a2 bL (zf Z w [some bD,some b1]) _ fQ fR e6 y oW)) ?_;rintro _ rY ⟨fS,⟨_,rfl,⟨aL,aM,aN,aO,aP,aQ,rfl,c0,c1,c2⟩⟩⟩;have k5:=k4.ext fS;have ⟨c0,c1,c2⟩:=Dd c0 c1 c2 (k4.Ic (Nat.le_refl _));refine wM (v:=.int .u8 b6) j1 ?_;replace a:=KB a;obtain⟨oY,a⟩:=a;refine wD (fun st=>Mx (k:=.i64) Tu Tryz.underlying3 (eR st) oY) ?_;replace a:=JI a;obtain⟨k6,a⟩:=a;refine wD (fun st=>Mw (eR st) (eR st) k6.1 k6.2)<|wM (v:=I (cS%101)) iT<|wM (v:=.int .u8 dQ) j0 ?_;replace a:=KB a;obtain⟨oZ,a⟩:=a;refine wD (fun st=>Mx (k:=.i64) Tu Tryz.underlying3 (eR st) oZ) ?_;replace a:=JI a;obtain⟨k7,a⟩:=a;refine wD (fun st=>Mw (eR st) (eR st) k7.1 k7.2)<|wD (fun st=>DV (vs:= #[(0,I (cS%101)),(1,I (dQ%101))]) (v:=.agg #[I (cS%101),I (dQ%101)]) (IV (eR st) (eR st)) (by kernel_rfl))<|wE (fun st=>BT (e:=48) (vs:= #[(0,.agg #[I (cS%101),I (dQ%101)])]) (cs:= #[I (cS%101),I (dQ%101)]) (HC (eR st)) (by kernel_rfl)) ?_;rintro _ rZ ⟨cB,rfl,c3⟩;have k8:=k5.nb c3;have k9:=k5.BD c3;refine wD (fun st=>DV (vs:= #[(0,.agg (An aL aM aN aO aP aQ y).toArray),(1,I (b6%101)),(2,.slice (some ⟨cB,0,none⟩) 1 1)]) (v:=.agg #[.slice aL y.Ac.length aM,.slice aN y.Ai.length aO,.slice aP y.Ap.length aQ,I (b6%101),.slice (some ⟨cB,0,none⟩) 1 1,.slice none 0 0,.slice none 0 0]) (V1 (eR st) (eR st) (eR st)) (by kernel_rfl))<|wE (fun st=>BZ (cs:= #[.slice none 0 0,.slice none 0 0,.slice none 0 0,I 0,.slice none 0 0,.slice none 0 0,.slice none 0 0]) VN rfl) ?_;rintro _ r0 ⟨bZ,rfl,cN⟩;have dK:=k8.nb cN;have qI:=k8.BD cN;refine Bv rfl rfl (fun st=>Bj (n:=7) (l:=[.slice aL y.Ac.length aM,.slice aN y.Ai.length aO,.slice aP y.Ap.length aQ,I (b6%101),.slice (some ⟨cB,0,none⟩) 1 1,.slice none 0 0,.slice none 0 0]) (Cn:= #[.slice aL y.Ac.length aM,.slice aN y.Ai.length aO,.slice aP y.Ap.length aQ,I (b6%101),.slice (some ⟨cB,0,none⟩) 1 1,.slice none 0 0,.slice none 0 0]) (eR st) (eR st) XP cN.bk rfl rfl (show 0+7≤7 by decide) (AT rfl) rfl) ?_;rintro _ jF cO;have lA:=dK.gr cO.gr 0 rfl;refine wn<|Ag ?_;have o0:=lA.erase 1;have j3:=((c3.bk.ext cN.gr).gr cO.gr (dK.nq 1 0));have hW:Sl BC jF (zf Z w [some bZ,some bD,some b1]) (some ⟨cB,0,none⟩) 1 [(⟨cS%101,dQ%101⟩:B4)]:=IF (e:=BC) (xs:=[(⟨cS%101,dQ%101⟩:B4)]) (Bu:=[[I (cS%101),I (dQ%101)]]) j3 (lA.lit 1 rfl k9) ⟨rfl,trivial⟩ rfl (Nat.le_refl _);have o1:=o0.nil;have j4:=cO.bk;replace a:=C1 a;obtain⟨lB,a⟩:=a;have hX:=(((((((hA.mv (Al 0)).mv (Ab fS)).mv (Aq c3)).mv (Aq cN)).mv (dK.AV cO.gr 0 rfl)).mv (Al 1)).mv Be);have ⟨f4,f5,f6⟩:=Dd c0 c1 c2 (mt (Aq c3) (mt (Aq cN) (mt (dK.AV cO.gr 0 rfl) (mt (Al 1) Be))));have j5:=(hW.mv Be);replace a:=bind_some a;obtain⟨aB,o2,a⟩:=a;obtain⟨qJ,a4⟩:∃r9:(Nat→Bool)→(Nat→Value)→World→Prop,r9=(fun D V a0=>∃(aA:Option Nat) (r:Option Addr) (x:Nat) (c:Option Addr) (d:Nat),Hp FN [] w [aA,some bZ,some bD,some b1] a0∧Ext jF a0∧(∀hY,Mv jF (ZZ FN [] hY w.heap.size [none,some bZ,some bD,some b1]) a0 (ZZ FN [] hY w.heap.size [aA,some bZ,some bD,some b1]))∧(∀e7,aA=some e7→jF.heap.size≤e7)∧(D 1=false→aA=none)∧(D 0=true→V 0=.agg #[.slice aL y.Ac.length aM,.slice aN y.Ai.length aO,.slice aP y.Ap.length aQ,I (b6%101),.slice (some ⟨cB,0,none⟩) 1 1,.slice none 0 0,.slice none 0 0])∧(D 1=true→D 3=false→V 1=.slice r ((([]:List Int)).length) x∧aA=ob r∧Bd (Ao .i64) 3 w.heap.size a0 (zf Z w [aA,some bZ,some bD,some b1]) r x ([]:List Int))∧(D 2=true→V 2=.slice bQ bP.length bR)∧(D 3=true→D 4=false→V 3=.slice r ((([]:List Int)++bP).length) x∧aA=ob r∧Bd (Ao .i64) 3 w.heap.size a0 (zf Z w [aA,some bZ,some bD,some b1]) r x (([]:List Int)++bP))∧(D 4=true→V 4=.tuple #[.slice c aB.1.length d,I aB.2]∧Sl (Ao .i64) a0 (zf Z w [aA,some bZ,some bD,some b1]) c d aB.1)∧(D 5=true→V 5=.tuple #[.slice c aB.1.length d,I aB.2])∧(D 6=true→V 6=.slice c aB.1.length d)∧(D 7=true→V 7=I aB.2)∧(D 8=true→V 8=.slice c aB.1.length d)∧(D 4=true→V 3=.slice r ((([]:List Int)++bP).length) x∧aA=none∧Sl (Ao .i64) a0 (zf Z w [aA,some bZ,some bD,some b1]) r x (([]:List Int)++bP))):=⟨_,rfl⟩;refine Ia 9 qJ mixed rfl rfl (by rw[a4];exact⟨none,none,0,none,0,(o1.ext (B9 _)),B9 _,fun _=>Ab (B9 _),fun _ aS=>(by cases aS),fun _=>rfl,fun aS=>absurd (show false=true from aS) (by decide),fun aS=>absurd (show false=true from aS) (by decide),fun aS=>absurd (show false=true from aS) (by decide),fun aS=>absurd (show false=true from aS) (by decide),fun aS=>absurd (show false=true from aS) (by decide),fun aS=>absurd (show false=true from aS) (by decide),fun aS=>absurd (show false=true from aS) (by decide),fun aS=>absurd (show false=true from aS) (by decide),fun aS=>absurd (show false=true from aS) (by decide),fun aS=>absurd (show false=true from aS) (by decide)⟩)
            ⟨sj (k:=0) rfl (fun D V a' w' K f=>by
                 rw[a4] at f;refine X4 f fun aA r x c f=>f.elim fun d f=>Y8 f fun aV bO bK q aF _ aY aG f=>Y4 f fun aZ z aI aR f=>Y2 f fun aJ aW f=>?_;have s:=f;exact(AQ (l:=[.slice aL y.Ac.length aM,.slice aN y.Ai.length aO,.slice aP y.Ap.length aQ,I (b6%101),.slice (some ⟨cB,0,none⟩) 1 1,.slice none 0 0,.slice none 0 0]) EH (K.kO 20) (j4.ext bO) rfl rfl).mono fun v Bi ⟨dL,dM⟩=>by subst dL;subst dM;rw[a4];exact⟨aA,r,x,c,d,aV,bO,bK,q,aF,fun _=>rfl,aY,aG,aZ,z,aI,aR,aJ,aW,s⟩),
             sj (k:=1) rfl (fun D V a' w' K f=>by
                 rw[a4] at f;refine X4 f fun _ _ _ c f=>f.elim fun d f=>Y8 f fun aV bO bK q aF aH _ aG f=>Y4 f fun _ z aI aR f=>Y2 f fun aJ aW f=>?_;have s:=f;have o3:=aF K.me;subst o3;refine(BT (e:=3) (vs:= #[]) (cs:= #[]) TB (by kernel_rfl)).mono ?_;rintro v Bi ⟨qK,rfl,hB⟩;have dU:=IZ hB;have f7:=hB.gr;rw[a4];exact⟨(ob (some ⟨qK,0,none⟩)),(some ⟨qK,0,none⟩),0,c,d,(aV.row f7 0 rfl dU),(Ext.trans bO f7),(fun hY=>(bK hY).trans (aV.Cm f7 0 rfl (fun e7 eJ=>(dU e7 eJ).1))),(F3 q bO.size dU),fun aS=>absurd (show true=false from aS) (by decide),aH,fun _ _=>⟨rfl,rfl,H4 (Bu:=[]) hB.bk (Nat.le_trans aV.sz (Nat.le_of_eq hB.Dl.symm)) trivial rfl (by simp[maxLen])⟩,aG,fun aS _=>(J6 K.me (K.down 3 _ rfl aS 1 rfl)).elim,fun aS=>⟨(z aS).1,((z aS).2.mv (aV.Cm f7 0 rfl (fun e7 eJ=>(dU e7 eJ).1)))⟩,aI,aR,aJ,aW,fun aS=>(J6 K.me (K.down 3 _ rfl (K.down 4 _ rfl aS 3 rfl) 1 rfl)).elim⟩),
             sj (k:=2) rfl (fun D V a' w' K f=>by
                 rw[a4] at f;refine X4 f fun aA r x c f=>f.elim fun d f=>Y8 f fun aV bO bK q aF aH aY _ f=>Y4 f fun aZ z aI aR f=>Y2 f fun aJ aW f=>?_;have s:=f;exact(Ba (v:=.slice bQ bP.length bR) (es ((K.out 15 rfl).trans iU))).mono fun v Bi ⟨dL,dM⟩=>by subst dL;subst dM;rw[a4];exact⟨aA,r,x,c,d,aV,bO,bK,q,aF,aH,aY,fun _=>rfl,aZ,z,aI,aR,aJ,aW,s⟩),
             sj (k:=3) rfl (fun D V a' w' K f=>by
                 rw[a4] at f;refine X4 f fun _ r x c f=>f.elim fun d f=>Y8 f fun aV bO bK q _ aH aY aG f=>Y4 f fun _ z aI aR f=>Y2 f fun aJ aW f=>?_;have s:=f;obtain⟨lC,j6,lD⟩:=aY (K.dn 1 rfl) K.me;subst j6;have hZ:=aG (K.dn 2 rfl);refine(G5 (ys:=bP) Tryz.underlying31 Im rfl rfl (by decide) (es (t:=155) (v:=.slice r ((([]:List Int)).length) x) ((K.dq 1 155).trans lC)) rfl (es (t:=156) (v:=.slice bQ bP.length bR) ((K.dq 2 156).trans hZ)) lD (hX.mv (bK _)).n (by have:=lB;simp only[maxLen];omega) (by have:=lB;omega) aV.sz).mono ?_;rintro v Bi ⟨mP,qL,rfl,f7,dU,o4⟩;rw[a4];exact⟨(ob mP),mP,qL,c,d,(aV.row f7 0 rfl dU),(KE bO f7 q),(fun hY=>(bK hY).trans (aV.Cm f7 0 rfl (fun e7 eJ=>(dU e7 eJ).1))),(F3 q bO.size dU),fun aS=>absurd (K.dn 1 rfl) (by rw[show D 1=false from aS];decide),aH,fun _ aS=>absurd (show true=false from aS) (by decide),aG,fun _ _=>⟨rfl,rfl,DW o4 (aV.Cm f7 0 rfl (fun e7 eJ=>(dU e7 eJ).1))⟩,fun aS=>⟨(z aS).1,((z aS).2.mv (aV.Cm f7 0 rfl (fun e7 eJ=>(dU e7 eJ).1)))⟩,aI,aR,aJ,aW,fun aS=>(J6 K.me (K.down 4 _ rfl aS 3 rfl)).elim⟩),
             sj (k:=4) rfl (fun D V a' w' K f=>by
                 rw[a4] at f;refine X4 f fun _ r x c f=>f.elim fun d f=>Y8 f fun aV bO bK _ _ aH _ aG f=>Y4 f fun aZ _ _ _ f=>Y2 f fun aJ _ f=>?_;have s:=f;have h3:=aH (K.dn 0 rfl);obtain⟨fT,eX,lE⟩:=aZ (K.dn 3 rfl) K.me;subst eX;have h4:=aV.Yr 0 rfl lE;refine(Az W3 rfl (CP (es (t:=154) (v:=.agg #[.slice aL y.Ac.length aM,.slice aN y.Ai.length aO,.slice aP y.Ap.length aQ,I (b6%101),.slice (some ⟨cB,0,none⟩) 1 1,.slice none 0 0,.slice none 0 0]) ((K.dq 0 154).trans h3)) (es (t:=157) (v:=.slice r ((([]:List Int)++bP).length) x) ((K.dq 3 157).trans fT))) (Zv b9 (⟨y.Ac,y.Ai,y.Ap,b6%101,[(⟨cS%101,dQ%101⟩:B4)],([]:List CL),([]:List CT)⟩:AS) (([]:List Int)++bP) aL aM aN aO aP aQ (some ⟨cB,0,none⟩) 1 none 0 none 0 r x _ _ ((f4.mv (bK _)).mv (aV.Ki 0 rfl)) ((f5.mv (bK _)).mv (aV.Ki 0 rfl)) ((f6.mv (bK _)).mv (aV.Ki 0 rfl)) ((j5.mv (bK _)).mv (aV.Ki 0 rfl)) (Sl.nil BE _ _) (Sl.nil BM _ _) h4 aB o2)).mono ?_;rintro v Bi ⟨hC,⟨_,_,rfl,⟨c,d,rfl,dP⟩,rfl⟩⟩;rw[a4];exact⟨none,r,x,c,d,((aV.Wc 0 rfl).ext hC),(Ext.trans bO hC),(fun hY=>(bK hY).trans (Mv.trans (aV.Ki 0 rfl) (Ab hC))),(fun _ g6=>by cases g6),fun _=>rfl,aH,fun _ aS=>absurd (K.dn 3 rfl) (by rw[show D 3=false from aS];decide),aG,fun _ aS=>absurd (show true=false from aS) (by decide),fun _=>⟨rfl,dP.mv ((aV.Wc 0 rfl).Ic (Nat.le_refl _))⟩,fun aS=>(J6 K.me (K.down 5 _ rfl aS 4 rfl)).elim,fun aS=>(J6 K.me (K.down 5 _ rfl (K.down 6 _ rfl aS 5 rfl) 4 rfl)).elim,aJ,fun aS=>(J6 K.me (K.down 8 _ rfl aS 4 rfl)).elim,fun _=>⟨fT,rfl,(h4.mv (Ab hC))⟩⟩),
             sj (k:=5) rfl (fun D V a' w' K f=>by
                 rw[a4] at f;refine X4 f fun aA r x c f=>f.elim fun d f=>Y8 f fun aV bO bK q aF aH aY aG f=>Y4 f fun aZ z _ aR f=>Y2 f fun aJ aW f=>?_;have s:=f;obtain⟨h6,dP⟩:=z (K.dn 4 rfl);exact(Ba (v:=.tuple #[.slice c aB.1.length d,I aB.2]) (es (t:=158) (v:=.tuple #[.slice c aB.1.length d,I aB.2]) ((K.dq 4 158).trans h6))).mono fun v Bi ⟨dL,dM⟩=>by subst dL;subst dM;rw[a4];exact⟨aA,r,x,c,d,aV,bO,bK,q,aF,aH,aY,aG,aZ,z,fun _=>rfl,aR,aJ,aW,s⟩),
             sj (k:=6) rfl (fun D V a' w' K f=>by
                 rw[a4] at f;refine X4 f fun aA r x c f=>f.elim fun d f=>Y8 f fun aV bO bK q aF aH aY aG f=>Y4 f fun aZ z aI _ f=>Y2 f fun aJ aW f=>?_;have s:=f;have eK:=aI (K.dn 5 rfl);exact(B1 (v:=.slice c aB.1.length d) (es (t:=153) (v:=.tuple #[.slice c aB.1.length d,I aB.2]) ((K.dq 5 153).trans eK)) rfl).mono fun v Bi ⟨dL,dM⟩=>by subst dL;subst dM;rw[a4];exact⟨aA,r,x,c,d,aV,bO,bK,q,aF,aH,aY,aG,aZ,z,aI,fun _=>rfl,aJ,aW,s⟩),
             sj (k:=7) rfl (fun D V a' w' K f=>by
                 rw[a4] at f;refine X4 f fun aA r x c f=>f.elim fun d f=>Y8 f fun aV bO bK q aF aH aY aG f=>Y4 f fun aZ z aI aR f=>Y2 f fun _ aW f=>?_;have s:=f;have eK:=aI (K.dn 5 rfl);exact(B1 (v:=I aB.2) (es (t:=153) (v:=.tuple #[.slice c aB.1.length d,I aB.2]) ((K.dq 5 153).trans eK)) rfl).mono fun v Bi ⟨dL,dM⟩=>by subst dL;subst dM;rw[a4];exact⟨aA,r,x,c,d,aV,bO,bK,q,aF,aH,aY,aG,aZ,z,aI,aR,fun _=>rfl,aW,s⟩),
             sj (k:=8) rfl (fun D V a' w' K f=>by
                 rw[a4] at f;refine X4 f fun aA r x c f=>f.elim fun d f=>Y8 f fun aV bO bK q aF aH aY aG f=>Y4 f fun aZ z aI aR f=>Y2 f fun aJ _ f=>?_;have s:=f;have h7:=aR (K.dn 6 rfl);exact(I8 (v:=.slice c aB.1.length d) (es (t:=159) (v:=.slice c aB.1.length d) ((K.dq 6 159).trans h7))).mono fun v Bi ⟨dL,dM⟩=>by subst dL;subst dM;rw[a4];exact⟨aA,r,x,c,d,aV,bO,bK,q,aF,aH,aY,aG,aZ,z,aI,aR,aJ,fun _=>rfl,s⟩),trivial⟩ ?_
        intro r1 r2 r3 b4 bJ;rw[a4] at bJ;clear a4;refine X4 bJ fun aA r x c bJ=>bJ.elim fun d bJ=>Y8 bJ fun lS jG e9 q aF aH aY aG bJ=>Y4 bJ fun aZ z aI aR bJ=>Y2 bJ fun aJ aW bJ=>?_;have s:=bJ;clear bJ;have h3:=aH (b4 0 (by decide));have hZ:=aG (b4 2 (by decide));obtain⟨h6,dP⟩:=z (b4 4 (by decide));have eK:=aI (b4 5 (by decide));have h7:=aR (b4 6 (by decide));have lF:=aJ (b4 7 (by decide));have fU:=aW (b4 8 (by decide));obtain⟨fT,eX,qM⟩:=s (b4 4 (by decide));subst eX;have lG:=lS.erase 0;refine wA (v:=I aB.2) lF<|wn<|Ag<|Aj ?_;have gT:=(cO.bk.ext jG);refine wD (fun st=>AQ (l:=[.slice aL y.Ac.length aM,.slice aN y.Ai.length aO,.slice aP y.Ap.length aQ,I (b6%101),.slice (some ⟨cB,0,none⟩) 1 1,.slice none 0 0,.slice none 0 0]) EH (eR st) gT rfl rfl) ?_;have ⟨dV,dW,dX⟩:=Dd c0 c1 c2 (mt (Aq c3) (mt (Aq cN) (mt (dK.AV cO.gr 0 rfl) (mt (Al 1) (mt Be (mt (e9 _) (Al 0)))))));have gU:=(((hW.mv Be).mv (e9 _)).mv (Al 0));replace a:=bind_some a;obtain⟨bT,o5,a⟩:=a;refine wE (fun st=>Az Si (eR st) (Ct (eR st)) (Yi b9 (⟨y.Ac,y.Ai,y.Ap,b6%101,[(⟨cS%101,dQ%101⟩:B4)],([]:List CL),([]:List CT)⟩:AS) aL aM aN aO aP aQ (some ⟨cB,0,none⟩) 1 none 0 none 0 (zf Z w [some bZ,some bD,some b1]) _ dV dW dX gU (Sl.nil BE _ _) (Sl.nil BM _ _) bT o5)) ?_;rintro _ r4 ⟨dN,⟨_,_,rfl,⟨cC,cD,rfl,eY⟩,rfl⟩⟩;have lH:=lG.ext dN;have eY:=eY.mv (lG.Ic (Nat.le_refl _));refine wM (v:=.tuple #[.slice cC bT.1.length cD,I bT.2]) rfl<|wD (fun st=>B1 (v:=.slice cC bT.1.length cD) (eR st) rfl)<|wD (fun st=>B1 (v:=I bT.2) (eR st) rfl)<|wA (v:=.slice cC bT.1.length cD) rfl<|wA (v:=I bT.2) rfl<|wn<|Ag<|Aj ?_;have gV:=(gT.ext dN);refine wD (fun st=>AQ (l:=[.slice aL y.Ac.length aM,.slice aN y.Ai.length aO,.slice aP y.Ap.length aQ,I (b6%101),.slice (some ⟨cB,0,none⟩) 1 1,.slice none 0 0,.slice none 0 0]) EH (eR st) gV rfl rfl) ?_;have ⟨dY,dZ,d0⟩:=Dd dV dW dX (Ab dN);have gW:=(gU.mv (Ab dN));replace a:=bind_some a;obtain⟨bS,o6,a⟩:=a;refine wE (fun st=>Az W4 (eR st) (Ct (eR st)) (Zz b9 (⟨y.Ac,y.Ai,y.Ap,b6%101,[(⟨cS%101,dQ%101⟩:B4)],([]:List CL),([]:List CT)⟩:AS) aL aM aN aO aP aQ (some ⟨cB,0,none⟩) 1 none 0 none 0 (zf Z w [some bZ,some bD,some b1]) _ dY dZ d0 gW (Sl.nil BE _ _) (Sl.nil BM _ _) bS o6)) ?_;rintro _ r5 ⟨c4,⟨_,_,_,rfl,⟨fV,fW,rfl,gX⟩,rfl,rfl⟩⟩;have o7:=lH.ext c4;have gX:=gX.mv (lH.Ic (Nat.le_refl _));refine wM (v:=.tuple #[.slice fV bS.1.length fW,I bS.2.1,I bS.2.2]) rfl<|wD (fun st=>B1 (v:=.slice fV bS.1.length fW) (eR st) rfl)<|wD (fun st=>B1 (v:=I bS.2.1) (eR st) rfl)<|wD (fun st=>B1 (v:=I bS.2.2) (eR st) rfl)<|wA (v:=.slice fV bS.1.length fW) rfl<|wA (v:=I bS.2.1) rfl<|wA (v:=I bS.2.2) rfl<|wn<|Ag<|cr<|wM (v:=I aB.2) rfl<|wD (fun st=>Fu (eR st) (eR st))<|wM (v:=.bool (aB.2 !=0)) rfl ?_;rcases Af (aB.2 !=0) with eZ|eZ
        ·replace a:=Aw a eZ;exact absurd (oi a) (by decide)
        ·replace a:=Ax a eZ;refine wN eZ (v:=I bT.2) rfl<|wG eZ (fun st=>Fu (eR st) (eR st))<|wD (fun st=>Bt (v:=.bool (bT.2 !=0)) (eR st) eZ (eR st))<|wM (v:=.bool (bT.2 !=0)) rfl ?_;rcases Af (bT.2 !=0) with e0|e0
         ·replace a:=Aw a e0;exact absurd (oi a) (by decide)
         ·replace a:=Ax a e0;refine wN e0 (v:=I bS.2.2) rfl<|wG e0 (fun st=>Fu (eR st) (eR st))<|wD (fun st=>Bt (v:=.bool (bS.2.2 !=0)) (eR st) e0 (eR st))<|wM (v:=.bool (bS.2.2 !=0)) rfl ?_;rcases Af (bS.2.2 !=0) with cP|cP
          ·replace a:=Aw a cP;exact absurd (oi a) (by decide)
          ·replace a:=Ax a cP;refine wN cP (v:=.slice c aB.1.length d) fU<|wG cP (fun st=>Bm Tryz.underlying31 (eR st))<|wG cP (fun st=>Ae (ee st gS) (Gl _ _)) ?_;have h8:=(((((((j2.ext fS).ext c3.gr).ext cN.gr).gr cO.gr (dK.nq 3 0)).ext jG).ext dN).ext c4);refine wG cP (fun st=>Ah (v:=.slice o g.Ai.length p) D2 (eR st) h8 rfl)<|wG cP (fun st=>Bm Tryz.underlying23 (eR st))<|wG cP (fun st=>Fu (eR st) (eR st))<|wD (fun st=>Bt (v:=.bool ((aB.1.length:Int) !=(g.Ai.length:Int))) (eR st) cP (eR st))<|wM (v:=.bool ((aB.1.length:Int) !=(g.Ai.length:Int))) rfl ?_;rcases Af ((aB.1.length:Int) !=(g.Ai.length:Int)) with c5|c5
           ·replace a:=Aw a c5;exact absurd (oi a) (by decide)
           ·replace a:=Ax a c5;refine wN c5 (v:=.slice cC bT.1.length cD) rfl<|wG c5 (fun st=>Bm Tryz.underlying55 (eR st))<|wN c5 (v:=.slice c aB.1.length d) fU<|wG c5 (fun st=>Bm Tryz.underlying31 (eR st))<|wG c5 (fun st=>Fu (eR st) (eR st))<|wD (fun st=>Bt (v:=.bool ((bT.1.length:Int) !=(aB.1.length:Int))) (eR st) c5 (eR st))<|wn ?_;rcases Af ((bT.1.length:Int) !=(aB.1.length:Int)) with hD|hD
            ·replace a:=Aw a hD;exact absurd (oi a) (by decide)
            ·replace a:=Ax a hD;refine Au rfl hD<|cn<|cr<|wA (v:=I 0) rfl<|wn<|Ag<|cr<|wA (v:=I 0) rfl<|wn<|AL ?_;replace a:=bind_some a;obtain⟨lI,e1,a⟩:=a;refine B2 (fun g6 aK a0=>(g6=.ret∧∃cQ,lI=.inl cQ∧Fo X0 239 aK∧sl aK 10=.bool cQ∧Hp FN [] w [some bZ,some bD,some b1] a0)∨(g6=.exit 2∧∃cQ,lI=.inr cQ∧Fo X0 239 aK∧sl aK 26=I bS.2.1∧sl aK 28=I cQ∧Hp FN [] w [some bZ,some bD,some b1] a0)) ?o8 ?o9
             case o8=>
              clear a;refine BY (fun hN aK a0=>∃cE,∃bA,CK b9 g b6 aB bT hN cE bA=some lI∧Fo X0 239 aK∧sl aK 5=pt b1 0∧sl aK 20=pt bZ 0∧sl aK 21=.slice c aB.1.length d∧sl aK 23=.slice cC bT.1.length cD∧sl aK 26=I bS.2.1∧sl aK 28=I cE∧sl aK 29=I bA∧Hp FN [] w [some bZ,some bD,some b1] a0∧Bk a0 b1 26 (An j m o p aC aD g).toArray∧(fun cF=>Sl BC a0 cF (some ⟨cB,0,none⟩) 1 [(⟨cS%101,dQ%101⟩:B4)]∧Bk a0 bZ 53 #[.slice aL y.Ac.length aM,.slice aN y.Ai.length aO,.slice aP y.Ap.length aQ,I (b6%101),.slice (some ⟨cB,0,none⟩) 1 1,.slice none 0 0,.slice none 0 0]∧Sl Ay a0 cF j m g.Ac∧Sl (BJ (Ao .i64)) a0 cF o p g.Ai∧Sl AG a0 cF aC aD g.Ap∧Sl Ay a0 cF aL aM y.Ac∧Sl (BJ (Ao .i64)) a0 cF aN aO y.Ai∧Sl AG a0 cF aP aQ y.Ap∧Sl (Ao .i64) a0 cF c d aB.1∧Sl Ay a0 cF cC cD bT.1) (zf Z w [some bZ,some bD,some b1])) b9 ?pA ?pB
              case pA=>
               intro st;have j7:=(gW.mv (Ab c4));have j8:=(gV.ext c4);have ⟨iX,iY⟩:=KS fQ fR (mt (Ab fS) (mt (Aq c3) (mt (Aq cN) (mt (dK.AV cO.gr 0 rfl) (mt (Al 1) (mt Be (mt (e9 _) (mt (Al 0) (mt (Ab dN) (Ab c4))))))))));have iZ:=(((((((((((hV.mv (Al 0)).mv (Ab fS)).mv (Aq c3)).mv (Aq cN)).mv (dK.AV cO.gr 0 rfl)).mv (Al 1)).mv Be).mv (e9 _)).mv (Al 0)).mv (Ab dN)).mv (Ab c4));have ⟨f8,f9,gA⟩:=Dd dY dZ d0 (Ab c4);have hE:=(((dP.mv (Al 0)).mv (Ab dN)).mv (Ab c4));have hF:=(eY.mv (Ab c4));exact⟨(0:Int),(0:Int),e1,qo st,sp st 5 gS,sp st 20 rfl,sp st 21 fU,sp st 23 rfl,sp st 26 rfl,sp st 28 rfl,sp st 29 rfl,o7,h8,j7,j8,iX,iY,iZ,f8,f9,gA,hE,hF⟩
              case pB=>
               rintro(_|hN) q0 q1 ⟨cE,bA,e1,lT,h9,gY,cV,gZ,g0,g1,bY,lJ,j9,i0,i1,iA,iB,iC,fX,fY,fZ,cR,d1⟩
               ·exact absurd (show none=some _ from e1) (by simp)
               rw[CK.eq_2] at e1;have a:=e1;clear e1;refine ro lT<|Ag<|cr<|wM (v:=I bA) bY<|wM (v:=.slice c aB.1.length d) cV<|wD (fun st=>Bm Tryz.underlying31 (eR st))<|wD (fun st=>Cs (eR st) (eR st))<|wn ?_;rcases Af (decide (bA<(aB.1.length:Int))) with f0|f0
               ·replace a:=Aw a f0;refine Ak rfl f0<|cn<|Ag<|AL<|Ag<|Ag ?_;replace a:=Bg a;obtain⟨i98,e5,pC,pD,pE,a⟩:=a;obtain⟨qN,qO,_,pF,rfl,pG⟩:=Sl.elem d1 (by decide) pD;replace a:=Bg a;obtain⟨i99,g2,pH,pI,pJ,a⟩:=a;obtain⟨qP,qQ,_,pK,rfl,pL⟩:=Sl.CZ cR rfl pI;replace a:=Bg a;obtain⟨i100,e2,lU,lV,lW,a⟩:=a;obtain⟨pM,pN,_,lX,rfl,lY⟩:=Sl.CZ cR rfl lV;refine Cl 13 [Kc (.slice cC bT.1.length cD),Kc (I bA),Kc (pt qN (qO+i98*2)),Kc (.agg #[I e5.Lo,I e5.Hi]),Kc (.slice c aB.1.length d),Kc (I bA),Kc (pt qP (qQ+i99)),Kc (I g2),Kc (.slice c aB.1.length d),Kc (I bA),Kc (pt pM (pN+i100)),Kc (I e2),Kc (.agg #[I g2,I e2])] mixed rfl rfl
                    (Aa (oD (fun K=>Ba (es ((K.out 23 rfl).trans gZ))))
                    (Aa (oD (fun K=>Ba (es ((K.out 29 rfl).trans bY))))
                    (Aa (oD (fun K=>BU (k:=i98) Tryz.underlying55 II (es (K.dq 0 203)) pF (es (K.dq 1 204)) pC pE))
                    (Aa (oD (fun K=>Ch (l:=[I e5.Lo,I e5.Hi]) HQ (es (K.dq 2 205)) (pG.mv (Ab K.Bo)) rfl rfl))
                    (Aa (oD (fun K=>Ba (es ((K.out 21 rfl).trans cV))))
                    (Aa (oD (fun K=>Ba (es ((K.out 29 rfl).trans bY))))
                    (Aa (oD (fun K=>Bx (k:=i99) Tryz.underlying31 Dm (es (K.dq 4 207)) pK (es (K.dq 5 208)) pH pJ))
                    (Aa (oD (fun K=>BN Bs (es (K.dq 6 209)) (pL.mv (Ab K.Bo)) rfl))
                    (Aa (oD (fun K=>Ba (es ((K.out 21 rfl).trans cV))))
                    (Aa (oD (fun K=>Ba (es ((K.out 29 rfl).trans bY))))
                    (Aa (oD (fun K=>Bx (k:=i100) Tryz.underlying31 Dm (es (K.dq 8 211)) lX (es (K.dq 9 212)) lU lW))
                    (Aa (oD (fun K=>BN Bs (es (K.dq 10 213)) (lY.mv (Ab K.Bo)) rfl))
                    (Aa (oD (fun K=>DV (vs:= #[(0,I g2),(1,I e2)]) (v:=.agg #[I g2,I e2]) (IV (es (K.dq 7 210)) (es (K.dq 11 214))) (by kernel_rfl)))
                    (Cg _)))))))))))))) ?_
                intro r6;rintro _ rfl _ rfl _ rfl _ rfl _ rfl _ rfl _ rfl _ rfl _ rfl _ rfl _ rfl _ rfl _ rfl c6;have lK:=lJ.ext c6;refine wD (fun st=>QA (x1:=[e5.Lo,e5.Hi]) (x2:=[g2,e2]) Sk Sj (eR st) (eR st) rfl rfl rfl rfl)<|wn ?_;rcases Af ([e5.Lo,e5.Hi] !=[g2,e2]) with eM|eM
                ·replace a:=Aw a eM;refine Ak rfl eM<|cr<|wA (v:=.bool false) rfl<|wn<|Am<|AN<|C5<|AN ?_;obtain rfl:=oi a;refine BH (fun st=>?_);exact .inl ⟨rfl,false,rfl,qo st,sp st 10 rfl,lK⟩
                ·replace a:=Ax a eM;refine Au rfl eM<|cn ?_;replace a:=Bg a;obtain⟨i103,hG,lZ,l0,l1,a⟩:=a;have eN:=(cR.mv (Ab c6));obtain⟨pO,pP,_,l2,rfl,l3⟩:=Sl.CZ eN rfl l0;have g3:=(i1.ext c6);have iD:=(j9.ext c6);replace a:=Bg a;obtain⟨i104,lL,l4,l5,l6,a⟩:=a;have f1:=(iB.mv (Ab c6));obtain⟨pQ,pR,_,l7,⟨iE,iF,rfl,kA⟩,l8⟩:=Sl.CZ f1 rfl l5;replace a:=bind_some a;obtain⟨e3,l9,a⟩:=a;replace a:=AK a;obtain⟨mA,a⟩:=a;refine Cl 15 [Kc (I cE),Kc (.slice c aB.1.length d),Kc (I bA),Kc (pt pO (pP+i103)),Kc (I hG),Kc (pt bZ 3),Kc (I (b6%101)),Kc (pt b1 1),Kc (.slice o g.Ai.length p),Kc (I bA),Kc (pt pQ (pR+i104)),Kc (.slice iE lL.length iF),Kc (I e3),Kc (I ((b6%101)*e3)),Kc (I (max hG ((b6%101)*e3)))] mixed rfl rfl
                     (Aa (oD (fun K=>Ba (es (t:=28) ((K.later 16 28 _ rfl rfl rfl).trans g1))))
                     (Aa (oD (fun K=>Ba (es ((K.out 21 rfl).trans cV))))
                     (Aa (oD (fun K=>Ba (es ((K.out 29 rfl).trans bY))))
                     (Aa (oD (fun K=>Bx (k:=i103) Tryz.underlying31 Dm (es (K.dq 1 218)) l2 (es (K.dq 2 219)) lZ l1))
                     (Aa (oD (fun K=>BN Bs (es (K.dq 3 220)) (l3.mv (Ab K.Bo)) rfl))
                     (Aa (oD (fun K=>Ae (es ((K.out 20 rfl).trans gY)) (Qe _ _)))
                     (Aa (oD (fun K=>Ah Bs (es (K.dq 5 222)) (g3.ext K.Bo) rfl))
                     (Aa (oD (fun K=>Ae (es ((K.out 5 rfl).trans h9)) (Gl _ _)))
                     (Aa (oD (fun K=>Ah D2 (es (K.dq 7 224)) (iD.ext K.Bo) rfl))
                     (Aa (oD (fun K=>Ba (es ((K.out 29 rfl).trans bY))))
                     (Aa (oD (fun K=>Bx (k:=i104) Tryz.underlying23 F2 (es (K.dq 8 225)) l7 (es (K.dq 9 226)) l4 l6))
                     (Aa (oD (fun K=>BN Dj (es (K.dq 10 227)) (l8.mv (Ab K.Bo)) rfl))
                     (Aa (oE (fun K=>(Az O3 rfl (Ct (es (K.dq 11 228))) (Xn b9 lL iE iF ZA _ (kA.mv (Ab K.Bo)).all e3 l9)).mono (fun _ _ h=>⟨h.2,h.1⟩)))
                     (Aa (oD (fun K=>Kq (es (K.dq 6 223)) (es (K.dq 12 229)) mA))
                     (Aa (oD (fun K=>Ty (es (K.dq 4 221)) (es (K.dq 13 230))))
                     (Cg _)))))))))))))))) ?_
                 intro q2;rintro _ rfl _ rfl _ rfl _ rfl _ rfl _ rfl _ rfl _ rfl _ rfl _ rfl _ rfl _ rfl _ rfl _ rfl _ rfl b8;have pS:=lK.ext b8;replace a:=AK a;obtain⟨mB,a⟩:=a;refine wD (fun st=>BF (eR st) (eR st) mB)<|wA (v:=I (cE+(max hG ((b6%101)*e3)))) rfl<|AZ<|De<|Aj<|wM (v:=I bA) bY ?_;replace a:=AK a;obtain⟨mC,a⟩:=a;refine wD (fun st=>BF (eR st) (eR st) mC)<|wA (v:=I (bA+1)) rfl<|AZ ?_;have lM:=(iD.ext b8);have kB:=((i0.mv (Ab c6)).mv (Ab b8));have kC:=(g3.ext b8);have i2:=((iA.mv (Ab c6)).mv (Ab b8));have i3:=(f1.mv (Ab b8));have ⟨i4,gB,gC,gD⟩:=E1 iC fX fY fZ (mt (Ab c6) (Ab b8));have hH:=(eN.mv (Ab b8));have hI:=((d1.mv (Ab c6)).mv (Ab b8));refine By hN (Nat.lt_succ_self _) (fun st=>?_);exact⟨(cE+(max hG ((b6%101)*e3))),(bA+1),a,qo st,sp st 5 h9,sp st 20 gY,sp st 21 cV,sp st 23 gZ,sp st 26 g0,sp st 28 rfl,sp st 29 rfl,pS,lM,kB,kC,i2,i3,i4,gB,gC,gD,hH,hI⟩
               ·replace a:=Ax a f0;refine Au rfl f0<|D3 ?_;obtain rfl:=oi a;refine BH (fun st=>?_);exact .inr ⟨rfl,cE,rfl,qo st,sp st 26 g0,sp st 28 g1,lJ⟩
             case o9=>
              rintro g6 qV q3 (⟨rfl,cQ,rfl,f2,i5,hJ⟩|⟨rfl,cQ,rfl,f2,i6,i7,hJ⟩)
              ·skip
               replace a:=C7 a;refine lf f2<|C5 ?_;have cU:=oi a;refine Ar rfl i5 ?_;exact⟨hJ.Bb,congrArg Value.bool cU⟩
              ·skip
               replace a:=C8 a;refine lf f2<|Bc<|BI<|cr<|wM (v:=I bS.2.1) i6<|wM (v:=I cQ) i7<|wD (fun st=>Ft (eR st) (eR st))<|wM (v:=.bool (bS.2.1==cQ)) rfl ?_;rcases Af (bS.2.1==cQ) with eO|eO
               ·replace a:=Aw a eO;replace a:=bind_some a;obtain⟨i8,mD,a⟩:=a;refine wX eO (fun st=>Az MU (eR st) Hr (a7 b9 ZA _ i8 mD)) ?_;rintro _ q4 ⟨mE,rfl⟩;have pT:=hJ.ext mE;refine wD (fun st=>Bz (v:=.bool i8) (eR st) eO (eR st))<|wA (v:=.bool i8) rfl<|wn<|Am ?_;have cU:=oi a;refine Ar rfl rfl ?_;exact⟨pT.Bb,congrArg Value.bool cU⟩
               ·replace a:=Ax a eO;exact absurd (oi a) (by decide)
end Go.Proofs.YtcdofnchafcfpaaGreat
end
section
namespace Go.Proofs.YtcdofnchafcfpaaGreat
open Go.RowKit Go.ChangeShapes Go.WideShapes Go.ChangeAt
theorem Np(c:Av)(w n p f:Int)(h1:I7 .u16 w)(h2:I7 .u8 n)(a:I7 .u8 p)(b:I7 .u8 f):∃K,Et K c w n p f=some true:=MX c w n p f (by have:=Xs h1;omega) (by have:=Xs h1;omega) (by have:=Qq h2;omega) (by have:=Qq h2;omega) (by have:=Qq a;omega) (by have:=Qq a;omega) (by have:=Qq b;omega) (by have:=Qq b;omega)
set_option maxRecDepth 100000 in
theorem LU(os:Os)(started:os.Started)(H:Type)(enc:TypeId×Value→H):
  ReturnsInHanded {} Tryz.checked os 3 .any (Rows.topDecidedSpec.pre6 enc Tryz.prog Tryz.f3 Rows.topDecidedRow.domain false) (Rows.topDecidedSpec.post enc Tryz.prog Tryz.f3 false true false false):=by
 refine returnsInHanded_of_change_sized (C:=Tryz.checked) Y3 started (by kernel_rfl) Tryz.func3
  (ChangeSpec.witness6 (enc:=enc) (C:=Tryz.checked) false ⟨#[], #[.agg #[.slice none 0 0,.slice none 0 0,.slice none 0 0],.int .u16 0,.int .u8 0,.int .u8 0,.int .u8 0],[]⟩ 8 (by kernel_rfl) (by kernel_rfl) (by kernel_rfl) (by kernel_rfl)) ?_
 intro W base args ds gs before d u aK w _;have a:∀(j:Nat) t v,Tryz.f3.params[j]?=some t→args[j]?=some v→Value.okWide Tryz.prog W .any base t v:=d;have b:=u;obtain⟨p,q,y,aL,rfl,aX,aY⟩:=u;have g:DataW.TrodAll enc Tryz.prog W 0 (fun _=>true) true Tryz.f3.params.toList args.toList ds p:=y;obtain⟨rfl,rfl⟩:=trodVars_none aL;simp only[List.append_nil] at b;have z:∀x∈p,x.block<W.heap.size:=fun x f=>by simpa using b.lt x f
 have aA:=g;have c:(DataW.weightsEach Tryz.prog (Tryz.f3.params.toList++[]) (ds++[])).all (· ≤reachBytes)=true:=w;rw[Tryz.params3] at g a c;obtain⟨v0,v1,v2,v3,v4,d0,d1,d2,d3,d4,aM,aN,aO,aP,aQ,rfl,rfl,rfl,h0,h1,h2,aR,aS⟩:=Q4 g;obtain⟨aB,aZ,aC,⟨h,i,k,l,m,n,rfl,o,r,s⟩,w0⟩:=VT Tryz.underlying26 Xr (a 0 26 v0 rfl rfl) h0 (VS (j:=0) c rfl rfl);obtain⟨x1,aD,w1⟩:=LS Tryz.underlying27 (a 1 27 v1 rfl rfl) h1;obtain⟨x2,aE,w2⟩:=LS Tryz.underlying5 (a 2 5 v2 rfl rfl) h2;obtain⟨aF,aG,aT⟩:=LS Tryz.underlying5 (a 3 5 v3 rfl rfl) aR;obtain⟨aH,aI,aU⟩:=LS Tryz.underlying5 (a 4 5 v4 rfl rfl) aS;subst aC;subst aD;subst aE;subst aG;subst aI;obtain⟨K,aV⟩:=Np aB x1 x2 aF aH w1 w2 aT aU;refine(Sv (a3 K aB x1 x2 aF aH h i k l m n ZA W o r s aV)).mono fun e W' ⟨v,he,f,aW⟩=>?_;subst he;subst aW;exact⟨_,rfl,Ps (pa:=(aM++aN++aO++aP++aQ)) (pv:=[]) b (fun _ _ _=>trodAll_mk1 (shut_bool Tryz.underlying4 _)) (fun sp hs=>Su XY XZ (by rw[Tryz.params3];decide) aA f z sp (fun x aJ=>hs x (by simpa using aJ))) (fun _ _=>rfl) (by simp) f (ok_one (by kernel_rfl) rfl (okWide_bool_mk Tryz.underlying4 _))⟩
theorem Iy:((Rows.topDecidedRow.inPlace==Tryz.checked.prog.inPlace 3)&&(Rows.topDecidedRow.unfollowed==Tryz.checked.prog.unfollowed 3)&&(Rows.topDecidedRow.recurses==Tryz.checked.prog.recurses 3)&&(Rows.topDecidedRow.named==Tryz.checked.prog.varsNamed 3))=true:=by kernel_rfl
theorem Ms:joinedFacts Tryz.checked.prog 3 Tryz.f3 Rows.topDecidedSpec Rows.topDecidedRow=true:=by
 unfold joinedFacts;exact(Ek (Ek (Ek (Ek (Ek (Ek (Ek (Ek (Ek (Ek (Ek (Ek (Ek (Ek (Ek (Ek (Ek (Ek (Ek (Ek (Ek (Ek (Ek (Ek (Ek (Ek (Ek (Ek (Ek (Ek (Ek (by kernel_rfl) Xt) Xu) (by kernel_rfl)) (by kernel_rfl)) (by kernel_rfl)) VU) (by kernel_rfl)) VV) (MV (MV (MV Iy)))) (Sx (MV (MV Iy)))) (Sx (MV Iy))) (Sx Iy)) (by kernel_rfl)) (by kernel_rfl)) (by kernel_rfl)) (by kernel_rfl)) (by kernel_rfl)) (by kernel_rfl)) (by kernel_rfl)) (by kernel_rfl)) (by kernel_rfl)) Xv) (by kernel_rfl)) VW) (MV (MV Pc))) (Sx (MV Pc))) (Sx Pc)) (by kernel_rfl)) (by kernel_rfl)) (by kernel_rfl)) (by kernel_rfl))
theorem topDecided_holds:Rows.TopDecidedSaid:=
 OpenClaim.holds_of_wide 3 Tryz.f3 rfl rfl rfl rfl rfl rfl rfl ⟨rfl,rfl,rfl,rfl,rfl⟩ rfl rfl rfl rfl rfl (by kernel_rfl) Tryz.func3 Ms
  (of_decide_eq_true (by kernel_rfl)) (by unfold Func.isWrapper;rw[if_neg (by decide+kernel)];exact⟨rfl,rfl⟩)
  (fun os started H enc _=>LU os started H enc)
end Go.Proofs.YtcdofnchafcfpaaGreat
end
