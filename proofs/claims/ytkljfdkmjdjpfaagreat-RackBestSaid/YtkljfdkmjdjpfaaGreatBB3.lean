import Derived.Test.YtkljfdkmjdjpfaaGreatBB2
import Derived.WalkKit
import Derived.KernelRfl
import Derived.WalkSpells
import Derived.WalkLawsBesides
import Derived.Maps.AppendAt
import Derived.OrdersIn
import Derived.RangeFuncIn
import Derived.RangeFuncLeaves
import Derived.RangeFuncRecord
import Derived.RangeFuncSeq
import Derived.Scope
import Derived.DeepKeys3
import Derived.Laws.CopyRow
import Derived.Laws.OwnMore
import Derived.Laws.MakeOwn
import Derived.Laws.IdiomCopy
import Derived.Test.YtkljfdkmjdjpfaaGreatProg
/-
  The contracts of the functions of the program and of the reference, and the logic that they are proved in: the base that several claims of this seat share.
-/
set_option linter.all false
section
namespace Go.Proofs.YtkljfdkmjdjpfaaGreat
def EG(y:Ao)(yes:List Int):Nat:=(List.range y.Ac.length).countP fun i=>yes.getD i 0==0
def E2 (y:Ao) (o:List (List Int)):Nat:=(List.range y.Ac.length).countP fun i=>(BD y).all (E3 y o i)
theorem RC{y:Ao}(a:DH y)(o:List (List Int)):EG y (Cr Cw y o)=E2 y o:=by
 unfold EG E2;refine List.countP_congr fun i hi=>?_;rw[List.mem_range] at hi;rw[Ko Cw y a o i hi,MB];have:((BD y).all fun t=> !Cw (DG y i) (Jw y o t i))=(BD y).all (E3 y o i):=by
  congr 1;funext t;unfold Cw E3;rw[Bool.not_not]
 rw[this]
theorem SL(y:Ao)(o:List (List Int)):E2 y o≤y.Ac.length:=by
 unfold E2;have:=List.countP_le_length (p:=fun i=>(BD y).all (E3 y o i)) (l:=List.range y.Ac.length);simpa using this
theorem TY(y:Ao)(r:BS×Int×Unit)(c:y.Ac.length≤4):∀(k m i:Nat) (a:Int),y.Ac.length=i+k→k<m→0≤a→a≤i→
  EE y r m a (i:Int)=some (a+((List.range' i k).countP (fun i=>r.1.l.getD i 0==0):Nat)):=by
 intro k
 induction k with
 |zero=>
  intro m i a h hm h0 b;cases m with
  |zero=>omega
  |succ m=>rw[EE.eq_2,cf (df (by omega))];simp
 |succ k ih=>
  intro m i a h hm h0 b;cases m with
  |zero=>omega
  |succ m=>
   rw[EE.eq_2,ct (dt (by omega)),bd (N8 r.1 i (by omega)),List.range'_succ,List.countP_cons];cases d:(r.1.l.getD i 0==0) with
   |true=>
    rw[ct rfl,Bv (by omega) (by omega),Bv (by omega) (by omega),CJ,ih m (i+1) (a+1) (by omega) (by omega) (by omega) (by omega)]
    congr 1;simp;omega
   |false=>
    rw[cf rfl,Bv (by omega) (by omega),CJ,ih m (i+1) a (by omega) (by omega) (by omega) (by omega)]
    congr 1
theorem SM(y:Ao)(r:BS×Int×Unit)(c:y.Ac.length≤4):∀(k m i:Nat) (a:Int),y.Ac.length=i+k→k<m→0≤a→a≤i→
  Eu y r m a (i:Int)=some (a+((List.range' i k).countP (fun i=>r.1.l.getD i 0==0):Nat)):=by
 intro k
 induction k with
 |zero=>
  intro m i a h hm h0 b;cases m with
  |zero=>omega
  |succ m=>rw[Eu.eq_2,cf (df (by omega))];simp
 |succ k ih=>
  intro m i a h hm h0 b;cases m with
  |zero=>omega
  |succ m=>
   rw[Eu.eq_2,ct (dt (by omega)),bd (N8 r.1 i (by omega)),List.range'_succ,List.countP_cons];cases d:(r.1.l.getD i 0==0) with
   |true=>
    rw[ct rfl,Bv (by omega) (by omega),Bv (by omega) (by omega),CJ,ih m (i+1) (a+1) (by omega) (by omega) (by omega) (by omega)]
    congr 1;simp;omega
   |false=>
    rw[cf rfl,Bv (by omega) (by omega),CJ,ih m (i+1) a (by omega) (by omega) (by omega) (by omega)]
    congr 1
def GJ(y:Ao):List (List (List Int))→Int×List Int×List (List Int)→Int×List Int×List (List Int)
  |[],s=>s
  |o::os,s=>
    cond (decide (0≤s.1)&&(Cr Cw y o==s.2.1)) (GJ y os s)
      (let s2:=if s.1<(EG y (Cr Cw y o):Int) then ((EG y (Cr Cw y o):Int),Cr Cw y o,o) else (s.1,Cr Cw y o,s.2.2)
       cond (decide (s2.1<(y.Ac.length:Int))) (GJ y os s2) s2)
def Ga(y:Ao):Int×List Int×List (List Int):=GJ y (D9 y) (-1,[0,0,0,0],[])
theorem OR{K:Nat}(y:Ao)(e:DH y)(hK:2000≤K):∀(os:List (List (List Int))) (n:Int) (a:BS) (q:List (List Int)),(∀o∈os,CS y o=true)→
    ∃(b:Bool) (a2:BS),run (fun(st:Int×BS×(List (List Int))) (x:(List (List Int)))=>(E1 K x y st.1 st.2.1 st.2.2).bind fun r=>some (r.1,(r.2.1,r.2.2.1,r.2.2.2))) os (n,a,q)=some (b,(GJ y os (n,a.l,q)).1,a2,(GJ y os (n,a.l,q)).2.2)
  |[],n,a,q,_=>⟨true,a,rfl⟩
  |o::os,n,a,q,h=>by
    have s:=h o (List.mem_cons_self ..);have p:∀x∈os,CS y x=true:=fun x aC=>h x (List.mem_cons_of_mem _ aC);obtain⟨aD,aE,_⟩:=HV e s;have t:=e.n4;obtain⟨b,aF,k⟩:=M9 (K:=K) Cw y e o s hK;have u:CE K (fun(st:Unit) (x:A5×Ag)=>(EC K x.1 x.2).bind fun r=>some (r,())) y o ()=some (b,((BD y).length:Int),()):=by
      rw[←aF];congr 1;funext st x;rw[bd (PW ..)];rfl
    have h9:=TY y (b,((BD y).length:Int),()) t y.Ac.length K 0 0 (by omega) (by omega) (by omega) (by omega);have f:=SM y (b,((BD y).length:Int),()) t y.Ac.length K 0 0 (by omega) (by omega) (by omega) (by omega);rw[Int.natCast_zero,Int.zero_add] at h9 f;have v:((List.range' 0 y.Ac.length).countP (fun i=>(b,((BD y).length:Int),()).1.l.getD i 0==0))=EG y (Cr Cw y o):=by
      rw[←List.range_eq_range',←k];rfl
    rw[v] at h9 f;have c:∀(l:Int×BS×List (List Int)) (z:Int×List Int×List (List Int)),(l.1,l.2.1.l,l.2.2)=z→
        ∃(d:Bool) (a2:BS),cond (decide (l.1<(y.Ac.length:Int))) (run (fun(st:Int×BS×(List (List Int))) (x:(List (List Int)))=>(E1 K x y st.1 st.2.1 st.2.2).bind fun r=>some (r.1,(r.2.1,r.2.2.1,r.2.2.2))) os l) (some (false,l))=some (d,(cond (decide (z.1<(y.Ac.length:Int))) (GJ y os z) z).1,a2,(cond (decide (z.1<(y.Ac.length:Int))) (GJ y os z) z).2.2):=by
      rintro⟨g,w,aG⟩ z rfl;show∃(d:Bool) (a2:BS),cond (decide (g<(y.Ac.length:Int))) _ _=some (d,(cond (decide (g<(y.Ac.length:Int))) _ _:Int×List Int×List (List Int)).1,a2,(cond (decide (g<(y.Ac.length:Int))) _ _:Int×List Int×List (List Int)).2.2);cases decide (g<(y.Ac.length:Int)) with
      |false=>exact⟨false,w,rfl⟩
      |true=>exact OR y e hK os g w aG p
    have main:∀z9:Int,z9=(EG y (Cr Cw y o):Int)→∃(d:Bool) (a2:BS),
        (((cond (decide (n<z9)) ((FD K o).bind fun aA=>some ((decide (z9<(y.Ac.length:Int)),z9,b,aA))) (some ((decide (n<(y.Ac.length:Int)),n,b,q))):Option (Bool×Int×BS×List (List Int))).bind fun r=>some (r.1,(r.2.1,r.2.2.1,r.2.2.2))).bind fun r=>cond r.1 (run (fun(st:Int×BS×(List (List Int))) (x:(List (List Int)))=>(E1 K x y st.1 st.2.1 st.2.2).bind fun r=>some (r.1,(r.2.1,r.2.2.1,r.2.2.2))) os r.2) (some (false,r.2)))=
        some (d,(let s2:=if n<(EG y (Cr Cw y o):Int) then ((EG y (Cr Cw y o):Int),Cr Cw y o,o) else (n,Cr Cw y o,q)
       cond (decide (s2.1<(y.Ac.length:Int))) (GJ y os s2) s2).1,a2,(let s2:=if n<(EG y (Cr Cw y o):Int) then ((EG y (Cr Cw y o):Int),Cr Cw y o,o) else (n,Cr Cw y o,q)
       cond (decide (s2.1<(y.Ac.length:Int))) (GJ y os s2) s2).2.2):=by
      rintro z9 rfl
      by_cases j:n<(EG y (Cr Cw y o):Int)
      · rw[ct (dt j),bd (OP o aD aE hK)];simp only[if_pos j];exact c ((EG y (Cr Cw y o):Int),b,o) ((EG y (Cr Cw y o):Int),Cr Cw y o,o) (by show(_,b.l,o)=_;rw[k])
      · rw[cf (df j)];simp only[if_neg j];exact c (n,b,q) (n,Cr Cw y o,q) (by show(_,b.l,q)=_;rw[k])
    rw[run,GJ];show∃(d:Bool) (a2:BS),Option.bind ((E1 K o y n a q).bind _) _=_;unfold E1;rw[bd u]
    by_cases m:0≤n
    · rw[ct (dt m),dt m,Bool.true_and];have aB:([b.a0,b.a1,b.a2,b.a3]==[a.a0,a.a1,a.a2,a.a3])=(Cr Cw y o==a.l):=by rw[←k];rfl
      rw[aB];cases j:(Cr Cw y o==a.l) with
      |true=>
        rw[ct rfl,ct rfl];exact OR y e hK os n a q p
      |false=>
        rw[cf rfl,cf rfl,bd h9];exact main _ rfl
    · rw[cf (df m),df m,Bool.false_and,cf rfl,bd f];exact main _ rfl
theorem RD{K:Nat}(y:Ao)(hK:2000≤K):GQ K y=some (if check y≠0 then ([],0,check y) else ((Ga y).2.2,(Ga y).1,0)):=by
 unfold GQ;rw[bd (IV hK y)]
 by_cases h:check y=0
 ·rw[h,cf (by decide),if_neg (by simp)];have a:=Hf h;rw[OO _ y a hK];obtain⟨b,a2,e⟩:=OR (K:=K) y a hK (D9 y) (-1) ⟨0,0,0,0⟩ [] fun o c=>Ib a c;exact Eq.trans (congrArg (fun z=>Option.bind (Option.bind z _) _) e) rfl
 ·rw[ct (by simpa using h),if_pos h]
theorem IL(y:Ao)(i:DH y):∀(os:List (List (List Int))) (s:Int×List Int×List (List Int)),s.1<(y.Ac.length:Int)∨0≤s.1→(0≤s.1→(EG y s.2.1:Int)≤s.1)→s.1≤(y.Ac.length:Int)→
  (∀o∈os,(E2 y o:Int)≤(GJ y os s).1)∧s.1≤(GJ y os s).1∧(((GJ y os s).1=s.1∧(GJ y os s).2.2=s.2.2)∨∃o∈os,(GJ y os s).1=(E2 y o:Int)∧(GJ y os s).2.2=o)
 |[],s,_,_,_=>⟨fun o l=>(by cases l),Int.le_refl _,.inl ⟨rfl,rfl⟩⟩
 |o::os,s,h,hi,hle=>by
  have hlen:∀x,(E2 y x:Int)≤(y.Ac.length:Int):=fun x=>by have:=SL y x;omega
  have c:=RC i o;rw[GJ]
  by_cases f:(decide (0≤s.1)&&(Cr Cw y o==s.2.1))=true
  ·rw[ct f];rw[Bool.and_eq_true,decide_eq_true_eq] at f;obtain⟨g,d,a⟩:=IL y i os s h hi hle;refine⟨fun x b=>?_,d,?_⟩
   ·rcases List.mem_cons.1 b with rfl|b
    ·have:=hi f.1;rw[←eq_of_beq f.2,c] at this;omega
    ·exact g x b
   ·rcases a with a|⟨x,b,a⟩
    ·exact .inl a
    ·exact .inr ⟨x,List.mem_cons_of_mem _ b,a⟩
  ·rw[cf (by simpa using f)]
   by_cases j:s.1<(EG y (Cr Cw y o):Int)
   ·simp only[if_pos j]
    by_cases e:(EG y (Cr Cw y o):Int)<(y.Ac.length:Int)
    ·rw[ct (dt e)];obtain⟨g,d,a⟩:=IL y i os ((EG y (Cr Cw y o):Int),Cr Cw y o,o) (.inl e) (fun _=>Int.le_refl _) (by show(EG y (Cr Cw y o):Int)≤_;omega);have k:(EG y (Cr Cw y o):Int)≤_:=d;refine⟨fun x b=>?_,by omega,.inr ?_⟩
     ·rcases List.mem_cons.1 b with rfl|b
      ·rw[←c];exact d
      ·exact g x b
     ·rcases a with⟨a,m⟩|⟨x,b,a⟩
      ·exact⟨o,List.mem_cons_self ..,by rw[a,←c],m⟩
      ·exact⟨x,List.mem_cons_of_mem _ b,a⟩
    ·rw[cf (df e)];refine⟨fun x _=>?_,by show s.1≤(EG y (Cr Cw y o):Int);omega,.inr ⟨o,List.mem_cons_self ..,by show(EG y (Cr Cw y o):Int)=_;rw[c],rfl⟩⟩;have:=hlen x;show _≤(EG y (Cr Cw y o):Int);omega
   ·simp only[if_neg j];have h0:0≤s.1:=by omega
    by_cases e:s.1<(y.Ac.length:Int)
    ·rw[ct (dt e)];obtain⟨g,d,a⟩:=IL y i os (s.1,Cr Cw y o,s.2.2) (.inl e) (fun _=>by show(EG y (Cr Cw y o):Int)≤s.1;omega) hle;have k:s.1≤_:=d;refine⟨fun x b=>?_,d,?_⟩
     ·rcases List.mem_cons.1 b with rfl|b
      ·rw[←c];omega
      ·exact g x b
     ·rcases a with a|⟨x,b,a⟩
      ·exact .inl a
      ·exact .inr ⟨x,List.mem_cons_of_mem _ b,a⟩
    ·rw[cf (df e)];refine⟨fun x _=>?_,Int.le_refl _,.inl ⟨rfl,rfl⟩⟩;have:=hlen x;show _≤s.1;omega
theorem IM {y:Ao} (c:DH y):(∀o,CS y o=true→(E2 y o:Int)≤(Ga y).1)∧CS y (Ga y).2.2=true∧(Ga y).1=(E2 y (Ga y).2.2:Int):=by
 obtain⟨d,f,a⟩:=IL y c (D9 y) (-1,[0,0,0,0],[]) (.inl (by show(-1:Int)<_;omega)) (fun h=>absurd (show(0:Int)≤-1 from h) (by decide)) (by show(-1:Int)≤_;omega);refine⟨fun o b=>d o ((Fp c).2 b),?_⟩;rcases a with⟨a,_⟩|⟨o,b,a,e⟩
 ·exfalso;obtain⟨o,b⟩:=List.exists_mem_of_ne_nil _ (MF c);have:=d o b;rw[a] at this;have g:(E2 y o:Int)≤-1:=this;omega
 ·unfold Ga;rw[a,e];exact⟨Ib c b,rfl⟩
end Go.Proofs.YtkljfdkmjdjpfaaGreat
end
section
namespace Go.Proofs.YtkljfdkmjdjpfaaGreat
def Hm(n i k:Nat):List Int:=((List.range' k (n-k)).filter fun j=>j !=i).map fun j:Nat=>(j:Int)
def Gu (y:Ao) (i:Nat):List (List Int):=((i:Int)::Hm y.Ac.length i 0)::List.replicate (y.Aj.toNat-1) []
theorem Vt{α:Type}(x:α)(r:List α):idx (x::r) (0:Int)=some x:=idx_eq (xs:=x::r) (k:=0) (by simp)
theorem Wz(n i:Nat)(f:n≤4):∀(d m k:Nat) (x:List Int) (r:List (List Int)),n=k+d→d<m→x.length≤1+k→
  JG (n:Int) (i:Int) m (k:Int) (x::r)=some ((x++Hm n i k)::r):=by
 intro d
 induction d with
 |zero=>
  intro m k x r h hm e;cases m with
  |zero=>omega
  |succ m=>
   rw[JG,cf (df (by omega))];unfold Hm;rw[show n-k=0 by omega];simp
 |succ d ih=>
  intro m k x r h hm e;cases m with
  |zero=>omega
  |succ m=>
   have b:idx (x::r) (0:Int)=some x:=Vt x r;have c:Hm n i k=cond (k !=i) ((k:Int)::Hm n i (k+1)) (Hm n i (k+1)):=by
    unfold Hm;rw[show n-k=(n-(k+1))+1 by omega,List.range'_succ,List.filter_cons];cases g:(k !=i) with
    |true=>rfl
    |false=>rfl
   rw[JG,ct (dt (by omega))]
   by_cases a:k=i
   ·have:((k:Int) !=(i:Int))=false:=by rw[a];exact bne_self_eq_false ..
    rw[this,cf rfl,Bv (by omega) (by omega),CJ,ih m (k+1) x r (by omega) (by omega) (by omega),c,show(k !=i)=false by rw[a];exact bne_self_eq_false ..];rfl
   ·have:((k:Int) !=(i:Int))=true:=by rw[bne_iff_ne];omega
    rw[this,ct rfl,bd b,F6 (by simp;omega),bd b,Bv (by omega) (by omega),CJ];show JG _ _ m _ ((x++[(k:Int)])::r)=_;rw[ih m (k+1) (x++[(k:Int)]) r (by omega) (by omega) (by simp;omega),c,show(k !=i)=true by rw[bne_iff_ne];exact a];simp
theorem Lf{y:Ao}(b:DH y){i:Nat}(hi:i<y.Ac.length):CS y (Gu y i)=true:=by
 have c:=b.r1;rw[EF];refine⟨by unfold Gu;simp;omega,?_⟩;have e:(Gu y i).flatten=(i:Int)::Hm y.Ac.length i 0:=by
  unfold Gu;rw[List.flatten_cons];have:(List.replicate (y.Aj.toNat-1) ([]:List Int)).flatten=[]:=by
   simp
  rw[this,List.append_nil]
 rw[e];unfold Hm iota;rw[←List.range_eq_range',Nat.sub_zero];have:((i:Int)::((List.range y.Ac.length).filter fun j=>j !=i).map fun j:Nat=>(j:Int))=(i::((List.range y.Ac.length).filter fun j=>j !=i)).map fun j:Nat=>(j:Int):=rfl;rw[this];refine List.Perm.map _ ?_;have hm:i∈List.range y.Ac.length:=List.mem_range.2 hi;have a:=List.perm_cons_erase hm;rw[List.Nodup.erase_eq_filter List.nodup_range] at a;exact a.symm
def Eg(y:Ao)(k d:Nat):List Int:=((List.range' k d).filter fun i=> !(BD y).all (E3 y (Gu y i) i)).map fun i:Nat=>(i:Int)
theorem QL{K:Nat}(y:Ao)(c:DH y)(hK:2000≤K):∀(d m i:Nat) (a:List Int),y.Ac.length=i+d→d<m→a.length≤i→
  Ef K y m a (i:Int)=some (a++Eg y i d):=by
 have g:=c.n4;have s:=c.r1;have t:=c.r2;intro d
 induction d with
 |zero=>
  intro m i a h hm j;cases m with
  |zero=>omega
  |succ m=>rw[Ef.eq_2,cf (df (by omega))];simp[Eg]
 |succ d ih=>
  intro m i a h hm j;cases m with
  |zero=>omega
  |succ m=>
   have hi:i<y.Ac.length:=by omega
   have k:=Lf c hi;obtain⟨b,n,o⟩:=M9 (K:=K) Di y c (Gu y i) k hK;have e:CE K (fun(st:Unit) (x:A5×Ag)=>(Dm K x.1 x.2).bind fun r=>some (r,())) y (Gu y i) ()=some (b,((BD y).length:Int),()):=by
    rw[←n];congr 1;funext st x;rw[bd (M5 ..)]
   have er:List.replicate y.Aj.toNat ([]:List Int)=[]::List.replicate (y.Aj.toNat-1) []:=by
    rw[←List.replicate_succ];congr 1;omega
   have f:=Wz y.Ac.length i g y.Ac.length K 0 [(i:Int)] (List.replicate (y.Aj.toNat-1) []) (by omega) (by omega) (by simp);rw[Ef.eq_2,ct (dt (by omega)),NG (by omega) (by omega) (by omega),er];rw[bd (show idx (([]:List Int)::List.replicate (y.Aj.toNat-1) []) (0:Int)=some [] from Vt _ _)];rw[Int.natCast_zero] at f;show(JG _ _ K (0:Int) ([(i:Int)]::List.replicate (y.Aj.toNat-1) [])).bind _=_;rw[bd f];show(CE K _ y (Gu y i) ()).bind _=_;rw[bd e,bd (N8 b i (by omega))];have p:((b.l.getD i 0)==((BD y).length:Int))=(BD y).all (E3 y (Gu y i) i):=by
    rw[o,Ko Di y c (Gu y i) i hi,Lc];rfl
   show cond ((b.l.getD i 0)==((BD y).length:Int)) _ _=_;rw[p];have q:Eg y i (d+1)=cond ((BD y).all (E3 y (Gu y i) i)) (Eg y (i+1) d) ((i:Int)::Eg y (i+1) d):=by
    unfold Eg;rw[List.range'_succ,List.filter_cons];cases (BD y).all (E3 y (Gu y i) i)<;>rfl
   rw[q];cases (BD y).all (E3 y (Gu y i) i) with
   |true=>
    rw[ct rfl,Bv (by omega) (by omega),CJ,ih m (i+1) a (by omega) (by omega) (by omega)];rfl
   |false=>
    rw[cf rfl,F6 (by simp;omega),Bv (by omega) (by omega),CJ,ih m (i+1) (a++[(i:Int)]) (by omega) (by omega) (by simp;omega)];simp
theorem MG{K:Nat}(y:Ao)(hK:2000≤K):Fy K y=some (if check y≠0 then ([],check y) else (Eg y 0 y.Ac.length,0)):=by
 unfold Fy;rw[bd (IV hK y)]
 by_cases h:check y=0
 ·rw[h,if_neg (by simp)];have e:=QL (K:=K) y (Hf h) hK y.Ac.length K 0 [] (by omega) (by have:=(Hf h).n4;omega) (by simp);rw[Int.natCast_zero] at e;show cond false _ _=_;rw[cf rfl,bd e,List.nil_append]
 ·rw[ct (by simpa using h),if_pos h]
end Go.Proofs.YtkljfdkmjdjpfaaGreat
end
section
namespace Go.Proofs.YtkljfdkmjdjpfaaGreat
theorem Na(n:Nat)(h:n<64):Mq .u64 (n:Int)=some ():=by
 refine if_pos ?_;show(n:Int)%(2^64:Int)=n;rw[show(2:Int)^64=18446744073709551616 from rfl];omega
theorem Lu(K b d:Nat)(h:d<64):C0 K (b:Int) (d:Int)=some (b.testBit d):=by
 unfold C0;rw[bd (Na d h),bd (Rj b d h),QG (Vm b d) (by omega),Ri]
def lead:List Bool→Nat
 |true::l=>lead l+1
 |_=>0
def Hc(R:Int):List Bool→Bool
 |[]=>true
 |b::l=>decide ((lead (b::l):Int)≤R)&&Hc R l
def Jf:List Bool→Nat
 |[]=>0
 |b::l=>(cond b 1 0)+Jf l
theorem L6(r:Nat)(l:List Bool):lead (List.replicate r true++l)=r+lead l:=by
 induction r with
 |zero=>simp
 |succ r ih=>rw[List.replicate_succ,List.cons_append,lead,ih];omega
theorem NN(R:Int)(l:List Bool):∀r:Nat,(r:Int)≤R→Hc R (List.replicate r true++false::l)=(decide (0≤R)&&Hc R l)
 |0,_=>rfl
 |r+1,h=>by
  rw[List.replicate_succ,List.cons_append,Hc,NN R l r (by omega)];have:lead (true::(List.replicate r true++false::l))=r+1:=by
   rw[lead,L6];rfl
  rw[this,dt (by omega),Bool.true_and]
theorem OS(W R:Int)(b:0≤R):∀(l:List Bool) (s:Int) (r:Nat),s≤W→(r:Int)≤R→okW W R l s r=(decide (s+(Jf l:Int)≤W)&&Hc R (List.replicate r true++l))
 |[],s,r,c,a=>by
  have:∀q:Nat,(q:Int)≤R→Hc R (List.replicate q true)=true:=by
   intro q
   induction q with
   |zero=>intro _;rfl
   |succ q ih=>
    intro g;have e:=L6 (q+1) [];rw[List.append_nil,List.replicate_succ] at e;have h:lead ([]:List Bool)=0:=rfl;rw[List.replicate_succ,Hc,e,ih (by omega),dt (by omega)];rfl
  rw[List.append_nil,this r a,okW,dt (by unfold Jf;omega)];rfl
 |false::l,s,r,c,a=>by
  rw[okW,NN R l r a,dt b,Bool.true_and];have:=OS W R b l s 0 c (by omega);rw[Int.natCast_zero] at this;rw[this,Jf];simp
 |true::l,s,r,c,a=>by
  rw[okW];have e:List.replicate r true++true::l=List.replicate (r+1) true++l:=by
   rw[List.replicate_succ'];simp
  rw[e]
  by_cases d:s+1≤W
  ·by_cases f:(r:Int)+1≤R
   ·rw[dt d,dt f,Bool.true_and,Bool.true_and,CJ,OS W R b l (s+1) (r+1) d (by omega)]
    congr 2
    rw[Jf];simp;omega
   ·rw[df f,Bool.false_and,Bool.and_false];have:Hc R (List.replicate (r+1) true++l)=false:=by
     rw[List.replicate_succ,List.cons_append,Hc];have e:=L6 (r+1) l;rw[List.replicate_succ,List.cons_append] at e;rw[e,df (by omega)];rfl
    rw[this,Bool.and_false]
  ·rw[df d,Bool.false_and];have:¬(s+(Jf (true::l):Int)≤W):=by rw[Jf];simp;omega
   rw[df this];rfl
theorem Lv(n b i:Nat)(h:i<n):(wl n b).drop i=b.testBit i::(wl n b).drop (i+1):=by
 rw[List.drop_eq_getElem_cons (by rw[F7];exact h)]
 congr 1
 simp[wl]
theorem Vu(K:Nat)(y:Ao)(b a:Nat)(h0:0≤y.Ak)(h9:y.Ak≤9)(d:0≤y.Ax)(f:y.Ax≤y.Ak+1)(i:a≤9):∀(k m e:Nat) (g:Bool),(a:Int)+y.Ax+1=e+k→k<m→
  Cy K y b (a:Int) m g (e:Int)=some (g&&decide (k≤lead ((wl (days y) b).drop e))):=by
 intro k
 induction k with
 |zero=>
  intro m e g h hm;cases m with
  |zero=>omega
  |succ m=>rw[Cy.eq_2,Bv (by omega) (by omega),cf (df (by omega)),dt (Nat.zero_le _),Bool.and_true]
 |succ k ih=>
  intro m e g h hm;cases m with
  |zero=>omega
  |succ m=>
   rw[Cy.eq_2,Bv (by omega) (by omega),ct (dt (by omega))];cases g with
   |false=>
    rw[cf rfl,Bv (by omega) (by omega),CJ,ih m (e+1) false (by omega) (by omega)];rfl
   |true=>
    rw[ct rfl,Bool.true_and]
    by_cases c:(e:Int)≤y.Ak
    ·rw[ct (dt c),bd (Lu K b e (by omega)),Bv (by omega) (by omega),CJ,ih m (e+1) _ (by omega) (by omega),Lv (days y) b e (by unfold days;omega)];cases b.testBit e with
     |false=>
      rw[Bool.false_and,df (show¬(k+1≤lead (false::_)) by show¬(k+1≤0);omega)]
     |true=>
      rw[Bool.true_and]
      congr 1
      rw[Bool.eq_iff_iff,decide_eq_true_eq,decide_eq_true_eq];show _↔k+1≤lead _+1;omega
    ·rw[cf (df c),Bv (by omega) (by omega),CJ,ih m (e+1) false (by omega) (by omega),show(wl (days y) b).drop e=[] from List.drop_eq_nil_of_le (by rw[F7];unfold days;omega)];rw[Bool.false_and,df (show¬(k+1≤lead []) by show¬(k+1≤0);omega)]
theorem TZ(K:Nat)(y:Ao)(b a:Nat)(h0:0≤y.Ak)(h9:y.Ak≤9)(d:0≤y.Ax)(f:y.Ax≤y.Ak+1)(i:a≤9):∀(k m e:Nat) (g:Bool),(a:Int)+y.Ax+1=e+k→k<m→
  Cv K y b (a:Int) m g (e:Int)=some (g&&decide (k≤lead ((wl (days y) b).drop e))):=by
 intro k
 induction k with
 |zero=>
  intro m e g h hm;cases m with
  |zero=>omega
  |succ m=>rw[Cv.eq_2,Bv (by omega) (by omega),cf (df (by omega)),dt (Nat.zero_le _),Bool.and_true]
 |succ k ih=>
  intro m e g h hm;cases m with
  |zero=>omega
  |succ m=>
   rw[Cv.eq_2,Bv (by omega) (by omega),ct (dt (by omega))];cases g with
   |false=>
    rw[cf rfl,Bv (by omega) (by omega),CJ,ih m (e+1) false (by omega) (by omega)];rfl
   |true=>
    rw[ct rfl,Bool.true_and]
    by_cases c:(e:Int)≤y.Ak
    ·rw[ct (dt c),bd (Lu K b e (by omega)),Bv (by omega) (by omega),CJ,ih m (e+1) _ (by omega) (by omega),Lv (days y) b e (by unfold days;omega)];cases b.testBit e with
     |false=>
      rw[Bool.false_and,df (show¬(k+1≤lead (false::_)) by show¬(k+1≤0);omega)]
     |true=>
      rw[Bool.true_and]
      congr 1
      rw[Bool.eq_iff_iff,decide_eq_true_eq,decide_eq_true_eq];show _↔k+1≤lead _+1;omega
    ·rw[cf (df c),Bv (by omega) (by omega),CJ,ih m (e+1) false (by omega) (by omega),show(wl (days y) b).drop e=[] from List.drop_eq_nil_of_le (by rw[F7];unfold days;omega)];rw[Bool.false_and,df (show¬(k+1≤lead []) by show¬(k+1≤0);omega)]
theorem QM{K:Nat}(y:Ao)(b:Nat)(h0:0≤y.Ak)(h9:y.Ak≤9)(c:0≤y.Ax)(f:y.Ax≤y.Ak+1)(hK:2000≤K):∀(k m i:Nat) (s:Int),days y=i+k→k<m→0≤s→s≤i→
  CO K y b m s (i:Int)=some (cond (Hc y.Ax ((wl (days y) b).drop i)) (.inr (s+(Jf ((wl (days y) b).drop i):Int))) (.inl false)):=by
 intro k
 induction k with
 |zero=>
  intro m i s h hm j l;cases m with
  |zero=>omega
  |succ m=>
   rw[CO.eq_2,cf (df (by unfold days at h;omega)),List.drop_eq_nil_of_le (by rw[F7];omega)];show _=some (Sum.inr (s+((0:Nat):Int)));rw[Int.natCast_zero,Int.add_zero]
 |succ k ih=>
  intro m i s h hm j l;cases m with
  |zero=>omega
  |succ m=>
   have p:days y≤10:=by unfold days;omega
   have hi:i<days y:=by omega
   have g:(i:Int)≤y.Ak:=by unfold days at hi;omega
   have d:=Vu K y b i h0 h9 c f (by omega) (y.Ax+1).toNat K i true (by omega) (by omega);have a:=TZ K y b i h0 h9 c f (by omega) (y.Ax+1).toNat K i true (by omega) (by omega);have n:decide ((y.Ax+1).toNat≤lead ((wl (days y) b).drop i))= !decide ((lead ((wl (days y) b).drop i):Int)≤y.Ax):=by
    rw[←decide_not];congr 1;rw[eq_iff_iff];omega
   rw[Bool.true_and,n] at d a;rw[CO.eq_2,ct (dt g),bd (Lu K b i (by omega))];have e:=Lv (days y) b i hi;have o:Hc y.Ax ((wl (days y) b).drop i)=(decide ((lead ((wl (days y) b).drop i):Int)≤y.Ax)&&Hc y.Ax ((wl (days y) b).drop (i+1))):=by
    conv=>lhs;rw[e]
    rw[Hc,←e]
   have ec:Jf ((wl (days y) b).drop i)=(cond (b.testBit i) 1 0)+Jf ((wl (days y) b).drop (i+1)):=by rw[e,Jf]
   rw[o,ec];cases q:b.testBit i with
   |true=>
    rw[ct rfl,Bv (by omega) (by omega),bd d];cases decide ((lead ((wl (days y) b).drop i):Int)≤y.Ax) with
    |false=>rw[Bool.false_and];rfl
    |true=>
     rw[nt,Bv (by omega) (by omega),CJ,ih m (i+1) (s+1) (by omega) (by omega) (by omega) (by omega),Bool.true_and]
     congr 2
     simp;omega
   |false=>
    rw[cf rfl,bd a];cases decide ((lead ((wl (days y) b).drop i):Int)≤y.Ax) with
    |false=>rw[Bool.false_and];rfl
    |true=>
     rw[nt,Bv (by omega) (by omega),CJ,ih m (i+1) s (by omega) (by omega) (by omega) (by omega),Bool.true_and]
     congr 2
     simp
theorem PD{K:Nat}(y:Ao)(b:Nat)(h0:0≤y.Ak)(h9:y.Ak≤9)(a:0≤y.Ax)(d:y.Ax≤y.Ak+1)(f:0≤y.Ap)(hK:2000≤K):EN K y b=some (Hw y (wl (days y) b)):=by
 unfold EN;have g:days y≤10:=by unfold days;omega
 have e:=QM (K:=K) y b h0 h9 a d hK (days y) K 0 0 (by omega) (by omega) (by omega) (by omega);rw[Int.natCast_zero,List.drop_zero] at e;rw[bd e];have c:=OS y.Ap y.Ax a (wl (days y) b) 0 0 f (by omega);rw[Int.natCast_zero] at c;unfold Hw;rw[c];show _=some (_&&Hc y.Ax (wl (days y) b));cases Hc y.Ax (wl (days y) b) with
 |true=>rw[Bool.and_true];rfl
 |false=>rw[Bool.and_false];rfl
def Hg (y:Ao) (k d:Nat):List Int:=((List.range' k d).filter fun b=>Hw y (wl (days y) b)).map fun b:Nat=>(b:Int)
theorem N0(y:Ao):(Hg y 0 (2^days y)).length=(Bu y).length:=by
 unfold Hg Bu;rw[List.length_map,List.range_eq_range',List.filter_map,List.length_map];rfl
theorem QN{K:Nat}(y:Ao)(h0:0≤y.Ak)(h9:y.Ak≤9)(d:0≤y.Ax)(f:y.Ax≤y.Ak+1)(g:0≤y.Ap)(hK:2000≤K):∀(k m i:Nat) (a:List Int),2^days y=i+k→k<m→a.length≤i→
  CU K y m a (i:Int)=some (a++Hg y i k):=by
 intro k;have j:days y≤10:=by unfold days;omega
 have n:=Jc _ j;have b:y.Ak+1=(days y:Int):=by unfold days;omega
 have c:FG (1:Int) (days y:Int)=((2^days y:Nat):Int):=by
  unfold FG;rw[Int.one_mul,Int.toNat_natCast,Int.natCast_pow];rfl
 have e:JE (1:Int) (days y:Int)=some ():=by
  refine if_pos ⟨by omega,by omega,?_,?_⟩
  ·have:(0:Int)≤1*2^((days y:Nat):Int).toNat:=by rw[Int.one_mul];exact Int.le_of_lt (Int.pow_pos (by omega))
   exact Int.le_trans (by omega) this
  ·rw[Int.one_mul,Int.toNat_natCast];have:((2^days y:Nat):Int)≤1024:=by omega
   rw[Int.natCast_pow] at this;exact Int.le_trans this (by omega)
 induction k with
 |zero=>
  intro m i a h hm l;cases m with
  |zero=>omega
  |succ m=>
   rw[CU.eq_2,Bv (by omega) (by omega),b,bd (Na _ (by omega)),bd e,c,cf (df (by omega))];simp[Hg]
 |succ k ih=>
  intro m i a h hm l;cases m with
  |zero=>omega
  |succ m=>
   rw[CU.eq_2,Bv (by omega) (by omega),b,bd (Na _ (by omega)),bd e,c,ct (dt (by omega)),bd (PD y i h0 h9 d f g hK)];unfold Hg;rw[List.range'_succ,List.filter_cons];cases Hw y (wl (days y) i) with
   |true=>
    rw[ct rfl,F6 (by simp;omega),Bv (by omega) (by omega),CJ,ih m (i+1) _ (by omega) (by omega) (by simp;omega)];simp[Hg]
   |false=>
    rw[cf rfl,Bv (by omega) (by omega),CJ,ih m (i+1) a (by omega) (by omega) (by omega)];simp[Hg]
theorem MH{K:Nat}(y:Ao)(h0:0≤y.Ak)(h9:y.Ak≤9)(a:0≤y.Ax)(b:y.Ax≤y.Ak+1)(c:0≤y.Ap)(hK:2000≤K):Er K y=some (Hg y 0 (2^days y)):=by
 unfold Er;have d:days y≤10:=by unfold days;omega
 have f:=Jc _ d;have e:=QN (K:=K) y h0 h9 a b c hK (2^days y) K 0 [] (by omega) (by omega) (by simp);rw[Int.natCast_zero] at e;rw[bd e,List.nil_append]
theorem Ic{y:Ao}(h9:y.Ak≤9)(h:∀l∈y.Ac,GH y l=true):∀l∈y.Ac,sized l∧0≤l.As∧l.AJ≤9:=fun l a=>by
 have:=Iz.1 (h l a);exact⟨L3 h9 (h l a),this.1,by omega⟩
theorem RE{K:Nat}(y:Ao)(h0:0≤y.Ak)(h9:y.Ak≤9)(a:0≤y.Ax)(b:y.Ax≤y.Ak+1)(c:0≤y.Ap)(d:y.Ac.length≤4)(f:∀l∈y.Ac,sized l∧0≤l.As∧l.AJ≤9)(hK:2000≤K):
  DM K y=some (JH 3000 ((Bu y).length:Int) y.Ac):=by
 unfold DM;have g:days y≤10:=by unfold days;omega
 have hw:=K9 y g;have e:=Vo y d f (K:=K) y.Ac.length K 0 ((Bu y).length:Int) (by omega) (by omega) (by omega) (by omega);rw[Int.natCast_zero,List.drop_zero] at e;rw[bd (MH y h0 h9 a b c hK),N0,bd e]
theorem T0(K:Nat)(y:Ao)(d:y.Ac.length≤4):∀(k m i:Nat),y.Ac.length=i+k→k<m→
  DA K y m (i:Int)=some (cond ((y.Ac.drop i).all (GH y)) (.inr ()) (.inl 1)):=by
 intro k
 induction k with
 |zero=>
  intro m i h hm;cases m with
  |zero=>omega
  |succ m=>rw[DA.eq_2,cf (df (by omega)),List.drop_eq_nil_of_le (by omega)];rfl
 |succ k ih=>
  intro m i h hm;cases m with
  |zero=>omega
  |succ m=>
   have hi:i<y.Ac.length:=by omega
   rw[DA.eq_2,ct (dt (by omega)),BZ hi,List.drop_eq_getElem_cons hi,List.all_cons];unfold GH;generalize y.Ac[i]=l
   by_cases a:l.As<0
   ·rw[ct (dt a),df (show¬(0≤l.As) by omega)];rfl
   rw[cf (df a),dt (show 0≤l.As by omega)]
   by_cases b:l.AJ<l.As
   ·rw[ct (dt b),df (show¬(l.As≤l.AJ) by omega)];rfl
   rw[cf (df b),dt (show l.As≤l.AJ by omega)]
   by_cases c:y.Ak<l.AJ
   ·rw[ct (dt c),df (show¬(l.AJ≤y.Ak) by omega)];rfl
   rw[cf (df c),dt (show l.AJ≤y.Ak by omega),bd (MZ ..)];cases FZ l.Ar 1 5 with
   |false=>rfl
   |true=>
    rw[nt,bd (MZ ..)];cases FZ l.BV 1 5 with
    |false=>rfl
    |true=>
     rw[nt,bd (MZ ..)];cases FZ l.Ce 0 y.Ak with
     |false=>rfl
     |true=>rw[nt,Bv (by omega) (by omega),CJ,ih m (i+1) (by omega) (by omega)];rfl
theorem PX{K:Nat}(hK:2000≤K)(y:Ao):ER K y=some (check y):=by
 unfold ER check
 by_cases g:9<y.Ak
 ·rw[ct (dt g),if_pos (.inl g)]
 rw[cf (df g)]
 by_cases i:2<y.Aj
 ·rw[ct (dt i),if_pos (.inr (.inl i))]
 rw[cf (df i)]
 by_cases j:4<(y.Ac.length:Int)
 ·rw[ct (dt j),if_pos (.inr (.inr j))]
 rw[cf (df j),if_neg (by omega)]
 by_cases a:y.Ak<0
 ·rw[ct (dt a),if_pos (.inl a)]
 rw[cf (df a)]
 by_cases b:y.Aj<1
 ·rw[ct (dt b),if_pos (.inr (.inl b))]
 rw[cf (df b),Bv (by omega) (by omega),bd (MZ ..)];cases m:FZ y.Ap 0 (y.Ak+1) with
 |false=>rw[nf,if_pos (.inr (.inr (.inl rfl)))]
 |true=>
  rw[nt,Bv (by omega) (by omega),bd (MZ ..)];cases n:FZ y.Ax 0 (y.Ak+1) with
  |false=>rw[nf,if_pos (.inr (.inr (.inr (.inl rfl))))]
  |true=>
   have e:=T0 K y (by omega) y.Ac.length K 0 (by omega) (by omega);rw[Int.natCast_zero,List.drop_zero] at e;rw[nt,bd e];cases o:y.Ac.all (GH y) with
   |false=>rw[if_pos (.inr (.inr (.inr (.inr rfl))))];rfl
   |true=>
    have q:=Fi.1 m;have r:=Fi.1 n;have k:=Ic (y:=y) (by omega) (List.all_eq_true.1 o);rw[if_neg (by simp[a,b])];show(DM K y).bind _=_;rw[bd (RE y (by omega) (by omega) (by omega) (by omega) (by omega) (by omega) k hK)];have f:=M0 (c:=3000) (by omega) ((Bu y).length:Int) (by omega) fun l p=>(k l p).1;unfold Gh
    by_cases d:1000<((Bu y).length:Int)*Fm y.Ac
    ·rw[ct (dt (f.2 d)),if_pos d]
    ·rw[cf (df fun h=>d (f.1 h)),if_neg d]
end Go.Proofs.YtkljfdkmjdjpfaaGreat
end
section
namespace Go.Proofs.YtkljfdkmjdjpfaaGreat
def IN(y:Ao):List Nat:=(List.range (2^days y)).filter fun b=>Hw y (wl (days y) b)
theorem RF(y:Ao):Hg y 0 (2^days y)=(IN y).map fun b:Nat=>(b:Int):=by
 unfold Hg IN;rw[List.range_eq_range']
theorem Lg(y:Ao):Bu y=(IN y).map (wl (days y)):=by
 unfold Bu IN;rw[List.filter_map];rfl
theorem Lh(y:Ao):(IN y).length=(Bu y).length:=by rw[Lg,List.length_map]
def Ks:List A5→Nat→List Int
 |[],_=>[]
 |l::r,n=>(l.As+((n%(B8 l).toNat:Nat):Int))::Ks r (n/(B8 l).toNat)
def OT(y:Ao)(n:Nat):AU:=⟨Ks y.Ac (n/(Bu y).length),(Bu y).getD (n%(Bu y).length) []⟩
theorem Vv(K:Nat)(y:Ao)(w:y.Ac.length≤4)(c:∀l∈y.Ac,sized l∧0≤l.As∧l.AJ≤9):∀(k m i:Nat) (q:Nat) (a:List Int),y.Ac.length=i+k→k<m→q≤100000→a.length≤i→
  El K y m (q:Int) (i:Int) a=some (a++Ks (y.Ac.drop i) q):=by
 intro k
 induction k with
 |zero=>
  intro m i q a h hm d e;cases m with
  |zero=>omega
  |succ m=>rw[El.eq_2,cf (df (by omega)),List.drop_eq_nil_of_le (by omega)];simp[Ks]
 |succ k ih=>
  intro m i q a h hm d e;cases m with
  |zero=>omega
  |succ m=>
   have hi:i<y.Ac.length:=by omega
   obtain⟨⟨s1,s2⟩,f,j⟩:=c y.Ac[i] (List.getElem_mem hi);have b:((B8 y.Ac[i]).toNat:Int)=B8 y.Ac[i]:=by omega
   have p:1≤(B8 y.Ac[i]).toNat:=by omega
   have g:=Rl K _ f (by unfold B8 at s1;omega) j;have n:(q:Int)%B8 y.Ac[i]=((q%(B8 y.Ac[i]).toNat:Nat):Int):=by rw[Int.natCast_emod,b]
   have o:(q:Int)/B8 y.Ac[i]=((q/(B8 y.Ac[i]).toNat:Nat):Int):=by rw[Int.natCast_ediv,b]
   have r:q%(B8 y.Ac[i]).toNat<(B8 y.Ac[i]).toNat:=Nat.mod_lt _ (by omega);have s:q/(B8 y.Ac[i]).toNat≤q:=Nat.div_le_self ..;have t:(0:Int)≤((q%(B8 y.Ac[i]).toNat:Nat):Int):=Int.natCast_nonneg _;have u:(0:Int)≤((q/(B8 y.Ac[i]).toNat:Nat):Int):=Int.natCast_nonneg _;have v:B8 y.Ac[i]=y.Ac[i].AJ-y.Ac[i].As+1:=rfl;rw[El.eq_2,ct (dt (by omega)),BZ hi,bd g,QG (by omega) s1,n,Bv (by omega) (by omega),F6 (by simp;omega),bd g,Vl (by omega) s1,o,Bv (by omega) (by omega),Bv (by omega) (by omega),CJ];rw[ih m (i+1) _ _ (by omega) (by omega) (by omega) (by simp;omega),List.drop_eq_getElem_cons hi,Ks];simp
theorem T1(K:Nat)(y:Ao)(b:Nat)(h0:0≤y.Ak)(h9:y.Ak≤9):∀(k m i:Nat) (a:List Bool),days y=i+k→k<m→a.length≤i→
  D5 K y (b:Int) m (i:Int) a=some (a++(wl (days y) b).drop i):=by
 intro k
 induction k with
 |zero=>
  intro m i a h hm c;cases m with
  |zero=>omega
  |succ m=>rw[D5.eq_2,cf (df (by unfold days at h;omega)),List.drop_eq_nil_of_le (by rw[F7];omega)];simp
 |succ k ih=>
  intro m i a h hm c;cases m with
  |zero=>omega
  |succ m=>
   have hi:(i:Int)≤y.Ak:=by unfold days at h;omega
   have d:=Lv (days y) b i (by omega);rw[D5.eq_2,ct (dt hi),bd (Lu K b i (by omega)),F6 (by simp;omega),Bv (by omega) (by omega),CJ,ih m (i+1) _ (by omega) (by omega) (by simp;omega),d];simp
theorem WA{K:Nat}(y:Ao)(a:DH y)(n:Nat)(e:(n:Int)<Gh y)(hK:2000≤K):Gd K y (Hg y 0 (2^days y)) (n:Int)=some (OT y n):=by
 unfold Gd;have h0:=a.h0;have h9:=a.h9;have i:=a.n4;have hm:=a.many;have j:=Ic h9 a.M4;have q:days y≤10:=by unfold days;omega
 have hlen:1≤(Bu y).length:=by
  rcases Nat.eq_zero_or_pos (Bu y).length with h|h
  ·unfold Gh at e;rw[h] at e;simp at e;omega
  ·exact h
 rw[RF,List.length_map,Lh];have k:(n:Int)%((Bu y).length:Int)=((n%(Bu y).length:Nat):Int):=by rw[Int.natCast_emod]
 have l:(n:Int)/((Bu y).length:Int)=((n/(Bu y).length:Nat):Int):=by rw[Int.natCast_ediv]
 have f:n%(Bu y).length<(Bu y).length:=Nat.mod_lt _ (by omega);have m:n/(Bu y).length≤n:=Nat.div_le_self ..;have o:(0:Int)≤((n%(Bu y).length:Nat):Int):=Int.natCast_nonneg _;have p:(0:Int)≤((n/(Bu y).length:Nat):Int):=Int.natCast_nonneg _;have c:n%(Bu y).length<(IN y).length:=by rw[Lh];exact f
 have hi:n%(Bu y).length<((IN y).map fun b:Nat=>(b:Int)).length:=by rw[List.length_map];exact c
 have g:=Vv K y i j y.Ac.length K 0 (n/(Bu y).length) [] (by omega) (by omega) (by omega) (by simp);have d:=T1 K y ((IN y)[n%(Bu y).length]) h0 h9 (days y) K 0 [] (by omega) (by omega) (by simp);rw[Int.natCast_zero,List.drop_zero,List.nil_append] at g d;rw[QG (by omega) (by omega),k,BZ hi,Vl (by omega) (by omega),l,Bv (by omega) (by omega),bd g,List.getElem_map,bd d];unfold OT
 congr 2
 rw[List.getD_eq_getElem?_getD,List.getElem?_eq_getElem f];have:(Bu y)[n%(Bu y).length]'f=((IN y).map (wl (days y)))[n%(Bu y).length]'(by rw[List.length_map];exact c):=by
  congr 1;exact Lg y
 rw[this,List.getElem_map];rfl
def HW(y:Ao)(k d:Nat):List AU:=(List.range' k d).map (OT y)
theorem Nb{K:Nat}(y:Ao)(a:DH y)(hK:2000≤K):DM K y=some (Gh y):=by
 have b:=Ic a.h9 a.M4;rw[RE y a.h0 a.h9 a.u0 a.u1 a.w0 a.n4 b hK];have:=a.many;unfold Gh at this⊢;rw[PV (by omega) _ (by omega) (fun l c=>(b l c).1) this]
theorem SN{K:Nat}(y:Ao)(b:DH y)(hK:2000≤K):∀(k m i:Nat) (a:List AU),(Gh y).toNat=i+k→k<m→a.length≤i→
  DE K y (Hg y 0 (2^days y)) m a (i:Int)=some (a++HW y i k):=by
 have e:=b.many;have f:0≤Gh y:=by
  unfold Gh;have:=Ju (ls:=y.Ac) fun l c=>(Ic b.h9 b.M4 l c).1;exact Int.mul_nonneg (by omega) (by omega)
 intro k
 induction k with
 |zero=>
  intro m i a h hm d;cases m with
  |zero=>omega
  |succ m=>rw[DE.eq_2,bd (Nb y b hK),cf (df (by omega))];simp[HW]
 |succ k ih=>
  intro m i a h hm d;cases m with
  |zero=>omega
  |succ m=>
   rw[DE.eq_2,bd (Nb y b hK),ct (dt (by omega)),bd (WA y b i (by omega) hK),F6 (by simp;omega),Bv (by omega) (by omega),CJ,ih m (i+1) _ (by omega) (by omega) (by simp;omega)];unfold HW;rw[List.range'_succ];simp
def Gv(y:Ao):List AU:=HW y 0 (Gh y).toNat
theorem OU{K:Nat}(y:Ao)(a:DH y)(hK:2000≤K):EM K y=some (Gv y):=by
 unfold EM;have hm:=a.many;have e:=SN (K:=K) y a hK (Gh y).toNat K 0 [] (by omega) (by omega) (by simp);rw[Int.natCast_zero] at e;rw[bd (MH y a.h0 a.h9 a.u0 a.u1 a.w0 hK),bd e,List.nil_append];rfl
theorem PE(y:Ao):(Gv y).length=(Gh y).toNat:=by unfold Gv HW;simp
theorem MI:∀{ls:List A5} (n:Nat),(∀l∈ls,sized l)→DV ls (Ks ls n)=true
 |[],_,_=>rfl
 |l::r,n,h=>by
  have a:=h l (List.mem_cons_self ..);have b:n%(B8 l).toNat<(B8 l).toNat:=Nat.mod_lt _ (by have:=a.1;omega);rw[Ks,DV,MI _ fun x c=>h x (List.mem_cons_of_mem _ c),Bool.and_true,Fi];unfold B8 at b⊢;omega
theorem RG:∀{ls:List A5} {c:List Int},(∀l∈ls,sized l)→DV ls c=true→∃n:Nat,(n:Int)<Fm ls∧Ks ls n=c
 |[],[],_,_=>⟨0,by simp[Fm],rfl⟩
 |l::r,a::d,h,b=>by
  rw[DV,Bool.and_eq_true] at b;obtain⟨q,o,e⟩:=RG (fun x g=>h x (List.mem_cons_of_mem _ g)) b.2;have i:=h l (List.mem_cons_self ..);have p:=Fi.1 b.1;have f:(a-l.As).toNat<(B8 l).toNat:=by unfold B8;omega
  have j:0<(B8 l).toNat:=by omega
  refine⟨(a-l.As).toNat+(B8 l).toNat*q,?_,?_⟩
  ·have k:B8 l*((q:Int)+1)≤B8 l*Fm r:=Int.mul_le_mul_of_nonneg_left (by omega) (by have:=i.1;omega);rw[Fm];rw[Int.mul_add,Int.mul_one] at k;have m:(((a-l.As).toNat+(B8 l).toNat*q:Nat):Int)=((a-l.As).toNat:Int)+B8 l*(q:Int):=by
    rw[Int.natCast_add,Int.natCast_mul]
    congr 2;omega
   rw[m];omega
  ·rw[Ks,Nat.add_mul_mod_self_left,Nat.mod_eq_of_lt f,Nat.add_mul_div_left _ _ j,Nat.div_eq_of_lt f,Nat.zero_add,e]
   congr 1;omega
 |[],_::_,_,h=>by cases h
 |_::_,[],_,h=>by cases h
theorem HQ{y:Ao}(d:DH y){t:AU}:t∈Gv y↔En y t=true:=by
 have i:=Ic d.h9 d.M4;have b:∀l∈y.Ac,sized l:=fun l k=>(i l k).1;rw[←EJ d.h0];unfold Gv HW;rw[List.mem_map];constructor
 ·rintro⟨n,a,rfl⟩;rw[←List.range_eq_range',List.mem_range] at a;have hlen:0<(Bu y).length:=by
   rcases Nat.eq_zero_or_pos (Bu y).length with h|h
   ·unfold Gh at a;rw[h] at a;simp at a
   ·exact h
  have g:n%(Bu y).length<(Bu y).length:=Nat.mod_lt _ hlen;unfold BD OT;rw[List.mem_flatMap];refine⟨(Bu y).getD (n%(Bu y).length) [],?_,List.mem_map.2 ⟨_,Hb.2 (MI _ b),rfl⟩⟩;rw[List.getD_eq_getElem?_getD,List.getElem?_eq_getElem g];exact List.getElem_mem g
 ·intro h;unfold BD at h;rw[List.mem_flatMap] at h;obtain⟨w,hw,m⟩:=h;obtain⟨c,o,rfl⟩:=List.mem_map.1 m;obtain⟨q,r,e⟩:=RG b (Hb.1 o);obtain⟨j,f,s⟩:=List.getElem_of_mem hw;have hlen:0<(Bu y).length:=by omega
  refine⟨j+(Bu y).length*q,?_,?_⟩
  ·rw[←List.range_eq_range',List.mem_range];have p:((Bu y).length:Int)*((q:Int)+1)≤((Bu y).length:Int)*Fm y.Ac:=Int.mul_le_mul_of_nonneg_left (by omega) (by omega);rw[Int.mul_add,Int.mul_one] at p;have u:((j+(Bu y).length*q:Nat):Int)=(j:Int)+((Bu y).length:Int)*(q:Int):=by
    rw[Int.natCast_add,Int.natCast_mul]
   unfold Gh;omega
  ·unfold OT;rw[Nat.add_mul_mod_self_left,Nat.mod_eq_of_lt f,Nat.add_mul_div_left _ _ hlen,Nat.div_eq_of_lt f,Nat.zero_add,e,List.getD_eq_getElem?_getD,List.getElem?_eq_getElem f]
   congr 1
theorem SO{y:Ao}(a:DH y)(p:AU→Bool):(Gv y).all p=(BD y).all p:=by
 rw[Bool.eq_iff_iff,List.all_eq_true,List.all_eq_true];exact⟨fun h t b=>h t ((HQ a).2 ((EJ a.h0).1 b)),fun h t b=>h t ((EJ a.h0).2 ((HQ a).1 b))⟩
end Go.Proofs.YtkljfdkmjdjpfaaGreat
end
section
namespace Go.Proofs.YtkljfdkmjdjpfaaGreat
theorem OV(n:Nat)(h:n<63):JE (1:Int) (n:Int)=some ():=by
 have a:2^n≤2^62:=Nat.pow_le_pow_right (by omega) (by omega);have b:(1:Int)*2^((n:Nat):Int).toNat=((2^n:Nat):Int):=by rw[Int.one_mul,Int.toNat_natCast,Int.natCast_pow];rfl
 have c:2^62=4611686018427387904:=rfl;rw[c] at a;refine if_pos ⟨by omega,by omega,?_,?_⟩
 ·rw[b];exact Int.le_trans (by decide) (Int.natCast_nonneg _)
 ·rw[b];exact Int.le_trans (Int.ofNat_le.2 a) (by decide)
theorem Nc(n:Nat):FG (1:Int) (n:Int)=((2^n:Nat):Int):=by
 unfold FG;rw[Int.one_mul,Int.toNat_natCast,Int.natCast_pow];rfl
theorem RH(a b:Nat)(c:a≤9223372036854775807)(d:b≤9223372036854775807):OC (a:Int) (b:Int)=some ():=if_pos ⟨⟨by omega,by omega⟩,by omega,by omega⟩
theorem RI(a b:Nat):Mp (a:Int) (b:Int)=((a|||b:Nat):Int):=rfl
theorem IA(n:Nat)(h:n≤62):2^n≤4611686018427387904:=by
 have a:2^n≤2^62:=Nat.pow_le_pow_right (by omega) h;exact a
end Go.Proofs.YtkljfdkmjdjpfaaGreat
end
section
namespace Go.Proofs.YtkljfdkmjdjpfaaGreat
def seen (n:Int):List Int→Nat→Option Nat
 |[],m=>some m
 |x::xs,m=>cond (FZ x 0 (n-1)) (cond (m.testBit x.toNat) none (seen n xs (m|||2^x.toNat))) none
theorem LQ(n:Int):∀(xs ys:List Int) (m:Nat),seen n (xs++ys) m=(seen n xs m).bind (seen n ys)
 |[],ys,m=>rfl
 |x::xs,ys,m=>by
  rw[List.cons_append,seen,seen];cases FZ x 0 (n-1) with
  |false=>rfl
  |true=>
   cases m.testBit x.toNat with
   |true=>rfl
   |false=>exact LQ n xs ys _
def SP:Option Nat→Bool⊕Int
 |none=>.inl false
 |some m=>.inr (m:Int)
theorem L7{m i n:Nat}(hm:m<2^n)(hi:i<n):m|||2^i<2^n:=Nat.or_lt_two_pow hm (Nat.pow_lt_pow_right (by omega) hi)
theorem Vw(K:Nat)(y:Ao)(o:List (List Int))(r:Nat)(a:r<o.length)(p:y.Ac.length≤4)(q:o[r].length≤1000):∀(k m i b:Nat),o[r].length=i+k→k<m→b<2^y.Ac.length→
  Dn K y o (r:Int) m (b:Int) (i:Int)=some (SP (seen (y.Ac.length:Int) (o[r].drop i) b))∧∀b',seen (y.Ac.length:Int) (o[r].drop i) b=some b'→b'<2^y.Ac.length:=by
 have s:2^y.Ac.length≤4611686018427387904:=IA _ (by omega);intro k
 induction k with
 |zero=>
  intro m i b h hm c;cases m with
  |zero=>omega
  |succ m=>
   rw[Dn.eq_2,BZ a,cf (df (by omega)),List.drop_eq_nil_of_le (by omega)];exact⟨rfl,fun b' h=>by cases h;exact c⟩
 |succ k ih=>
  intro m i b h hm c;cases m with
  |zero=>omega
  |succ m=>
   have hi:i<o[r].length:=by omega
   rw[Dn.eq_2,BZ a,ct (dt (by omega)),BZ a,BZ hi,Bv (by omega) (by omega),bd (MZ ..),List.drop_eq_getElem_cons hi];have d:seen (y.Ac.length:Int) (o[r][i]::o[r].drop (i+1)) b=cond (FZ o[r][i] 0 ((y.Ac.length:Int)-1)) (cond (b.testBit o[r][i].toNat) none (seen (y.Ac.length:Int) (o[r].drop (i+1)) (b|||2^o[r][i].toNat))) none:=rfl;rw[d];generalize t:o[r][i]=x;cases e:FZ x 0 ((y.Ac.length:Int)-1) with
   |false=>exact⟨rfl,fun b' h=>by cases h⟩
   |true=>
    have g:=Fi.1 e;obtain⟨j,rfl⟩:∃j:Nat,x=(j:Int):=⟨x.toNat,by omega⟩;have f:j<y.Ac.length:=by omega
    rw[nt,bd (Lu K b j (by omega)),Int.toNat_natCast,ct rfl];cases l:b.testBit j with
    |true=>exact⟨rfl,fun b' h=>by cases h⟩
    |false=>
     have n:=IA j (by omega);rw[cf rfl,cf rfl,bd (Na j (by omega)),bd (OV j (by omega)),Nc,bd (RH _ _ (by omega) (by omega)),Bv (by omega) (by omega),CJ,RI];exact ih m (i+1) _ (by omega) (by omega) (L7 c f)
theorem Vx{K:Nat}(y:Ao)(o:List (List Int))(j:y.Ac.length≤4)(q:o.length≤1000)(n:∀l∈o,l.length≤1000)(hK:2000≤K):∀(k m i b:Nat),o.length=i+k→k<m→b<2^y.Ac.length→
  Dp K y o m (b:Int) (i:Int)=some (SP (seen (y.Ac.length:Int) (o.drop i).flatten b))∧∀b',seen (y.Ac.length:Int) (o.drop i).flatten b=some b'→b'<2^y.Ac.length:=by
 intro k
 induction k with
 |zero=>
  intro m i b h hm d;cases m with
  |zero=>omega
  |succ m=>
   rw[Dp.eq_2,cf (df (by omega)),List.drop_eq_nil_of_le (by omega)];exact⟨rfl,fun b' h=>by cases h;exact d⟩
 |succ k ih=>
  intro m i b h hm d;cases m with
  |zero=>omega
  |succ m=>
   have hi:i<o.length:=by omega
   have e:=n o[i] (List.getElem_mem hi);obtain⟨f,g⟩:=Vw K y o i hi j e o[i].length K 0 b (by omega) (by omega) d;rw[Int.natCast_zero,List.drop_zero] at f;rw[List.drop_zero] at g;rw[Dp.eq_2,ct (dt (by omega)),bd f,List.drop_eq_getElem_cons hi,List.flatten_cons,LQ];cases p:seen (y.Ac.length:Int) o[i] b with
   |none=>exact⟨rfl,fun b' h=>by cases h⟩
   |some a=>
    have c:=ih m (i+1) a (by omega) (by omega) (g a p);refine⟨?_,c.2⟩;refine Eq.trans ?_ c.1;rw[show SP (some a)=Sum.inr (a:Int) from rfl,Sum.elim_inr,Bv (by omega) (by omega),CJ]
theorem Li{n:Nat}:∀{xs:List Int} {m c:Nat},seen (n:Int) xs m=some c→(∀x∈xs,0≤x∧x<(n:Int)∧m.testBit x.toNat=false)∧xs.Nodup∧∀j:Nat,c.testBit j=(m.testBit j||decide ((j:Int)∈xs))
 |[],m,c,h=>by
  have d:m=c:=Option.some.inj h;subst d;refine⟨?_,List.nodup_nil,?_⟩
  ·intro x f;exact absurd f (List.not_mem_nil (a:=x))
  ·intro j;simp
 |x::xs,m,c,h=>by
  rw[seen] at h;cases g:FZ x 0 ((n:Int)-1) with
  |false=>rw[g] at h;cases h
  |true=>
   rw[g,ct rfl] at h;cases i:m.testBit x.toNat with
   |true=>rw[i] at h;cases h
   |false=>
    rw[i,cf rfl] at h;obtain⟨k,d,l⟩:=Li h;have o:=Fi.1 g;have key:∀z∈xs,m.testBit z.toNat=false∧z≠x:=fun z b=>by
     have:=(k z b).2.2;rw[Nat.testBit_or,Bool.or_eq_false_iff] at this;refine⟨this.1,fun e=>?_⟩;rw[e,Nat.testBit_two_pow_self] at this;cases this.2
    refine⟨fun z b=>?_,List.nodup_cons.2 ⟨fun f=>(key x f).2 rfl,d⟩,fun j=>?_⟩
    ·rcases List.mem_cons.1 b with rfl|b
     ·exact⟨by omega,by omega,i⟩
     ·exact⟨(k z b).1,(k z b).2.1,(key z b).1⟩
    ·rw[l j,Nat.testBit_or,Nat.testBit_two_pow,Bool.or_assoc]
     congr 1
     rw[Bool.eq_iff_iff,Bool.or_eq_true,decide_eq_true_eq,decide_eq_true_eq,decide_eq_true_eq,List.mem_cons];exact or_congr_left ⟨fun e=>by omega,fun e=>by omega⟩
theorem NO{n:Nat}:∀{xs:List Int} {m:Nat},(∀x∈xs,0≤x∧x<(n:Int)∧m.testBit x.toNat=false)→xs.Nodup→seen (n:Int) xs m≠none
 |[],m,_,_=>by rw[seen];simp
 |x::xs,m,h,a=>by
  obtain⟨c,f,d⟩:=h x (List.mem_cons_self ..);rw[seen,Fi.2 ⟨c,by omega⟩,d,ct rfl,cf rfl];refine NO (fun z b=>?_) (List.nodup_cons.1 a).2;obtain⟨g1,g2,g3⟩:=h z (List.mem_cons_of_mem _ b);refine⟨g1,g2,?_⟩;rw[Nat.testBit_or,g3,Nat.testBit_two_pow,Bool.false_or,df];intro e;have:x=z:=by omega
  exact(List.nodup_cons.1 a).1 (this▸b)
theorem IP(n:Nat):(iota n).Nodup:=by
 unfold iota;refine List.Pairwise.map _ (fun a b h=>?_) (List.nodup_range (n:=n));intro e;exact h (by omega)
theorem RJ(n:Nat)(xs:List Int):(∃m,seen (n:Int) xs 0=some m∧m=2^n-1)↔xs.Perm (iota n):=by
 constructor
 ·rintro⟨m,h,hm⟩;obtain⟨d,f,b⟩:=Li h;refine(List.perm_ext_iff_of_nodup f (IP n)).2 fun x=>?_;rw[HP];constructor
  ·intro a;exact⟨(d x a).1,(d x a).2.1⟩
  ·intro a;have:=b x.toNat;rw[hm,Nat.testBit_two_pow_sub_one,dt (by omega),Nat.zero_testBit,Bool.false_or] at this;have g:=of_decide_eq_true this.symm
   rwa[show((x.toNat:Nat):Int)=x by omega] at g
 ·intro c;have i:∀x∈xs,0≤x∧x<(n:Int)∧(0:Nat).testBit x.toNat=false:=fun x a=>by
   have:=HP.1 (c.mem_iff.1 a);exact⟨this.1,this.2,Nat.zero_testBit _⟩
  have k:xs.Nodup:=c.symm.nodup (IP n);cases e:seen (n:Int) xs 0 with
  |none=>exact absurd e (NO i k)
  |some m=>
   refine⟨m,rfl,?_⟩;obtain⟨_,_,b⟩:=Li e;apply Nat.eq_of_testBit_eq;intro j;rw[b j,Nat.testBit_two_pow_sub_one,Nat.zero_testBit,Bool.false_or]
   congr 1
   rw[eq_iff_iff,c.mem_iff,HP];omega
theorem NP{K:Nat}(y:Ao)(o:List (List Int))(g:y.Ac.length≤4)(i:o.length≤1000)(j:∀l∈o,l.length≤1000)(hK:2000≤K):Ex K y o=some (CS y o):=by
 unfold Ex;have d:0<2^y.Ac.length:=Nat.pos_of_ne_zero (by simp);have k:=IA y.Ac.length (by omega);obtain⟨f,n⟩:=Vx (K:=K) y o g i j hK o.length K 0 0 (by omega) (by omega) d;rw[Int.natCast_zero,List.drop_zero] at f;have b:=RJ y.Ac.length o.flatten
 by_cases a:(o.length:Int)=y.Aj
 ·rw[cf (by rw[a];simp),bd f];cases c:seen (y.Ac.length:Int) o.flatten 0 with
  |none=>
   show some false=_
   congr 1
   symm
   rw[←Bool.not_eq_true,EF];rintro⟨_,h⟩;obtain⟨m,h,_⟩:=b.2 h;rw[c] at h;cases h
  |some m=>
   show(Mq .u64 (y.Ac.length:Int)).bind _=_;rw[bd (Na _ (by omega)),bd (OV _ (by omega)),Nc,Bv (by omega) (by omega)]
   congr 1
   rw[Bool.eq_iff_iff,EF,beq_iff_eq,←b];constructor
   ·intro h;exact⟨a,m,c,by omega⟩
   ·rintro⟨_,p,h,e⟩;rw[c] at h;cases h;omega
 ·rw[ct (by simpa using a)]
  congr 1
  symm
  rw[←Bool.not_eq_true,EF];exact fun h=>a h.1
end Go.Proofs.YtkljfdkmjdjpfaaGreat
end
section
namespace Go.Proofs.YtkljfdkmjdjpfaaGreat
theorem T3(x:List Int)(a:Nat):Cx x (0:Int) (a:Int)=x.take a:=by unfold Cx;simp
theorem T4(x:List Int)(a:Nat):Cx x (a:Int) (x.length:Int)=x.drop a:=by unfold Cx;simp
theorem Vy{β:Type}{n:Nat}{a b:Int}{f:Unit→Option β}(h0:0≤a)(c:a≤b)(d:b≤n):(OF n a b).bind f=f ():=bd (if_pos ⟨h0,c,d⟩)
def Jx (i:Nat) (os:List (List (List Int))):List (List (List Int)):=os.flatMap fun o=>(List.range o.length).flatMap fun r=>(List.range ((o.getD r []).length+1)).map fun(a:Nat)=>o.set r (CM (o.getD r []) (a:Int) (i:Int))
def OW:Nat→Nat→List (List (List Int))→List (List (List Int))
 |0,_,os=>os
 |k+1,i,os=>OW k (i+1) (Jx i os)
theorem OX:∀(k i:Nat) (os:List (List (List Int))),OW k i os=os.flatMap (Es k i)
 |0,i,os=>by
  rw[OW]
  induction os with
  |nil=>rfl
  |cons o os ih=>rw[List.flatMap_cons,←ih];rfl
 |k+1,i,os=>by
  rw[OW,OX k (i+1),Jx,List.flatMap_assoc]
  congr 1;funext o
  rw[List.flatMap_assoc,Es]
  congr 1;funext r
  rw[List.flatMap_map]
theorem SQ(os:List (List (List Int)))(i j r:Nat)(d:j<os.length)(b:r<os[j].length)(g:∀l∈os[j],l.length≤9)(o:os[j].length≤2):∀(c m a:Nat) (acc:List (List (List Int))),os[j][r].length+1=a+c→c<m→acc.length+c≤100000→
  Dq os (i:Int) (j:Int) (r:Int) m acc (a:Int)=some (acc++(List.range' a c).map fun(a:Nat)=>os[j].set r (CM os[j][r] (a:Int) (i:Int))):=by
 have n:=g os[j][r] (List.getElem_mem b);intro c
 induction c with
 |zero=>
  intro m a acc h hm k;cases m with
  |zero=>omega
  |succ m=>rw[Dq.eq_2,BZ d,BZ b,cf (df (by omega))];simp
 |succ c ih=>
  intro m a acc h hm k;cases m with
  |zero=>omega
  |succ m=>
   have f:(([]:List (List Int))++os[j])=os[j]:=List.nil_append _;rw[Dq.eq_2,BZ d,BZ b,ct (dt (by omega)),BZ d,F6 (by simp;omega),BZ d,BZ b,Vy (by omega) (by omega) (by omega),T3,F6 (by simp;omega),F6 (by simp;omega),BZ d,BZ b,Vy (by omega) (by omega) (by omega),T4,F6 (by simp;omega),f,BZ b,F6 (by simp;omega),Bv (by omega) (by omega),CJ,Int.toNat_natCast,ih m (a+1) _ (by omega) (by omega) (by simp;omega),List.range'_succ,List.map_cons,List.append_assoc];have e:((([]:List Int)++os[j][r].take a)++[(i:Int)])++os[j][r].drop a=CM os[j][r] (a:Int) (i:Int):=by
    unfold CM;simp
   rw[e];rfl
def Jy(i:Nat)(o:List (List Int))(r:Nat):List (List (List Int)):=(List.range ((o.getD r []).length+1)).map fun(a:Nat)=>o.set r (CM (o.getD r []) (a:Int) (i:Int))
theorem Jg(i:Nat)(o:List (List Int))(r:Nat):(Jy i o r).length=(o.getD r []).length+1:=by unfold Jy;simp
theorem Nd{o:List (List Int)}{r:Nat}(a:r<o.length):o.getD r []=o[r]:=by rw[List.getD_eq_getElem?_getD,List.getElem?_eq_getElem a];rfl
theorem SR{K:Nat}(y:Ao)(os:List (List (List Int)))(i j:Nat)(g:j<os.length)(p:(os[j].length:Int)=y.Aj)(d:∀l∈os[j],l.length≤9)(k:os[j].length≤2)(hK:2000≤K):∀(c m r:Nat) (acc:List (List (List Int))),os[j].length=r+c→c<m→acc.length+10*c≤90000→
  Dr K y os (i:Int) (j:Int) m acc (r:Int)=some (acc++(List.range' r c).flatMap (Jy i os[j])):=by
 intro c
 induction c with
 |zero=>
  intro m r acc h hm n;cases m with
  |zero=>omega
  |succ m=>rw[Dr.eq_2,cf (df (by omega))];simp
 |succ c ih=>
  intro m r acc h hm n;cases m with
  |zero=>omega
  |succ m=>
   have b:r<os[j].length:=by omega
   have o:=d os[j][r] (List.getElem_mem b);have e:=SQ os i j r g b d k (os[j][r].length+1) K 0 acc (by omega) (by omega) (by omega);rw[Int.natCast_zero] at e;have er:(List.range' 0 (os[j][r].length+1)).map (fun(a:Nat)=>os[j].set r (CM os[j][r] (a:Int) (i:Int)))=Jy i os[j] r:=by
    unfold Jy;rw[Nd b,List.range_eq_range']
   rw[er] at e;have f:=Jg i os[j] r;rw[Nd b] at f;rw[Dr.eq_2,ct (dt (by omega)),bd e,Bv (by omega) (by omega),CJ,ih m (r+1) _ (by omega) (by omega) (by rw[List.length_append];omega),List.range'_succ,List.flatMap_cons,List.append_assoc]
def Hy(i:Nat)(o:List (List Int)):List (List (List Int)):=(List.range o.length).flatMap (Jy i o)
theorem Ku(i:Nat)(os:List (List (List Int))):Jx i os=os.flatMap (Hy i):=rfl
theorem KL(i q:Nat)(o:List (List Int))(c:∀l∈o,l.length≤q)(d:o.length≤2):(Hy i o).length≤2*(q+1):=by
 match o,d with
 |[],_=>simp[Hy]
 |[a],_=>
  have e:=c a (by simp);have:(Hy i [a]).length=a.length+1:=by simp[Hy,Jy]
  omega
 |[a,b],_=>
  have e:=c a (by simp);have f:=c b (by simp);have:(Hy i [a,b]).length=(a.length+1)+(b.length+1):=by
   unfold Hy;rw[show List.range [a,b].length=[0,1] from rfl];rw[List.flatMap_cons,List.flatMap_cons,List.flatMap_nil,List.append_nil,List.length_append,Jg,Jg];rfl
  omega
theorem T5{K:Nat}(y:Ao)(os:List (List (List Int)))(i:Nat)(b:∀o∈os,(o.length:Int)=y.Aj∧o.length≤2∧∀l∈o,l.length≤9)(p:os.length≤1500)(hK:2000≤K):∀(c m j:Nat) (acc:List (List (List Int))),os.length=j+c→c<m→acc.length+20*c≤80000→
  C9 K y os (i:Int) m acc (j:Int)=some (acc++Jx i (os.drop j)):=by
 intro c
 induction c with
 |zero=>
  intro m j acc h hm g;cases m with
  |zero=>omega
  |succ m=>rw[C9.eq_2,cf (df (by omega)),List.drop_eq_nil_of_le (by omega)];simp[Jx]
 |succ c ih=>
  intro m j acc h hm g;cases m with
  |zero=>omega
  |succ m=>
   have a:j<os.length:=by omega
   obtain⟨k,d,f⟩:=b os[j] (List.getElem_mem a);have e:=SR (K:=K) y os i j a k f d hK os[j].length K 0 acc (by omega) (by omega) (by omega);rw[Int.natCast_zero,←List.range_eq_range'] at e;have n:=KL i 9 os[j] f d;rw[C9.eq_2,ct (dt (by omega)),bd e,Bv (by omega) (by omega),CJ];show C9 K y os (i:Int) m (acc++Hy i os[j]) _=_;rw[ih m (j+1) _ (by omega) (by omega) (by rw[List.length_append];omega),List.drop_eq_getElem_cons a,Ku,Ku,List.flatMap_cons,List.append_assoc]
def bO:Nat→Nat
 |0=>1
 |i+1=>bO i*(2*(i+1))
theorem TB:∀i,i≤4→bO i≤384:=by decide
theorem OY(y:Ao)(i:Nat)(os:List (List (List Int)))(h:∀o∈os,(o.length:Int)=y.Aj∧o.length≤2∧∀l∈o,l.length≤i)(m:os.length≤bO i):
  (∀o∈Jx i os,(o.length:Int)=y.Aj∧o.length≤2∧∀l∈o,l.length≤i+1)∧(Jx i os).length≤bO (i+1):=by
 constructor
 ·intro q b;rw[Ku,List.mem_flatMap] at b;obtain⟨o,c,b⟩:=b;obtain⟨f,g,j⟩:=h o c;unfold Hy Jy at b;rw[List.mem_flatMap] at b;obtain⟨r,d,b⟩:=b;obtain⟨a,k,rfl⟩:=List.mem_map.1 b;rw[List.mem_range] at d k;rw[Nd d] at k⊢;refine⟨by rw[List.length_set];exact f,by rw[List.length_set];exact g,fun l e=>?_⟩;rcases List.mem_or_eq_of_mem_set e with e|rfl
  ·have:=j l e;omega
  ·have:=j o[r] (List.getElem_mem d);rw[JF];omega
 ·rw[Ku,bO];have:∀(os:List (List (List Int))),(∀o∈os,(Hy i o).length≤2*(i+1))→(os.flatMap (Hy i)).length≤os.length*(2*(i+1)):=by
   intro os
   induction os with
   |nil=>intro _;simp
   |cons o os ih=>
    intro h;have f:=h o (List.mem_cons_self ..);have g:=ih fun x n=>h x (List.mem_cons_of_mem _ n);rw[List.flatMap_cons,List.length_append,List.length_cons,Nat.succ_mul];omega
  exact Nat.le_trans (this os fun o c=>KL i i o (h o c).2.2 (h o c).2.1) (Nat.mul_le_mul_right _ m)
theorem T6{K:Nat}(y:Ao)(d:y.Ac.length≤4)(hK:2000≤K):∀(k m i:Nat) (os:List (List (List Int))),y.Ac.length=i+k→k<m→(∀o∈os,(o.length:Int)=y.Aj∧o.length≤2∧∀l∈o,l.length≤i)→os.length≤bO i→
  DF K y m os (i:Int)=some (OW k i os):=by
 intro k
 induction k with
 |zero=>
  intro m i os h hm a b;cases m with
  |zero=>omega
  |succ m=>rw[DF.eq_2,cf (df (by omega))];rfl
 |succ k ih=>
  intro m i os h hm a b;cases m with
  |zero=>omega
  |succ m=>
   have f:=TB i (by omega);have e:=T5 (K:=K) y os i (fun o h=>⟨(a o h).1,(a o h).2.1,fun l c=>by have:=(a o h).2.2 l c;omega⟩) (by omega) hK os.length K 0 [] (by omega) (by omega) (by simp;omega);rw[Int.natCast_zero,List.drop_zero,List.nil_append] at e;obtain⟨g1,g2⟩:=OY y i os a b;rw[DF.eq_2,ct (dt (by omega)),bd e,Bv (by omega) (by omega),CJ,ih m (i+1) _ (by omega) (by omega) g1 g2];rfl
theorem SS{K:Nat}(y:Ao)(a:DH y)(hK:2000≤K):Fz K y=some (D9 y):=by
 unfold Fz;have f:=a.r1;have g:=a.r2;have c:=a.n4;have e:=T6 (K:=K) y c hK y.Ac.length K 0 [List.replicate y.Aj.toNat ([]:List Int)] (by omega) (by omega) (fun o b=>by
  rw[List.mem_singleton] at b;subst b;refine⟨by simp;omega,by simp;omega,fun l d=>?_⟩;rw[(List.mem_replicate.1 d).2];simp) (by simp[bO])
 rw[Int.natCast_zero] at e;rw[NG (by omega) (by omega) (by omega),bd e,OX];unfold D9;rw[List.flatMap_cons,List.flatMap_nil,List.append_nil]
end Go.Proofs.YtkljfdkmjdjpfaaGreat
end
section
namespace Go.Proofs.YtkljfdkmjdjpfaaGreat
def never:Ag:=⟨-1,-1,false⟩
def JR (n:Nat) (l:List Int) (out:List Ag):Prop:=out.length=n∧l.Nodup∧∀j∈l,∃q:Nat,j=(q:Int)∧q<n∧out[q]?=some never
theorem OZ{n:Nat}{i:Int}{r:List Int}{out:List Ag}(h:JR n (i::r) out):JR n r out:=⟨h.1,(List.nodup_cons.1 h.2.1).2,fun j a=>h.2.2 j (List.mem_cons_of_mem _ a)⟩
theorem PY{n i:Nat}{r:List Int}{out:List Ag}(h:JR n r out)(hi:(i:Int)∉r)(s:Ag):JR n r (out.set i s):=⟨by rw[List.length_set];exact h.1,h.2.1,fun j a=>by
 obtain⟨q,rfl,b,c⟩:=h.2.2 j a;refine⟨q,rfl,b,?_⟩;rw[List.getElem?_set_ne,c];intro e;exact hi (e▸a)⟩
theorem JI(y:Ao)(w:List Bool)(c:List Int)(n:Nat):∀(l:List Int) (free:Int) (out:List Ag),y.Ak<free→JR n l out→Eb y w c l free out=out
 |[],_,_,_,_=>rfl
 |i::r,free,out,f,h=>by
  obtain⟨q,rfl,g,b⟩:=h.2.2 i (List.mem_cons_self ..);have d:Co y w (Db y (q:Int)) (max free (Cj c (q:Int)))=never:=if_pos (by omega);have j:q<out.length:=by have:=h.1;omega
  have a:out[q]=never:=(List.getElem?_eq_some_iff.1 b).2;have e:out.set q never=out:=by rw[←a,List.set_getElem_self]
  rw[Eb,d,Int.toNat_natCast,e];exact JI y w c n r _ out (by show y.Ak<cond true _ _;simp;omega) (OZ h)
def G4(y:Ao)(s:Ag):Int:=cond (s.AG==-1) (y.Ak+1) (s.AG+1)
theorem GK(y:Ao)(a:Int)(d:Nat)(b:Bool):G4 y ⟨a,(d:Int),b⟩=(d:Int)+1:=by
 unfold G4;have:((d:Int)==-1)=false:=by rw[beq_eq_false_iff_ne];omega
 show cond ((d:Int)==-1) _ _=_;rw[this];rfl
theorem O0(y:Ao){i:Nat}(h:i<y.Ac.length):Db y (i:Int)=y.Ac[i]:=by
 unfold Db;rw[Int.toNat_natCast,List.getD_eq_getElem?_getD,List.getElem?_eq_getElem h];rfl
theorem NQ(c:List Int){i:Nat}(h:i<c.length):Cj c (i:Int)=c[i]:=by
 unfold Cj;rw[Int.toNat_natCast,List.getD_eq_getElem?_getD,List.getElem?_eq_getElem h];rfl
theorem SU(y:Ao)(o:List (List Int))(t:AU)(r:Nat)(aH:r<o.length)(h9:y.Ak≤9)(hw:(t.Ap.length:Int)=y.Ak+1)(aL:t.Comes.length=y.Ac.length)(aM:o[r].length≤1000):∀(k m d:Nat),y.Ak+1=d+k→k<m→
  (∀(a:Nat) (CF run:Int) (out:List Ag),JR y.Ac.length (o[r].drop a) out→
   Bt y o t (r:Int) m (a:Int) (-1) CF run (d:Int) out=some (Eb y t.Ap t.Comes (o[r].drop a) (d:Int) out))∧
  (∀(a i:Nat) (CF run d0:Int) (out:List Ag),i<y.Ac.length→(i:Int)∉o[r].drop a→out[i]?=some ⟨d0,-1,false⟩→0≤CF→CF≤d→0≤run→run≤d→JR y.Ac.length (o[r].drop a) out→
   Bt y o t (r:Int) m (a:Int) (i:Int) CF run (d:Int) out=some (Eb y t.Ap t.Comes (o[r].drop a) (G4 y (Dy (Db y (i:Int)) d0 (t.Ap.drop d) (d:Int) CF run)) (out.set i (Dy (Db y (i:Int)) d0 (t.Ap.drop d) (d:Int) CF run)))):=by
 intro k
 induction k with
 |zero=>
  intro m d h hm;cases m with
  |zero=>omega
  |succ m=>
   constructor
   ·intro a CF run out c;rw[Bt.eq_2,cf (df (by omega)),JI y _ _ _ _ _ out (by omega) c]
   ·intro a i CF run d0 out hi aF he _ _ _ _ c;have n:i<out.length:=by have:=c.1;omega
    have j:out[i]=⟨d0,-1,false⟩:=(List.getElem?_eq_some_iff.1 he).2;rw[Bt.eq_2,cf (df (by omega)),show t.Ap.drop d=[] from List.drop_eq_nil_of_le (by omega)];have aK:Dy (Db y (i:Int)) d0 [] (d:Int) CF run=⟨d0,-1,false⟩:=rfl;have e:out.set i (⟨d0,-1,false⟩:Ag)=out:=by rw[←j,List.set_getElem_self]
    rw[aK,e,JI y _ _ _ _ _ out (by show _<cond true _ _;simp;omega) c]
 |succ k ih=>
  intro m d h hm;cases m with
  |zero=>omega
  |succ m=>
   obtain⟨g,w⟩:=ih m (d+1) (by omega) (by omega);have z:d<t.Ap.length:=by omega
   have x:t.Ap.drop d=t.Ap[d]::t.Ap.drop (d+1):=List.drop_eq_getElem_cons z;constructor
   ·intro a CF run out c;rw[Bt.eq_2,ct (dt (by omega)),ct (dt (by omega)),BZ aH]
    by_cases aA:a<o[r].length
    ·have p:o[r].drop a=o[r][a]::o[r].drop (a+1):=List.drop_eq_getElem_cons aA;rw[p] at c;obtain⟨i,q,hi,he⟩:=c.2.2 _ (List.mem_cons_self ..);have aB:(i:Int)∉o[r].drop (a+1):=q▸(List.nodup_cons.1 c.2.1).1;have n:i<out.length:=by have:=c.1;omega
     have j:out[i]=never:=(List.getElem?_eq_some_iff.1 he).2;have aC:i<t.Comes.length:=by omega
     rw[ct (dt (by omega)),BZ aH,BZ aA,q,BZ aC]
     by_cases aG:t.Comes[i]≤(d:Int)
     ·have u:max (d:Int) (Cj t.Comes (i:Int))=(d:Int):=by rw[NQ _ aC];omega
      have aI:Co y t.Ap (Db y (i:Int)) (d:Int)=Dy (Db y (i:Int)) (d:Int) (t.Ap.drop d) (d:Int) 0 0:=if_neg (by omega);have v:Eb y t.Ap t.Comes (o[r].drop a) (d:Int) out=Eb y t.Ap t.Comes (o[r].drop (a+1)) (G4 y (Dy (Db y (i:Int)) (d:Int) (t.Ap.drop d) (d:Int) 0 0)) (out.set i (Dy (Db y (i:Int)) (d:Int) (t.Ap.drop d) (d:Int) 0 0)):=by
       rw[p,q,Eb,u,aI,Int.toNat_natCast];rfl
      rw[v,x];have b:=O0 y hi;have l:∀s:Ag,i<(out.set i s).length:=fun s=>by rw[List.length_set];exact n
      have f:∀s:Ag,JR y.Ac.length (o[r].drop (a+1)) (out.set i s):=fun s=>PY (OZ c) aB s;rw[ct (dt aG),BZ aH,BZ aA,q,BZ n,Bv (by omega) (by omega),cf (df (by omega)),BZ z,j,CJ,CJ,Int.toNat_natCast];cases aJ:t.Ap[d] with
      |true=>
       rw[ct rfl,BZ hi,Dy,b];cases aD:((0:Int)==y.Ac[i].Ar) with
       |true=>
        rw[ct rfl,BZ (l _),BZ (by rw[List.length_set];exact l _),Bv (by omega) (by omega)];rw[ct rfl,GK];simp only[List.getElem_set_self,List.set_set];exact g (a+1) _ _ _ (f _)
       |false=>
        rw[cf rfl,cf rfl,BZ hi];cases aE:((0:Int)+1==y.Ac[i].BV) with
        |true=>
         rw[ct rfl,BZ (l _),Bv (by omega) (by omega),ct rfl,GK];simp only[List.getElem_set_self,List.set_set];exact g (a+1) _ _ _ (f _)
        |false=>
         rw[cf rfl,cf rfl,Bv (by omega) (by omega)];refine(w (a+1) i 0 (0+1) (d:Int) _ hi aB (List.getElem?_set_self n) (by omega) (by omega) (by omega) (by omega) (f _)).trans ?_;rw[List.set_set,b,CJ]
      |false=>
       rw[cf rfl,BZ hi,Dy,b];cases aD:((0:Int)+1==y.Ac[i].Ar) with
       |true=>
        rw[ct rfl,BZ (l _),BZ (by rw[List.length_set];exact l _),Bv (by omega) (by omega)];rw[ct rfl,GK];simp only[List.getElem_set_self,List.set_set];exact g (a+1) _ _ _ (f _)
       |false=>
        rw[cf rfl,cf rfl,BZ hi];cases aE:((0:Int)==y.Ac[i].BV) with
        |true=>
         rw[ct rfl,BZ (l _),Bv (by omega) (by omega),ct rfl,GK];simp only[List.getElem_set_self,List.set_set];exact g (a+1) _ _ _ (f _)
        |false=>
         rw[cf rfl,cf rfl,Bv (by omega) (by omega)];refine(w (a+1) i (0+1) 0 (d:Int) _ hi aB (List.getElem?_set_self n) (by omega) (by omega) (by omega) (by omega) (f _)).trans ?_;rw[List.set_set,b,CJ]
     ·have u:max (d:Int) (Cj t.Comes (i:Int))=max ((d+1:Nat):Int) (Cj t.Comes (i:Int)):=by rw[NQ _ aC];omega
      have v:Eb y t.Ap t.Comes (o[r].drop a) (d:Int) out=Eb y t.Ap t.Comes (o[r].drop a) ((d+1:Nat):Int) out:=by
       rw[p,q,Eb,Eb,u]
      rw[cf (df aG),Bv (by omega) (by omega),CJ,v];exact g a _ _ _ (p▸c)
    ·have p:o[r].drop a=[]:=List.drop_eq_nil_of_le (by omega);have:=g a CF run out c;rw[p] at this⊢;rw[cf (df (by omega)),Bv (by omega) (by omega),CJ];exact this
   ·intro a i CF run d0 out hi aF he g1 g2 g3 g4 c;have n:i<out.length:=by have:=c.1;omega
    have j:out[i]=⟨d0,-1,false⟩:=(List.getElem?_eq_some_iff.1 he).2;have b:=O0 y hi;have l:∀s:Ag,i<(out.set i s).length:=fun s=>by rw[List.length_set];exact n
    have f:∀s:Ag,JR y.Ac.length (o[r].drop a) (out.set i s):=fun s=>PY c aF s;have aN:out.set i (⟨d0,-1,false⟩:Ag)=out:=by rw[←j,List.set_getElem_self]
    rw[Bt.eq_2,ct (dt (by omega)),cf (df (by omega)),BZ z,x,Int.toNat_natCast];cases aJ:t.Ap[d] with
    |true=>
     rw[ct rfl,Bv (by omega) (by omega),BZ hi,Dy,b];cases aD:(CF==y.Ac[i].Ar) with
     |true=>
      rw[ct rfl,BZ n,BZ (l _),Bv (by omega) (by omega),ct rfl,GK];simp only[List.getElem_set_self,List.set_set,j];exact g a _ _ _ (f _)
     |false=>
      rw[cf rfl,cf rfl,BZ hi];cases aE:(run+1==y.Ac[i].BV) with
      |true=>
       rw[ct rfl,BZ n,Bv (by omega) (by omega),ct rfl,GK,j];exact g a _ _ _ (f _)
      |false=>
       rw[cf rfl,cf rfl,Bv (by omega) (by omega)];refine(w a i CF (run+1) d0 _ hi aF he (by omega) (by omega) (by omega) (by omega) c).trans ?_;rw[b,CJ]
    |false=>
     rw[cf rfl,Bv (by omega) (by omega),BZ hi,Dy,b];cases aD:(CF+1==y.Ac[i].Ar) with
     |true=>
      rw[ct rfl,BZ n,BZ (l _),Bv (by omega) (by omega),ct rfl,GK];simp only[List.getElem_set_self,List.set_set,j];exact g a _ _ _ (f _)
     |false=>
      rw[cf rfl,cf rfl,BZ hi];cases aE:((0:Int)==y.Ac[i].BV) with
      |true=>
       rw[ct rfl,BZ n,Bv (by omega) (by omega),ct rfl,GK,j];exact g a _ _ _ (f _)
      |false=>
       rw[cf rfl,cf rfl,Bv (by omega) (by omega)];refine(w a i (CF+1) 0 d0 _ hi aF he (by omega) (by omega) (by omega) (by omega) c).trans ?_;rw[b,CJ]
end Go.Proofs.YtkljfdkmjdjpfaaGreat
end
section
namespace Go.Proofs.YtkljfdkmjdjpfaaGreat
theorem NR(y:Ao)(w:List Bool)(c:List Int)(j:Nat):∀(l:List Int) (free:Int) (out a:List Ag),out.length=a.length→((j:Int)∈l∨out[j]?=a[j]?)→(Eb y w c l free out)[j]?=(Eb y w c l free a)[j]?
 |[],free,out,a,_,h=>by
  rcases h with h|h
  ·cases h
  ·exact h
 |i::r,free,out,a,d,h=>by
  rw[Eb,Eb];refine NR y w c j r _ _ _ (by rw[List.length_set,List.length_set];exact d) ?_
  by_cases b:i.toNat=j
  ·right;rw[b,List.getElem?_set,List.getElem?_set,if_pos rfl,if_pos rfl,d]
  ·rcases h with h|h
   ·rcases List.mem_cons.1 h with h|h
    ·exact absurd (by omega) b
    ·exact .inl h
   ·right;rw[List.getElem?_set_ne b,List.getElem?_set_ne b,h]
theorem NS(y:Ao)(w:List Bool)(c:List Int)(j:Nat):∀(o:List (List Int)) (out a:List Ag),out.length=a.length→((j:Int)∈o.flatten∨out[j]?=a[j]?)→(FJ y w c o out)[j]?=(FJ y w c o a)[j]?
 |[],out,a,_,h=>by
  rcases h with h|h
  ·cases h
  ·exact h
 |l::r,out,a,b,h=>by
  rw[FJ,FJ];refine NS y w c j r _ _ (by rw[Gs,Gs];exact b) ?_
  by_cases d:(j:Int)∈r.flatten
  ·exact .inl d
  ·right;refine NR y w c j l 0 out a b ?_;rcases h with h|h
   ·rw[List.flatten_cons,List.mem_append] at h;rcases h with h|h
    ·exact .inl h
    ·exact absurd h d
   ·exact .inr h
theorem Is(y:Ao)(w:List Bool)(c:List Int)(j:Nat):∀(l:List Int) (free:Int) (out:List Ag),(∀i∈l,0≤i)→(j:Int)∉l→(Eb y w c l free out)[j]?=out[j]?
 |[],_,_,_,_=>rfl
 |i::r,free,out,h0,h=>by
  rw[Eb,Is y w c j r _ _ (fun x a=>h0 x (List.mem_cons_of_mem _ a)) (fun b=>h (List.mem_cons_of_mem _ b)),List.getElem?_set_ne];intro e;have:=h0 i (List.mem_cons_self ..);exact h (by rw[←e,show((i.toNat:Nat):Int)=i by omega];exact List.mem_cons_self ..)
theorem SV {y:Ao} (w:List Bool) (c:List Int) {n:Nat} {l r:List Int} {out:List Ag} (h:JR n (l++r) out):JR n l out∧JR n r (Eb y w c l 0 out):=by
 obtain⟨e,a,d⟩:=h;rw[List.nodup_append] at a;refine⟨⟨e,a.1,fun j b=>d j (List.mem_append_left _ b)⟩,by rw[Gs];exact e,a.2.1,fun j b=>?_⟩;obtain⟨q,rfl,f,he⟩:=d j (List.mem_append_right _ b);refine⟨q,rfl,f,?_⟩;rw[Is y w c q l 0 out (fun i hi=>?_) (fun hm=>a.2.2 _ hm _ b rfl),he];obtain⟨p,rfl,_⟩:=d i (List.mem_append_left _ hi);omega
theorem SW{K:Nat}(y:Ao)(o:List (List Int))(t:AU)(h0:0≤y.Ak)(h9:y.Ak≤9)(hw:(t.Ap.length:Int)=y.Ak+1)(d:t.Comes.length=y.Ac.length)(j:o.length≤1000)(f:∀l∈o,l.length≤1000)(hK:2000≤K):∀(k m r:Nat) (out:List Ag),o.length=r+k→k<m→JR y.Ac.length (o.drop r).flatten out→
  DT K y o t m (r:Int) out=some (FJ y t.Ap t.Comes (o.drop r) out):=by
 intro k
 induction k with
 |zero=>
  intro m r out h hm a;cases m with
  |zero=>omega
  |succ m=>rw[DT.eq_2,cf (df (by omega)),List.drop_eq_nil_of_le (by omega)];rfl
 |succ k ih=>
  intro m r out h hm a;cases m with
  |zero=>omega
  |succ m=>
   have b:r<o.length:=by omega
   have c:o.drop r=o[r]::o.drop (r+1):=List.drop_eq_getElem_cons b;rw[c,List.flatten_cons] at a;obtain⟨g,i⟩:=SV (y:=y) t.Ap t.Comes a;have e:=(SU y o t r b h9 hw d (f _ (List.getElem_mem b)) (y.Ak+1).toNat K 0 (by omega) (by omega)).1 0 0 0 out g;rw[Int.natCast_zero,List.drop_zero] at e;rw[DT.eq_2,ct (dt (by omega)),bd e,Bv (by omega) (by omega),CJ,c,FJ];exact ih m (r+1) _ (by omega) (by omega) i
theorem T7:∀(k m i:Nat) (out:List Ag),out.length=i+k→k<m→out.length≤1000→
  Du m (i:Int) out=some (out.take i++List.replicate k never):=by
 intro k
 induction k with
 |zero=>
  intro m i out h hm a;cases m with
  |zero=>omega
  |succ m=>rw[Du.eq_2,cf (df (by omega)),List.take_of_length_le (by omega)];simp
 |succ k ih=>
  intro m i out h hm a;cases m with
  |zero=>omega
  |succ m=>
   have hi:i<out.length:=by omega
   rw[Du.eq_2,ct (dt (by omega)),BZ hi,Bv (by omega) (by omega),CJ,Int.toNat_natCast,ih m (i+1) _ (by rw[List.length_set];omega) (by omega) (by rw[List.length_set];omega)];rw[List.take_add_one,List.getElem?_set_self hi,List.take_set_of_le (Nat.le_refl _),List.replicate_succ];simp[never]
theorem NT{K:Nat}(y:Ao)(a:DH y)(o:List (List Int))(e:CS y o=true)(t:AU)(c:En y t=true)(hK:2000≤K):Fg K y o t=some (B7 y o t):=by
 unfold Fg;have m:=a.n4;unfold En at c;rw[Bool.and_eq_true,Bool.and_eq_true,decide_eq_true_eq] at c;obtain⟨hw,_,f⟩:=c;have i:=HG f;obtain⟨k,l,n⟩:=HV a e;have d:=(EF.1 e).2;have g:=T7 y.Ac.length K 0 (List.replicate y.Ac.length Jv) (by simp) (by omega) (by simp;omega);rw[Int.natCast_zero,List.take_zero,List.nil_append] at g;have b:=SW (K:=K) y o t a.h0 a.h9 hw i k l hK o.length K 0 (List.replicate y.Ac.length never) (by omega) (by omega) (by
  rw[List.drop_zero];refine⟨by simp,d.symm.nodup (IP _),fun j h=>?_⟩;have:=HP.1 (d.mem_iff.1 h);exact⟨j.toNat,by omega,by omega,by rw[List.getElem?_replicate,if_pos (by omega)]⟩)
 rw[Int.natCast_zero,List.drop_zero] at b;rw[NG (by omega) (by omega) (by omega),Int.toNat_natCast];rw[bd (show Du K (0:Int) (List.replicate y.Ac.length (⟨0,0,false⟩:Ag))=_ from g),bd b];unfold B7 GI
 congr 1
 apply List.ext_getElem?;intro j;refine NS y _ _ j o _ _ (by simp) ?_
 by_cases h:j<y.Ac.length
 ·left;exact d.mem_iff.2 (HP.2 (by omega))
 ·right;rw[List.getElem?_eq_none (by simp;omega),List.getElem?_eq_none (by simp;omega)]
end Go.Proofs.YtkljfdkmjdjpfaaGreat
end
section
namespace Go.Proofs.YtkljfdkmjdjpfaaGreat
def Gw (y:Ao) (w:List Bool) (c:List Int):List Int→Int→Int
 |[],f=>f
 |i::r,f=>Gw y w c r (G4 y (Co y w (Db y i) (max f (Cj c i))))
theorem O1(y:Ao)(w:List Bool)(c:List Int):∀(pre:List Int) (i:Int) (post:List Int) (free:Int) (out:List Ag),(pre++i::post).Nodup→(∀j∈pre++i::post,0≤j∧j<(out.length:Int))→
  (Eb y w c (pre++i::post) free out)[i.toNat]?=some (Co y w (Db y i) (max (Gw y w c pre free) (Cj c i)))
 |[],i,post,free,out,d,b=>by
  obtain⟨h0,g⟩:=b i (List.mem_append_right _ (List.mem_cons_self ..));have f:i∉post:=(List.nodup_cons.1 d).1;rw[List.nil_append,Eb,Is y w c i.toNat post _ _ (fun j e=>(b j (List.mem_append_right _ (List.mem_cons_of_mem _ e))).1) (by rw[Int.toNat_of_nonneg h0];exact f),List.getElem?_set_self (by omega)];rfl
 |a::pre,i,post,free,out,d,b=>by
  rw[List.cons_append,Eb];exact O1 y w c pre i post _ (out.set a.toNat _) (List.nodup_cons.1 d).2 fun j e=>by rw[List.length_set];exact b j (List.mem_cons_of_mem _ e)
theorem LR(y:Ao)(w:List Bool)(c:List Int)(j:Nat):∀(o:List (List Int)) (out:List Ag),(∀i∈o.flatten,0≤i)→(j:Int)∉o.flatten→(FJ y w c o out)[j]?=out[j]?
 |[],out,_,_=>rfl
 |l::o,out,h0,h=>by
  rw[List.flatten_cons] at h0 h;rw[FJ,LR y w c j o _ (fun i hi=>h0 i (List.mem_append_right _ hi)) (fun hi=>h (List.mem_append_right _ hi)),Is y w c j l _ _ (fun i hi=>h0 i (List.mem_append_left _ hi)) (fun hi=>h (List.mem_append_left _ hi))]
theorem O2(y:Ao)(w:List Bool)(c:List Int)(i:Int)(pre post:List Int)(e:List (List Int)):∀(o1:List (List Int)) (out:List Ag),(o1++(pre++i::post)::e).flatten.Nodup→(∀j∈(o1++(pre++i::post)::e).flatten,0≤j∧j<(out.length:Int))→
  (FJ y w c (o1++(pre++i::post)::e) out)[i.toNat]?=some (Co y w (Db y i) (max (Gw y w c pre 0) (Cj c i)))
 |[],out,a,b=>by
  rw[List.nil_append,List.flatten_cons] at a b;have hm:i∈pre++i::post:=List.mem_append_right _ (List.mem_cons_self ..);have h0:=(b i (List.mem_append_left _ hm)).1;rw[List.nodup_append] at a;rw[List.nil_append,FJ,LR y w c i.toNat e _ (fun j d=>(b j (List.mem_append_right _ d)).1) (by rw[Int.toNat_of_nonneg h0];exact fun d=>a.2.2 i hm i d rfl),O1 y w c pre i post 0 out a.1 fun j d=>b j (List.mem_append_left _ d)]
 |l::o1,out,a,b=>by
  rw[List.cons_append,List.flatten_cons] at a b;rw[List.nodup_append] at a;rw[List.cons_append,FJ];exact O2 y w c i pre post e o1 _ a.2.1 fun j d=>by rw[Gs];exact b j (List.mem_append_right _ d)
theorem QO{y:Ao}{o:List (List Int)}(h:CS y o=true):o.flatten.Nodup:=(EF.1 h).2.nodup_iff.2 (IP _)
theorem O3{y:Ao}{o:List (List Int)}(h:CS y o=true){i:Int}:i∈o.flatten↔0≤i∧i<(y.Ac.length:Int):=by rw[(EF.1 h).2.mem_iff,HP]
theorem SX{y:Ao}{o:List (List Int)}{o1 b:List (List Int)}{pre post:List Int}{i:Int}(h:CS y o=true)(e:o=o1++(pre++i::post)::b)(t:AU):
  (B7 y o t)[i.toNat]?=some (Co y t.Ap (Db y i) (max (Gw y t.Ap t.Comes pre 0) (Cj t.Comes i))):=by
 have c:=QO h;have d:∀j∈o.flatten,0≤j∧j<(y.Ac.length:Int):=fun j a=>(O3 h).1 a;subst e;unfold B7 GI;exact O2 y t.Ap t.Comes i pre post b o1 _ c fun j a=>by rw[List.length_replicate];exact d j a
theorem SY{y:Ao}{o:List (List Int)}(h:CS y o=true){i:Nat}(hi:i<y.Ac.length):∃o1 pre post a,o=o1++(pre++(i:Int)::post)::a:=by
 have hm:(i:Int)∈o.flatten:=(O3 h).2 (by omega);obtain⟨l,c,b⟩:=List.mem_flatten.1 hm;obtain⟨o1,a,e⟩:=List.append_of_mem c;obtain⟨pre,post,d⟩:=List.append_of_mem b;exact⟨o1,pre,post,a,by rw[e,d]⟩
theorem Nf {y:Ao} {o:List (List Int)} (h:CS y o=true) {i:Nat} (hi:i<y.Ac.length) {o1 b:List (List Int)} {pre post:List Int} (e:o=o1++(pre++(i:Int)::post)::b) (t:AU):
  Jw y o t i=Co y t.Ap (DG y i) (max (Gw y t.Ap t.Comes pre 0) (Cj t.Comes i)):=by
 have a:=SX h e t;rw[Int.toNat_natCast] at a;unfold Jw;rw[List.getD_eq_getElem?_getD,a];show Co y t.Ap (Db y (i:Int)) _=_;unfold Db DG;rw[Int.toNat_natCast]
theorem Kw(l:A5)(d0:Int):∀(ws a:List Bool) (d CF r:Int),0≤d→ws.length=a.length→(∀k:Nat,(Dy l d0 ws d CF r).AG=-1∨d+k≤(Dy l d0 ws d CF r).AG→ws[k]?=a[k]?)→Dy l d0 a d CF r=Dy l d0 ws d CF r
 |[],[],d,CF,r,_,_,_=>rfl
 |[],_::_,d,CF,r,_,h,_=>by cases h
 |_::_,[],d,CF,r,_,h,_=>by cases h
 |b::ws,b'::a,d,CF,r,h0,j,h=>by
  have m:b'=b:=by
   have:=h 0 (by
    rcases Kl l d0 (b::ws) d CF r h0 with i|i
    ·exact .inl i
    ·right;omega)
   exact(Option.some.inj this).symm
  subst m;have e:ws.length=a.length:=by simpa using j
  cases b' with
  |true=>
   rw[Dy] at h⊢;rw[Dy];cases f:(CF==l.Ar) with
   |true=>rfl
   |false=>
    rw[f] at h;cases g:(r+1==l.BV) with
    |true=>rfl
    |false=>
     rw[g] at h;refine Kw l d0 ws a (d+1) CF (r+1) (by omega) e fun k c=>?_;have:=h (k+1) (by
      rcases c with c|c
      ·exact .inl c
      ·right;show d+((k+1:Nat):Int)≤(Dy l d0 ws (d+1) CF (r+1)).AG;omega)
     simpa using this
  |false=>
   rw[Dy] at h⊢;rw[Dy];cases f:(CF+1==l.Ar) with
   |true=>rfl
   |false=>
    rw[f] at h;cases g:((0:Int)==l.BV) with
    |true=>rfl
    |false=>
     rw[g] at h;refine Kw l d0 ws a (d+1) (CF+1) 0 (by omega) e fun k c=>?_;have:=h (k+1) (by
      rcases c with c|c
      ·exact .inl c
      ·right;show d+((k+1:Nat):Int)≤(Dy l d0 ws (d+1) (CF+1) 0).AG;omega)
     simpa using this
theorem NU{y:Ao}{w:List Bool}(l:A5){d:Int}(a:0≤d)(hw:(w.length:Int)=y.Ak+1):G4 y (Co y w l d)≤y.Ak+1∧(d≤y.Ak+1→d≤G4 y (Co y w l d)):=by
 rcases NL y w l d a hw with h|h
 ·unfold G4;rw[h];simp
 ·unfold G4;have:((Co y w l d).AG==-1)=false:=by rw[beq_eq_false_iff_ne];omega
  rw[this];show(Co y w l d).AG+1≤_∧(_→d≤(Co y w l d).AG+1);omega
theorem PF{y:Ao}{w w':List Bool}(l:A5){d:Int}(c:0≤d)(hw:(w.length:Int)=y.Ak+1)(f:w.length=w'.length)(h:∀k:Nat,(k:Int)<G4 y (Co y w l d)→w[k]?=w'[k]?):Co y w' l d=Co y w l d:=by
 by_cases b:y.Ak<d
 ·unfold Co;rw[if_pos b,if_pos b]
 ·have e:∀x:List Bool,Co y x l d=Dy l d (x.drop d.toNat) d 0 0:=fun x=>by unfold Co;rw[if_neg b]
  rw[e w] at h;rw[e w,e w'];refine Kw l d (w.drop d.toNat) (w'.drop d.toNat) d 0 0 c (by rw[List.length_drop,List.length_drop,f]) fun k a=>?_;rw[List.getElem?_drop,List.getElem?_drop]
  by_cases g:d.toNat+k<w.length
  ·refine h (d.toNat+k) ?_;unfold G4;rcases a with a|a
   ·rw[a];show _<y.Ak+1;omega
   ·have:((Dy l d (w.drop d.toNat) d 0 0).AG==-1)=false:=by rw[beq_eq_false_iff_ne];omega
    rw[this];show _<(Dy l d (w.drop d.toNat) d 0 0).AG+1;omega
  ·rw[List.getElem?_eq_none (by omega),List.getElem?_eq_none (by omega)]
theorem L8{y:Ao}{w:List Bool}(c:List Int)(hw:(w.length:Int)=y.Ak+1):∀(pre:List Int) (f:Int),0≤f→f≤y.Ak+1→f≤Gw y w c pre f∧Gw y w c pre f≤y.Ak+1
 |[],f,h0,e=>⟨Int.le_refl _,e⟩
 |i::r,f,h0,e=>by
  rw[Gw];obtain⟨a,b⟩:=NU (y:=y) (w:=w) (Db y i) (d:=max f (Cj c i)) (by omega) hw;have g:f≤G4 y (Co y w (Db y i) (max f (Cj c i))):=by
   by_cases h:max f (Cj c i)≤y.Ak+1
   ·have:=b h;omega
   ·have:Co y w (Db y i) (max f (Cj c i))=never:=if_pos (by omega);rw[this];show f≤y.Ak+1;exact e
  obtain⟨j,k⟩:=L8 c hw r _ (Int.le_trans h0 g) a;exact⟨Int.le_trans g j,k⟩
theorem LS{y:Ao}{w w':List Bool}(c:List Int)(hw:(w.length:Int)=y.Ak+1)(e:w.length=w'.length):∀(pre:List Int) (f:Int),0≤f→f≤y.Ak+1→(∀k:Nat,(k:Int)<Gw y w c pre f→w[k]?=w'[k]?)→Gw y w' c pre f=Gw y w c pre f
 |[],f,_,_,_=>rfl
 |i::r,f,h0,j,h=>by
  rw[Gw] at h⊢;rw[Gw];obtain⟨a,b⟩:=NU (y:=y) (w:=w) (Db y i) (d:=max f (Cj c i)) (by omega) hw;have g:f≤G4 y (Co y w (Db y i) (max f (Cj c i))):=by
   by_cases l:max f (Cj c i)≤y.Ak+1
   ·have:=b l;omega
   ·have:Co y w (Db y i) (max f (Cj c i))=never:=if_pos (by omega);rw[this];show f≤y.Ak+1;exact j
  have hle:=(L8 c hw r _ (Int.le_trans h0 g) a).1;rw[PF (Db y i) (by omega) hw e fun k m=>h k (by omega)];exact LS c hw e r _ (Int.le_trans h0 g) a h
theorem Kx(l:A5):∀(g ws:List Bool) (a a' d c CF r:Int),g<+:ws→d≤c→Di l (Dy l a' g c CF r)=true→Di l (Dy l a ws d CF r)=true
 |[],ws,a,a',d,c,CF,r,_,_,h=>by cases h
 |b::u,[],a,a',d,c,CF,r,j,_,h=>by
  have:=j.length_le;simp at this
 |b::u,b'::v,a,a',d,c,CF,r,j,m,h=>by
  obtain⟨rfl,i⟩:=List.cons_prefix_cons.1 j;cases b with
  |true=>
   rw[Dy] at h⊢;cases e:(CF==l.Ar) with
   |true=>
    rw[e] at h;unfold Di at h⊢;have k:decide (c≤l.Ce)=true:=h;rw[decide_eq_true_eq] at k;show decide (d≤l.Ce)=true;exact dt (by omega)
   |false=>
    rw[e] at h;cases f:(r+1==l.BV) with
    |true=>rw[f] at h;cases h
    |false=>
     rw[f] at h;exact Kx l u v a a' (d+1) (c+1) CF (r+1) i (by omega) h
  |false=>
   rw[Dy] at h⊢;cases e:(CF+1==l.Ar) with
   |true=>
    rw[e] at h;unfold Di at h⊢;have k:decide (c≤l.Ce)=true:=h;rw[decide_eq_true_eq] at k;show decide (d≤l.Ce)=true;exact dt (by omega)
   |false=>
    rw[e] at h;cases f:((0:Int)==l.BV) with
    |true=>rw[f] at h;cases h
    |false=>
     rw[f] at h;exact Kx l u v a a' (d+1) (c+1) (CF+1) 0 i (by omega) h
theorem L9(W R:Int):∀(l:List Bool) (s r a b:Int),a≤s→b≤r→okW W R l s r=true→okW W R l a b=true
 |[],_,_,_,_,_,_,_=>rfl
 |false::l,s,r,a,b,c,d,h=>L9 W R l s 0 a 0 c (Int.le_refl _) h
 |true::l,s,r,a,b,c,d,h=>by
  rw[okW,Bool.and_eq_true,Bool.and_eq_true,decide_eq_true_eq,decide_eq_true_eq] at h⊢;exact⟨by omega,by omega,L9 W R l _ _ _ _ (by omega) (by omega) h.2.2⟩
theorem Lj{W R W' R':Int}(a:W≤W')(b:R≤R'):∀(l:List Bool) (s r:Int),okW W R l s r=true→okW W' R' l s r=true
 |[],_,_,_=>rfl
 |false::l,s,r,h=>Lj a b l s 0 h
 |true::l,s,r,h=>by
  rw[okW,Bool.and_eq_true,Bool.and_eq_true,decide_eq_true_eq,decide_eq_true_eq] at h⊢;exact⟨by omega,by omega,Lj a b l _ _ h.2.2⟩
theorem Ng(W R:Int)(l:List Bool):∀(k:Nat),okW W R (List.replicate k false++l) 0 0=okW W R l 0 0
 |0=>rfl
 |k+1=>by rw[List.replicate_succ,List.cons_append,okW];exact Ng W R l k
theorem Ky(W R:Int)(a:List Bool):∀(d:List Bool) (s r:Int),0≤s→0≤r→okW W R (d++a) s r=true→okW W R a 0 0=true
 |[],s,r,b,c,h=>L9 W R a s r 0 0 b c h
 |false::l,s,r,b,c,h=>Ky W R a l s 0 b (Int.le_refl _) h
 |true::l,s,r,b,c,h=>by
  rw[List.cons_append,okW,Bool.and_eq_true,Bool.and_eq_true] at h;exact Ky W R a l (s+1) (r+1) (by omega) (by omega) h.2.2
theorem Kz(W R:Int)(a:List Bool):∀(b:List Bool) (s r:Int),okW W R (b++a) s r=true→okW W R b s r=true
 |[],s,r,h=>rfl
 |false::l,s,r,h=>Kz W R a l s 0 h
 |true::l,s,r,h=>by
  rw[List.cons_append,okW,Bool.and_eq_true,Bool.and_eq_true] at h;rw[okW,Bool.and_eq_true,Bool.and_eq_true];exact⟨h.1,h.2.1,Kz W R a l (s+1) (r+1) h.2.2⟩
theorem MJ:∀{ls:List A5} {cs:List Int},DV ls cs=true→∀i,i<ls.length→FZ (cs.getD i 0) (ls.getD i H9).As (ls.getD i H9).AJ=true
 |[],_,_,i,hi=>by cases hi
 |l::ls,[],h,_,_=>by cases h
 |l::ls,c::cs,h,0,_=>by rw[DV,Bool.and_eq_true] at h;exact h.1
 |l::ls,c::cs,h,i+1,hi=>by
  rw[DV,Bool.and_eq_true] at h;exact MJ h.2 i (by simpa using hi)
theorem Hz{y:Ao}{t:AU}:En y t=true↔(t.Ap.length:Int)=y.Ak+1∧Hw y t.Ap=true∧DV y.Ac t.Comes=true:=by
 unfold En;rw[Bool.and_eq_true,Bool.and_eq_true,decide_eq_true_eq]
theorem SZ{y:Ao}{i:Nat}(hi:i<y.Ac.length):DG y i∈y.Ac:=by
 unfold DG;rw[List.getD_eq_getElem?_getD,List.getElem?_eq_getElem hi];exact List.getElem_mem hi
theorem PZ{y:Ao}(a:DH y){t:AU}(b:En y t=true){i:Nat}(hi:i<y.Ac.length):0≤Cj t.Comes i∧Cj t.Comes i≤y.Ak:=by
 have d:=Fi.1 (MJ (Hz.1 b).2.2 i hi);have c:=Iz.1 (a.M4 _ (SZ hi));unfold DG at c;unfold Cj;rw[Int.toNat_natCast];omega
theorem N1 {y:Ao} (n:DH y) {o:List (List Int)} (l:CS y o=true) {i:Nat} (hi:i<y.Ac.length) (h:∀t,En y t=true→E3 y o i t=true) (t:AU) (p:En y t=true):
  Di (DG y i) (Co y t.Ap (DG y i) (Cj t.Comes i))=true:=by
 obtain⟨o1,pre,post,aI,e⟩:=SY l hi;obtain⟨hw,q,g⟩:=Hz.1 p;obtain⟨r,aH⟩:=PZ n p hi;have h0:=n.h0;have b:((List.replicate t.Ap.length false).length:Int)=y.Ak+1:=by rw[List.length_replicate];exact hw
 obtain⟨F,c⟩:∃F,F=Gw y (List.replicate t.Ap.length false) t.Comes pre 0:=⟨_,rfl⟩;have u:=L8 t.Comes b pre 0 (Int.le_refl _) (by omega);rw[←c] at u
 by_cases aA:y.Ak<max F (Cj t.Comes i)
 ·exfalso;have v:En y ⟨t.Comes,List.replicate t.Ap.length false⟩=true:=by
   refine Hz.2 ⟨b,?_,g⟩;unfold Hw;have:=Ng y.Ap y.Ax [] t.Ap.length;rw[List.append_nil] at this;rw[this];rfl
  have:=h _ v;unfold E3 at this;rw[Nf l hi e] at this;have aB:Co y (List.replicate t.Ap.length false) (DG y i) (max (Gw y (List.replicate t.Ap.length false) t.Comes pre 0) (Cj t.Comes i))=never:=by rw[←c];exact if_pos aA
  have a:Di (DG y i) (Co y (List.replicate t.Ap.length false) (DG y i) (max (Gw y (List.replicate t.Ap.length false) t.Comes pre 0) (Cj t.Comes i)))=true:=this;rw[aB] at a;cases a
 ·obtain⟨s,aC⟩:=Int.eq_ofNat_of_zero_le (show 0≤max F (Cj t.Comes i) by omega);obtain⟨ci,w⟩:=Int.eq_ofNat_of_zero_le r;have hle:ci≤s:=by omega
  obtain⟨W,d⟩:∃W,W=List.replicate s false++(t.Ap.drop ci).take (t.Ap.length-s):=⟨_,rfl⟩;have x:W.length=t.Ap.length:=by
   rw[d,List.length_append,List.length_replicate,List.length_take,List.length_drop];omega
  have m:okW y.Ap y.Ax ((t.Ap.drop ci).take (t.Ap.length-s)) 0 0=true:=by
   refine Kz y.Ap y.Ax ((t.Ap.drop ci).drop (t.Ap.length-s)) _ 0 0 ?_;rw[List.take_append_drop];refine Ky y.Ap y.Ax _ (t.Ap.take ci) 0 0 (Int.le_refl _) (Int.le_refl _) ?_;rw[List.take_append_drop];exact q
  have z:En y ⟨t.Comes,W⟩=true:=by
   refine Hz.2 ⟨by show(W.length:Int)=_;omega,?_,g⟩;unfold Hw;show okW y.Ap y.Ax W 0 0=true;rw[d,Ng];exact m
  have f:Gw y W t.Comes pre 0=F:=by
   rw[c];refine LS t.Comes b (by rw[List.length_replicate,x]) pre 0 (Int.le_refl _) (by omega) fun k aD=>?_;rw[←c] at aD;have j:k<s:=by omega
   rw[d,List.getElem?_append_left (by rw[List.length_replicate];exact j),List.getElem?_replicate,List.getElem?_replicate,if_pos j,if_pos (by omega)]
  have:=h _ z;unfold E3 at this;rw[Nf l hi e] at this;have a:Di (DG y i) (Co y W (DG y i) (max (Gw y W t.Comes pre 0) (Cj t.Comes i)))=true:=this;rw[f,aC] at a;have aE:Co y W (DG y i) (s:Int)=Dy (DG y i) s (W.drop s) s 0 0:=by
   unfold Co;rw[if_neg (by omega),Int.toNat_natCast]
  have aF:W.drop s=(t.Ap.drop ci).take (t.Ap.length-s):=by
   rw[d];exact List.drop_left' (by rw[List.length_replicate])
  have aG:Co y t.Ap (DG y i) (Cj t.Comes i)=Dy (DG y i) ci (t.Ap.drop ci) ci 0 0:=by
   unfold Co;rw[w,if_neg (by omega),Int.toNat_natCast]
  rw[aE,aF] at a;rw[aG];exact Kx (DG y i) _ _ _ _ _ _ _ _ (List.take_prefix ..) (by omega) a
end Go.Proofs.YtkljfdkmjdjpfaaGreat
end
section
namespace Go.Proofs.YtkljfdkmjdjpfaaGreat
structure Alike (y x:Ao):Prop where
 last:x.Ak=y.Ak
 len:x.Ac.length=y.Ac.length
 CF:∀i:Nat,(DG x i).Ar=(DG y i).Ar
 Xo:∀i:Nat,(DG x i).BV=(DG y i).BV
theorem KA{l c:A5}(a:c.Ar=l.Ar)(b:c.BV=l.BV)(d0:Int):∀(ws:List Bool) (d CF r:Int),Dy c d0 ws d CF r=Dy l d0 ws d CF r
 |[],_,_,_=>rfl
 |true::ws,d,CF,r=>by rw[Dy,Dy,a,b,KA a b d0 ws]
 |false::ws,d,CF,r=>by rw[Dy,Dy,a,b,KA a b d0 ws]
theorem PG{y x:Ao}(h:x.Ak=y.Ak){l a:A5}(b:a.Ar=l.Ar)(c:a.BV=l.BV)(w:List Bool)(d:Int):Co x w a d=Co y w l d:=by
 unfold Co;rw[h,KA b c]
theorem Alike.at{y x:Ao}(h:Alike y x)(w:List Bool)(i d:Int):Co x w (Db x i) d=Co y w (Db y i) d:=PG h.last (h.CF i.toNat) (h.Xo i.toNat) w d
theorem LU{y x:Ao}(h:Alike y x)(w:List Bool)(c:List Int):∀(l:List Int) (f:Int) (out:List Ag),Eb x w c l f out=Eb y w c l f out
 |[],_,_=>rfl
 |i::r,f,out=>by
  rw[Eb,Eb];show Eb x w c r (cond ((Co x w (Db x i) (max f (Cj c i))).AG==-1) (x.Ak+1) _) _=_;rw[h.at,h.last,LU h w c r]
theorem LW{y x:Ao}(h:Alike y x)(w:List Bool)(c:List Int):∀(o:List (List Int)) (out:List Ag),FJ x w c o out=FJ y w c o out
 |[],_=>rfl
 |l::o,out=>by rw[FJ,FJ,LU h,LW h w c o]
theorem LX{y x:Ao}(h:Alike y x)(o:List (List Int))(t:AU):B7 x o t=B7 y o t:=by
 unfold B7 GI;rw[h.len,LW h]
theorem NV{p b:A5→Ag→Bool}:∀(ls a:List A5) (ss:List Ag),ls.length=a.length→(∀i s,i<ls.length→p (ls.getD i H9) s=true→b (a.getD i H9) s=true)→GR p ls ss≤GR b a ss
 |[],[],ss,_,_=>Nat.le_refl _
 |[],_::_,_,h,_=>by cases h
 |_::_,[],_,h,_=>by cases h
 |l::ls,c::a,[],_,_=>by simp[GR]
 |l::ls,c::a,s::ss,d,h=>by
  have g:=NV ls a ss (by simpa using d) fun i s hi=>h (i+1) s (by simpa using hi);have e:p l s=true→b c s=true:=h 0 s (by simp);rw[GR,GR];cases f:p l s with
  |false=>simp only[cond_false];omega
  |true=>rw[e f];simp only[cond_true];omega
theorem QP {l b:A5} (h:l.Ce≤b.Ce) {s:Ag} (a:Di l s=true):Di b s=true:=by
 unfold Di at a⊢;rw[Bool.and_eq_true,decide_eq_true_eq] at a⊢;exact⟨a.1,by omega⟩
theorem RK{y x:Ao}(a:x.Ac.length=y.Ac.length)(b:∀i:Nat,(DG x i).Ce≤(DG y i).Ce)(ss:List Ag):Dh y ss≤Dh x ss:=by
 unfold Dh;refine NV _ _ ss a.symm fun i s _ h=>?_;unfold Cw at h⊢;cases c:Di (x.Ac.getD i H9) s with
 |false=>rfl
 |true=>
  have:=QP (b i) c;unfold DG at this;rw[this] at h;cases h
theorem T8{y x:Ao}(a:DH y)(b:DH x){o o':List (List Int)}(h:∀t,En y t=true→En x t=true∧Dh y (B7 y o t)≤Dh x (B7 x o' t)):(Cz y o).1≤(Cz x o').1:=by
 obtain⟨_,c,f⟩:=Ia a o;obtain⟨d,_,_⟩:=Ia b o';obtain⟨e,g⟩:=h _ c;have:=d _ e;omega
theorem T9{y x:Ao}(a:x.Ac.length=y.Ac.length){o o':List (List Int)}(h:∀i:Nat,i<y.Ac.length→(∀t∈BD x,E3 x o' i t=true)→∀t∈BD y,E3 y o i t=true):E2 x o'≤E2 y o:=by
 unfold E2;rw[a];refine List.countP_mono_left fun i hi=>?_;rw[List.mem_range] at hi;rw[List.all_eq_true,List.all_eq_true];exact h i hi
theorem S0{y x:Ao}(a:DH y)(b:DH x)(h:∀o,CS x o=true→∃o',CS y o'=true∧E2 x o≤E2 y o'):(Ga x).1≤(Ga y).1:=by
 obtain⟨c,_,_⟩:=IM a;obtain⟨_,d,f⟩:=IM b;obtain⟨o',e,hle⟩:=h _ d;have:=c o' e;omega
theorem QQ{y x:Ao}(a:x.Aj=y.Aj)(b:x.Ac.length=y.Ac.length)(o:List (List Int)):CS x o=CS y o:=by unfold CS;rw[a,b]
structure Lw(y x:Ao):Prop extends Alike y x where
 Ly:x.Aj=y.Aj
 due:∀i:Nat,(DG x i).Ce=(DG y i).Ce
 comes:∀i:Nat,(DG x i).As≤(DG y i).As∧(DG y i).AJ≤(DG x i).AJ
 Dk:y.Ap≤x.Ap
 run:y.Ax≤x.Ax
theorem Ie:∀{ls a:List A5} {cs:List Int},a.length=ls.length→(∀i:Nat,(a.getD i H9).As≤(ls.getD i H9).As∧(ls.getD i H9).AJ≤(a.getD i H9).AJ)→DV ls cs=true→DV a cs=true
 |[],[],cs,_,_,h=>h
 |[],_::_,_,h,_,_=>by cases h
 |_::_,[],_,h,_,_=>by cases h
 |l::ls,b::a,[],_,_,h=>by cases h
 |l::ls,b::a,c::cs,d,hw,h=>by
  rw[DV,Bool.and_eq_true] at h⊢;have e:=Fi.1 h.1;have f:b.As≤l.As∧l.AJ≤b.AJ:=hw 0;exact⟨Fi.2 (by omega),Ie (by simpa using d) (fun i=>hw (i+1)) h.2⟩
theorem Lw.QR{y x:Ao}(h:Lw y x){t:AU}(a:En y t=true):En x t=true:=by
 obtain⟨b,c,d⟩:=Hz.1 a;exact Hz.2 ⟨by rw[h.last];exact b,Lj h.Dk h.run _ _ _ c,Ie h.len h.comes d⟩
theorem RL{l a:A5}(h:a.Ce=l.Ce)(s:Ag):Di a s=Di l s:=by unfold Di;rw[h]
theorem Lw.sv{y x:Ao}(h:Lw y x)(o:List (List Int))(i:Nat)(t:AU):E3 x o i t=E3 y o i t:=by
 unfold E3 Jw;rw[LX h.toAlike,RL (h.due i)]
theorem Lw.sure{y x:Ao}(h:Lw y x)(a:DH y)(b:DH x):(Ga x).1≤(Ga y).1:=
 S0 a b fun o c=>⟨o,by rw[←QQ h.Ly h.len];exact c,T9 h.len fun i _ d t e=>by
  rw[←h.sv];exact d t ((EJ b.h0).2 (h.QR ((EJ a.h0).1 e)))⟩
structure N9(y z:Ao):Prop extends Alike y z where
 Ly:z.Aj=y.Aj
 due:∀i:Nat,(DG y i).Ce≤(DG z i).Ce
 comes:∀i:Nat,(DG z i).As=(DG y i).As∧(DG y i).AJ=(DG z i).AJ
 Dk:y.Ap=z.Ap
 run:y.Ax=z.Ax
theorem N9.QR{y z:Ao}(h:N9 y z){t:AU}:En z t=true↔En y t=true:=by
 rw[Hz,Hz,h.last];unfold Hw;rw[h.Dk,h.run];refine and_congr_right fun _=>and_congr_right fun _=>⟨fun a=>Ie h.len.symm (fun i=>?_) a,fun a=>Ie h.len (fun i=>?_) a⟩
 ·have:=h.comes i;unfold DG at this;omega
 ·have:=h.comes i;unfold DG at this;omega
theorem N9.XB{y z:Ao}(h:N9 y z)(a:DH y)(b:DH z)(o:List (List Int)):(Cz z o).1≤(Cz y o).1:=
 T8 b a fun t c=>⟨h.QR.1 c,by rw[LX h.toAlike];exact RK h.len.symm h.due _⟩
end Go.Proofs.YtkljfdkmjdjpfaaGreat
end
section
namespace Go.Proofs.YtkljfdkmjdjpfaaGreat
theorem NW(K:Nat)(l:A5)(s:Ag):Ey K l s=some (Di l s):=by unfold Ey Di;cases s.Ar<;>rfl
theorem RM{K:Nat}(y:Ao)(ss:List Ag)(d:y.Ac.length≤4)(e:ss.length=y.Ac.length):∀(k m i:Nat) (a:Int),ss.length=i+k→k<m→0≤a→a≤i→
  Dv K y ss m a (i:Int)=some (a+(GR Cw (y.Ac.drop i) (ss.drop i):Nat)):=by
 intro k
 induction k with
 |zero=>
  intro m i a h hm h0 c;cases m with
  |zero=>omega
  |succ m=>
   rw[Dv.eq_2,cf (df (by omega)),List.drop_eq_nil_of_le («as»:=y.Ac) (by omega),GR]
   ·simp
   ·intro _ _ _ _ h;cases h
 |succ k ih=>
  intro m i a h hm h0 c;cases m with
  |zero=>omega
  |succ m=>
   have hi:i<ss.length:=by omega
   have b:i<y.Ac.length:=by omega
   rw[Dv.eq_2,ct (dt (by omega)),BZ b,BZ hi,bd (NW ..),List.drop_eq_getElem_cons hi,List.drop_eq_getElem_cons b,GR];show cond (Cw y.Ac[i] ss[i]) _ _=_;cases f:Cw y.Ac[i] ss[i] with
   |true=>
    rw[ct rfl,Bv (by omega) (by omega),Bv (by omega) (by omega),CJ,ih m (i+1) (a+1) (by omega) (by omega) (by omega) (by omega)]
    congr 1
    show a+1+_=a+((1+GR Cw _ _:Nat):Int);omega
   |false=>
    rw[cf rfl,Bv (by omega) (by omega),CJ,ih m (i+1) a (by omega) (by omega) (by omega) (by omega)]
    congr 1
    show a+_=a+((0+GR Cw _ _:Nat):Int);omega
theorem RN{K:Nat}(y:Ao)(ss:List Ag)(a:y.Ac.length≤4)(b:ss.length=y.Ac.length)(hK:2000≤K):F5 K y ss=some (Dh y ss:Int):=by
 unfold F5;have:=RM (K:=K) y ss a b ss.length K 0 0 (by omega) (by omega) (by omega) (by omega);rw[Int.natCast_zero,List.drop_zero,List.drop_zero] at this;rw[bd this];simp[Dh]
def IQ(y:Ao)(o:List (List Int)):List AU→Int→Int
 |[],a=>a
 |t::b,a=>IQ y o b (max a (Dh y (B7 y o t):Int))
theorem MK(y:Ao)(o:List (List Int)):∀(b:List AU) (a:Int),a≤IQ y o b a∧(∀t∈b,(Dh y (B7 y o t):Int)≤IQ y o b a)∧(IQ y o b a=a∨∃t∈b,(Dh y (B7 y o t):Int)=IQ y o b a)
 |[],a=>⟨Int.le_refl _,fun t e=>(by cases e),.inl rfl⟩
 |t::b,a=>by
  obtain⟨g,f,d⟩:=MK y o b (max a (Dh y (B7 y o t):Int));rw[IQ];refine⟨by omega,fun x c=>?_,?_⟩
  ·rcases List.mem_cons.1 c with rfl|c
   ·omega
   ·exact f x c
  ·rcases d with d|⟨x,c,d⟩
   ·by_cases h:a≤(Dh y (B7 y o t):Int)
    ·exact .inr ⟨t,List.mem_cons_self ..,by omega⟩
    ·exact .inl (by omega)
   ·exact .inr ⟨x,List.mem_cons_of_mem _ c,d⟩
theorem S1{y:Ao}(a:DH y)(o:List (List Int)):IQ y o (Gv y) 0=(Cz y o).1:=by
 obtain⟨f,e,c⟩:=MK y o (Gv y) 0;refine(SJ a o _ (fun t b=>e t ((HQ a).2 b)) ?_).symm;rcases c with c|⟨t,b,c⟩
 ·obtain⟨t,b⟩:=List.exists_mem_of_ne_nil _ (MC a);have d:=(EJ a.h0).1 b;have:=e t ((HQ a).2 d);exact⟨t,d,by omega⟩
 ·exact⟨t,(HQ a).1 b,c⟩
theorem Vz{K:Nat}(y:Ao)(c:DH y)(o:List (List Int))(d:CS y o=true)(hK:2000≤K)(b:List AU)(e:∀t∈b,En y t=true)(f:b.length≤1000):∀(k m i:Nat) (a:Int),b.length=i+k→k<m→
  D6 K y b o m a (i:Int)=some (IQ y o (b.drop i) a):=by
 intro k
 induction k with
 |zero=>
  intro m i a h hm;cases m with
  |zero=>omega
  |succ m=>rw[D6.eq_2,cf (df (by omega)),List.drop_eq_nil_of_le (by omega)];rfl
 |succ k ih=>
  intro m i a h hm;cases m with
  |zero=>omega
  |succ m=>
   have hi:i<b.length:=by omega
   rw[D6.eq_2,ct (dt (by omega)),BZ hi,bd (NT y c o d b[i] (e _ (List.getElem_mem hi)) hK),bd (RN y (B7 y o b[i]) c.n4 (Gt ..) hK),Bv (by omega) (by omega),CJ,ih m (i+1) _ (by omega) (by omega),List.drop_eq_getElem_cons hi,IQ]
theorem ML{y:Ao}(a:DH y):(Gv y).length≤1000:=by
 rw[PE];have:=a.many;omega
theorem NX{K:Nat}(y:Ao)(a:DH y)(o:List (List Int))(b:CS y o=true)(hK:2000≤K):Fh K y (Gv y) o=some (Cz y o).1:=by
 unfold Fh;have c:=ML a;have e:=Vz (K:=K) y a o b hK (Gv y) (fun t d=>(HQ a).1 d) c (Gv y).length K 0 0 (by omega) (by omega);rw[Int.natCast_zero,List.drop_zero,S1 a] at e;rw[bd e]
theorem RO(K:Nat)(y:Ao)(ss:List Ag)(g:y.Ac.length≤4)(j:ss.length=y.Ac.length):∀(k m i:Nat) (a:List Int),ss.length=i+k→k<m→a.length=y.Ac.length→(∀x∈a.drop i,0≤x∧x≤100000)→
  Da K y ss m (i:Int) a=some (a.take i++Hn Di (y.Ac.drop i) (ss.drop i) (a.drop i)):=by
 intro k
 induction k with
 |zero=>
  intro m i a h hm d e;cases m with
  |zero=>omega
  |succ m=>
   rw[Da.eq_2,cf (df (by omega)),List.drop_eq_nil_of_le («as»:=y.Ac) (by omega),Km,List.take_append_drop]
 |succ k ih=>
  intro m i a h hm d e;cases m with
  |zero=>omega
  |succ m=>
   have hi:i<ss.length:=by omega
   have f:i<y.Ac.length:=by omega
   have b:i<a.length:=by omega
   rw[Da.eq_2,ct (dt (by omega)),BZ f,BZ hi,bd (NW ..),List.drop_eq_getElem_cons hi,List.drop_eq_getElem_cons f,List.drop_eq_getElem_cons b,Hn];cases l:Di y.Ac[i] ss[i] with
   |true=>
    have n:=e a[i] (by rw[List.drop_eq_getElem_cons b];exact List.mem_cons_self ..);rw[ct rfl,BZ b,Bv (by omega) (by omega),BZ b,Bv (by omega) (by omega),CJ,Int.toNat_natCast];rw[ih m (i+1) (a.set i (a[i]+1)) (by omega) (by omega) (by rw[List.length_set];exact d) (fun x c=>by
     rw[List.drop_set_of_lt (by omega)] at c;exact e x (by rw[List.drop_eq_getElem_cons b];exact List.mem_cons_of_mem _ c))]
    rw[List.take_add_one,List.getElem?_set_self b,List.take_set_of_le (Nat.le_refl _),List.drop_set_of_lt (by omega)];simp
   |false=>
    rw[cf rfl,Bv (by omega) (by omega),CJ];rw[ih m (i+1) a (by omega) (by omega) d (fun x c=>e x (by rw[List.drop_eq_getElem_cons b];exact List.mem_cons_of_mem _ c))];rw[List.take_add_one,List.getElem?_eq_getElem b,List.append_assoc];rfl
theorem S2{K:Nat}(y:Ao)(f:DH y)(o:List (List Int))(j:CS y o=true)(hK:2000≤K)(b:List AU)(l:∀t∈b,En y t=true)(n:b.length≤1000):∀(k m i:Nat) (a:List Int),b.length=i+k→k<m→a.length=y.Ac.length→(∀x∈a,0≤x∧x≤i)→
  DU K y b o m (i:Int) a=some (Jd Di y o (b.drop i) a):=by
 intro k
 induction k with
 |zero=>
  intro m i a h hm c g;cases m with
  |zero=>omega
  |succ m=>rw[DU.eq_2,cf (df (by omega)),List.drop_eq_nil_of_le (by omega)];rfl
 |succ k ih=>
  intro m i a h hm c g;cases m with
  |zero=>omega
  |succ m=>
   have hi:i<b.length:=by omega
   have p:=f.n4;have e:=RO K y (B7 y o b[i]) f.n4 (Gt ..) (B7 y o b[i]).length K 0 a (by omega) (by rw[show(B7 y o b[i]).length=y.Ac.length from Gt ..];omega) c (fun x d=>by rw[List.drop_zero] at d;have:=g x d;omega);rw[Int.natCast_zero,List.take_zero,List.nil_append,List.drop_zero,List.drop_zero,List.drop_zero] at e;rw[DU.eq_2,ct (dt (by omega)),BZ hi,bd (NT y f o j b[i] (l _ (List.getElem_mem hi)) hK),bd e,Bv (by omega) (by omega),CJ,ih m (i+1) _ (by omega) (by omega) (by rw[Iq];exact c) (fun x d=>by
    have:=M7 Di i _ _ _ g x d;omega),List.drop_eq_getElem_cons hi,Jd]
def Hh(y:Ao)(o:List (List Int)):List Int:=Jd Di y o (Gv y) (List.replicate y.Ac.length 0)
theorem LY(p:A5→Ag→Bool)(y:Ao)(o:List (List Int)):∀(b:List AU) (a:List Int),(Jd p y o b a).length=a.length
 |[],a=>rfl
 |t::b,a=>by rw[Jd,LY p y o b,Iq]
theorem GC(y:Ao)(o:List (List Int)):(Hh y o).length=y.Ac.length:=by unfold Hh;rw[LY,List.length_replicate]
theorem QS(y:Ao)(o:List (List Int)){i:Nat}(hi:i<y.Ac.length):(Hh y o).getD i 0=((Gv y).countP (E3 y o i):Nat):=by
 unfold Hh;rw[L4 Di y o i hi _ _ (by rw[List.length_replicate];exact hi)];have:(List.replicate y.Ac.length (0:Int)).getD i 0=0:=by
  rw[List.getD_eq_getElem?_getD,List.getElem?_replicate,if_pos hi];rfl
 rw[this,Int.zero_add];rfl
theorem MM{K:Nat}(y:Ao)(a:DH y)(o:List (List Int))(b:CS y o=true)(hK:2000≤K):EV K y (Gv y) o=some (Hh y o):=by
 unfold EV;have c:=ML a;have g:=a.n4;have e:=S2 (K:=K) y a o b hK (Gv y) (fun t d=>(HQ a).1 d) c (Gv y).length K 0 (List.replicate y.Ac.length 0) (by omega) (by omega) (by rw[List.length_replicate]) (fun x f=>by rw[(List.mem_replicate.1 f).2];omega);rw[Int.natCast_zero,List.drop_zero] at e;rw[NG (by omega) (by omega) (by omega),Int.toNat_natCast,bd e];rfl
theorem MN{y:Ao}(a:DH y)(o:List (List Int)){i:Nat}(hi:i<y.Ac.length):((Hh y o).getD i 0==((Gv y).length:Int))=(BD y).all (E3 y o i):=by
 rw[QS y o hi,Lc,SO a]
def Hu (y:Ao) (o:List (List Int)):Nat→Nat→Nat→Nat
 |0,_,b=>b
 |k+1,i,b=>Hu y o k (i+1) (cond ((BD y).all (E3 y o i)) (b|||2^i) b)
theorem MO(y:Ao)(o:List (List Int))(j:Nat):∀(k i b:Nat),(Hu y o k i b).testBit j=(b.testBit j||(decide (i≤j∧j<i+k)&&(BD y).all (E3 y o j)))
 |0,i,b=>by
  rw[Hu,df (by omega),Bool.false_and,Bool.or_false]
 |k+1,i,b=>by
  rw[Hu,MO y o j k (i+1)];have c:(cond ((BD y).all (E3 y o i)) (b|||2^i) b).testBit j=(b.testBit j||(decide (i=j)&&(BD y).all (E3 y o i))):=by
   cases (BD y).all (E3 y o i) with
   |true=>rw[Bool.and_true];show(b|||2^i).testBit j=_;rw[Nat.testBit_or,Nat.testBit_two_pow]
   |false=>rw[Bool.and_false,Bool.or_false];rfl
  rw[c,Bool.or_assoc]
  congr 1
  by_cases a:i=j
  ·subst a;rw[dt rfl,Bool.true_and,df (show¬(i+1≤i∧i<i+1+k) by omega),Bool.false_and,Bool.or_false,dt (by omega),Bool.true_and]
  ·rw[df a,Bool.false_and,Bool.false_or]
   congr 1
   by_cases h:i≤j∧j<i+(k+1)
   ·rw[dt h,dt (by omega)]
   ·rw[df h,df (by omega)]
theorem O4(y:Ao)(o:List (List Int))(n:Nat):∀(k i b:Nat),i+k≤n→b<2^n→Hu y o k i b<2^n
 |0,i,b,_,h=>h
 |k+1,i,b,a,h=>by
  rw[Hu];refine O4 y o n k (i+1) _ (by omega) ?_;cases (BD y).all (E3 y o i) with
  |true=>exact L7 h (by omega)
  |false=>exact h
theorem Ua{y:Ao}(d:DH y)(o:List (List Int)):∀(k m i b:Nat) (s:Int),y.Ac.length=i+k→k<m→0≤s→s≤i→b<2^y.Ac.length→
  Dw (Gv y) (Hh y o) m (b:Int) s (i:Int)=some ((Hu y o k i b:Int),s+((List.range' i k).countP (fun i=>(BD y).all (E3 y o i)):Nat)):=by
 have l:=d.n4;have g:=IA y.Ac.length (by omega);intro k
 induction k with
 |zero=>
  intro m i b s h hm h0 f c;cases m with
  |zero=>omega
  |succ m=>rw[Dw.eq_2,cf (df (by rw[GC];omega))];simp[Hu]
 |succ k ih=>
  intro m i b s h hm h0 f c;cases m with
  |zero=>omega
  |succ m=>
   have hi:i<y.Ac.length:=by omega
   have a:i<(Hh y o).length:=by rw[GC];exact hi
   have e:((Hh y o)[i]==((Gv y).length:Int))=(BD y).all (E3 y o i):=by
    rw[←MN d o hi,List.getD_eq_getElem?_getD,List.getElem?_eq_getElem a];rfl
   rw[Dw.eq_2,ct (dt (by rw[GC];omega)),BZ a,e,List.range'_succ,List.countP_cons,Hu];have j:=IA i (by omega);cases n:(BD y).all (E3 y o i) with
   |true=>
    rw[ct rfl,Bv (by omega) (by omega),bd (Na i (by omega)),bd (OV i (by omega)),Nc,bd (RH b (2^i) (by omega) (by omega)),Bv (by omega) (by omega),RI,CJ,ih m (i+1) (b|||2^i) (s+1) (by omega) (by omega) (by omega) (by omega) (L7 c hi)]
    congr 2;simp;omega
   |false=>
    rw[cf rfl,Bv (by omega) (by omega),CJ,ih m (i+1) b s (by omega) (by omega) (by omega) (by omega) c]
    congr 2
def Ho (y:Ao):List (List (List Int))→Int×Int×Nat→Int×Int×Nat
 |[],s=>s
 |o::os,s=>Ho y os (min s.1 (Cz y o).1,max s.2.1 (E2 y o:Int),Hu y o y.Ac.length 0 s.2.2)
theorem VA{K:Nat}(y:Ao)(a:DH y)(hK:2000≤K)(os:List (List (List Int)))(d:∀o∈os,CS y o=true)(f:os.length≤1500):∀(k m i:Nat) (s:Int×Int×Nat),os.length=i+k→k<m→s.2.2<2^y.Ac.length→
  Em K y (Gv y) os m s.1 s.2.1 (s.2.2:Int) (i:Int)=some ((Ho y (os.drop i) s).1,(Ho y (os.drop i) s).2.1,((Ho y (os.drop i) s).2.2:Int)):=by
 intro k
 induction k with
 |zero=>
  intro m i s h hm c;cases m with
  |zero=>omega
  |succ m=>rw[Em.eq_2,cf (df (by omega)),List.drop_eq_nil_of_le (by omega)];rfl
 |succ k ih=>
  intro m i s h hm c;cases m with
  |zero=>omega
  |succ m=>
   have hi:i<os.length:=by omega
   have b:=d os[i] (List.getElem_mem hi);have g:=a.n4;have e:=Ua a os[i] y.Ac.length K 0 s.2.2 0 (by omega) (by omega) (by omega) (by omega) c;rw[Int.natCast_zero,←List.range_eq_range',Int.zero_add] at e;rw[Em.eq_2,ct (dt (by omega)),BZ hi,bd (NX y a os[i] b hK),BZ hi,bd (MM y a os[i] b hK),bd e,Bv (by omega) (by omega),CJ];have:=ih m (i+1) (min s.1 (Cz y os[i]).1,max s.2.1 (E2 y os[i]:Int),Hu y os[i] y.Ac.length 0 s.2.2) (by omega) (by omega) (O4 y os[i] _ _ 0 _ (by omega) c);rw[List.drop_eq_getElem_cons hi,Ho];exact this
theorem NY(y:Ao):∀(os:List (List (List Int))) (s:Int×Int×Nat),
  (∀o∈os,(Ho y os s).1≤(Cz y o).1∧(E2 y o:Int)≤(Ho y os s).2.1)∧(Ho y os s).1≤s.1∧s.2.1≤(Ho y os s).2.1∧
  ((Ho y os s).1=s.1∨∃o∈os,(Ho y os s).1=(Cz y o).1)∧((Ho y os s).2.1=s.2.1∨∃o∈os,(Ho y os s).2.1=(E2 y o:Int))∧
  ∀j,j<y.Ac.length→((Ho y os s).2.2.testBit j=true↔s.2.2.testBit j=true∨∃o∈os,(BD y).all (E3 y o j)=true)
 |[],s=>⟨fun o e=>(by cases e),Int.le_refl _,Int.le_refl _,.inl rfl,.inl rfl,fun j _=>⟨.inl,fun h=>by rcases h with h|⟨o,e,_⟩;exact h;cases e⟩⟩
 |o::os,s=>by
  obtain⟨q,g,i,b,c,r⟩:=NY y os (min s.1 (Cz y o).1,max s.2.1 (E2 y o:Int),Hu y o y.Ac.length 0 s.2.2);rw[Ho];have k:=Int.le_trans g (Int.min_le_left s.1 (Cz y o).1);have l:=Int.le_trans g (Int.min_le_right s.1 (Cz y o).1);have m:=Int.le_trans (Int.le_max_left s.2.1 (E2 y o:Int)) i;have n:=Int.le_trans (Int.le_max_right s.2.1 (E2 y o:Int)) i;refine⟨fun x a=>?_,k,m,?_,?_,fun j t=>?_⟩
  ·rcases List.mem_cons.1 a with rfl|a
   ·exact⟨l,n⟩
   ·exact q x a
  ·rcases b with b|⟨x,a,b⟩
   ·by_cases f:s.1≤(Cz y o).1
    ·exact .inl (b.trans (Int.min_eq_left f))
    ·exact .inr ⟨o,List.mem_cons_self ..,b.trans (Int.min_eq_right (by omega))⟩
   ·exact .inr ⟨x,List.mem_cons_of_mem _ a,b⟩
  ·rcases c with c|⟨x,a,c⟩
   ·by_cases f:(E2 y o:Int)≤s.2.1
    ·exact .inl (c.trans (Int.max_eq_left f))
    ·exact .inr ⟨o,List.mem_cons_self ..,c.trans (Int.max_eq_right (by omega))⟩
   ·exact .inr ⟨x,List.mem_cons_of_mem _ a,c⟩
  ·have p:=MO y o j y.Ac.length 0 s.2.2;rw[dt (show 0≤j∧j<0+y.Ac.length by omega),Bool.true_and] at p;have d:=r j t;rw[show((min s.1 (Cz y o).1,max s.2.1 (E2 y o:Int),Hu y o y.Ac.length 0 s.2.2):Int×Int×Nat).2.2=Hu y o y.Ac.length 0 s.2.2 from rfl,p,Bool.or_eq_true] at d;rw[d];constructor
   ·rintro((h|h)|⟨x,a,h⟩)
    ·exact .inl h
    ·exact .inr ⟨o,List.mem_cons_self ..,h⟩
    ·exact .inr ⟨x,List.mem_cons_of_mem _ a,h⟩
   ·rintro(h|⟨x,a,h⟩)
    ·exact .inl (.inl h)
    ·rcases List.mem_cons.1 a with rfl|a
     ·exact .inl (.inr h)
     ·exact .inr ⟨x,a,h⟩
def It (y:Ao) (i:Nat):Bool:=(BD y).all (E3 y (Gu y i) i)
theorem RP{y:Ao}(a:DH y){i:Nat}(hi:i<y.Ac.length):It y i=true↔∃o,CS y o=true∧(BD y).all (E3 y o i)=true:=by
 constructor
 ·exact fun h=>⟨Gu y i,Lf a hi,h⟩
 ·rintro⟨o,d,h⟩;unfold It;rw[List.all_eq_true] at h⊢;intro t c;have b:=(EJ a.h0).1 c;have e:=N1 a d hi (fun t c=>h t ((EJ a.h0).2 c)) t b;have f:=PZ a b hi;unfold E3;rw[Nf (Lf a hi) hi (o1:=[]) (pre:=[]) (post:=Hm y.Ac.length i 0) rfl];show Di (DG y i) (Co y t.Ap (DG y i) (max 0 (Cj t.Comes i)))=true;rw[show max 0 (Cj t.Comes i)=Cj t.Comes i by omega];exact e
theorem N2{y:Ao}(c:DH y):(D9 y).length≤1500:=by
 have j:=c.r1;have m:=c.r2;have n:=c.n4;have key:∀(k i:Nat) (os:List (List (List Int))),i+k≤4→(∀o∈os,(o.length:Int)=y.Aj∧o.length≤2∧∀l∈o,l.length≤i)→os.length≤bO i→(OW k i os).length≤bO (i+k):=by
  intro k
  induction k with
  |zero=>intro i os _ _ h;exact h
  |succ k ih=>
   intro i os p d f;obtain⟨a,b⟩:=OY y i os d f;have:=ih (i+1) (Jx i os) (by omega) a b;rw[OW,show i+(k+1)=i+1+k by omega];exact this
 have e:=key y.Ac.length 0 [List.replicate y.Aj.toNat []] (by omega) (fun o d=>by
  rw[List.mem_singleton.1 d];refine⟨by simp;omega,by simp;omega,fun l g=>by rw[(List.mem_replicate.1 g).2];simp⟩) (by simp[bO])
 rw[OX] at e;have q:(D9 y).length≤bO (0+y.Ac.length):=by simpa[D9] using e
 have:=TB (0+y.Ac.length) (by omega);omega
theorem S3{K:Nat}(y:Ao)(a:DH y)(hK:2000≤K):∃b:Nat,Ge K y=some ((Ht y).1,(Ga y).1,(b:Int))∧∀j,j<y.Ac.length→b.testBit j=It y j:=by
 have v:=a.n4;have g:=N2 a;have e:=VA (K:=K) y a hK (D9 y) (fun o c=>(Fp a).1 c) g (D9 y).length K 0 ((y.Ac.length:Int),0,0) (by omega) (by omega) (Nat.pos_of_ne_zero (by simp));rw[Int.natCast_zero,List.drop_zero] at e;obtain⟨i,w,x,d,f,m⟩:=NY y (D9 y) ((y.Ac.length:Int),0,0);obtain⟨n,p,z⟩:=Kr a;obtain⟨s1,s2,aA⟩:=IM a;have q:(Ho y (D9 y) ((y.Ac.length:Int),0,0)).1=(Ht y).1:=by
  have r:=(i _ ((Fp a).2 p)).1;rcases d with d|⟨o,c,d⟩
  ·have:=L5 a (Ht y).2;have t:_=(y.Ac.length:Int):=d;omega
  ·have:=n o ((Fp a).1 c);omega
 have s:(Ho y (D9 y) ((y.Ac.length:Int),0,0)).2.1=(Ga y).1:=by
  have r:=(i _ ((Fp a).2 s2)).2;rcases f with f|⟨o,c,f⟩
  ·have u:_=(0:Int):=f;omega
  ·have:=s1 o ((Fp a).1 c);omega
 refine⟨(Ho y (D9 y) ((y.Ac.length:Int),0,0)).2.2,?_,fun j k=>?_⟩
 ·unfold Ge;rw[bd (OU y a hK),bd (SS y a hK)];refine(bd e).trans ?_;show some (_,_,_)=_;rw[q,s]
 ·rw[Bool.eq_iff_iff,m j k,RP a k];constructor
  ·rintro(h|⟨o,c,h⟩)
   ·have l:(0:Nat).testBit j=true:=h;rw[Nat.zero_testBit] at l;cases l
   ·exact⟨o,(Fp a).1 c,h⟩
  ·rintro⟨o,c,h⟩;exact .inr ⟨o,(Fp a).2 c,h⟩
end Go.Proofs.YtkljfdkmjdjpfaaGreat
end
section
namespace Go.Proofs.YtkljfdkmjdjpfaaGreat
theorem Ub(K:Nat)(y:Ao)(h:y.Ac.length≤6):∀(k m i:Nat) (a:List A5),y.Ac.length=i+k→k<m→a=y.Ac.take i→
  D2 K y m (i:Int) a=some y.Ac:=by
 intro k
 induction k with
 |zero=>
  intro m i a hi hm b;cases m with
  |zero=>omega
  |succ m=>rw[D2.eq_2,cf (df (by omega)),b,List.take_of_length_le (by omega)]
 |succ k ih=>
  intro m i a hi hm b;cases m with
  |zero=>omega
  |succ m=>
   have c:i<y.Ac.length:=by omega
   have d:a.length≤6:=by rw[b,List.length_take];omega
   rw[D2.eq_2,ct (dt (by omega)),BZ c,bd (show G9 K (⟨y.Ac[i].As,y.Ac[i].AJ⟩:CN)=some (⟨y.Ac[i].As,y.Ac[i].AJ⟩:CN) from rfl),F6 (by simp only[List.length_cons,List.length_nil];omega),Bv (by omega) (by omega),CJ];refine ih m (i+1) _ (by omega) (by omega) ?_;rw[b,List.take_add_one,List.getElem?_eq_getElem c];rfl
theorem Nh{K:Nat}(hK:2000≤K)(y:Ao)(h:y.Ac.length≤6):ED K y=some y:=by
 unfold ED;have:=Ub K y h y.Ac.length K 0 [] (by omega) (by omega) (by simp);rw[Int.natCast_zero] at this;rw[bd this]
theorem Uc(a:List Int)(h:a.length≤1000):∀(k m i:Nat),a.length=i+k→k<m→D1 a a m (i:Int)=some (.inr ()):=by
 intro k
 induction k with
 |zero=>
  intro m i hi hm;cases m with
  |zero=>omega
  |succ m=>rw[D1.eq_2,cf (df (by omega))]
 |succ k ih=>
  intro m i hi hm;cases m with
  |zero=>omega
  |succ m=>
   have b:i<a.length:=by omega
   rw[D1.eq_2,ct (dt (by omega)),BZ b,BZ b,cf (by simp),Bv (by omega) (by omega),CJ];exact ih m (i+1) (by omega) (by omega)
theorem P0{K:Nat}(hK:2000≤K)(a:List Int)(h:a.length≤1000):Fc K a a=some true:=by
 unfold Fc;have:=Uc a h a.length K 0 (by omega) (by omega);rw[Int.natCast_zero] at this;rw[cf (by simp),bd this];rfl
theorem S4{K:Nat}(hK:2000≤K)(y:Ao):FL K y=some (check y):=by
 unfold FL;rw[bd (PX hK y)]
def MP (y:Ao):Bool:=cond (decide ((y.Ac.length:Int)≤6)) (cond (check y !=0) true (decide (Gh y≤60))) false
theorem Ud{K:Nat}(hK:2000≤K)(y:Ao):F4 K y=some (MP y):=by
 unfold F4 MP;cases b:decide ((y.Ac.length:Int)≤6) with
 |false=>rfl
 |true=>
  rw[ct rfl,ct rfl,bd (PX hK y)];cases a:(check y !=0) with
  |true=>rfl
  |false=>
   have h0:check y=0:=by simpa[bne] using a
   rw[cf rfl,cf rfl,bd (Nb y (Hf h0) hK)]
theorem S5{y:Ao}(h:MP y=true):y.Ac.length≤6:=by
 unfold MP at h;cases a:decide ((y.Ac.length:Int)≤6) with
 |false=>rw[a] at h;cases h
 |true=>have:=of_decide_eq_true a;omega
end Go.Proofs.YtkljfdkmjdjpfaaGreat
end
section
namespace Go.Proofs.YtkljfdkmjdjpfaaGreat
section
variable{K:Nat}(hK:2000≤K){y:Ao}(h:check y=0)
theorem Lk{o:List (List Int)}(h:check y=0)(a:CS y o=true):o.length≤1000∧(∀l∈o,l.length≤1000)∧o.flatten.length≤1000:=HV (Hf h) a
include hK h
theorem VB{o:List (List Int)}(a:CS y o=true){t:AU}(b:En y t=true):GN K y o t=some (B7 y o t,0):=by
 obtain⟨c,_,d⟩:=Lk h a;rw[Rt y o t hK c d,if_neg (by simp[h]),if_neg (by simp[a,b])]
theorem P1{o:List (List Int)}(a:CS y o=true){i:Nat}(hi:i<y.Ac.length):Fx K y o (i:Int)=some (verdict y o i,0):=by
 obtain⟨b,_,c⟩:=Lk h a;have d:FZ (i:Int) 0 ((y.Ac.length:Int)-1)=true:=Fi.2 (by omega);rw[TX y o i hK b c,if_neg (by simp[h]),if_neg (by simp[a,d]),Int.toNat_natCast]
theorem VC{o:List (List Int)}(a:CS y o=true):GO K y o=some ((Cz y o).1,(Cz y o).2,0):=by
 obtain⟨b,_,c⟩:=Lk h a;rw[Rv y o hK b c,if_neg (by simp[h]),if_neg (by simp[a])]
theorem VD:GP K y=some ((Ht y).2,(Ht y).1,0):=by rw[RB y hK,if_neg (by simp[h])]
theorem VF:GQ K y=some ((Ga y).2.2,(Ga y).1,0):=by rw[RD y hK,if_neg (by simp[h])]
theorem QT:Fy K y=some (Eg y 0 y.Ac.length,0):=by rw[MG y hK,if_neg (by simp[h])]
theorem O5{o:List (List Int)}(a:CS y o=true)(n:Int):FB K y o n=some (decide ((Cz y o).1≤n)):=by
 obtain⟨b,_,c⟩:=Lk h a;rw[OK y o n hK b c,dt h,a];rfl
theorem PH{o:List (List Int)}(a:CS y o=true){t:AU}(b:En y t=true)(n:Int):FX K y o t n=some (decide (n≤(Dh y (B7 y o t):Int))):=by
 obtain⟨c,_,d⟩:=Lk h a;rw[PC y o t n hK c d,dt h,a,b];rfl
end
def y1:Ao:=⟨5,1,1,1,[⟨0,0,2,2,2⟩,⟨1,1,2,1,5⟩]⟩
def t3:AU:=⟨[0,1],[false,false,false,true,false,false]⟩
theorem Iu:check y1=0:=by decide+kernel
theorem TD:CS y1 [[0,1]]=true:=EF.2 ⟨rfl,by decide⟩
theorem QU:CS y1 [[1,0]]=true:=EF.2 ⟨rfl,by decide⟩
theorem WB:En y1 t3=true:=by decide+kernel
theorem WC:B7 y1 [[0,1]] t3=[⟨0,1,true⟩,⟨2,3,false⟩]:=by
 have h:∀(a b:List Ag),a.map (fun s=>(s.On,s.AG,s.Ar))=b.map (fun s=>(s.On,s.AG,s.Ar))→a=b:=by
  intro a
  induction a with
  |nil=>intro b h;cases b with|nil=>rfl|cons x l=>cases h
  |cons x l ih=>
   intro b h;cases b with
   |nil=>cases h
   |cons x2 d=>
    have c:=List.cons.inj h;obtain⟨a1,a2,a3⟩:=x;obtain⟨e,f,g⟩:=x2;have i:a1=e∧a2=f∧a3=g:=by simpa using c.1
    obtain⟨rfl,rfl,rfl⟩:=i;rw[ih d c.2]
 exact h _ _ (by decide+kernel)
theorem QV{K:Nat}(hK:2000≤K):Ew K=some true:=by
 unfold Ew;have a:CP K 1=some y1:=rfl;have c:GV K 3=some t3:=rfl;have d:Fx K y1 [[0,1]] 1=some (verdict y1 [[0,1]] 1,0):=P1 hK Iu TD (i:=1) (by decide);have e:Fx K y1 [[1,0]] 0=some (verdict y1 [[1,0]] 0,0):=P1 hK Iu QU (i:=0) (by decide);have b:=Hf Iu;obtain⟨_,f,j⟩:=Ia b [[1,0]];obtain⟨_,g,k⟩:=Kr b;have v1:verdict y1 [[0,1]] 1=3:=by decide+kernel
 have v2:verdict y1 [[1,0]] 0=2:=by decide+kernel
 have v3:(Cz y1 [[1,0]]).1=2:=by decide+kernel
 have v4:(Ht y1).1=1:=by decide+kernel
 have v5:(Ga y1).1=1:=by decide+kernel
 have v6:Eg y1 0 y1.Ac.length=[1]:=by decide+kernel
 rw[bd a,bd c,bd (VB hK Iu TD WB),bd a,bd d,bd a,bd e,bd a,bd (VC hK Iu QU),bd a,bd (VD hK Iu),bd a,bd (VF hK Iu),bd a,bd (QT hK Iu),WC];rw[ct (by rfl)];have s1:Fb K 0 1 true=some ⟨0,1,true⟩:=rfl;have s2:Fb K 2 3 false=some ⟨2,3,false⟩:=rfl;have h:GW K [⟨0,1,true⟩,⟨2,3,false⟩] ⟨0,1,true⟩ ⟨2,3,false⟩=some true:=rfl;rw[bd s1,bd s2,bd h,ct (by rfl),ct (by rfl),v1,ct (by rfl),ct (by rfl),v2,ct (by rfl),ct (by rfl),v3,ct (by rfl),bd a,bd (PH hK Iu QU f 2),ct (dt (by omega)),ct (by rfl),v4,ct (by rfl),bd a,bd (O5 hK Iu g 1),ct (dt (by omega)),ct (by rfl),v5,ct (by rfl),ct (by rfl),v6,bd (P0 hK [1] (by decide))]
end Go.Proofs.YtkljfdkmjdjpfaaGreat
end
section
namespace Go.Proofs.YtkljfdkmjdjpfaaGreat
namespace HF
theorem mixed:Tryz.prog.follows .mixedOrders=true:=by kernel_rfl
theorem KB(b:Nat)(w:World):(Instr.fieldAt 154 (.pointer (some ⟨b,0,none⟩)) 1).run Tryz.prog w=.ok (.pointer (some ⟨b,1,none⟩)) w:=by kernel_rfl
theorem A3:One Tryz.prog 3:=by unfold One;exact⟨by kernel_rfl,by kernel_rfl⟩
theorem KC(b:Nat)(w:World):(Instr.fieldAt 154 (.pointer (some ⟨b,0,none⟩)) 0).run Tryz.prog w=.ok (.pointer (some ⟨b,0,none⟩)) w:=by kernel_rfl
theorem JS:Bn Tryz.prog 90:=by unfold Bn;kernel_rfl
theorem KD(b:Nat)(w:World):(Instr.fieldAt 116 (.pointer (some ⟨b,0,none⟩)) 1).run Tryz.prog w=.ok (.pointer (some ⟨b,1,none⟩)) w:=by kernel_rfl
theorem Jh(b:Nat)(w:World):(Instr.fieldAt 116 (.pointer (some ⟨b,0,none⟩)) 0).run Tryz.prog w=.ok (.pointer (some ⟨b,0,none⟩)) w:=by kernel_rfl
theorem O6:(Tryz.prog.underlying 3).isSome=true:=by kernel_rfl
theorem HR:(Tryz.prog.info? 115).bind (·.zero)=some (.agg #[I 0,I 0,.bool false]):=by kernel_rfl
theorem EX:(Tryz.prog.info? 115).map (·.size)=some 3:=by kernel_rfl
theorem Et:DJ Tryz.prog 115 3:=by unfold DJ;exact⟨by kernel_rfl,by kernel_rfl⟩
theorem Df(b:Nat)(w:World):(Instr.fieldAt 75 (.pointer (some ⟨b,0,none⟩)) 4).run Tryz.prog w=.ok (.pointer (some ⟨b,4,none⟩)) w:=by kernel_rfl
theorem DN:One Tryz.prog 73:=by unfold One;exact⟨by kernel_rfl,by kernel_rfl⟩
theorem S6(b:Nat)(w:World):(Instr.fieldAt 115 (.pointer (some ⟨b,0,none⟩)) 2).run Tryz.prog w=.ok (.pointer (some ⟨b,2,none⟩)) w:=by kernel_rfl
theorem IS:One Tryz.prog 4:=by unfold One;exact⟨by kernel_rfl,by kernel_rfl⟩
theorem Ma(b:Nat)(w:World):(Instr.fieldAt 115 (.pointer (some ⟨b,0,none⟩)) 1).run Tryz.prog w=.ok (.pointer (some ⟨b,1,none⟩)) w:=by kernel_rfl
theorem O7(b:Nat)(w:World):(Instr.fieldAt 156 (.pointer (some ⟨b,0,none⟩)) 3).run Tryz.prog w=.ok (.pointer (some ⟨b,4,none⟩)) w:=by kernel_rfl
theorem HX:DJ Tryz.prog 156 5:=by unfold DJ;exact⟨by kernel_rfl,by kernel_rfl⟩
theorem O8:Bn Tryz.prog 97:=by unfold Bn;kernel_rfl
theorem Gm(b:Nat)(w:World):(Instr.fieldAt 63 (.pointer (some ⟨b,0,none⟩)) 0).run Tryz.prog w=.ok (.pointer (some ⟨b,0,none⟩)) w:=by kernel_rfl
theorem Ji:Bn Tryz.prog 54:=by unfold Bn;kernel_rfl
theorem LA(b:Nat)(w:World):(Instr.fieldAt 63 (.pointer (some ⟨b,0,none⟩)) 3).run Tryz.prog w=.ok (.pointer (some ⟨b,3,none⟩)) w:=by kernel_rfl
theorem Ni(b:Nat)(w:World):(Instr.fieldAt 63 (.pointer (some ⟨b,0,none⟩)) 2).run Tryz.prog w=.ok (.pointer (some ⟨b,2,none⟩)) w:=by kernel_rfl
theorem Ea:DJ Tryz.prog 63 5:=by unfold DJ;exact⟨by kernel_rfl,by kernel_rfl⟩
theorem VG:Bn Tryz.prog 95:=by unfold Bn;kernel_rfl
theorem G5:(Tryz.prog.info? 3).map (fun i=>(i.zero,i.size,i.bytes))=some (some (I 0),1,8):=by kernel_rfl
theorem P2:Bn Tryz.prog 100:=by unfold Bn;kernel_rfl
theorem Dx(b:Nat)(w:World):(Instr.fieldAt 63 (.pointer (some ⟨b,0,none⟩)) 4).run Tryz.prog w=.ok (.pointer (some ⟨b,4,none⟩)) w:=by kernel_rfl
theorem Eh:One Tryz.prog 61:=by unfold One;exact⟨by kernel_rfl,by kernel_rfl⟩
theorem Gf:(Tryz.prog.info? 118).map (·.size)=some 5:=by kernel_rfl
theorem O9(b o:Nat)(w:World):(Instr.fieldAt 118 (.pointer (some ⟨b,o,none⟩)) 0).run Tryz.prog w=.ok (.pointer (some ⟨b,o,none⟩)) w:=by kernel_rfl
theorem JT:DJ Tryz.prog 116 2:=by unfold DJ;exact⟨by kernel_rfl,by kernel_rfl⟩
theorem Nj:Bn Tryz.prog 136:=by unfold Bn;kernel_rfl
theorem IW(b:Nat)(w:World):(Instr.fieldAt 63 (.pointer (some ⟨b,0,none⟩)) 1).run Tryz.prog w=.ok (.pointer (some ⟨b,1,none⟩)) w:=by kernel_rfl
theorem JU:Bn Tryz.prog 46:=by unfold Bn;kernel_rfl
theorem LB:DJ Tryz.prog 118 5:=by unfold DJ;exact⟨by kernel_rfl,by kernel_rfl⟩
theorem Pb:(Tryz.prog.info? 118).bind (·.zero)=some (.agg #[I 0,I 0,I 0,I 0,I 0]):=by kernel_rfl
theorem Jj(b:Nat)(w:World):(Instr.fieldAt 118 (.pointer (some ⟨b,0,none⟩)) 0).run Tryz.prog w=.ok (.pointer (some ⟨b,0,none⟩)) w:=by kernel_rfl
theorem Pc(b:Nat)(w:World):(Instr.fieldAt 118 (.pointer (some ⟨b,0,none⟩)) 1).run Tryz.prog w=.ok (.pointer (some ⟨b,2,none⟩)) w:=by kernel_rfl
theorem Pd(b:Nat)(w:World):(Instr.fieldAt 118 (.pointer (some ⟨b,0,none⟩)) 2).run Tryz.prog w=.ok (.pointer (some ⟨b,3,none⟩)) w:=by kernel_rfl
theorem Mb(b:Nat)(w:World):(Instr.fieldAt 118 (.pointer (some ⟨b,0,none⟩)) 3).run Tryz.prog w=.ok (.pointer (some ⟨b,4,none⟩)) w:=by kernel_rfl
theorem Pe:Bn Tryz.prog 81:=by unfold Bn;kernel_rfl
theorem KE(b:Nat)(w:World):(Instr.fieldAt 156 (.pointer (some ⟨b,0,none⟩)) 0).run Tryz.prog w=.ok (.pointer (some ⟨b,0,none⟩)) w:=by kernel_rfl
theorem LC:DJ Tryz.prog 154 2:=by unfold DJ;exact⟨by kernel_rfl,by kernel_rfl⟩
theorem HY(b:Nat)(w:World):(Instr.fieldAt 75 (.pointer (some ⟨b,0,none⟩)) 0).run Tryz.prog w=.ok (.pointer (some ⟨b,0,none⟩)) w:=by kernel_rfl
theorem Ue:Bn Tryz.prog 140:=by unfold Bn;kernel_rfl
theorem HS(b:Nat)(w:World):(Instr.fieldAt 156 (.pointer (some ⟨b,0,none⟩)) 1).run Tryz.prog w=.ok (.pointer (some ⟨b,2,none⟩)) w:=by kernel_rfl
theorem P3:Bn Tryz.prog 141:=by unfold Bn;kernel_rfl
theorem Mc(b:Nat)(w:World):(Instr.fieldAt 156 (.pointer (some ⟨b,0,none⟩)) 2).run Tryz.prog w=.ok (.pointer (some ⟨b,3,none⟩)) w:=by kernel_rfl
theorem CI:(Tryz.prog.info? 3).map (·.size)=some 1:=by kernel_rfl
theorem Nk:(Tryz.prog.info? 75).bind (·.zero)=some (.agg #[I 0,I 0,I 0,I 0,.slice none 0 0]):=by kernel_rfl
theorem QW:(Tryz.prog.info? 75).map (·.size)=some 5:=by kernel_rfl
theorem CZ:DJ Tryz.prog 75 5:=by unfold DJ;exact⟨by kernel_rfl,by kernel_rfl⟩
theorem HH:(Tryz.prog.info? 78).bind (·.zero)=some (.agg #[.slice none 0 0,.slice none 0 0]):=by kernel_rfl
theorem MQ:(Tryz.prog.info? 4).map (fun i=>(i.zero,i.size,i.bytes))=some (some (.bool false),1,1):=by kernel_rfl
theorem HI:(Tryz.prog.info? 78).map (·.size)=some 2:=by kernel_rfl
theorem HZ(b:Nat)(w:World):(Instr.fieldAt 78 (.pointer (some ⟨b,0,none⟩)) 1).run Tryz.prog w=.ok (.pointer (some ⟨b,1,none⟩)) w:=by kernel_rfl
theorem GL:One Tryz.prog 65:=by unfold One;exact⟨by kernel_rfl,by kernel_rfl⟩
theorem If:(Tryz.prog.info? 4).map (·.size)=some 1:=by kernel_rfl
theorem GM:DJ Tryz.prog 78 2:=by unfold DJ;exact⟨by kernel_rfl,by kernel_rfl⟩
theorem Nl:Tryz.prog.eqGuardType Tryz.prog.depth 115=false:=by kernel_rfl
theorem Md:Sy Tryz.prog 115 [true,true,false]:=PB Tryz.underlying115 (by kernel_rfl) (by kernel_rfl) A3 Tryz.underlying3 IS Tryz.underlying4
theorem S7:(Tryz.prog.info? 154).bind (·.zero)=some (.agg #[I 0,I 0]):=by kernel_rfl
theorem VH:(Tryz.prog.info? 154).map (·.size)=some 2:=by kernel_rfl
theorem VI:Bn Tryz.prog 88:=by unfold Bn;kernel_rfl
theorem S8:(Tryz.prog.info? 156).map (fun i=>(i.zero,i.size,i.bytes))=some (some (.agg #[I 0,I 0,I 0,I 0,I 0]),5,40):=by kernel_rfl
theorem WD:(Tryz.prog.info? 73).map (·.size)=some 1:=by kernel_rfl
theorem RQ:Bn Tryz.prog 80:=by unfold Bn;kernel_rfl
theorem Uf:One Tryz.prog 168:=by unfold One;exact⟨by kernel_rfl,by kernel_rfl⟩
theorem HA:(Tryz.prog.info? 156).map (·.size)=some 5:=by kernel_rfl
theorem Ug:Bn Tryz.prog 175:=by unfold Bn;kernel_rfl
theorem Uh:Bn Tryz.prog 143:=by unfold Bn;kernel_rfl
theorem Ui:Bn Tryz.prog 142:=by unfold Bn;kernel_rfl
theorem Uj:One Tryz.prog 237:=by unfold One;exact⟨by kernel_rfl,by kernel_rfl⟩
theorem Uk:Bn Tryz.prog 210:=by unfold Bn;kernel_rfl
theorem Ul:Bn Tryz.prog 198:=by unfold Bn;kernel_rfl
theorem Um:Bn Tryz.prog 197:=by unfold Bn;kernel_rfl
theorem P4(b:Nat)(w:World):(Instr.fieldAt 75 (.pointer (some ⟨b,0,none⟩)) 2).run Tryz.prog w=.ok (.pointer (some ⟨b,2,none⟩)) w:=by kernel_rfl
theorem P5(b:Nat)(w:World):(Instr.fieldAt 75 (.pointer (some ⟨b,0,none⟩)) 3).run Tryz.prog w=.ok (.pointer (some ⟨b,3,none⟩)) w:=by kernel_rfl
theorem Jk:(Tryz.prog.info? 3).bind (·.zero)=some (I 0):=by kernel_rfl
theorem Un:Bn Tryz.prog 173:=by unfold Bn;kernel_rfl
theorem Uo:Bn Tryz.prog 172:=by unfold Bn;kernel_rfl
theorem Up:Bn Tryz.prog 145:=by unfold Bn;kernel_rfl
theorem P6:Bn Tryz.prog 138:=by unfold Bn;kernel_rfl
theorem JV(b:Nat)(w:World):(Instr.fieldAt 75 (.pointer (some ⟨b,0,none⟩)) 1).run Tryz.prog w=.ok (.pointer (some ⟨b,1,none⟩)) w:=by kernel_rfl
theorem VJ:Bn Tryz.prog 89:=by unfold Bn;kernel_rfl
theorem VK:Bn Tryz.prog 91:=by unfold Bn;kernel_rfl
theorem RR:Bn Tryz.prog 92:=by unfold Bn;kernel_rfl
theorem P7:Bn Tryz.prog 144:=by unfold Bn;kernel_rfl
theorem Me:(Tryz.prog.info? 156).bind (·.zero)=some (.agg #[I 0,I 0,I 0,I 0,I 0]):=by kernel_rfl
theorem RS:Bn Tryz.prog 94:=by unfold Bn;kernel_rfl
theorem VM:Bn Tryz.prog 93:=by unfold Bn;kernel_rfl
theorem Ei:One Tryz.prog 23:=by unfold One;exact⟨by kernel_rfl,by kernel_rfl⟩
theorem Uq:One Tryz.prog 161:=by unfold One;exact⟨by kernel_rfl,by kernel_rfl⟩
theorem Pf(b o:Nat)(w:World):(Instr.fieldAt 156 (.pointer (some ⟨b,o,none⟩)) 0).run Tryz.prog w=.ok (.pointer (some ⟨b,o,none⟩)) w:=by kernel_rfl
theorem S9(b o:Nat)(w:World):(Instr.fieldAt 154 (.pointer (some ⟨b,o,none⟩)) 0).run Tryz.prog w=.ok (.pointer (some ⟨b,o,none⟩)) w:=by kernel_rfl
theorem LD:One Tryz.prog 176:=by unfold One;exact⟨by kernel_rfl,by kernel_rfl⟩
theorem P8:Bn Tryz.prog 200:=by unfold Bn;kernel_rfl
theorem Ur:(Tryz.prog.info? 23).bind (·.zero)=some (.slice none 0 0):=by kernel_rfl
theorem Ez:(Tryz.prog.info? 23).map (·.size)=some 1:=by kernel_rfl
theorem Us:(Tryz.prog.info? 65).bind (·.zero)=some (.slice none 0 0):=by kernel_rfl
theorem TE:(Tryz.prog.info? 65).map (·.size)=some 1:=by kernel_rfl
theorem Pg:(Tryz.prog.info? 176).bind (·.zero)=some (.nilFunc):=by kernel_rfl
theorem RT:(Tryz.prog.info? 176).map (·.size)=some 1:=by kernel_rfl
theorem Ut(w:World):(Op.equal 23 (.slice none 0 0) (.slice none 0 0)).run Tryz.prog w=.ok true w:=by kernel_rfl
theorem Uu(ad:Addr)(n c:Nat)(w:World):(Op.equal 23 (.slice (some ad) n c) (.slice none 0 0)).run Tryz.prog w=.ok false w:=by kernel_rfl
theorem Nn:Bn Tryz.prog 149:=by unfold Bn;kernel_rfl
theorem Uv(w:World):(Op.equal 65 (.slice none 0 0) (.slice none 0 0)).run Tryz.prog w=.ok true w:=by kernel_rfl
theorem Uw(ad:Addr)(n c:Nat)(w:World):(Op.equal 65 (.slice (some ad) n c) (.slice none 0 0)).run Tryz.prog w=.ok false w:=by kernel_rfl
theorem No:Bn Tryz.prog 150:=by unfold Bn;kernel_rfl
theorem JW:(Tryz.prog.info? 23).map (fun i=>(i.zero,i.size,i.bytes))=some (some (.slice none 0 0),1,24):=by kernel_rfl
theorem Ux(w:World):(Op.equal 64 (.slice none 0 0) (.slice none 0 0)).run Tryz.prog w=.ok true w:=by kernel_rfl
theorem Uy(ad:Addr)(n c:Nat)(w:World):(Op.equal 64 (.slice (some ad) n c) (.slice none 0 0)).run Tryz.prog w=.ok false w:=by kernel_rfl
theorem Uz:Bn Tryz.prog 153:=by unfold Bn;kernel_rfl
theorem WE:∀(b c:Bool) (w:World),(Op.equal 4 (.bool b) (.bool c)).run Tryz.prog w=.ok (b==c) w:=by intro b c w;cases b<;>cases c<;>kernel_rfl
theorem Il(b:Nat)(w:World):(Instr.fieldAt 78 (.pointer (some ⟨b,0,none⟩)) 0).run Tryz.prog w=.ok (.pointer (some ⟨b,0,none⟩)) w:=by kernel_rfl
theorem P9:LM Tryz.prog 220 2:=Qw 2 Tryz.underlying220 (by kernel_rfl) rfl rfl A3 Tryz.underlying3
theorem Ph:Oo Tryz.prog 220 2:=Pw 2 Tryz.underlying220 rfl rfl A3 Tryz.underlying3
theorem NZ:J6 Tryz.prog 220:=by unfold J6;kernel_rfl
theorem VN:(Tryz.prog.info? 115).bind (·.zero)=some (.agg #[I 0,I 0,.bool false]):=by kernel_rfl
theorem HT(b:Nat)(w:World):(Instr.fieldAt 220 (.pointer (some ⟨b,0,none⟩)) 1).run Tryz.prog w=.ok (.pointer (some ⟨b,1,none⟩)) w:=by kernel_rfl
theorem Jl(b o:Nat)(w:World):(Instr.fieldAt 165 (.pointer (some ⟨b,o,none⟩)) 0).run Tryz.prog w=.ok (.pointer (some ⟨b,o,none⟩)) w:=by kernel_rfl
theorem Np(b o:Nat)(w:World):(Instr.fieldAt 75 (.pointer (some ⟨b,o,none⟩)) 0).run Tryz.prog w=.ok (.pointer (some ⟨b,o,none⟩)) w:=by kernel_rfl
theorem Qa(b o:Nat)(w:World):(Instr.fieldAt 75 (.pointer (some ⟨b,o,none⟩)) 4).run Tryz.prog w=.ok (.pointer (some ⟨b,o+4,none⟩)) w:=by kernel_rfl
theorem Ta(b:Nat)(w:World):(Instr.fieldAt 220 (.pointer (some ⟨b,0,none⟩)) 0).run Tryz.prog w=.ok (.pointer (some ⟨b,0,none⟩)) w:=by kernel_rfl
theorem Pj(b o:Nat)(w:World):(Instr.fieldAt 165 (.pointer (some ⟨b,o,none⟩)) 1).run Tryz.prog w=.ok (.pointer (some ⟨b,o+5,none⟩)) w:=by kernel_rfl
theorem Pk(b o:Nat)(w:World):(Instr.fieldAt 165 (.pointer (some ⟨b,o,none⟩)) 2).run Tryz.prog w=.ok (.pointer (some ⟨b,o+6,none⟩)) w:=by kernel_rfl
theorem Qb:One Tryz.prog 163:=by unfold One;exact⟨by kernel_rfl,by kernel_rfl⟩
theorem Nq:DJ Tryz.prog 220 2:=by unfold DJ;exact⟨by kernel_rfl,by kernel_rfl⟩
theorem UA:Bn Tryz.prog 174:=by unfold Bn;kernel_rfl
theorem Tb:(Tryz.prog.info? 115).map (fun i=>(i.zero,i.size,i.bytes))=some (some (.agg #[I 0,I 0,.bool false]),3,24):=by kernel_rfl
theorem UB:Bn Tryz.prog 139:=by unfold Bn;kernel_rfl
theorem UC:Bn Tryz.prog 137:=by unfold Bn;kernel_rfl
theorem JX:Bn Tryz.prog 35:=by unfold Bn;kernel_rfl
theorem Pm:Bn Tryz.prog 85:=by unfold Bn;kernel_rfl
theorem VO:Bn Tryz.prog 86:=by unfold Bn;kernel_rfl
theorem MR:Bn Tryz.prog 87:=by unfold Bn;kernel_rfl
theorem Pn:(Tryz.prog.info? 183).bind (·.zero)=some (.agg #[.nilFunc]):=by kernel_rfl
theorem RU:(Tryz.prog.info? 183).map (·.size)=some 1:=by kernel_rfl
theorem Po(b:Nat)(w:World):(Instr.fieldAt 183 (.pointer (some ⟨b,0,none⟩)) 0).run Tryz.prog w=.ok (.pointer (some ⟨b,0,none⟩)) w:=by kernel_rfl
theorem Qc:One Tryz.prog 180:=by unfold One;exact⟨by kernel_rfl,by kernel_rfl⟩
theorem Qd:Bn Tryz.prog 107:=by unfold Bn;kernel_rfl
theorem Qe:Bn Tryz.prog 103:=by unfold Bn;kernel_rfl
theorem Tc:(Tryz.prog.info? 162).bind (·.zero)=some (.pointer none):=by kernel_rfl
theorem UD:Bn Tryz.prog 176:=by unfold Bn;kernel_rfl
theorem IX:One Tryz.prog 162:=by unfold One;exact⟨by kernel_rfl,by kernel_rfl⟩
theorem RV(w:World):(Op.equal 162 (.pointer none) (.pointer none)).run Tryz.prog w=.ok true w:=by kernel_rfl
theorem RW:(Tryz.prog.info? 162).map (·.size)=some 1:=by kernel_rfl
theorem Nr:One Tryz.prog 223:=by unfold One;exact⟨by kernel_rfl,by kernel_rfl⟩
theorem Fj:One Tryz.prog 64:=by unfold One;exact⟨by kernel_rfl,by kernel_rfl⟩
theorem RX(ad:Addr)(w:World):(Op.equal 162 (.pointer (some ad)) (.pointer none)).run Tryz.prog w=.ok false w:=by kernel_rfl
theorem UE:Bn Tryz.prog 177:=by unfold Bn;kernel_rfl
theorem UF:Bn Tryz.prog 199:=by unfold Bn;kernel_rfl
theorem Jm:(Tryz.prog.info? 178).bind (·.zero)=some (.agg #[I 0,I 0,I 0,I 0]):=by kernel_rfl
theorem UG:Bn Tryz.prog 147:=by unfold Bn;kernel_rfl
theorem Qf:Bn Tryz.prog 146:=by unfold Bn;kernel_rfl
theorem IY:DJ Tryz.prog 178 4:=by unfold DJ;exact⟨by kernel_rfl,by kernel_rfl⟩
theorem JY:(Tryz.prog.info? 178).map (·.size)=some 4:=by kernel_rfl
theorem UH:Bn Tryz.prog 148:=by unfold Bn;kernel_rfl
theorem VP:Bn Tryz.prog 96:=by unfold Bn;kernel_rfl
theorem Pp:Bn Tryz.prog 98:=by unfold Bn;kernel_rfl
theorem RY:Bn Tryz.prog 99:=by unfold Bn;kernel_rfl
theorem RZ:Bn Tryz.prog 41:=by unfold Bn;kernel_rfl
theorem R0:Bn Tryz.prog 30:=by unfold Bn;kernel_rfl
theorem UI:Bn Tryz.prog 152:=by unfold Bn;kernel_rfl
theorem Ns:Bn Tryz.prog 106:=by unfold Bn;kernel_rfl
theorem Hv:(Tryz.prog.info? 64).map (·.size)=some 1:=by kernel_rfl
theorem UJ:DJ Tryz.prog 183 1:=by unfold DJ;exact⟨by kernel_rfl,by kernel_rfl⟩
theorem UK:Tryz.prog.eqGuardType Tryz.prog.depth 178=false:=by kernel_rfl
theorem UL:LM Tryz.prog 178 4:=Q2 Tryz.underlying178 A3 Tryz.underlying3
theorem VQ:One Tryz.prog 69:=by unfold One;exact⟨by kernel_rfl,by kernel_rfl⟩
theorem Qg:Bn Tryz.prog 151:=by unfold Bn;kernel_rfl
theorem Nt:(Tryz.prog.info? 64).bind (·.zero)=some (.slice none 0 0):=by kernel_rfl
theorem UM:Bn Tryz.prog 105:=by unfold Bn;kernel_rfl
theorem Qh:Bn Tryz.prog 104:=by unfold Bn;kernel_rfl
theorem UN:Bn Tryz.prog 108:=by unfold Bn;kernel_rfl
theorem Qi:(Tryz.prog.info? 67).bind (·.zero)=some (.agg #[.slice none 0 0,.slice none 0 0]):=by kernel_rfl
theorem Td:(Tryz.prog.info? 116).bind (·.zero)=some (.agg #[I 0,I 0]):=by kernel_rfl
theorem VR:(Tryz.prog.info? 116).map (·.size)=some 2:=by kernel_rfl
theorem Nu(b:Nat)(w:World):(Instr.fieldAt 67 (.pointer (some ⟨b,0,none⟩)) 0).run Tryz.prog w=.ok (.pointer (some ⟨b,0,none⟩)) w:=by kernel_rfl
theorem LF(b:Nat)(w:World):(Instr.fieldAt 67 (.pointer (some ⟨b,0,none⟩)) 1).run Tryz.prog w=.ok (.pointer (some ⟨b,1,none⟩)) w:=by kernel_rfl
theorem MS:DJ Tryz.prog 67 2:=by unfold DJ;exact⟨by kernel_rfl,by kernel_rfl⟩
theorem QX:(Tryz.prog.info? 67).map (·.size)=some 2:=by kernel_rfl
theorem UO:Bn Tryz.prog 101:=by unfold Bn;kernel_rfl
theorem UP:(Tryz.prog.info? 67).map (fun i=>(i.zero,i.size,i.bytes))=some (some (.agg #[.slice none 0 0,.slice none 0 0]),2,48):=by kernel_rfl
theorem UQ:(Tryz.prog.info? 64).map (fun i=>(i.zero,i.size,i.bytes))=some (some (.slice none 0 0),1,24):=by kernel_rfl
theorem Te:(Tryz.prog.info? 175).map (fun i=>(i.zero,i.size,i.bytes))=some (some (.agg #[I 0,I 0,.bool false]),3,24):=by kernel_rfl
theorem F8:(Tryz.prog.info? 175).map (·.size)=some 3:=by kernel_rfl
theorem Tf(b o:Nat)(w:World):(Instr.fieldAt 175 (.pointer (some ⟨b,o,none⟩)) 0).run Tryz.prog w=.ok (.pointer (some ⟨b,o,none⟩)) w:=by kernel_rfl
theorem KF(b o:Nat)(w:World):(Instr.fieldAt 118 (.pointer (some ⟨b,o,none⟩)) 1).run Tryz.prog w=.ok (.pointer (some ⟨b,o+2,none⟩)) w:=by kernel_rfl
theorem HB(b o:Nat)(w:World):(Instr.fieldAt 175 (.pointer (some ⟨b,o,none⟩)) 1).run Tryz.prog w=.ok (.pointer (some ⟨b,o+1,none⟩)) w:=by kernel_rfl
theorem KG(b o:Nat)(w:World):(Instr.fieldAt 175 (.pointer (some ⟨b,o,none⟩)) 2).run Tryz.prog w=.ok (.pointer (some ⟨b,o+2,none⟩)) w:=by kernel_rfl
theorem KH(b o:Nat)(w:World):(Instr.fieldAt 118 (.pointer (some ⟨b,o,none⟩)) 2).run Tryz.prog w=.ok (.pointer (some ⟨b,o+3,none⟩)) w:=by kernel_rfl
theorem Tg(b:Nat)(w:World):(Instr.fieldAt 175 (.pointer (some ⟨b,0,none⟩)) 2).run Tryz.prog w=.ok (.pointer (some ⟨b,2,none⟩)) w:=by kernel_rfl
theorem Th(b:Nat)(w:World):(Instr.fieldAt 175 (.pointer (some ⟨b,0,none⟩)) 1).run Tryz.prog w=.ok (.pointer (some ⟨b,1,none⟩)) w:=by kernel_rfl
theorem Qj:DJ Tryz.prog 175 3:=by unfold DJ;exact⟨by kernel_rfl,by kernel_rfl⟩
theorem Qk:Bn Tryz.prog 102:=by unfold Bn;kernel_rfl
theorem R1:Bn Tryz.prog 39:=by unfold Bn;kernel_rfl
theorem VS:Bn Tryz.prog 45:=by unfold Bn;kernel_rfl
theorem R3:Bn Tryz.prog 42:=by unfold Bn;kernel_rfl
theorem UR:Bn Tryz.prog 109:=by unfold Bn;kernel_rfl
theorem R4:Bn Tryz.prog 43:=by unfold Bn;kernel_rfl
theorem R5:Bn Tryz.prog 47:=by unfold Bn;kernel_rfl
theorem VT:Bn Tryz.prog 27:=by unfold Bn;kernel_rfl
theorem VU:Bn Tryz.prog 34:=by unfold Bn;kernel_rfl
theorem Ig:Bn Tryz.prog 82:=by unfold Bn;kernel_rfl
theorem VV:Bn Tryz.prog 83:=by unfold Bn;kernel_rfl
theorem R6:Bn Tryz.prog 40:=by unfold Bn;kernel_rfl
theorem R7:Bn Tryz.prog 50:=by unfold Bn;kernel_rfl
theorem R8:Bn Tryz.prog 51:=by unfold Bn;kernel_rfl
theorem R9:Bn Tryz.prog 52:=by unfold Bn;kernel_rfl
theorem Sa:Bn Tryz.prog 61:=by unfold Bn;kernel_rfl
theorem VW:Bn Tryz.prog 84:=by unfold Bn;kernel_rfl
theorem VX:Bn Tryz.prog 48:=by unfold Bn;kernel_rfl
theorem VY:Bn Tryz.prog 49:=by unfold Bn;kernel_rfl
theorem Sb:Bn Tryz.prog 55:=by unfold Bn;kernel_rfl
theorem Pq:Bn Tryz.prog 29:=by unfold Bn;kernel_rfl
theorem Pr:Bn Tryz.prog 31:=by unfold Bn;kernel_rfl
theorem Sc:Bn Tryz.prog 36:=by unfold Bn;kernel_rfl
theorem VZ:Bn Tryz.prog 53:=by unfold Bn;kernel_rfl
end HF
end Go.Proofs.YtkljfdkmjdjpfaaGreat
end
section
set_option linter.unusedVariables false
set_option linter.unusedSimpArgs false
namespace Go.Proofs.YtkljfdkmjdjpfaaGreat
open Go.RowKit Go.WideShapes
set_option maxRecDepth 20000
open HF
attribute [local irreducible] BO WL CC CW LV BP EA DJ One Bn
theorem Ql(n:Nat)(b:Int)(e:Int)(f:Int)(Z:Nat→Prop)(w:World)(m:Bool)(d:EI n b e f=some m):
 BP Tryz.prog 90 #[I b,I e,I f] w (fun v w'=>Ext w w'∧B5.R w' (ZZ FN [] Z w.heap.size []) v m):=by
 unfold EI at d;refine Ba (N:=15) Tryz.func90 rfl rfl (by simp) ?_;intro o h p;have g:=AR (i:=0) (v:=I b) h rfl;have k:=AR (i:=1) (v:=I e) h rfl;have l:=AR (i:=2) (v:=I f) h rfl;clear h;have j:Hp FN [] w [] w:=Hp.start (BQ.none w);refine Ad<|Aa<|wa rfl (v:=.bool false) rfl<|Ae<|Ab<|Ad<|Aa<|wm rfl (v:=I e) k<|wm rfl (v:=I b) g<|wd rfl (fun st=>Fk (ee st rfl) (ee st rfl))<|wm rfl (v:=.bool (decide (e≤b))) rfl ?_;rcases Aq (decide (e≤b)) with a|a
 ·replace d:=AD d a;refine Av rfl rfl (Af rfl a) rfl (by decide) (fun st=>AP (v:=I b) (ee st g))<|Av rfl rfl (Af rfl a) rfl (by decide) (fun st=>AP (v:=I f) (ee st l))<|Av rfl rfl (Af rfl a) rfl (by decide) (fun st=>Fk (ee st rfl) (ee st rfl))<|wd rfl (fun st=>AZ (v:=.bool (decide (b≤f))) (ee st rfl) a (ee st rfl))<|wa rfl (v:=.bool (decide (b≤f))) rfl<|Ae<|Ab<|AO ?_;obtain rfl:=Option.some.inj d;refine AW rfl rfl ?_;exact⟨j.Bz,rfl⟩
 ·replace d:=AE d a;refine Am (c:=false) rfl rfl (Af rfl a) (by decide) rfl (by decide)<|Am (c:=false) rfl rfl (Af rfl a) (by decide) rfl (by decide)<|Am (c:=false) rfl rfl (Af rfl a) (by decide) rfl (by decide)<|wd rfl (fun st=>Bw (v:=.bool false) (ee st rfl) a (ee st rfl))<|wa rfl (v:=.bool false) rfl<|Ae<|Ab<|AO ?_;obtain rfl:=Option.some.inj d;refine AW rfl rfl ?_;exact⟨j.Bz,rfl⟩
theorem WN(m:Nat)(a:CN)(Z:Nat→Prop)(w:World)(f:Int)(b:FA m a=some f):
 BP Tryz.prog 94 #[.agg #[I a.Lo,I a.Hi]] w (fun v w'=>Ext w w'∧(FF .i64).R w' (ZZ FN [] Z w.heap.size []) v f):=by
 unfold FA at b;refine Ba (N:=9) Tryz.func94 rfl rfl (by simp) ?_;intro n g o;have e:=AR (i:=0) (v:=.agg #[I a.Lo,I a.Hi]) g rfl;clear g;have d:Hp FN [] w [] w:=Hp.start (BQ.none w);refine Ad<|Aa<|we rfl (fun st=>B4 (v:=.agg #[I a.Lo,I a.Hi]) (cs:= #[I a.Lo,I a.Hi]) (ee st e) rfl) ?_;rintro _ w1 ⟨p,rfl,c⟩;have h:=d.nb c;have l:=d.BL c;refine wa rfl (v:=I 0) rfl<|Ae<|Ab<|Ad<|Aa<|wd rfl (fun st=>An (ee st rfl) (KB _ _))<|wd rfl (fun st=>Au (v:=I a.Hi) A3 (ee st rfl) c.bk rfl)<|wd rfl (fun st=>An (ee st rfl) (KC _ _))<|wd rfl (fun st=>Au (v:=I a.Lo) A3 (ee st rfl) c.bk rfl) ?_;replace b:=AN b;obtain⟨j,b⟩:=b;refine wd rfl (fun st=>Mi (ee st rfl) (ee st rfl) j) ?_;replace b:=AN b;obtain⟨k,b⟩:=b;refine wd rfl (fun st=>Bh (ee st rfl) (ee st rfl) k)<|wa rfl (v:=I ((a.Hi-a.Lo)+1)) rfl<|Ae<|Ab<|AO ?_;obtain rfl:=Option.some.inj b;refine AW rfl rfl ?_;exact⟨h.Bz,rfl⟩
theorem W6(p:Nat)(a:CN)(g:Int)(Z:Nat→Prop)(w:World)(n:Bool)(e:Hs p a g=some n):
 BP Tryz.prog 140 #[.agg #[I a.Lo,I a.Hi],I g] w (fun v w'=>Ext w w'∧B5.R w' (ZZ FN [] Z w.heap.size []) v n):=by
 unfold Hs at e;refine Ba (N:=21) Tryz.func140 rfl rfl (by simp) ?_;intro q k r;have l:=AR (i:=0) (v:=.agg #[I a.Lo,I a.Hi]) k rfl;have m:=AR (i:=1) (v:=I g) k rfl;clear k;have j:Hp FN [] w [] w:=Hp.start (BQ.none w);refine Ad<|Aa<|we rfl (fun st=>B4 (v:=.agg #[I a.Lo,I a.Hi]) (cs:= #[I a.Lo,I a.Hi]) (ee st l) rfl) ?_;rintro _ w1 ⟨s,rfl,f⟩;have h:=j.nb f;have o:=j.BL f;refine wa rfl (v:=.bool false) rfl<|Ae<|Ab<|Ad<|Aa<|wd rfl (fun st=>An (ee st rfl) (KC _ _))<|wd rfl (fun st=>Au (v:=I a.Lo) A3 (ee st rfl) f.bk rfl)<|wd rfl (fun st=>Fk (ee st rfl) (ee st rfl))<|wm rfl (v:=.bool (decide ((0:Int)≤a.Lo))) rfl ?_;rcases Aq (decide ((0:Int)≤a.Lo)) with b|b
 ·replace e:=AD e b;refine Av rfl rfl (Af rfl b) rfl (by decide) (fun st=>An (ee st rfl) (KC _ _))<|Av rfl rfl (Af rfl b) rfl (by decide) (fun st=>Au (v:=I a.Lo) A3 (ee st rfl) f.bk rfl)<|Av rfl rfl (Af rfl b) rfl (by decide) (fun st=>An (ee st rfl) (KB _ _))<|Av rfl rfl (Af rfl b) rfl (by decide) (fun st=>Au (v:=I a.Hi) A3 (ee st rfl) f.bk rfl)<|Av rfl rfl (Af rfl b) rfl (by decide) (fun st=>Fk (ee st rfl) (ee st rfl))<|wd rfl (fun st=>AZ (v:=.bool (decide (a.Lo≤a.Hi))) (ee st rfl) b (ee st rfl))<|wm rfl (v:=.bool (decide (a.Lo≤a.Hi))) rfl ?_;rcases Aq (decide (a.Lo≤a.Hi)) with d|d
  ·replace e:=AD e d;refine Av rfl rfl (Af rfl d) rfl (by decide) (fun st=>An (ee st rfl) (KB _ _))<|Av rfl rfl (Af rfl d) rfl (by decide) (fun st=>Au (v:=I a.Hi) A3 (ee st rfl) f.bk rfl)<|Av rfl rfl (Af rfl d) rfl (by decide) (fun st=>AP (v:=I g) (ee st m))<|Av rfl rfl (Af rfl d) rfl (by decide) (fun st=>Fk (ee st rfl) (ee st rfl))<|wd rfl (fun st=>AZ (v:=.bool (decide (a.Hi≤g))) (ee st rfl) d (ee st rfl))<|wa rfl (v:=.bool (decide (a.Hi≤g))) rfl<|Ae<|Ab<|AO ?_;obtain rfl:=Option.some.inj e;refine AW rfl rfl ?_;exact⟨h.Bz,rfl⟩
  ·replace e:=AE e d;refine Am (c:=false) rfl rfl (Af rfl d) (by decide) rfl (by decide)<|Am (c:=false) rfl rfl (Af rfl d) (by decide) rfl (by decide)<|Am (c:=false) rfl rfl (Af rfl d) (by decide) rfl (by decide)<|Am (c:=false) rfl rfl (Af rfl d) (by decide) rfl (by decide)<|wd rfl (fun st=>Bw (v:=.bool false) (ee st rfl) d (ee st rfl))<|wa rfl (v:=.bool false) rfl<|Ae<|Ab<|AO ?_;obtain rfl:=Option.some.inj e;refine AW rfl rfl ?_;exact⟨h.Bz,rfl⟩
 ·replace e:=AE e b;refine Am (c:=false) rfl rfl (Af rfl b) (by decide) rfl (by decide)<|Am (c:=false) rfl rfl (Af rfl b) (by decide) rfl (by decide)<|Am (c:=false) rfl rfl (Af rfl b) (by decide) rfl (by decide)<|Am (c:=false) rfl rfl (Af rfl b) (by decide) rfl (by decide)<|Am (c:=false) rfl rfl (Af rfl b) (by decide) rfl (by decide)<|wd rfl (fun st=>Bw (v:=.bool false) (ee st rfl) b (ee st rfl))<|wm rfl (v:=.bool false) rfl<|Am rfl rfl rfl (by decide) rfl (by decide)<|Am rfl rfl rfl (by decide) rfl (by decide)<|Am rfl rfl rfl (by decide) rfl (by decide)<|Am rfl rfl rfl (by decide) rfl (by decide)<|wd rfl (fun st=>Bw (v:=.bool false) (ee st rfl) rfl (ee st rfl))<|wa rfl (v:=.bool false) rfl<|Ae<|Ab<|AO ?_;obtain rfl:=Option.some.inj e;refine AW rfl rfl ?_;exact⟨h.Bz,rfl⟩
theorem a141(d:Nat)(b:Int)(Z:Nat→Prop)(w:World)(e:Bool)(a:He d b=some e):
 BP Tryz.prog 141 #[I b] w (fun v w'=>Ext w w'∧B5.R w' (ZZ FN [] Z w.heap.size []) v e):=by
 unfold He at a;refine Ba (N:=5) Tryz.func141 rfl rfl (by simp) ?_;intro l f m;have c:=AR (i:=0) (v:=I b) f rfl;clear f;have g:Hp FN [] w [] w:=Hp.start (BQ.none w);refine Ad<|Aa<|wa rfl (v:=.bool false) rfl<|Ae<|Ab<|Ad<|Aa<|wm rfl (v:=I b) c ?_;replace a:=bind_some a;obtain⟨r1,h,a⟩:=a;refine we rfl (fun st=>AS JS (ee st rfl) (Fo (ee st rfl) (ee st rfl) (ee st rfl)) (Ql d b 1 5 ZA _ r1 h)) ?_;rintro _ w2 ⟨j,rfl⟩;have k:=g.ext j;refine wa rfl (v:=.bool r1) rfl<|Ae<|Ab<|AO ?_;obtain rfl:=Option.some.inj a;refine AW rfl rfl ?_;exact⟨k.Bz,rfl⟩
theorem a46(n:Nat)(b:Int)(e:Int)(f:Int)(Z:Nat→Prop)(w:World)(m:Bool)(d:DO n b e f=some m):
 BP Tryz.prog 46 #[I b,I e,I f] w (fun v w'=>Ext w w'∧B5.R w' (ZZ FN [] Z w.heap.size []) v m):=by
 unfold DO at d;refine Ba (N:=15) Tryz.func46 rfl rfl (by simp) ?_;intro o h p;have g:=AR (i:=0) (v:=I b) h rfl;have k:=AR (i:=1) (v:=I e) h rfl;have l:=AR (i:=2) (v:=I f) h rfl;clear h;have j:Hp FN [] w [] w:=Hp.start (BQ.none w);refine Ad<|Aa<|wa rfl (v:=.bool false) rfl<|Ae<|Ab<|Ad<|Aa<|wm rfl (v:=I b) g<|wm rfl (v:=I e) k<|wd rfl (fun st=>Mj (ee st rfl) (ee st rfl))<|wm rfl (v:=.bool (decide (e≤b))) rfl ?_;rcases Aq (decide (e≤b)) with a|a
 ·replace d:=AD d a;refine Av rfl rfl (Af rfl a) rfl (by decide) (fun st=>AP (v:=I b) (ee st g))<|Av rfl rfl (Af rfl a) rfl (by decide) (fun st=>AP (v:=I f) (ee st l))<|Av rfl rfl (Af rfl a) rfl (by decide) (fun st=>Fk (ee st rfl) (ee st rfl))<|wd rfl (fun st=>AZ (v:=.bool (decide (b≤f))) (ee st rfl) a (ee st rfl))<|wa rfl (v:=.bool (decide (b≤f))) rfl<|Ae<|Ab<|AO ?_;obtain rfl:=Option.some.inj d;refine AW rfl rfl ?_;exact⟨j.Bz,rfl⟩
 ·replace d:=AE d a;refine Am (c:=false) rfl rfl (Af rfl a) (by decide) rfl (by decide)<|Am (c:=false) rfl rfl (Af rfl a) (by decide) rfl (by decide)<|Am (c:=false) rfl rfl (Af rfl a) (by decide) rfl (by decide)<|wd rfl (fun st=>Bw (v:=.bool false) (ee st rfl) a (ee st rfl))<|wa rfl (v:=.bool false) rfl<|Ae<|Ab<|AO ?_;obtain rfl:=Option.some.inj d;refine AW rfl rfl ?_;exact⟨j.Bz,rfl⟩
theorem Ti(m:Nat)(a:CN)(Z:Nat→Prop)(w:World)(f:Int)(b:EB m a=some f):
 BP Tryz.prog 136 #[.agg #[I a.Lo,I a.Hi]] w (fun v w'=>Ext w w'∧(FF .i64).R w' (ZZ FN [] Z w.heap.size []) v f):=by
 unfold EB at b;refine Ba (N:=9) Tryz.func136 rfl rfl (by simp) ?_;intro n g o;have e:=AR (i:=0) (v:=.agg #[I a.Lo,I a.Hi]) g rfl;clear g;have d:Hp FN [] w [] w:=Hp.start (BQ.none w);refine Ad<|Aa<|we rfl (fun st=>B4 (v:=.agg #[I a.Lo,I a.Hi]) (cs:= #[I a.Lo,I a.Hi]) (ee st e) rfl) ?_;rintro _ w1 ⟨p,rfl,c⟩;have h:=d.nb c;have l:=d.BL c;refine wa rfl (v:=I 0) rfl<|Ae<|Ab<|Ad<|Aa<|wd rfl (fun st=>An (ee st rfl) (KD _ _))<|wd rfl (fun st=>Au (v:=I a.Hi) A3 (ee st rfl) c.bk rfl)<|wd rfl (fun st=>An (ee st rfl) (Jh _ _))<|wd rfl (fun st=>Au (v:=I a.Lo) A3 (ee st rfl) c.bk rfl) ?_;replace b:=AN b;obtain⟨j,b⟩:=b;refine wd rfl (fun st=>Mi (ee st rfl) (ee st rfl) j) ?_;replace b:=AN b;obtain⟨k,b⟩:=b;refine wd rfl (fun st=>Bh (ee st rfl) (ee st rfl) k)<|wa rfl (v:=I ((a.Hi-a.Lo)+1)) rfl<|Ae<|Ab<|AO ?_;obtain rfl:=Option.some.inj b;refine AW rfl rfl ?_;exact⟨h.Bz,rfl⟩
theorem Ps(n:Nat)(b:Int)(c:Int)(Z:Nat→Prop)(w:World)(h:Bool)(a:C0 n b c=some h):
 BP Tryz.prog 54 #[I b,I c] w (fun v w'=>Ext w w'∧B5.R w' (ZZ FN [] Z w.heap.size []) v h):=by
 unfold C0 at a;refine Ba (N:=11) Tryz.func54 rfl rfl (by simp) ?_;intro o e p;have f:=AR (i:=0) (v:=I b) e rfl;have g:=AR (i:=1) (v:=I c) e rfl;clear e;have j:Hp FN [] w [] w:=Hp.start (BQ.none w);refine Ad<|Aa<|wa rfl (v:=.bool false) rfl<|Ae<|Ab<|Ad<|Aa<|wm rfl (v:=I b) f<|wm rfl (v:=I c) g ?_;replace a:=I7 a;obtain⟨l,a⟩:=a;refine wd rfl (fun st=>KQ (k:=.u64) O6 Tryz.underlying32 (ee st rfl) l) ?_;replace a:=NB a;obtain⟨m,a⟩:=a;refine wd rfl (fun st=>Tu (ee st rfl) (ee st rfl) m) ?_;replace a:=J8 a;obtain⟨d,a⟩:=a;refine wd rfl (fun st=>N5 (ee st rfl) (ee st rfl) d.1 d.2)<|wd rfl (fun st=>Cl (ee st rfl) (ee st rfl))<|wa rfl (v:=.bool (((FQ b c)%2)==1)) rfl<|Ae<|Ab<|AO ?_;obtain rfl:=Option.some.inj a;refine AW rfl rfl ?_;exact⟨j.Bz,rfl⟩
theorem WO(s:Nat)(a:Int)(b:Int)(c:Bool)(Z:Nat→Prop)(w:World)(m:Ag)(o:Fb s a b c=some m):
 BP Tryz.prog 61 #[I a,I b,.bool c] w (fun v w'=>Ext w w'∧(Ej BA).R w' (ZZ FN [] Z w.heap.size []) v m):=by
 unfold Fb at o;refine Ba (N:=11) Tryz.func61 rfl rfl (by simp) ?_;intro t e u;have h:=AR (i:=0) (v:=I a) e rfl;have j:=AR (i:=1) (v:=I b) e rfl;have k:=AR (i:=2) (v:=.bool c) e rfl;clear e;have f:Hp FN [] w [] w:=Hp.start (BQ.none w);refine Ad<|Aa<|we rfl (fun st=>B1 (cs:= #[I 0,I 0,.bool false]) HR rfl) ?_;rintro _ w1 ⟨x,rfl,d⟩;have p:=f.nb d;have r:=f.BL d;refine Ae<|Ab<|Ad<|Aa<|wm rfl (v:=I a) h<|wm rfl (v:=I b) j<|wm rfl (v:=.bool c) k<|wd rfl (fun st=>De (vs:= #[(0,I a),(1,I b),(2,.bool c)]) (v:=.agg #[I a,I b,.bool c]) (KI (ee st rfl) (ee st rfl) (ee st rfl)) (by kernel_rfl))<|Bi rfl rfl (fun st=>Bl (n:=3) (l:=[I a,I b,.bool c]) (B9:= #[I a,I b,.bool c]) (ee st rfl) (ee st rfl) EX d.bk rfl rfl (show 0+3≤3 by decide) (AT rfl) rfl) ?_;rintro _ w2 g;have q:=p.gr g.gr 0 rfl;refine Ae<|Ab<|AO ?_;obtain rfl:=Option.some.inj o;refine GX (v:=.agg #[I a,I b,.bool c]) rfl rfl (Dc Et g.bk rfl rfl) ?_;exact⟨q.Bz,⟨_,rfl,rfl⟩⟩
theorem Xp(n:Nat)(a:Ao)(e:Int)(b:Option Addr)(c:Nat)(Z:Nat→Prop)(w:World)(g:Sl AK w Z b c a.Ac)(o:Bool)(d:Gc n a e=some o):
 BP Tryz.prog 96 #[.agg #[I a.Ak,I a.Aj,I a.Ap,I a.Ax,.slice b a.Ac.length c],I e] w (fun v w'=>Ext w w'∧B5.R w' (ZZ FN [] Z w.heap.size []) v o):=by
 unfold Gc at d;refine Ba (N:=11) Tryz.func96 rfl rfl (by simp) ?_;intro y j z;have k:=AR (i:=0) (v:=.agg #[I a.Ak,I a.Aj,I a.Ap,I a.Ax,.slice b a.Ac.length c]) j rfl;have l:=AR (i:=1) (v:=I e) j rfl;clear j;have h:Hp FN [] w [] w:=Hp.start (BQ.none w);have m:=g.mv (Bj (Z:=Z) (L:=[]) w);refine Ad<|Aa<|we rfl (fun st=>B4 (v:=.agg #[I a.Ak,I a.Aj,I a.Ap,I a.Ax,.slice b a.Ac.length c]) (cs:= #[I a.Ak,I a.Aj,I a.Ap,I a.Ax,.slice b a.Ac.length c]) (ee st k) rfl) ?_;rintro _ w1 ⟨aA,rfl,f⟩;have p:=h.nb f;have x:=h.BL f;refine wa rfl (v:=.bool false) rfl<|Ae<|Ab<|Ad<|Aa<|wm rfl (v:=I e) l<|wd rfl (fun st=>An (ee st rfl) (Df _ _))<|wd rfl (fun st=>Au (v:=.slice b a.Ac.length c) DN (ee st rfl) f.bk rfl)<|wd rfl (fun st=>BE Tryz.underlying73 (ee st rfl)) ?_;replace d:=AN d;obtain⟨q,d⟩:=d;refine wd rfl (fun st=>Mi (ee st rfl) (ee st rfl) q) ?_;replace d:=bind_some d;obtain⟨r,s,d⟩:=d;refine we rfl (fun st=>AS JS (ee st rfl) (Fo (ee st rfl) (ee st rfl) (ee st rfl)) (Ql n e 0 ((a.Ac.length:Int)-1) ZA _ r s)) ?_;rintro _ aB ⟨t,rfl⟩;have u:=p.ext t;refine wa rfl (v:=.bool r) rfl<|Ae<|Ab<|AO ?_;obtain rfl:=Option.some.inj d;refine AW rfl rfl ?_;exact⟨u.Bz,rfl⟩
theorem V0(s:Nat)(a:A5)(d:Ag)(Z:Nat→Prop)(w:World)(p:Bool)(f:Dm s a d=some p):
 BP Tryz.prog 97 #[.agg #[I a.As,I a.AJ,I a.Ar,I a.BV,I a.Ce],.agg #[I d.On,I d.AG,.bool d.Ar]] w (fun v w'=>Ext w w'∧B5.R w' (ZZ FN [] Z w.heap.size []) v p):=by
 unfold Dm at f;refine Ba (N:=14) Tryz.func97 rfl rfl (by simp) ?_;intro t m u;have n:=AR (i:=0) (v:=.agg #[I a.As,I a.AJ,I a.Ar,I a.BV,I a.Ce]) m rfl;have o:=AR (i:=1) (v:=.agg #[I d.On,I d.AG,.bool d.Ar]) m rfl;clear m;have j:Hp FN [] w [] w:=Hp.start (BQ.none w);refine Ad<|Aa<|we rfl (fun st=>B4 (v:=.agg #[I a.As,I a.AJ,I a.Ar,I a.BV,I a.Ce]) (cs:= #[I a.As,I a.AJ,I a.Ar,I a.BV,I a.Ce]) (ee st n) rfl) ?_;rintro _ w1 ⟨x,rfl,g⟩;have k:=j.nb g;have q:=j.BL g;refine we rfl (fun st=>B4 (v:=.agg #[I d.On,I d.AG,.bool d.Ar]) (cs:= #[I d.On,I d.AG,.bool d.Ar]) (ee st o) rfl) ?_;rintro _ w2 ⟨y,rfl,e⟩;have l:=k.nb e;have r:=k.BL e;refine wa rfl (v:=.bool false) rfl<|Ae<|Ab<|Ad<|Aa<|wd rfl (fun st=>An (ee st rfl) (S6 _ _))<|wd rfl (fun st=>Au (v:=.bool d.Ar) IS (ee st rfl) e.bk rfl)<|wm rfl (v:=.bool d.Ar) rfl ?_;rcases Aq (d.Ar) with b|b
 ·replace f:=AD f b;refine Av rfl rfl (Af rfl b) rfl (by decide) (fun st=>An (ee st rfl) (Ma _ _))<|Av rfl rfl (Af rfl b) rfl (by decide) (fun st=>Au (v:=I d.AG) A3 (ee st rfl) e.bk rfl)<|Av rfl rfl (Af rfl b) rfl (by decide) (fun st=>An (ee st rfl) (O7 _ _)) ?_;have h:=(g.bk.ext e.gr);refine Av rfl rfl (Af rfl b) rfl (by decide) (fun st=>Au (v:=I a.Ce) A3 (ee st rfl) h rfl)<|Av rfl rfl (Af rfl b) rfl (by decide) (fun st=>Fk (ee st rfl) (ee st rfl))<|wd rfl (fun st=>AZ (v:=.bool (decide (d.AG≤a.Ce))) (ee st rfl) b (ee st rfl))<|wa rfl (v:=.bool (decide (d.AG≤a.Ce))) rfl<|Ae<|Ab<|AO ?_;obtain rfl:=Option.some.inj f;refine AW rfl rfl ?_;exact⟨l.Bz,rfl⟩
 ·replace f:=AE f b;refine Am (c:=false) rfl rfl (Af rfl b) (by decide) rfl (by decide)<|Am (c:=false) rfl rfl (Af rfl b) (by decide) rfl (by decide)<|Am (c:=false) rfl rfl (Af rfl b) (by decide) rfl (by decide)<|Am (c:=false) rfl rfl (Af rfl b) (by decide) rfl (by decide)<|Am (c:=false) rfl rfl (Af rfl b) (by decide) rfl (by decide)<|wd rfl (fun st=>Bw (v:=.bool false) (ee st rfl) b (ee st rfl))<|wa rfl (v:=.bool false) rfl<|Ae<|Ab<|AO ?_;obtain rfl:=Option.some.inj f;refine AW rfl rfl ?_;exact⟨l.Bz,rfl⟩
theorem a107(n:Nat)(a:A5)(b:Ag)(Z:Nat→Prop)(w:World)(o:Bool)(d:EC n a b=some o):
 BP Tryz.prog 107 #[.agg #[I a.As,I a.AJ,I a.Ar,I a.BV,I a.Ce],.agg #[I b.On,I b.AG,.bool b.Ar]] w (fun v w'=>Ext w w'∧B5.R w' (ZZ FN [] Z w.heap.size []) v o):=by
 unfold EC at d;refine Ba (N:=9) Tryz.func107 rfl rfl (by simp) ?_;intro y j z;have k:=AR (i:=0) (v:=.agg #[I a.As,I a.AJ,I a.Ar,I a.BV,I a.Ce]) j rfl;have m:=AR (i:=1) (v:=.agg #[I b.On,I b.AG,.bool b.Ar]) j rfl;clear j;have g:Hp FN [] w [] w:=Hp.start (BQ.none w);refine Ad<|Aa<|we rfl (fun st=>B4 (v:=.agg #[I a.As,I a.AJ,I a.Ar,I a.BV,I a.Ce]) (cs:= #[I a.As,I a.AJ,I a.Ar,I a.BV,I a.Ce]) (ee st k) rfl) ?_;rintro _ w1 ⟨aA,rfl,e⟩;have h:=g.nb e;have u:=g.BL e;refine we rfl (fun st=>B4 (v:=.agg #[I b.On,I b.AG,.bool b.Ar]) (cs:= #[I b.On,I b.AG,.bool b.Ar]) (ee st m) rfl) ?_;rintro _ w2 ⟨aB,rfl,c⟩;have p:=h.nb c;have x:=h.BL c;refine wa rfl (v:=.bool false) rfl<|Ae<|Ab<|Ad<|Aa ?_;have f:=(e.bk.ext c.gr);refine wd rfl (fun st=>Bc (l:=[I a.As,I a.AJ,I a.Ar,I a.BV,I a.Ce]) HX (ee st rfl) f rfl rfl)<|wd rfl (fun st=>Bc (l:=[I b.On,I b.AG,.bool b.Ar]) Et (ee st rfl) c.bk rfl rfl) ?_;replace d:=bind_some d;obtain⟨q,r,d⟩:=d;refine we rfl (fun st=>AS O8 (ee st rfl) (EK (ee st rfl) (ee st rfl)) (V0 n a b ZA _ q r)) ?_;rintro _ aC ⟨s,rfl⟩;have t:=p.ext s;refine wd rfl (fun st=>Ds (ee st rfl))<|wa rfl (v:=.bool !q) rfl<|Ae<|Ab<|AO ?_;obtain rfl:=Option.some.inj d;refine AW rfl rfl ?_;exact⟨t.Bz,rfl⟩
end Go.Proofs.YtkljfdkmjdjpfaaGreat
end
