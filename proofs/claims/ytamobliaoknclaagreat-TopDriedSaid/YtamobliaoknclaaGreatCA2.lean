import Derived.Test.YtamobliaoknclaaGreatCA1
import Derived.WalkKit
import Derived.KernelRfl
import Derived.WalkSpells
import Derived.WalkLawsBesides
import Derived.Maps.AppendAt
import Derived.OrdersIn
import Derived.RangeFuncIn
import Derived.RangeFuncLeaves
import Derived.RangeFuncRecord
import Derived.RangeFuncSeq
import Derived.Scope
import Derived.DeepKeys3
import Derived.Laws.CopyRow
import Derived.Laws.OwnMore
import Derived.Laws.MakeOwn
import Derived.Laws.IdiomCopy
import Derived.Sort.OwnSortedInts
import Derived.Lib.RowBridge
import Derived.Test.YtamobliaoknclaaGreatProg
/-
  The contracts of the functions of the program and of the reference, and the logic that they are proved in: the base that several claims of this seat share.
-/
set_option linter.all false
section
namespace Go.Proofs.YtamobliaoknclaaGreat
theorem bd{α β:Type}{x:Option α}{a:α}{f:α→Option β}(h:x=some a):x.bind f=f a:=by rw[h];rfl
theorem BU{β:Type}{x:Int}{f:Int→Option β}(h0:-9223372036854775808≤x)(a:x≤9223372036854775807):(i64 x).bind f=f x:=bd (WU h0 a)
theorem Cz{α β:Type}{xs:List α}{k:Nat}{f:α→Option β}(h:k<xs.length):(idx xs (k:Int)).bind f=f xs[k]:=bd (idx_eq h)
theorem HO{β:Type}{p:Prop}[Decidable p]{f:Unit→Option β}(h:p):(HG p).bind f=f ():=bd (if_pos h)
theorem LB{β:Type}{a b:Int}{f:Int→Option β}(h0:0≤a)(c:1≤b):(rem a b).bind f=f (a%b):=bd (if_pos ⟨h0,c⟩)
theorem P0{β:Type}{a b:Int}{f:Int→Option β}(h0:0≤a)(c:1≤b):(quo a b).bind f=f (a/b):=bd (if_pos ⟨h0,c⟩)
theorem UF{β:Type}{n:Int}{b:Nat}{f:Unit→Option β}(h0:0≤n)(a:n*b≤140737488355328)(c:n≤140737488355328):(OV n b).bind f=f ():=bd (if_pos ⟨h0,a,c⟩)
theorem ct{α:Type}{b:Bool}{x y:α}(h:b=true):cond b x y=x:=by rw[h];rfl
theorem cf{α:Type}{b:Bool}{x y:α}(h:b=false):cond b x y=y:=by rw[h];rfl
theorem nt{α:Type}{x y:α}:cond (!true) x y=y:=rfl
theorem nf{α:Type}{x y:α}:cond (!false) x y=x:=rfl
theorem dt{p:Prop}[Decidable p](h:p):decide p=true:=decide_eq_true h
theorem df{p:Prop}[Decidable p](h:¬p):decide p=false:=decide_eq_false h
theorem Ej(i:Nat):(i:Int)+1=((i+1:Nat):Int):=by omega
def Dl(n a b:Int):Bool:=decide (a≤n)&&decide (n≤b)
theorem CJ{n a b:Int}:Dl n a b=true↔a≤n∧n≤b:=by simp[Dl]
theorem Jp(K:Nat)(n a b:Int):Ft K n a b=some (Dl n a b):=by unfold Ft Dl;cases decide (a≤n)<;>rfl
def run {σ α:Type} (cb:σ→α→Option (Bool×σ)):List α→σ→Option (Bool×σ)
 |[],s=>some (true,s)
 |x::l,s=>(cb s x).bind fun r=>cond r.1 (run cb l r.2) (some (false,r.2))
theorem J2{σ α:Type}(cb:σ→α→Option (Bool×σ))(l2:List α):∀(l1:List α) (s:σ),run cb (l1++l2) s=(run cb l1 s).bind fun r=>cond r.1 (run cb l2 r.2) (some (false,r.2))
 |[],s=>rfl
 |x::l,s=>by
  simp only[List.cons_append,run];cases cb s x with
  |none=>rfl
  |some r=>
   simp only[Option.bind_some];cases h:r.1 with
   |false=>simp
   |true=>simpa using J2 cb l2 l r.2
theorem run_map{σ α β:Type}(cb:σ→β→Option (Bool×σ))(f:α→β):∀(l:List α) (s:σ),run cb (l.map f) s=run (fun s x=>cb s (f x)) l s
 |[],s=>rfl
 |x::l,s=>by simp only[List.map_cons,run,run_map cb f l]
theorem R8{σ:Type}(K:Nat)(cb:σ→Bool→Option (Bool×σ))(p:List Bool)(a:p.length≤5000):∀(n m i:Nat) (s:σ),p.length=i+n→n<m→
  (Dm (fun(st:σ) (x:Bool)=>(E9 K cb x st).bind fun r=>some (r.1,r.2)) p m (i:Int) s).bind (fun z=>Sum.elim (fun q=>some (decide ((0:Int)≤q.1),q.2)) (fun q=>some (false,q)) z)=(run cb (p.drop i) s).bind fun r=>some (!r.1,r.2):=by
 intro n
 induction n with
 |zero=>
  intro m i s h hm;cases m with
  |zero=>omega
  |succ m=>
   rw[Dm.eq_2,cf (df (by omega)),List.drop_eq_nil_of_le (by omega)];rfl
 |succ n ih=>
  intro m i s h hm;cases m with
  |zero=>omega
  |succ m=>
   have hi:i<p.length:=by omega
   rw[Dm.eq_2,ct (dt (by omega)),Cz hi,List.drop_eq_getElem_cons hi];simp only[run];have e:(E9 K cb p[i] s).bind (fun r=>some (r.1,r.2))=(cb s p[i]).bind fun r=>some (!r.1,r.2):=by
    unfold E9;cases cb s p[i]<;>rfl
   rw[e];cases b:cb s p[i] with
   |none=>rfl
   |some r=>
    simp only[Option.bind_some];cases c:r.1 with
    |false=>
     show some (decide ((0:Int)≤(i:Int)),r.2)=some (!false,r.2);rw[dt (by omega)];rfl
    |true=>
     rw[nt,BU (by omega) (by omega),Ej];exact ih m (i+1) r.2 (by omega) (by omega)
theorem R9{σ:Type}{K:Nat}(cb:σ→Bool→Option (Bool×σ))(p:List Bool)(s:σ)(b:p.length≤5000)(hK:p.length<K):HH K cb p s=run cb p s:=by
 unfold HH Fu Ga;have h:=R8 K cb p b p.length K 0 s (by omega) hK;rw[List.drop_zero,Int.natCast_zero] at h;have e:∀(z:(Int×σ)⊕σ),(Sum.elim (fun a=>some ((a.1,a.2))) (fun a=>some (((-1),a))) z:Option (Int×σ)).bind (fun r1=>some ((decide ((0:Int)≤r1.1),r1.2)))=Sum.elim (fun q=>some (decide ((0:Int)≤q.1),q.2)) (fun q=>some (false,q)) z:=by
  intro z;cases z<;>rfl
 refine Eq.trans (congrArg (fun z=>Option.bind z _) ((Option.bind_assoc _ _ _).trans ((congrArg (fun f=>Option.bind _ f) (funext e)).trans h))) ?_;cases run cb p s with
 |none=>rfl
 |some r=>show some (!(!r.1),r.2)=some r;rw[Bool.not_not]
theorem SK{σ:Type}(K:Nat)(cb:σ→BS→Option (Bool×σ))(p:List BS)(a:p.length≤5000):∀(n m i:Nat) (s:σ),p.length=i+n→n<m→
  (Dx (fun(st:σ) (x:BS)=>(Fx K cb x st).bind fun r=>some (r.1,r.2)) p m (i:Int) s).bind (fun z=>Sum.elim (fun q=>some (decide ((0:Int)≤q.1),q.2)) (fun q=>some (false,q)) z)=(run cb (p.drop i) s).bind fun r=>some (!r.1,r.2):=by
 intro n
 induction n with
 |zero=>
  intro m i s h hm;cases m with
  |zero=>omega
  |succ m=>
   rw[Dx.eq_2,cf (df (by omega)),List.drop_eq_nil_of_le (by omega)];rfl
 |succ n ih=>
  intro m i s h hm;cases m with
  |zero=>omega
  |succ m=>
   have hi:i<p.length:=by omega
   rw[Dx.eq_2,ct (dt (by omega)),Cz hi,List.drop_eq_getElem_cons hi];simp only[run];have e:(Fx K cb p[i] s).bind (fun r=>some (r.1,r.2))=(cb s p[i]).bind fun r=>some (!r.1,r.2):=by
    unfold Fx;cases cb s p[i]<;>rfl
   rw[e];cases b:cb s p[i] with
   |none=>rfl
   |some r=>
    simp only[Option.bind_some];cases c:r.1 with
    |false=>
     show some (decide ((0:Int)≤(i:Int)),r.2)=some (!false,r.2);rw[dt (by omega)];rfl
    |true=>
     rw[nt,BU (by omega) (by omega),Ej];exact ih m (i+1) r.2 (by omega) (by omega)
theorem SL{σ:Type}{K:Nat}(cb:σ→BS→Option (Bool×σ))(p:List BS)(s:σ)(b:p.length≤5000)(hK:p.length<K):HY K cb p s=run cb p s:=by
 unfold HY FE Gt;have h:=SK K cb p b p.length K 0 s (by omega) hK;rw[List.drop_zero,Int.natCast_zero] at h;have e:∀(z:(Int×σ)⊕σ),(Sum.elim (fun a=>some ((a.1,a.2))) (fun a=>some (((-1),a))) z:Option (Int×σ)).bind (fun r1=>some ((decide ((0:Int)≤r1.1),r1.2)))=Sum.elim (fun q=>some (decide ((0:Int)≤q.1),q.2)) (fun q=>some (false,q)) z:=by
  intro z;cases z<;>rfl
 refine Eq.trans (congrArg (fun z=>Option.bind z _) ((Option.bind_assoc _ _ _).trans ((congrArg (fun f=>Option.bind _ f) (funext e)).trans h))) ?_;cases run cb p s with
 |none=>rfl
 |some r=>show some (!(!r.1),r.2)=some r;rw[Bool.not_not]
def okW (W R:Int):List Bool→Int→Int→Bool
 |[],_,_=>true
 |false::l,s,_=>okW W R l s 0
 |true::l,s,r=>decide (s+1≤W)&&(decide (r+1≤R)&&okW W R l (s+1) (r+1))
theorem LC(K:Nat)(y:Bv):∀(l:List Bool) (r s:Int),0≤r→0≤s→r+l.length≤5000→s+l.length≤5000→
  (run (fun(st:Int×Int) (x:Bool)=>(Er K x st.1 st.2 y).bind fun r=>some (r.1,(r.2.1,r.2.2))) l (r,s)).bind (fun d=>some (d.1))=some (okW y.Am y.Cc l s r)
 |[],r,s,_,_,_,_=>rfl
 |false::l,r,s,e,c,a,b=>by
  simp only[run,okW];unfold Er;simp only[Bool.not_false,cond_true,Option.bind_some];exact LC K y l 0 s (by omega) c (by simp at a;omega) (by simp at b;omega)
 |true::l,r,s,e,c,a,b=>by
  simp only[List.length_cons] at a b;simp only[run,okW];unfold Er;simp only[Bool.not_true,cond_false];rw[BU (by omega) (by omega),BU (by omega) (by omega)];cases f:decide (s+1≤y.Am) with
  |false=>simp
  |true=>
   simp only[cond_true,Option.bind_some];cases g:decide (r+1≤y.Cc) with
   |false=>simp
   |true=>
    simp only[cond_true,Bool.true_and];exact LC K y l (r+1) (s+1) (by omega) (by omega) (by omega) (by omega)
theorem SM{K:Nat}(y:Bv)(l:List Bool)(a:l.length≤4000)(hK:l.length<K):Gd K y l=some (okW y.Am y.Cc l 0 0):=by
 unfold Gd;rw[R9 _ l _ (by omega) hK];exact LC K y l 0 0 (by omega) (by omega) (by omega) (by omega)
theorem MO(s x:Nat):FJ (s:Int) (x:Int)=((s/2^x:Nat):Int):=by
 unfold FJ;rw[Int.toNat_natCast,Int.natCast_ediv,Int.natCast_pow];rfl
theorem U7(s x:Nat):FJ (s:Int) (x:Int)%2=((s/2^x%2:Nat):Int):=by rw[MO];simp
theorem W7(b d:Nat):(FJ (b:Int) (d:Int)%2==1)=b.testBit d:=by
 rw[U7,Nat.testBit_eq_decide_div_mod_eq];cases h:decide (b/2^d%2=1) with
 |true=>rw[of_decide_eq_true h];rfl
 |false=>
  have:=of_decide_eq_false h;simp only[beq_eq_false_iff_ne,ne_eq];omega
theorem W8(b d:Nat)(h:d<64):Nn (b:Int) (d:Int)=some ():=if_pos ⟨by omega,by omega⟩
theorem Zi(b d:Nat):0≤FJ (b:Int) (d:Int):=by rw[MO];exact Int.natCast_nonneg _
def wl (n b:Nat):List Bool:=(List.range n).map b.testBit
theorem JJ(n b:Nat):(wl n b).length=n:=by simp[wl]
theorem YA(b n:Nat)(a:List Bool)(h0:a.length=n)(d:n≤63):∀(k m i:Nat) (s:List Bool),n=i+k→k<m→s.length=n→
  C7 (b:Int) a m (i:Int) s=some (s.take i++(List.range' i k).map b.testBit):=by
 intro k
 induction k with
 |zero=>
  intro m i s h hm c;cases m with
  |zero=>omega
  |succ m=>
   rw[C7.eq_2,cf (df (by omega)),List.take_of_length_le (by omega)];simp
 |succ k ih=>
  intro m i s h hm c;cases m with
  |zero=>omega
  |succ m=>
   have hi:i<s.length:=by omega
   rw[C7.eq_2,ct (dt (by omega)),bd (W8 b i (by omega)),LB (Zi b i) (by omega),Cz hi,BU (by omega) (by omega),Ej,W7,Int.toNat_natCast];rw[ih m (i+1) (s.set i (b.testBit i)) (by omega) (by omega) (by rw[List.length_set];exact c)]
   congr 1
   rw[List.range'_succ,List.map_cons,List.take_add_one,List.getElem?_set_self hi,List.take_set_of_le (Nat.le_refl _)];simp
theorem YB(b n:Nat)(s:List Bool)(c:n≤63){K:Nat}(hK:n<K)(a:s.length=n):C7 (b:Int) s K 0 s=some (wl n b):=by
 have:=YA b n s a c n K 0 s (by omega) hK a;rw[Int.natCast_zero] at this;rw[this,wl,List.range_eq_range'];rfl
def Oh (y:Bv) (l:List Bool):Bool:=okW y.Am y.Cc l 0 0
def days(y:Bv):Nat:=(y.Ao+1).toNat
def EC(y:Bv):List (List Bool):=((List.range (2^days y)).map (wl (days y))).filter (Oh y)
theorem Nq:∀n:Nat,n≤10→2^n≤1024:=by decide
theorem Sa{σ:Type}{K:Nat}(cb:σ→List Bool→Option (Bool×σ))(y:Bv)(f:days y≤10)(hK:2000≤K):∀(k m i:Nat) (a:List Bool) (st:σ),2^days y=i+k→k<m→a.length=days y→
  C8 cb K y m (i:Int) a st=(run cb (((List.range' i k).map (wl (days y))).filter (Oh y)) st).bind fun r=>some (cond r.1 (.inr r.2) (.inl r.2)):=by
 intro k;have g:=Nq _ f;have b:G1 (1:Int) ((List.replicate (y.Ao+1).toNat false).length:Int)=((2^days y:Nat):Int):=by
  unfold G1;rw[Int.one_mul,Int.toNat_natCast,List.length_replicate,Int.natCast_pow];rfl
 induction k with
 |zero=>
  intro m i a st h hm c;cases m with
  |zero=>omega
  |succ m=>
   rw[C8.eq_2,b,cf (df (by omega))];rfl
 |succ k ih=>
  intro m i a st h hm c;cases m with
  |zero=>omega
  |succ m=>
   rw[C8.eq_2,b,ct (dt (by omega)),bd (YB i (days y) a (by omega) (by omega) c),bd (SM y (wl (days y) i) (by rw[JJ];omega) (by rw[JJ];omega))];rw[List.range'_succ,List.map_cons];show cond (Oh y (wl (days y) i)) _ _=_;cases d:Oh y (wl (days y) i) with
   |false=>
    rw[List.filter_cons_of_neg (by rw[d];decide),cf rfl,BU (by omega) (by omega),Ej];exact ih m (i+1) _ st (by omega) (by omega) (JJ _ _)
   |true=>
    rw[List.filter_cons_of_pos d,ct rfl];show _=(Option.bind _ _:Option (Bool×σ)).bind _;cases j:cb st (wl (days y) i) with
    |none=>rfl
    |some r=>
     cases e:r.1 with
     |false=>
      show(cond (!r.1) (some (Sum.inl r.2)) _:Option (σ⊕σ))=(cond r.1 _ (some (false,r.2)):Option (Bool×σ)).bind _;rw[e];rfl
     |true=>
      show cond (!r.1) _ ((i64 ((i:Int)+1)).bind _)=(cond r.1 (run cb _ r.2) _:Option (Bool×σ)).bind _;rw[e,nt,BU (by omega) (by omega),Ej];exact ih m (i+1) _ r.2 (by omega) (by omega) (JJ _ _)
theorem NY{σ:Type}{K:Nat}(cb:σ→List Bool→Option (Bool×σ))(y:Bv)(h0:0≤y.Ao)(h9:y.Ao≤9)(hK:2000≤K)(st:σ):
  D5 K cb y st=(run cb (EC y) st).bind fun r=>some r.2:=by
 have a:days y≤10:=by unfold days;omega
 have c:=Nq _ a;unfold D5;rw[BU (by omega) (by omega),UF (by omega) (by omega) (by omega)];have b:Lq (1:Int) ((List.replicate (y.Ao+1).toNat false).length:Int)=some ():=by
  rw[List.length_replicate];refine if_pos ⟨by omega,by omega,?_,?_⟩
  ·have:(0:Int)≤1*2^((days y:Nat):Int).toNat:=by rw[Int.one_mul];exact Int.le_of_lt (Int.pow_pos (by omega))
   exact Int.le_trans (by omega) this
  ·rw[Int.one_mul,Int.toNat_natCast];have:((2^days y:Nat):Int)≤1024:=by omega
   rw[Int.natCast_pow] at this;exact Int.le_trans this (by omega)
 rw[bd b];have:=Sa (K:=K) cb y a hK (2^days y) K 0 (List.replicate (y.Ao+1).toNat false) st (by omega) (by omega) (by rw[List.length_replicate];rfl);rw[Int.natCast_zero] at this;rw[this,EC,List.range_eq_range',Option.bind_assoc]
 congr 1;funext r
 cases r.1<;>rfl
def Ie(y:Bv)(l:BS):Bool:=decide (0≤l.Bi)&&(decide (l.Bi≤l.BX)&&(decide (l.BX≤y.Ao)&&(Dl l.BP 1 5&&(Dl l.EA 1 5&&Dl l.Gs 0 y.Ao))))
def EH(l:BS):Int:=l.BX-l.Bi+1
def IU:List BS→Int
 |[]=>1
 |l::r=>EH l*IU r
def LD (y:Bv):Int:=((EC y).length:Int)*IU y.Ax
def check(y:Bv):Int:=
 if 9<y.Ao∨2<y.Bj∨4<(y.Ax.length:Int) then 3
 else if y.Ao<0∨y.Bj<1∨Dl y.Am 0 (y.Ao+1)=false∨Dl y.Cc 0 (y.Ao+1)=false∨y.Ax.all (Ie y)=false then 1
 else if 1000<LD y then 3 else 0
theorem KH{y:Bv}{l:BS}:Ie y l=true↔0≤l.Bi∧l.Bi≤l.BX∧l.BX≤y.Ao∧(1≤l.BP∧l.BP≤5)∧(1≤l.EA∧l.EA≤5)∧0≤l.Gs∧l.Gs≤y.Ao:=by
 unfold Ie;simp only[Bool.and_eq_true,decide_eq_true_eq,CJ]
theorem YC(K:Nat)(y:Bv)(l:BS):FM K y l=some (Ie y l):=by
 unfold FM Ie Is Ik;rw[Jp,Jp,Jp];cases decide ((0:Int)≤l.Bi)<;>cases decide (l.Bi≤l.BX)<;>cases decide (l.BX≤y.Ao)<;>cases Dl l.BP 1 5<;>cases Dl l.EA 1 5<;>rfl
theorem SN{K:Nat}(hK:2<K)(a b:Int):Ha K [a,b]=some (min a b):=by
 obtain⟨k,rfl⟩:∃k,K=k+3:=⟨K-3,by omega⟩;unfold Ha Hh;rw[cf (df (by simp)),show(0:Int)=((0:Nat):Int) from rfl,Cz (by simp),show(1:Int)=((1:Nat):Int) from rfl,Ff.eq_2,ct (dt (by simp)),Cz (by simp),BU (by omega) (by omega),Ff.eq_2,cf (df (by simp))];rfl
theorem SO(K:Nat)(l:BS)(h0:0≤l.Bi)(a:l.Bi≤l.BX)(b:l.BX≤9):F1 K (⟨l.Bi,l.BX⟩:AR)=some (EH l):=by
 unfold F1;show(i64 (l.BX-l.Bi)).bind _=_;rw[BU (by omega) (by omega)];show(i64 (l.BX-l.Bi+1)).bind _=_;rw[BU (by omega) (by omega)];rfl
def P1(c:Int):Int→List BS→Int
 |n,[]=>n
 |n,l::r=>P1 c (min (n*EH l) c) r
def sized(l:BS):Prop:=1≤EH l∧EH l≤10
theorem P2{y:Bv}{l:BS}(h9:y.Ao≤9)(h:Ie y l=true):sized l:=by
 obtain⟨a,b,c,_⟩:=KH.1 h;unfold sized EH;omega
theorem OZ:∀{ls:List BS},(∀l∈ls,sized l)→1≤IU ls
 |[],_=>Int.le_refl _
 |l::r,h=>by
  have a:=(h l (List.mem_cons_self ..)).1;have b:=OZ (ls:=r) fun x c=>h x (List.mem_cons_of_mem _ c);have:=Int.mul_le_mul a b (by omega) (by omega);unfold IU;omega
theorem Q5{c:Int}(e:1000<c):∀{ls:List BS} (n:Int),0≤n→(∀l∈ls,sized l)→(1000<P1 c n ls↔1000<n*IU ls)
 |[],n,_,_=>by simp[P1,IU]
 |l::r,n,f,h=>by
  have g:=h l (List.mem_cons_self ..);have b:∀x∈r,sized x:=fun x i=>h x (List.mem_cons_of_mem _ i);have d:=OZ b;have h0:0≤n*EH l:=Int.mul_nonneg f (by have:=g.1;omega);unfold P1 IU;rw[Q5 e _ (by omega) b,←Int.mul_assoc];rcases Int.le_total (n*EH l) c with a|a
  ·rw[Int.min_eq_left a]
  ·rw[Int.min_eq_right a];have j:c*1≤c*IU r:=Int.mul_le_mul_of_nonneg_left d (by omega);have k:(n*EH l)*1≤n*EH l*IU r:=Int.mul_le_mul_of_nonneg_left d h0;constructor<;>intro _<;>omega
theorem U8(y:Bv)(j:y.Ax.length≤4)(b:∀l∈y.Ax,sized l∧0≤l.Bi∧l.BX≤9){K:Nat}(hK:2000≤K):∀(k m i:Nat) (n:Int),y.Ax.length=i+k→k<m→0≤n→n≤3000→
  EG K y m (i:Int) n=some (P1 1001 n (y.Ax.drop i)):=by
 intro k
 induction k with
 |zero=>
  intro m i n h hm h0 a;cases m with
  |zero=>omega
  |succ m=>rw[EG.eq_2,cf (df (by omega)),List.drop_eq_nil_of_le (by omega)];rfl
 |succ k ih=>
  intro m i n h hm h0 a;cases m with
  |zero=>omega
  |succ m=>
   have hi:i<y.Ax.length:=by omega
   obtain⟨⟨s1,s2⟩,c,d⟩:=b y.Ax[i] (List.getElem_mem hi);have e:1≤EH y.Ax[i]∧EH y.Ax[i]≤10:=⟨s1,s2⟩;have f:0≤n*EH y.Ax[i]:=Int.mul_nonneg h0 (by omega);have g:n*EH y.Ax[i]≤3000*10:=Int.mul_le_mul a s2 (by omega) (by omega);rw[EG.eq_2,ct (dt (by omega)),Cz hi,bd (SO K _ c (by unfold EH at s1;omega) d),BU (by omega) (by omega),bd (SN (by omega) _ _),BU (by omega) (by omega),Ej];rw[ih m (i+1) _ (by omega) (by omega) (by omega) (by omega),List.drop_eq_getElem_cons hi];rfl
theorem O0{α:Type}:∀(l:List α) (n:Int),0≤n→n+l.length≤100000→run (fun(st:Int) (_:α)=>(i64 (st+1)).bind fun _=>some (true,st+1)) l n=some (true,n+l.length)
 |[],n,_,_=>by simp[run]
 |x::l,n,h0,a=>by
  simp only[List.length_cons] at a⊢;rw[run,BU (by omega) (by omega)];show run _ l (n+1)=_;rw[O0 l (n+1) (by omega) (by omega)]
  congr 2;omega
theorem P3(y:Bv)(h:days y≤10):(EC y).length≤1024:=by
 have a:=Nq _ h;have:(EC y).length≤((List.range (2^days y)).map (wl (days y))).length:=List.length_filter_le ..;simp at this;omega
theorem O1{K:Nat}(y:Bv):∀(l:List BS),run (fun(st:Unit) (x:BS)=>(FM K y x).bind fun r=>some (r,())) l ()=some (l.all (Ie y),())
 |[]=>rfl
 |x::l=>by
  rw[run,YC];show cond (Ie y x) (run _ l ()) (some (false,()))=_;rw[O1 y l,List.all_cons];cases Ie y x<;>rfl
theorem U9{K:Nat}(hK:2000≤K)(y:Bv):Hj K y=some (check y):=by
 unfold Hj check
 by_cases g:9<y.Ao
 ·rw[ct (dt g),if_pos (.inl g)]
 rw[cf (df g)]
 by_cases i:2<y.Bj
 ·rw[ct (dt i),if_pos (.inr (.inl i))]
 rw[cf (df i)]
 by_cases j:4<(y.Ax.length:Int)
 ·rw[ct (dt j),if_pos (.inr (.inr j))]
 rw[cf (df j),if_neg (by omega)]
 by_cases b:y.Ao<0
 ·rw[ct (dt b),if_pos (.inl b)]
 rw[cf (df b)]
 by_cases d:y.Bj<1
 ·rw[ct (dt d),if_pos (.inr (.inl d))]
 rw[cf (df d),BU (by omega) (by omega),bd (Jp ..)];cases r:Dl y.Am 0 (y.Ao+1) with
 |false=>rw[nf,if_pos (.inr (.inr (.inl rfl)))]
 |true=>
  rw[nt,BU (by omega) (by omega),bd (Jp ..)];cases s:Dl y.Cc 0 (y.Ao+1) with
  |false=>rw[nf,if_pos (.inr (.inr (.inr (.inl rfl))))]
  |true=>
   rw[nt,SL _ _ _ (by omega) (by omega),bd (O1 y y.Ax)];cases o:y.Ax.all (Ie y) with
   |false=>rw[nf,if_pos (.inr (.inr (.inr (.inr rfl))))]
   |true=>
    rw[nt,if_neg (by simp[b,d])];have p:days y≤10:=by unfold days;omega
    have hw:=P3 y p;have m:∀l∈y.Ax,sized l∧0≤l.Bi∧l.BX≤9:=fun l k=>by
     have n:=List.all_eq_true.1 o l k;have:=KH.1 n;exact⟨P2 (by omega) n,this.1,by omega⟩
    have q:D5 K (fun(st:Int) (x:List Bool)=>FO st x) y (0:Int)=some ((EC y).length:Int):=by
     rw[NY _ y (by omega) (by omega) hK];show(run (fun(st:Int) (_:List Bool)=>(i64 (st+1)).bind fun _=>some (true,st+1)) (EC y) 0).bind _=_;rw[O0 _ 0 (by omega) (by omega)];simp
    have a:=U8 y (by omega) m hK y.Ax.length K 0 ((EC y).length:Int) (by omega) (by omega) (by omega) (by omega);rw[Int.natCast_zero,List.drop_zero] at a;rw[bd q,bd a];have f:=Q5 (c:=1001) (by omega) ((EC y).length:Int) (by omega) fun l k=>(m l k).1;unfold LD
    by_cases e:1000<((EC y).length:Int)*IU y.Ax
    ·rw[ct (dt (f.2 e)),if_pos e]
    ·rw[cf (df fun h=>e (f.1 h)),if_neg e]
def Fp:List BS→List (List Int)
 |[]=>[[]]
 |l::r=>(List.range (EH l).toNat).flatMap fun(n:Nat)=>(Fp r).map fun c=>(l.Bi+(n:Int))::c
def Ed(y:Bv):List Cy:=(EC y).flatMap fun w=>(Fp y.Ax).map fun c=>⟨c,w⟩
section
variable{σ:Type}{K:Nat}(cb:σ→Cy→Option (Bool×σ))(y:Bv)(w:List Bool)
def Tr (k i:Nat):Prop:=∀(c:List Int) (st:σ),c.length=y.Ax.length→
 (Ca K cb k (i:Int) c w y st).map (fun z=>(z.1,z.2.2))=run (fun s d=>cb s ⟨c.take i++d,w⟩) (Fp (y.Ax.drop i)) st∧
 ∀z,Ca K cb k (i:Int) c w y st=some z→z.2.1.length=y.Ax.length∧z.2.1.take i=c.take i
def Zj{α β:Type}:(Bool×α×β)⊕(α×β)→Bool×β
 |.inl x=>(false,x.2.2)
 |.inr x=>(true,x.2)
def W9{α β:Type}:(Bool×α×β)⊕(α×β)→α
 |.inl x=>x.2.1
 |.inr x=>x.1
theorem T4(k i:Nat)(hi:i<y.Ax.length)(aL:y.Ax.length≤4)(aD:∀l∈y.Ax,sized l∧0≤l.Bi∧l.BX≤9)(ih:Tr (K:=K) cb y w k (i+1)):
  ∀(n m j:Nat) (c:List Int) (st:σ),(EH y.Ax[i]).toNat=j+n→n<m→c.length=y.Ax.length→
  (Cr (Ca K cb k) (i:Int) w y (EH y.Ax[i]) m (j:Int) c st).map Zj=run (fun s d=>cb s ⟨c.take i++d,w⟩) ((List.range' j n).flatMap fun(q:Nat)=>(Fp (y.Ax.drop (i+1))).map fun d=>(y.Ax[i].Bi+(q:Int))::d) st∧
  ∀z,Cr (Ca K cb k) (i:Int) w y (EH y.Ax[i]) m (j:Int) c st=some z→(W9 z).length=y.Ax.length∧(W9 z).take i=c.take i∧(∀x,z=.inl x→x.1=false):=by
 obtain⟨⟨s1,s2⟩,aM,aN⟩:=aD y.Ax[i] (List.getElem_mem hi);have aJ:1≤EH y.Ax[i]∧EH y.Ax[i]≤10:=⟨s1,s2⟩;intro n
 induction n with
 |zero=>
  intro m j c st h hm o;cases m with
  |zero=>omega
  |succ m=>
   rw[Cr.eq_2,cf (df (by omega))];exact⟨rfl,fun z b=>by cases b;exact⟨o,rfl,fun x p=>by cases p⟩⟩
 |succ n u=>
  intro m j c st h hm o;cases m with
  |zero=>omega
  |succ m=>
   have f:i<c.length:=by omega
   have aK:y.Ax[i].Bi≤9:=by unfold EH at s1;omega
   rw[Cr.eq_2,ct (dt (by omega)),Cz hi,BU (by omega) (by omega),Cz f,BU (by omega) (by omega),Ej i,Int.toNat_natCast];have v:(c.set i (y.Ax[i].Bi+(j:Int))).length=y.Ax.length:=by rw[List.length_set];exact o
   have g:(c.set i (y.Ax[i].Bi+(j:Int))).take (i+1)=c.take i++[y.Ax[i].Bi+(j:Int)]:=by
    rw[List.take_add_one,List.getElem?_set_self f,List.take_set_of_le (Nat.le_refl _)];rfl
   obtain⟨t,aE⟩:=ih _ st v;rw[g] at t;rw[List.range'_succ,List.flatMap_cons,J2,run_map];have aF:run (fun s d=>cb s ⟨c.take i++[y.Ax[i].Bi+(j:Int)]++d,w⟩) (Fp (y.Ax.drop (i+1))) st=run (fun s d=>cb s ⟨c.take i++(y.Ax[i].Bi+(j:Int))::d,w⟩) (Fp (y.Ax.drop (i+1))) st:=by
    congr 1;funext s d;rw[List.append_assoc];rfl
   rw[aF] at t;rw[←t];cases aG:Ca K cb k ((i+1:Nat):Int) (c.set i (y.Ax[i].Bi+(j:Int))) w y st with
   |none=>exact⟨rfl,fun z b=>by cases b⟩
   |some r=>
    obtain⟨aA,aH⟩:=aE r aG;have aB:r.2.1.take i=c.take i:=by
     have:=congrArg (List.take i) aH;rw[List.take_take,Nat.min_eq_left (by omega),g,List.take_append_of_le_length (by rw[List.length_take];omega),List.take_take,Nat.min_self] at this;exact this
    obtain⟨aI,rc,e⟩:=r;cases aI with
    |false=>
     refine⟨rfl,fun z b=>?_⟩;have aC:some (Sum.inl (false,rc,e))=some z:=b;cases aC;exact⟨aA,aB,fun x p=>by cases p;rfl⟩
    |true=>
     have key:(Option.bind (some (true,rc,e)) fun a=>cond (!a.1) (some (Sum.inl (false,a.2.1,a.2.2))) ((i64 ((j:Int)+1)).bind fun _=>Cr (Ca K cb k) (i:Int) w y (EH y.Ax[i]) m ((j:Int)+1) a.2.1 a.2.2))=Cr (Ca K cb k) (i:Int) w y (EH y.Ax[i]) m ((j+1:Nat):Int) rc e:=by
      rw[Option.bind_some,nt,BU (by omega) (by omega),Ej j]
     have:=u m (j+1) rc e (by omega) (by omega) aA;rw[aB] at this;rw[key];exact this
theorem Sb(t:y.Ax.length≤4)(g:∀l∈y.Ax,sized l∧0≤l.Bi∧l.BX≤9)(hK:2000≤K):∀(n k i:Nat),y.Ax.length=i+n→n<k→Tr (K:=K) cb y w k i:=by
 intro n
 induction n with
 |zero=>
  intro k i h u c st f;cases k with
  |zero=>omega
  |succ k=>
   rw[Ca.eq_2,ct (by rw[f,h];simp),List.drop_eq_nil_of_le (by omega)];have j:c.take i=c:=List.take_of_length_le (by omega);rw[j];simp only[Fp,run,List.append_nil];cases cb st ⟨c,w⟩ with
   |none=>exact⟨rfl,fun z a=>by cases a⟩
   |some r=>
    obtain⟨b,s⟩:=r;refine⟨by cases b<;>rfl,fun z a=>?_⟩;have e:some (b,c,s)=some z:=a;cases e;exact⟨f,j⟩
 |succ n ih=>
  intro k i h u c st f;cases k with
  |zero=>omega
  |succ k=>
   have hi:i<y.Ax.length:=by omega
   obtain⟨⟨s1,s2⟩,v,aA⟩:=g y.Ax[i] (List.getElem_mem hi);rw[Ca.eq_2,cf (by rw[f];simp;omega),Cz hi,bd (SO K _ v (by unfold EH at s1;omega) aA)];obtain⟨m,o⟩:=T4 cb y w k i hi t g (ih k (i+1) (by omega) (by omega)) (EH y.Ax[i]).toNat K 0 c st (by omega) (by omega) f;rw[Int.natCast_zero] at m o;rw[List.drop_eq_getElem_cons hi,Fp,List.range_eq_range',←m];cases aB:Cr (Ca K cb k) (i:Int) w y (EH y.Ax[i]) K 0 c st with
   |none=>exact⟨rfl,fun z a=>by cases a⟩
   |some r=>
    obtain⟨p,q,aC⟩:=o r aB;cases r with
    |inl x=>
     obtain⟨b,d,s⟩:=x;obtain rfl:=aC _ rfl;refine⟨rfl,fun z a=>?_⟩;have e:some (false,d,s)=some z:=a;cases e;exact⟨p,q⟩
    |inr x=>
     obtain⟨d,s⟩:=x;refine⟨rfl,fun z a=>?_⟩;have e:some (true,d,s)=some z:=a;cases e;exact⟨p,q⟩
end
theorem O2{σ:Type}{K:Nat}(cb:σ→Cy→Option (Bool×σ))(y:Bv)(e:y.Ax.length≤4)(f:∀l∈y.Ax,sized l∧0≤l.Bi∧l.BX≤9)(hK:2000≤K):∀(ws:List (List Bool)) (c:List Int) (st:σ),c.length=y.Ax.length→
  (run (fun(st:(List Int)×σ×Bool) (x:(List Bool))=>cond st.2.2 none (DS cb K y st.1 st.2.1 x)) ws (c,st,false)).bind (fun a=>cond (a.2.2.2) (some (a.2.2.1)) (some (a.2.2.1)))=
  (run cb (ws.flatMap fun w=>(Fp y.Ax).map fun c=>(⟨c,w⟩:Cy)) st).bind fun r=>some r.2
 |[],c,st,_=>rfl
 |w::ws,c,st,i=>by
  obtain⟨g,h⟩:=Sb cb y w e f hK y.Ax.length K 0 (by omega) (by omega) c st i;rw[Int.natCast_zero,List.drop_zero,List.take_zero] at g;rw[Int.natCast_zero] at h;rw[List.flatMap_cons,J2,run_map];have j:run (fun s d=>cb s ⟨[]++d,w⟩) (Fp y.Ax) st=run (fun s d=>cb s (⟨d,w⟩:Cy)) (Fp y.Ax) st:=rfl;rw[←j,←g,run];show(Option.bind (DS cb K y c st w) _:Option _).bind _=_;unfold DS;cases k:Ca K cb K 0 c w y st with
  |none=>rfl
  |some r=>
   obtain⟨m,n⟩:=h r k;obtain⟨b,d,s⟩:=r;cases b with
   |false=>rfl
   |true=>
    show(run _ ws (d,s,false)).bind _=(run cb _ s).bind _;exact O2 cb y e f hK ws d s m
theorem T5{σ:Type}{K:Nat}(cb:σ→Cy→Option (Bool×σ))(y:Bv)(h0:0≤y.Ao)(h9:y.Ao≤9)(a:y.Ax.length≤4)(b:∀l∈y.Ax,sized l∧0≤l.Bi∧l.BX≤9)(hK:2000≤K)(st:σ):
  FP K cb y st=(run cb (Ed y) st).bind fun r=>some r.2:=by
 unfold FP;rw[UF (by omega) (by omega) (by omega),NY _ y h0 h9 hK,Option.bind_assoc];exact O2 cb y a b hK (EC y) (List.replicate (y.Ax.length:Int).toNat (0:Int)) st (by rw[List.length_replicate];omega)
def P4:BS:=⟨0,0,0,0,0⟩
def It(y:Bv)(i:Int):BS:=y.Ax.getD i.toNat P4
def FQ(c:List Int)(i:Int):Int:=c.getD i.toNat 0
def G2 (l:BS) (d0:Int):List Bool→Int→Int→Int→AP
 |[],_,_,_=>⟨d0,-1,false⟩
 |true::ws,d,a,run=>cond (a==l.BP) ⟨d0,d,a==l.BP⟩ (cond (run+1==l.EA) ⟨d0,d,a==l.BP⟩ (G2 l d0 ws (d+1) a (run+1)))
 |false::ws,d,a,run=>cond (a+1==l.BP) ⟨d0,d,a+1==l.BP⟩ (cond ((0:Int)==l.EA) ⟨d0,d,a+1==l.BP⟩ (G2 l d0 ws (d+1) (a+1) 0))
def G3(y:Bv)(w:List Bool)(l:BS)(d:Int):AP:=if y.Ao<d then ⟨-1,-1,false⟩ else G2 l d (w.drop d.toNat) d 0 0
def wk(y:Bv)(w:List Bool)(m:List (List Int×AP)):De:=⟨y.Ao,y.Bj,y.Am,y.Cc,y.Ax,w,m⟩
theorem YD(y:Bv)(w:List Bool)(mm:List (List Int×AP))(p:Kp)(l:BS)(h9:y.Ao≤9)(hw:(w.length:Int)=y.Ao+1)(b0 g:Int)(i:Bool):∀(k m d:Nat) (a r:Int),y.Ao+1=d+k→k<m→0≤a→a≤d→0≤r→r≤d→
  (EB (wk y w mm) p l m a r (d:Int) b0 g i).bind (fun z=>Sum.elim (fun b=>some ((⟨b.1,b.2.1,b.2.2⟩:AP))) (fun b=>some ((⟨p.day,(-1),false⟩:AP))) z)=some (G2 l p.day (w.drop d) (d:Int) a r):=by
 intro k
 induction k with
 |zero=>
  intro m d a r h hm h0 j n o;cases m with
  |zero=>omega
  |succ m=>
   rw[EB.eq_2,cf (df (by show¬(d:Int)≤y.Ao;omega)),List.drop_eq_nil_of_le (by omega)];rfl
 |succ k ih=>
  intro m d a r h hm h0 j n o;cases m with
  |zero=>omega
  |succ m=>
   have c:d<w.length:=by omega
   have f:d<(wk y w mm).DC.length:=c;rw[EB.eq_2,ct (dt (by show(d:Int)≤y.Ao;omega)),Cz f,List.drop_eq_getElem_cons c];have e:(wk y w mm).DC[d]=w[d]:=rfl;rw[e];cases t:w[d] with
   |true=>
    rw[ct rfl,BU (by omega) (by omega),G2];cases q:(a==l.BP) with
    |true=>rw[ct rfl,ct rfl];rfl
    |false=>
     rw[cf rfl,cf rfl];cases s:(r+1==l.EA) with
     |true=>rw[ct rfl,ct rfl];rfl
     |false=>
      rw[cf rfl,cf rfl,BU (by omega) (by omega),Ej];exact ih m (d+1) a (r+1) (by omega) (by omega) h0 (by omega) (by omega) (by omega)
   |false=>
    rw[cf rfl,BU (by omega) (by omega),G2];cases q:(a+1==l.BP) with
    |true=>rw[ct rfl,ct rfl];rfl
    |false=>
     rw[cf rfl,cf rfl];cases s:((0:Int)==l.EA) with
     |true=>rw[ct rfl,ct rfl];rfl
     |false=>
      rw[cf rfl,cf rfl,BU (by omega) (by omega),Ej];exact ih m (d+1) (a+1) 0 (by omega) (by omega) (by omega) (by omega) (by omega) (by omega)
theorem YE{K:Nat}(y:Bv)(w:List Bool)(mm:List (List Int×AP))(i d:Int)(h9:y.Ao≤9)(hw:(w.length:Int)=y.Ao+1)(a:0≤i)(hi:i<(y.Ax.length:Int))(c:0≤d)(hK:2000≤K):
  GI K (wk y w mm) ⟨i,d⟩=some (G3 y w (It y i) d):=by
 unfold GI G3;show cond (decide (y.Ao<d)) _ ((idx y.Ax i).bind _)=_
 by_cases h:y.Ao<d
 ·rw[ct (dt h),if_pos h]
 rw[cf (df h),if_neg h];obtain⟨i,rfl⟩:=Int.eq_ofNat_of_zero_le a;obtain⟨d,rfl⟩:=Int.eq_ofNat_of_zero_le c;have b:i<y.Ax.length:=by omega
 rw[Cz b];have e:y.Ax[i]=It y (i:Int):=by
  show y.Ax[i]=y.Ax.getD ((i:Int)).toNat P4;rw[Int.toNat_natCast,List.getD_eq_getElem?_getD,List.getElem?_eq_getElem (by omega)];rfl
 rw[e,Int.toNat_natCast];exact YD y w mm ⟨(i:Int),(d:Int)⟩ _ h9 hw 0 0 false (y.Ao+1-d).toNat K d 0 0 (by omega) (by omega) (by omega) (by omega) (by omega) (by omega)
def HZ (y:Bv) (w:List Bool) (m:List (List Int×AP)):Prop:=∀(i d:Int) (s:AP),BI m [i,d]=some s→s=G3 y w (It y i) d
theorem T6(y:Bv)(w:List Bool):HZ y w []:=fun i d s h=>by cases h
theorem Xa{K:Nat}(y:Bv)(w:List Bool)(mm:List (List Int×AP))(i d:Int)(h9:y.Ao≤9)(hw:(w.length:Int)=y.Ao+1)(e:0≤i)(hi:i<(y.Ax.length:Int))(j:0≤d)(hK:2000≤K)(hm:HZ y w mm):
  ∃c,Gl K (wk y w mm) ⟨i,d⟩=some (G3 y w (It y i) d,c)∧HZ y w c:=by
 unfold Gl;show∃c,cond (!(BI mm [i,d]).isSome) ((GI K (wk y w mm) ⟨i,d⟩).bind _) _=_∧_;cases f:BI mm [i,d] with
 |none=>
  rw[bd (YE y w mm i d h9 hw e hi j hK)];refine⟨_,rfl,fun i2 d2 s h=>?_⟩;have a:BI (GH mm [i,d] (G3 y w (It y i) d)) [i2,d2]=some s:=h;rw[Na] at a;split at a
  ·rename_i he
   have b:=List.cons.inj he;have g:=List.cons.inj b.2;rw[b.1,g.1];exact(Option.some.inj a).symm
  ·exact hm i2 d2 s a
 |some s=>
  refine⟨mm,?_,hm⟩;show some ((BI mm [i,d]).getD ⟨0,0,false⟩,mm)=_;rw[f,hm i d s f];rfl
def MP (y:Bv) (w:List Bool) (c:List Int):List Int→Int→List AP→List AP
 |[],_,out=>out
 |i::r,free,out=>
  let s:=G3 y w (It y i) (max free (FQ c i))
  MP y w c r (cond (s.CI==-1) (y.Ao+1) (s.CI+1)) (out.set i.toNat s)
def LF(y:Bv)(w:List Bool)(c:List Int):List (List Int)→List AP→List AP
 |[],out=>out
 |l::r,out=>LF y w c r (MP y w c l 0 out)
def LG:AP:=⟨0,0,false⟩
def IH(y:Bv)(w:List Bool)(order:List (List Int))(c:List Int):List AP:=LF y w c order (List.replicate y.Ax.length LG)
theorem Kq(y:Bv)(w:List Bool)(c:List Int):∀(l:List Int) (free:Int) (out:List AP),(MP y w c l free out).length=out.length
 |[],_,_=>rfl
 |i::r,free,out=>by rw[MP,Kq y w c r];simp
theorem Mk(y:Bv)(w:List Bool)(c:List Int):∀(l:List (List Int)) (out:List AP),(LF y w c l out).length=out.length
 |[],_=>rfl
 |i::r,out=>by rw[LF,Mk y w c r,Kq]
theorem Nr(l:BS)(d0:Int):∀(ws:List Bool) (d a r:Int),0≤d→(G2 l d0 ws d a r).CI=-1∨(d≤(G2 l d0 ws d a r).CI∧(G2 l d0 ws d a r).CI<d+ws.length)
 |[],d,a,r,_=>.inl rfl
 |true::ws,d,a,r,h=>by
  rw[G2];cases (a==l.BP) with
  |true=>right;simp;omega
  |false=>
   cases (r+1==l.EA) with
   |true=>right;simp;omega
   |false=>
    rcases Nr l d0 ws (d+1) a (r+1) (by omega) with b|b
    ·exact .inl b
    ·right;simp only[List.length_cons,cond_false];omega
 |false::ws,d,a,r,h=>by
  rw[G2];cases (a+1==l.BP) with
  |true=>right;simp;omega
  |false=>
   cases ((0:Int)==l.EA) with
   |true=>right;simp;omega
   |false=>
    rcases Nr l d0 ws (d+1) (a+1) 0 (by omega) with b|b
    ·exact .inl b
    ·right;simp only[List.length_cons,cond_false];omega
theorem SP(y:Bv)(w:List Bool)(l:BS)(d:Int)(b:0≤d)(hw:(w.length:Int)=y.Ao+1):(G3 y w l d).CI=-1∨(d≤(G3 y w l d).CI∧(G3 y w l d).CI≤y.Ao):=by
 unfold G3
 by_cases h:y.Ao<d
 ·rw[if_pos h];exact .inl rfl
 ·rw[if_neg h];rcases Nr l d (w.drop d.toNat) d 0 0 b with a|a
  ·exact .inl a
  ·right;rw[List.length_drop] at a;omega
theorem Va{K:Nat}(y:Bv)(w:List Bool)(a:List (List Int×AP))(c l:List Int)(h0:0≤y.Ao)(h9:y.Ao≤9)(hw:(w.length:Int)=y.Ao+1)(hK:2000≤K)(x:∀i∈l,0≤i∧i<(y.Ax.length:Int))(aE:c.length=y.Ax.length)(aC:l.length≤1000):
  ∀(k m j:Nat) (free:Int) (out:List AP) (mm:List (List Int×AP)),l.length=j+k→k<m→0≤free→out.length=y.Ax.length→HZ y w mm→
  ∃b,Eh K (wk y w a) c l m free (j:Int) out mm=some (MP y w c (l.drop j) free out,b)∧HZ y w b:=by
 intro k
 induction k with
 |zero=>
  intro m j free out mm h hm z f g;cases m with
  |zero=>omega
  |succ m=>rw[Eh.eq_2,cf (df (by omega)),List.drop_eq_nil_of_le (by omega)];exact⟨mm,rfl,g⟩
 |succ k ih=>
  intro m j free out mm h hm z f g;cases m with
  |zero=>omega
  |succ m=>
   have n:j<l.length:=by omega
   obtain⟨d,p⟩:=x l[j] (List.getElem_mem n);obtain⟨i,hi⟩:=Int.eq_ofNat_of_zero_le d;have e:i<c.length:=by omega
   have q:i<out.length:=by omega
   have r:c[i]=FQ c l[j]:=by
    rw[hi];unfold FQ;rw[Int.toNat_natCast,List.getD_eq_getElem?_getD,List.getElem?_eq_getElem e];rfl
   rw[Eh.eq_2,ct (dt (by omega)),Cz n,List.drop_eq_getElem_cons n,MP];have s:idx c l[j]=some (FQ c l[j]):=by rw[←r];rw[hi];exact idx_eq e
   rw[bd s];obtain⟨b,aA,t⟩:=Xa (K:=K) y w mm l[j] (max free (FQ c l[j])) h9 hw d p (by omega) hK g;have u:Gl K (⟨(wk y w a).CP,(wk y w a).En,(wk y w a).E7,(wk y w a).E8,(wk y w a).BL,(wk y w a).DC,mm⟩:De) (⟨l[j],max free (FQ c l[j])⟩:Kp)=some (G3 y w (It y l[j]) (max free (FQ c l[j])),b):=aA;have o:idx out l[j]=some out[i]:=by rw[hi];exact idx_eq q
   have aB:=SP y w (It y l[j]) (max free (FQ c l[j])) (by omega) hw;have aD:-1≤(G3 y w (It y l[j]) (max free (FQ c l[j]))).CI∧(G3 y w (It y l[j]) (max free (FQ c l[j]))).CI≤9:=by omega
   rw[bd u,bd o];show∃v,(i64 ((G3 y w (It y l[j]) (max free (FQ c l[j]))).CI+1)).bind _=_∧_;rw[BU (by omega) (by omega)];show∃v,cond ((G3 y w (It y l[j]) (max free (FQ c l[j]))).CI==-1) ((i64 (y.Ao+1)).bind _) _=_∧_;cases aF:((G3 y w (It y l[j]) (max free (FQ c l[j]))).CI==-1) with
   |true=>
    rw[ct rfl,ct rfl,BU (by omega) (by omega),BU (by omega) (by omega),Ej];exact ih m (j+1) (y.Ao+1) _ b (by omega) (by omega) (by omega) (by rw[List.length_set];exact f) t
   |false=>
    rw[cf rfl,cf rfl,BU (by omega) (by omega),Ej];exact ih m (j+1) ((G3 y w (It y l[j]) (max free (FQ c l[j]))).CI+1) _ b (by omega) (by omega) (by omega) (by rw[List.length_set];exact f) t
theorem Vb{K:Nat}(y:Bv)(w:List Bool)(b:List (List Int×AP))(c:List Int)(order:List (List Int))(h0:0≤y.Ao)(h9:y.Ao≤9)(hw:(w.length:Int)=y.Ao+1)(hK:2000≤K)(p:∀l∈order,l.length≤1000∧∀i∈l,0≤i∧i<(y.Ax.length:Int))(q:c.length=y.Ax.length)(s:order.length≤1000):
  ∀(k m j:Nat) (out:List AP) (mm:List (List Int×AP)),order.length=j+k→k<m→out.length=y.Ax.length→HZ y w mm→
  ∃a,DH K (wk y w b) order c m (j:Int) out mm=some (LF y w c (order.drop j) out,a)∧HZ y w a:=by
 intro k
 induction k with
 |zero=>
  intro m j out mm h hm d e;cases m with
  |zero=>omega
  |succ m=>rw[DH.eq_2,cf (df (by omega)),List.drop_eq_nil_of_le (by omega)];exact⟨mm,rfl,e⟩
 |succ k ih=>
  intro m j out mm h hm d e;cases m with
  |zero=>omega
  |succ m=>
   have f:j<order.length:=by omega
   obtain⟨g,n⟩:=p order[j] (List.getElem_mem f);obtain⟨a,o,r⟩:=Va (K:=K) y w b c order[j] h0 h9 hw hK n q g order[j].length K 0 0 out mm (by omega) (by omega) (by omega) d e;rw[Int.natCast_zero,List.drop_zero] at o;rw[DH.eq_2,ct (dt (by omega)),Cz f,List.drop_eq_getElem_cons f,LF,bd o,BU (by omega) (by omega),Ej];exact ih m (j+1) _ a (by omega) (by omega) (by rw[Kq];exact d) r
theorem Xb{K:Nat}(y:Bv)(w:List Bool)(mm:List (List Int×AP))(c:List Int)(order:List (List Int))(h0:0≤y.Ao)(h9:y.Ao≤9)(k:y.Ax.length≤4)(hw:(w.length:Int)=y.Ao+1)(hK:2000≤K)(e:∀l∈order,l.length≤1000∧∀i∈l,0≤i∧i<(y.Ax.length:Int))(f:c.length=y.Ax.length)(b:order.length≤1000)(g:HZ y w mm):
  ∃a,D9 K (wk y w mm) order c=some (IH y w order c,a)∧HZ y w a:=by
 unfold D9;show∃a,(OV (y.Ax.length:Int) 24).bind _=_∧_;rw[UF (by omega) (by omega) (by omega)];obtain⟨a,d,h⟩:=Vb (K:=K) y w mm c order h0 h9 hw hK e f b order.length K 0 (List.replicate y.Ax.length LG) mm (by omega) (by omega) (by rw[List.length_replicate]) g;rw[Int.natCast_zero,List.drop_zero] at d;have j:DH K (wk y w mm) order c K (0:Int) (List.replicate ((wk y w mm).BL.length:Int).toNat (⟨0,0,false⟩:AP)) (wk y w mm).known=some (LF y w c order (List.replicate y.Ax.length LG),a):=by
  show DH K (wk y w mm) order c K (0:Int) (List.replicate (y.Ax.length:Int).toNat LG) mm=_;rw[Int.toNat_natCast];exact d
 exact⟨a,bd j,h⟩
def iota(n:Nat):List Int:=(List.range n).map fun(i:Nat)=>(i:Int)
theorem JA(n:Nat):(iota n).length=n:=by simp[iota]
theorem P5(n i:Nat)(h:i<n):(iota n)[i]?=some (i:Int):=by simp[iota,h]
def JQ(y:Bv)(o:List (List Int)):Bool:=((o.length:Int)==y.Bj)&&(Dk o.flatten==iota y.Ax.length)
theorem Xc(o:List (List Int))(c:o.flatten.length≤100000):∀(k m i:Nat) (acc:List Int),o.length=i+k→k<m→o.length≤100000→acc++(o.drop i).flatten=o.flatten→
  Ea o m acc (i:Int)=some o.flatten:=by
 intro k
 induction k with
 |zero=>
  intro m i acc h hm b a;cases m with
  |zero=>omega
  |succ m=>
   rw[Ea.eq_2,cf (df (by omega))];rw[List.drop_eq_nil_of_le (by omega)] at a;rw[←a];simp
 |succ k ih=>
  intro m i acc h hm b a;cases m with
  |zero=>omega
  |succ m=>
   have hi:i<o.length:=by omega
   rw[List.drop_eq_getElem_cons hi,List.flatten_cons,←List.append_assoc] at a;have hlen:acc.length+o[i].length≤100000:=by
    have:=congrArg List.length a;rw[List.length_append,List.length_append] at this;omega
   rw[Ea.eq_2,ct (dt (by omega)),Cz hi,HO (by omega),BU (by omega) (by omega),Ej];exact ih m (i+1) (acc++o[i]) (by omega) (by omega) b a
theorem T7(y:Bv)(z:List Int)(l:y.Ax.length≤4):∀(k m i:Nat),y.Ax.length=i+k→k<m→(∀j,j<i→(Dk z).length=y.Ax.length∧(Dk z)[j]?=some (j:Int))→
  DT y z m (i:Int)=some (cond ((Dk z==iota y.Ax.length)||decide (y.Ax.length=0)) (.inr ()) (.inl false)):=by
 intro k
 induction k with
 |zero=>
  intro m i h hm a;cases m with
  |zero=>omega
  |succ m=>
   rw[DT.eq_2,cf (df (by omega))];have:((Dk z==iota y.Ax.length)||decide (y.Ax.length=0))=true:=by
    rw[Bool.or_eq_true];rcases Nat.eq_zero_or_pos i with h0|h0
    ·right;exact dt (by omega)
    ·left;rw[beq_iff_eq];have d:=(a 0 h0).1;apply List.ext_getElem?;intro j
     by_cases f:j<y.Ax.length
     ·rw[(a j (by omega)).2,P5 _ _ f]
     ·rw[List.getElem?_eq_none (by omega),List.getElem?_eq_none (by rw[JA];omega)]
   rw[this];rfl
 |succ k ih=>
  intro m i h hm a;cases m with
  |zero=>omega
  |succ m=>
   rw[DT.eq_2,ct (dt (by omega))];have c:decide (y.Ax.length=0)=false:=df (by omega)
   by_cases d:(Dk z).length=y.Ax.length
   ·rw[cf (by rw[d];simp)];have hi:i<(Dk z).length:=by omega
    rw[Cz hi]
    by_cases b:(Dk z)[i]=(i:Int)
    ·rw[b,cf (by simp),BU (by omega) (by omega),Ej];refine ih m (i+1) (by omega) (by omega) fun j f=>?_
     by_cases g:j=i
     ·subst g;exact⟨d,by rw[List.getElem?_eq_getElem hi,b]⟩
     ·exact a j (by omega)
    ·rw[ct (by simpa using b)];have:((Dk z==iota y.Ax.length)||decide (y.Ax.length=0))=false:=by
      rw[c,Bool.or_false,beq_eq_false_iff_ne];intro e;have:(Dk z)[i]?=(iota y.Ax.length)[i]?:=by rw[e]
      rw[List.getElem?_eq_getElem hi,P5 _ _ (by omega)] at this;exact b (Option.some.inj this)
     rw[this];rfl
   ·rw[ct (by simp;omega)];have:((Dk z==iota y.Ax.length)||decide (y.Ax.length=0))=false:=by
     rw[c,Bool.or_false,beq_eq_false_iff_ne];intro e;have:=congrArg List.length e;rw[JA] at this;omega
    rw[this];rfl
theorem SQ{K:Nat}(y:Bv)(o:List (List Int))(f:y.Ax.length≤4)(hK:2000≤K)(k:o.length≤1000)(m:o.flatten.length≤1000):Ge K y o=some (JQ y o):=by
 unfold Ge;have c:=Xc o (by omega) o.length K 0 [] (by omega) (by omega) (by omega) (by simp);have d:=T7 y o.flatten f y.Ax.length K 0 (by omega) (by omega) fun j g=>absurd g (by omega);rw[Int.natCast_zero] at c d;rw[bd c,HO (by omega),bd d];unfold JQ
 by_cases b:y.Ax.length=0
 ·rw[show((Dk o.flatten==iota y.Ax.length)||decide (y.Ax.length=0))=true by rw[Bool.or_eq_true];exact .inr (dt b)];show cond ((o.length:Int)==y.Bj) (some (((Dk o.flatten).length:Int)==(y.Ax.length:Int))) (some false)=_;have h:(((Dk o.flatten).length:Int)==(y.Ax.length:Int))=(Dk o.flatten==iota y.Ax.length):=by
   rw[b];cases e:Dk o.flatten with
   |nil=>rfl
   |cons a l=>
    have i:(((a::l).length:Int)==((0:Nat):Int))=false:=by simp;omega
    rw[i];rfl
  rw[h];cases ((o.length:Int)==y.Bj)<;>rfl
 ·rw[show decide (y.Ax.length=0)=false from df b,Bool.or_false];cases e:(Dk o.flatten==iota y.Ax.length) with
  |false=>show some false=_;rw[Bool.and_false]
  |true=>
   show cond ((o.length:Int)==y.Bj) (some (((Dk o.flatten).length:Int)==(y.Ax.length:Int))) (some false)=_;rw[eq_of_beq e,JA];cases ((o.length:Int)==y.Bj)<;>simp
theorem O3{y:Bv}{o:List (List Int)}:JQ y o=true↔(o.length:Int)=y.Bj∧o.flatten.Perm (iota y.Ax.length):=by
 unfold JQ;rw[Bool.and_eq_true,beq_iff_eq,beq_iff_eq];refine and_congr_right fun _=>⟨fun h=>?_,fun h=>?_⟩
 ·rw[←h];exact(List.mergeSort_perm _ _).symm
 ·have d:(Dk o.flatten).Pairwise (fun a b:Int=>a≤b):=by
   have:=List.pairwise_mergeSort (le:=fun x y:Int=>decide (x≤y)) (fun a b c d e=>by simp at*;omega) (fun a b=>by simp;omega) o.flatten;exact this.imp fun h=>by simpa using h
  have e:(iota y.Ax.length).Pairwise (fun a b:Int=>a≤b):=by
   unfold iota;rw[List.pairwise_map];exact List.pairwise_lt_range.imp fun h=>by omega
  exact List.Perm.eq_of_pairwise (le:=fun a b:Int=>a≤b) (fun a b _ _ h f=>by omega) d e ((List.mergeSort_perm _ _).trans h)
theorem T8{n:Nat}{i:Int}:i∈iota n↔0≤i∧i<n:=by
 unfold iota;rw[List.mem_map];constructor
 ·rintro⟨k,a,rfl⟩;rw[List.mem_range] at a;omega
 ·rintro⟨h0,b⟩;exact⟨i.toNat,by rw[List.mem_range];omega,by omega⟩
theorem Vc{y:Bv}{o:List (List Int)}(h:JQ y o=true):∀l∈o,l.length≤y.Ax.length∧∀i∈l,0≤i∧i<(y.Ax.length:Int):=by
 intro l a;have b:=(O3.1 h).2;constructor
 ·have c:=b.length_eq;rw[JA] at c;have:=(List.sublist_flatten_of_mem a).length_le;omega
 ·intro i hi;exact T8.1 (b.mem_iff.1 (List.mem_flatten.2 ⟨l,a,hi⟩))
def IP:List BS→List Int→Bool
 |[],[]=>true
 |l::ls,c::cs=>Dl c l.Bi l.BX&&IP ls cs
 |_,_=>false
def P6(y:Bv)(t:Cy):Bool:=decide ((t.Am.length:Int)=y.Ao+1)&&(Oh y t.Am&&IP y.Ax t.Comes)
theorem NZ:∀{ls:List BS} {cs:List Int},IP ls cs=true→cs.length=ls.length
 |[],[],_=>rfl
 |_::ls,_::cs,h=>by
  rw[IP,Bool.and_eq_true] at h;rw[List.length_cons,List.length_cons,NZ h.2]
 |[],_::_,h=>by cases h
 |_::_,[],h=>by cases h
theorem J4{c:List Int}:∀{ls:List BS},c∈Fp ls↔IP ls c=true
 |[]=>by
  cases c with
  |nil=>simp[Fp,IP]
  |cons a l=>simp[Fp,IP]
 |l::r=>by
  rw[Fp,List.mem_flatMap];constructor
  ·rintro⟨n,b,e⟩;obtain⟨d,f,rfl⟩:=List.mem_map.1 e;rw[IP,Bool.and_eq_true];rw[List.mem_range] at b;unfold EH at b;exact⟨CJ.2 (by omega),J4.1 f⟩
  ·intro h;cases c with
   |nil=>simp[IP] at h
   |cons a d=>
    rw[IP,Bool.and_eq_true] at h;have g:=CJ.1 h.1;refine⟨(a-l.Bi).toNat,?_,List.mem_map.2 ⟨d,J4.2 h.2,?_⟩⟩
    ·rw[List.mem_range];unfold EH;omega
    ·congr 1;omega
def bitsOf:List Bool→Nat
 |[]=>0
 |b::l=>(cond b 1 0)+2*bitsOf l
theorem Ng:∀(l:List Bool) (d:Nat),(bitsOf l).testBit d=l.getD d false
 |[],d=>by simp[bitsOf]
 |b::l,0=>by rw[bitsOf,Nat.testBit_zero];cases b<;>simp<;>omega
 |b::l,d+1=>by
  rw[Nat.testBit_succ,bitsOf];have:((cond b 1 0)+2*bitsOf l)/2=bitsOf l:=by cases b<;>simp<;>omega
  rw[this,Ng l d];rfl
theorem O4:∀(l:List Bool),bitsOf l<2^l.length
 |[]=>by simp[bitsOf]
 |b::l=>by
  have:=O4 l;rw[bitsOf,List.length_cons,Nat.pow_succ];cases b<;>simp<;>omega
theorem SR(l:List Bool):wl l.length (bitsOf l)=l:=by
 apply List.ext_getElem?;intro i;unfold wl;rw[List.getElem?_map]
 by_cases h:i<l.length
 ·rw[List.getElem?_range h,List.getElem?_eq_getElem h];show some ((bitsOf l).testBit i)=_;rw[Ng,List.getD_eq_getElem?_getD,List.getElem?_eq_getElem h];rfl
 ·rw[List.getElem?_eq_none (by simp;omega),List.getElem?_eq_none (by omega)];rfl
theorem LO{y:Bv}{w:List Bool}:w∈EC y↔w.length=days y∧Oh y w=true:=by
 unfold EC;rw[List.mem_filter,List.mem_map];constructor
 ·rintro⟨⟨b,_,rfl⟩,h⟩;exact⟨JJ _ _,h⟩
 ·rintro⟨a,c⟩;exact⟨⟨bitsOf w,by rw[List.mem_range,←a];exact O4 w,by rw[←a];exact SR w⟩,c⟩
theorem QW{y:Bv}(h0:0≤y.Ao){t:Cy}:t∈Ed y↔P6 y t=true:=by
 unfold Ed P6;rw[List.mem_flatMap,Bool.and_eq_true,Bool.and_eq_true,decide_eq_true_eq];constructor
 ·rintro⟨w,hw,d⟩;obtain⟨c,e,rfl⟩:=List.mem_map.1 d;obtain⟨b,a⟩:=LO.1 hw;unfold days at b;exact⟨by show(w.length:Int)=_;omega,a,J4.1 e⟩
 ·rintro⟨b,a,f⟩;exact⟨t.Am,LO.2 ⟨by unfold days;omega,a⟩,List.mem_map.2 ⟨t.Comes,J4.2 f,rfl⟩⟩
theorem YF(a b:List Bool)(j:a.length≤1000)(g:a.length=b.length):∀(k m i:Nat),a.length=i+k→k<m→D6 a b m (i:Int)=some (cond (a.drop i==b.drop i) (.inr ()) (.inl false)):=by
 intro k
 induction k with
 |zero=>
  intro m i h hm;cases m with
  |zero=>omega
  |succ m=>rw[D6.eq_2,cf (df (by omega)),List.drop_eq_nil_of_le (by omega),List.drop_eq_nil_of_le (by omega)];rfl
 |succ k ih=>
  intro m i h hm;cases m with
  |zero=>omega
  |succ m=>
   have c:i<a.length:=by omega
   have d:i<b.length:=by omega
   rw[D6.eq_2,ct (dt (by omega)),Cz c,Cz d,List.drop_eq_getElem_cons c,List.drop_eq_getElem_cons d];cases f:(a[i] !=b[i]) with
   |true=>
    rw[ct rfl];have:(a[i]::a.drop (i+1)==b[i]::b.drop (i+1))=false:=by
     rw[List.cons_beq_cons];have:(a[i]==b[i])=false:=by simpa[bne] using f
     rw[this,Bool.false_and]
    rw[this];rfl
   |false=>
    have e:a[i]=b[i]:=by simpa[bne] using f
    rw[cf rfl,BU (by omega) (by omega),Ej,ih m (i+1) (by omega) (by omega),List.cons_beq_cons,e,beq_self_eq_true,Bool.true_and]
theorem YG{K:Nat}(a b:List Bool)(c:a.length≤1000)(hK:2000≤K):Fg K a b=some (a==b):=by
 unfold Fg
 by_cases h:a.length=b.length
 ·have:=YF a b c h a.length K 0 (by omega) (by omega);rw[Int.natCast_zero,List.drop_zero,List.drop_zero] at this;rw[cf (by rw[h];simp),bd this];cases (a==b)<;>rfl
 ·rw[ct (by simp;omega)];have:(a==b)=false:=by
   rw[beq_eq_false_iff_ne];intro e;exact h (by rw[e])
  rw[this]
structure N0(y:Bv):Prop where
 h0:0≤y.Ao
 h9:y.Ao≤9
 r1:1≤y.Bj
 r2:y.Bj≤2
 n4:y.Ax.length≤4
 w0:0≤y.Am
 w1:y.Am≤y.Ao+1
 u0:0≤y.Cc
 u1:y.Cc≤y.Ao+1
 Zk:∀l∈y.Ax,Ie y l=true
 many:LD y≤1000
theorem Xd{y:Bv}(h:check y=0):N0 y:=by
 unfold check at h;split at h
 ·cases h
 ·rename_i d
  split at h
  ·cases h
  ·rename_i b
   split at h
   ·cases h
   ·rename_i f
    rw[not_or,not_or] at d;rw[not_or,not_or,not_or,not_or] at b;have hw:Dl y.Am 0 (y.Ao+1)=true:=by cases a:Dl y.Am 0 (y.Ao+1) with|true=>rfl|false=>exact absurd a b.2.2.1
    have c:Dl y.Cc 0 (y.Ao+1)=true:=by cases a:Dl y.Cc 0 (y.Ao+1) with|true=>rfl|false=>exact absurd a b.2.2.2.1
    have e:y.Ax.all (Ie y)=true:=by cases a:y.Ax.all (Ie y) with|true=>rfl|false=>exact absurd a b.2.2.2.2
    rw[CJ] at hw c;exact⟨by omega,by omega,by omega,by omega,by omega,hw.1,hw.2,c.1,c.2,List.all_eq_true.1 e,by omega⟩
theorem N0.sz{y:Bv}(h:N0 y):∀l∈y.Ax,sized l∧0≤l.Bi∧l.BX≤9:=fun l b=>by
 have a:=h.Zk l b;have:=KH.1 a;have:=h.h9;exact⟨P2 h.h9 a,by omega,by omega⟩
def YH(y:Bv):Option De→Prop
 |none=>True
 |some x=>∃w m,x=wk y w m∧(w.length:Int)=y.Ao+1∧HZ y w m
theorem SS{σ:Type}{K:Nat}(cb:σ→Cy×List AP→Option (Bool×σ))(y:Bv)(f:N0 y)(o:List (List Int))(v:JQ y o=true)(hK:2000≤K):∀(d:List Cy) (h:Option De) (s:σ),(∀t∈d,P6 y t=true)→YH y h→
  (run (fun(st:(Option De)×σ×Bool) (x:Cy)=>cond st.2.2 none (Ei cb K y o st.1 st.2.1 x)) d (h,s,false)).bind (fun g=>cond g.2.2.2 (some g.2.2.1) (some g.2.2.1))=(run (fun s t=>cb s (t,IH y t.Am o t.Comes)) d s).bind fun r=>some r.2
 |[],h,s,_,_=>rfl
 |t::d,h,s,aA,aH=>by
  have j:=aA t (List.mem_cons_self ..);have aB:∀x∈d,P6 y x=true:=fun x aI=>aA x (List.mem_cons_of_mem _ aI);unfold P6 at j;rw[Bool.and_eq_true,Bool.and_eq_true,decide_eq_true_eq] at j;obtain⟨hw,_,aJ⟩:=j;have aC:=NZ aJ;have q:=Vc v;have aD:o.length≤1000:=by have:=(O3.1 v).1;have:=f.r2;omega
  have z:∀l∈o,l.length≤1000∧∀i∈l,0≤i∧i<(y.Ax.length:Int):=fun l aE=>⟨by have:=(q l aE).1;have:=f.n4;omega,(q l aE).2⟩;rw[run,run];show(Option.bind (Ei cb K y o h s t) _:Option _).bind _=_
  
  have key:∀(m:List (List Int×AP)),HZ y t.Am m→∃c,HZ y t.Am c∧D9 K (wk y t.Am m) o t.Comes=some (IH y t.Am o t.Comes,c):=fun m hm=>by
   obtain⟨c,aK,aL⟩:=Xb (K:=K) y t.Am m t.Comes o f.h0 f.h9 f.n4 hw hK z aC aD hm;exact⟨c,aL,aK⟩
  have fin:∀(c:List (List Int×AP)),HZ y t.Am c→
    (Option.bind ((cb s (t,IH y t.Am o t.Comes)).bind fun a=>cond (!a.1) (some (false,(some (wk y t.Am c)),a.2,true)) (some (true,(some (wk y t.Am c)),a.2,false))) fun r=>cond r.1 (run (fun(st:(Option De)×σ×Bool) (x:Cy)=>cond st.2.2 none (Ei cb K y o st.1 st.2.1 x)) d r.2) (some (false,r.2))).bind (fun g=>cond g.2.2.2 (some g.2.2.1) (some g.2.2.1))=
    (Option.bind (cb s (t,IH y t.Am o t.Comes)) fun r=>cond r.1 (run (fun s t=>cb s (t,IH y t.Am o t.Comes)) d r.2) (some (false,r.2))).bind fun r=>some r.2:=fun c k=>by
   cases cb s (t,IH y t.Am o t.Comes) with
   |none=>rfl
   |some r=>
    obtain⟨b,s2⟩:=r;cases b with
    |false=>rfl
    |true=>exact SS cb y f o v hK d (some (wk y t.Am c)) s2 aB ⟨t.Am,c,rfl,hw,k⟩
  unfold Ei;obtain⟨n,u,aM⟩:=key [] (T6 _ _);have aP:=f.h9;have e:(HG (((0+t.Am.length:Nat):Int)≤140737488355328/1)).bind (fun _=>(D9 K (⟨y.Ao,y.Bj,y.Am,y.Cc,y.Ax,t.Am,[]⟩:De) o t.Comes).bind fun p=>(cb s (t,p.1)).bind fun a=>cond (!a.1) (some (false,(some (⟨y.Ao,y.Bj,y.Am,y.Cc,y.Ax,t.Am,p.2⟩:De)),a.2,true)) (some (true,(some (⟨y.Ao,y.Bj,y.Am,y.Cc,y.Ax,t.Am,p.2⟩:De)),a.2,false)))=
    (cb s (t,IH y t.Am o t.Comes)).bind fun a=>cond (!a.1) (some (false,(some (wk y t.Am n)),a.2,true)) (some (true,(some (wk y t.Am n)),a.2,false)):=by
   have aF:D9 K (⟨y.Ao,y.Bj,y.Am,y.Cc,y.Ax,t.Am,[]⟩:De) o t.Comes=some (IH y t.Am o t.Comes,n):=aM;rw[HO (by omega),bd aF];rfl
  cases h with
  |none=>
   show(Option.bind ((HG _).bind _) _:Option _).bind _=_;rw[e];exact fin n u
  |some x=>
   obtain⟨w,m,rfl,aQ,aG⟩:=aH;show(Option.bind ((Fg K w t.Am).bind _) _:Option _).bind _=_;rw[bd (YG w t.Am (by omega) hK)];cases aN:(w==t.Am) with
   |false=>
    rw[nf,e];exact fin n u
   |true=>
    obtain rfl:=eq_of_beq aN;obtain⟨c,k,aO⟩:=key m aG;rw[nt,bd aO];exact fin c k
theorem Xe{σ:Type}{K:Nat}(cb:σ→Cy×List AP→Option (Bool×σ))(y:Bv)(a:N0 y)(o:List (List Int))(b:JQ y o=true)(hK:2000≤K)(s:σ):
  Hk K cb y o s=(run (fun s t=>cb s (t,IH y t.Am o t.Comes)) (Ed y) s).bind fun r=>some r.2:=by
 unfold Hk;rw[T5 _ y a.h0 a.h9 a.n4 a.sz hK,Option.bind_assoc];exact SS cb y a o b hK (Ed y) none s (fun t c=>(QW a.h0).1 c) trivial
def Kr(l:BS)(s:AP):Bool:=s.BP&&decide (s.CI≤l.Gs)
theorem Vd(K:Nat)(l:BS)(s:AP):Fw K l s=some (Kr l s):=by unfold Fw Kr;cases s.BP<;>rfl
theorem Ml(y:Bv)(w:List Bool)(o:List (List Int))(c:List Int):(IH y w o c).length=y.Ax.length:=by unfold IH;rw[Mk,List.length_replicate]
def Ks (y:Bv) (o:List (List Int)) (t:Cy):List AP:=IH y t.Am o t.Comes
def IM(p:BS→AP→Bool):List BS→List AP→List Int→List Int
 |l::ls,s::ss,a::b=>(cond (p l s) (a+1) a)::IM p ls ss b
 |_,_,b=>b
theorem UG(x:CZ)(k:Nat)(v:Int)(h:k<4):(x.set k v).l=x.l.set k v:=by
 match k,h with
 |0,_=>rfl
 |1,_=>rfl
 |2,_=>rfl
 |3,_=>rfl
theorem Ns(p:BS→AP→Bool)(ss:List AP)(a:List Int):IM p [] ss a=a:=by cases a<;>rfl
theorem Ve{K:Nat}(p:BS→AP→Bool)(y:Bv)(ss:List AP)(q:y.Ax.length≤4)(r:ss.length=y.Ax.length):∀(k m i:Nat) (a:CZ),ss.length=i+k→k<m→(∀x∈a.l.drop i,0≤x∧x≤100000)→
  ∃b:CZ,C0 (fun(st:Unit) (x:BS×AP)=>some (p x.1 x.2,())) ss y m (i:Int) a.a0 a.a1 a.a2 a.a3 ()=some (b.a0,b.a1,b.a2,b.a3,())∧b.l=a.l.take i++IM p (y.Ax.drop i) (ss.drop i) (a.l.drop i):=by
 intro k
 induction k with
 |zero=>
  intro m i a h hm e;cases m with
  |zero=>omega
  |succ m=>
   rw[C0.eq_2,cf (df (by omega)),List.drop_eq_nil_of_le («as»:=y.Ax) (by omega),Ns];exact⟨a,rfl,(List.take_append_drop ..).symm⟩
 |succ k ih=>
  intro m i a h hm e;cases m with
  |zero=>omega
  |succ m=>
   have hi:i<ss.length:=by omega
   have f:i<y.Ax.length:=by omega
   have c:i<a.l.length:=by show i<4;omega
   rw[C0.eq_2,ct (dt (by omega)),Cz hi,Cz f,Option.bind_some,List.drop_eq_getElem_cons hi,List.drop_eq_getElem_cons f,List.drop_eq_getElem_cons c,IM];cases s:p y.Ax[i] ss[i] with
   |true=>
    have t:=e a.l[i] (by rw[List.drop_eq_getElem_cons c];exact List.mem_cons_self ..);have g:idx [a.a0,a.a1,a.a2,a.a3] (i:Int)=some a.l[i]:=idx_eq c;rw[ct rfl,bd g,BU (by omega) (by omega),bd g,BU (by omega) (by omega),Ej,Int.toNat_natCast];obtain⟨b,j,n⟩:=ih m (i+1) (a.set i (a.l[i]+1)) (by omega) (by omega) (fun x d=>by
     rw[UG _ _ _ (by omega),List.drop_set_of_lt (by omega)] at d;exact e x (by rw[List.drop_eq_getElem_cons c];exact List.mem_cons_of_mem _ d))
    refine⟨b,j,?_⟩;rw[n,UG _ _ _ (by omega),List.take_add_one,List.getElem?_set_self c,List.take_set_of_le (Nat.le_refl _),List.drop_set_of_lt (by omega)];simp
   |false=>
    rw[cf rfl,BU (by omega) (by omega),Ej];obtain⟨b,j,n⟩:=ih m (i+1) a (by omega) (by omega) fun x d=>e x (by rw[List.drop_eq_getElem_cons c];exact List.mem_cons_of_mem _ d);refine⟨b,j,?_⟩;have o:a.l.take (i+1)=a.l.take i++[a.l[i]]:=by rw[List.take_add_one,List.getElem?_eq_getElem c];rfl
    rw[n,o,List.append_assoc];rfl
theorem T9{K:Nat}(p:BS→AP→Bool)(y:Bv)(t:Cy)(ss:List AP)(e:y.Ax.length≤4)(f:ss.length=y.Ax.length)(hK:2000≤K)(n:Int)(a:CZ)(h:0≤n∧n≤100000)(g:∀x∈a.l,0≤x∧x≤100000):
  ∃b:CZ,Dp K (fun(st:Unit) (x:BS×AP)=>some (p x.1 x.2,())) t ss n y a ()=some (true,n+1,b,())∧b.l=IM p y.Ax ss a.l:=by
 unfold Dp;obtain⟨b,c,d⟩:=Ve (K:=K) p y ss e f ss.length K 0 a (by omega) (by omega) (by rw[List.drop_zero];exact g);rw[Int.natCast_zero] at c;rw[List.take_zero,List.drop_zero,List.drop_zero,List.drop_zero,List.nil_append] at d;rw[BU (by omega) (by omega),bd c];exact⟨b,rfl,d⟩
theorem Q6(p:BS→AP→Bool)(B:Int):∀(ls:List BS) (ss:List AP) (c:List Int),(∀x∈c,0≤x∧x≤B)→∀x∈IM p ls ss c,0≤x∧x≤B+1
 |l::ls,s::ss,a::c,h,x,b=>by
  rw[IM] at b;rcases List.mem_cons.1 b with rfl|b
  ·have:=h a (List.mem_cons_self ..);cases p l s<;>simp<;>omega
  ·exact Q6 p B ls ss c (fun z d=>h z (List.mem_cons_of_mem _ d)) x b
 |[],_,c,h,x,b=>by
  rw[Ns] at b;have:=h x b;omega
 |l::ls,[],c,h,x,b=>by
  have e:IM p (l::ls) [] c=c:=by cases c<;>rfl
  rw[e] at b;have:=h x b;omega
 |l::ls,s::ss,[],h,x,b=>by
  have e:IM p (l::ls) (s::ss) []=[]:=rfl;rw[e] at b;cases b
def Oi (p:BS→AP→Bool) (y:Bv) (o:List (List Int)):List Cy→List Int→List Int
 |[],a=>a
 |t::b,a=>Oi p y o b (IM p y.Ax (Ks y o t) a)
theorem P7{K:Nat}(p:BS→AP→Bool)(y:Bv)(d:N0 y)(o:List (List Int))(hK:2000≤K):∀(c:List Cy) (n:Int) (a:CZ) (B:Int),0≤n→n+c.length≤100000→B+c.length≤100000→(∀x∈a.l,0≤x∧x≤B)→
  ∃b:CZ,run (fun(st:Int×CZ×Unit) t=>(Dp K (fun(st:Unit) (x:BS×AP)=>some (p x.1 x.2,())) t (Ks y o t) st.1 y st.2.1 st.2.2).bind fun r=>some (r.1,(r.2.1,r.2.2.1,r.2.2.2))) c (n,a,())=some (true,n+c.length,b,())∧b.l=Oi p y o c a.l
 |[],n,a,B,_,_,_,_=>⟨a,by simp[run],rfl⟩
 |t::c,n,a,B,h0,g,h,e=>by
  rw[List.length_cons] at g h;obtain⟨b,i,f⟩:=T9 (K:=K) p y t (Ks y o t) d.n4 (Ml ..) hK n a (by omega) (fun x j=>by have:=e x j;omega);obtain⟨k,m,q⟩:=P7 p y d o hK c (n+1) b (B+1) (by omega) (by omega) (by omega) (by rw[f];exact Q6 p B _ _ _ e);refine⟨k,?_,by rw[q,f];rfl⟩;rw[run];show Option.bind ((Dp K _ t (Ks y o t) n y a ()).bind _) _=_;rw[bd i];show run _ c (n+1,b,())=_;rw[m,List.length_cons]
  congr 3;omega
theorem Oj(y:Bv)(b:N0 y):((Ed y).length:Int)=LD y:=by
 have d:∀ls:List BS,(∀l∈ls,sized l)→((Fp ls).length:Int)=IU ls:=by
  intro ls
  induction ls with
  |nil=>intro _;rfl
  |cons l r ih=>
   intro h;have a:=(h l (List.mem_cons_self ..)).1;rw[Fp,IU,List.length_flatMap,←ih fun x e=>h x (List.mem_cons_of_mem _ e)];have:((List.range (EH l).toNat).map fun(n:Nat)=>((Fp r).map fun c=>(l.Bi+(n:Int))::c).length)=List.replicate (EH l).toNat (Fp r).length:=by
    apply List.ext_getElem
    ·simp
    ·intro i a f;simp
   rw[this,List.sum_replicate_nat,Int.natCast_mul]
   congr 1;omega
 unfold Ed LD;rw[List.length_flatMap,←d y.Ax fun l g=>(b.sz l g).1];have:((EC y).map fun w=>((Fp y.Ax).map fun c=>(⟨c,w⟩:Cy)).length)=List.replicate (EC y).length (Fp y.Ax).length:=by
  apply List.ext_getElem
  ·simp
  ·intro i a f;simp
 rw[this,List.sum_replicate_nat,Int.natCast_mul]
def Ol (p:BS→AP→Bool) (y:Bv) (o:List (List Int)):List Int:=Oi p y o (Ed y) [0,0,0,0]
theorem Vf{K:Nat}(p:BS→AP→Bool)(y:Bv)(a:N0 y)(o:List (List Int))(c:JQ y o=true)(hK:2000≤K):
  ∃b:CZ,ER K (fun(st:Unit) (x:BS×AP)=>some (p x.1 x.2,())) y o ()=some (b,((Ed y).length:Int),())∧b.l=Ol p y o:=by
 unfold ER;rw[Xe _ y a o c hK];have g:=Oj y a;have:=a.many;obtain⟨b,d,e⟩:=P7 (K:=K) p y a o hK (Ed y) 0 ⟨0,0,0,0⟩ 0 (by omega) (by omega) (by omega) (by intro x f;simp[CZ.l] at f;omega);refine⟨b,?_,e⟩;refine Eq.trans (congrArg (fun z=>Option.bind (Option.bind z _) _) d) ?_;rw[Int.zero_add];rfl
def Sc(y:Bv)(i:Nat):BS:=y.Ax.getD i P4
def Pr(y:Bv)(o:List (List Int))(t:Cy)(i:Nat):AP:=(Ks y o t).getD i LG
def I8 (y:Bv) (o:List (List Int)) (i:Nat) (t:Cy):Bool:=Kr (Sc y i) (Pr y o t i)
theorem P8(p:BS→AP→Bool):∀(ls:List BS) (ss:List AP) (b:List Int) (i:Nat),i<ls.length→i<ss.length→i<b.length→
  (IM p ls ss b).getD i 0=b.getD i 0+(cond (p (ls.getD i P4) (ss.getD i LG)) 1 0)
 |l::ls,s::ss,a::b,0,_,_,_=>by
  rw[IM];show cond (p l s) (a+1) a=a+cond (p l s) 1 0;cases p l s<;>simp
 |l::ls,s::ss,a::b,i+1,c,d,e=>by
  rw[IM];exact P8 p ls ss b i (by simpa using c) (by simpa using d) (by simpa using e)
theorem Nh(p:BS→AP→Bool):∀(ls:List BS) (ss:List AP) (b:List Int),(IM p ls ss b).length=b.length
 |l::ls,s::ss,a::b=>by rw[IM,List.length_cons,Nh p ls ss b,List.length_cons]
 |[],ss,b=>by rw[Ns]
 |l::ls,[],b=>by
  have e:IM p (l::ls) [] b=b:=by cases b<;>rfl
  rw[e]
 |l::ls,s::ss,[]=>rfl
theorem P9(p:BS→AP→Bool)(y:Bv)(o:List (List Int))(i:Nat)(hi:i<y.Ax.length):∀(b:List Cy) (a:List Int),i<a.length→
  (Oi p y o b a).getD i 0=a.getD i 0+(b.countP (fun t=>p (Sc y i) (Pr y o t i)):Nat)
 |[],a,_=>by simp[Oi]
 |t::b,a,h=>by
  rw[Oi,P9 p y o i hi b _ (by rw[Nh];exact h),P8 p _ _ _ i hi (by rw[Ks,Ml];exact hi) h,List.countP_cons];unfold Sc Pr;cases p (y.Ax.getD i P4) ((Ks y o t).getD i LG)<;>simp<;>omega
theorem Sd(p:BS→AP→Bool)(y:Bv)(a:N0 y)(o:List (List Int))(i:Nat)(hi:i<y.Ax.length):(Ol p y o).getD i 0=((Ed y).countP (fun t=>p (Sc y i) (Pr y o t i)):Nat):=by
 unfold Ol;have b:=a.n4;rw[P9 p y o i hi _ _ (by show i<4;omega)];have:([0,0,0,0]:List Int).getD i 0=0:=by
  match i,(show i<4 by omega) with
  |0,_=>rfl
  |1,_=>rfl
  |2,_=>rfl
  |3,_=>rfl
 rw[this,Int.zero_add]
theorem YI(b:CZ)(i:Nat)(h:i<4):idx [b.a0,b.a1,b.a2,b.a3] (i:Int)=some (b.l.getD i 0):=by
 have:i<[b.a0,b.a1,b.a2,b.a3].length:=h;rw[idx_eq this];show some b.l[i]=_;rw[List.getD_eq_getElem?_getD,List.getElem?_eq_getElem (show i<b.l.length from h)];rfl
def verdict (y:Bv) (o:List (List Int)) (i:Nat):Int:=cond ((Ed y).all (I8 y o i)) 1 (cond ((Ed y).all fun t=> !I8 y o i t) 2 3)
theorem SU{α:Type}(p:α→Bool)(l:List α):((((l.countP p:Nat):Int)==(l.length:Int)))=l.all p:=by
 rw[Bool.eq_iff_iff,beq_iff_eq,List.all_eq_true,Int.ofNat_inj,List.countP_eq_length]
theorem Se{α:Type}(p:α→Bool)(l:List α):((((l.countP p:Nat):Int)==0))=l.all fun t=> !p t:=by
 rw[Bool.eq_iff_iff,beq_iff_eq,List.all_eq_true,show(0:Int)=((0:Nat):Int) from rfl,Int.ofNat_inj,List.countP_eq_zero];simp
theorem Vg{K:Nat}(y:Bv)(o:List (List Int))(n:Int)(hK:2000≤K)(e:o.length≤1000)(f:o.flatten.length≤1000):
  Hl K y o n=some (if check y≠0 then (0,check y) else if JQ y o=false∨Dl n 0 ((y.Ax.length:Int)-1)=false then (0,2) else (verdict y o n.toNat,0)):=by
 unfold Hl;rw[bd (U9 hK y)]
 by_cases h:check y=0
 ·rw[h,cf (by decide),if_neg (by simp)];have a:=Xd h;have m:=a.n4;rw[bd (SQ y o a.n4 hK e f)];cases g:JQ y o with
  |false=>rw[nf,if_pos (.inl rfl)]
  |true=>
   have j:GR K y n=some (Dl n 0 ((y.Ax.length:Int)-1)):=by
    unfold GR;rw[BU (by omega) (by omega),bd (Jp ..)]
   rw[nt,bd j];cases c:Dl n 0 ((y.Ax.length:Int)-1) with
   |false=>rw[nf,if_pos (.inr rfl)]
   |true=>
    rw[nt,if_neg (by simp)];rw[CJ] at c;obtain⟨i,rfl⟩:=Int.eq_ofNat_of_zero_le c.1;have hi:i<y.Ax.length:=by omega
    obtain⟨b,k,l⟩:=Vf (K:=K) Kr y a o g hK;have d:ER K (fun(st:Unit) (x:BS×AP)=>(Fw K x.1 x.2).bind fun r=>some (r,())) y o ()=some (b,((Ed y).length:Int),()):=by
     rw[←k];congr 1;funext st x;rw[bd (Vd ..)]
    rw[bd d,bd (YI b i (by omega)),l,Sd Kr y a o i hi,Int.toNat_natCast];unfold verdict;show cond ((((Ed y).countP (I8 y o i):Nat):Int)==((Ed y).length:Int)) _ (cond ((((Ed y).countP (I8 y o i):Nat):Int)==0) _ _)=_;rw[SU,Se];cases (Ed y).all (I8 y o i)<;>cases (Ed y).all (fun t=> !I8 y o i t)<;>rfl
 ·rw[ct (by simpa using h),if_pos h]
end Go.Proofs.YtamobliaoknclaaGreat
end
section
namespace Go.Proofs.YtamobliaoknclaaGreat
open Go.RowKit Go.WideShapes
def DE(d:Nat)(a:Int)(b:Int)(c:Int):Option (Bool):=
 cond (decide (b≤a)) (some (decide (a≤c))) (some (false))
def F2(b:Nat)(a:AR):Option (Int):=
 (i64 (a.Hi-a.Lo)).bind fun _=>(i64 ((a.Hi-a.Lo)+1)).bind fun _=>some ((a.Hi-a.Lo)+1)
def FR(c:Nat)(a:AR)(b:Int):Option (Bool):=
 cond (decide ((0:Int)≤a.Lo)) (cond (decide (a.Lo≤a.Hi)) (some (decide (a.Hi≤b))) (some (false))) (some (false))
def DF(b:Nat)(a:AR)(c:Int):Option (Bool):=
 (DE b c a.Lo a.Hi).bind fun r2=>some (r2)
def Fh(a:Nat)(b:AR):Option (Bool):=
 (FR a b 50).bind fun r2=>some (r2)
def II(a:Nat)(b:Int):Option (Bool):=
 (DE a b 0 2).bind fun r1=>some (r1)
def HT(a:Nat)(b:AM)(c:Int):Option (Bool):=
 (DE a c 0 b.Ao).bind fun r2=>some (r2)
def CQ(b:Nat)(a:AM):Option (Int):=
 (i64 (a.Ao+1)).bind fun _=>some (a.Ao+1)
def F3(b:Nat)(c:AM)(a:Cx):Option (Bool):=
 (HT b c a.Week).bind fun d=>cond (d) ((FR b (⟨a.Bo,a.Bq⟩:AR) 1000).bind fun e=>some (e)) (some (false))
def FT(b:Nat)(a:AM):Option (Bool):=
 cond (decide ((0:Int)≤a.Ao)) ((DE b a.Ct 1 10).bind fun c=>cond (c) ((DE b a.CF 0 50).bind fun d=>cond (d) ((DE b a.Trod 0 100).bind fun e=>some (e)) (some (false))) (some (false))) (some (false))
def DJ(i:Nat)(a:AM)(g:List Int)(c:Int):Option (Int):=
 cond (decide ((0:Int)<c)) ((i64 (c-1)).bind fun _=>(idx g (c-1)).bind fun d=>(idx a.AN c).bind fun h=>(idx g c).bind fun e=>(i64 (e-d)).bind fun _=>(i64 ((e-d)-a.Ct)).bind fun _=>(i64 (a.CF*(max (0:Int) ((e-d)-a.Ct)))).bind fun _=>(i64 (h-(a.CF*(max (0:Int) ((e-d)-a.Ct))))).bind fun _=>some (max (0:Int) (h-(a.CF*(max (0:Int) ((e-d)-a.Ct)))))) ((idx a.AN c).bind fun f=>(idx g c).bind fun b=>(i64 (b-(-1))).bind fun _=>(i64 ((b-(-1))-a.Ct)).bind fun _=>(i64 (a.CF*(max (0:Int) ((b-(-1))-a.Ct)))).bind fun _=>(i64 (f-(a.CF*(max (0:Int) ((b-(-1))-a.Ct))))).bind fun _=>some (max (0:Int) (f-(a.CF*(max (0:Int) ((b-(-1))-a.Ct))))))
def Gx(b:Nat)(a:Df):Option (Int):=
 some (a.Weight)
def GS(b:Nat)(a:Df):Option (Int):=
 some (a.HS)
def Gy{a:Type}(e:Nat)(b:a→AR→Option (Bool×a))(c:AR)(d:a):Option (Bool×a):=
 (b d c).bind fun r2=>some ((!r2.1,r2.2))
def ED{c:Type}(d:c→AR→Option (Bool×c))(e:List AR):Nat→Int→c→Option ((Int×c)⊕(c))
 |0,_,_=>none
 |g+1,a,b=>cond (decide (a<(e.length:Int))) ((idx e a).bind fun h=>(d b h).bind fun f=>cond (f.1) (some (.inl (a,f.2))) ((i64 (a+1)).bind fun _=>ED d e g (a+1) f.2)) (some (.inr b))
def Hm{b:Type}(d:Nat)(c:b→AR→Option (Bool×b))(e:List AR)(f:b):Option (Int×b):=
 (ED c e d (0:Int) f).bind fun z=>Sum.elim (fun a=>some ((a.1,a.2))) (fun a=>some (((-1),a))) z
def Gz{a:Type}(c:Nat)(b:a→AR→Option (Bool×a))(d:List AR)(e:a):Option (Bool×a):=
 (Hm c b d e).bind fun r1=>some ((decide ((0:Int)≤r1.1),r1.2))
def Hn{a:Type}(b:Nat)(c:a→AR→Option (Bool×a))(d:List AR)(e:a):Option (Bool×a):=
 (Gz b (fun(st:a) (x:AR)=>(Gy b c x st).bind fun r=>some (r.1,r.2)) d e).bind fun r2=>some ((!r2.1,r2.2))
def Ho{a:Type}(e:Nat)(b:a→Int→Option (Bool×a))(c:Int)(d:a):Option (Bool×a):=
 (b d c).bind fun r1=>some ((!r1.1,r1.2))
def EO{c:Type}(d:c→Int→Option (Bool×c))(e:List Int):Nat→Int→c→Option ((Int×c)⊕(c))
 |0,_,_=>none
 |g+1,a,b=>cond (decide (a<(e.length:Int))) ((idx e a).bind fun h=>(d b h).bind fun f=>cond (f.1) (some (.inl (a,f.2))) ((i64 (a+1)).bind fun _=>EO d e g (a+1) f.2)) (some (.inr b))
def HP{b:Type}(d:Nat)(c:b→Int→Option (Bool×b))(e:List Int)(f:b):Option (Int×b):=
 (EO c e d (0:Int) f).bind fun z=>Sum.elim (fun a=>some ((a.1,a.2))) (fun a=>some (((-1),a))) z
def G4{a:Type}(c:Nat)(b:a→Int→Option (Bool×a))(d:List Int)(e:a):Option (Bool×a):=
 (HP c b d e).bind fun r1=>some ((decide ((0:Int)≤r1.1),r1.2))
def Gm{a:Type}(b:Nat)(c:a→Int→Option (Bool×a))(d:List Int)(e:a):Option (Bool×a):=
 (G4 b (fun(st:a) (x:Int)=>(Ho b c x st).bind fun r=>some (r.1,r.2)) d e).bind fun r2=>some ((!r2.1,r2.2))
def GU{a:Type}(e:Nat)(b:a→Cx→Option (Bool×a))(c:Cx)(d:a):Option (Bool×a):=
 (b d c).bind fun r2=>some ((!r2.1,r2.2))
def EL{c:Type}(d:c→Cx→Option (Bool×c))(e:List Cx):Nat→Int→c→Option ((Int×c)⊕(c))
 |0,_,_=>none
 |g+1,a,b=>cond (decide (a<(e.length:Int))) ((idx e a).bind fun h=>(d b h).bind fun f=>cond (f.1) (some (.inl (a,f.2))) ((i64 (a+1)).bind fun _=>EL d e g (a+1) f.2)) (some (.inr b))
def Ht{b:Type}(d:Nat)(c:b→Cx→Option (Bool×b))(e:List Cx)(f:b):Option (Int×b):=
 (EL c e d (0:Int) f).bind fun z=>Sum.elim (fun a=>some ((a.1,a.2))) (fun a=>some (((-1),a))) z
def GO{a:Type}(c:Nat)(b:a→Cx→Option (Bool×a))(d:List Cx)(e:a):Option (Bool×a):=
 (Ht c b d e).bind fun r1=>some ((decide ((0:Int)≤r1.1),r1.2))
def HI{a:Type}(b:Nat)(c:a→Cx→Option (Bool×a))(d:List Cx)(e:a):Option (Bool×a):=
 (GO b (fun(st:a) (x:Cx)=>(GU b c x st).bind fun r=>some (r.1,r.2)) d e).bind fun r2=>some ((!r2.1,r2.2))
def Ek(c:Nat)(a:Int)(b:Int)(d:AM):Option (Bool×Int):=
 (i64 (b+1)).bind fun _=>(DE c a (b+1) d.Ao).bind fun r2=>some ((r2,a))
def Fa(a:Nat)(b:AM)(c:List Int):Option (Bool):=
 cond (decide ((c.length:Int)≤(b.AN.length:Int))) ((Gm a (fun(st:Int) (x:Int)=>(Ek a x st b).bind fun r=>some (r.1,r.2)) c (-1)).bind fun d=>some (d.1)) (some (false))
def El(b:Nat)(a:Int)(c:Int):Option (Bool×Int):=
 (DE b a 0 c).bind fun r1=>some ((r1,a))
def GV(a:Nat)(b:AM):Option (Bool):=
 cond (decide ((0:Int)<(b.AN.length:Int))) ((Gm a (fun(st:Int) (x:Int)=>(El a x st).bind fun r=>some (r.1,r.2)) b.AN 200).bind fun c=>some (c.1)) (some (false))
def Hb(a:Nat)(b:List Int):Option (Int):=
 (Hh a b).bind fun r1=>some (r1)
def FA(c:Nat)(a:AR)(b:Int):Option (AR):=
 (Hb c [a.Lo,b]).bind fun d=>some ((⟨d,max a.Hi b⟩:AR))
def DD(d:AM):Nat→(List AR)→Int→Option ((List AR))
 |0,_,_=>none
 |e+1,b,a=>cond (decide (a<(d.Am.length:Int))) ((idx d.Am a).bind fun c=>cond (c==2) ((HG (((b.length+[(⟨0,1⟩:AR)].length:Nat):Int)≤140737488355328/16)).bind fun _=>(i64 (a+1)).bind fun _=>DD d e (b++[(⟨0,1⟩:AR)]) (a+1)) ((HG (((b.length+[(⟨c,c⟩:AR)].length:Nat):Int)≤140737488355328/16)).bind fun _=>(i64 (a+1)).bind fun _=>DD d e (b++[(⟨c,c⟩:AR)]) (a+1))) (some (b))
def Em(b:Nat)(a:AM):Option ((List AR)):=
 (HG (((0+a.Ad.length:Nat):Int)≤140737488355328/16)).bind fun _=>(DD a b a.Ad (0:Int)).bind fun z5=>some (z5)
def Es(e:Nat)(c:(List AR)):Nat→Int→Int→Option (Int)
 |0,_,_=>none
 |h+1,b,a=>cond (decide (a<(c.length:Int))) ((idx c a).bind fun f=>(F2 e f).bind fun d=>(i64 (b*d)).bind fun _=>(Hb e [b*d,2001]).bind fun g=>(i64 (a+1)).bind fun _=>Es e c h g (a+1)) (some (b))
def F4(b:Nat)(a:AM):Option (Int):=
 cond (decide ((9:Int)<a.Ao)) (some (3)) (cond (decide ((3:Int)<(a.AN.length:Int))) (some (3)) (cond (decide ((5:Int)<(a.Looks.length:Int))) (some (3)) ((FT b a).bind fun k=>cond (!k) (some (1)) ((CQ b a).bind fun c=>cond ((a.Ad.length:Int) !=c) (some (1)) ((CQ b a).bind fun d=>cond ((a.Am.length:Int) !=d) (some (1)) ((GV b a).bind fun e=>cond (!e) (some (1)) ((Fa b a a.Bx).bind fun f=>cond (!f) (some (1)) ((Hn b (fun(st:Unit) (x:AR)=>(Fh b x).bind fun r=>some (r,())) a.Ad ()).bind fun g=>cond (!g.1) (some (1)) ((Gm b (fun(st:Unit) (x:Int)=>(II b x).bind fun r=>some (r,())) a.Am ()).bind fun h=>cond (!h.1) (some (1)) ((HI b (fun(st:Unit) (x:Cx)=>(F3 b a x).bind fun r=>some (r,())) a.Looks ()).bind fun i=>cond (!i.1) (some (1)) ((Em b a).bind fun j=>(Es b j b (1:Int) (0:Int)).bind fun z40=>cond (decide ((2000:Int)<z40)) (some (3)) (some (0)))))))))))))
def EN{f:Type}(g:Int→(List AR)→(List Int)→f→Option (Bool×(List Int)×f))(e:Int)(i:List AR)(j:Int):Nat→Int→(List Int)→f→Option ((Bool×(List Int)×f)⊕((List Int)×f))
 |0,_,_,_=>none
 |k+1,a,b,d=>cond (decide (a<j)) ((idx i e).bind fun h=>(i64 (h.Lo+a)).bind fun _=>(idx b e).bind fun l=>(i64 (e+1)).bind fun _=>(g (e+1) i (b.set e.toNat (h.Lo+a)) d).bind fun c=>cond (!c.1) (some (.inl (false,c.2.1,c.2.2))) ((i64 (a+1)).bind fun _=>EN g e i j k (a+1) c.2.1 c.2.2)) (some (.inr (b,d)))
def EI{b:Type}(d:Nat)(c:b→(List Int)→Option (Bool×b)):Nat→Int→(List AR)→(List Int)→b→Option (Bool×(List Int)×b)
 |0,_,_,_,_=>none
 |i+1,e,f,g,h=>cond (e==(f.length:Int)) ((c h g).bind fun r2=>some ((r2.1,g,r2.2))) ((idx f e).bind fun j=>(F2 d j).bind fun k=>(EN (EI d c i) e f k d (0:Int) g h).bind fun z=>Sum.elim (fun a=>some ((a.1,a.2.1,a.2.2))) (fun a=>some ((true,a.1,a.2))) z)
def Hc{a:Type}(c:Nat)(d:a→(List Int)→Option (Bool×a))(b:List AR)(e:a):Option (a):=
 (OV (b.length:Int) 8).bind fun _=>(EI c d c 0 b (List.replicate (b.length:Int).toNat (0:Int)) e).bind fun f=>some (f.2.2)
def Et(b:List Int)(c:Int):Nat→Int→Option ((Int)⊕(Unit))
 |0,_=>none
 |d+1,a=>cond (decide (a<(b.length:Int))) ((idx b a).bind fun e=>cond (c==e) (some (.inl a)) ((i64 (a+1)).bind fun _=>Et b c d (a+1))) (some (.inr ()))
def IA(b:Nat)(c:List Int)(d:Int):Option (Int):=
 (Et c d b (0:Int)).bind fun z=>Sum.elim (fun a=>some (a)) (fun a=>some ((-1))) z
def ES(a:Nat)(b:List Int)(c:Int):Option (Bool):=
 (IA a b c).bind fun r1=>some (decide ((0:Int)≤r1))
def CY(o:Nat)(n:Bb)(p:List Int):Nat→Int→Int→Int→Int→Int→Int→Int→Int→Int→Int→Int→Int→Option (Int×Int×Int×Int×Int×Int×Int×Int×Int×Int)
 |0,_,_,_,_,_,_,_,_,_,_,_,_=>none
 |q+1,l,a,b,c,d,e,f,g,h,i,j,k=>cond (decide (a<(n.Ad.length:Int))) ((idx n.Ad a).bind fun m=>(i64 (l+m)).bind fun _=>(idx ([b,c,d,e,f,g,h,i,j,k]:List Int) a).bind fun s=>(ES o p a).bind fun r=>cond (r) ((i64 (a+1)).bind fun _=>CY o n p q (0:Int) (a+1) (((⟨b,c,d,e,f,g,h,i,j,k⟩:BO).set a.toNat (l+m)).a0) (((⟨b,c,d,e,f,g,h,i,j,k⟩:BO).set a.toNat (l+m)).a1) (((⟨b,c,d,e,f,g,h,i,j,k⟩:BO).set a.toNat (l+m)).a2) (((⟨b,c,d,e,f,g,h,i,j,k⟩:BO).set a.toNat (l+m)).a3) (((⟨b,c,d,e,f,g,h,i,j,k⟩:BO).set a.toNat (l+m)).a4) (((⟨b,c,d,e,f,g,h,i,j,k⟩:BO).set a.toNat (l+m)).a5) (((⟨b,c,d,e,f,g,h,i,j,k⟩:BO).set a.toNat (l+m)).a6) (((⟨b,c,d,e,f,g,h,i,j,k⟩:BO).set a.toNat (l+m)).a7) (((⟨b,c,d,e,f,g,h,i,j,k⟩:BO).set a.toNat (l+m)).a8) (((⟨b,c,d,e,f,g,h,i,j,k⟩:BO).set a.toNat (l+m)).a9)) ((i64 (a+1)).bind fun _=>CY o n p q (l+m) (a+1) (((⟨b,c,d,e,f,g,h,i,j,k⟩:BO).set a.toNat (l+m)).a0) (((⟨b,c,d,e,f,g,h,i,j,k⟩:BO).set a.toNat (l+m)).a1) (((⟨b,c,d,e,f,g,h,i,j,k⟩:BO).set a.toNat (l+m)).a2) (((⟨b,c,d,e,f,g,h,i,j,k⟩:BO).set a.toNat (l+m)).a3) (((⟨b,c,d,e,f,g,h,i,j,k⟩:BO).set a.toNat (l+m)).a4) (((⟨b,c,d,e,f,g,h,i,j,k⟩:BO).set a.toNat (l+m)).a5) (((⟨b,c,d,e,f,g,h,i,j,k⟩:BO).set a.toNat (l+m)).a6) (((⟨b,c,d,e,f,g,h,i,j,k⟩:BO).set a.toNat (l+m)).a7) (((⟨b,c,d,e,f,g,h,i,j,k⟩:BO).set a.toNat (l+m)).a8) (((⟨b,c,d,e,f,g,h,i,j,k⟩:BO).set a.toNat (l+m)).a9))) (some ((b,c,d,e,f,g,h,i,j,k)))
def Fb(a:Nat)(d:Ce)(b:Bb)(c:List Int):Option (BO):=
 (CY a b c a (0:Int) (0:Int) (0:Int) (0:Int) (0:Int) (0:Int) (0:Int) (0:Int) (0:Int) (0:Int) (0:Int) (0:Int)).bind fun z3=>some ((⟨z3.1,z3.2.1,z3.2.2.1,z3.2.2.2.1,z3.2.2.2.2.1,z3.2.2.2.2.2.1,z3.2.2.2.2.2.2.1,z3.2.2.2.2.2.2.2.1,z3.2.2.2.2.2.2.2.2.1,z3.2.2.2.2.2.2.2.2.2⟩:BO))
def Gn(c:Nat)(b:Ce)(a:LA):Option (Int×(List (List Int×Int))):=
 cond (!((BI b.known [a.weight,FK a.DC]).isSome)) (cond (a.DC) ((i64 (a.weight*b.AY)).bind fun _=>(quo (a.weight*b.AY) (100:Int)).bind fun _=>(i64 ((a.weight*b.AY)/100)).bind fun _=>(i64 (a.weight-((a.weight*b.AY)/100))).bind fun _=>some ((a.weight-((a.weight*b.AY)/100),GH b.known [a.weight,FK a.DC] (a.weight-((a.weight*b.AY)/100))))) (some ((a.weight,GH b.known [a.weight,FK a.DC] a.weight)))) (some ((((BI b.known [a.weight,FK a.DC]).getD 0),b.known)))
def Dy(h:Nat)(a:Ce)(i:Bb)(g:List Int)(r2:BO):Nat→(List Df)→Int→(List (List Int×Int))→Option ((List Df)×(List (List Int×Int)))
 |0,_,_,_=>none
 |m+1,f,b,d=>cond (decide (b<(g.length:Int))) ((idx g b).bind fun j=>(idx ([r2.a0,r2.a1,r2.a2,r2.a3,r2.a4,r2.a5,r2.a6,r2.a7,r2.a8,r2.a9]:List Int) j).bind fun k=>(idx i.Am j).bind fun l=>(Gn h (⟨a.Bf,a.Au,a.AK,a.AF,a.Az,a.Bg,a.Bh,a.AY,a.As,d⟩:Ce) (⟨k,decide ((0:Int)<l)⟩:LA)).bind fun c=>(DJ h (⟨a.Bf,a.Au,a.AK,a.AF,a.Az,a.Bg,a.Bh,a.AY,a.As⟩:AM) g b).bind fun e=>(i64 (c.1*e)).bind fun _=>(HG (((f.length+[(⟨c.1,e,c.1*e⟩:Df)].length:Nat):Int)≤140737488355328/24)).bind fun _=>(i64 (b+1)).bind fun _=>Dy h a i g r2 m (f++[(⟨c.1,e,c.1*e⟩:Df)]) (b+1) c.2) (some ((f,d)))
def F5(a:Nat)(b:Ce)(c:Bb)(d:List Int):Option ((List Df)×(List (List Int×Int))):=
 (Fb a b c d).bind fun r2=>(Dy a b c d r2 a ([]:List Df) (0:Int) b.known).bind fun e=>some ((e.1,e.2))
def GW(b:Nat)(a:AM):Option (Ce):=
 some ((⟨a.Ao,a.Ad,a.Am,a.AN,a.Bx,a.Ct,a.CF,a.Trod,a.Looks,[]⟩:Ce))
def CK(d:Nat)(e:Ce)(g:List Int)(b:BO):Nat→Int→Bool→Option (Bool)
 |0,_,_=>none
 |h+1,a,c=>cond (decide (a<(e.As.length:Int))) ((idx e.As a).bind fun f=>cond (c) ((ES d g a).bind fun i=>cond (i) ((i64 (a+1)).bind fun _=>CK d e g b h (a+1) true) ((idx ([b.a0,b.a1,b.a2,b.a3,b.a4,b.a5,b.a6,b.a7,b.a8,b.a9]:List Int) f.Week).bind fun j=>(DF d (⟨f.Bo,f.Bq⟩:AR) j).bind fun k=>(i64 (a+1)).bind fun _=>CK d e g b h (a+1) k)) ((i64 (a+1)).bind fun _=>CK d e g b h (a+1) false)) (some (c))
def CL(d:Nat)(e:Ce)(g:List Int)(b:BO):Nat→Int→Bool→Option (Bool)
 |0,_,_=>none
 |h+1,a,c=>cond (decide (a<(e.As.length:Int))) ((idx e.As a).bind fun f=>cond (c) ((ES d g a).bind fun i=>cond (i) ((i64 (a+1)).bind fun _=>CL d e g b h (a+1) true) ((idx ([b.a0,b.a1,b.a2,b.a3,b.a4,b.a5,b.a6,b.a7,b.a8,b.a9]:List Int) f.Week).bind fun j=>(DF d (⟨f.Bo,f.Bq⟩:AR) j).bind fun k=>(i64 (a+1)).bind fun _=>CL d e g b h (a+1) k)) ((i64 (a+1)).bind fun _=>CL d e g b h (a+1) false)) (some (c))
def Dg{z:Type}(v:z→Bb→Option (Bool×z))(s:Nat)(b:Ce)(aA:List Int)(e:Int)(f:Int)(g:Int)(h:Int)(i:Int)(j:Int)(k:Int)(l:Int)(m:Int)(n:Int)(o:Bool)(p:Bool)(d:z)(c:(List Int)):Option (Bool×(Int×Int×Int×Int×Int×Int×Int×Int×Int×Int×Bool×Bool×z×Bool)):=
 (CQ s (⟨b.Bf,b.Au,b.AK,b.AF,b.Az,b.Bg,b.Bh,b.AY,b.As⟩:AM)).bind fun q=>(Od c.length (0:Int) q).bind fun _=>(CQ s (⟨b.Bf,b.Au,b.AK,b.AF,b.Az,b.Bg,b.Bh,b.AY,b.As⟩:AM)).bind fun r=>(Od c.length r (c.length:Int)).bind fun _=>(Fb s (⟨b.Bf,b.Au,b.AK,b.AF,b.Az,b.Bg,b.Bh,b.AY,b.As,[]⟩:Ce) (⟨BG c (0:Int) q,BG c r (c.length:Int)⟩:Bb) b.Az).bind fun a=>cond (p) ((CK s b aA a s (0:Int) true).bind fun t=>cond (t) ((v d (⟨BG c (0:Int) q,BG c r (c.length:Int)⟩:Bb)).bind fun w=>cond (!w.1) (some (false,a.a0,a.a1,a.a2,a.a3,a.a4,a.a5,a.a6,a.a7,a.a8,a.a9,t,false,w.2,true)) (some (true,a.a0,a.a1,a.a2,a.a3,a.a4,a.a5,a.a6,a.a7,a.a8,a.a9,t,false,w.2,false))) (some (true,a.a0,a.a1,a.a2,a.a3,a.a4,a.a5,a.a6,a.a7,a.a8,a.a9,t,false,d,false))) (cond ([a.a0,a.a1,a.a2,a.a3,a.a4,a.a5,a.a6,a.a7,a.a8,a.a9] !=[e,f,g,h,i,j,k,l,m,n]) ((CL s b aA a s (0:Int) true).bind fun u=>cond (u) ((v d (⟨BG c (0:Int) q,BG c r (c.length:Int)⟩:Bb)).bind fun x=>cond (!x.1) (some (false,a.a0,a.a1,a.a2,a.a3,a.a4,a.a5,a.a6,a.a7,a.a8,a.a9,u,false,x.2,true)) (some (true,a.a0,a.a1,a.a2,a.a3,a.a4,a.a5,a.a6,a.a7,a.a8,a.a9,u,false,x.2,false))) (some (true,a.a0,a.a1,a.a2,a.a3,a.a4,a.a5,a.a6,a.a7,a.a8,a.a9,u,false,d,false))) (cond (o) ((v d (⟨BG c (0:Int) q,BG c r (c.length:Int)⟩:Bb)).bind fun y=>cond (!y.1) (some (false,e,f,g,h,i,j,k,l,m,n,o,p,y.2,true)) (some (true,e,f,g,h,i,j,k,l,m,n,o,p,y.2,false))) (some (true,e,f,g,h,i,j,k,l,m,n,o,p,d,false))))
def Dz{b:Type}(d:Nat)(e:b→Bb→Option (Bool×b))(a:Ce)(f:List Int)(g:b):Option (b):=
 (Em d (⟨a.Bf,a.Au,a.AK,a.AF,a.Az,a.Bg,a.Bh,a.AY,a.As⟩:AM)).bind fun h=>(Hc d (fun(st:Int×Int×Int×Int×Int×Int×Int×Int×Int×Int×Bool×Bool×b×Bool) (x:(List Int))=>cond st.2.2.2.2.2.2.2.2.2.2.2.2.2 none (Dg e d a f st.1 st.2.1 st.2.2.1 st.2.2.2.1 st.2.2.2.2.1 st.2.2.2.2.2.1 st.2.2.2.2.2.2.1 st.2.2.2.2.2.2.2.1 st.2.2.2.2.2.2.2.2.1 st.2.2.2.2.2.2.2.2.2.1 st.2.2.2.2.2.2.2.2.2.2.1 st.2.2.2.2.2.2.2.2.2.2.2.1 st.2.2.2.2.2.2.2.2.2.2.2.2.1 x)) h ((0:Int),(0:Int),(0:Int),(0:Int),(0:Int),(0:Int),(0:Int),(0:Int),(0:Int),(0:Int),false,true,g,false)).bind fun c=>cond (c.2.2.2.2.2.2.2.2.2.2.2.2.2) (some (c.2.2.2.2.2.2.2.2.2.2.2.2.1)) (some (c.2.2.2.2.2.2.2.2.2.2.2.2.1))
def Gb(a:Bool)(b:Bb):Option (Bool×(Bool×Bool)):=
 some (false,true,true)
def FV(c:Nat)(a:Ce)(d:List Int):Option (Bool):=
 (Dz c (fun(st:Bool×Bool) (x:Bb)=>cond st.2 none (Gb st.1 x)) (⟨a.Bf,a.Au,a.AK,a.AF,a.Az,a.Bg,a.Bh,a.AY,a.As,[]⟩:Ce) d (false,false)).bind fun b=>cond (b.2) (some (b.1)) (some (false))
def Eb(a:Nat)(b:AM)(c:List Int):Option (Bool):=
 (Fa a b c).bind fun r2=>some (r2)
def HJ{a:Type}(d:Nat)(f:a→AM→Option (Bool×a))(e:AM)(g:a):Option ((Option Ce)×Int×a):=
 (F4 d e).bind fun r2=>cond (r2 !=0) (some (((none:Option Ce),r2,g))) ((f g e).bind fun b=>cond (!b.1) (some (((none:Option Ce),2,b.2))) ((GW d e).bind fun c=>(FV d c ([]:List Int)).bind fun h=>cond (!h) (some (((none:Option Ce),11,b.2))) (some (((some c),0,b.2)))))
def FW(b:Nat)(c:AM)(d:List Int):Option ((Option Ce)×Int):=
 (HJ b (fun(st:Unit) (x:AM)=>(Eb b x d).bind fun r=>some (r,())) c ()).bind fun a=>Option.elim a.1 (some (((none:Option Ce),a.2.1))) (fun e=>some (((some e),a.2.1)))
def DK{e:Type}(i:e→Bb→Option (Int×e))(j:Nat)(c:Int)(d:Int)(a:Bool)(f:e)(k:Bb):Option (Bool×(Int×Int×Bool×e)):=
 (i f k).bind fun b=>cond (a) ((FA j (⟨b.1,b.1⟩:AR) b.1).bind fun g=>some (true,g.Lo,g.Hi,false,b.2)) ((FA j (⟨c,d⟩:AR) b.1).bind fun h=>some (true,h.Lo,h.Hi,a,b.2))
def FB{b:Type}(d:Nat)(e:b→Bb→Option (Int×b))(a:Ce)(f:b):Option (AR×b):=
 (Dz d (fun(st:Int×Int×Bool×b) (x:Bb)=>DK e d st.1 st.2.1 st.2.2.1 st.2.2.2 x) (⟨a.Bf,a.Au,a.AK,a.AF,a.Az,a.Bg,a.Bh,a.AY,a.As,[]⟩:Ce) ([]:List Int) ((0:Int),(0:Int),true,f)).bind fun c=>some (((⟨c.1,c.2.1⟩:AR),c.2.2.2))
def Dq{a:Type}(e:Nat)(b:a→Df→Option (Int×a))(f:Bb)(g:Ce)(h:List Int)(i:Int)(j:a):Option (Int×(List (List Int×Int))×a):=
 (F5 e g f h).bind fun c=>(idx c.1 i).bind fun k=>(b j k).bind fun d=>some ((d.1,c.2,d.2))
def DL{b:Type}(d:Nat)(e:b→Df→Option (Int×b))(a:Ce)(f:List Int)(g:Int)(h:b):Option (AR×(List (List Int×Int))×b):=
 (FB d (fun(st:(List (List Int×Int))×b) (x:Bb)=>(Dq d e x (⟨a.Bf,a.Au,a.AK,a.AF,a.Az,a.Bg,a.Bh,a.AY,a.As,st.1⟩:Ce) f g st.2).bind fun r=>some (r.1,(r.2.1,r.2.2))) a (a.known,h)).bind fun c=>some ((c.1,c.2.1,c.2.2))
def EY(g:Nat)(h:List Int)(a:Ce):Nat→(List Ep)→Int→(List (List Int×Int))→Option ((List Ep)×(List (List Int×Int)))
 |0,_,_,_=>none
 |j+1,f,b,c=>cond (decide (b<(h.length:Int))) ((DL g (fun(st:Unit) (x:Df)=>(Gx g x).bind fun r=>some (r,())) (⟨a.Bf,a.Au,a.AK,a.AF,a.Az,a.Bg,a.Bh,a.AY,a.As,c⟩:Ce) h b ()).bind fun d=>(DJ g (⟨a.Bf,a.Au,a.AK,a.AF,a.Az,a.Bg,a.Bh,a.AY,a.As⟩:AM) h b).bind fun i=>(DL g (fun(st:Unit) (x:Df)=>(GS g x).bind fun r=>some (r,())) (⟨a.Bf,a.Au,a.AK,a.AF,a.Az,a.Bg,a.Bh,a.AY,a.As,d.2.1⟩:Ce) h b ()).bind fun e=>(HG (((f.length+[(⟨d.1.Lo,d.1.Hi,i,e.1.Lo,e.1.Hi⟩:Ep)].length:Nat):Int)≤140737488355328/40)).bind fun _=>(i64 (b+1)).bind fun _=>EY g h a j (f++[(⟨d.1.Lo,d.1.Hi,i,e.1.Lo,e.1.Hi⟩:Ep)]) (b+1) e.2.1) (some ((f,c)))
def Hy(a:Nat)(d:AM)(b:List Int):Option ((List Ep)×Int):=
 (FW a d b).bind fun r2=>Option.elim r2.1 (cond (r2.2 !=0) (some ((([]:List Ep),r2.2))) (none)) (fun c=>cond (r2.2 !=0) (some ((([]:List Ep),r2.2))) ((EY a b c a ([]:List Ep) (0:Int) c.known).bind fun e=>some ((e.1,0))))
def CV(c:List (List Int)):Nat→Int→Int→Option (Int)
 |0,_,_=>none
 |e+1,b,a=>cond (decide (a<(c.length:Int))) ((idx c a).bind fun d=>(i64 (b+(d.length:Int))).bind fun _=>cond (decide ((b+(d.length:Int))<0)) (none) ((i64 (a+1)).bind fun _=>CV c e (b+(d.length:Int)) (a+1))) (some (b))
def CX(d:List (List Int)):Nat→(List Int)→Int→Option ((List Int))
 |0,_,_=>none
 |e+1,b,a=>cond (decide (a<(d.length:Int))) ((idx d a).bind fun c=>(HG (((b.length+c.length:Nat):Int)≤140737488355328/8)).bind fun _=>(i64 (a+1)).bind fun _=>CX d e (b++c) (a+1)) (some (b))
def Gf(a:Nat)(b:List (List Int)):Option ((List Int)):=
 (CV b a (0:Int) (0:Int)).bind fun c=>(IG c).bind fun d=>(CX b a d (0:Int)).bind fun z9=>some (z9)
def Dr(c:Nat)(d:(List Int))(b:(List AR)):Nat→Int→Option ((Bool)⊕(Unit))
 |0,_=>none
 |h+1,a=>cond (decide (a<(b.length:Int))) ((idx b a).bind fun e=>(idx d a).bind fun f=>(DF c e f).bind fun g=>cond (!g) (some (.inl false)) ((i64 (a+1)).bind fun _=>Dr c d b h (a+1))) (some (.inr ()))
def Gg(a:Nat)(d:AM)(c:Bb):Option (Bool):=
 (CQ a d).bind fun f=>cond ((c.Ad.length:Int) !=f) (some (false)) ((CQ a d).bind fun g=>cond ((c.Am.length:Int) !=g) (some (false)) ((Gf a [c.Ad,c.Am]).bind fun h=>(Em a d).bind fun e=>(Dr a h e a (0:Int)).bind fun z=>Sum.elim (fun b=>some (b)) (fun b=>some (true)) z))
def IQ(a:Nat)(b:AM)(c:Bb)(d:List Int):Option ((List Df)×Int):=
 (F4 a b).bind fun e=>cond (e !=0) (some ((([]:List Df),e))) ((Gg a b c).bind fun i=>cond (!i) (some ((([]:List Df),2))) ((Fa a b d).bind fun f=>cond (!f) (some ((([]:List Df),2))) ((GW a b).bind fun g=>(F5 a g c d).bind fun h=>some ((h.1,0)))))
def CO(d:Nat)(a:Int)(b:Int)(c:Int):Option (Bool):=
 cond (decide (b≤a)) (some (decide (a≤c))) (some (false))
def E6(d:Nat)(a:AR)(b:Int)(c:Int):Option (Bool):=
 cond (decide (b≤a.Lo)) (cond (decide (a.Lo≤a.Hi)) (some (decide (a.Hi≤c))) (some (false))) (some (false))
def FC(b:Nat)(a:AR):Option (Int):=
 (i64 (a.Hi-a.Lo)).bind fun _=>(i64 ((a.Hi-a.Lo)+1)).bind fun _=>some ((a.Hi-a.Lo)+1)
def GA(b:Nat)(a:Int):Option (Int):=
 (quo a (2:Int)).bind fun _=>(i64 (a/2)).bind fun _=>(i64 ((1:Int)+(a/2))).bind fun _=>some ((1:Int)+(a/2))
def Ds(c:Nat)(d:AM)(b:List Int):Nat→Int→Option ((Bool)⊕(Unit))
 |0,_=>none
 |e+1,a=>cond (decide (a<(b.length:Int))) ((idx b a).bind fun h=>(CO c h 0 d.Ao).bind fun i=>cond (!i) (some (.inl false)) (cond (decide ((0:Int)<a)) ((idx b a).bind fun f=>(i64 (a-1)).bind fun _=>(idx b (a-1)).bind fun g=>cond (decide (f≤g)) (some (.inl false)) ((i64 (a+1)).bind fun _=>Ds c d b e (a+1))) ((i64 (a+1)).bind fun _=>Ds c d b e (a+1)))) (some (.inr ()))
def FX(b:Nat)(c:AM)(d:List Int):Option (Bool):=
 (Ds b c d b (0:Int)).bind fun z=>Sum.elim (fun a=>some (a)) (fun a=>some (decide ((d.length:Int)≤(c.AN.length:Int)))) z
def Eu(d:Nat)(c:AM):Nat→Int→Int→Option (Int)
 |0,_,_=>none
 |g+1,b,a=>cond (decide (a<(c.Ad.length:Int))) ((idx c.Ad a).bind fun h=>(FC d h).bind fun e=>(i64 (b*e)).bind fun _=>(idx c.Am a).bind fun i=>(GA d i).bind fun f=>(i64 ((b*e)*f)).bind fun _=>(i64 (a+1)).bind fun _=>Eu d c g (min (3000:Int) ((b*e)*f)) (a+1)) (some (b))
def EE(a:Nat)(b:AM):Option (Int):=
 (Eu a b a (1:Int) (0:Int)).bind fun z2=>some (z2)
def Dt(c:Nat)(b:AM):Nat→Int→Option ((Int)⊕(Unit))
 |0,_=>none
 |h+1,a=>cond (decide (a≤b.Ao)) ((idx b.Ad a).bind fun d=>(E6 c d 0 50).bind fun e=>cond (!e) (some (.inl (1:Int))) ((idx b.Am a).bind fun f=>(CO c f 0 2).bind fun g=>cond (!g) (some (.inl (1:Int))) ((i64 (a+1)).bind fun _=>Dt c b h (a+1)))) (some (.inr ()))
def C5(c:Nat)(b:AM):Nat→Int→Option ((Int)⊕(Unit))
 |0,_=>none
 |d+1,a=>cond (decide (a<(b.AN.length:Int))) ((idx b.AN a).bind fun e=>(CO c e 0 200).bind fun f=>cond (!f) (some (.inl (1:Int))) (cond (decide ((0:Int)<a)) ((idx b.AN a).bind fun g=>(i64 (a-1)).bind fun _=>(idx b.AN (a-1)).bind fun h=>cond (decide (h<g)) (some (.inl (1:Int))) ((i64 (a+1)).bind fun _=>C5 c b d (a+1))) ((i64 (a+1)).bind fun _=>C5 c b d (a+1)))) (some (.inr ()))
def CE(d:Nat)(b:AM):Nat→Int→Option ((Int)⊕(Unit))
 |0,_=>none
 |h+1,a=>cond (decide (a<(b.Looks.length:Int))) ((idx b.Looks a).bind fun e=>(CO d e.Week 0 b.Ao).bind fun f=>cond (!f) (some (.inl (1:Int))) ((idx b.Looks a).bind fun c=>(E6 d (⟨c.Bo,c.Bq⟩:AR) 0 1000).bind fun g=>cond (!g) (some (.inl (1:Int))) ((i64 (a+1)).bind fun _=>CE d b h (a+1)))) (some (.inr ()))
def Fi(b:Nat)(a:AM):Option (Int):=
 cond (decide ((9:Int)<a.Ao)) (some (3)) (cond (decide ((3:Int)<(a.AN.length:Int))) (some (3)) (cond (decide ((5:Int)<(a.Looks.length:Int))) (some (3)) (cond (decide (a.Ao<0)) (some (1)) ((i64 (a.Ao+1)).bind fun _=>cond ((a.Ad.length:Int) !=(a.Ao+1)) (some (1)) ((i64 (a.Ao+1)).bind fun _=>cond ((a.Am.length:Int) !=(a.Ao+1)) (some (1)) (cond ((a.AN.length:Int)==0) (some (1)) ((CO b a.Ct 1 10).bind fun f=>cond (!f) (some (1)) ((CO b a.CF 0 50).bind fun g=>cond (!g) (some (1)) ((CO b a.Trod 0 100).bind fun h=>cond (!h) (some (1)) ((FX b a a.Bx).bind fun i=>cond (!i) (some (1)) ((Dt b a b (0:Int)).bind fun z=>Sum.elim (fun c=>some (c)) (fun c=>(C5 b a b (0:Int)).bind fun z=>Sum.elim (fun d=>some (d)) (fun d=>(CE b a b (0:Int)).bind fun z=>Sum.elim (fun e=>some (e)) (fun e=>(EE b a).bind fun j=>cond (decide ((2000:Int)<j)) (some (3)) (some (0))) z) z) z)))))))))))
def DX(j:Nat)(h:AM):Nat→Int→Int→(List Int)→(List Int)→Option ((List Int)×(List Int))
 |0,_,_,_,_=>none
 |k+1,a,c,d,b=>cond (decide (c<(h.Ad.length:Int))) ((idx h.Ad c).bind fun g=>(FC j g).bind fun f=>(rem a f).bind fun _=>(i64 (g.Lo+(a%f))).bind fun _=>(HG (((d.length+[g.Lo+(a%f)].length:Nat):Int)≤140737488355328/8)).bind fun _=>(FC j g).bind fun e=>(quo a e).bind fun _=>(i64 (a/e)).bind fun _=>(idx h.Am c).bind fun i=>cond (i==2) ((rem (a/e) (2:Int)).bind fun _=>(quo (a/e) (2:Int)).bind fun _=>(i64 ((a/e)/2)).bind fun _=>(HG (((b.length+[(a/e)%2].length:Nat):Int)≤140737488355328/8)).bind fun _=>(i64 (c+1)).bind fun _=>DX j h k ((a/e)/2) (c+1) (d++[g.Lo+(a%f)]) (b++[(a/e)%2])) ((HG (((b.length+[i].length:Nat):Int)≤140737488355328/8)).bind fun _=>(i64 (c+1)).bind fun _=>DX j h k (a/e) (c+1) (d++[g.Lo+(a%f)]) (b++[i]))) (some ((d,b)))
def F6(a:Nat)(b:AM)(c:Int):Option (Bb):=
 (DX a b a c (0:Int) ([]:List Int) ([]:List Int)).bind fun z4=>some ((⟨z4.1,z4.2⟩:Bb))
def C9(b:List Int)(d:Int):Nat→Int→Int→Option (Int)
 |0,_,_=>none
 |e+1,c,a=>cond (decide (a<(b.length:Int))) ((idx b a).bind fun g=>cond (decide (g<d)) ((idx b a).bind fun f=>(i64 (f+1)).bind fun _=>(i64 (a+1)).bind fun _=>C9 b d e (f+1) (a+1)) ((i64 (a+1)).bind fun _=>C9 b d e c (a+1))) (some (c))
def C1(d:Bb)(e:Int):Nat→Int→Int→Option (Int)
 |0,_,_=>none
 |f+1,b,a=>cond (decide (a≤e)) ((idx d.Ad a).bind fun c=>(i64 (b+c)).bind fun _=>(i64 (a+1)).bind fun _=>C1 d e f (b+c) (a+1)) (some (b))
def Fq(a:Nat)(d:Bb)(e:List Int)(b:Int):Option (Int):=
 (C9 e b a (0:Int) (0:Int)).bind fun z2=>(C1 d b a (0:Int) z2).bind fun c=>some (c)
def Gh(b:Nat)(c:AM)(d:Bb)(a:Cx):Option (Bool):=
 (Fq b d c.Bx a.Week).bind fun e=>(CO b e a.Bo a.Bq).bind fun f=>some (f)
def DY(e:Nat)(d:AM)(c:Int):Nat→Int→Int→Option (Int)
 |0,_,_=>none
 |f+1,b,a=>cond (decide (a<(d.Looks.length:Int))) ((F6 e d c).bind fun g=>(idx d.Looks a).bind fun h=>(Gh e d g h).bind fun i=>cond (i) ((JF .u64 a).bind fun _=>(Lq (1:Int) a).bind fun _=>(PO b (G1 (1:Int) a)).bind fun _=>(i64 (a+1)).bind fun _=>DY e d c f (PQ b (G1 (1:Int) a)) (a+1)) ((i64 (a+1)).bind fun _=>DY e d c f b (a+1))) (some (b))
def DZ(c:Nat)(d:AM):Nat→(List Int)→Int→Option ((List Int))
 |0,_,_=>none
 |f+1,b,a=>(EE c d).bind fun g=>cond (decide (a<g)) ((DY c d a c (0:Int) (0:Int)).bind fun e=>(HG (((b.length+[e].length:Nat):Int)≤140737488355328/8)).bind fun _=>(i64 (a+1)).bind fun _=>DZ c d f (b++[e]) (a+1)) (some (b))
def GX(a:Nat)(b:AM):Option ((List Int)):=
 (DZ a b a ([]:List Int) (0:Int)).bind fun z2=>some (z2)
def GB(b:Nat)(a:AM):Option (Int):=
 (JF .u64 (a.Looks.length:Int)).bind fun _=>(Lq (1:Int) (a.Looks.length:Int)).bind fun _=>(i64 ((G1 (1:Int) (a.Looks.length:Int))-1)).bind fun _=>some ((G1 (1:Int) (a.Looks.length:Int))-1)
def Du(c:Nat)(d:AM)(r2:(List Int)):Nat→(List Bb)→Int→Option ((List Bb))
 |0,_,_=>none
 |f+1,b,a=>cond (decide (a<(r2.length:Int))) ((idx r2 a).bind fun g=>(GB c d).bind fun h=>cond (g==h) ((F6 c d a).bind fun e=>(HG (((b.length+[e].length:Nat):Int)≤140737488355328/48)).bind fun _=>(i64 (a+1)).bind fun _=>Du c d r2 f (b++[e]) (a+1)) ((i64 (a+1)).bind fun _=>Du c d r2 f b (a+1))) (some (b))
def FY(a:Nat)(b:AM):Option ((List Bb)):=
 (GX a b).bind fun r2=>(Du a b r2 a ([]:List Bb) (0:Int)).bind fun z4=>some (z4)
def DM(c:Int):Nat→(List Int)→Int→Option ((List Int))
 |0,_,_=>none
 |d+1,b,a=>(JF .u64 a).bind fun _=>(Nn c a).bind fun _=>cond (decide ((0:Int)<(FJ c a))) ((JF .u64 a).bind fun _=>(Nn c a).bind fun _=>(rem (FJ c a) (2:Int)).bind fun _=>cond (((FJ c a)%2)==1) ((HG (((b.length+[a].length:Nat):Int)≤140737488355328/8)).bind fun _=>(i64 (a+1)).bind fun _=>DM c d (b++[a]) (a+1)) ((i64 (a+1)).bind fun _=>DM c d b (a+1))) (some (b))
def GC(a:Nat)(b:Int):Option ((List Int)):=
 (DM b a ([]:List Int) (0:Int)).bind fun c=>some (c)
def D0(b:Nat)(a:List Int):Option ((List Int)):=
 (HG (((([]:List Int).length+a.length:Nat):Int)≤140737488355328/8)).bind fun _=>some (([]:List Int)++a)
def Gp(b:Nat)(a:AR):Option (AR):=
 some (a)
def Ec(e:Nat)(d:AM):Nat→Int→(List AR)→Option ((List AR))
 |0,_,_=>none
 |g+1,b,a=>cond (decide (b<(d.Ad.length:Int))) ((idx d.Ad b).bind fun f=>(Gp e f).bind fun c=>(HG (((a.length+[c].length:Nat):Int)≤140737488355328/16)).bind fun _=>(i64 (b+1)).bind fun _=>Ec e d g (b+1) (a++[c])) (some (a))
def DU(g:Nat)(d:AM):Nat→Int→(List Cx)→Option ((List Cx))
 |0,_,_=>none
 |h+1,b,a=>cond (decide (b<(d.Looks.length:Int))) ((idx d.Looks b).bind fun e=>(idx d.Looks b).bind fun f=>(Gp g (⟨f.Bo,f.Bq⟩:AR)).bind fun c=>(HG (((a.length+[(⟨e.Week,c.Lo,c.Hi⟩:Cx)].length:Nat):Int)≤140737488355328/24)).bind fun _=>(i64 (b+1)).bind fun _=>DU g d h (b+1) (a++[(⟨e.Week,c.Lo,c.Hi⟩:Cx)])) (some (a))
def Fj(b:Nat)(a:AM):Option (AM):=
 (D0 b a.Am).bind fun d=>(D0 b a.AN).bind fun e=>(D0 b a.Bx).bind fun f=>(Ec b a b (0:Int) ([]:List AR)).bind fun g=>(DU b a b (0:Int) ([]:List Cx)).bind fun c=>some ((⟨a.Ao,g,d,e,f,a.Ct,a.CF,a.Trod,c⟩:AM))
def Gi(a:Nat)(b:Bb):Option (Bb):=
 (D0 a b.Ad).bind fun c=>(D0 a b.Am).bind fun d=>some ((⟨c,d⟩:Bb))
def GD(b:Nat)(a:AM):Option (Bool):=
 cond (decide ((a.Ad.length:Int)≤12)) (cond (decide ((a.Am.length:Int)≤12)) (cond (decide ((a.AN.length:Int)≤5)) (cond (decide ((a.Bx.length:Int)≤12)) (cond (decide ((a.Looks.length:Int)≤7)) ((Fi b a).bind fun d=>cond (d !=0) (some (true)) ((EE b a).bind fun c=>some (decide (c≤100)))) (some (false))) (some (false))) (some (false))) (some (false))) (some (false))
def Fk(c:Nat)(a:Int)(b:Int):Option (Bool):=
 cond (b !=1) (cond (a !=2) (some (true)) (some (b==2))) (cond (a==1) (cond (a !=2) (some (true)) (some (b==2))) (some (false)))
def Dh(e:Nat)(a:Int)(b:Int)(c:Int)(f:Int)(g:Int):Option (Int):=
 (quo a (40:Int)).bind fun _=>(i64 (a/40)).bind fun _=>(i64 ((1:Int)+(a/40))).bind fun _=>(Hl e (⟨9,1,c,c,[(⟨b,b,max (1:Int) (min (5:Int) ((1:Int)+(a/40))),f,g⟩:BS)]⟩:Bv) [[0]] 0).bind fun d=>cond (d.2 !=0) (some (0)) (some (d.1))
def D1(a:Nat):Option (Bool):=
 (Dh a 20 0 1 2 1).bind fun r1=>cond (r1==1) ((Dh a 40 0 1 2 1).bind fun b=>cond (b==3) ((Dh a 40 0 1 2 0).bind fun c=>some (c==2)) (some (false))) (some (false))
end Go.Proofs.YtamobliaoknclaaGreat
end
section
namespace Go.Proofs.YtamobliaoknclaaGreat
theorem UH{β:Type}(F:Nat→Nat→Option (β⊕Unit))(n:Nat)(ok:Nat→Bool)(b:β)(h:∀m i,i<n→F (m+1) i=cond (ok i) (F m (i+1)) (some (.inl b)))(a:∀m,F (m+1) n=some (.inr ())):
  ∀(d i k:Nat),n=i+d→d<k→F k i=some (cond ((List.range' i d).all ok) (.inr ()) (.inl b))
 |0,i,0,_,c=>by omega
 |0,i,k+1,hi,_=>by
  obtain rfl:n=i:=by omega
  exact a k
 |d+1,i,0,_,c=>by omega
 |d+1,i,k+1,hi,c=>by
  rw[h k i (by omega),List.range'_succ,List.all_cons];cases ok i with
  |false=>rfl
  |true=>rw[Bool.true_and];exact UH F n ok b h a d (i+1) k (by omega) (by omega)
theorem N1{α:Type}(p:α→Bool)(xs:List α)(ok:Nat→Bool)(a:∀i (hi:i<xs.length),ok i=p xs[i]):∀(d i:Nat),xs.length=i+d→(List.range' i d).all ok=(xs.drop i).all p
 |0,i,h=>by rw[List.drop_eq_nil_of_le (by omega)];rfl
 |d+1,i,h=>by
  have hi:i<xs.length:=by omega
  rw[List.range'_succ,List.all_cons,List.drop_eq_getElem_cons hi,List.all_cons,a i hi];rw[N1 p xs ok a d (i+1) (by omega)]
theorem YJ{α β:Type}(xs:List α)(F:Nat→Nat→Option (β⊕Unit))(ok:α→Bool)(b:β)(h:∀m i (hi:i<xs.length),F (m+1) i=cond (ok xs[i]) (F m (i+1)) (some (.inl b)))(a:∀m,F (m+1) xs.length=some (.inr ()))
  {k:Nat}(d:xs.length<k):F k 0=some (cond (xs.all ok) (.inr ()) (.inl b)):=by
 by_cases c:xs.length=0
 ·obtain rfl:=List.eq_nil_of_length_eq_zero c;obtain⟨k,rfl⟩:∃k',k=k'+1:=⟨k-1,by omega⟩;exact a k
 ·have a0:α:=xs[0]'(by omega);have e:=N1 ok xs (fun i=>ok (xs.getD i a0)) (fun i hi=>by simp[List.getElem?_eq_getElem hi]) xs.length 0 (by omega);rw[List.drop_zero] at e;rw[←e];refine UH F xs.length (fun i=>ok (xs.getD i a0)) b (fun m i hi=>?_) a xs.length 0 k (by omega) d;have:=h m i hi;simpa[List.getElem?_eq_getElem hi] using this
def LP(lo hi a b:Int):Bool:=decide (a≤lo)&&(decide (lo≤hi)&&decide (hi≤b))
theorem MQ{lo hi a b:Int}:LP lo hi a b=true↔a≤lo∧lo≤hi∧hi≤b:=by simp[LP]
def Cs(r:AR):Int:=r.Hi-r.Lo+1
def EP(l:List AR):Int:=l.foldl (fun n r=>n*Cs r) 1
theorem Q7{σ α:Type}(F:Nat→Int→σ→Option ((Int×σ)⊕σ))(cb:σ→α→Option (Bool×σ))(p:List α)
  (a:∀m i s,F (m+1) i s=cond (decide (i<(p.length:Int))) ((idx p i).bind fun x=>(((cb s x).bind fun r=>some (!r.1,r.2)).bind fun r=>some (r.1,r.2)).bind fun r=>cond r.1 (some (.inl (i,r.2))) ((i64 (i+1)).bind fun _=>F m (i+1) r.2)) (some (.inr s)))
  (c:p.length≤5000):∀(n m i:Nat) (s:σ),p.length=i+n→n<m→
  (((F m (i:Int) s).bind fun z=>Sum.elim (fun q=>some (q.1,q.2)) (fun q=>some (((-1:Int)),q)) z).bind fun r=>some (decide ((0:Int)≤r.1),r.2)).bind (fun r=>some (!r.1,r.2))=run cb (p.drop i) s
 |n,0,i,s,h,hm=>by omega
 |0,m+1,i,s,h,hm=>by
  rw[a,cf (df (by omega)),List.drop_eq_nil_of_le (by omega)];rfl
 |n+1,m+1,i,s,h,hm=>by
  have hi:i<p.length:=by omega
  rw[a,ct (dt (by omega)),Cz hi,List.drop_eq_getElem_cons hi,run];cases cb s p[i] with
  |none=>rfl
  |some r=>
   obtain⟨b,s2⟩:=r;simp only[Option.bind_some];cases b with
   |false=>
    rw[nf];show some (!decide ((0:Int)≤(i:Int)),s2)=some (false,s2);rw[dt (by omega)];rfl
   |true=>
    rw[nt,BU (by omega) (by omega),Ej i,ct rfl];exact Q7 F cb p a c n m (i+1) s2 (by omega) (by omega)
theorem Nt{σ α:Type}{F:Nat→Int→σ→Option ((Int×σ)⊕σ)}{cb:σ→α→Option (Bool×σ)}{p:List α}
  (a:∀m i s,F (m+1) i s=cond (decide (i<(p.length:Int))) ((idx p i).bind fun x=>(((cb s x).bind fun r=>some (!r.1,r.2)).bind fun r=>some (r.1,r.2)).bind fun r=>cond r.1 (some (.inl (i,r.2))) ((i64 (i+1)).bind fun _=>F m (i+1) r.2)) (some (.inr s)))
  (b:p.length≤900){K:Nat}(hK:1000≤K)(s:σ):
  (((F K (0:Int) s).bind fun z=>Sum.elim (fun q=>some (q.1,q.2)) (fun q=>some (((-1:Int)),q)) z).bind fun r=>some (decide ((0:Int)≤r.1),r.2)).bind (fun r=>some (!r.1,r.2))=run cb p s:=
 Q7 F cb p a (by omega) p.length K 0 s (by omega) (by omega)
def Il(r:AR):Prop:=0≤r.Lo∧r.Lo≤r.Hi∧r.Hi≤100
theorem Io{r:AR}(h:Il r):1≤Cs r∧Cs r≤101:=by unfold Il at h;unfold Cs;omega
theorem Qa{a b x y:Int}(d:0≤a)(e:a≤x)(c:0≤b)(f:b≤y):0≤a*b∧a*b≤x*y:=
 ⟨Int.mul_nonneg d c,Int.mul_le_mul e f c (by omega)⟩
theorem Ku{a b:Int}(h:a≠b):(a==b)=false:=by rw[Bool.eq_false_iff];intro g;exact h (beq_iff_eq.1 g)
theorem Mm{a b:Int}(h:a=b):(a==b)=true:=beq_iff_eq.2 h
theorem KO{a b:Int}(h:a=b):(a !=b)=false:=by rw[h];simp
theorem Sf{a b:Int}(h:a≠b):(a !=b)=true:=by simpa using h
def Fs:List AR→List Int→Bool
 |[],[]=>true
 |r::a,x::xs=>Dl x r.Lo r.Hi&&Fs a xs
 |_,_=>false
theorem Xf(r:AR)(a:List AR):Fs (r::a) []=false:=rfl
theorem Jq:∀{a:List AR} {l:List Int},Fs a l=true→l.length=a.length
 |[],[],_=>rfl
 |[],_::_,h=>by cases h
 |_::_,[],h=>by cases h
 |r::a,x::xs,h=>by
  rw[Fs,Bool.and_eq_true] at h;rw[List.length_cons,List.length_cons,Jq h.2]
def Jd:List AR→Int→List Int
 |[],_=>[]
 |r::a,n=>(r.Lo+n%Cs r)::Jd a (n/Cs r)
theorem G5(r:AR)(l:List AR):EP (r::l)=Cs r*EP l:=by
 have:∀(l:List AR) (s:Int),l.foldl (fun n r=>n*Cs r) s=s*l.foldl (fun n r=>n*Cs r) 1:=by
  intro l
  induction l with
  |nil=>intro s;simp
  |cons r l ih=>intro s;rw[List.foldl_cons,List.foldl_cons,ih,ih (1*Cs r),Int.one_mul,Int.mul_assoc]
 unfold EP;rw[List.foldl_cons,this,Int.one_mul]
theorem SV:∀{a:List AR} {n:Int},(∀r∈a,Il r)→0≤n→Fs a (Jd a n)=true
 |[],_,_,_=>rfl
 |r::a,n,h,b=>by
  have c:=h r (List.mem_cons_self ..);have g:=Io c;have d:=Int.emod_nonneg n (by omega:Cs r≠0);have e:=Int.emod_lt_of_pos n (by omega:0<Cs r);rw[Jd,Fs,SV (fun r f=>h r (List.mem_cons_of_mem _ f)) (Int.ediv_nonneg b (by omega)),Bool.and_true,CJ];unfold Cs at e⊢;unfold Cs at d;omega
theorem Q8:∀{a:List AR} {l:List Int},(∀r∈a,Il r)→Fs a l=true→∃n:Nat,(n:Int)<EP a∧Jd a (n:Int)=l
 |[],[],_,_=>⟨0,by simp[EP],rfl⟩
 |[],_::_,_,h=>by cases h
 |_::_,[],_,h=>by cases h
 |r::a,x::xs,c,h=>by
  rw[Fs,Bool.and_eq_true] at h;obtain⟨n,g,e⟩:=Q8 (fun r d=>c r (List.mem_cons_of_mem _ d)) h.2;have i:=CJ.1 h.1;have j:=Io (c r (List.mem_cons_self ..));have b:0≤x-r.Lo∧x-r.Lo<Cs r:=by unfold Cs;omega
  have f:0≤Cs r*(n:Int):=Int.mul_nonneg (by omega) (by omega);refine⟨(x-r.Lo+Cs r*n).toNat,?_,?_⟩
  ·rw[G5];have:Cs r*((n:Int)+1)≤Cs r*EP a:=Int.mul_le_mul_of_nonneg_left (by omega) (by omega);rw[Int.mul_add] at this;omega
  ·rw[Int.toNat_of_nonneg (by omega),Jd,Int.add_mul_emod_self_left,Int.emod_eq_of_lt b.1 b.2,Int.add_mul_ediv_left _ _ (by omega),Int.ediv_eq_zero_of_lt b.1 b.2,Int.zero_add,e]
   congr 1;omega
theorem H0{α:Type}{l:List α}{i:Nat}(d:α)(h:i<l.length):l.getD i d=l[i]:=by simp[List.getElem?_eq_getElem h]
def I1:List AR→List (List Int)
 |[]=>[[]]
 |r::a=>(List.range' 0 (Cs r).toNat).flatMap fun n:Nat=>(I1 a).map fun x=>(r.Lo+(n:Int))::x
theorem LH:∀{a:List AR} {l:List Int},(∀r∈a,Il r)→(l∈I1 a↔Fs a l=true)
 |[],[],_=>by simp[I1,Fs]
 |[],_::_,_=>by simp[I1,Fs]
 |r::a,[],_=>by simp[I1,Fs]
 |r::a,x::xs,h=>by
  have f:=h r (List.mem_cons_self ..);have g:=Io f;rw[I1,List.mem_flatMap,Fs,Bool.and_eq_true,←LH (fun r i=>h r (List.mem_cons_of_mem _ i)),CJ];constructor
  ·rintro⟨n,c,d⟩;obtain⟨y,b,e⟩:=List.mem_map.1 d;injection e with k j
   subst j;rw[List.mem_range'_1] at c;refine⟨?_,b⟩;unfold Cs at c g;omega
  ·rintro⟨d,b⟩;refine⟨(x-r.Lo).toNat,?_,List.mem_map.2 ⟨xs,b,?_⟩⟩
   ·rw[List.mem_range'_1];unfold Cs;omega
   ·congr 1;omega
theorem take_set{out:List Int}{i:Nat}(v:Int)(h:i<out.length):(out.set i v).take (i+1)=out.take i++[v]:=by
 rw[List.take_succ_eq_append_getElem (by simpa using h),List.take_set_of_le (Nat.le_refl _),List.getElem_set_self]
theorem Om(K:Nat){r:AR}(h:Il r):F2 K r=some (Cs r):=by
 unfold Il at h;unfold F2 Cs;rw[BU (by omega) (by omega),BU (by omega) (by omega)]
section
variable{K:Nat}(hK:2000≤K)
include hK
theorem LI(p:List Int)(x:Int)(b:p.length≤900):ES K p x=some (p.contains x):=by
 have h:∀(n m i:Nat),p.length=i+n→n<m→((Et p x m (i:Int)).bind fun z=>Sum.elim (fun q=>some q) (fun _=>some (-1)) z).bind (fun r=>some (decide ((0:Int)≤r)))=some ((p.drop i).contains x):=by
  intro n
  induction n with
  |zero=>
   intro m i h hm;obtain⟨m,rfl⟩:∃a,m=a+1:=⟨m-1,by omega⟩;rw[Et.eq_2,cf (df (by omega)),List.drop_eq_nil_of_le (by omega)];rfl
  |succ n ih=>
   intro m i h hm;obtain⟨m,rfl⟩:∃a,m=a+1:=⟨m-1,by omega⟩;have hi:i<p.length:=by omega
   rw[Et.eq_2,ct (dt (by omega)),Cz hi,List.drop_eq_getElem_cons hi,List.contains_cons];cases e:x==p[i] with
   |true=>
    rw[ct rfl,Bool.true_or];show some (decide ((0:Int)≤(i:Int)))=some true;rw[dt (by omega)]
   |false=>rw[cf rfl,BU (by omega) (by omega),Ej i,Bool.false_or];exact ih m (i+1) (by omega) (by omega)
 have:=h p.length K 0 (by omega) (by omega);rw[Int.natCast_zero,List.drop_zero] at this;exact this
theorem Qb{σ:Type}(cb:σ→List Int→Option (Bool×σ))(f:Int→List AR→List Int→σ→Option (Bool×List Int×σ))(l:List AR)(aB:l.length≤100)(i:Nat)(hi:i<l.length)(k:Il l[i])
  (ih:∀(out:List Int) (s:σ) (b:Bool) (d:σ),out.length=l.length→run cb ((I1 (l.drop (i+1))).map fun x=>out.take (i+1)++x) s=some (b,d)→∃c,c.length=l.length∧c.take (i+1)=out.take (i+1)∧f ((i+1:Nat):Int) l out s=some (b,c,d)):
  ∀(e m n:Nat) (out:List Int) (s:σ) (b:Bool) (d:σ),Cs l[i]=(n:Int)+e→e<m→out.length=l.length→
   run cb ((List.range' n e).flatMap fun n:Nat=>(I1 (l.drop (i+1))).map fun x=>out.take i++(l[i].Lo+(n:Int))::x) s=some (b,d)→
   ∃c,c.length=l.length∧c.take i=out.take i∧(EN f (i:Int) l (Cs l[i]) m (n:Int) out s).bind (fun z=>Sum.elim (fun q=>some (q.1,q.2.1,q.2.2)) (fun q=>some (true,q.1,q.2)) z)=some (b,c,d)
 |e,0,n,out,s,b,d,h,hm,_,_=>by omega
 |0,m+1,n,out,s,b,d,h,hm,o,a=>by
  have:(true,s)=(b,d):=Option.some.inj a;injection this with p t
  subst p;subst t;refine⟨out,o,rfl,?_⟩;rw[EN.eq_2,cf (df (by omega))];rfl
 |e+1,m+1,n,out,s,b,d,h,hm,o,a=>by
  have aF:=Io k;have w:=k;unfold Il at w;have j:i<out.length:=by omega
  rw[List.range'_succ,List.flatMap_cons,J2] at a;have y:∀x:List Int,out.take i++(l[i].Lo+(n:Int))::x=(out.set i (l[i].Lo+(n:Int))).take (i+1)++x:=fun x=>by rw[take_set _ j,List.append_assoc];rfl
  simp only[y] at a;cases u:run cb ((I1 (l.drop (i+1))).map fun x=>(out.set i (l[i].Lo+(n:Int))).take (i+1)++x) s with
  |none=>rw[u] at a;cases a
  |some r=>
   obtain⟨aA,s1⟩:=r;rw[u,Option.bind_some] at a;obtain⟨g,g1,g2,g3⟩:=ih (out.set i (l[i].Lo+(n:Int))) s aA s1 (by rw[List.length_set];exact o) u;have gt:g.take i=out.take i:=by
    have:=congrArg (List.take i) g2;rw[List.take_take,List.take_take,Nat.min_eq_left (by omega),List.take_set_of_le (Nat.le_refl _)] at this;exact this
   rw[EN.eq_2,ct (dt (by omega)),Cz hi,BU (by omega) (by omega),Cz j,BU (by omega) (by omega),Ej i,Int.toNat_natCast,bd g3];cases aA with
   |false=>
    have:(false,s1)=(b,d):=Option.some.inj a;injection this with p t
    subst p;subst t;exact⟨g,g1,gt,rfl⟩
   |true=>
    rw[nt,BU (by omega) (by omega),Ej n];simp only[←y] at a;rw[←gt] at a;obtain⟨v,aC,aD,aE⟩:=Qb cb f l aB i hi k ih e m (n+1) g s1 b d (by omega) (by omega) g1 a;exact⟨v,aC,aD.trans gt,aE⟩
theorem Q9{σ:Type}(cb:σ→List Int→Option (Bool×σ))(l:List AR)(p:l.length≤100)(q:∀r∈l,Il r):∀(d k i:Nat) (out:List Int) (s:σ) (b:Bool) (c:σ),l.length=i+d→d<k→out.length=l.length→
  run cb ((I1 (l.drop i)).map fun x=>out.take i++x) s=some (b,c)→∃f,f.length=l.length∧f.take i=out.take i∧EI K cb k (i:Int) l out s=some (b,f,c)
 |d,0,i,out,s,b,c,h,t,_,_=>by omega
 |0,k+1,i,out,s,b,c,h,t,g,a=>by
  rw[List.drop_eq_nil_of_le (by omega)] at a;have e:(I1 []).map (fun x=>out.take i++x)=[out]:=by
   show[out.take i++[]]=[out];rw[List.append_nil,List.take_of_length_le (by omega)]
  rw[e] at a;refine⟨out,g,rfl,?_⟩;rw[EI.eq_2,ct (Mm (by omega))];simp only[run] at a;cases j:cb s out with
  |none=>rw[j] at a;cases a
  |some r=>
   obtain⟨u,s1⟩:=r;rw[j,Option.bind_some] at a;cases u with
   |true=>
    have:(true,s1)=(b,c):=Option.some.inj a;injection this with m n
    subst m;subst n;rfl
   |false=>
    have:(false,s1)=(b,c):=Option.some.inj a;injection this with m n
    subst m;subst n;rfl
 |d+1,k+1,i,out,s,b,c,h,t,g,a=>by
  have hi:i<l.length:=by omega
  have o:=q _ (List.getElem_mem hi);have w:=Io o;rw[List.drop_eq_getElem_cons hi,I1,List.map_flatMap] at a;simp only[List.map_map] at a;rw[EI.eq_2,cf (Ku (by omega)),Cz hi,bd (Om K o)];have:=Qb hK cb (EI K cb k) l p i hi o (fun out s b c j v=>Q9 cb l p q d k (i+1) out s b c (by omega) (by omega) j v) (Cs l[i]).toNat K 0 out s b c (by omega) (by omega) g a;rw[Int.natCast_zero] at this;exact this
theorem Vh{σ:Type}(cb:σ→List Int→Option (Bool×σ))(l:List AR)(d:l.length≤100)(e:∀r∈l,Il r)(s:σ)(b:Bool)(a:σ)(h:run cb (I1 l) s=some (b,a)):Hc K cb l s=some a:=by
 unfold Hc;obtain⟨f,_,_,c⟩:=Q9 hK cb l d e l.length K 0 (List.replicate (l.length:Int).toNat 0) s b a (by omega) (by omega) (by simp) (by simpa using h);rw[Int.natCast_zero] at c;rw[UF (by omega) (by omega) (by omega),bd c]
theorem Qc{σ:Type}(cb:σ→AR→Option (Bool×σ))(p:List AR)(a:p.length≤900)(s:σ):Hn K cb p s=run cb p s:=
 Nt (F:=ED (fun(st:σ) (x:AR)=>(Gy K cb x st).bind fun r=>some (r.1,r.2)) p) (fun _ _ _=>rfl) a (by omega) s
theorem LJ{σ:Type}(cb:σ→Int→Option (Bool×σ))(p:List Int)(a:p.length≤900)(s:σ):Gm K cb p s=run cb p s:=
 Nt (F:=EO (fun(st:σ) (x:Int)=>(Ho K cb x st).bind fun r=>some (r.1,r.2)) p) (fun _ _ _=>rfl) a (by omega) s
theorem QX{σ:Type}(cb:σ→Cx→Option (Bool×σ))(p:List Cx)(a:p.length≤900)(s:σ):HI K cb p s=run cb p s:=
 Nt (F:=EL (fun(st:σ) (x:Cx)=>(GU K cb x st).bind fun r=>some (r.1,r.2)) p) (fun _ _ _=>rfl) a (by omega) s
end
def Iu(last:Int):Int→List Int→Bool
 |_,[]=>true
 |lo,x::xs=>Dl x lo last&&Iu last (x+1) xs
def Gu(f:AM)(l:List Int):Bool:=Iu f.Ao 0 l&&decide (l.length≤f.AN.length)
def LQ:Int→List Int→Bool
 |_,[]=>true
 |p,x::xs=>Dl x 0 p&&LQ x xs
def wR (x:Int):AR:=if x=2 then ⟨0,1⟩ else ⟨x,x⟩
def Fy(f:AM):List AR:=f.Ad++f.Am.map wR
def IV(f:AM)(l:Cx):Bool:=Dl l.Week 0 f.Ao&&LP l.Bo l.Bq 0 1000
def Kw(f:AM):Bool:=(f.Ad.all fun r=>LP r.Lo r.Hi 0 50)&&f.Am.all fun x=>Dl x 0 2
def JK(f:AM):Int:=
 if 9<f.Ao then 3 else if 3<(f.AN.length:Int) then 3 else if 5<(f.Looks.length:Int) then 3
 else if f.Ao<0 then 1 else if (f.Ad.length:Int)≠f.Ao+1 then 1 else if (f.Am.length:Int)≠f.Ao+1 then 1
 else if (f.AN.length:Int)=0 then 1 else if Dl f.Ct 1 10=false then 1 else if Dl f.CF 0 50=false then 1 else if Dl f.Trod 0 100=false then 1
 else if Gu f f.Bx=false then 1 else if Kw f=false then 1 else if LQ 200 f.AN=false then 1 else if f.Looks.all (IV f)=false then 1
 else if 2000<EP (Fy f) then 3 else 0
theorem Ps{last:Int}:∀{l:List Int} {lo:Int},Iu last lo l=true→∀x∈l,lo≤x∧x≤last
 |[],_,_,x,a=>by cases a
 |y::l,lo,h,x,a=>by
  rw[Iu,Bool.and_eq_true,CJ] at h;rcases List.mem_cons.1 a with rfl|a
  ·omega
  ·have:=Ps h.2 x a;omega
theorem O5{last:Int}:∀{l:List Int} {lo:Int},Iu last lo l=true→l.Pairwise (· <·)
 |[],_,_=>List.Pairwise.nil
 |y::l,lo,h=>by
  rw[Iu,Bool.and_eq_true] at h;exact List.pairwise_cons.2 ⟨fun x a=>by have:=Ps h.2 x a;omega,O5 h.2⟩
theorem SW{last:Int}:∀{l:List Int} {lo:Int},lo≤last+1→Iu last lo l=true→(l.length:Int)≤last+1-lo
 |[],lo,h0,_=>by simp;omega
 |y::l,lo,h0,h=>by
  rw[Iu,Bool.and_eq_true,CJ] at h;have:=SW (by omega) h.2;rw[List.length_cons];omega
theorem Pt{x:Int}(h:0≤x∧x≤2):Il (wR x)∧Cs (wR x)=1+x/2:=by
 unfold wR Il Cs;split
 ·rename_i e;subst e;decide
 ·constructor<;>simp only<;>omega
theorem Je(K:Nat)(n a b:Int):CO K n a b=some (Dl n a b):=by unfold CO Dl;cases decide (a≤n)<;>rfl
theorem G7(K:Nat)(n a b:Int):DE K n a b=some (Dl n a b):=by unfold DE Dl;cases decide (a≤n)<;>rfl
theorem Mn(K:Nat)(r:AR)(a b:Int):E6 K r a b=some (LP r.Lo r.Hi a b):=by
 unfold E6 LP;cases decide (a≤r.Lo)<;>cases decide (r.Lo≤r.Hi)<;>rfl
theorem UI(K:Nat)(r:AR)(b:Int):FR K r b=some (LP r.Lo r.Hi 0 b):=Mn K r 0 b
theorem Oo(K:Nat){r:AR}(h:Il r):FC K r=some (Cs r):=Om K h
theorem Xg(K:Nat){x:Int}(h:0≤x∧x≤2):GA K x=some (Cs (wR x)):=by
 unfold GA;rw[P0 h.1 (by omega),BU (by omega) (by omega),BU (by omega) (by omega),(Pt h).2]
theorem O6(a b:List AR):EP (a++b)=EP a*EP b:=by
 induction a with
 |nil=>simp[EP]
 |cons r a ih=>rw[List.cons_append,G5,G5,ih,Int.mul_assoc]
def pz:List AR→List Int→Int
 |r::a,x::xs=>Cs r*Cs (wR x)*pz a xs
 |_,_=>1
theorem Sg:∀(a:List AR) (xs:List Int),a.length=xs.length→pz a xs=EP (a++xs.map wR)
 |[],[],_=>rfl
 |r::a,x::xs,h=>by
  rw[pz,Sg a xs (by simpa using h),O6,O6,List.map_cons,G5,G5];rw[Int.mul_assoc,Int.mul_assoc]
  congr 1
  rw[←Int.mul_assoc,←Int.mul_assoc,Int.mul_comm (Cs (wR x))]
 |[],_::_,h=>by simp at h
 |_::_,[],h=>by simp at h
theorem Vi{C a b:Int}(c:0≤C)(f:0≤a)(d:1≤b):min C (min C a*b)=min C (a*b):=by
 by_cases h:a≤C
 ·rw[Int.min_eq_right h]
 ·have e:C≤C*b:=by have:=Int.mul_le_mul_of_nonneg_left d c;omega
  have g:C*b≤a*b:=Int.mul_le_mul_of_nonneg_right (by omega) (by omega);rw[Int.min_eq_left (by omega:C≤a),Int.min_eq_left e,Int.min_eq_left (by omega)]
section
variable{K:Nat}(hK:2000≤K)
include hK
theorem Nu(f:AM)(l:List Int)(b:l.length≤100)(h9:f.Ao≤9):∀(d m i:Nat) (lo:Int),l.length=i+d→d<m→(i=0→lo=0)→(∀h:0<i,∃c:i-1<l.length,lo=l[i-1]+1∧0≤lo)→
  Ds K f l m (i:Int)=some (cond (Iu f.Ao lo (l.drop i)) (.inr ()) (.inl false))
 |d,0,i,lo,h,hm,_,_=>by omega
 |0,m+1,i,lo,h,hm,_,_=>by
  rw[Ds.eq_2,cf (df (by omega)),List.drop_eq_nil_of_le (by omega)];rfl
 |d+1,m+1,i,lo,h,hm,h0,g=>by
  have hi:i<l.length:=by omega
  rw[Ds.eq_2,ct (dt (by omega)),Cz hi,bd (Je ..),List.drop_eq_getElem_cons hi,Iu];have n:0≤lo:=by
   by_cases e:i=0
   ·rw[h0 e];exact Int.le_refl _
   ·exact(g (by omega)).2.2
  cases a:Dl l[i] 0 f.Ao with
  |false=>
   have:Dl l[i] lo f.Ao=false:=by
    rw[Bool.eq_false_iff,Ne,CJ] at a⊢;omega
   rw[nf,this,Bool.false_and,cond_false]
  |true=>
   rw[CJ] at a;rw[nt]
   by_cases e:i=0
   ·have el:=h0 e;subst e;subst el;rw[cf (df (by omega)),BU (by omega) (by omega),Ej,Nu f l b h9 d m 1 (l[0]+1) (by omega) (by omega) (by omega) (fun _=>⟨hi,rfl,by omega⟩),CJ.2 a,Bool.true_and]
   ·obtain⟨c,o,p⟩:=g (by omega);have k:(i:Int)-1=((i-1:Nat):Int):=by omega
    rw[ct (dt (by omega)),Cz hi,BU (by omega) (by omega),k,Cz c]
    by_cases j:l[i]≤l[i-1]
    ·have:Dl l[i] lo f.Ao=false:=by rw[Bool.eq_false_iff,Ne,CJ];omega
     rw[ct (dt j),this,Bool.false_and,cond_false]
    ·have:Dl l[i] lo f.Ao=true:=by rw[CJ];omega
     rw[cf (df j),BU (by omega) (by omega),Ej,Nu f l b h9 d m (i+1) (l[i]+1) (by omega) (by omega) (by omega) (fun _=>⟨by omega,by simp,by omega⟩),this,Bool.true_and]
theorem Ua(f:AM)(l:List Int)(a:l.length≤100)(h9:f.Ao≤9):FX K f l=some (Gu f l):=by
 have h:=Nu hK f l a h9 l.length K 0 0 (by omega) (by omega) (fun _=>rfl) (fun h=>by omega);rw[Int.natCast_zero,List.drop_zero] at h;unfold FX Gu;rw[bd h];cases Iu f.Ao 0 l with
 |false=>rfl
 |true=>
  rw[Bool.true_and];show some (decide _)=some (decide _)
  congr 1
  rw[decide_eq_decide];omega
theorem Qd(f:AM)(h9:f.Ao≤9):∀(l:List Int) (st:Int),-1≤st∧st≤9→(run (fun(st:Int) (x:Int)=>(Ek K x st f).bind fun r=>some (r.1,r.2)) l st).map (·.1)=some (Iu f.Ao (st+1) l)
 |[],st,_=>rfl
 |x::l,st,h=>by
  have e:(Ek K x st f).bind (fun r=>some (r.1,r.2))=some (Dl x (st+1) f.Ao,x):=by
   unfold Ek;rw[BU (by omega) (by omega),bd (G7 ..)];rfl
  rw[run,e,Iu];cases a:Dl x (st+1) f.Ao with
  |false=>rfl
  |true=>
   rw[CJ] at a;exact Qd f h9 l x (by omega)
theorem Qe(f:AM)(l:List Int)(h9:f.Ao≤9)(c:f.AN.length≤100):Fa K f l=some (Gu f l):=by
 unfold Fa Gu
 by_cases h:l.length≤f.AN.length
 ·have a:=Qd hK f h9 l (-1) (by omega);rw[ct (dt (by omega)),LJ hK _ l (by omega),dt h,Bool.and_true];cases b:run (fun(st:Int) (x:Int)=>(Ek K x st f).bind fun r=>some (r.1,r.2)) l (-1) with
  |none=>rw[b] at a;cases a
  |some r=>rw[b] at a;exact a
 ·rw[cf (df (by omega)),df h,Bool.and_false]
theorem Qf(f:AM)(b:f.AN.length≤100):∀(d m i:Nat) (p:Int),f.AN.length=i+d→d<m→p≤200→(i=0→p=200)→(∀h:0<i,∃c:i-1<f.AN.length,p=f.AN[i-1])→
  C5 K f m (i:Int)=some (cond (LQ p (f.AN.drop i)) (.inr ()) (.inl 1))
 |d,0,i,p,h,hm,_,_,_=>by omega
 |0,m+1,i,p,h,hm,_,_,_=>by
  rw[C5.eq_2,cf (df (by omega)),List.drop_eq_nil_of_le (by omega)];rfl
 |d+1,m+1,i,p,h,hm,l,h0,j=>by
  have hi:i<f.AN.length:=by omega
  rw[C5.eq_2,ct (dt (by omega)),Cz hi,bd (Je ..),List.drop_eq_getElem_cons hi,LQ];cases a:Dl f.AN[i] 0 200 with
  |false=>
   have:Dl f.AN[i] 0 p=false:=by
    rw[Bool.eq_false_iff,Ne,CJ] at a⊢;omega
   rw[nf,this,Bool.false_and,cond_false]
  |true=>
   rw[CJ] at a;rw[nt]
   by_cases e:i=0
   ·have el:=h0 e;subst e;subst el;rw[cf (df (by omega)),BU (by omega) (by omega),Ej,Qf f b d m 1 f.AN[0] (by omega) (by omega) a.2 (by omega) (fun _=>⟨hi,rfl⟩),CJ.2 a,Bool.true_and]
   ·obtain⟨c,n⟩:=j (by omega);have k:(i:Int)-1=((i-1:Nat):Int):=by omega
    rw[ct (dt (by omega)),Cz hi,BU (by omega) (by omega),k,Cz c]
    by_cases g:f.AN[i-1]<f.AN[i]
    ·have:Dl f.AN[i] 0 p=false:=by rw[Bool.eq_false_iff,Ne,CJ];omega
     rw[ct (dt g),this,Bool.false_and,cond_false]
    ·have:Dl f.AN[i] 0 p=true:=by rw[CJ];omega
     rw[cf (df g),BU (by omega) (by omega),Ej,Qf f b d m (i+1) f.AN[i] (by omega) (by omega) a.2 (by omega) (fun _=>⟨by omega,by simp⟩),this,Bool.true_and]
theorem Qg:∀(l:List Int) (p:Int),(run (fun(st:Int) (x:Int)=>(El K x st).bind fun r=>some (r.1,r.2)) l p).map (·.1)=some (LQ p l)
 |[],p=>rfl
 |x::l,p=>by
  have e:(El K x p).bind (fun r=>some (r.1,r.2))=some (Dl x 0 p,x):=by
   unfold El;rw[bd (G7 ..)];rfl
  rw[run,e,LQ];cases a:Dl x 0 p with
  |false=>rfl
  |true=>exact Qg l x
theorem Xh(f:AM)(d:f.AN.length≤100):GV K f=some (decide (0<f.AN.length)&&LQ 200 f.AN):=by
 have a:=Qg hK f.AN 200;unfold GV;rw[LJ hK _ f.AN (by omega)];cases b:run (fun(st:Int) (x:Int)=>(El K x st).bind fun r=>some (r.1,r.2)) f.AN 200 with
 |none=>rw[b] at a;cases a
 |some r=>
  rw[b] at a;have c:r.1=LQ 200 f.AN:=Option.some.inj a
  by_cases h:0<f.AN.length
  ·rw[ct (dt (by omega)),dt h,Bool.true_and,←c];rfl
  ·rw[cf (df (by omega)),df h];rfl
theorem Vj(f:AM)(c:0≤f.Ao∧f.Ao≤9)(e:(f.Ad.length:Int)=f.Ao+1)(g:(f.Am.length:Int)=f.Ao+1):Dt K f K 0=some (cond (Kw f) (.inr ()) (.inl 1)):=by
 have j:f.Ad.length=f.Am.length:=by omega
 have go:∀(d m i:Nat),f.Ad.length=i+d→d<m→Dt K f m (i:Int)=some (cond (((f.Ad.drop i).all fun r=>LP r.Lo r.Hi 0 50)&&(f.Am.drop i).all fun x=>Dl x 0 2) (.inr ()) (.inl 1)):=by
  intro d
  induction d with
  |zero=>
   intro m i h hm;obtain⟨m,rfl⟩:∃b,m=b+1:=⟨m-1,by omega⟩;rw[Dt.eq_2,cf (df (by omega)),List.drop_eq_nil_of_le (by omega),List.drop_eq_nil_of_le (by omega)];rfl
  |succ d ih=>
   intro m i h hm;obtain⟨m,rfl⟩:∃b,m=b+1:=⟨m-1,by omega⟩;have hi:i<f.Ad.length:=by omega
   have a:i<f.Am.length:=by omega
   rw[Dt.eq_2,ct (dt (by omega)),Cz hi,bd (Mn ..),List.drop_eq_getElem_cons hi,List.drop_eq_getElem_cons a,List.all_cons,List.all_cons];cases LP f.Ad[i].Lo f.Ad[i].Hi 0 50 with
   |false=>rw[nf,Bool.false_and,Bool.false_and,cond_false]
   |true=>
    rw[nt,Cz a,bd (Je ..),Bool.true_and];cases Dl f.Am[i] 0 2 with
    |false=>rw[nf,Bool.false_and,Bool.and_false,cond_false]
    |true=>rw[nt,BU (by omega) (by omega),Ej,ih m (i+1) (by omega) (by omega),Bool.true_and]
 have:=go f.Ad.length K 0 (by omega) (by omega);rw[Int.natCast_zero,List.drop_zero,List.drop_zero] at this;exact this
theorem Vk(f:AM)(a:f.Looks.length≤100):CE K f K 0=some (cond (f.Looks.all (IV f)) (.inr ()) (.inl 1)):=
 YJ f.Looks (fun m i=>CE K f m (i:Int)) (IV f) 1
  (fun m i hi=>by
   show CE K f (m+1) (i:Int)=_;rw[CE.eq_2,ct (dt (by omega)),Cz hi,bd (Je ..)];unfold IV;cases Dl f.Looks[i].Week 0 f.Ao with
   |false=>rw[nf,Bool.false_and,cond_false]
   |true=>
    rw[nt,Cz hi,bd (Mn ..),Bool.true_and];cases LP f.Looks[i].Bo f.Looks[i].Bq 0 1000 with
    |false=>rw[nf,cond_false]
    |true=>rw[nt,BU (by omega) (by omega),Ej,cond_true])
  (fun m=>by
   show CE K f (m+1) (f.Looks.length:Int)=_;rw[CE.eq_2,cf (df (by omega))]) (by omega)
theorem SX(f:AM)(o:f.Ad.length=f.Am.length)(b:f.Ad.length≤100)(c:∀r∈f.Ad,Il r)(hw:∀x∈f.Am,0≤x∧x≤2):∀(d m i:Nat) (P:Int),f.Ad.length=i+d→d<m→1≤P→
  Eu K f m (min 3000 P) (i:Int)=some (min 3000 (P*pz (f.Ad.drop i) (f.Am.drop i)))
 |d,0,i,P,h,hm,_=>by omega
 |0,m+1,i,P,h,hm,g=>by
  rw[Eu.eq_2,cf (df (by omega)),List.drop_eq_nil_of_le (by omega)];show _=some (min 3000 (P*1));rw[Int.mul_one]
 |d+1,m+1,i,P,h,hm,g=>by
  have hi:i<f.Ad.length:=by omega
  have a:i<f.Am.length:=by omega
  have j:=c _ (List.getElem_mem hi);have k:=hw _ (List.getElem_mem a);have s1:=Io j;have s2:=Pt k;have l:=Io s2.1;have p:Cs (wR f.Am[i])≤2:=by rw[s2.2];omega
  have n:=Qa (by omega:0≤min 3000 P) (by omega:min 3000 P≤3000) (by omega:0≤Cs f.Ad[i]) s1.2;have q:=Qa n.1 n.2 (by omega:0≤Cs (wR f.Am[i])) p;have s:1*1≤P*Cs f.Ad[i]:=Int.mul_le_mul g s1.1 (by omega) (by omega);have t:1*1≤P*Cs f.Ad[i]*Cs (wR f.Am[i]):=Int.mul_le_mul (by omega) l.1 (by omega) (by omega);have u:1*1≤Cs f.Ad[i]*Cs (wR f.Am[i]):=Int.mul_le_mul s1.1 l.1 (by omega) (by omega);have e:min 3000 (min 3000 P*Cs f.Ad[i]*Cs (wR f.Am[i]))=min 3000 (P*Cs f.Ad[i]*Cs (wR f.Am[i])):=by
   rw[Int.mul_assoc,Int.mul_assoc,Vi (by omega) (by omega) (by omega)]
  rw[Eu.eq_2,ct (dt (by omega)),Cz hi,bd (Oo K j),BU (by omega) (by omega),Cz a,bd (Xg K k),BU (by omega) (by omega),BU (by omega) (by omega),Ej,e,SX f o b c hw d m (i+1) _ (by omega) (by omega) (by omega),List.drop_eq_getElem_cons hi,List.drop_eq_getElem_cons a,pz]
  congr 2
  rw[Int.mul_assoc,Int.mul_assoc,Int.mul_assoc]
theorem Oq(f:AM)(b:f.Ad.length=f.Am.length)(a:f.Ad.length≤100)(c:∀r∈f.Ad,Il r)(hw:∀x∈f.Am,0≤x∧x≤2):EE K f=some (min 3000 (EP (Fy f))):=by
 have:=SX hK f b a c hw f.Ad.length K 0 1 (by omega) (by omega) (by omega);rw[Int.natCast_zero,List.drop_zero,List.drop_zero,Int.one_mul,show min (3000:Int) 1=1 from by decide,Sg _ _ b] at this;unfold EE Fy;rw[bd this]
theorem LK{f:AM}(h:Kw f=true):(∀r∈f.Ad,(0≤r.Lo∧r.Lo≤r.Hi∧r.Hi≤50)∧Il r)∧∀x∈f.Am,0≤x∧x≤2:=by
 unfold Kw at h;rw[Bool.and_eq_true,List.all_eq_true,List.all_eq_true] at h;refine⟨fun r a=>?_,fun x b=>CJ.1 (h.2 x b)⟩;have:=MQ.1 (h.1 r a);exact⟨this,by unfold Il;omega⟩
theorem Qh(f:AM)(m:f.Ad.length≤100)(w:f.Am.length≤100)(n:f.AN.length≤100)(o:f.Bx.length≤100)(p:f.Looks.length≤100):Fi K f=some (JK f):=by
 unfold Fi JK
 by_cases a:9<f.Ao
 ·rw[ct (dt a),if_pos a]
 rw[cf (df a),if_neg a]
 by_cases b:3<(f.AN.length:Int)
 ·rw[ct (dt b),if_pos b]
 rw[cf (df b),if_neg b]
 by_cases c:5<(f.Looks.length:Int)
 ·rw[ct (dt c),if_pos c]
 rw[cf (df c),if_neg c]
 by_cases d:f.Ao<0
 ·rw[ct (dt d),if_pos d]
 rw[cf (df d),if_neg d,BU (by omega) (by omega)]
 by_cases e:(f.Ad.length:Int)=f.Ao+1
 ·rw[cf (KO e),if_neg (by omega),BU (by omega) (by omega)]
  by_cases g:(f.Am.length:Int)=f.Ao+1
  ·rw[cf (KO g),if_neg (by omega)]
   by_cases i:(f.AN.length:Int)=0
   ·rw[ct (Mm i),if_pos i]
   rw[cf (Ku i),if_neg i,bd (Je ..)];cases x:Dl f.Ct 1 10 with
   |false=>rw[nf,if_pos rfl]
   |true=>
    rw[nt,if_neg (by decide),bd (Je ..)];cases y:Dl f.CF 0 50 with
    |false=>rw[nf,if_pos rfl]
    |true=>
     rw[nt,if_neg (by decide),bd (Je ..)];cases s:Dl f.Trod 0 100 with
     |false=>rw[nf,if_pos rfl]
     |true=>
      rw[nt,if_neg (by decide),bd (Ua hK f f.Bx o (by omega))];cases t:Gu f f.Bx with
      |false=>rw[nf,if_pos rfl]
      |true=>
       rw[nt,if_neg (by decide),bd (Vj hK f (by omega) e g)];cases l:Kw f with
       |false=>rw[if_pos rfl];rfl
       |true=>
        have hw:=LK hK l;have j:=Qf hK f n f.AN.length K 0 200 (by omega) (by omega) (by omega) (fun _=>rfl) (fun h=>by omega);rw[Int.natCast_zero,List.drop_zero] at j;rw[if_neg (by decide),cond_true];show(C5 K f K 0).bind _=_;rw[bd j];cases u:LQ 200 f.AN with
        |false=>rw[if_pos rfl];rfl
        |true=>
         rw[if_neg (by decide),cond_true];show(CE K f K 0).bind _=_;rw[bd (Vk hK f p)];cases v:f.Looks.all (IV f) with
         |false=>rw[if_pos rfl];rfl
         |true=>
          rw[if_neg (by decide),cond_true];show(EE K f).bind _=_;rw[bd (Oq hK f (by omega) m (fun r q=>(hw.1 r q).2) hw.2)]
          by_cases k:2000<EP (Fy f)
          ·rw[ct (dt (by omega)),if_pos k]
          ·rw[cf (df (by omega)),if_neg k]
  ·rw[ct (Sf g),if_pos g]
 ·rw[ct (Sf e),if_pos e]
end
structure OkF(f:AM):Prop where
 l0:0≤f.Ao∧f.Ao≤9
 gl:(f.Ad.length:Int)=f.Ao+1
 wl:(f.Am.length:Int)=f.Ao+1
 b0:0<f.AN.length∧f.AN.length≤3
 kl:f.Looks.length≤5
 Xi:1≤f.Ct∧f.Ct≤10
 late:0≤f.CF∧f.CF≤50
 trod:0≤f.Trod∧f.Trod≤100
 Sh:Gu f f.Bx=true
 weeks:Kw f=true
 base:LQ 200 f.AN=true
 looks:∀l∈f.Looks,IV f l=true
 many:EP (Fy f)≤100
theorem Ia{p:Prop}[Decidable p]{a b:Int}(h:(if p then a else b)=0)(d:a≠0):¬p∧b=0:=by
 by_cases c:p
 ·rw[if_pos c] at h;exact absurd h d
 ·rw[if_neg c] at h;exact⟨c,h⟩
theorem Xj{f:AM}(h:JK f=0)(hm:EP (Fy f)≤100):OkF f:=by
 unfold JK at h;obtain⟨i,h⟩:=Ia h (by decide);obtain⟨j,h⟩:=Ia h (by decide);obtain⟨k,h⟩:=Ia h (by decide);obtain⟨l,h⟩:=Ia h (by decide);obtain⟨m,h⟩:=Ia h (by decide);obtain⟨n,h⟩:=Ia h (by decide);obtain⟨o,h⟩:=Ia h (by decide);obtain⟨g,h⟩:=Ia h (by decide);obtain⟨h9,h⟩:=Ia h (by decide);obtain⟨a,h⟩:=Ia h (by decide);obtain⟨b,h⟩:=Ia h (by decide);obtain⟨c,h⟩:=Ia h (by decide);obtain⟨d,h⟩:=Ia h (by decide);obtain⟨e,h⟩:=Ia h (by decide);exact⟨by omega,by omega,by omega,by omega,by omega,CJ.1 (by simpa using g),CJ.1 (by simpa using h9),CJ.1 (by simpa using a),by simpa using b,by simpa using c,by simpa using d,List.all_eq_true.1 (by simpa using e),hm⟩
namespace OkF
variable{f:AM}(h:OkF f)
include h
theorem g:∀r∈f.Ad,(0≤r.Lo∧r.Lo≤r.Hi∧r.Hi≤50)∧Il r:=(LK (K:=2000) (Nat.le_refl _) h.weeks).1
theorem w:∀x∈f.Am,0≤x∧x≤2:=(LK (K:=2000) (Nat.le_refl _) h.weeks).2
theorem ok:∀r∈Fy f,Il r:=fun r a=>by
 rcases List.mem_append.1 a with a|a
 ·exact(h.g r a).2
 ·obtain⟨x,b,rfl⟩:=List.mem_map.1 a;exact(Pt (h.w x b)).1
theorem len:(Fy f).length=f.Ad.length+f.Am.length:=by unfold Fy;rw[List.length_append,List.length_map]
theorem bs:∀x∈f.AN,0≤x∧x≤200:=by
 have:∀(l:List Int) (p:Int),LQ p l=true→p≤200→∀x∈l,0≤x∧x≤200:=by
  intro l
  induction l with
  |nil=>intro p _ _ x a;cases a
  |cons y l ih=>
   intro p b c x a;rw[LQ,Bool.and_eq_true,CJ] at b;rcases List.mem_cons.1 a with rfl|a
   ·omega
   ·exact ih y b.2 (by omega) x a
 exact this f.AN 200 h.base (by omega)
end OkF
theorem Ot:∀{a b:List AR} {x y:List Int},x.length=a.length→Fs (a++b) (x++y)=(Fs a x&&Fs b y)
 |[],b,[],y,_=>rfl
 |[],b,_::_,y,h=>by simp at h
 |_::_,b,[],y,h=>by simp at h
 |r::a,b,v::x,y,h=>by
  rw[List.cons_append,List.cons_append,Fs,Fs,Ot (by simpa using h),Bool.and_assoc]
theorem Nv:∀{l:List AR},(∀r∈l,Il r)→1≤EP l
 |[],_=>by simp[EP]
 |r::l,h=>by
  have a:=Io (h r (by simp));have b:=Nv (l:=l) fun x c=>h x (by simp[c]);have:=Int.mul_le_mul a.1 b (by omega) (by omega);rw[G5];omega
section
variable{K:Nat}(hK:2000≤K)
include hK
theorem Vl(f:AM):∃b,GD K f=some b∧(b=true→f.Ad.length≤12∧f.Am.length≤12∧f.AN.length≤5∧f.Bx.length≤12∧f.Looks.length≤7∧(JK f=0→EP (Fy f)≤100)):=by
 unfold GD
 by_cases c:f.Ad.length≤12
 ·rw[ct (dt (by omega))]
  by_cases d:f.Am.length≤12
  ·rw[ct (dt (by omega))]
   by_cases e:f.AN.length≤5
   ·rw[ct (dt (by omega))]
    by_cases g:f.Bx.length≤12
    ·rw[ct (dt (by omega))]
     by_cases i:f.Looks.length≤7
     ·rw[ct (dt (by omega)),bd (Qh hK f (by omega) (by omega) (by omega) (by omega) (by omega))]
      by_cases a:JK f=0
      ·have j:(f.Ad.length:Int)=f.Ao+1∧(f.Am.length:Int)=f.Ao+1∧Kw f=true:=by
        have h:=a;unfold JK at h;obtain⟨_,h⟩:=Ia h (by decide);obtain⟨_,h⟩:=Ia h (by decide);obtain⟨_,h⟩:=Ia h (by decide);obtain⟨_,h⟩:=Ia h (by decide);obtain⟨n,h⟩:=Ia h (by decide);obtain⟨o,h⟩:=Ia h (by decide);obtain⟨_,h⟩:=Ia h (by decide);obtain⟨_,h⟩:=Ia h (by decide);obtain⟨_,h⟩:=Ia h (by decide);obtain⟨_,h⟩:=Ia h (by decide);obtain⟨_,h⟩:=Ia h (by decide);obtain⟨k,h⟩:=Ia h (by decide);exact⟨by omega,by omega,by simpa using k⟩
       have hw:=LK hK j.2.2;rw[cf (KO a),bd (Oq hK f (by omega) (by omega) (fun r l=>(hw.1 r l).2) hw.2)];refine⟨_,rfl,fun m=>⟨c,d,e,g,i,fun _=>?_⟩⟩;have:=of_decide_eq_true m;omega
      ·rw[ct (Sf a)];exact⟨true,rfl,fun _=>⟨c,d,e,g,i,fun h=>absurd h a⟩⟩
     ·rw[cf (df (by omega))];exact⟨false,rfl,fun h=>by cases h⟩
    ·rw[cf (df (by omega))];exact⟨false,rfl,fun h=>by cases h⟩
   ·rw[cf (df (by omega))];exact⟨false,rfl,fun h=>by cases h⟩
  ·rw[cf (df (by omega))];exact⟨false,rfl,fun h=>by cases h⟩
 ·rw[cf (df (by omega))];exact⟨false,rfl,fun h=>by cases h⟩
theorem Nw(f:AM)(b:f.Ad.length+f.Am.length≤100):Em K f=some (Fy f):=by
 have go:∀(d m i:Nat) (acc:List AR),f.Am.length=i+d→d<m→acc.length≤f.Ad.length+i→DD f m acc (i:Int)=some (acc++(f.Am.drop i).map wR):=by
  intro d
  induction d with
  |zero=>
   intro m i acc h hm _;obtain⟨m,rfl⟩:∃a,m=a+1:=⟨m-1,by omega⟩;rw[DD.eq_2,cf (df (by omega)),List.drop_eq_nil_of_le (by omega)];simp
  |succ d ih=>
   intro m i acc h hm c;obtain⟨m,rfl⟩:∃a,m=a+1:=⟨m-1,by omega⟩;have hi:i<f.Am.length:=by omega
   rw[DD.eq_2,ct (dt (by omega)),Cz hi,List.drop_eq_getElem_cons hi,List.map_cons]
   by_cases e:f.Am[i]=2
   ·rw[ct (Mm e),HO (by simp;omega),BU (by omega) (by omega),Ej,ih m (i+1) _ (by omega) (by omega) (by simp;omega)];have:wR f.Am[i]=⟨0,1⟩:=by unfold wR;rw[if_pos e]
    rw[this,List.append_assoc];rfl
   ·rw[cf (Ku e),HO (by simp;omega),BU (by omega) (by omega),Ej,ih m (i+1) _ (by omega) (by omega) (by simp;omega)];have:wR f.Am[i]=⟨f.Am[i],f.Am[i]⟩:=by unfold wR;rw[if_neg e]
    rw[this,List.append_assoc];rfl
 have:=go f.Am.length K 0 f.Ad (by omega) (by omega) (by omega);rw[Int.natCast_zero,List.drop_zero] at this;unfold Em;rw[HO (by omega),bd this];rfl
theorem SY(a b:Int):Hb K [a,b]=some (min a b):=by
 have:=SN (K:=K) (by omega) a b;unfold Ha at this;unfold Hb;exact this
theorem Qi(r:AR)(n:Int):FA K r n=some ⟨min r.Lo n,max r.Hi n⟩:=by
 unfold FA;rw[bd (SY hK ..)]
theorem O7(a:List AR)(g:a.length≤100)(b:∀r∈a,Il r):∀(d m i:Nat) (P:Int),a.length=i+d→d<m→1≤P→P*EP (a.drop i)≤100→Es K a m P (i:Int)=some (P*EP (a.drop i))
 |d,0,i,P,h,hm,_,_=>by omega
 |0,m+1,i,P,h,hm,c,_=>by
  rw[Es.eq_2,cf (df (by omega)),List.drop_eq_nil_of_le (by omega)];show _=some (P*1);rw[Int.mul_one]
 |d+1,m+1,i,P,h,hm,c,e=>by
  have hi:i<a.length:=by omega
  have f:=b _ (List.getElem_mem hi);have s1:=Io f;have j:1≤EP (a.drop (i+1)):=Nv fun r k=>b r (List.mem_of_mem_drop k);rw[List.drop_eq_getElem_cons hi,G5,←Int.mul_assoc] at e⊢;have l:1*1≤P*Cs a[i]:=Int.mul_le_mul c s1.1 (by omega) (by omega);have n:P*Cs a[i]*1≤P*Cs a[i]*EP (a.drop (i+1)):=Int.mul_le_mul_of_nonneg_left j (by omega);rw[Es.eq_2,ct (dt (by omega)),Cz hi,bd (Om K f),BU (by omega) (by omega),bd (SY hK ..),BU (by omega) (by omega),Ej,Int.min_eq_left (by omega)];exact O7 a g b d m (i+1) _ (by omega) (by omega) (by omega) e
theorem Nx{α:Type}(cb:Unit→α→Option (Bool×Unit))(ok:α→Bool)(l:List α)(h:∀x∈l,cb () x=some (ok x,())):run cb l ()=some (l.all ok,()):=by
 induction l with
 |nil=>rfl
 |cons x l ih=>
  rw[run,h x (by simp),List.all_cons];cases ok x with
  |false=>rfl
  |true=>rw[Bool.true_and];exact ih fun y a=>h y (by simp[a])
theorem K1{f:AM}(h:OkF f):CQ K f=some (f.Ao+1):=by
 have:=h.l0;unfold CQ;rw[BU (by omega) (by omega)]
theorem Qj{f:AM}(h:OkF f):F4 K f=some 0:=by
 have h0:=h.l0;have k:=h.b0;have o:=h.kl;have c:=h.gl;have d:=h.wl;have n:=h.len;have b:FT K f=some true:=by
  unfold FT;rw[ct (dt h0.1),bd (G7 ..),CJ.2 h.Xi,ct rfl,bd (G7 ..),CJ.2 h.late,ct rfl,bd (G7 ..),CJ.2 h.trod]
 have e:Hn K (fun(st:Unit) (x:AR)=>(Fh K x).bind fun r=>some (r,())) f.Ad ()=some (true,()):=by
  rw[Qc hK _ f.Ad (by omega),Nx hK _ (fun r=>LP r.Lo r.Hi 0 50) f.Ad (fun x _=>by unfold Fh;show((FR K x 50).bind _).bind _=_;rw[bd (UI ..)];rfl)];have:(f.Ad.all fun r=>LP r.Lo r.Hi 0 50)=true:=List.all_eq_true.2 fun r l=>MQ.2 (h.g r l).1;rw[this]
 have i:Gm K (fun(st:Unit) (x:Int)=>(II K x).bind fun r=>some (r,())) f.Am ()=some (true,()):=by
  rw[LJ hK _ f.Am (by omega),Nx hK _ (fun x=>Dl x 0 2) f.Am (fun x _=>by unfold II;show((DE K x 0 2).bind _).bind _=_;rw[bd (G7 ..)];rfl)];have:(f.Am.all fun x=>Dl x 0 2)=true:=List.all_eq_true.2 fun x m=>CJ.2 (h.w x m);rw[this]
 have j:HI K (fun(st:Unit) (x:Cx)=>(F3 K f x).bind fun r=>some (r,())) f.Looks ()=some (true,()):=by
  rw[QX hK _ f.Looks (by omega),Nx hK _ (IV f) f.Looks (fun x _=>by
   unfold F3 HT IV;show((((DE K x.Week 0 f.Ao).bind _).bind _)).bind _=_;rw[bd (G7 ..)];cases Dl x.Week 0 f.Ao with
   |false=>rfl
   |true=>
    show((FR K (⟨x.Bo,x.Bq⟩:AR) 1000).bind _).bind _=_;rw[bd (UI ..)];rfl)]
  rw[List.all_eq_true.2 h.looks]
 have a:=O7 hK (Fy f) (by omega) h.ok (Fy f).length K 0 1 (by omega) (by omega) (by omega) (by rw[List.drop_zero,Int.one_mul];exact h.many);rw[Int.natCast_zero,List.drop_zero,Int.one_mul] at a;have hm:=h.many;unfold F4;rw[cf (df (by omega)),cf (df (by omega)),cf (df (by omega)),bd b,nt,bd (K1 hK h),cf (KO c),bd (K1 hK h),cf (KO d),bd (Xh hK f (by omega)),dt k.1,h.base,Bool.true_and,nt,bd (Qe hK f f.Bx (by omega) (by omega)),h.Sh,nt,bd e,nt,bd i,nt,bd j,nt,bd (Nw hK f (by omega)),bd a,cf (df (by omega))]
theorem K2(l:List Int)(a:l.length≤1000):D0 K l=some l:=by
 unfold D0;rw[HO (by simp;omega),List.nil_append]
theorem Ub(f:AM)(k:f.Ad.length≤100)(l:f.Am.length≤100)(n:f.AN.length≤100)(o:f.Bx.length≤100)(p:f.Looks.length≤100):Fj K f=some f:=by
 have g:∀(d m i:Nat) (acc:List AR),f.Ad.length=i+d→d<m→acc.length≤i→Ec K f m (i:Int) acc=some (acc++f.Ad.drop i):=by
  intro d
  induction d with
  |zero=>
   intro m i acc h hm _;obtain⟨m,rfl⟩:∃a,m=a+1:=⟨m-1,by omega⟩;rw[Ec.eq_2,cf (df (by omega)),List.drop_eq_nil_of_le (by omega),List.append_nil]
  |succ d ih=>
   intro m i acc h hm j;obtain⟨m,rfl⟩:∃a,m=a+1:=⟨m-1,by omega⟩;have hi:i<f.Ad.length:=by omega
   have c:∀r,Gp K r=some r:=fun r=>rfl;rw[Ec.eq_2,ct (dt (by omega)),Cz hi,bd (c _),HO (by simp;omega),BU (by omega) (by omega),Ej,ih m (i+1) _ (by omega) (by omega) (by simp;omega),List.drop_eq_getElem_cons hi,List.append_assoc];rfl
 have e:∀(d m i:Nat) (acc:List Cx),f.Looks.length=i+d→d<m→acc.length≤i→DU K f m (i:Int) acc=some (acc++f.Looks.drop i):=by
  intro d
  induction d with
  |zero=>
   intro m i acc h hm _;obtain⟨m,rfl⟩:∃a,m=a+1:=⟨m-1,by omega⟩;rw[DU.eq_2,cf (df (by omega)),List.drop_eq_nil_of_le (by omega),List.append_nil]
  |succ d ih=>
   intro m i acc h hm j;obtain⟨m,rfl⟩:∃a,m=a+1:=⟨m-1,by omega⟩;have hi:i<f.Looks.length:=by omega
   have c:∀r,Gp K r=some r:=fun r=>rfl;rw[DU.eq_2,ct (dt (by omega)),Cz hi,Cz hi,bd (c _),HO (by simp;omega),BU (by omega) (by omega),Ej,ih m (i+1) _ (by omega) (by omega) (by simp;omega),List.drop_eq_getElem_cons hi,List.append_assoc];rfl
 have a8:=g f.Ad.length K 0 [] (by omega) (by omega) (by simp);have b:=e f.Looks.length K 0 [] (by omega) (by omega) (by simp);rw[Int.natCast_zero,List.drop_zero,List.nil_append] at a8 b;unfold Fj;rw[bd (K2 hK _ (by omega)),bd (K2 hK _ (by omega)),bd (K2 hK _ (by omega)),bd a8,bd b]
end
def Di(a:List Int):Nat→Int→List Int→List Int
 |_,_,[]=>[]
 |i,n,g::gs=>(n+g)::Di a (i+1) (if a.contains (i:Int)=true then 0 else n+g) gs
def By(l:List Int):BO:=⟨l.getD 0 0,l.getD 1 0,l.getD 2 0,l.getD 3 0,l.getD 4 0,l.getD 5 0,l.getD 6 0,l.getD 7 0,l.getD 8 0,l.getD 9 0⟩
theorem SZ(l:List Int)(v:Int)(j:Nat):(if l.length=j then v else l.getD j 0)=(l++[v]).getD j 0:=by
 rw[List.getD_eq_getElem?_getD,List.getD_eq_getElem?_getD]
 by_cases h:j<l.length
 ·rw[if_neg (by omega),List.getElem?_append_left h]
 ·rw[List.getElem?_append_right (by omega)]
  by_cases e:l.length=j
  ·subst e;simp
  ·rw[if_neg e];have a:l[j]?=none:=List.getElem?_eq_none (by omega);have b:[v][j-l.length]?=none:=List.getElem?_eq_none (by simp;omega);rw[a,b]
theorem S0(l:List Int)(v:Int):(By l).set l.length v=By (l++[v]):=by
 unfold BO.set By;simp only[SZ]
theorem Ra{l:List Int}(h:l.length≤10):((By l).l).take l.length=l:=by
 apply List.ext_getElem?;intro j;rw[List.getElem?_take]
 by_cases a:j<l.length
 ·rw[if_pos a];have b:l[j]?=some (l.getD j 0):=by rw[List.getElem?_eq_getElem a,H0 _ a]
  rw[b];have:j<10:=by omega
  unfold By BO.l
  match j,this with
  |0,_=>rfl
  |1,_=>rfl
  |2,_=>rfl
  |3,_=>rfl
  |4,_=>rfl
  |5,_=>rfl
  |6,_=>rfl
  |7,_=>rfl
  |8,_=>rfl
  |9,_=>rfl
  |j+10,h=>omega
 ·rw[if_neg a,List.getElem?_eq_none (by omega)]
theorem KI{l:List Int}(h:l.length≤10){j:Nat}(a:j<10):idx [(By l).a0,(By l).a1,(By l).a2,(By l).a3,(By l).a4,(By l).a5,(By l).a6,(By l).a7,(By l).a8,(By l).a9] (j:Int)=some (l.getD j 0):=by
 match j,a with
 |0,_=>rfl
 |1,_=>rfl
 |2,_=>rfl
 |3,_=>rfl
 |4,_=>rfl
 |5,_=>rfl
 |6,_=>rfl
 |7,_=>rfl
 |8,_=>rfl
 |9,_=>rfl
 |j+10,h=>omega
theorem Jf(a:List Int):∀(gs:List Int) (i:Nat) (n:Int),(Di a i n gs).length=gs.length
 |[],_,_=>rfl
 |g::gs,i,n=>by rw[Di,List.length_cons,List.length_cons,Jf a gs]
theorem Mo(c:List Int)(b:Int):∀(gs:List Int) (i:Nat) (n:Int),(∀g∈gs,0≤g∧g≤50)→0≤n∧n≤b→∀x∈Di c i n gs,0≤x∧x≤b+50*gs.length
 |[],_,_,_,_,x,a=>by cases a
 |g::gs,i,n,d,h,x,a=>by
  have j:=d g (by simp);rw[Di] at a;have f:(0:Int)≤50*gs.length:=by omega
  rcases List.mem_cons.1 a with rfl|a
  ·rw[List.length_cons];omega
  ·have:=Mo c (b+50) gs (i+1) _ (fun y e=>d y (by simp[e])) (by split<;>omega) x a;rw[List.length_cons];omega
section
variable{K:Nat}(hK:2000≤K)
include hK
theorem Rb(t:Bb)(a:List Int)(p:a.length≤100)(f:t.Ad.length≤10)(j:∀g∈t.Ad,0≤g∧g≤50):∀(d m i:Nat) (n:Int) (l:List Int),t.Ad.length=i+d→d<m→l.length=i→0≤n∧n≤50*i→
  CY K t a m n (i:Int) (By l).a0 (By l).a1 (By l).a2 (By l).a3 (By l).a4 (By l).a5 (By l).a6 (By l).a7 (By l).a8 (By l).a9=
   some ((By (l++Di a i n (t.Ad.drop i))).a0,(By (l++Di a i n (t.Ad.drop i))).a1,(By (l++Di a i n (t.Ad.drop i))).a2,(By (l++Di a i n (t.Ad.drop i))).a3,(By (l++Di a i n (t.Ad.drop i))).a4,(By (l++Di a i n (t.Ad.drop i))).a5,(By (l++Di a i n (t.Ad.drop i))).a6,(By (l++Di a i n (t.Ad.drop i))).a7,(By (l++Di a i n (t.Ad.drop i))).a8,(By (l++Di a i n (t.Ad.drop i))).a9)
 |d,0,i,n,l,h,hm,_,_=>by omega
 |0,m+1,i,n,l,h,hm,k,q=>by
  rw[CY.eq_2,cf (df (by omega)),List.drop_eq_nil_of_le (by omega),Di,List.append_nil]
 |d+1,m+1,i,n,l,h,hm,k,q=>by
  have hi:i<t.Ad.length:=by omega
  have r:=j _ (List.getElem_mem hi);have e:(By l).set i (n+t.Ad[i])=By (l++[n+t.Ad[i]]):=by
   have:=S0 l (n+t.Ad[i]);rw[k] at this;exact this
  have b:∀c,0≤c∧c≤50*((i+1:Nat):Int)→_:=fun c o=>Rb t a p f j d m (i+1) c (l++[n+t.Ad[i]]) (by omega) (by omega) (by simp;omega) o;rw[CY.eq_2,ct (dt (by omega)),Cz hi,BU (by omega) (by omega),bd (KI (l:=l) (by omega) (by omega)),bd (LI (by omega) a (i:Int) (by omega)),List.drop_eq_getElem_cons hi,Di];rw[show l++(n+t.Ad[i])::Di a (i+1) (if a.contains (i:Int)=true then 0 else n+t.Ad[i]) (t.Ad.drop (i+1))=(l++[n+t.Ad[i]])++Di a (i+1) (if a.contains (i:Int)=true then 0 else n+t.Ad[i]) (t.Ad.drop (i+1)) by simp];rw[Int.toNat_natCast];show cond (a.contains (i:Int)) ((i64 ((i:Int)+1)).bind fun _=>CY K t a m 0 ((i:Int)+1) ((By l).set i (n+t.Ad[i])).a0 ((By l).set i (n+t.Ad[i])).a1 ((By l).set i (n+t.Ad[i])).a2 ((By l).set i (n+t.Ad[i])).a3 ((By l).set i (n+t.Ad[i])).a4 ((By l).set i (n+t.Ad[i])).a5 ((By l).set i (n+t.Ad[i])).a6 ((By l).set i (n+t.Ad[i])).a7 ((By l).set i (n+t.Ad[i])).a8 ((By l).set i (n+t.Ad[i])).a9) ((i64 ((i:Int)+1)).bind fun _=>CY K t a m (n+t.Ad[i]) ((i:Int)+1) ((By l).set i (n+t.Ad[i])).a0 ((By l).set i (n+t.Ad[i])).a1 ((By l).set i (n+t.Ad[i])).a2 ((By l).set i (n+t.Ad[i])).a3 ((By l).set i (n+t.Ad[i])).a4 ((By l).set i (n+t.Ad[i])).a5 ((By l).set i (n+t.Ad[i])).a6 ((By l).set i (n+t.Ad[i])).a7 ((By l).set i (n+t.Ad[i])).a8 ((By l).set i (n+t.Ad[i])).a9)=_;rw[e];cases s:a.contains (i:Int) with
  |true=>
   rw[ct rfl,BU (by omega) (by omega),Ej,if_pos rfl];exact b 0 (by omega)
  |false=>
   rw[cf rfl,BU (by omega) (by omega),Ej,if_neg (by decide)];exact b _ (by omega)
theorem Rc(w:Ce)(t:Bb)(a:List Int)(c:a.length≤100)(b:t.Ad.length≤10)(d:∀g∈t.Ad,0≤g∧g≤50):Fb K w t a=some (By (Di a 0 0 t.Ad)):=by
 have:=Rb hK t a c b d t.Ad.length K 0 0 [] (by omega) (by omega) rfl (by omega);rw[Int.natCast_zero,List.drop_zero,List.nil_append] at this;unfold Fb;show(CY K t a K 0 0 (By []).a0 (By []).a1 (By []).a2 (By []).a3 (By []).a4 (By []).a5 (By []).a6 (By []).a7 (By []).a8 (By []).a9).bind _=_;rw[bd this]
end
theorem Uc{α:Type}{n:Nat}{a b:Int}{f:Unit→Option α}(h:0≤a∧a≤b∧b≤(n:Int)):(Od n a b).bind f=f ():=bd (if_pos h)
def IB (f:AM) (own:List Int):Bool:=f.Looks.all fun x=>Dl (own.getD x.Week.toNat 0) x.Bo x.Bq
def Ez(f:AM)(g:List Int):List Int:=Di f.Bx 0 0 g
def H2(f:AM)(l:List Int):Bool:=IB f (Ez f (l.take f.Ad.length))
def Gq(f:AM)(l:List Int):Bb:=⟨l.take f.Ad.length,l.drop f.Ad.length⟩
def TL (f:AM):List Bb:=((I1 (Fy f)).filter (H2 f)).map (Gq f)
def GY(f:AM)(m:List (List Int×Int)):Ce:=⟨f.Ao,f.Ad,f.Am,f.AN,f.Bx,f.Ct,f.CF,f.Trod,f.Looks,m⟩
structure LiT(f:AM)(t:Bb):Prop where
 g:Fs f.Ad t.Ad=true
 w:Fs (f.Am.map wR) t.Am=true
theorem UJ{f:AM}{l:List Int}(h:Fs (Fy f) l=true):LiT f (Gq f l):=by
 have a:=Jq h;have e:l=l.take f.Ad.length++l.drop f.Ad.length:=(List.take_append_drop ..).symm;unfold Fy at h a;rw[List.length_append,List.length_map] at a;rw[e,Ot (by rw[List.length_take];omega),Bool.and_eq_true] at h;exact⟨h.1,h.2⟩
namespace LiT
variable{f:AM}{t:Bb}(h:LiT f t)
include h
theorem gl:t.Ad.length=f.Ad.length:=Jq h.g
theorem wl:t.Am.length=f.Am.length:=by rw[Jq h.w,List.length_map]
theorem join:Fs (Fy f) (t.Ad++t.Am)=true:=by unfold Fy;rw[Ot h.gl,h.g,h.w];rfl
theorem tr:Gq f (t.Ad++t.Am)=t:=by
 unfold Gq;rw[←h.gl,List.take_left,List.drop_left]
end LiT
theorem S1:∀{d:List AR} {l:List Int},Fs d l=true→∀(a b:Int),(∀r∈d,a≤r.Lo∧r.Hi≤b)→∀x∈l,a≤x∧x≤b
 |[],[],_,_,_,_,x,c=>by cases c
 |[],_::_,h,_,_,_,_,_=>by cases h
 |_::_,[],h,_,_,_,_,_=>by cases h
 |r::d,y::l,h,a,b,e,x,c=>by
  rw[Fs,Bool.and_eq_true,CJ] at h;have g:=e r (by simp);rcases List.mem_cons.1 c with rfl|c
  ·omega
  ·exact S1 h.2 a b (fun r f=>e r (by simp[f])) x c
theorem LiT.gb{f:AM}(a:OkF f){t:Bb}(h:LiT f t):∀x∈t.Ad,0≤x∧x≤50:=S1 h.g 0 50 fun r b=>by have:=(a.g r b).1;omega
theorem N2{f:AM}(c:OkF f){t:Bb}:t∈TL f↔LiT f t∧IB f (Ez f t.Ad)=true:=by
 unfold TL;rw[List.mem_map];constructor
 ·rintro⟨l,a,rfl⟩;rw[List.mem_filter] at a;exact⟨UJ ((LH c.ok).1 a.1),a.2⟩
 ·rintro⟨b,d⟩;refine⟨t.Ad++t.Am,List.mem_filter.2 ⟨(LH c.ok).2 b.join,?_⟩,b.tr⟩;unfold H2;rw[←b.gl,List.take_left];exact d
def S2{σ:Type}(x:BO)(r b:Bool)(s:σ)(fl:Bool):Int×Int×Int×Int×Int×Int×Int×Int×Int×Int×Bool×Bool×σ×Bool:=(x.a0,x.a1,x.a2,x.a3,x.a4,x.a5,x.a6,x.a7,x.a8,x.a9,r,b,s,fl)
theorem O8{f:AM}(a:OkF f):f.Bx.length≤3:=by
 have:=a.Sh;unfold Gu at this;rw[Bool.and_eq_true,decide_eq_true_eq] at this;have:=a.b0;omega
section
variable{K:Nat}(hK:2000≤K)
include hK
theorem Mp{f:AM}(a:OkF f)(c:List (List Int×Int)){own:List Int}(g:own.length≤10):∀(d m i:Nat) (b:Bool),f.Looks.length=i+d→d<m→
  CK K (GY f c) [] (By own) m (i:Int) b=some (b&&(f.Looks.drop i).all fun x=>Dl (own.getD x.Week.toNat 0) x.Bo x.Bq)
 |d,0,i,b,h,hm=>by omega
 |0,m+1,i,b,h,hm=>by
  rw[CK.eq_2,cf (df (by show¬(i:Int)<(f.Looks.length:Int);omega)),List.drop_eq_nil_of_le (by omega),List.all_nil,Bool.and_true]
 |d+1,m+1,i,b,h,hm=>by
  have hi:i<f.Looks.length:=by omega
  have n:=a.kl;have j:=a.looks _ (List.getElem_mem hi);unfold IV at j;rw[Bool.and_eq_true,CJ,MQ] at j;have h0:=a.l0;rw[CK.eq_2,ct (dt (by show(i:Int)<(f.Looks.length:Int);omega)),List.drop_eq_getElem_cons hi,List.all_cons];show(idx f.Looks (i:Int)).bind _=_;rw[Cz hi];cases b with
  |false=>rw[cf rfl,BU (by omega) (by omega),Ej,Mp a c g d m (i+1) false (by omega) (by omega)];rfl
  |true=>
   obtain⟨k,l⟩:∃k:Nat,f.Looks[i].Week=k:=⟨f.Looks[i].Week.toNat,by omega⟩;have e:DF K (⟨f.Looks[i].Bo,f.Looks[i].Bq⟩:AR) (own.getD k 0)=some (Dl (own.getD k 0) f.Looks[i].Bo f.Looks[i].Bq):=by
    unfold DF;rw[bd (G7 ..)]
   rw[ct rfl,bd (LI (by omega) [] (i:Int) (by simp)),cf (show([]:List Int).contains (i:Int)=false from rfl),l,bd (KI g (by omega)),bd e,BU (by omega) (by omega),Ej,Mp a c g d m (i+1) _ (by omega) (by omega),Int.toNat_natCast,Bool.true_and]
theorem Mq{f:AM}(a:OkF f)(c:List (List Int×Int)){own:List Int}(g:own.length≤10):∀(d m i:Nat) (b:Bool),f.Looks.length=i+d→d<m→
  CL K (GY f c) [] (By own) m (i:Int) b=some (b&&(f.Looks.drop i).all fun x=>Dl (own.getD x.Week.toNat 0) x.Bo x.Bq)
 |d,0,i,b,h,hm=>by omega
 |0,m+1,i,b,h,hm=>by
  rw[CL.eq_2,cf (df (by show¬(i:Int)<(f.Looks.length:Int);omega)),List.drop_eq_nil_of_le (by omega),List.all_nil,Bool.and_true]
 |d+1,m+1,i,b,h,hm=>by
  have hi:i<f.Looks.length:=by omega
  have n:=a.kl;have j:=a.looks _ (List.getElem_mem hi);unfold IV at j;rw[Bool.and_eq_true,CJ,MQ] at j;have h0:=a.l0;rw[CL.eq_2,ct (dt (by show(i:Int)<(f.Looks.length:Int);omega)),List.drop_eq_getElem_cons hi,List.all_cons];show(idx f.Looks (i:Int)).bind _=_;rw[Cz hi];cases b with
  |false=>rw[cf rfl,BU (by omega) (by omega),Ej,Mq a c g d m (i+1) false (by omega) (by omega)];rfl
  |true=>
   obtain⟨k,l⟩:∃k:Nat,f.Looks[i].Week=k:=⟨f.Looks[i].Week.toNat,by omega⟩;have e:DF K (⟨f.Looks[i].Bo,f.Looks[i].Bq⟩:AR) (own.getD k 0)=some (Dl (own.getD k 0) f.Looks[i].Bo f.Looks[i].Bq):=by
    unfold DF;rw[bd (G7 ..)]
   rw[ct rfl,bd (LI (by omega) [] (i:Int) (by simp)),cf (show([]:List Int).contains (i:Int)=false from rfl),l,bd (KI g (by omega)),bd e,BU (by omega) (by omega),Ej,Mq a c g d m (i+1) _ (by omega) (by omega),Int.toNat_natCast,Bool.true_and]
theorem YK {σ:Type} {f:AM} (a:OkF f) (d:List (List Int×Int)) (cb:σ→Bb→Option (Bool×σ)) (last:List Int) (r b:Bool) (s:σ) {l:List Int} (o:Fs (Fy f) l=true) (i:b=true∨(last.length=f.Ad.length∧r=IB f last)):
  Dg cb K (GY f d) [] (By last).a0 (By last).a1 (By last).a2 (By last).a3 (By last).a4 (By last).a5 (By last).a6 (By last).a7 (By last).a8 (By last).a9 r b s l=
   cond (H2 f l) ((cb s (Gq f l)).bind fun q=>some (q.1,S2 (By (Ez f (l.take f.Ad.length))) true false q.2 (!q.1))) (some (true,S2 (By (Ez f (l.take f.Ad.length))) false false s false)):=by
 have j:=UJ o;have h0:=a.l0;have p:=a.gl;have aD:=a.wl;have aE:l.length=f.Ad.length+f.Am.length:=by rw[Jq o,a.len]
 have aB:f.Ao+1=(f.Ad.length:Int):=p.symm;have t:BG l (0:Int) (f.Ad.length:Int)=l.take f.Ad.length:=by unfold BG;simp
 have u:BG l (f.Ad.length:Int) (l.length:Int)=l.drop f.Ad.length:=by unfold BG;simp
 have k:CQ K f=some (f.Ad.length:Int):=by rw[K1 hK a,aB]
 have v:=Rc hK (GY f d) (Gq f l) f.Bx (by have:=O8 a;omega) (by have:=j.gl;omega) (j.gb a);have w:(Ez f (l.take f.Ad.length)).length=f.Ad.length:=by unfold Ez;rw[Jf,List.length_take];omega
 have e:(Ez f (l.take f.Ad.length)).length≤10:=by omega
 have m:=Mp hK a d e f.Looks.length K 0 true (by omega) (by have:=a.kl;omega);have n:=Mq hK a d e f.Looks.length K 0 true (by omega) (by have:=a.kl;omega);rw[Int.natCast_zero,List.drop_zero,Bool.true_and] at m n;have aF:IB f (Ez f (l.take f.Ad.length))=H2 f l:=rfl;unfold Dg;show((CQ K f).bind _)=_;rw[bd k,Uc (by omega)];show((CQ K f).bind _)=_;rw[bd k,Uc (by omega),t,u];show((Fb K (GY f d) (Gq f l) f.Bx).bind _)=_;rw[bd v];show cond b ((CK K (GY f d) [] (By (Ez f (l.take f.Ad.length))) K 0 true).bind _) _=_;cases b with
 |true=>
  rw[ct rfl,bd m];show cond (H2 f l) _ _=cond (H2 f l) _ _;cases g:H2 f l with
  |true=>
   rw[ct rfl,ct rfl];show(cb s (Gq f l)).bind _=(cb s (Gq f l)).bind _
   congr 1;funext q
   have c:(f.Looks.all fun x=>Dl ((Ez f (l.take f.Ad.length)).getD x.Week.toNat 0) x.Bo x.Bq)=true:=g;rw[c];cases q with|mk h qs=>cases h<;>rfl
  |false=>
   have c:(f.Looks.all fun x=>Dl ((Ez f (l.take f.Ad.length)).getD x.Week.toNat 0) x.Bo x.Bq)=false:=g;rw[cf rfl,cf rfl,c];rfl
 |false=>
  rw[cf rfl];have i:=i.resolve_left (by decide);have y:(By last).l.take f.Ad.length=last:=by rw[←i.1];exact Ra (by omega)
  have z:(By (Ez f (l.take f.Ad.length))).l.take f.Ad.length=Ez f (l.take f.Ad.length):=by
   have:=Ra e;rw[w] at this;exact this
  show cond ((By (Ez f (l.take f.Ad.length))).l !=(By last).l) ((CL K (GY f d) [] (By (Ez f (l.take f.Ad.length))) K 0 true).bind _) _=_
  by_cases he:(By (Ez f (l.take f.Ad.length))).l=(By last).l
  ·have aA:Ez f (l.take f.Ad.length)=last:=by rw[←z,←y,he]
   have aC:r=H2 f l:=by rw[i.2,←aA];rfl
   have:((By (Ez f (l.take f.Ad.length))).l !=(By last).l)=false:=by rw[he];simp
   rw[cf this,←aC,aA];cases r with
   |true=>
    rw[ct rfl,ct rfl];show(cb s (Gq f l)).bind _=(cb s (Gq f l)).bind _
    congr 1;funext q
    cases q with|mk h qs=>cases h<;>rfl
   |false=>rw[cf rfl,cf rfl];rfl
  ·have:((By (Ez f (l.take f.Ad.length))).l !=(By last).l)=true:=by simpa using he
   rw[ct this,bd n];show cond (H2 f l) _ _=cond (H2 f l) _ _;cases g:H2 f l with
   |true=>
    rw[ct rfl,ct rfl];show(cb s (Gq f l)).bind _=(cb s (Gq f l)).bind _
    congr 1;funext q
    have c:(f.Looks.all fun x=>Dl ((Ez f (l.take f.Ad.length)).getD x.Week.toNat 0) x.Bo x.Bq)=true:=g;rw[c];cases q with|mk h qs=>cases h<;>rfl
   |false=>
    have c:(f.Looks.all fun x=>Dl ((Ez f (l.take f.Ad.length)).getD x.Week.toNat 0) x.Bo x.Bq)=false:=g;rw[cf rfl,cf rfl,c];rfl
theorem Ou{σ:Type}{f:AM}(k:OkF f)(j:List (List Int×Int))(cb:σ→Bb→Option (Bool×σ)):∀(X:List (List Int)) (last:List Int) (r b:Bool) (s:σ) (c:Bool) (d:σ),(∀l∈X,Fs (Fy f) l=true)→(b=true∨(last.length=f.Ad.length∧r=IB f last))→
  run cb ((X.filter (H2 f)).map (Gq f)) s=some (c,d)→
  ∃a i b' fl,run (fun(st:Int×Int×Int×Int×Int×Int×Int×Int×Int×Int×Bool×Bool×σ×Bool) (x:List Int)=>cond st.2.2.2.2.2.2.2.2.2.2.2.2.2 none (Dg cb K (GY f j) [] st.1 st.2.1 st.2.2.1 st.2.2.2.1 st.2.2.2.2.1 st.2.2.2.2.2.1 st.2.2.2.2.2.2.1 st.2.2.2.2.2.2.2.1 st.2.2.2.2.2.2.2.2.1 st.2.2.2.2.2.2.2.2.2.1 st.2.2.2.2.2.2.2.2.2.2.1 st.2.2.2.2.2.2.2.2.2.2.2.1 st.2.2.2.2.2.2.2.2.2.2.2.2.1 x)) X (S2 (By last) r b s false)=some (c,S2 (By a) i b' d fl)
 |[],last,r,b,s,c,d,_,_,h=>by
  have:(true,s)=(c,d):=Option.some.inj h;injection this with p t
  subst p;subst t;exact⟨last,r,b,false,rfl⟩
 |l::X,last,r,b,s,c,d,u,z,h=>by
  have v:=u l (by simp);have n:∀l∈X,Fs (Fy f) l=true:=fun y aA=>u y (by simp[aA]);have e:=YK hK k j cb last r b s v z;have o:(Ez f (l.take f.Ad.length)).length=f.Ad.length:=by
   have aC:l.length=f.Ad.length+f.Am.length:=by rw[Jq v,k.len]
   unfold Ez;rw[Jf,List.length_take];omega
  rw[run];show∃a i b' fl,((cond false none (Dg cb K (GY f j) [] (By last).a0 (By last).a1 (By last).a2 (By last).a3 (By last).a4 (By last).a5 (By last).a6 (By last).a7 (By last).a8 (By last).a9 r b s l)).bind _)=_;rw[cf rfl,e];cases m:H2 f l with
  |false=>
   rw[List.filter_cons_of_neg (by rw[m];simp)] at h;rw[cf rfl,Option.bind_some];obtain⟨a,i,b',fl,g⟩:=Ou k j cb X (Ez f (l.take f.Ad.length)) false false s c d n (.inr ⟨o,m.symm⟩) h;exact⟨a,i,b',fl,g⟩
  |true=>
   rw[List.filter_cons_of_pos m,List.map_cons,run] at h;rw[ct rfl];cases w:cb s (Gq f l) with
   |none=>rw[w] at h;cases h
   |some q=>
    obtain⟨aB,qs⟩:=q;rw[w,Option.bind_some] at h;rw[Option.bind_some,Option.bind_some];cases aB with
    |false=>
     have:(false,qs)=(c,d):=Option.some.inj h;injection this with p t
     subst p;subst t;exact⟨_,true,false,true,rfl⟩
    |true=>
     obtain⟨a,i,b',fl,g⟩:=Ou k j cb X (Ez f (l.take f.Ad.length)) true false qs c d n (.inr ⟨o,m.symm⟩) h;exact⟨a,i,b',fl,g⟩
theorem Mr{σ:Type}{f:AM}(a:OkF f)(d:List (List Int×Int))(cb:σ→Bb→Option (Bool×σ))(s:σ)(c:Bool)(b:σ)(h:run cb (TL f) s=some (c,b)):Dz K cb (GY f d) [] s=some b:=by
 have hlen:=a.len;have h0:=a.l0;have j:=a.gl;have k:=a.wl;obtain⟨e,m,b',fl,g⟩:=Ou hK a d cb (I1 (Fy f)) [] false true s c b (fun l i=>(LH a.ok).1 i) (.inl rfl) h;have gl:=Vh hK _ (Fy f) (by omega) a.ok _ c _ g;unfold Dz;show((Em K f).bind _)=_;rw[bd (Nw hK f (by omega))];show((Hc K _ (Fy f) (S2 (By []) false true s false)).bind _)=_;rw[bd gl];cases fl<;>rfl
theorem QY{f:AM}(a:OkF f)(c:List (List Int×Int)):FV K (GY f c) []=some (decide (TL f≠[])):=by
 unfold FV;cases b:TL f with
 |nil=>
  show((Dz K _ (GY f []) [] (false,false)).bind _)=_;rw[bd (Mr hK a [] _ (false,false) true (false,false) (by rw[b];rfl))];rfl
 |cons t T=>
  show((Dz K _ (GY f []) [] (false,false)).bind _)=_;rw[bd (Mr hK a [] _ (false,false) false (true,true) (by rw[b];rfl))];rfl
theorem Ni{σ:Type}(I:σ→Prop)(cb:σ→Bb→Option (Int×σ))(F:Bb→Int):∀(X:List Bb) (lo hi:Int) (b:Bool) (s:σ),I s→(∀t∈X,∀s,I s→∃d,I d∧cb s t=some (F t,d))→
  ∃f g b' d,I d∧run (fun(st:Int×Int×Bool×σ) (x:Bb)=>DK cb K st.1 st.2.1 st.2.2.1 st.2.2.2 x) X (lo,hi,b,s)=some (true,f,g,b',d)∧(b=false→f≤lo∧hi≤g)∧(∀t∈X,f≤F t∧F t≤g)∧
   ∀a c,(∀t∈X,a≤F t∧F t≤c)→(b=false→a≤lo∧hi≤c)→(X≠[]∨b=false)→a≤f∧g≤c
 |[],lo,hi,b,s,k,_=>⟨lo,hi,b,s,k,rfl,fun _=>⟨Int.le_refl _,Int.le_refl _⟩,(fun t n=>by cases n),fun a c _ l j=>l (j.resolve_left (by simp))⟩
 |t::X,lo,hi,b,s,k,h=>by
  obtain⟨s1,m,e⟩:=h t (by simp) s k;have o:∀t∈X,∀s,I s→∃d,I d∧cb s t=some (F t,d):=fun y i=>h y (by simp[i]);have p:DK cb K lo hi b s t=some (true,(cond b (min (F t) (F t)) (min lo (F t))),(cond b (max (F t) (F t)) (max hi (F t))),false,s1):=by
   unfold DK;rw[bd e];cases b with
   |true=>rw[ct rfl,bd (Qi hK ..)];rfl
   |false=>rw[cf rfl,bd (Qi hK ..)];rfl
  obtain⟨f,g,b',d,q,l,j,r,u⟩:=Ni I cb F X (cond b (min (F t) (F t)) (min lo (F t))) (cond b (max (F t) (F t)) (max hi (F t))) false s1 m o;refine⟨f,g,b',d,q,?_,?_,?_,?_⟩
  ·rw[run];show((DK cb K lo hi b s t).bind _)=_;rw[p,Option.bind_some];exact l
  ·intro v;have:=j rfl;subst v;rw[cond_false,cond_false] at this;omega
  ·intro y i;rcases List.mem_cons.1 i with rfl|i
   ·have:=j rfl;cases b<;>simp only[cond_true,cond_false] at this<;>omega
   ·exact r y i
  ·intro a c g1 g2 _;have g3:=g1 t (by simp);refine u a c (fun y i=>g1 y (by simp[i])) (fun _=>?_) (.inr rfl);cases b with
   |true=>simp only[cond_true];omega
   |false=>have:=g2 rfl;simp only[cond_false];omega
theorem S3{σ:Type}{f:AM}(e:OkF f)(g:List (List Int×Int))(I:σ→Prop)(cb:σ→Bb→Option (Int×σ))(F:Bb→Int)(s:σ)(i:I s)(h:∀t∈TL f,∀s,I s→∃d,I d∧cb s t=some (F t,d)):
  ∃r d,I d∧FB K cb (GY f g) s=some (r,d)∧(∀t∈TL f,r.Lo≤F t∧F t≤r.Hi)∧∀a c,(∀t∈TL f,a≤F t∧F t≤c)→TL f≠[]→a≤r.Lo∧r.Hi≤c:=by
 obtain⟨lo,hi,b,d,j,k,_,l,m⟩:=Ni hK I cb F (TL f) 0 0 true s i h;refine⟨⟨lo,hi⟩,d,j,?_,l,fun a c g1 g2=>m a c g1 (fun h=>by cases h) (.inl g2)⟩;unfold FB;show((Dz K _ (GY f []) [] (0,0,true,s)).bind _)=_;rw[bd (Mr hK e [] _ _ true _ k)]
end
def KJ(f:AM)(n:Int)(b:Bool):Int:=cond b (n-n*f.Trod/100) n
def IC(f:AM)(t:Bb)(p:List Int)(k:Nat):Int:=KJ f ((Di p 0 0 t.Ad).getD (p.getD k 0).toNat 0) (decide ((0:Int)<t.Am.getD (p.getD k 0).toNat 0))
def ID(f:AM)(p:List Int)(k:Nat):Int:=max 0 (f.AN.getD k 0-f.CF*max 0 (p.getD k 0-(if k=0 then-1 else p.getD (k-1) 0)-f.Ct))
def If(f:AM)(t:Bb)(p:List Int)(k:Nat):Df:=⟨IC f t p k,ID f p k,IC f t p k*ID f p k⟩
def GF(f:AM)(t:Bb)(p:List Int):List Df:=(List.range p.length).map (If f t p)
def Jr(f:AM)(m:List (List Int×Int)):Prop:=∀(n v:Int) (b:Bool),BI m [n,FK b]=some v→v=KJ f n b
theorem Qk(f:AM):Jr f []:=fun n v b h=>by cases h
theorem Vm{a b:Bool}(h:FK a=FK b):a=b:=by revert h;cases a<;>cases b<;>decide
theorem Js{f:AM}{p:List Int}(a:Gu f p=true):(∀x∈p,0≤x∧x≤f.Ao)∧p.length≤f.AN.length:=by
 unfold Gu at a;rw[Bool.and_eq_true,decide_eq_true_eq] at a;exact⟨Ps a.1,a.2⟩
theorem Ud{f:AM}(d:OkF f){n:Int}(b:Bool)(a:0≤n∧n≤500):0≤KJ f n b∧KJ f n b≤500:=by
 have c:=d.trod;unfold KJ;cases b with
 |false=>exact a
 |true=>
  have e:0≤n*f.Trod:=Int.mul_nonneg a.1 c.1;have g:n*f.Trod≤n*100:=Int.mul_le_mul_of_nonneg_left c.2 a.1;simp only[cond_true];omega
theorem Ov{f:AM}(a:OkF f){t:Bb}(h:LiT f t)(p:List Int)(k:Nat):0≤IC f t p k∧IC f t p k≤500:=by
 have c:=h.gl;have h0:=a.l0;have d:=a.gl;refine Ud a _ ?_;rw[List.getD_eq_getElem?_getD];cases e:(Di p 0 0 t.Ad)[(p.getD k 0).toNat]? with
 |none=>exact⟨Int.le_refl _,by show(0:Int)≤500;decide⟩
 |some x=>
  have b:=List.mem_of_getElem? e;have:=Mo p 0 t.Ad 0 0 (h.gb a) (by omega) x b;show 0≤x∧x≤500;omega
theorem Vn{f:AM}(a:OkF f)(p:List Int)(k:Nat):0≤ID f p k∧ID f p k≤200:=by
 have b:=a.late;have h0:0≤f.AN.getD k 0∧f.AN.getD k 0≤200:=by
  rw[List.getD_eq_getElem?_getD];cases e:f.AN[k]? with
  |none=>exact⟨Int.le_refl _,by show(0:Int)≤200;decide⟩
  |some x=>exact a.bs x (List.mem_of_getElem? e)
 unfold ID;have c:0≤f.CF*max 0 (p.getD k 0-(if k=0 then-1 else p.getD (k-1) 0)-f.Ct):=Int.mul_nonneg b.1 (by omega);generalize f.CF*max 0 (p.getD k 0-(if k=0 then-1 else p.getD (k-1) 0)-f.Ct)=z at c;omega
section
variable{K:Nat}(hK:2000≤K)
include hK
theorem Xk{f:AM}(g:OkF f){m:List (List Int×Int)}(hm:Jr f m){n:Int}(c:0≤n∧n≤500)(b:Bool):
  ∃a,Jr f a∧Gn K (GY f m) ⟨n,b⟩=some (KJ f n b,a):=by
 have d:=g.trod;have i:0≤n*f.Trod:=Int.mul_nonneg c.1 d.1;have k:n*f.Trod≤n*100:=Int.mul_le_mul_of_nonneg_left d.2 c.1;have put:Jr f (GH m [n,FK b] (KJ f n b)):=fun j v b' e=>by
  rw[Na] at e;split at e
  ·rename_i h
   injection h with g1 g2
   injection g2 with g2 _
   rw[g1,Vm g2];exact(Option.some.inj e).symm
  ·exact hm j v b' e
 unfold Gn;show∃a,Jr f a∧cond (!((BI m [n,FK b]).isSome)) (cond b ((i64 (n*f.Trod)).bind fun _=>(quo (n*f.Trod) (100:Int)).bind fun _=>(i64 ((n*f.Trod)/100)).bind fun _=>(i64 (n-((n*f.Trod)/100))).bind fun _=>some ((n-((n*f.Trod)/100),GH m [n,FK b] (n-((n*f.Trod)/100))))) (some ((n,GH m [n,FK b] n)))) (some ((((BI m [n,FK b]).getD 0),m)))=_;cases e:BI m [n,FK b] with
 |some v=>exact⟨m,hm,by rw[show(!(some v).isSome)=false from rfl,cf rfl,←hm n v b e];rfl⟩
 |none=>
  refine⟨_,put,?_⟩;rw[show(!(none:Option Int).isSome)=true from rfl,ct rfl];cases b with
  |true=>
   rw[ct rfl,BU (by omega) (by omega),P0 i (by omega),BU (by omega) (by omega),BU (by omega) (by omega)];rfl
  |false=>rw[cf rfl];rfl
theorem N3{f:AM}(b:OkF f){p:List Int}(l:Gu f p=true){k:Nat}(d:k<p.length):DJ K f p (k:Int)=some (ID f p k):=by
 obtain⟨g,n⟩:=Js l;have h0:=b.l0;have r:=b.Xi;have o:=b.b0;have i:=b.late;have a:k<f.AN.length:=by omega
 have s:=g _ (List.getElem_mem d);have t:=b.bs _ (List.getElem_mem a);have h:∀z:Int,0≤z→z≤100→0≤f.CF*z∧f.CF*z≤50*100:=fun z j m=>⟨Int.mul_nonneg i.1 j,Int.mul_le_mul i.2 m j (by omega)⟩;unfold DJ ID;rw[H0 _ a,H0 _ d]
 by_cases e:k=0
 ·subst e;have:=h (max 0 (p[0]-(-1)-f.Ct)) (by omega) (by omega);rw[cf (df (by omega)),Cz a,Cz d,BU (by omega) (by omega),BU (by omega) (by omega),BU (by omega) (by omega),BU (by omega) (by omega),if_pos rfl]
 ·have c:k-1<p.length:=by omega
  have q:=g _ (List.getElem_mem c);have:=h (max 0 (p[k]-p[k-1]-f.Ct)) (by omega) (by omega);rw[ct (dt (by omega)),BU (by omega) (by omega),show(k:Int)-1=((k-1:Nat):Int) by omega,Cz c,Cz a,Cz d,BU (by omega) (by omega),BU (by omega) (by omega),BU (by omega) (by omega),BU (by omega) (by omega),if_neg e,H0 _ c]
theorem Re{f:AM}(a:OkF f){t:Bb}(b:LiT f t){p:List Int}(k:Gu f p=true)(o:List (List Int×Int)):∀(d n i:Nat) (m:List (List Int×Int)),p.length=i+d→d<n→Jr f m→
  ∃q,Jr f q∧Dy K (GY f o) t p (By (Di p 0 0 t.Ad)) n ((List.range i).map (If f t p)) (i:Int) m=some (GF f t p,q)
 |d,0,i,m,h,r,_=>by omega
 |0,n+1,i,m,h,r,hm=>by
  refine⟨m,hm,?_⟩;rw[Dy.eq_2,cf (df (by omega))];unfold GF;rw[h,Nat.add_zero]
 |d+1,n+1,i,m,h,r,hm=>by
  obtain⟨s,aI⟩:=Js k;have h0:=a.l0;have aJ:=a.b0;have aK:=b.gl;have aL:=b.wl;have aB:=a.gl;have aC:=a.wl;have hi:i<p.length:=by omega
  have aD:=s _ (List.getElem_mem hi);obtain⟨w,hw⟩:=Int.eq_ofNat_of_zero_le aD.1;have e:w<t.Am.length:=by omega
  have u:(Di p 0 0 t.Ad).length≤10:=by rw[Jf];omega
  have v:0≤(Di p 0 0 t.Ad).getD w 0∧(Di p 0 0 t.Ad).getD w 0≤500:=by
   have g:w<(Di p 0 0 t.Ad).length:=by rw[Jf];omega
   rw[H0 _ g];have:=Mo p 0 t.Ad 0 0 (b.gb a) (by omega) _ (List.getElem_mem g);omega
  have aE:IC f t p i=KJ f ((Di p 0 0 t.Ad).getD w 0) (decide ((0:Int)<t.Am[w])):=by
   unfold IC;rw[H0 _ hi,hw,Int.toNat_natCast,H0 (l:=t.Am) _ e]
  obtain⟨x,y,z⟩:=Xk hK a hm v (decide ((0:Int)<t.Am[w]));rw[←aE] at z;have j:=Ov a b p i;have c:=Vn a p i;have hmul:=Qa j.1 j.2 c.1 c.2;obtain⟨aF,aA,aG⟩:=Re a b k o d n (i+1) x (by omega) (by omega) y;refine⟨aF,aA,?_⟩;rw[Dy.eq_2,ct (dt (by omega)),Cz hi,hw,bd (KI u (by omega)),Cz e];show((Gn K (GY f m) (⟨(Di p 0 0 t.Ad).getD w 0,decide ((0:Int)<t.Am[w])⟩:LA)).bind _)=_;rw[bd z];show((DJ K f p (i:Int)).bind _)=_;rw[bd (N3 hK a k hi)];show((i64 (IC f t p i*ID f p i)).bind fun _=>(HG (((((List.range i).map (If f t p)).length+[(⟨IC f t p i,ID f p i,IC f t p i*ID f p i⟩:Df)].length:Nat):Int)≤140737488355328/24)).bind fun _=>(i64 ((i:Int)+1)).bind fun _=>Dy K (GY f o) t p (By (Di p 0 0 t.Ad)) n ((List.range i).map (If f t p)++[(⟨IC f t p i,ID f p i,IC f t p i*ID f p i⟩:Df)]) ((i:Int)+1) x)=_;rw[BU (by omega) (by omega),HO (by simp;omega),BU (by omega) (by omega),Ej];have aH:(List.range i).map (If f t p)++[(⟨IC f t p i,ID f p i,IC f t p i*ID f p i⟩:Df)]=(List.range (i+1)).map (If f t p):=by
   rw[List.range_succ,List.map_append];rfl
  rw[aH];exact aG
theorem Rf{f:AM}(a:OkF f){t:Bb}(c:LiT f t){p:List Int}(d:Gu f p=true){m:List (List Int×Int)}(hm:Jr f m):
  ∃b,Jr f b∧F5 K (GY f m) t p=some (GF f t p,b):=by
 obtain⟨i,j⟩:=Js d;have h0:=a.l0;have k:=a.b0;have l:=c.gl;have h:=a.gl;obtain⟨b,g,e⟩:=Re hK a c d m p.length K 0 m (by omega) (by omega) hm;refine⟨b,g,?_⟩;unfold F5;rw[bd (Rc hK (GY f m) t p (by omega) (by omega) (c.gb a))];show((Dy K (GY f m) t p (By (Di p 0 0 t.Ad)) K ((List.range 0).map (If f t p)) ((0:Nat):Int) m).bind _)=_;rw[bd e]
theorem Rg{f:AM}(d:OkF f)(o:TL f≠[]){p:List Int}(q:Gu f p=true)(cb:Unit→Df→Option (Int×Unit))(v:Df→Int)(i:∀x,cb () x=some (v x,())){m:List (List Int×Int)}(hm:Jr f m){k:Nat}(j:k<p.length):
  ∃r l,Jr f l∧DL K cb (GY f m) p (k:Int) ()=some (r,l,())∧(∀t∈TL f,r.Lo≤v (If f t p k)∧v (If f t p k)≤r.Hi)∧∀a c,(∀t∈TL f,a≤v (If f t p k)∧v (If f t p k)≤c)→a≤r.Lo∧r.Hi≤c:=by
 obtain⟨r,u,w,y,z,aA⟩:=S3 hK d m (fun st:(List (List Int×Int))×Unit=>Jr f st.1)
  (fun(st:(List (List Int×Int))×Unit) (x:Bb)=>(Dq K cb x (GY f st.1) p (k:Int) st.2).bind fun r=>some (r.1,(r.2.1,r.2.2)))
  (fun t=>v (If f t p k)) (m,()) hm (fun t aB s aC=>by
   obtain⟨aD,n,e⟩:=Rf hK d ((N2 d).1 aB).1 q aC;refine⟨(aD,()),n,?_⟩;have b:k<(GF f t p).length:=by unfold GF;simpa using j
   have aE:(GF f t p)[k]=If f t p k:=(List.getElem_eq_iff b).2 (by unfold GF;simp[j]);show((Dq K cb t (GY f s.1) p (k:Int) s.2).bind _)=_;unfold Dq;rw[bd e,Cz b,aE,bd (i _)];rfl)
 refine⟨r,u.1,w,?_,z,fun a c g=>aA a c g o⟩;unfold DL;show((FB K (fun(st:(List (List Int×Int))×Unit) (x:Bb)=>(Dq K cb x (GY f st.1) p (k:Int) st.2).bind fun r=>some (r.1,(r.2.1,r.2.2))) (GY f m) (m,())).bind fun h=>some ((h.1,h.2.1,h.2.2)))=_;rw[bd y]
def Pu (f:AM) (p:List Int) (k:Nat) (b:Ep):Prop:=(0≤b.Bo∧b.Bq≤500)∧∀t∈TL f,b.Bo≤IC f t p k∧IC f t p k≤b.Bq
theorem S4{f:AM}(c:OkF f)(j:TL f≠[]){p:List Int}(g:Gu f p=true)(s:List (List Int×Int)):∀(d n i:Nat) (acc:List Ep) (m:List (List Int×Int)),p.length=i+d→d<n→Jr f m→acc.length=i→(∀k b,acc[k]?=some b→Pu f p k b)→
  ∃X l,EY K p (GY f s) n acc (i:Int) m=some (X,l)∧X.length=p.length∧∀k b,X[k]?=some b→Pu f p k b
 |d,0,i,acc,m,h,u,_,_,_=>by omega
 |0,n+1,i,acc,m,h,u,hm,v,o=>by
  refine⟨acc,m,?_,by omega,o⟩;rw[EY.eq_2,cf (df (by omega))]
 |d+1,n+1,i,acc,m,h,u,hm,v,o=>by
  obtain⟨aJ,aK⟩:=Js g;have aL:=c.b0;have hi:i<p.length:=by omega
  obtain⟨r1,aA,w,aB,aC,aD⟩:=Rg hK c j g (fun(st:Unit) (x:Df)=>(Gx K x).bind fun r=>some (r,())) (fun x=>x.Weight) (fun x=>rfl) hm hi;obtain⟨r2,aE,y,aF,_,_⟩:=Rg hK c j g (fun(st:Unit) (x:Df)=>(GS K x).bind fun r=>some (r,())) (fun x=>x.HS) (fun x=>rfl) w hi;have q:Pu f p i ⟨r1.Lo,r1.Hi,ID f p i,r2.Lo,r2.Hi⟩:=⟨aD 0 500 fun t aG=>Ov c ((N2 c).1 aG).1 p i,aC⟩;obtain⟨X,l,aH,aI,z⟩:=S4 c j g s d n (i+1) (acc++[(⟨r1.Lo,r1.Hi,ID f p i,r2.Lo,r2.Hi⟩:Ep)]) aE (by omega) (by omega) y (by simp;omega) (fun k b e=>by
   rcases Nat.lt_trichotomy k acc.length with a|a|a
   ·rw[List.getElem?_append_left a] at e;exact o k b e
   ·rw[List.getElem?_append_right (by omega),a,Nat.sub_self] at e;have:(⟨r1.Lo,r1.Hi,ID f p i,r2.Lo,r2.Hi⟩:Ep)=b:=Option.some.inj e;rw[←this,a,v];exact q
   ·rw[List.getElem?_eq_none (by simp;omega)] at e;cases e)
  refine⟨X,l,?_,aI,z⟩;rw[EY.eq_2,ct (dt (by omega))];show((DL K _ (GY f m) p (i:Int) ()).bind _)=_;rw[bd aB];show((DJ K f p (i:Int)).bind _)=_;rw[bd (N3 hK c g hi)];show((DL K _ (GY f aA) p (i:Int) ()).bind _)=_;rw[bd aF,HO (by simp;omega),BU (by omega) (by omega),Ej];exact aH
theorem S5(f:AM):GW K f=some (GY f []):=rfl
theorem Si{f:AM}(a:OkF f){p:List Int}(b:Gu f p=true):FW K f p=some (if TL f=[] then (none,11) else (some (GY f []),0)):=by
 have d:=a.b0;have h0:=a.l0;have c:Eb K f p=some true:=by
  unfold Eb;rw[bd (Qe hK f p (by omega) (by omega)),b]
 unfold FW HJ;rw[bd (Qj hK a),cf (show((0:Int) !=0)=false from rfl)];show((((((Eb K f p).bind fun r=>some (r,())):Option (Bool×Unit)).bind _:Option (Option Ce×Int×Unit))).bind _)=_;rw[bd c,Option.bind_some,cf (show(!((true,()):Bool×Unit).1)=false from rfl),bd (S5 hK f),bd (QY hK a [])]
 by_cases e:TL f=[]
 ·rw[df (by simpa using e),if_pos e];rfl
 ·rw[dt e,if_neg e];rfl
theorem S6{f:AM}(a:OkF f){p:List Int}(c:Gu f p=true):(TL f=[]∧Hy K f p=some ([],11))∨(TL f≠[]∧∃X,Hy K f p=some (X,0)∧X.length=p.length∧∀k b,X[k]?=some b→Pu f p k b):=by
 have j:=a.b0;obtain⟨l,m⟩:=Js c;unfold Hy;rw[bd (Si hK a c)]
 by_cases e:TL f=[]
 ·rw[if_pos e];exact .inl ⟨e,rfl⟩
 ·rw[if_neg e];obtain⟨X,n,d,g,i⟩:=S4 hK a e c [] p.length K 0 [] [] (by omega) (by omega) (Qk f) rfl (fun k b h=>by simp at h);refine .inr ⟨e,X,?_,g,i⟩;show((EY K p (GY f []) K [] ((0:Nat):Int) []).bind _)=_;rw[bd d]
theorem Ue(a b:List Int)(f:a.length≤100)(g:b.length≤100):Gf K [a,b]=some (a++b):=by
 obtain⟨n,rfl⟩:∃n,K=n+3:=⟨K-3,by omega⟩;have c:CV [a,b] (n+3) 0 0=some ((a.length:Int)+b.length):=by
  rw[CV.eq_2,ct (dt (by simp))];show((i64 ((0:Int)+(a.length:Int))).bind _)=_;rw[BU (by omega) (by omega),cf (df (by omega))];show((CV [a,b] (n+2) (0+(a.length:Int)) 1))=_;rw[CV.eq_2,ct (dt (by simp))];show((i64 ((0:Int)+(a.length:Int)+(b.length:Int))).bind _)=_;rw[BU (by omega) (by omega),cf (df (by omega))];show((CV [a,b] (n+1) (0+(a.length:Int)+b.length) 2))=_;rw[CV.eq_2,cf (df (by simp)),Int.zero_add]
 have d:CX [a,b] (n+3) [] 0=some (a++b):=by
  rw[CX.eq_2,ct (dt (by simp))];show((HG (((([]:List Int).length+a.length:Nat):Int)≤140737488355328/8)).bind _)=_;rw[HO (by simp;omega)];show CX [a,b] (n+2) ([]++a) 1=_;rw[CX.eq_2,ct (dt (by simp))];show((HG (((([]++a:List Int).length+b.length:Nat):Int)≤140737488355328/8)).bind _)=_;rw[HO (by simp;omega)];show CX [a,b] (n+1) ([]++a++b) 2=_;rw[CX.eq_2,cf (df (by simp)),List.nil_append]
 have e:IG ((a.length:Int)+b.length)=some []:=if_pos ⟨by omega,by omega⟩;unfold Gf;rw[bd c,bd e,bd d]
theorem Ql(a:List AR)(l:List Int)(f:a.length≤100):∀(d m i:Nat),a.length=i+d→d<m→Fs (a.drop i) (l.drop i)=true→Dr K l a m (i:Int)=some (.inr ())
 |d,0,i,h,hm,_=>by omega
 |0,m+1,i,h,hm,b=>by rw[Dr.eq_2,cf (df (by omega))]
 |d+1,m+1,i,h,hm,b=>by
  have hi:i<a.length:=by omega
  have c:i<l.length:=by
   have:=Jq b;rw[List.length_drop,List.length_drop] at this;omega
  rw[List.drop_eq_getElem_cons hi,List.drop_eq_getElem_cons c,Fs,Bool.and_eq_true] at b;have e:DF K a[i] l[i]=some true:=by
   unfold DF;rw[bd (G7 ..),b.1]
  rw[Dr.eq_2,ct (dt (by omega)),Cz hi,Cz c,bd e,nt,BU (by omega) (by omega),Ej];exact Ql a l f d m (i+1) (by omega) (by omega) b.2
theorem Uf{f:AM}(a:OkF f){t:Bb}(b:LiT f t):Gg K f t=some true:=by
 have h0:=a.l0;have e:=b.gl;have g:=b.wl;have c:=a.gl;have d:=a.wl;have hlen:=a.len;have:=Ql hK (Fy f) (t.Ad++t.Am) (by omega) (Fy f).length K 0 (by omega) (by omega) (by rw[List.drop_zero,List.drop_zero];exact b.join);unfold Gg;rw[bd (K1 hK a),cf (KO (by omega)),bd (K1 hK a),cf (KO (by omega)),bd (Ue hK t.Ad t.Am (by omega) (by omega)),bd (Nw hK f (by omega))];show((Dr K (t.Ad++t.Am) (Fy f) K ((0:Nat):Int)).bind _)=_;rw[bd this];rfl
theorem Vo{f:AM}(a:OkF f){t:Bb}(b:LiT f t){p:List Int}(c:Gu f p=true):IQ K f t p=some (GF f t p,0):=by
 have d:=a.b0;have h0:=a.l0;obtain⟨g,_,e⟩:=Rf hK a b c (Qk f);unfold IQ;rw[bd (Qj hK a),cf (show((0:Int) !=0)=false from rfl),bd (Uf hK a b),nt,bd (Qe hK f p (by omega) (by omega)),c,nt,bd (S5 hK f),bd e]
end
theorem Xl{β:Type}{f:Unit→Option β}{x:Nat}(h:x<64):(JF .u64 (x:Int)).bind f=f ():=bd (by
 have:∀x:Nat,x<64→JF .u64 (x:Int)=some ():=by decide+kernel
 exact this x h)
theorem Ug{β:Type}{f:Unit→Option β}{a:Int}{x:Nat}(h:x<64):(Nn a (x:Int)).bind f=f ():=bd (if_pos ⟨by omega,by omega⟩)
theorem ZS(a b:Nat):PQ (a:Int) (b:Int)=((a|||b:Nat):Int):=by unfold PQ;rw[Int.toNat_natCast,Int.toNat_natCast]
theorem Zl(a b:Nat):Ob (a:Int) (b:Int)=((a&&&b:Nat):Int):=by unfold Ob;rw[Int.toNat_natCast,Int.toNat_natCast]
theorem Xm{β:Type}{a b:Int}{f:Unit→Option β}(h0:0≤a∧a≤9223372036854775807)(c:0≤b∧b≤9223372036854775807):(PO a b).bind f=f ():=bd (if_pos ⟨h0,c⟩)
theorem Sj:∀i:Nat,i<10→JF .u64 (i:Int)=some ()∧Lq 1 (i:Int)=some ()∧G1 1 (i:Int)=((2^i:Nat):Int)∧2^i≤512∧1≤2^i∧Lq 2 (i:Int)=some ()∧G1 2 (i:Int)=((2^(i+1):Nat):Int):=by decide+kernel
def Hu:List AR→List Int→List AR
 |r::a,x::xs=>r::wR x::Hu a xs
 |_,_=>[]
def Rh:List Int→List Int→List Int
 |a::c,b::bs=>a::b::Rh c bs
 |_,_=>[]
def Nj:List Int→List Int
 |a::_::l=>a::Nj l
 |_=>[]
def Nk:List Int→List Int
 |_::b::l=>b::Nk l
 |_=>[]
theorem UK:∀(a b:List Int),a.length=b.length→Nj (Rh a b)=a∧Nk (Rh a b)=b
 |[],[],_=>⟨rfl,rfl⟩
 |[],_::_,h=>by simp at h
 |_::_,[],h=>by simp at h
 |x::a,y::b,h=>by
  have:=UK a b (by simpa using h);rw[Rh,Nj,Nk,this.1,this.2];exact⟨rfl,rfl⟩
theorem S7:∀(c:List AR) (xs a b:List Int),Fs c a=true→Fs (xs.map wR) b=true→c.length=xs.length→Fs (Hu c xs) (Rh a b)=true
 |[],[],a,b,f,i,_=>by
  cases a with
  |nil=>cases b<;>rfl
  |cons=>cases f
 |[],_::_,_,_,_,_,h=>by simp at h
 |_::_,[],_,_,_,_,h=>by simp at h
 |r::c,x::xs,[],_,h,_,_=>by cases h
 |r::c,x::xs,_::_,[],_,h,_=>by cases h
 |r::c,x::xs,u::a,v::b,e,d,g=>by
  rw[List.map_cons] at d;rw[Fs,Bool.and_eq_true] at e d;rw[Hu,Rh,Fs,Fs,e.1,d.1,S7 c xs a b e.2 d.2 (by simpa using g)];rfl
theorem S8:∀(a:List AR) (xs l:List Int),Fs (Hu a xs) l=true→a.length=xs.length→Fs a (Nj l)=true∧Fs (xs.map wR) (Nk l)=true
 |[],[],[],_,_=>⟨rfl,rfl⟩
 |[],[],_::_,h,_=>by cases h
 |[],_::_,_,_,h=>by simp at h
 |_::_,[],_,_,h=>by simp at h
 |r::a,x::xs,[],h,_=>by cases h
 |r::a,x::xs,[_],h,_=>by
  rw[Hu,Fs,Xf,Bool.and_false] at h;cases h
 |r::a,x::xs,u::v::l,h,b=>by
  rw[Hu,Fs,Fs,Bool.and_eq_true,Bool.and_eq_true] at h;have:=S8 a xs l h.2.2 (by simpa using b);rw[Nj,Nk,List.map_cons,Fs,Fs,h.1,h.2.1,this.1,this.2];exact⟨rfl,rfl⟩
theorem Qm:∀(a:List AR) (xs:List Int),EP (Hu a xs)=pz a xs
 |[],[]=>rfl
 |[],_::_=>rfl
 |_::_,[]=>rfl
 |r::a,x::xs=>by rw[Hu,G5,G5,pz,Qm a xs,Int.mul_assoc]
theorem S9:∀(a:List AR) (xs:List Int),(∀r∈a,Il r)→(∀x∈xs,0≤x∧x≤2)→∀r∈Hu a xs,Il r
 |[],_,_,_,r,h=>by simp[Hu] at h
 |_::_,[],_,_,r,h=>by simp[Hu] at h
 |q::a,x::xs,c,d,r,h=>by
  rw[Hu] at h;rcases List.mem_cons.1 h with rfl|h
  ·exact c _ (by simp)
  ·rcases List.mem_cons.1 h with rfl|h
   ·exact(Pt (d x (by simp))).1
   ·exact S9 a xs (fun y b=>c y (by simp[b])) (fun y b=>d y (by simp[b])) r h
def Ig(f:AM)(n:Int):Bb:=⟨Nj (Jd (Hu f.Ad f.Am) n),Nk (Jd (Hu f.Ad f.Am) n)⟩
theorem OkF.gw{f:AM}(a:OkF f):f.Ad.length=f.Am.length:=by have:=a.gl;have:=a.wl;omega
theorem OkF.pz{f:AM}(a:OkF f):EP (Hu f.Ad f.Am)=EP (Fy f):=by rw[Qm,Sg _ _ a.gw];rfl
theorem OkF.OR{f:AM}(a:OkF f):∀r∈Hu f.Ad f.Am,Il r:=S9 _ _ (fun r b=>(a.g r b).2) a.w
theorem Ri{f:AM}(a:OkF f){n:Int}(b:0≤n):LiT f (Ig f n):=by
 have:=S8 _ _ _ (SV a.OR b) a.gw;exact⟨this.1,this.2⟩
theorem Uh{f:AM}(a:OkF f){t:Bb}(h:LiT f t):∃n:Nat,(n:Int)<EP (Fy f)∧Ig f n=t:=by
 obtain⟨n,b,c⟩:=Q8 a.OR (S7 _ _ _ _ h.g h.w a.gw);refine⟨n,by rw[←a.pz];exact b,?_⟩;have:=UK t.Ad t.Am (by rw[h.gl,h.wl,a.gw]);unfold Ig;rw[c,this.1,this.2]
def Iv(f:AM):Nat:=(EP (Fy f)).toNat
theorem OkF.mn{f:AM}(a:OkF f):(Iv f:Int)=EP (Fy f)∧Iv f≤100:=by
 have:=a.many;have:=Nv a.ok;unfold Iv;omega
def Fl (f:AM):List Bb:=((List.range (Iv f)).filter fun n:Nat=>IB f (Ez f (Ig f n).Ad)).map fun n:Nat=>Ig f n
theorem KP{f:AM}(a:OkF f){t:Bb}:t∈Fl f↔t∈TL f:=by
 unfold Fl;rw[N2 a,List.mem_map];constructor
 ·rintro⟨n,b,rfl⟩;rw[List.mem_filter] at b;exact⟨Ri a (by omega),b.2⟩
 ·rintro⟨c,d⟩;obtain⟨n,e,rfl⟩:=Uh a c;exact⟨n,List.mem_filter.2 ⟨List.mem_range.2 (by have:=a.mn;omega),d⟩,rfl⟩
def I2(p g:List Int):Nat→Int
 |0=>0
 |w+1=>if p.contains (w:Int)=true then 0 else I2 p g w+g.getD w 0
theorem O9(p g:List Int):∀(gs:List Int) (i:Nat) (n:Int),n=I2 p g i→gs=g.drop i→∀j,j<gs.length→(Di p i n gs).getD j 0=I2 p g (i+j)+g.getD (i+j) 0
 |[],i,n,_,_,j,a=>by simp at a
 |x::gs,i,n,c,b,j,a=>by
  have hi:i<g.length:=by
   have:=congrArg List.length b;rw[List.length_cons,List.length_drop] at this;omega
  rw[List.drop_eq_getElem_cons hi] at b;injection b with d e
  rw[Di];cases j with
  |zero=>
   show n+x=_;rw[c,d,Nat.add_zero,H0 _ hi]
  |succ j=>
   have f:(if p.contains (i:Int)=true then 0 else n+x)=I2 p g (i+1):=by
    rw[I2,c,d,H0 _ hi]
   have:=O9 p g gs (i+1) _ f e j (by simpa using a);rw[show i+(j+1)=i+1+j by omega,←this];rfl
theorem Qn(p g:List Int)(a:∀x∈g,0≤x∧x≤50):∀w:Nat,0≤I2 p g w∧I2 p g w≤50*w
 |0=>⟨Int.le_refl _,Int.le_refl _⟩
 |w+1=>by
  have:=Qn p g a w;have h:0≤g.getD w 0∧g.getD w 0≤50:=by
   rw[List.getD_eq_getElem?_getD];cases e:g[w]? with
   |none=>exact⟨Int.le_refl _,by show(0:Int)≤50;decide⟩
   |some x=>exact a x (List.mem_of_getElem? e)
  rw[I2];split<;>omega
def Ms(own:List Int)(l:Cx):Bool:=Dl (own.getD l.Week.toNat 0) l.Bo l.Bq
def HK(M:List Int):Nat→List Cx→Nat
 |_,[]=>0
 |i,n::a=>(if Ms M n=true then 2^i else 0)|||HK M (i+1) a
theorem Mt(M:List Int):∀(a:List Cx) (i j:Nat),(HK M i a).testBit j=true↔∃q,∃b:q<a.length,j=i+q∧Ms M a[q]=true
 |[],i,j=>by simp[HK]
 |n::a,i,j=>by
  rw[HK,Nat.testBit_or,Bool.or_eq_true,Mt M a (i+1) j];constructor
  ·rintro(h|⟨q,b,rfl,h⟩)
   ·split at h
    ·rename_i c
     rw[Nat.testBit_two_pow,decide_eq_true_eq] at h;exact⟨0,by simp,by omega,by simpa using c⟩
    ·simp at h
   ·exact⟨q+1,by simpa using b,by omega,by simpa using h⟩
  ·rintro⟨q,b,rfl,h⟩;cases q with
   |zero=>
    left;rw[if_pos (by simpa using h),Nat.testBit_two_pow];simp
   |succ q=>exact .inr ⟨q,by simpa using b,by omega,by simpa using h⟩
theorem Sk(f:AM)(own:List Int):(((HK own 0 f.Looks:Nat):Int)==((2^f.Looks.length-1:Nat):Int))=IB f own:=by
 have key:HK own 0 f.Looks=2^f.Looks.length-1↔IB f own=true:=by
  unfold IB;rw[List.all_eq_true];constructor
  ·intro h x b;obtain⟨j,a,rfl⟩:=List.getElem_of_mem b;have:=(Mt own f.Looks 0 j).1 (by rw[h,Nat.testBit_two_pow_sub_one];simpa using a);obtain⟨q,c,e,d⟩:=this;obtain rfl:j=q:=by omega
   exact d
  ·intro h;refine Nat.eq_of_testBit_eq fun j=>?_;rw[Nat.testBit_two_pow_sub_one,Bool.eq_iff_iff,Mt,decide_eq_true_eq];constructor
   ·rintro⟨q,c,rfl,_⟩;omega
   ·intro a;exact⟨j,a,by omega,h _ (List.getElem_mem a)⟩
 rw[Bool.eq_iff_iff,beq_iff_eq,←key];omega
section
variable{K:Nat}(hK:2000≤K)
include hK
theorem UL{f:AM}(j:OkF f){n:Int}(c:0≤n∧n≤100000):F6 K f n=some (Ig f n):=by
 have h0:=j.l0;have r:=j.gl;have s:=j.gw;have go:∀(d m i:Nat) (n:Int) (a b:List Int),f.Ad.length=i+d→d<m→0≤n∧n≤100000→a.length=i→b.length=i→
   DX K f m n (i:Int) a b=some (a++Nj (Jd (Hu (f.Ad.drop i) (f.Am.drop i)) n),b++Nk (Jd (Hu (f.Ad.drop i) (f.Am.drop i)) n)):=by
  intro d
  induction d with
  |zero=>
   intro m i n a b h hm _ _ _;obtain⟨m,rfl⟩:∃o,m=o+1:=⟨m-1,by omega⟩;rw[DX.eq_2,cf (df (by omega)),List.drop_eq_nil_of_le (by omega),List.drop_eq_nil_of_le (by omega)];simp[Hu,Jd,Nj,Nk]
  |succ d ih=>
   intro m i n a b h hm c t u;obtain⟨m,rfl⟩:∃o,m=o+1:=⟨m-1,by omega⟩;have hi:i<f.Ad.length:=by omega
   have k:i<f.Am.length:=by omega
   have p:=j.g _ (List.getElem_mem hi);have v:=j.w _ (List.getElem_mem k);have s1:=Io p.2;have x:=Int.emod_nonneg n (by omega:Cs f.Ad[i]≠0);have y:=Int.emod_lt_of_pos n (by omega:0<Cs f.Ad[i]);have q:0≤n/Cs f.Ad[i]:=Int.ediv_nonneg c.1 (by omega);have z:n/Cs f.Ad[i]≤n:=Int.ediv_le_self _ c.1;rw[DX.eq_2,ct (dt (by omega)),Cz hi,bd (Oo K p.2),LB c.1 s1.1,BU (by omega) (by omega),HO (by simp;omega),bd (Oo K p.2),P0 c.1 s1.1,BU (by omega) (by omega),Cz k,List.drop_eq_getElem_cons hi,List.drop_eq_getElem_cons k,Hu,Jd,Jd,Nj,Nk]
   by_cases e:f.Am[i]=2
   ·have l:wR f.Am[i]=⟨0,1⟩:=by unfold wR;rw[if_pos e]
    rw[ct (Mm e),LB q (by omega),P0 q (by omega),BU (by omega) (by omega),HO (by simp;omega),BU (by omega) (by omega),Ej,ih m (i+1) _ _ _ (by omega) (by omega) (by omega) (by simp;omega) (by simp;omega),l,List.append_assoc,List.append_assoc];show _=some (a++(f.Ad[i].Lo+n%Cs f.Ad[i])::Nj (Jd (Hu (f.Ad.drop (i+1)) (f.Am.drop (i+1))) (n/Cs f.Ad[i]/2)),b++(0+n/Cs f.Ad[i]%2)::Nk (Jd (Hu (f.Ad.drop (i+1)) (f.Am.drop (i+1))) (n/Cs f.Ad[i]/2)));rw[Int.zero_add];rfl
   ·have l:wR f.Am[i]=⟨f.Am[i],f.Am[i]⟩:=by unfold wR;rw[if_neg e]
    have es:Cs (wR f.Am[i])=1:=by rw[l];show f.Am[i]-f.Am[i]+1=1;omega
    have el:(wR f.Am[i]).Lo=f.Am[i]:=by rw[l]
    rw[cf (Ku e),HO (by simp;omega),BU (by omega) (by omega),Ej,ih m (i+1) _ _ _ (by omega) (by omega) (by omega) (by simp;omega) (by simp;omega),es,el,Int.ediv_one,Int.emod_one,Int.add_zero,List.append_assoc,List.append_assoc];rfl
 have:=go f.Ad.length K 0 n [] [] (by omega) (by omega) c rfl rfl;rw[Int.natCast_zero,List.drop_zero,List.drop_zero,List.nil_append,List.nil_append] at this;unfold F6;rw[bd this];rfl
theorem Sm{t:Bb}{p:List Int}{last:Int}(y:Iu last 0 p=true)(aJ:p.length≤100)(aK:t.Ad.length≤10)(q:∀x∈t.Ad,0≤x∧x≤50){w:Nat}(hw:w<t.Ad.length):Fq K t p (w:Int)=some ((Di p 0 0 t.Ad).getD w 0):=by
 have aF:=O5 y;have aG:=Ps y;have l2:∀(d m i:Nat) (s:Int),p.length=i+d→d<m→0≤s∧s≤w→(s=0∨(s-1)∈p)→(∀j (a:j<p.length),j<i→p[j]<(w:Int)→p[j]<s)→
   ∃g,C9 p w m s (i:Int)=some g∧0≤g∧g≤w∧(g=0∨(g-1)∈p)∧∀x∈p,x<(w:Int)→x<g:=by
  intro d
  induction d with
  |zero=>
   intro m i s h hm l r b;obtain⟨m,rfl⟩:∃f,m=f+1:=⟨m-1,by omega⟩;refine⟨s,?_,l.1,l.2,r,fun x u z=>?_⟩
   ·rw[C9.eq_2,cf (df (by omega))]
   ·obtain⟨j,a,rfl⟩:=List.getElem_of_mem u;exact b j a (by omega) z
  |succ d ih=>
   intro m i s h hm l r b;obtain⟨m,rfl⟩:∃f,m=f+1:=⟨m-1,by omega⟩;have hi:i<p.length:=by omega
   have u:=aG _ (List.getElem_mem hi);rw[C9.eq_2,ct (dt (by omega)),Cz hi]
   by_cases c:p[i]<(w:Int)
   ·rw[ct (dt c),Cz hi,BU (by omega) (by omega),BU (by omega) (by omega),Ej];refine ih m (i+1) (p[i]+1) (by omega) (by omega) (by omega) (.inr (by rw[Int.add_sub_cancel];exact List.getElem_mem hi)) fun j a aA n=>?_
    by_cases e:j=i
    ·subst e;omega
    ·have:=List.pairwise_iff_getElem.1 aF j i a hi (by omega);omega
   ·rw[cf (df c),BU (by omega) (by omega),Ej];refine ih m (i+1) s (by omega) (by omega) l r fun j a aA n=>?_
    by_cases e:j=i
    ·subst e;exact absurd n c
    ·exact b j a (by omega) n
 obtain⟨s,aB,l,r,b,aH⟩:=l2 p.length K 0 0 (by omega) (by omega) (by omega) (.inl rfl) (fun j a h=>by omega);obtain⟨k,rfl⟩:=Int.eq_ofNat_of_zero_le l;have aI:I2 p t.Ad k=0:=by
  cases k with
  |zero=>rfl
  |succ k=>
   have:(k:Int)∈p:=by
    rcases b with b|b
    ·omega
    ·rw[show((k+1:Nat):Int)-1=(k:Int) by omega] at b;exact b
   rw[I2,if_pos (by simpa using this)]
 have aC:∀(d m j:Nat),w=j+d→d+1<m→k≤j→C1 t w m (I2 p t.Ad j) (j:Int)=some (I2 p t.Ad w+t.Ad.getD w 0):=by
  intro d
  induction d with
  |zero=>
   intro m j h hm a;obtain⟨m,rfl⟩:∃f,m=f+2:=⟨m-2,by omega⟩;obtain rfl:w=j:=by omega
   have:=Qn p t.Ad q w;have u:=q _ (List.getElem_mem hw);rw[C1.eq_2,ct (dt (by omega)),Cz hw,BU (by omega) (by omega),BU (by omega) (by omega),C1.eq_2,cf (df (by omega)),H0 _ hw]
  |succ d ih=>
   intro m j h hm a;obtain⟨m,rfl⟩:∃f,m=f+1:=⟨m-1,by omega⟩;have o:j<t.Ad.length:=by omega
   have:=Qn p t.Ad q j;have u:=q _ (List.getElem_mem o);have v:I2 p t.Ad (j+1)=I2 p t.Ad j+t.Ad[j]:=by
    rw[I2,if_neg (fun v=>by
     have:=aH (j:Int) (by simpa using v) (by omega);omega),H0 _ o]
   rw[C1.eq_2,ct (dt (by omega)),Cz o,BU (by omega) (by omega),BU (by omega) (by omega),Ej,←v];exact ih m (j+1) (by omega) (by omega) (by omega)
 have aD:=aC (w-k) K k (by omega) (by omega) (Nat.le_refl _);rw[aI] at aD;have aE:=O9 p t.Ad t.Ad 0 0 rfl (by rw[List.drop_zero]) w hw;rw[Nat.zero_add] at aE;unfold Fq;rw[Int.natCast_zero] at aB;rw[bd aB,bd aD,aE]
theorem Vp{f:AM}(a:OkF f){t:Bb}(d:LiT f t){l:Cx}(b:IV f l=true):Gh K f t l=some (Ms (Ez f t.Ad) l):=by
 have h0:=a.l0;have e:=a.gl;have g:=d.gl;have c:=a.Sh;unfold Gu at c;rw[Bool.and_eq_true] at c;have h:=O8 a;unfold IV at b;rw[Bool.and_eq_true,CJ] at b;obtain⟨w,hw⟩:=Int.eq_ofNat_of_zero_le b.1.1;unfold Gh Ms Ez;rw[hw,bd (Sm hK c.1 (by omega) (by omega) (d.gb a) (by omega)),bd (Je ..),Int.toNat_natCast]
theorem Xn{f:AM}(a:OkF f):GX K f=some ((List.range (Iv f)).map fun n:Nat=>((HK (Ez f (Ig f n).Ad) 0 f.Looks:Nat):Int)):=by
 have t:=a.kl;have e:=a.mn;have hm:=a.many;have j:=a.gw;have h0:=a.l0;have u:=a.gl;have l:∀(n:Nat),n≤100→∀(d m i:Nat) (s:Nat),f.Looks.length=i+d→d<m→s<2^5→DY K f (n:Int) m (s:Int) (i:Int)=some ((s|||HK (Ez f (Ig f n).Ad) i (f.Looks.drop i):Nat):Int):=by
  intro n v d
  induction d with
  |zero=>
   intro m i s h hm c;obtain⟨m,rfl⟩:∃b,m=b+1:=⟨m-1,by omega⟩;rw[DY.eq_2,cf (df (by omega)),List.drop_eq_nil_of_le (by omega),HK,Nat.or_zero]
  |succ d ih=>
   intro m i s h hm c;obtain⟨m,rfl⟩:∃b,m=b+1:=⟨m-1,by omega⟩;have hi:i<f.Looks.length:=by omega
   obtain⟨s1,s2,o,x,y,_⟩:=Sj i (by omega);rw[DY.eq_2,ct (dt (by omega)),bd (UL hK a (by omega)),Cz hi,bd (Vp hK a (Ri a (by omega)) (a.looks _ (List.getElem_mem hi))),List.drop_eq_getElem_cons hi,HK];have p:2^i<2^5:=Nat.pow_lt_pow_right (by omega) (by omega);cases Ms (Ez f (Ig f n).Ad) f.Looks[i] with
   |true=>
    rw[ct rfl,bd s1,bd s2,o,Xm (by omega) (by omega),BU (by omega) (by omega),Ej i,ZS,if_pos rfl,ih m (i+1) _ (by omega) (by omega) (Nat.or_lt_two_pow c p),Nat.or_assoc]
   |false=>rw[cf rfl,BU (by omega) (by omega),Ej i,if_neg (by simp),Nat.zero_or,ih m (i+1) _ (by omega) (by omega) c]
 have gm:=Oq hK f j (by omega) (fun r q=>(a.g r q).2) a.w;rw[Int.min_eq_right (by omega),←e.1] at gm;have l2:∀(d m i:Nat),Iv f=i+d→d<m→DZ K f m ((List.range i).map fun n:Nat=>((HK (Ez f (Ig f n).Ad) 0 f.Looks:Nat):Int)) (i:Int)=some ((List.range (Iv f)).map fun n:Nat=>((HK (Ez f (Ig f n).Ad) 0 f.Looks:Nat):Int)):=by
  intro d
  induction d with
  |zero=>
   intro m i h hm;obtain⟨m,rfl⟩:∃b,m=b+1:=⟨m-1,by omega⟩;obtain rfl:i=Iv f:=by omega
   rw[DZ.eq_2,bd gm,cf (df (by omega))]
  |succ d ih=>
   intro m i h hm;obtain⟨m,rfl⟩:∃b,m=b+1:=⟨m-1,by omega⟩;have k:=l i (by omega) f.Looks.length K 0 0 (by omega) (by omega) (by omega);rw[Int.natCast_zero,List.drop_zero,Nat.zero_or] at k;rw[DZ.eq_2,bd gm,ct (dt (by omega)),bd k,HO (by simp;omega),BU (by omega) (by omega),Ej,←ih m (i+1) (by omega) (by omega),List.range_succ,List.map_append];rfl
 have:=l2 (Iv f) K 0 (by omega) (by omega);unfold GX;show((DZ K f K ((List.range 0).map fun n:Nat=>((HK (Ez f (Ig f n).Ad) 0 f.Looks:Nat):Int)) ((0:Nat):Int)).bind _)=_;rw[bd this]
theorem Vq{f:AM}(a:OkF f):GB K f=some ((2^f.Looks.length-1:Nat):Int):=by
 have d:=a.kl;obtain⟨s1,s2,b,e,c,_⟩:=Sj f.Looks.length (by omega);unfold GB;rw[bd s1,bd s2,b,BU (by omega) (by omega),Int.natCast_sub c];rfl
theorem Ta{f:AM}(a:OkF f):FY K f=some (Fl f):=by
 have e:=a.mn;have go:∀(d m i:Nat) (acc:List Bb),Iv f=i+d→d<m→acc.length≤i→Du K f ((List.range (Iv f)).map fun n:Nat=>((HK (Ez f (Ig f n).Ad) 0 f.Looks:Nat):Int)) m acc (i:Int)=some (acc++((List.range' i d).filter fun n:Nat=>IB f (Ez f (Ig f n).Ad)).map fun n:Nat=>Ig f n):=by
  intro d
  induction d with
  |zero=>
   intro m i acc h hm c;obtain⟨m,rfl⟩:∃b,m=b+1:=⟨m-1,by omega⟩;rw[Du.eq_2,cf (df (by simp;omega))];simp
  |succ d ih=>
   intro m i acc h hm c;obtain⟨m,rfl⟩:∃b,m=b+1:=⟨m-1,by omega⟩;have hi:i<((List.range (Iv f)).map fun n:Nat=>((HK (Ez f (Ig f n).Ad) 0 f.Looks:Nat):Int)).length:=by simp;omega
   have ex:((List.range (Iv f)).map fun n:Nat=>((HK (Ez f (Ig f n).Ad) 0 f.Looks:Nat):Int))[i]=((HK (Ez f (Ig f i).Ad) 0 f.Looks:Nat):Int):=by simp
   rw[Du.eq_2,ct (dt (by omega)),Cz hi,ex,bd (Vq hK a),Sk,List.range'_succ,List.filter_cons];cases IB f (Ez f (Ig f i).Ad) with
   |true=>
    rw[ct rfl,if_pos rfl,bd (UL hK a (by omega)),HO (by simp;omega),BU (by omega) (by omega),Ej i,ih m (i+1) _ (by omega) (by omega) (by simp;omega),List.append_assoc,List.map_cons];rfl
   |false=>rw[cf rfl,if_neg (by simp),BU (by omega) (by omega),Ej i,ih m (i+1) _ (by omega) (by omega) (by omega)]
 have:=go (Iv f) K 0 [] (by omega) (by omega) (by simp);rw[Int.natCast_zero,List.nil_append,←List.range_eq_range'] at this;unfold FY Fl;rw[bd (Xn hK a),bd this]
theorem Ui{last:Int}:∀{l:List Int} {a b:Int},a≤b→Iu last b l=true→Iu last a l=true
 |[],_,_,_,_=>rfl
 |x::l,a,b,h,c=>by
  rw[Iu,Bool.and_eq_true,CJ] at c⊢;exact⟨by omega,c.2⟩
theorem Qo(s last:Nat)(h9:last≤9)(a:s<2^(last+1)):∀(d m p:Nat) (acc:List Int),p+d=last+1→d<m→acc.length≤p→∃X,DM (s:Int) m acc (p:Int)=some (acc++X)∧Iu last p X=true
 |d,0,p,acc,_,h,_=>by omega
 |0,m+1,p,acc,f,_,g=>by
  obtain rfl:p=last+1:=by omega
  refine⟨[],?_,rfl⟩;rw[DM.eq_2,Xl (by omega),Ug (by omega),MO,Nat.div_eq_of_lt a,cf (df (by simp)),List.append_nil]
 |d+1,m+1,p,acc,f,hm,g=>by
  rw[DM.eq_2,Xl (by omega),Ug (by omega),MO]
  by_cases h0:s/2^p=0
  ·exact⟨[],by rw[h0,cf (df (by simp)),List.append_nil],rfl⟩
  ·have c:(0:Int)<((s/2^p:Nat):Int):=by generalize s/2^p=q at h0;omega
   rw[ct (dt c),Xl (by omega),Ug (by omega),LB (Int.le_of_lt c) (by omega)];cases ((((s/2^p:Nat):Int)%2)==1) with
   |true=>
    obtain⟨X,e,b⟩:=Qo s last h9 a d m (p+1) (acc++[(p:Int)]) (by omega) (by omega) (by simp;omega);refine⟨(p:Int)::X,?_,?_⟩
    ·rw[ct rfl,HO (by simp;omega),BU (by omega) (by omega),Ej p,e,List.append_assoc];rfl
    ·rw[Iu,Bool.and_eq_true,CJ,Ej];exact⟨by omega,b⟩
   |false=>
    obtain⟨X,e,b⟩:=Qo s last h9 a d m (p+1) acc (by omega) (by omega) (by omega);exact⟨X,by rw[cf rfl,BU (by omega) (by omega),Ej p,e],Ui hK (by omega) b⟩
theorem Vr(s last:Nat)(h9:last≤9)(a:s<2^(last+1)):∃X,GC K (s:Int)=some X∧Iu last 0 X=true:=by
 obtain⟨X,e,b⟩:=Qo hK s last h9 a (last+1) K 0 [] (by omega) (by omega) (by simp);refine⟨X,?_,b⟩;rw[Int.natCast_zero,List.nil_append] at e;unfold GC;rw[bd e]
theorem Rj{last:Int}:∀(n:Nat) (l:List Int) (lo:Int),Iu last lo l=true→Iu last lo (l.take n)=true
 |0,_,_,_=>rfl
 |_+1,[],_,_=>rfl
 |n+1,x::l,lo,h=>by
  rw[Iu,Bool.and_eq_true] at h;rw[List.take_succ_cons,Iu,Bool.and_eq_true];exact⟨h.1,Rj n l _ h.2⟩
theorem Uj{f:AM}(a:OkF f){t:Bb}(b:LiT f t):Gi K t=some t:=by
 have h0:=a.l0;have e:=b.gl;have g:=b.wl;have c:=a.gl;have d:=a.wl;unfold Gi;rw[bd (K2 hK _ (by omega)),bd (K2 hK _ (by omega))]
end
def Ex(a day w DG due:Int):Bv:=⟨9,1,w,w,[⟨day,day,a,DG,due⟩]⟩
def I3(n:Int):Int:=max 1 (min 5 (1+n/40))
def LR(a day w DG due:Int):Int:=verdict (Ex a day w DG due) [[0]] 0
theorem Tb:∀w:Nat,w<4→(((List.range 1024).map (wl 10)).filter fun l=>okW (w:Int) (w:Int) l 0 0).length≤176:=by decide+kernel
theorem Vs{a day w DG due:Int}(c:1≤a∧a≤5)(b:0≤day∧day≤9)(d:0≤w∧w≤3)(f:1≤DG∧DG≤5)(g:0≤due∧due≤9):check (Ex a day w DG due)=0:=by
 have i:Ie (Ex a day w DG due) ⟨day,day,a,DG,due⟩=true:=KH.2 ⟨b.1,Int.le_refl _,b.2,c,f,g⟩;have hm:LD (Ex a day w DG due)≤1000:=by
  obtain⟨n,rfl⟩:=Int.eq_ofNat_of_zero_le d.1;have h:=Tb n (by omega);have e:(EC (Ex a day n DG due)).length=(((List.range 1024).map (wl 10)).filter fun l=>okW (n:Int) (n:Int) l 0 0).length:=rfl;unfold LD;rw[e];show _*((day-day+1)*1)≤_;omega
 unfold check;rw[if_neg (by show¬((9:Int)<9∨(2:Int)<1∨(4:Int)<1);decide),if_neg ?_,if_neg (by omega)];have j:Dl w 0 (9+1)=true:=CJ.2 (by omega);show¬((9:Int)<0∨(1:Int)<1∨Dl w 0 (9+1)=false∨Dl w 0 (9+1)=false∨([⟨day,day,a,DG,due⟩]:List BS).all (Ie (Ex a day w DG due))=false);rw[j,List.all_cons,i,List.all_nil]
 decide
theorem Vt(y:Bv)(a:y.Bj=1)(b:y.Ax.length=1):JQ y [[0]]=true:=by
 unfold JQ;rw[a,b];have:Dk ([[0]]:List (List Int)).flatten=[0]:=by
  show Dk [0]=[0];unfold Dk;simp
 rw[this];rfl
theorem Xo(a day w DG due:Int)(t:Cy):I8 (Ex a day w DG due) [[0]] 0 t=Kr ⟨day,day,a,DG,due⟩ (G3 (Ex a day w DG due) t.Am ⟨day,day,a,DG,due⟩ (max 0 (FQ t.Comes 0))):=rfl
theorem Qp(l:BS)(d0:Int):∀(ws:List Bool) (d a r:Int),(G2 l d0 ws d a r).BP=true→d≤(G2 l d0 ws d a r).CI
 |[],_,_,_,h=>by cases h
 |true::ws,d,a,r,h=>by
  rw[G2] at h⊢;cases b:a==l.BP with
  |true=>rw[cond_true];exact Int.le_refl _
  |false=>
   rw[b,cond_false] at h;rw[cond_false];cases c:r+1==l.EA with
   |true=>rw[cond_true];exact Int.le_refl _
   |false=>
    rw[c,cond_false] at h;rw[cond_false];have:=Qp l d0 ws (d+1) a (r+1) h;omega
 |false::ws,d,a,r,h=>by
  rw[G2] at h⊢;cases b:a+1==l.BP with
  |true=>rw[cond_true];exact Int.le_refl _
  |false=>
   rw[b,cond_false] at h;rw[cond_false];cases c:(0:Int)==l.EA with
   |true=>rw[cond_true];exact Int.le_refl _
   |false=>
    rw[c,cond_false] at h;rw[cond_false];have:=Qp l d0 ws (d+1) (a+1) 0 h;omega
theorem Ny{l1 l2:BS}(b:l1.EA=l2.EA)(i:1≤l1.EA)(j:l1.BP≤l2.BP)(d0 due:Int):∀(ws:List Bool) (d a r:Int),a<l1.BP→
  (G2 l2 d0 ws d a r).BP=true→(G2 l2 d0 ws d a r).CI≤due→(G2 l1 d0 ws d a r).BP=true∧(G2 l1 d0 ws d a r).CI≤due
 |[],_,_,_,_,h,_=>by cases h
 |true::ws,d,a,r,e,h,g=>by
  have m:(a==l1.BP)=false:=Ku (by omega);have f:(a==l2.BP)=false:=Ku (by omega);rw[G2,f,cond_false,←b] at h g;rw[G2,m,cond_false];cases k:r+1==l1.EA with
  |true=>rw[k,cond_true] at h;cases h
  |false=>
   rw[k,cond_false] at h g;rw[cond_false];exact Ny b i j d0 due ws (d+1) a (r+1) e h g
 |false::ws,d,a,r,e,h,g=>by
  have n:=Qp l2 d0 (false::ws) d a r h;have l:((0:Int)==l1.EA)=false:=Ku (by omega)
  by_cases c:a+1=l1.BP
  ·rw[G2,Mm c,cond_true];exact⟨rfl,by show d≤due;omega⟩
  ·have f:(a+1==l2.BP)=false:=Ku (by omega);rw[G2,f,cond_false,←b,l,cond_false] at h g;rw[G2,Ku c,cond_false,l,cond_false];exact Ny b i j d0 due ws (d+1) (a+1) 0 (by omega) h g
theorem Vu{d1 d2 day w DG due:Int}(g:1≤d1)(a:d1≤d2)(b:1≤DG)(t:Cy)(h:I8 (Ex d2 day w DG due) [[0]] 0 t=true):I8 (Ex d1 day w DG due) [[0]] 0 t=true:=by
 rw[Xo] at h⊢;unfold Kr G3 at h⊢;rw[Bool.and_eq_true,decide_eq_true_eq] at h⊢
 by_cases c:(9:Int)<max 0 (FQ t.Comes 0)
 ·have d:(Ex d2 day w DG due).Ao<max 0 (FQ t.Comes 0):=c;rw[if_pos d] at h;cases h.1
 ·have e:¬(Ex d2 day w DG due).Ao<max 0 (FQ t.Comes 0):=c;have f:¬(Ex d1 day w DG due).Ao<max 0 (FQ t.Comes 0):=c;rw[if_neg e] at h;rw[if_neg f];exact Ny (l1:=⟨day,day,d1,DG,due⟩) (l2:=⟨day,day,d2,DG,due⟩) rfl b a _ due _ _ 0 0 (by show(0:Int)<d1;omega) h.1 h.2
theorem Vv(d1 d2 day w DG due:Int):Ed (Ex d1 day w DG due)=Ed (Ex d2 day w DG due):=rfl
theorem Sn(a day w DG due:Int):Dl (LR a day w DG due) 1 3=true:=by
 unfold LR verdict;cases (Ed (Ex a day w DG due)).all (I8 (Ex a day w DG due) [[0]] 0) with
 |true=>rfl
 |false=>cases (Ed (Ex a day w DG due)).all (fun t=> !I8 (Ex a day w DG due) [[0]] 0 t)<;>rfl
def Xp(a b:Int):Bool:=(b !=1||a==1)&&(a !=2||b==2)
theorem Rk{d1 d2 day w DG due:Int}(b:1≤d1)(c:d1≤d2)(d:1≤DG):Xp (LR d1 day w DG due) (LR d2 day w DG due)=true:=by
 unfold LR verdict;rw[Vv d1 d2];have hm:=fun t=>Vu (day:=day) (w:=w) (due:=due) b c d t;generalize Ed (Ex d2 day w DG due)=T;have a1:T.all (I8 (Ex d2 day w DG due) [[0]] 0)=true→T.all (I8 (Ex d1 day w DG due) [[0]] 0)=true:=fun h=>by
  rw[List.all_eq_true] at h⊢;exact fun t a=>hm t (h t a)
 have a2:(T.all fun t=> !I8 (Ex d1 day w DG due) [[0]] 0 t)=true→(T.all fun t=> !I8 (Ex d2 day w DG due) [[0]] 0 t)=true:=fun h=>by
  rw[List.all_eq_true] at h⊢;intro t a;have:=h t a;cases e:I8 (Ex d2 day w DG due) [[0]] 0 t with
  |false=>rfl
  |true=>rw[hm t e] at this;cases this
 generalize T.all (I8 (Ex d1 day w DG due) [[0]] 0)=f at a1 a2;generalize T.all (I8 (Ex d2 day w DG due) [[0]] 0)=g at a1 a2;generalize (T.all fun t=> !I8 (Ex d1 day w DG due) [[0]] 0 t)=n1 at a1 a2;generalize (T.all fun t=> !I8 (Ex d2 day w DG due) [[0]] 0 t)=i at a1 a2;revert a1 a2;cases f<;>cases g<;>cases n1<;>cases i<;>decide
theorem Ow(n:Int):1≤I3 n∧I3 n≤5:=by unfold I3;omega
theorem Pb{a b:Int}(h:a≤b):I3 a≤I3 b:=by
 have:a/40≤b/40:=Int.ediv_le_ediv (by omega) h;unfold I3;omega
section
variable{K:Nat}(hK:2000≤K)
include hK
theorem Jt{n day w DG due:Int}(a:0≤n∧n≤500)(b:0≤day∧day≤9)(c:0≤w∧w≤3)(d:1≤DG∧DG≤5)(f:0≤due∧due≤9):Dh K n day w DG due=some (LR (I3 n) day w DG due):=by
 have g:=Vs (Ow n) b c d f;have e:Hl K (Ex (I3 n) day w DG due) [[0]] 0=some (LR (I3 n) day w DG due,0):=by
  unfold LR;rw[Vg (Ex (I3 n) day w DG due) [[0]] 0 hK (by decide) (by decide),if_neg (by rw[g];decide),if_neg]
  ·rfl
  ·rw[Vt _ rfl rfl];show¬(true=false∨Dl 0 0 (1-1)=false)
   decide
 unfold Dh;rw[P0 a.1 (by omega),BU (by omega) (by omega),BU (by omega) (by omega)];show((Hl K (Ex (I3 n) day w DG due) [[0]] 0).bind _)=_;generalize LR (I3 n) day w DG due=v at e⊢;rw[bd e];rfl
theorem Uk:D1 K=some true:=by
 have v1:LR (I3 20) 0 1 2 1=1:=by decide+kernel
 have v2:LR (I3 40) 0 1 2 1=3:=by decide+kernel
 have v3:LR (I3 40) 0 1 2 0=2:=by decide+kernel
 unfold D1;rw[bd (Jt hK (by omega) (by omega) (by omega) (by omega) (by omega)),v1,ct (Mm rfl),bd (Jt hK (by omega) (by omega) (by omega) (by omega) (by omega)),v2,ct (Mm rfl),bd (Jt hK (by omega) (by omega) (by omega) (by omega) (by omega)),v3];rfl
theorem Pc{a b:Int}(h:Xp a b=true):Fk K a b=some true:=by
 unfold Xp at h;rw[Bool.and_eq_true,Bool.or_eq_true,Bool.or_eq_true] at h;unfold Fk;have c:cond (a !=2) (some true) (some (b==2))=some true:=by
  rcases h.2 with c|c
  ·rw[c,cond_true]
  ·rw[c];cases a !=2<;>rfl
 rw[c];rcases h.1 with d|d
 ·rw[d,cond_true]
 ·rw[d];cases b !=1<;>rfl
end
end Go.Proofs.YtamobliaoknclaaGreat
end
section
namespace Go.Proofs.YtamobliaoknclaaGreat
namespace HF
theorem mixed:Tryz.prog.follows .mixedOrders=true:=by kernel_rfl
theorem Nz(b:Nat)(w:World):(Instr.fieldAt 107 (.pointer (some ⟨b,0,none⟩)) 1).run Tryz.prog w=.ok (.pointer (some ⟨b,1,none⟩)) w:=by kernel_rfl
theorem AV:One Tryz.prog 3:=by unfold One;exact⟨by kernel_rfl,by kernel_rfl⟩
theorem NA(b:Nat)(w:World):(Instr.fieldAt 107 (.pointer (some ⟨b,0,none⟩)) 0).run Tryz.prog w=.ok (.pointer (some ⟨b,0,none⟩)) w:=by kernel_rfl
theorem Mu:Ba Tryz.prog 99:=by unfold Ba;kernel_rfl
theorem Qq:(Tryz.prog.underlying 3).isSome=true:=by kernel_rfl
theorem Kx:(Tryz.prog.info? 124).bind (·.zero)=some (.agg #[I 0,I 0,.bool false]):=by kernel_rfl
theorem Hq:(Tryz.prog.info? 124).map (·.size)=some 3:=by kernel_rfl
theorem H3:EK Tryz.prog 124 3:=by unfold EK;exact⟨by kernel_rfl,by kernel_rfl⟩
theorem H4(b:Nat)(w:World):(Instr.fieldAt 76 (.pointer (some ⟨b,0,none⟩)) 4).run Tryz.prog w=.ok (.pointer (some ⟨b,4,none⟩)) w:=by kernel_rfl
theorem H5:One Tryz.prog 74:=by unfold One;exact⟨by kernel_rfl,by kernel_rfl⟩
theorem Ul(b:Nat)(w:World):(Instr.fieldAt 124 (.pointer (some ⟨b,0,none⟩)) 2).run Tryz.prog w=.ok (.pointer (some ⟨b,2,none⟩)) w:=by kernel_rfl
theorem GJ:One Tryz.prog 4:=by unfold One;exact⟨by kernel_rfl,by kernel_rfl⟩
theorem NB(b:Nat)(w:World):(Instr.fieldAt 124 (.pointer (some ⟨b,0,none⟩)) 1).run Tryz.prog w=.ok (.pointer (some ⟨b,1,none⟩)) w:=by kernel_rfl
theorem Qr(b:Nat)(w:World):(Instr.fieldAt 109 (.pointer (some ⟨b,0,none⟩)) 3).run Tryz.prog w=.ok (.pointer (some ⟨b,4,none⟩)) w:=by kernel_rfl
theorem K3:EK Tryz.prog 109 5:=by unfold EK;exact⟨by kernel_rfl,by kernel_rfl⟩
theorem Xq:Ba Tryz.prog 86:=by unfold Ba;kernel_rfl
theorem H6:(Tryz.prog.info? 3).map (fun i=>(i.zero,i.size,i.bytes))=some (some (I 0),1,8):=by kernel_rfl
theorem Qs(b:Nat)(w:World):(Instr.fieldAt 109 (.pointer (some ⟨b,0,none⟩)) 0).run Tryz.prog w=.ok (.pointer (some ⟨b,0,none⟩)) w:=by kernel_rfl
theorem Ox:EK Tryz.prog 107 2:=by unfold EK;exact⟨by kernel_rfl,by kernel_rfl⟩
theorem Ju(b:Nat)(w:World):(Instr.fieldAt 76 (.pointer (some ⟨b,0,none⟩)) 0).run Tryz.prog w=.ok (.pointer (some ⟨b,0,none⟩)) w:=by kernel_rfl
theorem Vw:Ba Tryz.prog 135:=by unfold Ba;kernel_rfl
theorem I4(b:Nat)(w:World):(Instr.fieldAt 109 (.pointer (some ⟨b,0,none⟩)) 1).run Tryz.prog w=.ok (.pointer (some ⟨b,2,none⟩)) w:=by kernel_rfl
theorem Rl:Ba Tryz.prog 136:=by unfold Ba;kernel_rfl
theorem NC(b:Nat)(w:World):(Instr.fieldAt 109 (.pointer (some ⟨b,0,none⟩)) 2).run Tryz.prog w=.ok (.pointer (some ⟨b,3,none⟩)) w:=by kernel_rfl
theorem CG:(Tryz.prog.info? 3).map (·.size)=some 1:=by kernel_rfl
theorem Vx:(Tryz.prog.info? 76).bind (·.zero)=some (.agg #[I 0,I 0,I 0,I 0,.slice none 0 0]):=by kernel_rfl
theorem YL:(Tryz.prog.info? 76).map (·.size)=some 5:=by kernel_rfl
theorem H7:EK Tryz.prog 76 5:=by unfold EK;exact⟨by kernel_rfl,by kernel_rfl⟩
theorem Rm:(Tryz.prog.info? 71).bind (·.zero)=some (.agg #[.slice none 0 0,.slice none 0 0]):=by kernel_rfl
theorem Tc:(Tryz.prog.info? 4).map (fun i=>(i.zero,i.size,i.bytes))=some (some (.bool false),1,1):=by kernel_rfl
theorem UM:(Tryz.prog.info? 71).map (·.size)=some 2:=by kernel_rfl
theorem Oy(b:Nat)(w:World):(Instr.fieldAt 71 (.pointer (some ⟨b,0,none⟩)) 1).run Tryz.prog w=.ok (.pointer (some ⟨b,1,none⟩)) w:=by kernel_rfl
theorem K4:One Tryz.prog 69:=by unfold One;exact⟨by kernel_rfl,by kernel_rfl⟩
theorem Hv:(Tryz.prog.info? 4).map (·.size)=some 1:=by kernel_rfl
theorem Qt:EK Tryz.prog 71 2:=by unfold EK;exact⟨by kernel_rfl,by kernel_rfl⟩
theorem Vy:One Tryz.prog 177:=by unfold One;exact⟨by kernel_rfl,by kernel_rfl⟩
theorem JL:(Tryz.prog.info? 109).map (·.size)=some 5:=by kernel_rfl
theorem Vz:Ba Tryz.prog 156:=by unfold Ba;kernel_rfl
theorem VA:Ba Tryz.prog 138:=by unfold Ba;kernel_rfl
theorem VB:Ba Tryz.prog 137:=by unfold Ba;kernel_rfl
theorem VC:One Tryz.prog 217:=by unfold One;exact⟨by kernel_rfl,by kernel_rfl⟩
theorem VD:Ba Tryz.prog 182:=by unfold Ba;kernel_rfl
theorem VF:Ba Tryz.prog 174:=by unfold Ba;kernel_rfl
theorem VG:Ba Tryz.prog 173:=by unfold Ba;kernel_rfl
theorem Rn(b:Nat)(w:World):(Instr.fieldAt 76 (.pointer (some ⟨b,0,none⟩)) 2).run Tryz.prog w=.ok (.pointer (some ⟨b,2,none⟩)) w:=by kernel_rfl
theorem Ro(b:Nat)(w:World):(Instr.fieldAt 76 (.pointer (some ⟨b,0,none⟩)) 3).run Tryz.prog w=.ok (.pointer (some ⟨b,3,none⟩)) w:=by kernel_rfl
theorem K5:(Tryz.prog.info? 3).bind (·.zero)=some (I 0):=by kernel_rfl
theorem VH:Ba Tryz.prog 152:=by unfold Ba;kernel_rfl
theorem VI:Ba Tryz.prog 151:=by unfold Ba;kernel_rfl
theorem Rp:Ba Tryz.prog 123:=by unfold Ba;kernel_rfl
theorem VJ:Ba Tryz.prog 130:=by unfold Ba;kernel_rfl
theorem Oz(b:Nat)(w:World):(Instr.fieldAt 76 (.pointer (some ⟨b,0,none⟩)) 1).run Tryz.prog w=.ok (.pointer (some ⟨b,1,none⟩)) w:=by kernel_rfl
theorem Xr:Ba Tryz.prog 98:=by unfold Ba;kernel_rfl
theorem VK:Ba Tryz.prog 100:=by unfold Ba;kernel_rfl
theorem Rq:Ba Tryz.prog 101:=by unfold Ba;kernel_rfl
theorem Rr:Ba Tryz.prog 139:=by unfold Ba;kernel_rfl
theorem Qu:(Tryz.prog.info? 109).bind (·.zero)=some (.agg #[I 0,I 0,I 0,I 0,I 0]):=by kernel_rfl
theorem Rs:Ba Tryz.prog 103:=by unfold Ba;kernel_rfl
theorem VM:Ba Tryz.prog 102:=by unfold Ba;kernel_rfl
theorem BY:One Tryz.prog 23:=by unfold One;exact⟨by kernel_rfl,by kernel_rfl⟩
theorem VN:One Tryz.prog 169:=by unfold One;exact⟨by kernel_rfl,by kernel_rfl⟩
theorem Qv(b o:Nat)(w:World):(Instr.fieldAt 109 (.pointer (some ⟨b,o,none⟩)) 0).run Tryz.prog w=.ok (.pointer (some ⟨b,o,none⟩)) w:=by kernel_rfl
theorem Um(b o:Nat)(w:World):(Instr.fieldAt 107 (.pointer (some ⟨b,o,none⟩)) 0).run Tryz.prog w=.ok (.pointer (some ⟨b,o,none⟩)) w:=by kernel_rfl
theorem K6:One Tryz.prog 149:=by unfold One;exact⟨by kernel_rfl,by kernel_rfl⟩
theorem Rt:Ba Tryz.prog 169:=by unfold Ba;kernel_rfl
theorem Ru:(Tryz.prog.info? 23).bind (·.zero)=some (.slice none 0 0):=by kernel_rfl
theorem J5:(Tryz.prog.info? 23).map (·.size)=some 1:=by kernel_rfl
theorem VO:(Tryz.prog.info? 69).bind (·.zero)=some (.slice none 0 0):=by kernel_rfl
theorem YM:(Tryz.prog.info? 69).map (·.size)=some 1:=by kernel_rfl
theorem Qw:(Tryz.prog.info? 149).bind (·.zero)=some (.nilFunc):=by kernel_rfl
theorem Td:(Tryz.prog.info? 149).map (·.size)=some 1:=by kernel_rfl
theorem VP(w:World):(Op.equal 69 (.slice none 0 0) (.slice none 0 0)).run Tryz.prog w=.ok true w:=by kernel_rfl
theorem VQ(ad:Addr)(n c:Nat)(w:World):(Op.equal 69 (.slice (some ad) n c) (.slice none 0 0)).run Tryz.prog w=.ok false w:=by kernel_rfl
theorem Rv:Ba Tryz.prog 108:=by unfold Ba;kernel_rfl
theorem YN:∀(b c:Bool) (w:World),(Op.equal 4 (.bool b) (.bool c)).run Tryz.prog w=.ok (b==c) w:=by intro b c w;cases b<;>cases c<;>kernel_rfl
theorem OA(b:Nat)(w:World):(Instr.fieldAt 71 (.pointer (some ⟨b,0,none⟩)) 0).run Tryz.prog w=.ok (.pointer (some ⟨b,0,none⟩)) w:=by kernel_rfl
theorem Rw:M8 Tryz.prog 201 2:=RY 2 Tryz.underlying201 (by kernel_rfl) rfl rfl AV Tryz.underlying3
theorem Qx:PG Tryz.prog 201 2:=QS 2 Tryz.underlying201 rfl rfl AV Tryz.underlying3
theorem Pd:IF Tryz.prog 201:=by unfold IF;kernel_rfl
theorem Xs:(Tryz.prog.info? 124).bind (·.zero)=some (.agg #[I 0,I 0,.bool false]):=by kernel_rfl
theorem I5(b:Nat)(w:World):(Instr.fieldAt 201 (.pointer (some ⟨b,0,none⟩)) 1).run Tryz.prog w=.ok (.pointer (some ⟨b,1,none⟩)) w:=by kernel_rfl
theorem Ky(b o:Nat)(w:World):(Instr.fieldAt 173 (.pointer (some ⟨b,o,none⟩)) 0).run Tryz.prog w=.ok (.pointer (some ⟨b,o,none⟩)) w:=by kernel_rfl
theorem OB(b o:Nat)(w:World):(Instr.fieldAt 76 (.pointer (some ⟨b,o,none⟩)) 0).run Tryz.prog w=.ok (.pointer (some ⟨b,o,none⟩)) w:=by kernel_rfl
theorem Rx(b o:Nat)(w:World):(Instr.fieldAt 76 (.pointer (some ⟨b,o,none⟩)) 4).run Tryz.prog w=.ok (.pointer (some ⟨b,o+4,none⟩)) w:=by kernel_rfl
theorem Un(b:Nat)(w:World):(Instr.fieldAt 201 (.pointer (some ⟨b,0,none⟩)) 0).run Tryz.prog w=.ok (.pointer (some ⟨b,0,none⟩)) w:=by kernel_rfl
theorem Qy(b o:Nat)(w:World):(Instr.fieldAt 173 (.pointer (some ⟨b,o,none⟩)) 1).run Tryz.prog w=.ok (.pointer (some ⟨b,o+5,none⟩)) w:=by kernel_rfl
theorem Qz(b o:Nat)(w:World):(Instr.fieldAt 173 (.pointer (some ⟨b,o,none⟩)) 2).run Tryz.prog w=.ok (.pointer (some ⟨b,o+6,none⟩)) w:=by kernel_rfl
theorem Ry:One Tryz.prog 171:=by unfold One;exact⟨by kernel_rfl,by kernel_rfl⟩
theorem OC:EK Tryz.prog 201 2:=by unfold EK;exact⟨by kernel_rfl,by kernel_rfl⟩
theorem VR:Ba Tryz.prog 153:=by unfold Ba;kernel_rfl
theorem Uo:(Tryz.prog.info? 124).map (fun i=>(i.zero,i.size,i.bytes))=some (some (.agg #[I 0,I 0,.bool false]),3,24):=by kernel_rfl
theorem VS:Ba Tryz.prog 131:=by unfold Ba;kernel_rfl
theorem VT:Ba Tryz.prog 104:=by unfold Ba;kernel_rfl
theorem Xt:Ba Tryz.prog 56:=by unfold Ba;kernel_rfl
theorem Xu:Ba Tryz.prog 57:=by unfold Ba;kernel_rfl
theorem QA:Ba Tryz.prog 91:=by unfold Ba;kernel_rfl
theorem Up(b:Nat)(w:World):(Instr.fieldAt 166 (.pointer (some ⟨b,0,none⟩)) 0).run Tryz.prog w=.ok (.pointer (some ⟨b,0,none⟩)) w:=by kernel_rfl
theorem VU:One Tryz.prog 163:=by unfold One;exact⟨by kernel_rfl,by kernel_rfl⟩
theorem Uq:(Tryz.prog.info? 170).bind (·.zero)=some (.pointer none):=by kernel_rfl
theorem VV:Ba Tryz.prog 142:=by unfold Ba;kernel_rfl
theorem J9:One Tryz.prog 170:=by unfold One;exact⟨by kernel_rfl,by kernel_rfl⟩
theorem Te(w:World):(Op.equal 170 (.pointer none) (.pointer none)).run Tryz.prog w=.ok true w:=by kernel_rfl
theorem Tf:(Tryz.prog.info? 170).map (·.size)=some 1:=by kernel_rfl
theorem OD:One Tryz.prog 185:=by unfold One;exact⟨by kernel_rfl,by kernel_rfl⟩
theorem QB:One Tryz.prog 66:=by unfold One;exact⟨by kernel_rfl,by kernel_rfl⟩
theorem Tg(ad:Addr)(w:World):(Op.equal 170 (.pointer (some ad)) (.pointer none)).run Tryz.prog w=.ok false w:=by kernel_rfl
theorem VW:Ba Tryz.prog 143:=by unfold Ba;kernel_rfl
theorem VX:Ba Tryz.prog 168:=by unfold Ba;kernel_rfl
theorem QC:(Tryz.prog.info? 161).bind (·.zero)=some (.agg #[I 0,I 0,I 0,I 0]):=by kernel_rfl
theorem VY:Ba Tryz.prog 126:=by unfold Ba;kernel_rfl
theorem VZ:Ba Tryz.prog 105:=by unfold Ba;kernel_rfl
theorem RA:EK Tryz.prog 161 4:=by unfold EK;exact⟨by kernel_rfl,by kernel_rfl⟩
theorem Th:(Tryz.prog.info? 161).map (·.size)=some 4:=by kernel_rfl
theorem Xv:Ba Tryz.prog 85:=by unfold Ba;kernel_rfl
theorem Xw:Ba Tryz.prog 87:=by unfold Ba;kernel_rfl
theorem Sp:(Tryz.prog.underlying 5).isSome=true:=by kernel_rfl
theorem K7(b:Nat)(w:World):(Instr.fieldAt 53 (.pointer (some ⟨b,0,none⟩)) 1).run Tryz.prog w=.ok (.pointer (some ⟨b,1,none⟩)) w:=by kernel_rfl
theorem K8(b:Nat)(w:World):(Instr.fieldAt 53 (.pointer (some ⟨b,0,none⟩)) 0).run Tryz.prog w=.ok (.pointer (some ⟨b,0,none⟩)) w:=by kernel_rfl
theorem JM:Ba Tryz.prog 82:=by unfold Ba;kernel_rfl
theorem FD:EK Tryz.prog 53 2:=by unfold EK;exact⟨by kernel_rfl,by kernel_rfl⟩
theorem RB:Ba Tryz.prog 114:=by unfold Ba;kernel_rfl
theorem K9(b:Nat)(w:World):(Instr.fieldAt 42 (.pointer (some ⟨b,0,none⟩)) 0).run Tryz.prog w=.ok (.pointer (some ⟨b,0,none⟩)) w:=by kernel_rfl
theorem Ck:EK Tryz.prog 42 9:=by unfold EK;exact⟨by kernel_rfl,by kernel_rfl⟩
theorem ND(b:Nat)(w:World):(Instr.fieldAt 101 (.pointer (some ⟨b,0,none⟩)) 0).run Tryz.prog w=.ok (.pointer (some ⟨b,0,none⟩)) w:=by kernel_rfl
theorem V0:Ba Tryz.prog 113:=by unfold Ba;kernel_rfl
theorem NF(b:Nat)(w:World):(Instr.fieldAt 101 (.pointer (some ⟨b,0,none⟩)) 1).run Tryz.prog w=.ok (.pointer (some ⟨b,1,none⟩)) w:=by kernel_rfl
theorem OE(b:Nat)(w:World):(Instr.fieldAt 42 (.pointer (some ⟨b,0,none⟩)) 5).run Tryz.prog w=.ok (.pointer (some ⟨b,5,none⟩)) w:=by kernel_rfl
theorem OF(b:Nat)(w:World):(Instr.fieldAt 42 (.pointer (some ⟨b,0,none⟩)) 6).run Tryz.prog w=.ok (.pointer (some ⟨b,6,none⟩)) w:=by kernel_rfl
theorem V1(b:Nat)(w:World):(Instr.fieldAt 42 (.pointer (some ⟨b,0,none⟩)) 7).run Tryz.prog w=.ok (.pointer (some ⟨b,7,none⟩)) w:=by kernel_rfl
theorem Ka(b:Nat)(w:World):(Instr.fieldAt 42 (.pointer (some ⟨b,0,none⟩)) 3).run Tryz.prog w=.ok (.pointer (some ⟨b,3,none⟩)) w:=by kernel_rfl
theorem V2(b:Nat)(w:World):(Instr.fieldAt 57 (.pointer (some ⟨b,0,none⟩)) 0).run Tryz.prog w=.ok (.pointer (some ⟨b,0,none⟩)) w:=by kernel_rfl
theorem V4(b:Nat)(w:World):(Instr.fieldAt 57 (.pointer (some ⟨b,0,none⟩)) 2).run Tryz.prog w=.ok (.pointer (some ⟨b,2,none⟩)) w:=by kernel_rfl
theorem V5:One Tryz.prog 147:=by unfold One;exact⟨by kernel_rfl,by kernel_rfl⟩
theorem HU:(Tryz.prog.info? 53).map (·.size)=some 2:=by kernel_rfl
theorem V6:Ba Tryz.prog 146:=by unfold Ba;kernel_rfl
theorem V7:Ba Tryz.prog 117:=by unfold Ba;kernel_rfl
theorem V8:Ba Tryz.prog 116:=by unfold Ba;kernel_rfl
theorem V9:Ba Tryz.prog 147:=by unfold Ba;kernel_rfl
theorem Wa:Ba Tryz.prog 119:=by unfold Ba;kernel_rfl
theorem Wb:Ba Tryz.prog 118:=by unfold Ba;kernel_rfl
theorem Wc:One Tryz.prog 145:=by unfold One;exact⟨by kernel_rfl,by kernel_rfl⟩
theorem MR:EK Tryz.prog 101 3:=by unfold EK;exact⟨by kernel_rfl,by kernel_rfl⟩
theorem Mw:(Tryz.prog.info? 101).map (·.size)=some 3:=by kernel_rfl
theorem We:Ba Tryz.prog 148:=by unfold Ba;kernel_rfl
theorem Wf:Ba Tryz.prog 121:=by unfold Ba;kernel_rfl
theorem Wg:Ba Tryz.prog 120:=by unfold Ba;kernel_rfl
theorem Xx:Ba Tryz.prog 81:=by unfold Ba;kernel_rfl
theorem N4:Ba Tryz.prog 73:=by unfold Ba;kernel_rfl
theorem Wh:Ba Tryz.prog 115:=by unfold Ba;kernel_rfl
theorem Jv:(Tryz.prog.info? 53).bind (·.zero)=some (.agg #[I 0,I 0]):=by kernel_rfl
theorem Ti:Ba Tryz.prog 77:=by unfold Ba;kernel_rfl
theorem MS:(Tryz.prog.info? 53).map (fun i=>(i.zero,i.size,i.bytes))=some (some (.agg #[I 0,I 0]),2,16):=by kernel_rfl
theorem Wi(w:World):(Op.equal 39 (.slice none 0 0) (.slice none 0 0)).run Tryz.prog w=.ok true w:=by kernel_rfl
theorem Wj(ad:Addr)(n c:Nat)(w:World):(Op.equal 39 (.slice (some ad) n c) (.slice none 0 0)).run Tryz.prog w=.ok false w:=by kernel_rfl
theorem Wk:Ba Tryz.prog 122:=by unfold Ba;kernel_rfl
theorem Hd(b:Nat)(w:World):(Instr.fieldAt 42 (.pointer (some ⟨b,0,none⟩)) 1).run Tryz.prog w=.ok (.pointer (some ⟨b,1,none⟩)) w:=by kernel_rfl
theorem GZ:One Tryz.prog 39:=by unfold One;exact⟨by kernel_rfl,by kernel_rfl⟩
theorem IJ(b:Nat)(w:World):(Instr.fieldAt 42 (.pointer (some ⟨b,0,none⟩)) 2).run Tryz.prog w=.ok (.pointer (some ⟨b,2,none⟩)) w:=by kernel_rfl
theorem MT(b:Nat)(w:World):(Instr.fieldAt 42 (.pointer (some ⟨b,0,none⟩)) 8).run Tryz.prog w=.ok (.pointer (some ⟨b,8,none⟩)) w:=by kernel_rfl
theorem Mx:One Tryz.prog 40:=by unfold One;exact⟨by kernel_rfl,by kernel_rfl⟩
theorem JN:Ba Tryz.prog 68:=by unfold Ba;kernel_rfl
theorem Gj:Ba Tryz.prog 69:=by unfold Ba;kernel_rfl
theorem My:Ba Tryz.prog 70:=by unfold Ba;kernel_rfl
theorem MU(b:Nat)(w:World):(Instr.fieldAt 42 (.pointer (some ⟨b,0,none⟩)) 4).run Tryz.prog w=.ok (.pointer (some ⟨b,4,none⟩)) w:=by kernel_rfl
theorem La:Ba Tryz.prog 38:=by unfold Ba;kernel_rfl
theorem Xy:Ba Tryz.prog 72:=by unfold Ba;kernel_rfl
theorem QD:Ba Tryz.prog 71:=by unfold Ba;kernel_rfl
theorem Xz:Ba Tryz.prog 74:=by unfold Ba;kernel_rfl
theorem XA:Ba Tryz.prog 67:=by unfold Ba;kernel_rfl
theorem XB:Ba Tryz.prog 75:=by unfold Ba;kernel_rfl
theorem QE:Ba Tryz.prog 76:=by unfold Ba;kernel_rfl
theorem Tj:Ba Tryz.prog 78:=by unfold Ba;kernel_rfl
theorem Wl:One Tryz.prog 104:=by unfold One;exact⟨by kernel_rfl,by kernel_rfl⟩
theorem RC(b o:Nat)(w:World):(Instr.fieldAt 53 (.pointer (some ⟨b,o,none⟩)) 0).run Tryz.prog w=.ok (.pointer (some ⟨b,o,none⟩)) w:=by kernel_rfl
theorem RD:Ba Tryz.prog 171:=by unfold Ba;kernel_rfl
theorem Wm:Ba Tryz.prog 149:=by unfold Ba;kernel_rfl
theorem Zm:(Tryz.prog.info? 3).bind (·.zero)=some (I 0):=by kernel_rfl
theorem NG:No Tryz.prog 159 [true,false]:=QV Tryz.underlying159 (by kernel_rfl) (by kernel_rfl) AV Tryz.underlying3 GJ Tryz.underlying4
theorem Mz:NW Tryz.prog 159:=by intro w em n b;kernel_rfl
theorem MA:IF Tryz.prog 159:=by unfold IF;kernel_rfl
theorem LL:(Tryz.prog.info? 155).bind (·.zero)=some (.agg #[I 0,I 0,I 0,I 0,I 0,I 0,I 0,I 0,I 0,I 0]):=by kernel_rfl
theorem MV(b:Nat)(w:World):(Instr.fieldAt 48 (.pointer (some ⟨b,0,none⟩)) 0).run Tryz.prog w=.ok (.pointer (some ⟨b,0,none⟩)) w:=by kernel_rfl
theorem Lb:Ba Tryz.prog 125:=by unfold Ba;kernel_rfl
theorem Kb:EK Tryz.prog 155 10:=by unfold EK;exact⟨by kernel_rfl,by kernel_rfl⟩
theorem MB:(Tryz.prog.info? 155).map (·.size)=some 10:=by kernel_rfl
theorem OG(b o:Nat)(w:World):(Instr.fieldAt 97 (.pointer (some ⟨b,o,none⟩)) 1).run Tryz.prog w=.ok (.pointer (some ⟨b,o+9,none⟩)) w:=by kernel_rfl
theorem QF:One Tryz.prog 95:=by unfold One;exact⟨by kernel_rfl,by kernel_rfl⟩
theorem OH:EK Tryz.prog 159 2:=by unfold EK;exact⟨by kernel_rfl,by kernel_rfl⟩
theorem Ur(b:Nat)(w:World):(Instr.fieldAt 159 (.pointer (some ⟨b,0,none⟩)) 0).run Tryz.prog w=.ok (.pointer (some ⟨b,0,none⟩)) w:=by kernel_rfl
theorem Us(b:Nat)(w:World):(Instr.fieldAt 159 (.pointer (some ⟨b,0,none⟩)) 1).run Tryz.prog w=.ok (.pointer (some ⟨b,1,none⟩)) w:=by kernel_rfl
theorem IK(b o:Nat)(w:World):(Instr.fieldAt 97 (.pointer (some ⟨b,o,none⟩)) 0).run Tryz.prog w=.ok (.pointer (some ⟨b,o,none⟩)) w:=by kernel_rfl
theorem Wn(b o:Nat)(w:World):(Instr.fieldAt 42 (.pointer (some ⟨b,o,none⟩)) 7).run Tryz.prog w=.ok (.pointer (some ⟨b,o+7,none⟩)) w:=by kernel_rfl
theorem IS:EK Tryz.prog 48 2:=by unfold EK;exact⟨by kernel_rfl,by kernel_rfl⟩
theorem Tk:Ba Tryz.prog 83:=by unfold Ba;kernel_rfl
theorem OI(b:Nat)(w:World):(Instr.fieldAt 48 (.pointer (some ⟨b,0,none⟩)) 1).run Tryz.prog w=.ok (.pointer (some ⟨b,1,none⟩)) w:=by kernel_rfl
theorem XC:Ba Tryz.prog 84:=by unfold Ba;kernel_rfl
theorem Tl:Ba Tryz.prog 32:=by unfold Ba;kernel_rfl
theorem Wo:(Tryz.prog.info? 57).map (fun i=>(i.zero,i.size,i.bytes))=some (some (.agg #[I 0,I 0,I 0]),3,24):=by kernel_rfl
theorem N5:(Tryz.prog.info? 4).bind (·.zero)=some (.bool false):=by kernel_rfl
theorem Jg:One Tryz.prog 86:=by unfold One;exact⟨by kernel_rfl,by kernel_rfl⟩
theorem Wp:Ba Tryz.prog 145:=by unfold Ba;kernel_rfl
theorem OJ:(Tryz.prog.info? 48).bind (·.zero)=some (.agg #[.slice none 0 0,.slice none 0 0]):=by kernel_rfl
theorem Sq:(Tryz.prog.info? 48).map (·.size)=some 2:=by kernel_rfl
theorem Wq(b o:Nat)(w:World):(Instr.fieldAt 42 (.pointer (some ⟨b,o,none⟩)) 4).run Tryz.prog w=.ok (.pointer (some ⟨b,o+4,none⟩)) w:=by kernel_rfl
theorem RE(b o:Nat)(w:World):(Instr.fieldAt 42 (.pointer (some ⟨b,o,none⟩)) 8).run Tryz.prog w=.ok (.pointer (some ⟨b,o+8,none⟩)) w:=by kernel_rfl
theorem QG:(Tryz.prog.info? 101).bind (·.zero)=some (.agg #[I 0,I 0,I 0]):=by kernel_rfl
theorem QH:Ba Tryz.prog 80:=by unfold Ba;kernel_rfl
theorem OK:One Tryz.prog 103:=by unfold One;exact⟨by kernel_rfl,by kernel_rfl⟩
theorem Wr:Tryz.prog.eqGuardType Tryz.prog.depth 155=false:=by kernel_rfl
theorem Ws:M8 Tryz.prog 155 10:=Sz Tryz.underlying155 AV Tryz.underlying3
theorem Wt:Ba Tryz.prog 170:=by unfold Ba;kernel_rfl
theorem RF:Ba Tryz.prog 111:=by unfold Ba;kernel_rfl
theorem RG:Ba Tryz.prog 144:=by unfold Ba;kernel_rfl
theorem Tm:Ba Tryz.prog 36:=by unfold Ba;kernel_rfl
theorem Tn:Ba Tryz.prog 39:=by unfold Ba;kernel_rfl
theorem Wu:Ba Tryz.prog 110:=by unfold Ba;kernel_rfl
theorem XD:Ba Tryz.prog 64:=by unfold Ba;kernel_rfl
theorem XE:Ba Tryz.prog 63:=by unfold Ba;kernel_rfl
theorem Wv:One Tryz.prog 144:=by unfold One;exact⟨by kernel_rfl,by kernel_rfl⟩
theorem RH:Ba Tryz.prog 112:=by unfold Ba;kernel_rfl
theorem Ww(b:Nat)(w:World):(Instr.fieldAt 92 (.pointer (some ⟨b,0,none⟩)) 0).run Tryz.prog w=.ok (.pointer (some ⟨b,0,none⟩)) w:=by kernel_rfl
theorem XF:One Tryz.prog 89:=by unfold One;exact⟨by kernel_rfl,by kernel_rfl⟩
theorem To:Ba Tryz.prog 40:=by unfold Ba;kernel_rfl
theorem UN:(Tryz.prog.info? 57).map (·.size)=some 3:=by kernel_rfl
theorem XG:EK Tryz.prog 57 3:=by unfold EK;exact⟨by kernel_rfl,by kernel_rfl⟩
theorem XH:Ba Tryz.prog 66:=by unfold Ba;kernel_rfl
theorem XI:Ba Tryz.prog 65:=by unfold Ba;kernel_rfl
theorem XJ:Ba Tryz.prog 29:=by unfold Ba;kernel_rfl
theorem XK:Ba Tryz.prog 30:=by unfold Ba;kernel_rfl
theorem Tp:Ba Tryz.prog 31:=by unfold Ba;kernel_rfl
theorem XL:Ba Tryz.prog 33:=by unfold Ba;kernel_rfl
theorem Wx:(Tryz.prog.info? 55).map (fun i=>(i.zero,i.size,i.bytes))=some (some (.agg #[I 0,I 0,I 0,I 0,I 0]),5,40):=by kernel_rfl
theorem Wy:Ba Tryz.prog 124:=by unfold Ba;kernel_rfl
theorem XM:Ba Tryz.prog 79:=by unfold Ba;kernel_rfl
theorem XN:Ba Tryz.prog 37:=by unfold Ba;kernel_rfl
theorem Lc(b:Nat)(w:World):(Instr.fieldAt 81 (.pointer (some ⟨b,0,none⟩)) 0).run Tryz.prog w=.ok (.pointer (some ⟨b,0,none⟩)) w:=by kernel_rfl
theorem MW(b:Nat)(w:World):(Instr.fieldAt 81 (.pointer (some ⟨b,0,none⟩)) 1).run Tryz.prog w=.ok (.pointer (some ⟨b,1,none⟩)) w:=by kernel_rfl
theorem Hz(b:Nat)(w:World):(Instr.fieldAt 26 (.pointer (some ⟨b,0,none⟩)) 0).run Tryz.prog w=.ok (.pointer (some ⟨b,0,none⟩)) w:=by kernel_rfl
theorem G0:Ba Tryz.prog 15:=by unfold Ba;kernel_rfl
theorem HA(b:Nat)(w:World):(Instr.fieldAt 26 (.pointer (some ⟨b,0,none⟩)) 3).run Tryz.prog w=.ok (.pointer (some ⟨b,3,none⟩)) w:=by kernel_rfl
theorem IL(b:Nat)(w:World):(Instr.fieldAt 26 (.pointer (some ⟨b,0,none⟩)) 1).run Tryz.prog w=.ok (.pointer (some ⟨b,1,none⟩)) w:=by kernel_rfl
theorem Jh:One Tryz.prog 22:=by unfold One;exact⟨by kernel_rfl,by kernel_rfl⟩
theorem N6:(Tryz.prog.info? 81).map (·.size)=some 2:=by kernel_rfl
theorem JO:EK Tryz.prog 81 2:=by unfold EK;exact⟨by kernel_rfl,by kernel_rfl⟩
theorem QI:Ba Tryz.prog 60:=by unfold Ba;kernel_rfl
theorem Kd(b:Nat)(w:World):(Instr.fieldAt 26 (.pointer (some ⟨b,0,none⟩)) 2).run Tryz.prog w=.ok (.pointer (some ⟨b,2,none⟩)) w:=by kernel_rfl
theorem XO:Ba Tryz.prog 61:=by unfold Ba;kernel_rfl
theorem HB(b:Nat)(w:World):(Instr.fieldAt 26 (.pointer (some ⟨b,0,none⟩)) 8).run Tryz.prog w=.ok (.pointer (some ⟨b,8,none⟩)) w:=by kernel_rfl
theorem Im:One Tryz.prog 24:=by unfold One;exact⟨by kernel_rfl,by kernel_rfl⟩
theorem RI(b:Nat)(w:World):(Instr.fieldAt 26 (.pointer (some ⟨b,0,none⟩)) 5).run Tryz.prog w=.ok (.pointer (some ⟨b,5,none⟩)) w:=by kernel_rfl
theorem RJ(b:Nat)(w:World):(Instr.fieldAt 26 (.pointer (some ⟨b,0,none⟩)) 6).run Tryz.prog w=.ok (.pointer (some ⟨b,6,none⟩)) w:=by kernel_rfl
theorem RK(b:Nat)(w:World):(Instr.fieldAt 26 (.pointer (some ⟨b,0,none⟩)) 7).run Tryz.prog w=.ok (.pointer (some ⟨b,7,none⟩)) w:=by kernel_rfl
theorem Hr:EK Tryz.prog 26 9:=by unfold EK;exact⟨by kernel_rfl,by kernel_rfl⟩
theorem MX(b:Nat)(w:World):(Instr.fieldAt 26 (.pointer (some ⟨b,0,none⟩)) 4).run Tryz.prog w=.ok (.pointer (some ⟨b,4,none⟩)) w:=by kernel_rfl
theorem XP:Ba Tryz.prog 24:=by unfold Ba;kernel_rfl
theorem Tq:Ba Tryz.prog 25:=by unfold Ba;kernel_rfl
theorem MY:(Tryz.prog.info? 83).map (·.size)=some 3:=by kernel_rfl
theorem OL(b o:Nat)(w:World):(Instr.fieldAt 83 (.pointer (some ⟨b,o,none⟩)) 0).run Tryz.prog w=.ok (.pointer (some ⟨b,o,none⟩)) w:=by kernel_rfl
theorem RL(b o:Nat)(w:World):(Instr.fieldAt 83 (.pointer (some ⟨b,o,none⟩)) 1).run Tryz.prog w=.ok (.pointer (some ⟨b,o+1,none⟩)) w:=by kernel_rfl
theorem QJ:Ba Tryz.prog 23:=by unfold Ba;kernel_rfl
theorem RM:(Tryz.prog.info? 50).bind (·.zero)=some (.agg #[.slice none 0 0,.slice none 0 0]):=by kernel_rfl
theorem Wz:(Tryz.prog.info? 81).bind (·.zero)=some (.agg #[I 0,I 0]):=by kernel_rfl
theorem MZ(b:Nat)(w:World):(Instr.fieldAt 50 (.pointer (some ⟨b,0,none⟩)) 0).run Tryz.prog w=.ok (.pointer (some ⟨b,0,none⟩)) w:=by kernel_rfl
theorem Ld(b:Nat)(w:World):(Instr.fieldAt 50 (.pointer (some ⟨b,0,none⟩)) 1).run Tryz.prog w=.ok (.pointer (some ⟨b,1,none⟩)) w:=by kernel_rfl
theorem N7:EK Tryz.prog 50 2:=by unfold EK;exact⟨by kernel_rfl,by kernel_rfl⟩
theorem UO:(Tryz.prog.info? 50).map (·.size)=some 2:=by kernel_rfl
theorem WA(b:Nat)(w:World):(Instr.fieldAt 83 (.pointer (some ⟨b,0,none⟩)) 0).run Tryz.prog w=.ok (.pointer (some ⟨b,0,none⟩)) w:=by kernel_rfl
theorem WB:Ba Tryz.prog 109:=by unfold Ba;kernel_rfl
theorem RN(b:Nat)(w:World):(Instr.fieldAt 83 (.pointer (some ⟨b,0,none⟩)) 1).run Tryz.prog w=.ok (.pointer (some ⟨b,1,none⟩)) w:=by kernel_rfl
theorem Ts(b:Nat)(w:World):(Instr.fieldAt 81 (.pointer (some ⟨b,1,none⟩)) 0).run Tryz.prog w=.ok (.pointer (some ⟨b,1,none⟩)) w:=by kernel_rfl
theorem Tt(b:Nat)(w:World):(Instr.fieldAt 81 (.pointer (some ⟨b,1,none⟩)) 1).run Tryz.prog w=.ok (.pointer (some ⟨b,2,none⟩)) w:=by kernel_rfl
theorem Tu:Ba Tryz.prog 28:=by unfold Ba;kernel_rfl
theorem XQ:EK Tryz.prog 83 3:=by unfold EK;exact⟨by kernel_rfl,by kernel_rfl⟩
theorem XS:Ba Tryz.prog 62:=by unfold Ba;kernel_rfl
theorem XT:Ba Tryz.prog 26:=by unfold Ba;kernel_rfl
theorem XU:Ba Tryz.prog 27:=by unfold Ba;kernel_rfl
theorem WC:(Tryz.prog.info? 50).map (fun i=>(i.zero,i.size,i.bytes))=some (some (.agg #[.slice none 0 0,.slice none 0 0]),2,48):=by kernel_rfl
theorem RO:(Tryz.prog.info? 42).bind (·.zero)=some (.agg #[I 0,.slice none 0 0,.slice none 0 0,.slice none 0 0,.slice none 0 0,I 0,I 0,I 0,.slice none 0 0]):=by kernel_rfl
theorem MC:Ba Tryz.prog 34:=by unfold Ba;kernel_rfl
theorem UP:(Tryz.prog.info? 42).map (·.size)=some 9:=by kernel_rfl
theorem Tv:Ba Tryz.prog 35:=by unfold Ba;kernel_rfl
theorem YO:(Tryz.prog.info? 39).map (·.size)=some 1:=by kernel_rfl
theorem Ut:(Tryz.prog.info? 101).map (fun i=>(i.zero,i.size,i.bytes))=some (some (.agg #[I 0,I 0,I 0]),3,24):=by kernel_rfl
theorem YP:(Tryz.prog.info? 40).map (·.size)=some 1:=by kernel_rfl
theorem UQ:Ba Tryz.prog 6:=by unfold Ba;kernel_rfl
theorem XV:Ba Tryz.prog 41:=by unfold Ba;kernel_rfl
theorem Le:Ba Tryz.prog 14:=by unfold Ba;kernel_rfl
theorem YQ:Ba Tryz.prog 5:=by unfold Ba;kernel_rfl
theorem N8:Ba Tryz.prog 7:=by unfold Ba;kernel_rfl
theorem UR:(Tryz.prog.underlying 27).isSome=true:=by kernel_rfl
theorem YR:Ba Tryz.prog 8:=by unfold Ba;kernel_rfl
theorem YS:Ba Tryz.prog 9:=by unfold Ba;kernel_rfl
theorem Tw:Ba Tryz.prog 11:=by unfold Ba;kernel_rfl
theorem XW:Ba Tryz.prog 10:=by unfold Ba;kernel_rfl
theorem XX:Ba Tryz.prog 13:=by unfold Ba;kernel_rfl
theorem XY:Ba Tryz.prog 12:=by unfold Ba;kernel_rfl
theorem US:(Tryz.prog.info? 55).map (·.size)=some 5:=by kernel_rfl
theorem RP(b o:Nat)(w:World):(Instr.fieldAt 55 (.pointer (some ⟨b,o,none⟩)) 0).run Tryz.prog w=.ok (.pointer (some ⟨b,o,none⟩)) w:=by kernel_rfl
theorem WD(b o:Nat)(w:World):(Instr.fieldAt 57 (.pointer (some ⟨b,o,none⟩)) 0).run Tryz.prog w=.ok (.pointer (some ⟨b,o,none⟩)) w:=by kernel_rfl
theorem WE(b o:Nat)(w:World):(Instr.fieldAt 53 (.pointer (some ⟨b,o,none⟩)) 1).run Tryz.prog w=.ok (.pointer (some ⟨b,o+1,none⟩)) w:=by kernel_rfl
theorem Tx:Ba Tryz.prog 16:=by unfold Ba;kernel_rfl
end HF
end Go.Proofs.YtamobliaoknclaaGreat
end
section
namespace Go.Proofs.YtamobliaoknclaaGreat
open Go.RowKit Go.WideShapes
set_option maxRecDepth 20000
open HF
attribute [local irreducible] B7 WL CC CW LV BW GM EK One Ba
theorem Ty l b d e(Z:Nat→Prop) w k(c:Ft l b d e=some k):
 BW Tryz.prog 99 #[I b,I d,I e] w (fun v w'=>Ext w w'∧BA.R w' (zf Z w []) v k):=by
 unfold Ft at c;refine rq (N:=15) Tryz.func99 fun m g n=>?_;have f:=sA 0 g;have i:=sA 1 g;have j:=sA 2 g;clear g;have h:Hp FN [] w [] w:=Hp.start (BB.none w);refine cr<|wA (v:=.bool false) rfl<|wr<|wM (v:=I d) i<|wM (v:=I b) f<|wD (fun st=>ET (eR st) (eR st))<|wM (v:=.bool (decide (d≤b))) rfl ?_;rcases Af (decide (d≤b)) with a|a
 ·replace c:=AD c a;refine wN a (v:=I b) f<|wN a (v:=I e) j<|wG a (fun st=>ET (eR st) (eR st))<|wD (fun st=>AH (v:=.bool (decide (b≤e))) (eR st) a (eR st))<|wA (v:=.bool (decide (b≤e))) rfl<|wn<|Ap ?_;obtain rfl:=oi c;refine AA rfl rfl ?_;exact⟨h.Bl,rfl⟩
 ·replace c:=AE c a;refine wF a<|wF a<|wF a<|wD (fun st=>AO (v:=.bool false) (eR st) a (eR st))<|wA (v:=.bool false) rfl<|wn<|Ap ?_;obtain rfl:=oi c;refine AA rfl rfl ?_;exact⟨h.Bl,rfl⟩
theorem XZ l a(Z:Nat→Prop) w f(b:F1 l a=some f):
 BW Tryz.prog 103 #[.agg #[I a.Lo,I a.Hi]] w (fun v w'=>Ext w w'∧(DP .i64).R w' (zf Z w []) v f):=by
 unfold F1 at b;refine rq (N:=9) Tryz.func103 fun m g n=>?_;have e:=sA 0 g;clear g;have d:Hp FN [] w [] w:=Hp.start (BB.none w);refine cr<|wE (fun st=>BQ (v:=.agg #[I a.Lo,I a.Hi]) (cs:= #[I a.Lo,I a.Hi]) (ee st e) rfl) ?_;rintro _ w1 ⟨o,rfl,c⟩;have h:=d.nb c;have k:=d.BZ c;refine wA (v:=I 0) rfl<|wr<|wD (fun st=>Ac (eR st) (Nz _ _))<|wD (fun st=>Ag (v:=I a.Hi) AV (eR st) c.bk rfl)<|wD (fun st=>Ac (eR st) (NA _ _))<|wD (fun st=>Ag (v:=I a.Lo) AV (eR st) c.bk rfl) ?_;replace b:=AT b;obtain⟨i,b⟩:=b;refine wD (fun st=>HR (eR st) (eR st) i) ?_;replace b:=AT b;obtain⟨j,b⟩:=b;refine wD (fun st=>BV (eR st) (eR st) j)<|wA (v:=I ((a.Hi-a.Lo)+1)) rfl<|wn<|Ap ?_;obtain rfl:=oi b;refine AA rfl rfl ?_;exact⟨h.Bl,rfl⟩
theorem Zn n b f(Z:Nat→Prop) w l(d:Is n b f=some l):
 BW Tryz.prog 135 #[.agg #[I b.Lo,I b.Hi],I f] w (fun v w'=>Ext w w'∧BA.R w' (zf Z w []) v l):=by
 unfold Is at d;refine rq (N:=21) Tryz.func135 fun o i p=>?_;have j:=sA 0 i;have k:=sA 1 i;clear i;have h:Hp FN [] w [] w:=Hp.start (BB.none w);refine cr<|wE (fun st=>BQ (v:=.agg #[I b.Lo,I b.Hi]) (cs:= #[I b.Lo,I b.Hi]) (ee st j) rfl) ?_;rintro _ w1 ⟨q,rfl,e⟩;have g:=h.nb e;have m:=h.BZ e;refine wA (v:=.bool false) rfl<|wr<|wD (fun st=>Ac (eR st) (NA _ _))<|wD (fun st=>Ag (v:=I b.Lo) AV (eR st) e.bk rfl)<|wD (fun st=>ET (eR st) (eR st))<|wM (v:=.bool (decide ((0:Int)≤b.Lo))) rfl ?_;rcases Af (decide ((0:Int)≤b.Lo)) with a|a
 ·replace d:=AD d a;refine wG a (fun st=>Ac (eR st) (NA _ _))<|wG a (fun st=>Ag (v:=I b.Lo) AV (eR st) e.bk rfl)<|wG a (fun st=>Ac (eR st) (Nz _ _))<|wG a (fun st=>Ag (v:=I b.Hi) AV (eR st) e.bk rfl)<|wG a (fun st=>ET (eR st) (eR st))<|wD (fun st=>AH (v:=.bool (decide (b.Lo≤b.Hi))) (eR st) a (eR st))<|wM (v:=.bool (decide (b.Lo≤b.Hi))) rfl ?_;rcases Af (decide (b.Lo≤b.Hi)) with c|c
  ·replace d:=AD d c;refine wG c (fun st=>Ac (eR st) (Nz _ _))<|wG c (fun st=>Ag (v:=I b.Hi) AV (eR st) e.bk rfl)<|wN c (v:=I f) k<|wG c (fun st=>ET (eR st) (eR st))<|wD (fun st=>AH (v:=.bool (decide (b.Hi≤f))) (eR st) c (eR st))<|wA (v:=.bool (decide (b.Hi≤f))) rfl<|wn<|Ap ?_;obtain rfl:=oi d;refine AA rfl rfl ?_;exact⟨g.Bl,rfl⟩
  ·replace d:=AE d c;refine wF c<|wF c<|wF c<|wF c<|wD (fun st=>AO (v:=.bool false) (eR st) c (eR st))<|wA (v:=.bool false) rfl<|wn<|Ap ?_;obtain rfl:=oi d;refine AA rfl rfl ?_;exact⟨g.Bl,rfl⟩
 ·replace d:=AE d a;refine wF a<|wF a<|wF a<|wF a<|wF a<|wD (fun st=>AO (v:=.bool false) (eR st) a (eR st))<|wM (v:=.bool false) rfl<|wH<|wH<|wH<|wH<|wD (fun st=>AO (v:=.bool false) (eR st) rfl (eR st))<|wA (v:=.bool false) rfl<|wn<|Ap ?_;obtain rfl:=oi d;refine AA rfl rfl ?_;exact⟨g.Bl,rfl⟩
theorem X5 d b(Z:Nat→Prop) w e(a:Ik d b=some e):
 BW Tryz.prog 136 #[I b] w (fun v w'=>Ext w w'∧BA.R w' (zf Z w []) v e):=by
 unfold Ik at a;refine rq (N:=5) Tryz.func136 fun k f l=>?_;have c:=sA 0 f;clear f;have g:Hp FN [] w [] w:=Hp.start (BB.none w);refine cr<|wA (v:=.bool false) rfl<|wr<|wM (v:=I b) c ?_;replace a:=bind_some a;obtain⟨r1,h,a⟩:=a;refine wE (fun st=>Ar Mu (eR st) (EV (eR st) (eR st) (eR st)) (Ty d b 1 5 ZA _ r1 h)) ?_;rintro _ w2 ⟨i,rfl⟩;have j:=g.ext i;refine wA (v:=.bool r1) rfl<|wn<|Ap ?_;obtain rfl:=oi a;refine AA rfl rfl ?_;exact⟨j.Bl,rfl⟩
theorem a85 m a f b c(Z:Nat→Prop) w(g:Sl Cp w Z b c a.Ax) n(d:GR m a f=some n):
 BW Tryz.prog 85 #[.agg #[I a.Ao,I a.Bj,I a.Am,I a.Cc,.slice b a.Ax.length c],I f] w (fun v w'=>Ext w w'∧BA.R w' (zf Z w []) v n):=by
 unfold GR at d;refine rq (N:=11) Tryz.func85 fun x i y=>?_;have j:=sA 0 i;have k:=sA 1 i;clear i;have h:Hp FN [] w [] w:=Hp.start (BB.none w);have l:=g.mv (BF (Z:=Z) (L:=[]) w);refine cr<|wE (fun st=>BQ (v:=.agg #[I a.Ao,I a.Bj,I a.Am,I a.Cc,.slice b a.Ax.length c]) (cs:= #[I a.Ao,I a.Bj,I a.Am,I a.Cc,.slice b a.Ax.length c]) (ee st j) rfl) ?_;rintro _ w1 ⟨z,rfl,e⟩;have o:=h.nb e;have u:=h.BZ e;refine wA (v:=.bool false) rfl<|wr<|wM (v:=I f) k<|wD (fun st=>Ac (eR st) (H4 _ _))<|wD (fun st=>Ag (v:=.slice b a.Ax.length c) H5 (eR st) e.bk rfl)<|wD (fun st=>BM Tryz.underlying74 (eR st)) ?_;replace d:=AT d;obtain⟨p,d⟩:=d;refine wD (fun st=>HR (eR st) (eR st) p) ?_;replace d:=bind_some d;obtain⟨q,r,d⟩:=d;refine wE (fun st=>Ar Mu (eR st) (EV (eR st) (eR st) (eR st)) (Ty m f 0 ((a.Ax.length:Int)-1) ZA _ q r)) ?_;rintro _ aA ⟨s,rfl⟩;have t:=o.ext s;refine wA (v:=.bool q) rfl<|wn<|Ap ?_;obtain rfl:=oi d;refine AA rfl rfl ?_;exact⟨t.Bl,rfl⟩
theorem ZT q b c(Z:Nat→Prop) w n(e:Fw q b c=some n):
 BW Tryz.prog 86 #[.agg #[I b.Bi,I b.BX,I b.BP,I b.EA,I b.Gs],.agg #[I c.On,I c.CI,.bool c.BP]] w (fun v w'=>Ext w w'∧BA.R w' (zf Z w []) v n):=by
 unfold Fw at e;refine rq (N:=14) Tryz.func86 fun r k s=>?_;have l:=sA 0 k;have m:=sA 1 k;clear k;have h:Hp FN [] w [] w:=Hp.start (BB.none w);refine cr<|wE (fun st=>BQ (v:=.agg #[I b.Bi,I b.BX,I b.BP,I b.EA,I b.Gs]) (cs:= #[I b.Bi,I b.BX,I b.BP,I b.EA,I b.Gs]) (ee st l) rfl) ?_;rintro _ w1 ⟨t,rfl,f⟩;have i:=h.nb f;have o:=h.BZ f;refine wE (fun st=>BQ (v:=.agg #[I c.On,I c.CI,.bool c.BP]) (cs:= #[I c.On,I c.CI,.bool c.BP]) (ee st m) rfl) ?_;rintro _ w2 ⟨u,rfl,d⟩;have j:=i.nb d;have p:=i.BZ d;refine wA (v:=.bool false) rfl<|wr<|wD (fun st=>Ac (eR st) (Ul _ _))<|wD (fun st=>Ag (v:=.bool c.BP) GJ (eR st) d.bk rfl)<|wM (v:=.bool c.BP) rfl ?_;rcases Af (c.BP) with a|a
 ·replace e:=AD e a;refine wG a (fun st=>Ac (eR st) (NB _ _))<|wG a (fun st=>Ag (v:=I c.CI) AV (eR st) d.bk rfl)<|wG a (fun st=>Ac (eR st) (Qr _ _)) ?_;have g:=(f.bk.ext d.gr);refine wG a (fun st=>Ag (v:=I b.Gs) AV (eR st) g rfl)<|wG a (fun st=>ET (eR st) (eR st))<|wD (fun st=>AH (v:=.bool (decide (c.CI≤b.Gs))) (eR st) a (eR st))<|wA (v:=.bool (decide (c.CI≤b.Gs))) rfl<|wn<|Ap ?_;obtain rfl:=oi e;refine AA rfl rfl ?_;exact⟨j.Bl,rfl⟩
 ·replace e:=AE e a;refine wF a<|wF a<|wF a<|wF a<|wF a<|wD (fun st=>AO (v:=.bool false) (eR st) a (eR st))<|wA (v:=.bool false) rfl<|wn<|Ap ?_;obtain rfl:=oi e;refine AA rfl rfl ?_;exact⟨j.Bl,rfl⟩
theorem ZU n d c g h(Z:Nat→Prop) w(t:Sl Cp w Z g h d.Ax) aM(a:FM n d c=some aM):
 BW Tryz.prog 98 #[.agg #[I d.Ao,I d.Bj,I d.Am,I d.Cc,.slice g d.Ax.length h],.agg #[I c.Bi,I c.BX,I c.BP,I c.EA,I c.Gs]] w (fun v w'=>Ext w w'∧BA.R w' (zf Z w []) v aM):=by
 unfold FM at a;refine rq (N:=27) Tryz.func98 fun aU aF aV=>?_;have aG:=sA 0 aF;have aH:=sA 1 aF;clear aF;have aA:Hp FN [] w [] w:=Hp.start (BB.none w);have aL:=t.mv (BF (Z:=Z) (L:=[]) w);refine cr<|wE (fun st=>BQ (v:=.agg #[I d.Ao,I d.Bj,I d.Am,I d.Cc,.slice g d.Ax.length h]) (cs:= #[I d.Ao,I d.Bj,I d.Am,I d.Cc,.slice g d.Ax.length h]) (ee st aG) rfl) ?_;rintro _ w1 ⟨aY,rfl,o⟩;have aB:=aA.nb o;have aS:=aA.BZ o;refine wE (fun st=>BQ (v:=.agg #[I c.Bi,I c.BX,I c.BP,I c.EA,I c.Gs]) (cs:= #[I c.Bi,I c.BX,I c.BP,I c.EA,I c.Gs]) (ee st aH) rfl) ?_;rintro _ w2 ⟨aZ,rfl,i⟩;have aN:=aB.nb i;have aT:=aB.BZ i;refine wA (v:=.bool false) rfl<|wr<|wD (fun st=>Ac (eR st) (Qs _ _))<|wD (fun st=>AU (l:=[I c.Bi,I c.BX]) Ox (eR st) i.bk rfl rfl)<|wD (fun st=>Ac (eR st) (Ju _ _)) ?_;have j:=(o.bk.ext i.gr);refine wD (fun st=>Ag (v:=I d.Ao) AV (eR st) j rfl) ?_;replace a:=bind_some a;obtain⟨aI,aO,a⟩:=a;refine wE (fun st=>Ar Vw (eR st) (Dn (eR st) (eR st)) (Zn n (⟨c.Bi,c.BX⟩:AR) d.Ao ZA _ aI aO)) ?_;rintro _ a0 ⟨p,rfl⟩;have aC:=aN.ext p;refine wM (v:=.bool aI) rfl ?_;rcases Af (aI) with e|e
 ·replace a:=AD a e;refine wG e (fun st=>Ac (eR st) (I4 _ _)) ?_;have k:=(i.bk.ext p);refine wG e (fun st=>Ag (v:=I c.BP) AV (eR st) k rfl) ?_;replace a:=bind_some a;obtain⟨u,aP,a⟩:=a;refine wX e (fun st=>Ar Rl (eR st) (Cf (eR st)) (X5 n c.BP ZA _ u aP)) ?_;rintro _ a2 ⟨q,rfl⟩;have aD:=aC.ext q;refine wD (fun st=>AH (v:=.bool u) (eR st) e (eR st))<|wM (v:=.bool u) rfl ?_;rcases Af (u) with f|f
  ·replace a:=AD a f;refine wG f (fun st=>Ac (eR st) (NC _ _)) ?_;have m:=(k.ext q);refine wG f (fun st=>Ag (v:=I c.EA) AV (eR st) m rfl) ?_;replace a:=bind_some a;obtain⟨x,aQ,a⟩:=a;refine wX f (fun st=>Ar Rl (eR st) (Cf (eR st)) (X5 n c.EA ZA _ x aQ)) ?_;rintro _ aW ⟨r,rfl⟩;have aE:=aD.ext r;refine wD (fun st=>AH (v:=.bool x) (eR st) f (eR st))<|wM (v:=.bool x) rfl ?_;rcases Af (x) with b|b
   ·replace a:=AD a b;refine wG b (fun st=>Ac (eR st) (Qr _ _)) ?_;have y:=(m.ext r);refine wG b (fun st=>Ag (v:=I c.Gs) AV (eR st) y rfl)<|wG b (fun st=>Ac (eR st) (Ju _ _)) ?_;have z:=(((j.ext p).ext q).ext r);refine wG b (fun st=>Ag (v:=I d.Ao) AV (eR st) z rfl) ?_;replace a:=bind_some a;obtain⟨s,aJ,a⟩:=a;refine wX b (fun st=>Ar Mu (eR st) (EV (eR st) (eR st) (eR st)) (Ty n c.Gs 0 d.Ao ZA _ s aJ)) ?_;rintro _ aX ⟨aK,rfl⟩;have aR:=aE.ext aK;refine wD (fun st=>AH (v:=.bool s) (eR st) b (eR st))<|wA (v:=.bool s) rfl<|wn<|Ap ?_;obtain rfl:=oi a;refine AA rfl rfl ?_;exact⟨aR.Bl,rfl⟩
   ·replace a:=AE a b;refine wF b<|wF b<|wF b<|wF b<|wF b<|wD (fun st=>AO (v:=.bool false) (eR st) b (eR st))<|wA (v:=.bool false) rfl<|wn<|Ap ?_;obtain rfl:=oi a;refine AA rfl rfl ?_;exact⟨aE.Bl,rfl⟩
  ·replace a:=AE a f;refine wF f<|wF f<|wF f<|wD (fun st=>AO (v:=.bool false) (eR st) f (eR st))<|wM (v:=.bool false) rfl<|wH<|wH<|wH<|wH<|wH<|wD (fun st=>AO (v:=.bool false) (eR st) rfl (eR st))<|wA (v:=.bool false) rfl<|wn<|Ap ?_;obtain rfl:=oi a;refine AA rfl rfl ?_;exact⟨aD.Bl,rfl⟩
 ·replace a:=AE a e;refine wF e<|wF e<|wF e<|wD (fun st=>AO (v:=.bool false) (eR st) e (eR st))<|wM (v:=.bool false) rfl<|wH<|wH<|wH<|wD (fun st=>AO (v:=.bool false) (eR st) rfl (eR st))<|wM (v:=.bool false) rfl<|wH<|wH<|wH<|wH<|wH<|wD (fun st=>AO (v:=.bool false) (eR st) rfl (eR st))<|wA (v:=.bool false) rfl<|wn<|Ap ?_;obtain rfl:=oi a;refine AA rfl rfl ?_;exact⟨aC.Bl,rfl⟩
theorem a138{s:Type}{f:Nat→Prop}{aM:Nat}{o:IT s}{z:s→BS→Option (Bool×s)} aW a(t:s) c(j:Value) d(Z Za:Nat→Prop) w(e:Cb Tryz.prog j f aM o (v1 (Dd Cp)) BA z)(aN:aM≤w.heap.size)(aO:BB f [some c,d] w)(aP:∀b,Z b→¬f b∧some b∉[some c,d])(aX:∀b,Z b→Za b)(aC:∀b,Za b→¬f b∧some b∉[some c,d])(aQ:Bk w c 177 #[j])(aY:o t w Z d) aD(n:Fx aW z a t=some aD):
 BW Tryz.prog 138 #[.agg #[I a.Bi,I a.BX,I a.BP,I a.EA,I a.Gs],pt c 0] w (fun v w'=>∃o',Bp (FU f [some c,d]) w w'∧BA.R w' (zf Z w [some c,o']) v aD.1∧Bk w' c 177 #[j]∧(∀k,o'=some k→(d=some k∨w.heap.size≤k)∧k<w'.heap.size)∧o aD.2 w' (zf Z w [some c,o']) o'):=by
 unfold Fx at n;refine rq (N:=8) Tryz.func138 fun a2 aE a3=>?_;have aF:=sA 0 aE;have aG:=sA 1 aE;clear aE;obtain⟨aH,aR,p,aS,aZ,aI⟩:=JT aO aP aC;have aJ:=e.mz aY (AQ (L:=[some c,d]) aS w);refine cr<|wE (fun st=>BQ (v:=.agg #[I a.Bi,I a.BX,I a.BP,I a.EA,I a.Gs]) (cs:= #[I a.Bi,I a.BX,I a.BP,I a.EA,I a.Gs]) (ee st aF) rfl) ?_;rintro _ w1 ⟨u,rfl,g⟩;have i:=p.nb g;have aV:=p.BZ g;refine wA (v:=.bool false) rfl<|wn<|Ah<|Aj ?_;have m:=(aQ.ext g.gr);refine wD (fun st=>Ag (v:=j) Vy (ee st aG) m rfl)<|wD (fun st=>AU (l:=[I a.Bi,I a.BX,I a.BP,I a.EA,I a.Gs]) K3 (eR st) g.bk rfl rfl) ?_;have aK:o t w1 (ZZ f aH Z w.heap.size [some u,some c,d]) d:=(e.me aJ p g.gr (Ai g));replace n:=bind_some n;obtain⟨r2,aT,n⟩:=n;refine wE (fun st=>Eo (e.call t a r2 _ (ZZ f aH Z w.heap.size [some u,some c,d]) (ZC f [d]) d #[.agg #[I a.Bi,I a.BX,I a.BP,I a.EA,I a.Gs]] (Nat.le_trans aN i.sz) (i.zz (F':=f) (M:=[d]) (C:=[]) [2] [] ⟨rfl,trivial⟩ trivial (fun _ h=>.inl h)) Hg aK ⟨_,rfl,⟨_,rfl,rfl⟩⟩ aT) (eR st) (Cf (eR st))) ?_;rintro _ a0 ⟨q,aA,r,rfl,aU⟩;have aB:=i.DQ aA (An [2] ⟨rfl,trivial⟩ (fun _ h=>h)) 2 rfl r;have aL:o r2.2 a0 (ZZ f aH Z w.heap.size [some u,some c,q]) q:=e.mz aU (i.call (M:=[q]) (Nat.le_refl _) (B8 ⟨.inr (hw r 2),trivial⟩) (Cv (L:=[some u,some c,d]) (y:=q) 2 (gm 0)));refine wD (fun st=>Cd (eR st))<|wA (v:=.bool !r2.1) rfl<|wn<|Ap ?_;obtain rfl:=oi n;refine AA rfl rfl ?_;have x:=(m.Bs aA (i.Br 1 rfl [2] rfl ⟨rfl,trivial⟩ (fun _ h=>h)));exact⟨q,aI _ aB.fin,rfl,x,aB.mq 2 [1] (M:=[some c]) ⟨rfl,trivial⟩ aR,e.mz aL (AG (A9 [1,2] ⟨rfl,rfl,trivial⟩))⟩
theorem a156{aX:Type}{e:Nat→Prop}{bG:Nat}{aH:IT aX}{aR:aX→BS→Option (Bool×aX)} bH t(a4:aX) m n(aJ:Value) aC(Z:Nat→Prop) w(p:Cb Tryz.prog aJ e bG aH (v1 (Dd Cp)) BA aR)(bI:bG≤w.heap.size)(bJ:BB e [aC] w)(bK:∀b,Z b→¬e b∧some b∉[aC])(aY:Sl Cp w Z m n t)(bZ:aH a4 w Z aC) a5(a:Gt bH aR t a4=some a5):
 BW Tryz.prog 156 #[.slice m t.length n,aJ] w (fun v w'=>∃o',Bp (FU e [aC]) w w'∧(DP .i64).R w' (zf Z w [o']) v a5.1∧(∀k,o'=some k→(aC=some k∨w.heap.size≤k)∧k<w'.heap.size)∧aH a5.2 w' (zf Z w [o']) o'):=by
 unfold Gt at a;refine rq (N:=19) Tryz.func156 fun b4 a9 b5=>?_;have aS:=sA 0 a9;have bA:=sA 1 a9;clear a9;obtain⟨aD,aZ,bL,a0,aT⟩:=Ij bJ bK;have aO:=aY.mv (AQ (L:=[aC]) a0 w);have bB:=p.mz bZ (AQ (L:=[aC]) a0 w);refine cr<|wA (v:=I 0) rfl<|wn<|Ah<|cr<|wM (v:=.slice m t.length n) aS<|wD (fun st=>BM Tryz.underlying74 (eR st))<|wM (v:=I 0) rfl<|wn<|AX ?_;replace a:=bind_some a;obtain⟨bC,u,a⟩:=a;refine Co (fun bD f aE=>(bD=.ret∧∃o,bC=.inl o∧∃g,Fo X0 19 f∧sl f 4=I o.1∧Hp e aD w [g] aE∧aH o.2 aE (ZZ e aD Z w.heap.size [g]) g)∨(bD=.exit 0∧∃o,bC=.inr o∧∃i,Fo X0 19 f∧Hp e aD w [i] aE∧aH o aE (ZZ e aD Z w.heap.size [i]) i)) ?bM ?bN
 case bM=>
  clear a;refine Cn (fun bE f aE=>∃d,∃j,∃c,Dx aR t bE d j=some bC∧Fo X0 19 f∧sl f 0=.slice m t.length n∧sl f 1=aJ∧sl f 7=I (t.length:Int)∧sl f 8=I d∧Hp e aD w [c] aE∧(fun bO=>aH j aE bO c∧Sl Cp aE bO m n t) (ZZ e aD Z w.heap.size [c])) bH ?bP ?bQ
  case bP=>
   intro st;exact⟨(0:Int),a4,aC,u,qo st,sp st 0 aS,sp st 1 bA,sp st 7 rfl,sp st 8 rfl,bL,bB,aO⟩
  case bQ=>
   rintro(_|bE) b6 b7 ⟨d,j,c,u,bF,aK,aL,aM,z,x,aN,q⟩
   ·exact absurd (show none=some _ from u) (by simp)
   rw[Dx.eq_2] at u;have a:=u;clear u;refine ro bF<|cr<|wD (fun st=>C3 (ee st z) (ee st aM))<|wn<|Ah ?_;rcases Af (decide (d<(t.length:Int))) with aF|aF
   ·replace a:=AD a aF;refine Aw rfl aF<|cn<|Ah<|AX<|cr<|wM (v:=I d) z<|wA (v:=I d) rfl<|wr<|wM (v:=aJ) aL<|wM (v:=.slice m t.length n) aK<|wM (v:=I d) rfl ?_;replace a:=Bn a;obtain⟨i3,r,bR,bS,bT,a⟩:=a;obtain⟨b9,cA,_,bU,rfl,bV⟩:=Sl.elem q (by decide) bS;refine wD (fun st=>B9 (k:=i3) Tryz.underlying74 JL (eR st) bU (eR st) bR bT)<|wD (fun st=>CN (l:=[I r.Bi,I r.BX,I r.BP,I r.EA,I r.Gs]) K3 (eR st) bV rfl rfl) ?_;replace a:=bind_some a;obtain⟨aU,bW,a⟩:=a;refine wE (fun st=>Eo (p.call j r aU _ (ZZ e aD Z w.heap.size [c]) (ZC e [c]) c #[.agg #[I r.Bi,I r.BX,I r.BP,I r.EA,I r.Gs]] (Nat.le_trans bI x.sz) (x.zz (F':=e) (M:=[c]) (C:=[]) [0] [] ⟨rfl,trivial⟩ trivial (fun _ h=>.inl h)) Hg aN ⟨_,rfl,⟨_,rfl,rfl⟩⟩ bW) (eR st) (Cf (eR st))) ?_;rintro _ b1 ⟨aP,a2,aI,rfl,bX⟩;have a3:=x.DQ a2 (An [0] ⟨rfl,trivial⟩ (fun _ h=>h)) 0 rfl aI;have aV:aH aU.2 b1 (ZZ e aD Z w.heap.size [aP]) aP:=p.mz bX (x.call (M:=[aP]) (Nat.le_refl _) (B8 ⟨.inr (hw aI 0),trivial⟩) (Cv (L:=[c]) (y:=aP) 0 (gm 0)));refine wn ?_;rcases Af (aU.1) with aG|aG
    ·replace a:=AD a aG;refine Aw rfl aG<|cr<|wM (v:=I d) rfl<|wA (v:=I d) rfl<|wn<|Ap<|Ee<|AZ ?_;obtain rfl:=oi a;refine Cj (fun st=>?_);exact .inl ⟨rfl,(d,aU.2),rfl,aP,qo st,sp st 4 rfl,a3,aV⟩
    ·replace a:=AE a aG;refine AI rfl aG<|B5<|Ef<|Aj ?_;replace a:=AT a;obtain⟨bY,a⟩:=a;refine wD (fun st=>BV (ee st z) (eR st) bY)<|wM (v:=I (d+1)) rfl<|AJ ?_;have aQ:=(q.mv (x.Cg a2 (An [0] ⟨rfl,trivial⟩ (fun _ h=>h)) 0 rfl (fun k b2=>(aI k b2).1)));refine BN bE (Nat.lt_succ_self _) (fun st=>?_);exact⟨(d+1),aU.2,aP,a,qo st,sp st 0 aK,sp st 1 aL,sp st 7 aM,sp st 8 rfl,a3,aV,aQ⟩
   ·replace a:=AE a aF;refine AI rfl aF<|FF ?_;obtain rfl:=oi a;refine Cj (fun st=>?_);exact .inr ⟨rfl,j,rfl,c,qo st,x,aN⟩
 case bN=>
  rintro bD b3 b8 (⟨rfl,o,rfl,g,aA,aW,s,aB⟩|⟨rfl,o,rfl,i,aA,s,aB⟩)
  ·skip
   replace a:=EW a;refine lf aA<|Ee ?_;obtain rfl:=oi a;refine AA rfl aW ?_;exact⟨g,aT _ s.fin,rfl,s.mq 0 [] (M:=[]) trivial aZ,p.mz aB (AG (A9 [0] ⟨rfl,trivial⟩))⟩
  ·skip
   replace a:=EX a;refine lf aA<|BE<|AL<|cr<|wA (v:=I (-1)) rfl<|wn<|Ap ?_;obtain rfl:=oi a;refine AA rfl rfl ?_;exact⟨i,aT _ s.fin,rfl,s.mq 0 [] (M:=[]) trivial aZ,p.mz aB (AG (A9 [0] ⟨rfl,trivial⟩))⟩
theorem Zo{p:Type}{f:Nat→Prop}{aG:Nat}{q:IT p}{s:p→BS→Option (Bool×p)} aH m(x:p) c d(i:Value) a(Z:Nat→Prop) w(e:Cb Tryz.prog i f aG q (v1 (Dd Cp)) BA s)(aI:aG≤w.heap.size)(aJ:BB f [a] w)(aK:∀b,Z b→¬f b∧some b∉[a])(r:Sl Cp w Z c d m)(aQ:q x w Z a) z(j:FE aH s m x=some z):
 BW Tryz.prog 137 #[.slice c m.length d,i] w (fun v w'=>∃o',Bp (FU f [a]) w w'∧BA.R w' (zf Z w [o']) v z.1∧(∀k,o'=some k→(a=some k∨w.heap.size≤k)∧k<w'.heap.size)∧q z.2 w' (zf Z w [o']) o'):=by
 unfold FE at j;refine rq (N:=9) Tryz.func137 fun aR aA aS=>?_;have aB:=sA 0 aA;have aC:=sA 1 aA;clear aA;obtain⟨aL,aM,g,t,aD⟩:=Ij aJ aK;have l:=r.mv (AQ (L:=[a]) t w);have aE:=e.mz aQ (AQ (L:=[a]) t w);refine cr<|wA (v:=.bool false) rfl<|wr<|wM (v:=.slice c m.length d) aB<|wM (v:=i) aC ?_;replace j:=bind_some j;obtain⟨r1,aN,j⟩:=j;refine wE (fun st=>Ar Vz (eR st) (Dn (eR st) (eR st)) (a156 aH m x c d i a (ZZ f aL Z w.heap.size [a]) _ e (Nat.le_trans aI g.sz) (g.CD (F':=f) (M:=[a]) (C:=[]) [0] [] rfl ⟨rfl,trivial⟩ trivial (fun _ h=>.inl h)) (g.zz (F':=f) (M:=[a]) (C:=[]) [0] [] ⟨rfl,trivial⟩ trivial (fun _ h=>.inl h)) l aE r1 aN)) ?_;rintro _ w2 ⟨n,aO,rfl,o,aP⟩;have u:=g.DQ aO (An [0] ⟨rfl,trivial⟩ (fun _ h=>h)) 0 rfl o;have aF:q r1.2 w2 (ZZ f aL Z w.heap.size [n]) n:=e.mz aP (g.call (M:=[n]) (Nat.le_refl _) (B8 ⟨.inr (hw o 0),trivial⟩) (Cv (L:=[a]) (y:=n) 0 (gm 0)));refine wD (fun st=>JY (eR st) (eR st))<|wA (v:=.bool (decide ((0:Int)≤r1.1))) rfl<|wn<|Ap ?_;obtain rfl:=oi j;refine AA rfl rfl ?_;exact⟨n,aD _ u.fin,rfl,u.mq 0 [] (M:=[]) trivial aM,e.mz aF (AG (A9 [0] ⟨rfl,trivial⟩))⟩
theorem Zp{z:Type}{f:Nat→Prop}{bC:Nat}{aA:IT z}{aE:z→BS→Option (Bool×z)} aJ aF(aK:z) l m(i:Value) d(Z:Nat→Prop) w(c:Cb Tryz.prog i f bC aA (v1 (Dd Cp)) BA aE)(bD:bC≤w.heap.size)(bE:BB f [d] w)(bF:∀b,Z b→¬f b∧some b∉[d])(aL:Sl Cp w Z l m aF)(s:aA aK w Z d) aQ(aB:HY aJ aE aF aK=some aQ):
 BW Tryz.prog 100 #[.slice l aF.length m,i] w (fun v w'=>∃o',Bp (FU f [d]) w w'∧BA.R w' (zf Z w [o']) v aQ.1∧(∀k,o'=some k→(d=some k∨w.heap.size≤k)∧k<w'.heap.size)∧aA aQ.2 w' (zf Z w [o']) o'):=by
 unfold HY at aB;refine rq (N:=9) Tryz.func100 fun bU aR bV=>?_;have aS:=sA 0 aR;have aT:=sA 1 aR;clear aR;obtain⟨aU,bG,aG,aM,aV⟩:=Ij bE bF;have aC:=aL.mv (AQ (L:=[d]) aM w);have aW:=c.mz s (AQ (L:=[d]) aM w);refine cr<|wE (fun st=>BQ (v:=i) (cs:= #[i]) (ee st aT) c.fc) ?_;rintro _ w1 ⟨a,rfl,j⟩;have e:=aG.nb j;have bO:=aG.BZ j;refine wA (v:=.bool false) rfl<|wr<|wM (v:=.slice l aF.length m) aS<|wD (fun st=>Dv (vs:= #[]) (us:= #[pt a 0]) Iq (Cf (eR st))) ?_;have aN:=e.CD (F':=f) (M:=[some a]) (C:=[]) [0] [] rfl ⟨rfl,trivial⟩ trivial (fun k p=>.inl ((fun _ h=>h) k p));have aX:Cb Tryz.prog (.func (.func 138) #[] #[pt a 0]) (FU f [some a]) w1.heap.size (fun(st:z) aY bP o=>(∀k,o=some k→k<aY.heap.size∧¬(FU f [some a]) k)∧Bk aY a 177 #[i]∧aA st aY bP o) (v1 (Dd Cp)) BA (fun(st:z) (x:BS)=>(Fx aJ aE x st).bind fun r=>some (r.1,r.2)):=by
  refine⟨rfl,rfl,e.Ir [0] ⟨rfl,trivial⟩ (fun _ h=>h),?_,?_,?_⟩
  ·intro st x r w1 aZ bH o vs a0 a2 t s a3 bQ;obtain⟨g,n,u⟩:=s;obtain⟨_,rfl,⟨_,rfl,rfl⟩⟩:=a3;obtain⟨r1,bR,bS⟩:=bind_some bQ;obtain rfl:=Option.some.inj bS;refine(EM VA rfl (a138 aJ x st a i o aZ bH w1 c (Nat.le_trans bD (Nat.le_trans e.sz a0)) ((aN.grow a0).snoc g) (fun b q=>CR (t b (a2 b q)).1 (t b (a2 b q)).2) a2 (fun b q=>CR (t b q).1 (t b q).2) n u r1 bR)).mono ?_;rintro v w2 ⟨o',a3,a4,a5,aO,bI⟩;exact⟨o',a3.lf,aO,a4,⟨aN.keep a0 g aO,a5,c.mz bI IY⟩⟩
  ·intro st w1 w2 aZ bW o s hm q;obtain⟨g,n,u⟩:=s;exact⟨fun k p=>⟨Nat.lt_of_lt_of_le (g k p).1 hm.size,(g k p).2⟩,n.Fc (q a (.inl (.inr (gm 0)))),c.Ja _ _ _ _ _ _ u hm (fun b bJ=>q b (bJ.imp .inl id))⟩
  ·intro st w1 aZ o s k p;obtain⟨g,n,u⟩:=s;exact g k p
 have aD:=(aC.mv (Ai j));replace aB:=bind_some aB;obtain⟨r2,bK,aB⟩:=aB;have a9:aA aK w1 (ZZ f aU Z w.heap.size [some a,d]) d:=(c.me aW aG j.gr (Ai j));refine wE (fun st=>Ar VB (eR st) (Dn (eR st) (eR st)) (Zo aJ aF aK l m (.func (.func 138) #[] #[pt a 0]) d (ZZ f aU Z w.heap.size [some a,d]) _ aX (Nat.le_refl _) (e.CD (F':=(FU f [some a])) (M:=[d]) (C:=[some a]) [1] [0] rfl ⟨rfl,trivial⟩ ⟨rfl,trivial⟩ (B2 (fun _ h=>h))) (e.zz (F':=(FU f [some a])) (M:=[d]) (C:=[some a]) [1] [0] ⟨rfl,trivial⟩ ⟨rfl,trivial⟩ (B2 (fun _ h=>h))) aD ⟨(fun k p=>e.Nb 1 (by rw[←p];rfl) [0] rfl ⟨rfl,trivial⟩),j.bk,a9⟩ r2 bK)) ?_;rintro _ bT ⟨aH,bL,rfl,aI,bM⟩;obtain⟨-,bN,bA⟩:=bM;have aP:=e.DQ (Bp.cl (M1:=[some a]) (M2:=[d]) bL) (An [0,1] ⟨rfl,rfl,trivial⟩ (fun _ h=>h)) 1 rfl aI;have bB:aA r2.2 bT (ZZ f aU Z w.heap.size [some a,aH]) aH:=c.mz bA (e.call (M:=[aH]) (Nat.le_refl _) (B8 ⟨.inr (hw aI 1),trivial⟩) (Cv (L:=[some a,d]) (y:=aH) 1 (gm 0)));refine wD (fun st=>Cd (eR st))<|wA (v:=.bool !r2.1) rfl<|wn<|Ap ?_;obtain rfl:=oi aB;refine AA rfl rfl ?_;exact⟨aH,aV _ aP.fin,rfl,aP.mq 1 [] (M:=[]) trivial bG,c.mz bB (AG (A9 [1] ⟨rfl,trivial⟩))⟩
theorem Zq{n:Type}{d:Nat→Prop}{aG:Nat}{o:IT n}{q:n→Bool→Option (Bool×n)} aP j(u:n) a(g:Value) c(Z Za:Nat→Prop) w(e:Cb Tryz.prog g d aG o (v1 BA) BA q)(aH:aG≤w.heap.size)(aI:BB d [some a,c] w)(aJ:∀b,Z b→¬d b∧some b∉[some a,c])(aQ:∀b,Z b→Za b)(x:∀b,Za b→¬d b∧some b∉[some a,c])(r:Bk w a 217 #[g])(aR:o u w Z c) z(i:E9 aP q j u=some z):
 BW Tryz.prog 174 #[.bool j,pt a 0] w (fun v w'=>∃o',Bp (FU d [some a,c]) w w'∧BA.R w' (zf Z w [some a,o']) v z.1∧Bk w' a 217 #[g]∧(∀k,o'=some k→(c=some k∨w.heap.size≤k)∧k<w'.heap.size)∧o z.2 w' (zf Z w [some a,o']) o'):=by
 unfold E9 at i;refine rq (N:=8) Tryz.func174 fun aT aA aU=>?_;have aB:=sA 0 aA;have aC:=sA 1 aA;clear aA;obtain⟨aK,aL,f,aM,aS,aD⟩:=JT aI aJ x;have aE:=e.mz aR (AQ (L:=[some a,c]) aM w);refine cr<|wA (v:=.bool false) rfl<|wr<|wD (fun st=>Ag (v:=g) VC (ee st aC) r rfl)<|wM (v:=.bool j) aB ?_;replace i:=bind_some i;obtain⟨r1,aN,i⟩:=i;refine wE (fun st=>Eo (e.call u j r1 _ (ZZ d aK Z w.heap.size [some a,c]) (ZC d [c]) c #[.bool j] (Nat.le_trans aH f.sz) (f.zz (F':=d) (M:=[c]) (C:=[]) [1] [] ⟨rfl,trivial⟩ trivial (fun _ h=>.inl h)) Hg aE ⟨_,rfl,rfl⟩ aN) (eR st) (Cf (eR st))) ?_;rintro _ w2 ⟨l,s,m,rfl,aO⟩;have t:=f.DQ s (An [1] ⟨rfl,trivial⟩ (fun _ h=>h)) 1 rfl m;have aF:o r1.2 w2 (ZZ d aK Z w.heap.size [some a,l]) l:=e.mz aO (f.call (M:=[l]) (Nat.le_refl _) (B8 ⟨.inr (hw m 1),trivial⟩) (Cv (L:=[some a,c]) (y:=l) 1 (gm 0)));refine wD (fun st=>Cd (eR st))<|wA (v:=.bool !r1.1) rfl<|wn<|Ap ?_;obtain rfl:=oi i;refine AA rfl rfl ?_;have p:=(r.Bs s (f.Br 0 rfl [1] rfl ⟨rfl,trivial⟩ (fun _ h=>h)));exact⟨l,aD _ t.fin,rfl,p,t.mq 1 [0] (M:=[some a]) ⟨rfl,trivial⟩ aL,e.mz aF (AG (A9 [0,1] ⟨rfl,rfl,trivial⟩))⟩
theorem a182{aV:Type}{e:Nat→Prop}{bF:Nat}{aF:IT aV}{aP:aV→Bool→Option (Bool×aV)} bG r(a2:aV) l m(aH:Value) aA(Z:Nat→Prop) w(o:Cb Tryz.prog aH e bF aF (v1 BA) BA aP)(bH:bF≤w.heap.size)(bI:BB e [aA] w)(bJ:∀b,Z b→¬e b∧some b∉[aA])(aW:Sl C6 w Z l m r)(bY:aF a2 w Z aA) a3(a:Ga bG aP r a2=some a3):
 BW Tryz.prog 182 #[.slice l r.length m,aH] w (fun v w'=>∃o',Bp (FU e [aA]) w w'∧(DP .i64).R w' (zf Z w [o']) v a3.1∧(∀k,o'=some k→(aA=some k∨w.heap.size≤k)∧k<w'.heap.size)∧aF a3.2 w' (zf Z w [o']) o'):=by
 unfold Ga at a;refine rq (N:=19) Tryz.func182 fun b3 a4 b4=>?_;have aQ:=sA 0 a4;have a5:=sA 1 a4;clear a4;obtain⟨aB,aX,bK,aY,aR⟩:=Ij bI bJ;have aM:=aW.mv (AQ (L:=[aA]) aY w);have a9:=o.mz bY (AQ (L:=[aA]) aY w);refine cr<|wA (v:=I 0) rfl<|wn<|Ah<|cr<|wM (v:=.slice l r.length m) aQ<|wD (fun st=>BM Tryz.underlying69 (eR st))<|wM (v:=I 0) rfl<|wn<|AX ?_;replace a:=bind_some a;obtain⟨bA,s,a⟩:=a;refine Co (fun bB f aC=>(bB=.ret∧∃n,bA=.inl n∧∃g,Fo X0 19 f∧sl f 4=I n.1∧Hp e aB w [g] aC∧aF n.2 aC (ZZ e aB Z w.heap.size [g]) g)∨(bB=.exit 0∧∃n,bA=.inr n∧∃i,Fo X0 19 f∧Hp e aB w [i] aC∧aF n aC (ZZ e aB Z w.heap.size [i]) i)) ?bL ?bM
 case bL=>
  clear a;refine Cn (fun bC f aC=>∃d,∃j,∃c,Dm aP r bC d j=some bA∧Fo X0 19 f∧sl f 0=.slice l r.length m∧sl f 1=aH∧sl f 7=I (r.length:Int)∧sl f 8=I d∧Hp e aB w [c] aC∧(fun bN=>aF j aC bN c∧Sl C6 aC bN l m r) (ZZ e aB Z w.heap.size [c])) bG ?bO ?bP
  case bO=>
   intro st;exact⟨(0:Int),a2,aA,s,qo st,sp st 0 aQ,sp st 1 a5,sp st 7 rfl,sp st 8 rfl,bK,a9,aM⟩
  case bP=>
   rintro(_|bC) b5 b6 ⟨d,j,c,s,bD,aI,aJ,aK,u,t,aL,p⟩
   ·exact absurd (show none=some _ from s) (by simp)
   rw[Dm.eq_2] at s;have a:=s;clear s;refine ro bD<|cr<|wD (fun st=>C3 (ee st u) (ee st aK))<|wn<|Ah ?_;rcases Af (decide (d<(r.length:Int))) with aD|aD
   ·replace a:=AD a aD;refine Aw rfl aD<|cn<|Ah<|AX<|cr<|wM (v:=I d) u<|wA (v:=I d) rfl<|wr<|wM (v:=aH) aJ<|wM (v:=.slice l r.length m) aI<|wM (v:=I d) rfl ?_;replace a:=Bn a;obtain⟨i3,bE,bQ,bR,bS,a⟩:=a;obtain⟨b8,b9,_,bT,rfl,bU⟩:=Sl.C4 p rfl bR;refine wD (fun st=>Bu (k:=i3) Tryz.underlying69 Hv (eR st) bT (eR st) bQ bS)<|wD (fun st=>BJ (v:=.bool bE) GJ (eR st) bU rfl) ?_;replace a:=bind_some a;obtain⟨aS,bV,a⟩:=a;refine wE (fun st=>Eo (o.call j bE aS _ (ZZ e aB Z w.heap.size [c]) (ZC e [c]) c #[.bool bE] (Nat.le_trans bH t.sz) (t.zz (F':=e) (M:=[c]) (C:=[]) [0] [] ⟨rfl,trivial⟩ trivial (fun _ h=>.inl h)) Hg aL ⟨_,rfl,rfl⟩ bV) (eR st) (Cf (eR st))) ?_;rintro _ bZ ⟨aN,aZ,aG,rfl,bW⟩;have a0:=t.DQ aZ (An [0] ⟨rfl,trivial⟩ (fun _ h=>h)) 0 rfl aG;have aT:aF aS.2 bZ (ZZ e aB Z w.heap.size [aN]) aN:=o.mz bW (t.call (M:=[aN]) (Nat.le_refl _) (B8 ⟨.inr (hw aG 0),trivial⟩) (Cv (L:=[c]) (y:=aN) 0 (gm 0)));refine wn ?_;rcases Af (aS.1) with aE|aE
    ·replace a:=AD a aE;refine Aw rfl aE<|cr<|wM (v:=I d) rfl<|wA (v:=I d) rfl<|wn<|Ap<|Ee<|AZ ?_;obtain rfl:=oi a;refine Cj (fun st=>?_);exact .inl ⟨rfl,(d,aS.2),rfl,aN,qo st,sp st 4 rfl,a0,aT⟩
    ·replace a:=AE a aE;refine AI rfl aE<|B5<|Ef<|Aj ?_;replace a:=AT a;obtain⟨bX,a⟩:=a;refine wD (fun st=>BV (ee st u) (eR st) bX)<|wM (v:=I (d+1)) rfl<|AJ ?_;have aO:=(p.mv (t.Cg aZ (An [0] ⟨rfl,trivial⟩ (fun _ h=>h)) 0 rfl (fun k b1=>(aG k b1).1)));refine BN bC (Nat.lt_succ_self _) (fun st=>?_);exact⟨(d+1),aS.2,aN,a,qo st,sp st 0 aI,sp st 1 aJ,sp st 7 aK,sp st 8 rfl,a0,aT,aO⟩
   ·replace a:=AE a aD;refine AI rfl aD<|FF ?_;obtain rfl:=oi a;refine Cj (fun st=>?_);exact .inr ⟨rfl,j,rfl,c,qo st,t,aL⟩
 case bM=>
  rintro bB b2 b7 (⟨rfl,n,rfl,g,x,aU,q,z⟩|⟨rfl,n,rfl,i,x,q,z⟩)
  ·skip
   replace a:=EW a;refine lf x<|Ee ?_;obtain rfl:=oi a;refine AA rfl aU ?_;exact⟨g,aR _ q.fin,rfl,q.mq 0 [] (M:=[]) trivial aX,o.mz z (AG (A9 [0] ⟨rfl,trivial⟩))⟩
  ·skip
   replace a:=EX a;refine lf x<|BE<|AL<|cr<|wA (v:=I (-1)) rfl<|wn<|Ap ?_;obtain rfl:=oi a;refine AA rfl rfl ?_;exact⟨i,aR _ q.fin,rfl,q.mq 0 [] (M:=[]) trivial aX,o.mz z (AG (A9 [0] ⟨rfl,trivial⟩))⟩
theorem a173{p:Type}{f:Nat→Prop}{aG:Nat}{q:IT p}{s:p→Bool→Option (Bool×p)} aH m(x:p) c d(i:Value) a(Z:Nat→Prop) w(e:Cb Tryz.prog i f aG q (v1 BA) BA s)(aI:aG≤w.heap.size)(aJ:BB f [a] w)(aK:∀b,Z b→¬f b∧some b∉[a])(r:Sl C6 w Z c d m)(aQ:q x w Z a) z(j:Fu aH s m x=some z):
 BW Tryz.prog 173 #[.slice c m.length d,i] w (fun v w'=>∃o',Bp (FU f [a]) w w'∧BA.R w' (zf Z w [o']) v z.1∧(∀k,o'=some k→(a=some k∨w.heap.size≤k)∧k<w'.heap.size)∧q z.2 w' (zf Z w [o']) o'):=by
 unfold Fu at j;refine rq (N:=9) Tryz.func173 fun aR aA aS=>?_;have aB:=sA 0 aA;have aC:=sA 1 aA;clear aA;obtain⟨aL,aM,g,t,aD⟩:=Ij aJ aK;have l:=r.mv (AQ (L:=[a]) t w);have aE:=e.mz aQ (AQ (L:=[a]) t w);refine cr<|wA (v:=.bool false) rfl<|wr<|wM (v:=.slice c m.length d) aB<|wM (v:=i) aC ?_;replace j:=bind_some j;obtain⟨r1,aN,j⟩:=j;refine wE (fun st=>Ar VD (eR st) (Dn (eR st) (eR st)) (a182 aH m x c d i a (ZZ f aL Z w.heap.size [a]) _ e (Nat.le_trans aI g.sz) (g.CD (F':=f) (M:=[a]) (C:=[]) [0] [] rfl ⟨rfl,trivial⟩ trivial (fun _ h=>.inl h)) (g.zz (F':=f) (M:=[a]) (C:=[]) [0] [] ⟨rfl,trivial⟩ trivial (fun _ h=>.inl h)) l aE r1 aN)) ?_;rintro _ w2 ⟨n,aO,rfl,o,aP⟩;have u:=g.DQ aO (An [0] ⟨rfl,trivial⟩ (fun _ h=>h)) 0 rfl o;have aF:q r1.2 w2 (ZZ f aL Z w.heap.size [n]) n:=e.mz aP (g.call (M:=[n]) (Nat.le_refl _) (B8 ⟨.inr (hw o 0),trivial⟩) (Cv (L:=[a]) (y:=n) 0 (gm 0)));refine wD (fun st=>JY (eR st) (eR st))<|wA (v:=.bool (decide ((0:Int)≤r1.1))) rfl<|wn<|Ap ?_;obtain rfl:=oi j;refine AA rfl rfl ?_;exact⟨n,aD _ u.fin,rfl,u.mq 0 [] (M:=[]) trivial aM,e.mz aF (AG (A9 [0] ⟨rfl,trivial⟩))⟩
theorem Zr{z:Type}{f:Nat→Prop}{bC:Nat}{aA:IT z}{aE:z→Bool→Option (Bool×z)} aJ aF(aK:z) l m(i:Value) d(Z:Nat→Prop) w(c:Cb Tryz.prog i f bC aA (v1 BA) BA aE)(bD:bC≤w.heap.size)(bE:BB f [d] w)(bF:∀b,Z b→¬f b∧some b∉[d])(aL:Sl C6 w Z l m aF)(s:aA aK w Z d) aQ(aB:HH aJ aE aF aK=some aQ):
 BW Tryz.prog 151 #[.slice l aF.length m,i] w (fun v w'=>∃o',Bp (FU f [d]) w w'∧BA.R w' (zf Z w [o']) v aQ.1∧(∀k,o'=some k→(d=some k∨w.heap.size≤k)∧k<w'.heap.size)∧aA aQ.2 w' (zf Z w [o']) o'):=by
 unfold HH at aB;refine rq (N:=9) Tryz.func151 fun bU aR bV=>?_;have aS:=sA 0 aR;have aT:=sA 1 aR;clear aR;obtain⟨aU,bG,aG,aM,aV⟩:=Ij bE bF;have aC:=aL.mv (AQ (L:=[d]) aM w);have aW:=c.mz s (AQ (L:=[d]) aM w);refine cr<|wE (fun st=>BQ (v:=i) (cs:= #[i]) (ee st aT) c.fc) ?_;rintro _ w1 ⟨a,rfl,j⟩;have e:=aG.nb j;have bO:=aG.BZ j;refine wA (v:=.bool false) rfl<|wr<|wM (v:=.slice l aF.length m) aS<|wD (fun st=>Dv (vs:= #[]) (us:= #[pt a 0]) Iq (Cf (eR st))) ?_;have aN:=e.CD (F':=f) (M:=[some a]) (C:=[]) [0] [] rfl ⟨rfl,trivial⟩ trivial (fun k p=>.inl ((fun _ h=>h) k p));have aX:Cb Tryz.prog (.func (.func 174) #[] #[pt a 0]) (FU f [some a]) w1.heap.size (fun(st:z) aY bP o=>(∀k,o=some k→k<aY.heap.size∧¬(FU f [some a]) k)∧Bk aY a 217 #[i]∧aA st aY bP o) (v1 BA) BA (fun(st:z) (x:Bool)=>(E9 aJ aE x st).bind fun r=>some (r.1,r.2)):=by
  refine⟨rfl,rfl,e.Ir [0] ⟨rfl,trivial⟩ (fun _ h=>h),?_,?_,?_⟩
  ·intro st x r w1 aZ bH o vs a0 a2 t s a3 bQ;obtain⟨g,n,u⟩:=s;obtain⟨_,rfl,rfl⟩:=a3;obtain⟨r1,bR,bS⟩:=bind_some bQ;obtain rfl:=Option.some.inj bS;refine(EM VF rfl (Zq aJ x st a i o aZ bH w1 c (Nat.le_trans bD (Nat.le_trans e.sz a0)) ((aN.grow a0).snoc g) (fun b q=>CR (t b (a2 b q)).1 (t b (a2 b q)).2) a2 (fun b q=>CR (t b q).1 (t b q).2) n u r1 bR)).mono ?_;rintro v w2 ⟨o',a3,a4,a5,aO,bI⟩;exact⟨o',a3.lf,aO,a4,⟨aN.keep a0 g aO,a5,c.mz bI IY⟩⟩
  ·intro st w1 w2 aZ bW o s hm q;obtain⟨g,n,u⟩:=s;exact⟨fun k p=>⟨Nat.lt_of_lt_of_le (g k p).1 hm.size,(g k p).2⟩,n.Fc (q a (.inl (.inr (gm 0)))),c.Ja _ _ _ _ _ _ u hm (fun b bJ=>q b (bJ.imp .inl id))⟩
  ·intro st w1 aZ o s k p;obtain⟨g,n,u⟩:=s;exact g k p
 have aD:=(aC.mv (Ai j));replace aB:=bind_some aB;obtain⟨r2,bK,aB⟩:=aB;have a9:aA aK w1 (ZZ f aU Z w.heap.size [some a,d]) d:=(c.me aW aG j.gr (Ai j));refine wE (fun st=>Ar VG (eR st) (Dn (eR st) (eR st)) (a173 aJ aF aK l m (.func (.func 174) #[] #[pt a 0]) d (ZZ f aU Z w.heap.size [some a,d]) _ aX (Nat.le_refl _) (e.CD (F':=(FU f [some a])) (M:=[d]) (C:=[some a]) [1] [0] rfl ⟨rfl,trivial⟩ ⟨rfl,trivial⟩ (B2 (fun _ h=>h))) (e.zz (F':=(FU f [some a])) (M:=[d]) (C:=[some a]) [1] [0] ⟨rfl,trivial⟩ ⟨rfl,trivial⟩ (B2 (fun _ h=>h))) aD ⟨(fun k p=>e.Nb 1 (by rw[←p];rfl) [0] rfl ⟨rfl,trivial⟩),j.bk,a9⟩ r2 bK)) ?_;rintro _ bT ⟨aH,bL,rfl,aI,bM⟩;obtain⟨-,bN,bA⟩:=bM;have aP:=e.DQ (Bp.cl (M1:=[some a]) (M2:=[d]) bL) (An [0,1] ⟨rfl,rfl,trivial⟩ (fun _ h=>h)) 1 rfl aI;have bB:aA r2.2 bT (ZZ f aU Z w.heap.size [some a,aH]) aH:=c.mz bA (e.call (M:=[aH]) (Nat.le_refl _) (B8 ⟨.inr (hw aI 1),trivial⟩) (Cv (L:=[some a,d]) (y:=aH) 1 (gm 0)));refine wD (fun st=>Cd (eR st))<|wA (v:=.bool !r2.1) rfl<|wn<|Ap ?_;obtain rfl:=oi aB;refine AA rfl rfl ?_;exact⟨aH,aV _ aP.fin,rfl,aP.mq 1 [] (M:=[]) trivial bG,c.mz bB (AG (A9 [1] ⟨rfl,trivial⟩))⟩
theorem a152 bC aD m o d u x p f q(Z Za:Nat→Prop) w(aV:BB FN [some p,some f,some q] w)(aW:∀b,Z b→¬FN b∧some b∉[some p,some f,some q])(bD:∀b,Z b→Za b)(aR:∀b,Za b→¬FN b∧some b∉[some p,some f,some q])(aK:Sl Cp w Z u x d.Ax)(aE:Bk w p 3 #[I m])(aF:Bk w f 3 #[I o])(aP:Bk w q 76 #[I d.Ao,I d.Bj,I d.Am,I d.Cc,.slice u d.Ax.length x]) aL(c:Er bC aD m o d=some aL):
 BW Tryz.prog 152 #[.bool aD,pt p 0,pt f 0,pt q 0] w (fun v w'=>Bp (FU FN [some p,some f,some q]) w w'∧BA.R w' (zf Z w [some p,some f,some q]) v aL.1∧Bk w' p 3 #[I aL.2.1]∧Bk w' f 3 #[I aL.2.2]∧Bk w' q 76 #[I d.Ao,I d.Bj,I d.Am,I d.Cc,.slice u d.Ax.length x]):=by
 unfold Er at c;refine rq (N:=22) Tryz.func152 fun bG aG bH=>?_;have aS:=sA 0 aG;have r:=sA 1 aG;have y:=sA 2 aG;have aH:=sA 3 aG;clear aG;obtain⟨bK,bI,t,aX,bE,z⟩:=JT aV aW aR;have aU:=aK.mv (AQ (L:=[some p,some f,some q]) aX w);refine cr<|wA (v:=.bool false) rfl<|wn<|Ah<|cr<|wM (v:=.bool aD) aS<|wD (fun st=>Cd (eR st))<|wn ?_;rcases Af (!aD) with i|i
 ·replace c:=AD c i;have bA:aD=false:=by simpa using i
  refine Aw rfl i<|cr<|BC rfl rfl (fun st=>Bt (n:=1) (l:=[I 0]) (Cm:= #[I 0]) (ee st r) (eR st) CG aE rfl rfl (show 0+1≤1 by decide) (AW rfl) rfl) ?_;rintro _ bL aB;have aY:=t.gr aB.gr 0 rfl;refine wr<|wA (v:=.bool true) rfl<|wn<|Ap<|AZ ?_;obtain rfl:=oi c;refine AA rfl rfl ?_;have aM:=(aF.gr aB.gr (t.nq 1 0));have aN:=(aP.gr aB.gr (t.nq 2 0));exact⟨z _ aY.fin,rfl,aB.bk,aM,aN⟩
 ·replace c:=AE c i;have bB:aD=true:=by simpa using i
  refine AI rfl i<|cn<|Ah ?_;replace c:=AT c;obtain⟨aZ,c⟩:=c;replace c:=AT c;obtain⟨a0,c⟩:=c;refine HX 5 (fun ph _ bF=>TC w (FU FN [some f]) (MK w _) ph bF) (fun _=>[]) [4] [Kc (I o),Kc (I (o+1)),Kc (I m),Kc (I (m+1)),Kt] mixed rfl rfl (HW _ _) (fun _ _ _ _ _ h g _=>Jb KF h g) (fun _=>CT _)
      (Aa (oD (fun K=>Ag AV (es ((K.out 2 rfl).trans y)) (aF.ext (Bz K.Al (Nat.le_zero.1 (K.KB 0 4 _ rfl rfl rfl)))) rfl))
      (Aa (oD (fun K=>BV (es (K.dq 0 8)) (ec (v:=I 1)) aZ))
      (Aa (oD (fun K=>Ag AV (es ((K.out 1 rfl).trans r)) (aE.Bs (GP K.Al) (t.Br 0 rfl [1] rfl ⟨rfl,trivial⟩ eL)) rfl))
      (Aa (oD (fun K=>BV (es (K.dq 2 10)) (ec (v:=I 1)) a0))
      (Aa (Hw rfl rfl (fun a' w' ph K=>(Bt (n:=1) (l:=[I (o+1)]) (Cm:= #[I (o+1)]) (es ((K.out 2 rfl).trans y)) (es (K.dq 1 9)) CG (aF.ext (Bz K.Al (K.Cq 0 rfl))) rfl rfl (show 0+1≤1 by decide) (AW rfl) rfl).mono (fun v Bc a2=>by have a3:Bp (FU FN [some f]) w' Bc:=(MI a2.gr);exact⟨trivial,Ih ⟨fun _ _ _ h=>h,fun _ _ _ h=>h,fun _ _ _ h=>h,fun _ _ _ h=>h,fun h=>absurd rfl h,trivial⟩,J1 K.Al (K.Cq 0 rfl) a3 ⟨v,w',Bc,(Bz K.Al (K.Cq 0 rfl)),a2,Ext.refl _⟩⟩)))
      (BH _)))))) ?_
  intro bM;rintro _ rfl _ rfl _ rfl _ rfl ⟨_,a4,bJ,a5,aA,aT,j⟩;have aI:=t.ext aA;revert a4 a5 aT;rintro _ bN aC;have a9:=aI.gr aC.gr 1 rfl;intro j;have aJ:=a9.ext j;have aO:=(((aE.ext aA).gr aC.gr (aI.nq 0 1)).ext j);refine BC rfl rfl (fun st=>Bt (n:=1) (l:=[I (m+1)]) (Cm:= #[I (m+1)]) (ee st r) (eR st) CG aO rfl rfl (show 0+1≤1 by decide) (AW rfl) rfl) ?_;rintro _ bO k;have aQ:=aJ.gr k.gr 0 rfl;refine wn<|Ah<|Aj ?_;have s:=((aC.bk.ext j).gr k.gr (aJ.nq 1 0));refine wD (fun st=>Ag (v:=I (o+1)) AV (ee st y) s rfl)<|wD (fun st=>Ac (ee st aH) (Rn _ _)) ?_;have e:=((((aP.ext aA).gr aC.gr (aI.nq 2 1)).ext j).gr k.gr (aJ.nq 2 0));refine wD (fun st=>Ag (v:=I d.Am) AV (eR st) e rfl)<|wD (fun st=>ET (eR st) (eR st))<|wM (v:=.bool (decide ((o+1)≤d.Am))) rfl ?_;rcases Af (decide ((o+1)≤d.Am)) with a|a
  ·replace c:=AD c a;refine wG a (fun st=>Ag (v:=I (m+1)) AV (ee st r) k.bk rfl)<|wG a (fun st=>Ac (ee st aH) (Ro _ _))<|wG a (fun st=>Ag (v:=I d.Cc) AV (eR st) e rfl)<|wG a (fun st=>ET (eR st) (eR st))<|wD (fun st=>AH (v:=.bool (decide ((m+1)≤d.Cc))) (eR st) a (eR st))<|wA (v:=.bool (decide ((m+1)≤d.Cc))) rfl<|wn<|Ap ?_;obtain rfl:=oi c;refine AA rfl rfl ?_;exact⟨z _ aQ.fin,rfl,k.bk,s,e⟩
  ·replace c:=AE c a;refine wF a<|wF a<|wF a<|wF a<|wD (fun st=>AO (v:=.bool false) (eR st) a (eR st))<|wA (v:=.bool false) rfl<|wn<|Ap ?_;obtain rfl:=oi c;refine AA rfl rfl ?_;exact⟨z _ aQ.fin,rfl,k.bk,s,e⟩
theorem a130 aP a aJ d e s t(Z:Nat→Prop) w(aQ:Sl Cp w Z d e a.Ax)(aR:Sl C6 w Z s t aJ) bI(aE:Gd aP a aJ=some bI):
 BW Tryz.prog 130 #[.agg #[I a.Ao,I a.Bj,I a.Am,I a.Cc,.slice d a.Ax.length e],.slice s aJ.length t] w (fun v w'=>Ext w w'∧BA.R w' (zf Z w []) v bI):=by
 unfold Gd at aE;refine rq (N:=10) Tryz.func130 fun b5 a3 b6=>?_;have a4:=sA 0 a3;have a5:=sA 1 a3;clear a3;have aZ:Hp FN [] w [] w:=Hp.start (BB.none w);have ⟨aF,aG⟩:=Gr aQ aR (BF (Z:=Z) (L:=[]) w);refine cr<|wE (fun st=>BQ (v:=.agg #[I a.Ao,I a.Bj,I a.Am,I a.Cc,.slice d a.Ax.length e]) (cs:= #[I a.Ao,I a.Bj,I a.Am,I a.Cc,.slice d a.Ax.length e]) (ee st a4) rfl) ?_;rintro _ w1 ⟨f,rfl,aB⟩;have a0:=aZ.nb aB;have bU:=aZ.BZ aB;refine wA (v:=.bool false) rfl<|wr<|wE (fun st=>Ch (cs:= #[I 0]) K5 rfl) ?_;rintro _ w2 ⟨g,rfl,m⟩;have a2:=a0.nb m;have bV:=a0.BZ m;refine wE (fun st=>Ch (cs:= #[I 0]) K5 rfl) ?_;rintro _ b7 ⟨i,rfl,j⟩;have aC:=a2.nb j;have bW:=a2.BZ j;have aS:=(m.bk.ext j.gr);refine BC rfl rfl (fun st=>Bt (n:=1) (l:=[I 0]) (Cm:= #[I 0]) (eR st) (eR st) CG aS rfl rfl (show 0+1≤1 by decide) (AW rfl) rfl) ?_;rintro _ b8 p;have aD:=aC.gr p.gr 1 rfl;have aT:=(j.bk.gr p.gr (aC.nq 0 1));refine BC rfl rfl (fun st=>Bt (n:=1) (l:=[I 0]) (Cm:= #[I 0]) (eR st) (eR st) CG aT rfl rfl (show 0+1≤1 by decide) (AW rfl) rfl) ?_;rintro _ bX q;have aK:=aD.gr q.gr 0 rfl;refine wr<|wM (v:=.slice s aJ.length t) a5<|wD (fun st=>Dv (vs:= #[]) (us:= #[pt i 0,pt g 0,pt f 0]) Iq (EV (eR st) (eR st) (eR st))) ?_;have bJ:=aK.CD (F':=FN) (M:=[some i,some g,some f]) (C:=[]) [0,1,2] [] rfl ⟨rfl,rfl,rfl,trivial⟩ trivial (fun k a9=>.inl (eL k a9));have bA:Cb Tryz.prog (.func (.func 152) #[] #[pt i 0,pt g 0,pt f 0]) (FU FN [some i,some g,some f]) bX.heap.size (fun(st:Int×Int) aU bY o=>o=none∧Bk aU i 3 #[I st.1]∧Bk aU g 3 #[I st.2]∧Bk aU f 76 #[I a.Ao,I a.Bj,I a.Am,I a.Cc,.slice d a.Ax.length e]∧Sl Cp aU bY d e a.Ax) (v1 BA) BA (fun(st:Int×Int) (x:Bool)=>(Er aP x st.1 st.2 a).bind fun r=>some (r.1,(r.2.1,r.2.2))):=by
  refine⟨rfl,rfl,aK.Ir [0,1,2] ⟨rfl,rfl,rfl,trivial⟩ eL,?_,?_,?_⟩
  ·intro st x r w1 bB bK o vs bZ bC aL aM aV b1;obtain⟨rfl,u,y,z,c⟩:=aM;obtain⟨_,rfl,rfl⟩:=aV;obtain⟨r1,b2,b3⟩:=bind_some b1;obtain rfl:=Option.some.inj b3;refine(EM VH rfl (a152 aP x st.1 st.2 a d e i g f bB bK w1 (bJ.grow bZ) (fun b aA=>F7 (aL b (bC b aA)).1) bC (fun b aA=>F7 (aL b aA).1) c u y z r1 b2)).mono ?_;rintro v w2 ⟨aV,bD,bE,bF,bG⟩;exact⟨none,aV.Q3,(fun _ h=>by cases h),bD,⟨rfl,bE,bF,bG,(c.mv (Fm (Hf aV (fun b aA=>IZ (aL b (bC b aA))))))⟩⟩
  ·intro st w1 w2 bB b9 o aM hm aA;obtain⟨rfl,u,y,z,c⟩:=aM;exact⟨rfl,u.Fc (aA i (.inl (.inr (gm 0)))),y.Fc (aA g (.inl (.inr (gm 1)))),z.Fc (aA f (.inl (.inr (gm 2)))),c.mv hm⟩
  ·intro st w1 bB o aM k a9;obtain⟨rfl,u,y,z,c⟩:=aM;cases a9
 have aN:=aK.nil;have aH:=((((((aG.mv (Ai aB)).mv (Ai m)).mv (Ai j)).mv (aC.Ak p.gr 1 rfl)).mv (aD.Ak q.gr 0 rfl)).mv BD);replace aE:=bind_some aE;obtain⟨bL,bM,aE⟩:=aE;have aW:=q.bk;have aX:=(p.bk.gr q.gr (aD.nq 1 0));have aY:=((((aB.bk.ext m.gr).ext j.gr).gr p.gr (aC.nq 2 1)).gr q.gr (aD.nq 2 0));have aI:=((((((aF.mv (Ai aB)).mv (Ai m)).mv (Ai j)).mv (aC.Ak p.gr 1 rfl)).mv (aD.Ak q.gr 0 rfl)).mv BD);have aO:=aN.mz (Z:=Z) (F':=(FU FN [some i,some g,some f])) (M:=[none]) (C:=[some i,some g,some f]) [0] [1,2,3] ⟨rfl,trivial⟩ ⟨rfl,rfl,rfl,trivial⟩ (B2 eL);refine wE (fun st=>Ar VI (eR st) (Dn (eR st) (eR st)) (Zr aP aJ (0,0) s t (.func (.func 152) #[] #[pt i 0,pt g 0,pt f 0]) none (ZC (FU FN [some i,some g,some f]) [none]) _ bA (Nat.le_refl _) (aN.CD (F':=(FU FN [some i,some g,some f])) (M:=[none]) (C:=[some i,some g,some f]) [0] [1,2,3] rfl ⟨rfl,trivial⟩ ⟨rfl,rfl,rfl,trivial⟩ (B2 eL)) GG (aH.mv aO) ⟨rfl,aW,aX,aY,(aI.mv aO)⟩ bL bM)) ?_;rintro _ cA ⟨cB,bN,rfl,b4,bO⟩;obtain⟨rfl,bP,bQ,bR,bH⟩:=bO;have bS:=aN.Bs (Bp.cl (M1:=[some i,some g,some f]) (M2:=[none]) bN) (An [1,2,3,0] ⟨rfl,rfl,rfl,rfl,trivial⟩ eL);have bT:=bS.erase 0;refine wA (v:=.bool bL.1) rfl<|wn<|Ap ?_;obtain rfl:=oi aE;refine AA rfl rfl ?_;exact⟨bT.Bl,rfl⟩
end Go.Proofs.YtamobliaoknclaaGreat
end
