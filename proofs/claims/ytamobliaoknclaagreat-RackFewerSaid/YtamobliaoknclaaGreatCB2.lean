import Derived.Test.YtamobliaoknclaaGreatCB1
import Derived.WalkKit
import Derived.KernelRfl
import Derived.WalkSpells
import Derived.WalkLawsBesides
import Derived.Maps.AppendAt
import Derived.OrdersIn
import Derived.RangeFuncIn
import Derived.RangeFuncLeaves
import Derived.RangeFuncRecord
import Derived.RangeFuncSeq
import Derived.Scope
import Derived.DeepKeys3
import Derived.Laws.CopyRow
import Derived.Laws.OwnMore
import Derived.Laws.MakeOwn
import Derived.Laws.IdiomCopy
import Derived.Sort.OwnSortedInts
import Derived.Lib.RowBridge
import Derived.Test.YtamobliaoknclaaGreatProg
/-
  The contracts of the functions of the program and of the reference, and the logic that they are proved in: the base that several claims of this seat share.
-/
set_option linter.all false
section
namespace Go.Proofs.YtamobliaoknclaaGreat
open Go.RowKit Go.WideShapes
def CV(a:Nat):Option (Bool):=
 (CA a 1).bind fun r1=>(F9 a 3).bind fun v=>(F6 a r1 [[0,1]] v).bind fun h=>(CA a 1).bind fun w=>(ER a w [[0,1]] 1).bind fun d=>(CA a 1).bind fun i=>(ER a i [[1,0]] 0).bind fun e=>(CA a 1).bind fun j=>(DV a j [[1,0]]).bind fun b=>(CA a 1).bind fun k=>(GJ a k).bind fun c=>(CA a 1).bind fun l=>(GK a l).bind fun f=>(CA a 1).bind fun m=>(Fm a m).bind fun g=>cond (h.2==0) ((EE a 0 1 true).bind fun n=>(EE a 2 3 false).bind fun o=>(Ga a h.1 n o).bind fun p=>cond (p) (cond (d.2==0) (cond (d.1==3) (cond (e.2==0) (cond (e.1==2) (cond (b.2.2==0) (cond (b.1==2) ((CA a 1).bind fun q=>(Fe a q [[1,0]] b.2.1 2).bind fun r=>cond (r) (cond (c.2.2==0) (cond (c.2.1==1) ((CA a 1).bind fun s=>(ET a s c.1 1).bind fun t=>cond (t) (cond (f.2.2==0) (cond (f.2.1==1) (cond (g.2==0) ((Fi a g.1 [1]).bind fun u=>some (u)) (some (false))) (some (false))) (some (false))) (some (false))) (some (false))) (some (false))) (some (false))) (some (false))) (some (false))) (some (false))) (some (false))) (some (false))) (some (false))) (some (false))) (some (false))
end Go.Proofs.YtamobliaoknclaaGreat
end
section
namespace Go.Proofs.YtamobliaoknclaaGreat
theorem bd{α β:Type}{x:Option α}{a:α}{f:α→Option β}(h:x=some a):x.bind f=f a:=by rw[h];rfl
theorem BI{β:Type}{x:Int}{f:Int→Option β}(h0:-9223372036854775808≤x)(a:x≤9223372036854775807):(i64 x).bind f=f x:=bd (TS h0 a)
theorem CZ{α β:Type}{xs:List α}{k:Nat}{f:α→Option β}(h:k<xs.length):(idx xs (k:Int)).bind f=f xs[k]:=bd (idx_eq h)
theorem FK{β:Type}{p:Prop}[Decidable p]{f:Unit→Option β}(h:p):(Ff p).bind f=f ():=bd (if_pos h)
theorem Mg{β:Type}{a b:Int}{f:Int→Option β}(h0:0≤a)(c:1≤b):(rem a b).bind f=f (a%b):=bd (if_pos ⟨h0,c⟩)
theorem VR{β:Type}{a b:Int}{f:Int→Option β}(h0:0≤a)(c:1≤b):(quo a b).bind f=f (a/b):=bd (if_pos ⟨h0,c⟩)
theorem OL{β:Type}{n:Int}{b:Nat}{f:Unit→Option β}(h0:0≤n)(a:n*b≤140737488355328)(c:n≤140737488355328):(Ki n b).bind f=f ():=bd (if_pos ⟨h0,a,c⟩)
theorem ct{α:Type}{b:Bool}{x y:α}(h:b=true):cond b x y=x:=by rw[h];rfl
theorem cf{α:Type}{b:Bool}{x y:α}(h:b=false):cond b x y=y:=by rw[h];rfl
theorem nt{α:Type}{x y:α}:cond (!true) x y=y:=rfl
theorem nf{α:Type}{x y:α}:cond (!false) x y=x:=rfl
theorem dt{p:Prop}[Decidable p](h:p):decide p=true:=decide_eq_true h
theorem df{p:Prop}[Decidable p](h:¬p):decide p=false:=decide_eq_false h
theorem DM(i:Nat):(i:Int)+1=((i+1:Nat):Int):=by omega
def Fp(n a b:Int):Bool:=decide (a≤n)&&decide (n≤b)
theorem Fq{n a b:Int}:Fp n a b=true↔a≤n∧n≤b:=by simp[Fp]
theorem NC(K:Nat)(n a b:Int):DP K n a b=some (Fp n a b):=by unfold DP Fp;cases decide (a≤n)<;>rfl
theorem Hb(K:Nat)(n a b:Int):D9 K n a b=some (Fp n a b):=by unfold D9 Fp;cases decide (a≤n)<;>rfl
def run {σ α:Type} (cb:σ→α→Option (Bool×σ)):List α→σ→Option (Bool×σ)
 |[],s=>some (true,s)
 |x::l,s=>(cb s x).bind fun r=>cond r.1 (run cb l r.2) (some (false,r.2))
theorem Hv{σ α:Type}(cb:σ→α→Option (Bool×σ))(a:List α):∀(b:List α) (s:σ),run cb (b++a) s=(run cb b s).bind fun r=>cond r.1 (run cb a r.2) (some (false,r.2))
 |[],s=>rfl
 |x::l,s=>by
  simp only[List.cons_append,run];cases cb s x with
  |none=>rfl
  |some r=>
   simp only[Option.bind_some];cases h:r.1 with
   |false=>simp
   |true=>simpa using Hv cb a l r.2
theorem run_map{σ α β:Type}(cb:σ→β→Option (Bool×σ))(f:α→β):∀(l:List α) (s:σ),run cb (l.map f) s=run (fun s x=>cb s (f x)) l s
 |[],s=>rfl
 |x::l,s=>by simp only[List.map_cons,run,run_map cb f l]
theorem PB{σ:Type}(K:Nat)(cb:σ→Bool→Option (Bool×σ))(p:List Bool)(a:p.length≤5000):∀(n m i:Nat) (s:σ),p.length=i+n→n<m→
  (CX (fun(st:σ) (x:Bool)=>(Ei K cb x st).bind fun r=>some (r.1,r.2)) p m (i:Int) s).bind (fun z=>Sum.elim (fun q=>some (decide ((0:Int)≤q.1),q.2)) (fun q=>some (false,q)) z)=(run cb (p.drop i) s).bind fun r=>some (!r.1,r.2):=by
 intro n
 induction n with
 |zero=>
  intro m i s h hm;cases m with
  |zero=>omega
  |succ m=>
   rw[CX.eq_2,cf (df (by omega)),List.drop_eq_nil_of_le (by omega)];rfl
 |succ n ih=>
  intro m i s h hm;cases m with
  |zero=>omega
  |succ m=>
   have hi:i<p.length:=by omega
   rw[CX.eq_2,ct (dt (by omega)),CZ hi,List.drop_eq_getElem_cons hi];simp only[run];have e:(Ei K cb p[i] s).bind (fun r=>some (r.1,r.2))=(cb s p[i]).bind fun r=>some (!r.1,r.2):=by
    unfold Ei;cases cb s p[i]<;>rfl
   rw[e];cases b:cb s p[i] with
   |none=>rfl
   |some r=>
    simp only[Option.bind_some];cases c:r.1 with
    |false=>
     show some (decide ((0:Int)≤(i:Int)),r.2)=some (!false,r.2);rw[dt (by omega)];rfl
    |true=>
     rw[nt,BI (by omega) (by omega),DM];exact ih m (i+1) r.2 (by omega) (by omega)
theorem PC{σ:Type}{K:Nat}(cb:σ→Bool→Option (Bool×σ))(p:List Bool)(s:σ)(b:p.length≤5000)(hK:p.length<K):FZ K cb p s=run cb p s:=by
 unfold FZ Ev EZ;have h:=PB K cb p b p.length K 0 s (by omega) hK;rw[List.drop_zero,Int.natCast_zero] at h;have e:∀(z:(Int×σ)⊕σ),(Sum.elim (fun a=>some ((a.1,a.2))) (fun a=>some (((-1),a))) z:Option (Int×σ)).bind (fun r1=>some ((decide ((0:Int)≤r1.1),r1.2)))=Sum.elim (fun q=>some (decide ((0:Int)≤q.1),q.2)) (fun q=>some (false,q)) z:=by
  intro z;cases z<;>rfl
 refine Eq.trans (congrArg (fun z=>Option.bind z _) ((Option.bind_assoc _ _ _).trans ((congrArg (fun f=>Option.bind _ f) (funext e)).trans h))) ?_;cases run cb p s with
 |none=>rfl
 |some r=>show some (!(!r.1),r.2)=some r;rw[Bool.not_not]
theorem Qf{σ:Type}(K:Nat)(cb:σ→AP→Option (Bool×σ))(p:List AP)(a:p.length≤5000):∀(n m i:Nat) (s:σ),p.length=i+n→n<m→
  (C6 (fun(st:σ) (x:AP)=>(Ez K cb x st).bind fun r=>some (r.1,r.2)) p m (i:Int) s).bind (fun z=>Sum.elim (fun q=>some (decide ((0:Int)≤q.1),q.2)) (fun q=>some (false,q)) z)=(run cb (p.drop i) s).bind fun r=>some (!r.1,r.2):=by
 intro n
 induction n with
 |zero=>
  intro m i s h hm;cases m with
  |zero=>omega
  |succ m=>
   rw[C6.eq_2,cf (df (by omega)),List.drop_eq_nil_of_le (by omega)];rfl
 |succ n ih=>
  intro m i s h hm;cases m with
  |zero=>omega
  |succ m=>
   have hi:i<p.length:=by omega
   rw[C6.eq_2,ct (dt (by omega)),CZ hi,List.drop_eq_getElem_cons hi];simp only[run];have e:(Ez K cb p[i] s).bind (fun r=>some (r.1,r.2))=(cb s p[i]).bind fun r=>some (!r.1,r.2):=by
    unfold Ez;cases cb s p[i]<;>rfl
   rw[e];cases b:cb s p[i] with
   |none=>rfl
   |some r=>
    simp only[Option.bind_some];cases c:r.1 with
    |false=>
     show some (decide ((0:Int)≤(i:Int)),r.2)=some (!false,r.2);rw[dt (by omega)];rfl
    |true=>
     rw[nt,BI (by omega) (by omega),DM];exact ih m (i+1) r.2 (by omega) (by omega)
theorem Qg{σ:Type}{K:Nat}(cb:σ→AP→Option (Bool×σ))(p:List AP)(s:σ)(b:p.length≤5000)(hK:p.length<K):Gk K cb p s=run cb p s:=by
 unfold Gk EI Fg;have h:=Qf K cb p b p.length K 0 s (by omega) hK;rw[List.drop_zero,Int.natCast_zero] at h;have e:∀(z:(Int×σ)⊕σ),(Sum.elim (fun a=>some ((a.1,a.2))) (fun a=>some (((-1),a))) z:Option (Int×σ)).bind (fun r1=>some ((decide ((0:Int)≤r1.1),r1.2)))=Sum.elim (fun q=>some (decide ((0:Int)≤q.1),q.2)) (fun q=>some (false,q)) z:=by
  intro z;cases z<;>rfl
 refine Eq.trans (congrArg (fun z=>Option.bind z _) ((Option.bind_assoc _ _ _).trans ((congrArg (fun f=>Option.bind _ f) (funext e)).trans h))) ?_;cases run cb p s with
 |none=>rfl
 |some r=>show some (!(!r.1),r.2)=some r;rw[Bool.not_not]
def okW (W R:Int):List Bool→Int→Int→Bool
 |[],_,_=>true
 |false::l,s,_=>okW W R l s 0
 |true::l,s,r=>decide (s+1≤W)&&(decide (r+1≤R)&&okW W R l (s+1) (r+1))
theorem JI(K:Nat)(y:Ao):∀(l:List Bool) (r s:Int),0≤r→0≤s→r+l.length≤5000→s+l.length≤5000→
  (run (fun(st:Int×Int) (x:Bool)=>(DF K x st.1 st.2 y).bind fun r=>some (r.1,(r.2.1,r.2.2))) l (r,s)).bind (fun d=>some (d.1))=some (okW y.An y.Au l s r)
 |[],r,s,_,_,_,_=>rfl
 |false::l,r,s,e,c,a,b=>by
  simp only[run,okW];unfold DF;simp only[Bool.not_false,cond_true,Option.bind_some];exact JI K y l 0 s (by omega) c (by simp at a;omega) (by simp at b;omega)
 |true::l,r,s,e,c,a,b=>by
  simp only[List.length_cons] at a b;simp only[run,okW];unfold DF;simp only[Bool.not_true,cond_false];rw[BI (by omega) (by omega),BI (by omega) (by omega)];cases f:decide (s+1≤y.An) with
  |false=>simp
  |true=>
   simp only[cond_true,Option.bind_some];cases g:decide (r+1≤y.Au) with
   |false=>simp
   |true=>
    simp only[cond_true,Bool.true_and];exact JI K y l (r+1) (s+1) (by omega) (by omega) (by omega) (by omega)
theorem MJ{K:Nat}(y:Ao)(l:List Bool)(a:l.length≤4000)(hK:l.length<K):El K y l=some (okW y.An y.Au l 0 0):=by
 unfold El;rw[PC _ l _ (by omega) hK];exact JI K y l 0 0 (by omega) (by omega) (by omega) (by omega)
theorem OM(s x:Nat):E9 (s:Int) (x:Int)=((s/2^x:Nat):Int):=by
 unfold E9;rw[Int.toNat_natCast,Int.natCast_ediv,Int.natCast_pow];rfl
theorem Su(s x:Nat):E9 (s:Int) (x:Int)%2=((s/2^x%2:Nat):Int):=by rw[OM];simp
theorem Qh(b d:Nat):(E9 (b:Int) (d:Int)%2==1)=b.testBit d:=by
 rw[Su,Nat.testBit_eq_decide_div_mod_eq];cases h:decide (b/2^d%2=1) with
 |true=>rw[of_decide_eq_true h];rfl
 |false=>
  have:=of_decide_eq_false h;simp only[beq_eq_false_iff_ne,ne_eq];omega
theorem Qi(b d:Nat)(h:d<64):Nw (b:Int) (d:Int)=some ():=if_pos ⟨by omega,by omega⟩
theorem T6(b d:Nat):0≤E9 (b:Int) (d:Int):=by rw[OM];exact Int.natCast_nonneg _
def wl (n b:Nat):List Bool:=(List.range n).map b.testBit
theorem FD(n b:Nat):(wl n b).length=n:=by simp[wl]
theorem Vg(b n:Nat)(a:List Bool)(h0:a.length=n)(d:n≤63):∀(k m i:Nat) (s:List Bool),n=i+k→k<m→s.length=n→
  CH (b:Int) a m (i:Int) s=some (s.take i++(List.range' i k).map b.testBit):=by
 intro k
 induction k with
 |zero=>
  intro m i s h hm c;cases m with
  |zero=>omega
  |succ m=>
   rw[CH.eq_2,cf (df (by omega)),List.take_of_length_le (by omega)];simp
 |succ k ih=>
  intro m i s h hm c;cases m with
  |zero=>omega
  |succ m=>
   have hi:i<s.length:=by omega
   rw[CH.eq_2,ct (dt (by omega)),bd (Qi b i (by omega)),Mg (T6 b i) (by omega),CZ hi,BI (by omega) (by omega),DM,Qh,Int.toNat_natCast];rw[ih m (i+1) (s.set i (b.testBit i)) (by omega) (by omega) (by rw[List.length_set];exact c)]
   congr 1
   rw[List.range'_succ,List.map_cons,List.take_add_one,List.getElem?_set_self hi,List.take_set_of_le (Nat.le_refl _)];simp
theorem Vh(b n:Nat)(s:List Bool)(c:n≤63){K:Nat}(hK:n<K)(a:s.length=n):CH (b:Int) s K 0 s=some (wl n b):=by
 have:=Vg b n s a c n K 0 s (by omega) hK a;rw[Int.natCast_zero] at this;rw[this,wl,List.range_eq_range'];rfl
def Hw (y:Ao) (l:List Bool):Bool:=okW y.An y.Au l 0 0
def days(y:Ao):Nat:=(y.Ak+1).toNat
def Cu(y:Ao):List (List Bool):=((List.range (2^days y)).map (wl (days y))).filter (Hw y)
theorem IE:∀n:Nat,n≤10→2^n≤1024:=by decide
theorem PD{σ:Type}{K:Nat}(cb:σ→List Bool→Option (Bool×σ))(y:Ao)(f:days y≤10)(hK:2000≤K):∀(k m i:Nat) (a:List Bool) (st:σ),2^days y=i+k→k<m→a.length=days y→
  CI cb K y m (i:Int) a st=(run cb (((List.range' i k).map (wl (days y))).filter (Hw y)) st).bind fun r=>some (cond r.1 (.inr r.2) (.inl r.2)):=by
 intro k;have g:=IE _ f;have b:G8 (1:Int) ((List.replicate (y.Ak+1).toNat false).length:Int)=((2^days y:Nat):Int):=by
  unfold G8;rw[Int.one_mul,Int.toNat_natCast,List.length_replicate,Int.natCast_pow];rfl
 induction k with
 |zero=>
  intro m i a st h hm c;cases m with
  |zero=>omega
  |succ m=>
   rw[CI.eq_2,b,cf (df (by omega))];rfl
 |succ k ih=>
  intro m i a st h hm c;cases m with
  |zero=>omega
  |succ m=>
   rw[CI.eq_2,b,ct (dt (by omega)),bd (Vh i (days y) a (by omega) (by omega) c),bd (MJ y (wl (days y) i) (by rw[FD];omega) (by rw[FD];omega))];rw[List.range'_succ,List.map_cons];show cond (Hw y (wl (days y) i)) _ _=_;cases d:Hw y (wl (days y) i) with
   |false=>
    rw[List.filter_cons_of_neg (by rw[d];decide),cf rfl,BI (by omega) (by omega),DM];exact ih m (i+1) _ st (by omega) (by omega) (FD _ _)
   |true=>
    rw[List.filter_cons_of_pos d,ct rfl];show _=(Option.bind _ _:Option (Bool×σ)).bind _;cases j:cb st (wl (days y) i) with
    |none=>rfl
    |some r=>
     cases e:r.1 with
     |false=>
      show(cond (!r.1) (some (Sum.inl r.2)) _:Option (σ⊕σ))=(cond r.1 _ (some (false,r.2)):Option (Bool×σ)).bind _;rw[e];rfl
     |true=>
      show cond (!r.1) _ ((i64 ((i:Int)+1)).bind _)=(cond r.1 (run cb _ r.2) _:Option (Bool×σ)).bind _;rw[e,nt,BI (by omega) (by omega),DM];exact ih m (i+1) _ r.2 (by omega) (by omega) (FD _ _)
theorem LQ{σ:Type}{K:Nat}(cb:σ→List Bool→Option (Bool×σ))(y:Ao)(h0:0≤y.Ak)(h9:y.Ak≤9)(hK:2000≤K)(st:σ):
  Dq K cb y st=(run cb (Cu y) st).bind fun r=>some r.2:=by
 have a:days y≤10:=by unfold days;omega
 have c:=IE _ a;unfold Dq;rw[BI (by omega) (by omega),OL (by omega) (by omega) (by omega)];have b:L9 (1:Int) ((List.replicate (y.Ak+1).toNat false).length:Int)=some ():=by
  rw[List.length_replicate];refine if_pos ⟨by omega,by omega,?_,?_⟩
  ·have:(0:Int)≤1*2^((days y:Nat):Int).toNat:=by rw[Int.one_mul];exact Int.le_of_lt (Int.pow_pos (by omega))
   exact Int.le_trans (by omega) this
  ·rw[Int.one_mul,Int.toNat_natCast];have:((2^days y:Nat):Int)≤1024:=by omega
   rw[Int.natCast_pow] at this;exact Int.le_trans this (by omega)
 rw[bd b];have:=PD (K:=K) cb y a hK (2^days y) K 0 (List.replicate (y.Ak+1).toNat false) st (by omega) (by omega) (by rw[List.length_replicate];rfl);rw[Int.natCast_zero] at this;rw[this,Cu,List.range_eq_range',Option.bind_assoc]
 congr 1;funext r
 cases r.1<;>rfl
def FA(y:Ao)(l:AP):Bool:=decide (0≤l.Ax)&&(decide (l.Ax≤l.AI)&&(decide (l.AI≤y.Ak)&&(Fp l.AR 1 5&&(Fp l.B5 1 5&&Fp l.Cj 0 y.Ak))))
def CJ(l:AP):Int:=l.AI-l.Ax+1
def DZ:List AP→Int
 |[]=>1
 |l::r=>CJ l*DZ r
def G6 (y:Ao):Int:=((Cu y).length:Int)*DZ y.Ac
def check(y:Ao):Int:=
 if 9<y.Ak∨2<y.Ag∨4<(y.Ac.length:Int) then 3
 else if y.Ak<0∨y.Ag<1∨Fp y.An 0 (y.Ak+1)=false∨Fp y.Au 0 (y.Ak+1)=false∨y.Ac.all (FA y)=false then 1
 else if 1000<G6 y then 3 else 0
theorem IW{y:Ao}{l:AP}:FA y l=true↔0≤l.Ax∧l.Ax≤l.AI∧l.AI≤y.Ak∧(1≤l.AR∧l.AR≤5)∧(1≤l.B5∧l.B5≤5)∧0≤l.Cj∧l.Cj≤y.Ak:=by
 unfold FA;simp only[Bool.and_eq_true,decide_eq_true_eq,Fq]
theorem Vi(K:Nat)(y:Ao)(l:AP):EN K y l=some (FA y l):=by
 unfold EN FA GO GD;rw[Hb,Hb,Hb];cases decide ((0:Int)≤l.Ax)<;>cases decide (l.Ax≤l.AI)<;>cases decide (l.AI≤y.Ak)<;>cases Fp l.AR 1 5<;>cases Fp l.B5 1 5<;>rfl
theorem T7{K:Nat}(hK:2<K)(a b:Int):Gl K [a,b]=some (min a b):=by
 obtain⟨k,rfl⟩:∃k,K=k+3:=⟨K-3,by omega⟩;unfold Gl Gz;rw[cf (df (by simp)),show(0:Int)=((0:Nat):Int) from rfl,CZ (by simp),show(1:Int)=((1:Nat):Int) from rfl,Em.eq_2,ct (dt (by simp)),CZ (by simp),BI (by omega) (by omega),Em.eq_2,cf (df (by simp))];rfl
theorem Qj(K:Nat)(l:AP)(h0:0≤l.Ax)(a:l.Ax≤l.AI)(b:l.AI≤9):ES K (⟨l.Ax,l.AI⟩:CN)=some (CJ l):=by
 unfold ES;show(i64 (l.AI-l.Ax)).bind _=_;rw[BI (by omega) (by omega)];show(i64 (l.AI-l.Ax+1)).bind _=_;rw[BI (by omega) (by omega)];rfl
theorem T8(K:Nat)(l:AP)(h0:0≤l.Ax)(a:l.Ax≤l.AI)(b:l.AI≤9):Fh K (⟨l.Ax,l.AI⟩:CN)=some (CJ l):=by
 unfold Fh;show(i64 (l.AI-l.Ax)).bind _=_;rw[BI (by omega) (by omega)];show(i64 (l.AI-l.Ax+1)).bind _=_;rw[BI (by omega) (by omega)];rfl
def I7(c:Int):Int→List AP→Int
 |n,[]=>n
 |n,l::r=>I7 c (min (n*CJ l) c) r
def sized(l:AP):Prop:=1≤CJ l∧CJ l≤10
theorem Lg{y:Ao}{l:AP}(h9:y.Ak≤9)(h:FA y l=true):sized l:=by
 obtain⟨a,b,c,_⟩:=IW.1 h;unfold sized CJ;omega
theorem IX:∀{ls:List AP},(∀l∈ls,sized l)→1≤DZ ls
 |[],_=>Int.le_refl _
 |l::r,h=>by
  have a:=(h l (List.mem_cons_self ..)).1;have b:=IX (ls:=r) fun x c=>h x (List.mem_cons_of_mem _ c);have:=Int.mul_le_mul a b (by omega) (by omega);unfold DZ;omega
theorem Mh{c:Int}(e:1000<c):∀{ls:List AP} (n:Int),0≤n→(∀l∈ls,sized l)→(1000<I7 c n ls↔1000<n*DZ ls)
 |[],n,_,_=>by simp[I7,DZ]
 |l::r,n,f,h=>by
  have g:=h l (List.mem_cons_self ..);have b:∀x∈r,sized x:=fun x i=>h x (List.mem_cons_of_mem _ i);have d:=IX b;have h0:0≤n*CJ l:=Int.mul_nonneg f (by have:=g.1;omega);unfold I7 DZ;rw[Mh e _ (by omega) b,←Int.mul_assoc];rcases Int.le_total (n*CJ l) c with a|a
  ·rw[Int.min_eq_left a]
  ·rw[Int.min_eq_right a];have j:c*1≤c*DZ r:=Int.mul_le_mul_of_nonneg_left d (by omega);have k:(n*CJ l)*1≤n*CJ l*DZ r:=Int.mul_le_mul_of_nonneg_left d h0;constructor<;>intro _<;>omega
theorem ON{c:Int}(b:1000<c):∀{ls:List AP} (n:Int),0≤n→(∀l∈ls,sized l)→n*DZ ls≤1000→I7 c n ls=n*DZ ls
 |[],n,_,_,_=>by simp[I7,DZ]
 |l::r,n,d,h,hle=>by
  have e:=h l (List.mem_cons_self ..);have a:∀x∈r,sized x:=fun x f=>h x (List.mem_cons_of_mem _ f);have g:=IX a;have h0:0≤n*CJ l:=Int.mul_nonneg d (by have:=e.1;omega);rw[DZ,←Int.mul_assoc] at hle;rw[I7,DZ,←Int.mul_assoc];have i:(n*CJ l)*1≤n*CJ l*DZ r:=Int.mul_le_mul_of_nonneg_left g h0;rw[Int.min_eq_left (by omega),ON b _ h0 a hle]
theorem Sv(y:Ao)(j:y.Ac.length≤4)(b:∀l∈y.Ac,sized l∧0≤l.Ax∧l.AI≤9){K:Nat}(hK:2000≤K):∀(k m i:Nat) (n:Int),y.Ac.length=i+k→k<m→0≤n→n≤3000→
  DQ K y m (i:Int) n=some (I7 1001 n (y.Ac.drop i)):=by
 intro k
 induction k with
 |zero=>
  intro m i n h hm h0 a;cases m with
  |zero=>omega
  |succ m=>rw[DQ.eq_2,cf (df (by omega)),List.drop_eq_nil_of_le (by omega)];rfl
 |succ k ih=>
  intro m i n h hm h0 a;cases m with
  |zero=>omega
  |succ m=>
   have hi:i<y.Ac.length:=by omega
   obtain⟨⟨s1,s2⟩,c,d⟩:=b y.Ac[i] (List.getElem_mem hi);have e:1≤CJ y.Ac[i]∧CJ y.Ac[i]≤10:=⟨s1,s2⟩;have f:0≤n*CJ y.Ac[i]:=Int.mul_nonneg h0 (by omega);have g:n*CJ y.Ac[i]≤3000*10:=Int.mul_le_mul a s2 (by omega) (by omega);rw[DQ.eq_2,ct (dt (by omega)),CZ hi,bd (Qj K _ c (by unfold CJ at s1;omega) d),BI (by omega) (by omega),bd (T7 (by omega) _ _),BI (by omega) (by omega),DM];rw[ih m (i+1) _ (by omega) (by omega) (by omega) (by omega),List.drop_eq_getElem_cons hi];rfl
theorem T9(y:Ao)(j:y.Ac.length≤4)(b:∀l∈y.Ac,sized l∧0≤l.Ax∧l.AI≤9){K:Nat}:∀(k m i:Nat) (n:Int),y.Ac.length=i+k→k<m→0≤n→n≤3000→
  DC K y m n (i:Int)=some (I7 3000 n (y.Ac.drop i)):=by
 intro k
 induction k with
 |zero=>
  intro m i n h hm h0 a;cases m with
  |zero=>omega
  |succ m=>rw[DC.eq_2,cf (df (by omega)),List.drop_eq_nil_of_le (by omega)];rfl
 |succ k ih=>
  intro m i n h hm h0 a;cases m with
  |zero=>omega
  |succ m=>
   have hi:i<y.Ac.length:=by omega
   obtain⟨⟨s1,s2⟩,c,d⟩:=b y.Ac[i] (List.getElem_mem hi);have e:1≤CJ y.Ac[i]∧CJ y.Ac[i]≤10:=⟨s1,s2⟩;have f:0≤n*CJ y.Ac[i]:=Int.mul_nonneg h0 (by omega);have g:n*CJ y.Ac[i]≤3000*10:=Int.mul_le_mul a s2 (by omega) (by omega);rw[DC.eq_2,ct (dt (by omega)),CZ hi,bd (T8 K _ c (by unfold CJ at s1;omega) d),BI (by omega) (by omega),BI (by omega) (by omega),DM,Int.min_comm];rw[ih m (i+1) _ (by omega) (by omega) (by omega) (by omega),List.drop_eq_getElem_cons hi];rfl
theorem MK{α:Type}:∀(l:List α) (n:Int),0≤n→n+l.length≤100000→run (fun(st:Int) (_:α)=>(i64 (st+1)).bind fun _=>some (true,st+1)) l n=some (true,n+l.length)
 |[],n,_,_=>by simp[run]
 |x::l,n,h0,a=>by
  simp only[List.length_cons] at a⊢;rw[run,BI (by omega) (by omega)];show run _ l (n+1)=_;rw[MK l (n+1) (by omega) (by omega)]
  congr 2;omega
theorem Kq(y:Ao)(h:days y≤10):(Cu y).length≤1024:=by
 have a:=IE _ h;have:(Cu y).length≤((List.range (2^days y)).map (wl (days y))).length:=List.length_filter_le ..;simp at this;omega
theorem ML{K:Nat}(y:Ao):∀(l:List AP),run (fun(st:Unit) (x:AP)=>(EN K y x).bind fun r=>some (r,())) l ()=some (l.all (FA y),())
 |[]=>rfl
 |x::l=>by
  rw[run,Vi];show cond (FA y x) (run _ l ()) (some (false,()))=_;rw[ML y l,List.all_cons];cases FA y x<;>rfl
theorem Ip{K:Nat}(hK:2000≤K)(y:Ao):Dr K y=some (check y):=by
 unfold Dr check
 by_cases g:9<y.Ak
 ·rw[ct (dt g),if_pos (.inl g)]
 rw[cf (df g)]
 by_cases i:2<y.Ag
 ·rw[ct (dt i),if_pos (.inr (.inl i))]
 rw[cf (df i)]
 by_cases j:4<(y.Ac.length:Int)
 ·rw[ct (dt j),if_pos (.inr (.inr j))]
 rw[cf (df j),if_neg (by omega)]
 by_cases b:y.Ak<0
 ·rw[ct (dt b),if_pos (.inl b)]
 rw[cf (df b)]
 by_cases d:y.Ag<1
 ·rw[ct (dt d),if_pos (.inr (.inl d))]
 rw[cf (df d),BI (by omega) (by omega),bd (Hb ..)];cases r:Fp y.An 0 (y.Ak+1) with
 |false=>rw[nf,if_pos (.inr (.inr (.inl rfl)))]
 |true=>
  rw[nt,BI (by omega) (by omega),bd (Hb ..)];cases s:Fp y.Au 0 (y.Ak+1) with
  |false=>rw[nf,if_pos (.inr (.inr (.inr (.inl rfl))))]
  |true=>
   rw[nt,Qg _ _ _ (by omega) (by omega),bd (ML y y.Ac)];cases o:y.Ac.all (FA y) with
   |false=>rw[nf,if_pos (.inr (.inr (.inr (.inr rfl))))]
   |true=>
    rw[nt,if_neg (by simp[b,d])];have p:days y≤10:=by unfold days;omega
    have hw:=Kq y p;have m:∀l∈y.Ac,sized l∧0≤l.Ax∧l.AI≤9:=fun l k=>by
     have n:=List.all_eq_true.1 o l k;have:=IW.1 n;exact⟨Lg (by omega) n,this.1,by omega⟩
    have q:Dq K (fun(st:Int) (x:List Bool)=>EO st x) y (0:Int)=some ((Cu y).length:Int):=by
     rw[LQ _ y (by omega) (by omega) hK];show(run (fun(st:Int) (_:List Bool)=>(i64 (st+1)).bind fun _=>some (true,st+1)) (Cu y) 0).bind _=_;rw[MK _ 0 (by omega) (by omega)];simp
    have a:=Sv y (by omega) m hK y.Ac.length K 0 ((Cu y).length:Int) (by omega) (by omega) (by omega) (by omega);rw[Int.natCast_zero,List.drop_zero] at a;rw[bd q,bd a];have f:=Mh (c:=1001) (by omega) ((Cu y).length:Int) (by omega) fun l k=>(m l k).1;unfold G6
    by_cases e:1000<((Cu y).length:Int)*DZ y.Ac
    ·rw[ct (dt (f.2 e)),if_pos e]
    ·rw[cf (df fun h=>e (f.1 h)),if_neg e]
def Ep:List AP→List (List Int)
 |[]=>[[]]
 |l::r=>(List.range (CJ l).toNat).flatMap fun(n:Nat)=>(Ep r).map fun c=>(l.Ax+(n:Int))::c
def Cl(y:Ao):List AZ:=(Cu y).flatMap fun w=>(Ep y.Ac).map fun c=>⟨c,w⟩
section
variable{σ:Type}{K:Nat}(cb:σ→AZ→Option (Bool×σ))(y:Ao)(w:List Bool)
def Tr (k i:Nat):Prop:=∀(c:List Int) (st:σ),c.length=y.Ac.length→
 (BN K cb k (i:Int) c w y st).map (fun z=>(z.1,z.2.2))=run (fun s d=>cb s ⟨c.take i++d,w⟩) (Ep (y.Ac.drop i)) st∧
 ∀z,BN K cb k (i:Int) c w y st=some z→z.2.1.length=y.Ac.length∧z.2.1.take i=c.take i
def Ri{α β:Type}:(Bool×α×β)⊕(α×β)→Bool×β
 |.inl x=>(false,x.2.2)
 |.inr x=>(true,x.2)
def Ua{α β:Type}:(Bool×α×β)⊕(α×β)→α
 |.inl x=>x.2.1
 |.inr x=>x.1
theorem Rj(k i:Nat)(hi:i<y.Ac.length)(aL:y.Ac.length≤4)(aD:∀l∈y.Ac,sized l∧0≤l.Ax∧l.AI≤9)(ih:Tr (K:=K) cb y w k (i+1)):
  ∀(n m j:Nat) (c:List Int) (st:σ),(CJ y.Ac[i]).toNat=j+n→n<m→c.length=y.Ac.length→
  (B2 (BN K cb k) (i:Int) w y (CJ y.Ac[i]) m (j:Int) c st).map Ri=run (fun s d=>cb s ⟨c.take i++d,w⟩) ((List.range' j n).flatMap fun(q:Nat)=>(Ep (y.Ac.drop (i+1))).map fun d=>(y.Ac[i].Ax+(q:Int))::d) st∧
  ∀z,B2 (BN K cb k) (i:Int) w y (CJ y.Ac[i]) m (j:Int) c st=some z→(Ua z).length=y.Ac.length∧(Ua z).take i=c.take i∧(∀x,z=.inl x→x.1=false):=by
 obtain⟨⟨s1,s2⟩,aM,aN⟩:=aD y.Ac[i] (List.getElem_mem hi);have aJ:1≤CJ y.Ac[i]∧CJ y.Ac[i]≤10:=⟨s1,s2⟩;intro n
 induction n with
 |zero=>
  intro m j c st h hm o;cases m with
  |zero=>omega
  |succ m=>
   rw[B2.eq_2,cf (df (by omega))];exact⟨rfl,fun z b=>by cases b;exact⟨o,rfl,fun x p=>by cases p⟩⟩
 |succ n u=>
  intro m j c st h hm o;cases m with
  |zero=>omega
  |succ m=>
   have f:i<c.length:=by omega
   have aK:y.Ac[i].Ax≤9:=by unfold CJ at s1;omega
   rw[B2.eq_2,ct (dt (by omega)),CZ hi,BI (by omega) (by omega),CZ f,BI (by omega) (by omega),DM i,Int.toNat_natCast];have v:(c.set i (y.Ac[i].Ax+(j:Int))).length=y.Ac.length:=by rw[List.length_set];exact o
   have g:(c.set i (y.Ac[i].Ax+(j:Int))).take (i+1)=c.take i++[y.Ac[i].Ax+(j:Int)]:=by
    rw[List.take_add_one,List.getElem?_set_self f,List.take_set_of_le (Nat.le_refl _)];rfl
   obtain⟨t,aE⟩:=ih _ st v;rw[g] at t;rw[List.range'_succ,List.flatMap_cons,Hv,run_map];have aF:run (fun s d=>cb s ⟨c.take i++[y.Ac[i].Ax+(j:Int)]++d,w⟩) (Ep (y.Ac.drop (i+1))) st=run (fun s d=>cb s ⟨c.take i++(y.Ac[i].Ax+(j:Int))::d,w⟩) (Ep (y.Ac.drop (i+1))) st:=by
    congr 1;funext s d;rw[List.append_assoc];rfl
   rw[aF] at t;rw[←t];cases aG:BN K cb k ((i+1:Nat):Int) (c.set i (y.Ac[i].Ax+(j:Int))) w y st with
   |none=>exact⟨rfl,fun z b=>by cases b⟩
   |some r=>
    obtain⟨aA,aH⟩:=aE r aG;have aB:r.2.1.take i=c.take i:=by
     have:=congrArg (List.take i) aH;rw[List.take_take,Nat.min_eq_left (by omega),g,List.take_append_of_le_length (by rw[List.length_take];omega),List.take_take,Nat.min_self] at this;exact this
    obtain⟨aI,rc,e⟩:=r;cases aI with
    |false=>
     refine⟨rfl,fun z b=>?_⟩;have aC:some (Sum.inl (false,rc,e))=some z:=b;cases aC;exact⟨aA,aB,fun x p=>by cases p;rfl⟩
    |true=>
     have key:(Option.bind (some (true,rc,e)) fun a=>cond (!a.1) (some (Sum.inl (false,a.2.1,a.2.2))) ((i64 ((j:Int)+1)).bind fun _=>B2 (BN K cb k) (i:Int) w y (CJ y.Ac[i]) m ((j:Int)+1) a.2.1 a.2.2))=B2 (BN K cb k) (i:Int) w y (CJ y.Ac[i]) m ((j+1:Nat):Int) rc e:=by
      rw[Option.bind_some,nt,BI (by omega) (by omega),DM j]
     have:=u m (j+1) rc e (by omega) (by omega) aA;rw[aB] at this;rw[key];exact this
theorem PE(t:y.Ac.length≤4)(g:∀l∈y.Ac,sized l∧0≤l.Ax∧l.AI≤9)(hK:2000≤K):∀(n k i:Nat),y.Ac.length=i+n→n<k→Tr (K:=K) cb y w k i:=by
 intro n
 induction n with
 |zero=>
  intro k i h u c st f;cases k with
  |zero=>omega
  |succ k=>
   rw[BN.eq_2,ct (by rw[f,h];simp),List.drop_eq_nil_of_le (by omega)];have j:c.take i=c:=List.take_of_length_le (by omega);rw[j];simp only[Ep,run,List.append_nil];cases cb st ⟨c,w⟩ with
   |none=>exact⟨rfl,fun z a=>by cases a⟩
   |some r=>
    obtain⟨b,s⟩:=r;refine⟨by cases b<;>rfl,fun z a=>?_⟩;have e:some (b,c,s)=some z:=a;cases e;exact⟨f,j⟩
 |succ n ih=>
  intro k i h u c st f;cases k with
  |zero=>omega
  |succ k=>
   have hi:i<y.Ac.length:=by omega
   obtain⟨⟨s1,s2⟩,v,aA⟩:=g y.Ac[i] (List.getElem_mem hi);rw[BN.eq_2,cf (by rw[f];simp;omega),CZ hi,bd (Qj K _ v (by unfold CJ at s1;omega) aA)];obtain⟨m,o⟩:=Rj cb y w k i hi t g (ih k (i+1) (by omega) (by omega)) (CJ y.Ac[i]).toNat K 0 c st (by omega) (by omega) f;rw[Int.natCast_zero] at m o;rw[List.drop_eq_getElem_cons hi,Ep,List.range_eq_range',←m];cases aB:B2 (BN K cb k) (i:Int) w y (CJ y.Ac[i]) K 0 c st with
   |none=>exact⟨rfl,fun z a=>by cases a⟩
   |some r=>
    obtain⟨p,q,aC⟩:=o r aB;cases r with
    |inl x=>
     obtain⟨b,d,s⟩:=x;obtain rfl:=aC _ rfl;refine⟨rfl,fun z a=>?_⟩;have e:some (false,d,s)=some z:=a;cases e;exact⟨p,q⟩
    |inr x=>
     obtain⟨d,s⟩:=x;refine⟨rfl,fun z a=>?_⟩;have e:some (true,d,s)=some z:=a;cases e;exact⟨p,q⟩
end
theorem MM{σ:Type}{K:Nat}(cb:σ→AZ→Option (Bool×σ))(y:Ao)(e:y.Ac.length≤4)(f:∀l∈y.Ac,sized l∧0≤l.Ax∧l.AI≤9)(hK:2000≤K):∀(ws:List (List Bool)) (c:List Int) (st:σ),c.length=y.Ac.length→
  (run (fun(st:(List Int)×σ×Bool) (x:(List Bool))=>cond st.2.2 none (Dh cb K y st.1 st.2.1 x)) ws (c,st,false)).bind (fun a=>cond (a.2.2.2) (some (a.2.2.1)) (some (a.2.2.1)))=
  (run cb (ws.flatMap fun w=>(Ep y.Ac).map fun c=>(⟨c,w⟩:AZ)) st).bind fun r=>some r.2
 |[],c,st,_=>rfl
 |w::ws,c,st,i=>by
  obtain⟨g,h⟩:=PE cb y w e f hK y.Ac.length K 0 (by omega) (by omega) c st i;rw[Int.natCast_zero,List.drop_zero,List.take_zero] at g;rw[Int.natCast_zero] at h;rw[List.flatMap_cons,Hv,run_map];have j:run (fun s d=>cb s ⟨[]++d,w⟩) (Ep y.Ac) st=run (fun s d=>cb s (⟨d,w⟩:AZ)) (Ep y.Ac) st:=rfl;rw[←j,←g,run];show(Option.bind (Dh cb K y c st w) _:Option _).bind _=_;unfold Dh;cases k:BN K cb K 0 c w y st with
  |none=>rfl
  |some r=>
   obtain⟨m,n⟩:=h r k;obtain⟨b,d,s⟩:=r;cases b with
   |false=>rfl
   |true=>
    show(run _ ws (d,s,false)).bind _=(run cb _ s).bind _;exact MM cb y e f hK ws d s m
theorem Rk{σ:Type}{K:Nat}(cb:σ→AZ→Option (Bool×σ))(y:Ao)(h0:0≤y.Ak)(h9:y.Ak≤9)(a:y.Ac.length≤4)(b:∀l∈y.Ac,sized l∧0≤l.Ax∧l.AI≤9)(hK:2000≤K)(st:σ):
  EP K cb y st=(run cb (Cl y) st).bind fun r=>some r.2:=by
 unfold EP;rw[OL (by omega) (by omega) (by omega),LQ _ y h0 h9 hK,Option.bind_assoc];exact MM cb y a b hK (Cu y) (List.replicate (y.Ac.length:Int).toNat (0:Int)) st (by rw[List.length_replicate];omega)
def H6:AP:=⟨0,0,0,0,0⟩
def Ej(y:Ao)(i:Int):AP:=y.Ac.getD i.toNat H6
def D0(c:List Int)(i:Int):Int:=c.getD i.toNat 0
def GS (l:AP) (d0:Int):List Bool→Int→Int→Int→Aq
 |[],_,_,_=>⟨d0,-1,false⟩
 |true::ws,d,EX,run=>cond (EX==l.AR) ⟨d0,d,EX==l.AR⟩ (cond (run+1==l.B5) ⟨d0,d,EX==l.AR⟩ (GS l d0 ws (d+1) EX (run+1)))
 |false::ws,d,EX,run=>cond (EX+1==l.AR) ⟨d0,d,EX+1==l.AR⟩ (cond ((0:Int)==l.B5) ⟨d0,d,EX+1==l.AR⟩ (GS l d0 ws (d+1) (EX+1) 0))
def DU(y:Ao)(w:List Bool)(l:AP)(d:Int):Aq:=if y.Ak<d then ⟨-1,-1,false⟩ else GS l d (w.drop d.toNat) d 0 0
def wk(y:Ao)(w:List Bool)(m:List (List Int×Aq)):Cr:=⟨y.Ak,y.Ag,y.An,y.Au,y.Ac,w,m⟩
theorem Vj(y:Ao)(w:List Bool)(mm:List (List Int×Aq))(p:Ht)(l:AP)(h9:y.Ak≤9)(hw:(w.length:Int)=y.Ak+1)(b0 f:Int)(g:Bool):∀(k m d:Nat) (EX r:Int),y.Ak+1=d+k→k<m→0≤EX→EX≤d→0≤r→r≤d→
  (DK (wk y w mm) p l m EX r (d:Int) b0 f g).bind (fun z=>Sum.elim (fun a=>some ((⟨a.1,a.2.1,a.2.2⟩:Aq))) (fun a=>some ((⟨p.day,(-1),false⟩:Aq))) z)=some (GS l p.day (w.drop d) (d:Int) EX r):=by
 intro k
 induction k with
 |zero=>
  intro m d EX r h hm h0 i j n;cases m with
  |zero=>omega
  |succ m=>
   rw[DK.eq_2,cf (df (by show¬(d:Int)≤y.Ak;omega)),List.drop_eq_nil_of_le (by omega)];rfl
 |succ k ih=>
  intro m d EX r h hm h0 i j n;cases m with
  |zero=>omega
  |succ m=>
   have b:d<w.length:=by omega
   have c:d<(wk y w mm).C9.length:=b;rw[DK.eq_2,ct (dt (by show(d:Int)≤y.Ak;omega)),CZ c,List.drop_eq_getElem_cons b];have e:(wk y w mm).C9[d]=w[d]:=rfl;rw[e];cases s:w[d] with
   |true=>
    rw[ct rfl,BI (by omega) (by omega),GS];cases o:(EX==l.AR) with
    |true=>rw[ct rfl,ct rfl];rfl
    |false=>
     rw[cf rfl,cf rfl];cases q:(r+1==l.B5) with
     |true=>rw[ct rfl,ct rfl];rfl
     |false=>
      rw[cf rfl,cf rfl,BI (by omega) (by omega),DM];exact ih m (d+1) EX (r+1) (by omega) (by omega) h0 (by omega) (by omega) (by omega)
   |false=>
    rw[cf rfl,BI (by omega) (by omega),GS];cases o:(EX+1==l.AR) with
    |true=>rw[ct rfl,ct rfl];rfl
    |false=>
     rw[cf rfl,cf rfl];cases q:((0:Int)==l.B5) with
     |true=>rw[ct rfl,ct rfl];rfl
     |false=>
      rw[cf rfl,cf rfl,BI (by omega) (by omega),DM];exact ih m (d+1) (EX+1) 0 (by omega) (by omega) (by omega) (by omega) (by omega) (by omega)
theorem Vk{K:Nat}(y:Ao)(w:List Bool)(mm:List (List Int×Aq))(i d:Int)(h9:y.Ak≤9)(hw:(w.length:Int)=y.Ak+1)(a:0≤i)(hi:i<(y.Ac.length:Int))(c:0≤d)(hK:2000≤K):
  Fl K (wk y w mm) ⟨i,d⟩=some (DU y w (Ej y i) d):=by
 unfold Fl DU;show cond (decide (y.Ak<d)) _ ((idx y.Ac i).bind _)=_
 by_cases h:y.Ak<d
 ·rw[ct (dt h),if_pos h]
 rw[cf (df h),if_neg h];obtain⟨i,rfl⟩:=Int.eq_ofNat_of_zero_le a;obtain⟨d,rfl⟩:=Int.eq_ofNat_of_zero_le c;have b:i<y.Ac.length:=by omega
 rw[CZ b];have e:y.Ac[i]=Ej y (i:Int):=by
  show y.Ac[i]=y.Ac.getD ((i:Int)).toNat H6;rw[Int.toNat_natCast,List.getD_eq_getElem?_getD,List.getElem?_eq_getElem (by omega)];rfl
 rw[e,Int.toNat_natCast];exact Vj y w mm ⟨(i:Int),(d:Int)⟩ _ h9 hw 0 0 false (y.Ak+1-d).toNat K d 0 0 (by omega) (by omega) (by omega) (by omega) (by omega) (by omega)
def Gm (y:Ao) (w:List Bool) (m:List (List Int×Aq)):Prop:=∀(i d:Int) (s:Aq),BE m [i,d]=some s→s=DU y w (Ej y i) d
theorem ND(y:Ao)(w:List Bool):Gm y w []:=fun i d s h=>by cases h
theorem Ub{K:Nat}(y:Ao)(w:List Bool)(mm:List (List Int×Aq))(i d:Int)(h9:y.Ak≤9)(hw:(w.length:Int)=y.Ak+1)(e:0≤i)(hi:i<(y.Ac.length:Int))(j:0≤d)(hK:2000≤K)(hm:Gm y w mm):
  ∃c,Fa K (wk y w mm) ⟨i,d⟩=some (DU y w (Ej y i) d,c)∧Gm y w c:=by
 unfold Fa;show∃c,cond (!(BE mm [i,d]).isSome) ((Fl K (wk y w mm) ⟨i,d⟩).bind _) _=_∧_;cases f:BE mm [i,d] with
 |none=>
  rw[bd (Vk y w mm i d h9 hw e hi j hK)];refine⟨_,rfl,fun i2 d2 s h=>?_⟩;have a:BE (Ho mm [i,d] (DU y w (Ej y i) d)) [i2,d2]=some s:=h;rw[Ow] at a;split at a
  ·rename_i he
   have b:=List.cons.inj he;have g:=List.cons.inj b.2;rw[b.1,g.1];exact(Option.some.inj a).symm
  ·exact hm i2 d2 s a
 |some s=>
  refine⟨mm,?_,hm⟩;show some ((BE mm [i,d]).getD ⟨0,0,false⟩,mm)=_;rw[f,hm i d s f];rfl
def Gb (y:Ao) (w:List Bool) (c:List Int):List Int→Int→List Aq→List Aq
 |[],_,out=>out
 |i::r,free,out=>
  let s:=DU y w (Ej y i) (max free (D0 c i))
  Gb y w c r (cond (s.Bm==-1) (y.Ak+1) (s.Bm+1)) (out.set i.toNat s)
def Gc(y:Ao)(w:List Bool)(c:List Int):List (List Int)→List Aq→List Aq
 |[],out=>out
 |l::r,out=>Gc y w c r (Gb y w c l 0 out)
def JJ:Aq:=⟨0,0,false⟩
def Gd(y:Ao)(w:List Bool)(order:List (List Int))(c:List Int):List Aq:=Gc y w c order (List.replicate y.Ac.length JJ)
theorem Hy(y:Ao)(w:List Bool)(c:List Int):∀(l:List Int) (free:Int) (out:List Aq),(Gb y w c l free out).length=out.length
 |[],_,_=>rfl
 |i::r,free,out=>by rw[Gb,Hy y w c r];simp
theorem Kr(y:Ao)(w:List Bool)(c:List Int):∀(l:List (List Int)) (out:List Aq),(Gc y w c l out).length=out.length
 |[],_=>rfl
 |i::r,out=>by rw[Gc,Kr y w c r,Hy]
theorem Lh(l:AP)(d0:Int):∀(ws:List Bool) (d EX r:Int),0≤d→(GS l d0 ws d EX r).Bm=-1∨(d≤(GS l d0 ws d EX r).Bm∧(GS l d0 ws d EX r).Bm<d+ws.length)
 |[],d,EX,r,_=>.inl rfl
 |true::ws,d,EX,r,h=>by
  rw[GS];cases (EX==l.AR) with
  |true=>right;simp;omega
  |false=>
   cases (r+1==l.B5) with
   |true=>right;simp;omega
   |false=>
    rcases Lh l d0 ws (d+1) EX (r+1) (by omega) with a|a
    ·exact .inl a
    ·right;simp only[List.length_cons,cond_false];omega
 |false::ws,d,EX,r,h=>by
  rw[GS];cases (EX+1==l.AR) with
  |true=>right;simp;omega
  |false=>
   cases ((0:Int)==l.B5) with
   |true=>right;simp;omega
   |false=>
    rcases Lh l d0 ws (d+1) (EX+1) 0 (by omega) with a|a
    ·exact .inl a
    ·right;simp only[List.length_cons,cond_false];omega
theorem Qk(y:Ao)(w:List Bool)(l:AP)(d:Int)(b:0≤d)(hw:(w.length:Int)=y.Ak+1):(DU y w l d).Bm=-1∨(d≤(DU y w l d).Bm∧(DU y w l d).Bm≤y.Ak):=by
 unfold DU
 by_cases h:y.Ak<d
 ·rw[if_pos h];exact .inl rfl
 ·rw[if_neg h];rcases Lh l d (w.drop d.toNat) d 0 0 b with a|a
  ·exact .inl a
  ·right;rw[List.length_drop] at a;omega
theorem Sw{K:Nat}(y:Ao)(w:List Bool)(a:List (List Int×Aq))(c l:List Int)(h0:0≤y.Ak)(h9:y.Ak≤9)(hw:(w.length:Int)=y.Ak+1)(hK:2000≤K)(x:∀i∈l,0≤i∧i<(y.Ac.length:Int))(aE:c.length=y.Ac.length)(aC:l.length≤1000):
  ∀(k m j:Nat) (free:Int) (out:List Aq) (mm:List (List Int×Aq)),l.length=j+k→k<m→0≤free→out.length=y.Ac.length→Gm y w mm→
  ∃b,Dx K (wk y w a) c l m free (j:Int) out mm=some (Gb y w c (l.drop j) free out,b)∧Gm y w b:=by
 intro k
 induction k with
 |zero=>
  intro m j free out mm h hm z f g;cases m with
  |zero=>omega
  |succ m=>rw[Dx.eq_2,cf (df (by omega)),List.drop_eq_nil_of_le (by omega)];exact⟨mm,rfl,g⟩
 |succ k ih=>
  intro m j free out mm h hm z f g;cases m with
  |zero=>omega
  |succ m=>
   have n:j<l.length:=by omega
   obtain⟨d,p⟩:=x l[j] (List.getElem_mem n);obtain⟨i,hi⟩:=Int.eq_ofNat_of_zero_le d;have e:i<c.length:=by omega
   have q:i<out.length:=by omega
   have r:c[i]=D0 c l[j]:=by
    rw[hi];unfold D0;rw[Int.toNat_natCast,List.getD_eq_getElem?_getD,List.getElem?_eq_getElem e];rfl
   rw[Dx.eq_2,ct (dt (by omega)),CZ n,List.drop_eq_getElem_cons n,Gb];have s:idx c l[j]=some (D0 c l[j]):=by rw[←r];rw[hi];exact idx_eq e
   rw[bd s];obtain⟨b,aA,t⟩:=Ub (K:=K) y w mm l[j] (max free (D0 c l[j])) h9 hw d p (by omega) hK g;have u:Fa K (⟨(wk y w a).BF,(wk y w a).BS,(wk y w a).B8,(wk y w a).B9,(wk y w a).AW,(wk y w a).C9,mm⟩:Cr) (⟨l[j],max free (D0 c l[j])⟩:Ht)=some (DU y w (Ej y l[j]) (max free (D0 c l[j])),b):=aA;have o:idx out l[j]=some out[i]:=by rw[hi];exact idx_eq q
   have aB:=Qk y w (Ej y l[j]) (max free (D0 c l[j])) (by omega) hw;have aD:-1≤(DU y w (Ej y l[j]) (max free (D0 c l[j]))).Bm∧(DU y w (Ej y l[j]) (max free (D0 c l[j]))).Bm≤9:=by omega
   rw[bd u,bd o];show∃v,(i64 ((DU y w (Ej y l[j]) (max free (D0 c l[j]))).Bm+1)).bind _=_∧_;rw[BI (by omega) (by omega)];show∃v,cond ((DU y w (Ej y l[j]) (max free (D0 c l[j]))).Bm==-1) ((i64 (y.Ak+1)).bind _) _=_∧_;cases aF:((DU y w (Ej y l[j]) (max free (D0 c l[j]))).Bm==-1) with
   |true=>
    rw[ct rfl,ct rfl,BI (by omega) (by omega),BI (by omega) (by omega),DM];exact ih m (j+1) (y.Ak+1) _ b (by omega) (by omega) (by omega) (by rw[List.length_set];exact f) t
   |false=>
    rw[cf rfl,cf rfl,BI (by omega) (by omega),DM];exact ih m (j+1) ((DU y w (Ej y l[j]) (max free (D0 c l[j]))).Bm+1) _ b (by omega) (by omega) (by omega) (by rw[List.length_set];exact f) t
theorem Sx{K:Nat}(y:Ao)(w:List Bool)(b:List (List Int×Aq))(c:List Int)(order:List (List Int))(h0:0≤y.Ak)(h9:y.Ak≤9)(hw:(w.length:Int)=y.Ak+1)(hK:2000≤K)(p:∀l∈order,l.length≤1000∧∀i∈l,0≤i∧i<(y.Ac.length:Int))(q:c.length=y.Ac.length)(s:order.length≤1000):
  ∀(k m j:Nat) (out:List Aq) (mm:List (List Int×Aq)),order.length=j+k→k<m→out.length=y.Ac.length→Gm y w mm→
  ∃a,De K (wk y w b) order c m (j:Int) out mm=some (Gc y w c (order.drop j) out,a)∧Gm y w a:=by
 intro k
 induction k with
 |zero=>
  intro m j out mm h hm d e;cases m with
  |zero=>omega
  |succ m=>rw[De.eq_2,cf (df (by omega)),List.drop_eq_nil_of_le (by omega)];exact⟨mm,rfl,e⟩
 |succ k ih=>
  intro m j out mm h hm d e;cases m with
  |zero=>omega
  |succ m=>
   have f:j<order.length:=by omega
   obtain⟨g,n⟩:=p order[j] (List.getElem_mem f);obtain⟨a,o,r⟩:=Sw (K:=K) y w b c order[j] h0 h9 hw hK n q g order[j].length K 0 0 out mm (by omega) (by omega) (by omega) d e;rw[Int.natCast_zero,List.drop_zero] at o;rw[De.eq_2,ct (dt (by omega)),CZ f,List.drop_eq_getElem_cons f,Gc,bd o,BI (by omega) (by omega),DM];exact ih m (j+1) _ a (by omega) (by omega) (by rw[Hy];exact d) r
theorem Ql{K:Nat}(y:Ao)(w:List Bool)(mm:List (List Int×Aq))(c:List Int)(order:List (List Int))(h0:0≤y.Ak)(h9:y.Ak≤9)(k:y.Ac.length≤4)(hw:(w.length:Int)=y.Ak+1)(hK:2000≤K)(e:∀l∈order,l.length≤1000∧∀i∈l,0≤i∧i<(y.Ac.length:Int))(f:c.length=y.Ac.length)(b:order.length≤1000)(g:Gm y w mm):
  ∃a,CY K (wk y w mm) order c=some (Gd y w order c,a)∧Gm y w a:=by
 unfold CY;show∃a,(Ki (y.Ac.length:Int) 24).bind _=_∧_;rw[OL (by omega) (by omega) (by omega)];obtain⟨a,d,h⟩:=Sx (K:=K) y w mm c order h0 h9 hw hK e f b order.length K 0 (List.replicate y.Ac.length JJ) mm (by omega) (by omega) (by rw[List.length_replicate]) g;rw[Int.natCast_zero,List.drop_zero] at d;have j:De K (wk y w mm) order c K (0:Int) (List.replicate ((wk y w mm).AW.length:Int).toNat (⟨0,0,false⟩:Aq)) (wk y w mm).known=some (Gc y w c order (List.replicate y.Ac.length JJ),a):=by
  show De K (wk y w mm) order c K (0:Int) (List.replicate (y.Ac.length:Int).toNat JJ) mm=_;rw[Int.toNat_natCast];exact d
 exact⟨a,bd j,h⟩
def iota(n:Nat):List Int:=(List.range n).map fun(i:Nat)=>(i:Int)
theorem GL(n:Nat):(iota n).length=n:=by simp[iota]
theorem NF(n i:Nat)(h:i<n):(iota n)[i]?=some (i:Int):=by simp[iota,h]
def C0(y:Ao)(o:List (List Int)):Bool:=((o.length:Int)==y.Ag)&&(C8 o.flatten==iota y.Ac.length)
theorem Uc(o:List (List Int))(c:o.flatten.length≤100000):∀(k m i:Nat) (acc:List Int),o.length=i+k→k<m→o.length≤100000→acc++(o.drop i).flatten=o.flatten→
  Dt o m acc (i:Int)=some o.flatten:=by
 intro k
 induction k with
 |zero=>
  intro m i acc h hm b a;cases m with
  |zero=>omega
  |succ m=>
   rw[Dt.eq_2,cf (df (by omega))];rw[List.drop_eq_nil_of_le (by omega)] at a;rw[←a];simp
 |succ k ih=>
  intro m i acc h hm b a;cases m with
  |zero=>omega
  |succ m=>
   have hi:i<o.length:=by omega
   rw[List.drop_eq_getElem_cons hi,List.flatten_cons,←List.append_assoc] at a;have hlen:acc.length+o[i].length≤100000:=by
    have:=congrArg List.length a;rw[List.length_append,List.length_append] at this;omega
   rw[Dt.eq_2,ct (dt (by omega)),CZ hi,FK (by omega),BI (by omega) (by omega),DM];exact ih m (i+1) (acc++o[i]) (by omega) (by omega) b a
theorem Rl(y:Ao)(z:List Int)(l:y.Ac.length≤4):∀(k m i:Nat),y.Ac.length=i+k→k<m→(∀j,j<i→(C8 z).length=y.Ac.length∧(C8 z)[j]?=some (j:Int))→
  Dj y z m (i:Int)=some (cond ((C8 z==iota y.Ac.length)||decide (y.Ac.length=0)) (.inr ()) (.inl false)):=by
 intro k
 induction k with
 |zero=>
  intro m i h hm a;cases m with
  |zero=>omega
  |succ m=>
   rw[Dj.eq_2,cf (df (by omega))];have:((C8 z==iota y.Ac.length)||decide (y.Ac.length=0))=true:=by
    rw[Bool.or_eq_true];rcases Nat.eq_zero_or_pos i with h0|h0
    ·right;exact dt (by omega)
    ·left;rw[beq_iff_eq];have d:=(a 0 h0).1;apply List.ext_getElem?;intro j
     by_cases f:j<y.Ac.length
     ·rw[(a j (by omega)).2,NF _ _ f]
     ·rw[List.getElem?_eq_none (by omega),List.getElem?_eq_none (by rw[GL];omega)]
   rw[this];rfl
 |succ k ih=>
  intro m i h hm a;cases m with
  |zero=>omega
  |succ m=>
   rw[Dj.eq_2,ct (dt (by omega))];have c:decide (y.Ac.length=0)=false:=df (by omega)
   by_cases d:(C8 z).length=y.Ac.length
   ·rw[cf (by rw[d];simp)];have hi:i<(C8 z).length:=by omega
    rw[CZ hi]
    by_cases b:(C8 z)[i]=(i:Int)
    ·rw[b,cf (by simp),BI (by omega) (by omega),DM];refine ih m (i+1) (by omega) (by omega) fun j f=>?_
     by_cases g:j=i
     ·subst g;exact⟨d,by rw[List.getElem?_eq_getElem hi,b]⟩
     ·exact a j (by omega)
    ·rw[ct (by simpa using b)];have:((C8 z==iota y.Ac.length)||decide (y.Ac.length=0))=false:=by
      rw[c,Bool.or_false,beq_eq_false_iff_ne];intro e;have:(C8 z)[i]?=(iota y.Ac.length)[i]?:=by rw[e]
      rw[List.getElem?_eq_getElem hi,NF _ _ (by omega)] at this;exact b (Option.some.inj this)
     rw[this];rfl
   ·rw[ct (by simp;omega)];have:((C8 z==iota y.Ac.length)||decide (y.Ac.length=0))=false:=by
     rw[c,Bool.or_false,beq_eq_false_iff_ne];intro e;have:=congrArg List.length e;rw[GL] at this;omega
    rw[this];rfl
theorem Ks{K:Nat}(y:Ao)(o:List (List Int))(f:y.Ac.length≤4)(hK:2000≤K)(k:o.length≤1000)(m:o.flatten.length≤1000):DY K y o=some (C0 y o):=by
 unfold DY;have c:=Uc o (by omega) o.length K 0 [] (by omega) (by omega) (by omega) (by simp);have d:=Rl y o.flatten f y.Ac.length K 0 (by omega) (by omega) fun j g=>absurd g (by omega);rw[Int.natCast_zero] at c d;rw[bd c,FK (by omega),bd d];unfold C0
 by_cases b:y.Ac.length=0
 ·rw[show((C8 o.flatten==iota y.Ac.length)||decide (y.Ac.length=0))=true by rw[Bool.or_eq_true];exact .inr (dt b)];show cond ((o.length:Int)==y.Ag) (some (((C8 o.flatten).length:Int)==(y.Ac.length:Int))) (some false)=_;have h:(((C8 o.flatten).length:Int)==(y.Ac.length:Int))=(C8 o.flatten==iota y.Ac.length):=by
   rw[b];cases e:C8 o.flatten with
   |nil=>rfl
   |cons a l=>
    have i:(((a::l).length:Int)==((0:Nat):Int))=false:=by simp;omega
    rw[i];rfl
  rw[h];cases ((o.length:Int)==y.Ag)<;>rfl
 ·rw[show decide (y.Ac.length=0)=false from df b,Bool.or_false];cases e:(C8 o.flatten==iota y.Ac.length) with
  |false=>show some false=_;rw[Bool.and_false]
  |true=>
   show cond ((o.length:Int)==y.Ag) (some (((C8 o.flatten).length:Int)==(y.Ac.length:Int))) (some false)=_;rw[eq_of_beq e,GL];cases ((o.length:Int)==y.Ag)<;>simp
theorem D6{y:Ao}{o:List (List Int)}:C0 y o=true↔(o.length:Int)=y.Ag∧o.flatten.Perm (iota y.Ac.length):=by
 unfold C0;rw[Bool.and_eq_true,beq_iff_eq,beq_iff_eq];refine and_congr_right fun _=>⟨fun h=>?_,fun h=>?_⟩
 ·rw[←h];exact(List.mergeSort_perm _ _).symm
 ·have d:(C8 o.flatten).Pairwise (fun a b:Int=>a≤b):=by
   have:=List.pairwise_mergeSort (le:=fun x y:Int=>decide (x≤y)) (fun a b c d e=>by simp at*;omega) (fun a b=>by simp;omega) o.flatten;exact this.imp fun h=>by simpa using h
  have e:(iota y.Ac.length).Pairwise (fun a b:Int=>a≤b):=by
   unfold iota;rw[List.pairwise_map];exact List.pairwise_lt_range.imp fun h=>by omega
  exact List.Perm.eq_of_pairwise (le:=fun a b:Int=>a≤b) (fun a b _ _ h f=>by omega) d e ((List.mergeSort_perm _ _).trans h)
theorem HM{n:Nat}{i:Int}:i∈iota n↔0≤i∧i<n:=by
 unfold iota;rw[List.mem_map];constructor
 ·rintro⟨k,a,rfl⟩;rw[List.mem_range] at a;omega
 ·rintro⟨h0,b⟩;exact⟨i.toNat,by rw[List.mem_range];omega,by omega⟩
theorem Mi{y:Ao}{o:List (List Int)}(h:C0 y o=true):∀l∈o,l.length≤y.Ac.length∧∀i∈l,0≤i∧i<(y.Ac.length:Int):=by
 intro l a;have b:=(D6.1 h).2;constructor
 ·have c:=b.length_eq;rw[GL] at c;have:=(List.sublist_flatten_of_mem a).length_le;omega
 ·intro i hi;exact HM.1 (b.mem_iff.1 (List.mem_flatten.2 ⟨l,a,hi⟩))
def Dd:List AP→List Int→Bool
 |[],[]=>true
 |l::ls,c::cs=>Fp c l.Ax l.AI&&Dd ls cs
 |_,_=>false
def EC(y:Ao)(t:AZ):Bool:=decide ((t.An.length:Int)=y.Ak+1)&&(Hw y t.An&&Dd y.Ac t.Comes)
theorem Hz:∀{ls:List AP} {cs:List Int},Dd ls cs=true→cs.length=ls.length
 |[],[],_=>rfl
 |_::ls,_::cs,h=>by
  rw[Dd,Bool.and_eq_true] at h;rw[List.length_cons,List.length_cons,Hz h.2]
 |[],_::_,h=>by cases h
 |_::_,[],h=>by cases h
theorem Qm(K:Nat)(y:Ao)(t:AZ)(b:y.Ac.length≤4)(c:t.Comes.length=y.Ac.length):∀(k m i:Nat),y.Ac.length=i+k→k<m→
  Di K y t m (i:Int)=some (cond (Dd (y.Ac.drop i) (t.Comes.drop i)) (.inr ()) (.inl false)):=by
 intro k
 induction k with
 |zero=>
  intro m i h hm;cases m with
  |zero=>omega
  |succ m=>rw[Di.eq_2,cf (df (by omega)),List.drop_eq_nil_of_le (by omega),List.drop_eq_nil_of_le (by omega)];rfl
 |succ k ih=>
  intro m i h hm;cases m with
  |zero=>omega
  |succ m=>
   have hi:i<y.Ac.length:=by omega
   have a:i<t.Comes.length:=by omega
   rw[Di.eq_2,ct (dt (by omega)),CZ hi,CZ a,bd (Hb ..),List.drop_eq_getElem_cons hi,List.drop_eq_getElem_cons a,Dd];cases d:Fp t.Comes[i] y.Ac[i].Ax y.Ac[i].AI with
   |false=>rw[nf];rfl
   |true=>rw[nt,BI (by omega) (by omega),DM,Bool.true_and];exact ih m (i+1) (by omega) (by omega)
theorem Qn{K:Nat}(y:Ao)(t:AZ)(h0:0≤y.Ak)(h9:y.Ak≤9)(b:y.Ac.length≤4)(hK:2000≤K):E2 K y t=some (EC y t):=by
 unfold E2 EC
 by_cases a:t.Comes.length=y.Ac.length
 ·rw[cf (by rw[a];simp),BI (by omega) (by omega)]
  by_cases hw:(t.An.length:Int)=y.Ak+1
  ·rw[cf (by rw[hw];simp),bd (MJ y t.An (by omega) (by omega)),dt hw,Bool.true_and];show cond (!(Hw y t.An)) _ _=_;cases Hw y t.An with
   |false=>rw[nf];rfl
   |true=>
    have:=Qm K y t b a y.Ac.length K 0 (by omega) (by omega);rw[Int.natCast_zero,List.drop_zero,List.drop_zero] at this;rw[nt,bd this,Bool.true_and];cases Dd y.Ac t.Comes<;>rfl
  ·rw[ct (by simpa using hw),df hw];rfl
 ·rw[ct (by simp;omega)];cases c:Dd y.Ac t.Comes with
  |false=>rw[Bool.and_false,Bool.and_false]
  |true=>exact absurd (Hz c) a
theorem HA{c:List Int}:∀{ls:List AP},c∈Ep ls↔Dd ls c=true
 |[]=>by
  cases c with
  |nil=>simp[Ep,Dd]
  |cons a l=>simp[Ep,Dd]
 |l::r=>by
  rw[Ep,List.mem_flatMap];constructor
  ·rintro⟨n,b,e⟩;obtain⟨d,f,rfl⟩:=List.mem_map.1 e;rw[Dd,Bool.and_eq_true];rw[List.mem_range] at b;unfold CJ at b;exact⟨Fq.2 (by omega),HA.1 f⟩
  ·intro h;cases c with
   |nil=>simp[Dd] at h
   |cons a d=>
    rw[Dd,Bool.and_eq_true] at h;have g:=Fq.1 h.1;refine⟨(a-l.Ax).toNat,?_,List.mem_map.2 ⟨d,HA.2 h.2,?_⟩⟩
    ·rw[List.mem_range];unfold CJ;omega
    ·congr 1;omega
def bitsOf:List Bool→Nat
 |[]=>0
 |b::l=>(cond b 1 0)+2*bitsOf l
theorem K3:∀(l:List Bool) (d:Nat),(bitsOf l).testBit d=l.getD d false
 |[],d=>by simp[bitsOf]
 |b::l,0=>by rw[bitsOf,Nat.testBit_zero];cases b<;>simp<;>omega
 |b::l,d+1=>by
  rw[Nat.testBit_succ,bitsOf];have:((cond b 1 0)+2*bitsOf l)/2=bitsOf l:=by cases b<;>simp<;>omega
  rw[this,K3 l d];rfl
theorem MN:∀(l:List Bool),bitsOf l<2^l.length
 |[]=>by simp[bitsOf]
 |b::l=>by
  have:=MN l;rw[bitsOf,List.length_cons,Nat.pow_succ];cases b<;>simp<;>omega
theorem Qo(l:List Bool):wl l.length (bitsOf l)=l:=by
 apply List.ext_getElem?;intro i;unfold wl;rw[List.getElem?_map]
 by_cases h:i<l.length
 ·rw[List.getElem?_range h,List.getElem?_eq_getElem h];show some ((bitsOf l).testBit i)=_;rw[K3,List.getD_eq_getElem?_getD,List.getElem?_eq_getElem h];rfl
 ·rw[List.getElem?_eq_none (by simp;omega),List.getElem?_eq_none (by omega)];rfl
theorem H7{y:Ao}{w:List Bool}:w∈Cu y↔w.length=days y∧Hw y w=true:=by
 unfold Cu;rw[List.mem_filter,List.mem_map];constructor
 ·rintro⟨⟨b,_,rfl⟩,h⟩;exact⟨FD _ _,h⟩
 ·rintro⟨a,c⟩;exact⟨⟨bitsOf w,by rw[List.mem_range,←a];exact MN w,by rw[←a];exact Qo w⟩,c⟩
theorem HW{y:Ao}(h0:0≤y.Ak){t:AZ}:t∈Cl y↔EC y t=true:=by
 unfold Cl EC;rw[List.mem_flatMap,Bool.and_eq_true,Bool.and_eq_true,decide_eq_true_eq];constructor
 ·rintro⟨w,hw,d⟩;obtain⟨c,e,rfl⟩:=List.mem_map.1 d;obtain⟨b,a⟩:=H7.1 hw;unfold days at b;exact⟨by show(w.length:Int)=_;omega,a,HA.1 e⟩
 ·rintro⟨b,a,f⟩;exact⟨t.An,H7.2 ⟨by unfold days;omega,a⟩,List.mem_map.2 ⟨t.Comes,HA.2 f,rfl⟩⟩
theorem Vl(a b:List Bool)(j:a.length≤1000)(g:a.length=b.length):∀(k m i:Nat),a.length=i+k→k<m→Ds a b m (i:Int)=some (cond (a.drop i==b.drop i) (.inr ()) (.inl false)):=by
 intro k
 induction k with
 |zero=>
  intro m i h hm;cases m with
  |zero=>omega
  |succ m=>rw[Ds.eq_2,cf (df (by omega)),List.drop_eq_nil_of_le (by omega),List.drop_eq_nil_of_le (by omega)];rfl
 |succ k ih=>
  intro m i h hm;cases m with
  |zero=>omega
  |succ m=>
   have c:i<a.length:=by omega
   have d:i<b.length:=by omega
   rw[Ds.eq_2,ct (dt (by omega)),CZ c,CZ d,List.drop_eq_getElem_cons c,List.drop_eq_getElem_cons d];cases f:(a[i] !=b[i]) with
   |true=>
    rw[ct rfl];have:(a[i]::a.drop (i+1)==b[i]::b.drop (i+1))=false:=by
     rw[List.cons_beq_cons];have:(a[i]==b[i])=false:=by simpa[bne] using f
     rw[this,Bool.false_and]
    rw[this];rfl
   |false=>
    have e:a[i]=b[i]:=by simpa[bne] using f
    rw[cf rfl,BI (by omega) (by omega),DM,ih m (i+1) (by omega) (by omega),List.cons_beq_cons,e,beq_self_eq_true,Bool.true_and]
theorem Vm{K:Nat}(a b:List Bool)(c:a.length≤1000)(hK:2000≤K):En K a b=some (a==b):=by
 unfold En
 by_cases h:a.length=b.length
 ·have:=Vl a b c h a.length K 0 (by omega) (by omega);rw[Int.natCast_zero,List.drop_zero,List.drop_zero] at this;rw[cf (by rw[h];simp),bd this];cases (a==b)<;>rfl
 ·rw[ct (by simp;omega)];have:(a==b)=false:=by
   rw[beq_eq_false_iff_ne];intro e;exact h (by rw[e])
  rw[this]
structure Fw(y:Ao):Prop where
 h0:0≤y.Ak
 h9:y.Ak≤9
 r1:1≤y.Ag
 r2:y.Ag≤2
 n4:y.Ac.length≤4
 w0:0≤y.An
 w1:y.An≤y.Ak+1
 u0:0≤y.Au
 u1:y.Au≤y.Ak+1
 Rm:∀l∈y.Ac,FA y l=true
 many:G6 y≤1000
theorem EH{y:Ao}(h:check y=0):Fw y:=by
 unfold check at h;split at h
 ·cases h
 ·rename_i d
  split at h
  ·cases h
  ·rename_i b
   split at h
   ·cases h
   ·rename_i f
    rw[not_or,not_or] at d;rw[not_or,not_or,not_or,not_or] at b;have hw:Fp y.An 0 (y.Ak+1)=true:=by cases a:Fp y.An 0 (y.Ak+1) with|true=>rfl|false=>exact absurd a b.2.2.1
    have c:Fp y.Au 0 (y.Ak+1)=true:=by cases a:Fp y.Au 0 (y.Ak+1) with|true=>rfl|false=>exact absurd a b.2.2.2.1
    have e:y.Ac.all (FA y)=true:=by cases a:y.Ac.all (FA y) with|true=>rfl|false=>exact absurd a b.2.2.2.2
    rw[Fq] at hw c;exact⟨by omega,by omega,by omega,by omega,by omega,hw.1,hw.2,c.1,c.2,List.all_eq_true.1 e,by omega⟩
theorem Fw.sz{y:Ao}(h:Fw y):∀l∈y.Ac,sized l∧0≤l.Ax∧l.AI≤9:=fun l b=>by
 have a:=h.Rm l b;have:=IW.1 a;have:=h.h9;exact⟨Lg h.h9 a,by omega,by omega⟩
def Vn(y:Ao):Option Cr→Prop
 |none=>True
 |some x=>∃w m,x=wk y w m∧(w.length:Int)=y.Ak+1∧Gm y w m
theorem Qp{σ:Type}{K:Nat}(cb:σ→AZ×List Aq→Option (Bool×σ))(y:Ao)(f:Fw y)(o:List (List Int))(v:C0 y o=true)(hK:2000≤K):∀(d:List AZ) (h:Option Cr) (s:σ),(∀t∈d,EC y t=true)→Vn y h→
  (run (fun(st:(Option Cr)×σ×Bool) (x:AZ)=>cond st.2.2 none (Dz cb K y o st.1 st.2.1 x)) d (h,s,false)).bind (fun g=>cond g.2.2.2 (some g.2.2.1) (some g.2.2.1))=(run (fun s t=>cb s (t,Gd y t.An o t.Comes)) d s).bind fun r=>some r.2
 |[],h,s,_,_=>rfl
 |t::d,h,s,aA,aH=>by
  have j:=aA t (List.mem_cons_self ..);have aB:∀x∈d,EC y x=true:=fun x aI=>aA x (List.mem_cons_of_mem _ aI);unfold EC at j;rw[Bool.and_eq_true,Bool.and_eq_true,decide_eq_true_eq] at j;obtain⟨hw,_,aJ⟩:=j;have aC:=Hz aJ;have q:=Mi v;have aD:o.length≤1000:=by have:=(D6.1 v).1;have:=f.r2;omega
  have z:∀l∈o,l.length≤1000∧∀i∈l,0≤i∧i<(y.Ac.length:Int):=fun l aE=>⟨by have:=(q l aE).1;have:=f.n4;omega,(q l aE).2⟩;rw[run,run];show(Option.bind (Dz cb K y o h s t) _:Option _).bind _=_
  
  have key:∀(m:List (List Int×Aq)),Gm y t.An m→∃c,Gm y t.An c∧CY K (wk y t.An m) o t.Comes=some (Gd y t.An o t.Comes,c):=fun m hm=>by
   obtain⟨c,aK,aL⟩:=Ql (K:=K) y t.An m t.Comes o f.h0 f.h9 f.n4 hw hK z aC aD hm;exact⟨c,aL,aK⟩
  have fin:∀(c:List (List Int×Aq)),Gm y t.An c→
    (Option.bind ((cb s (t,Gd y t.An o t.Comes)).bind fun a=>cond (!a.1) (some (false,(some (wk y t.An c)),a.2,true)) (some (true,(some (wk y t.An c)),a.2,false))) fun r=>cond r.1 (run (fun(st:(Option Cr)×σ×Bool) (x:AZ)=>cond st.2.2 none (Dz cb K y o st.1 st.2.1 x)) d r.2) (some (false,r.2))).bind (fun g=>cond g.2.2.2 (some g.2.2.1) (some g.2.2.1))=
    (Option.bind (cb s (t,Gd y t.An o t.Comes)) fun r=>cond r.1 (run (fun s t=>cb s (t,Gd y t.An o t.Comes)) d r.2) (some (false,r.2))).bind fun r=>some r.2:=fun c k=>by
   cases cb s (t,Gd y t.An o t.Comes) with
   |none=>rfl
   |some r=>
    obtain⟨b,s2⟩:=r;cases b with
    |false=>rfl
    |true=>exact Qp cb y f o v hK d (some (wk y t.An c)) s2 aB ⟨t.An,c,rfl,hw,k⟩
  unfold Dz;obtain⟨n,u,aM⟩:=key [] (ND _ _);have aP:=f.h9;have e:(Ff (((0+t.An.length:Nat):Int)≤140737488355328/1)).bind (fun _=>(CY K (⟨y.Ak,y.Ag,y.An,y.Au,y.Ac,t.An,[]⟩:Cr) o t.Comes).bind fun p=>(cb s (t,p.1)).bind fun a=>cond (!a.1) (some (false,(some (⟨y.Ak,y.Ag,y.An,y.Au,y.Ac,t.An,p.2⟩:Cr)),a.2,true)) (some (true,(some (⟨y.Ak,y.Ag,y.An,y.Au,y.Ac,t.An,p.2⟩:Cr)),a.2,false)))=
    (cb s (t,Gd y t.An o t.Comes)).bind fun a=>cond (!a.1) (some (false,(some (wk y t.An n)),a.2,true)) (some (true,(some (wk y t.An n)),a.2,false)):=by
   have aF:CY K (⟨y.Ak,y.Ag,y.An,y.Au,y.Ac,t.An,[]⟩:Cr) o t.Comes=some (Gd y t.An o t.Comes,n):=aM;rw[FK (by omega),bd aF];rfl
  cases h with
  |none=>
   show(Option.bind ((Ff _).bind _) _:Option _).bind _=_;rw[e];exact fin n u
  |some x=>
   obtain⟨w,m,rfl,aQ,aG⟩:=aH;show(Option.bind ((En K w t.An).bind _) _:Option _).bind _=_;rw[bd (Vm w t.An (by omega) hK)];cases aN:(w==t.An) with
   |false=>
    rw[nf,e];exact fin n u
   |true=>
    obtain rfl:=eq_of_beq aN;obtain⟨c,k,aO⟩:=key m aG;rw[nt,bd aO];exact fin c k
theorem Qq{σ:Type}{K:Nat}(cb:σ→AZ×List Aq→Option (Bool×σ))(y:Ao)(a:Fw y)(o:List (List Int))(b:C0 y o=true)(hK:2000≤K)(s:σ):
  Fb K cb y o s=(run (fun s t=>cb s (t,Gd y t.An o t.Comes)) (Cl y) s).bind fun r=>some r.2:=by
 unfold Fb;rw[Rk _ y a.h0 a.h9 a.n4 a.sz hK,Option.bind_assoc];exact Qp cb y a o b hK (Cl y) none s (fun t c=>(HW a.h0).1 c) trivial
def Gn(l:AP)(s:Aq):Bool:=s.AR&&decide (s.Bm≤l.Cj)
theorem Mj(K:Nat)(l:AP)(s:Aq):Dc K l s=some (Gn l s):=by unfold Dc Gn;cases s.AR<;>rfl
theorem OO(K:Nat)(l:AP)(s:Aq):D4 K l s=some (!Gn l s):=by unfold D4;rw[bd (Mj ..)]
def FL (p:AP→Aq→Bool):List AP→List Aq→Nat
 |l::ls,s::ss=>(cond (p l s) 1 0)+FL p ls ss
 |_,_=>0
def Dv(l:AP)(s:Aq):Bool:= !Gn l s
def Dm(y:Ao)(ss:List Aq):Nat:=FL Dv y.Ac ss
theorem KM(p:AP→Aq→Bool):∀(ls:List AP) (ss:List Aq),FL p ls ss≤ls.length
 |l::ls,s::ss=>by
  have:=KM p ls ss;rw[FL,List.length_cons];cases p l s<;>simp<;>omega
 |[],_=>by simp[FL]
 |_::_,[]=>by simp[FL]
theorem Ud{K:Nat}(y:Ao)(ss:List Aq)(d:y.Ac.length≤4)(e:ss.length=y.Ac.length):∀(k m i:Nat) (a:Int),ss.length=i+k→k<m→0≤a→a≤i→
  Dy K y ss m a (i:Int)=some (a+(FL Dv (y.Ac.drop i) (ss.drop i):Nat)):=by
 intro k
 induction k with
 |zero=>
  intro m i a h hm h0 c;cases m with
  |zero=>omega
  |succ m=>
   rw[Dy.eq_2,cf (df (by omega)),List.drop_eq_nil_of_le («as»:=y.Ac) (by omega),FL]
   ·simp
   ·intro _ _ _ _ h;cases h
 |succ k ih=>
  intro m i a h hm h0 c;cases m with
  |zero=>omega
  |succ m=>
   have hi:i<ss.length:=by omega
   have b:i<y.Ac.length:=by omega
   rw[Dy.eq_2,ct (dt (by omega)),CZ hi,CZ b,bd (OO ..),List.drop_eq_getElem_cons hi,List.drop_eq_getElem_cons b,FL];show cond (Dv y.Ac[i] ss[i]) _ _=_;cases f:Dv y.Ac[i] ss[i] with
   |true=>
    rw[ct rfl,BI (by omega) (by omega),BI (by omega) (by omega),DM,ih m (i+1) (a+1) (by omega) (by omega) (by omega) (by omega)]
    congr 1
    show a+1+_=a+((1+FL Dv _ _:Nat):Int);omega
   |false=>
    rw[cf rfl,BI (by omega) (by omega),DM,ih m (i+1) a (by omega) (by omega) (by omega) (by omega)]
    congr 1
    show a+_=a+((0+FL Dv _ _:Nat):Int);omega
theorem Qr{K:Nat}(y:Ao)(ss:List Aq)(a:y.Ac.length≤4)(b:ss.length=y.Ac.length)(hK:2000≤K):EA K y ss=some (Dm y ss:Int):=by
 unfold EA;have:=Ud (K:=K) y ss a b ss.length K 0 0 (by omega) (by omega) (by omega) (by omega);rw[Int.natCast_zero,List.drop_zero,List.drop_zero] at this;rw[bd this];simp[Dm]
theorem GU(y:Ao)(w:List Bool)(o:List (List Int))(c:List Int):(Gd y w o c).length=y.Ac.length:=by unfold Gd;rw[Kr,List.length_replicate]
def BY (y:Ao) (o:List (List Int)) (t:AZ):List Aq:=Gd y t.An o t.Comes
theorem Qs{K:Nat}(y:Ao)(o:List (List Int))(t:AZ)(hK:2000≤K)(d:o.length≤1000)(g:o.flatten.length≤1000):
  F6 K y o t=some (if check y≠0 then ([],check y) else if C0 y o=false∨EC y t=false then ([],2) else (BY y o t,0)):=by
 unfold F6;rw[bd (Ip hK y)]
 by_cases h:check y=0
 ·rw[h,cf (by decide),if_neg (by simp)];have a:=EH h;rw[bd (Ks y o a.n4 hK d g)];cases i:C0 y o with
  |false=>rw[nf,if_pos (.inl rfl)]
  |true=>
   rw[nt,bd (Qn y t a.h0 a.h9 a.n4 hK)];cases j:EC y t with
   |false=>rw[nf,if_pos (.inr rfl)]
   |true=>
    rw[nt,if_neg (by simp)];have b:=j;unfold EC at b;rw[Bool.and_eq_true,Bool.and_eq_true,decide_eq_true_eq] at b;have c:=Mi i;obtain⟨k,e,_⟩:=Ql (K:=K) y t.An [] t.Comes o a.h0 a.h9 a.n4 b.1 hK (fun l f=>⟨by have:=(c l f).1;have:=a.n4;omega,(c l f).2⟩) (Hz b.2.2) d (ND _ _);have m:CY K (⟨y.Ak,y.Ag,y.An,y.Au,y.Ac,t.An,[]⟩:Cr) o t.Comes=some (Gd y t.An o t.Comes,k):=e;rw[bd m];rfl
 ·rw[ct (by simpa using h),if_pos h]
def Ik (y:Ao) (o:List (List Int)):List AZ→Int×AZ→Int×AZ
 |[],s=>s
 |t::a,s=>
  let s2:=if s.1<(Dm y (BY y o t):Int) then ((Dm y (BY y o t):Int),t) else s
  cond (decide (s2.1<(y.Ac.length:Int))) (Ik y o a s2) s2
def Cn(y:Ao)(o:List (List Int)):Int×AZ:=Ik y o (Cl y) (-1,⟨[],[]⟩)
theorem NG{K:Nat}(y:Ao)(b:Fw y)(o:List (List Int))(hK:2000≤K):∀(a:List AZ) (s:Int×AZ),(∀t∈a,EC y t=true)→
  (run (fun(st:Int×AZ) t=>(EF K t (BY y o t) y st.1 st.2).bind fun r=>some (r.1,(r.2.1,r.2.2))) a s).bind (fun r=>some r.2)=some (Ik y o a s)
 |[],s,_=>rfl
 |t::a,s,d=>by
  have c:=d t (List.mem_cons_self ..);unfold EC at c;rw[Bool.and_eq_true,Bool.and_eq_true,decide_eq_true_eq] at c;have f:=Hz c.2.2;have g:=b.n4;have h9:=b.h9;rw[run,Ik];unfold EF;rw[bd (Qr y (BY y o t) b.n4 (GU ..) hK)]
  by_cases h:s.1<(Dm y (BY y o t):Int)
  ·rw[ct (dt h),FK (by omega),FK (by omega),if_pos h];show(cond (decide ((Dm y (BY y o t):Int)<(y.Ac.length:Int))) _ _:Option (Bool×Int×AZ)).bind _=some (cond (decide ((Dm y (BY y o t):Int)<(y.Ac.length:Int))) _ _);cases decide ((Dm y (BY y o t):Int)<(y.Ac.length:Int)) with
   |false=>rfl
   |true=>exact NG y b o hK a _ fun x e=>d x (List.mem_cons_of_mem _ e)
  ·rw[cf (df h),if_neg h];show(cond (decide (s.1<(y.Ac.length:Int))) _ _:Option (Bool×Int×AZ)).bind _=some (cond (decide (s.1<(y.Ac.length:Int))) _ _);cases decide (s.1<(y.Ac.length:Int)) with
   |false=>rfl
   |true=>exact NG y b o hK a s fun x e=>d x (List.mem_cons_of_mem _ e)
theorem Qt{K:Nat}(y:Ao)(a:Fw y)(o:List (List Int))(b:C0 y o=true)(hK:2000≤K):Fc K y o=some (Cn y o):=by
 unfold Fc;rw[Qq _ y a o b hK];have:=NG y a o hK (Cl y) (-1,⟨[],[]⟩) fun t c=>(HW a.h0).1 c;exact Eq.trans (bd this) rfl
theorem Qu{K:Nat}(y:Ao)(o:List (List Int))(hK:2000≤K)(b:o.length≤1000)(c:o.flatten.length≤1000):
  DV K y o=some (if check y≠0 then (0,⟨[],[]⟩,check y) else if C0 y o=false then (0,⟨[],[]⟩,2) else ((Cn y o).1,(Cn y o).2,0)):=by
 unfold DV;rw[bd (Ip hK y)]
 by_cases h:check y=0
 ·rw[h,cf (by decide),if_neg (by simp)];have a:=EH h;rw[bd (Ks y o a.n4 hK b c)];cases d:C0 y o with
  |false=>rw[nf,if_pos rfl]
  |true=>rw[nt,if_neg (by simp),bd (Qt y a o d hK)]
 ·rw[ct (by simpa using h),if_pos h]
theorem NH{K:Nat}(y:Ao)(o:List (List Int))(n:Int)(hK:2000≤K)(a:o.length≤1000)(b:o.flatten.length≤1000):
  ET K y o n=some (decide (check y=0)&&(C0 y o&&decide ((Cn y o).1≤n))):=by
 unfold ET;rw[bd (Qu y o hK a b)]
 by_cases h:check y=0
 ·rw[if_neg (by simp[h]),dt h];cases c:C0 y o with
  |false=>rw[if_pos rfl];rfl
  |true=>rw[if_neg (by simp)];rfl
 ·rw[if_pos h,df h,cf (by simpa using h)];rfl
theorem Oy{K:Nat}(y:Ao)(o:List (List Int))(t:AZ)(n:Int)(hK:2000≤K)(a:o.length≤1000)(b:o.flatten.length≤1000):
  Fe K y o t n=some (decide (check y=0)&&(C0 y o&&(EC y t&&decide (n≤(Dm y (BY y o t):Int))))):=by
 unfold Fe;rw[bd (Qs y o t hK a b)]
 by_cases h:check y=0
 ·rw[if_neg (by simp[h]),dt h];cases c:C0 y o with
  |false=>rw[if_pos (.inl rfl)];rfl
  |true=>
   cases d:EC y t with
   |false=>rw[if_pos (.inr rfl)];rfl
   |true=>
    rw[if_neg (by simp)];show(EA K y (BY y o t)).bind _=_;rw[bd (Qr y (BY y o t) (EH h).n4 (GU ..) hK)];rfl
 ·rw[if_pos h,df h,cf (by simpa using h)];rfl
def G4(p:AP→Aq→Bool):List AP→List Aq→List Int→List Int
 |l::ls,s::ss,a::b=>(cond (p l s) (a+1) a)::G4 p ls ss b
 |_,_,b=>b
theorem R9(x:BK)(k:Nat)(v:Int)(h:k<4):(x.set k v).l=x.l.set k v:=by
 match k,h with
 |0,_=>rfl
 |1,_=>rfl
 |2,_=>rfl
 |3,_=>rfl
theorem Li(p:AP→Aq→Bool)(ss:List Aq)(a:List Int):G4 p [] ss a=a:=by cases a<;>rfl
theorem Sy{K:Nat}(p:AP→Aq→Bool)(y:Ao)(ss:List Aq)(q:y.Ac.length≤4)(r:ss.length=y.Ac.length):∀(k m i:Nat) (a:BK),ss.length=i+k→k<m→(∀x∈a.l.drop i,0≤x∧x≤100000)→
  ∃b:BK,CB (fun(st:Unit) (x:AP×Aq)=>some (p x.1 x.2,())) ss y m (i:Int) a.a0 a.a1 a.a2 a.a3 ()=some (b.a0,b.a1,b.a2,b.a3,())∧b.l=a.l.take i++G4 p (y.Ac.drop i) (ss.drop i) (a.l.drop i):=by
 intro k
 induction k with
 |zero=>
  intro m i a h hm e;cases m with
  |zero=>omega
  |succ m=>
   rw[CB.eq_2,cf (df (by omega)),List.drop_eq_nil_of_le («as»:=y.Ac) (by omega),Li];exact⟨a,rfl,(List.take_append_drop ..).symm⟩
 |succ k ih=>
  intro m i a h hm e;cases m with
  |zero=>omega
  |succ m=>
   have hi:i<ss.length:=by omega
   have f:i<y.Ac.length:=by omega
   have c:i<a.l.length:=by show i<4;omega
   rw[CB.eq_2,ct (dt (by omega)),CZ hi,CZ f,Option.bind_some,List.drop_eq_getElem_cons hi,List.drop_eq_getElem_cons f,List.drop_eq_getElem_cons c,G4];cases s:p y.Ac[i] ss[i] with
   |true=>
    have t:=e a.l[i] (by rw[List.drop_eq_getElem_cons c];exact List.mem_cons_self ..);have g:idx [a.a0,a.a1,a.a2,a.a3] (i:Int)=some a.l[i]:=idx_eq c;rw[ct rfl,bd g,BI (by omega) (by omega),bd g,BI (by omega) (by omega),DM,Int.toNat_natCast];obtain⟨b,j,n⟩:=ih m (i+1) (a.set i (a.l[i]+1)) (by omega) (by omega) (fun x d=>by
     rw[R9 _ _ _ (by omega),List.drop_set_of_lt (by omega)] at d;exact e x (by rw[List.drop_eq_getElem_cons c];exact List.mem_cons_of_mem _ d))
    refine⟨b,j,?_⟩;rw[n,R9 _ _ _ (by omega),List.take_add_one,List.getElem?_set_self c,List.take_set_of_le (Nat.le_refl _),List.drop_set_of_lt (by omega)];simp
   |false=>
    rw[cf rfl,BI (by omega) (by omega),DM];obtain⟨b,j,n⟩:=ih m (i+1) a (by omega) (by omega) fun x d=>e x (by rw[List.drop_eq_getElem_cons c];exact List.mem_cons_of_mem _ d);refine⟨b,j,?_⟩;have o:a.l.take (i+1)=a.l.take i++[a.l[i]]:=by rw[List.take_add_one,List.getElem?_eq_getElem c];rfl
    rw[n,o,List.append_assoc];rfl
theorem Rn{K:Nat}(p:AP→Aq→Bool)(y:Ao)(t:AZ)(ss:List Aq)(e:y.Ac.length≤4)(f:ss.length=y.Ac.length)(hK:2000≤K)(n:Int)(a:BK)(h:0≤n∧n≤100000)(g:∀x∈a.l,0≤x∧x≤100000):
  ∃b:BK,C2 K (fun(st:Unit) (x:AP×Aq)=>some (p x.1 x.2,())) t ss n y a ()=some (true,n+1,b,())∧b.l=G4 p y.Ac ss a.l:=by
 unfold C2;obtain⟨b,c,d⟩:=Sy (K:=K) p y ss e f ss.length K 0 a (by omega) (by omega) (by rw[List.drop_zero];exact g);rw[Int.natCast_zero] at c;rw[List.take_zero,List.drop_zero,List.drop_zero,List.drop_zero,List.nil_append] at d;rw[BI (by omega) (by omega),bd c];exact⟨b,rfl,d⟩
theorem OP(p:AP→Aq→Bool)(B:Int):∀(ls:List AP) (ss:List Aq) (c:List Int),(∀x∈c,0≤x∧x≤B)→∀x∈G4 p ls ss c,0≤x∧x≤B+1
 |l::ls,s::ss,a::c,h,x,b=>by
  rw[G4] at b;rcases List.mem_cons.1 b with rfl|b
  ·have:=h a (List.mem_cons_self ..);cases p l s<;>simp<;>omega
  ·exact OP p B ls ss c (fun z d=>h z (List.mem_cons_of_mem _ d)) x b
 |[],_,c,h,x,b=>by
  rw[Li] at b;have:=h x b;omega
 |l::ls,[],c,h,x,b=>by
  have e:G4 p (l::ls) [] c=c:=by cases c<;>rfl
  rw[e] at b;have:=h x b;omega
 |l::ls,s::ss,[],h,x,b=>by
  have e:G4 p (l::ls) (s::ss) []=[]:=rfl;rw[e] at b;cases b
def Mk (p:AP→Aq→Bool) (y:Ao) (o:List (List Int)):List AZ→List Int→List Int
 |[],a=>a
 |t::b,a=>Mk p y o b (G4 p y.Ac (BY y o t) a)
theorem NI{K:Nat}(p:AP→Aq→Bool)(y:Ao)(d:Fw y)(o:List (List Int))(hK:2000≤K):∀(c:List AZ) (n:Int) (a:BK) (B:Int),0≤n→n+c.length≤100000→B+c.length≤100000→(∀x∈a.l,0≤x∧x≤B)→
  ∃b:BK,run (fun(st:Int×BK×Unit) t=>(C2 K (fun(st:Unit) (x:AP×Aq)=>some (p x.1 x.2,())) t (BY y o t) st.1 y st.2.1 st.2.2).bind fun r=>some (r.1,(r.2.1,r.2.2.1,r.2.2.2))) c (n,a,())=some (true,n+c.length,b,())∧b.l=Mk p y o c a.l
 |[],n,a,B,_,_,_,_=>⟨a,by simp[run],rfl⟩
 |t::c,n,a,B,h0,g,h,e=>by
  rw[List.length_cons] at g h;obtain⟨b,i,f⟩:=Rn (K:=K) p y t (BY y o t) d.n4 (GU ..) hK n a (by omega) (fun x j=>by have:=e x j;omega);obtain⟨k,m,q⟩:=NI p y d o hK c (n+1) b (B+1) (by omega) (by omega) (by omega) (by rw[f];exact OP p B _ _ _ e);refine⟨k,?_,by rw[q,f];rfl⟩;rw[run];show Option.bind ((C2 K _ t (BY y o t) n y a ()).bind _) _=_;rw[bd i];show run _ c (n+1,b,())=_;rw[m,List.length_cons]
  congr 3;omega
theorem Ml(y:Ao)(b:Fw y):((Cl y).length:Int)=G6 y:=by
 have d:∀ls:List AP,(∀l∈ls,sized l)→((Ep ls).length:Int)=DZ ls:=by
  intro ls
  induction ls with
  |nil=>intro _;rfl
  |cons l r ih=>
   intro h;have a:=(h l (List.mem_cons_self ..)).1;rw[Ep,DZ,List.length_flatMap,←ih fun x e=>h x (List.mem_cons_of_mem _ e)];have:((List.range (CJ l).toNat).map fun(n:Nat)=>((Ep r).map fun c=>(l.Ax+(n:Int))::c).length)=List.replicate (CJ l).toNat (Ep r).length:=by
    apply List.ext_getElem
    ·simp
    ·intro i a f;simp
   rw[this,List.sum_replicate_nat,Int.natCast_mul]
   congr 1;omega
 unfold Cl G6;rw[List.length_flatMap,←d y.Ac fun l g=>(b.sz l g).1];have:((Cu y).map fun w=>((Ep y.Ac).map fun c=>(⟨c,w⟩:AZ)).length)=List.replicate (Cu y).length (Ep y.Ac).length:=by
  apply List.ext_getElem
  ·simp
  ·intro i a f;simp
 rw[this,List.sum_replicate_nat,Int.natCast_mul]
def Dk (p:AP→Aq→Bool) (y:Ao) (o:List (List Int)):List Int:=Mk p y o (Cl y) [0,0,0,0]
theorem Mm{K:Nat}(p:AP→Aq→Bool)(y:Ao)(a:Fw y)(o:List (List Int))(c:C0 y o=true)(hK:2000≤K):
  ∃b:BK,Ct K (fun(st:Unit) (x:AP×Aq)=>some (p x.1 x.2,())) y o ()=some (b,((Cl y).length:Int),())∧b.l=Dk p y o:=by
 unfold Ct;rw[Qq _ y a o c hK];have g:=Ml y a;have:=a.many;obtain⟨b,d,e⟩:=NI (K:=K) p y a o hK (Cl y) 0 ⟨0,0,0,0⟩ 0 (by omega) (by omega) (by omega) (by intro x f;simp[BK.l] at f;omega);refine⟨b,?_,e⟩;refine Eq.trans (congrArg (fun z=>Option.bind (Option.bind z _) _) d) ?_;rw[Int.zero_add];rfl
def EJ(y:Ao)(i:Nat):AP:=y.Ac.getD i H6
def Il(y:Ao)(o:List (List Int))(t:AZ)(i:Nat):Aq:=(BY y o t).getD i JJ
def Ku (y:Ao) (o:List (List Int)) (i:Nat) (t:AZ):Bool:=Gn (EJ y i) (Il y o t i)
theorem NJ(p:AP→Aq→Bool):∀(ls:List AP) (ss:List Aq) (b:List Int) (i:Nat),i<ls.length→i<ss.length→i<b.length→
  (G4 p ls ss b).getD i 0=b.getD i 0+(cond (p (ls.getD i H6) (ss.getD i JJ)) 1 0)
 |l::ls,s::ss,a::b,0,_,_,_=>by
  rw[G4];show cond (p l s) (a+1) a=a+cond (p l s) 1 0;cases p l s<;>simp
 |l::ls,s::ss,a::b,i+1,c,d,e=>by
  rw[G4];exact NJ p ls ss b i (by simpa using c) (by simpa using d) (by simpa using e)
theorem K4(p:AP→Aq→Bool):∀(ls:List AP) (ss:List Aq) (b:List Int),(G4 p ls ss b).length=b.length
 |l::ls,s::ss,a::b=>by rw[G4,List.length_cons,K4 p ls ss b,List.length_cons]
 |[],ss,b=>by rw[Li]
 |l::ls,[],b=>by
  have e:G4 p (l::ls) [] b=b:=by cases b<;>rfl
  rw[e]
 |l::ls,s::ss,[]=>rfl
theorem NK(p:AP→Aq→Bool)(y:Ao)(o:List (List Int))(i:Nat)(hi:i<y.Ac.length):∀(b:List AZ) (a:List Int),i<a.length→
  (Mk p y o b a).getD i 0=a.getD i 0+(b.countP (fun t=>p (EJ y i) (Il y o t i)):Nat)
 |[],a,_=>by simp[Mk]
 |t::b,a,h=>by
  rw[Mk,NK p y o i hi b _ (by rw[K4];exact h),NJ p _ _ _ i hi (by rw[BY,GU];exact hi) h,List.countP_cons];unfold EJ Il;cases p (y.Ac.getD i H6) ((BY y o t).getD i JJ)<;>simp<;>omega
theorem LR(p:AP→Aq→Bool)(y:Ao)(a:Fw y)(o:List (List Int))(i:Nat)(hi:i<y.Ac.length):(Dk p y o).getD i 0=((Cl y).countP (fun t=>p (EJ y i) (Il y o t i)):Nat):=by
 unfold Dk;have b:=a.n4;rw[NK p y o i hi _ _ (by show i<4;omega)];have:([0,0,0,0]:List Int).getD i 0=0:=by
  match i,(show i<4 by omega) with
  |0,_=>rfl
  |1,_=>rfl
  |2,_=>rfl
  |3,_=>rfl
 rw[this,Int.zero_add]
theorem M4(b:BK)(i:Nat)(h:i<4):idx [b.a0,b.a1,b.a2,b.a3] (i:Int)=some (b.l.getD i 0):=by
 have:i<[b.a0,b.a1,b.a2,b.a3].length:=h;rw[idx_eq this];show some b.l[i]=_;rw[List.getD_eq_getElem?_getD,List.getElem?_eq_getElem (show i<b.l.length from h)];rfl
def verdict (y:Ao) (o:List (List Int)) (i:Nat):Int:=cond ((Cl y).all (Ku y o i)) 1 (cond ((Cl y).all fun t=> !Ku y o i t) 2 3)
theorem MO{α:Type}(p:α→Bool)(l:List α):((((l.countP p:Nat):Int)==(l.length:Int)))=l.all p:=by
 rw[Bool.eq_iff_iff,beq_iff_eq,List.all_eq_true,Int.ofNat_inj,List.countP_eq_length]
theorem PF{α:Type}(p:α→Bool)(l:List α):((((l.countP p:Nat):Int)==0))=l.all fun t=> !p t:=by
 rw[Bool.eq_iff_iff,beq_iff_eq,List.all_eq_true,show(0:Int)=((0:Nat):Int) from rfl,Int.ofNat_inj,List.countP_eq_zero];simp
theorem Sz{K:Nat}(y:Ao)(o:List (List Int))(n:Int)(hK:2000≤K)(e:o.length≤1000)(f:o.flatten.length≤1000):
  ER K y o n=some (if check y≠0 then (0,check y) else if C0 y o=false∨Fp n 0 ((y.Ac.length:Int)-1)=false then (0,2) else (verdict y o n.toNat,0)):=by
 unfold ER;rw[bd (Ip hK y)]
 by_cases h:check y=0
 ·rw[h,cf (by decide),if_neg (by simp)];have a:=EH h;have m:=a.n4;rw[bd (Ks y o a.n4 hK e f)];cases g:C0 y o with
  |false=>rw[nf,if_pos (.inl rfl)]
  |true=>
   have j:Fv K y n=some (Fp n 0 ((y.Ac.length:Int)-1)):=by
    unfold Fv;rw[BI (by omega) (by omega),bd (Hb ..)]
   rw[nt,bd j];cases c:Fp n 0 ((y.Ac.length:Int)-1) with
   |false=>rw[nf,if_pos (.inr rfl)]
   |true=>
    rw[nt,if_neg (by simp)];rw[Fq] at c;obtain⟨i,rfl⟩:=Int.eq_ofNat_of_zero_le c.1;have hi:i<y.Ac.length:=by omega
    obtain⟨b,k,l⟩:=Mm (K:=K) Gn y a o g hK;have d:Ct K (fun(st:Unit) (x:AP×Aq)=>(Dc K x.1 x.2).bind fun r=>some (r,())) y o ()=some (b,((Cl y).length:Int),()):=by
     rw[←k];congr 1;funext st x;rw[bd (Mj ..)]
    rw[bd d,bd (M4 b i (by omega)),l,LR Gn y a o i hi,Int.toNat_natCast];unfold verdict;show cond ((((Cl y).countP (Ku y o i):Nat):Int)==((Cl y).length:Int)) _ (cond ((((Cl y).countP (Ku y o i):Nat):Int)==0) _ _)=_;rw[MO,PF];cases (Cl y).all (Ku y o i)<;>cases (Cl y).all (fun t=> !Ku y o i t)<;>rfl
 ·rw[ct (by simpa using h),if_pos h]
theorem JK(y:Ao)(o:List (List Int)):∀(a:List AZ) (s:Int×AZ),s.1<(y.Ac.length:Int)∨a=[]→
  (∀t∈a,(Dm y (BY y o t):Int)≤(Ik y o a s).1)∧s.1≤(Ik y o a s).1∧((Ik y o a s)=s∨∃t∈a,(Ik y o a s)=((Dm y (BY y o t):Int),t))
 |[],s,_=>⟨fun t j=>(by cases j),Int.le_refl _,.inl rfl⟩
 |t::a,s,h=>by
  have g:s.1<(y.Ac.length:Int):=by
   rcases h with h|h
   ·exact h
   ·cases h
  have hle:∀x,(Dm y (BY y o x):Int)≤(y.Ac.length:Int):=fun x=>by
   have:=KM Dv y.Ac (BY y o x);unfold Dm;omega
  rw[Ik]
  by_cases i:s.1<(Dm y (BY y o t):Int)
  ·rw[if_pos i];show(∀x∈t::a,_≤(cond (decide ((Dm y (BY y o t):Int)<(y.Ac.length:Int))) _ _:Int×AZ).1)∧_
   by_cases e:(Dm y (BY y o t):Int)<(y.Ac.length:Int)
   ·rw[ct (dt e)];obtain⟨f,d,b⟩:=JK y o a ((Dm y (BY y o t):Int),t) (.inl e);refine⟨fun x c=>?_,by have k:(Dm y (BY y o t):Int)≤_:=d;omega,.inr ?_⟩
    ·rcases List.mem_cons.1 c with rfl|c
     ·exact d
     ·exact f x c
    ·rcases b with b|⟨x,c,b⟩
     ·exact⟨t,List.mem_cons_self ..,b⟩
     ·exact⟨x,List.mem_cons_of_mem _ c,b⟩
   ·rw[cf (df e)];exact⟨fun x _=>Int.le_trans (hle x) (by show(y.Ac.length:Int)≤(Dm y (BY y o t):Int);omega),by show s.1≤(Dm y (BY y o t):Int);omega,.inr ⟨t,List.mem_cons_self ..,rfl⟩⟩
  ·rw[if_neg i];show(∀x∈t::a,_≤(cond (decide (s.1<(y.Ac.length:Int))) _ _:Int×AZ).1)∧_;rw[ct (dt g)];obtain⟨f,d,b⟩:=JK y o a s (.inl g);refine⟨fun x c=>?_,d,?_⟩
   ·rcases List.mem_cons.1 c with rfl|c
    ·omega
    ·exact f x c
   ·rcases b with b|⟨x,c,b⟩
    ·exact .inl b
    ·exact .inr ⟨x,List.mem_cons_of_mem _ c,b⟩
theorem PG{y:Ao}(f:Fw y):Cl y≠[]:=by
 have g:wl (days y) 0∈Cu y:=by
  refine H7.2 ⟨FD _ _,?_⟩;have key:∀(l:List Bool) (s r:Int),(∀b∈l,b=false)→okW y.An y.Au l s r=true:=by
   intro l
   induction l with
   |nil=>intros;rfl
   |cons b l ih=>
    intro s r h;have a:=h b (List.mem_cons_self ..);subst a;rw[okW];exact ih s 0 fun x c=>h x (List.mem_cons_of_mem _ c)
  refine key _ 0 0 fun b a=>?_;unfold wl at a;obtain⟨d,_,rfl⟩:=List.mem_map.1 a;exact Nat.zero_testBit d
 have i:Dd y.Ac (y.Ac.map (·.Ax))=true:=by
  have key:∀ls:List AP,(∀l∈ls,sized l)→Dd ls (ls.map (·.Ax))=true:=by
   intro ls
   induction ls with
   |nil=>intro _;rfl
   |cons l r ih=>
    intro h;have:=(h l (List.mem_cons_self ..)).1;rw[List.map_cons,Dd,Bool.and_eq_true];exact⟨Fq.2 (by unfold CJ at this;omega),ih fun x c=>h x (List.mem_cons_of_mem _ c)⟩
  exact key _ fun l j=>(f.sz l j).1
 intro e;have:(⟨y.Ac.map (·.Ax),wl (days y) 0⟩:AZ)∈Cl y:=by
  unfold Cl;exact List.mem_flatMap.2 ⟨_,g,List.mem_map.2 ⟨_,HA.2 i,rfl⟩⟩
 rw[e] at this;cases this
theorem GA {y:Ao} (c:Fw y) (o:List (List Int)):(∀t,EC y t=true→(Dm y (BY y o t):Int)≤(Cn y o).1)∧EC y (Cn y o).2=true∧(Cn y o).1=(Dm y (BY y o (Cn y o).2):Int):=by
 obtain⟨d,e,a⟩:=JK y o (Cl y) (-1,⟨[],[]⟩) (.inl (by show(-1:Int)<_;omega));refine⟨fun t b=>d t ((HW c.h0).2 b),?_⟩;rcases a with a|⟨t,b,a⟩
 ·exfalso;obtain⟨t,b⟩:=List.exists_mem_of_ne_nil _ (PG c);have:=d t b;rw[a] at this;have f:(Dm y (BY y o t):Int)≤-1:=this;omega
 ·unfold Cn;rw[a];exact⟨(HW c.h0).1 b,rfl⟩
def Ed:Nat→Nat→List (List Int)→List (List (List Int))
 |0,_,o=>[o]
 |k+1,i,o=>(List.range o.length).flatMap fun r=>(List.range ((o.getD r []).length+1)).flatMap fun(a:Nat)=>Ed k (i+1) (o.set r (CK (o.getD r []) (a:Int) (i:Int)))
def Gp(y:Ao):List (List (List Int)):=Ed y.Ac.length 0 (List.replicate y.Ag.toNat [])
section
variable{σ:Type}{K:Nat}(cb:σ→List (List Int)→Option (Bool×σ))(y:Ao)
def Or(n k i:Nat):Prop:=∀(o:List (List Int)) (st:σ),(∀l∈o,l.length≤i)→o.length≤1000→
 (Bu K cb k (i:Int) y o st).map (fun z=>(z.1,z.2.2))=run cb (Ed n i o) st∧
 ∀z,Bu K cb k (i:Int) y o st=some z→z.1=true→z.2.1=o
theorem NL{l:List (List Int)}{r:Nat}(h:r<l.length):l.set r (l.getD r [])=l:=by
 rw[List.getD_eq_getElem?_getD,List.getElem?_eq_getElem h];exact List.set_getElem_self h
theorem Qv(n k i r:Nat)(hi:i≤10)(o:List (List Int))(s:r<o.length)(v:o.length≤1000)(hlen:∀l∈o,l.length≤i)(ih:Or (K:=K) cb y n k (i+1)):
  ∀(c m a:Nat) (q:List (List Int)) (st:σ),(o.getD r []).length+1=a+c→c<m→q.length=o.length→q.set r (o.getD r [])=o→
  (Ca (Bu K cb k) (i:Int) y (r:Int) (o.getD r []) m (a:Int) q st).map Ri=run cb ((List.range' a c).flatMap fun(a:Nat)=>Ed n (i+1) (o.set r (CK (o.getD r []) (a:Int) (i:Int)))) st∧
  ∀z,Ca (Bu K cb k) (i:Int) y (r:Int) (o.getD r []) m (a:Int) q st=some z→(∀x,z=.inl x→x.1=false)∧(∀x,z=.inr x→x.1.length=o.length∧x.1.set r (o.getD r [])=o):=by
 have aH:(o.getD r []).length≤i:=by
  rw[List.getD_eq_getElem?_getD,List.getElem?_eq_getElem s];exact hlen _ (List.getElem_mem s)
 intro c
 induction c with
 |zero=>
  intro m a q st h hm w f;cases m with
  |zero=>omega
  |succ m=>
   rw[Ca.eq_2,cf (df (by omega))];exact⟨rfl,fun z g=>by cases g;exact⟨fun x e=>(by cases e),fun x e=>by cases e;exact⟨w,f⟩⟩⟩
 |succ c aA=>
  intro m a q st h hm w f;cases m with
  |zero=>omega
  |succ m=>
   have aB:r<q.length:=by omega
   have t:q.set r (CK (o.getD r []) (a:Int) (i:Int))=o.set r (CK (o.getD r []) (a:Int) (i:Int)):=by
    have h:(q.set r (o.getD r [])).set r (CK (o.getD r []) (a:Int) (i:Int))=o.set r (CK (o.getD r []) (a:Int) (i:Int)):=by rw[f]
    rw[List.set_set] at h;exact h
   rw[Ca.eq_2,ct (dt (by omega)),FK (by omega),FK (by omega),CZ aB,BI (by omega) (by omega),DM i,Int.toNat_natCast,t];obtain⟨aD,aE⟩:=ih (o.set r (CK (o.getD r []) (a:Int) (i:Int))) st (fun l aF=>by
    rcases List.mem_or_eq_of_mem_set aF with u|u
    ·have:=hlen l u;omega
    ·rw[u,K2];omega) (by rw[List.length_set];exact v)
   rw[List.range'_succ,List.flatMap_cons,Hv,←aD];cases aG:Bu K cb k ((i+1:Nat):Int) y (o.set r (CK (o.getD r []) (a:Int) (i:Int))) st with
   |none=>exact⟨rfl,fun z g=>by cases g⟩
   |some z0=>
    obtain⟨b,j,s2⟩:=z0;cases b with
    |false=>
     refine⟨rfl,fun z g=>?_⟩;have aC:some (Sum.inl (false,j,s2))=some z:=g;cases aC;exact⟨fun x e=>by cases e;rfl,fun x e=>by cases e⟩
    |true=>
     have p:j=o.set r (CK (o.getD r []) (a:Int) (i:Int)):=aE _ aG rfl;have key:(Option.bind (some (true,j,s2)) fun d=>cond (!d.1) (some (Sum.inl (false,d.2.1,d.2.2))) ((i64 ((a:Int)+1)).bind fun _=>Ca (Bu K cb k) (i:Int) y (r:Int) (o.getD r []) m ((a:Int)+1) d.2.1 d.2.2))=Ca (Bu K cb k) (i:Int) y (r:Int) (o.getD r []) m ((a+1:Nat):Int) j s2:=by
      rw[Option.bind_some,nt,BI (by omega) (by omega),DM a]
     rw[key];exact aA m (a+1) j s2 (by omega) (by omega) (by rw[p,List.length_set]) (by rw[p,List.set_set];exact NL s)
theorem Qw(n k i:Nat)(hi:i≤10)(hK:2000≤K)(o:List (List Int))(p:o.length≤1000)(hlen:∀l∈o,l.length≤i)(ih:Or (K:=K) cb y n k (i+1)):
  ∀(c m r:Nat) (st:σ),o.length=r+c→c<m→
  (B3 (Bu K cb k) K (i:Int) y o m (r:Int) o st).map Ri=run cb ((List.range' r c).flatMap fun r=>(List.range ((o.getD r []).length+1)).flatMap fun(a:Nat)=>Ed n (i+1) (o.set r (CK (o.getD r []) (a:Int) (i:Int)))) st∧
  ∀z,B3 (Bu K cb k) K (i:Int) y o m (r:Int) o st=some z→(∀x,z=.inl x→x.1=false)∧(∀x,z=.inr x→x.1=o):=by
 intro c
 induction c with
 |zero=>
  intro m r st h hm;cases m with
  |zero=>omega
  |succ m=>
   rw[B3.eq_2,cf (df (by omega))];exact⟨rfl,fun z j=>by cases j;exact⟨fun x f=>(by cases f),fun x f=>by cases f;rfl⟩⟩
 |succ c q=>
  intro m r st h hm;cases m with
  |zero=>omega
  |succ m=>
   have g:r<o.length:=by omega
   have aF:(o.getD r []).length≤i:=by
    rw[List.getD_eq_getElem?_getD,List.getElem?_eq_getElem g];exact hlen _ (List.getElem_mem g)
   have s:o[r]=o.getD r []:=by rw[List.getD_eq_getElem?_getD,List.getElem?_eq_getElem g];rfl
   rw[B3.eq_2,ct (dt (by omega)),CZ g,s,BI (by omega) (by omega)];obtain⟨t,u⟩:=Qv cb y n k i r hi o g p hlen ih ((o.getD r []).length+1) K 0 o st (by omega) (by omega) rfl (NL g);rw[Int.natCast_zero] at t u;rw[List.range'_succ,List.flatMap_cons,Hv,List.range_eq_range',←t];cases aA:Ca (Bu K cb k) (i:Int) y (r:Int) (o.getD r []) K 0 o st with
   |none=>exact⟨rfl,fun z j=>by cases j⟩
   |some z0=>
    obtain⟨aB,aC⟩:=u _ aA;cases z0 with
    |inl x=>
     obtain⟨b,e,s2⟩:=x;obtain rfl:b=false:=aB _ rfl;refine⟨rfl,fun z j=>?_⟩;have v:some (Sum.inl (false,e,s2))=some z:=j;cases v;exact⟨fun x f=>by cases f;rfl,fun x f=>by cases f⟩
    |inr x=>
     obtain⟨e,s2⟩:=x;obtain⟨aD,aE⟩:=aC _ rfl;have aG:e.length=o.length:=aD;have w:e.set r (o.getD r [])=o:=aE;have key:(Option.bind (some (Sum.inr (e,s2):(Bool×List (List Int)×σ)⊕(List (List Int)×σ))) fun z=>Sum.elim (fun d=>some (Sum.inl (d.1,d.2.1,d.2.2))) (fun d=>(idx d.1 (r:Int)).bind fun _=>(i64 ((r:Int)+1)).bind fun _=>B3 (Bu K cb k) K (i:Int) y o m ((r:Int)+1) (d.1.set (r:Int).toNat (o.getD r [])) d.2) z)=B3 (Bu K cb k) K (i:Int) y o m ((r+1:Nat):Int) o s2:=by
      rw[Option.bind_some];show(idx e (r:Int)).bind _=_;rw[CZ (show r<e.length by omega),BI (by omega) (by omega),DM r];show B3 _ K _ y o m _ (e.set (r:Int).toNat (o.getD r [])) s2=_;rw[Int.toNat_natCast,w]
     rw[key];exact q m (r+1) s2 (by omega) (by omega)
theorem Qx(t:y.Ac.length≤4)(hK:2000≤K):∀(n k i:Nat),y.Ac.length=i+n→n<k→Or (K:=K) cb y n k i:=by
 intro n
 induction n with
 |zero=>
  intro k i h l o st hlen e;cases k with
  |zero=>omega
  |succ k=>
   rw[Bu.eq_2,ct (by rw[h];simp)];rw[Ed,run];cases cb st o with
   |none=>exact⟨rfl,fun z a=>by cases a⟩
   |some r=>
    obtain⟨b,s⟩:=r;refine⟨by cases b<;>rfl,fun z a _=>?_⟩;have c:some (b,o,s)=some z:=a;cases c;rfl
 |succ n ih=>
  intro k i h l o st hlen e;cases k with
  |zero=>omega
  |succ k=>
   rw[Bu.eq_2,cf (by simp;omega)];obtain⟨f,g⟩:=Qw cb y n k i (by omega) hK o e hlen (ih k (i+1) (by omega) (by omega)) o.length K 0 st (by omega) (by omega);rw[Int.natCast_zero] at f g;rw[Ed,List.range_eq_range',←f];cases m:B3 (Bu K cb k) K (i:Int) y o K 0 o st with
   |none=>exact⟨rfl,fun z a=>by cases a⟩
   |some z0=>
    obtain⟨p,q⟩:=g _ m;cases z0 with
    |inl x=>
     obtain⟨b,d,s2⟩:=x;obtain rfl:b=false:=p _ rfl;refine⟨rfl,fun z a j=>?_⟩;have c:some (false,d,s2)=some z:=a;cases c;cases j
    |inr x=>
     obtain⟨d,s2⟩:=x;obtain rfl:d=o:=q _ rfl;refine⟨rfl,fun z a j=>?_⟩;have c:some (true,d,s2)=some z:=a;cases c;rfl
end
theorem NM{σ:Type}{K:Nat}(cb:σ→List (List Int)→Option (Bool×σ))(y:Ao)(a:Fw y)(hK:2000≤K)(st:σ):EG K cb y st=(run cb (Gp y) st).bind fun r=>some r.2:=by
 unfold EG;have:=a.r1;have:=a.r2;rw[OL (by omega) (by omega) (by omega)];obtain⟨b,_⟩:=Qx cb y a.n4 hK y.Ac.length K 0 (by omega) (by have:=a.n4;omega) (List.replicate y.Ag.toNat []) st (fun l c=>by rw[(List.mem_replicate.1 c).2];exact Nat.le_refl _) (by rw[List.length_replicate];omega);rw[Int.natCast_zero] at b;unfold Gp;rw[←b];cases Bu K cb K 0 y (List.replicate y.Ag.toNat []) st with
 |none=>rfl
 |some z=>rfl
theorem Qy(l:List Int)(a i:Int):(CK l a i).Perm (i::l):=by
 unfold CK;refine List.perm_middle.trans (List.Perm.cons _ ?_);rw[List.take_append_drop]
theorem Hc(v:Int):∀(o:List (List Int)) (r:Nat) (a:Int),r<o.length→(o.set r (CK (o.getD r []) a v)).flatten.Perm (v::o.flatten)
 |l::o,0,a,_=>by
  show(CK l a v++o.flatten).Perm (v::(l++o.flatten));exact(Qy l a v).append_right _
 |l::o,r+1,a,h=>by
  show(l++(o.set r (CK (o.getD r []) a v)).flatten).Perm (v::(l++o.flatten));exact((Hc v o r a (by simpa using h)).append_left l).trans List.perm_middle
theorem IY(n:Nat):iota (n+1)=iota n++[(n:Int)]:=by simp[iota,List.range_succ]
theorem LS:∀(k i:Nat) (c o:List (List Int)),c.flatten.Perm (iota i)→o∈Ed k i c→o.length=c.length∧o.flatten.Perm (iota (i+k))
 |0,i,c,o,h,b=>by
  rw[Ed,List.mem_singleton] at b;subst b;exact⟨rfl,h⟩
 |k+1,i,c,o,h,b=>by
  rw[Ed,List.mem_flatMap] at b;obtain⟨r,d,b⟩:=b;obtain⟨a,_,b⟩:=List.mem_flatMap.1 b;rw[List.mem_range] at d;obtain⟨e,f⟩:=LS k (i+1) _ o (by
   rw[IY];exact((Hc (i:Int) c r (a:Int) d).trans (h.cons _)).trans (List.perm_append_singleton _ _).symm) b
  rw[List.length_set] at e;exact⟨e,by rw[show i+(k+1)=i+1+k by omega];exact f⟩
theorem Im{y:Ao}(a:Fw y){o:List (List Int)}(h:o∈Gp y):C0 y o=true:=by
 have:=LS _ 0 _ o (by
  have:(List.replicate y.Ag.toNat ([]:List Int)).flatten=[]:=by simp
  rw[this];exact List.Perm.refl _) h
 rw[List.length_replicate,Nat.zero_add] at this;refine D6.2 ⟨?_,this.2⟩;have:=a.r1;omega
theorem Kw:∀(k i:Nat) (c o:List (List Int)) (r a:Nat),o∈Ed k i c→r<o.length→a≤(o.getD r []).length→o.set r (CK (o.getD r []) (a:Int) ((i+k:Nat):Int))∈Ed (k+1) i c
 |0,i,c,o,r,a,b,d,e=>by
  rw[Ed,List.mem_singleton] at b;subst b;rw[Ed,List.mem_flatMap];refine⟨r,List.mem_range.2 d,List.mem_flatMap.2 ⟨a,List.mem_range.2 (by omega),?_⟩⟩;rw[Ed,List.mem_singleton];rfl
 |k+1,i,c,o,r,a,b,d,e=>by
  rw[Ed,List.mem_flatMap] at b;obtain⟨r1,f,b⟩:=b;obtain⟨a1,g,b⟩:=List.mem_flatMap.1 b;rw[Ed,List.mem_flatMap];refine⟨r1,f,List.mem_flatMap.2 ⟨a1,g,?_⟩⟩;have:=Kw k (i+1) _ o r a b d e;rw[show i+1+k=i+(k+1) by omega] at this;exact this
theorem LU (v:Int):∀(o:List (List Int)),v∈o.flatten→∃(o':List (List Int)) (r a:Nat),r<o'.length∧a≤(o'.getD r []).length∧o=o'.set r (CK (o'.getD r []) (a:Int) v)∧o.flatten.Perm (v::o'.flatten)∧o'.length=o.length
 |[],h=>by cases h
 |l::o,h=>by
  by_cases b:v∈l
  ·obtain⟨s,t,rfl⟩:=List.append_of_mem b;refine⟨(s++t)::o,0,s.length,by simp,by simp,?_,?_,by simp⟩
   ·show _=CK (s++t) (s.length:Int) v::o;unfold CK;rw[Int.toNat_natCast,List.take_left,List.drop_left]
   ·show((s++v::t)++o.flatten).Perm (v::((s++t)++o.flatten));exact(List.perm_middle (a:=v) (l₁:=s) (l₂:=t)).append_right _
  ·have c:v∈o.flatten:=by
    rw[List.flatten_cons,List.mem_append] at h;exact h.resolve_left b
   obtain⟨o',r,a,d,e,f,g,i⟩:=LU v o c;refine⟨l::o',r+1,a,by simpa using d,e,?_,?_,by simp[i]⟩
   ·show l::o=l::o'.set r (CK (o'.getD r []) (a:Int) v);rw[←f]
   ·show(l++o.flatten).Perm (v::(l++o'.flatten));exact(g.append_left l).trans List.perm_middle
theorem K5(LY:Nat):∀(n:Nat) (o:List (List Int)),o.length=LY→o.flatten.Perm (iota n)→o∈Ed n 0 (List.replicate LY [])
 |0,o,c,b=>by
  rw[Ed,List.mem_singleton];have he:o.flatten=[]:=b.eq_nil;rw[List.flatten_eq_nil_iff] at he;exact List.eq_replicate_iff.2 ⟨c,he⟩
 |n+1,o,c,b=>by
  have e:(n:Int)∈o.flatten:=b.mem_iff.2 (by rw[IY];simp);obtain⟨o',r,a,f,g,h,i,k⟩:=LU (n:Int) o e;have d:o'.flatten.Perm (iota n):=by
   have j:(iota (n+1)).Perm ((n:Int)::iota n):=by rw[IY];exact List.perm_append_singleton _ _
   exact(List.perm_cons _).1 ((i.symm.trans b).trans j)
  have:=Kw n 0 _ o' r a (K5 LY n o' (by omega) d) f g;rw[Nat.zero_add] at this;rw[h];exact this
theorem K6{y:Ao}(a:Fw y){o:List (List Int)}:o∈Gp y↔C0 y o=true:=by
 refine⟨Im a,fun h=>?_⟩;have b:=D6.1 h;exact K5 _ _ o (by omega) b.2
theorem PH{y:Ao}(a:Fw y):Gp y≠[]:=by
 have:((iota y.Ac.length)::List.replicate (y.Ag.toNat-1) [])∈Gp y:=by
  refine(K6 a).2 (D6.2 ⟨?_,?_⟩)
  ·have:=a.r1;simp;omega
  ·simp
 intro e;rw[e] at this;cases this
theorem Ro(p:List (List Int))(c:p.length≤1000)(a:∀l∈p,l.length≤1000):∀(k m i:Nat),p.length=i+k→k<m→EB p m (i:Int) p=some p:=by
 intro k
 induction k with
 |zero=>
  intro m i h hm;cases m with
  |zero=>omega
  |succ m=>rw[EB.eq_2,cf (df (by omega))]
 |succ k ih=>
  intro m i h hm;cases m with
  |zero=>omega
  |succ m=>
   have hi:i<p.length:=by omega
   have b:=a p[i] (List.getElem_mem hi);rw[EB.eq_2,ct (dt (by omega)),CZ hi,FK (by omega),CZ hi,BI (by omega) (by omega),DM,Int.toNat_natCast,List.set_getElem_self hi];exact ih m (i+1) (by omega) (by omega)
theorem NN{K:Nat}(p:List (List Int))(a:p.length≤1000)(b:∀l∈p,l.length≤1000)(hK:2000≤K):EW K p=some p:=by
 unfold EW;have:=Ro p a b p.length K 0 (by omega) (by omega);rw[Int.natCast_zero] at this;rw[FK (by omega),bd this]
theorem Kx{y:Ao}(a:Fw y){o:List (List Int)}(h:C0 y o=true):o.length≤1000∧(∀l∈o,l.length≤1000)∧o.flatten.length≤1000:=by
 have b:=D6.1 h;have c:=Mi h;have:=a.r2;have:=a.n4;have d:=b.2.length_eq;rw[GL] at d;exact⟨by omega,fun l e=>by have:=(c l e).1;omega,by omega⟩
def HX(y:Ao):List (List (List Int))→Int×List (List Int)→Int×List (List Int)
 |[],s=>s
 |o::os,s=>
  let s2:=if (Cn y o).1<s.1 then ((Cn y o).1,o) else s
  cond (decide (0<s2.1)) (HX y os s2) s2
def HY(y:Ao):Int×List (List Int):=HX y (Gp y) ((y.Ac.length:Int)+1,[])
theorem NO{K:Nat}(y:Ao)(a:Fw y)(hK:2000≤K):∀(os:List (List (List Int))) (s:Int×List (List Int)),(∀o∈os,C0 y o=true)→
  (run (fun(st:Int×(List (List Int))) (x:(List (List Int)))=>(FT K x y st.1 st.2).bind fun r=>some (r.1,(r.2.1,r.2.2))) os s).bind (fun r=>some r.2)=some (HX y os s)
 |[],s,_=>rfl
 |o::os,s,h=>by
  have d:=h o (List.mem_cons_self ..);obtain⟨e,f,_⟩:=Kx a d;rw[run,HX];unfold FT;rw[bd (Qt y a o d hK)]
  by_cases b:(Cn y o).1<s.1
  ·rw[ct (dt b),bd (NN o e f hK),if_pos b];show(cond (decide (0<(Cn y o).1)) _ _:Option (Bool×Int×List (List Int))).bind _=some (cond (decide (0<(Cn y o).1)) _ _);cases decide (0<(Cn y o).1) with
   |false=>rfl
   |true=>exact NO y a hK os _ fun x c=>h x (List.mem_cons_of_mem _ c)
  ·rw[cf (df b),if_neg b];show(cond (decide (0<s.1)) _ _:Option (Bool×Int×List (List Int))).bind _=some (cond (decide (0<s.1)) _ _);cases decide (0<s.1) with
   |false=>rfl
   |true=>exact NO y a hK os s fun x c=>h x (List.mem_cons_of_mem _ c)
theorem Ue{K:Nat}(y:Ao)(hK:2000≤K):GJ K y=some (if check y≠0 then ([],0,check y) else ((HY y).2,(HY y).1,0)):=by
 unfold GJ;rw[bd (Ip hK y)]
 by_cases h:check y=0
 ·rw[h,cf (by decide),if_neg (by simp)];have a:=EH h;have c:=a.n4;rw[BI (by omega) (by omega),NM _ y a hK];exact Eq.trans (bd (NO y a hK (Gp y) _ fun o b=>Im a b)) rfl
 ·rw[ct (by simpa using h),if_pos h]
theorem NP{y:Ao}(a:Fw y)(o:List (List Int)):0≤(Cn y o).1∧(Cn y o).1≤(y.Ac.length:Int):=by
 obtain⟨_,_,e⟩:=GA a o;have:=KM Dv y.Ac (BY y o (Cn y o).2);rw[e];unfold Dm;omega
theorem JL(y:Ao)(d:Fw y):∀(os:List (List (List Int))) (s:Int×List (List Int)),0<s.1∨os=[]→
  (∀o∈os,(HX y os s).1≤(Cn y o).1)∧(HX y os s).1≤s.1∧((HX y os s)=s∨∃o∈os,(HX y os s)=((Cn y o).1,o))
 |[],s,_=>⟨fun o j=>(by cases j),Int.le_refl _,.inl rfl⟩
 |o::os,s,h=>by
  have g:0<s.1:=by
   rcases h with h|h
   ·exact h
   ·cases h
  rw[HX]
  by_cases i:(Cn y o).1<s.1
  ·rw[if_pos i];show(∀x∈o::os,(cond (decide (0<(Cn y o).1)) _ _:Int×List (List Int)).1≤_)∧_
   by_cases e:0<(Cn y o).1
   ·rw[ct (dt e)];obtain⟨f,c,a⟩:=JL y d os ((Cn y o).1,o) (.inl e);have k:(HX y os ((Cn y o).1,o)).1≤(Cn y o).1:=c;refine⟨fun x b=>?_,by omega,.inr ?_⟩
    ·rcases List.mem_cons.1 b with rfl|b
     ·exact c
     ·exact f x b
    ·rcases a with a|⟨x,b,a⟩
     ·exact⟨o,List.mem_cons_self ..,a⟩
     ·exact⟨x,List.mem_cons_of_mem _ b,a⟩
   ·rw[cf (df e)];refine⟨fun x _=>?_,by show(Cn y o).1≤s.1;omega,.inr ⟨o,List.mem_cons_self ..,rfl⟩⟩;have:=(NP d x).1;show(Cn y o).1≤_;omega
  ·rw[if_neg i];show(∀x∈o::os,(cond (decide (0<s.1)) _ _:Int×List (List Int)).1≤_)∧_;rw[ct (dt g)];obtain⟨f,c,a⟩:=JL y d os s (.inl g);refine⟨fun x b=>?_,c,?_⟩
   ·rcases List.mem_cons.1 b with rfl|b
    ·omega
    ·exact f x b
   ·rcases a with a|⟨x,b,a⟩
    ·exact .inl a
    ·exact .inr ⟨x,List.mem_cons_of_mem _ b,a⟩
theorem PI {y:Ao} (a:Fw y):(∀o,C0 y o=true→(HY y).1≤(Cn y o).1)∧C0 y (HY y).2=true∧(HY y).1=(Cn y (HY y).2).1:=by
 obtain⟨d,e,b⟩:=JL y a (Gp y) ((y.Ac.length:Int)+1,[]) (.inl (by show(0:Int)<_+1;omega));refine⟨fun o c=>d o ((K6 a).2 c),?_⟩;rcases b with b|⟨o,c,b⟩
 ·exfalso;obtain⟨o,c⟩:=List.exists_mem_of_ne_nil _ (PH a);have:=d o c;rw[b] at this;have f:(y.Ac.length:Int)+1≤(Cn y o).1:=this;have:=(NP a o).2;omega
 ·unfold HY;rw[b];exact⟨Im a c,rfl⟩
def GV(y:Ao)(yes:List Int):Nat:=(List.range y.Ac.length).countP fun i=>yes.getD i 0==0
theorem SA(y:Ao)(r:BK×Int×Unit)(c:y.Ac.length≤4):∀(k m i:Nat) (a:Int),y.Ac.length=i+k→k<m→0≤a→a≤i→
  D5 y r m a (i:Int)=some (a+((List.range' i k).countP (fun i=>r.1.l.getD i 0==0):Nat)):=by
 intro k
 induction k with
 |zero=>
  intro m i a h hm h0 b;cases m with
  |zero=>omega
  |succ m=>rw[D5.eq_2,cf (df (by omega))];simp
 |succ k ih=>
  intro m i a h hm h0 b;cases m with
  |zero=>omega
  |succ m=>
   rw[D5.eq_2,ct (dt (by omega)),bd (M4 r.1 i (by omega)),List.range'_succ,List.countP_cons];cases d:(r.1.l.getD i 0==0) with
   |true=>
    rw[ct rfl,BI (by omega) (by omega),BI (by omega) (by omega),DM,ih m (i+1) (a+1) (by omega) (by omega) (by omega) (by omega)]
    congr 1;simp;omega
   |false=>
    rw[cf rfl,BI (by omega) (by omega),DM,ih m (i+1) a (by omega) (by omega) (by omega) (by omega)]
    congr 1
theorem Rp(y:Ao)(r:BK×Int×Unit)(c:y.Ac.length≤4):∀(k m i:Nat) (a:Int),y.Ac.length=i+k→k<m→0≤a→a≤i→
  DX y r m a (i:Int)=some (a+((List.range' i k).countP (fun i=>r.1.l.getD i 0==0):Nat)):=by
 intro k
 induction k with
 |zero=>
  intro m i a h hm h0 b;cases m with
  |zero=>omega
  |succ m=>rw[DX.eq_2,cf (df (by omega))];simp
 |succ k ih=>
  intro m i a h hm h0 b;cases m with
  |zero=>omega
  |succ m=>
   rw[DX.eq_2,ct (dt (by omega)),bd (M4 r.1 i (by omega)),List.range'_succ,List.countP_cons];cases d:(r.1.l.getD i 0==0) with
   |true=>
    rw[ct rfl,BI (by omega) (by omega),BI (by omega) (by omega),DM,ih m (i+1) (a+1) (by omega) (by omega) (by omega) (by omega)]
    congr 1;simp;omega
   |false=>
    rw[cf rfl,BI (by omega) (by omega),DM,ih m (i+1) a (by omega) (by omega) (by omega) (by omega)]
    congr 1
def HZ(y:Ao):List (List (List Int))→Int×List Int×List (List Int)→Int×List Int×List (List Int)
  |[],s=>s
  |o::os,s=>
    cond (decide (0≤s.1)&&(Dk Dv y o==s.2.1)) (HZ y os s)
      (let s2:=if s.1<(GV y (Dk Dv y o):Int) then ((GV y (Dk Dv y o):Int),Dk Dv y o,o) else (s.1,Dk Dv y o,s.2.2)
       cond (decide (s2.1<(y.Ac.length:Int))) (HZ y os s2) s2)
def LW(y:Ao):Int×List Int×List (List Int):=HZ y (Gp y) (-1,[0,0,0,0],[])
theorem NQ{K:Nat}(y:Ao)(e:Fw y)(hK:2000≤K):∀(os:List (List (List Int))) (n:Int) (a:BK) (q:List (List Int)),(∀o∈os,C0 y o=true)→
    ∃(b:Bool) (a2:BK),run (fun(st:Int×BK×(List (List Int))) (x:(List (List Int)))=>(Ew K x y st.1 st.2.1 st.2.2).bind fun r=>some (r.1,(r.2.1,r.2.2.1,r.2.2.2))) os (n,a,q)=some (b,(HZ y os (n,a.l,q)).1,a2,(HZ y os (n,a.l,q)).2.2)
  |[],n,a,q,_=>⟨true,a,rfl⟩
  |o::os,n,a,q,h=>by
    have s:=h o (List.mem_cons_self ..);have p:∀x∈os,C0 y x=true:=fun x aC=>h x (List.mem_cons_of_mem _ aC);obtain⟨aD,aE,_⟩:=Kx e s;have t:=e.n4;obtain⟨b,aF,k⟩:=Mm (K:=K) Dv y e o s hK;have u:Ct K (fun(st:Unit) (x:AP×Aq)=>(D4 K x.1 x.2).bind fun r=>some (r,())) y o ()=some (b,((Cl y).length:Int),()):=by
      rw[←aF];congr 1;funext st x;rw[bd (OO ..)];rfl
    have h9:=SA y (b,((Cl y).length:Int),()) t y.Ac.length K 0 0 (by omega) (by omega) (by omega) (by omega);have f:=Rp y (b,((Cl y).length:Int),()) t y.Ac.length K 0 0 (by omega) (by omega) (by omega) (by omega);rw[Int.natCast_zero,Int.zero_add] at h9 f;have v:((List.range' 0 y.Ac.length).countP (fun i=>(b,((Cl y).length:Int),()).1.l.getD i 0==0))=GV y (Dk Dv y o):=by
      rw[←List.range_eq_range',←k];rfl
    rw[v] at h9 f;have c:∀(l:Int×BK×List (List Int)) (z:Int×List Int×List (List Int)),(l.1,l.2.1.l,l.2.2)=z→
        ∃(d:Bool) (a2:BK),cond (decide (l.1<(y.Ac.length:Int))) (run (fun(st:Int×BK×(List (List Int))) (x:(List (List Int)))=>(Ew K x y st.1 st.2.1 st.2.2).bind fun r=>some (r.1,(r.2.1,r.2.2.1,r.2.2.2))) os l) (some (false,l))=some (d,(cond (decide (z.1<(y.Ac.length:Int))) (HZ y os z) z).1,a2,(cond (decide (z.1<(y.Ac.length:Int))) (HZ y os z) z).2.2):=by
      rintro⟨g,w,aG⟩ z rfl;show∃(d:Bool) (a2:BK),cond (decide (g<(y.Ac.length:Int))) _ _=some (d,(cond (decide (g<(y.Ac.length:Int))) _ _:Int×List Int×List (List Int)).1,a2,(cond (decide (g<(y.Ac.length:Int))) _ _:Int×List Int×List (List Int)).2.2);cases decide (g<(y.Ac.length:Int)) with
      |false=>exact⟨false,w,rfl⟩
      |true=>exact NQ y e hK os g w aG p
    have main:∀z9:Int,z9=(GV y (Dk Dv y o):Int)→∃(d:Bool) (a2:BK),
        (((cond (decide (n<z9)) ((EW K o).bind fun aA=>some ((decide (z9<(y.Ac.length:Int)),z9,b,aA))) (some ((decide (n<(y.Ac.length:Int)),n,b,q))):Option (Bool×Int×BK×List (List Int))).bind fun r=>some (r.1,(r.2.1,r.2.2.1,r.2.2.2))).bind fun r=>cond r.1 (run (fun(st:Int×BK×(List (List Int))) (x:(List (List Int)))=>(Ew K x y st.1 st.2.1 st.2.2).bind fun r=>some (r.1,(r.2.1,r.2.2.1,r.2.2.2))) os r.2) (some (false,r.2)))=
        some (d,(let s2:=if n<(GV y (Dk Dv y o):Int) then ((GV y (Dk Dv y o):Int),Dk Dv y o,o) else (n,Dk Dv y o,q)
       cond (decide (s2.1<(y.Ac.length:Int))) (HZ y os s2) s2).1,a2,(let s2:=if n<(GV y (Dk Dv y o):Int) then ((GV y (Dk Dv y o):Int),Dk Dv y o,o) else (n,Dk Dv y o,q)
       cond (decide (s2.1<(y.Ac.length:Int))) (HZ y os s2) s2).2.2):=by
      rintro z9 rfl
      by_cases j:n<(GV y (Dk Dv y o):Int)
      · rw[ct (dt j),bd (NN o aD aE hK)];simp only[if_pos j];exact c ((GV y (Dk Dv y o):Int),b,o) ((GV y (Dk Dv y o):Int),Dk Dv y o,o) (by show(_,b.l,o)=_;rw[k])
      · rw[cf (df j)];simp only[if_neg j];exact c (n,b,q) (n,Dk Dv y o,q) (by show(_,b.l,q)=_;rw[k])
    rw[run,HZ];show∃(d:Bool) (a2:BK),Option.bind ((Ew K o y n a q).bind _) _=_;unfold Ew;rw[bd u]
    by_cases m:0≤n
    · rw[ct (dt m),dt m,Bool.true_and];have aB:([b.a0,b.a1,b.a2,b.a3]==[a.a0,a.a1,a.a2,a.a3])=(Dk Dv y o==a.l):=by rw[←k];rfl
      rw[aB];cases j:(Dk Dv y o==a.l) with
      |true=>
        rw[ct rfl,ct rfl];exact NQ y e hK os n a q p
      |false=>
        rw[cf rfl,cf rfl,bd h9];exact main _ rfl
    · rw[cf (df m),df m,Bool.false_and,cf rfl,bd f];exact main _ rfl
theorem Uf{K:Nat}(y:Ao)(hK:2000≤K):GK K y=some (if check y≠0 then ([],0,check y) else ((LW y).2.2,(LW y).1,0)):=by
 unfold GK;rw[bd (Ip hK y)]
 by_cases h:check y=0
 ·rw[h,cf (by decide),if_neg (by simp)];have a:=EH h;rw[NM _ y a hK];obtain⟨b,a2,e⟩:=NQ (K:=K) y a hK (Gp y) (-1) ⟨0,0,0,0⟩ [] fun o c=>Im a c;exact Eq.trans (congrArg (fun z=>Option.bind (Option.bind z _) _) e) rfl
 ·rw[ct (by simpa using h),if_pos h]
def G1(n i k:Nat):List Int:=((List.range' k (n-k)).filter fun j=>j !=i).map fun j:Nat=>(j:Int)
def Gq (y:Ao) (i:Nat):List (List Int):=((i:Int)::G1 y.Ac.length i 0)::List.replicate (y.Ag.toNat-1) []
theorem Ug{α:Type}(x:α)(r:List α):idx (x::r) (0:Int)=some x:=idx_eq (xs:=x::r) (k:=0) (by simp)
theorem Vo(n i:Nat)(f:n≤4):∀(d m k:Nat) (x:List Int) (r:List (List Int)),n=k+d→d<m→x.length≤1+k→
  I6 (n:Int) (i:Int) m (k:Int) (x::r)=some ((x++G1 n i k)::r):=by
 intro d
 induction d with
 |zero=>
  intro m k x r h hm e;cases m with
  |zero=>omega
  |succ m=>
   rw[I6,cf (df (by omega))];unfold G1;rw[show n-k=0 by omega];simp
 |succ d ih=>
  intro m k x r h hm e;cases m with
  |zero=>omega
  |succ m=>
   have b:idx (x::r) (0:Int)=some x:=Ug x r;have c:G1 n i k=cond (k !=i) ((k:Int)::G1 n i (k+1)) (G1 n i (k+1)):=by
    unfold G1;rw[show n-k=(n-(k+1))+1 by omega,List.range'_succ,List.filter_cons];cases g:(k !=i) with
    |true=>rfl
    |false=>rfl
   rw[I6,ct (dt (by omega))]
   by_cases a:k=i
   ·have:((k:Int) !=(i:Int))=false:=by rw[a];exact bne_self_eq_false ..
    rw[this,cf rfl,BI (by omega) (by omega),DM,ih m (k+1) x r (by omega) (by omega) (by omega),c,show(k !=i)=false by rw[a];exact bne_self_eq_false ..];rfl
   ·have:((k:Int) !=(i:Int))=true:=by rw[bne_iff_ne];omega
    rw[this,ct rfl,bd b,FK (by simp;omega),bd b,BI (by omega) (by omega),DM];show I6 _ _ m _ ((x++[(k:Int)])::r)=_;rw[ih m (k+1) (x++[(k:Int)]) r (by omega) (by omega) (by simp;omega),c,show(k !=i)=true by rw[bne_iff_ne];exact a];simp
theorem Qz{y:Ao}(b:Fw y){i:Nat}(hi:i<y.Ac.length):C0 y (Gq y i)=true:=by
 have c:=b.r1;rw[D6];refine⟨by unfold Gq;simp;omega,?_⟩;have e:(Gq y i).flatten=(i:Int)::G1 y.Ac.length i 0:=by
  unfold Gq;rw[List.flatten_cons];have:(List.replicate (y.Ag.toNat-1) ([]:List Int)).flatten=[]:=by
   simp
  rw[this,List.append_nil]
 rw[e];unfold G1 iota;rw[←List.range_eq_range',Nat.sub_zero];have:((i:Int)::((List.range y.Ac.length).filter fun j=>j !=i).map fun j:Nat=>(j:Int))=(i::((List.range y.Ac.length).filter fun j=>j !=i)).map fun j:Nat=>(j:Int):=rfl;rw[this];refine List.Perm.map _ ?_;have hm:i∈List.range y.Ac.length:=List.mem_range.2 hi;have a:=List.perm_cons_erase hm;rw[List.Nodup.erase_eq_filter List.nodup_range] at a;exact a.symm
def F1(y:Ao)(k d:Nat):List Int:=((List.range' k d).filter fun i=> !(Cl y).all (Ku y (Gq y i) i)).map fun i:Nat=>(i:Int)
theorem PJ{K:Nat}(y:Ao)(c:Fw y)(hK:2000≤K):∀(d m i:Nat) (a:List Int),y.Ac.length=i+d→d<m→a.length≤i→
  DL K y m a (i:Int)=some (a++F1 y i d):=by
 have g:=c.n4;have s:=c.r1;have t:=c.r2;intro d
 induction d with
 |zero=>
  intro m i a h hm j;cases m with
  |zero=>omega
  |succ m=>rw[DL.eq_2,cf (df (by omega))];simp[F1]
 |succ d ih=>
  intro m i a h hm j;cases m with
  |zero=>omega
  |succ m=>
   have hi:i<y.Ac.length:=by omega
   have k:=Qz c hi;obtain⟨b,n,o⟩:=Mm (K:=K) Gn y c (Gq y i) k hK;have e:Ct K (fun(st:Unit) (x:AP×Aq)=>(Dc K x.1 x.2).bind fun r=>some (r,())) y (Gq y i) ()=some (b,((Cl y).length:Int),()):=by
    rw[←n];congr 1;funext st x;rw[bd (Mj ..)]
   have er:List.replicate y.Ag.toNat ([]:List Int)=[]::List.replicate (y.Ag.toNat-1) []:=by
    rw[←List.replicate_succ];congr 1;omega
   have f:=Vo y.Ac.length i g y.Ac.length K 0 [(i:Int)] (List.replicate (y.Ag.toNat-1) []) (by omega) (by omega) (by simp);rw[DL.eq_2,ct (dt (by omega)),OL (by omega) (by omega) (by omega),er];rw[bd (show idx (([]:List Int)::List.replicate (y.Ag.toNat-1) []) (0:Int)=some [] from Ug _ _)];rw[Int.natCast_zero] at f;show(I6 _ _ K (0:Int) ([(i:Int)]::List.replicate (y.Ag.toNat-1) [])).bind _=_;rw[bd f];show(Ct K _ y (Gq y i) ()).bind _=_;rw[bd e,bd (M4 b i (by omega))];have p:((b.l.getD i 0)==((Cl y).length:Int))=(Cl y).all (Ku y (Gq y i) i):=by
    rw[o,LR Gn y c (Gq y i) i hi,MO];rfl
   show cond ((b.l.getD i 0)==((Cl y).length:Int)) _ _=_;rw[p];have q:F1 y i (d+1)=cond ((Cl y).all (Ku y (Gq y i) i)) (F1 y (i+1) d) ((i:Int)::F1 y (i+1) d):=by
    unfold F1;rw[List.range'_succ,List.filter_cons];cases (Cl y).all (Ku y (Gq y i) i)<;>rfl
   rw[q];cases (Cl y).all (Ku y (Gq y i) i) with
   |true=>
    rw[ct rfl,BI (by omega) (by omega),DM,ih m (i+1) a (by omega) (by omega) (by omega)];rfl
   |false=>
    rw[cf rfl,FK (by simp;omega),BI (by omega) (by omega),DM,ih m (i+1) (a++[(i:Int)]) (by omega) (by omega) (by simp;omega)];simp
theorem PK{K:Nat}(y:Ao)(hK:2000≤K):Fm K y=some (if check y≠0 then ([],check y) else (F1 y 0 y.Ac.length,0)):=by
 unfold Fm;rw[bd (Ip hK y)]
 by_cases h:check y=0
 ·rw[h,if_neg (by simp)];have e:=PJ (K:=K) y (EH h) hK y.Ac.length K 0 [] (by omega) (by have:=(EH h).n4;omega) (by simp);rw[Int.natCast_zero] at e;show cond false _ _=_;rw[cf rfl,bd e,List.nil_append]
 ·rw[ct (by simpa using h),if_pos h]
theorem Rq(n:Nat)(h:n<64):LD .u64 (n:Int)=some ():=by
 refine if_pos ?_;show(n:Int)%(2^64:Int)=n;rw[show(2:Int)^64=18446744073709551616 from rfl];omega
theorem PL(K b d:Nat)(h:d<64):Eh K (b:Int) (d:Int)=some (b.testBit d):=by
 unfold Eh;rw[bd (Rq d h),bd (Qi b d h),Mg (T6 b d) (by omega),Qh]
def lead:List Bool→Nat
 |true::l=>lead l+1
 |_=>0
def GB(R:Int):List Bool→Bool
 |[]=>true
 |b::l=>decide ((lead (b::l):Int)≤R)&&GB R l
def IF:List Bool→Nat
 |[]=>0
 |b::l=>(cond b 1 0)+IF l
theorem Lj(r:Nat)(l:List Bool):lead (List.replicate r true++l)=r+lead l:=by
 induction r with
 |zero=>simp
 |succ r ih=>rw[List.replicate_succ,List.cons_append,lead,ih];omega
theorem MP(R:Int)(l:List Bool):∀r:Nat,(r:Int)≤R→GB R (List.replicate r true++false::l)=(decide (0≤R)&&GB R l)
 |0,_=>rfl
 |r+1,h=>by
  rw[List.replicate_succ,List.cons_append,GB,MP R l r (by omega)];have:lead (true::(List.replicate r true++false::l))=r+1:=by
   rw[lead,Lj];rfl
  rw[this,dt (by omega),Bool.true_and]
theorem NR(W R:Int)(b:0≤R):∀(l:List Bool) (s:Int) (r:Nat),s≤W→(r:Int)≤R→okW W R l s r=(decide (s+(IF l:Int)≤W)&&GB R (List.replicate r true++l))
 |[],s,r,c,a=>by
  have:∀q:Nat,(q:Int)≤R→GB R (List.replicate q true)=true:=by
   intro q
   induction q with
   |zero=>intro _;rfl
   |succ q ih=>
    intro g;have e:=Lj (q+1) [];rw[List.append_nil,List.replicate_succ] at e;have h:lead ([]:List Bool)=0:=rfl;rw[List.replicate_succ,GB,e,ih (by omega),dt (by omega)];rfl
  rw[List.append_nil,this r a,okW,dt (by unfold IF;omega)];rfl
 |false::l,s,r,c,a=>by
  rw[okW,MP R l r a,dt b,Bool.true_and];have:=NR W R b l s 0 c (by omega);rw[Int.natCast_zero] at this;rw[this,IF];simp
 |true::l,s,r,c,a=>by
  rw[okW];have e:List.replicate r true++true::l=List.replicate (r+1) true++l:=by
   rw[List.replicate_succ'];simp
  rw[e]
  by_cases d:s+1≤W
  ·by_cases f:(r:Int)+1≤R
   ·rw[dt d,dt f,Bool.true_and,Bool.true_and,DM,NR W R b l (s+1) (r+1) d (by omega)]
    congr 2
    rw[IF];simp;omega
   ·rw[df f,Bool.false_and,Bool.and_false];have:GB R (List.replicate (r+1) true++l)=false:=by
     rw[List.replicate_succ,List.cons_append,GB];have e:=Lj (r+1) l;rw[List.replicate_succ,List.cons_append] at e;rw[e,df (by omega)];rfl
    rw[this,Bool.and_false]
  ·rw[df d,Bool.false_and];have:¬(s+(IF (true::l):Int)≤W):=by rw[IF];simp;omega
   rw[df this];rfl
theorem Mn(n b i:Nat)(h:i<n):(wl n b).drop i=b.testBit i::(wl n b).drop (i+1):=by
 rw[List.drop_eq_getElem_cons (by rw[FD];exact h)]
 congr 1
 simp[wl]
theorem Uh(K:Nat)(y:Ao)(b a:Nat)(h0:0≤y.Ak)(h9:y.Ak≤9)(d:0≤y.Au)(f:y.Au≤y.Ak+1)(i:a≤9):∀(k m e:Nat) (g:Bool),(a:Int)+y.Au+1=e+k→k<m→
  Cp K y b (a:Int) m g (e:Int)=some (g&&decide (k≤lead ((wl (days y) b).drop e))):=by
 intro k
 induction k with
 |zero=>
  intro m e g h hm;cases m with
  |zero=>omega
  |succ m=>rw[Cp.eq_2,BI (by omega) (by omega),cf (df (by omega)),dt (Nat.zero_le _),Bool.and_true]
 |succ k ih=>
  intro m e g h hm;cases m with
  |zero=>omega
  |succ m=>
   rw[Cp.eq_2,BI (by omega) (by omega),ct (dt (by omega))];cases g with
   |false=>
    rw[cf rfl,BI (by omega) (by omega),DM,ih m (e+1) false (by omega) (by omega)];rfl
   |true=>
    rw[ct rfl,Bool.true_and]
    by_cases c:(e:Int)≤y.Ak
    ·rw[ct (dt c),bd (PL K b e (by omega)),BI (by omega) (by omega),DM,ih m (e+1) _ (by omega) (by omega),Mn (days y) b e (by unfold days;omega)];cases b.testBit e with
     |false=>
      rw[Bool.false_and,df (show¬(k+1≤lead (false::_)) by show¬(k+1≤0);omega)]
     |true=>
      rw[Bool.true_and]
      congr 1
      rw[Bool.eq_iff_iff,decide_eq_true_eq,decide_eq_true_eq];show _↔k+1≤lead _+1;omega
    ·rw[cf (df c),BI (by omega) (by omega),DM,ih m (e+1) false (by omega) (by omega),show(wl (days y) b).drop e=[] from List.drop_eq_nil_of_le (by rw[FD];unfold days;omega)];rw[Bool.false_and,df (show¬(k+1≤lead []) by show¬(k+1≤0);omega)]
theorem SC(K:Nat)(y:Ao)(b a:Nat)(h0:0≤y.Ak)(h9:y.Ak≤9)(d:0≤y.Au)(f:y.Au≤y.Ak+1)(i:a≤9):∀(k m e:Nat) (g:Bool),(a:Int)+y.Au+1=e+k→k<m→
  Ci K y b (a:Int) m g (e:Int)=some (g&&decide (k≤lead ((wl (days y) b).drop e))):=by
 intro k
 induction k with
 |zero=>
  intro m e g h hm;cases m with
  |zero=>omega
  |succ m=>rw[Ci.eq_2,BI (by omega) (by omega),cf (df (by omega)),dt (Nat.zero_le _),Bool.and_true]
 |succ k ih=>
  intro m e g h hm;cases m with
  |zero=>omega
  |succ m=>
   rw[Ci.eq_2,BI (by omega) (by omega),ct (dt (by omega))];cases g with
   |false=>
    rw[cf rfl,BI (by omega) (by omega),DM,ih m (e+1) false (by omega) (by omega)];rfl
   |true=>
    rw[ct rfl,Bool.true_and]
    by_cases c:(e:Int)≤y.Ak
    ·rw[ct (dt c),bd (PL K b e (by omega)),BI (by omega) (by omega),DM,ih m (e+1) _ (by omega) (by omega),Mn (days y) b e (by unfold days;omega)];cases b.testBit e with
     |false=>
      rw[Bool.false_and,df (show¬(k+1≤lead (false::_)) by show¬(k+1≤0);omega)]
     |true=>
      rw[Bool.true_and]
      congr 1
      rw[Bool.eq_iff_iff,decide_eq_true_eq,decide_eq_true_eq];show _↔k+1≤lead _+1;omega
    ·rw[cf (df c),BI (by omega) (by omega),DM,ih m (e+1) false (by omega) (by omega),show(wl (days y) b).drop e=[] from List.drop_eq_nil_of_le (by rw[FD];unfold days;omega)];rw[Bool.false_and,df (show¬(k+1≤lead []) by show¬(k+1≤0);omega)]
theorem PN{K:Nat}(y:Ao)(b:Nat)(h0:0≤y.Ak)(h9:y.Ak≤9)(c:0≤y.Au)(f:y.Au≤y.Ak+1)(hK:2000≤K):∀(k m i:Nat) (s:Int),days y=i+k→k<m→0≤s→s≤i→
  Cz K y b m s (i:Int)=some (cond (GB y.Au ((wl (days y) b).drop i)) (.inr (s+(IF ((wl (days y) b).drop i):Int))) (.inl false)):=by
 intro k
 induction k with
 |zero=>
  intro m i s h hm j l;cases m with
  |zero=>omega
  |succ m=>
   rw[Cz.eq_2,cf (df (by unfold days at h;omega)),List.drop_eq_nil_of_le (by rw[FD];omega)];show _=some (Sum.inr (s+((0:Nat):Int)));rw[Int.natCast_zero,Int.add_zero]
 |succ k ih=>
  intro m i s h hm j l;cases m with
  |zero=>omega
  |succ m=>
   have p:days y≤10:=by unfold days;omega
   have hi:i<days y:=by omega
   have g:(i:Int)≤y.Ak:=by unfold days at hi;omega
   have d:=Uh K y b i h0 h9 c f (by omega) (y.Au+1).toNat K i true (by omega) (by omega);have a:=SC K y b i h0 h9 c f (by omega) (y.Au+1).toNat K i true (by omega) (by omega);have n:decide ((y.Au+1).toNat≤lead ((wl (days y) b).drop i))= !decide ((lead ((wl (days y) b).drop i):Int)≤y.Au):=by
    rw[←decide_not];congr 1;rw[eq_iff_iff];omega
   rw[Bool.true_and,n] at d a;rw[Cz.eq_2,ct (dt g),bd (PL K b i (by omega))];have e:=Mn (days y) b i hi;have o:GB y.Au ((wl (days y) b).drop i)=(decide ((lead ((wl (days y) b).drop i):Int)≤y.Au)&&GB y.Au ((wl (days y) b).drop (i+1))):=by
    conv=>lhs;rw[e]
    rw[GB,←e]
   have ec:IF ((wl (days y) b).drop i)=(cond (b.testBit i) 1 0)+IF ((wl (days y) b).drop (i+1)):=by rw[e,IF]
   rw[o,ec];cases q:b.testBit i with
   |true=>
    rw[ct rfl,BI (by omega) (by omega),bd d];cases decide ((lead ((wl (days y) b).drop i):Int)≤y.Au) with
    |false=>rw[Bool.false_and];rfl
    |true=>
     rw[nt,BI (by omega) (by omega),DM,ih m (i+1) (s+1) (by omega) (by omega) (by omega) (by omega),Bool.true_and]
     congr 2
     simp;omega
   |false=>
    rw[cf rfl,bd a];cases decide ((lead ((wl (days y) b).drop i):Int)≤y.Au) with
    |false=>rw[Bool.false_and];rfl
    |true=>
     rw[nt,BI (by omega) (by omega),DM,ih m (i+1) s (by omega) (by omega) (by omega) (by omega),Bool.true_and]
     congr 2
     simp
theorem Oz{K:Nat}(y:Ao)(b:Nat)(h0:0≤y.Ak)(h9:y.Ak≤9)(a:0≤y.Au)(d:y.Au≤y.Ak+1)(f:0≤y.An)(hK:2000≤K):Ee K y b=some (Hw y (wl (days y) b)):=by
 unfold Ee;have g:days y≤10:=by unfold days;omega
 have e:=PN (K:=K) y b h0 h9 a d hK (days y) K 0 0 (by omega) (by omega) (by omega) (by omega);rw[Int.natCast_zero,List.drop_zero] at e;rw[bd e];have c:=NR y.An y.Au a (wl (days y) b) 0 0 f (by omega);rw[Int.natCast_zero] at c;unfold Hw;rw[c];show _=some (_&&GB y.Au (wl (days y) b));cases GB y.Au (wl (days y) b) with
 |true=>rw[Bool.and_true];rfl
 |false=>rw[Bool.and_false];rfl
def H5 (y:Ao) (k d:Nat):List Int:=((List.range' k d).filter fun b=>Hw y (wl (days y) b)).map fun b:Nat=>(b:Int)
theorem MW(y:Ao):(H5 y 0 (2^days y)).length=(Cu y).length:=by
 unfold H5 Cu;rw[List.length_map,List.range_eq_range',List.filter_map,List.length_map];rfl
theorem PO{K:Nat}(y:Ao)(h0:0≤y.Ak)(h9:y.Ak≤9)(d:0≤y.Au)(f:y.Au≤y.Ak+1)(g:0≤y.An)(hK:2000≤K):∀(k m i:Nat) (a:List Int),2^days y=i+k→k<m→a.length≤i→
  CG K y m a (i:Int)=some (a++H5 y i k):=by
 intro k;have j:days y≤10:=by unfold days;omega
 have n:=IE _ j;have b:y.Ak+1=(days y:Int):=by unfold days;omega
 have c:G8 (1:Int) (days y:Int)=((2^days y:Nat):Int):=by
  unfold G8;rw[Int.one_mul,Int.toNat_natCast,Int.natCast_pow];rfl
 have e:L9 (1:Int) (days y:Int)=some ():=by
  refine if_pos ⟨by omega,by omega,?_,?_⟩
  ·have:(0:Int)≤1*2^((days y:Nat):Int).toNat:=by rw[Int.one_mul];exact Int.le_of_lt (Int.pow_pos (by omega))
   exact Int.le_trans (by omega) this
  ·rw[Int.one_mul,Int.toNat_natCast];have:((2^days y:Nat):Int)≤1024:=by omega
   rw[Int.natCast_pow] at this;exact Int.le_trans this (by omega)
 induction k with
 |zero=>
  intro m i a h hm l;cases m with
  |zero=>omega
  |succ m=>
   rw[CG.eq_2,BI (by omega) (by omega),b,bd (Rq _ (by omega)),bd e,c,cf (df (by omega))];simp[H5]
 |succ k ih=>
  intro m i a h hm l;cases m with
  |zero=>omega
  |succ m=>
   rw[CG.eq_2,BI (by omega) (by omega),b,bd (Rq _ (by omega)),bd e,c,ct (dt (by omega)),bd (Oz y i h0 h9 d f g hK)];unfold H5;rw[List.range'_succ,List.filter_cons];cases Hw y (wl (days y) i) with
   |true=>
    rw[ct rfl,FK (by simp;omega),BI (by omega) (by omega),DM,ih m (i+1) _ (by omega) (by omega) (by simp;omega)];simp[H5]
   |false=>
    rw[cf rfl,BI (by omega) (by omega),DM,ih m (i+1) a (by omega) (by omega) (by omega)];simp[H5]
theorem PQ{K:Nat}(y:Ao)(h0:0≤y.Ak)(h9:y.Ak≤9)(a:0≤y.Au)(b:y.Au≤y.Ak+1)(c:0≤y.An)(hK:2000≤K):Eo K y=some (H5 y 0 (2^days y)):=by
 unfold Eo;have d:days y≤10:=by unfold days;omega
 have f:=IE _ d;have e:=PO (K:=K) y h0 h9 a b c hK (2^days y) K 0 [] (by omega) (by omega) (by simp);rw[Int.natCast_zero] at e;rw[bd e,List.nil_append]
theorem LX{y:Ao}(h9:y.Ak≤9)(h:∀l∈y.Ac,FA y l=true):∀l∈y.Ac,sized l∧0≤l.Ax∧l.AI≤9:=fun l a=>by
 have:=IW.1 (h l a);exact⟨Lg h9 (h l a),this.1,by omega⟩
theorem QA{K:Nat}(y:Ao)(h0:0≤y.Ak)(h9:y.Ak≤9)(a:0≤y.Au)(b:y.Au≤y.Ak+1)(c:0≤y.An)(d:y.Ac.length≤4)(f:∀l∈y.Ac,sized l∧0≤l.Ax∧l.AI≤9)(hK:2000≤K):
  DJ K y=some (I7 3000 ((Cu y).length:Int) y.Ac):=by
 unfold DJ;have g:days y≤10:=by unfold days;omega
 have hw:=Kq y g;have e:=T9 y d f (K:=K) y.Ac.length K 0 ((Cu y).length:Int) (by omega) (by omega) (by omega) (by omega);rw[Int.natCast_zero,List.drop_zero] at e;rw[bd (PQ y h0 h9 a b c hK),MW,bd e]
theorem SD(K:Nat)(y:Ao)(d:y.Ac.length≤4):∀(k m i:Nat),y.Ac.length=i+k→k<m→
  Dg K y m (i:Int)=some (cond ((y.Ac.drop i).all (FA y)) (.inr ()) (.inl 1)):=by
 intro k
 induction k with
 |zero=>
  intro m i h hm;cases m with
  |zero=>omega
  |succ m=>rw[Dg.eq_2,cf (df (by omega)),List.drop_eq_nil_of_le (by omega)];rfl
 |succ k ih=>
  intro m i h hm;cases m with
  |zero=>omega
  |succ m=>
   have hi:i<y.Ac.length:=by omega
   rw[Dg.eq_2,ct (dt (by omega)),CZ hi,List.drop_eq_getElem_cons hi,List.all_cons];unfold FA;generalize y.Ac[i]=l
   by_cases a:l.Ax<0
   ·rw[ct (dt a),df (show¬(0≤l.Ax) by omega)];rfl
   rw[cf (df a),dt (show 0≤l.Ax by omega)]
   by_cases b:l.AI<l.Ax
   ·rw[ct (dt b),df (show¬(l.Ax≤l.AI) by omega)];rfl
   rw[cf (df b),dt (show l.Ax≤l.AI by omega)]
   by_cases c:y.Ak<l.AI
   ·rw[ct (dt c),df (show¬(l.AI≤y.Ak) by omega)];rfl
   rw[cf (df c),dt (show l.AI≤y.Ak by omega),bd (NC ..)];cases Fp l.AR 1 5 with
   |false=>rfl
   |true=>
    rw[nt,bd (NC ..)];cases Fp l.B5 1 5 with
    |false=>rfl
    |true=>
     rw[nt,bd (NC ..)];cases Fp l.Cj 0 y.Ak with
     |false=>rfl
     |true=>rw[nt,BI (by omega) (by omega),DM,ih m (i+1) (by omega) (by omega)];rfl
theorem OQ{K:Nat}(hK:2000≤K)(y:Ao):Ek K y=some (check y):=by
 unfold Ek check
 by_cases g:9<y.Ak
 ·rw[ct (dt g),if_pos (.inl g)]
 rw[cf (df g)]
 by_cases i:2<y.Ag
 ·rw[ct (dt i),if_pos (.inr (.inl i))]
 rw[cf (df i)]
 by_cases j:4<(y.Ac.length:Int)
 ·rw[ct (dt j),if_pos (.inr (.inr j))]
 rw[cf (df j),if_neg (by omega)]
 by_cases a:y.Ak<0
 ·rw[ct (dt a),if_pos (.inl a)]
 rw[cf (df a)]
 by_cases b:y.Ag<1
 ·rw[ct (dt b),if_pos (.inr (.inl b))]
 rw[cf (df b),BI (by omega) (by omega),bd (NC ..)];cases m:Fp y.An 0 (y.Ak+1) with
 |false=>rw[nf,if_pos (.inr (.inr (.inl rfl)))]
 |true=>
  rw[nt,BI (by omega) (by omega),bd (NC ..)];cases n:Fp y.Au 0 (y.Ak+1) with
  |false=>rw[nf,if_pos (.inr (.inr (.inr (.inl rfl))))]
  |true=>
   have e:=SD K y (by omega) y.Ac.length K 0 (by omega) (by omega);rw[Int.natCast_zero,List.drop_zero] at e;rw[nt,bd e];cases o:y.Ac.all (FA y) with
   |false=>rw[if_pos (.inr (.inr (.inr (.inr rfl))))];rfl
   |true=>
    have q:=Fq.1 m;have r:=Fq.1 n;have k:=LX (y:=y) (by omega) (List.all_eq_true.1 o);rw[if_neg (by simp[a,b])];show(DJ K y).bind _=_;rw[bd (QA y (by omega) (by omega) (by omega) (by omega) (by omega) (by omega) k hK)];have f:=Mh (c:=3000) (by omega) ((Cu y).length:Int) (by omega) fun l p=>(k l p).1;unfold G6
    by_cases d:1000<((Cu y).length:Int)*DZ y.Ac
    ·rw[ct (dt (f.2 d)),if_pos d]
    ·rw[cf (df fun h=>d (f.1 h)),if_neg d]
theorem SE{K:Nat}(y:Ao)(a:Fw y)(hK:2000≤K):DJ K y=some (G6 y):=by
 have b:=LX a.h9 a.Rm;rw[QA y a.h0 a.h9 a.u0 a.u1 a.w0 a.n4 b hK];have:=a.many;unfold G6 at this⊢;rw[ON (by omega) _ (by omega) (fun l c=>(b l c).1) this]
theorem JM(n:Nat):(iota n).Nodup:=by
 unfold iota;refine List.Pairwise.map _ (fun a b h=>?_) (List.nodup_range (n:=n));intro e;exact h (by omega)
theorem SF(x:List Int)(a:Nat):Bq x (0:Int) (a:Int)=x.take a:=by unfold Bq;simp
theorem SG(x:List Int)(a:Nat):Bq x (a:Int) (x.length:Int)=x.drop a:=by unfold Bq;simp
theorem NS{β:Type}{n:Nat}{a b:Int}{f:Unit→Option β}(h0:0≤a)(c:a≤b)(d:b≤n):(Hq n a b).bind f=f ():=bd (if_pos ⟨h0,c,d⟩)
theorem SH{o:List (List Int)}{r:Nat}(a:r<o.length):o.getD r []=o[r]:=by rw[List.getD_eq_getElem?_getD,List.getElem?_eq_getElem a];rfl
def Ui(y:Ao)(s:Aq):Int:=cond (s.Bm==-1) (y.Ak+1) (s.Bm+1)
theorem I8(y:Ao)(w:List Bool)(c:List Int)(j:Nat):∀(l:List Int) (free:Int) (out:List Aq),(∀i∈l,0≤i)→(j:Int)∉l→(Gb y w c l free out)[j]?=out[j]?
 |[],_,_,_,_=>rfl
 |i::r,free,out,h0,h=>by
  rw[Gb,I8 y w c j r _ _ (fun x a=>h0 x (List.mem_cons_of_mem _ a)) (fun b=>h (List.mem_cons_of_mem _ b)),List.getElem?_set_ne];intro e;have:=h0 i (List.mem_cons_self ..);exact h (by rw[←e,show((i.toNat:Nat):Int)=i by omega];exact List.mem_cons_self ..)
def H0 (y:Ao) (w:List Bool) (c:List Int):List Int→Int→Int
 |[],f=>f
 |i::r,f=>H0 y w c r (Ui y (DU y w (Ej y i) (max f (D0 c i))))
theorem NT(y:Ao)(w:List Bool)(c:List Int):∀(pre:List Int) (i:Int) (post:List Int) (free:Int) (out:List Aq),(pre++i::post).Nodup→(∀j∈pre++i::post,0≤j∧j<(out.length:Int))→
  (Gb y w c (pre++i::post) free out)[i.toNat]?=some (DU y w (Ej y i) (max (H0 y w c pre free) (D0 c i)))
 |[],i,post,free,out,d,b=>by
  obtain⟨h0,g⟩:=b i (List.mem_append_right _ (List.mem_cons_self ..));have f:i∉post:=(List.nodup_cons.1 d).1;rw[List.nil_append,Gb,I8 y w c i.toNat post _ _ (fun j e=>(b j (List.mem_append_right _ (List.mem_cons_of_mem _ e))).1) (by rw[Int.toNat_of_nonneg h0];exact f),List.getElem?_set_self (by omega)];rfl
 |a::pre,i,post,free,out,d,b=>by
  rw[List.cons_append,Gb];exact NT y w c pre i post _ (out.set a.toNat _) (List.nodup_cons.1 d).2 fun j e=>by rw[List.length_set];exact b j (List.mem_cons_of_mem _ e)
theorem K7(y:Ao)(w:List Bool)(c:List Int)(j:Nat):∀(o:List (List Int)) (out:List Aq),(∀i∈o.flatten,0≤i)→(j:Int)∉o.flatten→(Gc y w c o out)[j]?=out[j]?
 |[],out,_,_=>rfl
 |l::o,out,h0,h=>by
  rw[List.flatten_cons] at h0 h;rw[Gc,K7 y w c j o _ (fun i hi=>h0 i (List.mem_append_right _ hi)) (fun hi=>h (List.mem_append_right _ hi)),I8 y w c j l _ _ (fun i hi=>h0 i (List.mem_append_left _ hi)) (fun hi=>h (List.mem_append_left _ hi))]
theorem NU(y:Ao)(w:List Bool)(c:List Int)(i:Int)(pre post:List Int)(e:List (List Int)):∀(f:List (List Int)) (out:List Aq),(f++(pre++i::post)::e).flatten.Nodup→(∀j∈(f++(pre++i::post)::e).flatten,0≤j∧j<(out.length:Int))→
  (Gc y w c (f++(pre++i::post)::e) out)[i.toNat]?=some (DU y w (Ej y i) (max (H0 y w c pre 0) (D0 c i)))
 |[],out,a,b=>by
  rw[List.nil_append,List.flatten_cons] at a b;have hm:i∈pre++i::post:=List.mem_append_right _ (List.mem_cons_self ..);have h0:=(b i (List.mem_append_left _ hm)).1;rw[List.nodup_append] at a;rw[List.nil_append,Gc,K7 y w c i.toNat e _ (fun j d=>(b j (List.mem_append_right _ d)).1) (by rw[Int.toNat_of_nonneg h0];exact fun d=>a.2.2 i hm i d rfl),NT y w c pre i post 0 out a.1 fun j d=>b j (List.mem_append_left _ d)]
 |l::f,out,a,b=>by
  rw[List.cons_append,List.flatten_cons] at a b;rw[List.nodup_append] at a;rw[List.cons_append,Gc];exact NU y w c i pre post e f _ a.2.1 fun j d=>by rw[Hy];exact b j (List.mem_append_right _ d)
theorem JN{y:Ao}{o:List (List Int)}(h:C0 y o=true):o.flatten.Nodup:=(D6.1 h).2.nodup_iff.2 (JM _)
theorem HN{y:Ao}{o:List (List Int)}(h:C0 y o=true){i:Int}:i∈o.flatten↔0≤i∧i<(y.Ac.length:Int):=by rw[(D6.1 h).2.mem_iff,HM]
theorem Rr{y:Ao}{o:List (List Int)}{b c:List (List Int)}{pre post:List Int}{i:Int}(h:C0 y o=true)(e:o=b++(pre++i::post)::c)(t:AZ):
  (BY y o t)[i.toNat]?=some (DU y t.An (Ej y i) (max (H0 y t.An t.Comes pre 0) (D0 t.Comes i))):=by
 have d:=JN h;have f:∀j∈o.flatten,0≤j∧j<(y.Ac.length:Int):=fun j a=>(HN h).1 a;subst e;unfold BY Gd;exact NU y t.An t.Comes i pre post c b _ d fun j a=>by rw[List.length_replicate];exact f j a
theorem Rs{y:Ao}{o:List (List Int)}(h:C0 y o=true){i:Nat}(hi:i<y.Ac.length):∃a pre post b,o=a++(pre++(i:Int)::post)::b:=by
 have hm:(i:Int)∈o.flatten:=(HN h).2 (by omega);obtain⟨l,d,c⟩:=List.mem_flatten.1 hm;obtain⟨a,b,e⟩:=List.append_of_mem d;obtain⟨pre,post,f⟩:=List.append_of_mem c;exact⟨a,pre,post,b,by rw[e,f]⟩
theorem OR {y:Ao} {o:List (List Int)} (h:C0 y o=true) {i:Nat} (hi:i<y.Ac.length) {b c:List (List Int)} {pre post:List Int} (e:o=b++(pre++(i:Int)::post)::c) (t:AZ):
  Il y o t i=DU y t.An (EJ y i) (max (H0 y t.An t.Comes pre 0) (D0 t.Comes i)):=by
 have a:=Rr h e t;rw[Int.toNat_natCast] at a;unfold Il;rw[List.getD_eq_getElem?_getD,a];show DU y t.An (Ej y (i:Int)) _=_;unfold Ej EJ;rw[Int.toNat_natCast]
theorem Ky{W R W' R':Int}(a:W≤W')(b:R≤R'):∀(l:List Bool) (s r:Int),okW W R l s r=true→okW W' R' l s r=true
 |[],_,_,_=>rfl
 |false::l,s,r,h=>Ky a b l s 0 h
 |true::l,s,r,h=>by
  rw[okW,Bool.and_eq_true,Bool.and_eq_true,decide_eq_true_eq,decide_eq_true_eq] at h⊢;exact⟨by omega,by omega,Ky a b l _ _ h.2.2⟩
theorem GW{y:Ao}{t:AZ}:EC y t=true↔(t.An.length:Int)=y.Ak+1∧Hw y t.An=true∧Dd y.Ac t.Comes=true:=by
 unfold EC;rw[Bool.and_eq_true,Bool.and_eq_true,decide_eq_true_eq]
structure Alike (y x:Ao):Prop where
 last:x.Ak=y.Ak
 len:x.Ac.length=y.Ac.length
 EX:∀i:Nat,(EJ x i).AR=(EJ y i).AR
 Wh:∀i:Nat,(EJ x i).B5=(EJ y i).B5
theorem JO{l c:AP}(a:c.AR=l.AR)(b:c.B5=l.B5)(d0:Int):∀(ws:List Bool) (d EX r:Int),GS c d0 ws d EX r=GS l d0 ws d EX r
 |[],_,_,_=>rfl
 |true::ws,d,EX,r=>by rw[GS,GS,a,b,JO a b d0 ws]
 |false::ws,d,EX,r=>by rw[GS,GS,a,b,JO a b d0 ws]
theorem I9{y x:Ao}(h:x.Ak=y.Ak){l a:AP}(b:a.AR=l.AR)(c:a.B5=l.B5)(w:List Bool)(d:Int):DU x w a d=DU y w l d:=by
 unfold DU;rw[h,JO b c]
theorem Alike.at{y x:Ao}(h:Alike y x)(w:List Bool)(i d:Int):DU x w (Ej x i) d=DU y w (Ej y i) d:=I9 h.last (h.EX i.toNat) (h.Wh i.toNat) w d
theorem K8{y x:Ao}(h:Alike y x)(w:List Bool)(c:List Int):∀(l:List Int) (f:Int) (out:List Aq),Gb x w c l f out=Gb y w c l f out
 |[],_,_=>rfl
 |i::r,f,out=>by
  rw[Gb,Gb];show Gb x w c r (cond ((DU x w (Ej x i) (max f (D0 c i))).Bm==-1) (x.Ak+1) _) _=_;rw[h.at,h.last,K8 h w c r]
theorem K9{y x:Ao}(h:Alike y x)(w:List Bool)(c:List Int):∀(o:List (List Int)) (out:List Aq),Gc x w c o out=Gc y w c o out
 |[],_=>rfl
 |l::o,out=>by rw[Gc,Gc,K8 h,K9 h w c o]
theorem OA{y x:Ao}(h:Alike y x)(o:List (List Int))(t:AZ):BY x o t=BY y o t:=by
 unfold BY Gd;rw[h.len,K9 h]
theorem MQ{p b:AP→Aq→Bool}:∀(ls a:List AP) (ss:List Aq),ls.length=a.length→(∀i s,i<ls.length→p (ls.getD i H6) s=true→b (a.getD i H6) s=true)→FL p ls ss≤FL b a ss
 |[],[],ss,_,_=>Nat.le_refl _
 |[],_::_,_,h,_=>by cases h
 |_::_,[],_,h,_=>by cases h
 |l::ls,c::a,[],_,_=>by simp[FL]
 |l::ls,c::a,s::ss,d,h=>by
  have g:=MQ ls a ss (by simpa using d) fun i s hi=>h (i+1) s (by simpa using hi);have e:p l s=true→b c s=true:=h 0 s (by simp);rw[FL,FL];cases f:p l s with
  |false=>simp only[cond_false];omega
  |true=>rw[e f];simp only[cond_true];omega
theorem PR {l b:AP} (h:l.Cj≤b.Cj) {s:Aq} (a:Gn l s=true):Gn b s=true:=by
 unfold Gn at a⊢;rw[Bool.and_eq_true,decide_eq_true_eq] at a⊢;exact⟨a.1,by omega⟩
theorem QB{y x:Ao}(a:x.Ac.length=y.Ac.length)(b:∀i:Nat,(EJ x i).Cj≤(EJ y i).Cj)(ss:List Aq):Dm y ss≤Dm x ss:=by
 unfold Dm;refine MQ _ _ ss a.symm fun i s _ h=>?_;unfold Dv at h⊢;cases c:Gn (x.Ac.getD i H6) s with
 |false=>rfl
 |true=>
  have:=PR (b i) c;unfold EJ at this;rw[this] at h;cases h
theorem SI{y x:Ao}(a:Fw y)(b:Fw x){o o':List (List Int)}(h:∀t,EC y t=true→EC x t=true∧Dm y (BY y o t)≤Dm x (BY x o' t)):(Cn y o).1≤(Cn x o').1:=by
 obtain⟨_,c,f⟩:=GA a o;obtain⟨d,_,_⟩:=GA b o';obtain⟨e,g⟩:=h _ c;have:=d _ e;omega
structure Sa(y x:Ao):Prop extends Alike y x where
 LY:x.Ag=y.Ag
 due:∀i:Nat,(EJ x i).Cj=(EJ y i).Cj
 comes:∀i:Nat,(EJ x i).Ax≤(EJ y i).Ax∧(EJ y i).AI≤(EJ x i).AI
 C9:y.An≤x.An
 run:y.Au≤x.Au
theorem HB:∀{ls a:List AP} {cs:List Int},a.length=ls.length→(∀i:Nat,(a.getD i H6).Ax≤(ls.getD i H6).Ax∧(ls.getD i H6).AI≤(a.getD i H6).AI)→Dd ls cs=true→Dd a cs=true
 |[],[],cs,_,_,h=>h
 |[],_::_,_,h,_,_=>by cases h
 |_::_,[],_,h,_,_=>by cases h
 |l::ls,b::a,[],_,_,h=>by cases h
 |l::ls,b::a,c::cs,d,hw,h=>by
  rw[Dd,Bool.and_eq_true] at h⊢;have e:=Fq.1 h.1;have f:b.Ax≤l.Ax∧l.AI≤b.AI:=hw 0;exact⟨Fq.2 (by omega),HB (by simpa using d) (fun i=>hw (i+1)) h.2⟩
theorem Sa.Sb{y x:Ao}(h:Sa y x){t:AZ}(a:EC y t=true):EC x t=true:=by
 obtain⟨b,c,d⟩:=GW.1 a;exact GW.2 ⟨by rw[h.last];exact b,Ky h.C9 h.run _ _ _ c,HB h.len h.comes d⟩
structure M5(y z:Ao):Prop extends Alike y z where
 LY:z.Ag=y.Ag
 due:∀i:Nat,(EJ y i).Cj≤(EJ z i).Cj
 comes:∀i:Nat,(EJ z i).Ax=(EJ y i).Ax∧(EJ y i).AI=(EJ z i).AI
 C9:y.An=z.An
 run:y.Au=z.Au
theorem M5.Sb{y z:Ao}(h:M5 y z){t:AZ}:EC z t=true↔EC y t=true:=by
 rw[GW,GW,h.last];unfold Hw;rw[h.C9,h.run];refine and_congr_right fun _=>and_congr_right fun _=>⟨fun a=>HB h.len.symm (fun i=>?_) a,fun a=>HB h.len (fun i=>?_) a⟩
 ·have:=h.comes i;unfold EJ at this;omega
 ·have:=h.comes i;unfold EJ at this;omega
theorem M5.Ww{y z:Ao}(h:M5 y z)(a:Fw y)(b:Fw z)(o:List (List Int)):(Cn z o).1≤(Cn y o).1:=
 SI b a fun t c=>⟨h.Sb.1 c,by rw[OA h.toAlike];exact QB h.len.symm h.due _⟩
theorem VF{x:Int}(h0:-9223372036854775808≤x)(a:x≤9223372036854775807):LD .i64 x=some ():=by
 unfold LD;have:IntKind.i64.wrap x=x:=HH ⟨by omega,by omega⟩;rw[if_pos this]
theorem SJ(K:Nat)(y:Ao)(h:y.Ac.length≤6):∀(k m i:Nat) (a:List AP),y.Ac.length=i+k→k<m→a=y.Ac.take i→
  DE K y m (i:Int) a=some y.Ac:=by
 intro k
 induction k with
 |zero=>
  intro m i a hi hm b;cases m with
  |zero=>omega
  |succ m=>rw[DE.eq_2,cf (df (by omega)),b,List.take_of_length_le (by omega)]
 |succ k ih=>
  intro m i a hi hm b;cases m with
  |zero=>omega
  |succ m=>
   have c:i<y.Ac.length:=by omega
   have d:a.length≤6:=by rw[b,List.length_take];omega
   rw[DE.eq_2,ct (dt (by omega)),CZ c,bd (show Gy K (⟨y.Ac[i].Ax,y.Ac[i].AI⟩:CN)=some (⟨y.Ac[i].Ax,y.Ac[i].AI⟩:CN) from rfl),FK (by simp only[List.length_cons,List.length_nil];omega),BI (by omega) (by omega),DM];refine ih m (i+1) _ (by omega) (by omega) ?_;rw[b,List.take_add_one,List.getElem?_eq_getElem c];rfl
theorem SK{K:Nat}(hK:2000≤K)(y:Ao)(h:y.Ac.length≤6):CQ K y=some y:=by
 unfold CQ;have:=SJ K y h y.Ac.length K 0 [] (by omega) (by omega) (by simp);rw[Int.natCast_zero] at this;rw[bd this]
theorem Rt(o:List (List Int))(h:o.length≤1000)(d:∀l∈o,l.length≤1000):∀(k m i:Nat) (a:List (List Int)),o.length=i+k→k<m→a=o.take i→
  CM o m a (i:Int)=some o:=by
 intro k
 induction k with
 |zero=>
  intro m i a hi hm c;cases m with
  |zero=>omega
  |succ m=>rw[CM.eq_2,cf (df (by omega)),c,List.take_of_length_le (by omega)]
 |succ k ih=>
  intro m i a hi hm c;cases m with
  |zero=>omega
  |succ m=>
   have b:i<o.length:=by omega
   have e:a.length≤1000:=by rw[c,List.length_take];omega
   have:=d _ (List.getElem_mem b);rw[CM.eq_2,ct (dt (by omega)),CZ b,FK (by simp only[List.length_nil];omega),FK (by simp only[List.length_cons,List.length_nil];omega),BI (by omega) (by omega),DM];refine ih m (i+1) _ (by omega) (by omega) ?_;rw[c,List.take_add_one,List.getElem?_eq_getElem b];rfl
theorem Ru{K:Nat}(hK:2000≤K)(o:List (List Int))(h:o.length≤1000)(a:∀l∈o,l.length≤1000):Ck K o=some o:=by
 unfold Ck;have:=Rt o h a o.length K 0 [] (by omega) (by omega) (by simp);rw[Int.natCast_zero] at this;rw[bd this]
theorem SL(a:List Int)(h:a.length≤1000):∀(k m i:Nat),a.length=i+k→k<m→DD a a m (i:Int)=some (.inr ()):=by
 intro k
 induction k with
 |zero=>
  intro m i hi hm;cases m with
  |zero=>omega
  |succ m=>rw[DD.eq_2,cf (df (by omega))]
 |succ k ih=>
  intro m i hi hm;cases m with
  |zero=>omega
  |succ m=>
   have b:i<a.length:=by omega
   rw[DD.eq_2,ct (dt (by omega)),CZ b,CZ b,cf (by simp),BI (by omega) (by omega),DM];exact ih m (i+1) (by omega) (by omega)
theorem SM{K:Nat}(hK:2000≤K)(a:List Int)(h:a.length≤1000):Fi K a a=some true:=by
 unfold Fi;have:=SL a h a.length K 0 (by omega) (by omega);rw[Int.natCast_zero] at this;rw[cf (by simp),bd this];rfl
theorem Rv{K:Nat}(hK:2000≤K)(y:Ao):E1 K y=some (check y):=by
 unfold E1;rw[bd (OQ hK y)]
def LZ (y:Ao):Bool:=cond (decide ((y.Ac.length:Int)≤6)) (cond (check y !=0) true (decide (G6 y≤60))) false
theorem SN{K:Nat}(hK:2000≤K)(y:Ao):Fj K y=some (LZ y):=by
 unfold Fj LZ;cases b:decide ((y.Ac.length:Int)≤6) with
 |false=>rfl
 |true=>
  rw[ct rfl,ct rfl,bd (OQ hK y)];cases a:(check y !=0) with
  |true=>rfl
  |false=>
   have h0:check y=0:=by simpa[bne] using a
   rw[cf rfl,cf rfl,bd (SE y (EH h0) hK)]
def Kz(y:Ao):Bool:=cond (LZ y) (check y==0) false
theorem Rw{K:Nat}(hK:2000≤K)(y:Ao):E3 K y=some (Kz y):=by
 unfold E3 Kz;rw[bd (SN hK y)];cases LZ y with
 |false=>rfl
 |true=>rw[ct rfl,ct rfl,bd (Rv hK y)]
theorem Rx{y:Ao}(h:Kz y=true):check y=0∧y.Ac.length≤4:=by
 unfold Kz at h;cases a:LZ y with
 |false=>rw[a] at h;cases h
 |true=>
  rw[a] at h;have h0:check y=0:=by simpa using h
  exact⟨h0,(EH h0).n4⟩
def W8(ws:List Int):Prop:=∀w∈ws,0≤w∧w≤255
theorem SO(K:Nat)(ws:List Int)(h:W8 ws)(at_:Int)(h0:0≤at_):∃v:Int,Fk K ws at_=some v∧0≤v∧v≤255:=by
 unfold Fk
 by_cases b:ws.length=0
 ·rw[ct (by rw[b];rfl)];exact⟨0,rfl,by omega,by omega⟩
 ·rw[cf (by rw[beq_eq_false_iff_ne];omega),Mg h0 (by omega)];have c:=Int.emod_nonneg at_ (show(ws.length:Int)≠0 by omega);have e:=Int.emod_lt_of_pos at_ (show(0:Int)<(ws.length:Int) by omega);obtain⟨k,d⟩:=Int.eq_ofNat_of_zero_le c;have a:k<ws.length:=by omega
  rw[d,CZ a];have:=h _ (List.getElem_mem a);rw[bd (VF (by omega) (by omega))];exact⟨_,rfl,this⟩
theorem Ry{K:Nat}(y:Ao)(d:Fw y)(ws:List Int)(h:W8 ws):∀(k m i:Nat) (o:List (List Int)),y.Ac.length=i+k→k<m→(o.length:Int)=y.Ag→o.flatten.Perm (iota i)→
  ∃f,Du K y ws m (i:Int) o=some f∧(f.length:Int)=y.Ag∧f.flatten.Perm (iota y.Ac.length):=by
 have x:=d.n4;have j:=d.r1;have w:=d.r2;intro k
 induction k with
 |zero=>
  intro m i o hi hm g c;cases m with
  |zero=>omega
  |succ m=>
   rw[Du.eq_2,cf (df (by omega))];exact⟨o,rfl,g,by rw[show y.Ac.length=i by omega];exact c⟩
 |succ k ih=>
  intro m i o hi hm g c;cases m with
  |zero=>omega
  |succ m=>
   obtain⟨v,ev,v0,v1⟩:=SO K ws h (i:Int) (by omega);rw[Du.eq_2,ct (dt (by omega)),bd ev,Mg v0 j,VR v0 (by omega),BI (by omega) (by omega)];have q:=Int.emod_nonneg v (show y.Ag≠0 by omega);have z:=Int.emod_lt_of_pos v (show 0<y.Ag by omega);obtain⟨r,s⟩:=Int.eq_ofNat_of_zero_le q;have b:r<o.length:=by omega
   rw[s];have hlen:o[r].length≤4:=by
    have l:=c.length_eq;rw[GL] at l;have:=(List.sublist_flatten_of_mem (List.getElem_mem b)).length_le;omega
   have t:=Int.emod_nonneg (v/4) (show((o[r].length:Int)+1)≠0 by omega);have l:=Int.emod_lt_of_pos (v/4) (show 0<(o[r].length:Int)+1 by omega);obtain⟨a,u⟩:=Int.eq_ofNat_of_zero_le t;rw[CZ b,BI (by omega) (by omega),Mg (by omega) (by omega),CZ b,u,NS (by omega) (by omega) (by omega)];have n:Bq o[r] (0:Int) (a:Int)=o[r].take a:=SF _ _;have p:Bq o[r] (a:Int) (o[r].length:Int)=o[r].drop a:=SG _ _;rw[n,FK (by simp only[List.length_nil,List.length_take];omega),FK (by simp only[List.length_append,List.length_cons,List.length_nil,List.length_take];omega),CZ b,NS (by omega) (by omega) (by omega),p,FK (by simp only[List.length_append,List.length_cons,List.length_nil,List.length_take,List.length_drop];omega),CZ b,BI (by omega) (by omega),DM,Int.toNat_natCast];have e:(([]:List Int)++o[r].take a++[(i:Int)])++o[r].drop a=CK (o.getD r []) (a:Int) (i:Int):=by
    unfold CK;rw[SH b,Int.toNat_natCast];simp
   rw[e];refine ih m (i+1) _ (by omega) (by omega) (by rw[List.length_set];exact g) ?_;refine(Hc (i:Int) o r (a:Int) b).trans ?_;rw[IY];exact(List.Perm.cons _ c).trans (List.perm_append_singleton _ _).symm
theorem RA{K:Nat}(hK:2000≤K)(y:Ao)(a:Fw y)(ws:List Int)(h:W8 ws):∃o,E4 K y ws=some o∧C0 y o=true:=by
 have g:=a.n4;have e:=a.r1;have f:=a.r2;unfold E4;obtain⟨o,b,c,d⟩:=Ry (K:=K) y a ws h y.Ac.length K 0 (List.replicate y.Ag.toNat []) (by omega) (by omega) (by rw[List.length_replicate];omega) (by
  have:∀n:Nat,(List.replicate n ([]:List Int)).flatten=[]:=fun n=>by
   induction n with
   |zero=>rfl
   |succ n ih=>rw[List.replicate_succ,List.flatten_cons,ih];rfl
  rw[this];exact List.Perm.refl _)
 rw[Int.natCast_zero] at b;rw[OL (by omega) (by omega) (by omega),bd b];exact⟨o,rfl,D6.2 ⟨c,d⟩⟩
section
variable{K:Nat}(hK:2000≤K){y:Ao}(h:check y=0)
theorem IG{o:List (List Int)}(h:check y=0)(a:C0 y o=true):o.length≤1000∧(∀l∈o,l.length≤1000)∧o.flatten.length≤1000:=Kx (EH h) a
include hK h
theorem Uj{o:List (List Int)}(a:C0 y o=true){t:AZ}(b:EC y t=true):F6 K y o t=some (BY y o t,0):=by
 obtain⟨c,_,d⟩:=IG h a;rw[Qs y o t hK c d,if_neg (by simp[h]),if_neg (by simp[a,b])]
theorem OS{o:List (List Int)}(a:C0 y o=true){i:Nat}(hi:i<y.Ac.length):ER K y o (i:Int)=some (verdict y o i,0):=by
 obtain⟨b,_,c⟩:=IG h a;have d:Fp (i:Int) 0 ((y.Ac.length:Int)-1)=true:=Fq.2 (by omega);rw[Sz y o i hK b c,if_neg (by simp[h]),if_neg (by simp[a,d]),Int.toNat_natCast]
theorem NV{o:List (List Int)}(a:C0 y o=true):DV K y o=some ((Cn y o).1,(Cn y o).2,0):=by
 obtain⟨b,_,c⟩:=IG h a;rw[Qu y o hK b c,if_neg (by simp[h]),if_neg (by simp[a])]
theorem Uk:GJ K y=some ((HY y).2,(HY y).1,0):=by rw[Ue y hK,if_neg (by simp[h])]
theorem Ul:GK K y=some ((LW y).2.2,(LW y).1,0):=by rw[Uf y hK,if_neg (by simp[h])]
theorem PS:Fm K y=some (F1 y 0 y.Ac.length,0):=by rw[PK y hK,if_neg (by simp[h])]
theorem NW{o:List (List Int)}(a:C0 y o=true)(n:Int):ET K y o n=some (decide ((Cn y o).1≤n)):=by
 obtain⟨b,_,c⟩:=IG h a;rw[NH y o n hK b c,dt h,a];rfl
theorem OB{o:List (List Int)}(a:C0 y o=true){t:AZ}(b:EC y t=true)(n:Int):Fe K y o t n=some (decide (n≤(Dm y (BY y o t):Int))):=by
 obtain⟨c,_,d⟩:=IG h a;rw[Oy y o t n hK c d,dt h,a,b];rfl
end
def y1:Ao:=⟨5,1,1,1,[⟨0,0,2,2,2⟩,⟨1,1,2,1,5⟩]⟩
def t3:AZ:=⟨[0,1],[false,false,false,true,false,false]⟩
theorem H2:check y1=0:=by decide+kernel
theorem Sc:C0 y1 [[0,1]]=true:=D6.2 ⟨rfl,by decide⟩
theorem PT:C0 y1 [[1,0]]=true:=D6.2 ⟨rfl,by decide⟩
theorem Vp:EC y1 t3=true:=by decide+kernel
theorem Vq:BY y1 [[0,1]] t3=[⟨0,1,true⟩,⟨2,3,false⟩]:=by
 have h:∀(a b:List Aq),a.map (fun s=>(s.On,s.Bm,s.AR))=b.map (fun s=>(s.On,s.Bm,s.AR))→a=b:=by
  intro a
  induction a with
  |nil=>intro b h;cases b with|nil=>rfl|cons x l=>cases h
  |cons x l ih=>
   intro b h;cases b with
   |nil=>cases h
   |cons x2 d=>
    have c:=List.cons.inj h;obtain⟨a1,a2,a3⟩:=x;obtain⟨e,f,g⟩:=x2;have i:a1=e∧a2=f∧a3=g:=by simpa using c.1
    obtain⟨rfl,rfl,rfl⟩:=i;rw[ih d c.2]
 exact h _ _ (by decide+kernel)
theorem L0{K:Nat}(hK:2000≤K):CV K=some true:=by
 unfold CV;have a:CA K 1=some y1:=rfl;have c:F9 K 3=some t3:=rfl;have d:ER K y1 [[0,1]] 1=some (verdict y1 [[0,1]] 1,0):=OS hK H2 Sc (i:=1) (by decide);have e:ER K y1 [[1,0]] 0=some (verdict y1 [[1,0]] 0,0):=OS hK H2 PT (i:=0) (by decide);have b:=EH H2;obtain⟨_,f,j⟩:=GA b [[1,0]];obtain⟨_,g,k⟩:=PI b;have v1:verdict y1 [[0,1]] 1=3:=by decide+kernel
 have v2:verdict y1 [[1,0]] 0=2:=by decide+kernel
 have v3:(Cn y1 [[1,0]]).1=2:=by decide+kernel
 have v4:(HY y1).1=1:=by decide+kernel
 have v5:(LW y1).1=1:=by decide+kernel
 have v6:F1 y1 0 y1.Ac.length=[1]:=by decide+kernel
 rw[bd a,bd c,bd (Uj hK H2 Sc Vp),bd a,bd d,bd a,bd e,bd a,bd (NV hK H2 PT),bd a,bd (Uk hK H2),bd a,bd (Ul hK H2),bd a,bd (PS hK H2),Vq];rw[ct (by rfl)];have s1:EE K 0 1 true=some ⟨0,1,true⟩:=rfl;have s2:EE K 2 3 false=some ⟨2,3,false⟩:=rfl;have h:Ga K [⟨0,1,true⟩,⟨2,3,false⟩] ⟨0,1,true⟩ ⟨2,3,false⟩=some true:=rfl;rw[bd s1,bd s2,bd h,ct (by rfl),ct (by rfl),v1,ct (by rfl),ct (by rfl),v2,ct (by rfl),ct (by rfl),v3,ct (by rfl),bd a,bd (OB hK H2 PT f 2),ct (dt (by omega)),ct (by rfl),v4,ct (by rfl),bd a,bd (NW hK H2 g 1),ct (dt (by omega)),ct (by rfl),v5,ct (by rfl),ct (by rfl),v6,bd (SM hK [1] (by decide))]
end Go.Proofs.YtamobliaoknclaaGreat
end
section
namespace Go.Proofs.YtamobliaoknclaaGreat
open Go.RowKit Go.WideShapes
structure Nst (t ti n0:Nat) (w:World) (A:Option Addr) (c:Nat) (rows:List ((Option Addr×Nat)×List Int)):Prop where
 out:AA eT t n0 w FN A c (rows.map fun r=>(true,r))
 IZ:∀r∈rows,AA (Aw .i64) ti n0 w FN r.1.1 r.1.2 r.2
 ap:∀(i j:Nat) r s k,i≠j→rows[i]?=some r→rows[j]?=some s→ob r.1.1=some k→ob s.1.1≠some k
 ao:∀r∈rows,∀k,ob A=some k→ob r.1.1≠some k
theorem G2{w w':World}(h:w.heap.size≤w'.heap.size):Mv w FN w' FN:=⟨h,fun _ h=>h.elim⟩
theorem R2.Um{α:Type}{e:DA α}{w:World}{Z:Nat→Prop}{b:α}:∀{A5:List (List Value)} {xs:List α} (k:Nat) {x:α},R2 e w Z A5 xs→xs[k]?=some x→(∀cs,e.R w Z cs x→e.R w Z cs b)→R2 e w Z A5 (xs.set k b)
 |[],[],_,_,h,_,_=>h
 |[],_::_,_,_,h,_,_=>h.elim
 |_::_,[],_,_,h,_,_=>h.elim
 |_::_,y::_,0,x,h,a,g=>by
  obtain rfl:y=x:=by simpa using a
  exact⟨g _ h.1,h.2⟩
 |_::_,_::_,k+1,x,h,a,g=>⟨h.1,R2.Um k h.2 (by simpa using a) g⟩
namespace Nst
variable{t ti n0:Nat}{w w':World}{A A':Option Addr}{c c':Nat}{rows:List ((Option Addr×Nat)×List Int)}
theorem nil(a:AA eT t n0 w FN A c []):Nst t ti n0 w A c []:=⟨a,fun _ h=>(by cases h),fun _ _ _ _ _ _ h=>by simp at h,fun _ h=>by cases h⟩
theorem keep(h:Nst t ti n0 w A c rows)(a:w.heap.size≤w'.heap.size)(d:∀k,ob A=some k→w'.heap[k]?=w.heap[k]?)(hi:∀r∈rows,∀k,ob r.1.1=some k→w'.heap[k]?=w.heap[k]?):Nst t ti n0 w' A c rows:=
 ⟨h.out.keep (G2 a) d,fun r b=>(h.IZ r b).keep (G2 a) (hi r b),h.ap,h.ao⟩
theorem lt(h:Nst t ti n0 w A c rows):(∀k,ob A=some k→k<w.heap.size)∧∀r∈rows,∀k,ob r.1.1=some k→k<w.heap.size:=⟨h.out.HE,fun r a=>(h.IZ r a).HE⟩
theorem ge(h:Nst t ti n0 w A c rows):(∀k,ob A=some k→n0≤k)∧∀r∈rows,∀k,ob r.1.1=some k→n0≤k:=⟨h.out.ge,fun r a=>(h.IZ r a).ge⟩
theorem ext(h:Nst t ti n0 w A c rows)(g:Ext w w'):Nst t ti n0 w' A c rows:=
 h.keep g.size (fun k a=>g.block k (h.lt.1 k a) (by simp)) (fun r b k a=>g.block k (h.lt.2 r b k a) (by simp))
theorem gr(h:Nst t ti n0 w A c rows){q:Option Nat}(g:w.grownBy w' q)(d:∀k,ob A=some k→some k≠q)(hi:∀r∈rows,∀k,ob r.1.1=some k→some k≠q):Nst t ti n0 w' A c rows:=
 h.keep g.size (fun k a=>g.block k (h.lt.1 k a) (d k a)) (fun r b k a=>g.block k (h.lt.2 r b k a) (hi r b k a))
theorem Wi (h:Nst t ti n0 w A c rows) {q:Option Nat} {n1:Nat} (g:w.grownBy w' q) (d:∀k,q=some k→n1≤k) (a:(∀k,ob A=some k→k<n1)∧∀r∈rows,∀k,ob r.1.1=some k→k<n1):Nst t ti n0 w' A c rows:=
 h.gr g (fun k b e=>by have:=d k e.symm;have:=a.1 k b;omega) (fun r f k b e=>by have:=d k e.symm;have:=a.2 r f k b;omega)
theorem elem (h:Nst t ti n0 w A c rows) {k:Nat} {r:(Option Addr×Nat)×List Int} (d:rows[k]?=some r):∃b o,A=some ⟨b,o,none⟩∧Rz w ZA (some ⟨b,o+k,none⟩) [.slice r.1.1 r.2.length r.1.2]:=by
 obtain⟨b,o,cs,e,⟨j,l,rfl,f,_⟩,a⟩:=AA.FY h.out rfl (x:=(true,r)) (by rw[List.getElem?_map,d];rfl);obtain⟨g,i⟩:=f rfl;rw[g,i] at a;exact⟨b,o,e,a⟩
theorem M6 (h:Nst t ti n0 w A c rows) {k j:Nat} {r:(Option Addr×Nat)×List Int} (d:rows[k]?=some r) {x:Int} (e:r.2[j]?=some x):∃b o,r.1.1=some ⟨b,o,none⟩∧Rz w ZA (some ⟨b,o+j,none⟩) [.int .i64 x]:=by
 obtain⟨b,o,cs,f,g,a⟩:=AA.FY (h.IZ r (List.mem_of_getElem? d)) rfl e;have:cs=[.int .i64 x]:=g;rw[this] at a;exact⟨b,o,f,a⟩
theorem NX(rows:List ((Option Addr×Nat)×List Int))(k:Nat)(r:(Option Addr×Nat)×List Int):(rows.set k r).map (fun r=>(true,r))=(rows.map fun r=>(true,r)).set k (true,r):=List.map_set
theorem put (h:Nst t ti n0 w A c rows) {k:Nat} {r:(Option Addr×Nat)×List Int} (v:rows[k]?=some r) {l:List Int} (y:AA eT t n0 w' FN A c ((rows.set k (r.1,l)).map fun r=>(true,r))) (z:AA (Aw .i64) ti n0 w' FN r.1.1 r.1.2 l)
  (hi:∀(j:Nat) s,j≠k→rows[j]?=some s→AA (Aw .i64) ti n0 w' FN s.1.1 s.1.2 s.2):Nst t ti n0 w' A c (rows.set k (r.1,l)):=by
 have o:k<rows.length:=(List.getElem?_eq_some_iff.1 v).1;have g:∀(i:Nat) (s:(Option Addr×Nat)×List Int),(rows.set k (r.1,l))[i]?=some s→∃m,rows[i]?=some m∧m.1=s.1:=fun i s f=>by
  by_cases e:i=k
  ·subst e;rw[List.getElem?_set_self o] at f;cases f;exact⟨r,v,rfl⟩
  ·rw[List.getElem?_set_ne (by omega)] at f;exact⟨s,f,rfl⟩
 refine⟨y,fun s f=>?_,fun i j a b q x aA aB n=>?_,fun s f q n=>?_⟩
 ·obtain⟨i,d⟩:=List.mem_iff_getElem?.1 f
  by_cases e:i=k
  ·subst e;rw[List.getElem?_set_self o] at d;cases d;exact z
  ·rw[List.getElem?_set_ne (by omega)] at d;exact hi i s e d
 ·obtain⟨a0,p,u⟩:=g i a aA;obtain⟨b0,aC,aD⟩:=g j b aB;rw[←u] at n;rw[←aD];exact h.ap i j a0 b0 q x p aC n
 ·obtain⟨i,d⟩:=List.mem_iff_getElem?.1 f;obtain⟨m,p,u⟩:=g i s d;rw[←u];exact h.ao m (List.mem_of_getElem? p) q n
theorem Un (h:Nst t ti n0 w A c rows) {k:Nat} {r:(Option Addr×Nat)×List Int} (b:rows[k]?=some r) {l:List Int} (f:AA (Aw .i64) ti n0 w FN r.1.1 r.1.2 l) (g:w.grownBy w' (ob A))
  (i:∃A5,R2 eT w FN A5 ((rows.map fun r=>(true,r)).set k (true,(r.1,l)))∧Df w' n0 t eT.sz A ((rows.map fun r=>(true,r)).set k (true,(r.1,l))).length c A5.flatten):Nst t ti n0 w' A c (rows.set k (r.1,l)):=
 h.put b (by rw[NX];exact Ft i (G2 g.size)) (f.keep (G2 g.size) fun q a=>g.block q (h.lt.2 r (List.mem_of_getElem? b) q a) fun e=>h.ao r (List.mem_of_getElem? b) q e.symm a)
  (fun j s _ d=>(h.IZ s (List.mem_of_getElem? d)).keep (G2 g.size) fun q a=>g.block q (h.lt.2 s (List.mem_of_getElem? d) q a) fun e=>h.ao s (List.mem_of_getElem? d) q e.symm a)
theorem Uo (h:Nst t ti n0 w A c rows) {k j:Nat} {r:(Option Addr×Nat)×List Int} (b:rows[k]?=some r) {v:Int} (g:w.grownBy w' (ob r.1.1))
  (n:∃A5,R2 (Aw .i64) w FN A5 (r.2.set j v)∧Df w' n0 ti (Aw .i64).sz r.1.1 (r.2.set j v).length r.1.2 A5.flatten):Nst t ti n0 w' A c (rows.set k (r.1,r.2.set j v)):=by
 refine h.put b ?_ (Ft n (G2 g.size)) (fun i s f d=>(h.IZ s (List.mem_of_getElem? d)).keep (G2 g.size) fun q a=>g.block q (h.lt.2 s (List.mem_of_getElem? d) q a) fun e=>h.ap i k s r q f d b a e.symm);have o:AA eT t n0 w' FN A c (rows.map fun r=>(true,r)):=h.out.keep (G2 g.size) fun q a=>g.block q (h.lt.1 q a) fun e=>h.ao r (List.mem_of_getElem? b) q a e.symm;obtain⟨A5,p,u⟩:=o;refine⟨A5,?_,by rw[NX,List.length_set];exact u⟩;rw[NX];refine R2.Um k p (x:=(true,r)) (by rw[List.getElem?_map,b];rfl) ?_;rintro cs ⟨l,m,rfl,y,_⟩;exact⟨l,m,by show _=[Value.slice l (r.2.set j v).length m];rw[List.length_set],y,fun e=>by cases e⟩
theorem snoc (h:Nst t ti n0 w A c rows) {r:(Option Addr×Nat)×List Int} (u:AA (Aw .i64) ti n0 w FN r.1.1 r.1.2 r.2) (p:∀k,ob r.1.1=some k→ob A≠some k∧∀s∈rows,ob s.1.1≠some k)
  (g:w.grownBy w' (ob A)) (aB:∀k,ob A'=some k→(ob A=some k∨w.heap.size≤k)∧k<w'.heap.size)
  (aC:∃A5 n,R2 eT w FN A5 (rows.map fun r=>(true,r))∧R2 eT w FN n [(true,r)]∧Df w' n0 t eT.sz A' ((rows.map fun r=>(true,r))++[(true,r)]).length c' (A5++n).flatten):Nst t ti n0 w' A' c' (rows++[r]):=by
 have l:∀(i:Nat) s,(rows++[r])[i]?=some s→(i<rows.length∧rows[i]?=some s)∨(i=rows.length∧s=r):=fun i s d=>by
  rcases Nat.lt_trichotomy i rows.length with e|e|e
  ·rw[List.getElem?_append_left e] at d;exact .inl ⟨e,d⟩
  ·subst e;rw[List.getElem?_append_right (Nat.le_refl _),Nat.sub_self] at d;exact .inr ⟨rfl,(Option.some.inj d).symm⟩
  ·rw[List.getElem?_eq_none (by simp;omega)] at d;cases d
 have HE:∀s∈rows++[r],∀q,ob s.1.1=some q→q<w.heap.size:=fun s d q f=>by
  rcases List.mem_append.1 d with d|d
  ·exact h.lt.2 s d q f
  ·rw[List.mem_singleton] at d;subst d;exact u.HE q f
 have v:∀s∈rows++[r],∀q,ob A=some q→ob s.1.1≠some q:=fun s d q f e=>by
  rcases List.mem_append.1 d with d|d
  ·exact h.ao s d q f e
  ·rw[List.mem_singleton] at d;subst d;exact(p q e).1 f
 refine⟨by rw[List.map_append];exact Ec aC (G2 g.size),fun s d=>?_,fun i j a b q x aD y f e=>?_,fun s d q f e=>?_⟩
 ·have z:∀q,ob s.1.1=some q→w'.heap[q]?=w.heap[q]?:=fun q f=>g.block q (HE s d q f) fun e=>v s d q e.symm f;rcases List.mem_append.1 d with d|d
  ·exact(h.IZ s d).keep (G2 g.size) z
  ·rw[List.mem_singleton] at d;subst d;exact u.keep (G2 g.size) z
 ·rcases l i a aD with⟨_,o⟩|⟨aE,rfl⟩
  ·rcases l j b y with⟨_,m⟩|⟨_,rfl⟩
   ·exact h.ap i j a b q x o m f e
   ·exact(p q e).2 a (List.mem_of_getElem? o) f
  ·rcases l j b y with⟨_,m⟩|⟨aF,rfl⟩
   ·exact(p q f).2 b (List.mem_of_getElem? m) e
   ·omega
 ·rcases(aB q f).1 with aA|aA
  ·exact v s d q aA e
  ·exact absurd (HE s d q e) (by omega)
theorem sl (h:Nst t ti n0 w A c rows) {Z:Nat→Prop} (b:∀k,n0≤k→Z k):Sl (By (Aw .i64)) w Z A c (rows.map (·.2)):=by
 have e:AA eT t n0 w Z A c (rows.map fun r=>(true,r)):=h.out.up (F8 fun _ h _=>h.elim);have d:=R6 (fun y f _=>by
  obtain⟨r,g,rfl⟩:=List.mem_map.1 f;exact((h.IZ r g).up (F8 (Z':=Z) fun _ h _=>h.elim)).sl fun k _ a=>b k a) e
 rw[List.map_map] at d;exact d.sl fun k _ a=>b k a
end Nst
theorem KN{w w1 w2:World}{q:Option Nat}(h:Ext w w1)(g:w1.grownBy w2 q)(c:∀k,q=some k→w.heap.size≤k):Ext w w2:=
 ⟨g.os.trans h.os,g.tape.trans h.tape,g.output.trans h.output,Nat.le_trans h.size g.size,fun b a d=>(g.block b (Nat.lt_of_lt_of_le a h.size) fun e=>by have:=c b e.symm;omega).trans (h.block b a d)⟩
def IH (k i:Int):Nat→List (List Int)→Int→Option (List (List Int))
 |0,_,_=>none
 |m+1,s,c=>(idx s i).bind fun x=>cond (decide (c<(x.length:Int))) ((idx s i).bind fun y=>(idx y c).bind fun z=>cond (decide (k<z)) ((idx s i).bind fun a=>(idx a c).bind fun z2=>(i64 (z2-1)).bind fun _=>(i64 (c+1)).bind fun _=>IH k i m (s.set i.toNat (a.set c.toNat (z2-1))) (c+1)) ((i64 (c+1)).bind fun _=>IH k i m s (c+1))) (some s)
def H8(a:Nat)(k:Int):Nat→List (List Int)→Int→Option (List (List Int))
 |0,_,_=>none
 |m+1,s,i=>cond (decide (i<(s.length:Int))) ((IH k i a s 0).bind fun z=>(i64 (i+1)).bind fun _=>H8 a k m z (i+1)) (some s)
theorem GM{rows:List ((Option Addr×Nat)×List Int)}{s:List (List Int)}(h:rows.map (·.2)=s){k:Nat}{x:List Int}(a:s[k]?=some x):∃q,rows[k]?=some q∧q.2=x:=by
 rw[←h,List.getElem?_map] at a;cases b:rows[k]? with
 |none=>rw[b] at a;cases a
 |some q=>rw[b] at a;exact⟨q,rfl,Option.some.inj a⟩
theorem NY{rows:List ((Option Addr×Nat)×List Int)}{k:Nat}{q:(Option Addr×Nat)×List Int}(h:rows[k]?=some q):(rows.map fun r=>(true,r))[k]?=some (true,q):=by rw[List.getElem?_map,h];rfl
theorem KO{rows:List ((Option Addr×Nat)×List Int)}{s:List (List Int)}(h:rows.map (·.2)=s)(k:Nat)(a:Option Addr×Nat)(l:List Int):(rows.set k (a,l)).map (·.2)=s.set k l:=by rw[List.map_set,h]
theorem OT{i:Int}{k:Nat}(h:i=(k:Int)):i.toNat=k:=by omega
end Go.Proofs.YtamobliaoknclaaGreat
end
section
namespace Go.Proofs.YtamobliaoknclaaGreat
def G3(k z:Int):Int:=if k<z then z-1 else z
theorem SP(a b:List Int)(z v:Int):(a++z::b).set a.length v=a++v::b:=by
 rw[List.set_append,if_neg (by omega),Nat.sub_self];rfl
theorem Mo(k:Int)(i:Nat):∀(b a:List Int) (m:Nat) (s:List (List Int)),s[i]?=some (a++b)→b.length<m→(∀z∈b,0≤z∧z≤100000)→a.length+b.length≤100000→IH k (i:Int) m s (a.length:Int)=some (s.set i (a++b.map (G3 k)))
 |[],a,0,s,_,hm,_,_=>by simp at hm
 |_::_,a,0,s,_,hm,_,_=>by simp at hm
 |[],a,m+1,s,h,_,_,_=>by
  have hi:i<s.length:=(List.getElem?_eq_some_iff.1 h).1;have e:s[i]=a:=by have:=(List.getElem?_eq_some_iff.1 h).2;rw[this,List.append_nil]
  rw[IH,CZ hi,e,cf (df (by omega)),List.map_nil,List.append_nil]
  congr 1
  apply List.ext_getElem?;intro j
  by_cases o:j=i
  ·subst o;rw[List.getElem?_set_self hi,h,List.append_nil]
  ·rw[List.getElem?_set_ne (by omega)]
 |z::b,a,m+1,s,h,hm,f,p=>by
  have hi:i<s.length:=(List.getElem?_eq_some_iff.1 h).1;have e:s[i]=a++z::b:=(List.getElem?_eq_some_iff.1 h).2;have t:=f z (by simp);have g:a.length<(a++z::b).length:=by simp
  have l:(a++z::b)[a.length]=z:=by simp
  rw[List.length_cons] at hm p;have n:∀y∈b,0≤y∧y≤100000:=fun y q=>f y (by simp[q]);rw[IH,CZ hi,e,ct (dt (by omega)),CZ hi,e,CZ g,l,List.map_cons]
  by_cases c:k<z
  ·have d:G3 k z=z-1:=if_pos c;have r:(s.set i (a++(z-1)::b))[i]?=some ((a++[z-1])++b):=by rw[List.getElem?_set_self hi,List.append_assoc];rfl
   have ih:=Mo k i b (a++[z-1]) m (s.set i (a++(z-1)::b)) r (by omega) n (by rw[List.length_append];show a.length+1+_≤_;omega);rw[ct (dt c),CZ hi,e,CZ g,l,BI (by omega) (by omega),BI (by omega) (by omega),Int.toNat_natCast,Int.toNat_natCast,SP,DM,d];rw[show(a++[z-1]).length=a.length+1 by simp,List.set_set,List.append_assoc] at ih;exact ih
  ·have d:G3 k z=z:=if_neg c;have ih:=Mo k i b (a++[z]) m s (by rw[h,List.append_assoc];rfl) (by omega) n (by rw[List.length_append];show a.length+1+_≤_;omega);rw[cf (df c),BI (by omega) (by omega),DM,d];rw[show(a++[z]).length=a.length+1 by simp,List.append_assoc] at ih;exact ih
theorem OU{K:Nat}(hK:2000≤K)(k:Int):∀(rest done:List (List Int)) (m:Nat),rest.length<m→(∀l∈rest,l.length≤1000∧∀z∈l,0≤z∧z≤100000)→done.length+rest.length≤100000→H8 K k m (done++rest) (done.length:Int)=some (done++rest.map fun l=>l.map (G3 k))
 |[],done,0,hm,_,_=>by simp at hm
 |_::_,done,0,hm,_,_=>by simp at hm
 |[],done,m+1,_,_,_=>by
  rw[H8,cf (df (by simp)),List.map_nil]
 |l::rest,done,m+1,hm,a,c=>by
  have d:=a l (by simp);rw[List.length_cons] at hm c;have e:(done++l::rest)[done.length]?=some ([]++l):=by rw[List.getElem?_append_right (Nat.le_refl _),Nat.sub_self];rfl
  have f:=Mo k done.length l [] K (done++l::rest) e (by omega) d.2 (by show 0+_≤_;omega);have g:(done++l::rest).set done.length ([]++l.map (G3 k))=(done++[l.map (G3 k)])++rest:=by
   rw[List.set_append,if_neg (by omega),Nat.sub_self,List.append_assoc];rfl
  have ih:=OU hK k rest (done++[l.map (G3 k)]) m (by omega) (fun x h=>a x (by simp[h])) (by rw[List.length_append];show done.length+1+_≤_;omega);have b:IH k (done.length:Int) K (done++l::rest) 0=some ((done++[l.map (G3 k)])++rest):=by rw[←g];exact f
  rw[H8,ct (dt (by rw[List.length_append,List.length_cons];omega)),bd b,BI (by omega) (by omega),DM,List.map_cons];rw[show(done++[l.map (G3 k)]).length=done.length+1 by simp,List.append_assoc,List.append_assoc] at ih;rw[List.append_assoc];exact ih
section
variable{K:Nat}(hK:2000≤K){y:Ao}(h:check y=0)
include hK h
theorem QC:CQ K y=some y:=SK hK y (by have:=(EH h).n4;omega)
theorem OV{o:List (List Int)}(b:C0 y o=true):Ck K o=some o:=by
 have a:=IG h b;exact Ru hK o a.1 a.2.1
end
theorem NZ{α:Type}{l:List α}{i:Nat}(d:α)(h:i<l.length):l.getD i d=l[i]:=by simp[List.getElem?_eq_getElem h]
def DH(y:Ao)(k:Nat):Ao:=⟨y.Ak,y.Ag,y.An,y.Au,y.Ac.eraseIdx k⟩
def JP(t:AZ)(k:Nat):AZ:=⟨t.Comes.eraseIdx k,t.An⟩
def up(k j:Nat):Nat:=if j<k then j else j+1
def Dw(k:Nat)(l:List Int):List Int:=(l.filter fun z=>z !=(k:Int)).map (G3 k)
theorem N0(k j:Nat):G3 (k:Int) ((up k j:Nat):Int)=(j:Int):=by
 unfold G3 up;split<;>split<;>omega
theorem Sd(k j:Nat):up k j≠k:=by unfold up;split<;>omega
theorem Vr{k i:Nat}(h:i≠k):∃j,up k j=i:=by
 by_cases c:i<k
 ·exact⟨i,if_pos c⟩
 ·exact⟨i-1,by unfold up;rw[if_neg (by omega)];omega⟩
theorem M7{k j n:Nat}(a:k<n):j<n-1↔up k j<n:=by unfold up;split<;>omega
theorem MR{α:Type}(l:List α)(k j:Nat):(l.eraseIdx k)[j]?=l[up k j]?:=by
 rw[List.getElem?_eraseIdx];unfold up;split<;>rfl
theorem JQ{α:Type}(l:List α)(k j:Nat)(d:α):(l.eraseIdx k).getD j d=l.getD (up k j) d:=by
 rw[List.getD_eq_getElem?_getD,List.getD_eq_getElem?_getD,MR]
theorem SQ(y:Ao)(k j:Nat):EJ (DH y k) j=EJ y (up k j):=JQ ..
theorem QD(y:Ao)(k j:Nat):Ej (DH y k) (j:Int)=Ej y ((up k j:Nat):Int):=by
 unfold Ej;rw[Int.toNat_natCast,Int.toNat_natCast];exact JQ ..
theorem N1(c:List Int)(k j:Nat):D0 (c.eraseIdx k) (j:Int)=D0 c ((up k j:Nat):Int):=by
 unfold D0;rw[Int.toNat_natCast,Int.toNat_natCast];exact JQ ..
theorem La:∀(ls:List AP) (k:Nat),(∀l∈ls,sized l)→DZ (ls.eraseIdx k)≤DZ ls
 |[],_,_=>Int.le_refl _
 |l::ls,0,h=>by
  have b:=(h l (by simp)).1;have c:=IX fun x a=>h x (List.mem_cons_of_mem l a);have d:1*DZ ls≤CJ l*DZ ls:=Int.mul_le_mul_of_nonneg_right b (by omega);show DZ ls≤CJ l*DZ ls;omega
 |l::ls,k+1,h=>by
  have b:=(h l (by simp)).1;exact Int.mul_le_mul_of_nonneg_left (La ls k fun x a=>h x (List.mem_cons_of_mem l a)) (by omega)
theorem QE{y:Ao}(h:check y=0)(k:Nat):check (DH y k)=0:=by
 have a:=EH h;have hle:(y.Ac.eraseIdx k).length≤y.Ac.length:=List.length_eraseIdx_le ..;have f:=a.n4;have hm:G6 (DH y k)≤1000:=by
  have g:=a.many;have c:=La y.Ac k fun l b=>(a.sz l b).1;have i:((Cu y).length:Int)*DZ (y.Ac.eraseIdx k)≤((Cu y).length:Int)*DZ y.Ac:=Int.mul_le_mul_of_nonneg_left c (by omega);have e:G6 (DH y k)=((Cu y).length:Int)*DZ (y.Ac.eraseIdx k):=rfl;have j:G6 y=((Cu y).length:Int)*DZ y.Ac:=rfl;omega
 have d:(y.Ac.eraseIdx k).all (FA (DH y k))=true:=List.all_eq_true.2 fun l b=>a.Rm l (List.mem_of_mem_eraseIdx b);have m:=a.h0;have n:=a.h9;have r1:=a.r1;have r2:=a.r2;have w1:Fp y.An 0 (y.Ak+1)=true:=Fq.2 ⟨a.w0,a.w1⟩;have u1:Fp y.Au 0 (y.Ak+1)=true:=Fq.2 ⟨a.u0,a.u1⟩;unfold check;rw[if_neg ?_,if_neg ?_,if_neg (by omega)]
 ·show¬(y.Ak<0∨y.Ag<1∨Fp y.An 0 (y.Ak+1)=false∨Fp y.Au 0 (y.Ak+1)=false∨(y.Ac.eraseIdx k).all (FA (DH y k))=false);rw[w1,u1,d];simp;omega
 ·show¬(9<y.Ak∨2<y.Ag∨4<((y.Ac.eraseIdx k).length:Int));omega
theorem KP{y:Ao}{k:Nat}(a:k<y.Ac.length):(DH y k).Ac.length=y.Ac.length-1:=by
 show(y.Ac.eraseIdx k).length=_;rw[List.length_eraseIdx,if_pos a]
theorem Lb:∀(ls:List AP) (cs:List Int) (k:Nat),Dd ls cs=true→Dd (ls.eraseIdx k) (cs.eraseIdx k)=true
 |[],[],_,_=>rfl
 |[],_::_,_,h=>by cases h
 |_::_,[],_,h=>by cases h
 |l::ls,c::cs,0,h=>by
  rw[Dd,Bool.and_eq_true] at h;exact h.2
 |l::ls,c::cs,k+1,h=>by
  rw[Dd,Bool.and_eq_true] at h;rw[List.eraseIdx_cons_succ,List.eraseIdx_cons_succ,Dd,Bool.and_eq_true];exact⟨h.1,Lb ls cs k h.2⟩
theorem L1:∀(ls:List AP) (k:Nat) (cs:List Int),(∀l∈ls,sized l)→k<ls.length→Dd (ls.eraseIdx k) cs=true→∃ds,Dd ls ds=true∧ds.eraseIdx k=cs
 |[],_,_,_,b,_=>by simp at b
 |l::ls,0,cs,a,_,h=>by
  refine⟨l.Ax::cs,?_,rfl⟩;have:=(a l (by simp)).1;unfold CJ at this;rw[Dd,Bool.and_eq_true,Fq];exact⟨by omega,h⟩
 |l::ls,k+1,[],a,_,h=>by cases h
 |l::ls,k+1,c::cs,a,b,h=>by
  rw[List.eraseIdx_cons_succ,Dd,Bool.and_eq_true] at h;obtain⟨ds,d,e⟩:=L1 ls k cs (fun x f=>a x (by simp[f])) (by simpa using b) h.2;exact⟨c::ds,by rw[Dd,h.1,d];rfl,by rw[List.eraseIdx_cons_succ,e]⟩
theorem SR{y:Ao}{t:AZ}(h:EC y t=true)(k:Nat):EC (DH y k) (JP t k)=true:=by
 obtain⟨a,b,c⟩:=GW.1 h;exact GW.2 ⟨a,b,Lb _ _ k c⟩
theorem RB{y:Ao}(a:Fw y){k:Nat}(b:k<y.Ac.length){t:AZ}(h:EC (DH y k) t=true):∃t0,EC y t0=true∧JP t0 k=t:=by
 obtain⟨c,d,e⟩:=GW.1 h;obtain⟨ds,f,g⟩:=L1 y.Ac k t.Comes (fun l i=>(a.sz l i).1) b e;refine⟨⟨ds,t.An⟩,GW.2 ⟨c,d,f⟩,?_⟩;unfold JP;rw[g]
theorem MS(p:AP→Aq→Bool):∀(ls:List AP) (ss:List Aq) (k:Nat),ls.length=ss.length→FL p (ls.eraseIdx k) (ss.eraseIdx k)≤FL p ls ss∧FL p ls ss≤FL p (ls.eraseIdx k) (ss.eraseIdx k)+1
 |[],[],_,_=>⟨Nat.le_refl _,Nat.le_succ _⟩
 |[],_::_,_,h=>by simp at h
 |_::_,[],_,h=>by simp at h
 |l::ls,s::ss,0,h=>by
  rw[List.eraseIdx_cons_zero,List.eraseIdx_cons_zero,FL];cases p l s<;>simp only[cond_true,cond_false]<;>omega
 |l::ls,s::ss,k+1,h=>by
  have:=MS p ls ss k (by simpa using h);rw[List.eraseIdx_cons_succ,List.eraseIdx_cons_succ,FL,FL];omega
theorem N2{y:Ao}{k:Nat}(w:List Bool)(c:List Int):∀(pre:List Int) (f:Int),(∀z∈pre,0≤z∧z≠(k:Int))→H0 (DH y k) w (c.eraseIdx k) (pre.map (G3 k)) f=H0 y w c pre f
 |[],_,_=>rfl
 |z::pre,f,h=>by
  have a:=h z (by simp);obtain⟨n,rfl⟩:=Int.eq_ofNat_of_zero_le a.1;obtain⟨j,rfl⟩:=Vr (k:=k) (i:=n) (by omega);rw[List.map_cons,H0,H0,N0,QD,N1,I9 (y:=y) (x:=DH y k) rfl rfl rfl];exact N2 w c pre _ fun x b=>h x (by simp[b])
structure M8 (o:List (List Int)) (k:Nat):Prop where
 last:∀l∈o,(k:Int)∈l→∃pre,l=pre++[(k:Int)]
theorem RC{k:Nat}{i:Nat}(a:i≠k)(pre post:List Int):Dw k (pre++(i:Int)::post)=Dw k pre++G3 k i::Dw k post:=by
 unfold Dw;rw[List.filter_append,List.map_append,List.filter_cons_of_pos (by simp;omega),List.map_cons]
theorem RD{y:Ao}(aE:check y=0){o:List (List Int)}(d:C0 y o=true){k:Nat}(g:k<y.Ac.length)(r:M8 o k)(h:C0 (DH y k) (o.map (Dw k))=true)(t:AZ){j:Nat}(f:j<(DH y k).Ac.length):
  Il (DH y k) (o.map (Dw k)) (JP t k) j=Il y o t (up k j):=by
 have hi:up k j<y.Ac.length:=(M7 g).1 (by rw[KP g] at f;exact f);obtain⟨s,pre,post,u,e⟩:=Rs d hi;have i:=JN d;have b:∀z∈pre,0≤z∧z≠(k:Int):=fun z c=>by
  have hm:z∈o.flatten:=by rw[e];exact List.mem_flatten.2 ⟨pre++((up k j:Nat):Int)::post,by simp,by simp[c]⟩
  refine⟨((HN d).1 hm).1,fun w=>?_⟩;subst w;have l:pre++((up k j:Nat):Int)::post∈o:=by rw[e];simp
  obtain⟨q,aA⟩:=r.last _ l (by simp[c]);have aB:(pre++((up k j:Nat):Int)::post).Nodup:=by
   have m:=i;rw[e,List.flatten_append,List.flatten_cons,List.nodup_append] at m;exact(List.nodup_append.1 m.2.1).1
  have a:(pre++((up k j:Nat):Int)::post).getLast?=some (k:Int):=by rw[aA];simp
  have n:(k:Int)∈((up k j:Nat):Int)::post:=by
   rw[List.getLast?_append,List.getLast?_cons] at a;have:(k:Int)=post.getLast?.getD ((up k j:Nat):Int):=by simpa using a.symm
   rw[this];cases aC:post.getLast? with
   |none=>simp
   |some v=>exact List.mem_cons_of_mem _ (List.mem_of_getLast? aC)
  exact(List.nodup_append.1 aB).2.2 (k:Int) c (k:Int) n rfl
 have p:Dw k pre=pre.map (G3 k):=by
  unfold Dw;rw[List.filter_eq_self.2 fun z c=>by simpa using(b z c).2]
 have aD:o.map (Dw k)=(s.map (Dw k))++(pre.map (G3 k)++(j:Int)::Dw k post)::(u.map (Dw k)):=by
  rw[e,List.map_append,List.map_cons,RC (Sd k j),p,N0]
 rw[OR h f aD (JP t k),OR d hi e t];show DU (DH y k) t.An (EJ (DH y k) j) (max (H0 (DH y k) t.An (t.Comes.eraseIdx k) (pre.map (G3 k)) 0) (D0 (t.Comes.eraseIdx k) j))=_;rw[SQ,N2 t.An t.Comes pre 0 b,N1,I9 (y:=y) (x:=DH y k) rfl rfl rfl]
theorem KA(y:Ao)(o:List (List Int))(t:AZ):(BY y o t).length=y.Ac.length:=GU ..
theorem QF{y:Ao}(d:check y=0){o:List (List Int)}(e:C0 y o=true){k:Nat}(a:k<y.Ac.length)(f:M8 o k)(c:C0 (DH y k) (o.map (Dw k))=true)(t:AZ):
  BY (DH y k) (o.map (Dw k)) (JP t k)=(BY y o t).eraseIdx k:=by
 apply List.ext_getElem?;intro j;rw[MR];have g:=KA (DH y k) (o.map (Dw k)) (JP t k);have i:=KA y o t
 by_cases b:j<(DH y k).Ac.length
 ·have hi:up k j<y.Ac.length:=(M7 a).1 (by rw[KP a] at b;exact b);have:=RD d e a f c t b;unfold Il at this;rw[NZ _ (by omega),NZ _ (by omega)] at this;rw[List.getElem?_eq_getElem (by omega),List.getElem?_eq_getElem (by omega),this]
 ·have hi:¬up k j<y.Ac.length:=fun h=>b (by rw[KP a];exact(M7 a).2 h);rw[List.getElem?_eq_none (by omega),List.getElem?_eq_none (by omega)]
theorem OW{y:Ao}{o:List (List Int)}(d:C0 y o=true){k:Nat}(f:k<y.Ac.length):C0 (DH y k) (o.map (Dw k))=true:=by
 obtain⟨g,h⟩:=D6.1 d;refine D6.2 ⟨by rw[List.length_map];exact g,?_⟩;have n:(o.map (Dw k)).flatten=Dw k o.flatten:=by
  clear g h d
  induction o with
  |nil=>rfl
  |cons l o ih=>
   rw[List.map_cons,List.flatten_cons,List.flatten_cons,ih];unfold Dw;rw[List.filter_append,List.map_append]
 rw[n,KP f];have p:(Dw k o.flatten).Perm (Dw k (iota y.Ac.length)):=(h.filter _).map _;refine p.trans ?_;refine(List.perm_ext_iff_of_nodup ?_ (JM _)).2 fun z=>?_
 ·unfold Dw;refine List.pairwise_map.2 (List.Pairwise.imp_of_mem ?_ ((JM y.Ac.length).filter (fun z=>z !=(k:Int))));intro a b c i m e;rw[List.mem_filter,HM] at c i;refine m ?_;have a1:a≠(k:Int):=by simpa using c.2
  have q:b≠(k:Int):=by simpa using i.2
  unfold G3 at e;split at e<;>split at e<;>omega
 ·unfold Dw;rw[List.mem_map,HM];constructor
  ·rintro⟨a,c,rfl⟩;rw[List.mem_filter,HM] at c;have a1:a≠(k:Int):=by simpa using c.2
   unfold G3;split<;>omega
  ·rintro⟨z0,r⟩;obtain⟨j,rfl⟩:=Int.eq_ofNat_of_zero_le z0;have hu:=(M7 f).1 (show j<y.Ac.length-1 by omega);exact⟨((up k j:Nat):Int),List.mem_filter.2 ⟨HM.2 ⟨by omega,by omega⟩,by have:=Sd k j;simp;omega⟩,N0 k j⟩
theorem RE {y:Ao} (a:check y=0) {o:List (List Int)} (c:C0 y o=true) {k:Nat} (b:k<y.Ac.length) (h:M8 o k):
  (Cn (DH y k) (o.map (Dw k))).1≤(Cn y o).1∧(Cn y o).1≤(Cn (DH y k) (o.map (Dw k))).1+1:=by
 have d:=EH a;have e:=QE a k;have i:=EH e;have f:=OW c b;have key:∀t,Dm (DH y k) (BY (DH y k) (o.map (Dw k)) (JP t k))≤Dm y (BY y o t)∧Dm y (BY y o t)≤Dm (DH y k) (BY (DH y k) (o.map (Dw k)) (JP t k))+1:=fun t=>by
  rw[QF a c b h f t];exact MS Dv y.Ac (BY y o t) k (KA y o t).symm
 obtain⟨a1,a2,a3⟩:=GA d o;obtain⟨j,l,p⟩:=GA i (o.map (Dw k));constructor
 ·obtain⟨t0,h0,m⟩:=RB d b l;have g:=(key t0).1;rw[m] at g;have n:=a1 t0 h0;omega
 ·have g:=(key (Cn y o).2).2;have n:=j _ (SR a2 k);omega
end Go.Proofs.YtamobliaoknclaaGreat
end
section
namespace Go.Proofs.YtamobliaoknclaaGreat
namespace HF
theorem mixed:Tryz.prog.follows .mixedOrders=true:=by kernel_rfl
theorem JR(b:Nat)(w:World):(Instr.fieldAt 107 (.pointer (some ⟨b,0,none⟩)) 1).run Tryz.prog w=.ok (.pointer (some ⟨b,1,none⟩)) w:=by kernel_rfl
theorem AY:One Tryz.prog 3:=by unfold One;exact⟨by kernel_rfl,by kernel_rfl⟩
theorem JS(b:Nat)(w:World):(Instr.fieldAt 107 (.pointer (some ⟨b,0,none⟩)) 0).run Tryz.prog w=.ok (.pointer (some ⟨b,0,none⟩)) w:=by kernel_rfl
theorem Jk:Bp Tryz.prog 99:=by unfold Bp;kernel_rfl
theorem JT(b:Nat)(w:World):(Instr.fieldAt 134 (.pointer (some ⟨b,0,none⟩)) 1).run Tryz.prog w=.ok (.pointer (some ⟨b,1,none⟩)) w:=by kernel_rfl
theorem JU(b:Nat)(w:World):(Instr.fieldAt 134 (.pointer (some ⟨b,0,none⟩)) 0).run Tryz.prog w=.ok (.pointer (some ⟨b,0,none⟩)) w:=by kernel_rfl
theorem Up:(Tryz.prog.underlying 3).isSome=true:=by kernel_rfl
theorem Hd:(Tryz.prog.info? 124).bind (·.zero)=some (.agg #[I 0,I 0,.bool false]):=by kernel_rfl
theorem Er:(Tryz.prog.info? 124).map (·.size)=some 3:=by kernel_rfl
theorem DW:E0 Tryz.prog 124 3:=by unfold E0;exact⟨by kernel_rfl,by kernel_rfl⟩
theorem C4(b:Nat)(w:World):(Instr.fieldAt 76 (.pointer (some ⟨b,0,none⟩)) 4).run Tryz.prog w=.ok (.pointer (some ⟨b,4,none⟩)) w:=by kernel_rfl
theorem Dn:One Tryz.prog 74:=by unfold One;exact⟨by kernel_rfl,by kernel_rfl⟩
theorem RF(b:Nat)(w:World):(Instr.fieldAt 124 (.pointer (some ⟨b,0,none⟩)) 2).run Tryz.prog w=.ok (.pointer (some ⟨b,2,none⟩)) w:=by kernel_rfl
theorem KQ:One Tryz.prog 4:=by unfold One;exact⟨by kernel_rfl,by kernel_rfl⟩
theorem Lk(b:Nat)(w:World):(Instr.fieldAt 124 (.pointer (some ⟨b,0,none⟩)) 1).run Tryz.prog w=.ok (.pointer (some ⟨b,1,none⟩)) w:=by kernel_rfl
theorem N3(b:Nat)(w:World):(Instr.fieldAt 109 (.pointer (some ⟨b,0,none⟩)) 3).run Tryz.prog w=.ok (.pointer (some ⟨b,4,none⟩)) w:=by kernel_rfl
theorem Hh:E0 Tryz.prog 109 5:=by unfold E0;exact⟨by kernel_rfl,by kernel_rfl⟩
theorem N4:Bp Tryz.prog 86:=by unfold Bp;kernel_rfl
theorem Gr(b:Nat)(w:World):(Instr.fieldAt 63 (.pointer (some ⟨b,0,none⟩)) 0).run Tryz.prog w=.ok (.pointer (some ⟨b,0,none⟩)) w:=by kernel_rfl
theorem Mp:Bp Tryz.prog 172:=by unfold Bp;kernel_rfl
theorem KR(b:Nat)(w:World):(Instr.fieldAt 63 (.pointer (some ⟨b,0,none⟩)) 3).run Tryz.prog w=.ok (.pointer (some ⟨b,3,none⟩)) w:=by kernel_rfl
theorem Mq(b:Nat)(w:World):(Instr.fieldAt 63 (.pointer (some ⟨b,0,none⟩)) 2).run Tryz.prog w=.ok (.pointer (some ⟨b,2,none⟩)) w:=by kernel_rfl
theorem Fx:E0 Tryz.prog 63 5:=by unfold E0;exact⟨by kernel_rfl,by kernel_rfl⟩
theorem SS:Bp Tryz.prog 150:=by unfold Bp;kernel_rfl
theorem GX:(Tryz.prog.info? 3).map (fun i=>(i.zero,i.size,i.bytes))=some (some (I 0),1,8):=by kernel_rfl
theorem SU:Bp Tryz.prog 128:=by unfold Bp;kernel_rfl
theorem EU(b:Nat)(w:World):(Instr.fieldAt 63 (.pointer (some ⟨b,0,none⟩)) 4).run Tryz.prog w=.ok (.pointer (some ⟨b,4,none⟩)) w:=by kernel_rfl
theorem F2:One Tryz.prog 61:=by unfold One;exact⟨by kernel_rfl,by kernel_rfl⟩
theorem HC:(Tryz.prog.info? 136).map (·.size)=some 5:=by kernel_rfl
theorem RG(b o:Nat)(w:World):(Instr.fieldAt 136 (.pointer (some ⟨b,o,none⟩)) 0).run Tryz.prog w=.ok (.pointer (some ⟨b,o,none⟩)) w:=by kernel_rfl
theorem OX:E0 Tryz.prog 134 2:=by unfold E0;exact⟨by kernel_rfl,by kernel_rfl⟩
theorem SV:Bp Tryz.prog 129:=by unfold Bp;kernel_rfl
theorem HO(b:Nat)(w:World):(Instr.fieldAt 63 (.pointer (some ⟨b,0,none⟩)) 1).run Tryz.prog w=.ok (.pointer (some ⟨b,1,none⟩)) w:=by kernel_rfl
theorem Jl:Bp Tryz.prog 127:=by unfold Bp;kernel_rfl
theorem OY:E0 Tryz.prog 136 5:=by unfold E0;exact⟨by kernel_rfl,by kernel_rfl⟩
theorem N5:(Tryz.prog.info? 136).bind (·.zero)=some (.agg #[I 0,I 0,I 0,I 0,I 0]):=by kernel_rfl
theorem II(b:Nat)(w:World):(Instr.fieldAt 136 (.pointer (some ⟨b,0,none⟩)) 0).run Tryz.prog w=.ok (.pointer (some ⟨b,0,none⟩)) w:=by kernel_rfl
theorem N6(b:Nat)(w:World):(Instr.fieldAt 136 (.pointer (some ⟨b,0,none⟩)) 1).run Tryz.prog w=.ok (.pointer (some ⟨b,2,none⟩)) w:=by kernel_rfl
theorem N7(b:Nat)(w:World):(Instr.fieldAt 136 (.pointer (some ⟨b,0,none⟩)) 2).run Tryz.prog w=.ok (.pointer (some ⟨b,3,none⟩)) w:=by kernel_rfl
theorem N8(b:Nat)(w:World):(Instr.fieldAt 136 (.pointer (some ⟨b,0,none⟩)) 3).run Tryz.prog w=.ok (.pointer (some ⟨b,4,none⟩)) w:=by kernel_rfl
theorem QG:Bp Tryz.prog 89:=by unfold Bp;kernel_rfl
theorem JV(b:Nat)(w:World):(Instr.fieldAt 109 (.pointer (some ⟨b,0,none⟩)) 0).run Tryz.prog w=.ok (.pointer (some ⟨b,0,none⟩)) w:=by kernel_rfl
theorem KS:E0 Tryz.prog 107 2:=by unfold E0;exact⟨by kernel_rfl,by kernel_rfl⟩
theorem Hj(b:Nat)(w:World):(Instr.fieldAt 76 (.pointer (some ⟨b,0,none⟩)) 0).run Tryz.prog w=.ok (.pointer (some ⟨b,0,none⟩)) w:=by kernel_rfl
theorem SW:Bp Tryz.prog 135:=by unfold Bp;kernel_rfl
theorem He(b:Nat)(w:World):(Instr.fieldAt 109 (.pointer (some ⟨b,0,none⟩)) 1).run Tryz.prog w=.ok (.pointer (some ⟨b,2,none⟩)) w:=by kernel_rfl
theorem OZ:Bp Tryz.prog 136:=by unfold Bp;kernel_rfl
theorem Ll(b:Nat)(w:World):(Instr.fieldAt 109 (.pointer (some ⟨b,0,none⟩)) 2).run Tryz.prog w=.ok (.pointer (some ⟨b,3,none⟩)) w:=by kernel_rfl
theorem CR:(Tryz.prog.info? 3).map (·.size)=some 1:=by kernel_rfl
theorem Mr:(Tryz.prog.info? 76).bind (·.zero)=some (.agg #[I 0,I 0,I 0,I 0,.slice none 0 0]):=by kernel_rfl
theorem PU:(Tryz.prog.info? 76).map (·.size)=some 5:=by kernel_rfl
theorem CL:E0 Tryz.prog 76 5:=by unfold E0;exact⟨by kernel_rfl,by kernel_rfl⟩
theorem FF:(Tryz.prog.info? 71).bind (·.zero)=some (.agg #[.slice none 0 0,.slice none 0 0]):=by kernel_rfl
theorem N9:(Tryz.prog.info? 4).map (fun i=>(i.zero,i.size,i.bytes))=some (some (.bool false),1,1):=by kernel_rfl
theorem F3:(Tryz.prog.info? 71).map (·.size)=some 2:=by kernel_rfl
theorem Hk(b:Nat)(w:World):(Instr.fieldAt 71 (.pointer (some ⟨b,0,none⟩)) 1).run Tryz.prog w=.ok (.pointer (some ⟨b,1,none⟩)) w:=by kernel_rfl
theorem GY:One Tryz.prog 69:=by unfold One;exact⟨by kernel_rfl,by kernel_rfl⟩
theorem KB:(Tryz.prog.info? 4).map (·.size)=some 1:=by kernel_rfl
theorem F4:E0 Tryz.prog 71 2:=by unfold E0;exact⟨by kernel_rfl,by kernel_rfl⟩
theorem Ms:Tryz.prog.eqGuardType Tryz.prog.depth 124=false:=by kernel_rfl
theorem Lm:Re Tryz.prog 124 [true,true,false]:=Ox Tryz.underlying124 (by kernel_rfl) (by kernel_rfl) AY Tryz.underlying3 KQ Tryz.underlying4
theorem RH:(Tryz.prog.info? 107).bind (·.zero)=some (.agg #[I 0,I 0]):=by kernel_rfl
theorem Uq:(Tryz.prog.info? 107).map (·.size)=some 2:=by kernel_rfl
theorem Ur:Bp Tryz.prog 59:=by unfold Bp;kernel_rfl
theorem RI:(Tryz.prog.info? 109).map (fun i=>(i.zero,i.size,i.bytes))=some (some (.agg #[I 0,I 0,I 0,I 0,I 0]),5,40):=by kernel_rfl
theorem Vs:(Tryz.prog.info? 74).map (·.size)=some 1:=by kernel_rfl
theorem QH:Bp Tryz.prog 88:=by unfold Bp;kernel_rfl
theorem SX:One Tryz.prog 177:=by unfold One;exact⟨by kernel_rfl,by kernel_rfl⟩
theorem GZ:(Tryz.prog.info? 109).map (·.size)=some 5:=by kernel_rfl
theorem SY:Bp Tryz.prog 156:=by unfold Bp;kernel_rfl
theorem SZ:Bp Tryz.prog 138:=by unfold Bp;kernel_rfl
theorem S0:Bp Tryz.prog 137:=by unfold Bp;kernel_rfl
theorem S1:One Tryz.prog 217:=by unfold One;exact⟨by kernel_rfl,by kernel_rfl⟩
theorem S2:Bp Tryz.prog 182:=by unfold Bp;kernel_rfl
theorem S3:Bp Tryz.prog 174:=by unfold Bp;kernel_rfl
theorem S4:Bp Tryz.prog 173:=by unfold Bp;kernel_rfl
theorem O0(b:Nat)(w:World):(Instr.fieldAt 76 (.pointer (some ⟨b,0,none⟩)) 2).run Tryz.prog w=.ok (.pointer (some ⟨b,2,none⟩)) w:=by kernel_rfl
theorem O1(b:Nat)(w:World):(Instr.fieldAt 76 (.pointer (some ⟨b,0,none⟩)) 3).run Tryz.prog w=.ok (.pointer (some ⟨b,3,none⟩)) w:=by kernel_rfl
theorem IJ:(Tryz.prog.info? 3).bind (·.zero)=some (I 0):=by kernel_rfl
theorem S5:Bp Tryz.prog 152:=by unfold Bp;kernel_rfl
theorem S6:Bp Tryz.prog 151:=by unfold Bp;kernel_rfl
theorem S7:Bp Tryz.prog 123:=by unfold Bp;kernel_rfl
theorem O2:Bp Tryz.prog 130:=by unfold Bp;kernel_rfl
theorem Jm(b:Nat)(w:World):(Instr.fieldAt 76 (.pointer (some ⟨b,0,none⟩)) 1).run Tryz.prog w=.ok (.pointer (some ⟨b,1,none⟩)) w:=by kernel_rfl
theorem Us:Bp Tryz.prog 98:=by unfold Bp;kernel_rfl
theorem S8:Bp Tryz.prog 100:=by unfold Bp;kernel_rfl
theorem O3:Bp Tryz.prog 101:=by unfold Bp;kernel_rfl
theorem O4:Bp Tryz.prog 139:=by unfold Bp;kernel_rfl
theorem Ln:(Tryz.prog.info? 109).bind (·.zero)=some (.agg #[I 0,I 0,I 0,I 0,I 0]):=by kernel_rfl
theorem O5:Bp Tryz.prog 103:=by unfold Bp;kernel_rfl
theorem S9:Bp Tryz.prog 102:=by unfold Bp;kernel_rfl
theorem CS:One Tryz.prog 23:=by unfold One;exact⟨by kernel_rfl,by kernel_rfl⟩
theorem Ta:One Tryz.prog 169:=by unfold One;exact⟨by kernel_rfl,by kernel_rfl⟩
theorem Oa(b o:Nat)(w:World):(Instr.fieldAt 109 (.pointer (some ⟨b,o,none⟩)) 0).run Tryz.prog w=.ok (.pointer (some ⟨b,o,none⟩)) w:=by kernel_rfl
theorem RJ(b o:Nat)(w:World):(Instr.fieldAt 107 (.pointer (some ⟨b,o,none⟩)) 0).run Tryz.prog w=.ok (.pointer (some ⟨b,o,none⟩)) w:=by kernel_rfl
theorem KT:One Tryz.prog 149:=by unfold One;exact⟨by kernel_rfl,by kernel_rfl⟩
theorem O6:Bp Tryz.prog 169:=by unfold Bp;kernel_rfl
theorem Tb:(Tryz.prog.info? 23).bind (·.zero)=some (.slice none 0 0):=by kernel_rfl
theorem CU:(Tryz.prog.info? 23).map (·.size)=some 1:=by kernel_rfl
theorem Tc:(Tryz.prog.info? 69).bind (·.zero)=some (.slice none 0 0):=by kernel_rfl
theorem Vt:(Tryz.prog.info? 69).map (·.size)=some 1:=by kernel_rfl
theorem Ob:(Tryz.prog.info? 149).bind (·.zero)=some (.nilFunc):=by kernel_rfl
theorem QI:(Tryz.prog.info? 149).map (·.size)=some 1:=by kernel_rfl
theorem Td(w:World):(Op.equal 23 (.slice none 0 0) (.slice none 0 0)).run Tryz.prog w=.ok true w:=by kernel_rfl
theorem Te(ad:Addr)(n c:Nat)(w:World):(Op.equal 23 (.slice (some ad) n c) (.slice none 0 0)).run Tryz.prog w=.ok false w:=by kernel_rfl
theorem Mt:Bp Tryz.prog 107:=by unfold Bp;kernel_rfl
theorem Tf(w:World):(Op.equal 69 (.slice none 0 0) (.slice none 0 0)).run Tryz.prog w=.ok true w:=by kernel_rfl
theorem Tg(ad:Addr)(n c:Nat)(w:World):(Op.equal 69 (.slice (some ad) n c) (.slice none 0 0)).run Tryz.prog w=.ok false w:=by kernel_rfl
theorem Mu:Bp Tryz.prog 108:=by unfold Bp;kernel_rfl
theorem Iq:(Tryz.prog.info? 23).map (fun i=>(i.zero,i.size,i.bytes))=some (some (.slice none 0 0),1,24):=by kernel_rfl
theorem Th(w:World):(Op.equal 66 (.slice none 0 0) (.slice none 0 0)).run Tryz.prog w=.ok true w:=by kernel_rfl
theorem Ti(ad:Addr)(n c:Nat)(w:World):(Op.equal 66 (.slice (some ad) n c) (.slice none 0 0)).run Tryz.prog w=.ok false w:=by kernel_rfl
theorem Tj:Bp Tryz.prog 134:=by unfold Bp;kernel_rfl
theorem Vu:∀(b c:Bool) (w:World),(Op.equal 4 (.bool b) (.bool c)).run Tryz.prog w=.ok (b==c) w:=by intro b c w;cases b<;>cases c<;>kernel_rfl
theorem HP(b:Nat)(w:World):(Instr.fieldAt 71 (.pointer (some ⟨b,0,none⟩)) 0).run Tryz.prog w=.ok (.pointer (some ⟨b,0,none⟩)) w:=by kernel_rfl
theorem O7:K0 Tryz.prog 201 2:=Ps 2 Tryz.underlying201 (by kernel_rfl) rfl rfl AY Tryz.underlying3
theorem Oc:Nl Tryz.prog 201 2:=Oq 2 Tryz.underlying201 rfl rfl AY Tryz.underlying3
theorem MT:Jx Tryz.prog 201:=by unfold Jx;kernel_rfl
theorem Ut:(Tryz.prog.info? 124).bind (·.zero)=some (.agg #[I 0,I 0,.bool false]):=by kernel_rfl
theorem Hf(b:Nat)(w:World):(Instr.fieldAt 201 (.pointer (some ⟨b,0,none⟩)) 1).run Tryz.prog w=.ok (.pointer (some ⟨b,1,none⟩)) w:=by kernel_rfl
theorem IK(b o:Nat)(w:World):(Instr.fieldAt 173 (.pointer (some ⟨b,o,none⟩)) 0).run Tryz.prog w=.ok (.pointer (some ⟨b,o,none⟩)) w:=by kernel_rfl
theorem Mw(b o:Nat)(w:World):(Instr.fieldAt 76 (.pointer (some ⟨b,o,none⟩)) 0).run Tryz.prog w=.ok (.pointer (some ⟨b,o,none⟩)) w:=by kernel_rfl
theorem O8(b o:Nat)(w:World):(Instr.fieldAt 76 (.pointer (some ⟨b,o,none⟩)) 4).run Tryz.prog w=.ok (.pointer (some ⟨b,o+4,none⟩)) w:=by kernel_rfl
theorem RK(b:Nat)(w:World):(Instr.fieldAt 201 (.pointer (some ⟨b,0,none⟩)) 0).run Tryz.prog w=.ok (.pointer (some ⟨b,0,none⟩)) w:=by kernel_rfl
theorem Od(b o:Nat)(w:World):(Instr.fieldAt 173 (.pointer (some ⟨b,o,none⟩)) 1).run Tryz.prog w=.ok (.pointer (some ⟨b,o+5,none⟩)) w:=by kernel_rfl
theorem Oe(b o:Nat)(w:World):(Instr.fieldAt 173 (.pointer (some ⟨b,o,none⟩)) 2).run Tryz.prog w=.ok (.pointer (some ⟨b,o+6,none⟩)) w:=by kernel_rfl
theorem O9:One Tryz.prog 171:=by unfold One;exact⟨by kernel_rfl,by kernel_rfl⟩
theorem Mx:E0 Tryz.prog 201 2:=by unfold E0;exact⟨by kernel_rfl,by kernel_rfl⟩
theorem Tk:Bp Tryz.prog 153:=by unfold Bp;kernel_rfl
theorem RL:(Tryz.prog.info? 124).map (fun i=>(i.zero,i.size,i.bytes))=some (some (.agg #[I 0,I 0,.bool false]),3,24):=by kernel_rfl
theorem Tl:Bp Tryz.prog 131:=by unfold Bp;kernel_rfl
theorem Tm:Bp Tryz.prog 104:=by unfold Bp;kernel_rfl
theorem Jn:Bp Tryz.prog 56:=by unfold Bp;kernel_rfl
theorem Of:Bp Tryz.prog 57:=by unfold Bp;kernel_rfl
theorem Uu:Bp Tryz.prog 90:=by unfold Bp;kernel_rfl
theorem L2:Bp Tryz.prog 91:=by unfold Bp;kernel_rfl
theorem Og:(Tryz.prog.info? 166).bind (·.zero)=some (.agg #[.nilFunc]):=by kernel_rfl
theorem QJ:(Tryz.prog.info? 166).map (·.size)=some 1:=by kernel_rfl
theorem Oh(b:Nat)(w:World):(Instr.fieldAt 166 (.pointer (some ⟨b,0,none⟩)) 0).run Tryz.prog w=.ok (.pointer (some ⟨b,0,none⟩)) w:=by kernel_rfl
theorem Pb:One Tryz.prog 163:=by unfold One;exact⟨by kernel_rfl,by kernel_rfl⟩
theorem QK:Bp Tryz.prog 95:=by unfold Bp;kernel_rfl
theorem QL:Bp Tryz.prog 97:=by unfold Bp;kernel_rfl
theorem RM:(Tryz.prog.info? 170).bind (·.zero)=some (.pointer none):=by kernel_rfl
theorem Tn:Bp Tryz.prog 142:=by unfold Bp;kernel_rfl
theorem Ir:One Tryz.prog 170:=by unfold One;exact⟨by kernel_rfl,by kernel_rfl⟩
theorem QM(w:World):(Op.equal 170 (.pointer none) (.pointer none)).run Tryz.prog w=.ok true w:=by kernel_rfl
theorem QN:(Tryz.prog.info? 170).map (·.size)=some 1:=by kernel_rfl
theorem My:One Tryz.prog 185:=by unfold One;exact⟨by kernel_rfl,by kernel_rfl⟩
theorem F5:One Tryz.prog 66:=by unfold One;exact⟨by kernel_rfl,by kernel_rfl⟩
theorem QO(ad:Addr)(w:World):(Op.equal 170 (.pointer (some ad)) (.pointer none)).run Tryz.prog w=.ok false w:=by kernel_rfl
theorem To:Bp Tryz.prog 143:=by unfold Bp;kernel_rfl
theorem Tp:Bp Tryz.prog 168:=by unfold Bp;kernel_rfl
theorem IL:(Tryz.prog.info? 161).bind (·.zero)=some (.agg #[I 0,I 0,I 0,I 0]):=by kernel_rfl
theorem Tq:Bp Tryz.prog 126:=by unfold Bp;kernel_rfl
theorem Pc:Bp Tryz.prog 105:=by unfold Bp;kernel_rfl
theorem Is:E0 Tryz.prog 161 4:=by unfold E0;exact⟨by kernel_rfl,by kernel_rfl⟩
theorem Jo:(Tryz.prog.info? 161).map (·.size)=some 4:=by kernel_rfl
theorem Ts:Bp Tryz.prog 106:=by unfold Bp;kernel_rfl
theorem Uv:Bp Tryz.prog 85:=by unfold Bp;kernel_rfl
theorem Oi:Bp Tryz.prog 87:=by unfold Bp;kernel_rfl
theorem QP:Bp Tryz.prog 58:=by unfold Bp;kernel_rfl
theorem Jp:Bp Tryz.prog 21:=by unfold Bp;kernel_rfl
theorem QQ:Bp Tryz.prog 44:=by unfold Bp;kernel_rfl
theorem Tt:Bp Tryz.prog 133:=by unfold Bp;kernel_rfl
theorem Oj:Bp Tryz.prog 94:=by unfold Bp;kernel_rfl
theorem I0:(Tryz.prog.info? 66).map (·.size)=some 1:=by kernel_rfl
theorem Tu:E0 Tryz.prog 166 1:=by unfold E0;exact⟨by kernel_rfl,by kernel_rfl⟩
theorem Tv:Tryz.prog.eqGuardType Tryz.prog.depth 161=false:=by kernel_rfl
theorem Tw:K0 Tryz.prog 161 4:=PZ Tryz.underlying161 AY Tryz.underlying3
theorem Tx:One Tryz.prog 131:=by unfold One;exact⟨by kernel_rfl,by kernel_rfl⟩
theorem Pd:Bp Tryz.prog 132:=by unfold Bp;kernel_rfl
theorem Mz:(Tryz.prog.info? 66).bind (·.zero)=some (.slice none 0 0):=by kernel_rfl
theorem Uw:Bp Tryz.prog 93:=by unfold Bp;kernel_rfl
theorem QR:Bp Tryz.prog 92:=by unfold Bp;kernel_rfl
theorem Ux:Bp Tryz.prog 96:=by unfold Bp;kernel_rfl
theorem Uy:Bp Tryz.prog 42:=by unfold Bp;kernel_rfl
theorem Uz:Bp Tryz.prog 43:=by unfold Bp;kernel_rfl
theorem VS:(Tryz.prog.info? 5).map (·.size)=some 1:=by kernel_rfl
theorem Vv:One Tryz.prog 5:=by unfold One;exact⟨by kernel_rfl,by kernel_rfl⟩
theorem UA:(Tryz.prog.underlying 5).isSome=true:=by kernel_rfl
theorem UB:Bp Tryz.prog 55:=by unfold Bp;kernel_rfl
theorem QS:Bp Tryz.prog 41:=by unfold Bp;kernel_rfl
theorem HD:Bp Tryz.prog 45:=by unfold Bp;kernel_rfl
theorem UC:Bp Tryz.prog 46:=by unfold Bp;kernel_rfl
theorem UD:Bp Tryz.prog 47:=by unfold Bp;kernel_rfl
theorem UE:Bp Tryz.prog 48:=by unfold Bp;kernel_rfl
theorem UF:Bp Tryz.prog 49:=by unfold Bp;kernel_rfl
theorem QT:Bp Tryz.prog 51:=by unfold Bp;kernel_rfl
theorem UG:Bp Tryz.prog 50:=by unfold Bp;kernel_rfl
theorem UH:Bp Tryz.prog 52:=by unfold Bp;kernel_rfl
theorem UI:Bp Tryz.prog 53:=by unfold Bp;kernel_rfl
theorem UJ:Bp Tryz.prog 54:=by unfold Bp;kernel_rfl
theorem UK:Bp Tryz.prog 17:=by unfold Bp;kernel_rfl
theorem L3:Bp Tryz.prog 18:=by unfold Bp;kernel_rfl
theorem UL:Bp Tryz.prog 19:=by unfold Bp;kernel_rfl
theorem Pe:(Tryz.prog.info? 63).bind (·.zero)=some (.agg #[I 0,I 0,I 0,I 0,.slice none 0 0]):=by kernel_rfl
theorem Se:(Tryz.prog.info? 63).map (·.size)=some 5:=by kernel_rfl
theorem JW:(Tryz.prog.info? 136).map (fun i=>(i.zero,i.size,i.bytes))=some (some (.agg #[I 0,I 0,I 0,I 0,I 0]),5,40):=by kernel_rfl
theorem Sf:(Tryz.prog.info? 61).map (·.size)=some 1:=by kernel_rfl
theorem L4:Bp Tryz.prog 20:=by unfold Bp;kernel_rfl
theorem L5:Bp Tryz.prog 22:=by unfold Bp;kernel_rfl
end HF
end Go.Proofs.YtamobliaoknclaaGreat
end
section
namespace Go.Proofs.YtamobliaoknclaaGreat
open Go.RowKit Go.WideShapes
set_option maxRecDepth 20000
open HF
attribute [local irreducible] BT WL CC CW LV BU GP E0 One Bp
theorem Pf(n:Nat)(b:Int)(e:Int)(f:Int)(Z:Nat→Prop)(w:World)(m:Bool)(d:D9 n b e f=some m):
 BU Tryz.prog 99 #[I b,I e,I f] w (fun v w'=>Ext w w'∧BR.R w' (ZZ FN [] Z w.heap.size []) v m):=by
 unfold D9 at d;refine Ba (N:=15) Tryz.func99 rfl rfl (by simp) ?_;intro o h p;have g:=AK (i:=0) (v:=I b) h rfl;have k:=AK (i:=1) (v:=I e) h rfl;have l:=AK (i:=2) (v:=I f) h rfl;clear h;have j:Hp FN [] w [] w:=Hp.start (BM.none w);refine Ad<|Ab<|wa rfl (v:=.bool false) rfl<|Af<|Aa<|Ad<|Ab<|wm rfl (v:=I e) k<|wm rfl (v:=I b) g<|wd rfl (fun st=>EK (ee st rfl) (ee st rfl))<|wm rfl (v:=.bool (decide (e≤b))) rfl ?_;rcases Ap (decide (e≤b)) with a|a
 ·replace d:=AD d a;refine As rfl rfl (Ae rfl a) rfl (by decide) (fun st=>AT (v:=I b) (ee st g))<|As rfl rfl (Ae rfl a) rfl (by decide) (fun st=>AT (v:=I f) (ee st l))<|As rfl rfl (Ae rfl a) rfl (by decide) (fun st=>EK (ee st rfl) (ee st rfl))<|wd rfl (fun st=>AV (v:=.bool (decide (b≤f))) (ee st rfl) a (ee st rfl))<|wa rfl (v:=.bool (decide (b≤f))) rfl<|Af<|Aa<|AG ?_;obtain rfl:=Option.some.inj d;refine AQ rfl rfl ?_;exact⟨j.Bt,rfl⟩
 ·replace d:=AE d a;refine Ai (c:=false) rfl rfl (Ae rfl a) (by decide) rfl (by decide)<|Ai (c:=false) rfl rfl (Ae rfl a) (by decide) rfl (by decide)<|Ai (c:=false) rfl rfl (Ae rfl a) (by decide) rfl (by decide)<|wd rfl (fun st=>Bx (v:=.bool false) (ee st rfl) a (ee st rfl))<|wa rfl (v:=.bool false) rfl<|Af<|Aa<|AG ?_;obtain rfl:=Option.some.inj d;refine AQ rfl rfl ?_;exact⟨j.Bt,rfl⟩
theorem UM(m:Nat)(a:CN)(Z:Nat→Prop)(w:World)(f:Int)(b:ES m a=some f):
 BU Tryz.prog 103 #[.agg #[I a.Lo,I a.Hi]] w (fun v w'=>Ext w w'∧(Fz .i64).R w' (ZZ FN [] Z w.heap.size []) v f):=by
 unfold ES at b;refine Ba (N:=9) Tryz.func103 rfl rfl (by simp) ?_;intro n g o;have e:=AK (i:=0) (v:=.agg #[I a.Lo,I a.Hi]) g rfl;clear g;have d:Hp FN [] w [] w:=Hp.start (BM.none w);refine Ad<|Ab<|we rfl (fun st=>B1 (v:=.agg #[I a.Lo,I a.Hi]) (cs:= #[I a.Lo,I a.Hi]) (ee st e) rfl) ?_;rintro _ w1 ⟨p,rfl,c⟩;have h:=d.nb c;have l:=d.BJ c;refine wa rfl (v:=I 0) rfl<|Af<|Aa<|Ad<|Ab<|wd rfl (fun st=>Am (ee st rfl) (JR _ _))<|wd rfl (fun st=>Ar (v:=I a.Hi) AY (ee st rfl) c.bk rfl)<|wd rfl (fun st=>Am (ee st rfl) (JS _ _))<|wd rfl (fun st=>Ar (v:=I a.Lo) AY (ee st rfl) c.bk rfl) ?_;replace b:=AU b;obtain⟨j,b⟩:=b;refine wd rfl (fun st=>Hl (ee st rfl) (ee st rfl) j) ?_;replace b:=AU b;obtain⟨k,b⟩:=b;refine wd rfl (fun st=>Bv (ee st rfl) (ee st rfl) k)<|wa rfl (v:=I ((a.Hi-a.Lo)+1)) rfl<|Af<|Aa<|AG ?_;obtain rfl:=Option.some.inj b;refine AQ rfl rfl ?_;exact⟨h.Bt,rfl⟩
theorem VT(p:Nat)(a:CN)(g:Int)(Z:Nat→Prop)(w:World)(n:Bool)(e:GO p a g=some n):
 BU Tryz.prog 135 #[.agg #[I a.Lo,I a.Hi],I g] w (fun v w'=>Ext w w'∧BR.R w' (ZZ FN [] Z w.heap.size []) v n):=by
 unfold GO at e;refine Ba (N:=21) Tryz.func135 rfl rfl (by simp) ?_;intro q k r;have l:=AK (i:=0) (v:=.agg #[I a.Lo,I a.Hi]) k rfl;have m:=AK (i:=1) (v:=I g) k rfl;clear k;have j:Hp FN [] w [] w:=Hp.start (BM.none w);refine Ad<|Ab<|we rfl (fun st=>B1 (v:=.agg #[I a.Lo,I a.Hi]) (cs:= #[I a.Lo,I a.Hi]) (ee st l) rfl) ?_;rintro _ w1 ⟨s,rfl,f⟩;have h:=j.nb f;have o:=j.BJ f;refine wa rfl (v:=.bool false) rfl<|Af<|Aa<|Ad<|Ab<|wd rfl (fun st=>Am (ee st rfl) (JS _ _))<|wd rfl (fun st=>Ar (v:=I a.Lo) AY (ee st rfl) f.bk rfl)<|wd rfl (fun st=>EK (ee st rfl) (ee st rfl))<|wm rfl (v:=.bool (decide ((0:Int)≤a.Lo))) rfl ?_;rcases Ap (decide ((0:Int)≤a.Lo)) with b|b
 ·replace e:=AD e b;refine As rfl rfl (Ae rfl b) rfl (by decide) (fun st=>Am (ee st rfl) (JS _ _))<|As rfl rfl (Ae rfl b) rfl (by decide) (fun st=>Ar (v:=I a.Lo) AY (ee st rfl) f.bk rfl)<|As rfl rfl (Ae rfl b) rfl (by decide) (fun st=>Am (ee st rfl) (JR _ _))<|As rfl rfl (Ae rfl b) rfl (by decide) (fun st=>Ar (v:=I a.Hi) AY (ee st rfl) f.bk rfl)<|As rfl rfl (Ae rfl b) rfl (by decide) (fun st=>EK (ee st rfl) (ee st rfl))<|wd rfl (fun st=>AV (v:=.bool (decide (a.Lo≤a.Hi))) (ee st rfl) b (ee st rfl))<|wm rfl (v:=.bool (decide (a.Lo≤a.Hi))) rfl ?_;rcases Ap (decide (a.Lo≤a.Hi)) with d|d
  ·replace e:=AD e d;refine As rfl rfl (Ae rfl d) rfl (by decide) (fun st=>Am (ee st rfl) (JR _ _))<|As rfl rfl (Ae rfl d) rfl (by decide) (fun st=>Ar (v:=I a.Hi) AY (ee st rfl) f.bk rfl)<|As rfl rfl (Ae rfl d) rfl (by decide) (fun st=>AT (v:=I g) (ee st m))<|As rfl rfl (Ae rfl d) rfl (by decide) (fun st=>EK (ee st rfl) (ee st rfl))<|wd rfl (fun st=>AV (v:=.bool (decide (a.Hi≤g))) (ee st rfl) d (ee st rfl))<|wa rfl (v:=.bool (decide (a.Hi≤g))) rfl<|Af<|Aa<|AG ?_;obtain rfl:=Option.some.inj e;refine AQ rfl rfl ?_;exact⟨h.Bt,rfl⟩
  ·replace e:=AE e d;refine Ai (c:=false) rfl rfl (Ae rfl d) (by decide) rfl (by decide)<|Ai (c:=false) rfl rfl (Ae rfl d) (by decide) rfl (by decide)<|Ai (c:=false) rfl rfl (Ae rfl d) (by decide) rfl (by decide)<|Ai (c:=false) rfl rfl (Ae rfl d) (by decide) rfl (by decide)<|wd rfl (fun st=>Bx (v:=.bool false) (ee st rfl) d (ee st rfl))<|wa rfl (v:=.bool false) rfl<|Af<|Aa<|AG ?_;obtain rfl:=Option.some.inj e;refine AQ rfl rfl ?_;exact⟨h.Bt,rfl⟩
 ·replace e:=AE e b;refine Ai (c:=false) rfl rfl (Ae rfl b) (by decide) rfl (by decide)<|Ai (c:=false) rfl rfl (Ae rfl b) (by decide) rfl (by decide)<|Ai (c:=false) rfl rfl (Ae rfl b) (by decide) rfl (by decide)<|Ai (c:=false) rfl rfl (Ae rfl b) (by decide) rfl (by decide)<|Ai (c:=false) rfl rfl (Ae rfl b) (by decide) rfl (by decide)<|wd rfl (fun st=>Bx (v:=.bool false) (ee st rfl) b (ee st rfl))<|wm rfl (v:=.bool false) rfl<|Ai rfl rfl rfl (by decide) rfl (by decide)<|Ai rfl rfl rfl (by decide) rfl (by decide)<|Ai rfl rfl rfl (by decide) rfl (by decide)<|Ai rfl rfl rfl (by decide) rfl (by decide)<|wd rfl (fun st=>Bx (v:=.bool false) (ee st rfl) rfl (ee st rfl))<|wa rfl (v:=.bool false) rfl<|Af<|Aa<|AG ?_;obtain rfl:=Option.some.inj e;refine AQ rfl rfl ?_;exact⟨h.Bt,rfl⟩
theorem UN(d:Nat)(b:Int)(Z:Nat→Prop)(w:World)(e:Bool)(a:GD d b=some e):
 BU Tryz.prog 136 #[I b] w (fun v w'=>Ext w w'∧BR.R w' (ZZ FN [] Z w.heap.size []) v e):=by
 unfold GD at a;refine Ba (N:=5) Tryz.func136 rfl rfl (by simp) ?_;intro l f m;have c:=AK (i:=0) (v:=I b) f rfl;clear f;have g:Hp FN [] w [] w:=Hp.start (BM.none w);refine Ad<|Ab<|wa rfl (v:=.bool false) rfl<|Af<|Aa<|Ad<|Ab<|wm rfl (v:=I b) c ?_;replace a:=bind_some a;obtain⟨r1,h,a⟩:=a;refine we rfl (fun st=>AO Jk (ee st rfl) (FB (ee st rfl) (ee st rfl) (ee st rfl)) (Pf d b 1 5 ZA _ r1 h)) ?_;rintro _ w2 ⟨j,rfl⟩;have k:=g.ext j;refine wa rfl (v:=.bool r1) rfl<|Af<|Aa<|AG ?_;obtain rfl:=Option.some.inj a;refine AQ rfl rfl ?_;exact⟨k.Bt,rfl⟩
theorem a127(n:Nat)(b:Int)(e:Int)(f:Int)(Z:Nat→Prop)(w:World)(m:Bool)(d:DP n b e f=some m):
 BU Tryz.prog 127 #[I b,I e,I f] w (fun v w'=>Ext w w'∧BR.R w' (ZZ FN [] Z w.heap.size []) v m):=by
 unfold DP at d;refine Ba (N:=15) Tryz.func127 rfl rfl (by simp) ?_;intro o h p;have g:=AK (i:=0) (v:=I b) h rfl;have k:=AK (i:=1) (v:=I e) h rfl;have l:=AK (i:=2) (v:=I f) h rfl;clear h;have j:Hp FN [] w [] w:=Hp.start (BM.none w);refine Ad<|Ab<|wa rfl (v:=.bool false) rfl<|Af<|Aa<|Ad<|Ab<|wm rfl (v:=I b) g<|wm rfl (v:=I e) k<|wd rfl (fun st=>Lu (ee st rfl) (ee st rfl))<|wm rfl (v:=.bool (decide (e≤b))) rfl ?_;rcases Ap (decide (e≤b)) with a|a
 ·replace d:=AD d a;refine As rfl rfl (Ae rfl a) rfl (by decide) (fun st=>AT (v:=I b) (ee st g))<|As rfl rfl (Ae rfl a) rfl (by decide) (fun st=>AT (v:=I f) (ee st l))<|As rfl rfl (Ae rfl a) rfl (by decide) (fun st=>EK (ee st rfl) (ee st rfl))<|wd rfl (fun st=>AV (v:=.bool (decide (b≤f))) (ee st rfl) a (ee st rfl))<|wa rfl (v:=.bool (decide (b≤f))) rfl<|Af<|Aa<|AG ?_;obtain rfl:=Option.some.inj d;refine AQ rfl rfl ?_;exact⟨j.Bt,rfl⟩
 ·replace d:=AE d a;refine Ai (c:=false) rfl rfl (Ae rfl a) (by decide) rfl (by decide)<|Ai (c:=false) rfl rfl (Ae rfl a) (by decide) rfl (by decide)<|Ai (c:=false) rfl rfl (Ae rfl a) (by decide) rfl (by decide)<|wd rfl (fun st=>Bx (v:=.bool false) (ee st rfl) a (ee st rfl))<|wa rfl (v:=.bool false) rfl<|Af<|Aa<|AG ?_;obtain rfl:=Option.some.inj d;refine AQ rfl rfl ?_;exact⟨j.Bt,rfl⟩
theorem VU(m:Nat)(a:CN)(Z:Nat→Prop)(w:World)(f:Int)(b:Fh m a=some f):
 BU Tryz.prog 129 #[.agg #[I a.Lo,I a.Hi]] w (fun v w'=>Ext w w'∧(Fz .i64).R w' (ZZ FN [] Z w.heap.size []) v f):=by
 unfold Fh at b;refine Ba (N:=9) Tryz.func129 rfl rfl (by simp) ?_;intro n g o;have e:=AK (i:=0) (v:=.agg #[I a.Lo,I a.Hi]) g rfl;clear g;have d:Hp FN [] w [] w:=Hp.start (BM.none w);refine Ad<|Ab<|we rfl (fun st=>B1 (v:=.agg #[I a.Lo,I a.Hi]) (cs:= #[I a.Lo,I a.Hi]) (ee st e) rfl) ?_;rintro _ w1 ⟨p,rfl,c⟩;have h:=d.nb c;have l:=d.BJ c;refine wa rfl (v:=I 0) rfl<|Af<|Aa<|Ad<|Ab<|wd rfl (fun st=>Am (ee st rfl) (JT _ _))<|wd rfl (fun st=>Ar (v:=I a.Hi) AY (ee st rfl) c.bk rfl)<|wd rfl (fun st=>Am (ee st rfl) (JU _ _))<|wd rfl (fun st=>Ar (v:=I a.Lo) AY (ee st rfl) c.bk rfl) ?_;replace b:=AU b;obtain⟨j,b⟩:=b;refine wd rfl (fun st=>Hl (ee st rfl) (ee st rfl) j) ?_;replace b:=AU b;obtain⟨k,b⟩:=b;refine wd rfl (fun st=>Bv (ee st rfl) (ee st rfl) k)<|wa rfl (v:=I ((a.Hi-a.Lo)+1)) rfl<|Af<|Aa<|AG ?_;obtain rfl:=Option.some.inj b;refine AQ rfl rfl ?_;exact⟨h.Bt,rfl⟩
theorem RN(n:Nat)(b:Int)(c:Int)(Z:Nat→Prop)(w:World)(h:Bool)(a:Eh n b c=some h):
 BU Tryz.prog 172 #[I b,I c] w (fun v w'=>Ext w w'∧BR.R w' (ZZ FN [] Z w.heap.size []) v h):=by
 unfold Eh at a;refine Ba (N:=11) Tryz.func172 rfl rfl (by simp) ?_;intro o e p;have f:=AK (i:=0) (v:=I b) e rfl;have g:=AK (i:=1) (v:=I c) e rfl;clear e;have j:Hp FN [] w [] w:=Hp.start (BM.none w);refine Ad<|Ab<|wa rfl (v:=.bool false) rfl<|Af<|Aa<|Ad<|Ab<|wm rfl (v:=I b) f<|wm rfl (v:=I c) g ?_;replace a:=JB a;obtain⟨l,a⟩:=a;refine wd rfl (fun st=>Lv (k:=.u64) Up Tryz.underlying32 (ee st rfl) l) ?_;replace a:=MH a;obtain⟨m,a⟩:=a;refine wd rfl (fun st=>R0 (ee st rfl) (ee st rfl) m) ?_;replace a:=HI a;obtain⟨d,a⟩:=a;refine wd rfl (fun st=>KC (ee st rfl) (ee st rfl) d.1 d.2)<|wd rfl (fun st=>CE (ee st rfl) (ee st rfl))<|wa rfl (v:=.bool (((E9 b c)%2)==1)) rfl<|Af<|Aa<|AG ?_;obtain rfl:=Option.some.inj a;refine AQ rfl rfl ?_;exact⟨j.Bt,rfl⟩
theorem a51(s:Nat)(a:Int)(b:Int)(c:Bool)(Z:Nat→Prop)(w:World)(m:Aq)(o:EE s a b c=some m):
 BU Tryz.prog 51 #[I a,I b,.bool c] w (fun v w'=>Ext w w'∧(DT Cs).R w' (ZZ FN [] Z w.heap.size []) v m):=by
 unfold EE at o;refine Ba (N:=11) Tryz.func51 rfl rfl (by simp) ?_;intro t e u;have h:=AK (i:=0) (v:=I a) e rfl;have j:=AK (i:=1) (v:=I b) e rfl;have k:=AK (i:=2) (v:=.bool c) e rfl;clear e;have f:Hp FN [] w [] w:=Hp.start (BM.none w);refine Ad<|Ab<|we rfl (fun st=>BL (cs:= #[I 0,I 0,.bool false]) Hd rfl) ?_;rintro _ w1 ⟨x,rfl,d⟩;have p:=f.nb d;have r:=f.BJ d;refine Af<|Aa<|Ad<|Ab<|wm rfl (v:=I a) h<|wm rfl (v:=I b) j<|wm rfl (v:=.bool c) k<|wd rfl (fun st=>C7 (vs:= #[(0,I a),(1,I b),(2,.bool c)]) (v:=.agg #[I a,I b,.bool c]) (J4 (ee st rfl) (ee st rfl) (ee st rfl)) (by kernel_rfl))<|Bh rfl rfl (fun st=>Be (n:=3) (l:=[I a,I b,.bool c]) (B6:= #[I a,I b,.bool c]) (ee st rfl) (ee st rfl) Er d.bk rfl rfl (show 0+3≤3 by decide) (AL rfl) rfl) ?_;rintro _ w2 g;have q:=p.gr g.gr 0 rfl;refine Af<|Aa<|AG ?_;obtain rfl:=Option.some.inj o;refine GF (v:=.agg #[I a,I b,.bool c]) rfl rfl (Da DW g.bk rfl rfl) ?_;exact⟨q.Bt,⟨_,rfl,rfl⟩⟩
theorem a85(n:Nat)(a:Ao)(e:Int)(b:Option Addr)(c:Nat)(Z:Nat→Prop)(w:World)(g:Sl AH w Z b c a.Ac)(o:Bool)(d:Fv n a e=some o):
 BU Tryz.prog 85 #[.agg #[I a.Ak,I a.Ag,I a.An,I a.Au,.slice b a.Ac.length c],I e] w (fun v w'=>Ext w w'∧BR.R w' (ZZ FN [] Z w.heap.size []) v o):=by
 unfold Fv at d;refine Ba (N:=11) Tryz.func85 rfl rfl (by simp) ?_;intro y j z;have k:=AK (i:=0) (v:=.agg #[I a.Ak,I a.Ag,I a.An,I a.Au,.slice b a.Ac.length c]) j rfl;have l:=AK (i:=1) (v:=I e) j rfl;clear j;have h:Hp FN [] w [] w:=Hp.start (BM.none w);have m:=g.mv (Bo (Z:=Z) (L:=[]) w);refine Ad<|Ab<|we rfl (fun st=>B1 (v:=.agg #[I a.Ak,I a.Ag,I a.An,I a.Au,.slice b a.Ac.length c]) (cs:= #[I a.Ak,I a.Ag,I a.An,I a.Au,.slice b a.Ac.length c]) (ee st k) rfl) ?_;rintro _ w1 ⟨aA,rfl,f⟩;have p:=h.nb f;have x:=h.BJ f;refine wa rfl (v:=.bool false) rfl<|Af<|Aa<|Ad<|Ab<|wm rfl (v:=I e) l<|wd rfl (fun st=>Am (ee st rfl) (C4 _ _))<|wd rfl (fun st=>Ar (v:=.slice b a.Ac.length c) Dn (ee st rfl) f.bk rfl)<|wd rfl (fun st=>BO Tryz.underlying74 (ee st rfl)) ?_;replace d:=AU d;obtain⟨q,d⟩:=d;refine wd rfl (fun st=>Hl (ee st rfl) (ee st rfl) q) ?_;replace d:=bind_some d;obtain⟨r,s,d⟩:=d;refine we rfl (fun st=>AO Jk (ee st rfl) (FB (ee st rfl) (ee st rfl) (ee st rfl)) (Pf n e 0 ((a.Ac.length:Int)-1) ZA _ r s)) ?_;rintro _ aB ⟨t,rfl⟩;have u:=p.ext t;refine wa rfl (v:=.bool r) rfl<|Af<|Aa<|AG ?_;obtain rfl:=Option.some.inj d;refine AQ rfl rfl ?_;exact⟨u.Bt,rfl⟩
theorem UO(s:Nat)(a:AP)(d:Aq)(Z:Nat→Prop)(w:World)(p:Bool)(f:Dc s a d=some p):
 BU Tryz.prog 86 #[.agg #[I a.Ax,I a.AI,I a.AR,I a.B5,I a.Cj],.agg #[I d.On,I d.Bm,.bool d.AR]] w (fun v w'=>Ext w w'∧BR.R w' (ZZ FN [] Z w.heap.size []) v p):=by
 unfold Dc at f;refine Ba (N:=14) Tryz.func86 rfl rfl (by simp) ?_;intro t m u;have n:=AK (i:=0) (v:=.agg #[I a.Ax,I a.AI,I a.AR,I a.B5,I a.Cj]) m rfl;have o:=AK (i:=1) (v:=.agg #[I d.On,I d.Bm,.bool d.AR]) m rfl;clear m;have j:Hp FN [] w [] w:=Hp.start (BM.none w);refine Ad<|Ab<|we rfl (fun st=>B1 (v:=.agg #[I a.Ax,I a.AI,I a.AR,I a.B5,I a.Cj]) (cs:= #[I a.Ax,I a.AI,I a.AR,I a.B5,I a.Cj]) (ee st n) rfl) ?_;rintro _ w1 ⟨x,rfl,g⟩;have k:=j.nb g;have q:=j.BJ g;refine we rfl (fun st=>B1 (v:=.agg #[I d.On,I d.Bm,.bool d.AR]) (cs:= #[I d.On,I d.Bm,.bool d.AR]) (ee st o) rfl) ?_;rintro _ w2 ⟨y,rfl,e⟩;have l:=k.nb e;have r:=k.BJ e;refine wa rfl (v:=.bool false) rfl<|Af<|Aa<|Ad<|Ab<|wd rfl (fun st=>Am (ee st rfl) (RF _ _))<|wd rfl (fun st=>Ar (v:=.bool d.AR) KQ (ee st rfl) e.bk rfl)<|wm rfl (v:=.bool d.AR) rfl ?_;rcases Ap (d.AR) with b|b
 ·replace f:=AD f b;refine As rfl rfl (Ae rfl b) rfl (by decide) (fun st=>Am (ee st rfl) (Lk _ _))<|As rfl rfl (Ae rfl b) rfl (by decide) (fun st=>Ar (v:=I d.Bm) AY (ee st rfl) e.bk rfl)<|As rfl rfl (Ae rfl b) rfl (by decide) (fun st=>Am (ee st rfl) (N3 _ _)) ?_;have h:=(g.bk.ext e.gr);refine As rfl rfl (Ae rfl b) rfl (by decide) (fun st=>Ar (v:=I a.Cj) AY (ee st rfl) h rfl)<|As rfl rfl (Ae rfl b) rfl (by decide) (fun st=>EK (ee st rfl) (ee st rfl))<|wd rfl (fun st=>AV (v:=.bool (decide (d.Bm≤a.Cj))) (ee st rfl) b (ee st rfl))<|wa rfl (v:=.bool (decide (d.Bm≤a.Cj))) rfl<|Af<|Aa<|AG ?_;obtain rfl:=Option.some.inj f;refine AQ rfl rfl ?_;exact⟨l.Bt,rfl⟩
 ·replace f:=AE f b;refine Ai (c:=false) rfl rfl (Ae rfl b) (by decide) rfl (by decide)<|Ai (c:=false) rfl rfl (Ae rfl b) (by decide) rfl (by decide)<|Ai (c:=false) rfl rfl (Ae rfl b) (by decide) rfl (by decide)<|Ai (c:=false) rfl rfl (Ae rfl b) (by decide) rfl (by decide)<|Ai (c:=false) rfl rfl (Ae rfl b) (by decide) rfl (by decide)<|wd rfl (fun st=>Bx (v:=.bool false) (ee st rfl) b (ee st rfl))<|wa rfl (v:=.bool false) rfl<|Af<|Aa<|AG ?_;obtain rfl:=Option.some.inj f;refine AQ rfl rfl ?_;exact⟨l.Bt,rfl⟩
theorem VG(n:Nat)(a:AP)(b:Aq)(Z:Nat→Prop)(w:World)(o:Bool)(d:D4 n a b=some o):
 BU Tryz.prog 95 #[.agg #[I a.Ax,I a.AI,I a.AR,I a.B5,I a.Cj],.agg #[I b.On,I b.Bm,.bool b.AR]] w (fun v w'=>Ext w w'∧BR.R w' (ZZ FN [] Z w.heap.size []) v o):=by
 unfold D4 at d;refine Ba (N:=9) Tryz.func95 rfl rfl (by simp) ?_;intro y j z;have k:=AK (i:=0) (v:=.agg #[I a.Ax,I a.AI,I a.AR,I a.B5,I a.Cj]) j rfl;have m:=AK (i:=1) (v:=.agg #[I b.On,I b.Bm,.bool b.AR]) j rfl;clear j;have g:Hp FN [] w [] w:=Hp.start (BM.none w);refine Ad<|Ab<|we rfl (fun st=>B1 (v:=.agg #[I a.Ax,I a.AI,I a.AR,I a.B5,I a.Cj]) (cs:= #[I a.Ax,I a.AI,I a.AR,I a.B5,I a.Cj]) (ee st k) rfl) ?_;rintro _ w1 ⟨aA,rfl,e⟩;have h:=g.nb e;have u:=g.BJ e;refine we rfl (fun st=>B1 (v:=.agg #[I b.On,I b.Bm,.bool b.AR]) (cs:= #[I b.On,I b.Bm,.bool b.AR]) (ee st m) rfl) ?_;rintro _ w2 ⟨aB,rfl,c⟩;have p:=h.nb c;have x:=h.BJ c;refine wa rfl (v:=.bool false) rfl<|Af<|Aa<|Ad<|Ab ?_;have f:=(e.bk.ext c.gr);refine wd rfl (fun st=>Bi (l:=[I a.Ax,I a.AI,I a.AR,I a.B5,I a.Cj]) Hh (ee st rfl) f rfl rfl)<|wd rfl (fun st=>Bi (l:=[I b.On,I b.Bm,.bool b.AR]) DW (ee st rfl) c.bk rfl rfl) ?_;replace d:=bind_some d;obtain⟨q,r,d⟩:=d;refine we rfl (fun st=>AO N4 (ee st rfl) (Ex (ee st rfl) (ee st rfl)) (UO n a b ZA _ q r)) ?_;rintro _ aC ⟨s,rfl⟩;have t:=p.ext s;refine wd rfl (fun st=>DN (ee st rfl))<|wa rfl (v:=.bool !q) rfl<|Af<|Aa<|AG ?_;obtain rfl:=Option.some.inj d;refine AQ rfl rfl ?_;exact⟨t.Bt,rfl⟩
end Go.Proofs.YtamobliaoknclaaGreat
end
