import Derived.Test.YtbhofkcbfblijaaGreatCF1
import Derived.WalkKit
import Derived.KernelRfl
import Derived.WalkSpells
import Derived.WalkLawsBesides
import Derived.Maps.AppendAt
import Derived.OrdersIn
import Derived.RangeFuncIn
import Derived.RangeFuncLeaves
import Derived.RangeFuncRecord
import Derived.RangeFuncSeq
import Derived.Scope
import Derived.DeepKeys3
import Derived.Laws.CopyRow
import Derived.Laws.OwnMore
import Derived.Laws.MakeOwn
import Derived.Laws.IdiomCopy
import Derived.Sort.OwnSortedInts
import Derived.Lib.RowBridge
import Derived.Test.YtbhofkcbfblijaaGreatProg
/-
  The contracts of the functions of the program and of the reference, and the logic that they are proved in: the base that several claims of this seat share.
-/
set_option linter.all false
section
namespace Go.Proofs.YtbhofkcbfblijaaGreat
open Go.RowKit Go.WideShapes
def JR(d:Nat)(c:Aq):Nat→Int→Option ((Int)⊕(Unit))
 |0,_=>none
 |e+1,a=>cond (decide (a<(c.Ao.length:Int))) ((idx c.Ao a).bind fun b=>(Dx d b.B6 0 100).bind fun f=>cond (!f) (some (.inl (1:Int))) ((Dx d b.Ea 0 100).bind fun g=>cond (!g) (some (.inl (1:Int))) (cond (decide ((0:Int)<a)) ((i64 (a-1)).bind fun _=>(idx c.Ao (a-1)).bind fun h=>cond (decide (h.B6≤b.B6)) (some (.inl (1:Int))) ((i64 (a-1)).bind fun _=>(idx c.Ao (a-1)).bind fun i=>cond (decide (i.Ea<b.Ea)) (some (.inl (1:Int))) ((i64 (a+1)).bind fun _=>JR d c e (a+1)))) ((i64 (a+1)).bind fun _=>JR d c e (a+1))))) (some (.inr ()))
def H6(c:Nat)(b:Aq):Nat→Int→Option ((Int)⊕(Unit))
 |0,_=>none
 |h+1,a=>cond (decide (a<(b.Am.length:Int))) ((idx b.Am a).bind fun d=>(i64 ((b.Ao.length:Int)-1)).bind fun _=>(Dx c d.EC 0 ((b.Ao.length:Int)-1)).bind fun e=>cond (!e) (some (.inl (1:Int))) ((idx b.Am a).bind fun f=>(Dx c f.ER 1 90).bind fun g=>cond (!g) (some (.inl (1:Int))) ((i64 (a+1)).bind fun _=>H6 c b h (a+1)))) (some (.inr ()))
def H7(d:Nat)(b:Aq):Nat→Int→Option ((Int)⊕(Unit))
 |0,_=>none
 |h+1,a=>cond (decide (a<(b.Ak.length:Int))) ((idx b.Ak a).bind fun e=>(i64 ((b.Aa.length:Int)-1)).bind fun _=>(Dx d e.Cn 0 ((b.Aa.length:Int)-1)).bind fun f=>cond (!f) (some (.inl (1:Int))) ((idx b.Ak a).bind fun c=>(KU d (⟨c.C5,c.C6⟩:AR) 0 9000).bind fun g=>cond (!g) (some (.inl (1:Int))) ((i64 (a+1)).bind fun _=>H7 d b h (a+1)))) (some (.inr ()))
def Gg(b:Nat)(a:Aq):Option (Int):=
 (Lr b (⟨a.Af,a.Aa,a.Ag⟩:AU)).bind fun f=>cond (f !=0) (some (f)) (cond (decide ((3:Int)<(a.Ao.length:Int))) (some (3)) (cond (decide ((3:Int)<(a.Am.length:Int))) (some (3)) (cond (decide ((5:Int)<(a.Ak.length:Int))) (some (3)) ((Dx b a.Flat 0 100).bind fun g=>cond (!g) (some (1)) (cond ((a.Ao.length:Int)==0) (some (1)) ((JR b a b (0:Int)).bind fun z=>Sum.elim (fun c=>some (c)) (fun c=>(H6 b a b (0:Int)).bind fun z=>Sum.elim (fun d=>some (d)) (fun d=>(H7 b a b (0:Int)).bind fun z=>Sum.elim (fun e=>some (e)) (fun e=>some (0)) z) z) z))))))
def Ov(b:Nat)(a:AR):Option (AR):=
 some (a)
def OT(b:Nat)(a:List Int):Option ((List Int)):=
 (EX (((([]:List Int).length+a.length:Nat):Int)≤140737488355328/8)).bind fun _=>some (([]:List Int)++a)
def IB(d:Nat)(c:AU):Nat→Int→(List AR)→Option ((List AR))
 |0,_,_=>none
 |f+1,b,a=>cond (decide (b<(c.Au.length:Int))) ((idx c.Au b).bind fun g=>(Ov d g).bind fun e=>(EX (((a.length+[e].length:Nat):Int)≤140737488355328/16)).bind fun _=>(i64 (b+1)).bind fun _=>IB d c f (b+1) (a++[e])) (some (a))
def Io(e:Nat)(d:AU):Nat→Int→(List (List Int))→Option ((List (List Int)))
 |0,_,_=>none
 |g+1,b,a=>cond (decide (b<(d.AS.length:Int))) ((idx d.AS b).bind fun f=>(OT e f).bind fun c=>(EX (((a.length+[c].length:Nat):Int)≤140737488355328/24)).bind fun _=>(i64 (b+1)).bind fun _=>Io e d g (b+1) (a++[c])) (some (a))
def Ip(f:Nat)(e:AU):Nat→Int→(List FY)→Option ((List FY))
 |0,_,_=>none
 |g+1,b,a=>cond (decide (b<(e.Av.length:Int))) ((idx e.Av b).bind fun c=>(Ov f (⟨c.AY,c.AZ⟩:AR)).bind fun d=>(EX (((a.length+[(⟨c.Cn,c.Number,d.Lo,d.Hi⟩:FY)].length:Nat):Int)≤140737488355328/32)).bind fun _=>(i64 (b+1)).bind fun _=>Ip f e g (b+1) (a++[(⟨c.Cn,c.Number,d.Lo,d.Hi⟩:FY)])) (some (a))
def KV(a:Nat)(b:AU):Option (AU):=
 (IB a b a (0:Int) ([]:List AR)).bind fun z4=>(Io a b a (0:Int) ([]:List (List Int))).bind fun c=>(Ip a b a (0:Int) ([]:List FY)).bind fun z24=>some ((⟨z4,c,z24⟩:AU))
def Jf(b:AU):Nat→Int→Option ((Bool)⊕(Unit))
 |0,_=>none
 |c+1,a=>cond (decide (a<(b.AS.length:Int))) ((idx b.AS a).bind fun d=>cond (decide ((6:Int)<(d.length:Int))) (some (.inl false)) ((i64 (a+1)).bind fun _=>Jf b c (a+1))) (some (.inr ()))
def NG(c:Nat)(a:AU):Option (Bool):=
 cond (decide ((5:Int)<(a.Au.length:Int))) (some (false)) (cond (decide ((5:Int)<(a.AS.length:Int))) (some (false)) (cond (decide ((7:Int)<(a.Av.length:Int))) (some (false)) ((Jf a c (0:Int)).bind fun z=>Sum.elim (fun b=>some (b)) (fun b=>(Lr c a).bind fun d=>cond (d !=0) (some (true)) ((E5 c a).bind fun e=>some (decide (e≤150)))) z)))
def I0(b:Nat)(a:AR):Option (AR):=
 some (a)
def IZ(c:Aq):Nat→Int→(List ES)→Option ((List ES))
 |0,_,_=>none
 |f+1,b,a=>cond (decide (b<(c.Ao.length:Int))) ((idx c.Ao b).bind fun d=>(idx c.Ao b).bind fun e=>(EX (((a.length+[(⟨d.B6,e.Ea⟩:ES)].length:Nat):Int)≤140737488355328/16)).bind fun _=>(i64 (b+1)).bind fun _=>IZ c f (b+1) (a++[(⟨d.B6,e.Ea⟩:ES)])) (some (a))
def IC(c:Aq):Nat→Int→(List Da)→Option ((List Da))
 |0,_,_=>none
 |f+1,b,a=>cond (decide (b<(c.Am.length:Int))) ((idx c.Am b).bind fun d=>(idx c.Am b).bind fun e=>(EX (((a.length+[(⟨d.EC,e.ER⟩:Da)].length:Nat):Int)≤140737488355328/16)).bind fun _=>(i64 (b+1)).bind fun _=>IC c f (b+1) (a++[(⟨d.EC,e.ER⟩:Da)])) (some (a))
def ID(g:Nat)(d:Aq):Nat→Int→(List CA)→Option ((List CA))
 |0,_,_=>none
 |h+1,b,a=>cond (decide (b<(d.Ak.length:Int))) ((idx d.Ak b).bind fun e=>(idx d.Ak b).bind fun f=>(I0 g (⟨f.C5,f.C6⟩:AR)).bind fun c=>(EX (((a.length+[(⟨e.Cn,c.Lo,c.Hi⟩:CA)].length:Nat):Int)≤140737488355328/24)).bind fun _=>(i64 (b+1)).bind fun _=>ID g d h (b+1) (a++[(⟨e.Cn,c.Lo,c.Hi⟩:CA)])) (some (a))
def Cv(b:Nat)(a:Aq):Option (Aq):=
 (KV b (⟨a.Af,a.Aa,a.Ag⟩:AU)).bind fun c=>(IZ a b (0:Int) ([]:List ES)).bind fun e=>(IC a b (0:Int) ([]:List Da)).bind fun d=>(ID b a b (0:Int) ([]:List CA)).bind fun z26=>some ((⟨c.Au,c.AS,c.Av,a.Flat,e,d,z26⟩:Aq))
def EG(b:List Int)(c:List Int):Nat→Int→Option ((Bool)⊕(Unit))
 |0,_=>none
 |d+1,a=>cond (decide (a<(b.length:Int))) ((idx b a).bind fun e=>(idx c a).bind fun f=>cond (e !=f) (some (.inl false)) ((i64 (a+1)).bind fun _=>EG b c d (a+1))) (some (.inr ()))
def Fl(d:Nat)(b:List Int)(c:List Int):Option (Bool):=
 cond ((b.length:Int) !=(c.length:Int)) (some (false)) ((EG b c d (0:Int)).bind fun z=>Sum.elim (fun a=>some (a)) (fun a=>some (true)) z)
def Gp(b:Nat)(a:Aq):Option (Bool):=
 (NG b (⟨a.Af,a.Aa,a.Ag⟩:AU)).bind fun c=>cond (c) (cond (decide ((a.Ao.length:Int)≤5)) (cond (decide ((a.Am.length:Int)≤5)) (some (decide ((a.Ak.length:Int)≤7))) (some (false))) (some (false))) (some (false))
def HL(c:Nat)(a:Int)(b:Int):Option (AR):=
 some ((⟨a,b⟩:AR))
def G3(c:Nat)(d:Int):Option (Aq):=
 (HL c 80 80).bind fun b=>(HL c 40 40).bind fun a=>(Ot [(⟨0,b.Lo,b.Hi⟩:CA),(⟨0,a.Lo,a.Hi⟩:CA)].length (0:Int) d).bind fun _=>some ((⟨[(⟨40,42⟩:AR),(⟨60,63⟩:AR)],[[10,10],[5,15]],([]:List FY),3,[(⟨55,6⟩:ES),(⟨51,4⟩:ES),(⟨40,2⟩:ES)],[(⟨0,20⟩:Da),(⟨1,10⟩:Da)],GJ [(⟨0,b.Lo,b.Hi⟩:CA),(⟨0,a.Lo,a.Hi⟩:CA)] (0:Int) d⟩:Aq))
def BH(a:Nat):Option (Bool):=
 (G3 a 0).bind fun z=>(JW a z [41,62]).bind fun n=>(G3 a 0).bind fun aA=>(Gr a aA).bind fun d=>(G3 a 0).bind fun o=>(GH a o [0,1]).bind fun b=>(G3 a 0).bind fun p=>(KT a p).bind fun c=>(G3 a 1).bind fun q=>(JX a q).bind fun e=>(G3 a 0).bind fun r=>(Ko a r).bind fun f=>(G3 a 2).bind fun s=>(KO a s).bind fun g=>(G3 a 2).bind fun t=>(Ja a t).bind fun h=>cond (n.2==0) ((Fl a n.1 [80,120]).bind fun u=>cond (u) (cond (d.2==0) (cond ((d.1.length:Int)==2) ((idx d.1 (0:Int)).bind fun i=>(HL a 40 80).bind fun j=>cond ([i.Lo,i.Hi]==[j.Lo,j.Hi]) ((idx d.1 (1:Int)).bind fun k=>(HL a 120 120).bind fun l=>cond ([k.Lo,k.Hi]==[l.Lo,l.Hi]) (cond (b.2==0) ((HL a 160 200).bind fun m=>cond ([b.1.Lo,b.1.Hi]==[m.Lo,m.Hi]) (cond (c.2.2==0) ((Fl a c.1 [1]).bind fun v=>cond (v) (cond (c.2.1==180) (cond (e.2==0) ((Fl a e.1 [1,0]).bind fun w=>cond (w) (cond (f.2==0) ((Fl a f.1 [0,1]).bind fun x=>cond (x) (cond (g.2==0) (cond (g.1==1) (cond (h.2==0) ((Fl a h.1 [0]).bind fun y=>some (y)) (some (false))) (some (false))) (some (false))) (some (false))) (some (false))) (some (false))) (some (false))) (some (false))) (some (false))) (some (false))) (some (false))) (some (false))) (some (false))) (some (false))) (some (false))) (some (false))) (some (false))) (some (false))
end Go.Proofs.YtbhofkcbfblijaaGreat
end
section
namespace Go.Proofs.YtbhofkcbfblijaaGreat
theorem bd{α β:Type}{x:Option α}{a:α}{f:α→Option β}(h:x=some a):x.bind f=f a:=by rw[h];rfl
theorem Be{β:Type}{x:Int}{f:Int→Option β}(h0:-9223372036854775808≤x)(h1:x≤9223372036854775807):(i64 x).bind f=f x:=bd (Agh h0 h1)
theorem BO{α β:Type}{xs:List α}{k:Nat}{f:α→Option β}(h:k<xs.length):(idx xs (k:Int)).bind f=f xs[k]:=bd (idx_eq h)
theorem DE{β:Type}{p:Prop}[Decidable p]{f:Unit→Option β}(h:p):(EX p).bind f=f ():=bd (if_pos h)
theorem Ps{β:Type}{a b:Int}{f:Int→Option β}(h0:0≤a)(h1:1≤b):(quo a b).bind f=f (a/b):=bd (if_pos ⟨h0,h1⟩)
theorem ct{α:Type}{b:Bool}{x y:α}(h:b=true):cond b x y=x:=by rw[h];rfl
theorem cf{α:Type}{b:Bool}{x y:α}(h:b=false):cond b x y=y:=by rw[h];rfl
theorem nt{α:Type}{x y:α}:cond (!true) x y=y:=rfl
theorem nf{α:Type}{x y:α}:cond (!false) x y=x:=rfl
theorem dt{p:Prop}[Decidable p](h:p):decide p=true:=decide_eq_true h
theorem df{p:Prop}[Decidable p](h:¬p):decide p=false:=decide_eq_false h
theorem CK(i:Nat):(i:Int)+1=((i+1:Nat):Int):=by omega
def DR(n a b:Int):Bool:=decide (a≤n)&&decide (n≤b)
theorem DB{n a b:Int}:DR n a b=true↔a≤n∧n≤b:=by simp[DR]
theorem Md{n a b:Int}:DR n a b=false↔¬(a≤n∧n≤b):=by rw[←DB];simp
theorem Aea{σ β:Type}(F:Nat→σ→Nat→Option β)(n:Nat)(g:σ→Nat→σ)(I:Nat→σ→Prop)(a:∀i s,i<n→I i s→I (i+1) (g s i))(h:∀m i s,i<n→I i s→F (m+1) s i=F m (g s i) (i+1)):
  ∀(d i k:Nat) (s:σ),n=i+d→d≤k→I i s→F k s i=F (k-d) ((List.range' i d).foldl g s) n∧I n ((List.range' i d).foldl g s)
 |0,i,k,s,hn,_,hs=>by
  obtain rfl:n=i:=by omega
  exact⟨rfl,hs⟩
 |d+1,i,0,s,_,hk,_=>by omega
 |d+1,i,k+1,s,hn,hk,hs=>by
  have:=Aea F n g I a h d (i+1) k (g s i) (by omega) (by omega) (a i s (by omega) hs);rw[h k i s (by omega) hs,List.range'_succ,List.foldl_cons,show k+1-(d+1)=k-d by omega];exact this
theorem Vv{α σ:Type}(g:σ→α→σ)(xs:List α)(f:σ→Nat→σ)(a:∀s i (hi:i<xs.length),f s i=g s xs[i]):∀(d i:Nat) (s:σ),xs.length=i+d→(List.range' i d).foldl f s=(xs.drop i).foldl g s
 |0,i,s,h=>by rw[List.drop_eq_nil_of_le (by omega)];rfl
 |d+1,i,s,h=>by
  have hi:i<xs.length:=by omega
  rw[List.range'_succ,List.foldl_cons,List.drop_eq_getElem_cons hi,List.foldl_cons,a s i hi];exact Vv g xs f a d (i+1) _ (by omega)
theorem AgY {α σ β:Type} (xs:List α) (F:Nat→σ→Nat→Option β) (g:σ→α→σ) (I:Nat→σ→Prop) (b:∀i s (hi:i<xs.length),I i s→I (i+1) (g s xs[i])) (h:∀m i s (hi:i<xs.length),I i s→F (m+1) s i=F m (g s xs[i]) (i+1))
  {k:Nat} {s0:σ} (hk:xs.length≤k) (h0:I 0 s0):F k s0 0=F (k-xs.length) (xs.foldl g s0) xs.length∧I xs.length (xs.foldl g s0):=by
 by_cases a:xs.length=0
 ·obtain rfl:=List.eq_nil_of_length_eq_zero a;exact⟨rfl,h0⟩
 ·have a0:α:=xs[0]'(by omega);have e:=Vv g xs (fun s i=>g s (xs.getD i a0)) (fun s i hi=>by simp[List.getElem?_eq_getElem hi]) xs.length 0 s0 (by omega);rw[List.drop_zero] at e;rw[←e];refine Aea F xs.length (fun s i=>g s (xs.getD i a0)) I (fun i s hi hs=>?_) (fun m i s hi hs=>?_) xs.length 0 k s0 (by omega) hk h0
  ·have:=b i s hi hs;simpa[List.getElem?_eq_getElem hi] using this
  ·have:=h m i s hi hs;simpa[List.getElem?_eq_getElem hi] using this
theorem XI{α σ β:Type}(xs:List α)(F:Nat→σ→Nat→Option β)(g:σ→α→σ)(I:Nat→σ→Prop)(fin:σ→β)(a:∀i s (hi:i<xs.length),I i s→I (i+1) (g s xs[i]))(h:∀m i s (hi:i<xs.length),I i s→F (m+1) s i=F m (g s xs[i]) (i+1))
  (hn:∀m s,I xs.length s→F (m+1) s xs.length=some (fin s)){k:Nat}{s0:σ}(hk:xs.length<k)(h0:I 0 s0):F k s0 0=some (fin (xs.foldl g s0)):=by
 obtain⟨h1,h2⟩:=AgY xs F g I a h (k:=k) (s0:=s0) (by omega) h0;obtain⟨j,hj⟩:∃j,k-xs.length=j+1:=⟨k-xs.length-1,by omega⟩;rw[h1,hj,hn _ _ h2]
theorem Aeb {β:Type} (F:Nat→Nat→Option (β⊕Unit)) (n:Nat) (ok:Nat→Bool) (b:β) (h:∀m i,i<n→F (m+1) i=cond (ok i) (F m (i+1)) (some (.inl b))) (hn:∀m,F (m+1) n=some (.inr ())):
  ∀(d i k:Nat),n=i+d→d<k→F k i=some (cond ((List.range' i d).all ok) (.inr ()) (.inl b))
 |0,i,0,_,hk=>by omega
 |0,i,k+1,hi,_=>by
  obtain rfl:n=i:=by omega
  exact hn k
 |d+1,i,0,_,hk=>by omega
 |d+1,i,k+1,hi,hk=>by
  rw[h k i (by omega),List.range'_succ,List.all_cons];cases ok i with
  |false=>rfl
  |true=>rw[Bool.true_and];exact Aeb F n ok b h hn d (i+1) k (by omega) (by omega)
theorem XJ{α:Type}(p:α→Bool)(xs:List α)(ok:Nat→Bool)(a:∀i (hi:i<xs.length),ok i=p xs[i]):∀(d i:Nat),xs.length=i+d→(List.range' i d).all ok=(xs.drop i).all p
 |0,i,h=>by rw[List.drop_eq_nil_of_le (by omega)];rfl
 |d+1,i,h=>by
  have hi:i<xs.length:=by omega
  rw[List.range'_succ,List.all_cons,List.drop_eq_getElem_cons hi,List.all_cons,a i hi];rw[XJ p xs ok a d (i+1) (by omega)]
theorem Jm{α β:Type}(xs:List α)(F:Nat→Nat→Option (β⊕Unit))(ok:α→Bool)(b:β)(h:∀m i (hi:i<xs.length),F (m+1) i=cond (ok xs[i]) (F m (i+1)) (some (.inl b)))(hn:∀m,F (m+1) xs.length=some (.inr ()))
  {k:Nat}(hk:xs.length<k):F k 0=some (cond (xs.all ok) (.inr ()) (.inl b)):=by
 by_cases a:xs.length=0
 ·obtain rfl:=List.eq_nil_of_length_eq_zero a;obtain⟨k,rfl⟩:∃k',k=k'+1:=⟨k-1,by omega⟩;exact hn k
 ·have a0:α:=xs[0]'(by omega);have e:=XJ ok xs (fun i=>ok (xs.getD i a0)) (fun i hi=>by simp[List.getElem?_eq_getElem hi]) xs.length 0 (by omega);rw[List.drop_zero] at e;rw[←e];refine Aeb F xs.length (fun i=>ok (xs.getD i a0)) b (fun m i hi=>?_) hn xs.length 0 k (by omega) hk;have:=h m i hi;simpa[List.getElem?_eq_getElem hi] using this
theorem T7:∀(l:List Int) (s:Int),l.foldl (· +·) s=s+l.sum
 |[],s=>by simp
 |x::l,s=>by rw[List.foldl_cons,T7 l,List.sum_cons];omega
theorem PG{a b:Int}(ha:a≤0)(hb:0≤b):∀l:List Int,(∀x∈l,a≤x∧x≤b)→a*l.length≤l.sum∧l.sum≤b*l.length
 |[],_=>by simp
 |x::l,h=>by
  have h1:=h x (List.mem_cons_self ..);have h2:=PG ha hb l fun y c=>h y (List.mem_cons_of_mem _ c);rw[List.sum_cons,List.length_cons];have d:a*((l.length+1:Nat):Int)=a*l.length+a:=by rw[Int.natCast_add,Int.mul_add];simp
  have e:b*((l.length+1:Nat):Int)=b*l.length+b:=by rw[Int.natCast_add,Int.mul_add];simp
  omega
def run {σ α:Type} (cb:σ→α→Option (Bool×σ)):List α→σ→Option (Bool×σ)
 |[],s=>some (true,s)
 |x::l,s=>(cb s x).bind fun r=>cond r.1 (run cb l r.2) (some (false,r.2))
theorem run_pure{σ α:Type}{cb:σ→α→Option (Bool×σ)}{ok:α→Bool}:∀(l:List α) (s:σ),(∀x∈l,∀s,cb s x=some (ok x,s))→run cb l s=some (l.all ok,s)
 |[],s,_=>rfl
 |x::l,s,h=>by
  rw[run,bd (h x (List.mem_cons_self ..) s),List.all_cons];cases ok x with
  |false=>rfl
  |true=>exact run_pure l s fun y a=>h y (List.mem_cons_of_mem _ a)
theorem Aba{σ α:Type}(F:Nat→Int→σ→Option ((Int×σ)⊕σ))(cb:σ→α→Option (Bool×σ))(p:List α)
  (a:∀m i s,F (m+1) i s=cond (decide (i<(p.length:Int))) ((idx p i).bind fun x=>(((cb s x).bind fun r=>some (!r.1,r.2)).bind fun r=>some (r.1,r.2)).bind fun r=>cond r.1 (some (.inl (i,r.2))) ((i64 (i+1)).bind fun _=>F m (i+1) r.2)) (some (.inr s)))
  (c:p.length≤5000):∀(n m i:Nat) (s:σ),p.length=i+n→n<m→
  (((F m (i:Int) s).bind fun z=>Sum.elim (fun q=>some (q.1,q.2)) (fun q=>some (((-1:Int)),q)) z).bind fun r=>some (decide ((0:Int)≤r.1),r.2)).bind (fun r=>some (!r.1,r.2))=run cb (p.drop i) s
 |n,0,i,s,h,hm=>by omega
 |0,m+1,i,s,h,hm=>by
  rw[a,cf (df (by omega)),List.drop_eq_nil_of_le (by omega)];rfl
 |n+1,m+1,i,s,h,hm=>by
  have hi:i<p.length:=by omega
  rw[a,ct (dt (by omega)),BO hi,List.drop_eq_getElem_cons hi,run];cases cb s p[i] with
  |none=>rfl
  |some r=>
   obtain⟨b,s2⟩:=r;simp only[Option.bind_some];cases b with
   |false=>
    rw[nf];show some (!decide ((0:Int)≤(i:Int)),s2)=some (false,s2);rw[dt (by omega)];rfl
   |true=>
    rw[nt,Be (by omega) (by omega),CK i,ct rfl];exact Aba F cb p a c n m (i+1) s2 (by omega) (by omega)
theorem M8{σ α:Type}{F:Nat→Int→σ→Option ((Int×σ)⊕σ)}{cb:σ→α→Option (Bool×σ)}{p:List α}
  (a:∀m i s,F (m+1) i s=cond (decide (i<(p.length:Int))) ((idx p i).bind fun x=>(((cb s x).bind fun r=>some (!r.1,r.2)).bind fun r=>some (r.1,r.2)).bind fun r=>cond r.1 (some (.inl (i,r.2))) ((i64 (i+1)).bind fun _=>F m (i+1) r.2)) (some (.inr s)))
  (b:p.length≤900){K:Nat}(hK:1000≤K)(s:σ):
  (((F K (0:Int) s).bind fun z=>Sum.elim (fun q=>some (q.1,q.2)) (fun q=>some (((-1:Int)),q)) z).bind fun r=>some (decide ((0:Int)≤r.1),r.2)).bind (fun r=>some (!r.1,r.2))=run cb p s:=
 Aba F cb p a (by omega) p.length K 0 s (by omega) (by omega)
section
variable{K:Nat}(hK:1000≤K)
include hK
theorem AaV{σ:Type}(cb:σ→AR→Option (Bool×σ))(p:List AR)(a:p.length≤900)(s:σ):QA K cb p s=run cb p s:=
 M8 (F:=LH (fun(st:σ) (x:AR)=>(OM K cb x st).bind fun r=>some (r.1,r.2)) p) (fun _ _ _=>rfl) a hK s
theorem AbT{σ:Type}(cb:σ→List Int→Option (Bool×σ))(p:List (List Int))(a:p.length≤900)(s:σ):QZ K cb p s=run cb p s:=
 M8 (F:=L3 (fun(st:σ) (x:List Int)=>(Pq K cb x st).bind fun r=>some (r.1,r.2)) p) (fun _ _ _=>rfl) a hK s
theorem AaW{σ:Type}(cb:σ→FY→Option (Bool×σ))(p:List FY)(a:p.length≤900)(s:σ):QB K cb p s=run cb p s:=
 M8 (F:=LI (fun(st:σ) (x:FY)=>(OO K cb x st).bind fun r=>some (r.1,r.2)) p) (fun _ _ _=>rfl) a hK s
theorem Acq{σ:Type}(cb:σ→Int→Option (Bool×σ))(p:List Int)(a:p.length≤900)(s:σ):Ru K cb p s=run cb p s:=
 M8 (F:=Gz (fun(st:σ) (x:Int)=>(PD K cb x st).bind fun r=>some (r.1,r.2)) p) (fun _ _ _=>rfl) a hK s
theorem Z9{σ:Type}(cb:σ→ES→Option (Bool×σ))(p:List ES)(a:p.length≤900)(s:σ):Qf K cb p s=run cb p s:=
 M8 (F:=LJ (fun(st:σ) (x:ES)=>(Oi K cb x st).bind fun r=>some (r.1,r.2)) p) (fun _ _ _=>rfl) a hK s
theorem Aaa{σ:Type}(cb:σ→Da→Option (Bool×σ))(p:List Da)(a:p.length≤900)(s:σ):Qg K cb p s=run cb p s:=
 M8 (F:=LK (fun(st:σ) (x:Da)=>(Oj K cb x st).bind fun r=>some (r.1,r.2)) p) (fun _ _ _=>rfl) a hK s
theorem AaX{σ:Type}(cb:σ→CA→Option (Bool×σ))(p:List CA)(a:p.length≤900)(s:σ):QD K cb p s=run cb p s:=
 M8 (F:=L4 (fun(st:σ) (x:CA)=>(OS K cb x st).bind fun r=>some (r.1,r.2)) p) (fun _ _ _=>rfl) a hK s
end
theorem Jy(K:Nat)(n a b:Int):Dx K n a b=some (DR n a b):=by unfold Dx DR;cases decide (a≤n)<;>rfl
theorem Ky(K:Nat)(n a b:Int):Of K n a b=some (DR n a b):=by unfold Of DR;cases decide (a≤n)<;>rfl
theorem GU(K:Nat)(n a b:Int):KN K n a b=some (DR n a b):=by unfold KN DR;cases decide (a≤n)<;>rfl
def R5 (lo hi a b:Int):Bool:=decide (a≤lo)&&(decide (lo≤hi)&&decide (hi≤b))
theorem Yw{lo hi a b:Int}:R5 lo hi a b=true↔a≤lo∧lo≤hi∧hi≤b:=by simp[R5]
theorem SI(K:Nat)(r:AR)(a b:Int):KU K r a b=some (R5 r.Lo r.Hi a b):=by
 unfold KU R5;cases decide (a≤r.Lo)
 ·rfl
 ·cases decide (r.Lo≤r.Hi)<;>rfl
theorem WY(K:Nat)(r:AR):Me K r=some (R5 r.Lo r.Hi 0 100):=SI K r 0 100
theorem AgZ(K:Nat)(r:AR)(b:Int):QC K r b=some (R5 r.Lo r.Hi 0 b):=SI K r 0 b
theorem M4{K:Nat}(hK:1000≤K)(l:List Int)(hl:l.length≤100)(hb:∀x∈l,0≤x∧x≤10000):FM K l=some l.sum:=by
 unfold FM;have h:Jt l K 0 0=some (l.foldl (· +·) 0):=XI l (fun m s i=>Jt l m s (i:Int)) (· +·) (fun i s=>0≤s∧s≤10000*(i:Int)) id (fun i s hi hs=>by have:=hb _ (List.getElem_mem hi);omega)
  (fun m i s hi hs=>by
   have hx:=hb _ (List.getElem_mem hi);show Jt l (m+1) s (i:Int)=_;rw[Jt.eq_2,ct (dt (by omega)),BO hi,Be (by omega) (by omega),Be (by omega) (by omega),CK i])
  (fun m s _=>by
   show Jt l (m+1) s (l.length:Int)=_;rw[Jt.eq_2,cf (df (by omega))];rfl) (by omega) (by omega)
 rw[bd h,T7,Int.zero_add]
theorem Acr{K:Nat}(hK:1000≤K)(l:List Int)(hl:l.length≤100)(hb:∀x∈l,0≤x∧x≤10000):Rt K l=some l.sum:=by
 unfold Rt;have h:MM l K 0 0=some (l.foldl (· +·) 0):=XI l (fun m s i=>MM l m s (i:Int)) (· +·) (fun i s=>0≤s∧s≤10000*(i:Int)) id (fun i s hi hs=>by have:=hb _ (List.getElem_mem hi);omega)
  (fun m i s hi hs=>by
   have hx:=hb _ (List.getElem_mem hi);show MM l (m+1) s (i:Int)=_;rw[MM.eq_2,ct (dt (by omega)),BO hi,Be (by omega) (by omega),Be (by omega) (by omega),CK i])
  (fun m s _=>by
   show MM l (m+1) s (l.length:Int)=_;rw[MM.eq_2,cf (df (by omega))];rfl) (by omega) (by omega)
 rw[bd h,T7,Int.zero_add]
def Si(c:AU)(l:List Int):Bool:=l.all (fun x=>DR x 0 30)&&(l.length==c.Au.length)
def Sj(c:AU)(l:List Int):Bool:=Si c l&&decide (0<l.sum)
def Q9(c:AU)(t:FY):Bool:=DR t.Number 0 ((cond t.Cn c.AS.length c.Au.length:Nat)-1)&&R5 t.AY t.AZ 0 100
def BQ(r:AR):Int:=r.Hi-r.Lo+1
def Ds(l:List AR):Int:=l.foldl (fun n r=>n*BQ r) 1
def N4(c:AU):Int:=
 if 3<c.Au.length∨3<c.AS.length∨5<c.Av.length then 3
 else if c.Au.length=0 then 1
 else if !(c.Au.all fun r=>R5 r.Lo r.Hi 0 100) then 1
 else if !(c.AS.all (Sj c)) then 1
 else if !(c.Av.all (Q9 c)) then 1
 else if 2000<Ds c.Au then 3 else 0
theorem Vw{c:AU}{l:List Int}(h:Si c l=true):l.length=c.Au.length∧∀x∈l,0≤x∧x≤30:=by
 unfold Si at h;rw[Bool.and_eq_true,List.all_eq_true,beq_iff_eq] at h;exact⟨h.2,fun x hx=>DB.1 (h.1 x hx)⟩
theorem Adi(a b:Nat):((a:Int)==(b:Int))=(a==b):=by rw[Bool.eq_iff_iff,beq_iff_eq,beq_iff_eq];omega
theorem Acs{K:Nat}(hK:1000≤K)(c:AU)(l:List Int)(hl:l.length≤100):NF K c l=some (Si c l):=by
 unfold NF;have h:Im K l K 0=_:=Jm l (fun m i=>Im K l m (i:Int)) (fun x=>DR x 0 30) false (fun m i hi=>by
   show Im K l (m+1) (i:Int)=_;rw[Im.eq_2,ct (dt (by omega)),BO hi,bd (Jy ..)];cases DR l[i] 0 30 with
   |false=>rw[nf,cf rfl]
   |true=>rw[nt,Be (by omega) (by omega),CK i,ct rfl])
  (fun m=>by
   show Im K l (m+1) (l.length:Int)=_;rw[Im.eq_2,cf (df (by omega))]) (k:=K) (by omega)
 rw[bd h];unfold Si;cases l.all (fun x=>DR x 0 30) with
 |false=>rw[cf rfl,Bool.false_and];rfl
 |true=>
  rw[ct rfl,Bool.true_and,←Adi];rfl
def E7(r:AR):Prop:=0≤r.Lo∧r.Lo≤r.Hi∧r.Hi≤100
theorem Aey{r:AR}:R5 r.Lo r.Hi 0 100=true↔E7 r:=Yw
theorem Ji(K:Nat){r:AR}(h:E7 r):FE K r=some (BQ r):=by
 unfold E7 at h;unfold FE BQ;rw[Be (by omega) (by omega),Be (by omega) (by omega)]
theorem Aez(K:Nat){r:AR}(h:E7 r):Qe K r=some (BQ r):=Ji K h
theorem Ed{r:AR}(h:E7 r):1≤BQ r∧BQ r≤101:=by unfold E7 at h;unfold BQ;omega
theorem JK{a b x y:Int}(ha:0≤a)(hx:a≤x)(hb:0≤b)(c:b≤y):0≤a*b∧a*b≤x*y:=
 ⟨Int.mul_nonneg ha hb,Int.mul_le_mul hx c hb (by omega)⟩
theorem foldl_min{C:Int}(b:0≤C):∀(l:List AR) (s:Int),(∀r∈l,E7 r)→0≤s→l.foldl (fun n r=>min C (n*BQ r)) (min C s)=min C (l.foldl (fun n r=>n*BQ r) s)
 |[],s,_,_=>rfl
 |r::l,s,h,hs=>by
  have hr:=Ed (h r (List.mem_cons_self ..));rw[List.foldl_cons,List.foldl_cons];have e:min C (min C s*BQ r)=min C (s*BQ r):=by
   rcases Int.le_total C s with a|a
   ·rw[Int.min_eq_left a];have h1:C*1≤C*BQ r:=Int.mul_le_mul_of_nonneg_left hr.1 b;have h2:s*1≤s*BQ r:=Int.mul_le_mul_of_nonneg_left hr.1 hs;rw[Int.min_eq_left (by omega),Int.min_eq_left (by omega)]
   ·rw[Int.min_eq_right a]
  rw[e];exact foldl_min b l (s*BQ r) (fun y c=>h y (List.mem_cons_of_mem _ c)) (Int.mul_nonneg hs (by omega))
theorem WZ{l:List AR}(h:(l.all fun r=>R5 r.Lo r.Hi 0 100)=true):∀r∈l,E7 r:=fun r hr=>Aey.1 (List.all_eq_true.1 h r hr)
theorem GR{a b:Int}(h:a≠b):(a==b)=false:=by rw[Bool.eq_false_iff];intro g;exact h (beq_iff_eq.1 g)
theorem Fb{a b:Int}(h:a=b):(a==b)=true:=beq_iff_eq.2 h
theorem EL{a b:Int}(h:a=b):(a !=b)=false:=by rw[h];simp
theorem FL{a b:Int}(h:a≠b):(a !=b)=true:=by simpa using h
section
variable{K:Nat}(hK:1000≤K)
include hK
theorem QK(c:AU)(hl:c.Au.length≤100)(h:∀r∈c.Au,E7 r):E5 K c=some (min 3000 (Ds c.Au)):=by
 unfold E5;have a:Je K c K 1 0=some (c.Au.foldl (fun n r=>min 3000 (n*BQ r)) 1):=XI c.Au (fun m s i=>Je K c m s (i:Int)) (fun n r=>min 3000 (n*BQ r)) (fun _ s=>0≤s∧s≤3000) id
  (fun i s hi hs=>by
   have hr:=Ed (h _ (List.getElem_mem hi));have:=JK hs.1 hs.2 (by omega:0≤BQ c.Au[i]) hr.2;omega)
  (fun m i s hi hs=>by
   show Je K c (m+1) s (i:Int)=_;have hr:=Ed (h _ (List.getElem_mem hi));have:=JK hs.1 hs.2 (by omega:0≤BQ c.Au[i]) hr.2;rw[Je.eq_2,ct (dt (by omega)),BO hi,bd (Ji K (h _ (List.getElem_mem hi))),Be (by omega) (by omega),Be (by omega) (by omega),CK i])
  (fun m s _=>by
   show Je K c (m+1) s (c.Au.length:Int)=_;rw[Je.eq_2,cf (df (by omega))];rfl) (by omega) (by omega)
 rw[bd a];have:=foldl_min (C:=3000) (by omega) c.Au 1 h (by omega);rw[Int.min_eq_right (by omega)] at this;rw[this];rfl
theorem RO(a b:Int):Ou K [a,b]=some (min a b):=by
 obtain⟨k,rfl⟩:∃k,K=k+3:=⟨K-3,by omega⟩;unfold Ou;have c:idx [a,b] (0:Int)=some a:=rfl;have d:idx [a,b] (1:Int)=some b:=rfl;rw[cf (df (by simp)),bd c,Nf.eq_2,ct (dt (by simp)),bd d,Be (by omega) (by omega),Nf.eq_2,cf (df (by simp))];rfl
theorem Ago(a b:Int):Qk K [a,b]=some (min a b):=by
 unfold Qk;rw[bd (RO hK a b)]
theorem Acu(c:AU)(hl:c.Au.length≤100)(h:∀r∈c.Au,E7 r):Il K c K 1 0=some (min 2001 (Ds c.Au)):=by
 have a:Il K c K 1 0=some (c.Au.foldl (fun n r=>min 2001 (n*BQ r)) 1):=XI c.Au (fun m s i=>Il K c m s (i:Int)) (fun n r=>min 2001 (n*BQ r)) (fun _ s=>0≤s∧s≤2001) id
  (fun i s hi hs=>by
   have hr:=Ed (h _ (List.getElem_mem hi));have:=JK hs.1 hs.2 (by omega:0≤BQ c.Au[i]) hr.2;omega)
  (fun m i s hi hs=>by
   show Il K c (m+1) s (i:Int)=_;have hr:=Ed (h _ (List.getElem_mem hi));have:=JK hs.1 hs.2 (by omega:0≤BQ c.Au[i]) hr.2;rw[Il.eq_2,ct (dt (by omega)),BO hi,bd (Aez K (h _ (List.getElem_mem hi))),Be (by omega) (by omega),bd (Ago hK _ _),Be (by omega) (by omega),CK i,Int.min_comm])
  (fun m s _=>by
   show Il K c (m+1) s (c.Au.length:Int)=_;rw[Il.eq_2,cf (df (by omega))];rfl) (by omega) (by omega)
 rw[a];have:=foldl_min (C:=2001) (by omega) c.Au 1 h (by omega);rw[Int.min_eq_right (by omega)] at this;rw[this];rfl
theorem Adj(c:AU)(hl:c.Au.length≤100):IY K c K 0=some (cond (c.Au.all fun r=>R5 r.Lo r.Hi 0 100) (.inr ()) (.inl 1)):=
 Jm c.Au (fun m i=>IY K c m (i:Int)) (fun r=>R5 r.Lo r.Hi 0 100) 1
  (fun m i hi=>by
   show IY K c (m+1) (i:Int)=_;rw[IY.eq_2,ct (dt (by omega)),BO hi,bd (SI ..)];cases R5 c.Au[i].Lo c.Au[i].Hi 0 100 with
   |false=>rw[nf,cf rfl]
   |true=>rw[nt,Be (by omega) (by omega),CK i,ct rfl])
  (fun m=>by
   show IY K c (m+1) (c.Au.length:Int)=_;rw[IY.eq_2,cf (df (by omega))]) (by omega)
theorem Acv(c:AU)(hl:c.AS.length≤100)(d:∀l∈c.AS,l.length≤100):H5 K c K 0=some (cond (c.AS.all (Sj c)) (.inr ()) (.inl 1)):=
 Jm c.AS (fun m i=>H5 K c m (i:Int)) (Sj c) 1
  (fun m i hi=>by
   show H5 K c (m+1) (i:Int)=_;have hx:=d _ (List.getElem_mem hi);rw[H5.eq_2,ct (dt (by omega)),BO hi,bd (Acs hK c _ hx)];unfold Sj;cases hs:Si c c.AS[i] with
   |false=>rw[nf,Bool.false_and,cf rfl]
   |true=>
    obtain⟨h1,h2⟩:=Vw hs;have e:=PG (a:=0) (b:=30) (by omega) (by omega) _ h2;rw[nt,BO hi,bd (M4 hK _ hx (fun x hx=>by have:=h2 x hx;omega)),Bool.true_and]
    by_cases h0:c.AS[i].sum=0
    ·rw[ct (by simp[h0]),cf (df (by omega))]
    ·rw[cf (by simp[h0]),ct (dt (by omega)),Be (by omega) (by omega),CK i])
  (fun m=>by
   show H5 K c (m+1) (c.AS.length:Int)=_;rw[H5.eq_2,cf (df (by omega))]) (by omega)
theorem Acw(c:AU)(hl:c.Av.length≤100)(hh:c.Au.length≤100)(a:c.AS.length≤100):HK K c K 0=some (cond (c.Av.all (Q9 c)) (.inr ()) (.inl 1)):=
 Jm c.Av (fun m i=>HK K c m (i:Int)) (Q9 c) 1
  (fun m i hi=>by
   show HK K c (m+1) (i:Int)=_;rw[HK.eq_2,ct (dt (by omega)),BO hi];unfold Q9;cases c.Av[i].Cn with
   |true=>
    rw[ct rfl,Be (by omega) (by omega),bd (Jy ..),ct rfl];cases DR c.Av[i].Number 0 ((c.AS.length:Nat)-1) with
    |false=>rw[nf,Bool.false_and,cf rfl]
    |true=>
     rw[nt,bd (SI ..),Bool.true_and];cases R5 c.Av[i].AY c.Av[i].AZ 0 100 with
     |false=>rw[nf,cf rfl]
     |true=>rw[nt,Be (by omega) (by omega),CK i,ct rfl]
   |false=>
    rw[cf rfl,Be (by omega) (by omega),bd (Jy ..),cf rfl];cases DR c.Av[i].Number 0 ((c.Au.length:Nat)-1) with
    |false=>rw[nf,Bool.false_and,cf rfl]
    |true=>
     rw[nt,bd (SI ..),Bool.true_and];cases R5 c.Av[i].AY c.Av[i].AZ 0 100 with
     |false=>rw[nf,cf rfl]
     |true=>rw[nt,Be (by omega) (by omega),CK i,ct rfl])
  (fun m=>by
   show HK K c (m+1) (c.Av.length:Int)=_;rw[HK.eq_2,cf (df (by omega))]) (by omega)
theorem Aab(c:AU)(hh:c.Au.length≤100)(a:c.AS.length≤100)(e:c.Av.length≤100)(f:∀l∈c.AS,l.length≤100):Lr K c=some (N4 c):=by
 unfold Lr N4
 by_cases h1:3<c.Au.length
 ·rw[ct (dt (by omega)),if_pos (.inl h1)]
 rw[cf (df (by omega))]
 by_cases h2:3<c.AS.length
 ·rw[ct (dt (by omega)),if_pos (.inr (.inl h2))]
 rw[cf (df (by omega))]
 by_cases g:5<c.Av.length
 ·rw[ct (dt (by omega)),if_pos (.inr (.inr g))]
 rw[cf (df (by omega)),if_neg (by omega)]
 by_cases b:c.Au.length=0
 ·rw[ct (Fb (by omega)),if_pos b]
 rw[cf (GR (by omega)),if_neg b,bd (Adj hK c hh)];cases h5:c.Au.all fun r=>R5 r.Lo r.Hi 0 100 with
 |false=>rw[cf rfl,if_pos (by rfl)];rfl
 |true=>
  rw[ct rfl,if_neg (by simp)];show Option.bind (H5 K c K 0) _=_;rw[bd (Acv hK c a f)];cases c.AS.all (Sj c) with
  |false=>rw[cf rfl,if_pos (by rfl)];rfl
  |true=>
   rw[ct rfl,if_neg (by simp)];show Option.bind (HK K c K 0) _=_;rw[bd (Acw hK c e hh a)];cases c.Av.all (Q9 c) with
   |false=>rw[cf rfl,if_pos (by rfl)];rfl
   |true=>
    rw[ct rfl,if_neg (by simp)];show Option.bind (E5 K c) _=_;rw[bd (QK hK c hh (WZ h5))]
    by_cases d:2000<Ds c.Au
    ·rw[ct (dt (by omega)),if_pos d]
    ·rw[cf (df (by omega)),if_neg d]
theorem Acx(c:AU)(l:List Int)(hl:l.length≤100):NC K c l=some (Si c l):=by
 unfold NC Si;rw[Adi,Acq hK _ _ (by omega),run_pure (ok:=fun x=>DR x 0 30) l () (fun x _ s=>by unfold QI;rw[bd (Ky ..)];rfl)];cases l.length==c.Au.length with
 |false=>rw[cf rfl,Bool.and_false]
 |true=>rw[ct rfl,Bool.and_true];rfl
theorem Adk(c:AU)(l:List Int)(hl:l.length≤100):MP K c l=some (Sj c l):=by
 unfold MP Sj;rw[bd (Acx hK c l hl)];cases hs:Si c l with
 |false=>rw[cf rfl,Bool.false_and]
 |true=>
  have h2:=(Vw hs).2;rw[ct rfl,bd (Acr hK l hl (fun x hx=>by have:=h2 x hx;omega)),Bool.true_and]
theorem AeA(c:AU)(t:FY)(hh:c.Au.length≤100)(a:c.AS.length≤100):Ng K c t=some (Q9 c t):=by
 unfold Ng Q9;cases t.Cn with
 |true=>
  rw[ct rfl,Be (by omega) (by omega),bd (Ky ..),ct rfl];cases DR t.Number 0 ((c.AS.length:Nat)-1) with
  |false=>rw[cf rfl,Bool.false_and]
  |true=>rw[ct rfl,bd (WY ..),Bool.true_and]
 |false=>
  rw[cf rfl,Be (by omega) (by omega),bd (Ky ..),cf rfl];cases DR t.Number 0 ((c.Au.length:Nat)-1) with
  |false=>rw[cf rfl,Bool.false_and]
  |true=>rw[ct rfl,bd (WY ..),Bool.true_and]
theorem U5(c:AU)(hh:c.Au.length≤100)(d:c.AS.length≤100)(g:c.Av.length≤100)(e:∀l∈c.AS,l.length≤100):KQ K c=some (N4 c):=by
 unfold KQ N4
 by_cases h1:3<c.Au.length
 ·rw[ct (dt (by omega)),if_pos (.inl h1)]
 rw[cf (df (by omega))]
 by_cases h2:3<c.AS.length
 ·rw[ct (dt (by omega)),if_pos (.inr (.inl h2))]
 rw[cf (df (by omega))]
 by_cases f:5<c.Av.length
 ·rw[ct (dt (by omega)),if_pos (.inr (.inr f))]
 rw[cf (df (by omega)),if_neg (by omega)]
 by_cases a:c.Au.length=0
 ·rw[ct (Fb (by omega)),if_pos a]
 rw[cf (GR (by omega)),if_neg a,AaV hK _ _ (by omega),run_pure (ok:=fun r=>R5 r.Lo r.Hi 0 100) c.Au () (fun x _ s=>by rw[bd (WY ..)]),Option.bind_some];cases h5:c.Au.all fun r=>R5 r.Lo r.Hi 0 100 with
 |false=>rw[nf,if_pos (by rfl)]
 |true=>
  rw[nt,if_neg (by simp),AbT hK _ _ (by omega),run_pure (ok:=Sj c) c.AS () (fun x hx s=>by rw[bd (Adk hK c x (e x hx))]),Option.bind_some];cases c.AS.all (Sj c) with
  |false=>rw[nf,if_pos (by rfl)]
  |true=>
   rw[nt,if_neg (by simp),AaW hK _ _ (by omega),run_pure (ok:=Q9 c) c.Av () (fun x hx s=>by rw[bd (AeA hK c x hh d)]),Option.bind_some];cases c.Av.all (Q9 c) with
   |false=>rw[nf,if_pos (by rfl)]
   |true=>
    rw[nt,if_neg (by simp),bd (Acu hK c hh (WZ h5))]
    by_cases b:2000<Ds c.Au
    ·rw[ct (dt (by omega)),if_pos b]
    ·rw[cf (df (by omega)),if_neg b]
end
def Aq.C(t:Aq):AU:=⟨t.Af,t.Aa,t.Ag⟩
def Ow:Int→Int→List ES→Bool
 |_,_,[]=>true
 |s,p,g::l=>DR g.B6 0 (s-1)&&(DR g.Ea 0 p&&Ow g.B6 g.Ea l)
def L5(t:Aq)(o:Da):Bool:=DR o.EC 0 ((t.Ao.length:Nat)-1)&&DR o.ER 1 90
def KK(t:Aq)(n:CA):Bool:=DR n.Cn 0 ((t.Aa.length:Nat)-1)&&R5 n.C5 n.C6 0 9000
def CX(t:Aq):Int:=
 if N4 t.C≠0 then N4 t.C
 else if 3<t.Ao.length∨3<t.Am.length∨5<t.Ak.length then 3
 else if !(DR t.Flat 0 100) then 1
 else if t.Ao.length=0 then 1
 else if !(Ow 101 100 t.Ao) then 1
 else if !(t.Am.all (L5 t)) then 1
 else if !(t.Ak.all (KK t)) then 1 else 0
def Adl (c:AU):Prop:=c.Au.length≤100∧c.AS.length≤100∧c.Av.length≤100∧∀l∈c.AS,l.length≤100
def TI(t:Aq):Prop:=Adl t.C∧t.Ao.length≤100∧t.Am.length≤100∧t.Ak.length≤100
section
variable{K:Nat}(hK:1000≤K)
include hK
theorem Vx(t:Aq)(hl:t.Ao.length≤100):∀(n m i:Nat) (s p:Int),t.Ao.length=i+n→n<m→(i=0→s=101∧p=100)→
  (∀h:0<i,∃h2:i-1<t.Ao.length,s=t.Ao[i-1].B6∧p=t.Ao[i-1].Ea∧s≤100∧p≤100)→
  JR K t m (i:Int)=some (cond (Ow s p (t.Ao.drop i)) (.inr ()) (.inl 1))
 |n,0,i,s,p,h,hm,_,_=>by omega
 |0,m+1,i,s,p,h,hm,_,_=>by
  rw[JR.eq_2,cf (df (by omega)),List.drop_eq_nil_of_le (by omega)];rfl
 |n+1,m+1,i,s,p,h,hm,h0,h1=>by
  have hi:i<t.Ao.length:=by omega
  rw[JR.eq_2,ct (dt (by omega)),BO hi,bd (Jy ..),List.drop_eq_getElem_cons hi,Ow];have sp:s≤101∧p≤100:=by
   by_cases e:i=0
   ·have:=h0 e;omega
   ·obtain⟨_,_,_,b⟩:=h1 (by omega);omega
  by_cases hs:0≤t.Ao[i].B6∧t.Ao[i].B6≤100
  ·rw[DB.2 hs,nt,bd (Jy ..)]
   by_cases a:0≤t.Ao[i].Ea∧t.Ao[i].Ea≤100
   ·rw[DB.2 a,nt]
    by_cases e:i=0
    ·obtain⟨rfl,rfl⟩:=h0 e;rw[cf (df (by omega)),Be (by omega) (by omega),CK i,Vx t hl n m (i+1) _ _ (by omega) (by omega) (by omega) (fun _=>⟨by simpa using hi,rfl,rfl,hs.2,a.2⟩),
      DB.2 ⟨hs.1,by omega⟩,DB.2 a,Bool.true_and,Bool.true_and]
    ·obtain⟨h2,rfl,rfl,b⟩:=h1 (by omega);have c:(i:Int)-1=((i-1:Nat):Int):=by omega
     rw[ct (dt (by omega)),Be (by omega) (by omega),c,BO h2]
     by_cases g1:t.Ao[i-1].B6≤t.Ao[i].B6
     ·rw[ct (dt g1),Md.2 (by omega),Bool.false_and,cf rfl]
     ·rw[cf (df g1),Be (by omega) (by omega),BO h2]
      by_cases g2:t.Ao[i-1].Ea<t.Ao[i].Ea
      ·rw[ct (dt g2),DB.2 ⟨hs.1,by omega⟩,Md.2 (by omega),Bool.false_and,Bool.true_and,cf rfl]
      ·rw[cf (df g2),Be (by omega) (by omega),CK i,Vx t hl n m (i+1) _ _ (by omega) (by omega) (by omega) (fun _=>⟨by simpa using hi,rfl,rfl,hs.2,a.2⟩),
        DB.2 ⟨hs.1,by omega⟩,DB.2 ⟨a.1,by omega⟩,Bool.true_and,Bool.true_and]
   ·rw[Md.2 a,nf];have:DR t.Ao[i].Ea 0 p=false:=Md.2 (by omega);rw[this,Bool.false_and,Bool.and_false,cf rfl]
  ·rw[Md.2 hs,nf,Md.2 (by omega),Bool.false_and,cf rfl]
theorem XK:∀(l:List ES) (g:ES),0≤g.B6∧g.B6≤101→(run (fun(st:ES) (x:ES)=>(L7 K x st).bind fun r=>some (r.1,r.2)) l g).map (·.1)=some (Ow g.B6 g.Ea l)
 |[],g,_=>rfl
 |x::l,g,h=>by
  rw[run,Ow];unfold L7;rw[Be (by omega) (by omega),bd (GU ..)];cases hs:DR x.B6 0 (g.B6-1) with
  |false=>rw[cf rfl,Bool.false_and];rfl
  |true=>
   rw[ct rfl,bd (GU ..),Bool.true_and];cases DR x.Ea 0 g.Ea with
   |false=>rw[Bool.false_and];rfl
   |true=>
    have h1:=DB.1 hs;rw[Bool.true_and];exact XK l x (by omega)
theorem Aac{α β b:Type}{x:Option (α×β)}{a:α}{f:α→Option b}(h:x.map (·.1)=some a):x.bind (fun r=>f r.1)=f a:=by
 cases x with
 |none=>cases h
 |some r=>exact congrArg f (Option.some.inj h)
theorem Adm(t:Aq)(hl:t.Ao.length≤100):N3 K t=some (decide (0<t.Ao.length)&&Ow 101 100 t.Ao):=by
 unfold N3
 by_cases h:0<t.Ao.length
 ·rw[ct (dt (by omega)),Z9 hK _ _ (by omega),dt h,Bool.true_and];exact Aac hK (f:=some) (XK hK t.Ao ⟨101,100⟩ (by simp))
 ·rw[cf (df (by omega)),df h,Bool.false_and]
theorem Acy(t:Aq)(a:t.Ao.length≤100)(hl:t.Am.length≤100):H6 K t K 0=some (cond (t.Am.all (L5 t)) (.inr ()) (.inl 1)):=
 Jm t.Am (fun m i=>H6 K t m (i:Int)) (L5 t) 1
  (fun m i hi=>by
   show H6 K t (m+1) (i:Int)=_;rw[H6.eq_2,ct (dt (by omega)),BO hi,Be (by omega) (by omega),bd (Jy ..)];unfold L5;cases DR t.Am[i].EC 0 ((t.Ao.length:Nat)-1) with
   |false=>rw[nf,Bool.false_and,cf rfl]
   |true=>
    rw[nt,BO hi,bd (Jy ..),Bool.true_and];cases DR t.Am[i].ER 1 90 with
    |false=>rw[nf,cf rfl]
    |true=>rw[nt,Be (by omega) (by omega),CK i,ct rfl])
  (fun m=>by
   show H6 K t (m+1) (t.Am.length:Int)=_;rw[H6.eq_2,cf (df (by omega))]) (by omega)
theorem Acz(t:Aq)(a:t.Aa.length≤100)(hl:t.Ak.length≤100):H7 K t K 0=some (cond (t.Ak.all (KK t)) (.inr ()) (.inl 1)):=
 Jm t.Ak (fun m i=>H7 K t m (i:Int)) (KK t) 1
  (fun m i hi=>by
   show H7 K t (m+1) (i:Int)=_;rw[H7.eq_2,ct (dt (by omega)),BO hi,Be (by omega) (by omega),bd (Jy ..)];unfold KK;cases DR t.Ak[i].Cn 0 ((t.Aa.length:Nat)-1) with
   |false=>rw[nf,Bool.false_and,cf rfl]
   |true=>
    rw[nt,BO hi,bd (SI ..),Bool.true_and];cases R5 t.Ak[i].C5 t.Ak[i].C6 0 9000 with
    |false=>rw[nf,cf rfl]
    |true=>rw[nt,Be (by omega) (by omega),CK i,ct rfl])
  (fun m=>by
   show H7 K t (m+1) (t.Ak.length:Int)=_;rw[H7.eq_2,cf (df (by omega))]) (by omega)
theorem LL(t:Aq)(hl:TI t):Gg K t=some (CX t):=by
 obtain⟨⟨hh,a,e,f⟩,b,g,hn⟩:=hl;unfold Gg CX;have h5:Lr K ⟨t.Af,t.Aa,t.Ag⟩=some (N4 t.C):=Aab hK t.C hh a e f;rw[bd h5]
 by_cases h0:N4 t.C=0
 ·rw[cf (EL h0),if_neg (by simp[h0])]
  by_cases h1:3<t.Ao.length
  ·rw[ct (dt (by omega)),if_pos (.inl h1)]
  rw[cf (df (by omega))]
  by_cases h2:3<t.Am.length
  ·rw[ct (dt (by omega)),if_pos (.inr (.inl h2))]
  rw[cf (df (by omega))]
  by_cases i:5<t.Ak.length
  ·rw[ct (dt (by omega)),if_pos (.inr (.inr i))]
  rw[cf (df (by omega)),if_neg (by omega),bd (Jy ..)];cases DR t.Flat 0 100 with
  |false=>rw[nf,if_pos (by rfl)]
  |true=>
   rw[nt,if_neg (by simp)]
   by_cases c:t.Ao.length=0
   ·rw[ct (Fb (by omega)),if_pos c]
   have d:=Vx hK t b t.Ao.length K 0 101 100 (by omega) (by omega) (fun _=>⟨rfl,rfl⟩) (fun h=>by omega);rw[Int.natCast_zero,List.drop_zero] at d;rw[cf (GR (by omega)),if_neg c,bd d];cases Ow 101 100 t.Ao with
   |false=>rw[cf rfl,if_pos (by rfl)];rfl
   |true=>
    rw[ct rfl,if_neg (by simp)];show Option.bind (H6 K t K 0) _=_;rw[bd (Acy hK t b g)];cases t.Am.all (L5 t) with
    |false=>rw[cf rfl,if_pos (by rfl)];rfl
    |true=>
     rw[ct rfl,if_neg (by simp)];show Option.bind (H7 K t K 0) _=_;rw[bd (Acz hK t a hn)];cases t.Ak.all (KK t) with
     |false=>rw[cf rfl,if_pos (by rfl)];rfl
     |true=>rw[ct rfl,if_neg (by simp)];rfl
 ·rw[ct (FL h0),if_pos h0]
theorem AeB(t:Aq)(n:Int)(a:t.Aa.length≤100):Hg K t n=some (DR n 0 ((t.Aa.length:Nat)-1)):=by
 unfold Hg;rw[Be (by omega) (by omega),bd (GU ..)]
theorem AeC(t:Aq)(o:Da)(a:t.Ao.length≤100):Nh K t o=some (L5 t o):=by
 unfold Nh L5;rw[Be (by omega) (by omega),bd (GU ..)];cases DR o.EC 0 ((t.Ao.length:Nat)-1) with
 |false=>rw[cf rfl,Bool.false_and]
 |true=>rw[ct rfl,bd (GU ..),Bool.true_and]
theorem Agp(t:Aq)(o:CA)(a:t.Aa.length≤100):ND K t o=some (KK t o):=by
 unfold ND KK;rw[bd (AeB hK t _ a)];cases DR o.Cn 0 ((t.Aa.length:Nat)-1) with
 |false=>rw[cf rfl,Bool.false_and]
 |true=>rw[ct rfl,bd (AgZ ..),Bool.true_and]
theorem Iq(t:Aq)(hl:TI t):KR K t=some (CX t):=by
 obtain⟨⟨hh,a,d,e⟩,b,h,hn⟩:=hl;unfold KR CX;have h5:KQ K ⟨t.Af,t.Aa,t.Ag⟩=some (N4 t.C):=U5 hK t.C hh a d e;rw[bd h5]
 by_cases h0:N4 t.C=0
 ·rw[cf (EL h0),if_neg (by simp[h0])]
  by_cases h1:3<t.Ao.length
  ·rw[ct (dt (by omega)),if_pos (.inl h1)]
  rw[cf (df (by omega))]
  by_cases h2:3<t.Am.length
  ·rw[ct (dt (by omega)),if_pos (.inr (.inl h2))]
  rw[cf (df (by omega))]
  by_cases f:5<t.Ak.length
  ·rw[ct (dt (by omega)),if_pos (.inr (.inr f))]
  have g:QJ K t.Flat=some (DR t.Flat 0 100):=by unfold QJ;rw[bd (GU ..)]
  rw[cf (df (by omega)),if_neg (by omega),bd g];cases DR t.Flat 0 100 with
  |false=>rw[nf,if_pos (by rfl)]
  |true=>
   rw[nt,if_neg (by simp),bd (Adm hK t b)]
   by_cases c:t.Ao.length=0
   ·rw[df (by omega),Bool.false_and,nf,if_pos c]
   rw[if_neg c,dt (by omega),Bool.true_and];cases Ow 101 100 t.Ao with
   |false=>rw[nf,if_pos (by rfl)]
   |true=>
    rw[nt,if_neg (by simp),Aaa hK _ _ (by omega),run_pure (ok:=L5 t) t.Am () (fun x hx s=>by rw[bd (AeC hK t x b)]),Option.bind_some];cases t.Am.all (L5 t) with
    |false=>rw[nf,if_pos (by rfl)]
    |true=>
     rw[nt,if_neg (by simp),AaX hK _ _ (by omega),run_pure (ok:=KK t) t.Ak () (fun x hx s=>by rw[bd (Agp hK t x a)]),Option.bind_some];cases t.Ak.all (KK t) with
     |false=>rw[nf,if_pos (by rfl)]
     |true=>rw[nt,if_neg (by simp)]
 ·rw[ct (FL h0),if_pos h0]
end
def Dn:List AR→List Int→Bool
 |[],[]=>true
 |r::rs,x::xs=>DR x r.Lo r.Hi&&Dn rs xs
 |_,_=>false
theorem Ql:Dn [] []=true:=rfl
theorem Gn:∀{rs:List AR} {l:List Int},Dn rs l=true→l.length=rs.length
 |[],[],_=>rfl
 |[],_::_,h=>by cases h
 |_::_,[],h=>by cases h
 |r::rs,x::xs,h=>by
  rw[Dn,Bool.and_eq_true] at h;rw[List.length_cons,List.length_cons,Gn h.2]
theorem Qm:∀{rs:List AR} {l:List Int},(∀r∈rs,E7 r)→Dn rs l=true→∀x∈l,0≤x∧x≤100
 |[],[],_,_,x,hx=>by cases hx
 |[],_::_,_,h,_,_=>by cases h
 |_::_,[],_,h,_,_=>by cases h
 |r::rs,y::xs,hr,h,x,hx=>by
  rw[Dn,Bool.and_eq_true] at h;rcases List.mem_cons.1 hx with rfl|hx
  ·have h1:=DB.1 h.1;have h2:E7 r:=hr r (List.mem_cons_self ..);unfold E7 at h2;omega
  ·exact Qm (fun r a=>hr r (List.mem_cons_of_mem _ a)) h.2 x hx
def dot:List Int→List Int→Int
 |w::ws,x::xs=>w*x+dot ws xs
 |_,_=>0
def CU(l w:List Int):Int:=dot w l/w.sum
theorem Qn:∀(w l:List Int),(∀x∈w,0≤x∧x≤30)→(∀x∈l,0≤x∧x≤100)→0≤dot w l∧dot w l≤100*w.sum
 |[],l,_,_=>by simp[dot]
 |w::ws,[],hw,_=>by
  have:=(PG (a:=0) (b:=30) (by omega) (by omega) (w::ws) hw).1;simp only[dot];omega
 |w::ws,x::xs,hw,hx=>by
  have h1:=hw w (List.mem_cons_self ..);have h2:=hx x (List.mem_cons_self ..);have d:=Qn ws xs (fun y c=>hw y (List.mem_cons_of_mem _ c)) (fun y c=>hx y (List.mem_cons_of_mem _ c));have e:w*x≤w*100:=Int.mul_le_mul_of_nonneg_left h2.2 h1.1;have h5:=Int.mul_nonneg h1.1 h2.1;rw[dot,List.sum_cons];omega
theorem Qo{w l:List Int}(hw:∀x∈w,0≤x∧x≤30)(hl:∀x∈l,0≤x∧x≤100)(hs:0<w.sum):0≤CU l w∧CU l w≤100:=by
 have h:=Qn w l hw hl;unfold CU;refine⟨Int.ediv_nonneg h.1 (by omega),?_⟩;have:=Int.ediv_le_ediv hs h.2
 rwa[Int.mul_ediv_cancel _ (by omega)] at this
def C8 (c:AU) (l:List Int) (t:FY):Int:=cond t.Cn (CU l (c.AS.getD t.Number.toNat [])) (l.getD t.Number.toNat 0)
def Iv(c:AU)(l:List Int):Bool:=c.Av.all fun t=>DR (C8 c l t) t.AY t.AZ
def BC(c:AU)(l:List Int):Bool:=Dn c.Au l&&Iv c l
structure OkC (c:AU):Prop where
 len:Adl c
 fault:N4 c=0
 many:Ds c.Au≤150
theorem I1{c:AU}(h:N4 c=0):c.Au.length≤3∧c.AS.length≤3∧c.Av.length≤5∧0<c.Au.length∧(∀r∈c.Au,E7 r)∧(∀l∈c.AS,Sj c l=true)∧(∀t∈c.Av,Q9 c t=true)∧Ds c.Au≤2000:=by
 unfold N4 at h;split at h
 ·omega
 rename_i h1
 split at h
 ·omega
 rename_i h2
 split at h
 ·omega
 rename_i a
 split at h
 ·omega
 rename_i b
 split at h
 ·omega
 rename_i h5
 split at h
 ·omega
 rename_i d
 refine⟨by omega,by omega,by omega,by omega,WZ (by simpa using a),?_,?_,by omega⟩
 ·exact List.all_eq_true.1 (by simpa using b)
 ·exact List.all_eq_true.1 (by simpa using h5)
namespace OkC
variable{c:AU}(h:OkC c)
include h
theorem hl:c.Au.length≤3:=(I1 h.fault).1
theorem cl:c.AS.length≤3:=(I1 h.fault).2.1
theorem h0:0<c.Au.length:=(I1 h.fault).2.2.2.1
theorem ok:∀r∈c.Au,E7 r:=(I1 h.fault).2.2.2.2.1
theorem Hn:∀l∈c.AS,l.length=c.Au.length∧(∀x∈l,0≤x∧x≤30)∧0<l.sum∧l.sum≤90:=fun l hl=>by
 have h1:=(I1 h.fault).2.2.2.2.2.1 l hl;unfold Sj at h1;rw[Bool.and_eq_true,decide_eq_true_eq] at h1;have h2:=Vw h1.1;have d:=PG (a:=0) (b:=30) (by omega) (by omega) l h2.2;have e:=h.hl;exact⟨h2.1,h2.2,h1.2,by omega⟩
theorem Nt:∀t∈c.Av,0≤t.Number∧(t.Cn=true→t.Number<c.AS.length)∧(t.Cn=false→t.Number<c.Au.length):=fun t a=>by
 have h1:=(I1 h.fault).2.2.2.2.2.2.1 t a;unfold Q9 at h1;rw[Bool.and_eq_true] at h1;have h2:=DB.1 h1.1;refine⟨h2.1,fun e=>?_,fun e=>?_⟩
 ·rw[e,cond_true] at h2;omega
 ·rw[e,cond_false] at h2;omega
end OkC
section
variable{K:Nat}(hK:1000≤K)
include hK
end
theorem Ci{α:Type}{l:List α}{i:Nat}(d:α)(h:i<l.length):l.getD i d=l[i]:=by simp[List.getElem?_eq_getElem h]
section
variable{K:Nat}(hK:1000≤K)
include hK
end
def arr (l:List Int):Bt:=⟨l.getD 0 0,l.getD 1 0,l.getD 2 0⟩
theorem Agq(l:List Int):(⟨0,0,0⟩:Bt).cp l=arr l:=rfl
theorem AeD{w l:List Int}(a:l.length≤3)(h:w.length=l.length):dot w [(arr l).a0,(arr l).a1,(arr l).a2]=dot w l:=by
 match w,l,a,h with
 |[],[],_,_=>rfl
 |[_],[_],_,_=>rfl
 |[_,_],[_,_],_,_=>rfl
 |[_,_,_],[_,_,_],_,_=>rfl
 |_::_::_::_::_,_::_::_::_::_,a,_=>simp at a
theorem Fm{l:List Int}(a:l.length≤3){k:Nat}(hk:k<l.length):idx [(arr l).a0,(arr l).a1,(arr l).a2] (k:Int)=some l[k]:=by
 match l,k,a,hk with
 |_::_,0,_,_=>rfl
 |_::_::_,1,_,_=>rfl
 |_::_::_::_,2,_,_=>rfl
 |l,k+3,a,hk=>omega
theorem Agr{l:List Int}(b:∀x∈l,0≤x∧x≤100):∀x∈[(arr l).a0,(arr l).a1,(arr l).a2],0≤x∧x≤100:=by
 have h:∀k,0≤l.getD k 0∧l.getD k 0≤100:=fun k=>by
  by_cases hk:k<l.length
  ·rw[Ci _ hk];exact b _ (List.getElem_mem hk)
  ·rw[List.getD_eq_getElem?_getD,List.getElem?_eq_none (by omega)];simp
 intro x hx;simp only[arr,List.mem_cons,List.not_mem_nil,or_false] at hx;rcases hx with rfl|rfl|rfl<;>exact h _
theorem Abb(s:Bt)(w:List Int)(hw:w.length≤3)(bw:∀x∈w,0≤x∧x≤30)(bl:∀x∈[s.a0,s.a1,s.a2],0≤x∧x≤100):∀(n m i:Nat) (z:Int),w.length=i+n→n<m→0≤z∧z≤3000*(i:Int)→
  Kq s w m z (i:Int)=some (z+dot (w.drop i) ([s.a0,s.a1,s.a2].drop i))
 |n,0,i,z,h,hm,_=>by omega
 |0,m+1,i,z,h,hm,hs=>by
  rw[Kq.eq_2,cf (df (by omega)),List.drop_eq_nil_of_le (by omega:w.length≤i)];simp[dot]
 |n+1,m+1,i,z,h,hm,hs=>by
  have h2:i<w.length:=by omega
  have h1:i<[s.a0,s.a1,s.a2].length:=by simp;omega
  have b1:=bw _ (List.getElem_mem h2);have b2:=bl _ (List.getElem_mem h1);have b3:=JK b1.1 b1.2 b2.1 b2.2;rw[Kq.eq_2,ct (dt (by omega)),BO h2,BO h1,Be (by omega) (by omega),Be (by omega) (by omega),Be (by omega) (by omega),CK i,
   Abb s w hw bw bl n m (i+1) _ (by omega) (by omega) (by omega),List.drop_eq_getElem_cons h1,List.drop_eq_getElem_cons h2,dot,Int.add_assoc]
section
variable{K:Nat}(hK:1000≤K)
include hK
theorem AeE{l w:List Int}(hl:l.length≤3)(hw:w.length=l.length)(bw:∀x∈w,0≤x∧x≤30)(bl:∀x∈l,0≤x∧x≤100)(hs:0<w.sum):Lw K (arr l) w=some (CU l w):=by
 unfold Lw;have h:=Abb (arr l) w (by omega) bw (Agr bl) w.length K 0 0 (by omega) (by omega) (by omega);rw[Int.natCast_zero,Int.zero_add,List.drop_zero,List.drop_zero,AeD hl hw] at h;have h2:=Qn w l bw bl;have d:=PG (a:=0) (b:=30) (by omega) (by omega) w bw;have c:=Qo bw bl hs;unfold CU at c⊢;rw[bd h,bd (Acr hK w (by omega) (fun x hx=>by have:=bw x hx;omega)),Ps (by omega) (by omega),Be (by omega) (by omega)]
theorem KW{c:AU}(a:OkC c){l:List Int}(hl:Dn c.Au l=true){k:Nat}(hk:k<c.AS.length):Lw K (arr l) c.AS[k]=some (CU l c.AS[k]):=by
 obtain⟨h1,h2,b,_⟩:=a.Hn _ (List.getElem_mem hk);have hh:=Gn hl;have:=a.hl;exact AeE hK (by omega) (by omega) h2 (Qm a.ok hl) b
theorem Zc(c:AU)(l:List Int)(hh:c.Au.length≤100)(he:l.length=c.Au.length):∀(n m i:Nat),l.length=i+n→n<m→
  KL K c l m (i:Int)=some (cond (Dn (c.Au.drop i) (l.drop i)) (.inr ()) (.inl false))
 |n,0,i,h,hm=>by omega
 |0,m+1,i,h,hm=>by
  rw[KL.eq_2,cf (df (by omega)),List.drop_eq_nil_of_le (by omega:l.length≤i),List.drop_eq_nil_of_le (by omega:c.Au.length≤i),Ql,ct rfl]
 |n+1,m+1,i,h,hm=>by
  have h1:i<l.length:=by omega
  have h2:i<c.Au.length:=by omega
  have e:Ey K c.Au[i] l[i]=some (DR l[i] c.Au[i].Lo c.Au[i].Hi):=by unfold Ey;rw[bd (Ky ..)]
  rw[KL.eq_2,ct (dt (by omega)),BO h2,BO h1,bd e,List.drop_eq_getElem_cons h1,List.drop_eq_getElem_cons h2,Dn];cases DR l[i] c.Au[i].Lo c.Au[i].Hi with
  |false=>rw[nf,Bool.false_and,cf rfl]
  |true=>rw[nt,Be (by omega) (by omega),CK i,Bool.true_and,Zc c l hh he n m (i+1) (by omega) (by omega)]
theorem XL{rs:List AR}{l:List Int}(h:l.length≠rs.length):Dn rs l=false:=by
 rw[Bool.eq_false_iff];intro g;exact h (Gn g)
theorem LM(c:AU)(l:List Int)(hh:c.Au.length≤100)(hl:l.length≤100):MQ K c l=some (cond (Dn c.Au l) (arr l) ⟨0,0,0⟩,Dn c.Au l):=by
 unfold MQ
 by_cases he:l.length=c.Au.length
 ·have:=Zc hK c l hh he l.length K 0 (by omega) (by omega);rw[Int.natCast_zero,List.drop_zero,List.drop_zero] at this;rw[cf (EL (by omega)),bd this,Agq];cases Dn c.Au l<;>rfl
 ·rw[ct (FL (by omega)),XL hK he,cf rfl]
theorem MB{c:AU}(a:OkC c):KQ K c=some 0:=by
 rw[U5 hK c a.len.1 a.len.2.1 a.len.2.2.1 a.len.2.2.2,a.fault]
theorem AeF {c:AU} (a:OkC c) {l:List Int} (hl:Dn c.Au l=true):QP K c l=some (c.AS.map (CU l),0):=by
 have f:=a.hl;have g:=a.cl;have hh:=Gn hl;unfold QP;rw[bd (MB hK a),cf (EL rfl),bd (LM hK c l (by omega) (by omega)),hl,nt,ct rfl];have b:∀(d m i:Nat) (acc:List Int),c.AS.length=i+d→d<m→acc.length≤i→N2 K c (arr l,true) m acc (i:Int)=some (acc++(c.AS.drop i).map (CU l)):=by
  intro d
  induction d with
  |zero=>
   intro m i acc h hm ha;obtain⟨m,rfl⟩:∃e,m=e+1:=⟨m-1,by omega⟩;rw[N2.eq_2,cf (df (by omega)),List.drop_eq_nil_of_le (by omega),List.map_nil,List.append_nil]
  |succ d ih=>
   intro m i acc h hm ha;obtain⟨m,rfl⟩:∃e,m=e+1:=⟨m-1,by omega⟩;have hi:i<c.AS.length:=by omega
   rw[N2.eq_2,ct (dt (by omega)),BO hi,bd (KW hK a hl hi),DE (by simp;omega),Be (by omega) (by omega),CK i,ih m (i+1) _ (by omega) (by omega) (by simp;omega),List.drop_eq_getElem_cons hi,List.map_cons,List.append_assoc];rfl
 have:=b c.AS.length K 0 [] (by omega) (by omega) (by simp);rw[Int.natCast_zero,List.drop_zero,List.nil_append] at this;rw[bd this]
end
def F5(g:List ES)(s:Int):Int:=match g.find? (fun x=>decide (x.B6≤s)) with|some x=>x.Ea|none=>0
def AA (t:Aq) (l:List Int):List Int:=t.Aa.map fun w=>F5 t.Ao (CU l w)*w.sum
structure OkT(t:Aq):Prop where
 len:TI t
 fault:CX t=0
 many:Ds t.Af≤150
theorem FT{t:Aq}(h:CX t=0):N4 t.C=0∧t.Ao.length≤3∧t.Am.length≤3∧t.Ak.length≤5∧(0≤t.Flat∧t.Flat≤100)∧0<t.Ao.length∧Ow 101 100 t.Ao=true∧(∀o∈t.Am,L5 t o=true)∧∀n∈t.Ak,KK t n=true:=by
 unfold CX at h;split at h
 ·rename_i h0;exact absurd h h0
 rename_i h0
 split at h
 ·omega
 rename_i h1
 split at h
 ·omega
 rename_i h2
 split at h
 ·omega
 rename_i c
 split at h
 ·omega
 rename_i a
 split at h
 ·omega
 rename_i h5
 split at h
 ·omega
 rename_i b
 refine⟨Decidable.byContradiction h0,by omega,by omega,by omega,DB.1 (by simpa using h2),by omega,by simpa using a,?_,?_⟩
 ·exact List.all_eq_true.1 (by simpa using h5)
 ·exact List.all_eq_true.1 (by simpa using b)
theorem Zd:∀{l:List ES} {s p:Int},Ow s p l=true→∀g∈l,(0≤g.B6∧g.B6<s)∧0≤g.Ea∧g.Ea≤p
 |[],_,_,_,g,a=>by cases a
 |x::l,s,p,h,g,a=>by
  rw[Ow,Bool.and_eq_true,Bool.and_eq_true] at h;have h1:=DB.1 h.1;have h2:=DB.1 h.2.1;rcases List.mem_cons.1 a with rfl|a
  ·exact⟨by omega,h2⟩
  ·have:=Zd h.2.2 g a;omega
namespace OkT
variable{t:Aq}(h:OkT t)
include h
theorem c:OkC t.C:=⟨h.len.1,(FT h.fault).1,h.many⟩
theorem gl:t.Ao.length≤3:=(FT h.fault).2.1
theorem flat:0≤t.Flat∧t.Flat≤100:=(FT h.fault).2.2.2.2.1
theorem gr:Ow 101 100 t.Ao=true:=(FT h.fault).2.2.2.2.2.2.1
theorem Aec:∀g∈t.Ao,(0≤g.B6∧g.B6≤100)∧0≤g.Ea∧g.Ea≤100:=fun g a=>by have:=Zd h.gr g a;omega
theorem order:∀o∈t.Am,(0≤o.EC∧o.EC<t.Ao.length)∧1≤o.ER∧o.ER≤90:=fun o a=>by
 have h1:=(FT h.fault).2.2.2.2.2.2.2.1 o a;unfold L5 at h1;rw[Bool.and_eq_true] at h1;have h2:=DB.1 h1.1;exact⟨by omega,DB.1 h1.2⟩
theorem note:∀n∈t.Ak,(0≤n.Cn∧n.Cn<t.Aa.length)∧0≤n.C5∧n.C5≤n.C6∧n.C6≤9000:=fun n hn=>by
 have h1:=(FT h.fault).2.2.2.2.2.2.2.2 n hn;unfold KK at h1;rw[Bool.and_eq_true] at h1;have h2:=DB.1 h1.1;exact⟨by omega,Yw.1 h1.2⟩
theorem Hn:∀w∈t.Aa,w.length=t.Af.length∧(∀x∈w,0≤x∧x≤30)∧0<w.sum∧w.sum≤90:=h.c.Hn
theorem kl:t.Aa.length≤3:=h.c.cl
theorem hl:t.Af.length≤3:=h.c.hl
theorem Sk(s:Int):0≤F5 t.Ao s∧F5 t.Ao s≤100:=by
 unfold F5;split
 ·rename_i x hx
  exact(h.Aec x (List.mem_of_find?_eq_some hx)).2
 ·omega
theorem Tt(l:List Int):∀x∈AA t l,0≤x∧x≤9000:=fun x hx=>by
 unfold AA at hx;obtain⟨w,hw,rfl⟩:=List.mem_map.1 hx;have h1:=h.Sk (CU l w);have h2:=h.Hn w hw;have:=JK h1.1 h1.2 (by omega:0≤w.sum) h2.2.2.2;omega
end OkT
theorem Di(t:Aq)(l:List Int):(AA t l).length=t.Aa.length:=List.length_map ..
section
variable{K:Nat}(hK:1000≤K)
include hK
end
def DD (t:Aq) (m:List (List Int×Int)):Prop:=∀(i:Nat) (s v:Int),Lf m [(i:Int),s]=some v→v=F5 t.Ao s*(t.Aa.getD i []).sum
theorem Kz(t:Aq):DD t []:=fun i s v h=>by cases h
def wk (t:Aq) (a:List Bt) (m:List (List Int×Int)):D1:=⟨t.Af,t.Aa,t.Ag,t.Flat,t.Ao,t.Am,t.Ak,t.Aa.map List.sum,a,m⟩
def AD(t:Aq)(l:List Int):Bt:=arr (t.Aa.map (CU l))
theorem AeG:∀{l:List Int} {i:Nat} (x:Int),l.length=i→i<3→(arr l).set i x=arr (l++[x])
 |[],_,x,rfl,_=>rfl
 |[_],_,x,rfl,_=>rfl
 |[_,_],_,x,rfl,_=>rfl
 |_::_::_::_,_,x,rfl,h=>by simp at h;omega
section
variable{K:Nat}(hK:1000≤K)
include hK
theorem Aad{t:Aq}(b:OkT t)(a:List Bt)(m:List (List Int×Int)){k:Nat}(hk:k<t.Aa.length)(s:Int):∀(d n i:Nat),t.Ao.length=i+d→d<n→
  Kb (wk t a m) ⟨(k:Int),s⟩ n 0 (i:Int)=some (F5 (t.Ao.drop i) s*t.Aa[k].sum)
 |d,0,i,h,hn=>by omega
 |0,n+1,i,h,hn=>by
  have e:((wk t a m).BM.length:Int)=t.Ao.length:=rfl;rw[Kb.eq_2,cf (df (by omega)),List.drop_eq_nil_of_le (by omega)];simp[F5]
 |d+1,n+1,i,h,hn=>by
  have h1:i<t.Ao.length:=by omega
  have g:=b.gl;have c:k<(wk t a m).weights.length:=by show k<(List.map _ _).length;simpa using hk
  have f:(wk t a m).weights[k]'c=t.Aa[k].sum:=by simp[wk]
  rw[Kb.eq_2,ct (dt (show(i:Int)<((wk t a m).BM.length:Int) by show(i:Int)<(t.Ao.length:Int);omega)),BO (xs:=(wk t a m).BM) h1,List.drop_eq_getElem_cons h1];show cond (decide (t.Ao[i].B6≤s)) _ _=_
  by_cases h2:t.Ao[i].B6≤s
  ·have b1:=(b.Aec _ (List.getElem_mem h1)).2;have b2:=b.Hn _ (List.getElem_mem hk);have b3:=JK b1.1 b1.2 (by omega:0≤t.Aa[k].sum) b2.2.2.2;rw[ct (dt h2),BO c,f];show(i64 (t.Ao[i].Ea*_)).bind _=_;rw[Be (by omega) (by omega)];unfold F5;rw[List.find?_cons,dt h2];rfl
  ·rw[cf (df h2),Be (by omega) (by omega),CK i,Aad b a m hk s d n (i+1) (by omega) (by omega)]
   congr 2
   unfold F5;rw[List.find?_cons,df h2]
theorem Adn{t:Aq}(d:OkT t)(c:List Bt){m:List (List Int×Int)}(hm:DD t m){k:Nat}(hk:k<t.Aa.length)(s:Int):
  ∃a,DD t a∧Nj K (wk t c m) ⟨(k:Int),s⟩=some (F5 t.Ao s*t.Aa[k].sum,a):=by
 have f:=d.gl;unfold Nj;show∃a,DD t a∧cond (!((Lf m [(k:Int),s]).isSome)) _ _=_;cases e:Lf m [(k:Int),s] with
 |some v=>
  have h1:=hm k s v e;rw[Ci _ hk] at h1;refine⟨m,hm,?_⟩;show cond (!true) _ (some ((Lf m [(k:Int),s]).getD 0,m))=_;rw[nt,e,←h1];rfl
 |none=>
  have h:=Aad hK d c m hk s t.Ao.length K 0 (by omega) (by omega);rw[Int.natCast_zero,List.drop_zero] at h;refine⟨SR m [(k:Int),s] (F5 t.Ao s*t.Aa[k].sum),fun i s' v b=>?_,?_⟩
  ·rw[AaU] at b;split at b
   ·rename_i he
    simp only[List.cons.injEq,and_true] at he;obtain⟨g,rfl⟩:=he;obtain rfl:i=k:=by omega
    rw[Ci _ hk];exact(Option.some.inj b).symm
   ·exact hm i s' v b
  ·show cond (!false) ((Kb (wk t c m) ⟨(k:Int),s⟩ K ((Lf m [(k:Int),s]).getD 0) 0).bind _) _=_;rw[nf,e,Option.getD_none,bd h];rfl
theorem Abc{t:Aq}(c:OkT t)(a:List Bt)(b:List (List Int×Int))(l:List Int):∀(d n i:Nat) (m:List (List Int×Int)),t.Aa.length=i+d→d<n→DD t m→
  ∃f,DD t f∧JJ K (wk t a b) (AD t l) n (i:Int) (arr ((AA t l).take i)).a0 (arr ((AA t l).take i)).a1 (arr ((AA t l).take i)).a2 m=some ((arr (AA t l)).a0,(arr (AA t l)).a1,(arr (AA t l)).a2,f)
 |d,0,i,m,h,hn,_=>by omega
 |0,n+1,i,m,h,hn,hm=>by
  have e:((wk t a b).weights.length:Int)=t.Aa.length:=by show((List.map _ _).length:Int)=_;simp
  refine⟨m,hm,?_⟩;rw[JJ.eq_2,cf (df (by omega)),List.take_of_length_le (by rw[Di];omega)]
 |d+1,n+1,i,m,h,hn,hm=>by
  have g:=c.kl;have e:((wk t a b).weights.length:Int)=t.Aa.length:=by show((List.map _ _).length:Int)=_;simp
  have hi:i<t.Aa.length:=by omega
  have j:i<(AA t l).length:=by rw[Di];exact hi
  have g1:idx [(AD t l).a0,(AD t l).a1,(AD t l).a2] (i:Int)=some (CU l t.Aa[i]):=by
   have:=Fm (l:=t.Aa.map (CU l)) (by simpa using g) (k:=i) (by simpa using hi);rw[List.getElem_map] at this;exact this
  obtain⟨o,p,g2⟩:=Adn hK c a hm hi (CU l t.Aa[i]);have g3:idx ([(arr ((AA t l).take i)).a0,(arr ((AA t l).take i)).a1,(arr ((AA t l).take i)).a2]:List Int) (i:Int)=some (([(arr ((AA t l).take i)).a0,(arr ((AA t l).take i)).a1,(arr ((AA t l).take i)).a2]:List Int)[i]'(by simp;omega)):=idx_eq _;have g4:(arr ((AA t l).take i)).set i (F5 t.Ao (CU l t.Aa[i])*t.Aa[i].sum)=arr ((AA t l).take (i+1)):=by
   rw[AeG _ (by rw[List.length_take];omega) (by omega),List.take_succ_eq_append_getElem j];simp[AA]
  obtain⟨r,q,g5⟩:=Abc c a b l d n (i+1) o (by omega) (by omega) p;refine⟨r,q,?_⟩;rw[JJ.eq_2,ct (dt (by omega)),bd g1];show(Nj K (wk t a m) ⟨(i:Int),CU l t.Aa[i]⟩).bind _=_;rw[bd g2,bd g3,Be (by omega) (by omega),CK i,Int.toNat_natCast];show JJ K (wk t a b) (AD t l) n ((i+1:Nat):Int) ((arr ((AA t l).take i)).set i (F5 t.Ao (CU l t.Aa[i])*t.Aa[i].sum)).a0 ((arr ((AA t l).take i)).set i (F5 t.Ao (CU l t.Aa[i])*t.Aa[i].sum)).a1 ((arr ((AA t l).take i)).set i (F5 t.Ao (CU l t.Aa[i])*t.Aa[i].sum)).a2 o=_;rw[g4];exact g5
theorem Ms{t:Aq}(c:OkT t)(b:List Bt){m:List (List Int×Int)}(hm:DD t m)(l:List Int):
  ∃a,DD t a∧F8 K (wk t b m) (AD t l)=some (arr (AA t l),a):=by
 have:=c.kl;obtain⟨a,h1,h2⟩:=Abc hK c b m l t.Aa.length K 0 m (by omega) (by omega) hm;refine⟨a,h1,?_⟩;unfold F8;have d:JJ K (wk t b m) (AD t l) K 0 0 0 0 (wk t b m).known=some ((arr (AA t l)).a0,(arr (AA t l)).a1,(arr (AA t l)).a2,a):=h2;rw[bd d]
end
section
variable{K:Nat}(hK:1000≤K)
include hK
theorem Nk(t:Aq)(hl:t.Af.length≤100):Ni K t=some t.Af:=by
 have a:∀(d m i:Nat) (acc:List AR),t.Af.length=i+d→d<m→acc.length≤i→La t m acc (i:Int)=some (acc++t.Af.drop i):=by
  intro d
  induction d with
  |zero=>
   intro m i acc h hm ha;obtain⟨m,rfl⟩:∃b,m=b+1:=⟨m-1,by omega⟩;rw[La.eq_2,cf (df (by omega)),List.drop_eq_nil_of_le (by omega),List.append_nil]
  |succ d ih=>
   intro m i acc h hm ha;obtain⟨m,rfl⟩:∃b,m=b+1:=⟨m-1,by omega⟩;have hi:i<t.Af.length:=by omega
   rw[La.eq_2,ct (dt (by omega)),BO hi,DE (by simp;omega),Be (by omega) (by omega),CK i,ih m (i+1) _ (by omega) (by omega) (by simp;omega),List.drop_eq_getElem_cons hi,List.append_assoc];rfl
 have:=a t.Af.length K 0 [] (by omega) (by omega) (by simp);rw[Int.natCast_zero,List.drop_zero,List.nil_append] at this;unfold Ni;rw[bd this]
theorem NH{t:Aq}(b:OkT t):Ka K t=some (wk t [] []):=by
 have e:=b.kl;have f:=b.hl;have a:∀(d m i:Nat) (acc:List Int),t.Aa.length=i+d→d<m→acc.length≤i→JI K t m (i:Int) acc=some (acc++(t.Aa.drop i).map List.sum):=by
  intro d
  induction d with
  |zero=>
   intro m i acc h hm ha;obtain⟨m,rfl⟩:∃c,m=c+1:=⟨m-1,by omega⟩;rw[JI.eq_2,cf (df (by omega)),List.drop_eq_nil_of_le (by omega),List.map_nil,List.append_nil]
  |succ d ih=>
   intro m i acc h hm ha;obtain⟨m,rfl⟩:∃c,m=c+1:=⟨m-1,by omega⟩;have hi:i<t.Aa.length:=by omega
   have hw:=b.Hn _ (List.getElem_mem hi);have hs:H9 t.Aa[i] K 0 0=some t.Aa[i].sum:=by
    have:=XI t.Aa[i] (fun m s j=>H9 t.Aa[i] m s (j:Int)) (· +·) (fun j s=>0≤s∧s≤30*(j:Int)) id (fun j s hj hs=>by have:=hw.2.1 _ (List.getElem_mem hj);omega)
     (fun m j s hj hs=>by
      have hx:=hw.2.1 _ (List.getElem_mem hj);show H9 t.Aa[i] (m+1) s (j:Int)=_;rw[H9.eq_2,ct (dt (by omega)),BO hj,Be (by omega) (by omega),Be (by omega) (by omega),CK j])
     (fun m s _=>by
      show H9 t.Aa[i] (m+1) s (t.Aa[i].length:Int)=_;rw[H9.eq_2,cf (df (by omega))];rfl) (k:=K) (s0:=0) (by omega) (by omega)
    rw[T7,Int.zero_add] at this;exact this
   rw[JI.eq_2,ct (dt (by omega)),BO hi,bd hs,DE (by simp;omega),Be (by omega) (by omega),CK i,ih m (i+1) _ (by omega) (by omega) (by simp;omega),List.drop_eq_getElem_cons hi,List.map_cons,List.append_assoc];rfl
 have:=a t.Aa.length K 0 [] (by omega) (by omega) (by simp);rw[Int.natCast_zero,List.drop_zero,List.nil_append] at this;unfold Ka;rw[bd this];rfl
theorem KA{t:Aq}(a:OkT t){l:List Int}(hl:Dn t.Af l=true):KS K t l=some (AD t l):=by
 unfold KS;have h:QP K ⟨t.Af,t.Aa,t.Ag⟩ l=some (t.Aa.map (CU l),0):=AeF hK (c:=t.C) a.c hl;rw[bd h];rfl
end
def Eg(M:List Int)(n:CA):Bool:=DR (M.getD n.Cn.toNat 0) n.C5 n.C6
def Bp(M out:List Int):Nat→List CA→Bool
 |_,[]=>true
 |i,n::ns=>(out.contains (i:Int)||Eg M n)&&Bp M out (i+1) ns
section
variable{K:Nat}(hK:1000≤K)
include hK
end
theorem Hv(M out:List Int):∀(ns:List CA) (i:Nat),Bp M out i ns=true↔∀j (hj:j<ns.length),out.contains ((i+j:Nat):Int)=true∨Eg M ns[j]=true
 |[],i=>by simp[Bp]
 |n::ns,i=>by
  rw[Bp,Bool.and_eq_true,Bool.or_eq_true,Hv M out ns (i+1)];constructor
  ·rintro⟨h1,h2⟩ j hj;cases j with
   |zero=>simpa using h1
   |succ j=>
    have:=h2 j (by simpa using hj);rw[show i+(j+1)=i+1+j by omega];simpa using this
  ·intro h;refine⟨(show out.contains ((i+0:Nat):Int)=true∨Eg M n=true from h 0 (by simp)),fun j hj=>?_⟩;have:=h (j+1) (by simpa using hj);rw[show i+1+j=i+(j+1) by omega];simpa using this
section
variable{K:Nat}(hK:1000≤K)
include hK
end
def SS(c:AU):Bool:=decide (c.Au.length≤5)&&(decide (c.AS.length≤5)&&(decide (c.Av.length≤7)&&((c.AS.all fun l=>decide (l.length≤6))&&(decide (N4 c≠0)||decide (Ds c.Au≤150)))))
def DX(t:Aq):Bool:=SS t.C&&(decide (t.Ao.length≤5)&&(decide (t.Am.length≤5)&&decide (t.Ak.length≤7)))
theorem Ze{c:AU}:SS c=true↔c.Au.length≤5∧c.AS.length≤5∧c.Av.length≤7∧(∀l∈c.AS,l.length≤6)∧(N4 c≠0∨Ds c.Au≤150):=by
 simp[SS]
theorem Fj{t:Aq}(h:DX t=true):TI t:=by
 unfold DX at h;rw[Bool.and_eq_true,Bool.and_eq_true,Bool.and_eq_true,decide_eq_true_eq,decide_eq_true_eq,decide_eq_true_eq,Ze] at h;obtain⟨⟨h1,h2,b,a,_⟩,h5,c,d⟩:=h;exact⟨⟨by omega,by omega,by omega,fun l hl=>by have:=a l hl;omega⟩,by omega,by omega,by omega⟩
theorem Ej{t:Aq}(h:DX t=true)(h0:CX t=0):OkT t:=by
 have hl:=Fj h;unfold DX at h;rw[Bool.and_eq_true,Ze] at h;have a:=(FT h0).1;exact⟨hl,h0,by
  rcases h.1.2.2.2.2 with h1|h1
  ·exact absurd a h1
  ·exact h1⟩
section
variable{K:Nat}(hK:1000≤K)
include hK
theorem Pk(l:List Int)(hl:l.length≤1000):OT K l=some l:=by
 unfold OT;rw[DE (by simp;omega),List.nil_append]
theorem We {α:Type} (xs:List α) (F:Nat→Int→List α→Option (List α)) (c:∀m (i:Nat) acc (hi:i<xs.length),acc.length≤i→F (m+1) (i:Int) acc=F m ((i+1:Nat):Int) (acc++[xs[i]]))
  (hn:∀m acc,F (m+1) (xs.length:Int) acc=some acc) (hl:xs.length≤900):F K 0 []=some xs:=by
 have a:∀(d m i:Nat) (acc:List α),xs.length=i+d→d<m→acc.length≤i→F m (i:Int) acc=some (acc++xs.drop i):=by
  intro d
  induction d with
  |zero=>
   intro m i acc h hm ha;obtain⟨m,rfl⟩:∃b,m=b+1:=⟨m-1,by omega⟩;obtain rfl:i=xs.length:=by omega
   rw[hn,List.drop_eq_nil_of_le (by omega),List.append_nil]
  |succ d ih=>
   intro m i acc h hm ha;obtain⟨m,rfl⟩:∃b,m=b+1:=⟨m-1,by omega⟩;have hi:i<xs.length:=by omega
   rw[c m i acc hi ha,ih m (i+1) _ (by omega) (by omega) (by simp;omega),List.drop_eq_getElem_cons hi,List.append_assoc];rfl
 have:=a xs.length K 0 [] (by omega) (by omega) (by simp);rw[Int.natCast_zero,List.drop_zero,List.nil_append] at this;exact this
theorem Aae(c:AU)(hl:Adl c):KV K c=some c:=by
 obtain⟨h1,h2,f,a⟩:=hl;unfold KV;have b:IB K c K 0 []=some c.Au:=We hK c.Au (fun m i acc=>IB K c m i acc) (fun m i acc hi ha=>by
   show IB K c (m+1) (i:Int) acc=_;rw[IB.eq_2,ct (dt (by omega)),BO hi];unfold Ov;rw[Option.bind_some,DE (by simp;omega),Be (by omega) (by omega),CK i];try rfl) (fun m acc=>by
   show IB K c (m+1) (c.Au.length:Int) acc=_;rw[IB.eq_2,cf (df (by omega))]) (by omega)
 have d:Io K c K 0 []=some c.AS:=We hK c.AS (fun m i acc=>Io K c m i acc) (fun m i acc hi ha=>by
   show Io K c (m+1) (i:Int) acc=_;rw[Io.eq_2,ct (dt (by omega)),BO hi,bd (Pk hK _ (by have:=a _ (List.getElem_mem hi);omega)),DE (by simp;omega),Be (by omega) (by omega),CK i];try rfl) (fun m acc=>by
   show Io K c (m+1) (c.AS.length:Int) acc=_;rw[Io.eq_2,cf (df (by omega))]) (by omega)
 have e:Ip K c K 0 []=some c.Av:=We hK c.Av (fun m i acc=>Ip K c m i acc) (fun m i acc hi ha=>by
   show Ip K c (m+1) (i:Int) acc=_;rw[Ip.eq_2,ct (dt (by omega)),BO hi];unfold Ov;rw[Option.bind_some,DE (by simp;omega),Be (by omega) (by omega),CK i];try rfl) (fun m acc=>by
   show Ip K c (m+1) (c.Av.length:Int) acc=_;rw[Ip.eq_2,cf (df (by omega))]) (by omega)
 rw[bd b,bd d,bd e]
theorem GQ(t:Aq)(hl:TI t):Cv K t=some t:=by
 obtain⟨a,h1,h2,f⟩:=hl;unfold Cv;have b:KV K ⟨t.Af,t.Aa,t.Ag⟩=some t.C:=Aae hK t.C a;have c:IZ t K 0 []=some t.Ao:=We hK t.Ao (fun m i acc=>IZ t m i acc) (fun m i acc hi ha=>by
   show IZ t (m+1) (i:Int) acc=_;rw[IZ.eq_2,ct (dt (by omega)),BO hi,BO hi,DE (by simp;omega),Be (by omega) (by omega),CK i];try rfl) (fun m acc=>by
   show IZ t (m+1) (t.Ao.length:Int) acc=_;rw[IZ.eq_2,cf (df (by omega))]) (by omega)
 have d:IC t K 0 []=some t.Am:=We hK t.Am (fun m i acc=>IC t m i acc) (fun m i acc hi ha=>by
   show IC t (m+1) (i:Int) acc=_;rw[IC.eq_2,ct (dt (by omega)),BO hi,BO hi,DE (by simp;omega),Be (by omega) (by omega),CK i];try rfl) (fun m acc=>by
   show IC t (m+1) (t.Am.length:Int) acc=_;rw[IC.eq_2,cf (df (by omega))]) (by omega)
 have e:ID K t K 0 []=some t.Ak:=We hK t.Ak (fun m i acc=>ID K t m i acc) (fun m i acc hi ha=>by
   show ID K t (m+1) (i:Int) acc=_;rw[ID.eq_2,ct (dt (by omega)),BO hi,BO hi];unfold I0;rw[Option.bind_some,DE (by simp;omega),Be (by omega) (by omega),CK i];try rfl) (fun m acc=>by
   show ID K t (m+1) (t.Ak.length:Int) acc=_;rw[ID.eq_2,cf (df (by omega))]) (by omega)
 rw[bd b,bd c,bd d,bd e];rfl
theorem AbU(c:AU):N4 c=0→∀r∈c.Au,E7 r:=fun h=>(I1 h).2.2.2.2.1
theorem AeH(c:AU):NG K c=some (SS c):=by
 unfold NG
 by_cases h1:c.Au.length≤5
 case neg=>rw[ct (dt (by omega))];unfold SS;rw[df h1,Bool.false_and]
 rw[cf (df (by omega))]
 by_cases h2:c.AS.length≤5
 case neg=>rw[ct (dt (by omega))];unfold SS;rw[df h2,Bool.false_and,Bool.and_false]
 rw[cf (df (by omega))]
 by_cases a:c.Av.length≤7
 case neg=>rw[ct (dt (by omega))];unfold SS;rw[df a,Bool.false_and,Bool.and_false,Bool.and_false]
 rw[cf (df (by omega))];have h5:Jf c K 0=some (cond (c.AS.all fun l=>decide (l.length≤6)) (.inr ()) (.inl false)):=
  Jm c.AS (fun m i=>Jf c m (i:Int)) (fun l=>decide (l.length≤6)) false
   (fun m i hi=>by
    show Jf c (m+1) (i:Int)=_;rw[Jf.eq_2,ct (dt (by omega)),BO hi]
    by_cases h:c.AS[i].length≤6
    ·rw[cf (df (by omega)),Be (by omega) (by omega),CK i,dt h,ct rfl]
    ·rw[ct (dt (by omega)),df h,cf rfl])
   (fun m=>by
    show Jf c (m+1) (c.AS.length:Int)=_;rw[Jf.eq_2,cf (df (by omega))]) (by omega)
 unfold SS;rw[bd h5,dt h1,dt h2,dt a,Bool.true_and,Bool.true_and,Bool.true_and];cases b:c.AS.all fun l=>decide (l.length≤6) with
 |false=>rw[cf rfl,Bool.false_and];rfl
 |true=>
  have d:∀l∈c.AS,l.length≤100:=fun l hl=>by have:=of_decide_eq_true (List.all_eq_true.1 b l hl);omega
  rw[ct rfl,Bool.true_and];show Option.bind (Lr K c) _=_;rw[bd (Aab hK c (by omega) (by omega) (by omega) d)]
  by_cases h0:N4 c=0
  ·rw[cf (EL h0),bd (QK hK c (by omega) (AbU hK c h0)),df (show¬(N4 c≠0) by simp[h0]),Bool.false_or]
   congr 1
   rw[Bool.eq_iff_iff,decide_eq_true_eq,decide_eq_true_eq];omega
  ·rw[ct (FL h0),dt h0,Bool.true_or]
theorem OU(t:Aq):Gp K t=some (DX t):=by
 unfold Gp DX;have h:NG K ⟨t.Af,t.Aa,t.Ag⟩=some (SS t.C):=AeH hK t.C;rw[bd h];cases SS t.C with
 |false=>rw[cf rfl,Bool.false_and]
 |true=>
  rw[ct rfl,Bool.true_and]
  by_cases h1:t.Ao.length≤5
  case neg=>rw[cf (df (by omega)),df h1,Bool.false_and]
  rw[ct (dt (by omega)),dt h1,Bool.true_and]
  by_cases h2:t.Am.length≤5
  case neg=>rw[cf (df (by omega)),df h2,Bool.false_and]
  rw[ct (dt (by omega)),dt h2,Bool.true_and]
  congr 1
  rw[Bool.eq_iff_iff,decide_eq_true_eq,decide_eq_true_eq];omega
end
section
variable{K:Nat}(hK:1000≤K)
include hK
end
def Ud(x:Int):List Int→List Int
 |[]=>[x]
 |y::l=>cond (decide (x≤y)) (x::y::l) (y::Ud x l)
def Ui:List Int→List Int
 |[]=>[]
 |x::l=>Ud x (Ui l)
theorem Aaf(x z:Int):∀l,z∈Ud x l↔z=x∨z∈l
 |[]=>by simp[Ud]
 |y::l=>by
  unfold Ud;cases h:decide (x≤y)
  ·simp[Aaf x z l];constructor<;>(rintro(h|h|h)<;>simp[h])
  ·simp
theorem Zf(x:Int):∀l,(Ud x l).Perm (x::l)
 |[]=>.refl _
 |y::l=>by
  unfold Ud;cases h:decide (x≤y)
  ·exact((Zf x l).cons y).trans (.swap x y l)
  ·exact .refl _
theorem Pw:∀l,(Ui l).Perm l
 |[]=>.refl _
 |x::l=>(Zf x _).trans ((Pw l).cons x)
theorem WT(x:Int):∀l,l.Pairwise (· ≤·)→(Ud x l).Pairwise (· ≤·)
 |[],_=>by simp[Ud]
 |y::l,h=>by
  unfold Ud;cases b:decide (x≤y)
  ·have h1:¬x≤y:=by simpa using b
   rw[List.pairwise_cons] at h;refine List.pairwise_cons.2 ⟨fun z a=>?_,WT x l h.2⟩;rcases(Aaf x z l).1 a with rfl|a
   ·omega
   ·exact h.1 z a
  ·have h1:x≤y:=by simpa using b
   refine List.pairwise_cons.2 ⟨fun z a=>?_,h⟩;rcases List.mem_cons.1 a with rfl|a
   ·exact h1
   ·exact Int.le_trans h1 ((List.pairwise_cons.1 h).1 z a)
theorem QL:∀l,(Ui l).Pairwise (· ≤·)
 |[]=>.nil
 |x::l=>WT x _ (QL l)
theorem P8(l:List Int):J1 l=Ui l:=by
 have hs:(J1 l).Pairwise (· ≤·):=by
  have:=List.pairwise_mergeSort (le:=fun(x y:Int)=>decide (x≤y)) (by intro a b c;simp;omega) (by intro a b;simp;omega) l;exact this.imp (fun h=>by simpa using h)
 refine List.Perm.eq_of_pairwise (le:=(· ≤·)) (fun a b _ _ h1 h2=>Int.le_antisymm h1 h2) hs (QL l) ?_;exact(List.mergeSort_perm l _).trans (Pw l).symm
def Yx(a:Nat)(d:D1)(b:List Int):Option (Bool×(List (List Int×Int))):=
 (FI a d).bind fun c=>(Ho b c a ([]:List Int) (0:Int)).bind fun z3=>(EX ((z3.length:Int)≤100000)).bind fun _=>(EX (((Ui z3).length:Int)≤100000)).bind fun _=>some ((decide (((Lib.compact (Ui z3)).length:Int)<(b.length:Int)),c.2))
theorem Ado:Ie=Yx:=by
 funext K a b;unfold Ie Yx;simp only[P8]
def Vy(b:Nat)(c:List Int)(d:D1):Option (Bool×(List (List Int×Int))):=
 (Yx b d c).bind fun a=>some ((a.1,a.2))
theorem AbV:HV=Vy:=by
 funext K a b;unfold HV Vy;rw[Ado]
def Yy(d:Nat)(e:Aq):Option ((List Int)×Int):=
 (CO d e true).bind fun b=>Option.elim b.1 (cond (b.2 !=0) (some ((([]:List Int),b.2))) (none)) (fun a=>cond (b.2 !=0) (some ((([]:List Int),b.2))) ((F9 d (fun(st:(List (List Int×Int))) (x:(List Int))=>(Vy d x (⟨a.Bg,a.Bh,a.Bd,a.CN,a.BM,a.BJ,a.B0,a.weights,a.CV,st⟩:D1)).bind fun r=>some (r.1,r.2)) (e.Am.length:Int) a.known).bind fun c=>cond (!c.2.1) (some ((([]:List Int),7))) (some ((c.1,0)))))
theorem Adp:Ko=Yy:=by
 funext K a;unfold Ko Yy;rw[AbV]
def Yz(a:Nat):Option (Bool):=
 (G3 a 0).bind fun z=>(JW a z [41,62]).bind fun n=>(G3 a 0).bind fun aA=>(Gr a aA).bind fun d=>(G3 a 0).bind fun o=>(GH a o [0,1]).bind fun b=>(G3 a 0).bind fun p=>(KT a p).bind fun c=>(G3 a 1).bind fun q=>(JX a q).bind fun e=>(G3 a 0).bind fun r=>(Yy a r).bind fun f=>(G3 a 2).bind fun s=>(KO a s).bind fun g=>(G3 a 2).bind fun t=>(Ja a t).bind fun h=>cond (n.2==0) ((Fl a n.1 [80,120]).bind fun u=>cond (u) (cond (d.2==0) (cond ((d.1.length:Int)==2) ((idx d.1 (0:Int)).bind fun i=>(HL a 40 80).bind fun j=>cond ([i.Lo,i.Hi]==[j.Lo,j.Hi]) ((idx d.1 (1:Int)).bind fun k=>(HL a 120 120).bind fun l=>cond ([k.Lo,k.Hi]==[l.Lo,l.Hi]) (cond (b.2==0) ((HL a 160 200).bind fun m=>cond ([b.1.Lo,b.1.Hi]==[m.Lo,m.Hi]) (cond (c.2.2==0) ((Fl a c.1 [1]).bind fun v=>cond (v) (cond (c.2.1==180) (cond (e.2==0) ((Fl a e.1 [1,0]).bind fun w=>cond (w) (cond (f.2==0) ((Fl a f.1 [0,1]).bind fun x=>cond (x) (cond (g.2==0) (cond (g.1==1) (cond (h.2==0) ((Fl a h.1 [0]).bind fun y=>some (y)) (some (false))) (some (false))) (some (false))) (some (false))) (some (false))) (some (false))) (some (false))) (some (false))) (some (false))) (some (false))) (some (false))) (some (false))) (some (false))) (some (false))) (some (false))) (some (false))) (some (false))) (some (false))
theorem Adq:BH=Yz:=by
 funext K;unfold BH Yz;rw[Adp]
set_option maxRecDepth 100000 in
theorem AaY:Yz 1000=some true:=by kernel_rfl
theorem KX:BH 1000=some true:=by rw[Adq];exact AaY
end Go.Proofs.YtbhofkcbfblijaaGreat
end
section
namespace Go.Proofs.YtbhofkcbfblijaaGreat
namespace HF
theorem mixed:Tryz.prog.follows .mixedOrders=true:=by kernel_rfl
theorem UM(b:Nat)(w:World):(Instr.fieldAt 131 (.pointer (some ⟨b,0,none⟩)) 0).run Tryz.prog w=.ok (.pointer (some ⟨b,0,none⟩)) w:=by kernel_rfl
theorem BK:One Tryz.prog 3:=by unfold One;exact⟨by kernel_rfl,by kernel_rfl⟩
theorem UN(b:Nat)(w:World):(Instr.fieldAt 131 (.pointer (some ⟨b,0,none⟩)) 1).run Tryz.prog w=.ok (.pointer (some ⟨b,1,none⟩)) w:=by kernel_rfl
theorem Wf:BG Tryz.prog 140:=by unfold BG;kernel_rfl
theorem DY:(Tryz.prog.info? 3).map (·.size)=some 1:=by kernel_rfl
theorem Aag(b:Nat)(w:World):(Instr.fieldAt 133 (.pointer (some ⟨b,0,none⟩)) 0).run Tryz.prog w=.ok (.pointer (some ⟨b,0,none⟩)) w:=by kernel_rfl
theorem O8:One Tryz.prog 4:=by unfold One;exact⟨by kernel_rfl,by kernel_rfl⟩
theorem O9(b:Nat)(w:World):(Instr.fieldAt 38 (.pointer (some ⟨b,0,none⟩)) 0).run Tryz.prog w=.ok (.pointer (some ⟨b,0,none⟩)) w:=by kernel_rfl
theorem Qp:One Tryz.prog 35:=by unfold One;exact⟨by kernel_rfl,by kernel_rfl⟩
theorem UO(b:Nat)(w:World):(Instr.fieldAt 133 (.pointer (some ⟨b,0,none⟩)) 1).run Tryz.prog w=.ok (.pointer (some ⟨b,1,none⟩)) w:=by kernel_rfl
theorem Abd:BG Tryz.prog 199:=by unfold BG;kernel_rfl
theorem UP:(Tryz.prog.info? 131).bind (·.zero)=some (.agg #[I 0,I 0]):=by kernel_rfl
theorem AeI:BG Tryz.prog 168:=by unfold BG;kernel_rfl
theorem S2:(Tryz.prog.info? 131).map (·.size)=some 2:=by kernel_rfl
theorem PT:HO Tryz.prog 131 2:=by unfold HO;exact⟨by kernel_rfl,by kernel_rfl⟩
theorem AeJ:One Tryz.prog 214:=by unfold One;exact⟨by kernel_rfl,by kernel_rfl⟩
theorem AeK:BG Tryz.prog 221:=by unfold BG;kernel_rfl
theorem AeL:BG Tryz.prog 194:=by unfold BG;kernel_rfl
theorem AeM:BG Tryz.prog 193:=by unfold BG;kernel_rfl
theorem YA:One Tryz.prog 148:=by unfold One;exact⟨by kernel_rfl,by kernel_rfl⟩
theorem Gh:(Tryz.prog.info? 31).map (·.size)=some 1:=by kernel_rfl
theorem EM:One Tryz.prog 31:=by unfold One;exact⟨by kernel_rfl,by kernel_rfl⟩
theorem AeN:BG Tryz.prog 222:=by unfold BG;kernel_rfl
theorem AeO:BG Tryz.prog 196:=by unfold BG;kernel_rfl
theorem AeP:BG Tryz.prog 195:=by unfold BG;kernel_rfl
theorem AeQ:One Tryz.prog 212:=by unfold One;exact⟨by kernel_rfl,by kernel_rfl⟩
theorem Wg:HO Tryz.prog 133 4:=by unfold HO;exact⟨by kernel_rfl,by kernel_rfl⟩
theorem Aah:(Tryz.prog.info? 133).map (·.size)=some 4:=by kernel_rfl
theorem AeR:BG Tryz.prog 223:=by unfold BG;kernel_rfl
theorem AeS:BG Tryz.prog 198:=by unfold BG;kernel_rfl
theorem AeT:BG Tryz.prog 197:=by unfold BG;kernel_rfl
theorem Tw:One Tryz.prog 142:=by unfold One;exact⟨by kernel_rfl,by kernel_rfl⟩
theorem AeU:BG Tryz.prog 207:=by unfold BG;kernel_rfl
theorem AeV:BG Tryz.prog 231:=by unfold BG;kernel_rfl
theorem Abe:BG Tryz.prog 187:=by unfold BG;kernel_rfl
theorem AeW:BG Tryz.prog 220:=by unfold BG;kernel_rfl
theorem AeX:BG Tryz.prog 219:=by unfold BG;kernel_rfl
theorem Ol:HO Tryz.prog 38 3:=by unfold HO;exact⟨by kernel_rfl,by kernel_rfl⟩
theorem AeY:BG Tryz.prog 191:=by unfold BG;kernel_rfl
theorem Abf:BG Tryz.prog 192:=by unfold BG;kernel_rfl
theorem PU(b:Nat)(w:World):(Instr.fieldAt 38 (.pointer (some ⟨b,0,none⟩)) 1).run Tryz.prog w=.ok (.pointer (some ⟨b,1,none⟩)) w:=by kernel_rfl
theorem EB:One Tryz.prog 23:=by unfold One;exact⟨by kernel_rfl,by kernel_rfl⟩
theorem W0(b:Nat)(w:World):(Instr.fieldAt 133 (.pointer (some ⟨b,0,none⟩)) 2).run Tryz.prog w=.ok (.pointer (some ⟨b,2,none⟩)) w:=by kernel_rfl
theorem YB:BG Tryz.prog 165:=by unfold BG;kernel_rfl
theorem Uj(b:Nat)(w:World):(Instr.fieldAt 38 (.pointer (some ⟨b,0,none⟩)) 2).run Tryz.prog w=.ok (.pointer (some ⟨b,2,none⟩)) w:=by kernel_rfl
theorem XM:One Tryz.prog 36:=by unfold One;exact⟨by kernel_rfl,by kernel_rfl⟩
theorem AeZ:BG Tryz.prog 164:=by unfold BG;kernel_rfl
theorem Ae0:BG Tryz.prog 163:=by unfold BG;kernel_rfl
theorem Ae1:BG Tryz.prog 166:=by unfold BG;kernel_rfl
theorem Ae2:BG Tryz.prog 162:=by unfold BG;kernel_rfl
theorem Ae3:BG Tryz.prog 167:=by unfold BG;kernel_rfl
theorem Ae4:BG Tryz.prog 169:=by unfold BG;kernel_rfl
theorem Ae5:BG Tryz.prog 179:=by unfold BG;kernel_rfl
theorem QQ:HO Tryz.prog 182 3:=by unfold HO;exact⟨by kernel_rfl,by kernel_rfl⟩
theorem Abg:BG Tryz.prog 183:=by unfold BG;kernel_rfl
theorem Adr:(Tryz.prog.info? 133).bind (·.zero)=some (.agg #[.bool false,I 0,I 0,I 0]):=by kernel_rfl
theorem QR:BG Tryz.prog 136:=by unfold BG;kernel_rfl
theorem Ae6:BG Tryz.prog 178:=by unfold BG;kernel_rfl
theorem Ae7:BG Tryz.prog 177:=by unfold BG;kernel_rfl
theorem Abh:BG Tryz.prog 176:=by unfold BG;kernel_rfl
theorem W1:(Tryz.prog.info? 182).bind (·.zero)=some (.agg #[I 0,I 0,I 0]):=by kernel_rfl
theorem Vz:(Tryz.prog.info? 182).map (·.size)=some 3:=by kernel_rfl
theorem YC:BG Tryz.prog 127:=by unfold BG;kernel_rfl
theorem Abi:BG Tryz.prog 132:=by unfold BG;kernel_rfl
theorem HI:(Tryz.prog.info? 3).map (fun i=>(i.zero,i.size,i.bytes))=some (some (I 0),1,8):=by kernel_rfl
theorem Ae8:BG Tryz.prog 133:=by unfold BG;kernel_rfl
theorem Pa(b:Nat)(w:World):(Instr.fieldAt 60 (.pointer (some ⟨b,0,none⟩)) 0).run Tryz.prog w=.ok (.pointer (some ⟨b,0,none⟩)) w:=by kernel_rfl
theorem QS(b:Nat)(w:World):(Instr.fieldAt 60 (.pointer (some ⟨b,0,none⟩)) 1).run Tryz.prog w=.ok (.pointer (some ⟨b,1,none⟩)) w:=by kernel_rfl
theorem R6:BG Tryz.prog 158:=by unfold BG;kernel_rfl
theorem MR:(Tryz.prog.info? 60).bind (·.zero)=some (.agg #[I 0,I 0]):=by kernel_rfl
theorem Ae9:BG Tryz.prog 185:=by unfold BG;kernel_rfl
theorem JT:(Tryz.prog.info? 60).map (·.size)=some 2:=by kernel_rfl
theorem Jz:HO Tryz.prog 60 2:=by unfold HO;exact⟨by kernel_rfl,by kernel_rfl⟩
theorem PV(b:Nat)(w:World):(Instr.fieldAt 53 (.pointer (some ⟨b,0,none⟩)) 0).run Tryz.prog w=.ok (.pointer (some ⟨b,0,none⟩)) w:=by kernel_rfl
theorem Aai(b:Nat)(w:World):(Instr.fieldAt 134 (.pointer (some ⟨b,0,none⟩)) 0).run Tryz.prog w=.ok (.pointer (some ⟨b,0,none⟩)) w:=by kernel_rfl
theorem Tx(b:Nat)(w:World):(Instr.fieldAt 53 (.pointer (some ⟨b,0,none⟩)) 2).run Tryz.prog w=.ok (.pointer (some ⟨b,4,none⟩)) w:=by kernel_rfl
theorem TJ:One Tryz.prog 49:=by unfold One;exact⟨by kernel_rfl,by kernel_rfl⟩
theorem Aaj(b:Nat)(w:World):(Instr.fieldAt 134 (.pointer (some ⟨b,0,none⟩)) 1).run Tryz.prog w=.ok (.pointer (some ⟨b,1,none⟩)) w:=by kernel_rfl
theorem HB:HO Tryz.prog 53 7:=by unfold HO;exact⟨by kernel_rfl,by kernel_rfl⟩
theorem Aak(b:Nat)(w:World):(Instr.fieldAt 136 (.pointer (some ⟨b,0,none⟩)) 0).run Tryz.prog w=.ok (.pointer (some ⟨b,0,none⟩)) w:=by kernel_rfl
theorem Uk:BG Tryz.prog 137:=by unfold BG;kernel_rfl
theorem Aal(b:Nat)(w:World):(Instr.fieldAt 136 (.pointer (some ⟨b,0,none⟩)) 1).run Tryz.prog w=.ok (.pointer (some ⟨b,1,none⟩)) w:=by kernel_rfl
theorem Afa:BG Tryz.prog 161:=by unfold BG;kernel_rfl
theorem Afb:One Tryz.prog 220:=by unfold One;exact⟨by kernel_rfl,by kernel_rfl⟩
theorem VA:HO Tryz.prog 48 2:=by unfold HO;exact⟨by kernel_rfl,by kernel_rfl⟩
theorem UQ:(Tryz.prog.info? 48).map (·.size)=some 2:=by kernel_rfl
theorem Afc:BG Tryz.prog 224:=by unfold BG;kernel_rfl
theorem Afd:BG Tryz.prog 201:=by unfold BG;kernel_rfl
theorem Afe:BG Tryz.prog 200:=by unfold BG;kernel_rfl
theorem Aff:One Tryz.prog 177:=by unfold One;exact⟨by kernel_rfl,by kernel_rfl⟩
theorem R7:HO Tryz.prog 134 2:=by unfold HO;exact⟨by kernel_rfl,by kernel_rfl⟩
theorem TK:(Tryz.prog.info? 134).map (·.size)=some 2:=by kernel_rfl
theorem Afg:BG Tryz.prog 202:=by unfold BG;kernel_rfl
theorem Afh:BG Tryz.prog 173:=by unfold BG;kernel_rfl
theorem Afi:BG Tryz.prog 172:=by unfold BG;kernel_rfl
theorem Afj:One Tryz.prog 178:=by unfold One;exact⟨by kernel_rfl,by kernel_rfl⟩
theorem YD:HO Tryz.prog 136 3:=by unfold HO;exact⟨by kernel_rfl,by kernel_rfl⟩
theorem VB:(Tryz.prog.info? 136).map (·.size)=some 3:=by kernel_rfl
theorem Afk:BG Tryz.prog 203:=by unfold BG;kernel_rfl
theorem Afl:BG Tryz.prog 175:=by unfold BG;kernel_rfl
theorem Afm:BG Tryz.prog 174:=by unfold BG;kernel_rfl
theorem Afn:BG Tryz.prog 188:=by unfold BG;kernel_rfl
theorem YE(b:Nat)(w:World):(Instr.fieldAt 48 (.pointer (some ⟨b,0,none⟩)) 0).run Tryz.prog w=.ok (.pointer (some ⟨b,0,none⟩)) w:=by kernel_rfl
theorem YF(b:Nat)(w:World):(Instr.fieldAt 48 (.pointer (some ⟨b,0,none⟩)) 1).run Tryz.prog w=.ok (.pointer (some ⟨b,1,none⟩)) w:=by kernel_rfl
theorem Abj:(Tryz.prog.info? 48).bind (·.zero)=some (.agg #[I 0,I 0]):=by kernel_rfl
theorem Afo:BG Tryz.prog 171:=by unfold BG;kernel_rfl
theorem Afp:BG Tryz.prog 170:=by unfold BG;kernel_rfl
theorem MS(b:Nat)(w:World):(Instr.fieldAt 53 (.pointer (some ⟨b,0,none⟩)) 3).run Tryz.prog w=.ok (.pointer (some ⟨b,5,none⟩)) w:=by kernel_rfl
theorem N5:One Tryz.prog 50:=by unfold One;exact⟨by kernel_rfl,by kernel_rfl⟩
theorem Rv(b:Nat)(w:World):(Instr.fieldAt 53 (.pointer (some ⟨b,0,none⟩)) 4).run Tryz.prog w=.ok (.pointer (some ⟨b,6,none⟩)) w:=by kernel_rfl
theorem TL:One Tryz.prog 51:=by unfold One;exact⟨by kernel_rfl,by kernel_rfl⟩
theorem Afq(b:Nat)(w:World):(Instr.fieldAt 53 (.pointer (some ⟨b,0,none⟩)) 1).run Tryz.prog w=.ok (.pointer (some ⟨b,3,none⟩)) w:=by kernel_rfl
theorem Afr:BG Tryz.prog 128:=by unfold BG;kernel_rfl
theorem Afs:BG Tryz.prog 129:=by unfold BG;kernel_rfl
theorem Aft:BG Tryz.prog 125:=by unfold BG;kernel_rfl
theorem Afu:BG Tryz.prog 130:=by unfold BG;kernel_rfl
theorem Afv:BG Tryz.prog 126:=by unfold BG;kernel_rfl
theorem Afw:BG Tryz.prog 131:=by unfold BG;kernel_rfl
theorem Abk:(Tryz.prog.info? 60).map (fun i=>(i.zero,i.size,i.bytes))=some (some (.agg #[I 0,I 0]),2,16):=by kernel_rfl
theorem Abl:U3 Tryz.prog 204 2:=XA 2 Tryz.underlying204 (by kernel_rfl) rfl rfl BK Tryz.underlying3
theorem Aam:ZP Tryz.prog 204 2:=AaR 2 Tryz.underlying204 rfl rfl BK Tryz.underlying3
theorem Zg:UH Tryz.prog 204:=by unfold UH;kernel_rfl
theorem Ahs:(Tryz.prog.info? 3).bind (·.zero)=some (I 0):=by kernel_rfl
theorem UR(b:Nat)(w:World):(Instr.fieldAt 162 (.pointer (some ⟨b,0,none⟩)) 1).run Tryz.prog w=.ok (.pointer (some ⟨b,7,none⟩)) w:=by kernel_rfl
theorem Afx(w:World):(Op.equal 31 (.slice none 0 0) (.slice none 0 0)).run Tryz.prog w=.ok true w:=by kernel_rfl
theorem Afy(ad:Addr)(n c:Nat)(w:World):(Op.equal 31 (.slice (some ad) n c) (.slice none 0 0)).run Tryz.prog w=.ok false w:=by kernel_rfl
theorem Ul:BG Tryz.prog 105:=by unfold BG;kernel_rfl
theorem XN:One Tryz.prog 55:=by unfold One;exact⟨by kernel_rfl,by kernel_rfl⟩
theorem Afz:BG Tryz.prog 206:=by unfold BG;kernel_rfl
theorem Wh(b o:Nat)(w:World):(Instr.fieldAt 60 (.pointer (some ⟨b,o,none⟩)) 0).run Tryz.prog w=.ok (.pointer (some ⟨b,o,none⟩)) w:=by kernel_rfl
theorem Abm:BG Tryz.prog 205:=by unfold BG;kernel_rfl
theorem Wi:(Tryz.prog.info? 31).bind (·.zero)=some (.slice none 0 0):=by kernel_rfl
theorem Aan:(Tryz.prog.info? 142).bind (·.zero)=some (.nilFunc):=by kernel_rfl
theorem AcA:(Tryz.prog.info? 142).map (·.size)=some 1:=by kernel_rfl
theorem US:(Tryz.prog.info? 155).bind (·.zero)=some (.agg #[I 0,I 0,I 0]):=by kernel_rfl
theorem AfA:BG Tryz.prog 150:=by unfold BG;kernel_rfl
theorem Rw:HO Tryz.prog 155 3:=by unfold HO;exact⟨by kernel_rfl,by kernel_rfl⟩
theorem Um:(Tryz.prog.info? 155).map (·.size)=some 3:=by kernel_rfl
theorem Wj:BG Tryz.prog 102:=by unfold BG;kernel_rfl
theorem TM:(Tryz.prog.info? 152).bind (·.zero)=some (.pointer none):=by kernel_rfl
theorem VC:(Tryz.prog.info? 152).map (·.size)=some 1:=by kernel_rfl
theorem Abn:BG Tryz.prog 147:=by unfold BG;kernel_rfl
theorem AfB:BG Tryz.prog 186:=by unfold BG;kernel_rfl
theorem XO:BG Tryz.prog 79:=by unfold BG;kernel_rfl
theorem Wk:BG Tryz.prog 104:=by unfold BG;kernel_rfl
theorem Lg:One Tryz.prog 152:=by unfold One;exact⟨by kernel_rfl,by kernel_rfl⟩
theorem QE(b:Nat)(w:World):(Instr.fieldAt 162 (.pointer (some ⟨b,0,none⟩)) 2).run Tryz.prog w=.ok (.pointer (some ⟨b,8,none⟩)) w:=by kernel_rfl
theorem R8:One Tryz.prog 159:=by unfold One;exact⟨by kernel_rfl,by kernel_rfl⟩
theorem Aao:(Tryz.prog.info? 155).map (fun i=>(i.zero,i.size,i.bytes))=some (some (.agg #[I 0,I 0,I 0]),3,24):=by kernel_rfl
theorem AcB:(Tryz.prog.info? 159).map (·.size)=some 1:=by kernel_rfl
theorem AfC:Tryz.prog.eqGuardType Tryz.prog.depth 155=false:=by kernel_rfl
theorem AfD:U3 Tryz.prog 155 3:=Ach Tryz.underlying155 BK Tryz.underlying3
theorem AfE:BG Tryz.prog 204:=by unfold BG;kernel_rfl
theorem Aap(b o:Nat)(w:World):(Instr.fieldAt 162 (.pointer (some ⟨b,o,none⟩)) 3).run Tryz.prog w=.ok (.pointer (some ⟨b,o+9,none⟩)) w:=by kernel_rfl
theorem Abo:One Tryz.prog 160:=by unfold One;exact⟨by kernel_rfl,by kernel_rfl⟩
theorem Abp:HO Tryz.prog 204 2:=by unfold HO;exact⟨by kernel_rfl,by kernel_rfl⟩
theorem SJ(b o:Nat)(w:World):(Instr.fieldAt 162 (.pointer (some ⟨b,o,none⟩)) 0).run Tryz.prog w=.ok (.pointer (some ⟨b,o,none⟩)) w:=by kernel_rfl
theorem Abq(b o:Nat)(w:World):(Instr.fieldAt 53 (.pointer (some ⟨b,o,none⟩)) 2).run Tryz.prog w=.ok (.pointer (some ⟨b,o+4,none⟩)) w:=by kernel_rfl
theorem Ads(b:Nat)(w:World):(Instr.fieldAt 204 (.pointer (some ⟨b,0,none⟩)) 1).run Tryz.prog w=.ok (.pointer (some ⟨b,1,none⟩)) w:=by kernel_rfl
theorem Ra(b o:Nat)(w:World):(Instr.fieldAt 162 (.pointer (some ⟨b,o,none⟩)) 1).run Tryz.prog w=.ok (.pointer (some ⟨b,o+7,none⟩)) w:=by kernel_rfl
theorem Adt(b:Nat)(w:World):(Instr.fieldAt 204 (.pointer (some ⟨b,0,none⟩)) 0).run Tryz.prog w=.ok (.pointer (some ⟨b,0,none⟩)) w:=by kernel_rfl
theorem UT:(Tryz.prog.info? 151).bind (·.zero)=some (.agg #[I 0,I 0,I 0]):=by kernel_rfl
theorem AfF:BG Tryz.prog 149:=by unfold BG;kernel_rfl
theorem Ty:HO Tryz.prog 151 3:=by unfold HO;exact⟨by kernel_rfl,by kernel_rfl⟩
theorem XP:(Tryz.prog.info? 151).map (·.size)=some 3:=by kernel_rfl
theorem Adu:(Tryz.prog.info? 136).bind (·.zero)=some (.agg #[I 0,I 0,I 0]):=by kernel_rfl
theorem Abr:BG Tryz.prog 148:=by unfold BG;kernel_rfl
theorem Adv(b o:Nat)(w:World):(Instr.fieldAt 162 (.pointer (some ⟨b,o,none⟩)) 2).run Tryz.prog w=.ok (.pointer (some ⟨b,o+8,none⟩)) w:=by kernel_rfl
theorem Wl:BG Tryz.prog 103:=by unfold BG;kernel_rfl
theorem Wm:BG Tryz.prog 124:=by unfold BG;kernel_rfl
theorem Aaq:(Tryz.prog.info? 4).bind (·.zero)=some (.bool false):=by kernel_rfl
theorem YG:BG Tryz.prog 151:=by unfold BG;kernel_rfl
theorem VD:(Tryz.prog.info? 4).map (·.size)=some 1:=by kernel_rfl
theorem YH:BG Tryz.prog 184:=by unfold BG;kernel_rfl
theorem VF:BG Tryz.prog 75:=by unfold BG;kernel_rfl
theorem AfG:BG Tryz.prog 101:=by unfold BG;kernel_rfl
theorem AfH:BG Tryz.prog 154:=by unfold BG;kernel_rfl
theorem YI:BG Tryz.prog 111:=by unfold BG;kernel_rfl
theorem YJ:BG Tryz.prog 112:=by unfold BG;kernel_rfl
theorem AfI:One Tryz.prog 164:=by unfold One;exact⟨by kernel_rfl,by kernel_rfl⟩
theorem Abs:BG Tryz.prog 152:=by unfold BG;kernel_rfl
theorem PW:BG Tryz.prog 106:=by unfold BG;kernel_rfl
theorem Aar:(Tryz.prog.info? 3).bind (·.zero)=some (I 0):=by kernel_rfl
theorem AfJ:BG Tryz.prog 108:=by unfold BG;kernel_rfl
theorem Abt:BG Tryz.prog 107:=by unfold BG;kernel_rfl
theorem AfK:BG Tryz.prog 157:=by unfold BG;kernel_rfl
theorem AfL:BG Tryz.prog 156:=by unfold BG;kernel_rfl
theorem AfM(b o:Nat)(w:World):(Instr.fieldAt 53 (.pointer (some ⟨b,o,none⟩)) 1).run Tryz.prog w=.ok (.pointer (some ⟨b,o+3,none⟩)) w:=by kernel_rfl
theorem AfN:BG Tryz.prog 153:=by unfold BG;kernel_rfl
theorem SK:BG Tryz.prog 117:=by unfold BG;kernel_rfl
theorem YK:BG Tryz.prog 109:=by unfold BG;kernel_rfl
theorem QM:BG Tryz.prog 50:=by unfold BG;kernel_rfl
theorem Abu(a:Value)(x1:Value)(w:World):(Instr.field 60 (.agg #[a,x1]) 0).run Tryz.prog w=.ok (a) w:=by kernel_rfl
theorem YL:One Tryz.prog 166:=by unfold One;exact⟨by kernel_rfl,by kernel_rfl⟩
theorem YM:BG Tryz.prog 110:=by unfold BG;kernel_rfl
theorem Adw:(Tryz.prog.info? 166).bind (·.zero)=some (.nilFunc):=by kernel_rfl
theorem Ags:(Tryz.prog.info? 166).map (·.size)=some 1:=by kernel_rfl
theorem AfO:BG Tryz.prog 159:=by unfold BG;kernel_rfl
theorem AfP:BG Tryz.prog 160:=by unfold BG;kernel_rfl
theorem AfQ(b o:Nat)(w:World):(Instr.fieldAt 48 (.pointer (some ⟨b,o,none⟩)) 0).run Tryz.prog w=.ok (.pointer (some ⟨b,o,none⟩)) w:=by kernel_rfl
theorem AfR(b o:Nat)(w:World):(Instr.fieldAt 53 (.pointer (some ⟨b,o,none⟩)) 3).run Tryz.prog w=.ok (.pointer (some ⟨b,o+5,none⟩)) w:=by kernel_rfl
theorem Adx:(Tryz.prog.info? 134).bind (·.zero)=some (.agg #[I 0,I 0]):=by kernel_rfl
theorem Un:BG Tryz.prog 138:=by unfold BG;kernel_rfl
theorem NI:(Tryz.prog.info? 31).map (fun i=>(i.zero,i.size,i.bytes))=some (some (.slice none 0 0),1,24):=by kernel_rfl
theorem Abv:BG Tryz.prog 135:=by unfold BG;kernel_rfl
theorem Abw:BG Tryz.prog 134:=by unfold BG;kernel_rfl
theorem AfS:(Tryz.prog.info? 23).bind (·.zero)=some (.slice none 0 0):=by kernel_rfl
theorem Aed:(Tryz.prog.info? 23).map (·.size)=some 1:=by kernel_rfl
theorem Abx:One Tryz.prog 199:=by unfold One;exact⟨by kernel_rfl,by kernel_rfl⟩
theorem Aby:BG Tryz.prog 155:=by unfold BG;kernel_rfl
theorem Ady:(Tryz.prog.info? 199).bind (·.zero)=some (.nilFunc):=by kernel_rfl
theorem Agt:(Tryz.prog.info? 199).map (·.size)=some 1:=by kernel_rfl
theorem Adz(b:Nat)(w:World):(Instr.fieldAt 174 (.pointer (some ⟨b,0,none⟩)) 0).run Tryz.prog w=.ok (.pointer (some ⟨b,0,none⟩)) w:=by kernel_rfl
theorem AfT:One Tryz.prog 172:=by unfold One;exact⟨by kernel_rfl,by kernel_rfl⟩
theorem Wn:BG Tryz.prog 121:=by unfold BG;kernel_rfl
theorem AdA:(Tryz.prog.info? 174).bind (·.zero)=some (.agg #[.nilFunc]):=by kernel_rfl
theorem Agu:(Tryz.prog.info? 174).map (·.size)=some 1:=by kernel_rfl
theorem AfU:BG Tryz.prog 122:=by unfold BG;kernel_rfl
theorem Abz:BG Tryz.prog 113:=by unfold BG;kernel_rfl
theorem AdB(b:Nat)(w:World):(Instr.fieldAt 162 (.pointer (some ⟨b,0,none⟩)) 0).run Tryz.prog w=.ok (.pointer (some ⟨b,0,none⟩)) w:=by kernel_rfl
theorem Aee:(Tryz.prog.info? 51).map (·.size)=some 1:=by kernel_rfl
theorem JL(b:Nat)(w:World):(Instr.fieldAt 44 (.pointer (some ⟨b,0,none⟩)) 0).run Tryz.prog w=.ok (.pointer (some ⟨b,0,none⟩)) w:=by kernel_rfl
theorem Ob(b:Nat)(w:World):(Instr.fieldAt 44 (.pointer (some ⟨b,0,none⟩)) 1).run Tryz.prog w=.ok (.pointer (some ⟨b,1,none⟩)) w:=by kernel_rfl
theorem FC:BG Tryz.prog 29:=by unfold BG;kernel_rfl
theorem E2(b:Nat)(w:World):(Instr.fieldAt 26 (.pointer (some ⟨b,0,none⟩)) 0).run Tryz.prog w=.ok (.pointer (some ⟨b,0,none⟩)) w:=by kernel_rfl
theorem FF:One Tryz.prog 22:=by unfold One;exact⟨by kernel_rfl,by kernel_rfl⟩
theorem G7:(Tryz.prog.info? 44).map (·.size)=some 2:=by kernel_rfl
theorem Gu:HO Tryz.prog 44 2:=by unfold HO;exact⟨by kernel_rfl,by kernel_rfl⟩
theorem L8:BG Tryz.prog 118:=by unfold BG;kernel_rfl
theorem Ev(b:Nat)(w:World):(Instr.fieldAt 26 (.pointer (some ⟨b,0,none⟩)) 1).run Tryz.prog w=.ok (.pointer (some ⟨b,1,none⟩)) w:=by kernel_rfl
theorem Lh(b:Nat)(w:World):(Instr.fieldAt 26 (.pointer (some ⟨b,0,none⟩)) 2).run Tryz.prog w=.ok (.pointer (some ⟨b,2,none⟩)) w:=by kernel_rfl
theorem Mi:One Tryz.prog 24:=by unfold One;exact⟨by kernel_rfl,by kernel_rfl⟩
theorem XQ:BG Tryz.prog 90:=by unfold BG;kernel_rfl
theorem E6:HO Tryz.prog 26 3:=by unfold HO;exact⟨by kernel_rfl,by kernel_rfl⟩
theorem AcC:BG Tryz.prog 91:=by unfold BG;kernel_rfl
theorem M5:BG Tryz.prog 35:=by unfold BG;kernel_rfl
theorem Rx:(Tryz.prog.info? 46).map (·.size)=some 4:=by kernel_rfl
theorem Rb:HO Tryz.prog 46 4:=by unfold HO;exact⟨by kernel_rfl,by kernel_rfl⟩
theorem AbA:(Tryz.prog.info? 46).bind (·.zero)=some (.agg #[.bool false,I 0,I 0,I 0]):=by kernel_rfl
theorem Qq(b:Nat)(w:World):(Instr.fieldAt 46 (.pointer (some ⟨b,0,none⟩)) 0).run Tryz.prog w=.ok (.pointer (some ⟨b,0,none⟩)) w:=by kernel_rfl
theorem PX(b:Nat)(w:World):(Instr.fieldAt 46 (.pointer (some ⟨b,0,none⟩)) 1).run Tryz.prog w=.ok (.pointer (some ⟨b,1,none⟩)) w:=by kernel_rfl
theorem H0(b:Nat)(w:World):(Instr.fieldAt 46 (.pointer (some ⟨b,0,none⟩)) 2).run Tryz.prog w=.ok (.pointer (some ⟨b,2,none⟩)) w:=by kernel_rfl
theorem QN:BG Tryz.prog 59:=by unfold BG;kernel_rfl
theorem El(b:Nat)(w:World):(Instr.fieldAt 67 (.pointer (some ⟨b,0,none⟩)) 0).run Tryz.prog w=.ok (.pointer (some ⟨b,0,none⟩)) w:=by kernel_rfl
theorem Ha(b:Nat)(w:World):(Instr.fieldAt 67 (.pointer (some ⟨b,0,none⟩)) 2).run Tryz.prog w=.ok (.pointer (some ⟨b,4,none⟩)) w:=by kernel_rfl
theorem HP:One Tryz.prog 63:=by unfold One;exact⟨by kernel_rfl,by kernel_rfl⟩
theorem Kr:(Tryz.prog.info? 128).map (·.size)=some 2:=by kernel_rfl
theorem MC(b o:Nat)(w:World):(Instr.fieldAt 128 (.pointer (some ⟨b,o,none⟩)) 0).run Tryz.prog w=.ok (.pointer (some ⟨b,o,none⟩)) w:=by kernel_rfl
theorem Pm(b o:Nat)(w:World):(Instr.fieldAt 128 (.pointer (some ⟨b,o,none⟩)) 1).run Tryz.prog w=.ok (.pointer (some ⟨b,o+1,none⟩)) w:=by kernel_rfl
theorem Ct:HO Tryz.prog 67 7:=by unfold HO;exact⟨by kernel_rfl,by kernel_rfl⟩
theorem FQ(b:Nat)(w:World):(Instr.fieldAt 67 (.pointer (some ⟨b,0,none⟩)) 4).run Tryz.prog w=.ok (.pointer (some ⟨b,6,none⟩)) w:=by kernel_rfl
theorem GX:One Tryz.prog 65:=by unfold One;exact⟨by kernel_rfl,by kernel_rfl⟩
theorem L6:(Tryz.prog.info? 121).map (·.size)=some 3:=by kernel_rfl
theorem PH(b o:Nat)(w:World):(Instr.fieldAt 121 (.pointer (some ⟨b,o,none⟩)) 1).run Tryz.prog w=.ok (.pointer (some ⟨b,o+1,none⟩)) w:=by kernel_rfl
theorem Pn(b o:Nat)(w:World):(Instr.fieldAt 121 (.pointer (some ⟨b,o,none⟩)) 0).run Tryz.prog w=.ok (.pointer (some ⟨b,o,none⟩)) w:=by kernel_rfl
theorem QT(b:Nat)(w:World):(Instr.fieldAt 67 (.pointer (some ⟨b,0,none⟩)) 1).run Tryz.prog w=.ok (.pointer (some ⟨b,3,none⟩)) w:=by kernel_rfl
theorem I7(b:Nat)(w:World):(Instr.fieldAt 67 (.pointer (some ⟨b,0,none⟩)) 3).run Tryz.prog w=.ok (.pointer (some ⟨b,5,none⟩)) w:=by kernel_rfl
theorem Ke:One Tryz.prog 64:=by unfold One;exact⟨by kernel_rfl,by kernel_rfl⟩
theorem OV:(Tryz.prog.info? 126).map (·.size)=some 2:=by kernel_rfl
theorem AcD:BG Tryz.prog 24:=by unfold BG;kernel_rfl
theorem AfV:HO Tryz.prog 128 2:=by unfold HO;exact⟨by kernel_rfl,by kernel_rfl⟩
theorem AdC:(Tryz.prog.info? 128).bind (·.zero)=some (.agg #[I 0,I 0]):=by kernel_rfl
theorem R0(b:Nat)(w:World):(Instr.fieldAt 128 (.pointer (some ⟨b,0,none⟩)) 0).run Tryz.prog w=.ok (.pointer (some ⟨b,0,none⟩)) w:=by kernel_rfl
theorem TN(b:Nat)(w:World):(Instr.fieldAt 128 (.pointer (some ⟨b,0,none⟩)) 1).run Tryz.prog w=.ok (.pointer (some ⟨b,1,none⟩)) w:=by kernel_rfl
theorem TO(b o:Nat)(w:World):(Instr.fieldAt 126 (.pointer (some ⟨b,o,none⟩)) 0).run Tryz.prog w=.ok (.pointer (some ⟨b,o,none⟩)) w:=by kernel_rfl
theorem SL(b o:Nat)(w:World):(Instr.fieldAt 126 (.pointer (some ⟨b,o,none⟩)) 1).run Tryz.prog w=.ok (.pointer (some ⟨b,o+1,none⟩)) w:=by kernel_rfl
theorem YN:(Tryz.prog.info? 38).bind (·.zero)=some (.agg #[.slice none 0 0,.slice none 0 0,.slice none 0 0]):=by kernel_rfl
theorem AcE:BG Tryz.prog 98:=by unfold BG;kernel_rfl
theorem AdD:(Tryz.prog.info? 131).map (fun i=>(i.zero,i.size,i.bytes))=some (some (.agg #[I 0,I 0]),2,16):=by kernel_rfl
theorem Ag0:(Tryz.prog.info? 35).map (·.size)=some 1:=by kernel_rfl
theorem Agv:BG Tryz.prog 99:=by unfold BG;kernel_rfl
theorem AdE:(Tryz.prog.info? 133).map (fun i=>(i.zero,i.size,i.bytes))=some (some (.agg #[.bool false,I 0,I 0,I 0]),4,32):=by kernel_rfl
theorem Ag1:(Tryz.prog.info? 36).map (·.size)=some 1:=by kernel_rfl
theorem Aef:(Tryz.prog.info? 38).map (·.size)=some 3:=by kernel_rfl
theorem YO:(Tryz.prog.info? 53).bind (·.zero)=some (.agg #[.slice none 0 0,.slice none 0 0,.slice none 0 0,I 0,.slice none 0 0,.slice none 0 0,.slice none 0 0]):=by kernel_rfl
theorem AcF:BG Tryz.prog 27:=by unfold BG;kernel_rfl
theorem AbW:(Tryz.prog.info? 53).map (·.size)=some 7:=by kernel_rfl
theorem AfW:(Tryz.prog.info? 48).map (fun i=>(i.zero,i.size,i.bytes))=some (some (.agg #[I 0,I 0]),2,16):=by kernel_rfl
theorem Ag2:(Tryz.prog.info? 49).map (·.size)=some 1:=by kernel_rfl
theorem AdF:(Tryz.prog.info? 134).map (fun i=>(i.zero,i.size,i.bytes))=some (some (.agg #[I 0,I 0]),2,16):=by kernel_rfl
theorem Ag3:(Tryz.prog.info? 50).map (·.size)=some 1:=by kernel_rfl
theorem S3:BG Tryz.prog 66:=by unfold BG;kernel_rfl
theorem AdG:(Tryz.prog.info? 136).map (fun i=>(i.zero,i.size,i.bytes))=some (some (.agg #[I 0,I 0,I 0]),3,24):=by kernel_rfl
theorem Agw:BG Tryz.prog 23:=by unfold BG;kernel_rfl
theorem NJ:BG Tryz.prog 116:=by unfold BG;kernel_rfl
theorem TP:BG Tryz.prog 57:=by unfold BG;kernel_rfl
theorem OW:BG Tryz.prog 36:=by unfold BG;kernel_rfl
theorem S4:BG Tryz.prog 88:=by unfold BG;kernel_rfl
theorem VG:BG Tryz.prog 32:=by unfold BG;kernel_rfl
theorem RP:BG Tryz.prog 33:=by unfold BG;kernel_rfl
theorem VH:BG Tryz.prog 34:=by unfold BG;kernel_rfl
theorem VI:BG Tryz.prog 81:=by unfold BG;kernel_rfl
theorem XS:BG Tryz.prog 69:=by unfold BG;kernel_rfl
theorem XT:BG Tryz.prog 42:=by unfold BG;kernel_rfl
theorem Uo:BG Tryz.prog 43:=by unfold BG;kernel_rfl
theorem Rc:BG Tryz.prog 41:=by unfold BG;kernel_rfl
theorem PI:Tryz.prog.eqGuardType Tryz.prog.depth 60=false:=by kernel_rfl
theorem PJ:U3 Tryz.prog 60 2:=XA 2 Tryz.underlying60 (by kernel_rfl) rfl rfl BK Tryz.underlying3
theorem EY:BG Tryz.prog 37:=by unfold BG;kernel_rfl
theorem GY:BG Tryz.prog 38:=by unfold BG;kernel_rfl
end HF
end Go.Proofs.YtbhofkcbfblijaaGreat
end
section
namespace Go.Proofs.YtbhofkcbfblijaaGreat
open Go.RowKit Go.WideShapes
set_option maxRecDepth 20000
open HF
attribute [local irreducible] Eo WL CC CW LV CH Jx HO One BG
theorem AbX m b e f(Z:Nat→Prop) w l(d:Of m b e f=some l):
 CH Tryz.prog 140 #[I b,I e,I f] w (fun v w'=>Ext w w'∧Dt.R w' (zf Z w []) v l):=by
 unfold Of at d;refine Bb (N:=15) Tryz.func140 rfl rfl (by simp) ?_;intro n ha o;have g:=AO (i:=0) ha rfl;have j:=AO (i:=1) ha rfl;have k:=AO (i:=2) ha rfl;clear ha;have h:Hp FN [] w [] w:=Hp.start (Co.none w);refine Ai<|Ae<|wa rfl (v:=.bool false) rfl<|Aj<|Ad<|Ai<|Ae<|wm rfl (v:=I e) j<|wm rfl (v:=I b) g<|wd rfl (fun st=>Mf (ee st rfl) (ee st rfl))<|wm rfl (v:=.bool (decide (e≤b))) rfl ?_;rcases As (decide (e≤b)) with a|a
 ·replace d:=AG d a;refine Ax rfl rfl (Ah rfl a) rfl (by decide) (fun st=>Ay (v:=I b) (ee st g))<|Ax rfl rfl (Ah rfl a) rfl (by decide) (fun st=>Ay (v:=I f) (ee st k))<|Ax rfl rfl (Ah rfl a) rfl (by decide) (fun st=>Mf (ee st rfl) (ee st rfl))<|wd rfl (fun st=>Bl (v:=.bool (decide (b≤f))) (ee st rfl) a (ee st rfl))<|wa rfl (v:=.bool (decide (b≤f))) rfl<|Aj<|Ad<|AM ?_;obtain rfl:=oi d;refine AN rfl rfl ?_;exact⟨h.Bq,rfl⟩
 ·replace d:=AH d a;refine AB (c:=false) rfl rfl (Ah rfl a) (by decide) rfl (by decide)<|AB (c:=false) rfl rfl (Ah rfl a) (by decide) rfl (by decide)<|AB (c:=false) rfl rfl (Ah rfl a) (by decide) rfl (by decide)<|wd rfl (fun st=>BN (v:=.bool false) (ee st rfl) a (ee st rfl))<|wa rfl (v:=.bool false) rfl<|Aj<|Ad<|AM ?_;obtain rfl:=oi d;refine AN rfl rfl ?_;exact⟨h.Bq,rfl⟩
theorem AdH m b(Z:Nat→Prop) w k(e:Me m b=some k):
 CH Tryz.prog 165 #[.agg #[I b.Lo,I b.Hi]] w (fun v w'=>Ext w w'∧Dt.R w' (zf Z w []) v k):=by
 unfold Me at e;refine Bb (N:=18) Tryz.func165 rfl rfl (by simp) ?_;intro n ha o;have j:=AO (i:=0) ha rfl;clear ha;have h:Hp FN [] w [] w:=Hp.start (Co.none w);refine Ai<|Ae<|we rfl (fun st=>Cs (v:=.agg #[I b.Lo,I b.Hi]) (cs:= #[I b.Lo,I b.Hi]) (ee st j) rfl) ?_;rintro _ w1 ⟨b1,rfl,f⟩;have g:=h.nb f;have l:=h.Cz f;refine wa rfl (v:=.bool false) rfl<|Aj<|Ad<|Ai<|Ae<|wd rfl (fun st=>Ap (ee st rfl) (UM _ _))<|wd rfl (fun st=>AL (v:=I b.Lo) BK (ee st rfl) f.bk rfl)<|wd rfl (fun st=>Mf (ee st rfl) (ee st rfl))<|wm rfl (v:=.bool (decide ((0:Int)≤b.Lo))) rfl ?_;rcases As (decide ((0:Int)≤b.Lo)) with a|a
 ·replace e:=AG e a;refine Ax rfl rfl (Ah rfl a) rfl (by decide) (fun st=>Ap (ee st rfl) (UM _ _))<|Ax rfl rfl (Ah rfl a) rfl (by decide) (fun st=>AL (v:=I b.Lo) BK (ee st rfl) f.bk rfl)<|Ax rfl rfl (Ah rfl a) rfl (by decide) (fun st=>Ap (ee st rfl) (UN _ _))<|Ax rfl rfl (Ah rfl a) rfl (by decide) (fun st=>AL (v:=I b.Hi) BK (ee st rfl) f.bk rfl)<|Ax rfl rfl (Ah rfl a) rfl (by decide) (fun st=>Mf (ee st rfl) (ee st rfl))<|wd rfl (fun st=>Bl (v:=.bool (decide (b.Lo≤b.Hi))) (ee st rfl) a (ee st rfl))<|wm rfl (v:=.bool (decide (b.Lo≤b.Hi))) rfl ?_;rcases As (decide (b.Lo≤b.Hi)) with d|d
  ·replace e:=AG e d;refine Ax rfl rfl (Ah rfl d) rfl (by decide) (fun st=>Ap (ee st rfl) (UN _ _))<|Ax rfl rfl (Ah rfl d) rfl (by decide) (fun st=>AL (v:=I b.Hi) BK (ee st rfl) f.bk rfl)<|Ax rfl rfl (Ah rfl d) rfl (by decide) (fun st=>Mf (ee st rfl) (ee st rfl))<|wd rfl (fun st=>Bl (v:=.bool (decide (b.Hi≤100))) (ee st rfl) d (ee st rfl))<|wa rfl (v:=.bool (decide (b.Hi≤100))) rfl<|Aj<|Ad<|AM ?_;obtain rfl:=oi e;refine AN rfl rfl ?_;exact⟨g.Bq,rfl⟩
  ·replace e:=AH e d;refine AB (c:=false) rfl rfl (Ah rfl d) (by decide) rfl (by decide)<|AB (c:=false) rfl rfl (Ah rfl d) (by decide) rfl (by decide)<|AB (c:=false) rfl rfl (Ah rfl d) (by decide) rfl (by decide)<|wd rfl (fun st=>BN (v:=.bool false) (ee st rfl) d (ee st rfl))<|wa rfl (v:=.bool false) rfl<|Aj<|Ad<|AM ?_;obtain rfl:=oi e;refine AN rfl rfl ?_;exact⟨g.Bq,rfl⟩
 ·replace e:=AH e a;refine AB (c:=false) rfl rfl (Ah rfl a) (by decide) rfl (by decide)<|AB (c:=false) rfl rfl (Ah rfl a) (by decide) rfl (by decide)<|AB (c:=false) rfl rfl (Ah rfl a) (by decide) rfl (by decide)<|AB (c:=false) rfl rfl (Ah rfl a) (by decide) rfl (by decide)<|AB (c:=false) rfl rfl (Ah rfl a) (by decide) rfl (by decide)<|wd rfl (fun st=>BN (v:=.bool false) (ee st rfl) a (ee st rfl))<|wm rfl (v:=.bool false) rfl<|AB rfl rfl rfl (by decide) rfl (by decide)<|AB rfl rfl rfl (by decide) rfl (by decide)<|AB rfl rfl rfl (by decide) rfl (by decide)<|wd rfl (fun st=>BN (v:=.bool false) (ee st rfl) rfl (ee st rfl))<|wa rfl (v:=.bool false) rfl<|Aj<|Ad<|AM ?_;obtain rfl:=oi e;refine AN rfl rfl ?_;exact⟨g.Bq,rfl⟩
theorem Aht l a(Z:Nat→Prop) w f(b:Qe l a=some f):
 CH Tryz.prog 169 #[.agg #[I a.Lo,I a.Hi]] w (fun v w'=>Ext w w'∧(EN .i64).R w' (zf Z w []) v f):=by
 unfold Qe at b;refine Bb (N:=9) Tryz.func169 rfl rfl (by simp) ?_;intro m ha n;have e:=AO (i:=0) ha rfl;clear ha;have d:Hp FN [] w [] w:=Hp.start (Co.none w);refine Ai<|Ae<|we rfl (fun st=>Cs (v:=.agg #[I a.Lo,I a.Hi]) (cs:= #[I a.Lo,I a.Hi]) (ee st e) rfl) ?_;rintro _ w1 ⟨b1,rfl,c⟩;have g:=d.nb c;have k:=d.Cz c;refine wa rfl (v:=I 0) rfl<|Aj<|Ad<|Ai<|Ae<|wd rfl (fun st=>Ap (ee st rfl) (UN _ _))<|wd rfl (fun st=>AL (v:=I a.Hi) BK (ee st rfl) c.bk rfl)<|wd rfl (fun st=>Ap (ee st rfl) (UM _ _))<|wd rfl (fun st=>AL (v:=I a.Lo) BK (ee st rfl) c.bk rfl) ?_;replace b:=AP b;obtain⟨h,b⟩:=b;refine wd rfl (fun st=>EP (ee st rfl) (ee st rfl) h) ?_;replace b:=AP b;obtain⟨j,b⟩:=b;refine wd rfl (fun st=>Ce (ee st rfl) (ee st rfl) j)<|wa rfl (v:=I ((a.Hi-a.Lo)+1)) rfl<|Aj<|Ad<|AM ?_;obtain rfl:=oi b;refine AN rfl rfl ?_;exact⟨g.Bq,rfl⟩
theorem Agx h a d(Z:Nat→Prop) w j(c:Ey h a d=some j):
 CH Tryz.prog 176 #[.agg #[I a.Lo,I a.Hi],I d] w (fun v w'=>Ext w w'∧Dt.R w' (zf Z w []) v j):=by
 unfold Ey at c;refine Bb (N:=11) Tryz.func176 rfl rfl (by simp) ?_;intro q ha r;have f:=AO (i:=0) ha rfl;have g:=AO (i:=1) ha rfl;clear ha;have e:Hp FN [] w [] w:=Hp.start (Co.none w);refine Ai<|Ae<|we rfl (fun st=>Cs (v:=.agg #[I a.Lo,I a.Hi]) (cs:= #[I a.Lo,I a.Hi]) (ee st f) rfl) ?_;rintro _ w1 ⟨b1,rfl,b⟩;have k:=e.nb b;have p:=e.Cz b;refine wa rfl (v:=.bool false) rfl<|Aj<|Ad<|Ai<|Ae<|wm rfl (v:=I d) g<|wd rfl (fun st=>Ap (ee st rfl) (UM _ _))<|wd rfl (fun st=>AL (v:=I a.Lo) BK (ee st rfl) b.bk rfl)<|wd rfl (fun st=>Ap (ee st rfl) (UN _ _))<|wd rfl (fun st=>AL (v:=I a.Hi) BK (ee st rfl) b.bk rfl) ?_;replace c:=bind_some c;obtain⟨l,m,c⟩:=c;refine we rfl (fun st=>Az Wf (ee st rfl) (E9 (ee st rfl) (ee st rfl) (ee st rfl)) (AbX h d a.Lo a.Hi ZA _ l m)) ?_;rintro _ s ⟨n,rfl⟩;have o:=k.ext n;refine wa rfl (v:=.bool l) rfl<|Aj<|Ad<|AM ?_;obtain rfl:=oi c;refine AN rfl rfl ?_;exact⟨o.Bq,rfl⟩
theorem Ahu d b(Z:Nat→Prop) w e(a:QI d b=some e):
 CH Tryz.prog 220 #[I b] w (fun v w'=>Ext w w'∧Dt.R w' (zf Z w []) v e):=by
 unfold QI at a;refine Bb (N:=5) Tryz.func220 rfl rfl (by simp) ?_;intro l ha m;have c:=AO (i:=0) ha rfl;clear ha;have f:Hp FN [] w [] w:=Hp.start (Co.none w);refine Ai<|Ae<|wa rfl (v:=.bool false) rfl<|Aj<|Ad<|Ai<|Ae<|wm rfl (v:=I b) c ?_;replace a:=bind_some a;obtain⟨g,h,a⟩:=a;refine we rfl (fun st=>Az Wf (ee st rfl) (E9 (ee st rfl) (ee st rfl) (ee st rfl)) (AbX d b 0 30 ZA _ g h)) ?_;rintro _ w2 ⟨j,rfl⟩;have k:=f.ext j;refine wa rfl (v:=.bool g) rfl<|Aj<|Ad<|AM ?_;obtain rfl:=oi a;refine AN rfl rfl ?_;exact⟨k.Bq,rfl⟩
theorem Agy aD j f g(Z:Nat→Prop) w(s:Sl (AF .i64) w Z f g j) aE(a:Rt aD j=some aE):
 CH Tryz.prog 192 #[.slice f j.length g] w (fun v w'=>Ext w w'∧(EN .i64).R w' (zf Z w []) v aE):=by
 unfold Rt at a;refine Bb (N:=16) Tryz.func192 rfl rfl (by simp) ?_;intro aT ha aU;have y:=AO (i:=0) ha rfl;clear ha;have aF:Hp FN [] w [] w:=Hp.start (Co.none w);have p:=s.mv (Al (Z:=Z) (L:=[]) w);refine Ai<|Ae<|wa rfl (v:=I 0) rfl<|Aj<|Ad<|Ai<|Ai<|Ae<|wm rfl (v:=.slice f j.length g) y<|wd rfl (fun st=>BD Tryz.underlying31 (ee st rfl))<|wm rfl (v:=I 0) rfl<|Aj<|Ad<|Bc ?_;replace a:=bind_some a;obtain⟨t,e,a⟩:=a;refine Cx (fun aG b z=>(aG=.exit 0∧b.tmps.size=16∧b.defers=(X0).ds∧sl b 2=I t∧w=z)) ?aH ?aI
 case aH=>
  clear a;refine Cw (fun(aA:Nat) (b:Act) (z:World)=>∃c,∃d,MM j aA c d=some t∧b.tmps.size=16∧b.defers=(X0).ds∧sl b 2=I c∧sl b 5=.slice f j.length g∧sl b 6=I (j.length:Int)∧sl b 7=I d∧w=z) aD ?aJ ?aK
  case aJ=>
   intro st;exact⟨(0:Int),(0:Int),e,qz st,qd st,sp st 2 rfl,sp st 5 rfl,sp st 6 rfl,sp st 7 rfl,rfl⟩
  case aK=>
   rintro(_|aA) aV _ ⟨c,d,e,aB,aC,m,n,o,h,rfl⟩
   ·exact absurd (show none=some _ from e) (by simp)
   rw[MM.eq_2] at e;have a:=e;clear e;refine Cl (N:=16) aB aC<|Ai<|Ae<|wd rfl (fun st=>CY (ee st h) (ee st o))<|Aj<|Ad<|Ai ?_;rcases As (decide (d<(j.length:Int))) with l|l
   ·replace a:=AG a l;refine AJ rfl l<|AQ<|Ad<|Ai<|Bc<|Ai<|Ae ?_;replace a:=Bi a;obtain⟨i3,q,aL,aM,aN,a⟩:=a;obtain⟨b3,aW,_,aO,rfl,aP⟩:=Sl.Dd p rfl aM;refine wd rfl (fun st=>Bj (k:=i3) Tryz.underlying31 DY (ee st n) aO (ee st h) aL aN)<|wd rfl (fun st=>Bu (v:=I q) BK (ee st rfl) aP rfl)<|wa rfl (v:=I q) rfl<|Aj<|Ad<|Ae<|wm rfl (v:=I c) m<|wm rfl (v:=I q) rfl ?_;replace a:=AP a;obtain⟨aQ,a⟩:=a;refine wd rfl (fun st=>Ce (ee st rfl) (ee st rfl) aQ)<|wa rfl (v:=I (c+q)) rfl<|Aj<|BE<|Ad<|Ae ?_;replace a:=AP a;obtain⟨aR,a⟩:=a;refine wd rfl (fun st=>Ce (ee st h) (ee st rfl) aR)<|wm rfl (v:=I (d+1)) rfl<|Aj ?_;refine BI aA (Nat.lt_succ_self _) (fun st=>?_);exact⟨(c+q),(d+1),a,qz st,qd st,sp st 2 rfl,sp st 5 n,sp st 6 o,sp st 7 rfl,rfl⟩
   ·replace a:=AH a l;refine AK rfl l<|Cp<|AI<|AI ?_;obtain rfl:=oi a;refine Cf (fun st=>?_);exact⟨rfl,qz st,qd st,sp st 2 m,rfl⟩
 case aI=>
  rintro aG aS _ (⟨rfl,u,x,r,rfl⟩);refine Cy (X:=X0) (N:=16) u x<|By<|Ad<|Ai<|Ae<|wm rfl (v:=I t) r<|wa rfl (v:=I t) rfl<|Aj<|Ad<|AM ?_;obtain rfl:=oi a;refine AN rfl rfl ?_;exact⟨aF.Bq,rfl⟩
theorem Ahv aF b a c d g h j k(Z:Nat→Prop) w(n:Sl AT w Z c d b.Au)(o:Sl (BY (AF .i64)) w Z g h b.AS)(p:Sl AX w Z j k b.Av) aB(e:Eh aF b a=some aB):
 CH Tryz.prog 178 #[.agg #[.slice c b.Au.length d,.slice g b.AS.length h,.slice j b.Av.length k],.agg #[.bool a.Cn,I a.Number,I a.AY,I a.AZ]] w (fun v w'=>Ext w w'∧(EN .i64).R w' (zf Z w []) v aB):=by
 unfold Eh at e;refine Bb (N:=15) Tryz.func178 rfl rfl (by simp) ?_;intro aG ha aH;have u:=AO (i:=0) ha rfl;have x:=AO (i:=1) ha rfl;clear ha;have r:Hp FN [] w [] w:=Hp.start (Co.none w);have y:=n.mv (Al (Z:=Z) (L:=[]) w);have z:=o.mv (Al (Z:=Z) (L:=[]) w);have aA:=p.mv (Al (Z:=Z) (L:=[]) w);refine Ai<|Ae<|we rfl (fun st=>Cs (v:=.agg #[.slice c b.Au.length d,.slice g b.AS.length h,.slice j b.Av.length k]) (cs:= #[.slice c b.Au.length d,.slice g b.AS.length h,.slice j b.Av.length k]) (ee st u) rfl) ?_;rintro _ w1 ⟨b1,rfl,m⟩;have s:=r.nb m;have aD:=r.Cz m;refine we rfl (fun st=>Cs (v:=.agg #[.bool a.Cn,I a.Number,I a.AY,I a.AZ]) (cs:= #[.bool a.Cn,I a.Number,I a.AY,I a.AZ]) (ee st x) rfl) ?_;rintro _ w2 ⟨b2,rfl,f⟩;have t:=s.nb f;have aE:=s.Cz f;refine wa rfl (v:=I 0) rfl<|Aj<|Ad<|Ai<|Ai<|Ae<|wd rfl (fun st=>Ap (ee st rfl) (Aag _ _))<|wd rfl (fun st=>AL (v:=.bool a.Cn) O8 (ee st rfl) f.bk rfl)<|Aj<|Ad ?_;rcases As (a.Cn) with l|l
 ·replace e:=AG e l;refine AJ rfl l<|Ai<|Ae<|wd rfl (fun st=>Ap (ee st rfl) (O9 _ _)) ?_;have q:=(m.bk.ext f.gr);refine wd rfl (fun st=>AL (v:=.slice c b.Au.length d) Qp (ee st rfl) q rfl)<|wd rfl (fun st=>BD Tryz.underlying35 (ee st rfl))<|wd rfl (fun st=>Ap (ee st rfl) (UO _ _))<|wd rfl (fun st=>AL (v:=I a.Number) BK (ee st rfl) f.bk rfl) ?_;replace e:=AP e;obtain⟨aC,e⟩:=e;refine wd rfl (fun st=>Ce (ee st rfl) (ee st rfl) aC)<|wa rfl (v:=I ((b.Au.length:Int)+a.Number)) rfl<|Aj<|Ad<|AM<|AE ?_;obtain rfl:=oi e;refine AN rfl rfl ?_;exact⟨t.Bq,rfl⟩
 ·replace e:=AH e l;refine AK rfl l<|AQ<|Ad<|Ai<|Ae<|wd rfl (fun st=>Ap (ee st rfl) (UO _ _))<|wd rfl (fun st=>AL (v:=I a.Number) BK (ee st rfl) f.bk rfl)<|wa rfl (v:=I a.Number) rfl<|Aj<|Ad<|AM ?_;obtain rfl:=oi e;refine AN rfl rfl ?_;exact⟨t.Bq,rfl⟩
theorem Agz aC g c d(Z:Nat→Prop) w(s:Sl (AF .i64) w Z c d g) aD(a:Ou aC g=some aD):
 CH Tryz.prog 199 #[.slice c g.length d] w (fun v w'=>Ext w w'∧(EN .i64).R w' (zf Z w []) v aD):=by
 unfold Ou at a;refine Bb (N:=25) Tryz.func199 rfl rfl (by simp) ?_;intro aW ha aX;have p:=AO (i:=0) ha rfl;clear ha;have aE:Hp FN [] w [] w:=Hp.start (Co.none w);have h:=s.mv (Al (Z:=Z) (L:=[]) w);refine Ai<|Ae<|wa rfl (v:=I 0) rfl<|Aj<|Ad<|Ai<|Ai<|Ae<|wm rfl (v:=.slice c g.length d) p<|wd rfl (fun st=>BD Tryz.underlying31 (ee st rfl))<|wd rfl (fun st=>CY (ee st rfl) (ee st rfl))<|Aj<|Ad ?_;rcases As (decide ((g.length:Int)<1)) with n|n
 ·replace a:=AG a n;refine AJ rfl n ?_;exact absurd a (by simp)
 ·replace a:=AH a n;refine AK rfl n<|AQ<|Ad<|Ai<|Ae<|wm rfl (v:=.slice c g.length d) p ?_;replace a:=Bi a;obtain⟨i2,x2,aF,aG,aH,a⟩:=a;obtain⟨b2,aZ,_,aI,rfl,aJ⟩:=Sl.Dd h rfl aG;refine wd rfl (fun st=>Bj (k:=i2) Tryz.underlying31 DY (ee st rfl) aI (ee st rfl) aF aH)<|wd rfl (fun st=>Bu (v:=I x2) BK (ee st rfl) aJ rfl)<|wa rfl (v:=I x2) rfl<|Aj<|Ad<|Ai<|Ai<|Ae<|wa rfl (v:=I 1) rfl<|Aj<|Ad<|Bc ?_;replace a:=bind_some a;obtain⟨z3,j,a⟩:=a;refine Cx (fun aK e x=>(aK=.exit 0∧e.tmps.size=25∧e.defers=(X0).ds∧sl e 3=I z3∧w=x)) ?aL ?aM
  case aL=>
   clear a;refine Cw (fun(y:Nat) (e:Act) (x:World)=>∃f,∃b,Nf g y f b=some z3∧e.tmps.size=25∧e.defers=(X0).ds∧sl e 0=.slice c g.length d∧sl e 3=I f∧sl e 4=I b∧w=x) aC ?aN ?aO
   case aN=>
    intro st;exact⟨x2,(1:Int),j,qz st,qd st,sp st 0 p,sp st 3 rfl,sp st 4 rfl,rfl⟩
   case aO=>
    rintro(_|y) aY _ ⟨f,b,j,z,aA,l,q,m,rfl⟩
    ·exact absurd (show none=some _ from j) (by simp)
    rw[Nf.eq_2] at j;have a:=j;clear j;refine Cl (N:=25) z aA<|Ai<|Ai<|Ae<|wm rfl (v:=I b) m<|wm rfl (v:=.slice c g.length d) l<|wd rfl (fun st=>BD Tryz.underlying31 (ee st rfl))<|wd rfl (fun st=>CY (ee st rfl) (ee st rfl))<|Aj<|Ad ?_;rcases As (decide (b<(g.length:Int))) with o|o
    ·replace a:=AG a o;refine AJ rfl o<|AQ<|Ad<|Ai<|Bc<|Ae<|wm rfl (v:=I f) q<|wm rfl (v:=.slice c g.length d) l<|wm rfl (v:=I b) m ?_;replace a:=Bi a;obtain⟨i5,aB,aP,aQ,aR,a⟩:=a;obtain⟨a0,a2,_,aS,rfl,aT⟩:=Sl.Dd h rfl aQ;refine wd rfl (fun st=>Bj (k:=i5) Tryz.underlying31 DY (ee st rfl) aS (ee st rfl) aP aR)<|wd rfl (fun st=>Bu (v:=I aB) BK (ee st rfl) aT rfl)<|wd rfl (fun st=>V4 (ee st rfl) (ee st rfl))<|wa rfl (v:=I (min f aB)) rfl<|Aj<|BE<|Ad<|Ae<|wm rfl (v:=I b) m ?_;replace a:=AP a;obtain⟨aU,a⟩:=a;refine wd rfl (fun st=>Ce (ee st rfl) (ee st rfl) aU)<|wa rfl (v:=I (b+1)) rfl<|Aj ?_;refine BI y (Nat.lt_succ_self _) (fun st=>?_);exact⟨(min f aB),(b+1),a,qz st,qd st,sp st 0 l,sp st 3 rfl,sp st 4 rfl,rfl⟩
    ·replace a:=AH a o;refine AK rfl o<|Cp<|AI<|AI ?_;obtain rfl:=oi a;refine Cf (fun st=>?_);exact⟨rfl,qz st,qd st,sp st 3 q,rfl⟩
  case aM=>
   rintro aK aV _ (⟨rfl,t,u,r,rfl⟩);refine Cy (X:=X0) (N:=25) t u<|By<|Ad<|Ai<|Ae<|wm rfl (v:=I z3) r<|wa rfl (v:=I z3) rfl<|Aj<|Ad<|AM ?_;obtain rfl:=oi a;refine AN rfl rfl ?_;exact⟨aE.Bq,rfl⟩
theorem a168 h e a b(Z:Nat→Prop) w(f:Sl (AF .i64) w Z a b e) j(c:Qk h e=some j):
 CH Tryz.prog 168 #[.slice a e.length b] w (fun v w'=>Ext w w'∧(EN .i64).R w' (zf Z w []) v j):=by
 unfold Qk at c;refine Bb (N:=5) Tryz.func168 rfl rfl (by simp) ?_;intro p ha q;have g:=AO (i:=0) ha rfl;clear ha;have k:Hp FN [] w [] w:=Hp.start (Co.none w);have d:=f.mv (Al (Z:=Z) (L:=[]) w);refine Ai<|Ae<|wa rfl (v:=I 0) rfl<|Aj<|Ad<|Ai<|Ae<|wm rfl (v:=.slice a e.length b) g ?_;replace c:=bind_some c;obtain⟨l,m,c⟩:=c;refine we rfl (fun st=>Az Abd (ee st rfl) (C2 (ee st rfl)) (Agz h e a b ZA _ d.all l m)) ?_;rintro _ w2 ⟨n,rfl⟩;have o:=k.ext n;refine wa rfl (v:=I l) rfl<|Aj<|Ad<|AM ?_;obtain rfl:=oi c;refine AN rfl rfl ?_;exact⟨o.Bq,rfl⟩
theorem a194{x:Type}{c:Nat→Prop}{aN:Nat}{r:x→World→(Nat→Prop)→Option Nat→Prop}{aB:x→AR→Option (Bool×x)} aX d(z:x) q1(o:Value) a(Z Za:Nat→Prop) w(f:Cb Tryz.prog o c aN r (v1 (Hx AT)) Dt aB)(aO:aN≤w.heap.size)(aP:Co c [some q1,a] w)(aQ:∀b,Z b→¬c b∧some b∉[some q1,a])(aY:∀b,Z b→Za b)(aE:∀b,Za b→¬c b∧some b∉[some q1,a])(aR:Bk w q1 214 #[o])(aZ:r z w Z a) aF(q:OM aX aB d z=some aF):
 CH Tryz.prog 194 #[.agg #[I d.Lo,I d.Hi],pt q1 0] w (fun v w'=>∃o',DF (FU c [some q1,a]) w w'∧Dt.R w' (zf Z w [some q1,o']) v aF.1∧Bk w' q1 214 #[o]∧(∀k,o'=some k→(a=some k∨w.heap.size≤k)∧k<w'.heap.size)∧r aF.2 w' (zf Z w [some q1,o']) o'):=by
 unfold OM at q;refine Bb (N:=8) Tryz.func194 rfl rfl (by simp) ?_;intro a3 ha a4;have aG:=AO (i:=0) ha rfl;have aH:=AO (i:=1) ha rfl;clear ha;obtain⟨j,m⟩:∃j,j=[some q1,a]:=⟨_,rfl⟩;have s:Hp c j w [some q1,a] w:=by rw[m];exact Hp.start aP
 have aS:∀b,Z b→¬c b∧some b∉j:=by rw[m];exact aQ
 have a0:∀b,Za b→¬c b∧some b∉j:=by rw[m];exact aE
 have aI:∀w',DF (FU c j) w w'→DF (FU c [some q1,a]) w w':=by rw[m];exact fun _ h=>h
 have aJ:=f.mz aZ (Cc (L:=[some q1,a]) aS w);refine Ai<|Ae<|we rfl (fun st=>Cs (v:=.agg #[I d.Lo,I d.Hi]) (cs:= #[I d.Lo,I d.Hi]) (ee st aG) rfl) ?_;rintro _ w1 ⟨b1,rfl,g⟩;have n:=s.nb g;have aW:=s.Cz g;refine wa rfl (v:=.bool false) rfl<|Aj<|Ad<|Ai<|Ae ?_;have p:=(aR.ext g.gr);refine wd rfl (fun st=>AL (v:=o) AeJ (ee st aH) p rfl)<|wd rfl (fun st=>AW (l:=[I d.Lo,I d.Hi]) PT (ee st rfl) g.bk rfl rfl) ?_;have aK:r z w1 (ZZ c j Z w.heap.size [some b1,some q1,a]) a:=(f.me aJ s g.gr (An g));replace q:=bind_some q;obtain⟨aL,aT,q⟩:=q;refine we rfl (fun st=>MO (f.call z d aL _ (ZZ c j Z w.heap.size [some b1,some q1,a]) (ZC c [a]) a #[.agg #[I d.Lo,I d.Hi]] (Nat.le_trans aO n.sz) (n.zz (F':=c) (M:=[a]) (C:=[]) [2] [] ⟨rfl,trivial⟩ trivial (fun _ h=>.inl h)) Qz aK ⟨_,rfl,⟨_,rfl,rfl⟩⟩ aT) (ee st rfl) (C2 (ee st rfl))) ?_;rintro _ a2 ⟨t,aC,u,rfl,aU⟩;have aD:=n.K8 aC (BA [2] ⟨rfl,trivial⟩ (fun _ h=>h)) 2 rfl u;have aM:r aL.2 a2 (ZZ c j Z w.heap.size [some b1,some q1,t]) t:=f.mz aU (n.call (M:=[t]) (Nat.le_refl _) (Gt ⟨.inr (fun k hk=>(u k hk).1.imp (fun e=>by rw[←e];exact List.mem_of_getElem? (i:=2) rfl) id),trivial⟩) (HX (L:=[some b1,some q1,a]) (y:=t) 2 (List.mem_of_getElem? (i:=0) rfl)));refine wd rfl (fun st=>DK (ee st rfl))<|wa rfl (v:=.bool !aL.1) rfl<|Aj<|Ad<|AM ?_;obtain rfl:=oi q;refine AN rfl rfl ?_;have aA:=(p.Fq aC (n.Gb 1 rfl [2] rfl ⟨rfl,trivial⟩ (fun _ h=>h)));exact⟨t,aI _ aD.fin,rfl,aA,aD.GW 2 rfl [1] rfl (M:=[some q1]) ⟨rfl,trivial⟩ (by rw[m];intro y aV;simp only[List.mem_cons,List.not_mem_nil,or_false] at aV⊢;rcases aV with h|h<;>simp[*]),f.mz aM (CR (DT [1,2] ⟨rfl,rfl,trivial⟩))⟩
theorem Ahw{a3:Type}{f:Nat→Prop}{bK:Nat}{aK:a3→World→(Nat→Prop)→Option Nat→Prop}{aU:a3→AR→Option (Bool×a3)} bL z(bB:a3) p q(aM:Value) s(Z:Nat→Prop) w(t:Cb Tryz.prog aM f bK aK (v1 (Hx AT)) Dt aU)(bM:bK≤w.heap.size)(bN:Co f [s] w)(bO:∀b,Z b→¬f b∧some b∉[s])(a4:Sl AT w Z p q z)(b6:aK bB w Z s) bC(a:PB bL aU z bB=some bC):
 CH Tryz.prog 221 #[.slice p z.length q,aM] w (fun v w'=>∃o',DF (FU f [s]) w w'∧(EN .i64).R w' (zf Z w [o']) v bC.1∧(∀k,o'=some k→(s=some k∨w.heap.size≤k)∧k<w'.heap.size)∧aK bC.2 w' (zf Z w [o']) o'):=by
 unfold PB at a;refine Bb (N:=19) Tryz.func221 rfl rfl (by simp) ?_;intro b9 ha cA;have aV:=AO (i:=0) ha rfl;have bD:=AO (i:=1) ha rfl;clear ha;obtain⟨j,aG⟩:∃j,j=[s]:=⟨_,rfl⟩;have bP:Hp f j w [s] w:=by rw[aG];exact Hp.start bN
 have a5:∀b,Z b→¬f b∧some b∉j:=by rw[aG];exact bO
 have aW:∀w',DF (FU f j) w w'→DF (FU f [s]) w w':=by rw[aG];exact fun _ h=>h
 have aR:=a4.mv (Cc (L:=[s]) a5 w);have bE:=t.mz b6 (Cc (L:=[s]) a5 w);refine Ai<|Ae<|wa rfl (v:=I 0) rfl<|Aj<|Ad<|Ai<|Ai<|Ae<|wm rfl (v:=.slice p z.length q) aV<|wd rfl (fun st=>BD Tryz.underlying35 (ee st rfl))<|wm rfl (v:=I 0) rfl<|Aj<|Ad<|Bc ?_;replace a:=bind_some a;obtain⟨bF,aA,a⟩:=a;refine Cx (fun bG g aH=>(bG=.ret∧∃r,bF=.inl r∧∃m,g.tmps.size=19∧g.defers=(X0).ds∧sl g 4=I r.1∧Hp f j w [m] aH∧aK r.2 aH (ZZ f j Z w.heap.size [m]) m)∨(bG=.exit 0∧∃r,bF=.inr r∧∃n,g.tmps.size=19∧g.defers=(X0).ds∧Hp f j w [n] aH∧aK r aH (ZZ f j Z w.heap.size [n]) n)) ?bQ ?bR
 case bQ=>
  clear a;refine Cw (fun(bH:Nat) (g:Act) (aH:World)=>∃d,∃o,∃c,LH aU z bH d o=some bF∧g.tmps.size=19∧g.defers=(X0).ds∧sl g 0=.slice p z.length q∧sl g 1=aM∧sl g 7=I (z.length:Int)∧sl g 8=I d∧Hp f j w [c] aH∧aK o aH (ZZ f j Z w.heap.size [c]) c∧Sl AT aH (ZZ f j Z w.heap.size [c]) p q z) bL ?bS ?bT
  case bS=>
   intro st;exact⟨(0:Int),bB,s,aA,qz st,qd st,sp st 0 aV,sp st 1 bD,sp st 7 rfl,sp st 8 rfl,bP,bE,aR⟩
  case bT=>
   rintro(_|bH) cB cC ⟨d,o,c,aA,bI,bJ,aN,aO,aP,aC,aB,aQ,u⟩
   ·exact absurd (show none=some _ from aA) (by simp)
   rw[LH.eq_2] at aA;have a:=aA;clear aA;refine Cl (N:=19) bI bJ<|Ai<|Ae<|wd rfl (fun st=>CY (ee st aC) (ee st aP))<|Aj<|Ad<|Ai ?_;rcases As (decide (d<(z.length:Int))) with aI|aI
   ·replace a:=AG a aI;refine AJ rfl aI<|AQ<|Ad<|Ai<|Bc<|Ai<|Ae<|wm rfl (v:=I d) aC<|wa rfl (v:=I d) rfl<|Aj<|Ad<|Ai<|Ae<|wm rfl (v:=aM) aO<|wm rfl (v:=.slice p z.length q) aN<|wm rfl (v:=I d) rfl ?_;replace a:=Bi a;obtain⟨i3,aX,bU,bV,bW,a⟩:=a;obtain⟨b3,cE,_,bX,rfl,bY⟩:=Sl.elem u (by decide) bV;refine wd rfl (fun st=>BZ (k:=i3) Tryz.underlying35 S2 (ee st rfl) bX (ee st rfl) bU bW)<|wd rfl (fun st=>EJ (l:=[I aX.Lo,I aX.Hi]) PT (ee st rfl) bY rfl rfl) ?_;replace a:=bind_some a;obtain⟨aY,bZ,a⟩:=a;refine we rfl (fun st=>MO (t.call o aX aY _ (ZZ f j Z w.heap.size [c]) (ZC f [c]) c #[.agg #[I aX.Lo,I aX.Hi]] (Nat.le_trans bM aB.sz) (aB.zz (F':=f) (M:=[c]) (C:=[]) [0] [] ⟨rfl,trivial⟩ trivial (fun _ h=>.inl h)) Qz aQ ⟨_,rfl,⟨_,rfl,rfl⟩⟩ bZ) (ee st rfl) (C2 (ee st rfl))) ?_;rintro _ b7 ⟨aS,a9,aL,rfl,b4⟩;have bA:=aB.K8 a9 (BA [0] ⟨rfl,trivial⟩ (fun _ h=>h)) 0 rfl aL;have aZ:aK aY.2 b7 (ZZ f j Z w.heap.size [aS]) aS:=t.mz b4 (aB.call (M:=[aS]) (Nat.le_refl _) (Gt ⟨.inr (fun k hk=>(aL k hk).1.imp (fun e=>by rw[←e];exact List.mem_of_getElem? (i:=0) rfl) id),trivial⟩) (HX (L:=[c]) (y:=aS) 0 (List.mem_of_getElem? (i:=0) rfl)));refine Aj<|Ad ?_;rcases As (aY.1) with aJ|aJ
    ·replace a:=AG a aJ;refine AJ rfl aJ<|Ai<|Ae<|wm rfl (v:=I d) rfl<|wa rfl (v:=I d) rfl<|Aj<|Ad<|AM<|Bv<|AE<|AE ?_;obtain rfl:=oi a;refine Cf (fun st=>?_);exact .inl ⟨rfl,(d,aY.2),rfl,aS,qz st,qd st,sp st 4 rfl,bA,aZ⟩
    ·replace a:=AH a aJ;refine AK rfl aJ<|AQ<|BE<|Ad<|Ae ?_;replace a:=AP a;obtain⟨b5,a⟩:=a;refine wd rfl (fun st=>Ce (ee st aC) (ee st rfl) b5)<|wm rfl (v:=I (d+1)) rfl<|Aj ?_;have aT:=(u.mv (aB.K9 a9 (BA [0] ⟨rfl,trivial⟩ (fun _ h=>h)) 0 rfl (fun k hk=>(aL k hk).1)));refine BI bH (Nat.lt_succ_self _) (fun st=>?_);exact⟨(d+1),aY.2,aS,a,qz st,qd st,sp st 0 aN,sp st 1 aO,sp st 7 aP,sp st 8 rfl,bA,aZ,aT⟩
   ·replace a:=AH a aI;refine AK rfl aI<|Cp<|AI<|AI ?_;obtain rfl:=oi a;refine Cf (fun st=>?_);exact .inr ⟨rfl,o,rfl,c,qz st,qd st,aB,aQ⟩
 case bR=>
  rintro bG b8 cD (⟨rfl,r,rfl,m,aD,aE,a0,x,aF⟩|⟨rfl,r,rfl,n,aD,aE,x,aF⟩)
  ·skip
   replace a:=Et a;refine Cy (X:=X0) (N:=19) aD aE<|Bv<|AE ?_;obtain rfl:=oi a;refine AN rfl a0 ?_;exact⟨m,aW _ x.fin,rfl,x.GW 0 rfl [] rfl (M:=[]) trivial (by rw[aG];intro y a2;simp only[List.mem_cons,List.not_mem_nil,or_false] at a2⊢;rcases a2 with h<;>simp[*]),t.mz aF (CR (DT [0] ⟨rfl,trivial⟩))⟩
  ·skip
   replace a:=Eu a;refine Cy (X:=X0) (N:=19) aD aE<|By<|Ad<|Ai<|Ae<|wa rfl (v:=I (-1)) rfl<|Aj<|Ad<|AM ?_;obtain rfl:=oi a;refine AN rfl rfl ?_;exact⟨n,aW _ x.fin,rfl,x.GW 0 rfl [] rfl (M:=[]) trivial (by rw[aG];intro y a2;simp only[List.mem_cons,List.not_mem_nil,or_false] at a2⊢;rcases a2 with h<;>simp[*]),t.mz aF (CR (DT [0] ⟨rfl,trivial⟩))⟩
theorem a193{t:Type}{c:Nat→Prop}{aK:Nat}{u:t→World→(Nat→Prop)→Option Nat→Prop}{z:t→AR→Option (Bool×t)} aL q(aC:t) d f(m:Value) a(Z:Nat→Prop) w(g:Cb Tryz.prog m c aK u (v1 (Hx AT)) Dt z)(aM:aK≤w.heap.size)(aN:Co c [a] w)(aO:∀b,Z b→¬c b∧some b∉[a])(x:Sl AT w Z d f q)(aT:u aC w Z a) aD(o:ON aL z q aC=some aD):
 CH Tryz.prog 193 #[.slice d q.length f,m] w (fun v w'=>∃o',DF (FU c [a]) w w'∧Dt.R w' (zf Z w [o']) v aD.1∧(∀k,o'=some k→(a=some k∨w.heap.size≤k)∧k<w'.heap.size)∧u aD.2 w' (zf Z w [o']) o'):=by
 unfold ON at o;refine Bb (N:=9) Tryz.func193 rfl rfl (by simp) ?_;intro aU ha aV;have aE:=AO (i:=0) ha rfl;have aF:=AO (i:=1) ha rfl;clear ha;obtain⟨l,n⟩:∃l,l=[a]:=⟨_,rfl⟩;have j:Hp c l w [a] w:=by rw[n];exact Hp.start aN
 have aA:∀b,Z b→¬c b∧some b∉l:=by rw[n];exact aO
 have aG:∀w',DF (FU c l) w w'→DF (FU c [a]) w w':=by rw[n];exact fun _ h=>h
 have p:=x.mv (Cc (L:=[a]) aA w);have aH:=g.mz aT (Cc (L:=[a]) aA w);refine Ai<|Ae<|wa rfl (v:=.bool false) rfl<|Aj<|Ad<|Ai<|Ae<|wm rfl (v:=.slice d q.length f) aE<|wm rfl (v:=m) aF ?_;replace o:=bind_some o;obtain⟨aI,aP,o⟩:=o;refine we rfl (fun st=>Az AeK (ee st rfl) (DH (ee st rfl) (ee st rfl)) (Ahw aL q aC d f m a (ZZ c l Z w.heap.size [a]) _ g (Nat.le_trans aM j.sz) (j.Hc (F':=c) (M:=[a]) (C:=[]) [0] [] rfl ⟨rfl,trivial⟩ trivial (fun _ h=>.inl h)) (j.zz (F':=c) (M:=[a]) (C:=[]) [0] [] ⟨rfl,trivial⟩ trivial (fun _ h=>.inl h)) p aH aI aP)) ?_;rintro _ w2 ⟨r,aQ,rfl,s,aR⟩;have aB:=j.K8 aQ (BA [0] ⟨rfl,trivial⟩ (fun _ h=>h)) 0 rfl s;have aJ:u aI.2 w2 (ZZ c l Z w.heap.size [r]) r:=g.mz aR (j.call (M:=[r]) (Nat.le_refl _) (Gt ⟨.inr (fun k hk=>(s k hk).1.imp (fun e=>by rw[←e];exact List.mem_of_getElem? (i:=0) rfl) id),trivial⟩) (HX (L:=[a]) (y:=r) 0 (List.mem_of_getElem? (i:=0) rfl)));refine wd rfl (fun st=>I9 (ee st rfl) (ee st rfl))<|wa rfl (v:=.bool (decide ((0:Int)≤aI.1))) rfl<|Aj<|Ad<|AM ?_;obtain rfl:=oi o;refine AN rfl rfl ?_;exact⟨r,aG _ aB.fin,rfl,aB.GW 0 rfl [] rfl (M:=[]) trivial (by rw[n];intro y aS;simp only[List.mem_cons,List.not_mem_nil,or_false] at aS⊢;rcases aS with h<;>simp[*]),g.mz aJ (CR (DT [0] ⟨rfl,trivial⟩))⟩
theorem a164{aA:Type}{d:Nat→Prop}{bA:Nat}{aB:aA→World→(Nat→Prop)→Option Nat→Prop}{aF:aA→AR→Option (Bool×aA)} aK aG(aL:aA) m n(j:Value) a(Z:Nat→Prop) w(c:Cb Tryz.prog j d bA aB (v1 (Hx AT)) Dt aF)(bB:bA≤w.heap.size)(bC:Co d [a] w)(bD:∀b,Z b→¬d b∧some b∉[a])(aM:Sl AT w Z m n aG)(s:aB aL w Z a) aR(aC:QA aK aF aG aL=some aR):
 CH Tryz.prog 164 #[.slice m aG.length n,j] w (fun v w'=>∃o',DF (FU d [a]) w w'∧Dt.R w' (zf Z w [o']) v aR.1∧(∀k,o'=some k→(a=some k∨w.heap.size≤k)∧k<w'.heap.size)∧aB aR.2 w' (zf Z w [o']) o'):=by
 unfold QA at aC;refine Bb (N:=9) Tryz.func164 rfl rfl (by simp) ?_;intro bR ha bS;have aS:=AO (i:=0) ha rfl;have aT:=AO (i:=1) ha rfl;clear ha;obtain⟨q,t⟩:∃q,q=[a]:=⟨_,rfl⟩;have aH:Hp d q w [a] w:=by rw[t];exact Hp.start bC
 have aN:∀b,Z b→¬d b∧some b∉q:=by rw[t];exact bD
 have aU:∀w',DF (FU d q) w w'→DF (FU d [a]) w w':=by rw[t];exact fun _ h=>h
 have aD:=aM.mv (Cc (L:=[a]) aN w);have aV:=c.mz s (Cc (L:=[a]) aN w);refine Ai<|Ae<|we rfl (fun st=>Cs (v:=j) (cs:= #[j]) (ee st aT) c.fc) ?_;rintro _ w1 ⟨b1,rfl,l⟩;have f:=aH.nb l;have bM:=aH.Cz l;refine wa rfl (v:=.bool false) rfl<|Aj<|Ad<|Ai<|Ae<|wm rfl (v:=.slice m aG.length n) aS<|wd rfl (fun st=>IN (vs:= #[]) (us:= #[pt b1 0]) GK (C2 (ee st rfl))) ?_;have aO:=f.Hc (F':=d) (M:=[some b1]) (C:=[]) [0] [] rfl ⟨rfl,trivial⟩ trivial (fun k hk=>.inl ((fun _ h=>h) k hk));have aW:Cb Tryz.prog (.func (.func 194) #[] #[pt b1 0]) (FU d [some b1]) w1.heap.size (fun(st:aA) aX bN o=>(∀k,o=some k→k<aX.heap.size∧¬(FU d [some b1]) k)∧Bk aX b1 214 #[j]∧aB st aX bN o) (v1 (Hx AT)) Dt (fun(st:aA) (x:AR)=>(OM aK aF x st).bind fun r=>some (r.1,r.2)):=by
  refine⟨rfl,rfl,f.QY [0] ⟨rfl,trivial⟩ (fun _ h=>h),?_,?_,?_⟩
  ·intro st x r w1 aY bE o vs hn aZ u s hx bO;obtain⟨g,p,z⟩:=s;obtain⟨_,rfl,⟨_,rfl,rfl⟩⟩:=hx;obtain⟨bP,h1,h2⟩:=bind_some bO;obtain rfl:=Option.some.inj h2;refine(Lv AeL rfl (a194 aK x st b1 j o aY bE w1 c (Nat.le_trans bB (Nat.le_trans f.sz hn)) ((aO.grow hn).snoc g) (fun b hb=>JG (u b (aZ b hb)).1 (u b (aZ b hb)).2) aZ (fun b hb=>JG (u b hb).1 (u b hb).2) p z bP h1)).mono ?_;rintro v w2 ⟨o',hx,a0,a2,aP,bF⟩;exact⟨o',hx.lf,aP,a0,⟨aO.keep hn g aP,a2,c.mz bF Q7⟩⟩
  ·intro st w1 w2 aY bT o s hm hb;obtain⟨g,p,z⟩:=s;exact⟨fun k hk=>⟨Nat.lt_of_lt_of_le (g k hk).1 hm.size,(g k hk).2⟩,p.PA (hb b1 (.inl (.inr (List.mem_of_getElem? (i:=0) rfl)))),c.Ti _ _ _ _ _ _ z hm (fun b bG=>hb b (bG.imp .inl id))⟩
  ·intro st w1 aY o s k hk;obtain⟨g,p,z⟩:=s;exact g k hk
 have aE:=(aD.mv (An l));replace aC:=bind_some aC;obtain⟨a3,bH,aC⟩:=aC;have a4:aB aL w1 (ZZ d q Z w.heap.size [some b1,a]) a:=(c.me aV aH l.gr (An l));refine we rfl (fun st=>Az AeM (ee st rfl) (DH (ee st rfl) (ee st rfl)) (a193 aK aG aL m n (.func (.func 194) #[] #[pt b1 0]) a (ZZ d q Z w.heap.size [some b1,a]) _ aW (Nat.le_refl _) (f.Hc (F':=(FU d [some b1])) (M:=[a]) (C:=[some b1]) [1] [0] rfl ⟨rfl,trivial⟩ ⟨rfl,trivial⟩ (Eb (fun _ h=>h))) (f.zz (F':=(FU d [some b1])) (M:=[a]) (C:=[some b1]) [1] [0] ⟨rfl,trivial⟩ ⟨rfl,trivial⟩ (Eb (fun _ h=>h))) aE ⟨(fun k hk=>f.WS 1 (by rw[←hk];rfl) [0] rfl ⟨rfl,trivial⟩),l.bk,a4⟩ a3 bH)) ?_;rintro _ bQ ⟨aI,bI,rfl,aJ,bJ⟩;obtain⟨-,bK,a5⟩:=bJ;have aQ:=f.K8 (DF.cl (M1:=[some b1]) (M2:=[a]) bI) (BA [0,1] ⟨rfl,rfl,trivial⟩ (fun _ h=>h)) 1 rfl aJ;have a9:aB a3.2 bQ (ZZ d q Z w.heap.size [some b1,aI]) aI:=c.mz a5 (f.call (M:=[aI]) (Nat.le_refl _) (Gt ⟨.inr (fun k hk=>(aJ k hk).1.imp (fun e=>by rw[←e];exact List.mem_of_getElem? (i:=1) rfl) id),trivial⟩) (HX (L:=[some b1,a]) (y:=aI) 1 (List.mem_of_getElem? (i:=0) rfl)));refine wd rfl (fun st=>DK (ee st rfl))<|wa rfl (v:=.bool !a3.1) rfl<|Aj<|Ad<|AM ?_;obtain rfl:=oi aC;refine AN rfl rfl ?_;exact⟨aI,aU _ aQ.fin,rfl,aQ.GW 1 rfl [] rfl (M:=[]) trivial (by rw[t];intro y bL;simp only[List.mem_cons,List.not_mem_nil,or_false] at bL⊢;rcases bL with h<;>simp[*]),c.mz a9 (CR (DT [1] ⟨rfl,trivial⟩))⟩
theorem a196{t:Type}{c:Nat→Prop}{aO:Nat}{u:t→World→(Nat→Prop)→Option Nat→Prop}{aA:t→(List Int)→Option (Bool×t)} aW o(aE:t) f g q1(n:Value) a(Z Za:Nat→Prop) w(j:Cb Tryz.prog n c aO u (v1 (GI (AF .i64))) Dt aA)(aP:aO≤w.heap.size)(aQ:Co c [some q1,a] w)(aR:∀b,Z b→¬c b∧some b∉[some q1,a])(aX:∀b,Z b→Za b)(aF:∀b,Za b→¬c b∧some b∉[some q1,a])(x:Sl (AF .i64) w Za f g o)(aB:Bk w q1 148 #[n])(aY:u aE w Z a) aG(p:Pq aW aA o aE=some aG):
 CH Tryz.prog 196 #[.slice f o.length g,pt q1 0] w (fun v w'=>∃o',DF (FU c [some q1,a]) w w'∧Dt.R w' (zf Z w [some q1,o']) v aG.1∧Bk w' q1 148 #[n]∧(∀k,o'=some k→(a=some k∨w.heap.size≤k)∧k<w'.heap.size)∧u aG.2 w' (zf Z w [some q1,o']) o'):=by
 unfold Pq at p;refine Bb (N:=8) Tryz.func196 rfl rfl (by simp) ?_;intro aZ ha a0;have aH:=AO (i:=0) ha rfl;have aI:=AO (i:=1) ha rfl;clear ha;obtain⟨l,m⟩:∃l,l=[some q1,a]:=⟨_,rfl⟩;have d:Hp c l w [some q1,a] w:=by rw[m];exact Hp.start aQ
 have aS:∀b,Z b→¬c b∧some b∉l:=by rw[m];exact aR
 have aJ:∀b,Za b→¬c b∧some b∉l:=by rw[m];exact aF
 have aK:∀w',DF (FU c l) w w'→DF (FU c [some q1,a]) w w':=by rw[m];exact fun _ h=>h
 have q:=x.mv (Cc (L:=[some q1,a]) aJ w);have aL:=j.mz aY (Cc (L:=[some q1,a]) aS w);refine Ai<|Ae<|wa rfl (v:=.bool false) rfl<|Aj<|Ad<|Ai<|Ae<|wd rfl (fun st=>AL (v:=n) YA (ee st aI) aB rfl)<|wm rfl (v:=.slice f o.length g) aH ?_;replace p:=bind_some p;obtain⟨aM,aT,p⟩:=p;refine we rfl (fun st=>MO (j.call aE o aM _ (ZZ c l Z w.heap.size [some q1,a]) (ZC c [a]) a #[.slice f o.length g] (Nat.le_trans aP d.sz) (d.zz (F':=c) (M:=[a]) (C:=[]) [1] [] ⟨rfl,trivial⟩ trivial (fun _ h=>.inl h)) Qz aL ⟨_,rfl,⟨_,_,rfl,(q.mv (d.mz (F':=c) (M:=[a]) (C:=[]) [1] [] ⟨rfl,trivial⟩ trivial (fun _ h=>.inl h)))⟩⟩ aT) (ee st rfl) (C2 (ee st rfl))) ?_;rintro _ w2 ⟨r,aC,s,rfl,aU⟩;have aD:=d.K8 aC (BA [1] ⟨rfl,trivial⟩ (fun _ h=>h)) 1 rfl s;have aN:u aM.2 w2 (ZZ c l Z w.heap.size [some q1,r]) r:=j.mz aU (d.call (M:=[r]) (Nat.le_refl _) (Gt ⟨.inr (fun k hk=>(s k hk).1.imp (fun e=>by rw[←e];exact List.mem_of_getElem? (i:=1) rfl) id),trivial⟩) (HX (L:=[some q1,a]) (y:=r) 1 (List.mem_of_getElem? (i:=0) rfl)));refine wd rfl (fun st=>DK (ee st rfl))<|wa rfl (v:=.bool !aM.1) rfl<|Aj<|Ad<|AM ?_;obtain rfl:=oi p;refine AN rfl rfl ?_;have z:=(aB.Fq aC (d.Gb 0 rfl [1] rfl ⟨rfl,trivial⟩ (fun _ h=>h)));exact⟨r,aK _ aD.fin,rfl,z,aD.GW 1 rfl [0] rfl (M:=[some q1]) ⟨rfl,trivial⟩ (by rw[m];intro y aV;simp only[List.mem_cons,List.not_mem_nil,or_false] at aV⊢;rcases aV with h|h<;>simp[*]),j.mz aN (CR (DT [0,1] ⟨rfl,rfl,trivial⟩))⟩
theorem a222{a3:Type}{f:Nat→Prop}{bM:Nat}{aJ:a3→World→(Nat→Prop)→Option Nat→Prop}{aT:a3→(List Int)→Option (Bool×a3)} bN z(bC:a3) o p(aL:Value) r(Z:Nat→Prop) w(s:Cb Tryz.prog aL f bM aJ (v1 (GI (AF .i64))) Dt aT)(bO:bM≤w.heap.size)(bP:Co f [r] w)(bQ:∀b,Z b→¬f b∧some b∉[r])(a4:Sl (BY (AF .i64)) w Z o p z)(b8:aJ bC w Z r) bD(c:PQ bN aT z bC=some bD):
 CH Tryz.prog 222 #[.slice o z.length p,aL] w (fun v w'=>∃o',DF (FU f [r]) w w'∧(EN .i64).R w' (zf Z w [o']) v bD.1∧(∀k,o'=some k→(r=some k∨w.heap.size≤k)∧k<w'.heap.size)∧aJ bD.2 w' (zf Z w [o']) o'):=by
 unfold PQ at c;refine Bb (N:=19) Tryz.func222 rfl rfl (by simp) ?_;intro cB ha cC;have aU:=AO (i:=0) ha rfl;have bE:=AO (i:=1) ha rfl;clear ha;obtain⟨j,aF⟩:∃j,j=[r]:=⟨_,rfl⟩;have bR:Hp f j w [r] w:=by rw[aF];exact Hp.start bP
 have a9:∀b,Z b→¬f b∧some b∉j:=by rw[aF];exact bQ
 have aV:∀w',DF (FU f j) w w'→DF (FU f [r]) w w':=by rw[aF];exact fun _ h=>h
 have aQ:=a4.mv (Cc (L:=[r]) a9 w);have bF:=s.mz b8 (Cc (L:=[r]) a9 w);refine Ai<|Ae<|wa rfl (v:=I 0) rfl<|Aj<|Ad<|Ai<|Ai<|Ae<|wm rfl (v:=.slice o z.length p) aU<|wd rfl (fun st=>BD Tryz.underlying23 (ee st rfl))<|wm rfl (v:=I 0) rfl<|Aj<|Ad<|Bc ?_;replace c:=bind_some c;obtain⟨bG,aA,c⟩:=c;refine Cx (fun bH g aG=>(bH=.ret∧∃q,bG=.inl q∧∃l,g.tmps.size=19∧g.defers=(X0).ds∧sl g 4=I q.1∧Hp f j w [l] aG∧aJ q.2 aG (ZZ f j Z w.heap.size [l]) l)∨(bH=.exit 0∧∃q,bG=.inr q∧∃m,g.tmps.size=19∧g.defers=(X0).ds∧Hp f j w [m] aG∧aJ q aG (ZZ f j Z w.heap.size [m]) m)) ?bS ?bT
 case bS=>
  clear c;refine Cw (fun(bI:Nat) (g:Act) (aG:World)=>∃d,∃n,∃a,L3 aT z bI d n=some bG∧g.tmps.size=19∧g.defers=(X0).ds∧sl g 0=.slice o z.length p∧sl g 1=aL∧sl g 7=I (z.length:Int)∧sl g 8=I d∧Hp f j w [a] aG∧aJ n aG (ZZ f j Z w.heap.size [a]) a∧Sl (BY (AF .i64)) aG (ZZ f j Z w.heap.size [a]) o p z) bN ?bU ?bV
  case bU=>
   intro st;exact⟨(0:Int),bC,r,aA,qz st,qd st,sp st 0 aU,sp st 1 bE,sp st 7 rfl,sp st 8 rfl,bR,bF,aQ⟩
  case bV=>
   rintro(_|bI) cD cE ⟨d,n,a,aA,bJ,bK,aM,aN,aO,aB,t,aP,u⟩
   ·exact absurd (show none=some _ from aA) (by simp)
   rw[L3.eq_2] at aA;have c:=aA;clear aA;refine Cl (N:=19) bJ bK<|Ai<|Ae<|wd rfl (fun st=>CY (ee st aB) (ee st aO))<|Aj<|Ad<|Ai ?_;rcases As (decide (d<(z.length:Int))) with aH|aH
   ·replace c:=AG c aH;refine AJ rfl aH<|AQ<|Ad<|Ai<|Bc<|Ai<|Ae<|wm rfl (v:=I d) aB<|wa rfl (v:=I d) rfl<|Aj<|Ad<|Ai<|Ae<|wm rfl (v:=aL) aN<|wm rfl (v:=.slice o z.length p) aM<|wm rfl (v:=I d) rfl ?_;replace c:=Bi c;obtain⟨i3,bL,bW,bX,bY,c⟩:=c;obtain⟨b3,cG,_,bZ,⟨aW,aX,rfl,a5⟩,b4⟩:=Sl.Dd u rfl bX;refine wd rfl (fun st=>Bj (k:=i3) Tryz.underlying23 Gh (ee st rfl) bZ (ee st rfl) bW bY)<|wd rfl (fun st=>Bu (v:=.slice aW bL.length aX) EM (ee st rfl) b4 rfl) ?_;replace c:=bind_some c;obtain⟨aY,b5,c⟩:=c;refine we rfl (fun st=>MO (s.call n bL aY _ (ZZ f j Z w.heap.size [a]) (ZC f [a]) a #[.slice aW bL.length aX] (Nat.le_trans bO t.sz) (t.zz (F':=f) (M:=[a]) (C:=[]) [0] [] ⟨rfl,trivial⟩ trivial (fun _ h=>.inl h)) Qz aP ⟨_,rfl,⟨_,_,rfl,(a5.mv (t.mz (F':=f) (M:=[a]) (C:=[]) [0] [] ⟨rfl,trivial⟩ trivial (fun _ h=>.inl h)))⟩⟩ b5) (ee st rfl) (C2 (ee st rfl))) ?_;rintro _ b9 ⟨aR,bA,aK,rfl,b6⟩;have bB:=t.K8 bA (BA [0] ⟨rfl,trivial⟩ (fun _ h=>h)) 0 rfl aK;have aZ:aJ aY.2 b9 (ZZ f j Z w.heap.size [aR]) aR:=s.mz b6 (t.call (M:=[aR]) (Nat.le_refl _) (Gt ⟨.inr (fun k hk=>(aK k hk).1.imp (fun e=>by rw[←e];exact List.mem_of_getElem? (i:=0) rfl) id),trivial⟩) (HX (L:=[a]) (y:=aR) 0 (List.mem_of_getElem? (i:=0) rfl)));refine Aj<|Ad ?_;rcases As (aY.1) with aI|aI
    ·replace c:=AG c aI;refine AJ rfl aI<|Ai<|Ae<|wm rfl (v:=I d) rfl<|wa rfl (v:=I d) rfl<|Aj<|Ad<|AM<|Bv<|AE<|AE ?_;obtain rfl:=oi c;refine Cf (fun st=>?_);exact .inl ⟨rfl,(d,aY.2),rfl,aR,qz st,qd st,sp st 4 rfl,bB,aZ⟩
    ·replace c:=AH c aI;refine AK rfl aI<|AQ<|BE<|Ad<|Ae ?_;replace c:=AP c;obtain⟨b7,c⟩:=c;refine wd rfl (fun st=>Ce (ee st aB) (ee st rfl) b7)<|wm rfl (v:=I (d+1)) rfl<|Aj ?_;have aS:=(u.mv (t.K9 bA (BA [0] ⟨rfl,trivial⟩ (fun _ h=>h)) 0 rfl (fun k hk=>(aK k hk).1)));refine BI bI (Nat.lt_succ_self _) (fun st=>?_);exact⟨(d+1),aY.2,aR,c,qz st,qd st,sp st 0 aM,sp st 1 aN,sp st 7 aO,sp st 8 rfl,bB,aZ,aS⟩
   ·replace c:=AH c aH;refine AK rfl aH<|Cp<|AI<|AI ?_;obtain rfl:=oi c;refine Cf (fun st=>?_);exact .inr ⟨rfl,n,rfl,a,qz st,qd st,t,aP⟩
 case bT=>
  rintro bH cA cF (⟨rfl,q,rfl,l,aC,aD,a0,x,aE⟩|⟨rfl,q,rfl,m,aC,aD,x,aE⟩)
  ·skip
   replace c:=Et c;refine Cy (X:=X0) (N:=19) aC aD<|Bv<|AE ?_;obtain rfl:=oi c;refine AN rfl a0 ?_;exact⟨l,aV _ x.fin,rfl,x.GW 0 rfl [] rfl (M:=[]) trivial (by rw[aF];intro y a2;simp only[List.mem_cons,List.not_mem_nil,or_false] at a2⊢;rcases a2 with h<;>simp[*]),s.mz aE (CR (DT [0] ⟨rfl,trivial⟩))⟩
  ·skip
   replace c:=Eu c;refine Cy (X:=X0) (N:=19) aC aD<|By<|Ad<|Ai<|Ae<|wa rfl (v:=I (-1)) rfl<|Aj<|Ad<|AM ?_;obtain rfl:=oi c;refine AN rfl rfl ?_;exact⟨m,aV _ x.fin,rfl,x.GW 0 rfl [] rfl (M:=[]) trivial (by rw[aF];intro y a2;simp only[List.mem_cons,List.not_mem_nil,or_false] at a2⊢;rcases a2 with h<;>simp[*]),s.mz aE (CR (DT [0] ⟨rfl,trivial⟩))⟩
theorem Ahx{t:Type}{c:Nat→Prop}{aK:Nat}{u:t→World→(Nat→Prop)→Option Nat→Prop}{z:t→(List Int)→Option (Bool×t)} aL q(aC:t) d f(m:Value) a(Z:Nat→Prop) w(g:Cb Tryz.prog m c aK u (v1 (GI (AF .i64))) Dt z)(aM:aK≤w.heap.size)(aN:Co c [a] w)(aO:∀b,Z b→¬c b∧some b∉[a])(x:Sl (BY (AF .i64)) w Z d f q)(aT:u aC w Z a) aD(o:Ph aL z q aC=some aD):
 CH Tryz.prog 195 #[.slice d q.length f,m] w (fun v w'=>∃o',DF (FU c [a]) w w'∧Dt.R w' (zf Z w [o']) v aD.1∧(∀k,o'=some k→(a=some k∨w.heap.size≤k)∧k<w'.heap.size)∧u aD.2 w' (zf Z w [o']) o'):=by
 unfold Ph at o;refine Bb (N:=9) Tryz.func195 rfl rfl (by simp) ?_;intro aU ha aV;have aE:=AO (i:=0) ha rfl;have aF:=AO (i:=1) ha rfl;clear ha;obtain⟨l,n⟩:∃l,l=[a]:=⟨_,rfl⟩;have j:Hp c l w [a] w:=by rw[n];exact Hp.start aN
 have aA:∀b,Z b→¬c b∧some b∉l:=by rw[n];exact aO
 have aG:∀w',DF (FU c l) w w'→DF (FU c [a]) w w':=by rw[n];exact fun _ h=>h
 have p:=x.mv (Cc (L:=[a]) aA w);have aH:=g.mz aT (Cc (L:=[a]) aA w);refine Ai<|Ae<|wa rfl (v:=.bool false) rfl<|Aj<|Ad<|Ai<|Ae<|wm rfl (v:=.slice d q.length f) aE<|wm rfl (v:=m) aF ?_;replace o:=bind_some o;obtain⟨aI,aP,o⟩:=o;refine we rfl (fun st=>Az AeN (ee st rfl) (DH (ee st rfl) (ee st rfl)) (a222 aL q aC d f m a (ZZ c l Z w.heap.size [a]) _ g (Nat.le_trans aM j.sz) (j.Hc (F':=c) (M:=[a]) (C:=[]) [0] [] rfl ⟨rfl,trivial⟩ trivial (fun _ h=>.inl h)) (j.zz (F':=c) (M:=[a]) (C:=[]) [0] [] ⟨rfl,trivial⟩ trivial (fun _ h=>.inl h)) p aH aI aP)) ?_;rintro _ w2 ⟨r,aQ,rfl,s,aR⟩;have aB:=j.K8 aQ (BA [0] ⟨rfl,trivial⟩ (fun _ h=>h)) 0 rfl s;have aJ:u aI.2 w2 (ZZ c l Z w.heap.size [r]) r:=g.mz aR (j.call (M:=[r]) (Nat.le_refl _) (Gt ⟨.inr (fun k hk=>(s k hk).1.imp (fun e=>by rw[←e];exact List.mem_of_getElem? (i:=0) rfl) id),trivial⟩) (HX (L:=[a]) (y:=r) 0 (List.mem_of_getElem? (i:=0) rfl)));refine wd rfl (fun st=>I9 (ee st rfl) (ee st rfl))<|wa rfl (v:=.bool (decide ((0:Int)≤aI.1))) rfl<|Aj<|Ad<|AM ?_;obtain rfl:=oi o;refine AN rfl rfl ?_;exact⟨r,aG _ aB.fin,rfl,aB.GW 0 rfl [] rfl (M:=[]) trivial (by rw[n];intro y aS;simp only[List.mem_cons,List.not_mem_nil,or_false] at aS⊢;rcases aS with h<;>simp[*]),g.mz aJ (CR (DT [0] ⟨rfl,trivial⟩))⟩
theorem Ahy{aA:Type}{d:Nat→Prop}{bD:Nat}{aB:aA→World→(Nat→Prop)→Option Nat→Prop}{aF:aA→(List Int)→Option (Bool×aA)} aK aG(aL:aA) m n(j:Value) a(Z:Nat→Prop) w(c:Cb Tryz.prog j d bD aB (v1 (GI (AF .i64))) Dt aF)(bE:bD≤w.heap.size)(bF:Co d [a] w)(bG:∀b,Z b→¬d b∧some b∉[a])(aM:Sl (BY (AF .i64)) w Z m n aG)(s:aB aL w Z a) aS(aC:QZ aK aF aG aL=some aS):
 CH Tryz.prog 166 #[.slice m aG.length n,j] w (fun v w'=>∃o',DF (FU d [a]) w w'∧Dt.R w' (zf Z w [o']) v aS.1∧(∀k,o'=some k→(a=some k∨w.heap.size≤k)∧k<w'.heap.size)∧aB aS.2 w' (zf Z w [o']) o'):=by
 unfold QZ at aC;refine Bb (N:=9) Tryz.func166 rfl rfl (by simp) ?_;intro bU ha bV;have aT:=AO (i:=0) ha rfl;have aU:=AO (i:=1) ha rfl;clear ha;obtain⟨q,t⟩:∃q,q=[a]:=⟨_,rfl⟩;have aH:Hp d q w [a] w:=by rw[t];exact Hp.start bF
 have aO:∀b,Z b→¬d b∧some b∉q:=by rw[t];exact bG
 have aV:∀w',DF (FU d q) w w'→DF (FU d [a]) w w':=by rw[t];exact fun _ h=>h
 have aD:=aM.mv (Cc (L:=[a]) aO w);have aW:=c.mz s (Cc (L:=[a]) aO w);refine Ai<|Ae<|we rfl (fun st=>Cs (v:=j) (cs:= #[j]) (ee st aU) c.fc) ?_;rintro _ w1 ⟨b1,rfl,l⟩;have f:=aH.nb l;have bP:=aH.Cz l;refine wa rfl (v:=.bool false) rfl<|Aj<|Ad<|Ai<|Ae<|wm rfl (v:=.slice m aG.length n) aT<|wd rfl (fun st=>IN (vs:= #[]) (us:= #[pt b1 0]) GK (C2 (ee st rfl))) ?_;have aP:=f.Hc (F':=d) (M:=[some b1]) (C:=[]) [0] [] rfl ⟨rfl,trivial⟩ trivial (fun k hk=>.inl ((fun _ h=>h) k hk));have aX:Cb Tryz.prog (.func (.func 196) #[] #[pt b1 0]) (FU d [some b1]) w1.heap.size (fun(st:aA) aY bQ o=>(∀k,o=some k→k<aY.heap.size∧¬(FU d [some b1]) k)∧Bk aY b1 148 #[j]∧aB st aY bQ o) (v1 (GI (AF .i64))) Dt (fun(st:aA) (x:(List Int))=>(Pq aK aF x st).bind fun r=>some (r.1,r.2)):=by
  refine⟨rfl,rfl,f.QY [0] ⟨rfl,trivial⟩ (fun _ h=>h),?_,?_,?_⟩
  ·intro st x r w1 aZ bH o vs hn a0 u s hx bR;obtain⟨g,p,z⟩:=s;obtain⟨_,rfl,⟨a2,a3,rfl,aN⟩⟩:=hx;obtain⟨bS,h1,h2⟩:=bind_some bR;obtain rfl:=Option.some.inj h2;refine(Lv AeO rfl (a196 aK x st a2 a3 b1 j o aZ bH w1 c (Nat.le_trans bE (Nat.le_trans f.sz hn)) ((aP.grow hn).snoc g) (fun b hb=>JG (u b (a0 b hb)).1 (u b (a0 b hb)).2) a0 (fun b hb=>JG (u b hb).1 (u b hb).2) aN p z bS h1)).mono ?_;rintro v w2 ⟨o',hx,a4,a5,aQ,bI⟩;exact⟨o',hx.lf,aQ,a4,⟨aP.keep hn g aQ,a5,c.mz bI Q7⟩⟩
  ·intro st w1 w2 aZ bW o s hm hb;obtain⟨g,p,z⟩:=s;exact⟨fun k hk=>⟨Nat.lt_of_lt_of_le (g k hk).1 hm.size,(g k hk).2⟩,p.PA (hb b1 (.inl (.inr (List.mem_of_getElem? (i:=0) rfl)))),c.Ti _ _ _ _ _ _ z hm (fun b bJ=>hb b (bJ.imp .inl id))⟩
  ·intro st w1 aZ o s k hk;obtain⟨g,p,z⟩:=s;exact g k hk
 have aE:=(aD.mv (An l));replace aC:=bind_some aC;obtain⟨a9,bK,aC⟩:=aC;have bA:aB aL w1 (ZZ d q Z w.heap.size [some b1,a]) a:=(c.me aW aH l.gr (An l));refine we rfl (fun st=>Az AeP (ee st rfl) (DH (ee st rfl) (ee st rfl)) (Ahx aK aG aL m n (.func (.func 196) #[] #[pt b1 0]) a (ZZ d q Z w.heap.size [some b1,a]) _ aX (Nat.le_refl _) (f.Hc (F':=(FU d [some b1])) (M:=[a]) (C:=[some b1]) [1] [0] rfl ⟨rfl,trivial⟩ ⟨rfl,trivial⟩ (Eb (fun _ h=>h))) (f.zz (F':=(FU d [some b1])) (M:=[a]) (C:=[some b1]) [1] [0] ⟨rfl,trivial⟩ ⟨rfl,trivial⟩ (Eb (fun _ h=>h))) aE ⟨(fun k hk=>f.WS 1 (by rw[←hk];rfl) [0] rfl ⟨rfl,trivial⟩),l.bk,bA⟩ a9 bK)) ?_;rintro _ bT ⟨aI,bL,rfl,aJ,bM⟩;obtain⟨-,bN,bB⟩:=bM;have aR:=f.K8 (DF.cl (M1:=[some b1]) (M2:=[a]) bL) (BA [0,1] ⟨rfl,rfl,trivial⟩ (fun _ h=>h)) 1 rfl aJ;have bC:aB a9.2 bT (ZZ d q Z w.heap.size [some b1,aI]) aI:=c.mz bB (f.call (M:=[aI]) (Nat.le_refl _) (Gt ⟨.inr (fun k hk=>(aJ k hk).1.imp (fun e=>by rw[←e];exact List.mem_of_getElem? (i:=1) rfl) id),trivial⟩) (HX (L:=[some b1,a]) (y:=aI) 1 (List.mem_of_getElem? (i:=0) rfl)));refine wd rfl (fun st=>DK (ee st rfl))<|wa rfl (v:=.bool !a9.1) rfl<|Aj<|Ad<|AM ?_;obtain rfl:=oi aC;refine AN rfl rfl ?_;exact⟨aI,aV _ aR.fin,rfl,aR.GW 1 rfl [] rfl (M:=[]) trivial (by rw[t];intro y bO;simp only[List.mem_cons,List.not_mem_nil,or_false] at bO⊢;rcases bO with h<;>simp[*]),c.mz bC (CR (DT [1] ⟨rfl,trivial⟩))⟩
theorem a198{x:Type}{d:Nat→Prop}{aN:Nat}{r:x→World→(Nat→Prop)→Option Nat→Prop}{aB:x→FY→Option (Bool×x)} aX a(z:x) q1(o:Value) c(Z Za:Nat→Prop) w(f:Cb Tryz.prog o d aN r (v1 (Hx AX)) Dt aB)(aO:aN≤w.heap.size)(aP:Co d [some q1,c] w)(aQ:∀b,Z b→¬d b∧some b∉[some q1,c])(aY:∀b,Z b→Za b)(aE:∀b,Za b→¬d b∧some b∉[some q1,c])(aR:Bk w q1 212 #[o])(aZ:r z w Z c) aF(q:OO aX aB a z=some aF):
 CH Tryz.prog 198 #[.agg #[.bool a.Cn,I a.Number,I a.AY,I a.AZ],pt q1 0] w (fun v w'=>∃o',DF (FU d [some q1,c]) w w'∧Dt.R w' (zf Z w [some q1,o']) v aF.1∧Bk w' q1 212 #[o]∧(∀k,o'=some k→(c=some k∨w.heap.size≤k)∧k<w'.heap.size)∧r aF.2 w' (zf Z w [some q1,o']) o'):=by
 unfold OO at q;refine Bb (N:=8) Tryz.func198 rfl rfl (by simp) ?_;intro a3 ha a4;have aG:=AO (i:=0) ha rfl;have aH:=AO (i:=1) ha rfl;clear ha;obtain⟨j,m⟩:∃j,j=[some q1,c]:=⟨_,rfl⟩;have s:Hp d j w [some q1,c] w:=by rw[m];exact Hp.start aP
 have aS:∀b,Z b→¬d b∧some b∉j:=by rw[m];exact aQ
 have a0:∀b,Za b→¬d b∧some b∉j:=by rw[m];exact aE
 have aI:∀w',DF (FU d j) w w'→DF (FU d [some q1,c]) w w':=by rw[m];exact fun _ h=>h
 have aJ:=f.mz aZ (Cc (L:=[some q1,c]) aS w);refine Ai<|Ae<|we rfl (fun st=>Cs (v:=.agg #[.bool a.Cn,I a.Number,I a.AY,I a.AZ]) (cs:= #[.bool a.Cn,I a.Number,I a.AY,I a.AZ]) (ee st aG) rfl) ?_;rintro _ w1 ⟨b1,rfl,g⟩;have n:=s.nb g;have aW:=s.Cz g;refine wa rfl (v:=.bool false) rfl<|Aj<|Ad<|Ai<|Ae ?_;have p:=(aR.ext g.gr);refine wd rfl (fun st=>AL (v:=o) AeQ (ee st aH) p rfl)<|wd rfl (fun st=>AW (l:=[.bool a.Cn,I a.Number,I a.AY,I a.AZ]) Wg (ee st rfl) g.bk rfl rfl) ?_;have aK:r z w1 (ZZ d j Z w.heap.size [some b1,some q1,c]) c:=(f.me aJ s g.gr (An g));replace q:=bind_some q;obtain⟨aL,aT,q⟩:=q;refine we rfl (fun st=>MO (f.call z a aL _ (ZZ d j Z w.heap.size [some b1,some q1,c]) (ZC d [c]) c #[.agg #[.bool a.Cn,I a.Number,I a.AY,I a.AZ]] (Nat.le_trans aO n.sz) (n.zz (F':=d) (M:=[c]) (C:=[]) [2] [] ⟨rfl,trivial⟩ trivial (fun _ h=>.inl h)) Qz aK ⟨_,rfl,⟨_,rfl,rfl⟩⟩ aT) (ee st rfl) (C2 (ee st rfl))) ?_;rintro _ a2 ⟨t,aC,u,rfl,aU⟩;have aD:=n.K8 aC (BA [2] ⟨rfl,trivial⟩ (fun _ h=>h)) 2 rfl u;have aM:r aL.2 a2 (ZZ d j Z w.heap.size [some b1,some q1,t]) t:=f.mz aU (n.call (M:=[t]) (Nat.le_refl _) (Gt ⟨.inr (fun k hk=>(u k hk).1.imp (fun e=>by rw[←e];exact List.mem_of_getElem? (i:=2) rfl) id),trivial⟩) (HX (L:=[some b1,some q1,c]) (y:=t) 2 (List.mem_of_getElem? (i:=0) rfl)));refine wd rfl (fun st=>DK (ee st rfl))<|wa rfl (v:=.bool !aL.1) rfl<|Aj<|Ad<|AM ?_;obtain rfl:=oi q;refine AN rfl rfl ?_;have aA:=(p.Fq aC (n.Gb 1 rfl [2] rfl ⟨rfl,trivial⟩ (fun _ h=>h)));exact⟨t,aI _ aD.fin,rfl,aA,aD.GW 2 rfl [1] rfl (M:=[some q1]) ⟨rfl,trivial⟩ (by rw[m];intro y aV;simp only[List.mem_cons,List.not_mem_nil,or_false] at aV⊢;rcases aV with h|h<;>simp[*]),f.mz aM (CR (DT [1,2] ⟨rfl,rfl,trivial⟩))⟩
theorem Ahz{a3:Type}{f:Nat→Prop}{bK:Nat}{aL:a3→World→(Nat→Prop)→Option Nat→Prop}{aV:a3→FY→Option (Bool×a3)} bL z(bB:a3) p q(aN:Value) s(Z:Nat→Prop) w(t:Cb Tryz.prog aN f bK aL (v1 (Hx AX)) Dt aV)(bM:bK≤w.heap.size)(bN:Co f [s] w)(bO:∀b,Z b→¬f b∧some b∉[s])(a4:Sl AX w Z p q z)(b6:aL bB w Z s) bC(a:PC bL aV z bB=some bC):
 CH Tryz.prog 223 #[.slice p z.length q,aN] w (fun v w'=>∃o',DF (FU f [s]) w w'∧(EN .i64).R w' (zf Z w [o']) v bC.1∧(∀k,o'=some k→(s=some k∨w.heap.size≤k)∧k<w'.heap.size)∧aL bC.2 w' (zf Z w [o']) o'):=by
 unfold PC at a;refine Bb (N:=19) Tryz.func223 rfl rfl (by simp) ?_;intro b9 ha cA;have aW:=AO (i:=0) ha rfl;have bD:=AO (i:=1) ha rfl;clear ha;obtain⟨j,aH⟩:∃j,j=[s]:=⟨_,rfl⟩;have bP:Hp f j w [s] w:=by rw[aH];exact Hp.start bN
 have a5:∀b,Z b→¬f b∧some b∉j:=by rw[aH];exact bO
 have aX:∀w',DF (FU f j) w w'→DF (FU f [s]) w w':=by rw[aH];exact fun _ h=>h
 have aS:=a4.mv (Cc (L:=[s]) a5 w);have bE:=t.mz b6 (Cc (L:=[s]) a5 w);refine Ai<|Ae<|wa rfl (v:=I 0) rfl<|Aj<|Ad<|Ai<|Ai<|Ae<|wm rfl (v:=.slice p z.length q) aW<|wd rfl (fun st=>BD Tryz.underlying36 (ee st rfl))<|wm rfl (v:=I 0) rfl<|Aj<|Ad<|Bc ?_;replace a:=bind_some a;obtain⟨bF,aA,a⟩:=a;refine Cx (fun bG g aI=>(bG=.ret∧∃r,bF=.inl r∧∃m,g.tmps.size=19∧g.defers=(X0).ds∧sl g 4=I r.1∧Hp f j w [m] aI∧aL r.2 aI (ZZ f j Z w.heap.size [m]) m)∨(bG=.exit 0∧∃r,bF=.inr r∧∃n,g.tmps.size=19∧g.defers=(X0).ds∧Hp f j w [n] aI∧aL r aI (ZZ f j Z w.heap.size [n]) n)) ?bQ ?bR
 case bQ=>
  clear a;refine Cw (fun(bH:Nat) (g:Act) (aI:World)=>∃d,∃o,∃c,LI aV z bH d o=some bF∧g.tmps.size=19∧g.defers=(X0).ds∧sl g 0=.slice p z.length q∧sl g 1=aN∧sl g 7=I (z.length:Int)∧sl g 8=I d∧Hp f j w [c] aI∧aL o aI (ZZ f j Z w.heap.size [c]) c∧Sl AX aI (ZZ f j Z w.heap.size [c]) p q z) bL ?bS ?bT
  case bS=>
   intro st;exact⟨(0:Int),bB,s,aA,qz st,qd st,sp st 0 aW,sp st 1 bD,sp st 7 rfl,sp st 8 rfl,bP,bE,aS⟩
  case bT=>
   rintro(_|bH) cB cC ⟨d,o,c,aA,bI,bJ,aO,aP,aQ,aC,aB,aR,u⟩
   ·exact absurd (show none=some _ from aA) (by simp)
   rw[LI.eq_2] at aA;have a:=aA;clear aA;refine Cl (N:=19) bI bJ<|Ai<|Ae<|wd rfl (fun st=>CY (ee st aC) (ee st aQ))<|Aj<|Ad<|Ai ?_;rcases As (decide (d<(z.length:Int))) with aJ|aJ
   ·replace a:=AG a aJ;refine AJ rfl aJ<|AQ<|Ad<|Ai<|Bc<|Ai<|Ae<|wm rfl (v:=I d) aC<|wa rfl (v:=I d) rfl<|Aj<|Ad<|Ai<|Ae<|wm rfl (v:=aN) aP<|wm rfl (v:=.slice p z.length q) aO<|wm rfl (v:=I d) rfl ?_;replace a:=Bi a;obtain⟨i3,aD,bU,bV,bW,a⟩:=a;obtain⟨b3,cE,_,bX,rfl,bY⟩:=Sl.elem u (by decide) bV;refine wd rfl (fun st=>BZ (k:=i3) Tryz.underlying36 Aah (ee st rfl) bX (ee st rfl) bU bW)<|wd rfl (fun st=>EJ (l:=[.bool aD.Cn,I aD.Number,I aD.AY,I aD.AZ]) Wg (ee st rfl) bY rfl rfl) ?_;replace a:=bind_some a;obtain⟨aY,bZ,a⟩:=a;refine we rfl (fun st=>MO (t.call o aD aY _ (ZZ f j Z w.heap.size [c]) (ZC f [c]) c #[.agg #[.bool aD.Cn,I aD.Number,I aD.AY,I aD.AZ]] (Nat.le_trans bM aB.sz) (aB.zz (F':=f) (M:=[c]) (C:=[]) [0] [] ⟨rfl,trivial⟩ trivial (fun _ h=>.inl h)) Qz aR ⟨_,rfl,⟨_,rfl,rfl⟩⟩ bZ) (ee st rfl) (C2 (ee st rfl))) ?_;rintro _ b7 ⟨aT,a9,aM,rfl,b4⟩;have bA:=aB.K8 a9 (BA [0] ⟨rfl,trivial⟩ (fun _ h=>h)) 0 rfl aM;have aZ:aL aY.2 b7 (ZZ f j Z w.heap.size [aT]) aT:=t.mz b4 (aB.call (M:=[aT]) (Nat.le_refl _) (Gt ⟨.inr (fun k hk=>(aM k hk).1.imp (fun e=>by rw[←e];exact List.mem_of_getElem? (i:=0) rfl) id),trivial⟩) (HX (L:=[c]) (y:=aT) 0 (List.mem_of_getElem? (i:=0) rfl)));refine Aj<|Ad ?_;rcases As (aY.1) with aK|aK
    ·replace a:=AG a aK;refine AJ rfl aK<|Ai<|Ae<|wm rfl (v:=I d) rfl<|wa rfl (v:=I d) rfl<|Aj<|Ad<|AM<|Bv<|AE<|AE ?_;obtain rfl:=oi a;refine Cf (fun st=>?_);exact .inl ⟨rfl,(d,aY.2),rfl,aT,qz st,qd st,sp st 4 rfl,bA,aZ⟩
    ·replace a:=AH a aK;refine AK rfl aK<|AQ<|BE<|Ad<|Ae ?_;replace a:=AP a;obtain⟨b5,a⟩:=a;refine wd rfl (fun st=>Ce (ee st aC) (ee st rfl) b5)<|wm rfl (v:=I (d+1)) rfl<|Aj ?_;have aU:=(u.mv (aB.K9 a9 (BA [0] ⟨rfl,trivial⟩ (fun _ h=>h)) 0 rfl (fun k hk=>(aM k hk).1)));refine BI bH (Nat.lt_succ_self _) (fun st=>?_);exact⟨(d+1),aY.2,aT,a,qz st,qd st,sp st 0 aO,sp st 1 aP,sp st 7 aQ,sp st 8 rfl,bA,aZ,aU⟩
   ·replace a:=AH a aJ;refine AK rfl aJ<|Cp<|AI<|AI ?_;obtain rfl:=oi a;refine Cf (fun st=>?_);exact .inr ⟨rfl,o,rfl,c,qz st,qd st,aB,aR⟩
 case bR=>
  rintro bG b8 cD (⟨rfl,r,rfl,m,aE,aF,a0,x,aG⟩|⟨rfl,r,rfl,n,aE,aF,x,aG⟩)
  ·skip
   replace a:=Et a;refine Cy (X:=X0) (N:=19) aE aF<|Bv<|AE ?_;obtain rfl:=oi a;refine AN rfl a0 ?_;exact⟨m,aX _ x.fin,rfl,x.GW 0 rfl [] rfl (M:=[]) trivial (by rw[aH];intro y a2;simp only[List.mem_cons,List.not_mem_nil,or_false] at a2⊢;rcases a2 with h<;>simp[*]),t.mz aG (CR (DT [0] ⟨rfl,trivial⟩))⟩
  ·skip
   replace a:=Eu a;refine Cy (X:=X0) (N:=19) aE aF<|By<|Ad<|Ai<|Ae<|wa rfl (v:=I (-1)) rfl<|Aj<|Ad<|AM ?_;obtain rfl:=oi a;refine AN rfl rfl ?_;exact⟨n,aX _ x.fin,rfl,x.GW 0 rfl [] rfl (M:=[]) trivial (by rw[aH];intro y a2;simp only[List.mem_cons,List.not_mem_nil,or_false] at a2⊢;rcases a2 with h<;>simp[*]),t.mz aG (CR (DT [0] ⟨rfl,trivial⟩))⟩
theorem AhA{t:Type}{c:Nat→Prop}{aK:Nat}{u:t→World→(Nat→Prop)→Option Nat→Prop}{z:t→FY→Option (Bool×t)} aL q(aC:t) d f(m:Value) a(Z:Nat→Prop) w(g:Cb Tryz.prog m c aK u (v1 (Hx AX)) Dt z)(aM:aK≤w.heap.size)(aN:Co c [a] w)(aO:∀b,Z b→¬c b∧some b∉[a])(x:Sl AX w Z d f q)(aT:u aC w Z a) aD(o:OP aL z q aC=some aD):
 CH Tryz.prog 197 #[.slice d q.length f,m] w (fun v w'=>∃o',DF (FU c [a]) w w'∧Dt.R w' (zf Z w [o']) v aD.1∧(∀k,o'=some k→(a=some k∨w.heap.size≤k)∧k<w'.heap.size)∧u aD.2 w' (zf Z w [o']) o'):=by
 unfold OP at o;refine Bb (N:=9) Tryz.func197 rfl rfl (by simp) ?_;intro aU ha aV;have aE:=AO (i:=0) ha rfl;have aF:=AO (i:=1) ha rfl;clear ha;obtain⟨l,n⟩:∃l,l=[a]:=⟨_,rfl⟩;have j:Hp c l w [a] w:=by rw[n];exact Hp.start aN
 have aA:∀b,Z b→¬c b∧some b∉l:=by rw[n];exact aO
 have aG:∀w',DF (FU c l) w w'→DF (FU c [a]) w w':=by rw[n];exact fun _ h=>h
 have p:=x.mv (Cc (L:=[a]) aA w);have aH:=g.mz aT (Cc (L:=[a]) aA w);refine Ai<|Ae<|wa rfl (v:=.bool false) rfl<|Aj<|Ad<|Ai<|Ae<|wm rfl (v:=.slice d q.length f) aE<|wm rfl (v:=m) aF ?_;replace o:=bind_some o;obtain⟨aI,aP,o⟩:=o;refine we rfl (fun st=>Az AeR (ee st rfl) (DH (ee st rfl) (ee st rfl)) (Ahz aL q aC d f m a (ZZ c l Z w.heap.size [a]) _ g (Nat.le_trans aM j.sz) (j.Hc (F':=c) (M:=[a]) (C:=[]) [0] [] rfl ⟨rfl,trivial⟩ trivial (fun _ h=>.inl h)) (j.zz (F':=c) (M:=[a]) (C:=[]) [0] [] ⟨rfl,trivial⟩ trivial (fun _ h=>.inl h)) p aH aI aP)) ?_;rintro _ w2 ⟨r,aQ,rfl,s,aR⟩;have aB:=j.K8 aQ (BA [0] ⟨rfl,trivial⟩ (fun _ h=>h)) 0 rfl s;have aJ:u aI.2 w2 (ZZ c l Z w.heap.size [r]) r:=g.mz aR (j.call (M:=[r]) (Nat.le_refl _) (Gt ⟨.inr (fun k hk=>(s k hk).1.imp (fun e=>by rw[←e];exact List.mem_of_getElem? (i:=0) rfl) id),trivial⟩) (HX (L:=[a]) (y:=r) 0 (List.mem_of_getElem? (i:=0) rfl)));refine wd rfl (fun st=>I9 (ee st rfl) (ee st rfl))<|wa rfl (v:=.bool (decide ((0:Int)≤aI.1))) rfl<|Aj<|Ad<|AM ?_;obtain rfl:=oi o;refine AN rfl rfl ?_;exact⟨r,aG _ aB.fin,rfl,aB.GW 0 rfl [] rfl (M:=[]) trivial (by rw[n];intro y aS;simp only[List.mem_cons,List.not_mem_nil,or_false] at aS⊢;rcases aS with h<;>simp[*]),g.mz aJ (CR (DT [0] ⟨rfl,trivial⟩))⟩
theorem a167{aA:Type}{d:Nat→Prop}{bA:Nat}{aB:aA→World→(Nat→Prop)→Option Nat→Prop}{aF:aA→FY→Option (Bool×aA)} aK aG(aL:aA) m n(j:Value) a(Z:Nat→Prop) w(c:Cb Tryz.prog j d bA aB (v1 (Hx AX)) Dt aF)(bB:bA≤w.heap.size)(bC:Co d [a] w)(bD:∀b,Z b→¬d b∧some b∉[a])(aM:Sl AX w Z m n aG)(s:aB aL w Z a) aR(aC:QB aK aF aG aL=some aR):
 CH Tryz.prog 167 #[.slice m aG.length n,j] w (fun v w'=>∃o',DF (FU d [a]) w w'∧Dt.R w' (zf Z w [o']) v aR.1∧(∀k,o'=some k→(a=some k∨w.heap.size≤k)∧k<w'.heap.size)∧aB aR.2 w' (zf Z w [o']) o'):=by
 unfold QB at aC;refine Bb (N:=9) Tryz.func167 rfl rfl (by simp) ?_;intro bR ha bS;have aS:=AO (i:=0) ha rfl;have aT:=AO (i:=1) ha rfl;clear ha;obtain⟨q,t⟩:∃q,q=[a]:=⟨_,rfl⟩;have aH:Hp d q w [a] w:=by rw[t];exact Hp.start bC
 have aN:∀b,Z b→¬d b∧some b∉q:=by rw[t];exact bD
 have aU:∀w',DF (FU d q) w w'→DF (FU d [a]) w w':=by rw[t];exact fun _ h=>h
 have aD:=aM.mv (Cc (L:=[a]) aN w);have aV:=c.mz s (Cc (L:=[a]) aN w);refine Ai<|Ae<|we rfl (fun st=>Cs (v:=j) (cs:= #[j]) (ee st aT) c.fc) ?_;rintro _ w1 ⟨b1,rfl,l⟩;have f:=aH.nb l;have bM:=aH.Cz l;refine wa rfl (v:=.bool false) rfl<|Aj<|Ad<|Ai<|Ae<|wm rfl (v:=.slice m aG.length n) aS<|wd rfl (fun st=>IN (vs:= #[]) (us:= #[pt b1 0]) GK (C2 (ee st rfl))) ?_;have aO:=f.Hc (F':=d) (M:=[some b1]) (C:=[]) [0] [] rfl ⟨rfl,trivial⟩ trivial (fun k hk=>.inl ((fun _ h=>h) k hk));have aW:Cb Tryz.prog (.func (.func 198) #[] #[pt b1 0]) (FU d [some b1]) w1.heap.size (fun(st:aA) aX bN o=>(∀k,o=some k→k<aX.heap.size∧¬(FU d [some b1]) k)∧Bk aX b1 212 #[j]∧aB st aX bN o) (v1 (Hx AX)) Dt (fun(st:aA) (x:FY)=>(OO aK aF x st).bind fun r=>some (r.1,r.2)):=by
  refine⟨rfl,rfl,f.QY [0] ⟨rfl,trivial⟩ (fun _ h=>h),?_,?_,?_⟩
  ·intro st x r w1 aY bE o vs hn aZ u s hx bO;obtain⟨g,p,z⟩:=s;obtain⟨_,rfl,⟨_,rfl,rfl⟩⟩:=hx;obtain⟨bP,h1,h2⟩:=bind_some bO;obtain rfl:=Option.some.inj h2;refine(Lv AeS rfl (a198 aK x st b1 j o aY bE w1 c (Nat.le_trans bB (Nat.le_trans f.sz hn)) ((aO.grow hn).snoc g) (fun b hb=>JG (u b (aZ b hb)).1 (u b (aZ b hb)).2) aZ (fun b hb=>JG (u b hb).1 (u b hb).2) p z bP h1)).mono ?_;rintro v w2 ⟨o',hx,a0,a2,aP,bF⟩;exact⟨o',hx.lf,aP,a0,⟨aO.keep hn g aP,a2,c.mz bF Q7⟩⟩
  ·intro st w1 w2 aY bT o s hm hb;obtain⟨g,p,z⟩:=s;exact⟨fun k hk=>⟨Nat.lt_of_lt_of_le (g k hk).1 hm.size,(g k hk).2⟩,p.PA (hb b1 (.inl (.inr (List.mem_of_getElem? (i:=0) rfl)))),c.Ti _ _ _ _ _ _ z hm (fun b bG=>hb b (bG.imp .inl id))⟩
  ·intro st w1 aY o s k hk;obtain⟨g,p,z⟩:=s;exact g k hk
 have aE:=(aD.mv (An l));replace aC:=bind_some aC;obtain⟨a3,bH,aC⟩:=aC;have a4:aB aL w1 (ZZ d q Z w.heap.size [some b1,a]) a:=(c.me aV aH l.gr (An l));refine we rfl (fun st=>Az AeT (ee st rfl) (DH (ee st rfl) (ee st rfl)) (AhA aK aG aL m n (.func (.func 198) #[] #[pt b1 0]) a (ZZ d q Z w.heap.size [some b1,a]) _ aW (Nat.le_refl _) (f.Hc (F':=(FU d [some b1])) (M:=[a]) (C:=[some b1]) [1] [0] rfl ⟨rfl,trivial⟩ ⟨rfl,trivial⟩ (Eb (fun _ h=>h))) (f.zz (F':=(FU d [some b1])) (M:=[a]) (C:=[some b1]) [1] [0] ⟨rfl,trivial⟩ ⟨rfl,trivial⟩ (Eb (fun _ h=>h))) aE ⟨(fun k hk=>f.WS 1 (by rw[←hk];rfl) [0] rfl ⟨rfl,trivial⟩),l.bk,a4⟩ a3 bH)) ?_;rintro _ bQ ⟨aI,bI,rfl,aJ,bJ⟩;obtain⟨-,bK,a5⟩:=bJ;have aQ:=f.K8 (DF.cl (M1:=[some b1]) (M2:=[a]) bI) (BA [0,1] ⟨rfl,rfl,trivial⟩ (fun _ h=>h)) 1 rfl aJ;have a9:aB a3.2 bQ (ZZ d q Z w.heap.size [some b1,aI]) aI:=c.mz a5 (f.call (M:=[aI]) (Nat.le_refl _) (Gt ⟨.inr (fun k hk=>(aJ k hk).1.imp (fun e=>by rw[←e];exact List.mem_of_getElem? (i:=1) rfl) id),trivial⟩) (HX (L:=[some b1,a]) (y:=aI) 1 (List.mem_of_getElem? (i:=0) rfl)));refine wd rfl (fun st=>DK (ee st rfl))<|wa rfl (v:=.bool !a3.1) rfl<|Aj<|Ad<|AM ?_;obtain rfl:=oi aC;refine AN rfl rfl ?_;exact⟨aI,aU _ aQ.fin,rfl,aQ.GW 1 rfl [] rfl (M:=[]) trivial (by rw[t];intro y bL;simp only[List.mem_cons,List.not_mem_nil,or_false] at bL⊢;rcases bL with h<;>simp[*]),c.mz a9 (CR (DT [1] ⟨rfl,trivial⟩))⟩
theorem AhB{q:Type}{c:Nat→Prop}{aJ:Nat}{r:q→World→(Nat→Prop)→Option Nat→Prop}{t:q→Int→Option (Bool×q)} aR n(aA:q) q1(l:Value) a(Z Za:Nat→Prop) w(d:Cb Tryz.prog l c aJ r (v1 (EN .i64)) Dt t)(aK:aJ≤w.heap.size)(aL:Co c [some q1,a] w)(aM:∀b,Z b→¬c b∧some b∉[some q1,a])(aS:∀b,Z b→Za b)(aB:∀b,Za b→¬c b∧some b∉[some q1,a])(u:Bk w q1 142 #[l])(aT:r aA w Z a) aC(m:PD aR t n aA=some aC):
 CH Tryz.prog 231 #[I n,pt q1 0] w (fun v w'=>∃o',DF (FU c [some q1,a]) w w'∧Dt.R w' (zf Z w [some q1,o']) v aC.1∧Bk w' q1 142 #[l]∧(∀k,o'=some k→(a=some k∨w.heap.size≤k)∧k<w'.heap.size)∧r aC.2 w' (zf Z w [some q1,o']) o'):=by
 unfold PD at m;refine Bb (N:=8) Tryz.func231 rfl rfl (by simp) ?_;intro aV ha aW;have aD:=AO (i:=0) ha rfl;have aE:=AO (i:=1) ha rfl;clear ha;obtain⟨f,g⟩:∃f,f=[some q1,a]:=⟨_,rfl⟩;have j:Hp c f w [some q1,a] w:=by rw[g];exact Hp.start aL
 have aN:∀b,Z b→¬c b∧some b∉f:=by rw[g];exact aM
 have aU:∀b,Za b→¬c b∧some b∉f:=by rw[g];exact aB
 have aF:∀w',DF (FU c f) w w'→DF (FU c [some q1,a]) w w':=by rw[g];exact fun _ h=>h
 have aG:=d.mz aT (Cc (L:=[some q1,a]) aN w);refine Ai<|Ae<|wa rfl (v:=.bool false) rfl<|Aj<|Ad<|Ai<|Ae<|wd rfl (fun st=>AL (v:=l) Tw (ee st aE) u rfl)<|wm rfl (v:=I n) aD ?_;replace m:=bind_some m;obtain⟨aH,aO,m⟩:=m;refine we rfl (fun st=>MO (d.call aA n aH _ (ZZ c f Z w.heap.size [some q1,a]) (ZC c [a]) a #[I n] (Nat.le_trans aK j.sz) (j.zz (F':=c) (M:=[a]) (C:=[]) [1] [] ⟨rfl,trivial⟩ trivial (fun _ h=>.inl h)) Qz aG ⟨_,rfl,rfl⟩ aO) (ee st rfl) (C2 (ee st rfl))) ?_;rintro _ w2 ⟨o,x,p,rfl,aP⟩;have z:=j.K8 x (BA [1] ⟨rfl,trivial⟩ (fun _ h=>h)) 1 rfl p;have aI:r aH.2 w2 (ZZ c f Z w.heap.size [some q1,o]) o:=d.mz aP (j.call (M:=[o]) (Nat.le_refl _) (Gt ⟨.inr (fun k hk=>(p k hk).1.imp (fun e=>by rw[←e];exact List.mem_of_getElem? (i:=1) rfl) id),trivial⟩) (HX (L:=[some q1,a]) (y:=o) 1 (List.mem_of_getElem? (i:=0) rfl)));refine wd rfl (fun st=>DK (ee st rfl))<|wa rfl (v:=.bool !aH.1) rfl<|Aj<|Ad<|AM ?_;obtain rfl:=oi m;refine AN rfl rfl ?_;have s:=(u.Fq x (j.Gb 0 rfl [1] rfl ⟨rfl,trivial⟩ (fun _ h=>h)));exact⟨o,aF _ z.fin,rfl,s,z.GW 1 rfl [0] rfl (M:=[some q1]) ⟨rfl,trivial⟩ (by rw[g];intro y aQ;simp only[List.mem_cons,List.not_mem_nil,or_false] at aQ⊢;rcases aQ with h|h<;>simp[*]),d.mz aI (CR (DT [0,1] ⟨rfl,rfl,trivial⟩))⟩
theorem AhC{a0:Type}{f:Nat→Prop}{bJ:Nat}{aJ:a0→World→(Nat→Prop)→Option Nat→Prop}{aT:a0→Int→Option (Bool×a0)} bK x(a9:a0) o p(aL:Value) r(Z:Nat→Prop) w(s:Cb Tryz.prog aL f bJ aJ (v1 (EN .i64)) Dt aT)(bL:bJ≤w.heap.size)(bM:Co f [r] w)(bN:∀b,Z b→¬f b∧some b∉[r])(a2:Sl (AF .i64) w Z o p x)(b5:aJ a9 w Z r) bA(a:P7 bK aT x a9=some bA):
 CH Tryz.prog 207 #[.slice o x.length p,aL] w (fun v w'=>∃o',DF (FU f [r]) w w'∧(EN .i64).R w' (zf Z w [o']) v bA.1∧(∀k,o'=some k→(r=some k∨w.heap.size≤k)∧k<w'.heap.size)∧aJ bA.2 w' (zf Z w [o']) o'):=by
 unfold P7 at a;refine Bb (N:=19) Tryz.func207 rfl rfl (by simp) ?_;intro b8 ha b9;have aU:=AO (i:=0) ha rfl;have bB:=AO (i:=1) ha rfl;clear ha;obtain⟨j,aF⟩:∃j,j=[r]:=⟨_,rfl⟩;have bO:Hp f j w [r] w:=by rw[aF];exact Hp.start bM
 have a3:∀b,Z b→¬f b∧some b∉j:=by rw[aF];exact bN
 have aV:∀w',DF (FU f j) w w'→DF (FU f [r]) w w':=by rw[aF];exact fun _ h=>h
 have aQ:=a2.mv (Cc (L:=[r]) a3 w);have bC:=s.mz b5 (Cc (L:=[r]) a3 w);refine Ai<|Ae<|wa rfl (v:=I 0) rfl<|Aj<|Ad<|Ai<|Ai<|Ae<|wm rfl (v:=.slice o x.length p) aU<|wd rfl (fun st=>BD Tryz.underlying31 (ee st rfl))<|wm rfl (v:=I 0) rfl<|Aj<|Ad<|Bc ?_;replace a:=bind_some a;obtain⟨bD,z,a⟩:=a;refine Cx (fun bE g aG=>(bE=.ret∧∃q,bD=.inl q∧∃l,g.tmps.size=19∧g.defers=(X0).ds∧sl g 4=I q.1∧Hp f j w [l] aG∧aJ q.2 aG (ZZ f j Z w.heap.size [l]) l)∨(bE=.exit 0∧∃q,bD=.inr q∧∃m,g.tmps.size=19∧g.defers=(X0).ds∧Hp f j w [m] aG∧aJ q aG (ZZ f j Z w.heap.size [m]) m)) ?bP ?bQ
 case bP=>
  clear a;refine Cw (fun(bF:Nat) (g:Act) (aG:World)=>∃d,∃n,∃c,Gz aT x bF d n=some bD∧g.tmps.size=19∧g.defers=(X0).ds∧sl g 0=.slice o x.length p∧sl g 1=aL∧sl g 7=I (x.length:Int)∧sl g 8=I d∧Hp f j w [c] aG∧aJ n aG (ZZ f j Z w.heap.size [c]) c∧Sl (AF .i64) aG (ZZ f j Z w.heap.size [c]) o p x) bK ?bR ?bS
  case bR=>
   intro st;exact⟨(0:Int),a9,r,z,qz st,qd st,sp st 0 aU,sp st 1 bB,sp st 7 rfl,sp st 8 rfl,bO,bC,aQ⟩
  case bS=>
   rintro(_|bF) cA cB ⟨d,n,c,z,bG,bH,aM,aN,aO,aB,aA,aP,t⟩
   ·exact absurd (show none=some _ from z) (by simp)
   rw[Gz.eq_2] at z;have a:=z;clear z;refine Cl (N:=19) bG bH<|Ai<|Ae<|wd rfl (fun st=>CY (ee st aB) (ee st aO))<|Aj<|Ad<|Ai ?_;rcases As (decide (d<(x.length:Int))) with aH|aH
   ·replace a:=AG a aH;refine AJ rfl aH<|AQ<|Ad<|Ai<|Bc<|Ai<|Ae<|wm rfl (v:=I d) aB<|wa rfl (v:=I d) rfl<|Aj<|Ad<|Ai<|Ae<|wm rfl (v:=aL) aN<|wm rfl (v:=.slice o x.length p) aM<|wm rfl (v:=I d) rfl ?_;replace a:=Bi a;obtain⟨i3,bI,bT,bU,bV,a⟩:=a;obtain⟨b3,cD,_,bW,rfl,bX⟩:=Sl.Dd t rfl bU;refine wd rfl (fun st=>Bj (k:=i3) Tryz.underlying31 DY (ee st rfl) bW (ee st rfl) bT bV)<|wd rfl (fun st=>Bu (v:=I bI) BK (ee st rfl) bX rfl) ?_;replace a:=bind_some a;obtain⟨aW,bY,a⟩:=a;refine we rfl (fun st=>MO (s.call n bI aW _ (ZZ f j Z w.heap.size [c]) (ZC f [c]) c #[I bI] (Nat.le_trans bL aA.sz) (aA.zz (F':=f) (M:=[c]) (C:=[]) [0] [] ⟨rfl,trivial⟩ trivial (fun _ h=>.inl h)) Qz aP ⟨_,rfl,rfl⟩ bY) (ee st rfl) (C2 (ee st rfl))) ?_;rintro _ b6 ⟨aR,a4,aK,rfl,bZ⟩;have a5:=aA.K8 a4 (BA [0] ⟨rfl,trivial⟩ (fun _ h=>h)) 0 rfl aK;have aX:aJ aW.2 b6 (ZZ f j Z w.heap.size [aR]) aR:=s.mz bZ (aA.call (M:=[aR]) (Nat.le_refl _) (Gt ⟨.inr (fun k hk=>(aK k hk).1.imp (fun e=>by rw[←e];exact List.mem_of_getElem? (i:=0) rfl) id),trivial⟩) (HX (L:=[c]) (y:=aR) 0 (List.mem_of_getElem? (i:=0) rfl)));refine Aj<|Ad ?_;rcases As (aW.1) with aI|aI
    ·replace a:=AG a aI;refine AJ rfl aI<|Ai<|Ae<|wm rfl (v:=I d) rfl<|wa rfl (v:=I d) rfl<|Aj<|Ad<|AM<|Bv<|AE<|AE ?_;obtain rfl:=oi a;refine Cf (fun st=>?_);exact .inl ⟨rfl,(d,aW.2),rfl,aR,qz st,qd st,sp st 4 rfl,a5,aX⟩
    ·replace a:=AH a aI;refine AK rfl aI<|AQ<|BE<|Ad<|Ae ?_;replace a:=AP a;obtain⟨b4,a⟩:=a;refine wd rfl (fun st=>Ce (ee st aB) (ee st rfl) b4)<|wm rfl (v:=I (d+1)) rfl<|Aj ?_;have aS:=(t.mv (aA.K9 a4 (BA [0] ⟨rfl,trivial⟩ (fun _ h=>h)) 0 rfl (fun k hk=>(aK k hk).1)));refine BI bF (Nat.lt_succ_self _) (fun st=>?_);exact⟨(d+1),aW.2,aR,a,qz st,qd st,sp st 0 aM,sp st 1 aN,sp st 7 aO,sp st 8 rfl,a5,aX,aS⟩
   ·replace a:=AH a aH;refine AK rfl aH<|Cp<|AI<|AI ?_;obtain rfl:=oi a;refine Cf (fun st=>?_);exact .inr ⟨rfl,n,rfl,c,qz st,qd st,aA,aP⟩
 case bQ=>
  rintro bE b7 cC (⟨rfl,q,rfl,l,aC,aD,aY,u,aE⟩|⟨rfl,q,rfl,m,aC,aD,u,aE⟩)
  ·skip
   replace a:=Et a;refine Cy (X:=X0) (N:=19) aC aD<|Bv<|AE ?_;obtain rfl:=oi a;refine AN rfl aY ?_;exact⟨l,aV _ u.fin,rfl,u.GW 0 rfl [] rfl (M:=[]) trivial (by rw[aF];intro y aZ;simp only[List.mem_cons,List.not_mem_nil,or_false] at aZ⊢;rcases aZ with h<;>simp[*]),s.mz aE (CR (DT [0] ⟨rfl,trivial⟩))⟩
  ·skip
   replace a:=Eu a;refine Cy (X:=X0) (N:=19) aC aD<|By<|Ad<|Ai<|Ae<|wa rfl (v:=I (-1)) rfl<|Aj<|Ad<|AM ?_;obtain rfl:=oi a;refine AN rfl rfl ?_;exact⟨m,aV _ u.fin,rfl,u.GW 0 rfl [] rfl (M:=[]) trivial (by rw[aF];intro y aZ;simp only[List.mem_cons,List.not_mem_nil,or_false] at aZ⊢;rcases aZ with h<;>simp[*]),s.mz aE (CR (DT [0] ⟨rfl,trivial⟩))⟩
theorem AgA{t:Type}{c:Nat→Prop}{aK:Nat}{u:t→World→(Nat→Prop)→Option Nat→Prop}{z:t→Int→Option (Bool×t)} aL q(aC:t) d f(m:Value) a(Z:Nat→Prop) w(g:Cb Tryz.prog m c aK u (v1 (EN .i64)) Dt z)(aM:aK≤w.heap.size)(aN:Co c [a] w)(aO:∀b,Z b→¬c b∧some b∉[a])(x:Sl (AF .i64) w Z d f q)(aT:u aC w Z a) aD(o:NY aL z q aC=some aD):
 CH Tryz.prog 187 #[.slice d q.length f,m] w (fun v w'=>∃o',DF (FU c [a]) w w'∧Dt.R w' (zf Z w [o']) v aD.1∧(∀k,o'=some k→(a=some k∨w.heap.size≤k)∧k<w'.heap.size)∧u aD.2 w' (zf Z w [o']) o'):=by
 unfold NY at o;refine Bb (N:=9) Tryz.func187 rfl rfl (by simp) ?_;intro aU ha aV;have aE:=AO (i:=0) ha rfl;have aF:=AO (i:=1) ha rfl;clear ha;obtain⟨l,n⟩:∃l,l=[a]:=⟨_,rfl⟩;have j:Hp c l w [a] w:=by rw[n];exact Hp.start aN
 have aA:∀b,Z b→¬c b∧some b∉l:=by rw[n];exact aO
 have aG:∀w',DF (FU c l) w w'→DF (FU c [a]) w w':=by rw[n];exact fun _ h=>h
 have p:=x.mv (Cc (L:=[a]) aA w);have aH:=g.mz aT (Cc (L:=[a]) aA w);refine Ai<|Ae<|wa rfl (v:=.bool false) rfl<|Aj<|Ad<|Ai<|Ae<|wm rfl (v:=.slice d q.length f) aE<|wm rfl (v:=m) aF ?_;replace o:=bind_some o;obtain⟨aI,aP,o⟩:=o;refine we rfl (fun st=>Az AeU (ee st rfl) (DH (ee st rfl) (ee st rfl)) (AhC aL q aC d f m a (ZZ c l Z w.heap.size [a]) _ g (Nat.le_trans aM j.sz) (j.Hc (F':=c) (M:=[a]) (C:=[]) [0] [] rfl ⟨rfl,trivial⟩ trivial (fun _ h=>.inl h)) (j.zz (F':=c) (M:=[a]) (C:=[]) [0] [] ⟨rfl,trivial⟩ trivial (fun _ h=>.inl h)) p aH aI aP)) ?_;rintro _ w2 ⟨r,aQ,rfl,s,aR⟩;have aB:=j.K8 aQ (BA [0] ⟨rfl,trivial⟩ (fun _ h=>h)) 0 rfl s;have aJ:u aI.2 w2 (ZZ c l Z w.heap.size [r]) r:=g.mz aR (j.call (M:=[r]) (Nat.le_refl _) (Gt ⟨.inr (fun k hk=>(s k hk).1.imp (fun e=>by rw[←e];exact List.mem_of_getElem? (i:=0) rfl) id),trivial⟩) (HX (L:=[a]) (y:=r) 0 (List.mem_of_getElem? (i:=0) rfl)));refine wd rfl (fun st=>I9 (ee st rfl) (ee st rfl))<|wa rfl (v:=.bool (decide ((0:Int)≤aI.1))) rfl<|Aj<|Ad<|AM ?_;obtain rfl:=oi o;refine AN rfl rfl ?_;exact⟨r,aG _ aB.fin,rfl,aB.GW 0 rfl [] rfl (M:=[]) trivial (by rw[n];intro y aS;simp only[List.mem_cons,List.not_mem_nil,or_false] at aS⊢;rcases aS with h<;>simp[*]),g.mz aJ (CR (DT [0] ⟨rfl,trivial⟩))⟩
theorem AhD{aA:Type}{d:Nat→Prop}{bA:Nat}{aB:aA→World→(Nat→Prop)→Option Nat→Prop}{aF:aA→Int→Option (Bool×aA)} aK aG(aL:aA) m n(j:Value) a(Z:Nat→Prop) w(c:Cb Tryz.prog j d bA aB (v1 (EN .i64)) Dt aF)(bB:bA≤w.heap.size)(bC:Co d [a] w)(bD:∀b,Z b→¬d b∧some b∉[a])(aM:Sl (AF .i64) w Z m n aG)(s:aB aL w Z a) aR(aC:Ru aK aF aG aL=some aR):
 CH Tryz.prog 219 #[.slice m aG.length n,j] w (fun v w'=>∃o',DF (FU d [a]) w w'∧Dt.R w' (zf Z w [o']) v aR.1∧(∀k,o'=some k→(a=some k∨w.heap.size≤k)∧k<w'.heap.size)∧aB aR.2 w' (zf Z w [o']) o'):=by
 unfold Ru at aC;refine Bb (N:=9) Tryz.func219 rfl rfl (by simp) ?_;intro bR ha bS;have aS:=AO (i:=0) ha rfl;have aT:=AO (i:=1) ha rfl;clear ha;obtain⟨q,t⟩:∃q,q=[a]:=⟨_,rfl⟩;have aH:Hp d q w [a] w:=by rw[t];exact Hp.start bC
 have aN:∀b,Z b→¬d b∧some b∉q:=by rw[t];exact bD
 have aU:∀w',DF (FU d q) w w'→DF (FU d [a]) w w':=by rw[t];exact fun _ h=>h
 have aD:=aM.mv (Cc (L:=[a]) aN w);have aV:=c.mz s (Cc (L:=[a]) aN w);refine Ai<|Ae<|we rfl (fun st=>Cs (v:=j) (cs:= #[j]) (ee st aT) c.fc) ?_;rintro _ w1 ⟨b1,rfl,l⟩;have f:=aH.nb l;have bM:=aH.Cz l;refine wa rfl (v:=.bool false) rfl<|Aj<|Ad<|Ai<|Ae<|wm rfl (v:=.slice m aG.length n) aS<|wd rfl (fun st=>IN (vs:= #[]) (us:= #[pt b1 0]) GK (C2 (ee st rfl))) ?_;have aO:=f.Hc (F':=d) (M:=[some b1]) (C:=[]) [0] [] rfl ⟨rfl,trivial⟩ trivial (fun k hk=>.inl ((fun _ h=>h) k hk));have aW:Cb Tryz.prog (.func (.func 231) #[] #[pt b1 0]) (FU d [some b1]) w1.heap.size (fun(st:aA) aX bN o=>(∀k,o=some k→k<aX.heap.size∧¬(FU d [some b1]) k)∧Bk aX b1 142 #[j]∧aB st aX bN o) (v1 (EN .i64)) Dt (fun(st:aA) (x:Int)=>(PD aK aF x st).bind fun r=>some (r.1,r.2)):=by
  refine⟨rfl,rfl,f.QY [0] ⟨rfl,trivial⟩ (fun _ h=>h),?_,?_,?_⟩
  ·intro st x r w1 aY bE o vs hn aZ u s hx bO;obtain⟨g,p,z⟩:=s;obtain⟨_,rfl,rfl⟩:=hx;obtain⟨bP,h1,h2⟩:=bind_some bO;obtain rfl:=Option.some.inj h2;refine(Lv AeV rfl (AhB aK x st b1 j o aY bE w1 c (Nat.le_trans bB (Nat.le_trans f.sz hn)) ((aO.grow hn).snoc g) (fun b hb=>JG (u b (aZ b hb)).1 (u b (aZ b hb)).2) aZ (fun b hb=>JG (u b hb).1 (u b hb).2) p z bP h1)).mono ?_;rintro v w2 ⟨o',hx,a0,a2,aP,bF⟩;exact⟨o',hx.lf,aP,a0,⟨aO.keep hn g aP,a2,c.mz bF Q7⟩⟩
  ·intro st w1 w2 aY bT o s hm hb;obtain⟨g,p,z⟩:=s;exact⟨fun k hk=>⟨Nat.lt_of_lt_of_le (g k hk).1 hm.size,(g k hk).2⟩,p.PA (hb b1 (.inl (.inr (List.mem_of_getElem? (i:=0) rfl)))),c.Ti _ _ _ _ _ _ z hm (fun b bG=>hb b (bG.imp .inl id))⟩
  ·intro st w1 aY o s k hk;obtain⟨g,p,z⟩:=s;exact g k hk
 have aE:=(aD.mv (An l));replace aC:=bind_some aC;obtain⟨a3,bH,aC⟩:=aC;have a4:aB aL w1 (ZZ d q Z w.heap.size [some b1,a]) a:=(c.me aV aH l.gr (An l));refine we rfl (fun st=>Az Abe (ee st rfl) (DH (ee st rfl) (ee st rfl)) (AgA aK aG aL m n (.func (.func 231) #[] #[pt b1 0]) a (ZZ d q Z w.heap.size [some b1,a]) _ aW (Nat.le_refl _) (f.Hc (F':=(FU d [some b1])) (M:=[a]) (C:=[some b1]) [1] [0] rfl ⟨rfl,trivial⟩ ⟨rfl,trivial⟩ (Eb (fun _ h=>h))) (f.zz (F':=(FU d [some b1])) (M:=[a]) (C:=[some b1]) [1] [0] ⟨rfl,trivial⟩ ⟨rfl,trivial⟩ (Eb (fun _ h=>h))) aE ⟨(fun k hk=>f.WS 1 (by rw[←hk];rfl) [0] rfl ⟨rfl,trivial⟩),l.bk,a4⟩ a3 bH)) ?_;rintro _ bQ ⟨aI,bI,rfl,aJ,bJ⟩;obtain⟨-,bK,a5⟩:=bJ;have aQ:=f.K8 (DF.cl (M1:=[some b1]) (M2:=[a]) bI) (BA [0,1] ⟨rfl,rfl,trivial⟩ (fun _ h=>h)) 1 rfl aJ;have a9:aB a3.2 bQ (ZZ d q Z w.heap.size [some b1,aI]) aI:=c.mz a5 (f.call (M:=[aI]) (Nat.le_refl _) (Gt ⟨.inr (fun k hk=>(aJ k hk).1.imp (fun e=>by rw[←e];exact List.mem_of_getElem? (i:=1) rfl) id),trivial⟩) (HX (L:=[some b1,a]) (y:=aI) 1 (List.mem_of_getElem? (i:=0) rfl)));refine wd rfl (fun st=>DK (ee st rfl))<|wa rfl (v:=.bool !a3.1) rfl<|Aj<|Ad<|AM ?_;obtain rfl:=oi aC;refine AN rfl rfl ?_;exact⟨aI,aU _ aQ.fin,rfl,aQ.GW 1 rfl [] rfl (M:=[]) trivial (by rw[t];intro y bL;simp only[List.mem_cons,List.not_mem_nil,or_false] at bL⊢;rcases bL with h<;>simp[*]),c.mz a9 (CR (DT [1] ⟨rfl,trivial⟩))⟩
theorem AhE aC a q d e l m n p f g(Z:Nat→Prop) w(aD:Sl AT w Z d e a.Au)(aE:Sl (BY (AF .i64)) w Z l m a.AS)(aF:Sl AX w Z n p a.Av)(aG:Sl (AF .i64) w Z f g q) aP(j:NC aC a q=some aP):
 CH Tryz.prog 191 #[.agg #[.slice d a.Au.length e,.slice l a.AS.length m,.slice n a.Av.length p],.slice f q.length g] w (fun v w'=>Ext w w'∧Dt.R w' (zf Z w []) v aP):=by
 unfold NC at j;refine Bb (N:=15) Tryz.func191 rfl rfl (by simp) ?_;intro a2 ha a3;have aI:=AO (i:=0) ha rfl;have z:=AO (i:=1) ha rfl;clear ha;have aH:Hp FN [] w [] w:=Hp.start (Co.none w);have aM:=aD.mv (Al (Z:=Z) (L:=[]) w);have aN:=aE.mv (Al (Z:=Z) (L:=[]) w);have aO:=aF.mv (Al (Z:=Z) (L:=[]) w);have u:=aG.mv (Al (Z:=Z) (L:=[]) w);refine Ai<|Ae<|we rfl (fun st=>Cs (v:=.agg #[.slice d a.Au.length e,.slice l a.AS.length m,.slice n a.Av.length p]) (cs:= #[.slice d a.Au.length e,.slice l a.AS.length m,.slice n a.Av.length p]) (ee st aI) rfl) ?_;rintro _ w1 ⟨b1,rfl,s⟩;have t:=aH.nb s;have aX:=aH.Cz s;refine wa rfl (v:=.bool false) rfl<|Aj<|Ad<|Ai<|Ae<|wm rfl (v:=.slice f q.length g) z<|wd rfl (fun st=>BD Tryz.underlying31 (ee st rfl))<|wd rfl (fun st=>Ap (ee st rfl) (O9 _ _))<|wd rfl (fun st=>AL (v:=.slice d a.Au.length e) Qp (ee st rfl) s.bk rfl)<|wd rfl (fun st=>BD Tryz.underlying35 (ee st rfl))<|wd rfl (fun st=>Dy (ee st rfl) (ee st rfl))<|wm rfl (v:=.bool ((q.length:Int)==(a.Au.length:Int))) rfl ?_;rcases As ((q.length:Int)==(a.Au.length:Int)) with b|b
 ·replace j:=AG j b;refine Ax rfl rfl (Ah rfl b) rfl (by decide) (fun st=>Ay (v:=.slice f q.length g) (ee st z)) ?_;have a4:=t.Hc (F':=FN) (M:=[]) (C:=[]) [] [] rfl trivial trivial (fun k hk=>.inl (eL k hk));have aJ:Cb Tryz.prog (.func (.func 220) #[] #[]) (FU FN []) w1.heap.size (fun(st:Unit) a9 bA o=>o=none) (v1 (EN .i64)) Dt (fun(st:Unit) (x:Int)=>(QI aC x).bind fun r=>some (r,())):=by
   refine⟨rfl,rfl,t.QY [] trivial eL,?_,?_,?_⟩
   ·intro st x r w1 aQ aR o vs hn bB a5 aA hx aY;obtain rfl:=aA;obtain⟨_,rfl,rfl⟩:=hx;obtain⟨aZ,h1,h2⟩:=bind_some aY;obtain rfl:=Option.some.inj h2;refine(Lv AeW rfl (Ahu aC x aR w1 aZ h1)).mono ?_;rintro v w2 ⟨hx,aK⟩;exact⟨none,HE hx,(fun _ h=>by cases h),aK,rfl⟩
   ·intro st w1 w2 aQ bC o aA hm hb;obtain rfl:=aA;exact rfl
   ·intro st w1 aQ o aA k hk;obtain rfl:=aA;cases hk
  have aB:=t.nil;have y:=((u.mv (An s)).mv Ba);replace j:=bind_some j;obtain⟨aL,aS,j⟩:=j;refine Dw rfl rfl (Ah rfl b) rfl (by decide) (fun st=>Az AeX (ee st rfl) (DH (ee st rfl) (ee st rfl)) (AhD aC q () f g (.func (.func 220) #[] #[]) none (ZC (FU FN []) [none]) _ aJ (Nat.le_refl _) (aB.Hc (F':=(FU FN [])) (M:=[none]) (C:=[]) [0] [] rfl ⟨rfl,trivial⟩ trivial (Eb eL)) Lu (y.mv (aB.mz (F':=(FU FN [])) (M:=[none]) (C:=[]) [0] [] ⟨rfl,trivial⟩ trivial (Eb eL))) rfl aL aS)) ?_;rintro _ bD ⟨bE,aT,rfl,a0,aU⟩;obtain rfl:=aU;have aV:=aB.Fq (DF.cl (M1:=[]) (M2:=[none]) aT) (BA [0] ⟨rfl,trivial⟩ eL);have aW:=aV.erase 0;refine wd rfl (fun st=>Bl (v:=.bool aL.1) (ee st rfl) b (ee st rfl))<|wa rfl (v:=.bool aL.1) rfl<|Aj<|Ad<|AM ?_;obtain rfl:=oi j;refine AN rfl rfl ?_;exact⟨aW.Bq,rfl⟩
 ·replace j:=AH j b;refine AB (c:=false) rfl rfl (Ah rfl b) (by decide) rfl (by decide)<|AB (c:=false) rfl rfl (Ah rfl b) (by decide) rfl (by decide)<|wd rfl (fun st=>BN (v:=.bool false) (ee st rfl) b (ee st rfl))<|wa rfl (v:=.bool false) rfl<|Aj<|Ad<|AM ?_;obtain rfl:=oi j;refine AN rfl rfl ?_;exact⟨t.Bq,rfl⟩
theorem AhF aJ a q e f g h j k m n(Z:Nat→Prop) w(aC:Sl AT w Z e f a.Au)(aD:Sl (BY (AF .i64)) w Z g h a.AS)(aE:Sl AX w Z j k a.Av)(aF:Sl (AF .i64) w Z m n q) aN(d:MP aJ a q=some aN):
 CH Tryz.prog 163 #[.agg #[.slice e a.Au.length f,.slice g a.AS.length h,.slice j a.Av.length k],.slice m q.length n] w (fun v w'=>Ext w w'∧Dt.R w' (zf Z w []) v aN):=by
 unfold MP at d;refine Bb (N:=13) Tryz.func163 rfl rfl (by simp) ?_;intro aU ha aV;have aK:=AO (i:=0) ha rfl;have aB:=AO (i:=1) ha rfl;clear ha;have aG:Hp FN [] w [] w:=Hp.start (Co.none w);have r:=aC.mv (Al (Z:=Z) (L:=[]) w);have s:=aD.mv (Al (Z:=Z) (L:=[]) w);have t:=aE.mv (Al (Z:=Z) (L:=[]) w);have u:=aF.mv (Al (Z:=Z) (L:=[]) w);refine Ai<|Ae<|we rfl (fun st=>Cs (v:=.agg #[.slice e a.Au.length f,.slice g a.AS.length h,.slice j a.Av.length k]) (cs:= #[.slice e a.Au.length f,.slice g a.AS.length h,.slice j a.Av.length k]) (ee st aK) rfl) ?_;rintro _ w1 ⟨b1,rfl,o⟩;have aO:=aG.nb o;have aT:=aG.Cz o;refine wa rfl (v:=.bool false) rfl<|Aj<|Ad<|Ai<|Ae<|wd rfl (fun st=>AW (l:=[.slice e a.Au.length f,.slice g a.AS.length h,.slice j a.Av.length k]) Ol (ee st rfl) o.bk rfl rfl)<|wm rfl (v:=.slice m q.length n) aB ?_;have x:=(r.mv (An o));have y:=(s.mv (An o));have z:=(t.mv (An o));have p:=(u.mv (An o));replace d:=bind_some d;obtain⟨aL,aP,d⟩:=d;refine we rfl (fun st=>Az AeY (ee st rfl) (DH (ee st rfl) (ee st rfl)) (AhE aJ a q e f g h j k m n ZA _ x.all y.all z.all p.all aL aP)) ?_;rintro _ aW ⟨aH,rfl⟩;have aI:=aO.ext aH;refine wm rfl (v:=.bool aL) rfl ?_;rcases As (aL) with b|b
 ·replace d:=AG d b;refine Ax rfl rfl (Ah rfl b) rfl (by decide) (fun st=>Ay (v:=.slice m q.length n) (ee st aB)) ?_;have aA:=(p.mv (Ab aH));replace d:=bind_some d;obtain⟨aM,aQ,d⟩:=d;refine Dw rfl rfl (Ah rfl b) rfl (by decide) (fun st=>Az Abf (ee st rfl) (C2 (ee st rfl)) (Agy aJ q m n ZA _ aA.all aM aQ)) ?_;rintro _ aX ⟨aR,rfl⟩;have aS:=aI.ext aR;refine Ax rfl rfl (Ah rfl b) rfl (by decide) (fun st=>HZ (ee st rfl) (ee st rfl))<|wd rfl (fun st=>Bl (v:=.bool (decide ((0:Int)<aM))) (ee st rfl) b (ee st rfl))<|wa rfl (v:=.bool (decide ((0:Int)<aM))) rfl<|Aj<|Ad<|AM ?_;obtain rfl:=oi d;refine AN rfl rfl ?_;exact⟨aS.Bq,rfl⟩
 ·replace d:=AH d b;refine AB (c:=false) rfl rfl (Ah rfl b) (by decide) rfl (by decide)<|AB (c:=false) rfl rfl (Ah rfl b) (by decide) rfl (by decide)<|AB (c:=false) rfl rfl (Ah rfl b) (by decide) rfl (by decide)<|wd rfl (fun st=>BN (v:=.bool false) (ee st rfl) b (ee st rfl))<|wa rfl (v:=.bool false) rfl<|Aj<|Ad<|AM ?_;obtain rfl:=oi d;refine AN rfl rfl ?_;exact⟨aI.Bq,rfl⟩
theorem a162 r e b h j k m n o(Z:Nat→Prop) w(y:Sl AT w Z h j e.Au)(z:Sl (BY (AF .i64)) w Z k m e.AS)(aA:Sl AX w Z n o e.Av) aU(a:Ng r e b=some aU):
 CH Tryz.prog 162 #[.agg #[.slice h e.Au.length j,.slice k e.AS.length m,.slice n e.Av.length o],.agg #[.bool b.Cn,I b.Number,I b.AY,I b.AZ]] w (fun v w'=>Ext w w'∧Dt.R w' (zf Z w []) v aU):=by
 unfold Ng at a;refine Bb (N:=24) Tryz.func162 rfl rfl (by simp) ?_;intro a4 ha a5;have aJ:=AO (i:=0) ha rfl;have aK:=AO (i:=1) ha rfl;clear ha;have aD:Hp FN [] w [] w:=Hp.start (Co.none w);have aR:=y.mv (Al (Z:=Z) (L:=[]) w);have aS:=z.mv (Al (Z:=Z) (L:=[]) w);have aT:=aA.mv (Al (Z:=Z) (L:=[]) w);refine Ai<|Ae<|we rfl (fun st=>Cs (v:=.agg #[.slice h e.Au.length j,.slice k e.AS.length m,.slice n e.Av.length o]) (cs:= #[.slice h e.Au.length j,.slice k e.AS.length m,.slice n e.Av.length o]) (ee st aJ) rfl) ?_;rintro _ w1 ⟨b1,rfl,s⟩;have aE:=aD.nb s;have a2:=aD.Cz s;refine we rfl (fun st=>Cs (v:=.agg #[.bool b.Cn,I b.Number,I b.AY,I b.AZ]) (cs:= #[.bool b.Cn,I b.Number,I b.AY,I b.AZ]) (ee st aK) rfl) ?_;rintro _ w2 ⟨b2,rfl,g⟩;have aF:=aE.nb g;have a3:=aE.Cz g;refine wa rfl (v:=.bool false) rfl<|Aj<|Ad<|Ai<|Ae<|wd rfl (fun st=>Ap (ee st rfl) (O9 _ _)) ?_;have q:=(s.bk.ext g.gr);refine wd rfl (fun st=>AL (v:=.slice h e.Au.length j) Qp (ee st rfl) q rfl)<|wd rfl (fun st=>BD Tryz.underlying35 (ee st rfl))<|wa rfl (v:=I (e.Au.length:Int)) rfl<|Aj<|Ad<|Ai<|Ai<|Ae<|wd rfl (fun st=>Ap (ee st rfl) (Aag _ _))<|wd rfl (fun st=>AL (v:=.bool b.Cn) O8 (ee st rfl) g.bk rfl)<|Aj<|Ad ?_;rcases As (b.Cn) with p|p
 ·replace a:=AG a p;refine AJ rfl p<|Ae<|wd rfl (fun st=>Ap (ee st rfl) (PU _ _))<|wd rfl (fun st=>AL (v:=.slice k e.AS.length m) EB (ee st rfl) q rfl)<|wd rfl (fun st=>BD Tryz.underlying23 (ee st rfl))<|wa rfl (v:=I (e.AS.length:Int)) rfl<|Aj<|Ad<|Ai<|Ae<|wd rfl (fun st=>Ap (ee st rfl) (UO _ _))<|wd rfl (fun st=>AL (v:=I b.Number) BK (ee st rfl) g.bk rfl)<|wm rfl (v:=I (e.AS.length:Int)) rfl ?_;replace a:=AP a;obtain⟨aV,a⟩:=a;refine wd rfl (fun st=>EP (ee st rfl) (ee st rfl) aV) ?_;replace a:=bind_some a;obtain⟨aL,aW,a⟩:=a;refine we rfl (fun st=>Az Wf (ee st rfl) (E9 (ee st rfl) (ee st rfl) (ee st rfl)) (AbX r b.Number 0 ((e.AS.length:Int)-1) ZA _ aL aW)) ?_;rintro _ bB ⟨aG,rfl⟩;have aH:=aF.ext aG;refine wm rfl (v:=.bool aL) rfl ?_;rcases As (aL) with f|f
  ·replace a:=AG a f;refine Ax rfl rfl (Ah rfl f) rfl (by decide) (fun st=>Ap (ee st rfl) (W0 _ _)) ?_;have aB:=(g.bk.ext aG);refine Ax rfl rfl (Ah rfl f) rfl (by decide) (fun st=>AW (l:=[I b.AY,I b.AZ]) PT (ee st rfl) aB rfl rfl) ?_;replace a:=bind_some a;obtain⟨aM,aX,a⟩:=a;refine Dw rfl rfl (Ah rfl f) rfl (by decide) (fun st=>Az YB (ee st rfl) (C2 (ee st rfl)) (AdH r (⟨b.AY,b.AZ⟩:AR) ZA _ aM aX)) ?_;rintro _ bC ⟨aY,rfl⟩;have aZ:=aH.ext aY;refine wd rfl (fun st=>Bl (v:=.bool aM) (ee st rfl) f (ee st rfl))<|wa rfl (v:=.bool aM) rfl<|Aj<|Ad<|AM ?_;obtain rfl:=oi a;refine AN rfl rfl ?_;exact⟨aZ.Bq,rfl⟩
  ·replace a:=AH a f;refine AB (c:=false) rfl rfl (Ah rfl f) (by decide) rfl (by decide)<|AB (c:=false) rfl rfl (Ah rfl f) (by decide) rfl (by decide)<|AB (c:=false) rfl rfl (Ah rfl f) (by decide) rfl (by decide)<|wd rfl (fun st=>BN (v:=.bool false) (ee st rfl) f (ee st rfl))<|wa rfl (v:=.bool false) rfl<|Aj<|Ad<|AM ?_;obtain rfl:=oi a;refine AN rfl rfl ?_;exact⟨aH.Bq,rfl⟩
 ·replace a:=AH a p;refine AK rfl p<|AQ<|Ad<|Ai<|Ae<|wd rfl (fun st=>Ap (ee st rfl) (UO _ _))<|wd rfl (fun st=>AL (v:=I b.Number) BK (ee st rfl) g.bk rfl)<|wm rfl (v:=I (e.Au.length:Int)) rfl ?_;replace a:=AP a;obtain⟨aN,a⟩:=a;refine wd rfl (fun st=>EP (ee st rfl) (ee st rfl) aN) ?_;replace a:=bind_some a;obtain⟨t,aO,a⟩:=a;refine we rfl (fun st=>Az Wf (ee st rfl) (E9 (ee st rfl) (ee st rfl) (ee st rfl)) (AbX r b.Number 0 ((e.Au.length:Int)-1) ZA _ t aO)) ?_;rintro _ a9 ⟨u,rfl⟩;have aI:=aF.ext u;refine wm rfl (v:=.bool t) rfl ?_;rcases As (t) with d|d
  ·replace a:=AG a d;refine Ax rfl rfl (Ah rfl d) rfl (by decide) (fun st=>Ap (ee st rfl) (W0 _ _)) ?_;have aC:=(g.bk.ext u);refine Ax rfl rfl (Ah rfl d) rfl (by decide) (fun st=>AW (l:=[I b.AY,I b.AZ]) PT (ee st rfl) aC rfl rfl) ?_;replace a:=bind_some a;obtain⟨x,aP,a⟩:=a;refine Dw rfl rfl (Ah rfl d) rfl (by decide) (fun st=>Az YB (ee st rfl) (C2 (ee st rfl)) (AdH r (⟨b.AY,b.AZ⟩:AR) ZA _ x aP)) ?_;rintro _ bA ⟨aQ,rfl⟩;have a0:=aI.ext aQ;refine wd rfl (fun st=>Bl (v:=.bool x) (ee st rfl) d (ee st rfl))<|wa rfl (v:=.bool x) rfl<|Aj<|Ad<|AM ?_;obtain rfl:=oi a;refine AN rfl rfl ?_;exact⟨a0.Bq,rfl⟩
  ·replace a:=AH a d;refine AB (c:=false) rfl rfl (Ah rfl d) (by decide) rfl (by decide)<|AB (c:=false) rfl rfl (Ah rfl d) (by decide) rfl (by decide)<|AB (c:=false) rfl rfl (Ah rfl d) (by decide) rfl (by decide)<|wd rfl (fun st=>BN (v:=.bool false) (ee st rfl) d (ee st rfl))<|wa rfl (v:=.bool false) rfl<|Aj<|Ad<|AM ?_;obtain rfl:=oi a;refine AN rfl rfl ?_;exact⟨aI.Bq,rfl⟩
set_option maxHeartbeats 4000000 in
theorem a127 aJ a d f g j m p(Z:Nat→Prop) w(cH:Sl AT w Z d f a.Au)(cI:Sl (BY (AF .i64)) w Z g j a.AS)(cJ:Sl AX w Z m p a.Av) dV(b:KQ aJ a=some dV):
 CH Tryz.prog 127 #[.agg #[.slice d a.Au.length f,.slice g a.AS.length j,.slice m a.Av.length p]] w (fun v w'=>Ext w w'∧(EN .i64).R w' (zf Z w []) v dV):=by
 unfold KQ at b;refine Bb (N:=70) Tryz.func127 rfl rfl (by simp) ?_;intro eI ha eJ;have cX:=AO (i:=0) ha rfl;clear ha;have cP:Hp FN [] w [] w:=Hp.start (Co.none w);have bW:=cH.mv (Al (Z:=Z) (L:=[]) w);have bX:=cI.mv (Al (Z:=Z) (L:=[]) w);have bY:=cJ.mv (Al (Z:=Z) (L:=[]) w);refine Ai<|Ae<|we rfl (fun st=>Cs (v:=.agg #[.slice d a.Au.length f,.slice g a.AS.length j,.slice m a.Av.length p]) (cs:= #[.slice d a.Au.length f,.slice g a.AS.length j,.slice m a.Av.length p]) (ee st cX) rfl) ?_;rintro _ w1 ⟨b1,rfl,aP⟩;have dW:=cP.nb aP;have d7:=cP.Cz aP;refine wa rfl (v:=I 0) rfl<|Aj<|Ad<|Ai ?_;refine Cm 5 [Kc (.agg #[.slice d a.Au.length f,.slice g a.AS.length j,.slice m a.Av.length p]),Kc (.func (.func 162) #[.agg #[.slice d a.Au.length f,.slice g a.AS.length j,.slice m a.Av.length p]] #[]),Kc (.agg #[.slice d a.Au.length f,.slice g a.AS.length j,.slice m a.Av.length p]),Kc (.func (.func 163) #[.agg #[.slice d a.Au.length f,.slice g a.AS.length j,.slice m a.Av.length p]] #[]),Kc (.func (.func 162) #[.agg #[.slice d a.Au.length f,.slice g a.AS.length j,.slice m a.Av.length p]] #[])] mixed rfl rfl
     (Ac (od rfl (fun _=>rfl) (fun K=>AW (l:=[.slice d a.Au.length f,.slice g a.AS.length j,.slice m a.Av.length p]) Ol (es ((K.out 1 rfl).trans rfl)) (aP.bk.ext K.AV) rfl rfl))
     (Ac (od rfl (fun _=>rfl) (fun K=>IN (vs:= #[.agg #[.slice d a.Au.length f,.slice g a.AS.length j,.slice m a.Av.length p]]) (us:= #[]) (C2 (es (K.Ar 0 8 rfl rfl))) GK))
     (Ac (od rfl (fun _=>rfl) (fun K=>AW (l:=[.slice d a.Au.length f,.slice g a.AS.length j,.slice m a.Av.length p]) Ol (es ((K.out 1 rfl).trans rfl)) (aP.bk.ext K.AV) rfl rfl))
     (Ac (od rfl (fun _=>rfl) (fun K=>IN (vs:= #[.agg #[.slice d a.Au.length f,.slice g a.AS.length j,.slice m a.Av.length p]]) (us:= #[]) (C2 (es (K.Ar 2 10 rfl rfl))) GK))
     (Ac (od rfl (fun _=>rfl) (fun K=>LX (es (K.Ar 1 9 rfl rfl))))
     (Ck _)))))) ?_
 intro w2;rintro _ rfl _ rfl _ rfl _ rfl _ rfl bE;have aS:=dW.ext bE;refine wa rfl (v:=.func (.func 163) #[.agg #[.slice d a.Au.length f,.slice g a.AS.length j,.slice m a.Av.length p]] #[]) rfl<|Aj<|Ad<|Ai<|Bc<|Ai<|Ae<|wd rfl (fun st=>Ap (ee st rfl) (O9 _ _)) ?_;have aF:=(aP.bk.ext bE);refine wd rfl (fun st=>AL (v:=.slice d a.Au.length f) Qp (ee st rfl) aF rfl)<|wd rfl (fun st=>BD Tryz.underlying35 (ee st rfl))<|wd rfl (fun st=>HZ (ee st rfl) (ee st rfl))<|wm rfl (v:=.bool (decide ((3:Int)<(a.Au.length:Int)))) rfl ?_;rcases As (decide ((3:Int)<(a.Au.length:Int))) with aA|aA
 ·replace b:=AG b aA;refine AB (c:=true) rfl rfl (Ah rfl aA) (by decide) rfl (by decide)<|AB (c:=true) rfl rfl (Ah rfl aA) (by decide) rfl (by decide)<|AB (c:=true) rfl rfl (Ah rfl aA) (by decide) rfl (by decide)<|AB (c:=true) rfl rfl (Ah rfl aA) (by decide) rfl (by decide)<|wd rfl (fun st=>Bl (v:=.bool true) (ee st rfl) aA (ee st rfl))<|wm rfl (v:=.bool true) rfl<|AB rfl rfl rfl (by decide) rfl (by decide)<|AB rfl rfl rfl (by decide) rfl (by decide)<|AB rfl rfl rfl (by decide) rfl (by decide)<|AB rfl rfl rfl (by decide) rfl (by decide)<|wd rfl (fun st=>Bl (v:=.bool true) (ee st rfl) rfl (ee st rfl))<|wa rfl (v:=.bool true) rfl<|Aj<|Ad<|AJ rfl rfl<|Ai<|Ae<|wa rfl (v:=I 3) rfl<|Aj<|Ad<|AM<|Bv<|AE ?_;obtain rfl:=oi b;refine AN rfl rfl ?_;exact⟨aS.Bq,rfl⟩
 ·replace b:=AH b aA;refine Ax rfl rfl (Ah rfl aA) rfl (by decide) (fun st=>Ap (ee st rfl) (PU _ _))<|Ax rfl rfl (Ah rfl aA) rfl (by decide) (fun st=>AL (v:=.slice g a.AS.length j) EB (ee st rfl) aF rfl)<|Ax rfl rfl (Ah rfl aA) rfl (by decide) (fun st=>BD Tryz.underlying23 (ee st rfl))<|Ax rfl rfl (Ah rfl aA) rfl (by decide) (fun st=>HZ (ee st rfl) (ee st rfl))<|wd rfl (fun st=>BN (v:=.bool (decide ((3:Int)<(a.AS.length:Int)))) (ee st rfl) aA (ee st rfl))<|wm rfl (v:=.bool (decide ((3:Int)<(a.AS.length:Int)))) rfl ?_;rcases As (decide ((3:Int)<(a.AS.length:Int))) with aB|aB
  ·replace b:=AG b aB;refine AB (c:=true) rfl rfl (Ah rfl aB) (by decide) rfl (by decide)<|AB (c:=true) rfl rfl (Ah rfl aB) (by decide) rfl (by decide)<|AB (c:=true) rfl rfl (Ah rfl aB) (by decide) rfl (by decide)<|AB (c:=true) rfl rfl (Ah rfl aB) (by decide) rfl (by decide)<|wd rfl (fun st=>Bl (v:=.bool true) (ee st rfl) aB (ee st rfl))<|wa rfl (v:=.bool true) rfl<|Aj<|Ad<|AJ rfl rfl<|Ai<|Ae<|wa rfl (v:=I 3) rfl<|Aj<|Ad<|AM<|Bv<|AE ?_;obtain rfl:=oi b;refine AN rfl rfl ?_;exact⟨aS.Bq,rfl⟩
  ·replace b:=AH b aB;refine Ax rfl rfl (Ah rfl aB) rfl (by decide) (fun st=>Ap (ee st rfl) (Uj _ _))<|Ax rfl rfl (Ah rfl aB) rfl (by decide) (fun st=>AL (v:=.slice m a.Av.length p) XM (ee st rfl) aF rfl)<|Ax rfl rfl (Ah rfl aB) rfl (by decide) (fun st=>BD Tryz.underlying36 (ee st rfl))<|Ax rfl rfl (Ah rfl aB) rfl (by decide) (fun st=>HZ (ee st rfl) (ee st rfl))<|wd rfl (fun st=>BN (v:=.bool (decide ((5:Int)<(a.Av.length:Int)))) (ee st rfl) aB (ee st rfl))<|wa rfl (v:=.bool (decide ((5:Int)<(a.Av.length:Int)))) rfl<|Aj<|Ad ?_;rcases As (decide ((5:Int)<(a.Av.length:Int))) with bF|bF
   ·replace b:=AG b bF;refine AJ rfl bF<|Ai<|Ae<|wa rfl (v:=I 3) rfl<|Aj<|Ad<|AM<|Bv<|AE ?_;obtain rfl:=oi b;refine AN rfl rfl ?_;exact⟨aS.Bq,rfl⟩
   ·replace b:=AH b bF;refine AK rfl bF<|Ai<|Ae<|wd rfl (fun st=>Ap (ee st rfl) (O9 _ _))<|wd rfl (fun st=>AL (v:=.slice d a.Au.length f) Qp (ee st rfl) aF rfl)<|wd rfl (fun st=>BD Tryz.underlying35 (ee st rfl))<|wd rfl (fun st=>Dy (ee st rfl) (ee st rfl))<|wm rfl (v:=.bool ((a.Au.length:Int)==0)) rfl ?_;rcases As ((a.Au.length:Int)==0) with aC|aC
    ·replace b:=AG b aC;refine AB (c:=true) rfl rfl (Ah rfl aC) (by decide) rfl (by decide)<|AB (c:=true) rfl rfl (Ah rfl aC) (by decide) rfl (by decide)<|AB (c:=true) rfl rfl (Ah rfl aC) (by decide) rfl (by decide)<|AB (c:=true) rfl rfl (Ah rfl aC) (by decide) rfl (by decide)<|wd rfl (fun st=>Bl (v:=.bool true) (ee st rfl) aC (ee st rfl))<|wm rfl (v:=.bool true) rfl<|AB rfl rfl rfl (by decide) rfl (by decide)<|AB rfl rfl rfl (by decide) rfl (by decide)<|AB rfl rfl rfl (by decide) rfl (by decide)<|AB rfl rfl rfl (by decide) rfl (by decide)<|AB rfl rfl rfl (by decide) rfl (by decide)<|wd rfl (fun st=>Bl (v:=.bool true) (ee st rfl) rfl (ee st rfl))<|wm rfl (v:=.bool true) rfl<|AB rfl rfl rfl (by decide) rfl (by decide)<|AB rfl rfl rfl (by decide) rfl (by decide)<|AB rfl rfl rfl (by decide) rfl (by decide)<|AB rfl rfl rfl (by decide) rfl (by decide)<|AB rfl rfl rfl (by decide) rfl (by decide)<|wd rfl (fun st=>Bl (v:=.bool true) (ee st rfl) rfl (ee st rfl))<|wa rfl (v:=.bool true) rfl<|Aj<|Ad<|AJ rfl rfl<|Ai<|Ae<|wa rfl (v:=I 1) rfl<|Aj<|Ad<|AM<|Bv<|AE ?_;obtain rfl:=oi b;refine AN rfl rfl ?_;exact⟨aS.Bq,rfl⟩
    ·replace b:=AH b aC;refine Ax rfl rfl (Ah rfl aC) rfl (by decide) (fun st=>Ap (ee st rfl) (O9 _ _))<|Ax rfl rfl (Ah rfl aC) rfl (by decide) (fun st=>AL (v:=.slice d a.Au.length f) Qp (ee st rfl) aF rfl) ?_;have eK:=aS.Hc (F':=FN) (M:=[]) (C:=[]) [] [] rfl trivial trivial (fun k hk=>.inl (eL k hk));have cY:Cb Tryz.prog (.func (.func 165) #[] #[]) (FU FN []) w2.heap.size (fun(st:Unit) aL bG o=>o=none) (v1 (Hx AT)) Dt (fun(st:Unit) (x:AR)=>(Me aJ x).bind fun r=>some (r,())):=by
      refine⟨rfl,rfl,aS.QY [] trivial eL,?_,?_,?_⟩
      ·intro st x r w1 bH bI o vs hn bJ cQ aE hx b6;obtain rfl:=aE;obtain⟨_,rfl,⟨_,rfl,rfl⟩⟩:=hx;obtain⟨b7,h1,h2⟩:=bind_some b6;obtain rfl:=Option.some.inj h2;refine(Lv YB rfl (AdH aJ x bI w1 b7 h1)).mono ?_;rintro v w2 ⟨hx,aT⟩;exact⟨none,HE hx,(fun _ h=>by cases h),aT,rfl⟩
      ·intro st w1 w2 bH dX o aE hm hb;obtain rfl:=aE;exact rfl
      ·intro st w1 bH o aE k hk;obtain rfl:=aE;cases hk
     have aU:=aS.nil;have aY:=(((bW.mv (An aP)).mv (Ab bE)).mv Ba);replace b:=bind_some b;obtain⟨bZ,dY,b⟩:=b;refine Dw rfl rfl (Ah rfl aC) rfl (by decide) (fun st=>Az AeZ (ee st rfl) (DH (ee st rfl) (ee st rfl)) (a164 aJ a.Au () d f (.func (.func 165) #[] #[]) none (ZC (FU FN []) [none]) _ cY (Nat.le_refl _) (aU.Hc (F':=(FU FN [])) (M:=[none]) (C:=[]) [0] [] rfl ⟨rfl,trivial⟩ trivial (Eb eL)) Lu (aY.mv (aU.mz (F':=(FU FN [])) (M:=[none]) (C:=[]) [0] [] ⟨rfl,trivial⟩ trivial (Eb eL))) rfl bZ dY)) ?_;rintro _ eB ⟨eX,bK,rfl,eC,dZ⟩;obtain rfl:=dZ;have d0:=aU.Fq (DF.cl (M1:=[]) (M2:=[none]) bK) (BA [0] ⟨rfl,trivial⟩ eL);have bR:=d0.erase 0;refine Ax rfl rfl (Ah rfl aC) rfl (by decide) (fun st=>DK (ee st rfl))<|wd rfl (fun st=>BN (v:=.bool !bZ.1) (ee st rfl) aC (ee st rfl))<|wm rfl (v:=.bool !bZ.1) rfl ?_;rcases As (!bZ.1) with q|q
     ·replace b:=AG b q;have dP:bZ.1=false:=by simpa using q
      refine AB (c:=true) rfl rfl (Ah rfl q) (by decide) rfl (by decide)<|AB (c:=true) rfl rfl (Ah rfl q) (by decide) rfl (by decide)<|AB (c:=true) rfl rfl (Ah rfl q) (by decide) rfl (by decide)<|AB (c:=true) rfl rfl (Ah rfl q) (by decide) rfl (by decide)<|AB (c:=true) rfl rfl (Ah rfl q) (by decide) rfl (by decide)<|wd rfl (fun st=>Bl (v:=.bool true) (ee st rfl) q (ee st rfl))<|wm rfl (v:=.bool true) rfl<|AB rfl rfl rfl (by decide) rfl (by decide)<|AB rfl rfl rfl (by decide) rfl (by decide)<|AB rfl rfl rfl (by decide) rfl (by decide)<|AB rfl rfl rfl (by decide) rfl (by decide)<|AB rfl rfl rfl (by decide) rfl (by decide)<|wd rfl (fun st=>Bl (v:=.bool true) (ee st rfl) rfl (ee st rfl))<|wa rfl (v:=.bool true) rfl<|Aj<|Ad<|AJ rfl rfl<|Ai<|Ae<|wa rfl (v:=I 1) rfl<|Aj<|Ad<|AM<|Bv<|AE ?_;obtain rfl:=oi b;refine AN rfl rfl ?_;exact⟨bR.Bq,rfl⟩
     ·replace b:=AH b q;have dQ:bZ.1=true:=by simpa using q
      refine Ax rfl rfl (Ah rfl q) rfl (by decide) (fun st=>Ap (ee st rfl) (PU _ _)) ?_;have bS:=(aF.Fq (DF.cl (M1:=[]) (M2:=[none]) bK) (aU.Gb 1 rfl [0] rfl ⟨rfl,trivial⟩ eL));refine Ax rfl rfl (Ah rfl q) rfl (by decide) (fun st=>AL (v:=.slice g a.AS.length j) EB (ee st rfl) bS rfl)<|Ax rfl rfl (Ah rfl q) rfl (by decide) (fun st=>Ay (v:=.func (.func 163) #[.agg #[.slice d a.Au.length f,.slice g a.AS.length j,.slice m a.Av.length p]] #[]) (ee st rfl)) ?_;have eD:=bR.Hc (F':=FN) (M:=[]) (C:=[]) [] [] rfl trivial trivial (fun k hk=>.inl (eL k hk));have cK:Cb Tryz.prog (.func (.func 163) #[.agg #[.slice d a.Au.length f,.slice g a.AS.length j,.slice m a.Av.length p]] #[]) (FU FN []) eB.heap.size (fun(st:Unit) aL bG o=>o=none∧Sl AT aL bG d f a.Au∧Sl (BY (AF .i64)) aL bG g j a.AS∧Sl AX aL bG m p a.Av) (v1 (GI (AF .i64))) Dt (fun(st:Unit) (x:(List Int))=>(MP aJ a x).bind fun r=>some (r,())):=by
       refine⟨rfl,rfl,bR.QY [] trivial eL,?_,?_,?_⟩
       ·intro st x r w1 bH bI o vs hn bJ cQ aE hx b6;obtain⟨rfl,s,t,u⟩:=aE;obtain⟨_,rfl,⟨cZ,c0,rfl,cL⟩⟩:=hx;obtain⟨b7,h1,h2⟩:=bind_some b6;obtain rfl:=Option.some.inj h2;refine(Lv Ae0 rfl (AhF aJ a x d f g j m p cZ c0 bI w1 (s.mv (KJ bJ)) (t.mv (KJ bJ)) (u.mv (KJ bJ)) cL b7 h1)).mono ?_;rintro v w2 ⟨hx,aT⟩;exact⟨none,HE hx,(fun _ h=>by cases h),aT,⟨rfl,(s.mv (HW (Ab hx))),(t.mv (HW (Ab hx))),(u.mv (HW (Ab hx)))⟩⟩
       ·intro st w1 w2 bH dX o aE hm hb;obtain⟨rfl,s,t,u⟩:=aE;exact⟨rfl,s.mv hm,t.mv hm,u.mv hm⟩
       ·intro st w1 bH o aE k hk;obtain⟨rfl,s,t,u⟩:=aE;cases hk
      have aG:=bR.nil;have aM:=((((((bX.mv (An aP)).mv (Ab bE)).mv Ba).mv (aU.Em (DF.cl (M1:=[]) (M2:=[none]) bK) (BA [0] ⟨rfl,trivial⟩ eL))).mv (Aw 0)).mv Ba);replace b:=bind_some b;obtain⟨aZ,c1,b⟩:=b;have a0:=(((aY.mv (aU.Em (DF.cl (M1:=[]) (M2:=[none]) bK) (BA [0] ⟨rfl,trivial⟩ eL))).mv (Aw 0)).mv Ba);have a2:=((((((bY.mv (An aP)).mv (Ab bE)).mv Ba).mv (aU.Em (DF.cl (M1:=[]) (M2:=[none]) bK) (BA [0] ⟨rfl,trivial⟩ eL))).mv (Aw 0)).mv Ba);refine Dw rfl rfl (Ah rfl q) rfl (by decide) (fun st=>Az Ae1 (ee st rfl) (DH (ee st rfl) (ee st rfl)) (Ahy aJ a.AS () g j (.func (.func 163) #[.agg #[.slice d a.Au.length f,.slice g a.AS.length j,.slice m a.Av.length p]] #[]) none (ZC (FU FN []) [none]) _ cK (Nat.le_refl _) (aG.Hc (F':=(FU FN [])) (M:=[none]) (C:=[]) [0] [] rfl ⟨rfl,trivial⟩ trivial (Eb eL)) Lu (aM.mv (aG.mz (F':=(FU FN [])) (M:=[none]) (C:=[]) [0] [] ⟨rfl,trivial⟩ trivial (Eb eL))) ⟨rfl,(a0.mv (aG.mz (F':=(FU FN [])) (M:=[none]) (C:=[]) [0] [] ⟨rfl,trivial⟩ trivial (Eb eL))),(aM.mv (aG.mz (F':=(FU FN [])) (M:=[none]) (C:=[]) [0] [] ⟨rfl,trivial⟩ trivial (Eb eL))),(a2.mv (aG.mz (F':=(FU FN [])) (M:=[none]) (C:=[]) [0] [] ⟨rfl,trivial⟩ trivial (Eb eL)))⟩ aZ c1)) ?_;rintro _ d1 ⟨eM,aV,rfl,d8,c2⟩;obtain⟨rfl,cR,cS,cT⟩:=c2;have d2:=aG.Fq (DF.cl (M1:=[]) (M2:=[none]) aV) (BA [0] ⟨rfl,trivial⟩ eL);have bT:=d2.erase 0;refine Ax rfl rfl (Ah rfl q) rfl (by decide) (fun st=>DK (ee st rfl))<|wd rfl (fun st=>BN (v:=.bool !aZ.1) (ee st rfl) q (ee st rfl))<|wm rfl (v:=.bool !aZ.1) rfl ?_;rcases As (!aZ.1) with y|y
      ·replace b:=AG b y;have dR:aZ.1=false:=by simpa using y
       refine AB (c:=true) rfl rfl (Ah rfl y) (by decide) rfl (by decide)<|AB (c:=true) rfl rfl (Ah rfl y) (by decide) rfl (by decide)<|AB (c:=true) rfl rfl (Ah rfl y) (by decide) rfl (by decide)<|AB (c:=true) rfl rfl (Ah rfl y) (by decide) rfl (by decide)<|AB (c:=true) rfl rfl (Ah rfl y) (by decide) rfl (by decide)<|wd rfl (fun st=>Bl (v:=.bool true) (ee st rfl) y (ee st rfl))<|wa rfl (v:=.bool true) rfl<|Aj<|Ad<|AJ rfl rfl<|Ai<|Ae<|wa rfl (v:=I 1) rfl<|Aj<|Ad<|AM<|Bv<|AE ?_;obtain rfl:=oi b;refine AN rfl rfl ?_;exact⟨bT.Bq,rfl⟩
      ·replace b:=AH b y;have dS:aZ.1=true:=by simpa using y
       refine Ax rfl rfl (Ah rfl y) rfl (by decide) (fun st=>Ap (ee st rfl) (Uj _ _)) ?_;have bU:=(bS.Fq (DF.cl (M1:=[]) (M2:=[none]) aV) (aG.Gb 1 rfl [0] rfl ⟨rfl,trivial⟩ eL));refine Ax rfl rfl (Ah rfl y) rfl (by decide) (fun st=>AL (v:=.slice m a.Av.length p) XM (ee st rfl) bU rfl)<|Ax rfl rfl (Ah rfl y) rfl (by decide) (fun st=>Ay (v:=.func (.func 162) #[.agg #[.slice d a.Au.length f,.slice g a.AS.length j,.slice m a.Av.length p]] #[]) (ee st rfl)) ?_;have eE:=bT.Hc (F':=FN) (M:=[]) (C:=[]) [] [] rfl trivial trivial (fun k hk=>.inl (eL k hk));have cM:Cb Tryz.prog (.func (.func 162) #[.agg #[.slice d a.Au.length f,.slice g a.AS.length j,.slice m a.Av.length p]] #[]) (FU FN []) d1.heap.size (fun(st:Unit) aL bG o=>o=none∧Sl AT aL bG d f a.Au∧Sl (BY (AF .i64)) aL bG g j a.AS∧Sl AX aL bG m p a.Av) (v1 (Hx AX)) Dt (fun(st:Unit) (x:FY)=>(Ng aJ a x).bind fun r=>some (r,())):=by
        refine⟨rfl,rfl,bT.QY [] trivial eL,?_,?_,?_⟩
        ·intro st x r w1 bH bI o vs hn bJ cQ aE hx b6;obtain⟨rfl,s,t,u⟩:=aE;obtain⟨_,rfl,⟨_,rfl,rfl⟩⟩:=hx;obtain⟨b7,h1,h2⟩:=bind_some b6;obtain rfl:=Option.some.inj h2;refine(Lv Ae2 rfl (a162 aJ a x d f g j m p bI w1 (s.mv (KJ bJ)) (t.mv (KJ bJ)) (u.mv (KJ bJ)) b7 h1)).mono ?_;rintro v w2 ⟨hx,aT⟩;exact⟨none,HE hx,(fun _ h=>by cases h),aT,⟨rfl,(s.mv (HW (Ab hx))),(t.mv (HW (Ab hx))),(u.mv (HW (Ab hx)))⟩⟩
        ·intro st w1 w2 bH dX o aE hm hb;obtain⟨rfl,s,t,u⟩:=aE;exact⟨rfl,s.mv hm,t.mv hm,u.mv hm⟩
        ·intro st w1 bH o aE k hk;obtain⟨rfl,s,t,u⟩:=aE;cases hk
       have aQ:=bT.nil;have a3:=(((a2.mv (aG.Em (DF.cl (M1:=[]) (M2:=[none]) aV) (BA [0] ⟨rfl,trivial⟩ eL))).mv (Aw 0)).mv Ba);replace b:=bind_some b;obtain⟨a4,c3,b⟩:=b;have a5:=(((a0.mv (aG.Em (DF.cl (M1:=[]) (M2:=[none]) aV) (BA [0] ⟨rfl,trivial⟩ eL))).mv (Aw 0)).mv Ba);have b4:=(((aM.mv (aG.Em (DF.cl (M1:=[]) (M2:=[none]) aV) (BA [0] ⟨rfl,trivial⟩ eL))).mv (Aw 0)).mv Ba);refine Dw rfl rfl (Ah rfl y) rfl (by decide) (fun st=>Az Ae3 (ee st rfl) (DH (ee st rfl) (ee st rfl)) (a167 aJ a.Av () m p (.func (.func 162) #[.agg #[.slice d a.Au.length f,.slice g a.AS.length j,.slice m a.Av.length p]] #[]) none (ZC (FU FN []) [none]) _ cM (Nat.le_refl _) (aQ.Hc (F':=(FU FN [])) (M:=[none]) (C:=[]) [0] [] rfl ⟨rfl,trivial⟩ trivial (Eb eL)) Lu (a3.mv (aQ.mz (F':=(FU FN [])) (M:=[none]) (C:=[]) [0] [] ⟨rfl,trivial⟩ trivial (Eb eL))) ⟨rfl,(a5.mv (aQ.mz (F':=(FU FN [])) (M:=[none]) (C:=[]) [0] [] ⟨rfl,trivial⟩ trivial (Eb eL))),(b4.mv (aQ.mz (F':=(FU FN [])) (M:=[none]) (C:=[]) [0] [] ⟨rfl,trivial⟩ trivial (Eb eL))),(a3.mv (aQ.mz (F':=(FU FN [])) (M:=[none]) (C:=[]) [0] [] ⟨rfl,trivial⟩ trivial (Eb eL)))⟩ a4 c3)) ?_;rintro _ eN ⟨eO,bM,rfl,d9,c4⟩;obtain⟨rfl,cU,cV,cW⟩:=c4;have c5:=aQ.Fq (DF.cl (M1:=[]) (M2:=[none]) bM) (BA [0] ⟨rfl,trivial⟩ eL);have b8:=c5.erase 0;refine Ax rfl rfl (Ah rfl y) rfl (by decide) (fun st=>DK (ee st rfl))<|wd rfl (fun st=>BN (v:=.bool !a4.1) (ee st rfl) y (ee st rfl))<|wa rfl (v:=.bool !a4.1) rfl<|Aj<|Ad ?_;rcases As (!a4.1) with aI|aI
       ·replace b:=AG b aI;have dT:a4.1=false:=by simpa using aI
        refine AJ rfl aI<|Ai<|Ae<|wa rfl (v:=I 1) rfl<|Aj<|Ad<|AM<|Bv<|AE ?_;obtain rfl:=oi b;refine AN rfl rfl ?_;exact⟨b8.Bq,rfl⟩
       ·replace b:=AH b aI;have dU:a4.1=true:=by simpa using aI
        refine AK rfl aI<|AQ<|BE<|Ad<|Ai<|Ae<|wa rfl (v:=I 1) rfl<|Aj<|Ad<|Ai<|Ai<|Ae<|wd rfl (fun st=>Ap (ee st rfl) (O9 _ _)) ?_;have b9:=(bU.Fq (DF.cl (M1:=[]) (M2:=[none]) bM) (aQ.Gb 1 rfl [0] rfl ⟨rfl,trivial⟩ eL));refine wd rfl (fun st=>AL (v:=.slice d a.Au.length f) Qp (ee st rfl) b9 rfl)<|wd rfl (fun st=>BD Tryz.underlying35 (ee st rfl))<|wm rfl (v:=I 0) rfl<|Aj<|Ad<|Bc ?_;replace b:=bind_some b;obtain⟨z25,aN,b⟩:=b;refine Cx (fun d3 aH aL=>(d3=.exit 1∧aH.tmps.size=70∧aH.defers=(X0).ds∧sl aH 5=I z25∧Hp FN [] w [some b1] aL)) ?c6 ?c7
        case c6=>
         clear b;refine Cw (fun(c8:Nat) (aH:Act) (aL:World)=>∃z,∃aD,Il aJ a c8 z aD=some z25∧aH.tmps.size=70∧aH.defers=(X0).ds∧sl aH 5=I z∧sl aH 55=.slice d a.Au.length f∧sl aH 56=I (a.Au.length:Int)∧sl aH 57=I aD∧Hp FN [] w [some b1] aL∧Sl AT aL (zf Z w [some b1]) d f a.Au) aJ ?c9 ?dA
         case c9=>
          intro st;have bN:=((a5.mv (aQ.Em (DF.cl (M1:=[]) (M2:=[none]) bM) (BA [0] ⟨rfl,trivial⟩ eL))).mv (Aw 0));exact⟨(1:Int),(0:Int),aN,qz st,qd st,sp st 5 rfl,sp st 55 rfl,sp st 56 rfl,sp st 57 rfl,b8,bN⟩
         case dA=>
          rintro(_|c8) eF eG ⟨z,aD,aN,cN,cO,bL,a9,bA,aO,bO,aR⟩
          ·exact absurd (show none=some _ from aN) (by simp)
          rw[Il.eq_2] at aN;have b:=aN;clear aN;refine Cl (N:=70) cN cO<|Ai<|Ae<|wd rfl (fun st=>CY (ee st aO) (ee st bA))<|Aj<|Ad<|Ai ?_;rcases As (decide (aD<(a.Au.length:Int))) with aW|aW
          ·replace b:=AG b aW;refine AJ rfl aW<|AQ<|Ad<|Ai<|Bc<|Ai<|Ae ?_;replace b:=Bi b;obtain⟨i27,aK,dB,dC,dD,b⟩:=b;obtain⟨eP,eQ,_,dE,rfl,dF⟩:=Sl.elem aR (by decide) dC;refine wd rfl (fun st=>BZ (k:=i27) Tryz.underlying35 S2 (ee st a9) dE (ee st aO) dB dD)<|wd rfl (fun st=>EJ (l:=[I aK.Lo,I aK.Hi]) PT (ee st rfl) dF rfl rfl)<|we rfl (fun st=>DQ (cs:= #[I 0,I 0]) UP rfl) ?_;rintro _ eR ⟨eS,rfl,bC⟩;have cA:=bO.nb bC;have d4:=bO.Cz bC;refine Dv rfl rfl (fun st=>C4 (n:=2) (l:=[I aK.Lo,I aK.Hi]) (Fi:= #[I aK.Lo,I aK.Hi]) (ee st rfl) (ee st rfl) S2 bC.bk rfl rfl (show 0+2≤2 by decide) (Cq rfl) rfl) ?_;rintro _ eT bP;have dG:=cA.gr bP.gr 0 rfl;refine Aj<|Ad<|Ae<|wm rfl (v:=I z) bL<|wd rfl (fun st=>AW (l:=[I aK.Lo,I aK.Hi]) PT (ee st rfl) bP.bk rfl rfl) ?_;replace b:=bind_some b;obtain⟨bB,dH,b⟩:=b;refine we rfl (fun st=>Az Ae4 (ee st rfl) (C2 (ee st rfl)) (Aht aJ aK ZA _ bB dH)) ?_;rintro _ eU ⟨cB,rfl⟩;have cC:=dG.ext cB;replace b:=AP b;obtain⟨dI,b⟩:=b;refine wd rfl (fun st=>Ld (ee st rfl) (ee st rfl) dI)<|we rfl (fun st=>Dr (e:=3) (vs:= #[(0,I (z*bB)),(1,I 2001)]) (cs:= #[I (z*bB),I 2001]) (NZ (ee st rfl) (ee st rfl)) (by kernel_rfl)) ?_;rintro _ eV ⟨d5,rfl,bD⟩;have dJ:=cC.nb bD;have d6:=cC.Cz bD;replace b:=bind_some b;obtain⟨cD,dK,b⟩:=b;refine we rfl (fun st=>Az AeI (ee st rfl) (C2 (ee st rfl)) (a168 aJ [z*bB,2001] (some ⟨d5,0,none⟩) 2 ZA _ (Mg (e:=(AF .i64)) (xs:=[z*bB,2001]) (D0:=[[I (z*bB)],[I 2001]]) bD.bk trivial ⟨rfl,rfl,trivial⟩ rfl (Nat.le_refl _)) cD dK)) ?_;rintro _ eW ⟨cE,rfl⟩;have dL:=dJ.ext cE;refine wa rfl (v:=I cD) rfl<|Aj<|BE<|Ad<|Ae ?_;replace b:=AP b;obtain⟨dM,b⟩:=b;refine wd rfl (fun st=>Ce (ee st aO) (ee st rfl) dM)<|wm rfl (v:=I (aD+1)) rfl<|Aj ?_;have dN:=dL.erase 0;have dO:=dN.erase 0;have bQ:=(((((((aR.mv (An bC)).mv (cA.Bf bP.gr 0 rfl)).mv (Ab cB)).mv (An bD)).mv (Ab cE)).mv (Aw 0)).mv (Aw 0));refine BI c8 (Nat.lt_succ_self _) (fun st=>?_);exact⟨cD,(aD+1),b,qz st,qd st,sp st 5 rfl,sp st 55 a9,sp st 56 bA,sp st 57 rfl,dO,bQ⟩
          ·replace b:=AH b aW;refine AK rfl aW<|Cp<|AI<|AI ?_;obtain rfl:=oi b;refine Cf (fun st=>?_);exact⟨rfl,qz st,qd st,sp st 5 bL,bO⟩
        case c7=>
         rintro d3 eA eH (⟨rfl,cF,cG,b5,bV⟩);refine Cy (X:=X0) (N:=70) cF cG<|By<|Ad<|Ai<|Ai<|Ae<|wm rfl (v:=I z25) b5<|wd rfl (fun st=>HZ (ee st rfl) (ee st rfl))<|Aj<|Ad ?_;rcases As (decide ((2000:Int)<z25)) with aX|aX
         ·replace b:=AG b aX;refine AJ rfl aX<|Ai<|Ae<|wa rfl (v:=I 3) rfl<|Aj<|Ad<|AM<|AE ?_;obtain rfl:=oi b;refine AN rfl rfl ?_;exact⟨bV.Bq,rfl⟩
         ·replace b:=AH b aX;refine AK rfl aX<|AQ<|Ad<|Ai<|Ae<|wa rfl (v:=I 0) rfl<|Aj<|Ad<|AM ?_;obtain rfl:=oi b;refine AN rfl rfl ?_;exact⟨bV.Bq,rfl⟩
theorem AhG aH h s d e(Z:Nat→Prop) w(y:Sl (AF .i64) w Z d e h) aI(a:Q8 aH h s=some aI):
 CH Tryz.prog 179 #[.slice d h.length e,I s] w (fun v w'=>Ext w w'∧(EN .i64).R w' (zf Z w []) v aI):=by
 unfold Q8 at a;refine Bb (N:=19) Tryz.func179 rfl rfl (by simp) ?_;intro aV ha aW;have u:=AO (i:=0) ha rfl;have aB:=AO (i:=1) ha rfl;clear ha;have aA:Hp FN [] w [] w:=Hp.start (Co.none w);have t:=y.mv (Al (Z:=Z) (L:=[]) w);refine Ai<|Ae<|wa rfl (v:=I 0) rfl<|Aj<|Ad<|Ai<|Ai<|Ae<|wm rfl (v:=.slice d h.length e) u<|wd rfl (fun st=>BD Tryz.underlying31 (ee st rfl))<|wm rfl (v:=I 0) rfl<|Aj<|Ad<|Bc ?_;replace a:=bind_some a;obtain⟨aC,f,a⟩:=a;refine Cx (fun aD c z=>(aD=.ret∧∃g,aC=.inl g∧c.tmps.size=19∧c.defers=(X0).ds∧sl c 4=I g∧w=z)∨(aD=.exit 0∧∃g,aC=.inr g∧c.tmps.size=19∧c.defers=(X0).ds∧w=z)) ?aJ ?aK
 case aJ=>
  clear a;refine Cw (fun(aE:Nat) (c:Act) (z:World)=>∃b,C7 h s aE b=some aC∧c.tmps.size=19∧c.defers=(X0).ds∧sl c 0=.slice d h.length e∧sl c 1=I s∧sl c 7=I (h.length:Int)∧sl c 8=I b∧w=z) aH ?aL ?aM
  case aL=>
   intro st;exact⟨(0:Int),f,qz st,qd st,sp st 0 u,sp st 1 aB,sp st 7 rfl,sp st 8 rfl,rfl⟩
  case aM=>
   rintro(_|aE) aX _ ⟨b,f,aF,aG,p,q,r,j,rfl⟩
   ·exact absurd (show none=some _ from f) (by simp)
   rw[C7.eq_2] at f;have a:=f;clear f;refine Cl (N:=19) aF aG<|Ai<|Ae<|wd rfl (fun st=>CY (ee st j) (ee st r))<|Aj<|Ad<|Ai ?_;rcases As (decide (b<(h.length:Int))) with n|n
   ·replace a:=AG a n;refine AJ rfl n<|AQ<|Ad<|Ai<|Bc<|Ai<|Ae<|wm rfl (v:=I b) j<|wa rfl (v:=I b) rfl<|Aj<|Ad<|Ai<|Ae<|wm rfl (v:=I s) q<|wm rfl (v:=.slice d h.length e) p<|wm rfl (v:=I b) rfl ?_;replace a:=Bi a;obtain⟨i3,aN,aO,aP,aQ,a⟩:=a;obtain⟨b3,aY,_,aR,rfl,aS⟩:=Sl.Dd t rfl aP;refine wd rfl (fun st=>Bj (k:=i3) Tryz.underlying31 DY (ee st rfl) aR (ee st rfl) aO aQ)<|wd rfl (fun st=>Bu (v:=I aN) BK (ee st rfl) aS rfl)<|wd rfl (fun st=>Dy (ee st rfl) (ee st rfl))<|Aj<|Ad ?_;rcases As (s==aN) with o|o
    ·replace a:=AG a o;refine AJ rfl o<|Ai<|Ae<|wm rfl (v:=I b) rfl<|wa rfl (v:=I b) rfl<|Aj<|Ad<|AM<|Bv<|AE<|AE ?_;obtain rfl:=oi a;refine Cf (fun st=>?_);exact .inl ⟨rfl,b,rfl,qz st,qd st,sp st 4 rfl,rfl⟩
    ·replace a:=AH a o;refine AK rfl o<|AQ<|BE<|Ad<|Ae ?_;replace a:=AP a;obtain⟨aT,a⟩:=a;refine wd rfl (fun st=>Ce (ee st j) (ee st rfl) aT)<|wm rfl (v:=I (b+1)) rfl<|Aj ?_;refine BI aE (Nat.lt_succ_self _) (fun st=>?_);exact⟨(b+1),a,qz st,qd st,sp st 0 p,sp st 1 q,sp st 7 r,sp st 8 rfl,rfl⟩
   ·replace a:=AH a n;refine AK rfl n<|Cp<|AI<|AI ?_;obtain rfl:=oi a;refine Cf (fun st=>?_);exact .inr ⟨rfl,(),rfl,qz st,qd st,rfl⟩
 case aK=>
  rintro aD aU _ (⟨rfl,g,rfl,l,m,x,rfl⟩|⟨rfl,g,rfl,l,m,rfl⟩)
  ·skip
   replace a:=Et a;refine Cy (X:=X0) (N:=19) l m<|Bv<|AE ?_;obtain rfl:=oi a;refine AN rfl x ?_;exact⟨aA.Bq,rfl⟩
  ·skip
   replace a:=Eu a;refine Cy (X:=X0) (N:=19) l m<|By<|Ad<|Ai<|Ae<|wa rfl (v:=I (-1)) rfl<|Aj<|Ad<|AM ?_;obtain rfl:=oi a;refine AN rfl rfl ?_;exact⟨aA.Bq,rfl⟩
theorem Ue k e f a b(Z:Nat→Prop) w(g:Sl (AF .i64) w Z a b e) l(c:EV k e f=some l):
 CH Tryz.prog 136 #[.slice a e.length b,I f] w (fun v w'=>Ext w w'∧Dt.R w' (zf Z w []) v l):=by
 unfold EV at c;refine Bb (N:=9) Tryz.func136 rfl rfl (by simp) ?_;intro r ha s;have h:=AO (i:=0) ha rfl;have j:=AO (i:=1) ha rfl;clear ha;have m:Hp FN [] w [] w:=Hp.start (Co.none w);have d:=g.mv (Al (Z:=Z) (L:=[]) w);refine Ai<|Ae<|wa rfl (v:=.bool false) rfl<|Aj<|Ad<|Ai<|Ae<|wm rfl (v:=.slice a e.length b) h<|wm rfl (v:=I f) j ?_;replace c:=bind_some c;obtain⟨n,o,c⟩:=c;refine we rfl (fun st=>Az Ae5 (ee st rfl) (DH (ee st rfl) (ee st rfl)) (AhG k e f a b ZA _ d.all n o)) ?_;rintro _ w2 ⟨p,rfl⟩;have q:=m.ext p;refine wd rfl (fun st=>I9 (ee st rfl) (ee st rfl))<|wa rfl (v:=.bool (decide ((0:Int)≤n))) rfl<|Aj<|Ad<|AM ?_;obtain rfl:=oi c;refine AN rfl rfl ?_;exact⟨q.Bq,rfl⟩
theorem a183 aH f m d e(Z:Nat→Prop) w(aD:Sl (AF .i64) w Z d e m) aP(a:Lw aH f m=some aP):
 CH Tryz.prog 183 #[.agg #[I f.a0,I f.a1,I f.a2],.slice d m.length e] w (fun v w'=>Ext w w'∧(EN .i64).R w' (zf Z w []) v aP):=by
 unfold Lw at a;refine Bb (N:=27) Tryz.func183 rfl rfl (by simp) ?_;intro bJ ha bK;have aI:=AO (i:=0) ha rfl;have y:=AO (i:=1) ha rfl;clear ha;have aG:Hp FN [] w [] w:=Hp.start (Co.none w);have n:=aD.mv (Al (Z:=Z) (L:=[]) w);refine Ai<|Ae<|we rfl (fun st=>Cs (v:=.agg #[I f.a0,I f.a1,I f.a2]) (cs:= #[I f.a0,I f.a1,I f.a2]) (ee st aI) rfl) ?_;rintro _ w1 ⟨b1,rfl,p⟩;have aQ:=aG.nb p;have bH:=aG.Cz p;refine wa rfl (v:=I 0) rfl<|Aj<|Ad<|Ai<|Ae<|wa rfl (v:=I 0) rfl<|Aj<|Ad<|Ai<|Ai<|Ae<|wm rfl (v:=.slice d m.length e) y<|wd rfl (fun st=>BD Tryz.underlying31 (ee st rfl))<|wm rfl (v:=I 0) rfl<|Aj<|Ad<|Bc ?_;replace a:=bind_some a;obtain⟨z2,o,a⟩:=a;refine Cx (fun aR c aJ=>(aR=.exit 0∧c.tmps.size=27∧c.defers=(X0).ds∧sl c 1=.slice d m.length e∧sl c 5=I z2∧w1=aJ)) ?aS ?aT
 case aS=>
  clear a;refine Cw (fun(aK:Nat) (c:Act) (aJ:World)=>∃h,∃b,Kq f m aK h b=some z2∧c.tmps.size=27∧c.defers=(X0).ds∧sl c 1=.slice d m.length e∧sl c 2=pt b1 0∧sl c 5=I h∧sl c 8=.slice d m.length e∧sl c 9=I (m.length:Int)∧sl c 10=I b∧w1=aJ) aH ?aU ?aV
  case aU=>
   intro st;exact⟨(0:Int),(0:Int),o,qz st,qd st,sp st 1 y,sp st 2 rfl,sp st 5 rfl,sp st 8 rfl,sp st 9 rfl,sp st 10 rfl,rfl⟩
  case aV=>
   rintro(_|aK) bL _ ⟨h,b,o,aL,aM,r,s,t,u,x,g,rfl⟩
   ·exact absurd (show none=some _ from o) (by simp)
   rw[Kq.eq_2] at o;have a:=o;clear o;refine Cl (N:=27) aL aM<|Ai<|Ae<|wd rfl (fun st=>CY (ee st g) (ee st x))<|Aj<|Ad<|Ai ?_;rcases As (decide (b<(m.length:Int))) with q|q
   ·replace a:=AG a q;refine AJ rfl q<|AQ<|Ad<|Ai<|Bc<|Ai<|Ae<|wm rfl (v:=I b) g ?_;replace a:=Bi a;obtain⟨i4,z,aW,aX,aY,a⟩:=a;have j:=(n.mv (An p));obtain⟨bN,bO,_,aZ,rfl,a3⟩:=Sl.Dd j rfl aX;refine wd rfl (fun st=>Bj (k:=i4) Tryz.underlying31 DY (ee st u) aZ (ee st g) aW aY)<|wd rfl (fun st=>Bu (v:=I z) BK (ee st rfl) a3 rfl)<|wa rfl (v:=I b) rfl<|wa rfl (v:=I z) rfl<|Aj<|Ad<|Ae<|wm rfl (v:=I h) t<|wm rfl (v:=I z) rfl<|wm rfl (v:=I b) rfl ?_;replace a:=Bi a;obtain⟨i5,aN,a4,a5,a9,a⟩:=a;refine wd rfl (fun st=>Ns (k:=i5) Tryz.underlying182 DY (ee st s) (ee st rfl) a4 a9)<|wd rfl (fun st=>AL (v:=I aN) BK (ee st rfl) p.bk (TG (l:=[f.a0,f.a1,f.a2]) a5)) ?_;replace a:=AP a;obtain⟨bA,a⟩:=a;refine wd rfl (fun st=>Ld (ee st rfl) (ee st rfl) bA) ?_;replace a:=AP a;obtain⟨bB,a⟩:=a;refine wd rfl (fun st=>Ce (ee st rfl) (ee st rfl) bB)<|wa rfl (v:=I (h+(z*aN))) rfl<|Aj<|BE<|Ad<|Ae ?_;replace a:=AP a;obtain⟨bC,a⟩:=a;refine wd rfl (fun st=>Ce (ee st g) (ee st rfl) bC)<|wm rfl (v:=I (b+1)) rfl<|Aj ?_;refine BI aK (Nat.lt_succ_self _) (fun st=>?_);exact⟨(h+(z*aN)),(b+1),a,qz st,qd st,sp st 1 r,sp st 2 s,sp st 5 rfl,sp st 8 u,sp st 9 x,sp st 10 rfl,rfl⟩
   ·replace a:=AH a q;refine AK rfl q<|Cp<|AI<|AI ?_;obtain rfl:=oi a;refine Cf (fun st=>?_);exact⟨rfl,qz st,qd st,sp st 1 r,sp st 5 t,rfl⟩
 case aT=>
  rintro aR bI _ (⟨rfl,aE,aF,aA,aB,rfl⟩);refine Cy (X:=X0) (N:=27) aE aF<|By<|Ad<|Ai<|Ae<|wm rfl (v:=I z2) aB<|wm rfl (v:=.slice d m.length e) aA ?_;have j:=(n.mv (An p));replace a:=bind_some a;obtain⟨bD,bE,a⟩:=a;refine we rfl (fun st=>Az Abf (ee st rfl) (C2 (ee st rfl)) (Agy aH m d e ZA _ j.all bD bE)) ?_;rintro _ bM ⟨bF,rfl⟩;have bG:=aQ.ext bF;replace a:=J0 a;obtain⟨aC,a⟩:=a;replace a:=AP a;obtain⟨aO,a⟩:=a;refine wd rfl (fun st=>Mh (ee st rfl) (ee st rfl) aC.1 aC.2 aO)<|wa rfl (v:=I (z2/bD)) rfl<|Aj<|Ad<|AM ?_;obtain rfl:=oi a;refine AN rfl rfl ?_;exact⟨bG.Bq,rfl⟩
theorem AhH aL b c o d e f g j m(Z:Nat→Prop) w(z:Sl AT w Z d e b.Au)(aA:Sl (BY (AF .i64)) w Z f g b.AS)(aB:Sl AX w Z j m b.Av) aM(a:EO aL b c o=some aM):
 CH Tryz.prog 177 #[.agg #[.slice d b.Au.length e,.slice f b.AS.length g,.slice j b.Av.length m],.agg #[I c.a0,I c.a1,I c.a2],I o] w (fun v w'=>Ext w w'∧(EN .i64).R w' (zf Z w []) v aM):=by
 unfold EO at a;refine Bb (N:=26) Tryz.func177 rfl rfl (by simp) ?_;intro bD ha bE;have aH:=AO (i:=0) ha rfl;have aI:=AO (i:=1) ha rfl;have p:=AO (i:=2) ha rfl;clear ha;have aD:Hp FN [] w [] w:=Hp.start (Co.none w);have aJ:=z.mv (Al (Z:=Z) (L:=[]) w);have s:=aA.mv (Al (Z:=Z) (L:=[]) w);have aK:=aB.mv (Al (Z:=Z) (L:=[]) w);refine Ai<|Ae<|we rfl (fun st=>Cs (v:=.agg #[.slice d b.Au.length e,.slice f b.AS.length g,.slice j b.Av.length m]) (cs:= #[.slice d b.Au.length e,.slice f b.AS.length g,.slice j b.Av.length m]) (ee st aH) rfl) ?_;rintro _ w1 ⟨b1,rfl,q⟩;have aE:=aD.nb q;have a9:=aD.Cz q;refine we rfl (fun st=>Cs (v:=.agg #[I c.a0,I c.a1,I c.a2]) (cs:= #[I c.a0,I c.a1,I c.a2]) (ee st aI) rfl) ?_;rintro _ w2 ⟨b2,rfl,h⟩;have aF:=aE.nb h;have bA:=aE.Cz h;refine wa rfl (v:=I 0) rfl<|Aj<|Ad<|Ai<|Ai<|Ae<|wd rfl (fun st=>Ap (ee st rfl) (O9 _ _)) ?_;have r:=(q.bk.ext h.gr);refine wd rfl (fun st=>AL (v:=.slice d b.Au.length e) Qp (ee st rfl) r rfl)<|wd rfl (fun st=>BD Tryz.underlying35 (ee st rfl))<|wa rfl (v:=I (b.Au.length:Int)) rfl<|Aj<|Ad<|Ai<|Ae<|wm rfl (v:=I o) p<|wm rfl (v:=I (b.Au.length:Int)) rfl<|wd rfl (fun st=>I9 (ee st rfl) (ee st rfl))<|Aj<|Ad ?_;rcases As (decide ((b.Au.length:Int)≤o)) with n|n
 ·replace a:=AG a n;refine AJ rfl n<|Ai ?_;replace a:=AP a;obtain⟨aN,a⟩:=a;replace a:=Bi a;obtain⟨i6,aO,aP,aQ,aR,a⟩:=a;have t:=((s.mv (An q)).mv (An h));obtain⟨bB,bC,_,aS,⟨x,y,rfl,aC⟩,aT⟩:=Sl.Dd t rfl aQ;refine Cm 8 [Kc (.agg #[I c.a0,I c.a1,I c.a2]),Kc (pt b1 1),Kc (.slice f b.AS.length g),Kc (I o),Kc (I (b.Au.length:Int)),Kc (I (o-(b.Au.length:Int))),Kc (pt bB (bC+i6)),Kc (.slice x aO.length y)] mixed rfl rfl
      (Ac (od rfl (fun _=>rfl) (fun K=>AW (l:=[I c.a0,I c.a1,I c.a2]) QQ (es ((K.out 4 rfl).trans rfl)) (h.bk.ext K.AV) rfl rfl))
      (Ac (od rfl (fun _=>rfl) (fun K=>Ap (es ((K.out 3 rfl).trans rfl)) (PU _ _)))
      (Ac (od rfl (fun _=>rfl) (fun K=>AL EB (es (K.Ar 1 15 rfl rfl)) (r.ext K.AV) rfl))
      (Ac (od rfl (fun _=>rfl) (fun K=>Ay (es ((K.out 2 rfl).trans p))))
      (Ac (od rfl (fun _=>rfl) (fun K=>Ay (es ((K.out 7 rfl).trans rfl))))
      (Ac (od rfl (fun _=>rfl) (fun K=>EP (es (K.Ar 3 17 rfl rfl)) (es (K.Ar 4 18 rfl rfl)) aN))
      (Ac (od rfl (fun _=>rfl) (fun K=>Bj (k:=i6) Tryz.underlying23 Gh (es (K.Ar 2 16 rfl rfl)) aS (es (K.Ar 5 19 rfl rfl)) aP aR))
      (Ac (od rfl (fun _=>rfl) (fun K=>Bu EM (es (K.Ar 6 20 rfl rfl)) (aT.mv (Ab K.AV)) rfl))
      (Ck _))))))))) ?_
  intro bF;rintro _ rfl _ rfl _ rfl _ rfl _ rfl _ rfl _ rfl _ rfl aG;have aU:=aF.ext aG;have u:=(aC.mv (Ab aG));replace a:=bind_some a;obtain⟨aV,aW,a⟩:=a;refine we rfl (fun st=>Az Abg (ee st rfl) (DH (ee st rfl) (ee st rfl)) (a183 aL c aO x y ZA _ u.all aV aW)) ?_;rintro _ bG ⟨aX,rfl⟩;have aY:=aU.ext aX;refine wa rfl (v:=I aV) rfl<|Aj<|Ad<|AM<|AE ?_;obtain rfl:=oi a;refine AN rfl rfl ?_;exact⟨aY.Bq,rfl⟩
 ·replace a:=AH a n;refine AK rfl n<|AQ<|Ad<|Ai<|Ae<|wm rfl (v:=I o) p ?_;replace a:=Bi a;obtain⟨i9,aZ,a3,a4,a5,a⟩:=a;refine wd rfl (fun st=>Ns (k:=i9) Tryz.underlying182 DY (ee st rfl) (ee st rfl) a3 a5)<|wd rfl (fun st=>AL (v:=I aZ) BK (ee st rfl) h.bk (TG (l:=[c.a0,c.a1,c.a2]) a4))<|wa rfl (v:=I aZ) rfl<|Aj<|Ad<|AM ?_;obtain rfl:=oi a;refine AN rfl rfl ?_;exact⟨aF.Bq,rfl⟩
theorem AhI a3 d x aS m o p q f g z aA(Z:Nat→Prop) w(b5:Sl AT w Z m o d.Au)(b6:Sl (BY (AF .i64)) w Z p q d.AS)(b7:Sl AX w Z f g d.Av)(b8:Sl (AF .i64) w Z z aA aS) cY(a:Ei a3 d x aS=some cY):
 CH Tryz.prog 133 #[.agg #[.slice m d.Au.length o,.slice p d.AS.length q,.slice f d.Av.length g],.agg #[I x.a0,I x.a1,I x.a2],.slice z aS.length aA] w (fun v w'=>Ext w w'∧Dt.R w' (zf Z w []) v cY):=by
 unfold Ei at a;refine Bb (N:=34) Tryz.func133 rfl rfl (by simp) ?_;intro dI ha dJ;have cH:=AO (i:=0) ha rfl;have cI:=AO (i:=1) ha rfl;have cJ:=AO (i:=2) ha rfl;clear ha;have cC:Hp FN [] w [] w:=Hp.start (Co.none w);have bJ:=b5.mv (Al (Z:=Z) (L:=[]) w);have bK:=b6.mv (Al (Z:=Z) (L:=[]) w);have bL:=b7.mv (Al (Z:=Z) (L:=[]) w);have bM:=b8.mv (Al (Z:=Z) (L:=[]) w);refine Ai<|Ae<|we rfl (fun st=>Cs (v:=.agg #[.slice m d.Au.length o,.slice p d.AS.length q,.slice f d.Av.length g]) (cs:= #[.slice m d.Au.length o,.slice p d.AS.length q,.slice f d.Av.length g]) (ee st cH) rfl) ?_;rintro _ w1 ⟨b1,rfl,aM⟩;have cD:=cC.nb aM;have dC:=cC.Cz aM;refine we rfl (fun st=>Cs (v:=.agg #[I x.a0,I x.a1,I x.a2]) (cs:= #[I x.a0,I x.a1,I x.a2]) (ee st cI) rfl) ?_;rintro _ w2 ⟨b2,rfl,aJ⟩;have cZ:=cD.nb aJ;have dD:=cD.Cz aJ;refine wa rfl (v:=.bool false) rfl<|Aj<|Ad<|Ai<|Ai<|Ae<|wd rfl (fun st=>Ap (ee st rfl) (Uj _ _)) ?_;have bH:=(aM.bk.ext aJ.gr);refine wd rfl (fun st=>AL (v:=.slice f d.Av.length g) XM (ee st rfl) bH rfl)<|wd rfl (fun st=>BD Tryz.underlying36 (ee st rfl))<|wm rfl (v:=I 0) rfl<|Aj<|Ad<|Bc ?_;replace a:=bind_some a;obtain⟨z3,aU,a⟩:=a;refine Cx (fun cK s aT=>(cK=.ret∧∃aV,z3=.inl aV∧s.tmps.size=34∧s.defers=(X0).ds∧sl s 6=.bool aV∧Hp FN [] w [some b2,some b1] aT)∨(cK=.exit 0∧∃aV,z3=.inr aV∧s.tmps.size=34∧s.defers=(X0).ds∧Hp FN [] w [some b2,some b1] aT)) ?c0 ?c1
 case c0=>
  clear a;refine Cw (fun(b9:Nat) (s:Act) (aT:World)=>∃e,BF a3 d x aS b9 e=some z3∧s.tmps.size=34∧s.defers=(X0).ds∧sl s 2=.slice z aS.length aA∧sl s 3=pt b1 0∧sl s 4=pt b2 0∧sl s 10=.slice f d.Av.length g∧sl s 11=I (d.Av.length:Int)∧sl s 12=I e∧Hp FN [] w [some b2,some b1] aT∧Bk aT b1 38 #[.slice m d.Au.length o,.slice p d.AS.length q,.slice f d.Av.length g]∧Bk aT b2 182 #[I x.a0,I x.a1,I x.a2]∧Sl AT aT (zf Z w [some b2,some b1]) m o d.Au∧Sl (BY (AF .i64)) aT (zf Z w [some b2,some b1]) p q d.AS∧Sl AX aT (zf Z w [some b2,some b1]) f g d.Av∧Sl (AF .i64) aT (zf Z w [some b2,some b1]) z aA aS) a3 ?c2 ?c3
  case c2=>
   intro st;have bN:=((bJ.mv (An aM)).mv (An aJ));have bO:=((bK.mv (An aM)).mv (An aJ));have bP:=((bL.mv (An aM)).mv (An aJ));have bQ:=((bM.mv (An aM)).mv (An aJ));exact⟨(0:Int),aU,qz st,qd st,sp st 2 cJ,sp st 3 rfl,sp st 4 rfl,sp st 10 rfl,sp st 11 rfl,sp st 12 rfl,cZ,bH,aJ.bk,bN,bO,bP,bQ⟩
  case c3=>
   rintro(_|b9) dK dL ⟨e,aU,cL,cM,aK,aL,aW,aN,aO,aB,bV,a4,a5,aP,aQ,aD,bB⟩
   ·exact absurd (show none=some _ from aU) (by simp)
   rw[BF.eq_2] at aU;have a:=aU;clear aU;refine Cl (N:=34) cL cM<|Ai<|Ae<|wd rfl (fun st=>CY (ee st aB) (ee st aO))<|Aj<|Ad<|Ai ?_;rcases As (decide (e<(d.Av.length:Int))) with a9|a9
   ·replace a:=AG a a9;refine AJ rfl a9<|AQ<|Ad<|Ai<|Bc<|Ai<|Ae<|wm rfl (v:=I e) aB ?_;replace a:=Bi a;obtain⟨i5,j,c4,c5,c6,a⟩:=a;obtain⟨dO,dP,_,c7,rfl,c8⟩:=Sl.elem aD (by decide) c5;refine wd rfl (fun st=>BZ (k:=i5) Tryz.underlying36 Aah (ee st aN) c7 (ee st aB) c4 c6)<|wd rfl (fun st=>EJ (l:=[.bool j.Cn,I j.Number,I j.AY,I j.AZ]) Wg (ee st rfl) c8 rfl rfl)<|we rfl (fun st=>DQ (cs:= #[.bool false,I 0,I 0,I 0]) Adr rfl) ?_;rintro _ dQ ⟨dF,rfl,t⟩;have y:=bV.nb t;have dE:=bV.Cz t;refine wa rfl (v:=I e) rfl<|Dv rfl rfl (fun st=>C4 (n:=4) (l:=[.bool j.Cn,I j.Number,I j.AY,I j.AZ]) (Fi:= #[.bool j.Cn,I j.Number,I j.AY,I j.AZ]) (ee st rfl) (ee st rfl) Aah t.bk rfl rfl (show 0+4≤4 by decide) (Cq rfl) rfl) ?_;rintro _ dR u;have cE:=y.gr u.gr 0 rfl;refine Aj<|Ad<|Ai ?_;have aC:=((bB.mv (An t)).mv (y.Bf u.gr 0 rfl));replace a:=bind_some a;obtain⟨aR,cF,a⟩:=a;rcases As (!aR) with b|b
    ·replace a:=AG a b;have cU:aR=false:=by simpa using b
     have aX:=((a4.ext t.gr).gr u.gr (y.ne 2 0 rfl rfl rfl));have bI:=((a5.ext t.gr).gr u.gr (y.ne 1 0 rfl rfl rfl));have aG:=((aP.mv (An t)).mv (y.Bf u.gr 0 rfl));have aH:=((aQ.mv (An t)).mv (y.Bf u.gr 0 rfl));have aI:=((aD.mv (An t)).mv (y.Bf u.gr 0 rfl));replace a:=bind_some a;obtain⟨bW,cN,a⟩:=a;replace a:=bind_some a;obtain⟨bX,cO,a⟩:=a;refine Cm 13 [Kc (.slice z aS.length aA),Kc (I e),Kc (.bool aR),Kc (.bool !aR),Kc (.bool !aR),Kc (pt dF 2),Kc (.agg #[I j.AY,I j.AZ]),Kc (.agg #[.slice m d.Au.length o,.slice p d.AS.length q,.slice f d.Av.length g]),Kc (.agg #[I x.a0,I x.a1,I x.a2]),Kc (.agg #[.slice m d.Au.length o,.slice p d.AS.length q,.slice f d.Av.length g]),Kc (.agg #[.bool j.Cn,I j.Number,I j.AY,I j.AZ]),Kc (I bW),Kc (I bX)] mixed rfl rfl
         (Ac (od rfl (fun _=>rfl) (fun K=>Ay (es ((K.out 2 rfl).trans aK))))
         (Ac (od rfl (fun _=>rfl) (fun K=>Ay (es ((K.out 7 rfl).trans rfl))))
         (Ac (Dz rfl rfl (fun a' w' ph K=>(Az QR rfl (DH (es (K.Ar 0 17 rfl rfl)) (es (K.Ar 1 18 rfl rfl))) (Ue a3 aS e z aA ZA _ (aC.mv (Ab K.AV)).all aR cF)).mono (fun _ _ h=>⟨h.2,h.1⟩)))
         (Ac (od rfl (fun _=>rfl) (fun K=>DK (es (K.Ar 2 19 rfl rfl))))
         (Ac (od rfl (fun _=>rfl) (fun K=>Ay (es (K.Ar 3 20 rfl rfl))))
         (Ac (Br rfl rfl rfl (fun _=>rfl) (fun a' w' ph K=>Ah (K.Ar 4 21 rfl rfl) b) (fun a' w' ph K=>Ap (es ((K.out 8 rfl).trans rfl)) (W0 _ _)))
         (Ac (Br rfl rfl rfl (fun _=>rfl) (fun a' w' ph K=>Ah (K.Ar 4 21 rfl rfl) b) (fun a' w' ph K=>AW (l:=[I j.AY,I j.AZ]) PT (es (K.Ar 5 22 rfl rfl)) (u.bk.ext K.AV) rfl rfl))
         (Ac (Br rfl rfl rfl (fun _=>rfl) (fun a' w' ph K=>Ah (K.Ar 4 21 rfl rfl) b) (fun a' w' ph K=>AW (l:=[.slice m d.Au.length o,.slice p d.AS.length q,.slice f d.Av.length g]) Ol (es ((K.out 3 rfl).trans aL)) (aX.ext K.AV) rfl rfl))
         (Ac (Br rfl rfl rfl (fun _=>rfl) (fun a' w' ph K=>Ah (K.Ar 4 21 rfl rfl) b) (fun a' w' ph K=>AW (l:=[I x.a0,I x.a1,I x.a2]) QQ (es ((K.out 4 rfl).trans aW)) (bI.ext K.AV) rfl rfl))
         (Ac (Br rfl rfl rfl (fun _=>rfl) (fun a' w' ph K=>Ah (K.Ar 4 21 rfl rfl) b) (fun a' w' ph K=>AW (l:=[.slice m d.Au.length o,.slice p d.AS.length q,.slice f d.Av.length g]) Ol (es ((K.out 3 rfl).trans aL)) (aX.ext K.AV) rfl rfl))
         (Ac (Br rfl rfl rfl (fun _=>rfl) (fun a' w' ph K=>Ah (K.Ar 4 21 rfl rfl) b) (fun a' w' ph K=>AW (l:=[.bool j.Cn,I j.Number,I j.AY,I j.AZ]) Wg (es ((K.out 8 rfl).trans rfl)) (u.bk.ext K.AV) rfl rfl))
         (Ac (I5 rfl rfl rfl (fun a' w' ph K=>Ah (K.Ar 4 21 rfl rfl) b) (fun a' w' ph K=>(Az Ae6 rfl (DH (es (K.Ar 9 26 rfl rfl)) (es (K.Ar 10 27 rfl rfl))) (Ahv a3 d j m o p q f g ZA _ (aG.mv (Ab K.AV)).all (aH.mv (Ab K.AV)).all (aI.mv (Ab K.AV)).all bW cN)).mono (fun _ _ h=>⟨h.2,h.1⟩)))
         (Ac (I5 rfl rfl rfl (fun a' w' ph K=>Ah (K.Ar 4 21 rfl rfl) b) (fun a' w' ph K=>(Az Ae7 rfl (E9 (es (K.Ar 7 24 rfl rfl)) (es (K.Ar 8 25 rfl rfl)) (es (K.Ar 11 28 rfl rfl))) (AhH a3 d x bW m o p q f g ZA _ (aG.mv (Ab K.AV)).all (aH.mv (Ab K.AV)).all (aI.mv (Ab K.AV)).all bX cO)).mono (fun _ _ h=>⟨h.2,h.1⟩)))
         (Ck _)))))))))))))) ?_
     intro dG;rintro _ rfl _ rfl _ rfl _ rfl _ rfl _ rfl _ rfl _ rfl _ rfl _ rfl _ rfl _ rfl _ rfl r;have c9:=cE.ext r;replace a:=bind_some a;obtain⟨bA,cP,a⟩:=a;refine Dw rfl rfl (Ah rfl b) rfl (by decide) (fun st=>Az Abh (ee st rfl) (DH (ee st rfl) (ee st rfl)) (Agx a3 (⟨j.AY,j.AZ⟩:AR) bX ZA _ bA cP)) ?_;rintro _ dM ⟨aE,rfl⟩;have cG:=c9.ext aE;refine Ax rfl rfl (Ah rfl b) rfl (by decide) (fun st=>DK (ee st rfl))<|wd rfl (fun st=>Bl (v:=.bool !bA) (ee st rfl) b (ee st rfl))<|Aj<|Ad ?_;rcases As (!bA) with aF|aF
     ·replace a:=AG a aF;have cV:bA=false:=by simpa using aF
      refine AJ rfl aF<|Ai<|Ae<|wa rfl (v:=.bool false) rfl<|Aj<|Ad<|AM<|Bv<|AE<|AE ?_;have dA:=cG.erase 0;obtain rfl:=oi a;refine Cf (fun st=>?_);exact .inl ⟨rfl,false,rfl,qz st,qd st,sp st 6 rfl,dA⟩
     ·replace a:=AH a aF;have cW:bA=true:=by simpa using aF
      refine AK rfl aF<|AQ<|BE<|Ad<|Ae ?_;replace a:=AP a;obtain⟨cQ,a⟩:=a;refine wd rfl (fun st=>Ce (ee st aB) (ee st rfl) cQ)<|wm rfl (v:=I (e+1)) rfl<|Aj ?_;have dB:=cG.erase 0;have cA:=((aX.ext r).ext aE);have cB:=((bI.ext r).ext aE);have bR:=(((aG.mv (Ab r)).mv (Ab aE)).mv (Aw 0));have bS:=(((aH.mv (Ab r)).mv (Ab aE)).mv (Aw 0));have bT:=(((aI.mv (Ab r)).mv (Ab aE)).mv (Aw 0));have bU:=(((aC.mv (Ab r)).mv (Ab aE)).mv (Aw 0));refine BI b9 (Nat.lt_succ_self _) (fun st=>?_);exact⟨(e+1),a,qz st,qd st,sp st 2 aK,sp st 3 aL,sp st 4 aW,sp st 10 aN,sp st 11 aO,sp st 12 rfl,dB,cA,cB,bR,bS,bT,bU⟩
    ·replace a:=AH a b;have cX:aR=true:=by simpa using b
     refine Cm 13 [Kc (.slice z aS.length aA),Kc (I e),Kc (.bool aR),Kc (.bool !aR),Kc (.bool !aR),Kc undef,Kc undef,Kc undef,Kc undef,Kc undef,Kc undef,Kc undef,Kc undef] mixed rfl rfl
         (Ac (od rfl (fun _=>rfl) (fun K=>Ay (es ((K.out 2 rfl).trans aK))))
         (Ac (od rfl (fun _=>rfl) (fun K=>Ay (es ((K.out 7 rfl).trans rfl))))
         (Ac (Dz rfl rfl (fun a' w' ph K=>(Az QR rfl (DH (es (K.Ar 0 17 rfl rfl)) (es (K.Ar 1 18 rfl rfl))) (Ue a3 aS e z aA ZA _ (aC.mv (Ab K.AV)).all aR cF)).mono (fun _ _ h=>⟨h.2,h.1⟩)))
         (Ac (od rfl (fun _=>rfl) (fun K=>DK (es (K.Ar 2 19 rfl rfl))))
         (Ac (od rfl (fun _=>rfl) (fun K=>Ay (es (K.Ar 3 20 rfl rfl))))
         (Ac (BV (c:=false) rfl rfl rfl (by decide) (fun a' w' ph K=>Ah (K.Ar 4 21 rfl rfl) b) (fun _=>rfl))
         (Ac (BV (c:=false) rfl rfl rfl (by decide) (fun a' w' ph K=>Ah (K.Ar 4 21 rfl rfl) b) (fun _=>rfl))
         (Ac (BV (c:=false) rfl rfl rfl (by decide) (fun a' w' ph K=>Ah (K.Ar 4 21 rfl rfl) b) (fun _=>rfl))
         (Ac (BV (c:=false) rfl rfl rfl (by decide) (fun a' w' ph K=>Ah (K.Ar 4 21 rfl rfl) b) (fun _=>rfl))
         (Ac (BV (c:=false) rfl rfl rfl (by decide) (fun a' w' ph K=>Ah (K.Ar 4 21 rfl rfl) b) (fun _=>rfl))
         (Ac (BV (c:=false) rfl rfl rfl (by decide) (fun a' w' ph K=>Ah (K.Ar 4 21 rfl rfl) b) (fun _=>rfl))
         (Ac (BV (c:=false) rfl rfl rfl (by decide) (fun a' w' ph K=>Ah (K.Ar 4 21 rfl rfl) b) (fun _=>rfl))
         (Ac (BV (c:=false) rfl rfl rfl (by decide) (fun a' w' ph K=>Ah (K.Ar 4 21 rfl rfl) b) (fun _=>rfl))
         (Ck _)))))))))))))) ?_
     intro dG;rintro _ rfl _ rfl _ rfl _ rfl _ rfl _ rfl _ rfl _ rfl _ rfl _ rfl _ rfl _ rfl _ rfl r;have cR:=cE.ext r;refine AB (c:=false) rfl rfl (Ah rfl b) (by decide) rfl (by decide)<|AB (c:=false) rfl rfl (Ah rfl b) (by decide) rfl (by decide)<|wd rfl (fun st=>BN (v:=.bool false) (ee st rfl) b (ee st rfl))<|Aj<|Ad<|AK rfl rfl<|AQ<|BE<|Ad<|Ae ?_;replace a:=AP a;obtain⟨cS,a⟩:=a;refine wd rfl (fun st=>Ce (ee st aB) (ee st rfl) cS)<|wm rfl (v:=I (e+1)) rfl<|Aj ?_;have cT:=cR.erase 0;have bY:=(((a4.ext t.gr).gr u.gr (y.ne 2 0 rfl rfl rfl)).ext r);have bZ:=(((a5.ext t.gr).gr u.gr (y.ne 1 0 rfl rfl rfl)).ext r);have bC:=((((aP.mv (An t)).mv (y.Bf u.gr 0 rfl)).mv (Ab r)).mv (Aw 0));have bD:=((((aQ.mv (An t)).mv (y.Bf u.gr 0 rfl)).mv (Ab r)).mv (Aw 0));have bE:=((((aD.mv (An t)).mv (y.Bf u.gr 0 rfl)).mv (Ab r)).mv (Aw 0));have bF:=((aC.mv (Ab r)).mv (Aw 0));refine BI b9 (Nat.lt_succ_self _) (fun st=>?_);exact⟨(e+1),a,qz st,qd st,sp st 2 aK,sp st 3 aL,sp st 4 aW,sp st 10 aN,sp st 11 aO,sp st 12 rfl,cT,bY,bZ,bC,bD,bE,bF⟩
   ·replace a:=AH a a9;refine AK rfl a9<|Cp<|AI<|AI ?_;obtain rfl:=oi a;refine Cf (fun st=>?_);exact .inr ⟨rfl,(),rfl,qz st,qd st,bV⟩
 case c1=>
  rintro cK dH dN (⟨rfl,aV,rfl,aY,aZ,b4,bG⟩|⟨rfl,aV,rfl,aY,aZ,bG⟩)
  ·skip
   replace a:=Et a;refine Cy (X:=X0) (N:=34) aY aZ<|Bv<|AE ?_;obtain rfl:=oi a;refine AN rfl b4 ?_;exact⟨bG.Bq,rfl⟩
  ·skip
   replace a:=Eu a;refine Cy (X:=X0) (N:=34) aY aZ<|By<|Ad<|Ai<|Ae<|wa rfl (v:=.bool true) rfl<|Aj<|Ad<|AM ?_;obtain rfl:=oi a;refine AN rfl rfl ?_;exact⟨bG.Bq,rfl⟩
theorem AgB bL e b m o aI aJ aK aL g j(Z:Nat→Prop) w(bM:Sl AT w Z m o e.Au)(bN:Sl (BY (AF .i64)) w Z aI aJ e.AS)(bO:Sl AX w Z aK aL e.Av)(bP:Sl (AF .i64) w Z g j b) cK(a:MQ bL e b=some cK):
 CH Tryz.prog 132 #[.agg #[.slice m e.Au.length o,.slice aI e.AS.length aJ,.slice aK e.Av.length aL],.slice g b.length j] w (fun v w'=>Ext w w'∧(PZ (Hx GF) Dt).R w' (zf Z w []) v cK):=by
 unfold MQ at a;refine Bb (N:=36) Tryz.func132 rfl rfl (by simp) ?_;intro c4 ha c5;have bW:=AO (i:=0) ha rfl;have bD:=AO (i:=1) ha rfl;clear ha;have bQ:Hp FN [] w [] w:=Hp.start (Co.none w);have a9:=bM.mv (Al (Z:=Z) (L:=[]) w);have cG:=bN.mv (Al (Z:=Z) (L:=[]) w);have cH:=bO.mv (Al (Z:=Z) (L:=[]) w);have bA:=bP.mv (Al (Z:=Z) (L:=[]) w);refine Ai<|Ae<|we rfl (fun st=>Cs (v:=.agg #[.slice m e.Au.length o,.slice aI e.AS.length aJ,.slice aK e.Av.length aL]) (cs:= #[.slice m e.Au.length o,.slice aI e.AS.length aJ,.slice aK e.Av.length aL]) (ee st bW) rfl) ?_;rintro _ w1 ⟨b1,rfl,aP⟩;have bR:=bQ.nb aP;have c0:=bQ.Cz aP;refine we rfl (fun st=>DQ (cs:= #[I 0,I 0,I 0]) W1 rfl) ?_;rintro _ w2 ⟨b2,rfl,s⟩;have bS:=bR.nb s;have c1:=bR.Cz s;refine wa rfl (v:=.bool false) rfl<|Aj<|Ad<|Ai<|Ai<|Ae<|wm rfl (v:=.slice g b.length j) bD<|wd rfl (fun st=>BD Tryz.underlying31 (ee st rfl))<|wd rfl (fun st=>Ap (ee st rfl) (O9 _ _)) ?_;have a3:=(aP.bk.ext s.gr);refine wd rfl (fun st=>AL (v:=.slice m e.Au.length o) Qp (ee st rfl) a3 rfl)<|wd rfl (fun st=>BD Tryz.underlying35 (ee st rfl))<|wd rfl (fun st=>D6 (ee st rfl) (ee st rfl))<|Aj<|Ad ?_;rcases As ((b.length:Int) !=(e.Au.length:Int)) with aQ|aQ
 ·replace a:=AG a aQ;refine AJ rfl aQ<|Ai<|Ae<|wd rfl (fun st=>AW (l:=[I 0,I 0,I 0]) QQ (ee st rfl) s.bk rfl rfl)<|Dv rfl rfl (fun st=>C4 (n:=3) (l:=[I 0,I 0,I 0]) (Fi:= #[I 0,I 0,I 0]) (ee st rfl) (ee st rfl) Vz s.bk rfl rfl (show 0+3≤3 by decide) (Cq rfl) rfl) ?_;rintro _ dE bT;have cL:=bS.gr bT.gr 0 rfl;refine wa rfl (v:=.bool false) rfl<|Aj<|Ad<|AM<|AE ?_;obtain rfl:=oi a;refine Q6 (N:=36) (v:=.agg #[I 0,I 0,I 0]) (v':=.bool false) rfl ⟨_,rfl,G9 QQ bT.bk rfl rfl⟩ rfl ?_;exact⟨cL.Bq,⟨_,_,rfl,⟨_,rfl,rfl⟩,rfl⟩⟩
 ·replace a:=AH a aQ;refine AK rfl aQ<|AQ<|Ad<|Ai<|Ai<|Ae<|wd rfl (fun st=>Ap (ee st rfl) (O9 _ _))<|wd rfl (fun st=>AL (v:=.slice m e.Au.length o) Qp (ee st rfl) a3 rfl)<|wd rfl (fun st=>BD Tryz.underlying35 (ee st rfl))<|wm rfl (v:=I 0) rfl<|Aj<|Ad<|Bc ?_;replace a:=bind_some a;obtain⟨z5,aF,a⟩:=a;refine Cx (fun bX c aE=>(bX=.ret∧∃t,z5=.inl t∧c.tmps.size=36∧c.defers=(X0).ds∧sl c 4=pt b2 0∧sl c 5=.bool t∧Hp FN [] w [some b2,some b1] aE∧Bk aE b2 182 #[I 0,I 0,I 0])∨(bX=.exit 0∧∃t,z5=.inr t∧c.tmps.size=36∧c.defers=(X0).ds∧sl c 1=.slice g b.length j∧sl c 4=pt b2 0∧Hp FN [] w [some b2,some b1] aE∧Bk aE b2 182 #[I 0,I 0,I 0]∧Sl (AF .i64) aE (zf Z w [some b2,some b1]) g j b)) ?cM ?cN
  case cM=>
   clear a;refine Cw (fun(bY:Nat) (c:Act) (aE:World)=>∃d,KL bL e b bY d=some z5∧c.tmps.size=36∧c.defers=(X0).ds∧sl c 1=.slice g b.length j∧sl c 4=pt b2 0∧sl c 16=.slice m e.Au.length o∧sl c 17=I (e.Au.length:Int)∧sl c 18=I d∧Hp FN [] w [some b2,some b1] aE∧Bk aE b2 182 #[I 0,I 0,I 0]∧Sl AT aE (zf Z w [some b2,some b1]) m o e.Au∧Sl (AF .i64) aE (zf Z w [some b2,some b1]) g j b) bL ?cO ?cP
   case cO=>
    intro st;have bB:=((a9.mv (An aP)).mv (An s));have bC:=((bA.mv (An aP)).mv (An s));exact⟨(0:Int),aF,qz st,qd st,sp st 1 bD,sp st 4 rfl,sp st 16 rfl,sp st 17 rfl,sp st 18 rfl,bS,s.bk,bB,bC⟩
   case cP=>
    rintro(_|bY) c6 c7 ⟨d,aF,bZ,b4,aM,q,aR,aS,r,bE,u,x,y⟩
    ·exact absurd (show none=some _ from aF) (by simp)
    rw[KL.eq_2] at aF;have a:=aF;clear aF;refine Cl (N:=36) bZ b4<|Ai<|Ae<|wd rfl (fun st=>CY (ee st r) (ee st aS))<|Aj<|Ad<|Ai ?_;rcases As (decide (d<(e.Au.length:Int))) with aT|aT
    ·replace a:=AG a aT;refine AJ rfl aT<|AQ<|Ad<|Ai<|Bc<|Ai<|Ae<|wm rfl (v:=I d) r ?_;replace a:=Bi a;obtain⟨i7,z,cQ,cR,cS,a⟩:=a;obtain⟨dF,dG,_,cT,rfl,cU⟩:=Sl.elem x (by decide) cR;refine wd rfl (fun st=>BZ (k:=i7) Tryz.underlying35 S2 (ee st aR) cT (ee st r) cQ cS)<|wd rfl (fun st=>EJ (l:=[I z.Lo,I z.Hi]) PT (ee st rfl) cU rfl rfl)<|we rfl (fun st=>DQ (cs:= #[I 0,I 0]) UP rfl) ?_;rintro _ dH ⟨dI,rfl,aA⟩;have aU:=bE.nb aA;have c2:=bE.Cz aA;refine wa rfl (v:=I d) rfl<|Dv rfl rfl (fun st=>C4 (n:=2) (l:=[I z.Lo,I z.Hi]) (Fi:= #[I z.Lo,I z.Hi]) (ee st rfl) (ee st rfl) S2 aA.bk rfl rfl (show 0+2≤2 by decide) (Cq rfl) rfl) ?_;rintro _ dJ aG;have cV:=aU.gr aG.gr 0 rfl;refine Aj<|Ad<|Ai ?_;replace a:=Bi a;obtain⟨i11,bU,b5,b6,b7,a⟩:=a;have aH:=((y.mv (An aA)).mv (aU.Bf aG.gr 0 rfl));obtain⟨cW,cX,_,b8,rfl,b9⟩:=Sl.Dd aH rfl b6;refine Cm 5 [Kc (.agg #[I z.Lo,I z.Hi]),Kc (.slice g b.length j),Kc (I d),Kc (pt cW (cX+i11)),Kc (I bU)] mixed rfl rfl
         (Ac (od rfl (fun _=>rfl) (fun K=>AW (l:=[I z.Lo,I z.Hi]) PT (es ((K.out 7 rfl).trans rfl)) (aG.bk.ext K.AV) rfl rfl))
         (Ac (od rfl (fun _=>rfl) (fun K=>Ay (es ((K.out 1 rfl).trans aM))))
         (Ac (od rfl (fun _=>rfl) (fun K=>Ay (es ((K.out 6 rfl).trans rfl))))
         (Ac (od rfl (fun _=>rfl) (fun K=>Bj (k:=i11) Tryz.underlying31 DY (es (K.Ar 1 24 rfl rfl)) b8 (es (K.Ar 2 25 rfl rfl)) b5 b7))
         (Ac (od rfl (fun _=>rfl) (fun K=>Bu BK (es (K.Ar 3 26 rfl rfl)) (b9.mv (Ab K.AV)) rfl))
         (Ck _)))))) ?_
     intro c8;rintro _ rfl _ rfl _ rfl _ rfl _ rfl aB;have cY:=cV.ext aB;replace a:=bind_some a;obtain⟨a4,cA,a⟩:=a;refine we rfl (fun st=>Az Abh (ee st rfl) (DH (ee st rfl) (ee st rfl)) (Agx bL z bU ZA _ a4 cA)) ?_;rintro _ c9 ⟨aC,rfl⟩;have bV:=cY.ext aC;refine wd rfl (fun st=>DK (ee st rfl))<|Aj<|Ad ?_;rcases As (!a4) with p|p
     ·replace a:=AG a p;have cI:a4=false:=by simpa using p
      refine AJ rfl p<|Ai<|Ae ?_;have a5:=((((u.ext aA.gr).gr aG.gr (aU.ne 1 0 rfl rfl rfl)).ext aB).ext aC);refine wd rfl (fun st=>AW (l:=[I 0,I 0,I 0]) QQ (ee st q) a5 rfl rfl)<|Dv rfl rfl (fun st=>C4 (n:=3) (l:=[I 0,I 0,I 0]) (Fi:= #[I 0,I 0,I 0]) (ee st q) (ee st rfl) Vz a5 rfl rfl (show 0+3≤3 by decide) (Cq rfl) rfl) ?_;rintro _ dA bF;have cZ:=bV.gr bF.gr 1 rfl;refine wa rfl (v:=.bool false) rfl<|Aj<|Ad<|AM<|Bv<|AE<|AE ?_;have cB:=cZ.erase 0;obtain rfl:=oi a;have bG:=bF.bk;refine Cf (fun st=>?_);exact .inl ⟨rfl,false,rfl,qz st,qd st,sp st 4 q,sp st 5 rfl,cB,bG⟩
     ·replace a:=AH a p;have cJ:a4=true:=by simpa using p
      refine AK rfl p<|AQ<|BE<|Ad<|Ae ?_;replace a:=AP a;obtain⟨cC,a⟩:=a;refine wd rfl (fun st=>Ce (ee st r) (ee st rfl) cC)<|wm rfl (v:=I (d+1)) rfl<|Aj ?_;have cD:=bV.erase 0;have bH:=((((u.ext aA.gr).gr aG.gr (aU.ne 1 0 rfl rfl rfl)).ext aB).ext aC);have aV:=(((((x.mv (An aA)).mv (aU.Bf aG.gr 0 rfl)).mv (Ab aB)).mv (Ab aC)).mv (Aw 0));have aW:=(((aH.mv (Ab aB)).mv (Ab aC)).mv (Aw 0));refine BI bY (Nat.lt_succ_self _) (fun st=>?_);exact⟨(d+1),a,qz st,qd st,sp st 1 aM,sp st 4 q,sp st 16 aR,sp st 17 aS,sp st 18 rfl,cD,bH,aV,aW⟩
    ·replace a:=AH a aT;refine AK rfl aT<|Cp<|AI<|AI ?_;obtain rfl:=oi a;refine Cf (fun st=>?_);exact .inr ⟨rfl,(),rfl,qz st,qd st,sp st 1 aM,sp st 4 q,bE,u,y⟩
  case cN=>
   rintro bX c3 dB (⟨rfl,t,rfl,aN,aO,f,bI,aX,aD⟩|⟨rfl,t,rfl,aN,aO,bJ,f,aX,aD,aY⟩)
   ·skip
    replace a:=Et a;refine Cy (X:=X0) (N:=36) aN aO<|Bv<|AE ?_;obtain rfl:=oi a;refine Q6 (N:=36) (v:=.agg #[I 0,I 0,I 0]) (v':=.bool t) rfl ⟨_,f,G9 QQ aD rfl rfl⟩ bI ?_;exact⟨aX.Bq,⟨_,_,rfl,⟨_,rfl,rfl⟩,rfl⟩⟩
   ·skip
    replace a:=Eu a;refine Cy (X:=X0) (N:=36) aN aO<|By<|Ad<|Ai<|Ae<|wd rfl (fun st=>Z7 (h:=3) Tryz.underlying182 DY (by decide) (ee st f) Tj ⟨by decide,by decide⟩ rfl)<|wm rfl (v:=.slice g b.length j) bJ<|we rfl (fun st=>Aa9 (ys:=[0,0,0]) (Fi:= #[I (((⟨0,0,0⟩:Bt).cp b).a0),I (((⟨0,0,0⟩:Bt).cp b).a1),I (((⟨0,0,0⟩:Bt).cp b).a2)]) Tryz.underlying31 DY rfl (ee st rfl) (ee st rfl) aD rfl aY (Bt.cpc (⟨0,0,0⟩:Bt) b)) ?_;rintro _ dC aZ;have cE:=aX.gr aZ.gr 0 rfl;refine Aj<|Ad<|Ai<|Ae<|wd rfl (fun st=>AW (l:=[I (((⟨0,0,0⟩:Bt).cp b).a0),I (((⟨0,0,0⟩:Bt).cp b).a1),I (((⟨0,0,0⟩:Bt).cp b).a2)]) QQ (ee st f) aZ.bk rfl rfl)<|Dv rfl rfl (fun st=>C4 (n:=3) (l:=[I (((⟨0,0,0⟩:Bt).cp b).a0),I (((⟨0,0,0⟩:Bt).cp b).a1),I (((⟨0,0,0⟩:Bt).cp b).a2)]) (Fi:= #[I (((⟨0,0,0⟩:Bt).cp b).a0),I (((⟨0,0,0⟩:Bt).cp b).a1),I (((⟨0,0,0⟩:Bt).cp b).a2)]) (ee st f) (ee st rfl) Vz aZ.bk rfl rfl (show 0+3≤3 by decide) (Cq rfl) rfl) ?_;rintro _ dD bK;have cF:=cE.gr bK.gr 0 rfl;refine wa rfl (v:=.bool true) rfl<|Aj<|Ad<|AM ?_;obtain rfl:=oi a;refine Q6 (N:=36) (v:=.agg #[I (((⟨0,0,0⟩:Bt).cp b).a0),I (((⟨0,0,0⟩:Bt).cp b).a1),I (((⟨0,0,0⟩:Bt).cp b).a2)]) (v':=.bool true) rfl ⟨_,f,G9 QQ bK.bk rfl rfl⟩ rfl ?_;exact⟨cF.Bq,⟨_,_,rfl,⟨_,rfl,rfl⟩,rfl⟩⟩
theorem AhJ bF d bR p q h j r s aS aT(Z:Nat→Prop) w(bZ:Sl AT w Z p q d.Au)(b4:Sl (BY (AF .i64)) w Z h j d.AS)(b5:Sl AX w Z r s d.Av)(b6:Sl (AF .i64) w Z aS aT bR) c2(a:QP bF d bR=some c2):
 CH Tryz.prog 150 #[.agg #[.slice p d.Au.length q,.slice h d.AS.length j,.slice r d.Av.length s],.slice aS bR.length aT] w (fun v w'=>Ext w w'∧(PZ (GI (AF .i64)) (EN .i64)).R w' (zf Z w []) v c2):=by
 unfold QP at a;refine Bb (N:=40) Tryz.func150 rfl rfl (by simp) ?_;intro dI ha dJ;have cJ:=AO (i:=0) ha rfl;have cK:=AO (i:=1) ha rfl;clear ha;have cB:Hp FN [] w [] w:=Hp.start (Co.none w);have bG:=bZ.mv (Al (Z:=Z) (L:=[]) w);have bH:=b4.mv (Al (Z:=Z) (L:=[]) w);have bI:=b5.mv (Al (Z:=Z) (L:=[]) w);have bJ:=b6.mv (Al (Z:=Z) (L:=[]) w);refine Ai<|Ae<|we rfl (fun st=>Cs (v:=.agg #[.slice p d.Au.length q,.slice h d.AS.length j,.slice r d.Av.length s]) (cs:= #[.slice p d.Au.length q,.slice h d.AS.length j,.slice r d.Av.length s]) (ee st cJ) rfl) ?_;rintro _ w1 ⟨b1,rfl,aB⟩;have c3:=cB.nb aB;have dB:=cB.Cz aB;refine wa rfl (v:=.slice none 0 0) rfl<|wa rfl (v:=I 0) rfl<|Aj<|Ad<|Ai<|Ai<|Ae<|wd rfl (fun st=>AW (l:=[.slice p d.Au.length q,.slice h d.AS.length j,.slice r d.Av.length s]) Ol (ee st rfl) aB.bk rfl rfl) ?_;have aK:=(bG.mv (An aB));have aL:=(bH.mv (An aB));have aM:=(bI.mv (An aB));replace a:=bind_some a;obtain⟨bK,c4,a⟩:=a;refine we rfl (fun st=>Az YC (ee st rfl) (C2 (ee st rfl)) (a127 bF d p q h j r s ZA _ aK.all aL.all aM.all bK c4)) ?_;rintro _ dQ ⟨aN,rfl⟩;have cC:=c3.ext aN;refine wa rfl (v:=I bK) rfl<|Aj<|Ad<|Ai<|Ae<|wm rfl (v:=I bK) rfl<|wd rfl (fun st=>D6 (ee st rfl) (ee st rfl))<|Aj<|Ad ?_;rcases As (bK !=0) with aV|aV
 ·replace a:=AG a aV;refine AJ rfl aV<|Ai<|Ae<|wm rfl (v:=I bK) rfl<|wa rfl (v:=.slice none 0 0) rfl<|wa rfl (v:=I bK) rfl<|Aj<|Ad<|AM<|AE ?_;obtain rfl:=oi a;refine Gj rfl rfl rfl ?_;exact⟨cC.Bq,⟨_,_,rfl,⟨_,_,rfl,Sl.nil _ _ _⟩,rfl⟩⟩
 ·replace a:=AH a aV;refine AK rfl aV<|AQ<|Ad<|Ai<|Ae ?_;have bB:=(aB.bk.ext aN);refine wd rfl (fun st=>AW (l:=[.slice p d.Au.length q,.slice h d.AS.length j,.slice r d.Av.length s]) Ol (ee st rfl) bB rfl rfl)<|wm rfl (v:=.slice aS bR.length aT) cK ?_;have bL:=(aK.mv (Ab aN));have aO:=(aL.mv (Ab aN));have bM:=(aM.mv (Ab aN));have bN:=((bJ.mv (An aB)).mv (Ab aN));replace a:=bind_some a;obtain⟨c,c5,a⟩:=a;refine we rfl (fun st=>Az Abi (ee st rfl) (DH (ee st rfl) (ee st rfl)) (AgB bF d bR p q h j r s aS aT ZA _ bL.all aO.all bM.all bN.all c c5)) ?_;rintro _ dR ⟨bS,⟨_,_,rfl,⟨_,rfl,rfl⟩,rfl⟩⟩;have cD:=cC.ext bS;refine wm rfl (v:=.tuple #[.agg #[I c.1.a0,I c.1.a1,I c.1.a2],.bool c.2]) rfl<|wd rfl (fun st=>BS (v:=.agg #[I c.1.a0,I c.1.a1,I c.1.a2]) (ee st rfl) rfl)<|wd rfl (fun st=>BS (v:=.bool c.2) (ee st rfl) rfl)<|we rfl (fun st=>DQ (cs:= #[I 0,I 0,I 0]) W1 rfl) ?_;rintro _ dS ⟨aW,rfl,aX⟩;have bT:=cD.nb aX;have dC:=cD.Cz aX;refine Dv rfl rfl (fun st=>C4 (n:=3) (l:=[I c.1.a0,I c.1.a1,I c.1.a2]) (Fi:= #[I c.1.a0,I c.1.a1,I c.1.a2]) (ee st rfl) (ee st rfl) Vz aX.bk rfl rfl (show 0+3≤3 by decide) (Cq rfl) rfl) ?_;rintro _ dE bC;have cE:=bT.gr bC.gr 0 rfl;refine wa rfl (v:=.bool c.2) rfl<|Aj<|Ad<|Ai<|Ai<|Ae<|wm rfl (v:=.bool c.2) rfl<|wd rfl (fun st=>DK (ee st rfl))<|Aj<|Ad ?_;rcases As (!c.2) with aG|aG
  ·replace a:=AG a aG;have c6:c.2=false:=by simpa using aG
   refine AJ rfl aG<|Ai<|Ae<|wa rfl (v:=.slice none 0 0) rfl<|wa rfl (v:=I 2) rfl<|Aj<|Ad<|AM<|AE ?_;obtain rfl:=oi a;refine Gj rfl rfl rfl ?_;exact⟨cE.Bq,⟨_,_,rfl,⟨_,_,rfl,Sl.nil _ _ _⟩,rfl⟩⟩
  ·replace a:=AH a aG;have c7:c.2=true:=by simpa using aG
   refine AK rfl aG<|AQ<|Ad<|Ai<|Ae<|wa rfl (v:=.slice none 0 0) rfl<|Aj<|Ad<|Ai<|Ai<|Ae<|wd rfl (fun st=>Ap (ee st rfl) (PU _ _)) ?_;have b7:=(((bB.ext bS).ext aX.gr).gr bC.gr (bT.ne 1 0 rfl rfl rfl));refine wd rfl (fun st=>AL (v:=.slice h d.AS.length j) EB (ee st rfl) b7 rfl)<|wd rfl (fun st=>BD Tryz.underlying23 (ee st rfl))<|wm rfl (v:=I 0) rfl<|Aj<|Ad<|Bc ?_;have c8:=cE.nil;have cL:Ca (AF .i64) 3 w.heap.size dE (zf Z w [none,some aW,some b1]) none 0 ([]:List Int):=Ca.nil _ _ _ _ _;replace a:=bind_some a;obtain⟨z12,z,a⟩:=a;refine Cx (fun c9 t a4=>(c9=.exit 0∧∃b f,t.tmps.size=40∧t.defers=(X0).ds∧sl t 9=.slice b z12.length f∧Hp FN [] w [ob b,some aW,some b1] a4∧Ca (AF .i64) 3 w.heap.size a4 (zf Z w [ob b,some aW,some b1]) b f z12)) ?cM ?cN
   case cM=>
    clear a;refine Cw (fun(cO:Nat) (t:Act) (a4:World)=>∃o,∃m,∃g u,N2 bF d c cO o m=some z12∧t.tmps.size=40∧t.defers=(X0).ds∧sl t 7=pt aW 0∧sl t 9=.slice g o.length u∧sl t 26=.slice h d.AS.length j∧sl t 27=I (d.AS.length:Int)∧sl t 28=I m∧Hp FN [] w [ob g,some aW,some b1] a4∧Ca (AF .i64) 3 w.heap.size a4 (zf Z w [ob g,some aW,some b1]) g u o∧Bk a4 aW 182 #[I c.1.a0,I c.1.a1,I c.1.a2]∧Sl (BY (AF .i64)) a4 (zf Z w [ob g,some aW,some b1]) h j d.AS) bF ?cP ?cQ
    case cP=>
     intro st;have b8:=bC.bk;have bO:=((((aO.mv (Ab bS)).mv (An aX)).mv (bT.Bf bC.gr 0 rfl)).mv Ba);exact⟨([]:List Int),(0:Int),none,0,z,qz st,qd st,sp st 7 rfl,sp st 9 rfl,sp st 26 rfl,sp st 27 rfl,sp st 28 rfl,c8,cL,b8,bO⟩
    case cQ=>
     rintro(_|cO) dF dG ⟨o,m,g,u,z,b9,cA,aY,aZ,aP,aQ,aA,cF,y,aR,aC⟩
     ·exact absurd (show none=some _ from z) (by simp)
     rw[N2.eq_2] at z;have a:=z;clear z;refine Cl (N:=40) b9 cA<|Ai<|Ae<|wd rfl (fun st=>CY (ee st aA) (ee st aQ))<|Aj<|Ad<|Ai ?_;rcases As (decide (m<(d.AS.length:Int))) with aH|aH
     ·replace a:=AG a aH;refine AJ rfl aH<|AQ<|Ad<|Ai<|Bc<|Ai<|Ae ?_;replace a:=Bi a;obtain⟨i15,bD,cR,cS,cT,a⟩:=a;obtain⟨dK,dL,_,cU,⟨aE,aF,rfl,bU⟩,cV⟩:=Sl.Dd aC rfl cS;refine wd rfl (fun st=>Bj (k:=i15) Tryz.underlying23 Gh (ee st aP) cU (ee st aA) cR cT)<|wd rfl (fun st=>Bu (v:=.slice aE bD.length aF) EM (ee st rfl) cV rfl)<|wa rfl (v:=.slice aE bD.length aF) rfl<|Aj<|Ad<|Ae<|wm rfl (v:=.slice g o.length u) aZ<|wd rfl (fun st=>AW (l:=[I c.1.a0,I c.1.a1,I c.1.a2]) QQ (ee st aY) aR rfl rfl)<|wm rfl (v:=.slice aE bD.length aF) rfl ?_;replace a:=bind_some a;obtain⟨aI,cW,a⟩:=a;refine we rfl (fun st=>Az Abg (ee st rfl) (DH (ee st rfl) (ee st rfl)) (a183 bF c.1 bD aE aF ZA _ bU.all aI cW)) ?_;rintro _ dM ⟨aJ,rfl⟩;have cG:=cF.ext aJ;refine we rfl (fun st=>Dr (e:=3) (vs:= #[(0,I aI)]) (cs:= #[I aI]) (JU (ee st rfl)) (by kernel_rfl)) ?_;rintro _ dN ⟨dO,rfl,x⟩;have a3:=cG.nb x;have dA:=cG.Cz x;have a5:=((y.ext aJ (Ab aJ)).ext x.gr (An x));replace a:=Cu a;obtain⟨bV,a⟩:=a;refine we rfl (fun st=>Jr (ys:=[aI]) Tryz.underlying31 HI rfl rfl (by decide) (ee st rfl) rfl (ee st rfl) a5 (IT (D0:=[[I aI]]) x.bk ⟨rfl,trivial⟩ rfl) (by have:=bV;simp only[maxLen];omega) (by have:=bV;omega) a3.sz (by simp)) ?_;rintro _ dP ⟨cH,cI,rfl,aU,a9,cX⟩;have cY:=a3.row aU 1 rfl a9;have cZ:=EU cX (a3.CI aU 1 rfl (fun k hk=>(a9 k hk).1));refine wa rfl (v:=.slice cH ((o++[aI]).length) cI) rfl<|Aj<|BE<|Ad<|Ae ?_;replace a:=AP a;obtain⟨c0,a⟩:=a;refine wd rfl (fun st=>Ce (ee st aA) (ee st rfl) c0)<|wm rfl (v:=I (m+1)) rfl<|Aj ?_;have c1:=cY.erase 0;have bP:=(cZ.up (Aw 0));have bW:=(((aR.ext aJ).ext x.gr).gr aU (a3.ne 2 1 rfl rfl rfl));have bA:=((((aC.mv (Ab aJ)).mv (An x)).mv (a3.CI aU 1 rfl (fun k hk=>(a9 k hk).1))).mv (Aw 0));refine BI cO (Nat.lt_succ_self _) (fun st=>?_);exact⟨(o++[aI]),(m+1),cH,cI,a,qz st,qd st,sp st 7 aY,sp st 9 rfl,sp st 26 aP,sp st 27 aQ,sp st 28 rfl,c1,bP,bW,bA⟩
     ·replace a:=AH a aH;refine AK rfl aH<|Cp<|AI<|AI ?_;obtain rfl:=oi a;refine Cf (fun st=>?_);exact⟨rfl,g,u,qz st,qd st,sp st 9 aZ,cF,y⟩
   case cN=>
    rintro c9 dD dH (⟨rfl,b,f,bX,bY,bQ,bE,aD⟩);refine Cy (X:=X0) (N:=40) bX bY<|By<|Ad<|Ai<|Ae<|wm rfl (v:=.slice b z12.length f) bQ<|wa rfl (v:=.slice b z12.length f) rfl<|wa rfl (v:=I 0) rfl<|Aj<|Ad<|AM ?_;obtain rfl:=oi a;refine Gj rfl rfl rfl ?_;exact⟨bE.Bq,⟨_,_,rfl,⟨_,_,rfl,bE.IG (M:=[]) 0 rfl [] rfl trivial aD⟩,rfl⟩⟩
theorem a79 aQ a aO e f g h j k aA aB(Z:Nat→Prop) w(aR:Sl AT w Z e f a.Au)(aS:Sl (BY (AF .i64)) w Z g h a.AS)(aT:Sl AX w Z j k a.Av)(aU:Sl (AF .i64) w Z aA aB aO) bA(b:Du aQ a aO=some bA):
 CH Tryz.prog 79 #[.agg #[.slice e a.Au.length f,.slice g a.AS.length h,.slice j a.Av.length k],.slice aA aO.length aB] w (fun v w'=>Ext w w'∧Dt.R w' (zf Z w []) v bA):=by
 unfold Du at b;refine Bb (N:=22) Tryz.func79 rfl rfl (by simp) ?_;intro bI ha bJ;have a3:=AO (i:=0) ha rfl;have a4:=AO (i:=1) ha rfl;clear ha;have aW:Hp FN [] w [] w:=Hp.start (Co.none w);have aG:=aR.mv (Al (Z:=Z) (L:=[]) w);have aH:=aS.mv (Al (Z:=Z) (L:=[]) w);have aI:=aT.mv (Al (Z:=Z) (L:=[]) w);have aJ:=aU.mv (Al (Z:=Z) (L:=[]) w);refine Ai<|Ae<|we rfl (fun st=>Cs (v:=.agg #[.slice e a.Au.length f,.slice g a.AS.length h,.slice j a.Av.length k]) (cs:= #[.slice e a.Au.length f,.slice g a.AS.length h,.slice j a.Av.length k]) (ee st a3) rfl) ?_;rintro _ w1 ⟨b1,rfl,o⟩;have bB:=aW.nb o;have bG:=aW.Cz o;refine wa rfl (v:=.bool false) rfl<|Aj<|Ad<|Ai<|Ai<|Ae<|wd rfl (fun st=>AW (l:=[.slice e a.Au.length f,.slice g a.AS.length h,.slice j a.Av.length k]) Ol (ee st rfl) o.bk rfl rfl) ?_;have q:=(aG.mv (An o));have r:=(aH.mv (An o));have s:=(aI.mv (An o));replace b:=bind_some b;obtain⟨bC,bD,b⟩:=b;refine we rfl (fun st=>Az YC (ee st rfl) (C2 (ee st rfl)) (a127 aQ a e f g h j k ZA _ q.all r.all s.all bC bD)) ?_;rintro _ bL ⟨t,rfl⟩;have aX:=bB.ext t;refine wd rfl (fun st=>D6 (ee st rfl) (ee st rfl))<|Aj<|Ad ?_;rcases As (bC !=0) with aC|aC
 ·replace b:=AG b aC;refine AJ rfl aC<|Ai<|Ae<|wa rfl (v:=.bool false) rfl<|Aj<|Ad<|AM<|AE ?_;obtain rfl:=oi b;refine AN rfl rfl ?_;exact⟨aX.Bq,rfl⟩
 ·replace b:=AH b aC;refine AK rfl aC<|AQ<|Ad<|Ai<|Ae ?_;have aF:=(o.bk.ext t);refine wd rfl (fun st=>AW (l:=[.slice e a.Au.length f,.slice g a.AS.length h,.slice j a.Av.length k]) Ol (ee st rfl) aF rfl rfl)<|wm rfl (v:=.slice aA aO.length aB) a4 ?_;have u:=(q.mv (Ab t));have x:=(r.mv (Ab t));have y:=(s.mv (Ab t));have aK:=((aJ.mv (An o)).mv (Ab t));replace b:=bind_some b;obtain⟨d,bE,b⟩:=b;refine we rfl (fun st=>Az Abi (ee st rfl) (DH (ee st rfl) (ee st rfl)) (AgB aQ a aO e f g h j k aA aB ZA _ u.all x.all y.all aK.all d bE)) ?_;rintro _ bM ⟨aD,⟨_,_,rfl,⟨_,rfl,rfl⟩,rfl⟩⟩;have aY:=aX.ext aD;refine wm rfl (v:=.tuple #[.agg #[I d.1.a0,I d.1.a1,I d.1.a2],.bool d.2]) rfl<|wd rfl (fun st=>BS (v:=.agg #[I d.1.a0,I d.1.a1,I d.1.a2]) (ee st rfl) rfl)<|wd rfl (fun st=>BS (v:=.bool d.2) (ee st rfl) rfl)<|we rfl (fun st=>DQ (cs:= #[I 0,I 0,I 0]) W1 rfl) ?_;rintro _ bN ⟨bO,rfl,p⟩;have aE:=aY.nb p;have bH:=aY.Cz p;refine Dv rfl rfl (fun st=>C4 (n:=3) (l:=[I d.1.a0,I d.1.a1,I d.1.a2]) (Fi:= #[I d.1.a0,I d.1.a1,I d.1.a2]) (ee st rfl) (ee st rfl) Vz p.bk rfl rfl (show 0+3≤3 by decide) (Cq rfl) rfl) ?_;rintro _ bP z;have aZ:=aE.gr z.gr 0 rfl;refine wa rfl (v:=.bool d.2) rfl<|Aj<|Ad<|Ai<|Ae<|wm rfl (v:=.bool d.2) rfl<|wm rfl (v:=.bool d.2) rfl ?_;rcases As (d.2) with m|m
  ·replace b:=AG b m;have aV:=(((aF.ext aD).ext p.gr).gr z.gr (aE.ne 1 0 rfl rfl rfl));refine Ax rfl rfl (Ah rfl m) rfl (by decide) (fun st=>AW (l:=[.slice e a.Au.length f,.slice g a.AS.length h,.slice j a.Av.length k]) Ol (ee st rfl) aV rfl rfl)<|Ax rfl rfl (Ah rfl m) rfl (by decide) (fun st=>AW (l:=[I d.1.a0,I d.1.a1,I d.1.a2]) QQ (ee st rfl) z.bk rfl rfl) ?_;have aL:=(((u.mv (Ab aD)).mv (An p)).mv (aE.Bf z.gr 0 rfl));have aM:=(((x.mv (Ab aD)).mv (An p)).mv (aE.Bf z.gr 0 rfl));have aN:=(((y.mv (Ab aD)).mv (An p)).mv (aE.Bf z.gr 0 rfl));replace b:=bind_some b;obtain⟨aP,a5,b⟩:=b;refine Dw rfl rfl (Ah rfl m) rfl (by decide) (fun st=>Az Ae8 (ee st rfl) (E9 (ee st rfl) (ee st rfl) (ee st rfl)) (AhI aQ a d.1 ([]:List Int) e f g h j k none 0 ZA _ aL.all aM.all aN.all (Sl.nil (AF .i64) _ _) aP a5)) ?_;rintro _ bK ⟨a9,rfl⟩;have bF:=aZ.ext a9;refine wd rfl (fun st=>Bl (v:=.bool aP) (ee st rfl) m (ee st rfl))<|wa rfl (v:=.bool aP) rfl<|Aj<|Ad<|AM ?_;obtain rfl:=oi b;refine AN rfl rfl ?_;exact⟨bF.Bq,rfl⟩
  ·replace b:=AH b m;refine AB (c:=false) rfl rfl (Ah rfl m) (by decide) rfl (by decide)<|AB (c:=false) rfl rfl (Ah rfl m) (by decide) rfl (by decide)<|AB (c:=false) rfl rfl (Ah rfl m) (by decide) rfl (by decide)<|wd rfl (fun st=>BN (v:=.bool false) (ee st rfl) m (ee st rfl))<|wa rfl (v:=.bool false) rfl<|Aj<|Ad<|AM ?_;obtain rfl:=oi b;refine AN rfl rfl ?_;exact⟨aZ.Bq,rfl⟩
end Go.Proofs.YtbhofkcbfblijaaGreat
end
