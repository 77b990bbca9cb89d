import Derived.Test.YtcdofnchafcfpaaGreatCM1
import Derived.WalkKit
import Derived.KernelRfl
import Derived.WalkSpells
import Derived.WalkLawsBesides
import Derived.Maps.AppendAt
import Derived.OrdersIn
import Derived.RangeFuncIn
import Derived.RangeFuncLeaves
import Derived.RangeFuncRecord
import Derived.RangeFuncSeq
import Derived.Scope
import Derived.DeepKeys3
import Derived.Laws.CopyRow
import Derived.Laws.OwnMore
import Derived.Laws.MakeOwn
import Derived.Laws.IdiomCopy
import Derived.Sort.OwnSortedInts
import Derived.Lib.RowBridge
import Derived.Test.YtcdofnchafcfpaaGreatProg
/-
  The contracts of the functions of the program and of the reference, and the logic that they are proved in: the base that several claims of this seat share.
-/
set_option linter.all false
section
namespace Go.Proofs.YtcdofnchafcfpaaGreat
open Go.RowKit Go.WideShapes
def CS(f:(List Int)→Int→Cf→Int→(List Int)→Option ((List (List Int×Int))×Int×(List Int)))(h:List Int)(b:Cf):Nat→Int→Int→(List Int)→(List (List Int×Int))→Option (Int×(List Int)×(List (List Int×Int)))
 |0,_,_,_,_=>none
 |i+1,a,c,d,e=>cond (decide (a<(b.weights.length:Int))) ((Hs (((0+h.length:Nat):Int)≤140737488355328/8)).bind fun _=>(Hs (((h.length+[a].length:Nat):Int)≤140737488355328/8)).bind fun _=>(i64 (a+1)).bind fun _=>(f (h++[a]) (a+1) (⟨b.AE,b.AF,b.AB,b.B6,b.AR,b.AY,b.Bf,b.weights,b.BL,e⟩:Cf) c d).bind fun g=>(i64 (a+1)).bind fun _=>CS f h b i (a+1) g.2.1 g.2.2 g.1) (some ((c,d,e)))
def FE(f:(List Int)→Int→Cf→Int→(List Int)→Option ((List (List Int×Int))×Int×(List Int)))(h:List Int)(b:Cf):Nat→Int→Int→(List Int)→(List (List Int×Int))→Option (Int×(List Int)×(List (List Int×Int)))
 |0,_,_,_,_=>none
 |i+1,a,c,d,e=>cond (decide (a<(b.weights.length:Int))) ((Hs (((0+h.length:Nat):Int)≤140737488355328/8)).bind fun _=>(Hs (((h.length+[a].length:Nat):Int)≤140737488355328/8)).bind fun _=>(i64 (a+1)).bind fun _=>(f (h++[a]) (a+1) (⟨b.AE,b.AF,b.AB,b.B6,b.AR,b.AY,b.Bf,b.weights,b.BL,e⟩:Cf) c d).bind fun g=>(i64 (a+1)).bind fun _=>FE f h b i (a+1) g.2.1 g.2.2 g.1) (some ((c,d,e)))
def Dh(a:Nat):Nat→(List Int)→Int→Cf→Int→(List Int)→Option ((List (List Int×Int))×Int×(List Int))
 |0,_,_,_,_,_=>none
 |f+1,b,g,e,h,i=>(EV a e b).bind fun d=>cond (decide (h<d.1.Lo)) ((Hs (((0+b.length:Nat):Int)≤140737488355328/8)).bind fun _=>(CS (Dh a f) b e a g d.1.Lo b d.2).bind fun z9=>some ((z9.2.2,z9.1,z9.2.1))) ((FE (Dh a f) b e a g h i d.2).bind fun c=>some ((c.2.2,c.1,c.2.1)))
def HN(c:Nat)(f:AS):Option ((List Int)×Int×Int):=
 (Ez c f true).bind fun b=>Option.elim b.1 (cond (b.2 !=0) (some ((([]:List Int),0,b.2))) (none)) (fun a=>cond (b.2 !=0) (some ((([]:List Int),0,b.2))) ((EV c a ([]:List Int)).bind fun d=>(Dh c c ([]:List Int) 0 (⟨a.AE,a.AF,a.AB,a.B6,a.AR,a.AY,a.Bf,a.weights,a.BL,d.2⟩:Cf) d.1.Lo ([]:List Int)).bind fun e=>some ((e.2.2,e.2.1,0))))
def DA(d:Nat)(a:Int)(b:Int)(c:Int):Option (Bool):=
 cond (decide (b≤a)) (some (decide (a≤c))) (some (false))
def Ef(d:Nat)(a:AH)(b:Int)(c:Int):Option (Bool):=
 cond (decide (b≤a.Lo)) (cond (decide (a.Lo≤a.Hi)) (some (decide (a.Hi≤c))) (some (false))) (some (false))
def EW(b:Nat)(a:AH):Option (Int):=
 (i64 (a.Hi-a.Lo)).bind fun _=>(i64 ((a.Hi-a.Lo)+1)).bind fun _=>some ((a.Hi-a.Lo)+1)
def C3(c:List Int):Nat→Int→Int→Option (Int)
 |0,_,_=>none
 |e+1,b,a=>cond (decide (a<(c.length:Int))) ((idx c a).bind fun d=>(i64 (b+d)).bind fun _=>(i64 (a+1)).bind fun _=>C3 c e (b+d) (a+1)) (some (b))
def Fa(a:Nat)(b:List Int):Option (Int):=
 (C3 b a (0:Int) (0:Int)).bind fun c=>some (c)
def CD(c:Nat)(b:List Int):Nat→Int→Option ((Bool)⊕(Unit))
 |0,_=>none
 |d+1,a=>cond (decide (a<(b.length:Int))) ((idx b a).bind fun e=>(DA c e 0 30).bind fun f=>cond (!f) (some (.inl false)) ((i64 (a+1)).bind fun _=>CD c b d (a+1))) (some (.inr ()))
def FF(b:Nat)(d:Av)(c:List Int):Option (Bool):=
 (CD b c b (0:Int)).bind fun z=>Sum.elim (fun a=>some (a)) (fun a=>some ((c.length:Int)==(d.Ac.length:Int))) z
def CV(d:Nat)(c:Av):Nat→Int→Int→Option (Int)
 |0,_,_=>none
 |f+1,b,a=>cond (decide (a<(c.Ac.length:Int))) ((idx c.Ac a).bind fun g=>(EW d g).bind fun e=>(i64 (b*e)).bind fun _=>(i64 (a+1)).bind fun _=>CV d c f (min (3000:Int) (b*e)) (a+1)) (some (b))
def DK(a:Nat)(b:Av):Option (Int):=
 (CV a b a (1:Int) (0:Int)).bind fun z2=>some (z2)
def CN(c:Nat)(b:Av):Nat→Int→Option ((Int)⊕(Unit))
 |0,_=>none
 |d+1,a=>cond (decide (a<(b.Ac.length:Int))) ((idx b.Ac a).bind fun e=>(Ef c e 0 100).bind fun f=>cond (!f) (some (.inl (1:Int))) ((i64 (a+1)).bind fun _=>CN c b d (a+1))) (some (.inr ()))
def Cu(c:Nat)(b:Av):Nat→Int→Option ((Int)⊕(Unit))
 |0,_=>none
 |h+1,a=>cond (decide (a<(b.Ai.length:Int))) ((idx b.Ai a).bind fun d=>(FF c b d).bind fun e=>cond (!e) (some (.inl (1:Int))) ((idx b.Ai a).bind fun f=>(Fa c f).bind fun g=>cond (g==0) (some (.inl (1:Int))) ((i64 (a+1)).bind fun _=>Cu c b h (a+1)))) (some (.inr ()))
def Ck(d:Nat)(c:Av):Nat→Int→Option ((Int)⊕(Unit))
 |0,_=>none
 |e+1,a=>cond (decide (a<(c.Ap.length:Int))) ((idx c.Ap a).bind fun b=>cond (b.BQ) ((i64 ((c.Ai.length:Int)-1)).bind fun _=>(DA d b.Number 0 ((c.Ai.length:Int)-1)).bind fun f=>cond (!f) (some (.inl (1:Int))) ((Ef d (⟨b.AO,b.AP⟩:AH) 0 100).bind fun g=>cond (!g) (some (.inl (1:Int))) ((i64 (a+1)).bind fun _=>Ck d c e (a+1)))) ((i64 ((c.Ac.length:Int)-1)).bind fun _=>(DA d b.Number 0 ((c.Ac.length:Int)-1)).bind fun h=>cond (!h) (some (.inl (1:Int))) ((Ef d (⟨b.AO,b.AP⟩:AH) 0 100).bind fun i=>cond (!i) (some (.inl (1:Int))) ((i64 (a+1)).bind fun _=>Ck d c e (a+1))))) (some (.inr ()))
def EB(b:Nat)(a:Av):Option (Int):=
 cond (decide ((3:Int)<(a.Ac.length:Int))) (some (3)) (cond (decide ((3:Int)<(a.Ai.length:Int))) (some (3)) (cond (decide ((5:Int)<(a.Ap.length:Int))) (some (3)) (cond ((a.Ac.length:Int)==0) (some (1)) ((CN b a b (0:Int)).bind fun z=>Sum.elim (fun e=>some (e)) (fun e=>(Cu b a b (0:Int)).bind fun z=>Sum.elim (fun c=>some (c)) (fun c=>(Ck b a b (0:Int)).bind fun z=>Sum.elim (fun d=>some (d)) (fun d=>(DK b a).bind fun f=>cond (decide ((2000:Int)<f)) (some (3)) (some (0))) z) z) z))))
def Eg(g:Nat)(h:Av):Nat→Int→(List Int)→Int→Option ((List Int))
 |0,_,_,_=>none
 |i+1,a,c,b=>cond (decide (b<(h.Ac.length:Int))) ((idx h.Ac b).bind fun e=>(EW g e).bind fun d=>(rem a d).bind fun _=>(i64 (e.Lo+(a%d))).bind fun _=>(Hs (((c.length+[e.Lo+(a%d)].length:Nat):Int)≤140737488355328/8)).bind fun _=>(EW g e).bind fun f=>(quo a f).bind fun _=>(i64 (a/f)).bind fun _=>(i64 (b+1)).bind fun _=>Eg g h i (a/f) (c++[e.Lo+(a%d)]) (b+1)) (some (c))
def GV(a:Nat)(b:Av)(c:Int):Option ((List Int)):=
 (Eg a b a c ([]:List Int) (0:Int)).bind fun z2=>some (z2)
def Ds(d:Nat)(b:Av)(c:List Int):Nat→Int→Option ((Bool)⊕(Unit))
 |0,_=>none
 |e+1,a=>cond (decide (a<(c.length:Int))) (cond (decide (a<(b.Ac.length:Int))) ((idx c a).bind fun f=>(idx b.Ac a).bind fun g=>(idx b.Ac a).bind fun h=>(DA d f g.Lo h.Hi).bind fun i=>cond (!i) (some (.inl false)) ((i64 (a+1)).bind fun _=>Ds d b c e (a+1))) (some (.inr ()))) (some (.inr ()))
def Gn(b:Nat)(c:Av)(d:List Int):Option (Bool):=
 (Ds b c d b (0:Int)).bind fun z=>Sum.elim (fun a=>some (a)) (fun a=>some ((d.length:Int)==(c.Ac.length:Int))) z
def D1(c:List Int)(f:List Int):Nat→Int→Int→Option (Int)
 |0,_,_=>none
 |g+1,b,a=>cond (decide (a<(c.length:Int))) ((idx f a).bind fun d=>(idx c a).bind fun e=>(i64 (d*e)).bind fun _=>(i64 (b+(d*e))).bind fun _=>(i64 (a+1)).bind fun _=>D1 c f g (b+(d*e)) (a+1)) (some (b))
def FG(c:Nat)(e:List Int)(d:List Int):Option (Int):=
 (D1 e d c (0:Int) (0:Int)).bind fun a=>(Fa c d).bind fun b=>(quo a b).bind fun _=>(i64 (a/b)).bind fun _=>some (a/b)
def Eh(c:Nat)(d:Av)(a:List Int)(b:Int):Option (Int):=
 cond (decide (b<(a.length:Int))) ((idx a b).bind fun e=>some (e)) ((i64 (b-(a.length:Int))).bind fun _=>(idx d.Ai (b-(a.length:Int))).bind fun f=>(FG c a f).bind fun g=>some (g))
def Gd(b:Nat)(c:Av)(d:List Int)(a:Bq):Option (Bool):=
 cond (a.BQ) ((i64 (a.Number+(c.Ac.length:Int))).bind fun _=>(Eh b c d (a.Number+(c.Ac.length:Int))).bind fun g=>(DA b g a.AO a.AP).bind fun h=>some (h)) ((Eh b c d a.Number).bind fun e=>(DA b e a.AO a.AP).bind fun f=>some (f))
def CE(c:Nat)(b:Av)(d:List Int):Nat→Int→Option ((Bool)⊕(Unit))
 |0,_=>none
 |g+1,a=>cond (decide (a<(b.Ap.length:Int))) ((idx b.Ap a).bind fun e=>(Gd c b d e).bind fun f=>cond (!f) (some (.inl false)) ((i64 (a+1)).bind fun _=>CE c b d g (a+1))) (some (.inr ()))
def FH(b:Nat)(c:Av)(d:List Int):Option (Bool):=
 (Gn b c d).bind fun e=>cond (!e) (some (false)) ((CE b c d b (0:Int)).bind fun z=>Sum.elim (fun a=>some (a)) (fun a=>some (true)) z)
def Dn(c:Nat)(d:Av):Nat→(List (List Int))→Int→Option ((List (List Int)))
 |0,_,_=>none
 |f+1,b,a=>(DK c d).bind fun g=>cond (decide (a<g)) ((GV c d a).bind fun e=>(FH c d e).bind fun h=>cond (h) ((Hs (((b.length+[e].length:Nat):Int)≤140737488355328/24)).bind fun _=>(i64 (a+1)).bind fun _=>Dn c d f (b++[e]) (a+1)) ((i64 (a+1)).bind fun _=>Dn c d f b (a+1))) (some (b))
def FX(a:Nat)(b:Av):Option ((List (List Int))):=
 (Dn a b a ([]:List (List Int)) (0:Int)).bind fun z2=>some (z2)
def FY(b:Nat)(a:Av):Option (Int):=
 (i64 ((a.Ac.length:Int)+(a.Ai.length:Int))).bind fun _=>some ((a.Ac.length:Int)+(a.Ai.length:Int))
def Gj(b:Nat)(a:AH):Option (AH):=
 some (a)
def GB(b:Nat)(a:List Int):Option ((List Int)):=
 (Hs (((([]:List Int).length+a.length:Nat):Int)≤140737488355328/8)).bind fun _=>some (([]:List Int)++a)
def CM(d:Nat)(c:Av):Nat→Int→(List AH)→Option ((List AH))
 |0,_,_=>none
 |f+1,b,a=>cond (decide (b<(c.Ac.length:Int))) ((idx c.Ac b).bind fun g=>(Gj d g).bind fun e=>(Hs (((a.length+[e].length:Nat):Int)≤140737488355328/16)).bind fun _=>(i64 (b+1)).bind fun _=>CM d c f (b+1) (a++[e])) (some (a))
def CF(e:Nat)(d:Av):Nat→Int→(List (List Int))→Option ((List (List Int)))
 |0,_,_=>none
 |g+1,b,a=>cond (decide (b<(d.Ai.length:Int))) ((idx d.Ai b).bind fun f=>(GB e f).bind fun c=>(Hs (((a.length+[c].length:Nat):Int)≤140737488355328/24)).bind fun _=>(i64 (b+1)).bind fun _=>CF e d g (b+1) (a++[c])) (some (a))
def CG(f:Nat)(e:Av):Nat→Int→(List Bq)→Option ((List Bq))
 |0,_,_=>none
 |g+1,b,a=>cond (decide (b<(e.Ap.length:Int))) ((idx e.Ap b).bind fun c=>(Gj f (⟨c.AO,c.AP⟩:AH)).bind fun d=>(Hs (((a.length+[(⟨c.BQ,c.Number,d.Lo,d.Hi⟩:Bq)].length:Nat):Int)≤140737488355328/32)).bind fun _=>(i64 (b+1)).bind fun _=>CG f e g (b+1) (a++[(⟨c.BQ,c.Number,d.Lo,d.Hi⟩:Bq)])) (some (a))
def Ei(a:Nat)(b:Av):Option (Av):=
 (CM a b a (0:Int) ([]:List AH)).bind fun z4=>(CF a b a (0:Int) ([]:List (List Int))).bind fun c=>(CG a b a (0:Int) ([]:List Bq)).bind fun z24=>some ((⟨z4,c,z24⟩:Av))
def CX(b:Av):Nat→Int→Option ((Bool)⊕(Unit))
 |0,_=>none
 |c+1,a=>cond (decide (a<(b.Ai.length:Int))) ((idx b.Ai a).bind fun d=>cond (decide ((6:Int)<(d.length:Int))) (some (.inl false)) ((i64 (a+1)).bind fun _=>CX b c (a+1))) (some (.inr ()))
def GC(c:Nat)(a:Av):Option (Bool):=
 cond (decide ((5:Int)<(a.Ac.length:Int))) (some (false)) (cond (decide ((5:Int)<(a.Ai.length:Int))) (some (false)) (cond (decide ((7:Int)<(a.Ap.length:Int))) (some (false)) ((CX a c (0:Int)).bind fun z=>Sum.elim (fun b=>some (b)) (fun b=>(EB c a).bind fun d=>cond (d !=0) (some (true)) ((DK c a).bind fun e=>some (decide (e≤150)))) z)))
end Go.Proofs.YtcdofnchafcfpaaGreat
end
section
namespace Go.Proofs.YtcdofnchafcfpaaGreat
theorem bd{α β:Type}{x:Option α}{a:α}{f:α→Option β}(h:x=some a):x.bind f=f a:=by rw[h];rfl
theorem BK{β:Type}{x:Int}{f:Int→Option β}(h0:-9223372036854775808≤x)(h1:x≤9223372036854775807):(i64 x).bind f=f x:=bd (V6 h0 h1)
theorem CI{α β:Type}{xs:List α}{k:Nat}{f:α→Option β}(h:k<xs.length):(idx xs (k:Int)).bind f=f xs[k]:=bd (idx_eq h)
theorem GZ{β:Type}{p:Prop}[Decidable p]{f:Unit→Option β}(h:p):(Hs p).bind f=f ():=bd (if_pos h)
theorem Oq{β:Type}{a b:Int}{f:Int→Option β}(h0:0≤a)(h1:1≤b):(rem a b).bind f=f (a%b):=bd (if_pos ⟨h0,h1⟩)
theorem SW{β:Type}{a b:Int}{f:Int→Option β}(h0:0≤a)(h1:1≤b):(quo a b).bind f=f (a/b):=bd (if_pos ⟨h0,h1⟩)
theorem Y7{β:Type}{n:Int}{b:Nat}{f:Unit→Option β}(h0:0≤n)(h1:n*b≤140737488355328)(h2:n≤140737488355328):(TJ n b).bind f=f ():=bd (if_pos ⟨h0,h1,h2⟩)
theorem Yu{β:Type}{n:Nat}{a b:Int}{f:Unit→Option β}(h:0≤a∧a≤b∧b≤(n:Int)):(QB n a b).bind f=f ():=bd (if_pos h)
theorem ct{α:Type}{b:Bool}{x y:α}(h:b=true):cond b x y=x:=by rw[h];rfl
theorem cf{α:Type}{b:Bool}{x y:α}(h:b=false):cond b x y=y:=by rw[h];rfl
theorem nt{α:Type}{x y:α}:cond (!true) x y=y:=rfl
theorem nf{α:Type}{x y:α}:cond (!false) x y=x:=rfl
theorem dt{p:Prop}[Decidable p](h:p):decide p=true:=decide_eq_true h
theorem df{p:Prop}[Decidable p](h:¬p):decide p=false:=decide_eq_false h
theorem D5(i:Nat):(i:Int)+1=((i+1:Nat):Int):=by omega
def Em(n a b:Int):Bool:=decide (a≤n)&&decide (n≤b)
theorem DQ{n a b:Int}:Em n a b=true↔a≤n∧n≤b:=by simp[Em]
theorem TL{σ β:Type}(F:Nat→σ→Nat→Option β)(n:Nat)(g:σ→Nat→σ)(I:Nat→σ→Prop)(a:∀i s,i<n→I i s→I (i+1) (g s i))(h:∀m i s,i<n→I i s→F (m+1) s i=F m (g s i) (i+1)):
  ∀(d i k:Nat) (s:σ),n=i+d→d≤k→I i s→F k s i=F (k-d) ((List.range' i d).foldl g s) n∧I n ((List.range' i d).foldl g s)
 |0,i,k,s,hn,_,hs=>by
  obtain rfl:n=i:=by omega
  exact⟨rfl,hs⟩
 |d+1,i,0,s,_,hk,_=>by omega
 |d+1,i,k+1,s,hn,hk,hs=>by
  have:=TL F n g I a h d (i+1) k (g s i) (by omega) (by omega) (a i s (by omega) hs);rw[h k i s (by omega) hs,List.range'_succ,List.foldl_cons,show k+1-(d+1)=k-d by omega];exact this
theorem Lc{α σ:Type}(g:σ→α→σ)(xs:List α)(f:σ→Nat→σ)(hf:∀s i (hi:i<xs.length),f s i=g s xs[i]):∀(d i:Nat) (s:σ),xs.length=i+d→(List.range' i d).foldl f s=(xs.drop i).foldl g s
 |0,i,s,h=>by rw[List.drop_eq_nil_of_le (by omega)];rfl
 |d+1,i,s,h=>by
  have hi:i<xs.length:=by omega
  rw[List.range'_succ,List.foldl_cons,List.drop_eq_getElem_cons hi,List.foldl_cons,hf s i hi];exact Lc g xs f hf d (i+1) _ (by omega)
theorem XH {α σ β:Type} (xs:List α) (F:Nat→σ→Nat→Option β) (g:σ→α→σ) (I:Nat→σ→Prop) (b:∀i s (hi:i<xs.length),I i s→I (i+1) (g s xs[i])) (h:∀m i s (hi:i<xs.length),I i s→F (m+1) s i=F m (g s xs[i]) (i+1))
  {k:Nat} {s0:σ} (hk:xs.length≤k) (h0:I 0 s0):F k s0 0=F (k-xs.length) (xs.foldl g s0) xs.length∧I xs.length (xs.foldl g s0):=by
 by_cases a:xs.length=0
 ·obtain rfl:=List.eq_nil_of_length_eq_zero a;exact⟨rfl,h0⟩
 ·have a0:α:=xs[0]'(by omega);have e:=Lc g xs (fun s i=>g s (xs.getD i a0)) (fun s i hi=>by simp[List.getElem?_eq_getElem hi]) xs.length 0 s0 (by omega);rw[List.drop_zero] at e;rw[←e];refine TL F xs.length (fun s i=>g s (xs.getD i a0)) I (fun i s hi hs=>?_) (fun m i s hi hs=>?_) xs.length 0 k s0 (by omega) hk h0
  ·have:=b i s hi hs;simpa[List.getElem?_eq_getElem hi] using this
  ·have:=h m i s hi hs;simpa[List.getElem?_eq_getElem hi] using this
theorem MI{α σ β:Type}(xs:List α)(F:Nat→σ→Nat→Option β)(g:σ→α→σ)(I:Nat→σ→Prop)(fin:σ→β)(a:∀i s (hi:i<xs.length),I i s→I (i+1) (g s xs[i]))(h:∀m i s (hi:i<xs.length),I i s→F (m+1) s i=F m (g s xs[i]) (i+1))
  (hn:∀m s,I xs.length s→F (m+1) s xs.length=some (fin s)){k:Nat}{s0:σ}(hk:xs.length<k)(h0:I 0 s0):F k s0 0=some (fin (xs.foldl g s0)):=by
 obtain⟨h1,h2⟩:=XH xs F g I a h (k:=k) (s0:=s0) (by omega) h0;obtain⟨j,b⟩:∃j,k-xs.length=j+1:=⟨k-xs.length-1,by omega⟩;rw[h1,b,hn _ _ h2]
theorem TM {β:Type} (F:Nat→Nat→Option (β⊕Unit)) (n:Nat) (ok:Nat→Bool) (b:β) (h:∀m i,i<n→F (m+1) i=cond (ok i) (F m (i+1)) (some (.inl b))) (hn:∀m,F (m+1) n=some (.inr ())):
  ∀(d i k:Nat),n=i+d→d<k→F k i=some (cond ((List.range' i d).all ok) (.inr ()) (.inl b))
 |0,i,0,_,hk=>by omega
 |0,i,k+1,hi,_=>by
  obtain rfl:n=i:=by omega
  exact hn k
 |d+1,i,0,_,hk=>by omega
 |d+1,i,k+1,hi,hk=>by
  rw[h k i (by omega),List.range'_succ,List.all_cons];cases ok i with
  |false=>rfl
  |true=>rw[Bool.true_and];exact TM F n ok b h hn d (i+1) k (by omega) (by omega)
theorem MJ{α:Type}(p:α→Bool)(xs:List α)(ok:Nat→Bool)(hf:∀i (hi:i<xs.length),ok i=p xs[i]):∀(d i:Nat),xs.length=i+d→(List.range' i d).all ok=(xs.drop i).all p
 |0,i,h=>by rw[List.drop_eq_nil_of_le (by omega)];rfl
 |d+1,i,h=>by
  have hi:i<xs.length:=by omega
  rw[List.range'_succ,List.all_cons,List.drop_eq_getElem_cons hi,List.all_cons,hf i hi];rw[MJ p xs ok hf d (i+1) (by omega)]
theorem KF{α β:Type}(xs:List α)(F:Nat→Nat→Option (β⊕Unit))(ok:α→Bool)(b:β)(h:∀m i (hi:i<xs.length),F (m+1) i=cond (ok xs[i]) (F m (i+1)) (some (.inl b)))(hn:∀m,F (m+1) xs.length=some (.inr ()))
  {k:Nat}(hk:xs.length<k):F k 0=some (cond (xs.all ok) (.inr ()) (.inl b)):=by
 by_cases a:xs.length=0
 ·obtain rfl:=List.eq_nil_of_length_eq_zero a;obtain⟨k,rfl⟩:∃k',k=k'+1:=⟨k-1,by omega⟩;exact hn k
 ·have a0:α:=xs[0]'(by omega);have e:=MJ ok xs (fun i=>ok (xs.getD i a0)) (fun i hi=>by simp[List.getElem?_eq_getElem hi]) xs.length 0 (by omega);rw[List.drop_zero] at e;rw[←e];refine TM F xs.length (fun i=>ok (xs.getD i a0)) b (fun m i hi=>?_) hn xs.length 0 k (by omega) hk;have:=h m i hi;simpa[List.getElem?_eq_getElem hi] using this
theorem JY:∀(l:List Int) (s:Int),l.foldl (· +·) s=s+l.sum
 |[],s=>by simp
 |x::l,s=>by rw[List.foldl_cons,JY l,List.sum_cons];omega
theorem Kj{a b:Int}(c:a≤0)(hb:0≤b):∀l:List Int,(∀x∈l,a≤x∧x≤b)→a*l.length≤l.sum∧l.sum≤b*l.length
 |[],_=>by simp
 |x::l,h=>by
  have h1:=h x (List.mem_cons_self ..);have h2:=Kj c hb l fun y d=>h y (List.mem_cons_of_mem _ d);rw[List.sum_cons,List.length_cons];have e:a*((l.length+1:Nat):Int)=a*l.length+a:=by rw[Int.natCast_add,Int.mul_add];simp
  have f:b*((l.length+1:Nat):Int)=b*l.length+b:=by rw[Int.natCast_add,Int.mul_add];simp
  omega
def run {σ α:Type} (cb:σ→α→Option (Bool×σ)):List α→σ→Option (Bool×σ)
 |[],s=>some (true,s)
 |x::l,s=>(cb s x).bind fun r=>cond r.1 (run cb l r.2) (some (false,r.2))
theorem run_pure{σ α:Type}{cb:σ→α→Option (Bool×σ)}{ok:α→Bool}:∀(l:List α) (s:σ),(∀x∈l,∀s,cb s x=some (ok x,s))→run cb l s=some (l.all ok,s)
 |[],s,_=>rfl
 |x::l,s,h=>by
  rw[run,bd (h x (List.mem_cons_self ..) s),List.all_cons];cases ok x with
  |false=>rfl
  |true=>exact run_pure l s fun y a=>h y (List.mem_cons_of_mem _ a)
theorem PI{σ α:Type}(F:Nat→Int→σ→Option ((Int×σ)⊕σ))(cb:σ→α→Option (Bool×σ))(p:List α)
  (a:∀m i s,F (m+1) i s=cond (decide (i<(p.length:Int))) ((idx p i).bind fun x=>(((cb s x).bind fun r=>some (!r.1,r.2)).bind fun r=>some (r.1,r.2)).bind fun r=>cond r.1 (some (.inl (i,r.2))) ((i64 (i+1)).bind fun _=>F m (i+1) r.2)) (some (.inr s)))
  (hp:p.length≤5000):∀(n m i:Nat) (s:σ),p.length=i+n→n<m→
  (((F m (i:Int) s).bind fun z=>Sum.elim (fun q=>some (q.1,q.2)) (fun q=>some (((-1:Int)),q)) z).bind fun r=>some (decide ((0:Int)≤r.1),r.2)).bind (fun r=>some (!r.1,r.2))=run cb (p.drop i) s
 |n,0,i,s,h,hm=>by omega
 |0,m+1,i,s,h,hm=>by
  rw[a,cf (df (by omega)),List.drop_eq_nil_of_le (by omega)];rfl
 |n+1,m+1,i,s,h,hm=>by
  have hi:i<p.length:=by omega
  rw[a,ct (dt (by omega)),CI hi,List.drop_eq_getElem_cons hi,run];cases cb s p[i] with
  |none=>rfl
  |some r=>
   obtain⟨b,s2⟩:=r;simp only[Option.bind_some];cases b with
   |false=>
    rw[nf];show some (!decide ((0:Int)≤(i:Int)),s2)=some (false,s2);rw[dt (by omega)];rfl
   |true=>
    rw[nt,BK (by omega) (by omega),D5 i,ct rfl];exact PI F cb p a hp n m (i+1) s2 (by omega) (by omega)
theorem IL{σ α:Type}{F:Nat→Int→σ→Option ((Int×σ)⊕σ)}{cb:σ→α→Option (Bool×σ)}{p:List α}
  (a:∀m i s,F (m+1) i s=cond (decide (i<(p.length:Int))) ((idx p i).bind fun x=>(((cb s x).bind fun r=>some (!r.1,r.2)).bind fun r=>some (r.1,r.2)).bind fun r=>cond r.1 (some (.inl (i,r.2))) ((i64 (i+1)).bind fun _=>F m (i+1) r.2)) (some (.inr s)))
  (hp:p.length≤900){K:Nat}(hK:1000≤K)(s:σ):
  (((F K (0:Int) s).bind fun z=>Sum.elim (fun q=>some (q.1,q.2)) (fun q=>some (((-1:Int)),q)) z).bind fun r=>some (decide ((0:Int)≤r.1),r.2)).bind (fun r=>some (!r.1,r.2))=run cb p s:=
 PI F cb p a (by omega) p.length K 0 s (by omega) (by omega)
section
variable{K:Nat}(hK:1000≤K)
include hK
theorem Pk{σ:Type}(cb:σ→AH→Option (Bool×σ))(p:List AH)(hp:p.length≤900)(s:σ):HU K cb p s=run cb p s:=
 IL (F:=D6 (fun(st:σ) (x:AH)=>(Gs K cb x st).bind fun r=>some (r.1,r.2)) p) (fun _ _ _=>rfl) hp hK s
theorem QI{σ:Type}(cb:σ→List Int→Option (Bool×σ))(p:List (List Int))(hp:p.length≤900)(s:σ):Ie K cb p s=run cb p s:=
 IL (F:=En (fun(st:σ) (x:List Int)=>(GU K cb x st).bind fun r=>some (r.1,r.2)) p) (fun _ _ _=>rfl) hp hK s
theorem Pm{σ:Type}(cb:σ→Bq→Option (Bool×σ))(p:List Bq)(hp:p.length≤900)(s:σ):HV K cb p s=run cb p s:=
 IL (F:=Ea (fun(st:σ) (x:Bq)=>(Gu K cb x st).bind fun r=>some (r.1,r.2)) p) (fun _ _ _=>rfl) hp hK s
theorem Rp{σ:Type}(cb:σ→Int→Option (Bool×σ))(p:List Int)(hp:p.length≤900)(s:σ):Iu K cb p s=run cb p s:=
 IL (F:=EF (fun(st:σ) (x:Int)=>(G9 K cb x st).bind fun r=>some (r.1,r.2)) p) (fun _ _ _=>rfl) hp hK s
theorem Ot{σ:Type}(cb:σ→B4→Option (Bool×σ))(p:List B4)(hp:p.length≤900)(s:σ):HG K cb p s=run cb p s:=
 IL (F:=Eb (fun(st:σ) (x:B4)=>(Gb K cb x st).bind fun r=>some (r.1,r.2)) p) (fun _ _ _=>rfl) hp hK s
theorem Ou{σ:Type}(cb:σ→CL→Option (Bool×σ))(p:List CL)(hp:p.length≤900)(s:σ):HH K cb p s=run cb p s:=
 IL (F:=Ec (fun(st:σ) (x:CL)=>(Gc K cb x st).bind fun r=>some (r.1,r.2)) p) (fun _ _ _=>rfl) hp hK s
theorem Pn{σ:Type}(cb:σ→CT→Option (Bool×σ))(p:List CT)(hp:p.length≤900)(s:σ):HX K cb p s=run cb p s:=
 IL (F:=Eo (fun(st:σ) (x:CT)=>(Gz K cb x st).bind fun r=>some (r.1,r.2)) p) (fun _ _ _=>rfl) hp hK s
end
theorem Mf(K:Nat)(n a b:Int):DA K n a b=some (Em n a b):=by unfold DA Em;cases decide (a≤n)<;>rfl
theorem IN(K:Nat)(n a b:Int):EZ K n a b=some (Em n a b):=by unfold EZ Em;cases decide (a≤n)<;>rfl
theorem HR(K:Nat)(n a b:Int):DZ K n a b=some (Em n a b):=by unfold DZ Em;cases decide (a≤n)<;>rfl
def IP (lo hi a b:Int):Bool:=decide (a≤lo)&&(decide (lo≤hi)&&decide (hi≤b))
theorem M3{lo hi a b:Int}:IP lo hi a b=true↔a≤lo∧lo≤hi∧hi≤b:=by simp[IP]
theorem JM(K:Nat)(r:AH)(a b:Int):Ef K r a b=some (IP r.Lo r.Hi a b):=by
 unfold Ef IP;cases decide (a≤r.Lo)
 ·rfl
 ·cases decide (r.Lo≤r.Hi)<;>rfl
theorem Mg(K:Nat)(r:AH):Ex K r=some (IP r.Lo r.Hi 0 100):=JM K r 0 100
theorem XI(K:Nat)(r:AH)(b:Int):HW K r b=some (IP r.Lo r.Hi 0 b):=JM K r 0 b
theorem Ov{K:Nat}(hK:1000≤K)(l:List Int)(hl:l.length≤100)(hb:∀x∈l,0≤x∧x≤10000):Fa K l=some l.sum:=by
 unfold Fa;have h:C3 l K 0 0=some (l.foldl (· +·) 0):=MI l (fun m s i=>C3 l m s (i:Int)) (· +·) (fun i s=>0≤s∧s≤10000*(i:Int)) id (fun i s hi hs=>by have:=hb _ (List.getElem_mem hi);omega)
  (fun m i s hi hs=>by
   have a:=hb _ (List.getElem_mem hi);show C3 l (m+1) s (i:Int)=_;rw[C3.eq_2,ct (dt (by omega)),CI hi,BK (by omega) (by omega),BK (by omega) (by omega),D5 i])
  (fun m s _=>by
   show C3 l (m+1) s (l.length:Int)=_;rw[C3.eq_2,cf (df (by omega))];rfl) (by omega) (by omega)
 rw[bd h,JY,Int.zero_add]
theorem Rq{K:Nat}(hK:1000≤K)(l:List Int)(hl:l.length≤100)(hb:∀x∈l,0≤x∧x≤10000):It K l=some l.sum:=by
 unfold It;have h:E0 l K 0 0=some (l.foldl (· +·) 0):=MI l (fun m s i=>E0 l m s (i:Int)) (· +·) (fun i s=>0≤s∧s≤10000*(i:Int)) id (fun i s hi hs=>by have:=hb _ (List.getElem_mem hi);omega)
  (fun m i s hi hs=>by
   have a:=hb _ (List.getElem_mem hi);show E0 l (m+1) s (i:Int)=_;rw[E0.eq_2,ct (dt (by omega)),CI hi,BK (by omega) (by omega),BK (by omega) (by omega),D5 i])
  (fun m s _=>by
   show E0 l (m+1) s (l.length:Int)=_;rw[E0.eq_2,cf (df (by omega))];rfl) (by omega) (by omega)
 rw[bd h,JY,Int.zero_add]
def ID(c:Av)(l:List Int):Bool:=l.all (fun x=>Em x 0 30)&&(l.length==c.Ac.length)
def HY(c:Av)(l:List Int):Bool:=ID c l&&decide (0<l.sum)
def GD(c:Av)(t:Bq):Bool:=Em t.Number 0 ((cond t.BQ c.Ai.length c.Ac.length:Nat)-1)&&IP t.AO t.AP 0 100
def CJ(r:AH):Int:=r.Hi-r.Lo+1
def Fv(l:List AH):Int:=l.foldl (fun n r=>n*CJ r) 1
def Fm(c:Av):Int:=
 if 3<c.Ac.length∨3<c.Ai.length∨5<c.Ap.length then 3
 else if c.Ac.length=0 then 1
 else if !(c.Ac.all fun r=>IP r.Lo r.Hi 0 100) then 1
 else if !(c.Ai.all (HY c)) then 1
 else if !(c.Ap.all (GD c)) then 1
 else if 2000<Fv c.Ac then 3 else 0
theorem Ld{c:Av}{l:List Int}(h:ID c l=true):l.length=c.Ac.length∧∀x∈l,0≤x∧x≤30:=by
 unfold ID at h;rw[Bool.and_eq_true,List.all_eq_true,beq_iff_eq] at h;exact⟨h.2,fun x a=>DQ.1 (h.1 x a)⟩
theorem Wi(a b:Nat):((a:Int)==(b:Int))=(a==b):=by rw[Bool.eq_iff_iff,beq_iff_eq,beq_iff_eq];omega
theorem Rr{K:Nat}(hK:1000≤K)(c:Av)(l:List Int)(hl:l.length≤100):FF K c l=some (ID c l):=by
 unfold FF;have h:CD K l K 0=_:=KF l (fun m i=>CD K l m (i:Int)) (fun x=>Em x 0 30) false (fun m i hi=>by
   show CD K l (m+1) (i:Int)=_;rw[CD.eq_2,ct (dt (by omega)),CI hi,bd (Mf ..)];cases Em l[i] 0 30 with
   |false=>rw[nf,cf rfl]
   |true=>rw[nt,BK (by omega) (by omega),D5 i,ct rfl])
  (fun m=>by
   show CD K l (m+1) (l.length:Int)=_;rw[CD.eq_2,cf (df (by omega))]) (k:=K) (by omega)
 rw[bd h];unfold ID;cases l.all (fun x=>Em x 0 30) with
 |false=>rw[cf rfl,Bool.false_and];rfl
 |true=>
  rw[ct rfl,Bool.true_and,←Wi];rfl
def Hj(r:AH):Prop:=0≤r.Lo∧r.Lo≤r.Hi∧r.Hi≤100
theorem PJ{r:AH}:IP r.Lo r.Hi 0 100=true↔Hj r:=M3
theorem Le(K:Nat){r:AH}(h:Hj r):EW K r=some (CJ r):=by
 unfold Hj at h;unfold EW CJ;rw[BK (by omega) (by omega),BK (by omega) (by omega)]
theorem PK(K:Nat){r:AH}(h:Hj r):GS K r=some (CJ r):=Le K h
theorem Um(K:Nat){r:AH}(h:Hj r):Hv K r=some (CJ r):=Le K h
theorem GJ{r:AH}(h:Hj r):1≤CJ r∧CJ r≤101:=by unfold Hj at h;unfold CJ;omega
theorem Ii{a b x y:Int}(c:0≤a)(d:a≤x)(hb:0≤b)(e:b≤y):0≤a*b∧a*b≤x*y:=
 ⟨Int.mul_nonneg c hb,Int.mul_le_mul d e hb (by omega)⟩
theorem foldl_min{C:Int}(a:0≤C):∀(l:List AH) (s:Int),(∀r∈l,Hj r)→0≤s→l.foldl (fun n r=>min C (n*CJ r)) (min C s)=min C (l.foldl (fun n r=>n*CJ r) s)
 |[],s,_,_=>rfl
 |r::l,s,h,hs=>by
  have b:=GJ (h r (List.mem_cons_self ..));rw[List.foldl_cons,List.foldl_cons];have e:min C (min C s*CJ r)=min C (s*CJ r):=by
   rcases Int.le_total C s with hc|hc
   ·rw[Int.min_eq_left hc];have h1:C*1≤C*CJ r:=Int.mul_le_mul_of_nonneg_left b.1 a;have h2:s*1≤s*CJ r:=Int.mul_le_mul_of_nonneg_left b.1 hs;rw[Int.min_eq_left (by omega),Int.min_eq_left (by omega)]
   ·rw[Int.min_eq_right hc]
  rw[e];exact foldl_min a l (s*CJ r) (fun y c=>h y (List.mem_cons_of_mem _ c)) (Int.mul_nonneg hs (by omega))
theorem Nx:∀(l:List AH) (s:Int),(∀r∈l,Hj r)→1≤s→1≤l.foldl (fun n r=>n*CJ r) s
 |[],s,_,hs=>hs
 |r::l,s,h,hs=>by
  have a:=GJ (h r (List.mem_cons_self ..));rw[List.foldl_cons];refine Nx l _ (fun y b=>h y (List.mem_cons_of_mem _ b)) ?_;have h2:s*1≤s*CJ r:=Int.mul_le_mul_of_nonneg_left a.1 (by omega);omega
theorem Mh{l:List AH}(h:(l.all fun r=>IP r.Lo r.Hi 0 100)=true):∀r∈l,Hj r:=fun r a=>PJ.1 (List.all_eq_true.1 h r a)
theorem Lf{a b:Int}(h:a≠b):(a==b)=false:=by rw[Bool.eq_false_iff];intro g;exact h (beq_iff_eq.1 g)
theorem KG{a b:Int}(h:a=b):(a==b)=true:=beq_iff_eq.2 h
theorem HO{a b:Int}(h:a=b):(a !=b)=false:=by rw[h];simp
theorem Jn{a b:Int}(h:a≠b):(a !=b)=true:=by simpa using h
section
variable{K:Nat}(hK:1000≤K)
include hK
theorem Ow(c:Av)(hl:c.Ac.length≤100)(h:∀r∈c.Ac,Hj r):DK K c=some (min 3000 (Fv c.Ac)):=by
 unfold DK;have b:CV K c K 1 0=some (c.Ac.foldl (fun n r=>min 3000 (n*CJ r)) 1):=MI c.Ac (fun m s i=>CV K c m s (i:Int)) (fun n r=>min 3000 (n*CJ r)) (fun _ s=>0≤s∧s≤3000) id
  (fun i s hi hs=>by
   have a:=GJ (h _ (List.getElem_mem hi));have:=Ii hs.1 hs.2 (by omega:0≤CJ c.Ac[i]) a.2;omega)
  (fun m i s hi hs=>by
   show CV K c (m+1) s (i:Int)=_;have a:=GJ (h _ (List.getElem_mem hi));have:=Ii hs.1 hs.2 (by omega:0≤CJ c.Ac[i]) a.2;rw[CV.eq_2,ct (dt (by omega)),CI hi,bd (Le K (h _ (List.getElem_mem hi))),BK (by omega) (by omega),BK (by omega) (by omega),D5 i])
  (fun m s _=>by
   show CV K c (m+1) s (c.Ac.length:Int)=_;rw[CV.eq_2,cf (df (by omega))];rfl) (by omega) (by omega)
 rw[bd b];have:=foldl_min (C:=3000) (by omega) c.Ac 1 h (by omega);rw[Int.min_eq_right (by omega)] at this;rw[this];rfl
theorem Rs(a b:Int):Gh K [a,b]=some (min a b):=by
 obtain⟨k,rfl⟩:∃k,K=k+3:=⟨K-3,by omega⟩;unfold Gh;have c:idx [a,b] (0:Int)=some a:=rfl;have d:idx [a,b] (1:Int)=some b:=rfl;rw[cf (df (by simp)),bd c,Fc.eq_2,ct (dt (by simp)),bd d,BK (by omega) (by omega),Fc.eq_2,cf (df (by simp))];rfl
theorem Wj(a b:Int):HM K [a,b]=some (min a b):=by
 unfold HM;rw[bd (Rs hK a b)]
theorem Wk(a b:Int):Hw K [a,b]=some (min a b):=by
 unfold Hw;rw[bd (Rs hK a b)]
theorem Ox(r:AH)(n:Int):Fg K r n=some ⟨min r.Lo n,max r.Hi n⟩:=by
 unfold Fg;rw[bd (Wk hK _ _)]
theorem Rt(c:Av)(hl:c.Ac.length≤100)(h:∀r∈c.Ac,Hj r):CA K c K 1 0=some (min 2001 (Fv c.Ac)):=by
 have b:CA K c K 1 0=some (c.Ac.foldl (fun n r=>min 2001 (n*CJ r)) 1):=MI c.Ac (fun m s i=>CA K c m s (i:Int)) (fun n r=>min 2001 (n*CJ r)) (fun _ s=>0≤s∧s≤2001) id
  (fun i s hi hs=>by
   have a:=GJ (h _ (List.getElem_mem hi));have:=Ii hs.1 hs.2 (by omega:0≤CJ c.Ac[i]) a.2;omega)
  (fun m i s hi hs=>by
   show CA K c (m+1) s (i:Int)=_;have a:=GJ (h _ (List.getElem_mem hi));have:=Ii hs.1 hs.2 (by omega:0≤CJ c.Ac[i]) a.2;rw[CA.eq_2,ct (dt (by omega)),CI hi,bd (PK K (h _ (List.getElem_mem hi))),BK (by omega) (by omega),bd (Wj hK _ _),BK (by omega) (by omega),D5 i,Int.min_comm])
  (fun m s _=>by
   show CA K c (m+1) s (c.Ac.length:Int)=_;rw[CA.eq_2,cf (df (by omega))];rfl) (by omega) (by omega)
 rw[b];have:=foldl_min (C:=2001) (by omega) c.Ac 1 h (by omega);rw[Int.min_eq_right (by omega)] at this;rw[this];rfl
theorem SX(c:Av)(hl:c.Ac.length≤100):CN K c K 0=some (cond (c.Ac.all fun r=>IP r.Lo r.Hi 0 100) (.inr ()) (.inl 1)):=
 KF c.Ac (fun m i=>CN K c m (i:Int)) (fun r=>IP r.Lo r.Hi 0 100) 1
  (fun m i hi=>by
   show CN K c (m+1) (i:Int)=_;rw[CN.eq_2,ct (dt (by omega)),CI hi,bd (JM ..)];cases IP c.Ac[i].Lo c.Ac[i].Hi 0 100 with
   |false=>rw[nf,cf rfl]
   |true=>rw[nt,BK (by omega) (by omega),D5 i,ct rfl])
  (fun m=>by
   show CN K c (m+1) (c.Ac.length:Int)=_;rw[CN.eq_2,cf (df (by omega))]) (by omega)
theorem Ru(c:Av)(hl:c.Ai.length≤100)(e:∀l∈c.Ai,l.length≤100):Cu K c K 0=some (cond (c.Ai.all (HY c)) (.inr ()) (.inl 1)):=
 KF c.Ai (fun m i=>Cu K c m (i:Int)) (HY c) 1
  (fun m i hi=>by
   show Cu K c (m+1) (i:Int)=_;have d:=e _ (List.getElem_mem hi);rw[Cu.eq_2,ct (dt (by omega)),CI hi,bd (Rr hK c _ d)];unfold HY;cases hs:ID c c.Ai[i] with
   |false=>rw[nf,Bool.false_and,cf rfl]
   |true=>
    obtain⟨h1,h2⟩:=Ld hs;have f:=Kj (a:=0) (b:=30) (by omega) (by omega) _ h2;rw[nt,CI hi,bd (Ov hK _ d (fun x d=>by have:=h2 x d;omega)),Bool.true_and]
    by_cases h0:c.Ai[i].sum=0
    ·rw[ct (by simp[h0]),cf (df (by omega))]
    ·rw[cf (by simp[h0]),ct (dt (by omega)),BK (by omega) (by omega),D5 i])
  (fun m=>by
   show Cu K c (m+1) (c.Ai.length:Int)=_;rw[Cu.eq_2,cf (df (by omega))]) (by omega)
theorem Rv(c:Av)(hl:c.Ap.length≤100)(a:c.Ac.length≤100)(hc:c.Ai.length≤100):Ck K c K 0=some (cond (c.Ap.all (GD c)) (.inr ()) (.inl 1)):=
 KF c.Ap (fun m i=>Ck K c m (i:Int)) (GD c) 1
  (fun m i hi=>by
   show Ck K c (m+1) (i:Int)=_;rw[Ck.eq_2,ct (dt (by omega)),CI hi];unfold GD;cases c.Ap[i].BQ with
   |true=>
    rw[ct rfl,BK (by omega) (by omega),bd (Mf ..),ct rfl];cases Em c.Ap[i].Number 0 ((c.Ai.length:Nat)-1) with
    |false=>rw[nf,Bool.false_and,cf rfl]
    |true=>
     rw[nt,bd (JM ..),Bool.true_and];cases IP c.Ap[i].AO c.Ap[i].AP 0 100 with
     |false=>rw[nf,cf rfl]
     |true=>rw[nt,BK (by omega) (by omega),D5 i,ct rfl]
   |false=>
    rw[cf rfl,BK (by omega) (by omega),bd (Mf ..),cf rfl];cases Em c.Ap[i].Number 0 ((c.Ac.length:Nat)-1) with
    |false=>rw[nf,Bool.false_and,cf rfl]
    |true=>
     rw[nt,bd (JM ..),Bool.true_and];cases IP c.Ap[i].AO c.Ap[i].AP 0 100 with
     |false=>rw[nf,cf rfl]
     |true=>rw[nt,BK (by omega) (by omega),D5 i,ct rfl])
  (fun m=>by
   show Ck K c (m+1) (c.Ap.length:Int)=_;rw[Ck.eq_2,cf (df (by omega))]) (by omega)
theorem Oy(c:Av)(a:c.Ac.length≤100)(hc:c.Ai.length≤100)(e:c.Ap.length≤100)(f:∀l∈c.Ai,l.length≤100):EB K c=some (Fm c):=by
 unfold EB Fm
 by_cases h1:3<c.Ac.length
 ·rw[ct (dt (by omega)),if_pos (.inl h1)]
 rw[cf (df (by omega))]
 by_cases h2:3<c.Ai.length
 ·rw[ct (dt (by omega)),if_pos (.inr (.inl h2))]
 rw[cf (df (by omega))]
 by_cases g:5<c.Ap.length
 ·rw[ct (dt (by omega)),if_pos (.inr (.inr g))]
 rw[cf (df (by omega)),if_neg (by omega)]
 by_cases b:c.Ac.length=0
 ·rw[ct (KG (by omega)),if_pos b]
 rw[cf (Lf (by omega)),if_neg b,bd (SX hK c a)];cases h5:c.Ac.all fun r=>IP r.Lo r.Hi 0 100 with
 |false=>rw[cf rfl,if_pos (by rfl)];rfl
 |true=>
  rw[ct rfl,if_neg (by simp)];show Option.bind (Cu K c K 0) _=_;rw[bd (Ru hK c hc f)];cases c.Ai.all (HY c) with
  |false=>rw[cf rfl,if_pos (by rfl)];rfl
  |true=>
   rw[ct rfl,if_neg (by simp)];show Option.bind (Ck K c K 0) _=_;rw[bd (Rv hK c e a hc)];cases c.Ap.all (GD c) with
   |false=>rw[cf rfl,if_pos (by rfl)];rfl
   |true=>
    rw[ct rfl,if_neg (by simp)];show Option.bind (DK K c) _=_;rw[bd (Ow hK c a (Mh h5))]
    by_cases d:2000<Fv c.Ac
    ·rw[ct (dt (by omega)),if_pos d]
    ·rw[cf (df (by omega)),if_neg d]
theorem Rw(c:Av)(l:List Int)(hl:l.length≤100):FA K c l=some (ID c l):=by
 unfold FA ID;rw[Wi,Rp hK _ _ (by omega),run_pure (ok:=fun x=>Em x 0 30) l () (fun x _ s=>by unfold H6;rw[bd (IN ..)];rfl)];cases l.length==c.Ac.length with
 |false=>rw[cf rfl,Bool.and_false]
 |true=>rw[ct rfl,Bool.and_true];rfl
theorem SY(c:Av)(l:List Int)(hl:l.length≤100):E4 K c l=some (HY c l):=by
 unfold E4 HY;rw[bd (Rw hK c l hl)];cases hs:ID c l with
 |false=>rw[cf rfl,Bool.false_and]
 |true=>
  have h2:=(Ld hs).2;rw[ct rfl,bd (Rq hK l hl (fun x a=>by have:=h2 x a;omega)),Bool.true_and]
theorem Un(c:Av)(t:Bq)(a:c.Ac.length≤100)(hc:c.Ai.length≤100):Fe K c t=some (GD c t):=by
 unfold Fe GD;cases t.BQ with
 |true=>
  rw[ct rfl,BK (by omega) (by omega),bd (IN ..),ct rfl];cases Em t.Number 0 ((c.Ai.length:Nat)-1) with
  |false=>rw[cf rfl,Bool.false_and]
  |true=>rw[ct rfl,bd (Mg ..),Bool.true_and]
 |false=>
  rw[cf rfl,BK (by omega) (by omega),bd (IN ..),cf rfl];cases Em t.Number 0 ((c.Ac.length:Nat)-1) with
  |false=>rw[cf rfl,Bool.false_and]
  |true=>rw[ct rfl,bd (Mg ..),Bool.true_and]
theorem KT(c:Av)(a:c.Ac.length≤100)(hc:c.Ai.length≤100)(h:c.Ap.length≤100)(f:∀l∈c.Ai,l.length≤100):Du K c=some (Fm c):=by
 unfold Du Fm
 by_cases h1:3<c.Ac.length
 ·rw[ct (dt (by omega)),if_pos (.inl h1)]
 rw[cf (df (by omega))]
 by_cases h2:3<c.Ai.length
 ·rw[ct (dt (by omega)),if_pos (.inr (.inl h2))]
 rw[cf (df (by omega))]
 by_cases g:5<c.Ap.length
 ·rw[ct (dt (by omega)),if_pos (.inr (.inr g))]
 rw[cf (df (by omega)),if_neg (by omega)]
 by_cases b:c.Ac.length=0
 ·rw[ct (KG (by omega)),if_pos b]
 rw[cf (Lf (by omega)),if_neg b,Pk hK _ _ (by omega),run_pure (ok:=fun r=>IP r.Lo r.Hi 0 100) c.Ac () (fun x _ s=>by rw[bd (Mg ..)]),Option.bind_some];cases h5:c.Ac.all fun r=>IP r.Lo r.Hi 0 100 with
 |false=>rw[nf,if_pos (by rfl)]
 |true=>
  rw[nt,if_neg (by simp),QI hK _ _ (by omega),run_pure (ok:=HY c) c.Ai () (fun x d s=>by rw[bd (SY hK c x (f x d))]),Option.bind_some];cases c.Ai.all (HY c) with
  |false=>rw[nf,if_pos (by rfl)]
  |true=>
   rw[nt,if_neg (by simp),Pm hK _ _ (by omega),run_pure (ok:=GD c) c.Ap () (fun x d s=>by rw[bd (Un hK c x a hc)]),Option.bind_some];cases c.Ap.all (GD c) with
   |false=>rw[nf,if_pos (by rfl)]
   |true=>
    rw[nt,if_neg (by simp),bd (Rt hK c a (Mh h5))]
    by_cases e:2000<Fv c.Ac
    ·rw[ct (dt (by omega)),if_pos e]
    ·rw[cf (df (by omega)),if_neg e]
end
def AS.C(t:AS):Av:=⟨t.As,t.Ad,t.AJ⟩
def GK:Int→Int→List B4→Bool
 |_,_,[]=>true
 |s,p,g::l=>Em g.BV 0 (s-1)&&(Em g.C0 0 p&&GK g.BV g.C0 l)
def JN(t:AS)(o:CL):Bool:=Em o.Hf 0 ((t.Bl.length:Nat)-1)&&Em o.Hu 1 90
def KH(t:AS)(n:CT):Bool:=Em n.BQ 0 ((t.Ad.length:Nat)-1)&&IP n.C9 n.Da 0 9000
def Ge(t:AS):Int:=
 if Fm t.C≠0 then Fm t.C
 else if 3<t.Bl.length∨3<t.B8.length∨5<t.BA.length then 3
 else if !(Em t.Flat 0 100) then 1
 else if t.Bl.length=0 then 1
 else if !(GK 101 100 t.Bl) then 1
 else if !(t.B8.all (JN t)) then 1
 else if !(t.BA.all (KH t)) then 1 else 0
def Oz (c:Av):Prop:=c.Ac.length≤100∧c.Ai.length≤100∧c.Ap.length≤100∧∀l∈c.Ai,l.length≤100
def SZ(t:AS):Prop:=Oz t.C∧t.Bl.length≤100∧t.B8.length≤100∧t.BA.length≤100
section
variable{K:Nat}(hK:1000≤K)
include hK
theorem MK:∀(l:List B4) (g:B4),0≤g.BV∧g.BV≤101→(run (fun(st:B4) (x:B4)=>(Ep K x st).bind fun r=>some (r.1,r.2)) l g).map (·.1)=some (GK g.BV g.C0 l)
 |[],g,_=>rfl
 |x::l,g,h=>by
  rw[run,GK];unfold Ep;rw[BK (by omega) (by omega),bd (HR ..)];cases hs:Em x.BV 0 (g.BV-1) with
  |false=>rw[cf rfl,Bool.false_and];rfl
  |true=>
   rw[ct rfl,bd (HR ..),Bool.true_and];cases Em x.C0 0 g.C0 with
   |false=>rw[Bool.false_and];rfl
   |true=>
    have h1:=DQ.1 hs;rw[Bool.true_and];exact MK l x (by omega)
theorem OA{α β b:Type}{x:Option (α×β)}{a:α}{f:α→Option b}(h:x.map (·.1)=some a):x.bind (fun r=>f r.1)=f a:=by
 cases x with
 |none=>cases h
 |some r=>exact congrArg f (Option.some.inj h)
theorem S1(t:AS)(hl:t.Bl.length≤100):FV K t=some (decide (0<t.Bl.length)&&GK 101 100 t.Bl):=by
 unfold FV
 by_cases h:0<t.Bl.length
 ·rw[ct (dt (by omega)),Ot hK _ _ (by omega),dt h,Bool.true_and];exact OA hK (f:=some) (MK hK t.Bl ⟨101,100⟩ (by simp))
 ·rw[cf (df (by omega)),df h,Bool.false_and]
theorem Uo(t:AS)(n:Int)(hc:t.Ad.length≤100):Gw K t n=some (Em n 0 ((t.Ad.length:Nat)-1)):=by
 unfold Gw;rw[BK (by omega) (by omega),bd (HR ..)]
theorem Up(t:AS)(o:CL)(hc:t.Bl.length≤100):Fh K t o=some (JN t o):=by
 unfold Fh JN;rw[BK (by omega) (by omega),bd (HR ..)];cases Em o.Hf 0 ((t.Bl.length:Nat)-1) with
 |false=>rw[cf rfl,Bool.false_and]
 |true=>rw[ct rfl,bd (HR ..),Bool.true_and]
theorem Wl(t:AS)(o:CT)(hc:t.Ad.length≤100):FB K t o=some (KH t o):=by
 unfold FB KH;rw[bd (Uo hK t _ hc)];cases Em o.BQ 0 ((t.Ad.length:Nat)-1) with
 |false=>rw[cf rfl,Bool.false_and]
 |true=>rw[ct rfl,bd (XI ..),Bool.true_and]
theorem Lg(t:AS)(hl:SZ t):FC K t=some (Ge t):=by
 obtain⟨⟨c,hc,d,e⟩,a,h,hn⟩:=hl;unfold FC Ge;have h5:Du K ⟨t.As,t.Ad,t.AJ⟩=some (Fm t.C):=KT hK t.C c hc d e;rw[bd h5]
 by_cases h0:Fm t.C=0
 ·rw[cf (HO h0),if_neg (by simp[h0])]
  by_cases h1:3<t.Bl.length
  ·rw[ct (dt (by omega)),if_pos (.inl h1)]
  rw[cf (df (by omega))]
  by_cases h2:3<t.B8.length
  ·rw[ct (dt (by omega)),if_pos (.inr (.inl h2))]
  rw[cf (df (by omega))]
  by_cases f:5<t.BA.length
  ·rw[ct (dt (by omega)),if_pos (.inr (.inr f))]
  have hp:H7 K t.Flat=some (Em t.Flat 0 100):=by unfold H7;rw[bd (HR ..)]
  rw[cf (df (by omega)),if_neg (by omega),bd hp];cases Em t.Flat 0 100 with
  |false=>rw[nf,if_pos (by rfl)]
  |true=>
   rw[nt,if_neg (by simp),bd (S1 hK t a)]
   by_cases b:t.Bl.length=0
   ·rw[df (by omega),Bool.false_and,nf,if_pos b]
   rw[if_neg b,dt (by omega),Bool.true_and];cases GK 101 100 t.Bl with
   |false=>rw[nf,if_pos (by rfl)]
   |true=>
    rw[nt,if_neg (by simp),Ou hK _ _ (by omega),run_pure (ok:=JN t) t.B8 () (fun x g s=>by rw[bd (Up hK t x a)]),Option.bind_some];cases t.B8.all (JN t) with
    |false=>rw[nf,if_pos (by rfl)]
    |true=>
     rw[nt,if_neg (by simp),Pn hK _ _ (by omega),run_pure (ok:=KH t) t.BA () (fun x g s=>by rw[bd (Wl hK t x hc)]),Option.bind_some];cases t.BA.all (KH t) with
     |false=>rw[nf,if_pos (by rfl)]
     |true=>rw[nt,if_neg (by simp)]
 ·rw[ct (Jn h0),if_pos h0]
end
def Di:List AH→List Int→Bool
 |[],[]=>true
 |r::rs,x::xs=>Em x r.Lo r.Hi&&Di rs xs
 |_,_=>false
theorem Rx(r:AH)(rs:List AH):Di (r::rs) []=false:=rfl
theorem Ry(x:Int)(xs:List Int):Di [] (x::xs)=false:=rfl
theorem OB:Di [] []=true:=rfl
theorem F5:∀{rs:List AH} {l:List Int},Di rs l=true→l.length=rs.length
 |[],[],_=>rfl
 |[],_::_,h=>by cases h
 |_::_,[],h=>by cases h
 |r::rs,x::xs,h=>by
  rw[Di,Bool.and_eq_true] at h;rw[List.length_cons,List.length_cons,F5 h.2]
theorem ML:∀{rs:List AH} {l:List Int},(∀r∈rs,Hj r)→Di rs l=true→∀x∈l,0≤x∧x≤100
 |[],[],_,_,x,a=>by cases a
 |[],_::_,_,h,_,_=>by cases h
 |_::_,[],_,h,_,_=>by cases h
 |r::rs,y::xs,b,h,x,a=>by
  rw[Di,Bool.and_eq_true] at h;rcases List.mem_cons.1 a with rfl|a
  ·have h1:=DQ.1 h.1;have h2:Hj r:=b r (List.mem_cons_self ..);unfold Hj at h2;omega
  ·exact ML (fun r c=>b r (List.mem_cons_of_mem _ c)) h.2 x a
def dot:List Int→List Int→Int
 |w::ws,x::xs=>w*x+dot ws xs
 |_,_=>0
theorem Uq(l:List Int):dot l []=0:=by cases l<;>rfl
def DS(l w:List Int):Int:=dot w l/w.sum
theorem MM:∀(w l:List Int),(∀x∈w,0≤x∧x≤30)→(∀x∈l,0≤x∧x≤100)→0≤dot w l∧dot w l≤100*w.sum
 |[],l,_,_=>by simp[dot]
 |w::ws,[],hw,_=>by
  have:=(Kj (a:=0) (b:=30) (by omega) (by omega) (w::ws) hw).1;simp only[dot];omega
 |w::ws,x::xs,hw,d=>by
  have h1:=hw w (List.mem_cons_self ..);have h2:=d x (List.mem_cons_self ..);have e:=MM ws xs (fun y c=>hw y (List.mem_cons_of_mem _ c)) (fun y c=>d y (List.mem_cons_of_mem _ c));have f:w*x≤w*100:=Int.mul_le_mul_of_nonneg_left h2.2 h1.1;have h5:=Int.mul_nonneg h1.1 h2.1;rw[dot,List.sum_cons];omega
theorem M4{w l:List Int}(hw:∀x∈w,0≤x∧x≤30)(hl:∀x∈l,0≤x∧x≤100)(hs:0<w.sum):0≤DS l w∧DS l w≤100:=by
 have h:=MM w l hw hl;unfold DS;refine⟨Int.ediv_nonneg h.1 (by omega),?_⟩;have:=Int.ediv_le_ediv hs h.2
 rwa[Int.mul_ediv_cancel _ (by omega)] at this
def FZ (c:Av) (l:List Int) (t:Bq):Int:=cond t.BQ (DS l (c.Ai.getD t.Number.toNat [])) (l.getD t.Number.toNat 0)
def Ij(c:Av)(l:List Int):Bool:=c.Ap.all fun t=>Em (FZ c l t) t.AO t.AP
def Dt(c:Av)(l:List Int):Bool:=Di c.Ac l&&Ij c l
def Jo:List AH→Int→List Int
 |[],_=>[]
 |r::rs,n=>(r.Lo+n%CJ r)::Jo rs (n/CJ r)
structure OkC (c:Av):Prop where
 len:Oz c
 fault:Fm c=0
 many:Fv c.Ac≤150
theorem Gp{c:Av}(h:Fm c=0):c.Ac.length≤3∧c.Ai.length≤3∧c.Ap.length≤5∧0<c.Ac.length∧(∀r∈c.Ac,Hj r)∧(∀l∈c.Ai,HY c l=true)∧(∀t∈c.Ap,GD c t=true)∧Fv c.Ac≤2000:=by
 unfold Fm at h;split at h
 ·omega
 rename_i h1
 split at h
 ·omega
 rename_i h2
 split at h
 ·omega
 rename_i a
 split at h
 ·omega
 rename_i b
 split at h
 ·omega
 rename_i h5
 split at h
 ·omega
 rename_i d
 refine⟨by omega,by omega,by omega,by omega,Mh (by simpa using a),?_,?_,by omega⟩
 ·exact List.all_eq_true.1 (by simpa using b)
 ·exact List.all_eq_true.1 (by simpa using h5)
namespace OkC
variable{c:Av}(h:OkC c)
include h
theorem hl:c.Ac.length≤3:=(Gp h.fault).1
theorem cl:c.Ai.length≤3:=(Gp h.fault).2.1
theorem tl:c.Ap.length≤5:=(Gp h.fault).2.2.1
theorem h0:0<c.Ac.length:=(Gp h.fault).2.2.2.1
theorem ok:∀r∈c.Ac,Hj r:=(Gp h.fault).2.2.2.2.1
theorem DE:∀l∈c.Ai,l.length=c.Ac.length∧(∀x∈l,0≤x∧x≤30)∧0<l.sum∧l.sum≤90:=fun l hl=>by
 have h1:=(Gp h.fault).2.2.2.2.2.1 l hl;unfold HY at h1;rw[Bool.and_eq_true,decide_eq_true_eq] at h1;have h2:=Ld h1.1;have d:=Kj (a:=0) (b:=30) (by omega) (by omega) l h2.2;have e:=h.hl;exact⟨h2.1,h2.2,h1.2,by omega⟩
theorem TN:∀t∈c.Ap,0≤t.Number∧(t.BQ=true→t.Number<c.Ai.length)∧(t.BQ=false→t.Number<c.Ac.length):=fun t a=>by
 have h1:=(Gp h.fault).2.2.2.2.2.2.1 t a;unfold GD at h1;rw[Bool.and_eq_true] at h1;have h2:=DQ.1 h1.1;refine⟨h2.1,fun e=>?_,fun e=>?_⟩
 ·rw[e,cond_true] at h2;omega
 ·rw[e,cond_false] at h2;omega
end OkC
theorem MN(r:AH)(l:List AH):Fv (r::l)=CJ r*Fv l:=by
 have:∀(l:List AH) (s:Int),l.foldl (fun n r=>n*CJ r) s=s*l.foldl (fun n r=>n*CJ r) 1:=by
  intro l
  induction l with
  |nil=>intro s;simp
  |cons r l ih=>intro s;rw[List.foldl_cons,List.foldl_cons,ih,ih (1*CJ r),Int.one_mul,Int.mul_assoc]
 unfold Fv;rw[List.foldl_cons,this,Int.one_mul]
theorem PL:∀{rs:List AH} {l:List Int},(∀r∈rs,Hj r)→Di rs l=true→∃n:Nat,(n:Int)<Fv rs∧Jo rs (n:Int)=l
 |[],[],_,_=>⟨0,by simp[Fv],rfl⟩
 |[],_::_,_,h=>by cases h
 |_::_,[],_,h=>by cases h
 |r::rs,x::xs,b,h=>by
  rw[Di,Bool.and_eq_true] at h;obtain⟨n,hn,e⟩:=PL (fun r c=>b r (List.mem_cons_of_mem _ c)) h.2;have h1:=DQ.1 h.1;have h2:=GJ (b r (List.mem_cons_self ..));have a:0≤x-r.Lo∧x-r.Lo<CJ r:=by unfold CJ;omega
  have d:0≤CJ r*(n:Int):=Int.mul_nonneg (by omega) (by omega);refine⟨(x-r.Lo+CJ r*n).toNat,?_,?_⟩
  ·rw[MN];have:CJ r*((n:Int)+1)≤CJ r*Fv rs:=Int.mul_le_mul_of_nonneg_left (by omega) (by omega);rw[Int.mul_add] at this;omega
  ·rw[Int.toNat_of_nonneg (by omega),Jo,Int.add_mul_emod_self_left,Int.emod_eq_of_lt a.1 a.2,Int.add_mul_ediv_left _ _ (by omega),Int.ediv_eq_zero_of_lt a.1 a.2,Int.zero_add,e]
   congr 1;omega
def Cj (c:Av):List (List Int):=((List.range (Fv c.Ac).toNat).map fun n:Nat=>Jo c.Ac (n:Int)).filter (Dt c)
theorem FM{c:Av}(hc:OkC c){l:List Int}:l∈Cj c↔Dt c l=true:=by
 unfold Cj;rw[List.mem_filter,List.mem_map];refine⟨fun h=>h.2,fun h=>⟨?_,h⟩⟩;have h1:=h;unfold Dt at h1;rw[Bool.and_eq_true] at h1;obtain⟨n,hn,e⟩:=PL hc.ok h1.1;exact⟨n,List.mem_range.2 (by omega),e⟩
theorem S2{c:Av}{l:List Int}(h:Dt c l=true):Di c.Ac l=true:=by
 unfold Dt at h;rw[Bool.and_eq_true] at h;exact h.1
section
variable{K:Nat}(hK:1000≤K)
include hK
theorem OC(c:Av)(l:List Int)(a:c.Ac.length≤100)(hl:l.length≤100):∀(n m i:Nat),l.length=i+n→i≤c.Ac.length→n<m→
  (Ds K c l m (i:Int)).bind (fun z=>Sum.elim (fun q=>some q) (fun _=>some ((l.length:Int)==(c.Ac.length:Int))) z)=some (Di (c.Ac.drop i) (l.drop i))
 |n,0,i,h,_,hm=>by omega
 |0,m+1,i,h,hi,hm=>by
  rw[Ds.eq_2,cf (df (by omega)),List.drop_eq_nil_of_le (by omega:l.length≤i)];show some ((l.length:Int)==(c.Ac.length:Int))=_
  by_cases e:i<c.Ac.length
  ·rw[List.drop_eq_getElem_cons e,Lf (by omega),Rx]
  ·rw[List.drop_eq_nil_of_le (by omega),KG (by omega),OB]
 |n+1,m+1,i,h,hi,hm=>by
  have h1:i<l.length:=by omega
  rw[Ds.eq_2,ct (dt (by omega)),List.drop_eq_getElem_cons h1]
  by_cases e:i<c.Ac.length
  ·rw[ct (dt (by omega)),CI h1,CI e,CI e,bd (Mf ..),List.drop_eq_getElem_cons e,Di];cases Em l[i] c.Ac[i].Lo c.Ac[i].Hi with
   |false=>rw[nf,Bool.false_and];rfl
   |true=>
    rw[nt,BK (by omega) (by omega),D5 i,Bool.true_and];exact OC c l a hl n m (i+1) (by omega) (by omega) (by omega)
  ·rw[cf (df (by omega)),List.drop_eq_nil_of_le (by omega:c.Ac.length≤i)];show some ((l.length:Int)==(c.Ac.length:Int))=_;rw[Lf (by omega),Ry]
theorem QJ(c:Av)(l:List Int)(a:c.Ac.length≤100)(hl:l.length≤100):Gn K c l=some (Di c.Ac l):=by
 have:=OC hK c l a hl l.length K 0 (by omega) (by omega) (by omega);rw[Int.natCast_zero,List.drop_zero,List.drop_zero] at this;exact this
omit hK in
theorem RA (l w:List Int) (hl:l.length≤100) (hw:l.length=w.length) (bw:∀x∈w,0≤x∧x≤30) (bl:∀x∈l,0≤x∧x≤100):∀(n m i:Nat) (s:Int),l.length=i+n→n<m→0≤s∧s≤3000*(i:Int)→
  D1 l w m s (i:Int)=some (s+dot (w.drop i) (l.drop i))
 |n,0,i,s,h,hm,_=>by omega
 |0,m+1,i,s,h,hm,hs=>by
  rw[D1.eq_2,cf (df (by omega)),List.drop_eq_nil_of_le (by omega:l.length≤i),Uq,Int.add_zero]
 |n+1,m+1,i,s,h,hm,hs=>by
  have h1:i<l.length:=by omega
  have h2:i<w.length:=by omega
  have b1:=bw _ (List.getElem_mem h2)
  have b2:=bl _ (List.getElem_mem h1)
  have b3:=Ii b1.1 b1.2 b2.1 b2.2
  rw[D1.eq_2,ct (dt (by omega)),CI h2,CI h1,BK (by omega) (by omega),BK (by omega) (by omega),BK (by omega) (by omega),D5 i,
   RA l w hl hw bw bl n m (i+1) _ (by omega) (by omega) (by omega),List.drop_eq_getElem_cons h1,List.drop_eq_getElem_cons h2,dot,Int.add_assoc]
theorem Wm{l w:List Int}(hl:l.length≤100)(hw:l.length=w.length)(bw:∀x∈w,0≤x∧x≤30)(bl:∀x∈l,0≤x∧x≤100)(hs:0<w.sum):FG K l w=some (DS l w):=by
 unfold FG;have h:=RA l w hl hw bw bl l.length K 0 0 (by omega) (by omega) (by omega);rw[Int.natCast_zero,Int.zero_add,List.drop_zero,List.drop_zero] at h;have h2:=MM w l bw bl;have e:=Kj (a:=0) (b:=30) (by omega) (by omega) w bw;have c:=M4 bw bl hs;unfold DS at c⊢;rw[bd h,bd (Ov hK w (by omega) (fun x d=>by have:=bw x d;omega)),SW (by omega) (by omega),BK (by omega) (by omega)]
end
theorem C6{α:Type}{l:List α}{i:Nat}(d:α)(h:i<l.length):l.getD i d=l[i]:=by simp[List.getElem?_eq_getElem h]
section
variable{K:Nat}(hK:1000≤K)
include hK
theorem Ny{c:Av}(hc:OkC c){l:List Int}(hl:Di c.Ac l=true){k:Nat}(hk:k<c.Ai.length):FG K l c.Ai[k]=some (DS l c.Ai[k]):=by
 obtain⟨h1,h2,a,_⟩:=hc.DE _ (List.getElem_mem hk);have b:=F5 hl;have:=hc.hl;exact Wm hK (by omega) (by omega) h2 (ML hc.ok hl) a
theorem S3{c:Av}(hc:OkC c){l:List Int}(hl:Di c.Ac l=true){t:Bq}(b:t∈c.Ap):Gd K c l t=some (Em (FZ c l t) t.AO t.AP):=by
 obtain⟨h0,h1,h2⟩:=hc.TN t b;have g:=F5 hl;have:=hc.hl;have:=hc.cl;unfold Gd FZ;cases e:t.BQ with
 |true=>
  have d:=h1 e;obtain⟨k,hk⟩:∃k:Nat,t.Number=k:=⟨t.Number.toNat,by omega⟩;have a:k<c.Ai.length:=by omega
  rw[ct rfl,BK (by omega) (by omega),ct rfl,hk];unfold Eh;have f:(k:Int)+(c.Ac.length:Int)-(l.length:Int)=(k:Int):=by omega
  rw[cf (df (by omega)),BK (by omega) (by omega),f,CI a,bd (Ny hK hc hl a),Option.bind_some,bd (Mf ..),Int.toNat_natCast,C6 _ a]
 |false=>
  have d:=h2 e;obtain⟨k,hk⟩:∃k:Nat,t.Number=k:=⟨t.Number.toNat,by omega⟩;have a:k<l.length:=by omega
  rw[cf rfl,cf rfl,hk];unfold Eh;rw[ct (dt (by omega)),CI a,Option.bind_some,bd (Mf ..),Int.toNat_natCast,C6 _ a]
theorem QK{c:Av}(hc:OkC c){l:List Int}(a:l.length≤100):FH K c l=some (Dt c l):=by
 have:=hc.hl;have:=hc.tl;unfold FH Dt;rw[bd (QJ hK c l (by omega) a)];cases hl:Di c.Ac l with
 |false=>rw[nf,Bool.false_and]
 |true=>
  have h:CE K c l K 0=some (cond (c.Ap.all fun t=>Em (FZ c l t) t.AO t.AP) (.inr ()) (.inl false)):=
   KF c.Ap (fun m i=>CE K c l m (i:Int)) (fun t=>Em (FZ c l t) t.AO t.AP) false
    (fun m i hi=>by
     show CE K c l (m+1) (i:Int)=_;rw[CE.eq_2,ct (dt (by omega)),CI hi,bd (S3 hK hc hl (List.getElem_mem hi))];cases Em (FZ c l c.Ap[i]) c.Ap[i].AO c.Ap[i].AP with
     |false=>rw[nf,cf rfl]
     |true=>rw[nt,BK (by omega) (by omega),D5 i,ct rfl])
    (fun m=>by
     show CE K c l (m+1) (c.Ap.length:Int)=_;rw[CE.eq_2,cf (df (by omega))]) (by omega)
  rw[nt,bd h,Bool.true_and];unfold Ij;cases c.Ap.all fun t=>Em (FZ c l t) t.AO t.AP with
  |false=>rfl
  |true=>rfl
theorem TO{c:Av}(hl:c.Ac.length≤100)(a:∀r∈c.Ac,Hj r):∀(d m i:Nat) (n:Int) (out:List Int),c.Ac.length=i+d→d<m→0≤n∧n≤5000→out.length≤i→
  Eg K c m n out (i:Int)=some (out++Jo (c.Ac.drop i) n)
 |d,0,i,n,out,h,hm,_,_=>by omega
 |0,m+1,i,n,out,h,hm,_,_=>by
  rw[Eg.eq_2,cf (df (by omega)),List.drop_eq_nil_of_le (by omega:c.Ac.length≤i),Jo,List.append_nil]
 |d+1,m+1,i,n,out,h,hm,hn,b=>by
  have hi:i<c.Ac.length:=by omega
  have h1:=a _ (List.getElem_mem hi);have h2:=GJ h1;have e:=Int.emod_nonneg n (by omega:CJ c.Ac[i]≠0);have f:=Int.emod_lt_of_pos n (by omega:0<CJ c.Ac[i]);have h5:0≤n/CJ c.Ac[i]:=Int.ediv_nonneg hn.1 (by omega);have g:n/CJ c.Ac[i]≤n:=Int.ediv_le_self _ hn.1;have j:0≤c.Ac[i].Lo∧c.Ac[i].Lo≤100:=by unfold Hj at h1;omega
  rw[Eg.eq_2,ct (dt (by omega)),CI hi,bd (Le K h1),Oq hn.1 h2.1,BK (by omega) (by omega),GZ (by simp;omega),bd (Le K h1),SW hn.1 h2.1,BK (by omega) (by omega),BK (by omega) (by omega),D5 i,
   TO hl a d m (i+1) _ _ (by omega) (by omega) (by omega) (by simp;omega),List.drop_eq_getElem_cons hi,Jo,List.append_assoc]
  rfl
theorem Wn{c:Av}(hl:c.Ac.length≤100)(a:∀r∈c.Ac,Hj r){n:Int}(hn:0≤n∧n≤5000):GV K c n=some (Jo c.Ac n):=by
 unfold GV;have:=TO hK hl a c.Ac.length K 0 n [] (by omega) (by omega) hn (by simp);rw[Int.natCast_zero,List.drop_zero,List.nil_append] at this;rw[bd this]
theorem S4(rs:List AH):∀n,(Jo rs n).length=rs.length:=by
 clear hK
 induction rs with
 |nil=>intro n;rfl
 |cons r rs ih=>intro n;rw[Jo,List.length_cons,List.length_cons,ih]
theorem PN{c:Av}(hc:OkC c):DK K c=some (Fv c.Ac):=by
 have:=hc.hl;have:=hc.many;rw[Ow hK c (by omega) hc.ok,Int.min_eq_right (by omega)]
theorem S5{c:Av}(hc:OkC c):1≤Fv c.Ac:=Nx c.Ac 1 hc.ok (by omega)
theorem Lh{c:Av}(hc:OkC c):∀(d m i:Nat) (acc:List (List Int)),Fv c.Ac=(i:Int)+d→d<m→acc.length≤i→
  Dn K c m acc (i:Int)=some (acc++((List.range' i d).map fun n:Nat=>Jo c.Ac (n:Int)).filter (Dt c))
 |d,0,i,acc,h,hm,_=>by omega
 |0,m+1,i,acc,h,hm,_=>by
  rw[Dn.eq_2,bd (PN hK hc),cf (df (by omega))];simp
 |d+1,m+1,i,acc,h,hm,b=>by
  have a:=hc.many;have e:=hc.hl;rw[Dn.eq_2,bd (PN hK hc),ct (dt (by omega)),bd (Wn hK (by omega) hc.ok (by omega)),bd (QK hK hc (by rw[S4 hK];omega)),List.range'_succ,List.map_cons,List.filter_cons];cases Dt c (Jo c.Ac (i:Int)) with
  |true=>
   rw[ct rfl,GZ (by simp;omega),BK (by omega) (by omega),D5 i,Lh hc d m (i+1) _ (by omega) (by omega) (by simp;omega),List.append_assoc];rfl
  |false=>
   rw[cf rfl,BK (by omega) (by omega),D5 i,Lh hc d m (i+1) _ (by omega) (by omega) (by omega)];rfl
theorem RB{c:Av}(hc:OkC c):FX K c=some (Cj c):=by
 unfold FX Cj;have h1:=S5 hK hc;have h2:=hc.many;have:=Lh hK hc (Fv c.Ac).toNat K 0 [] (by omega) (by omega) (by simp);rw[Int.natCast_zero,List.nil_append] at this;rw[bd this,List.range_eq_range']
theorem KI(p:List Int)(x:Int)(hp:p.length≤900):EM K p x=some (p.contains x):=by
 have h:∀(n m i:Nat),p.length=i+n→n<m→((DY p x m (i:Int)).bind fun z=>Sum.elim (fun q=>some q) (fun _=>some (-1)) z).bind (fun r=>some (decide ((0:Int)≤r)))=some ((p.drop i).contains x):=by
  intro n
  induction n with
  |zero=>
   intro m i h hm;obtain⟨m,rfl⟩:∃a,m=a+1:=⟨m-1,by omega⟩;rw[DY.eq_2,cf (df (by omega)),List.drop_eq_nil_of_le (by omega)];rfl
  |succ n ih=>
   intro m i h hm;obtain⟨m,rfl⟩:∃a,m=a+1:=⟨m-1,by omega⟩;have hi:i<p.length:=by omega
   rw[DY.eq_2,ct (dt (by omega)),CI hi,List.drop_eq_getElem_cons hi,List.contains_cons];cases e:x==p[i] with
   |true=>
    rw[ct rfl,Bool.true_or];show some (decide ((0:Int)≤(i:Int)))=some true;rw[dt (by omega)]
   |false=>rw[cf rfl,BK (by omega) (by omega),D5 i,Bool.false_or];exact ih m (i+1) (by omega) (by omega)
 have:=h p.length K 0 (by omega) (by omega);rw[Int.natCast_zero,List.drop_zero] at this;exact this
end
def arr (l:List Int):AA:=⟨l.getD 0 0,l.getD 1 0,l.getD 2 0⟩
theorem Wo(l:List Int):(⟨0,0,0⟩:AA).cp l=arr l:=rfl
theorem Ur{w l:List Int}(a:l.length≤3)(h:w.length=l.length):dot w [(arr l).a0,(arr l).a1,(arr l).a2]=dot w l:=by
 match w,l,a,h with
 |[],[],_,_=>rfl
 |[_],[_],_,_=>rfl
 |[_,_],[_,_],_,_=>rfl
 |[_,_,_],[_,_,_],_,_=>rfl
 |_::_::_::_::_,_::_::_::_::_,a,_=>simp at a
theorem I9{l:List Int}(a:l.length≤3){k:Nat}(hk:k<l.length):idx [(arr l).a0,(arr l).a1,(arr l).a2] (k:Int)=some l[k]:=by
 match l,k,a,hk with
 |_::_,0,_,_=>rfl
 |_::_::_,1,_,_=>rfl
 |_::_::_::_,2,_,_=>rfl
 |l,k+3,a,hk=>omega
theorem Wp{l:List Int}(b:∀x∈l,0≤x∧x≤100):∀x∈[(arr l).a0,(arr l).a1,(arr l).a2],0≤x∧x≤100:=by
 have h:∀k,0≤l.getD k 0∧l.getD k 0≤100:=fun k=>by
  by_cases hk:k<l.length
  ·rw[C6 _ hk];exact b _ (List.getElem_mem hk)
  ·rw[List.getD_eq_getElem?_getD,List.getElem?_eq_none (by omega)];simp
 intro x a;simp only[arr,List.mem_cons,List.not_mem_nil,or_false] at a;rcases a with rfl|rfl|rfl<;>exact h _
theorem PO(s:AA)(w:List Int)(hw:w.length≤3)(bw:∀x∈w,0≤x∧x≤30)(bl:∀x∈[s.a0,s.a1,s.a2],0≤x∧x≤100):∀(n m i:Nat) (z:Int),w.length=i+n→n<m→0≤z∧z≤3000*(i:Int)→
  Dy s w m z (i:Int)=some (z+dot (w.drop i) ([s.a0,s.a1,s.a2].drop i))
 |n,0,i,z,h,hm,_=>by omega
 |0,m+1,i,z,h,hm,hs=>by
  rw[Dy.eq_2,cf (df (by omega)),List.drop_eq_nil_of_le (by omega:w.length≤i)];simp[dot]
 |n+1,m+1,i,z,h,hm,hs=>by
  have h2:i<w.length:=by omega
  have h1:i<[s.a0,s.a1,s.a2].length:=by simp;omega
  have b1:=bw _ (List.getElem_mem h2);have b2:=bl _ (List.getElem_mem h1);have b3:=Ii b1.1 b1.2 b2.1 b2.2;rw[Dy.eq_2,ct (dt (by omega)),CI h2,CI h1,BK (by omega) (by omega),BK (by omega) (by omega),BK (by omega) (by omega),D5 i,
   PO s w hw bw bl n m (i+1) _ (by omega) (by omega) (by omega),List.drop_eq_getElem_cons h1,List.drop_eq_getElem_cons h2,dot,Int.add_assoc]
section
variable{K:Nat}(hK:1000≤K)
include hK
theorem Us{l w:List Int}(hl:l.length≤3)(hw:w.length=l.length)(bw:∀x∈w,0≤x∧x≤30)(bl:∀x∈l,0≤x∧x≤100)(hs:0<w.sum):DB K (arr l) w=some (DS l w):=by
 unfold DB;have h:=PO (arr l) w (by omega) bw (Wp bl) w.length K 0 0 (by omega) (by omega) (by omega);rw[Int.natCast_zero,Int.zero_add,List.drop_zero,List.drop_zero,Ur hl hw] at h;have h2:=MM w l bw bl;have e:=Kj (a:=0) (b:=30) (by omega) (by omega) w bw;have c:=M4 bw bl hs;unfold DS at c⊢;rw[bd h,bd (Rq hK w (by omega) (fun x d=>by have:=bw x d;omega)),SW (by omega) (by omega),BK (by omega) (by omega)]
theorem Jv{c:Av}(hc:OkC c){l:List Int}(hl:Di c.Ac l=true){k:Nat}(hk:k<c.Ai.length):DB K (arr l) c.Ai[k]=some (DS l c.Ai[k]):=by
 obtain⟨h1,h2,a,_⟩:=hc.DE _ (List.getElem_mem hk);have b:=F5 hl;have:=hc.hl;exact Us hK (by omega) (by omega) h2 (ML hc.ok hl) a
theorem OD{c:Av}(hc:OkC c){l:List Int}(hl:Di c.Ac l=true):Ff K c (arr l) []=some (Ij c l):=by
 have n:=F5 hl;have b:=hc.hl;have:=hc.cl;have:=hc.tl;unfold Ff;have h:CB K c (arr l) [] K 0=some (cond (c.Ap.all fun t=>Em (FZ c l t) t.AO t.AP) (.inr ()) (.inl false)):=
  KF c.Ap (fun m i=>CB K c (arr l) [] m (i:Int)) (fun t=>Em (FZ c l t) t.AO t.AP) false
   (fun m i hi=>by
    show CB K c (arr l) [] (m+1) (i:Int)=_;obtain⟨h0,h1,h2⟩:=hc.TN _ (List.getElem_mem hi);have e:Ga K c c.Ap[i]=some (cond c.Ap[i].BQ ((c.Ac.length:Int)+c.Ap[i].Number) c.Ap[i].Number):=by
     unfold Ga;cases e:c.Ap[i].BQ with
     |true=>have:=h1 e;rw[ct rfl,BK (by omega) (by omega),ct rfl]
     |false=>rw[cf rfl,cf rfl]
    have d:Dz K c (arr l) (cond c.Ap[i].BQ ((c.Ac.length:Int)+c.Ap[i].Number) c.Ap[i].Number)=some (FZ c l c.Ap[i]):=by
     unfold Dz FZ;cases e:c.Ap[i].BQ with
     |true=>
      have b:=h1 e;obtain⟨k,hk⟩:∃k:Nat,c.Ap[i].Number=k:=⟨c.Ap[i].Number.toNat,by omega⟩;have a:k<c.Ai.length:=by omega
      have f:(c.Ac.length:Int)+(k:Int)-(c.Ac.length:Int)=(k:Int):=by omega
      rw[ct rfl,ct rfl,hk,ct (dt (by omega)),BK (by omega) (by omega),f,CI a,bd (Jv hK hc hl a),Int.toNat_natCast,C6 _ a]
     |false=>
      have o:=h2 e;obtain⟨k,hk⟩:∃k:Nat,c.Ap[i].Number=k:=⟨c.Ap[i].Number.toNat,by omega⟩;have a:k<l.length:=by omega
      rw[cf rfl,cf rfl,hk,cf (df (by omega)),bd (I9 (by omega) a),Int.toNat_natCast,C6 _ a]
    have g:ER K ⟨c.Ap[i].AO,c.Ap[i].AP⟩ (FZ c l c.Ap[i])=some (Em (FZ c l c.Ap[i]) c.Ap[i].AO c.Ap[i].AP):=by
     unfold ER;rw[bd (IN ..)]
    have j:List.contains ([]:List Int) (i:Int)=false:=rfl;rw[CB.eq_2,ct (dt (by omega)),CI hi,bd (KI hK [] _ (by simp)),j,nf,bd e,bd d,bd g];cases Em (FZ c l c.Ap[i]) c.Ap[i].AO c.Ap[i].AP with
    |false=>rw[nf,cf rfl]
    |true=>rw[nt,BK (by omega) (by omega),D5 i,ct rfl])
   (fun m=>by
    show CB K c (arr l) [] (m+1) (c.Ap.length:Int)=_;rw[CB.eq_2,cf (df (by omega))]) (by omega)
 rw[bd h];unfold Ij;cases c.Ap.all fun t=>Em (FZ c l t) t.AO t.AP with
 |false=>rfl
 |true=>rfl
theorem Nz(c:Av)(l:List Int)(a:c.Ac.length≤100)(he:l.length=c.Ac.length):∀(n m i:Nat),l.length=i+n→n<m→
  DG K c l m (i:Int)=some (cond (Di (c.Ac.drop i) (l.drop i)) (.inr ()) (.inl false))
 |n,0,i,h,hm=>by omega
 |0,m+1,i,h,hm=>by
  rw[DG.eq_2,cf (df (by omega)),List.drop_eq_nil_of_le (by omega:l.length≤i),List.drop_eq_nil_of_le (by omega:c.Ac.length≤i),OB,ct rfl]
 |n+1,m+1,i,h,hm=>by
  have h1:i<l.length:=by omega
  have h2:i<c.Ac.length:=by omega
  have e:ER K c.Ac[i] l[i]=some (Em l[i] c.Ac[i].Lo c.Ac[i].Hi):=by unfold ER;rw[bd (IN ..)]
  rw[DG.eq_2,ct (dt (by omega)),CI h2,CI h1,bd e,List.drop_eq_getElem_cons h1,List.drop_eq_getElem_cons h2,Di];cases Em l[i] c.Ac[i].Lo c.Ac[i].Hi with
  |false=>rw[nf,Bool.false_and,cf rfl]
  |true=>rw[nt,BK (by omega) (by omega),D5 i,Bool.true_and,Nz c l a he n m (i+1) (by omega) (by omega)]
theorem RC{rs:List AH}{l:List Int}(h:l.length≠rs.length):Di rs l=false:=by
 rw[Bool.eq_false_iff];intro g;exact h (F5 g)
theorem NA(c:Av)(l:List Int)(a:c.Ac.length≤100)(hl:l.length≤100):E5 K c l=some (cond (Di c.Ac l) (arr l) ⟨0,0,0⟩,Di c.Ac l):=by
 unfold E5
 by_cases he:l.length=c.Ac.length
 ·have:=Nz hK c l a he l.length K 0 (by omega) (by omega);rw[Int.natCast_zero,List.drop_zero,List.drop_zero] at this;rw[cf (HO (by omega)),bd this,Wo];cases Di c.Ac l<;>rfl
 ·rw[ct (Jn (by omega)),RC hK he,cf rfl]
theorem Mi{c:Av}(hc:OkC c):Du K c=some 0:=by
 rw[KT hK c hc.len.1 hc.len.2.1 hc.len.2.2.1 hc.len.2.2.2,hc.fault]
theorem NP{c:Av}(hc:OkC c){l:List Int}(hl:l.length≤100):F4 K c l=some (Dt c l):=by
 have:=hc.hl;unfold F4 Dt;rw[bd (Mi hK hc),cf (HO rfl),bd (NA hK c l (by omega) hl)];cases h:Di c.Ac l with
 |false=>rw[cf rfl,Bool.false_and]
 |true=>rw[ct rfl,ct rfl,bd (OD hK hc h),Bool.true_and]
theorem Ut {c:Av} (hc:OkC c) {l:List Int} (hl:Di c.Ac l=true):Ib K c l=some (c.Ai.map (DS l),0):=by
 have f:=hc.hl;have g:=hc.cl;have j:=F5 hl;unfold Ib;rw[bd (Mi hK hc),cf (HO rfl),bd (NA hK c l (by omega) (by omega)),hl,nt,ct rfl];have a:∀(d m i:Nat) (acc:List Int),c.Ai.length=i+d→d<m→acc.length≤i→FT K c (arr l,true) m acc (i:Int)=some (acc++(c.Ai.drop i).map (DS l)):=by
  intro d
  induction d with
  |zero=>
   intro m i acc h hm e;obtain⟨m,rfl⟩:∃b,m=b+1:=⟨m-1,by omega⟩;rw[FT.eq_2,cf (df (by omega)),List.drop_eq_nil_of_le (by omega),List.map_nil,List.append_nil]
  |succ d ih=>
   intro m i acc h hm e;obtain⟨m,rfl⟩:∃b,m=b+1:=⟨m-1,by omega⟩;have hi:i<c.Ai.length:=by omega
   rw[FT.eq_2,ct (dt (by omega)),CI hi,bd (Jv hK hc hl hi),GZ (by simp;omega),BK (by omega) (by omega),D5 i,ih m (i+1) _ (by omega) (by omega) (by simp;omega),List.drop_eq_getElem_cons hi,List.map_cons,List.append_assoc];rfl
 have:=a c.Ai.length K 0 [] (by omega) (by omega) (by simp);rw[Int.natCast_zero,List.drop_zero,List.nil_append] at this;rw[bd this]
end
def FI(g:List B4)(s:Int):Int:=match g.find? (fun x=>decide (x.BV≤s)) with|some x=>x.C0|none=>0
def AW (t:AS) (l:List Int):List Int:=t.Ad.map fun w=>FI t.Bl (DS l w)*w.sum
structure OkT(t:AS):Prop where
 len:SZ t
 fault:Ge t=0
 many:Fv t.As≤150
theorem Gq{t:AS}(h:Ge t=0):Fm t.C=0∧t.Bl.length≤3∧t.B8.length≤3∧t.BA.length≤5∧(0≤t.Flat∧t.Flat≤100)∧0<t.Bl.length∧GK 101 100 t.Bl=true∧(∀o∈t.B8,JN t o=true)∧∀n∈t.BA,KH t n=true:=by
 unfold Ge at h;split at h
 ·rename_i h0;exact absurd h h0
 rename_i h0
 split at h
 ·omega
 rename_i h1
 split at h
 ·omega
 rename_i h2
 split at h
 ·omega
 rename_i c
 split at h
 ·omega
 rename_i a
 split at h
 ·omega
 rename_i h5
 split at h
 ·omega
 rename_i b
 refine⟨Decidable.byContradiction h0,by omega,by omega,by omega,DQ.1 (by simpa using h2),by omega,by simpa using a,?_,?_⟩
 ·exact List.all_eq_true.1 (by simpa using h5)
 ·exact List.all_eq_true.1 (by simpa using b)
theorem NB:∀{l:List B4} {s p:Int},GK s p l=true→∀g∈l,(0≤g.BV∧g.BV<s)∧0≤g.C0∧g.C0≤p
 |[],_,_,_,g,a=>by cases a
 |x::l,s,p,h,g,a=>by
  rw[GK,Bool.and_eq_true,Bool.and_eq_true] at h;have h1:=DQ.1 h.1;have h2:=DQ.1 h.2.1;rcases List.mem_cons.1 a with rfl|a
  ·exact⟨by omega,h2⟩
  ·have:=NB h.2.2 g a;omega
namespace OkT
variable{t:AS}(h:OkT t)
include h
theorem c:OkC t.C:=⟨h.len.1,(Gq h.fault).1,h.many⟩
theorem gl:t.Bl.length≤3:=(Gq h.fault).2.1
theorem nl:t.BA.length≤5:=(Gq h.fault).2.2.2.1
theorem flat:0≤t.Flat∧t.Flat≤100:=(Gq h.fault).2.2.2.2.1
theorem g0:0<t.Bl.length:=(Gq h.fault).2.2.2.2.2.1
theorem gr:GK 101 100 t.Bl=true:=(Gq h.fault).2.2.2.2.2.2.1
theorem TP:∀g∈t.Bl,(0≤g.BV∧g.BV≤100)∧0≤g.C0∧g.C0≤100:=fun g a=>by have:=NB h.gr g a;omega
theorem order:∀o∈t.B8,(0≤o.Hf∧o.Hf<t.Bl.length)∧1≤o.Hu∧o.Hu≤90:=fun o a=>by
 have h1:=(Gq h.fault).2.2.2.2.2.2.2.1 o a;unfold JN at h1;rw[Bool.and_eq_true] at h1;have h2:=DQ.1 h1.1;exact⟨by omega,DQ.1 h1.2⟩
theorem note:∀n∈t.BA,(0≤n.BQ∧n.BQ<t.Ad.length)∧0≤n.C9∧n.C9≤n.Da∧n.Da≤9000:=fun n hn=>by
 have h1:=(Gq h.fault).2.2.2.2.2.2.2.2 n hn;unfold KH at h1;rw[Bool.and_eq_true] at h1;have h2:=DQ.1 h1.1;exact⟨by omega,M3.1 h1.2⟩
theorem DE:∀w∈t.Ad,w.length=t.As.length∧(∀x∈w,0≤x∧x≤30)∧0<w.sum∧w.sum≤90:=h.c.DE
theorem kl:t.Ad.length≤3:=h.c.cl
theorem hl:t.As.length≤3:=h.c.hl
theorem XJ(s:Int):0≤FI t.Bl s∧FI t.Bl s≤100:=by
 unfold FI;split
 ·rename_i x a
  exact(h.TP x (List.mem_of_find?_eq_some a)).2
 ·omega
theorem QL(l:List Int):∀x∈AW t l,0≤x∧x≤9000:=fun x a=>by
 unfold AW at a;obtain⟨w,hw,rfl⟩:=List.mem_map.1 a;have h1:=h.XJ (DS l w);have h2:=h.DE w hw;have:=Ii h1.1 h1.2 (by omega:0≤w.sum) h2.2.2.2;omega
end OkT
theorem Fb(t:AS)(l:List Int):(AW t l).length=t.Ad.length:=List.length_map ..
section
variable{K:Nat}(hK:1000≤K)
include hK
end
def Hk (t:AS) (m:List (List Int×Int)):Prop:=∀(i:Nat) (s v:Int),BO m [(i:Int),s]=some v→v=FI t.Bl s*(t.Ad.getD i []).sum
theorem PQ(t:AS):Hk t []:=fun i s v h=>by cases h
def wk (t:AS) (a:List AA) (m:List (List Int×Int)):Cf:=⟨t.As,t.Ad,t.AJ,t.Flat,t.Bl,t.B8,t.BA,t.Ad.map List.sum,a,m⟩
def B7(t:AS)(l:List Int):AA:=arr (t.Ad.map (DS l))
theorem Uu:∀{l:List Int} {i:Nat} (x:Int),l.length=i→i<3→(arr l).set i x=arr (l++[x])
 |[],_,x,rfl,_=>rfl
 |[_],_,x,rfl,_=>rfl
 |[_,_],_,x,rfl,_=>rfl
 |_::_::_::_,_,x,rfl,h=>by simp at h;omega
section
variable{K:Nat}(hK:1000≤K)
include hK
theorem OE{t:AS}(b:OkT t)(a:List AA)(m:List (List Int×Int)){k:Nat}(hk:k<t.Ad.length)(s:Int):∀(d n i:Nat),t.Bl.length=i+d→d<n→
  Dv (wk t a m) ⟨(k:Int),s⟩ n 0 (i:Int)=some (FI (t.Bl.drop i) s*t.Ad[k].sum)
 |d,0,i,h,hn=>by omega
 |0,n+1,i,h,hn=>by
  have e:((wk t a m).AR.length:Int)=t.Bl.length:=rfl;rw[Dv.eq_2,cf (df (by omega)),List.drop_eq_nil_of_le (by omega)];simp[FI]
 |d+1,n+1,i,h,hn=>by
  have h1:i<t.Bl.length:=by omega
  have g:=b.gl;have c:k<(wk t a m).weights.length:=by show k<(List.map _ _).length;simpa using hk
  have f:(wk t a m).weights[k]'c=t.Ad[k].sum:=by simp[wk]
  rw[Dv.eq_2,ct (dt (show(i:Int)<((wk t a m).AR.length:Int) by show(i:Int)<(t.Bl.length:Int);omega)),CI (xs:=(wk t a m).AR) h1,List.drop_eq_getElem_cons h1];show cond (decide (t.Bl[i].BV≤s)) _ _=_
  by_cases h2:t.Bl[i].BV≤s
  ·have b1:=(b.TP _ (List.getElem_mem h1)).2;have b2:=b.DE _ (List.getElem_mem hk);have b3:=Ii b1.1 b1.2 (by omega:0≤t.Ad[k].sum) b2.2.2.2;rw[ct (dt h2),CI c,f];show(i64 (t.Bl[i].C0*_)).bind _=_;rw[BK (by omega) (by omega)];unfold FI;rw[List.find?_cons,dt h2];rfl
  ·rw[cf (df h2),BK (by omega) (by omega),D5 i,OE b a m hk s d n (i+1) (by omega) (by omega)]
   congr 2
   unfold FI;rw[List.find?_cons,df h2]
theorem S6{t:AS}(d:OkT t)(c:List AA){m:List (List Int×Int)}(hm:Hk t m){k:Nat}(hk:k<t.Ad.length)(s:Int):
  ∃a,Hk t a∧Fj K (wk t c m) ⟨(k:Int),s⟩=some (FI t.Bl s*t.Ad[k].sum,a):=by
 have g:=d.gl;unfold Fj;show∃a,Hk t a∧cond (!((BO m [(k:Int),s]).isSome)) _ _=_;cases e:BO m [(k:Int),s] with
 |some v=>
  have h1:=hm k s v e;rw[C6 _ hk] at h1;refine⟨m,hm,?_⟩;show cond (!true) _ (some ((BO m [(k:Int),s]).getD 0,m))=_;rw[nt,e,←h1];rfl
 |none=>
  have h:=OE hK d c m hk s t.Bl.length K 0 (by omega) (by omega);rw[Int.natCast_zero,List.drop_zero] at h;refine⟨EE m [(k:Int),s] (FI t.Bl s*t.Ad[k].sum),fun i f v b=>?_,?_⟩
  ·rw[IC] at b;split at b
   ·rename_i he
    simp only[List.cons.injEq,and_true] at he;obtain⟨j,rfl⟩:=he;obtain rfl:i=k:=by omega
    rw[C6 _ hk];exact(Option.some.inj b).symm
   ·exact hm i f v b
  ·show cond (!false) ((Dv (wk t c m) ⟨(k:Int),s⟩ K ((BO m [(k:Int),s]).getD 0) 0).bind _) _=_;rw[nf,e,Option.getD_none,bd h];rfl
theorem PR{t:AS}(c:OkT t)(a:List AA)(b:List (List Int×Int))(l:List Int):∀(d n i:Nat) (m:List (List Int×Int)),t.Ad.length=i+d→d<n→Hk t m→
  ∃f,Hk t f∧Dg K (wk t a b) (B7 t l) n (i:Int) (arr ((AW t l).take i)).a0 (arr ((AW t l).take i)).a1 (arr ((AW t l).take i)).a2 m=some ((arr (AW t l)).a0,(arr (AW t l)).a1,(arr (AW t l)).a2,f)
 |d,0,i,m,h,hn,_=>by omega
 |0,n+1,i,m,h,hn,hm=>by
  have e:((wk t a b).weights.length:Int)=t.Ad.length:=by show((List.map _ _).length:Int)=_;simp
  refine⟨m,hm,?_⟩;rw[Dg.eq_2,cf (df (by omega)),List.take_of_length_le (by rw[Fb];omega)]
 |d+1,n+1,i,m,h,hn,hm=>by
  have g:=c.kl;have e:((wk t a b).weights.length:Int)=t.Ad.length:=by show((List.map _ _).length:Int)=_;simp
  have hi:i<t.Ad.length:=by omega
  have j:i<(AW t l).length:=by rw[Fb];exact hi
  have g1:idx [(B7 t l).a0,(B7 t l).a1,(B7 t l).a2] (i:Int)=some (DS l t.Ad[i]):=by
   have:=I9 (l:=t.Ad.map (DS l)) (by simpa using g) (k:=i) (by simpa using hi);rw[List.getElem_map] at this;exact this
  obtain⟨o,p,g2⟩:=S6 hK c a hm hi (DS l t.Ad[i]);have g3:idx ([(arr ((AW t l).take i)).a0,(arr ((AW t l).take i)).a1,(arr ((AW t l).take i)).a2]:List Int) (i:Int)=some (([(arr ((AW t l).take i)).a0,(arr ((AW t l).take i)).a1,(arr ((AW t l).take i)).a2]:List Int)[i]'(by simp;omega)):=idx_eq _;have g4:(arr ((AW t l).take i)).set i (FI t.Bl (DS l t.Ad[i])*t.Ad[i].sum)=arr ((AW t l).take (i+1)):=by
   rw[Uu _ (by rw[List.length_take];omega) (by omega),List.take_succ_eq_append_getElem j];simp[AW]
  obtain⟨r,q,g5⟩:=PR c a b l d n (i+1) o (by omega) (by omega) p;refine⟨r,q,?_⟩;rw[Dg.eq_2,ct (dt (by omega)),bd g1];show(Fj K (wk t a m) ⟨(i:Int),DS l t.Ad[i]⟩).bind _=_;rw[bd g2,bd g3,BK (by omega) (by omega),D5 i,Int.toNat_natCast];show Dg K (wk t a b) (B7 t l) n ((i+1:Nat):Int) ((arr ((AW t l).take i)).set i (FI t.Bl (DS l t.Ad[i])*t.Ad[i].sum)).a0 ((arr ((AW t l).take i)).set i (FI t.Bl (DS l t.Ad[i])*t.Ad[i].sum)).a1 ((arr ((AW t l).take i)).set i (FI t.Bl (DS l t.Ad[i])*t.Ad[i].sum)).a2 o=_;rw[g4];exact g5
theorem PS{t:AS}(c:OkT t)(b:List AA){m:List (List Int×Int)}(hm:Hk t m)(l:List Int):
  ∃a,Hk t a∧ES K (wk t b m) (B7 t l)=some (arr (AW t l),a):=by
 have:=c.kl;obtain⟨a,h1,h2⟩:=PR hK c b m l t.Ad.length K 0 m (by omega) (by omega) hm;refine⟨a,h1,?_⟩;unfold ES;have d:Dg K (wk t b m) (B7 t l) K 0 0 0 0 (wk t b m).known=some ((arr (AW t l)).a0,(arr (AW t l)).a1,(arr (AW t l)).a2,a):=h2;rw[bd d]
end
theorem KJ{σ α:Type}(cb:σ→α→Option (Bool×σ))(a:List α):∀(b:List α) (s:σ),run cb (b++a) s=(run cb b s).bind fun r=>cond r.1 (run cb a r.2) (some (false,r.2))
 |[],s=>rfl
 |x::l,s=>by
  simp only[List.cons_append,run];cases cb s x with
  |none=>rfl
  |some r=>
   simp only[Option.bind_some];cases h:r.1 with
   |false=>simp
   |true=>simpa using KJ cb a l r.2
def Fy:List AH→List (List Int)
 |[]=>[[]]
 |r::rs=>(List.range' 0 (CJ r).toNat).flatMap fun n:Nat=>(Fy rs).map fun x=>(r.Lo+(n:Int))::x
theorem JO:∀{rs:List AH} {l:List Int},(∀r∈rs,Hj r)→(l∈Fy rs↔Di rs l=true)
 |[],[],_=>by simp[Fy,Di]
 |[],_::_,_=>by simp[Fy,Di]
 |r::rs,[],_=>by simp[Fy,Di]
 |r::rs,x::xs,h=>by
  have h1:=h r (List.mem_cons_self ..);have h2:=GJ h1;rw[Fy,List.mem_flatMap,Di,Bool.and_eq_true,←JO (fun r c=>h r (List.mem_cons_of_mem _ c)),DQ];constructor
  ·rintro⟨n,hn,b⟩;obtain⟨y,a,e⟩:=List.mem_map.1 b;injection e with f d
   subst d;rw[List.mem_range'_1] at hn;refine⟨?_,a⟩;unfold CJ at hn h2;omega
  ·rintro⟨b,a⟩;refine⟨(x-r.Lo).toNat,?_,List.mem_map.2 ⟨xs,a,?_⟩⟩
   ·rw[List.mem_range'_1];unfold CJ;omega
   ·congr 1;omega
theorem Mj:∀{rs:List AH},(∀r∈rs,Hj r)→((Fy rs).length:Int)=Fv rs
 |[],_=>rfl
 |r::rs,h=>by
  have h2:=GJ (h r (List.mem_cons_self ..));have a:=Mj (rs:=rs) (fun r b=>h r (List.mem_cons_of_mem _ b));rw[MN,←a,Fy,List.length_flatMap];have:∀(n i:Nat),((List.range' i n).map fun n:Nat=>((Fy rs).map fun x=>(r.Lo+(n:Int))::x).length).sum=n*(Fy rs).length:=by
   intro n
   induction n with
   |zero=>intro i;simp
   |succ n ih=>intro i;rw[List.range'_succ,List.map_cons,List.sum_cons,ih,List.length_map,Nat.succ_mul,Nat.add_comm]
  rw[this,Int.natCast_mul,Int.toNat_of_nonneg (by omega)]
theorem take_set{out:List Int}{i:Nat}(v:Int)(h:i<out.length):(out.set i v).take (i+1)=out.take i++[v]:=by
 rw[List.take_succ_eq_append_getElem (by simpa using h),List.take_set_of_le (Nat.le_refl _),List.getElem_set_self]
section
variable{K:Nat}(hK:1000≤K)
include hK
theorem OF{σ:Type}(cb:σ→List Int→Option (Bool×σ))(f:Int→List AH→List Int→σ→Option (Bool×List Int×σ))(l:List AH)(hl:l.length≤100)(i:Nat)(hi:i<l.length)(k:Hj l[i])
  (ih:∀(out:List Int) (s:σ) (b:Bool) (d:σ),out.length=l.length→run cb ((Fy (l.drop (i+1))).map fun x=>out.take (i+1)++x) s=some (b,d)→∃c,c.length=l.length∧c.take (i+1)=out.take (i+1)∧f ((i+1:Nat):Int) l out s=some (b,c,d)):
  ∀(e m n:Nat) (out:List Int) (s:σ) (b:Bool) (d:σ),CJ l[i]=(n:Int)+e→e<m→out.length=l.length→
   run cb ((List.range' n e).flatMap fun n:Nat=>(Fy (l.drop (i+1))).map fun x=>out.take i++(l[i].Lo+(n:Int))::x) s=some (b,d)→
   ∃c,c.length=l.length∧c.take i=out.take i∧(Ee f (i:Int) l (CJ l[i]) m (n:Int) out s).bind (fun z=>Sum.elim (fun q=>some (q.1,q.2.1,q.2.2)) (fun q=>some (true,q.1,q.2)) z)=some (b,c,d)
 |e,0,n,out,s,b,d,h,hm,_,_=>by omega
 |0,m+1,n,out,s,b,d,h,hm,o,a=>by
  have:(true,s)=(b,d):=Option.some.inj a;injection this with p t
  subst p;subst t;refine⟨out,o,rfl,?_⟩;rw[Ee.eq_2,cf (df (by omega))];rfl
 |e+1,m+1,n,out,s,b,d,h,hm,o,a=>by
  have aC:=GJ k;have v:=k;unfold Hj at v;have j:i<out.length:=by omega
  rw[List.range'_succ,List.flatMap_cons,KJ] at a;have w:∀x:List Int,out.take i++(l[i].Lo+(n:Int))::x=(out.set i (l[i].Lo+(n:Int))).take (i+1)++x:=fun x=>by rw[take_set _ j,List.append_assoc];rfl
  simp only[w] at a;cases h1:run cb ((Fy (l.drop (i+1))).map fun x=>(out.set i (l[i].Lo+(n:Int))).take (i+1)++x) s with
  |none=>rw[h1] at a;cases a
  |some r=>
   obtain⟨b1,s1⟩:=r;rw[h1,Option.bind_some] at a;obtain⟨g,g1,g2,g3⟩:=ih (out.set i (l[i].Lo+(n:Int))) s b1 s1 (by rw[List.length_set];exact o) h1;have gt:g.take i=out.take i:=by
    have:=congrArg (List.take i) g2;rw[List.take_take,List.take_take,Nat.min_eq_left (by omega),List.take_set_of_le (Nat.le_refl _)] at this;exact this
   rw[Ee.eq_2,ct (dt (by omega)),CI hi,BK (by omega) (by omega),CI j,BK (by omega) (by omega),D5 i,Int.toNat_natCast,bd g3];cases b1 with
   |false=>
    have:(false,s1)=(b,d):=Option.some.inj a;injection this with p t
    subst p;subst t;exact⟨g,g1,gt,rfl⟩
   |true=>
    rw[nt,BK (by omega) (by omega),D5 n];simp only[←w] at a;rw[←gt] at a;obtain⟨u,y,aA,aB⟩:=OF cb f l hl i hi k ih e m (n+1) g s1 b d (by omega) (by omega) g1 a;exact⟨u,y,aA.trans gt,aB⟩
theorem PT{σ:Type}(cb:σ→List Int→Option (Bool×σ))(l:List AH)(hl:l.length≤100)(o:∀r∈l,Hj r):∀(d k i:Nat) (out:List Int) (s:σ) (b:Bool) (c:σ),l.length=i+d→d<k→out.length=l.length→
  run cb ((Fy (l.drop i)).map fun x=>out.take i++x) s=some (b,c)→∃f,f.length=l.length∧f.take i=out.take i∧DT K cb k (i:Int) l out s=some (b,f,c)
 |d,0,i,out,s,b,c,h,hk,_,_=>by omega
 |0,k+1,i,out,s,b,c,h,hk,g,a=>by
  rw[List.drop_eq_nil_of_le (by omega)] at a;have e:(Fy []).map (fun x=>out.take i++x)=[out]:=by
   show[out.take i++[]]=[out];rw[List.append_nil,List.take_of_length_le (by omega)]
  rw[e] at a;refine⟨out,g,rfl,?_⟩;rw[DT.eq_2,ct (KG (by omega))];simp only[run] at a;cases h1:cb s out with
  |none=>rw[h1] at a;cases a
  |some r=>
   obtain⟨b1,s1⟩:=r;rw[h1,Option.bind_some] at a;cases b1 with
   |true=>
    have:(true,s1)=(b,c):=Option.some.inj a;injection this with j m
    subst j;subst m;rfl
   |false=>
    have:(false,s1)=(b,c):=Option.some.inj a;injection this with j m
    subst j;subst m;rfl
 |d+1,k+1,i,out,s,b,c,h,hk,g,a=>by
  have hi:i<l.length:=by omega
  have n:=o _ (List.getElem_mem hi);have p:=GJ n;rw[List.drop_eq_getElem_cons hi,Fy,List.map_flatMap] at a;simp only[List.map_map] at a;rw[DT.eq_2,cf (Lf (by omega)),CI hi,bd (Um K n)];have:=OF hK cb (DT K cb k) l hl i hi n (fun out s b c h1 h2=>PT cb l hl o d k (i+1) out s b c (by omega) (by omega) h1 h2) (CJ l[i]).toNat K 0 out s b c (by omega) (by omega) g a;rw[Int.natCast_zero] at this;exact this
theorem Uv{σ:Type}(cb:σ→List Int→Option (Bool×σ))(l:List AH)(hl:l.length≤100)(c:∀r∈l,Hj r)(s:σ)(b:Bool)(a:σ)(h:run cb (Fy l) s=some (b,a)):Hx K cb l s=some a:=by
 unfold Hx;obtain⟨d,_,_,h2⟩:=PT hK cb l hl c l.length K 0 (List.replicate (l.length:Int).toNat 0) s b a (by omega) (by omega) (by simp) (by simpa using h);rw[Int.natCast_zero] at h2;rw[Y7 (by omega) (by omega) (by omega),bd h2]
theorem PU(t:AS)(hl:t.As.length≤100):Fi K t=some t.As:=by
 have a:∀(d m i:Nat) (acc:List AH),t.As.length=i+d→d<m→acc.length≤i→DN t m acc (i:Int)=some (acc++t.As.drop i):=by
  intro d
  induction d with
  |zero=>
   intro m i acc h hm c;obtain⟨m,rfl⟩:∃b,m=b+1:=⟨m-1,by omega⟩;rw[DN.eq_2,cf (df (by omega)),List.drop_eq_nil_of_le (by omega),List.append_nil]
  |succ d ih=>
   intro m i acc h hm c;obtain⟨m,rfl⟩:∃b,m=b+1:=⟨m-1,by omega⟩;have hi:i<t.As.length:=by omega
   rw[DN.eq_2,ct (dt (by omega)),CI hi,GZ (by simp;omega),BK (by omega) (by omega),D5 i,ih m (i+1) _ (by omega) (by omega) (by simp;omega),List.drop_eq_getElem_cons hi,List.append_assoc];rfl
 have:=a t.As.length K 0 [] (by omega) (by omega) (by simp);rw[Int.natCast_zero,List.drop_zero,List.nil_append] at this;unfold Fi;rw[bd this]
theorem RD{t:AS}(c:OkT t):Ed K t=some (wk t [] []):=by
 have g:=c.kl;have l:=c.hl;have a:∀(d m i:Nat) (acc:List Int),t.Ad.length=i+d→d<m→acc.length≤i→Df K t m (i:Int) acc=some (acc++(t.Ad.drop i).map List.sum):=by
  intro d
  induction d with
  |zero=>
   intro m i acc h hm f;obtain⟨m,rfl⟩:∃e,m=e+1:=⟨m-1,by omega⟩;rw[Df.eq_2,cf (df (by omega)),List.drop_eq_nil_of_le (by omega),List.map_nil,List.append_nil]
  |succ d ih=>
   intro m i acc h hm f;obtain⟨m,rfl⟩:∃e,m=e+1:=⟨m-1,by omega⟩;have hi:i<t.Ad.length:=by omega
   have hw:=c.DE _ (List.getElem_mem hi);have hs:Cx t.Ad[i] K 0 0=some t.Ad[i].sum:=by
    have:=MI t.Ad[i] (fun m s j=>Cx t.Ad[i] m s (j:Int)) (· +·) (fun j s=>0≤s∧s≤30*(j:Int)) id (fun j s b hs=>by have:=hw.2.1 _ (List.getElem_mem b);omega)
     (fun m j s b hs=>by
      have n:=hw.2.1 _ (List.getElem_mem b);show Cx t.Ad[i] (m+1) s (j:Int)=_;rw[Cx.eq_2,ct (dt (by omega)),CI b,BK (by omega) (by omega),BK (by omega) (by omega),D5 j])
     (fun m s _=>by
      show Cx t.Ad[i] (m+1) s (t.Ad[i].length:Int)=_;rw[Cx.eq_2,cf (df (by omega))];rfl) (k:=K) (s0:=0) (by omega) (by omega)
    rw[JY,Int.zero_add] at this;exact this
   rw[Df.eq_2,ct (dt (by omega)),CI hi,bd hs,GZ (by simp;omega),BK (by omega) (by omega),D5 i,ih m (i+1) _ (by omega) (by omega) (by simp;omega),List.drop_eq_getElem_cons hi,List.map_cons,List.append_assoc];rfl
 have:=a t.Ad.length K 0 [] (by omega) (by omega) (by simp);rw[Int.natCast_zero,List.drop_zero,List.nil_append] at this;unfold Ed;rw[bd this];rfl
theorem NC{t:AS}(a:OkT t){l:List Int}(hl:Di t.As l=true):E6 K t l=some (B7 t l):=by
 unfold E6;have h:Ib K ⟨t.As,t.Ad,t.AJ⟩ l=some (t.Ad.map (DS l),0):=Ut hK (c:=t.C) a.c hl;rw[bd h];rfl
end
theorem PV:∀{a b:List Int},a.length=b.length→a.length≤3→arr a=arr b→a=b
 |[],[],_,_,_=>rfl
 |[a],[b],_,_,h=>by injection h with h1;exact congrArg (fun x=>[x]) h1
 |[a,a2],[b,b2],_,_,h=>by
  injection h with h1 h2
  rw[show a=b from h1,show a2=b2 from h2]
 |[a,a2,a3],[b,b2,b3],_,_,h=>by
  injection h with h1 h2 c
  rw[show a=b from h1,show a2=b2 from h2,show a3=b3 from c]
 |_::_::_::_::_,_,_,h,_=>by simp at h
 |[],_::_,h,_,_=>by cases h
 |[_],[],h,_,_=>by cases h
 |[_],_::_::_,h,_,_=>by simp at h
 |[_,_],[],h,_,_=>by cases h
 |[_,_],[_],h,_,_=>by simp at h
 |[_,_],_::_::_::_,h,_,_=>by simp at h
 |[_,_,_],[],h,_,_=>by cases h
 |[_,_,_],[_],h,_,_=>by simp at h
 |[_,_,_],[_,_],h,_,_=>by simp at h
 |[_,_,_],_::_::_::_::_,h,_,_=>by simp at h
theorem RE {t:AS} (hk:t.Ad.length≤3) {l l':List Int} (h:B7 t l=B7 t l'):∀w∈t.Ad,DS l w=DS l' w:=by
 have e:=PV (by simp) (by simpa using hk) h;intro w hw;obtain⟨i,hi,rfl⟩:=List.getElem_of_mem hw;have:=congrArg (fun x=>x.getD i 0) e;simpa[List.getElem?_eq_getElem hi] using this
theorem ND{t:AS}(hk:t.Ad.length≤3){l l':List Int}(h:B7 t l=B7 t l'):AW t l=AW t l':=by
 unfold AW;exact List.map_congr_left fun w hw=>by rw[RE hk h w hw]
theorem OG{x y:AA}(h:[x.a0,x.a1,x.a2]=[y.a0,y.a1,y.a2]):x=y:=by cases x;cases y;simpa using h
def MO(M:List Int)(n:CT):Bool:=Em (M.getD n.BQ.toNat 0) n.C9 n.Da
def EG(M out:List Int):Nat→List CT→Bool
 |_,[]=>true
 |i,n::a=>(out.contains (i:Int)||MO M n)&&EG M out (i+1) a
structure Tr (t:AS) (L:List (List Int)):Prop where
 TQ:∀l∈L,Dt t.C l=true
 all:∀l,Dt t.C l=true→∃l'∈L,B7 t l'=B7 t l
 len:L.length≤150
section
variable{K:Nat}(hK:1000≤K)
include hK
theorem Uw(t:AS){M out:List Int}(f:M.length≤3)(hn:∀n∈t.BA,0≤n.BQ∧n.BQ<M.length)(hl:t.BA.length≤100)(g:out.length≤900):Ey K t (arr M) out=some (EG M out 0 t.BA):=by
 have a:∀(d m i:Nat),t.BA.length=i+d→d<m→Dw K t (arr M) out m (i:Int)=some (cond (EG M out i (t.BA.drop i)) (.inr ()) (.inl false)):=by
  intro d
  induction d with
  |zero=>
   intro m i h hm;obtain⟨m,rfl⟩:∃c,m=c+1:=⟨m-1,by omega⟩;rw[Dw.eq_2,cf (df (by omega)),List.drop_eq_nil_of_le (by omega),EG,ct rfl]
  |succ d ih=>
   intro m i h hm;obtain⟨m,rfl⟩:∃c,m=c+1:=⟨m-1,by omega⟩;have hi:i<t.BA.length:=by omega
   rw[Dw.eq_2,ct (dt (by omega)),CI hi,bd (KI hK out _ g),List.drop_eq_getElem_cons hi,EG];cases out.contains (i:Int) with
   |true=>rw[Bool.true_or,Bool.true_and,nt,BK (by omega) (by omega),D5 i,ih m (i+1) (by omega) (by omega)]
   |false=>
    obtain⟨h1,h2⟩:=hn _ (List.getElem_mem hi);obtain⟨k,hk⟩:∃k:Nat,t.BA[i].BQ=k:=⟨t.BA[i].BQ.toNat,by omega⟩;have b:k<M.length:=by omega
    have e:Eu K ⟨t.BA[i].C9,t.BA[i].Da⟩ M[k]=some (MO M t.BA[i]):=by
     unfold Eu MO;rw[bd (HR ..),hk,Int.toNat_natCast,C6 _ b]
    rw[nf,hk,bd (I9 f b),bd e,Bool.false_or];cases MO M t.BA[i] with
    |false=>rw[nf,Bool.false_and,cf rfl]
    |true=>rw[nt,BK (by omega) (by omega),D5 i,Bool.true_and,ih m (i+1) (by omega) (by omega)]
 have:=a t.BA.length K 0 (by omega) (by omega);rw[Int.natCast_zero,List.drop_zero] at this;unfold Ey;rw[bd this];cases EG M out 0 t.BA<;>rfl
theorem OH {t:AS} (f:OkT t):∀(X:List (List Int)) (a:List (List Int)),(∀l∈X,Di t.As l=true)→a.length+X.length≤5000→
  ∃L:List (List Int),run (fun(st:List AA) (x:List Int)=>DO K t st x) X (a.map (B7 t))=some (true,L.map (B7 t))∧(∀l∈L,l∈a∨l∈X∧Dt t.C l=true)∧(∀l∈a,l∈L)∧(∀l∈X,Dt t.C l=true→∃l'∈L,B7 t l'=B7 t l)∧L.length≤a.length+X.length
 |[],a,_,_=>⟨a,rfl,fun l h=>.inl h,fun l h=>h,fun l h=>(nomatch h),by simp⟩
 |x::X,a,i,hlen=>by
  have j:=i x (List.mem_cons_self ..);have u:=f.hl;have v:=F5 j;rw[List.length_cons] at hlen;have hp:F4 K ⟨t.As,t.Ad,t.AJ⟩ x=some (Dt t.C x):=NP hK (c:=t.C) f.c (by omega)
  
  have step:∃b:List (List Int),DO K t (a.map (B7 t)) x=some (true,b.map (B7 t))∧(∀l∈b,l∈a∨l=x∧Dt t.C x=true)∧(∀l∈a,l∈b)∧(Dt t.C x=true→∃l'∈b,B7 t l'=B7 t x)∧b.length≤a.length+1:=by
   unfold DO;rw[bd hp];cases g:Dt t.C x with
   |false=>exact⟨a,by rw[nf],fun l h=>.inl h,fun l h=>h,fun h=>(nomatch h),by omega⟩
   |true=>
    have d:∃b:List (List Int),(some (true,a.map (B7 t)++[B7 t x]):Option (Bool×List AA))=some (true,b.map (B7 t))∧(∀l∈b,l∈a∨l=x∧true=true)∧(∀l∈a,l∈b)∧(true=true→∃l'∈b,B7 t l'=B7 t x)∧b.length≤a.length+1:=
     ⟨a++[x],by simp,fun l h=>by simpa using h,fun l h=>by simp[h],fun _=>⟨x,by simp,rfl⟩,by simp⟩
    rw[nt,bd (NC hK f j)]
    by_cases h0:a.length=0
    ·rw[ct (KG (by simp[h0])),GZ (by simp;omega)];exact d
    ·rw[cf (Lf (by simp;simpa using h0)),BK (by simp;omega) (by simp;omega)];have e:(((a.map (B7 t)).length:Int))-1=((a.length-1:Nat):Int):=by rw[List.length_map];omega
     have k:a.length-1<(a.map (B7 t)).length:=by rw[List.length_map];omega
     rw[e,CI k];cases m:([((a.map (B7 t))[a.length-1]).a0,((a.map (B7 t))[a.length-1]).a1,((a.map (B7 t))[a.length-1]).a2] !=[(B7 t x).a0,(B7 t x).a1,(B7 t x).a2]) with
     |true=>rw[ct rfl,GZ (by simp;omega)];exact d
     |false=>
      rw[cf rfl];refine⟨a,rfl,fun l h=>.inl h,fun l h=>h,fun _=>⟨a[a.length-1]'(by omega),List.getElem_mem _,?_⟩,by omega⟩;have h1:[((a.map (B7 t))[a.length-1]).a0,((a.map (B7 t))[a.length-1]).a1,((a.map (B7 t))[a.length-1]).a2]=[(B7 t x).a0,(B7 t x).a1,(B7 t x).a2]:=by simpa using m
      rw[List.getElem_map] at h1;exact OG h1
  obtain⟨b,s1,s2,o,p,w⟩:=step;obtain⟨L,q,r,n,s,y⟩:=OH f X b (fun l hl=>i l (List.mem_cons_of_mem _ hl)) (by omega);refine⟨L,by rw[run,bd s1,ct rfl];exact q,?_,fun l hl=>n l (o l hl),?_,by rw[List.length_cons];omega⟩
  ·intro l hl;rcases r l hl with h|h
   ·rcases s2 l h with h|⟨rfl,h⟩
    ·exact .inl h
    ·exact .inr ⟨List.mem_cons_self ..,h⟩
   ·exact .inr ⟨List.mem_cons_of_mem _ h.1,h.2⟩
  ·intro l hl g;rcases List.mem_cons.1 hl with rfl|hl
   ·obtain⟨l',h1,h2⟩:=p g;exact⟨l',n l' h1,h2⟩
   ·exact s l hl g
theorem Wq{t:AS}(a:OkT t):∃L,Tr t L∧GA K t=some (wk t (L.map (B7 t)) []):=by
 have j:=a.hl;have hlen:((Fy t.As).length:Int)=Fv t.As:=Mj a.c.ok;have b:=a.many;obtain⟨L,d,e,_,f,i⟩:=OH hK a (Fy t.As) [] (fun l hl=>(JO (rs:=t.As) a.c.ok).1 hl) (by simp;omega);refine⟨L,⟨fun l hl=>?_,fun l hl=>f l ((JO (rs:=t.As) a.c.ok).2 (S2 hl)) hl,by simp at i;omega⟩,?_⟩
 ·rcases e l hl with h|h
  ·cases h
  ·exact h.2
 ·unfold GA;have g:=Uv hK _ t.As (by omega) a.c.ok _ true _ d;rw[List.map_nil] at g;rw[bd (RD hK a),bd (PU hK t (by omega)),bd g];rfl
def Jq (t:AS) (out:List Int) (L:List (List Int)):List (AA×AA):=(L.filter fun l=>EG (AW t l) out 0 t.BA).map fun l=>(B7 t l,arr (AW t l))
theorem Mk{σ:Type}{t:AS}(g:OkT t){out:List Int}(p:out.length≤900)(cb:σ→(AA×AA)→Option (Bool×σ))(L:List (List Int))(v:L.length≤150)(f:List (List Int×Int)):∀(d n i:Nat) (m:List (List Int×Int)) (s:σ) (b:Bool) (c:σ),L.length=i+d→d<n→Hk t m→
  run cb (Jq t out (L.drop i)) s=some (b,c)→∃j,Hk t j∧(Db cb K (wk t (L.map (B7 t)) f) out n (i:Int) m s).bind (fun z=>Sum.elim (fun q=>some (q.1,q.2)) (fun q=>some (q.1,q.2)) z)=some (j,c)
 |d,0,i,m,s,b,c,h,hn,_,_=>by omega
 |0,n+1,i,m,s,b,c,h,hn,hm,a=>by
  have e:((wk t (L.map (B7 t)) f).BL.length:Int)=L.length:=by show((List.map _ _).length:Int)=_;simp
  rw[List.drop_eq_nil_of_le (by omega)] at a;have:(true,s)=(b,c):=Option.some.inj a;injection this with y k
  subst k;refine⟨m,hm,?_⟩;rw[Db.eq_2,cf (df (by omega))];rfl
 |d+1,n+1,i,m,s,b,c,h,hn,hm,a=>by
  have e:((wk t (L.map (B7 t)) f).BL.length:Int)=L.length:=by show((List.map _ _).length:Int)=_;simp
  have w:=g.kl;have aA:=g.nl;have hi:i<L.length:=by omega
  have o:i<(wk t (L.map (B7 t)) f).BL.length:=by show i<(List.map _ _).length;simpa using hi
  have k:(wk t (L.map (B7 t)) f).BL[i]'o=B7 t L[i]:=by simp[wk]
  obtain⟨u,l,g1⟩:=PS hK g (L.map (B7 t)) hm L[i];have g2:Ey K t (arr (AW t L[i])) out=some (EG (AW t L[i]) out 0 t.BA):=Uw hK t (by rw[Fb];exact w) (fun n hn=>by rw[Fb];exact(g.note n hn).1) (by omega) p;rw[Db.eq_2,ct (dt (by omega)),CI o,k];show∃j,Hk t j∧(((ES K (wk t (L.map (B7 t)) m) (B7 t L[i])).bind _).bind _)=_;rw[bd g1];show∃j,Hk t j∧(((Ey K t (arr (AW t L[i])) out).bind _).bind _)=_;rw[bd g2];unfold Jq at a;rw[List.drop_eq_getElem_cons hi,List.filter_cons] at a;cases x:EG (AW t L[i]) out 0 t.BA with
  |false=>
   rw[x,if_neg (by simp)] at a;rw[cf rfl,BK (by omega) (by omega),D5 i];exact Mk g p cb L v f d n (i+1) u s b c (by omega) (by omega) l a
  |true=>
   rw[x,if_pos rfl,List.map_cons,run] at a;rw[ct rfl];cases hc:cb s (B7 t L[i],arr (AW t L[i])) with
   |none=>rw[hc] at a;cases a
   |some r=>
    obtain⟨b1,s1⟩:=r;rw[hc,Option.bind_some] at a;rw[Option.bind_some];cases b1 with
    |false=>
     have:(false,s1)=(b,c):=Option.some.inj a;injection this with y k
     subst k;exact⟨u,l,rfl⟩
    |true=>
     rw[nt,BK (by omega) (by omega),D5 i];exact Mk g p cb L v f d n (i+1) u s1 b c (by omega) (by omega) l a
theorem OI{σ:Type}{t:AS}(d:OkT t){out:List Int}(e:out.length≤900)(cb:σ→(AA×AA)→Option (Bool×σ)){L:List (List Int)}(f:L.length≤150){m:List (List Int×Int)}(hm:Hk t m){s:σ}{b:Bool}{a:σ}
  (h:run cb (Jq t out L) s=some (b,a)):∃c,Hk t c∧FD K cb (wk t (L.map (B7 t)) m) out s=some (c,a):=
 Mk hK d e cb L f m L.length K 0 m s b a (by omega) (by omega) hm (by rw[List.drop_zero];exact h)
theorem QM{t:AS}(d:OkT t){out:List Int}(f:out.length≤900){L:List (List Int)}(g:L.length≤150){m:List (List Int×Int)}(hm:Hk t m):
  ∃a,Hk t a∧D0 K (wk t (L.map (B7 t)) m) out=some (L.any fun l=>EG (AW t l) out 0 t.BA,a):=by
 have c:∃b,run (fun(st:Bool×Bool) (x:AA×AA)=>cond st.2 none (ET st.1 x)) (Jq t out L) (false,false)=some (b,(L.any fun l=>EG (AW t l) out 0 t.BA,L.any fun l=>EG (AW t l) out 0 t.BA)):=by
  have e:(L.any fun l=>EG (AW t l) out 0 t.BA)= !(Jq t out L).isEmpty:=by
   unfold Jq;rw[Bool.eq_iff_iff,List.any_eq_true];simp
  rw[e];cases Jq t out L with
  |nil=>exact⟨true,rfl⟩
  |cons x X=>exact⟨false,rfl⟩
 obtain⟨b,c⟩:=c;obtain⟨a,h1,h2⟩:=OI hK d f _ g hm c;refine⟨a,h1,?_⟩;unfold D0;rw[bd h2];cases L.any fun l=>EG (AW t l) out 0 t.BA<;>rfl
end
theorem RF:∀i:Nat,i<6→L5 .u64 (i:Int)=some ()∧Oh 1 (i:Int)=some ()∧J4 1 (i:Int)=((2^i:Nat):Int)∧2^i≤32∧1≤2^i∧Oh 2 (i:Int)=some ()∧J4 2 (i:Int)=((2^(i+1):Nat):Int):=by decide+kernel
theorem Y9(a b:Nat):Oi (a:Int) (b:Int)=((a|||b:Nat):Int):=by unfold Oi;rw[Int.toNat_natCast,Int.toNat_natCast]
theorem Yv{β:Type}{a b:Int}{f:Unit→Option β}(h0:0≤a∧a≤9223372036854775807)(h1:0≤b∧b≤9223372036854775807):(Qz a b).bind f=f ():=bd (if_pos ⟨h0,h1⟩)
def Gk(t:AS)(l:List Int):Bool:=Dt t.C l&&EG (AW t l) [] 0 t.BA
def EO(t:AS):List (List Int):=(Cj t.C).filter fun l=>EG (AW t l) [] 0 t.BA
theorem Po{c:Av}(hc:OkC c):(Cj c).length≤150:=by
 have:=hc.many;unfold Cj;refine Nat.le_trans (List.length_filter_le _ _) ?_;rw[List.length_map,List.length_range];omega
section
variable{K:Nat}(hK:1000≤K)
include hK
end
def Jw(c:Av):Bool:=decide (c.Ac.length≤5)&&(decide (c.Ai.length≤5)&&(decide (c.Ap.length≤7)&&((c.Ai.all fun l=>decide (l.length≤6))&&(decide (Fm c≠0)||decide (Fv c.Ac≤150)))))
def IH(t:AS):Bool:=Jw t.C&&(decide (t.Bl.length≤5)&&(decide (t.B8.length≤5)&&decide (t.BA.length≤7)))
theorem JZ{c:Av}:Jw c=true↔c.Ac.length≤5∧c.Ai.length≤5∧c.Ap.length≤7∧(∀l∈c.Ai,l.length≤6)∧(Fm c≠0∨Fv c.Ac≤150):=by
 simp[Jw]
theorem Ml{t:AS}(h:IH t=true):SZ t:=by
 unfold IH at h;rw[Bool.and_eq_true,Bool.and_eq_true,Bool.and_eq_true,decide_eq_true_eq,decide_eq_true_eq,decide_eq_true_eq,JZ] at h;obtain⟨⟨h1,h2,b,a,_⟩,h5,c,d⟩:=h;exact⟨⟨by omega,by omega,by omega,fun l hl=>by have:=a l hl;omega⟩,by omega,by omega,by omega⟩
theorem Jz{t:AS}(h:IH t=true)(h0:Ge t=0):OkT t:=by
 have hl:=Ml h;unfold IH at h;rw[Bool.and_eq_true,JZ] at h;have hc:=(Gq h0).1;exact⟨hl,h0,by
  rcases h.1.2.2.2.2 with h1|h1
  ·exact absurd hc h1
  ·exact h1⟩
section
variable{K:Nat}(hK:1000≤K)
include hK
theorem S7(l:List Int)(hl:l.length≤1000):GB K l=some l:=by
 unfold GB;rw[GZ (by simp;omega),List.nil_append]
theorem QN {α:Type} (xs:List α) (F:Nat→Int→List α→Option (List α)) (e:∀m (i:Nat) acc (hi:i<xs.length),acc.length≤i→F (m+1) (i:Int) acc=F m ((i+1:Nat):Int) (acc++[xs[i]]))
  (hn:∀m acc,F (m+1) (xs.length:Int) acc=some acc) (hl:xs.length≤900):F K 0 []=some xs:=by
 have a:∀(d m i:Nat) (acc:List α),xs.length=i+d→d<m→acc.length≤i→F m (i:Int) acc=some (acc++xs.drop i):=by
  intro d
  induction d with
  |zero=>
   intro m i acc h hm c;obtain⟨m,rfl⟩:∃b,m=b+1:=⟨m-1,by omega⟩;obtain rfl:i=xs.length:=by omega
   rw[hn,List.drop_eq_nil_of_le (by omega),List.append_nil]
  |succ d ih=>
   intro m i acc h hm c;obtain⟨m,rfl⟩:∃b,m=b+1:=⟨m-1,by omega⟩;have hi:i<xs.length:=by omega
   rw[e m i acc hi c,ih m (i+1) _ (by omega) (by omega) (by simp;omega),List.drop_eq_getElem_cons hi,List.append_assoc];rfl
 have:=a xs.length K 0 [] (by omega) (by omega) (by simp);rw[Int.natCast_zero,List.drop_zero,List.nil_append] at this;exact this
theorem OJ(c:Av)(hl:Oz c):Ei K c=some c:=by
 obtain⟨h1,h2,g,b⟩:=hl;unfold Ei;have d:CM K c K 0 []=some c.Ac:=QN hK c.Ac (fun m i acc=>CM K c m i acc) (fun m i acc hi a=>by
   show CM K c (m+1) (i:Int) acc=_;rw[CM.eq_2,ct (dt (by omega)),CI hi];unfold Gj;rw[Option.bind_some,GZ (by simp;omega),BK (by omega) (by omega),D5 i];try rfl) (fun m acc=>by
   show CM K c (m+1) (c.Ac.length:Int) acc=_;rw[CM.eq_2,cf (df (by omega))]) (by omega)
 have e:CF K c K 0 []=some c.Ai:=QN hK c.Ai (fun m i acc=>CF K c m i acc) (fun m i acc hi a=>by
   show CF K c (m+1) (i:Int) acc=_;rw[CF.eq_2,ct (dt (by omega)),CI hi,bd (S7 hK _ (by have:=b _ (List.getElem_mem hi);omega)),GZ (by simp;omega),BK (by omega) (by omega),D5 i];try rfl) (fun m acc=>by
   show CF K c (m+1) (c.Ai.length:Int) acc=_;rw[CF.eq_2,cf (df (by omega))]) (by omega)
 have f:CG K c K 0 []=some c.Ap:=QN hK c.Ap (fun m i acc=>CG K c m i acc) (fun m i acc hi a=>by
   show CG K c (m+1) (i:Int) acc=_;rw[CG.eq_2,ct (dt (by omega)),CI hi];unfold Gj;rw[Option.bind_some,GZ (by simp;omega),BK (by omega) (by omega),D5 i];try rfl) (fun m acc=>by
   show CG K c (m+1) (c.Ap.length:Int) acc=_;rw[CG.eq_2,cf (df (by omega))]) (by omega)
 rw[bd d,bd e,bd f]
theorem QO(c:Av):Fm c=0→∀r∈c.Ac,Hj r:=fun h=>(Gp h).2.2.2.2.1
theorem Ux(c:Av):GC K c=some (Jw c):=by
 unfold GC
 by_cases h1:c.Ac.length≤5
 case neg=>rw[ct (dt (by omega))];unfold Jw;rw[df h1,Bool.false_and]
 rw[cf (df (by omega))]
 by_cases h2:c.Ai.length≤5
 case neg=>rw[ct (dt (by omega))];unfold Jw;rw[df h2,Bool.false_and,Bool.and_false]
 rw[cf (df (by omega))]
 by_cases a:c.Ap.length≤7
 case neg=>rw[ct (dt (by omega))];unfold Jw;rw[df a,Bool.false_and,Bool.and_false,Bool.and_false]
 rw[cf (df (by omega))];have h5:CX c K 0=some (cond (c.Ai.all fun l=>decide (l.length≤6)) (.inr ()) (.inl false)):=
  KF c.Ai (fun m i=>CX c m (i:Int)) (fun l=>decide (l.length≤6)) false
   (fun m i hi=>by
    show CX c (m+1) (i:Int)=_;rw[CX.eq_2,ct (dt (by omega)),CI hi]
    by_cases h:c.Ai[i].length≤6
    ·rw[cf (df (by omega)),BK (by omega) (by omega),D5 i,dt h,ct rfl]
    ·rw[ct (dt (by omega)),df h,cf rfl])
   (fun m=>by
    show CX c (m+1) (c.Ai.length:Int)=_;rw[CX.eq_2,cf (df (by omega))]) (by omega)
 unfold Jw;rw[bd h5,dt h1,dt h2,dt a,Bool.true_and,Bool.true_and,Bool.true_and];cases b:c.Ai.all fun l=>decide (l.length≤6) with
 |false=>rw[cf rfl,Bool.false_and];rfl
 |true=>
  have d:∀l∈c.Ai,l.length≤100:=fun l hl=>by have:=of_decide_eq_true (List.all_eq_true.1 b l hl);omega
  rw[ct rfl,Bool.true_and];show Option.bind (EB K c) _=_;rw[bd (Oy hK c (by omega) (by omega) (by omega) d)]
  by_cases h0:Fm c=0
  ·rw[cf (HO h0),bd (Ow hK c (by omega) (QO hK c h0)),df (show¬(Fm c≠0) by simp[h0]),Bool.false_or]
   congr 1
   rw[Bool.eq_iff_iff,decide_eq_true_eq,decide_eq_true_eq];omega
  ·rw[ct (Jn h0),dt h0,Bool.true_or]
end
def HZ (t:AS):Int:=if Ge t≠0 then Ge t else if Cj t.C=[] then 11 else 0
def GL(t:AS):Int:=if HZ t≠0 then HZ t else if EO t=[] then 9 else 0
theorem Iv{t:AS}(h:HZ t=0):Ge t=0∧Cj t.C≠[]:=by
 unfold HZ at h;split at h
 ·rename_i h1;exact absurd h h1
 rename_i h1
 split at h
 ·cases h
 exact⟨Decidable.byContradiction h1,‹_›⟩
theorem I1{t:AS}(h:GL t=0):HZ t=0∧EO t≠[]:=by
 unfold GL at h;split at h
 ·rename_i h1;exact absurd h h1
 rename_i h1
 split at h
 ·cases h
 exact⟨Decidable.byContradiction h1,‹_›⟩
theorem S8{α:Type}(l:List α):((l.length:Int)==0)=true↔l=[]:=by
 rw[beq_iff_eq];constructor
 ·intro h;exact List.eq_nil_of_length_eq_zero (by omega)
 ·rintro rfl;rfl
theorem OK{α:Type}{l:List α}(h:l≠[]):((l.length:Int)==0)=false:=by
 rw[Bool.eq_false_iff];exact fun g=>h ((S8 l).1 g)
section
variable{K:Nat}(hK:1000≤K)
include hK
theorem RG{t:AS}(a:OkT t){L:List (List Int)}(b:Tr t L):L=[]↔Cj t.C=[]:=by
 constructor
 ·rintro rfl;refine List.eq_nil_iff_forall_not_mem.2 fun l hl=>?_;obtain⟨_,h,_⟩:=b.all l ((FM a.c).1 hl);cases h
 ·intro h;refine List.eq_nil_iff_forall_not_mem.2 fun l hl=>?_;have:=(FM a.c).2 (b.TQ l hl);rw[h] at this;cases this
theorem Wr{t:AS}(a:OkT t){L:List (List Int)}(b:Tr t L)(p:List Int→Bool)(hp:∀l l',B7 t l=B7 t l'→p l=p l'):L.any p=(Cj t.C).any p:=by
 rw[Bool.eq_iff_iff,List.any_eq_true,List.any_eq_true];constructor
 ·rintro⟨l,hl,h⟩;exact⟨l,(FM a.c).2 (b.TQ l hl),h⟩
 ·rintro⟨l,hl,h⟩;obtain⟨l',h1,h2⟩:=b.all l ((FM a.c).1 hl);exact⟨l',h1,by rw[hp l' l h2];exact h⟩
theorem RH {t:AS} (h:IH t=true) (a:Bool):
  (HZ t=0∧a=true∧∃L,Tr t L∧L≠[]∧EN K t a=some (some (wk t (L.map (B7 t)) []),0))∨
  (¬(HZ t=0∧a=true)∧EN K t a=some (none,if Ge t=0∧a=false then 2 else HZ t)):=by
 unfold EN;rw[bd (Lg hK t (Ml h))]
 by_cases h0:Ge t=0
 ·have b:=Jz h h0;rw[cf (HO h0)];cases a with
  |false=>exact .inr ⟨by simp,by rw[nf,if_pos ⟨h0,rfl⟩]⟩
  |true=>
   obtain⟨L,c,e⟩:=Wq hK b;rw[nt,bd e];have d:(wk t (L.map (B7 t)) []).BL=L.map (B7 t):=rfl;rw[d,List.length_map]
   by_cases h1:L=[]
   ·have h2:=(RG hK b c).1 h1;refine .inr ⟨by rintro⟨hp,_⟩;exact(Iv hp).2 h2,?_⟩;rw[ct ((S8 _).2 h1),if_neg (by simp)];unfold HZ;rw[if_neg (by simp[h0]),if_pos h2]
   ·have h2:Cj t.C≠[]:=fun g=>h1 ((RG hK b c).2 g);refine .inl ⟨?_,rfl,L,c,h1,by rw[cf (OK h1)]⟩;unfold HZ;rw[if_neg (by simp[h0]),if_neg h2]
 ·rw[ct (Jn h0)];refine .inr ⟨fun g=>h0 (Iv g.1).1,?_⟩;rw[if_neg (by simp[h0])];unfold HZ;rw[if_pos h0]
theorem RI{t:AS}(a:OkT t)(out:List Int)(l l':List Int)(h:B7 t l=B7 t l'):EG (AW t l) out 0 t.BA=EG (AW t l') out 0 t.BA:=by
 rw[ND a.kl h]
theorem PW{t:AS}(h:IH t=true)(c:Bool):
  (GL t=0∧c=true∧∃L m,Tr t L∧Hk t m∧Ez K t c=some (some (wk t (L.map (B7 t)) m),0))∨
  (¬(GL t=0∧c=true)∧Ez K t c=some (none,if Ge t=0∧c=false then 2 else GL t)):=by
 unfold Ez;rcases RH hK h c with⟨h0,hf,L,j,d,e⟩|⟨h0,e⟩
 ·have k:=Jz h (Iv h0).1;rw[bd e];obtain⟨m,hm,g⟩:=QM hK k (out:=[]) (by simp) j.len (PQ t);have o:(L.any fun l=>EG (AW t l) [] 0 t.BA)=(Cj t.C).any fun l=>EG (AW t l) [] 0 t.BA:=Wr hK k j _ (RI hK k [])
  by_cases h1:EO t=[]
  ·have i:GL t=9:=by unfold GL;rw[if_neg (by simp[h0]),if_pos h1]
   refine .inr ⟨by rw[i];simp,?_⟩;have n:((Cj t.C).any fun l=>EG (AW t l) [] 0 t.BA)=false:=by
    rw[Bool.eq_false_iff];intro f;obtain⟨l,hl,p⟩:=List.any_eq_true.1 f;have:l∈EO t:=List.mem_filter.2 ⟨hl,p⟩;rw[h1] at this;cases this
   show(cond ((0:Int) !=0) (some ((none:Option Cf),(0:Int))) ((D0 K (wk t (L.map (B7 t)) []) []).bind _)=_);rw[cf (HO rfl),bd g,o,n,nf,i,hf,if_neg (by simp)]
  ·have i:GL t=0:=by unfold GL;rw[if_neg (by simp[h0]),if_neg h1]
   have n:((Cj t.C).any fun l=>EG (AW t l) [] 0 t.BA)=true:=by
    obtain⟨l,hl⟩:=List.exists_mem_of_ne_nil _ h1;obtain⟨a,b⟩:=List.mem_filter.1 hl;exact List.any_eq_true.2 ⟨l,a,b⟩
   refine .inl ⟨i,hf,L,m,j,hm,?_⟩;show(cond ((0:Int) !=0) (some ((none:Option Cf),(0:Int))) ((D0 K (wk t (L.map (B7 t)) []) []).bind _)=_);rw[cf (HO rfl),bd g,o,n,nt];rfl
 ·rw[bd e];have d:(if Ge t=0∧c=false then (2:Int) else HZ t)≠0:=by
   split
   ·omega
   ·rename_i f
    intro g;refine h0 ⟨g,?_⟩;cases c with
    |true=>rfl
    |false=>exact absurd ⟨(Iv g).1,rfl⟩ f
  refine .inr ⟨fun g=>h0 ⟨(I1 g.1).1,g.2⟩,?_⟩;show cond (_ !=0) _ _=_;rw[ct (Jn d)]
  congr 2
  split
  ·rfl
  ·rename_i f
   have:HZ t≠0:=by rw[if_neg f] at d;exact d
   unfold GL;rw[if_pos this]
end
def G0 (s:Nat):List Int:=((List.range 8).filter fun x=>s.testBit x).map fun x:Nat=>(x:Int)
def lexB:List Int→List Int→Bool
 |a::c,b::d=>if a=b then lexB c d else decide (a<b)
 |[],_::_=>true
 |_,[]=>false
def sh (a b:List Int):Bool:=decide (a.length<b.length)||(a.length==b.length&&lexB a b)
theorem Mm:∀a:List Int,lexB a a=false
 |[]=>rfl
 |a::b=>by rw[lexB,if_pos rfl,Mm b]
theorem NF:∀a b:List Int,lexB a b=true→lexB b a=false
 |[],[],h=>by cases h
 |[],b::c,_=>rfl
 |a::d,[],h=>by cases h
 |a::d,b::c,h=>by
  rw[lexB] at h⊢
  by_cases e:a=b
  ·rw[if_pos e] at h;rw[if_pos e.symm];exact NF d c h
  ·rw[if_neg e,decide_eq_true_eq] at h;rw[if_neg (Ne.symm e),decide_eq_false_iff_not];omega
theorem OL{s:Nat}{r:Int}:r∈G0 s↔∃x:Nat,x<8∧s.testBit x=true∧r=x:=by
 unfold G0;simp only[List.mem_map,List.mem_filter,List.mem_range];constructor
 ·rintro⟨x,⟨h1,h2⟩,rfl⟩;exact⟨x,h1,h2,rfl⟩
 ·rintro⟨x,h1,h2,rfl⟩;exact⟨x,⟨h1,h2⟩,rfl⟩
theorem Ws{s x k:Nat}(hs:s<2^k)(h:s.testBit x=true):x<k:=by
 refine Decidable.byContradiction fun a=>?_;rw[Nat.testBit_lt_two_pow (Nat.lt_of_lt_of_le hs (Nat.pow_le_pow_right (by omega) (by omega)))] at h;cases h
theorem S9{s x:Nat}(a:x<8):(G0 s).contains (x:Int)=s.testBit x:=by
 rw[Bool.eq_iff_iff,List.contains_iff_mem,OL];constructor
 ·rintro⟨y,b,h,e⟩;obtain rfl:x=y:=by omega
  exact h
 ·intro h;exact⟨x,a,h,rfl⟩
theorem Pp(s:Nat):(G0 s).Pairwise (· <·):=by
 unfold G0;rw[List.pairwise_map];have h:(List.range 8).Pairwise (fun a b:Nat=>a<b):=List.pairwise_lt_range;exact(h.sublist (List.filter_sublist)).imp fun h=>by omega
def J7(n:Int):Int→List Int→Bool
 |_,[]=>true
 |lo,x::l=>Em x lo (n-1)&&J7 n (x+1) l
def LB:List Int→Nat
 |[]=>0
 |x::l=>2^x.toNat|||LB l
theorem M5{n:Int}:∀{l:List Int} {lo:Int},J7 n lo l=true→∀x∈l,lo≤x∧x<n
 |[],_,_,x,a=>by cases a
 |y::l,lo,h,x,a=>by
  rw[J7,Bool.and_eq_true,DQ] at h;rcases List.mem_cons.1 a with rfl|a
  ·omega
  ·have:=M5 h.2 x a;omega
theorem LC{n:Int}:∀{l:List Int} {lo:Int},lo≤n→J7 n lo l=true→(l.length:Int)≤n-lo
 |[],_,h0,_=>by simp;omega
 |y::l,lo,h0,h=>by
  rw[J7,Bool.and_eq_true,DQ] at h;have:=LC (by omega) h.2;rw[List.length_cons];omega
theorem Mn:∀{l:List Int} (_:∀x∈l,0≤x) (j:Nat),(LB l).testBit j=true↔(j:Int)∈l
 |[],_,j=>by simp[LB]
 |x::l,h,j=>by
  have b:=h x (List.mem_cons_self ..);rw[LB,Nat.testBit_or,Bool.or_eq_true,Mn (fun y a=>h y (List.mem_cons_of_mem _ a)) j,Nat.testBit_two_pow,decide_eq_true_eq,List.mem_cons];constructor
  ·rintro(h|h)
   ·exact .inl (by omega)
   ·exact .inr h
  ·rintro(h|h)
   ·exact .inl (by omega)
   ·exact .inr h
theorem PX{n:Nat}:∀{l:List Int},(∀x∈l,0≤x∧x<n)→LB l<2^n
 |[],_=>Nat.two_pow_pos n
 |x::l,h=>by
  have b:=h x (List.mem_cons_self ..);exact Nat.or_lt_two_pow (Nat.pow_lt_pow_right (by omega) (by omega)) (PX fun y a=>h y (List.mem_cons_of_mem _ a))
theorem OM{n:Nat}:∀{l:List Int} {lo:Int},l.Pairwise (· <·)→(∀x∈l,lo≤x∧x<(n:Int))→J7 n lo l=true
 |[],_,_,_=>rfl
 |x::l,lo,h,hm=>by
  have b:=hm x (List.mem_cons_self ..);rw[List.pairwise_cons] at h;rw[J7,Bool.and_eq_true,DQ];exact⟨by omega,OM h.2 fun y a=>⟨by have:=h.1 y a;omega,(hm y (List.mem_cons_of_mem _ a)).2⟩⟩
theorem ON{n s:Nat}(hs:s<2^n):J7 n 0 (G0 s)=true:=by
 refine OM (Pp s) fun x a=>?_;obtain⟨y,_,hb,rfl⟩:=OL.1 a;have:=Ws hs hb;omega
section
variable{K:Nat}(hK:1000≤K)
include hK
end
def I2 (n:Nat):Nat→List Int→Nat→List (List Int)
 |0,l,_=>[l]
 |m+1,l,a=>(List.range' a (n-m-a)).flatMap fun t:Nat=>I2 n m (l++[(t:Int)]) (t+1)
def KK(n i d:Nat):List (List Int):=(List.range' i d).flatMap fun m=>I2 n m [] 0
def Ik (p:List Int→Bool):List Int→List (List Int)→List Int
 |cur,[]=>cur
 |_,c::cs=>if p c=true then c else Ik p c cs
theorem Li(p:List Int→Bool):∀(xs ys:List (List Int)) (cur:List Int),xs.any p=false→Ik p cur (xs++ys)=Ik p (Ik p cur xs) ys
 |[],ys,cur,_=>rfl
 |x::xs,ys,cur,h=>by
  rw[List.any_cons,Bool.or_eq_false_iff] at h;simp only[List.cons_append,Ik,h.1];exact Li p xs ys x h.2
theorem Lj(p:List Int→Bool):∀(xs ys:List (List Int)) (cur:List Int),xs.any p=true→Ik p cur (xs++ys)=Ik p cur xs
 |[],ys,cur,h=>by cases h
 |x::xs,ys,cur,h=>by
  simp only[List.cons_append,Ik];cases a:p x with
  |true=>rfl
  |false=>
   rw[List.any_cons,a,Bool.false_or] at h;exact Lj p xs ys x h
theorem NG{p:List Int→Bool}:∀{L:List (List Int)} (cur:List Int),L.any p=true→∃A x B,L=A++x::B∧p x=true∧(∀a∈A,p a=false)∧Ik p cur L=x
 |[],cur,h=>by cases h
 |c::L,cur,h=>by
  by_cases hc:p c=true
  ·exact⟨[],c,L,rfl,hc,by simp,by rw[Ik,if_pos hc]⟩
  ·have b:p c=false:=by simpa using hc
   rw[List.any_cons,b,Bool.false_or] at h;obtain⟨A,x,B,h1,h2,e,f⟩:=NG c h;refine⟨c::A,x,B,by rw[h1];rfl,h2,?_,by rw[Ik,if_neg hc];exact f⟩;intro a d;rcases List.mem_cons.1 d with rfl|d
   ·exact b
   ·exact e a d
theorem Uy:∀n:Nat,n<8→∀l∈KK n 0 (n+1),∃s:Nat,s<2^n∧G0 s=l:=by decide+kernel
structure QP (n:Nat) (p:List Int→Bool) (x:List Int):Prop where
 is:∃s,s<2^n∧G0 s=x
 ok:p x=true
 least:∀s,s<2^n→p (G0 s)=true→sh (G0 s) x=false
theorem QP.TR{n:Nat}{p:List Int→Bool}{x:List Int}(h:QP n p x):J7 n 0 x=true:=by
 obtain⟨s,hs,rfl⟩:=h.is;exact ON hs
theorem QP.len{n:Nat}{p:List Int→Bool}{x:List Int}(h:QP n p x):x.length≤n:=by
 have:=LC (by omega) h.TR;omega
section
variable{K:Nat}(hK:1000≤K)
include hK
end
structure IA {α:Type} (S:List α) (f:α→Int) (r:AH):Prop where
 lo:∃l∈S,f l=r.Lo
 hi:∃l∈S,f l=r.Hi
 all:∀l∈S,r.Lo≤f l∧f l≤r.Hi
theorem Uz{r s:AH}(h:r.Lo=s.Lo)(g:r.Hi=s.Hi):r=s:=by cases r;cases s;simp at h g;rw[h,g]
theorem IA.map{α β:Type}{X:List α}{f:α→Int}{S:List β}{g:β→Int}{r:AH}(h:IA X f r)(h1:∀x∈X,∃l∈S,g l=f x)(h2:∀l∈S,∃x∈X,f x=g l):IA S g r:=by
 obtain⟨a,i,ea⟩:=h.lo;obtain⟨c,hc,ec⟩:=h.hi;obtain⟨a',b,k⟩:=h1 a i;obtain⟨c',d,m⟩:=h1 c hc;refine⟨⟨a',b,by omega⟩,⟨c',d,by omega⟩,fun l hl=>?_⟩;obtain⟨x,j,e⟩:=h2 l hl;have:=h.all x j;omega
theorem IA.snoc{α:Type}{S:List α}{f:α→Int}{r:AH}(h:IA S f r)(x:α):IA (S++[x]) f ⟨min r.Lo (f x),max r.Hi (f x)⟩:=by
 obtain⟨a,b,ea⟩:=h.lo;obtain⟨c,hc,ec⟩:=h.hi;refine⟨?_,?_,fun l hl=>?_⟩
 ·by_cases d:r.Lo≤f x
  ·exact⟨a,by simp[b],by simp only;omega⟩
  ·exact⟨x,by simp,by simp only;omega⟩
 ·by_cases d:f x≤r.Hi
  ·exact⟨c,by simp[hc],by simp only;omega⟩
  ·exact⟨x,by simp,by simp only;omega⟩
 ·simp only;rcases List.mem_append.1 hl with hl|hl
  ·have:=h.all l hl;omega
  ·rw[List.mem_singleton.1 hl];omega
theorem IA.one{α:Type}(f:α→Int)(x:α):IA [x] f ⟨f x,f x⟩:=⟨⟨x,by simp,rfl⟩,⟨x,by simp,rfl⟩,fun l hl=>by rw[List.mem_singleton.1 hl];simp⟩
def DR (f:Nat→Int):Nat→Int
 |0=>0
 |n+1=>DR f n+f n
theorem Jh{f g:Nat→Int}:∀(n:Nat),(∀k,k<n→f k=g k)→DR f n=DR g n
 |0,_=>rfl
 |n+1,h=>by rw[DR,DR,Jh n fun k hk=>h k (by omega),h n (by omega)]
theorem KL{f:Nat→Int}{b:Int}:∀(n:Nat),(∀k,k<n→0≤f k∧f k≤b)→0≤DR f n∧DR f n≤b*n
 |0,_=>by simp[DR]
 |n+1,h=>by
  have h1:=KL n fun k hk=>h k (by omega);have h2:=h n (by omega);rw[DR,Int.natCast_add,Int.mul_add];simp;omega
theorem OO{f g:Nat→Int}:∀(n:Nat),(∀k,k<n→f k≤g k)→DR f n≤DR g n
 |0,_=>by simp[DR]
 |n+1,h=>by
  have h1:=OO n fun k hk=>h k (by omega);have h2:=h n (by omega);rw[DR,DR];omega
def Il(t:AS)(CR:List Int)(l:List Int)(k:Nat):Int:=if CR.contains (k:Int)=true then (AW t l).getD k 0 else (t.Ad.getD k []).sum*t.Flat
def GF (t:AS) (CR:List Int) (l:List Int):Int:=DR (Il t CR l) t.Ad.length
theorem UA{t:AS}(a:OkT t)(l:List Int)(k:Nat):0≤(AW t l).getD k 0∧(AW t l).getD k 0≤9000:=by
 by_cases hk:k<(AW t l).length
 ·rw[C6 _ hk];exact a.QL l _ (List.getElem_mem hk)
 ·rw[List.getD_eq_getElem?_getD,List.getElem?_eq_none (by omega)];simp
theorem RJ{t:AS}(a:OkT t)(k:Nat)(hk:k<t.Ad.length):0≤(t.Ad.getD k []).sum*t.Flat∧(t.Ad.getD k []).sum*t.Flat≤9000:=by
 rw[C6 _ hk];have h1:=a.DE _ (List.getElem_mem hk);have h2:=a.flat;have:=Ii (by omega:0≤t.Ad[k].sum) h1.2.2.2 h2.1 h2.2;omega
theorem QQ{t:AS}(a:OkT t)(CR l:List Int)(k:Nat)(hk:k<t.Ad.length):0≤Il t CR l k∧Il t CR l k≤9000:=by
 unfold Il;split
 ·exact UA a l k
 ·exact RJ a k hk
theorem Wt{t:AS}(a:OkT t)(CR l:List Int):0≤GF t CR l∧GF t CR l≤27000:=by
 have h1:=KL (f:=Il t CR l) (b:=9000) t.Ad.length fun k hk=>QQ a CR l k hk;have h2:=a.kl;unfold GF;omega
theorem Lk{t:AS}(a:OkT t){l l':List Int}(h:B7 t l=B7 t l'):AW t l=AW t l':=ND a.kl h
theorem LD{t:AS}{out:List Int}{L:List (List Int)}{x:AA×AA}:x∈Jq t out L↔∃l∈L,EG (AW t l) out 0 t.BA=true∧x=(B7 t l,arr (AW t l)):=by
 unfold Jq;simp only[List.mem_map,List.mem_filter];constructor
 ·rintro⟨l,⟨h1,h2⟩,rfl⟩;exact⟨l,h1,h2,rfl⟩
 ·rintro⟨l,h1,h2,rfl⟩;exact⟨l,⟨h1,h2⟩,rfl⟩
theorem IE{t:AS}(a:OkT t){l:List Int}:l∈EO t↔Gk t l=true:=by
 unfold EO Gk;rw[List.mem_filter,FM a.c,Bool.and_eq_true]
theorem QR {t:AS} (b:OkT t) {L:List (List Int)} (e:Tr t L) (g:AA→AA→Int) (f:List Int→Int) (hf:∀l,Gk t l=true→g (B7 t l) (arr (AW t l))=f l) {r:AH} (h:IA (Jq t [] L) (fun x=>g x.1 x.2) r):IA (EO t) f r:=by
 refine h.map (fun x i=>?_) (fun l hl=>?_)
 ·obtain⟨l,h1,h2,rfl⟩:=LD.1 i;have a:Gk t l=true:=by unfold Gk;rw[e.TQ l h1,h2];rfl
  exact⟨l,(IE b).2 a,(hf l a).symm⟩
 ·have a:=(IE b).1 hl;have c:=a;unfold Gk at c;rw[Bool.and_eq_true] at c;obtain⟨l',h5,d⟩:=e.all l c.1;refine⟨(B7 t l',arr (AW t l')),LD.2 ⟨l',h5,by rw[Lk b d];exact c.2,rfl⟩,?_⟩;show g (B7 t l') (arr (AW t l'))=f l;rw[d,Lk b d];exact hf l a
section
variable{K:Nat}(hK:1000≤K)
include hK
theorem MP(cb:Unit→AA→Option (Int×Unit))(F:AA→Int):∀(X c:List (AA×AA)) (lo hi:Int),(∀x∈X,cb () x.2=some (F x.2,()))→IA c (fun x=>F x.2) ⟨lo,hi⟩→
  ∃a b,run (fun(st:Int×Int×Bool×Unit) (x:AA×AA)=>Cq cb K st.1 st.2.1 st.2.2.1 st.2.2.2 x) X (lo,hi,false,())=some (true,(a,b,false,()))∧IA (c++X) (fun x=>F x.2) ⟨a,b⟩
 |[],c,lo,hi,_,h=>⟨lo,hi,rfl,by rw[List.append_nil];exact h⟩
 |x::X,c,lo,hi,d,h=>by
  have h1:Cq cb K lo hi false () x=some (true,(min lo (F x.2),max hi (F x.2),false,())):=by
   unfold Cq;rw[bd (d x (List.mem_cons_self ..)),cf rfl,bd (Ox hK _ _)]
  obtain⟨a,b,g1,g2⟩:=MP cb F X (c++[x]) _ _ (fun y e=>d y (List.mem_cons_of_mem _ e)) (h.snoc x);refine⟨a,b,?_,by rw[List.append_assoc] at g2;exact g2⟩;rw[run];show(Cq cb K lo hi false () x).bind _=_;rw[bd h1,ct rfl];exact g1
theorem NH{t:AS}(d:OkT t){L:List (List Int)}(g:Tr t L){m:List (List Int×Int)}(hm:Hk t m)(i:EO t≠[])(cb:Unit→AA→Option (Int×Unit))(F:AA→Int)(f:List Int→Int)(hf:∀l,Gk t l=true→F (arr (AW t l))=f l)
  (j:∀l,Gk t l=true→cb () (arr (AW t l))=some (F (arr (AW t l)),())):
  ∃h r,Hk t h∧IA (EO t) f r∧EA K cb (wk t (L.map (B7 t)) m) ()=some (r,h,()):=by
 have a:∀x∈Jq t [] L,cb () x.2=some (F x.2,()):=fun x o=>by
  obtain⟨l,h1,h2,rfl⟩:=LD.1 o;exact j l (by unfold Gk;rw[g.TQ l h1,h2];rfl)
 have p:∃lo hi,run (fun(st:Int×Int×Bool×Unit) (x:AA×AA)=>Cq cb K st.1 st.2.1 st.2.2.1 st.2.2.2 x) (Jq t [] L) (0,0,true,())=some (true,(lo,hi,false,()))∧IA (Jq t [] L) (fun x=>F x.2) ⟨lo,hi⟩:=by
  have c:Jq t [] L≠[]:=by
   obtain⟨l,hl⟩:=List.exists_mem_of_ne_nil _ i;have b:=(IE d).1 hl;unfold Gk at b;rw[Bool.and_eq_true] at b;obtain⟨l',h5,q⟩:=g.all l b.1;have:(B7 t l',arr (AW t l'))∈Jq t [] L:=LD.2 ⟨l',h5,by rw[Lk d q];exact b.2,rfl⟩;intro e;rw[e] at this;cases this
  generalize Jq t [] L=X at a c;cases X with
  |nil=>exact absurd rfl c
  |cons x X=>
   have h1:Cq cb K 0 0 true () x=some (true,(F x.2,F x.2,false,())):=by
    unfold Cq;rw[bd (a x (List.mem_cons_self ..)),ct rfl,bd (Ox hK _ _)];show some (true,min (F x.2) (F x.2),max (F x.2) (F x.2),false,())=_;rw[Int.min_self,Int.max_self]
   obtain⟨k,n,g1,g2⟩:=MP hK cb F X [x] _ _ (fun y s=>a y (List.mem_cons_of_mem _ s)) (IA.one (fun x:AA×AA=>F x.2) x);refine⟨k,n,?_,g2⟩;rw[run];show(Cq cb K 0 0 true () x).bind _=_;rw[bd h1,ct rfl];exact g1
 obtain⟨lo,hi,h1,h2⟩:=p;obtain⟨h,b,u⟩:=OI hK d (out:=[]) (by simp) _ g.len hm h1;refine⟨h,⟨lo,hi⟩,b,QR d g (fun _ M=>F M) f hf h2,?_⟩;unfold EA;rw[bd u]
structure Wu (t:AS) (b:List AH):Prop where
 len:b.length=t.Ad.length
 is:∀k (hk:k<b.length),IA (EO t) (fun l=>(AW t l).getD k 0) b[k]
theorem Ta{t:AS}(h:IH t=true):∃b,Gi K t=some (b,GL t)∧(GL t≠0→b=[])∧(GL t=0→Wu t b):=by
 unfold Gi;rcases PW hK h true with⟨h0,_,L,m,aC,hm,e⟩|⟨h0,e⟩
 ·have w:=Jz h (Iv (I1 h0).1).1;have aI:=w.kl;have f:∀(d n i:Nat) (acc:List AH) (c:List (List Int×Int)),t.Ad.length=i+d→d<n→acc.length=i→Hk t c→(∀k (hk:k<acc.length),IA (EO t) (fun l=>(AW t l).getD k 0) acc[k])→
    ∃b j,Wu t b∧Ev K (wk t (L.map (B7 t)) m) n acc (i:Int) c=some (b,j):=by
   intro d
   induction d with
   |zero=>
    intro n i acc c aD hn y o a;obtain⟨n,rfl⟩:∃v,n=v+1:=⟨n-1,by omega⟩;have aE:((wk t (L.map (B7 t)) m).weights.length:Int)=t.Ad.length:=by show((List.map _ _).length:Int)=_;simp
    exact⟨acc,c,⟨by omega,a⟩,by rw[Ev.eq_2,cf (df (by omega))]⟩
   |succ d ih=>
    intro n i acc c aD hn y o a;obtain⟨n,rfl⟩:∃v,n=v+1:=⟨n-1,by omega⟩;have aE:((wk t (L.map (B7 t)) m).weights.length:Int)=t.Ad.length:=by show((List.map _ _).length:Int)=_;simp
    have z:i<3:=by omega
    have p:∀l:List Int,idx [(arr (AW t l)).a0,(arr (AW t l)).a1,(arr (AW t l)).a2] (i:Int)=some ((AW t l).getD i 0):=fun l=>by
     have q:i<(AW t l).length:=by rw[Fb];omega
     rw[I9 (by rw[Fb];omega) q,C6 _ q]
    obtain⟨j,r,aA,aF,g⟩:=NH hK w aC o (I1 h0).2 (fun(st:Unit) (x:AA)=>(EU K x (i:Int)).bind fun r=>some (r,())) (fun x=>([x.a0,x.a1,x.a2]:List Int).getD i 0) (fun l=>(AW t l).getD i 0)
     (fun l _=>by
      have:=p l;show([(arr (AW t l)).a0,(arr (AW t l)).a1,(arr (AW t l)).a2]:List Int).getD i 0=_;rw[idx_eq (by simp;omega)] at this;rw[C6 _ (by simp;omega)];exact Option.some.inj this)
     (fun l _=>by
      have:=p l;show(EU K (arr (AW t l)) (i:Int)).bind _=_;unfold EU;rw[bd (bd this)];have h2:=this;rw[idx_eq (by simp;omega)] at h2;show some (_,())=some (([(arr (AW t l)).a0,(arr (AW t l)).a1,(arr (AW t l)).a2]:List Int).getD i 0,());rw[C6 _ (show i<([(arr (AW t l)).a0,(arr (AW t l)).a1,(arr (AW t l)).a2]:List Int).length from z),←Option.some.inj h2])
    obtain⟨b,aG,hb,g2⟩:=ih n (i+1) (acc++[r]) j (by omega) (by omega) (by simp;omega) aA (fun k hk=>by
     by_cases s:k<acc.length
     ·rw[List.getElem_append_left s];exact a k s
     ·have aB:k=i:=by
       have aJ:k<acc.length+1:=by simpa using hk
       omega
      subst aB;rw[List.getElem_append_right (by omega)];simpa[y] using aF)
    refine⟨b,aG,hb,?_⟩;rw[Ev.eq_2,ct (dt (by omega))];show((EA K (fun(st:Unit) (x:AA)=>(EU K x (i:Int)).bind fun r=>some (r,())) (wk t (L.map (B7 t)) c) ()).bind _)=_;rw[bd g,GZ (by simp;omega),BK (by omega) (by omega),D5 i];exact g2
  obtain⟨b,j,hb,g⟩:=f t.Ad.length K 0 [] m (by omega) (by omega) rfl hm (fun k hk=>by simp at hk);refine⟨b,?_,fun aH=>absurd h0 aH,fun _=>hb⟩;rw[bd e];show(Ev K (wk t (L.map (B7 t)) m) K [] 0 m).bind _=_;rw[Int.natCast_zero] at g;rw[bd g,h0]
 ·have u:GL t≠0:=fun g=>h0 ⟨g,rfl⟩;refine⟨[],?_,fun _=>rfl,fun g=>absurd g u⟩;rw[if_neg (by simp)] at e;rw[bd e];show cond (_ !=0) _ _=_;rw[ct (Jn u)]
theorem Tb{t:AS}(c:OkT t)(a:List AA)(m:List (List Int×Int)){CR:List Int}(hs:CR.length≤900)(l:List Int):DJ K (arr (AW t l)) (wk t a m) CR=some (GF t CR l):=by
 have p:=c.kl;have s:((wk t a m).weights.length:Int)=t.Ad.length:=by show((List.map _ _).length:Int)=_;simp
 have e:∀(d n i:Nat),t.Ad.length=i+d→d<n→CY K (arr (AW t l)) (wk t a m) CR n (DR (Il t CR l) i) (i:Int)=some (GF t CR l):=by
  intro d
  induction d with
  |zero=>
   intro n i q hn;obtain⟨n,rfl⟩:∃j,n=j+1:=⟨n-1,by omega⟩;obtain rfl:i=t.Ad.length:=by omega
   rw[CY.eq_2,cf (df (by omega))];rfl
  |succ d ih=>
   intro n i q hn;obtain⟨n,rfl⟩:∃j,n=j+1:=⟨n-1,by omega⟩;have hi:i<t.Ad.length:=by omega
   have g:i<(AW t l).length:=by rw[Fb];omega
   have h:i<(wk t a m).weights.length:=by omega
   have r:(wk t a m).weights[i]'h=(t.Ad.getD i []).sum:=by rw[C6 _ hi];simp[wk]
   have b1:=KL (f:=Il t CR l) (b:=9000) i fun k hk=>QQ c CR l k (by omega);have b2:=QQ c CR l i hi;have b3:=RJ c i hi;have:=ih n (i+1) (by omega) (by omega);rw[DR] at this;rw[CY.eq_2,ct (dt (by omega)),CI h,bd (KI hK CR _ hs),r];show cond _ _ ((i64 ((t.Ad.getD i []).sum*t.Flat)).bind fun _=>(i64 (DR (Il t CR l) i+(t.Ad.getD i []).sum*t.Flat)).bind fun _=>(i64 ((i:Int)+1)).bind fun _=>CY K (arr (AW t l)) (wk t a m) CR n (DR (Il t CR l) i+(t.Ad.getD i []).sum*t.Flat) ((i:Int)+1))=_;cases hc:CR.contains (i:Int) with
   |true=>
    have o:Il t CR l i=(AW t l)[i]:=by unfold Il;rw[if_pos hc,C6 _ g]
    rw[o] at this b2;rw[ct rfl,bd (I9 (by rw[Fb];exact p) g),BK (by omega) (by omega),BK (by omega) (by omega),D5 i,this]
   |false=>
    have o:Il t CR l i=(t.Ad.getD i []).sum*t.Flat:=by unfold Il;rw[if_neg (by rw[hc];decide)]
    rw[o] at this b2;rw[cf rfl,BK (by omega) (by omega),BK (by omega) (by omega),BK (by omega) (by omega),D5 i,this]
 have:=e t.Ad.length K 0 (by omega) (by omega);rw[Int.natCast_zero,DR] at this;unfold DJ;rw[bd this]
theorem PY{t:AS}(c:OkT t){L:List (List Int)}(g:Tr t L){m:List (List Int×Int)}(hm:Hk t m)(d:EO t≠[]){CR:List Int}(hs:CR.length≤900):∃a r,Hk t a∧IA (EO t) (GF t CR) r∧EV K (wk t (L.map (B7 t)) m) CR=some (r,a):=by
 
 have key:∃F:AA→Int,∀l,Gk t l=true→F (arr (AW t l))=GF t CR l:=⟨fun x=>DR (fun k=>if CR.contains (k:Int)=true then ([x.a0,x.a1,x.a2]:List Int).getD k 0 else (t.Ad.getD k []).sum*t.Flat) t.Ad.length,fun l _=>by
  have e:=c.kl;refine Jh _ fun k hk=>?_;unfold Il;have b:k<(AW t l).length:=by rw[Fb];exact hk
  have h1:=I9 (by rw[Fb];exact e) b;rw[idx_eq (by simp;omega)] at h1;rw[C6 _ b,←Option.some.inj h1,C6 _ (by simp;omega)]⟩
 obtain⟨F,f⟩:=key;obtain⟨a,r,h1,h2,h⟩:=NH hK c g hm d (fun(st:Unit) (x:AA)=>(DJ K x (wk t (L.map (B7 t)) m) CR).bind fun r=>some (r,())) F (GF t CR) f (fun l hl=>by
  show(DJ K (arr (AW t l)) (wk t (L.map (B7 t)) m) CR).bind _=_;rw[bd (Tb hK c _ m hs l),f l hl])
 refine⟨a,r,h1,h2,?_⟩;unfold EV;rw[bd h]
end
def RK {α:Type} (S:List α) (f:α→Int):Int:=S.foldl (fun m l=>min m (f l)) 1099511627776
theorem Ll{α:Type}(f:α→Int):∀(S:List α) (m:Int),S.foldl (fun m l=>min m (f l)) m≤m∧(∀l∈S,S.foldl (fun m l=>min m (f l)) m≤f l)∧(S.foldl (fun m l=>min m (f l)) m=m∨∃l∈S,S.foldl (fun m l=>min m (f l)) m=f l)
 |[],m=>⟨Int.le_refl _,fun l h=>(nomatch h),.inl rfl⟩
 |x::S,m=>by
  obtain⟨h1,h2,a⟩:=Ll f S (min m (f x));rw[List.foldl_cons];refine⟨by omega,fun l hl=>?_,?_⟩
  ·rcases List.mem_cons.1 hl with rfl|hl
   ·omega
   ·exact h2 l hl
  ·rcases a with a|⟨l,hl,a⟩
   ·by_cases b:m≤f x
    ·exact .inl (by rw[a];omega)
    ·exact .inr ⟨x,List.mem_cons_self ..,by rw[a];omega⟩
   ·exact .inr ⟨l,List.mem_cons_of_mem _ hl,a⟩
theorem IA.RK{α:Type}{S:List α}{f:α→Int}{r:AH}(h:IA S f r)(hb:∀l∈S,f l≤1000000):RK S f=r.Lo:=by
 obtain⟨h1,h2,b⟩:=Ll f S 1099511627776;obtain⟨a,c,ea⟩:=h.lo;unfold Go.Proofs.YtcdofnchafcfpaaGreat.RK;have d:=h2 a c;have h5:=hb a c;rcases b with b|⟨l,hl,b⟩
 ·omega
 ·have:=(h.all l hl).1;omega
def Hg (t:AS) (CR:List Int):Int:=RK (EO t) (GF t CR)
theorem Mo{t:AS}(a:OkT t){CR:List Int}{r:AH}(h:IA (EO t) (GF t CR) r):r.Lo=Hg t CR:=(h.RK fun l _=>by have:=Wt a CR l;omega).symm
structure OP (W:List Int→Int) (n:Nat) (s:List Int):Prop where
 is:∃b,b<2^n∧G0 b=s
 Yw:∀x,x<2^n→W (G0 x)<W s∨(W (G0 x)=W s∧lexB (G0 x) s=false)
def pre (n:Nat):Nat→List Int→Nat→List (List Int)
 |0,l,_=>[l]
 |d+1,l,a=>l::(List.range' a (n-a)).flatMap fun t:Nat=>pre n d (l++[(t:Int)]) (t+1)
theorem QS:∀n:Nat,n<4→(pre n n [] 0).Pairwise fun a b=>lexB a b=true:=by decide+kernel
theorem Wv:∀n:Nat,n<4→∀s:Nat,s<2^n→G0 s∈pre n n [] 0:=by decide+kernel
theorem Ww:∀n:Nat,n<4→∀l∈pre n n [] 0,∃s:Nat,s<2^n∧G0 s=l:=by decide+kernel
theorem Tc(n:Nat):∃B,pre n n [] 0=[]::B:=by cases n<;>exact⟨_,rfl⟩
def I3(W:List Int→Int)(q:Int×List Int)(l:List Int):Int×List Int:=if q.1<W l then (W l,l) else q
theorem QT(W:List Int→Int):∀(B A:List (List Int)) (s:List Int),(A++B).Pairwise (fun a b=>lexB a b=true)→s∈A→(∀x∈A,W x<W s∨(W x=W s∧lexB x s=false))→
  ∃d,B.foldl (I3 W) (W s,s)=(W d,d)∧d∈A++B∧∀x∈A++B,W x<W d∨(W x=W d∧lexB x d=false)
 |[],A,s,_,hs,h=>⟨s,rfl,by simpa using hs,by simpa using h⟩
 |y::B,A,s,hp,hs,h=>by
  have f:=List.pairwise_append.1 hp;rw[List.foldl_cons];have e:A++y::B=(A++[y])++B:=by simp
  rw[e] at hp⊢;unfold I3
  by_cases g:W s<W y
  ·rw[if_pos g];refine QT W B (A++[y]) y hp (by simp) fun x c=>?_;rcases List.mem_append.1 c with c|c
   ·rcases h x c with h|h
    ·exact .inl (by omega)
    ·exact .inl (by omega)
   ·rw[List.mem_singleton.1 c];exact .inr ⟨rfl,Mm y⟩
  ·rw[if_neg g];refine QT W B (A++[y]) s hp (by simp[hs]) fun x c=>?_;rcases List.mem_append.1 c with c|c
   ·exact h x c
   ·rw[List.mem_singleton.1 c]
    by_cases e:W y=W s
    ·exact .inr ⟨e,NF _ _ (f.2.2 s hs y (List.mem_cons_self ..))⟩
    ·exact .inl (by omega)
theorem RL(W:List Int→Int){n:Nat}(hn:n<4):∃s,(pre n n [] 0).foldl (I3 W) (W [],[])=(W s,s)∧OP W n s:=by
 obtain⟨B,a⟩:=Tc n;have h1:=QS n hn;rw[a] at h1;obtain⟨s,g1,g2,g3⟩:=QT W B [[]] [] h1 (by simp) (by simp[Mm]);refine⟨s,?_,Ww n hn s (by rw[a];exact g2),fun x b=>g3 _ (by rw[←List.singleton_append] at a;rw[←a];exact Wv n hn x b)⟩;rw[a,List.foldl_cons];unfold I3 at g1⊢;rw[if_neg (by simp)];exact g1
section
variable{K:Nat}(hK:1000≤K)
include hK
omit hK in
theorem QU:FE=CS:=by
 funext r l w m
 induction m with
 |zero=>rfl
 |succ m ih=>funext i q s mm;rw[FE.eq_2,CS.eq_2,ih]
theorem PZ{t:AS}(n:OkT t)(b:List AA)(g:List (List Int×Int))(W:List Int→Int)(e:Nat)(l:List Int)(hl:l.length≤100)(j:Nat)(a:(List Int)→Int→Cf→Int→(List Int)→Option ((List (List Int×Int))×Int×(List Int)))
  (ih:∀(i:Nat) (q:Int×List Int) (m:List (List Int×Int)),j≤i→i<t.Ad.length→Hk t m→∃c,Hk t c∧a (l++[(i:Int)]) ((i+1:Nat):Int) (wk t b m) q.1 q.2=some (c,(pre t.Ad.length e (l++[(i:Int)]) (i+1)).foldl (I3 W) q)):
  ∀(d k i:Nat) (q:Int×List Int) (m:List (List Int×Int)),d=t.Ad.length-i→d<k→j≤i→i≤t.Ad.length→Hk t m→∃c,Hk t c∧∃f,f=((List.range' i d).flatMap fun i:Nat=>pre t.Ad.length e (l++[(i:Int)]) (i+1)).foldl (I3 W) q∧
   CS a l (wk t b g) k (i:Int) q.1 q.2 m=some (f.1,f.2,c)
 |d,0,i,q,m,_,h,_,_,_=>by omega
 |0,k+1,i,q,m,h,hk,hf,hi,hm=>by
  have r:((wk t b g).weights.length:Int)=t.Ad.length:=by show((List.map _ _).length:Int)=_;simp
  exact⟨m,hm,q,rfl,by rw[CS.eq_2,cf (df (by omega))]⟩
 |d+1,k+1,i,q,m,h,hk,hf,hi,hm=>by
  have w:=n.kl;have r:((wk t b g).weights.length:Int)=t.Ad.length:=by show((List.map _ _).length:Int)=_;simp
  obtain⟨s,o,g1⟩:=ih i q m hf (by omega) hm;obtain⟨u,p,f,v,g2⟩:=PZ n b g W e l hl j a ih d k (i+1) ((pre t.Ad.length e (l++[(i:Int)]) (i+1)).foldl (I3 W) q) s (by omega) (by omega) (by omega) (by omega) o;refine⟨u,p,f,by rw[v,List.range'_succ,List.flatMap_cons,List.foldl_append],?_⟩;rw[CS.eq_2,ct (dt (by omega)),GZ (by omega),GZ (by simp;omega),BK (by omega) (by omega),D5 i];show(a (l++[(i:Int)]) ((i+1:Nat):Int) (wk t b m) q.1 q.2).bind _=_;rw[bd g1,BK (by omega) (by omega)];exact g2
theorem RM{t:AS}(d:OkT t){L:List (List Int)}(v:Tr t L)(p:EO t≠[]):∀(e k a:Nat) (l:List Int) (q:Int×List Int) (m:List (List Int×Int)),e<k→t.Ad.length≤a+e→a≤t.Ad.length→l.length≤a→Hk t m→
  ∃b,Hk t b∧Dh K k l (a:Int) (wk t (L.map (B7 t)) m) q.1 q.2=some (b,(pre t.Ad.length e l a).foldl (I3 (Hg t)) q)
 |e,0,a,l,q,m,h,_,_,_,_=>by omega
 |e,k+1,a,l,q,m,h,hf,w,hl,hm=>by
  have aB:=d.kl;obtain⟨f,r,s,z,g1⟩:=PY hK d v hm p (CR:=l) (by omega);have aA:=Mo d z
  
  have c:∀q:Int×List Int,∃b,Hk t b∧∃g,g=(pre t.Ad.length e l a).tail.foldl (I3 (Hg t)) q∧CS (Dh K k) l (wk t (L.map (B7 t)) m) K (a:Int) q.1 q.2 f=some (g.1,g.2,b):=fun q=>by
   cases e with
   |zero=>
    obtain⟨x,rfl⟩:∃x,K=x+1:=⟨K-1,by omega⟩;have aD:((wk t (L.map (B7 t)) m).weights.length:Int)=t.Ad.length:=by show((List.map _ _).length:Int)=_;simp
    exact⟨f,s,q,rfl,by rw[CS.eq_2,cf (df (by omega))]⟩
   |succ e=>
    exact PZ hK d (L.map (B7 t)) m (Hg t) e l (by omega) a (Dh K k) (fun i q m aC hi hm=>RM d v p e k (i+1) (l++[(i:Int)]) q m (by omega) (by omega) (by omega) (by simp;omega) hm) (t.Ad.length-a) K a q f rfl (by omega) (Nat.le_refl _) w s
  have y:pre t.Ad.length e l a=l::(pre t.Ad.length e l a).tail:=by cases e<;>rfl
  rw[Dh.eq_2,bd g1];show∃b,Hk t b∧cond (decide (q.1<r.Lo)) _ _=_;rw[aA]
  by_cases o:q.1<Hg t l
  ·obtain⟨u,j,g,n,g2⟩:=c (Hg t l,l);refine⟨u,j,?_⟩;rw[ct (dt o),GZ (by omega)];show(CS (Dh K k) l (wk t (L.map (B7 t)) m) K (a:Int) (Hg t l) l f).bind _=_;rw[bd g2,y,List.foldl_cons,n];unfold I3;rw[if_pos o]
  ·obtain⟨u,j,g,n,g2⟩:=c q;refine⟨u,j,?_⟩;rw[cf (df o),QU];show(CS (Dh K k) l (wk t (L.map (B7 t)) m) K (a:Int) q.1 q.2 f).bind _=_;rw[bd g2,y,List.foldl_cons,n];unfold I3;rw[if_neg o]
theorem Wx{t:AS}(h:IH t=true):∃s n,HN K t=some (s,n,GL t)∧(GL t≠0→s=[]∧n=0)∧(GL t=0→OP (Hg t) t.Ad.length s∧n=Hg t s):=by
 unfold HN;rcases PW hK h true with⟨h0,_,L,m,c,hm,e⟩|⟨h0,e⟩
 ·have b:=Jz h (Iv (I1 h0).1).1;have j:=b.kl;have a:=(I1 h0).2;obtain⟨d,r,f,i,g1⟩:=PY hK b c hm a (CR:=[]) (by simp);obtain⟨k,_,g2⟩:=RM hK b c a t.Ad.length K 0 [] (Hg t [],[]) d (by omega) (by omega) (by omega) (by simp) f;obtain⟨s,hs,hb⟩:=RL (Hg t) (n:=t.Ad.length) (by omega);refine⟨s,Hg t s,?_,fun g=>absurd h0 g,fun _=>⟨hb,rfl⟩⟩;rw[bd e,h0];show(EV K (wk t (L.map (B7 t)) m) []).bind _=_;rw[bd g1];show(Dh K K [] 0 (wk t (L.map (B7 t)) d) r.Lo []).bind _=_;rw[Mo b i];rw[Int.natCast_zero] at g2;rw[bd g2,hs]
 ·have a:GL t≠0:=fun g=>h0 ⟨g,rfl⟩;refine⟨[],0,?_,fun _=>⟨rfl,rfl⟩,fun g=>absurd g a⟩;rw[if_neg (by simp)] at e;rw[bd e];show cond (_ !=0) _ _=_;rw[ct (Jn a)]
end
theorem nl{l l':List Int}(h:l=l'):(l !=l')=false:=by subst h;simp
section
variable{K:Nat}(hK:1000≤K)
include hK
end
theorem UB{M:List Int}(h:M.length≤3):Jm [(arr M).a0,(arr M).a1,(arr M).a2] (0:Int) (M.length:Int)=M:=by
 match M,h with
 |[],_=>rfl
 |[_],_=>rfl
 |[_,_],_=>rfl
 |[_,_,_],_=>rfl
 |_::_::_::_::_,h=>simp at h
section
variable{K:Nat}(hK:1000≤K)
include hK
theorem NI(rs:List AH)(l:List Int)(a:rs.length≤100)(he:l.length=rs.length):∀(n m i:Nat),l.length=i+n→n<m→
  DH K l rs m (i:Int)=some (cond (Di (rs.drop i) (l.drop i)) (.inr ()) (.inl false))
 |n,0,i,h,hm=>by omega
 |0,m+1,i,h,hm=>by
  rw[DH.eq_2,cf (df (by omega)),List.drop_eq_nil_of_le (by omega:l.length≤i),List.drop_eq_nil_of_le (by omega:rs.length≤i),OB,ct rfl]
 |n+1,m+1,i,h,hm=>by
  have h1:i<l.length:=by omega
  have h2:i<rs.length:=by omega
  have e:Eu K rs[i] l[i]=some (Em l[i] rs[i].Lo rs[i].Hi):=by unfold Eu;rw[bd (HR ..)]
  rw[DH.eq_2,ct (dt (by omega)),CI h2,CI h1,bd e,List.drop_eq_getElem_cons h1,List.drop_eq_getElem_cons h2,Di];cases Em l[i] rs[i].Lo rs[i].Hi with
  |false=>rw[nf,Bool.false_and,cf rfl]
  |true=>rw[nt,BK (by omega) (by omega),D5 i,Bool.true_and,NI rs l a he n m (i+1) (by omega) (by omega)]
theorem RN(t:AS)(l:List Int)(a:t.As.length≤100):FW K t l=some (Di t.As l):=by
 unfold FW
 by_cases he:l.length=t.As.length
 ·have:=NI hK t.As l a he l.length K 0 (by omega) (by omega);rw[Int.natCast_zero,List.drop_zero,List.drop_zero] at this;rw[cf (HO (by omega)),bd (PU hK t a),bd this];cases Di t.As l<;>rfl
 ·rw[ct (Jn (by omega)),RC hK he]
theorem Wy{t:AS}(h:IH t=true)(l:List Int):Hc K t l=some (if Ge t≠0 then ([],Ge t) else if Di t.As l=true then (AW t l,0) else ([],2)):=by
 unfold Hc;have hlen:=Ml h;rw[bd (Lg hK t hlen)]
 by_cases h0:Ge t=0
 ·have a:=Jz h h0;have c:=a.kl;rw[cf (HO h0),if_neg (by simp[h0]),bd (RN hK t l hlen.1.1)];cases hl:Di t.As l with
  |false=>rw[nf,if_neg (by simp)]
  |true=>
   obtain⟨m,_,g⟩:=PS hK a [] (PQ t) l;have b:=Fb t l;have e:Jm [(arr (AW t l)).a0,(arr (AW t l)).a1,(arr (AW t l)).a2] (0:Int) (t.Ad.length:Int)=AW t l:=by
    rw[←b];exact UB (by omega)
   rw[nt,if_pos rfl,bd (RD hK a),bd (NC hK a hl),bd g,Yu (by simp;omega),e,GZ (by omega)]
 ·rw[ct (Jn h0),if_pos h0]
theorem Td{t:AS}(h:IH t=true)(a:OkT t){l:List Int}(hl:Di t.As l=true):Hc K t l=some (AW t l,0):=by
 rw[Wy hK h l,if_neg (by simp[a.fault]),if_pos hl]
end
theorem Zb{x:Int}(h0:-9223372036854775808≤x)(h1:x≤9223372036854775807):L5 .i64 x=some ():=by
 unfold L5;have:IntKind.i64.wrap x=x:=IJ ⟨by omega,by omega⟩;rw[if_pos this]
theorem QV{β:Type}{x:Int}{f:Unit→Option β}(h0:0≤x)(h1:x<65536):(L5 .i64 x).bind f=f ():=bd (Zb (by omega) (by omega))
section
variable{K:Nat}(hK:1000≤K)
include hK
end
end Go.Proofs.YtcdofnchafcfpaaGreat
end
section
namespace Go.Proofs.YtcdofnchafcfpaaGreat
open Go.RowKit Go.WideShapes
def C2{h:Type}(i:Int→Av→AA→(List Int)→h→Option (Bool×AA×h))(g:Int)(l:Av)(m:List Int)(j:Int):Nat→Int→Int→Int→Int→h→Option ((Bool×Int×Int×Int×h)⊕(Int×Int×Int×h))
 |0,_,_,_,_,_=>none
 |n+1,a,c,d,e,f=>cond (decide (a<j)) ((idx l.Ac g).bind fun k=>(i64 (k.Lo+a)).bind fun _=>(idx ([c,d,e]:List Int) g).bind fun o=>(i64 (g+1)).bind fun _=>(i (g+1) l ((⟨c,d,e⟩:AA).set g.toNat (k.Lo+a)) m f).bind fun b=>cond (!b.1) (some (.inl (false,b.2.1.a0,b.2.1.a1,b.2.1.a2,b.2.2))) ((i64 (a+1)).bind fun _=>C2 i g l m j n (a+1) b.2.1.a0 b.2.1.a1 b.2.1.a2 b.2.2)) (some (.inr (c,d,e,f)))
def CQ{c:Type}(d:Nat)(f:c→AA→Option (Bool×c)):Nat→Int→Av→AA→(List Int)→c→Option (Bool×AA×c)
 |0,_,_,_,_,_=>none
 |l+1,g,e,b,i,h=>cond (g==(e.Ac.length:Int)) ((Ff d e b i).bind fun m=>cond (!m) (some ((true,b,h))) ((f h b).bind fun j=>some ((j.1,b,j.2)))) ((idx e.Ac g).bind fun n=>(GS d n).bind fun k=>(C2 (CQ d f l) g e i k d (0:Int) b.a0 b.a1 b.a2 h).bind fun z=>Sum.elim (fun a=>some ((a.1,(⟨a.2.1,a.2.2.1,a.2.2.2.1⟩:AA),a.2.2.2.2))) (fun a=>some ((true,(⟨a.1,a.2.1,a.2.2.1⟩:AA),a.2.2.2))) z)
def Fp{a:Type}(b:Nat)(c:a→AA→Option (Bool×a))(d:Av)(e:List Int)(f:a):Option (a):=
 (CQ b c b 0 d (⟨0,0,0⟩:AA) e f).bind fun g=>some (g.2.2)
def Ce(a:List AA)(b:AA):Option (Bool×(List AA)):=
 cond ((a.length:Int)==0) ((Hs (((a.length+[b].length:Nat):Int)≤140737488355328/24)).bind fun _=>some (true,a++[b])) ((i64 ((a.length:Int)-1)).bind fun _=>(idx a ((a.length:Int)-1)).bind fun c=>cond ([c.a0,c.a1,c.a2] !=[b.a0,b.a1,b.a2]) ((Hs (((a.length+[b].length:Nat):Int)≤140737488355328/24)).bind fun _=>some (true,a++[b])) (some (true,a)))
def EC{b:Type}(e:Nat)(f:b→Unit→Option (Bool×b))(a:Av)(g:b):Option ((Option E9)×Int×b):=
 (Du e a).bind fun h=>cond (h !=0) (some (((none:Option E9),h,g))) ((f g ()).bind fun c=>cond (!c.1) (some (((none:Option E9),2,c.2))) ((Fp e (fun(st:(List AA)) (x:AA)=>Ce st x) a ([]:List Int) ([]:List AA)).bind fun d=>cond ((d.length:Int)==0) (some (((none:Option E9),11,c.2))) (some (((some (⟨a.Ac,a.Ai,a.Ap,d⟩:E9)),0,c.2)))))
end Go.Proofs.YtcdofnchafcfpaaGreat
end
section
namespace Go.Proofs.YtcdofnchafcfpaaGreat
def Hy(x:AA):List Int:=[x.a0,x.a1,x.a2]
theorem LF(x:AA){i:Nat}(v:Int)(h:i<3):Hy (x.set i v)=(Hy x).set i v:=by
 obtain rfl|rfl|rfl:i=0∨i=1∨i=2:=by omega
 ·rfl
 ·rfl
 ·rfl
def I4 (H:Nat) (x:AA):Prop:=(Hy x).drop H=List.replicate (3-H) 0
theorem I4.set{H:Nat}{x:AA}(h:I4 H x){i:Nat}(v:Int)(hi:i<H)(a:i<3):I4 H (x.set i v):=by
 unfold I4 at h⊢;rw[LF x v a,List.drop_set_of_lt hi];exact h
theorem I4.arr{H:Nat}{x:AA}(h:I4 H x)(d:H≤3):arr ((Hy x).take H)=x:=by
 unfold I4 at h;apply OG;cases x with
 |mk a b c=>
  obtain rfl|rfl|rfl|rfl:H=0∨H=1∨H=2∨H=3:=by omega
  all_goals simp[Hy,Go.Proofs.YtcdofnchafcfpaaGreat.arr] at h⊢
  all_goals simp[h]
def JP(c:Av)(X:List (List Int)):List AA:=(X.filter (Ij c)).map arr
theorem UC(c:Av)(X Y:List (List Int)):JP c (X++Y)=JP c X++JP c Y:=by unfold JP;rw[List.filter_append,List.map_append]
theorem Te{rs:List AH}{l:List Int}{i:Nat}{v:Int}(h:Di (rs.take i) l=true)(hi:i<rs.length)(a:Em v rs[i].Lo rs[i].Hi=true):Di (rs.take (i+1)) (l++[v])=true:=by
 induction rs generalizing l i with
 |nil=>simp at hi
 |cons r rs ih=>
  cases i with
  |zero=>
   cases l with
   |nil=>
    show Di [r] [v]=true;rw[Di,Bool.and_eq_true];exact⟨a,rfl⟩
   |cons y l=>rw[List.take_zero,Ry] at h;cases h
  |succ i=>
   cases l with
   |nil=>rw[List.take_succ_cons,Rx] at h;cases h
   |cons y l=>
    rw[List.take_succ_cons,Di,Bool.and_eq_true] at h;rw[List.take_succ_cons,List.cons_append,Di,Bool.and_eq_true];exact⟨h.1,ih h.2 (by simpa using hi) a⟩
section
variable{K:Nat}(hK:1000≤K)
include hK
theorem RO{σ:Type}{c:Av}(hc:OkC c)(cb:σ→AA→Option (Bool×σ))(f:Int→Av→AA→List Int→σ→Option (Bool×AA×σ))(i:Nat)(hi:i<c.Ac.length)(l:Hj c.Ac[i])
  (ih:∀(x:AA) (s:σ) (b:Bool) (d:σ),I4 c.Ac.length x→Di (c.Ac.take (i+1)) ((Hy x).take (i+1))=true→run cb (JP c ((Fy (c.Ac.drop (i+1))).map fun y=>(Hy x).take (i+1)++y)) s=some (b,d)→
   ∃g,I4 c.Ac.length g∧(Hy g).take (i+1)=(Hy x).take (i+1)∧f ((i+1:Nat):Int) c x [] s=some (b,g,d)):
  ∀(e m n:Nat) (x:AA) (s:σ) (b:Bool) (d:σ),CJ c.Ac[i]=(n:Int)+e→e<m→I4 c.Ac.length x→Di (c.Ac.take i) ((Hy x).take i)=true→
   run cb (JP c ((List.range' n e).flatMap fun n:Nat=>(Fy (c.Ac.drop (i+1))).map fun y=>(Hy x).take i++(c.Ac[i].Lo+(n:Int))::y)) s=some (b,d)→
   ∃g,I4 c.Ac.length g∧(Hy g).take i=(Hy x).take i∧(C2 f (i:Int) c [] (CJ c.Ac[i]) m (n:Int) x.a0 x.a1 x.a2 s).bind (fun z=>Sum.elim (fun q=>some (q.1,(⟨q.2.1,q.2.2.1,q.2.2.2.1⟩:AA),q.2.2.2.2)) (fun q=>some (true,(⟨q.1,q.2.1,q.2.2.1⟩:AA),q.2.2.2)) z)=some (b,g,d)
 |e,0,n,x,s,b,d,h,hm,_,_,_=>by omega
 |0,m+1,n,x,s,b,d,h,hm,o,hp,a=>by
  have:(true,s)=(b,d):=Option.some.inj a;injection this with p t
  subst p;subst t;refine⟨x,o,rfl,?_⟩;rw[C2.eq_2,cf (df (by omega))];rfl
 |e+1,m+1,n,x,s,b,d,h,hm,o,hp,a=>by
  have aE:=GJ l;have u:=l;have hl:=hc.hl;unfold Hj at u;have w:CJ c.Ac[i]=c.Ac[i].Hi-c.Ac[i].Lo+1:=rfl;have k:i<3:=by omega
  have j:i<(Hy x).length:=k;rw[List.range'_succ,List.flatMap_cons,UC,KJ] at a;have v:∀y:List Int,(Hy x).take i++(c.Ac[i].Lo+(n:Int))::y=(Hy (x.set i (c.Ac[i].Lo+(n:Int)))).take (i+1)++y:=fun y=>by rw[LF x _ k,take_set _ j,List.append_assoc];rfl
  simp only[v] at a;cases h1:run cb (JP c ((Fy (c.Ac.drop (i+1))).map fun y=>(Hy (x.set i (c.Ac[i].Lo+(n:Int)))).take (i+1)++y)) s with
  |none=>rw[h1] at a;cases a
  |some r=>
   obtain⟨b1,s1⟩:=r;rw[h1,Option.bind_some] at a;obtain⟨x1,g1,g2,g3⟩:=ih (x.set i (c.Ac[i].Lo+(n:Int))) s b1 s1 (o.set _ hi k) (by rw[LF x _ k,take_set _ j];exact Te hp hi (DQ.2 ⟨by omega,by omega⟩)) h1;have gt:(Hy x1).take i=(Hy x).take i:=by
    have:=congrArg (List.take i) g2;rw[List.take_take,List.take_take,Nat.min_eq_left (by omega),LF x _ k,List.take_set_of_le (Nat.le_refl _)] at this;exact this
   have aA:idx ([x.a0,x.a1,x.a2]:List Int) (i:Int)=some ((Hy x)[i]'j):=idx_eq j;rw[C2.eq_2,ct (dt (by omega)),CI hi,BK (by omega) (by omega),bd aA,BK (by omega) (by omega),D5 i,Int.toNat_natCast];show∃g,_∧_∧(((f ((i+1:Nat):Int) c (x.set i (c.Ac[i].Lo+(n:Int))) [] s).bind _).bind _)=_;rw[bd g3];cases b1 with
   |false=>
    have:(false,s1)=(b,d):=Option.some.inj a;injection this with p t
    subst p;subst t;exact⟨x1,g1,gt,rfl⟩
   |true=>
    rw[nt,BK (by omega) (by omega),D5 n];simp only[←v] at a;rw[←gt] at a;obtain⟨x2,aB,aC,aD⟩:=RO hc cb f i hi l ih e m (n+1) x1 s1 b d (by omega) (by omega) g1 (by rw[gt];exact hp) a;exact⟨x2,aB,aC.trans gt,aD⟩
theorem Wz{σ:Type}{c:Av}(hc:OkC c)(cb:σ→AA→Option (Bool×σ)):∀(d k i:Nat) (x:AA) (s:σ) (b:Bool) (f:σ),c.Ac.length=i+d→d<k→I4 c.Ac.length x→Di (c.Ac.take i) ((Hy x).take i)=true→
  run cb (JP c ((Fy (c.Ac.drop i)).map fun y=>(Hy x).take i++y)) s=some (b,f)→∃n,I4 c.Ac.length n∧(Hy n).take i=(Hy x).take i∧CQ K cb k (i:Int) c x [] s=some (b,n,f)
 |d,0,i,x,s,b,f,h,hk,_,_,_=>by omega
 |0,k+1,i,x,s,b,f,h,hk,m,hp,a=>by
  have hl:=hc.hl;obtain rfl:i=c.Ac.length:=by omega
  rw[List.take_length] at hp;rw[List.drop_length] at a;have e:(Fy []).map (fun y=>(Hy x).take c.Ac.length++y)=[(Hy x).take c.Ac.length]:=by
   show[(Hy x).take c.Ac.length++[]]=_;rw[List.append_nil]
  rw[e] at a;have ea:=m.arr hl;have o:=OD hK hc hp;rw[ea] at o;refine⟨x,m,rfl,?_⟩;rw[CQ.eq_2,ct (KG rfl),bd o];unfold JP at a;rw[List.filter_cons] at a;cases g:Ij c ((Hy x).take c.Ac.length) with
  |false=>
   rw[g,if_neg (by simp)] at a;have:(true,s)=(b,f):=Option.some.inj a;injection this with j l
   subst j;subst l;rw[nf]
  |true=>
   rw[g,if_pos rfl,List.map_cons,ea,run] at a;rw[nt];cases h1:cb s x with
   |none=>rw[h1] at a;cases a
   |some r=>
    obtain⟨b1,s1⟩:=r;rw[h1,Option.bind_some] at a;cases b1 with
    |true=>
     have:(true,s1)=(b,f):=Option.some.inj a;injection this with j l
     subst j;subst l;rfl
    |false=>
     have:(false,s1)=(b,f):=Option.some.inj a;injection this with j l
     subst j;subst l;rfl
 |d+1,k+1,i,x,s,b,f,h,hk,m,hp,a=>by
  have hi:i<c.Ac.length:=by omega
  have g:=hc.ok _ (List.getElem_mem hi);have q:=GJ g;rw[List.drop_eq_getElem_cons hi,Fy,List.map_flatMap] at a;simp only[List.map_map] at a;rw[CQ.eq_2,cf (Lf (by omega)),CI hi,bd (PK K g)];have:=RO hK hc cb (CQ K cb k) i hi g (fun x s b f h1 h2 p=>Wz hc cb d k (i+1) x s b f (by omega) (by omega) h1 h2 p) (CJ c.Ac[i]).toNat K 0 x s b f (by omega) (by omega) m hp a;rw[Int.natCast_zero] at this;exact this
theorem RP {σ:Type} {c:Av} (hc:OkC c) (cb:σ→AA→Option (Bool×σ)) (s:σ) (b:Bool) (a:σ) (h:run cb (JP c (Fy c.Ac)) s=some (b,a)):Fp K cb c [] s=some a:=by
 have hl:=hc.hl;unfold Fp;obtain⟨d,_,_,h2⟩:=Wz hK hc cb c.Ac.length K 0 ⟨0,0,0⟩ s b a (by omega) (by omega) (by
  unfold I4 Hy;obtain e|e|e|e:c.Ac.length=0∨c.Ac.length=1∨c.Ac.length=2∨c.Ac.length=3:=by omega
  all_goals rw[e];rfl) rfl (by simpa using h)
 rw[Int.natCast_zero] at h2;rw[bd h2]
end
theorem UD{c:Av}(hc:OkC c){x:AA}:x∈JP c (Fy c.Ac)↔∃l∈Cj c,x=arr l:=by
 unfold JP;rw[List.mem_map];constructor
 ·rintro⟨l,hl,rfl⟩;obtain⟨h1,h2⟩:=List.mem_filter.1 hl;exact⟨l,(FM hc).2 (by unfold Dt;rw[(JO hc.ok).1 h1,h2];rfl),rfl⟩
 ·rintro⟨l,hl,rfl⟩;have h:=(FM hc).1 hl;unfold Dt at h;rw[Bool.and_eq_true] at h;exact⟨l,List.mem_filter.2 ⟨(JO hc.ok).2 h.1,h.2⟩,rfl⟩
theorem UE{c:Av}(hc:OkC c):(JP c (Fy c.Ac)).length≤150:=by
 have h1:((Fy c.Ac).length:Int)=Fv c.Ac:=Mj hc.ok;have h2:=hc.many;unfold JP;rw[List.length_map];have:=List.length_filter_le (Ij c) (Fy c.Ac);omega
theorem M6:∀(X S:List AA),S.length+X.length≤5000→∃c,run (fun(st:List AA) (x:AA)=>Ce st x) X S=some (true,c)∧c.length≤S.length+X.length∧∀x,x∈c↔x∈S∨x∈X
 |[],S,_=>⟨S,rfl,by simp,fun x=>by simp⟩
 |y::X,S,h=>by
  rw[List.length_cons] at h;have hp:((S.length+[y].length:Nat):Int)≤140737488355328/24:=by rw[List.length_singleton];omega
  have d:Ce S y=some (true,S++[y])→∃c,run (fun(st:List AA) (x:AA)=>Ce st x) (y::X) S=some (true,c)∧c.length≤S.length+(X.length+1)∧∀x,x∈c↔x∈S∨x∈y::X:=fun e=>by
   obtain⟨c,g1,g2,g3⟩:=M6 X (S++[y]) (by rw[List.length_append,List.length_singleton];omega);rw[List.length_append,List.length_singleton] at g2;refine⟨c,?_,by omega,fun x=>?_⟩
   ·rw[run];show(Ce S y).bind _=_;rw[bd e,ct rfl];exact g1
   ·rw[g3,List.mem_append,List.mem_singleton,List.mem_cons,or_assoc]
  rw[List.length_cons];cases S with
  |nil=>exact d (by unfold Ce;rw[ct (show((([]:List AA).length:Int)==0)=true from rfl),GZ hp])
  |cons z a=>
   have f:(z::a).length-1<(z::a).length:=by simp
   have g:(((z::a).length:Int)-1)=(((z::a).length-1:Nat):Int):=by simp
   have i:(((z::a).length:Int)==0)=false:=by simp;omega
   have gr:Ce (z::a) y=if [((z::a)[(z::a).length-1]).a0,((z::a)[(z::a).length-1]).a1,((z::a)[(z::a).length-1]).a2]=[y.a0,y.a1,y.a2] then some (true,z::a) else some (true,z::a++[y]):=by
    unfold Ce;rw[cf i,BK (by simp) (by rw[List.length_cons] at h;rw[List.length_cons];omega),g,CI f]
    by_cases e:[((z::a)[(z::a).length-1]).a0,((z::a)[(z::a).length-1]).a1,((z::a)[(z::a).length-1]).a2]=[y.a0,y.a1,y.a2]
    ·rw[if_pos e,cf (nl e)]
    ·rw[if_neg e,ct (by simpa using e),GZ hp]
   by_cases e:[((z::a)[(z::a).length-1]).a0,((z::a)[(z::a).length-1]).a1,((z::a)[(z::a).length-1]).a2]=[y.a0,y.a1,y.a2]
   ·rw[if_pos e] at gr;have j:y∈z::a:=by
     have:=OG e;rw[←this];exact List.getElem_mem f
    obtain⟨c,g1,g2,g3⟩:=M6 X (z::a) (by omega);refine⟨c,?_,by omega,fun x=>?_⟩
    ·rw[run];show(Ce (z::a) y).bind _=_;rw[bd gr,ct rfl];exact g1
    ·rw[g3,List.mem_cons (b:=y)];constructor
     ·rintro(h|h)
      ·exact .inl h
      ·exact .inr (.inr h)
     ·rintro(h|rfl|h)
      ·exact .inl h
      ·exact .inl j
      ·exact .inr h
   ·rw[if_neg e] at gr;exact d gr
section
variable{K:Nat}(hK:1000≤K)
include hK
theorem Tf {σ:Type} {c:Av} (hc:OkC c) (cb:σ→Unit→Option (Bool×σ)) (s a:σ) (e:cb s ()=some (true,a)):
  (Cj c=[]∧EC K cb c s=some (none,11,a))∨(Cj c≠[]∧∃T,T≠[]∧T.length≤150∧(∀x,x∈T↔∃l∈Cj c,x=arr l)∧EC K cb c s=some (some ⟨c.Ac,c.Ai,c.Ap,T⟩,0,a)):=by
 have f:=UE hc;obtain⟨T,i,j,k⟩:=M6 (JP c (Fy c.Ac)) [] (by simp;omega);have g:=RP hK hc (fun(st:List AA) (x:AA)=>Ce st x) [] true T i;have hm:∀x,x∈T↔∃l∈Cj c,x=arr l:=fun x=>by rw[k,UD hc];simp
 have d:EC K cb c s=cond ((T.length:Int)==0) (some (none,11,a)) (some (some ⟨c.Ac,c.Ai,c.Ap,T⟩,0,a)):=by
  unfold EC;rw[bd (Mi hK hc),cf (HO rfl),bd e,nt,bd g]
 cases b:T with
 |nil=>
  left;rw[b] at hm d;refine⟨?_,d⟩;cases m:Cj c with
  |nil=>rfl
  |cons l L=>
   have:=(hm (arr l)).2 ⟨l,by rw[m];simp,rfl⟩;cases this
 |cons x X=>
  right;have n:=(hm x).1 (by rw[b];simp);obtain⟨l,hl,_⟩:=n;refine⟨fun h=>(by rw[h] at hl;cases hl),T,by rw[b];simp,by simp at j;omega,hm,?_⟩;rw[d,cf (OK (by rw[b];simp))]
theorem XK{c:Av}(hc:OkC c){l:List Int}(hl:Di c.Ac l=true){k:Nat}(hk:k<c.Ai.length):Dz K c (arr l) ((c.Ac.length:Int)+(k:Int))=some (DS l c.Ai[k]):=by
 have h1:=hc.hl;have h2:=hc.cl;have a:(c.Ac.length:Int)+(k:Int)-(c.Ac.length:Int)=(k:Int):=by omega
 unfold Dz;rw[ct (dt (by omega)),BK (by omega) (by omega),a,CI hk,bd (Jv hK hc hl hk)]
end
end Go.Proofs.YtcdofnchafcfpaaGreat
end
section
namespace Go.Proofs.YtcdofnchafcfpaaGreat
open Go.RowKit Go.WideShapes
def Ej{e:Type}(f:(List Int)→Int→Int→(List Int)→Int→e→Option (Bool×(List Int)×e))(h:List Int)(g:Int)(i:Int):Nat→Int→(List Int)→e→Option ((Bool×(List Int)×e)⊕((List Int)×e))
 |0,_,_,_=>none
 |j+1,a,b,d=>(i64 (i-g)).bind fun _=>cond (decide (a≤(i-g))) ((Hs (((0+h.length:Nat):Int)≤140737488355328/8)).bind fun _=>(Hs (((h.length+[a].length:Nat):Int)≤140737488355328/8)).bind fun _=>(i64 (a+1)).bind fun _=>(i64 (g-1)).bind fun _=>(f (h++[a]) (a+1) (g-1) b i d).bind fun c=>cond (c.1) (some (.inl (true,c.2.1,c.2.2))) ((i64 (a+1)).bind fun _=>Ej f h g i j (a+1) c.2.1 c.2.2)) (some (.inr (b,d)))
def DU{b:Type}(e:Nat)(c:b→(List Int)→Option (Bool×b)):Nat→(List Int)→Int→Int→(List Int)→Int→b→Option (Bool×(List Int)×b)
 |0,_,_,_,_,_,_=>none
 |i+1,d,j,f,k,l,g=>cond (f==0) ((c g d).bind fun h=>some ((h.1,d,h.2))) ((Ej (DU e c i) d f l e j k g).bind fun z=>Sum.elim (fun a=>some ((a.1,a.2.1,a.2.2))) (fun a=>some ((false,a.1,a.2))) z)
def EX{e:Type}(f:e→(List Int)→Option (Bool×e))(g:Nat)(h:Int):Nat→Int→(List Int)→e→Option ((List Int)×e)
 |0,_,_,_=>none
 |i+1,a,b,c=>cond (decide (a<(h+1))) ((DU g f g ([]:List Int) 0 a b h c).bind fun d=>cond (d.1) (some ((d.2.1,d.2.2))) ((i64 (a+1)).bind fun _=>EX f g h i (a+1) d.2.1 d.2.2)) (some ((b,c)))
def Hz{a:Type}(b:Nat)(c:a→(List Int)→Option (Bool×a))(d:Int)(f:a):Option ((List Int)×a):=
 (i64 (d+1)).bind fun _=>(EX c b d b (0:Int) ([]:List Int) f).bind fun e=>some ((e.1,e.2))
def DL(f:Nat)(d:E9)(g:AA)(e:List Int):Nat→Int→Int→(List (List Int×Int))→Option (Int×(List (List Int×Int)))
 |0,_,_,_=>none
 |i+1,c,b,a=>cond (decide (b<(e.length:Int))) ((idx e b).bind fun j=>(Dz f (⟨d.As,d.Ad,d.AJ⟩:Av) g j).bind fun h=>cond (!((BO a [c,h]).isSome)) ((i64 ((a.length:Int)+1)).bind fun _=>(i64 (b+1)).bind fun _=>DL f d g e i ((a.length:Int)+1) (b+1) (EE a [c,h] ((a.length:Int)+1))) ((i64 (b+1)).bind fun _=>DL f d g e i ((BO a [c,h]).getD 0) (b+1) a)) (some ((c,a)))
def GW(a:Nat)(b:E9)(c:AA)(d:List Int)(e:List (List Int×Int)):Option (Int×(List (List Int×Int))):=
 (DL a b c d a (0:Int) (0:Int) e).bind fun z2=>some ((z2.1,z2.2))
def DC(d:Nat)(c:E9)(e:AA)(f:Int):Nat→Int→Int→Option (Int)
 |0,_,_=>none
 |g+1,b,a=>cond (decide (a<(c.Ad.length:Int))) ((idx c.Ad a).bind fun h=>(DB d e h).bind fun i=>cond (decide (f≤i)) ((Oh (1:Int) a).bind fun _=>(Qz b (J4 (1:Int) a)).bind fun _=>(i64 (a+1)).bind fun _=>DC d c e f g (Oi b (J4 (1:Int) a)) (a+1)) ((i64 (a+1)).bind fun _=>DC d c e f g b (a+1))) (some (b))
def GG(a:Nat)(b:E9)(c:AA)(d:Int):Option (Int):=
 (DC a b c d a (0:Int) (0:Int)).bind fun z2=>some (z2)
def C4(g:Nat)(e:E9)(h:Int)(i:List Int):Nat→Int→(List (List Int×Int))→(List (List Int×Int))→Option ((Bool×(List (List Int×Int))×(List (List Int×Int)))⊕((List (List Int×Int))×(List (List Int×Int))))
 |0,_,_,_=>none
 |j+1,b,c,a=>cond (decide (b<(e.BL.length:Int))) ((idx e.BL b).bind fun k=>(GW g e k i c).bind fun d=>(GG g e k h).bind fun f=>cond ((BO a [d.1]).isSome) (cond (((BO a [d.1]).getD 0) !=f) (some (.inl (false,d.2,a))) ((i64 (b+1)).bind fun _=>C4 g e h i j (b+1) d.2 (EE a [d.1] f))) ((i64 (b+1)).bind fun _=>C4 g e h i j (b+1) d.2 (EE a [d.1] f))) (some (.inr (c,a)))
def Dk(b:Nat)(c:E9)(d:Int)(e:List Int):Option (Bool):=
 (C4 b c d e b (0:Int) [] []).bind fun z=>Sum.elim (fun a=>some (a.1)) (fun a=>some (true)) z
def F1(a:Nat)(b:Int):Option (Bool):=
 (IG a b).bind fun c=>some (c)
def GM(a:Nat)(b:List Int)(c:E9)(d:Int):Option (Bool):=
 (Dk a c d b).bind fun e=>some (e)
def Ho(c:Nat)(a:Av)(d:Int):Option ((List Int)×Int):=
 (EC c (fun(st:Unit) (x:Unit)=>(F1 c d).bind fun r=>some (r,())) a ()).bind fun b=>Option.elim b.1 (cond (b.2.1 !=0) (some ((([]:List Int),b.2.1))) (none)) (fun f=>cond (b.2.1 !=0) (some ((([]:List Int),b.2.1))) ((i64 ((a.Ac.length:Int)+(a.Ai.length:Int))).bind fun _=>(Hz c (fun(st:Unit) (x:(List Int))=>(GM c x f d).bind fun r=>some (r,())) ((a.Ac.length:Int)+(a.Ai.length:Int)) ()).bind fun e=>some ((e.1,0))))
end Go.Proofs.YtcdofnchafcfpaaGreat
end
section
namespace Go.Proofs.YtcdofnchafcfpaaGreat
def cls (m:List (List Int×Int)):Int→List Int→Option Int
 |n,[]=>some n
 |n,v::vs=>(BO m [n,v]).bind fun a=>cls m a vs
def JQ(m a:List (List Int×Int)):Prop:=∀k v,BO m k=some v→BO a k=some v
theorem JQ.refl(m:List (List Int×Int)):JQ m m:=fun _ _ h=>h
theorem JQ.trans{a b c:List (List Int×Int)}(h:JQ a b)(g:JQ b c):JQ a c:=fun k v e=>g k v (h k v e)
theorem OQ{m b:List (List Int×Int)}(h:JQ m b):∀(vs:List Int) (n r:Int),cls m n vs=some r→cls b n vs=some r
 |[],n,r,e=>e
 |v::vs,n,r,e=>by
  rw[cls] at e⊢;cases a:BO m [n,v] with
  |none=>rw[a] at e;cases e
  |some c=>rw[a] at e;rw[h _ _ a];exact OQ h vs c r e
theorem RQ(m:List (List Int×Int))(k:List Int)(v:Int):(EE m k v).length≤m.length+1:=by
 unfold EE;split
 ·rw[List.length_set];omega
 ·simp
theorem Tg{m:List (List Int×Int)}{k:List Int}{v:Int}(h:BO m k=none):JQ m (EE m k v):=fun k' v' e=>by
 rw[IC]
 by_cases hk:k'=k
 ·subst hk;rw[h] at e;cases e
 ·rw[if_neg hk];exact e
def Fq (c:Av) (l:List Int) (t:Int):Int:=if (c.Ac.length:Int)≤t then DS l (c.Ai.getD (t-c.Ac.length).toNat []) else l.getD t.toNat 0
def HS (g:Int) (l:List Int):Nat→List (List Int)→Nat
 |_,[]=>0
 |i,w::ws=>(if g≤DS l w then 2^i else 0)|||HS g l (i+1) ws
theorem RR(g:Int)(l:List Int):∀(ws:List (List Int)) (i j:Nat),j<i→(HS g l i ws).testBit j=false
 |[],i,j,_=>by simp[HS]
 |w::ws,i,j,h=>by
  rw[HS,Nat.testBit_or,RR g l ws (i+1) j (by omega),Bool.or_false];split
  ·rw[Nat.testBit_two_pow];simp;omega
  ·simp
theorem OR(g:Int)(l:List Int):∀(ws:List (List Int)) (i q:Nat) (a:q<ws.length),(HS g l i ws).testBit (i+q)=decide (g≤DS l ws[q])
 |[],i,q,a=>by simp at a
 |w::ws,i,0,a=>by
  rw[HS,Nat.testBit_or,Nat.add_zero,RR g l ws (i+1) i (by omega),Bool.or_false];show _=decide (g≤DS l w)
  by_cases h:g≤DS l w
  ·rw[if_pos h,Nat.testBit_two_pow];simp[h]
  ·rw[if_neg h];simp[h]
 |w::ws,i,q+1,a=>by
  have ih:=OR g l ws (i+1) q (by simpa using a);rw[HS,Nat.testBit_or,show i+(q+1)=(i+1)+q by omega,ih];have:(if g≤DS l w then 2^i else 0).testBit (i+1+q)=false:=by
   split
   ·rw[Nat.testBit_two_pow];simp;omega
   ·simp
  rw[this,Bool.false_or];rfl
theorem UF{g:Int}{l l':List Int}{ws:List (List Int)}(h:HS g l 0 ws=HS g l' 0 ws)(k:Nat)(hk:k<ws.length):g≤DS l ws[k]↔g≤DS l' ws[k]:=by
 have h1:=OR g l ws 0 k hk;have h2:=OR g l' ws 0 k hk;rw[h,h2] at h1;exact⟨fun a=>by simpa[a] using h1,fun a=>by simpa[a] using h1⟩
theorem TS{R:List (List Int)}:∀{T:List AA},(∀x∈T,∃l∈R,x=arr l)→∃L:List (List Int),T=L.map arr∧∀l∈L,l∈R
 |[],_=>⟨[],rfl,by simp⟩
 |x::T,h=>by
  obtain⟨l,hl,e⟩:=h x (by simp);obtain⟨L,eL,b⟩:=TS (T:=T) fun y a=>h y (by simp[a]);exact⟨l::L,by rw[eL,e];rfl,fun y a=>by
   rcases List.mem_cons.1 a with rfl|a
   ·exact hl
   ·exact b y a⟩
theorem OS{p:List Int→Bool}:∀{L:List (List Int)} (cur:List Int),L.any p=false→Ik p cur L=L.getLastD cur
 |[],cur,_=>rfl
 |c::L,cur,h=>by
  rw[List.any_cons,Bool.or_eq_false_iff] at h;rw[Ik,if_neg (by rw[h.1];simp),OS c h.2,List.getLastD_cons]
theorem RS:∀n:Nat,n<8→(KK n 0 (n+1)).getLastD []=(List.range n).map fun k:Nat=>(k:Int):=by decide+kernel
theorem G1{c:Av}(hc:OkC c){l:List Int}(h:l∈Cj c):Di c.Ac l=true:=by
 have:=(FM hc).1 h;unfold Dt at this;rw[Bool.and_eq_true] at this;exact this.1
section
variable{K:Nat}(hK:1000≤K)
include hK
theorem RT{σ:Type}{I:σ→Prop}{p:List Int→Bool}{n m:Nat}{l:List Int}(hn:n<8)(hm:l.length+(m+1)≤n)(b:(List Int)→Int→Int→(List Int)→Int→σ→Option (Bool×(List Int)×σ))
  (ih:∀(t:Nat) (q:List Int) (s:σ),t<n→I s→∃c,I c∧b (l++[(t:Int)]) ((t+1:Nat):Int) (m:Int) q (n:Int) s=some ((I2 n m (l++[(t:Int)]) (t+1)).any p,Ik p q (I2 n m (l++[(t:Int)]) (t+1)),c)):
  ∀(d k i:Nat) (q:List Int) (s:σ),d=n-m-i→d<k→i≤n→I s→∃c,I c∧
   (Ej b l ((m+1:Nat):Int) (n:Int) k (i:Int) q s).bind (fun z=>Sum.elim (fun a=>some (a.1,a.2.1,a.2.2)) (fun a=>some (false,a.1,a.2)) z)=
   some (((List.range' i d).flatMap fun t:Nat=>I2 n m (l++[(t:Int)]) (t+1)).any p,Ik p q ((List.range' i d).flatMap fun t:Nat=>I2 n m (l++[(t:Int)]) (t+1)),c)
 |d,0,i,q,s,h,hk,_,_=>by omega
 |0,k+1,i,q,s,h,hk,hi,hs=>by
  refine⟨s,hs,?_⟩;rw[Ej.eq_2,BK (by omega) (by omega),cf (df (by omega))];rfl
 |d+1,k+1,i,q,s,h,hk,hi,hs=>by
  have j:(((m+1:Nat):Int)-1)=(m:Int):=by omega
  obtain⟨s1,f,g1⟩:=ih i q s (by omega) hs;rw[Ej.eq_2,BK (by omega) (by omega),ct (dt (by omega)),GZ (by omega),GZ (by simp;omega),BK (by omega) (by omega),BK (by omega) (by omega),j,D5 i,bd g1,List.range'_succ,List.flatMap_cons];cases e:(I2 n m (l++[(i:Int)]) (i+1)).any p with
  |true=>
   refine⟨s1,f,?_⟩;rw[List.any_append,e,Lj p _ _ _ e,Bool.true_or];rfl
  |false=>
   obtain⟨s2,g,g2⟩:=RT hn hm b ih d k (i+1) (Ik p q (I2 n m (l++[(i:Int)]) (i+1))) s1 (by omega) (by omega) (by omega) f;refine⟨s2,g,?_⟩;rw[List.any_append,e,Li p _ _ _ e,Bool.false_or,cf rfl,BK (by omega) (by omega)];exact g2
theorem TU{σ:Type}{I:σ→Prop}{p:List Int→Bool}{n:Nat}(hn:n<8)(cb:σ→List Int→Option (Bool×σ))(d:∀s x,I s→x.length≤n→(∀y∈x,0≤y∧y<(n:Int))→∃b,I b∧cb s x=some (p x,b)):
  ∀(m k a:Nat) (l q:List Int) (s:σ),m<k→I s→l.length+m≤n→(∀y∈l,0≤y∧y<(n:Int))→a≤n→∃b,I b∧DU K cb k l (a:Int) (m:Int) q (n:Int) s=some ((I2 n m l a).any p,Ik p q (I2 n m l a),b)
 |m,0,a,l,q,s,h,_,_,_,_=>by omega
 |0,k+1,a,l,q,s,h,hs,hl,hb,_=>by
  obtain⟨s1,h1,g⟩:=d s l hs (by omega) hb;refine⟨s1,h1,?_⟩;rw[DU.eq_2,ct (KG (by omega)),bd g,I2,List.any_cons,List.any_nil,Bool.or_false,Ik,Ik];cases p l<;>rfl
 |m+1,k+1,a,l,q,s,h,hs,hl,hb,hf=>by
  rw[DU.eq_2,cf (Lf (by omega)),I2];exact RT hK (p:=p) hn hl (DU K cb k) (fun t q s e hs=>TU hn cb d m k (t+1) (l++[(t:Int)]) q s (by omega) hs (by simp;omega) (fun y c=>by
   rcases List.mem_append.1 c with c|c
   ·exact hb y c
   ·rw[List.mem_singleton.1 c];omega) (by omega)) (n-m-a) K a q s rfl (by omega) hf hs
theorem P0{σ:Type}{I:σ→Prop}{p:List Int→Bool}{n:Nat}(hn:n<8)(cb:σ→List Int→Option (Bool×σ))(b:∀s x,I s→x.length≤n→(∀y∈x,0≤y∧y<(n:Int))→∃a,I a∧cb s x=some (p x,a)):
  ∀(d k i:Nat) (q:List Int) (s:σ),n+1=i+d→d<k→I s→∃a,I a∧EX cb K (n:Int) k (i:Int) q s=some (Ik p q (KK n i d),a)
 |d,0,i,q,s,h,hk,_=>by omega
 |0,k+1,i,q,s,h,hk,hs=>by
  refine⟨s,hs,?_⟩;rw[EX.eq_2,cf (df (by omega))];rfl
 |d+1,k+1,i,q,s,h,hk,hs=>by
  obtain⟨s1,c,g1⟩:=TU hK hn cb b i K 0 [] q s (by omega) hs (by simp;omega) (by simp) (by omega);rw[Int.natCast_zero] at g1;rw[EX.eq_2,ct (dt (by omega)),bd g1];unfold KK;rw[List.range'_succ,List.flatMap_cons];cases e:(I2 n i [] 0).any p with
  |true=>
   refine⟨s1,c,?_⟩;rw[Lj p _ _ _ e];rfl
  |false=>
   obtain⟨s2,f,g2⟩:=P0 hn cb b d k (i+1) (Ik p q (I2 n i [] 0)) s1 (by omega) (by omega) c;refine⟨s2,f,?_⟩;rw[Li p _ _ _ e,cf rfl,BK (by omega) (by omega),D5 i];exact g2
theorem Pq{σ:Type}{I:σ→Prop}{p:List Int→Bool}{n:Nat}(hn:n<8)(cb:σ→List Int→Option (Bool×σ))(b:∀s x,I s→x.length≤n→(∀y∈x,0≤y∧y<(n:Int))→∃a,I a∧cb s x=some (p x,a)){s:σ}(hs:I s):
  ∃a,I a∧Hz K cb (n:Int) s=some (Ik p [] (KK n 0 (n+1)),a):=by
 obtain⟨s1,c,g1⟩:=P0 hK hn cb b (n+1) K 0 [] s (by omega) (by omega) hs;refine⟨s1,c,?_⟩;unfold Hz;rw[Int.natCast_zero] at g1;rw[BK (by omega) (by omega),bd g1]
theorem XL{c:Av}(hc:OkC c){l:List Int}(hl:Di c.Ac l=true){t:Int}(h0:0≤t)(h1:t<(c.Ac.length:Int)+c.Ai.length):Dz K c (arr l) t=some (Fq c l t):=by
 have b:=hc.hl;have d:=F5 hl;unfold Fq
 by_cases h:(c.Ac.length:Int)≤t
 ·obtain⟨k,hk⟩:∃k:Nat,t=(c.Ac.length:Int)+k:=⟨(t-c.Ac.length).toNat,by omega⟩;subst hk;have a:k<c.Ai.length:=by omega
  rw[if_pos h,XK hK hc hl a,show(c.Ac.length:Int)+(k:Int)-c.Ac.length=k by omega,Int.toNat_natCast,C6 _ a]
 ·obtain⟨k,rfl⟩:=Int.eq_ofNat_of_zero_le h0;have a:k<l.length:=by omega
  unfold Dz;rw[if_neg h,cf (df h),bd (I9 (by omega) a),Int.toNat_natCast,C6 _ a]
theorem M7{c:Av}(hc:OkC c){l:List Int}(hl:Di c.Ac l=true)(T:List AA)(x:List Int)(hb:∀y∈x,0≤y∧y<(c.Ac.length:Int)+c.Ai.length):∀(d k i:Nat) (n:Int) (m:List (List Int×Int)),x.length=i+d→d<k→i+d≤1000→m.length+d≤100000→
  ∃b a,DL K ⟨c.Ac,c.Ai,c.Ap,T⟩ (arr l) x k n (i:Int) m=some (b,a)∧JQ m a∧a.length≤m.length+d∧cls a n ((x.drop i).map (Fq c l))=some b
 |d,0,i,n,m,h,hk,_,_=>by omega
 |0,k+1,i,n,m,h,hk,_,_=>by
  refine⟨n,m,?_,JQ.refl m,by omega,?_⟩
  ·rw[DL.eq_2,cf (df (by omega))]
  ·rw[List.drop_eq_nil_of_le (by omega)];rfl
 |d+1,k+1,i,n,m,h,hk,j,hm=>by
  have hi:i<x.length:=by omega
  have e:=hb _ (List.getElem_mem hi);have g:Dz K (⟨c.Ac,c.Ai,c.Ap⟩:Av) (arr l) x[i]=some (Fq c l x[i]):=XL hK hc hl e.1 e.2;rw[DL.eq_2,ct (dt (by omega)),CI hi,bd g,List.drop_eq_getElem_cons hi,List.map_cons];cases f:BO m [n,Fq c l x[i]] with
  |some n1=>
   obtain⟨b,a,g1,g2,g3,g4⟩:=M7 hc hl T x hb d k (i+1) n1 m (by omega) (by omega) (by omega) (by omega);refine⟨b,a,?_,g2,by omega,?_⟩
   ·rw[Option.isSome_some,nt,BK (by omega) (by omega),Option.getD_some,D5 i];exact g1
   ·rw[cls,g2 _ _ f];exact g4
  |none=>
   have hp:=RQ m [n,Fq c l x[i]] ((m.length:Int)+1);obtain⟨b,a,g1,g2,g3,g4⟩:=M7 hc hl T x hb d k (i+1) ((m.length:Int)+1) (EE m [n,Fq c l x[i]] ((m.length:Int)+1)) (by omega) (by omega) (by omega) (by omega);refine⟨b,a,?_,(Tg f).trans g2,by omega,?_⟩
   ·rw[Option.isSome_none,nf,BK (by omega) (by omega),BK (by omega) (by omega),D5 i];exact g1
   ·rw[cls,g2 _ _ (by rw[IC,if_pos rfl])];exact g4
theorem UG{c:Av}(hc:OkC c){l:List Int}(hl:Di c.Ac l=true)(T:List AA)(x:List Int)(hb:∀y∈x,0≤y∧y<(c.Ac.length:Int)+c.Ai.length)(d:x.length≤6)(m:List (List Int×Int))(hm:m.length≤90000):
  ∃b a,GW K ⟨c.Ac,c.Ai,c.Ap,T⟩ (arr l) x m=some (b,a)∧JQ m a∧a.length≤m.length+6∧cls a 0 (x.map (Fq c l))=some b:=by
 obtain⟨b,a,g1,g2,g3,g4⟩:=M7 hK hc hl T x hb x.length K 0 0 m (by omega) (by omega) (by omega) (by omega);refine⟨b,a,?_,g2,by omega,g4⟩;unfold GW;rw[Int.natCast_zero] at g1;rw[bd g1]
theorem Mp{c:Av}(hc:OkC c){l:List Int}(hl:Di c.Ac l=true)(T:List AA)(g:Int):∀(d k i b:Nat),c.Ai.length=i+d→d<k→b<8→
  DC K ⟨c.Ac,c.Ai,c.Ap,T⟩ (arr l) g k (b:Int) (i:Int)=some ((b|||HS g l i (c.Ai.drop i):Nat):Int)
 |d,0,i,b,h,hk,_=>by omega
 |0,k+1,i,b,h,hk,_=>by
  rw[DC.eq_2,cf (df (by show¬(i:Int)<(c.Ai.length:Int);omega)),List.drop_eq_nil_of_le (by omega),HS,Nat.or_zero]
 |d+1,k+1,i,b,h,hk,hb=>by
  have hi:i<c.Ai.length:=by omega
  have:=hc.cl;obtain⟨s1,s2,e,f,j,_⟩:=RF i (by omega);have hp:2^i<2^3:=Nat.pow_lt_pow_right (by omega) (by omega);rw[DC.eq_2,ct (dt (by show(i:Int)<(c.Ai.length:Int);omega)),CI hi,bd (Jv hK hc hl hi),List.drop_eq_getElem_cons hi,HS]
  by_cases a:g≤DS l c.Ai[i]
  ·rw[ct (dt a),bd s2,e,Yv (by omega) (by omega),BK (by omega) (by omega),Y9,D5 i,Mp hc hl T g d k (i+1) (b|||2^i) (by omega) (by omega) (Nat.or_lt_two_pow (n:=3) hb hp),if_pos a,Nat.or_assoc]
  ·rw[cf (df a),BK (by omega) (by omega),D5 i,Mp hc hl T g d k (i+1) b (by omega) (by omega) hb,if_neg a,Nat.zero_or]
theorem RU{c:Av}(hc:OkC c){l:List Int}(hl:Di c.Ac l=true)(T:List AA)(g:Int):GG K ⟨c.Ac,c.Ai,c.Ap,T⟩ (arr l) g=some ((HS g l 0 c.Ai:Nat):Int):=by
 have h1:=hc.cl;have:=Mp hK hc hl T g c.Ai.length K 0 0 (by omega) (by omega) (by omega);rw[Int.natCast_zero,Nat.zero_or,List.drop_zero] at this;unfold GG;rw[bd this]
theorem NJ{c:Av}(hc:OkC c){L:List (List Int)}(aB:∀l∈L,Di c.Ac l=true)(g:Int)(x:List Int)(hb:∀y∈x,0≤y∧y<(c.Ac.length:Int)+c.Ai.length)(aC:x.length≤6):∀(d k i:Nat) (p f:List (List Int×Int)),L.length=i+d→d<k→L.length≤150→p.length≤6*i→
  (∀(j:Nat) (s:j<L.length),j<i→∃n,cls p 0 (x.map (Fq c L[j]))=some n∧BO f [n]=some ((HS g L[j] 0 c.Ai:Nat):Int))→
  ∃z,C4 K ⟨c.Ac,c.Ai,c.Ap,L.map arr⟩ g x k (i:Int) p f=some z∧(∀b t r,z=.inl (b,t,r)→b=false)∧∀a m,z=.inr (a,m)→
   ∀(j:Nat) (s:j<L.length),∃n,cls a 0 (x.map (Fq c L[j]))=some n∧BO m [n]=some ((HS g L[j] 0 c.Ai:Nat):Int)
 |d,0,i,p,f,h,hk,_,_,_=>by omega
 |0,k+1,i,p,f,h,hk,_,_,w=>by
  refine⟨.inr (p,f),?_,fun _ _ _ h=>(by cases h),?_⟩
  ·rw[C4.eq_2,cf (df (by show¬(i:Int)<((L.map arr).length:Int);rw[List.length_map];omega))]
  ·intro a m e j s;injection e with e
   injection e with aF u
   subst aF;subst u;exact w j s (by omega)
 |d+1,k+1,i,p,f,h,hk,aA,hm,w=>by
  have hi:i<L.length:=by omega
  have aD:i<(L.map arr).length:=by rw[List.length_map];exact hi
  have hl:=aB _ (List.getElem_mem hi);obtain⟨n,a,g1,g2,g3,g4⟩:=UG hK hc hl (L.map arr) x hb aC p (by omega);have go:(∀v,BO f [n]=some v→v=((HS g L[i] 0 c.Ai:Nat):Int))→∃z,C4 K ⟨c.Ac,c.Ai,c.Ap,L.map arr⟩ g x k ((i+1:Nat):Int) a (EE f [n] ((HS g L[i] 0 c.Ai:Nat):Int))=some z∧(∀b t r,z=.inl (b,t,r)→b=false)∧∀a m,z=.inr (a,m)→
    ∀(j:Nat) (s:j<L.length),∃n,cls a 0 (x.map (Fq c L[j]))=some n∧BO m [n]=some ((HS g L[j] 0 c.Ai:Nat):Int):=by
   intro o;refine NJ hc aB g x hb aC d k (i+1) a (EE f [n] ((HS g L[i] 0 c.Ai:Nat):Int)) (by omega) (by omega) aA (by omega) (fun j s aG=>?_)
   by_cases e:j=i
   ·subst e;exact⟨n,g4,by rw[IC,if_pos rfl]⟩
   ·obtain⟨q,t,r⟩:=w j s (by omega);refine⟨q,OQ g2 _ _ _ t,?_⟩;rw[IC]
    by_cases u:[q]=[n]
    ·rw[if_pos u];rw[u] at r;rw[o _ r]
    ·rw[if_neg u];exact r
  rw[C4.eq_2,ct (dt (by show(i:Int)<((L.map arr).length:Int);omega)),CI aD,List.getElem_map,bd g1,bd (RU hK hc hl _ g)];show∃z,cond (BO f [n]).isSome _ _=some z∧_;cases aE:BO f [n] with
  |none=>
   rw[Option.isSome_none,cf rfl,BK (by omega) (by omega),D5 i];exact go fun v o=>by rw[aE] at o;cases o
  |some v=>
   rw[Option.isSome_some,ct rfl,Option.getD_some]
   by_cases e:v=((HS g L[i] 0 c.Ai:Nat):Int)
   ·rw[cf (HO e),BK (by omega) (by omega),D5 i];exact go fun v' o=>by rw[aE] at o;injection o with o;rw[←o,e]
   ·rw[ct (Jn e)];exact⟨_,rfl,fun _ _ _ h=>(by cases h;rfl),fun _ _ h=>(by cases h)⟩
theorem RV{c:Av}(hc:OkC c){L:List (List Int)}(t:∀l∈L,Di c.Ac l=true)(i:L.length≤150)(g:Int)(x:List Int)(hb:∀y∈x,0≤y∧y<(c.Ac.length:Int)+c.Ai.length)(u:x.length≤6):
  ∃b,Dk K ⟨c.Ac,c.Ai,c.Ap,L.map arr⟩ g x=some b∧(b=true→∀l∈L,∀l'∈L,x.map (Fq c l)=x.map (Fq c l')→HS g l 0 c.Ai=HS g l' 0 c.Ai):=by
 obtain⟨z,e,hf,m⟩:=NJ hK hc t g x hb u L.length K 0 [] [] (by omega) (by omega) i (by simp) (fun j _ h=>by omega);unfold Dk;rw[Int.natCast_zero] at e;rw[bd e];cases z with
 |inl q=>
  obtain⟨b,a,d⟩:=q;exact⟨b,rfl,fun f=>by rw[hf b a d rfl] at f;cases f⟩
 |inr q=>
  obtain⟨a,d⟩:=q;refine⟨true,rfl,fun _ l hl l' o v=>?_⟩;obtain⟨j,w,rfl⟩:=List.getElem_of_mem hl;obtain⟨aA,p,rfl⟩:=List.getElem_of_mem o;obtain⟨n,n1,k⟩:=m a d rfl j w;obtain⟨aB,r,s⟩:=m a d rfl aA p;rw[v,r] at n1;injection n1 with n1
  rw[←n1,s] at k;injection k with k
  omega
end
def Th(K:Nat)(c:Av)(L:List (List Int))(g:Int)(x:List Int):Bool:=(Dk K ⟨c.Ac,c.Ai,c.Ap,L.map arr⟩ g x).getD false
structure Ti (c:Av) (g:Int) (x:List Int):Prop where
 TR:J7 ((c.Ac.length+c.Ai.length:Nat):Int) 0 x=true
 dec:∀l∈Cj c,∀l'∈Cj c,x.map (Fq c l)=x.map (Fq c l')→HS g l 0 c.Ai=HS g l' 0 c.Ai
theorem Tj{c:Av}(hc:OkC c){l l':List Int}(hl:Di c.Ac l=true)(a:Di c.Ac l'=true)(h:((List.range (c.Ac.length+c.Ai.length)).map fun k:Nat=>(k:Int)).map (Fq c l)=((List.range (c.Ac.length+c.Ai.length)).map fun k:Nat=>(k:Int)).map (Fq c l')):l=l':=by
 have b:=F5 hl;have d:=F5 a;refine List.ext_getElem (by omega) fun k h1 h2=>?_;have:=congrArg (fun q=>q[k]?) h;simp only[List.getElem?_map,List.getElem?_range (show k<c.Ac.length+c.Ai.length by omega),Option.map_some,Option.some.injEq] at this;unfold Fq at this;rw[if_neg (by omega),if_neg (by omega),Int.toNat_natCast,C6 _ h1,C6 _ h2] at this;exact this
section
variable{K:Nat}(hK:1000≤K)
include hK
theorem Tk{c:Av}(hc:OkC c){g:Int}(v:0≤g∧g≤100):∃x e,Ho K c g=some (x,e)∧(Cj c=[]→e=11)∧(Cj c≠[]→e=0∧Ti c g x):=by
 have aD:=hc.hl;have hk:=hc.cl;have q:(fun(st:Unit) (x:Unit)=>(F1 K g).bind fun r=>some (r,())) () ()=some (true,()):=by
  unfold F1 IG;show(((EZ K g 0 100).bind _).bind _).bind _=_;rw[IN,DQ.2 v];rfl
 unfold Ho;rcases Tf hK hc (fun(st:Unit) (x:Unit)=>(F1 K g).bind fun r=>some (r,())) () () q with⟨h0,e⟩|⟨h0,T,aC,f,t,e⟩
 ·refine⟨[],11,?_,fun _=>rfl,fun h=>absurd h0 h⟩;rw[bd e];rfl
 ·obtain⟨L,eL,w⟩:=TS (R:=Cj c) fun x z=>(t x).1 z;subst eL;rw[List.length_map] at f;have i:∀l∈L,Di c.Ac l=true:=fun l hl=>G1 hc (w l hl);have j:∀l∈Cj c,l∈L:=fun l hl=>by
   obtain⟨aA,h1,h2⟩:=List.mem_map.1 ((t (arr l)).2 ⟨l,hl,rfl⟩);have a1:=F5 (i aA h1);have a2:=F5 (G1 hc hl);rw[←PV (by omega) (by omega) h2];exact h1
  have hn:c.Ac.length+c.Ai.length<8:=by omega
  have tot:∀x:List Int,x.length≤c.Ac.length+c.Ai.length→(∀y∈x,0≤y∧y<((c.Ac.length+c.Ai.length:Nat):Int))→∃b,Dk K ⟨c.Ac,c.Ai,c.Ap,L.map arr⟩ g x=some b∧(b=true→∀l∈L,∀l'∈L,x.map (Fq c l)=x.map (Fq c l')→HS g l 0 c.Ai=HS g l' 0 c.Ai):=
   fun x h1 h2=>RV hK hc i f g x (fun y a=>by have:=h2 y a;omega) (by omega)
  obtain⟨_,_,es⟩:=Pq hK (I:=fun _:Unit=>True) (p:=Th K c L g) hn
   (fun(st:Unit) (x:List Int)=>(GM K x ⟨c.Ac,c.Ai,c.Ap,L.map arr⟩ g).bind fun r=>some (r,())) (fun s x _ h1 h2=>by
    obtain⟨b,hb,_⟩:=tot x h1 h2;refine⟨(),trivial,?_⟩;unfold GM;show((Dk K _ g x).bind _).bind _=some ((Dk K _ g x).getD false,());rw[hb];rfl) (s:=()) trivial
  refine⟨Ik (Th K c L g) [] (KK (c.Ac.length+c.Ai.length) 0 (c.Ac.length+c.Ai.length+1)),0,?_,fun h=>absurd h h0,fun _=>⟨rfl,?_⟩⟩
  ·rw[bd e];show Option.elim (some _) _ _=_;rw[Option.elim_some];show cond ((0:Int) !=0) _ _=_;rw[cf (HO rfl),BK (by omega) (by omega),show(c.Ac.length:Int)+(c.Ai.length:Int)=((c.Ac.length+c.Ai.length:Nat):Int) by omega,bd es]
  ·cases u:(KK (c.Ac.length+c.Ai.length) 0 (c.Ac.length+c.Ai.length+1)).any (Th K c L g) with
   |true=>
    obtain⟨A,x,B,h1,h2,_,aB⟩:=NG [] u;rw[aB];obtain⟨s,hs,rfl⟩:=Uy _ hn x (by rw[h1];simp);have n:=ON hs;refine⟨n,fun l hl l' d o=>?_⟩;have hlen:=LC (by omega) n;obtain⟨b,hb,hp⟩:=tot (G0 s) (by omega) (fun y a=>M5 n y a);have:b=true:=by
     have m:(Dk K ⟨c.Ac,c.Ai,c.Ap,L.map arr⟩ g (G0 s)).getD false=true:=h2;rw[hb] at m;exact m
    exact hp this l (j l hl) l' (j l' d) o
   |false=>
    rw[OS [] u,RS _ hn];refine⟨OM ?_ ?_,fun l hl l' d o=>?_⟩
    ·rw[List.pairwise_map];exact List.Pairwise.imp (fun h=>by omega) List.pairwise_lt_range
    ·intro y a;obtain⟨k,hk,rfl⟩:=List.mem_map.1 a;have:=List.mem_range.1 hk;omega
    ·rw[Tj hc (G1 hc hl) (G1 hc d) o]
end
end Go.Proofs.YtcdofnchafcfpaaGreat
end
section
namespace Go.Proofs.YtcdofnchafcfpaaGreat
open Go.RowKit Go.WideShapes
def Dx(d:Nat):Option (Bool):=
 (Ho d (⟨[(⟨40,44⟩:AH)],[[3]],([]:List Bq)⟩:Av) 42).bind fun c=>(Gi d (⟨[(⟨40,44⟩:AH)],[[3]],[(⟨false,0,43,43⟩:Bq)],0,[(⟨42,5⟩:B4)],([]:List CL),([]:List CT)⟩:AS)).bind fun a=>cond (c.2==0) (cond ((c.1.length:Int)==1) ((idx c.1 (0:Int)).bind fun e=>cond (e==0) (cond (a.2==0) (cond ((a.1.length:Int)==1) ((idx a.1 (0:Int)).bind fun b=>some ([b.Lo,b.Hi]==[15,15])) (some (false))) (some (false))) (some (false))) (some (false))) (some (false))
end Go.Proofs.YtcdofnchafcfpaaGreat
end
section
namespace Go.Proofs.YtcdofnchafcfpaaGreat
namespace HF
theorem mixed:Tryz.prog.follows .mixedOrders=true:=by kernel_rfl
theorem LG(b:Nat)(w:World):(Instr.fieldAt 71 (.pointer (some ⟨b,0,none⟩)) 0).run Tryz.prog w=.ok (.pointer (some ⟨b,0,none⟩)) w:=by kernel_rfl
theorem Bs:One Tryz.prog 3:=by unfold One;exact⟨by kernel_rfl,by kernel_rfl⟩
theorem LH(b:Nat)(w:World):(Instr.fieldAt 71 (.pointer (some ⟨b,0,none⟩)) 1).run Tryz.prog w=.ok (.pointer (some ⟨b,1,none⟩)) w:=by kernel_rfl
theorem Lm:AU Tryz.prog 78:=by unfold AU;kernel_rfl
theorem Dm:(Tryz.prog.info? 3).map (·.size)=some 1:=by kernel_rfl
theorem P1(b:Nat)(w:World):(Instr.fieldAt 73 (.pointer (some ⟨b,0,none⟩)) 0).run Tryz.prog w=.ok (.pointer (some ⟨b,0,none⟩)) w:=by kernel_rfl
theorem Jx:One Tryz.prog 4:=by unfold One;exact⟨by kernel_rfl,by kernel_rfl⟩
theorem Fk(b:Nat)(w:World):(Instr.fieldAt 38 (.pointer (some ⟨b,0,none⟩)) 0).run Tryz.prog w=.ok (.pointer (some ⟨b,0,none⟩)) w:=by kernel_rfl
theorem GH:One Tryz.prog 35:=by unfold One;exact⟨by kernel_rfl,by kernel_rfl⟩
theorem LI(b:Nat)(w:World):(Instr.fieldAt 73 (.pointer (some ⟨b,0,none⟩)) 1).run Tryz.prog w=.ok (.pointer (some ⟨b,1,none⟩)) w:=by kernel_rfl
theorem P2:AU Tryz.prog 137:=by unfold AU;kernel_rfl
theorem UH:One Tryz.prog 161:=by unfold One;exact⟨by kernel_rfl,by kernel_rfl⟩
theorem HP:E7 Tryz.prog 71 2:=by unfold E7;exact⟨by kernel_rfl,by kernel_rfl⟩
theorem Ji:(Tryz.prog.info? 71).map (·.size)=some 2:=by kernel_rfl
theorem UI:AU Tryz.prog 159:=by unfold AU;kernel_rfl
theorem UJ:AU Tryz.prog 132:=by unfold AU;kernel_rfl
theorem UK:AU Tryz.prog 131:=by unfold AU;kernel_rfl
theorem OT:One Tryz.prog 92:=by unfold One;exact⟨by kernel_rfl,by kernel_rfl⟩
theorem F2:(Tryz.prog.info? 31).map (·.size)=some 1:=by kernel_rfl
theorem Dj:One Tryz.prog 31:=by unfold One;exact⟨by kernel_rfl,by kernel_rfl⟩
theorem UL:AU Tryz.prog 160:=by unfold AU;kernel_rfl
theorem UM:AU Tryz.prog 134:=by unfold AU;kernel_rfl
theorem UN:AU Tryz.prog 133:=by unfold AU;kernel_rfl
theorem UO:One Tryz.prog 159:=by unfold One;exact⟨by kernel_rfl,by kernel_rfl⟩
theorem MQ:E7 Tryz.prog 73 4:=by unfold E7;exact⟨by kernel_rfl,by kernel_rfl⟩
theorem QW:(Tryz.prog.info? 73).map (·.size)=some 4:=by kernel_rfl
theorem UP:AU Tryz.prog 161:=by unfold AU;kernel_rfl
theorem UQ:AU Tryz.prog 136:=by unfold AU;kernel_rfl
theorem UR:AU Tryz.prog 135:=by unfold AU;kernel_rfl
theorem Ln:One Tryz.prog 86:=by unfold One;exact⟨by kernel_rfl,by kernel_rfl⟩
theorem US:AU Tryz.prog 142:=by unfold AU;kernel_rfl
theorem UT:AU Tryz.prog 169:=by unfold AU;kernel_rfl
theorem UU:AU Tryz.prog 122:=by unfold AU;kernel_rfl
theorem UW:AU Tryz.prog 158:=by unfold AU;kernel_rfl
theorem UX:AU Tryz.prog 157:=by unfold AU;kernel_rfl
theorem EY:E7 Tryz.prog 38 3:=by unfold E7;exact⟨by kernel_rfl,by kernel_rfl⟩
theorem UY:AU Tryz.prog 129:=by unfold AU;kernel_rfl
theorem P3:AU Tryz.prog 130:=by unfold AU;kernel_rfl
theorem Hq(b:Nat)(w:World):(Instr.fieldAt 38 (.pointer (some ⟨b,0,none⟩)) 1).run Tryz.prog w=.ok (.pointer (some ⟨b,1,none⟩)) w:=by kernel_rfl
theorem D2:One Tryz.prog 23:=by unfold One;exact⟨by kernel_rfl,by kernel_rfl⟩
theorem M8(b:Nat)(w:World):(Instr.fieldAt 73 (.pointer (some ⟨b,0,none⟩)) 2).run Tryz.prog w=.ok (.pointer (some ⟨b,2,none⟩)) w:=by kernel_rfl
theorem M9:AU Tryz.prog 105:=by unfold AU;kernel_rfl
theorem JA(b:Nat)(w:World):(Instr.fieldAt 38 (.pointer (some ⟨b,0,none⟩)) 2).run Tryz.prog w=.ok (.pointer (some ⟨b,2,none⟩)) w:=by kernel_rfl
theorem MR:One Tryz.prog 36:=by unfold One;exact⟨by kernel_rfl,by kernel_rfl⟩
theorem UZ:AU Tryz.prog 104:=by unfold AU;kernel_rfl
theorem U0:AU Tryz.prog 103:=by unfold AU;kernel_rfl
theorem U1:AU Tryz.prog 106:=by unfold AU;kernel_rfl
theorem U2:AU Tryz.prog 102:=by unfold AU;kernel_rfl
theorem U3:AU Tryz.prog 107:=by unfold AU;kernel_rfl
theorem LJ:(Tryz.prog.info? 71).bind (·.zero)=some (.agg #[I 0,I 0]):=by kernel_rfl
theorem P4:AU Tryz.prog 109:=by unfold AU;kernel_rfl
theorem U4:AU Tryz.prog 108:=by unfold AU;kernel_rfl
theorem WA:AU Tryz.prog 94:=by unfold AU;kernel_rfl
theorem Er:E7 Tryz.prog 136 3:=by unfold E7;exact⟨by kernel_rfl,by kernel_rfl⟩
theorem Na:AU Tryz.prog 119:=by unfold AU;kernel_rfl
theorem U5:(Tryz.prog.info? 73).bind (·.zero)=some (.agg #[.bool false,I 0,I 0,I 0]):=by kernel_rfl
theorem Lp:AU Tryz.prog 59:=by unfold AU;kernel_rfl
theorem U6:AU Tryz.prog 128:=by unfold AU;kernel_rfl
theorem P5:AU Tryz.prog 118:=by unfold AU;kernel_rfl
theorem P6:AU Tryz.prog 127:=by unfold AU;kernel_rfl
theorem Ja:(Tryz.prog.info? 136).bind (·.zero)=some (.agg #[I 0,I 0,I 0]):=by kernel_rfl
theorem I5:(Tryz.prog.info? 136).map (·.size)=some 3:=by kernel_rfl
theorem MS:AU Tryz.prog 71:=by unfold AU;kernel_rfl
theorem RW:AU Tryz.prog 99:=by unfold AU;kernel_rfl
theorem Im:(Tryz.prog.info? 3).map (fun i=>(i.zero,i.size,i.bytes))=some (some (I 0),1,8):=by kernel_rfl
theorem P7:AU Tryz.prog 100:=by unfold AU;kernel_rfl
theorem U7:One Tryz.prog 168:=by unfold One;exact⟨by kernel_rfl,by kernel_rfl⟩
theorem U8(b o:Nat)(w:World):(Instr.fieldAt 71 (.pointer (some ⟨b,o,none⟩)) 0).run Tryz.prog w=.ok (.pointer (some ⟨b,o,none⟩)) w:=by kernel_rfl
theorem P8:AU Tryz.prog 117:=by unfold AU;kernel_rfl
theorem P9:(Tryz.prog.info? 86).bind (·.zero)=some (.nilFunc):=by kernel_rfl
theorem TV:(Tryz.prog.info? 86).map (·.size)=some 1:=by kernel_rfl
theorem Nb:(Tryz.prog.info? 83).bind (·.zero)=some (.pointer none):=by kernel_rfl
theorem QX:(Tryz.prog.info? 83).map (·.size)=some 1:=by kernel_rfl
theorem WB:AU Tryz.prog 77:=by unfold AU;kernel_rfl
theorem Io:One Tryz.prog 83:=by unfold One;exact⟨by kernel_rfl,by kernel_rfl⟩
theorem H0(b:Nat)(w:World):(Instr.fieldAt 132 (.pointer (some ⟨b,0,none⟩)) 1).run Tryz.prog w=.ok (.pointer (some ⟨b,3,none⟩)) w:=by kernel_rfl
theorem IQ:One Tryz.prog 130:=by unfold One;exact⟨by kernel_rfl,by kernel_rfl⟩
theorem OU:(Tryz.prog.info? 136).map (fun i=>(i.zero,i.size,i.bytes))=some (some (.agg #[I 0,I 0,I 0]),3,24):=by kernel_rfl
theorem RX:(Tryz.prog.info? 130).map (·.size)=some 1:=by kernel_rfl
theorem U9:Tryz.prog.eqGuardType Tryz.prog.depth 136=false:=by kernel_rfl
theorem Va:JU Tryz.prog 136 3:=Nt Tryz.underlying136 Bs Tryz.underlying3
theorem Vb:AU Tryz.prog 116:=by unfold AU;kernel_rfl
theorem Kk(b:Nat)(w:World):(Instr.fieldAt 60 (.pointer (some ⟨b,0,none⟩)) 0).run Tryz.prog w=.ok (.pointer (some ⟨b,0,none⟩)) w:=by kernel_rfl
theorem Kl(b:Nat)(w:World):(Instr.fieldAt 60 (.pointer (some ⟨b,0,none⟩)) 1).run Tryz.prog w=.ok (.pointer (some ⟨b,1,none⟩)) w:=by kernel_rfl
theorem JR:AU Tryz.prog 93:=by unfold AU;kernel_rfl
theorem LK:(Tryz.prog.info? 60).bind (·.zero)=some (.agg #[I 0,I 0]):=by kernel_rfl
theorem Vc:AU Tryz.prog 121:=by unfold AU;kernel_rfl
theorem II:(Tryz.prog.info? 60).map (·.size)=some 2:=by kernel_rfl
theorem HQ:E7 Tryz.prog 60 2:=by unfold E7;exact⟨by kernel_rfl,by kernel_rfl⟩
theorem Iw(b:Nat)(w:World):(Instr.fieldAt 53 (.pointer (some ⟨b,0,none⟩)) 0).run Tryz.prog w=.ok (.pointer (some ⟨b,0,none⟩)) w:=by kernel_rfl
theorem Vd(b:Nat)(w:World):(Instr.fieldAt 77 (.pointer (some ⟨b,0,none⟩)) 0).run Tryz.prog w=.ok (.pointer (some ⟨b,0,none⟩)) w:=by kernel_rfl
theorem LL(b:Nat)(w:World):(Instr.fieldAt 53 (.pointer (some ⟨b,0,none⟩)) 2).run Tryz.prog w=.ok (.pointer (some ⟨b,4,none⟩)) w:=by kernel_rfl
theorem Lq:One Tryz.prog 49:=by unfold One;exact⟨by kernel_rfl,by kernel_rfl⟩
theorem Ve(b:Nat)(w:World):(Instr.fieldAt 77 (.pointer (some ⟨b,0,none⟩)) 1).run Tryz.prog w=.ok (.pointer (some ⟨b,1,none⟩)) w:=by kernel_rfl
theorem EH:E7 Tryz.prog 53 7:=by unfold E7;exact⟨by kernel_rfl,by kernel_rfl⟩
theorem Qa(b:Nat)(w:World):(Instr.fieldAt 79 (.pointer (some ⟨b,0,none⟩)) 0).run Tryz.prog w=.ok (.pointer (some ⟨b,0,none⟩)) w:=by kernel_rfl
theorem WC:AU Tryz.prog 67:=by unfold AU;kernel_rfl
theorem Qb(b:Nat)(w:World):(Instr.fieldAt 79 (.pointer (some ⟨b,0,none⟩)) 1).run Tryz.prog w=.ok (.pointer (some ⟨b,1,none⟩)) w:=by kernel_rfl
theorem Vf:AU Tryz.prog 101:=by unfold AU;kernel_rfl
theorem Vg:One Tryz.prog 167:=by unfold One;exact⟨by kernel_rfl,by kernel_rfl⟩
theorem Lr:E7 Tryz.prog 48 2:=by unfold E7;exact⟨by kernel_rfl,by kernel_rfl⟩
theorem LM:(Tryz.prog.info? 48).map (·.size)=some 2:=by kernel_rfl
theorem Vh:AU Tryz.prog 162:=by unfold AU;kernel_rfl
theorem Vi:AU Tryz.prog 139:=by unfold AU;kernel_rfl
theorem Vj:AU Tryz.prog 138:=by unfold AU;kernel_rfl
theorem Vk:One Tryz.prog 124:=by unfold One;exact⟨by kernel_rfl,by kernel_rfl⟩
theorem RY:E7 Tryz.prog 77 2:=by unfold E7;exact⟨by kernel_rfl,by kernel_rfl⟩
theorem XM:(Tryz.prog.info? 77).map (·.size)=some 2:=by kernel_rfl
theorem Vl:AU Tryz.prog 140:=by unfold AU;kernel_rfl
theorem Vm:AU Tryz.prog 113:=by unfold AU;kernel_rfl
theorem Vn:AU Tryz.prog 112:=by unfold AU;kernel_rfl
theorem Vo:One Tryz.prog 125:=by unfold One;exact⟨by kernel_rfl,by kernel_rfl⟩
theorem OV:E7 Tryz.prog 79 3:=by unfold E7;exact⟨by kernel_rfl,by kernel_rfl⟩
theorem QY:(Tryz.prog.info? 79).map (·.size)=some 3:=by kernel_rfl
theorem Vp:AU Tryz.prog 141:=by unfold AU;kernel_rfl
theorem Vq:AU Tryz.prog 115:=by unfold AU;kernel_rfl
theorem Vr:AU Tryz.prog 114:=by unfold AU;kernel_rfl
theorem Nc(b:Nat)(w:World):(Instr.fieldAt 48 (.pointer (some ⟨b,0,none⟩)) 0).run Tryz.prog w=.ok (.pointer (some ⟨b,0,none⟩)) w:=by kernel_rfl
theorem Nd(b:Nat)(w:World):(Instr.fieldAt 48 (.pointer (some ⟨b,0,none⟩)) 1).run Tryz.prog w=.ok (.pointer (some ⟨b,1,none⟩)) w:=by kernel_rfl
theorem Qc:(Tryz.prog.info? 48).bind (·.zero)=some (.agg #[I 0,I 0]):=by kernel_rfl
theorem Vs:AU Tryz.prog 111:=by unfold AU;kernel_rfl
theorem Vt:AU Tryz.prog 110:=by unfold AU;kernel_rfl
theorem Qd(b:Nat)(w:World):(Instr.fieldAt 53 (.pointer (some ⟨b,0,none⟩)) 3).run Tryz.prog w=.ok (.pointer (some ⟨b,5,none⟩)) w:=by kernel_rfl
theorem RZ:One Tryz.prog 50:=by unfold One;exact⟨by kernel_rfl,by kernel_rfl⟩
theorem Nf(b:Nat)(w:World):(Instr.fieldAt 53 (.pointer (some ⟨b,0,none⟩)) 4).run Tryz.prog w=.ok (.pointer (some ⟨b,6,none⟩)) w:=by kernel_rfl
theorem OW:One Tryz.prog 51:=by unfold One;exact⟨by kernel_rfl,by kernel_rfl⟩
theorem Qe(b:Nat)(w:World):(Instr.fieldAt 53 (.pointer (some ⟨b,0,none⟩)) 1).run Tryz.prog w=.ok (.pointer (some ⟨b,3,none⟩)) w:=by kernel_rfl
theorem WD:AU Tryz.prog 72:=by unfold AU;kernel_rfl
theorem WE:AU Tryz.prog 73:=by unfold AU;kernel_rfl
theorem WG:AU Tryz.prog 69:=by unfold AU;kernel_rfl
theorem WH:AU Tryz.prog 74:=by unfold AU;kernel_rfl
theorem WI:AU Tryz.prog 70:=by unfold AU;kernel_rfl
theorem WJ:AU Tryz.prog 75:=by unfold AU;kernel_rfl
theorem Qf:(Tryz.prog.info? 60).map (fun i=>(i.zero,i.size,i.bytes))=some (some (.agg #[I 0,I 0]),2,16):=by kernel_rfl
theorem Qg:JU Tryz.prog 147 2:=Kx 2 Tryz.underlying147 (by kernel_rfl) rfl rfl Bs Tryz.underlying3
theorem OX:M0 Tryz.prog 147 2:=L4 2 Tryz.underlying147 rfl rfl Bs Tryz.underlying3
theorem NK:Ju Tryz.prog 147:=by unfold Ju;kernel_rfl
theorem Tl:(Tryz.prog.info? 3).bind (·.zero)=some (I 0):=by kernel_rfl
theorem KM(b:Nat)(w:World):(Instr.fieldAt 109 (.pointer (some ⟨b,0,none⟩)) 1).run Tryz.prog w=.ok (.pointer (some ⟨b,7,none⟩)) w:=by kernel_rfl
theorem Vu(w:World):(Op.equal 31 (.slice none 0 0) (.slice none 0 0)).run Tryz.prog w=.ok true w:=by kernel_rfl
theorem Vv(ad:Addr)(n c:Nat)(w:World):(Op.equal 31 (.slice (some ad) n c) (.slice none 0 0)).run Tryz.prog w=.ok false w:=by kernel_rfl
theorem Ls:AU Tryz.prog 50:=by unfold AU;kernel_rfl
theorem MT:One Tryz.prog 55:=by unfold One;exact⟨by kernel_rfl,by kernel_rfl⟩
theorem Vw:AU Tryz.prog 156:=by unfold AU;kernel_rfl
theorem Vx(b o:Nat)(w:World):(Instr.fieldAt 60 (.pointer (some ⟨b,o,none⟩)) 0).run Tryz.prog w=.ok (.pointer (some ⟨b,o,none⟩)) w:=by kernel_rfl
theorem Qh:AU Tryz.prog 155:=by unfold AU;kernel_rfl
theorem Ng:(Tryz.prog.info? 31).bind (·.zero)=some (.slice none 0 0):=by kernel_rfl
theorem Mq:(Tryz.prog.info? 102).bind (·.zero)=some (.agg #[I 0,I 0,I 0]):=by kernel_rfl
theorem WK:AU Tryz.prog 87:=by unfold AU;kernel_rfl
theorem Ix:E7 Tryz.prog 102 3:=by unfold E7;exact⟨by kernel_rfl,by kernel_rfl⟩
theorem Lt:(Tryz.prog.info? 102).map (·.size)=some 3:=by kernel_rfl
theorem R0:AU Tryz.prog 47:=by unfold AU;kernel_rfl
theorem Nh:(Tryz.prog.info? 99).bind (·.zero)=some (.pointer none):=by kernel_rfl
theorem QZ:(Tryz.prog.info? 99).map (·.size)=some 1:=by kernel_rfl
theorem R1:AU Tryz.prog 84:=by unfold AU;kernel_rfl
theorem Vy:AU Tryz.prog 126:=by unfold AU;kernel_rfl
theorem WM:AU Tryz.prog 65:=by unfold AU;kernel_rfl
theorem R3:AU Tryz.prog 49:=by unfold AU;kernel_rfl
theorem FJ:One Tryz.prog 99:=by unfold One;exact⟨by kernel_rfl,by kernel_rfl⟩
theorem H2(b:Nat)(w:World):(Instr.fieldAt 109 (.pointer (some ⟨b,0,none⟩)) 2).run Tryz.prog w=.ok (.pointer (some ⟨b,8,none⟩)) w:=by kernel_rfl
theorem IS:One Tryz.prog 106:=by unfold One;exact⟨by kernel_rfl,by kernel_rfl⟩
theorem OY:(Tryz.prog.info? 102).map (fun i=>(i.zero,i.size,i.bytes))=some (some (.agg #[I 0,I 0,I 0]),3,24):=by kernel_rfl
theorem R4:(Tryz.prog.info? 106).map (·.size)=some 1:=by kernel_rfl
theorem Vz:Tryz.prog.eqGuardType Tryz.prog.depth 102=false:=by kernel_rfl
theorem VA:JU Tryz.prog 102 3:=Nt Tryz.underlying102 Bs Tryz.underlying3
theorem VB:AU Tryz.prog 154:=by unfold AU;kernel_rfl
theorem OZ(b o:Nat)(w:World):(Instr.fieldAt 109 (.pointer (some ⟨b,o,none⟩)) 3).run Tryz.prog w=.ok (.pointer (some ⟨b,o+9,none⟩)) w:=by kernel_rfl
theorem Qi:One Tryz.prog 107:=by unfold One;exact⟨by kernel_rfl,by kernel_rfl⟩
theorem Qj:E7 Tryz.prog 147 2:=by unfold E7;exact⟨by kernel_rfl,by kernel_rfl⟩
theorem KN(b o:Nat)(w:World):(Instr.fieldAt 109 (.pointer (some ⟨b,o,none⟩)) 0).run Tryz.prog w=.ok (.pointer (some ⟨b,o,none⟩)) w:=by kernel_rfl
theorem VC(b o:Nat)(w:World):(Instr.fieldAt 53 (.pointer (some ⟨b,o,none⟩)) 2).run Tryz.prog w=.ok (.pointer (some ⟨b,o+4,none⟩)) w:=by kernel_rfl
theorem Tm(b:Nat)(w:World):(Instr.fieldAt 147 (.pointer (some ⟨b,0,none⟩)) 1).run Tryz.prog w=.ok (.pointer (some ⟨b,1,none⟩)) w:=by kernel_rfl
theorem Jb(b o:Nat)(w:World):(Instr.fieldAt 109 (.pointer (some ⟨b,o,none⟩)) 1).run Tryz.prog w=.ok (.pointer (some ⟨b,o+7,none⟩)) w:=by kernel_rfl
theorem Tn(b:Nat)(w:World):(Instr.fieldAt 147 (.pointer (some ⟨b,0,none⟩)) 0).run Tryz.prog w=.ok (.pointer (some ⟨b,0,none⟩)) w:=by kernel_rfl
theorem LN:(Tryz.prog.info? 98).bind (·.zero)=some (.agg #[I 0,I 0,I 0]):=by kernel_rfl
theorem WN:AU Tryz.prog 86:=by unfold AU;kernel_rfl
theorem Km:E7 Tryz.prog 98 3:=by unfold E7;exact⟨by kernel_rfl,by kernel_rfl⟩
theorem NV:(Tryz.prog.info? 98).map (·.size)=some 3:=by kernel_rfl
theorem VD:(Tryz.prog.info? 79).bind (·.zero)=some (.agg #[I 0,I 0,I 0]):=by kernel_rfl
theorem R5:AU Tryz.prog 85:=by unfold AU;kernel_rfl
theorem To(b o:Nat)(w:World):(Instr.fieldAt 109 (.pointer (some ⟨b,o,none⟩)) 2).run Tryz.prog w=.ok (.pointer (some ⟨b,o+8,none⟩)) w:=by kernel_rfl
theorem R6:AU Tryz.prog 48:=by unfold AU;kernel_rfl
theorem R7:AU Tryz.prog 66:=by unfold AU;kernel_rfl
theorem R8:(Tryz.prog.info? 4).bind (·.zero)=some (.bool false):=by kernel_rfl
theorem R9:AU Tryz.prog 88:=by unfold AU;kernel_rfl
theorem Q0:(Tryz.prog.info? 4).map (·.size)=some 1:=by kernel_rfl
theorem Qk:AU Tryz.prog 120:=by unfold AU;kernel_rfl
theorem Sa:AU Tryz.prog 30:=by unfold AU;kernel_rfl
theorem WO:AU Tryz.prog 46:=by unfold AU;kernel_rfl
theorem WQ:AU Tryz.prog 98:=by unfold AU;kernel_rfl
theorem WR:AU Tryz.prog 63:=by unfold AU;kernel_rfl
theorem WS:AU Tryz.prog 64:=by unfold AU;kernel_rfl
theorem VF:One Tryz.prog 111:=by unfold One;exact⟨by kernel_rfl,by kernel_rfl⟩
theorem Sb:AU Tryz.prog 89:=by unfold AU;kernel_rfl
theorem Sc:AU Tryz.prog 51:=by unfold AU;kernel_rfl
theorem Sd:(Tryz.prog.info? 3).bind (·.zero)=some (I 0):=by kernel_rfl
theorem WT:AU Tryz.prog 53:=by unfold AU;kernel_rfl
theorem Se:AU Tryz.prog 52:=by unfold AU;kernel_rfl
theorem VG(b o:Nat)(w:World):(Instr.fieldAt 53 (.pointer (some ⟨b,o,none⟩)) 1).run Tryz.prog w=.ok (.pointer (some ⟨b,o+3,none⟩)) w:=by kernel_rfl
theorem WU:AU Tryz.prog 90:=by unfold AU;kernel_rfl
theorem Sf:AU Tryz.prog 54:=by unfold AU;kernel_rfl
theorem Ql(a:Value)(x1:Value)(w:World):(Instr.field 60 (.agg #[a,x1]) 0).run Tryz.prog w=.ok (a) w:=by kernel_rfl
theorem Ni:One Tryz.prog 113:=by unfold One;exact⟨by kernel_rfl,by kernel_rfl⟩
theorem O0:AU Tryz.prog 55:=by unfold AU;kernel_rfl
theorem Tp:(Tryz.prog.info? 113).bind (·.zero)=some (.nilFunc):=by kernel_rfl
theorem WV:(Tryz.prog.info? 113).map (·.size)=some 1:=by kernel_rfl
theorem Qm:(Tryz.prog.info? 31).map (fun i=>(i.zero,i.size,i.bytes))=some (some (.slice none 0 0),1,24):=by kernel_rfl
theorem XN:(Tryz.prog.info? 23).map (·.size)=some 1:=by kernel_rfl
theorem Qn:One Tryz.prog 142:=by unfold One;exact⟨by kernel_rfl,by kernel_rfl⟩
theorem Tq:(Tryz.prog.info? 142).bind (·.zero)=some (.nilFunc):=by kernel_rfl
theorem WW:(Tryz.prog.info? 142).map (·.size)=some 1:=by kernel_rfl
theorem Ko(b:Nat)(w:World):(Instr.fieldAt 44 (.pointer (some ⟨b,0,none⟩)) 0).run Tryz.prog w=.ok (.pointer (some ⟨b,0,none⟩)) w:=by kernel_rfl
theorem LO(b:Nat)(w:World):(Instr.fieldAt 44 (.pointer (some ⟨b,0,none⟩)) 1).run Tryz.prog w=.ok (.pointer (some ⟨b,1,none⟩)) w:=by kernel_rfl
theorem JS:AU Tryz.prog 11:=by unfold AU;kernel_rfl
theorem Es(b:Nat)(w:World):(Instr.fieldAt 26 (.pointer (some ⟨b,0,none⟩)) 0).run Tryz.prog w=.ok (.pointer (some ⟨b,0,none⟩)) w:=by kernel_rfl
theorem Fs:One Tryz.prog 22:=by unfold One;exact⟨by kernel_rfl,by kernel_rfl⟩
theorem KO:(Tryz.prog.info? 44).map (·.size)=some 2:=by kernel_rfl
theorem I6:E7 Tryz.prog 44 2:=by unfold E7;exact⟨by kernel_rfl,by kernel_rfl⟩
theorem O1:AU Tryz.prog 76:=by unfold AU;kernel_rfl
theorem Gl(b:Nat)(w:World):(Instr.fieldAt 26 (.pointer (some ⟨b,0,none⟩)) 1).run Tryz.prog w=.ok (.pointer (some ⟨b,1,none⟩)) w:=by kernel_rfl
theorem Gm(b:Nat)(w:World):(Instr.fieldAt 26 (.pointer (some ⟨b,0,none⟩)) 2).run Tryz.prog w=.ok (.pointer (some ⟨b,2,none⟩)) w:=by kernel_rfl
theorem H8:One Tryz.prog 24:=by unfold One;exact⟨by kernel_rfl,by kernel_rfl⟩
theorem O2:AU Tryz.prog 33:=by unfold AU;kernel_rfl
theorem FK:E7 Tryz.prog 26 3:=by unfold E7;exact⟨by kernel_rfl,by kernel_rfl⟩
theorem Sg:AU Tryz.prog 34:=by unfold AU;kernel_rfl
theorem O3:AU Tryz.prog 17:=by unfold AU;kernel_rfl
theorem LP:(Tryz.prog.info? 46).map (·.size)=some 4:=by kernel_rfl
theorem Lu:E7 Tryz.prog 46 4:=by unfold E7;exact⟨by kernel_rfl,by kernel_rfl⟩
theorem Nj:(Tryz.prog.info? 46).bind (·.zero)=some (.agg #[.bool false,I 0,I 0,I 0]):=by kernel_rfl
theorem LQ(b:Nat)(w:World):(Instr.fieldAt 46 (.pointer (some ⟨b,0,none⟩)) 0).run Tryz.prog w=.ok (.pointer (some ⟨b,0,none⟩)) w:=by kernel_rfl
theorem JB(b:Nat)(w:World):(Instr.fieldAt 46 (.pointer (some ⟨b,0,none⟩)) 1).run Tryz.prog w=.ok (.pointer (some ⟨b,1,none⟩)) w:=by kernel_rfl
theorem Jc(b:Nat)(w:World):(Instr.fieldAt 46 (.pointer (some ⟨b,0,none⟩)) 2).run Tryz.prog w=.ok (.pointer (some ⟨b,2,none⟩)) w:=by kernel_rfl
theorem O4:AU Tryz.prog 32:=by unfold AU;kernel_rfl
theorem VH:(Tryz.prog.info? 44).bind (·.zero)=some (.agg #[I 0,I 0]):=by kernel_rfl
theorem VI(b o:Nat)(w:World):(Instr.fieldAt 44 (.pointer (some ⟨b,o,none⟩)) 0).run Tryz.prog w=.ok (.pointer (some ⟨b,o,none⟩)) w:=by kernel_rfl
theorem VJ(b o:Nat)(w:World):(Instr.fieldAt 44 (.pointer (some ⟨b,o,none⟩)) 1).run Tryz.prog w=.ok (.pointer (some ⟨b,o+1,none⟩)) w:=by kernel_rfl
theorem WX:AU Tryz.prog 45:=by unfold AU;kernel_rfl
theorem O5:AU Tryz.prog 13:=by unfold AU;kernel_rfl
theorem NL(b:Nat)(w:World):(Instr.fieldAt 44 (.pointer (some ⟨b,2,none⟩)) 0).run Tryz.prog w=.ok (.pointer (some ⟨b,2,none⟩)) w:=by kernel_rfl
theorem NM(b:Nat)(w:World):(Instr.fieldAt 44 (.pointer (some ⟨b,2,none⟩)) 1).run Tryz.prog w=.ok (.pointer (some ⟨b,3,none⟩)) w:=by kernel_rfl
theorem WY:AU Tryz.prog 82:=by unfold AU;kernel_rfl
theorem WZ:AU Tryz.prog 83:=by unfold AU;kernel_rfl
theorem W0:AU Tryz.prog 43:=by unfold AU;kernel_rfl
theorem W1:AU Tryz.prog 44:=by unfold AU;kernel_rfl
theorem Nk:(Tryz.prog.info? 38).bind (·.zero)=some (.agg #[.slice none 0 0,.slice none 0 0,.slice none 0 0]):=by kernel_rfl
theorem Sh:AU Tryz.prog 41:=by unfold AU;kernel_rfl
theorem VK:(Tryz.prog.info? 71).map (fun i=>(i.zero,i.size,i.bytes))=some (some (.agg #[I 0,I 0]),2,16):=by kernel_rfl
theorem XO:(Tryz.prog.info? 35).map (·.size)=some 1:=by kernel_rfl
theorem W2:AU Tryz.prog 42:=by unfold AU;kernel_rfl
theorem VM:(Tryz.prog.info? 73).map (fun i=>(i.zero,i.size,i.bytes))=some (some (.agg #[.bool false,I 0,I 0,I 0]),4,32):=by kernel_rfl
theorem TW:(Tryz.prog.info? 36).map (·.size)=some 1:=by kernel_rfl
theorem TX:(Tryz.prog.info? 38).map (·.size)=some 3:=by kernel_rfl
theorem TY:AU Tryz.prog 6:=by unfold AU;kernel_rfl
theorem VN:(Tryz.prog.info? 53).bind (·.zero)=some (.agg #[.slice none 0 0,.slice none 0 0,.slice none 0 0,I 0,.slice none 0 0,.slice none 0 0,.slice none 0 0]):=by kernel_rfl
theorem XP:(Tryz.prog.info? 53).map (·.size)=some 7:=by kernel_rfl
theorem W3:AU Tryz.prog 14:=by unfold AU;kernel_rfl
theorem Si:AU Tryz.prog 15:=by unfold AU;kernel_rfl
theorem W4:AU Tryz.prog 16:=by unfold AU;kernel_rfl
theorem Sj:Tryz.prog.eqGuardType Tryz.prog.depth 60=false:=by kernel_rfl
theorem Sk:JU Tryz.prog 60 2:=Kx 2 Tryz.underlying60 (by kernel_rfl) rfl rfl Bs Tryz.underlying3
theorem Sm:AU Tryz.prog 81:=by unfold AU;kernel_rfl
theorem Qo:JU Tryz.prog 170 2:=Kx 2 Tryz.underlying170 (by kernel_rfl) rfl rfl Bs Tryz.underlying3
theorem O6:M0 Tryz.prog 170 2:=L4 2 Tryz.underlying170 rfl rfl Bs Tryz.underlying3
theorem NN:Ju Tryz.prog 170:=by unfold Ju;kernel_rfl
theorem O7(b o:Nat)(w:World):(Instr.fieldAt 132 (.pointer (some ⟨b,o,none⟩)) 0).run Tryz.prog w=.ok (.pointer (some ⟨b,o,none⟩)) w:=by kernel_rfl
theorem Ts:(Tryz.prog.info? 170).bind (·.zero)=some (.agg #[I 0,I 0]):=by kernel_rfl
theorem W5:(Tryz.prog.info? 170).map (·.size)=some 2:=by kernel_rfl
theorem Qp:E7 Tryz.prog 170 2:=by unfold E7;exact⟨by kernel_rfl,by kernel_rfl⟩
theorem VO(b o:Nat)(w:World):(Instr.fieldAt 38 (.pointer (some ⟨b,o,none⟩)) 1).run Tryz.prog w=.ok (.pointer (some ⟨b,o+1,none⟩)) w:=by kernel_rfl
theorem Tt(b o:Nat)(w:World):(Instr.fieldAt 132 (.pointer (some ⟨b,o,none⟩)) 1).run Tryz.prog w=.ok (.pointer (some ⟨b,o+3,none⟩)) w:=by kernel_rfl
theorem W6:AU Tryz.prog 79:=by unfold AU;kernel_rfl
theorem W7:AU Tryz.prog 80:=by unfold AU;kernel_rfl
theorem W8:AU Tryz.prog 37:=by unfold AU;kernel_rfl
theorem VP(b:Nat)(w:World):(Instr.fieldAt 90 (.pointer (some ⟨b,0,none⟩)) 0).run Tryz.prog w=.ok (.pointer (some ⟨b,0,none⟩)) w:=by kernel_rfl
theorem W9:One Tryz.prog 87:=by unfold One;exact⟨by kernel_rfl,by kernel_rfl⟩
theorem Xa:AU Tryz.prog 38:=by unfold AU;kernel_rfl
theorem Xb:AU Tryz.prog 36:=by unfold AU;kernel_rfl
theorem Xc:AU Tryz.prog 35:=by unfold AU;kernel_rfl
theorem VQ:(Tryz.prog.info? 90).bind (·.zero)=some (.agg #[.nilFunc]):=by kernel_rfl
theorem XQ:(Tryz.prog.info? 90).map (·.size)=some 1:=by kernel_rfl
theorem Xd:AU Tryz.prog 40:=by unfold AU;kernel_rfl
theorem Xe:AU Tryz.prog 39:=by unfold AU;kernel_rfl
theorem TZ:AU Tryz.prog 8:=by unfold AU;kernel_rfl
theorem XS:AU Tryz.prog 5:=by unfold AU;kernel_rfl
theorem MU:AU Tryz.prog 7:=by unfold AU;kernel_rfl
theorem Tu:(Tryz.prog.underlying 5).isSome=true:=by kernel_rfl
theorem T0:AU Tryz.prog 9:=by unfold AU;kernel_rfl
theorem Xf:AU Tryz.prog 10:=by unfold AU;kernel_rfl
theorem XT:(Tryz.prog.underlying 27).isSome=true:=by kernel_rfl
theorem VR:(Tryz.prog.info? 26).bind (·.zero)=some (.agg #[.slice none 0 0,.slice none 0 0,.slice none 0 0]):=by kernel_rfl
theorem XU:(Tryz.prog.info? 26).map (·.size)=some 3:=by kernel_rfl
theorem Nl:(Tryz.prog.info? 46).map (fun i=>(i.zero,i.size,i.bytes))=some (some (.agg #[.bool false,I 0,I 0,I 0]),4,32):=by kernel_rfl
theorem Q1:(Tryz.prog.info? 24).map (·.size)=some 1:=by kernel_rfl
theorem Xg:AU Tryz.prog 12:=by unfold AU;kernel_rfl
end HF
end Go.Proofs.YtcdofnchafcfpaaGreat
end
section
namespace Go.Proofs.YtcdofnchafcfpaaGreat
open Go.RowKit Go.WideShapes
set_option maxRecDepth 20000
open HF
attribute [local irreducible] BW WL CC CW LV BG HJ E7 One AU
theorem Sn l b d e(Z:Nat→Prop) w k(c:EZ l b d e=some k):
 BG Tryz.prog 78 #[I b,I d,I e] w (fun v w'=>Ext w w'∧Bn.R w' (zf Z w []) v k):=by
 unfold EZ at c;refine rq (N:=15) Tryz.func78 fun m g n=>?_;have f:=sA 0 g;have i:=sA 1 g;have j:=sA 2 g;clear g;have h:Hp FN [] w [] w:=Hp.start (Bp.none w);refine cr<|wA (v:=.bool false) rfl<|wr<|wM (v:=I d) i<|wM (v:=I b) f<|wD (fun st=>HE (eR st) (eR st))<|wM (v:=.bool (decide (d≤b))) rfl ?_;rcases Af (decide (d≤b)) with a|a
 ·replace c:=Aw c a;refine wN a (v:=I b) f<|wN a (v:=I e) j<|wG a (fun st=>HE (eR st) (eR st))<|wD (fun st=>Bz (v:=.bool (decide (b≤e))) (eR st) a (eR st))<|wA (v:=.bool (decide (b≤e))) rfl<|wn<|Am ?_;obtain rfl:=oi c;refine Ar rfl rfl ?_;exact⟨h.Bb,rfl⟩
 ·replace c:=Ax c a;refine wF a<|wF a<|wF a<|wD (fun st=>Bt (v:=.bool false) (eR st) a (eR st))<|wA (v:=.bool false) rfl<|wn<|Am ?_;obtain rfl:=oi c;refine Ar rfl rfl ?_;exact⟨h.Bb,rfl⟩
theorem a105 l b(Z:Nat→Prop) w i(d:Ex l b=some i):
 BG Tryz.prog 105 #[.agg #[I b.Lo,I b.Hi]] w (fun v w'=>Ext w w'∧Bn.R w' (zf Z w []) v i):=by
 unfold Ex at d;refine rq (N:=18) Tryz.func105 fun m j n=>?_;have h:=sA 0 j;clear j;have g:Hp FN [] w [] w:=Hp.start (Bp.none w);refine cr<|wE (fun st=>BB (v:=.agg #[I b.Lo,I b.Hi]) (cs:= #[I b.Lo,I b.Hi]) (ee st h) rfl) ?_;rintro _ w1 ⟨b1,rfl,e⟩;have f:=g.nb e;have k:=g.BD e;refine wA (v:=.bool false) rfl<|wr<|wD (fun st=>Ae (eR st) (LG _ _))<|wD (fun st=>Ah (v:=I b.Lo) Bs (eR st) e.bk rfl)<|wD (fun st=>HE (eR st) (eR st))<|wM (v:=.bool (decide ((0:Int)≤b.Lo))) rfl ?_;rcases Af (decide ((0:Int)≤b.Lo)) with a|a
 ·replace d:=Aw d a;refine wG a (fun st=>Ae (eR st) (LG _ _))<|wG a (fun st=>Ah (v:=I b.Lo) Bs (eR st) e.bk rfl)<|wG a (fun st=>Ae (eR st) (LH _ _))<|wG a (fun st=>Ah (v:=I b.Hi) Bs (eR st) e.bk rfl)<|wG a (fun st=>HE (eR st) (eR st))<|wD (fun st=>Bz (v:=.bool (decide (b.Lo≤b.Hi))) (eR st) a (eR st))<|wM (v:=.bool (decide (b.Lo≤b.Hi))) rfl ?_;rcases Af (decide (b.Lo≤b.Hi)) with c|c
  ·replace d:=Aw d c;refine wG c (fun st=>Ae (eR st) (LH _ _))<|wG c (fun st=>Ah (v:=I b.Hi) Bs (eR st) e.bk rfl)<|wG c (fun st=>HE (eR st) (eR st))<|wD (fun st=>Bz (v:=.bool (decide (b.Hi≤100))) (eR st) c (eR st))<|wA (v:=.bool (decide (b.Hi≤100))) rfl<|wn<|Am ?_;obtain rfl:=oi d;refine Ar rfl rfl ?_;exact⟨f.Bb,rfl⟩
  ·replace d:=Ax d c;refine wF c<|wF c<|wF c<|wD (fun st=>Bt (v:=.bool false) (eR st) c (eR st))<|wA (v:=.bool false) rfl<|wn<|Am ?_;obtain rfl:=oi d;refine Ar rfl rfl ?_;exact⟨f.Bb,rfl⟩
 ·replace d:=Ax d a;refine wF a<|wF a<|wF a<|wF a<|wF a<|wD (fun st=>Bt (v:=.bool false) (eR st) a (eR st))<|wM (v:=.bool false) rfl<|wH<|wH<|wH<|wD (fun st=>Bt (v:=.bool false) (eR st) rfl (eR st))<|wA (v:=.bool false) rfl<|wn<|Am ?_;obtain rfl:=oi d;refine Ar rfl rfl ?_;exact⟨f.Bb,rfl⟩
theorem a109 l a(Z:Nat→Prop) w f(b:GS l a=some f):
 BG Tryz.prog 109 #[.agg #[I a.Lo,I a.Hi]] w (fun v w'=>Ext w w'∧(DD .i64).R w' (zf Z w []) v f):=by
 unfold GS at b;refine rq (N:=9) Tryz.func109 fun m g n=>?_;have e:=sA 0 g;clear g;have d:Hp FN [] w [] w:=Hp.start (Bp.none w);refine cr<|wE (fun st=>BB (v:=.agg #[I a.Lo,I a.Hi]) (cs:= #[I a.Lo,I a.Hi]) (ee st e) rfl) ?_;rintro _ w1 ⟨b1,rfl,c⟩;have h:=d.nb c;have k:=d.BD c;refine wA (v:=I 0) rfl<|wr<|wD (fun st=>Ae (eR st) (LH _ _))<|wD (fun st=>Ah (v:=I a.Hi) Bs (eR st) c.bk rfl)<|wD (fun st=>Ae (eR st) (LG _ _))<|wD (fun st=>Ah (v:=I a.Lo) Bs (eR st) c.bk rfl) ?_;replace b:=AK b;obtain⟨i,b⟩:=b;refine wD (fun st=>Hd (eR st) (eR st) i) ?_;replace b:=AK b;obtain⟨j,b⟩:=b;refine wD (fun st=>BF (eR st) (eR st) j)<|wA (v:=I ((a.Hi-a.Lo)+1)) rfl<|wn<|Am ?_;obtain rfl:=oi b;refine Ar rfl rfl ?_;exact⟨h.Bb,rfl⟩
theorem a127 i a d(Z:Nat→Prop) w j(c:ER i a d=some j):
 BG Tryz.prog 127 #[.agg #[I a.Lo,I a.Hi],I d] w (fun v w'=>Ext w w'∧Bn.R w' (zf Z w []) v j):=by
 unfold ER at c;refine rq (N:=11) Tryz.func127 fun q f r=>?_;have g:=sA 0 f;have h:=sA 1 f;clear f;have e:Hp FN [] w [] w:=Hp.start (Bp.none w);refine cr<|wE (fun st=>BB (v:=.agg #[I a.Lo,I a.Hi]) (cs:= #[I a.Lo,I a.Hi]) (ee st g) rfl) ?_;rintro _ w1 ⟨b1,rfl,b⟩;have k:=e.nb b;have p:=e.BD b;refine wA (v:=.bool false) rfl<|wr<|wM (v:=I d) h<|wD (fun st=>Ae (eR st) (LG _ _))<|wD (fun st=>Ah (v:=I a.Lo) Bs (eR st) b.bk rfl)<|wD (fun st=>Ae (eR st) (LH _ _))<|wD (fun st=>Ah (v:=I a.Hi) Bs (eR st) b.bk rfl) ?_;replace c:=bind_some c;obtain⟨l,m,c⟩:=c;refine wE (fun st=>Az Lm (eR st) (F9 (eR st) (eR st) (eR st)) (Sn i d a.Lo a.Hi ZA _ l m)) ?_;rintro _ s ⟨n,rfl⟩;have o:=k.ext n;refine wA (v:=.bool l) rfl<|wn<|Am ?_;obtain rfl:=oi c;refine Ar rfl rfl ?_;exact⟨o.Bb,rfl⟩
theorem Yx d b(Z:Nat→Prop) w e(a:H6 d b=some e):
 BG Tryz.prog 158 #[I b] w (fun v w'=>Ext w w'∧Bn.R w' (zf Z w []) v e):=by
 unfold H6 at a;refine rq (N:=5) Tryz.func158 fun l f m=>?_;have c:=sA 0 f;clear f;have g:Hp FN [] w [] w:=Hp.start (Bp.none w);refine cr<|wA (v:=.bool false) rfl<|wr<|wM (v:=I b) c ?_;replace a:=bind_some a;obtain⟨h,i,a⟩:=a;refine wE (fun st=>Az Lm (eR st) (F9 (eR st) (eR st) (eR st)) (Sn d b 0 30 ZA _ h i)) ?_;rintro _ w2 ⟨j,rfl⟩;have k:=g.ext j;refine wA (v:=.bool h) rfl<|wn<|Am ?_;obtain rfl:=oi a;refine Ar rfl rfl ?_;exact⟨k.Bb,rfl⟩
theorem a130 aA i f g(Z:Nat→Prop) w(r:Sl (Ao .i64) w Z f g i) aB(a:It aA i=some aB):
 BG Tryz.prog 130 #[.slice f i.length g] w (fun v w'=>Ext w w'∧(DD .i64).R w' (zf Z w []) v aB):=by
 unfold It at a;refine rq (N:=16) Tryz.func130 fun aR aC aS=>?_;have u:=sA 0 aC;clear aC;have aD:Hp FN [] w [] w:=Hp.start (Bp.none w);have o:=r.mv (Bw (Z:=Z) (L:=[]) w);refine cr<|wA (v:=I 0) rfl<|wn<|Ag<|cr<|wM (v:=.slice f i.length g) u<|wD (fun st=>Bm Tryz.underlying31 (eR st))<|wM (v:=I 0) rfl<|wn<|AL ?_;replace a:=bind_some a;obtain⟨s,e,a⟩:=a;refine B2 (fun aE d x=>(aE=.exit 0∧Fo X0 16 d∧sl d 2=I s∧w=x)) ?aF ?aG
 case aF=>
  clear a;refine BY (fun y d x=>∃b,∃c,E0 i y b c=some s∧Fo X0 16 d∧sl d 2=I b∧sl d 5=.slice f i.length g∧sl d 6=I (i.length:Int)∧sl d 7=I c∧w=x) aA ?aH ?aI
  case aH=>
   intro st;exact⟨(0:Int),(0:Int),e,qo st,sp st 2 rfl,sp st 5 rfl,sp st 6 rfl,sp st 7 rfl,rfl⟩
  case aI=>
   rintro(_|y) aT _ ⟨b,c,e,z,l,m,n,h,rfl⟩
   ·exact absurd (show none=some _ from e) (by simp)
   rw[E0.eq_2] at e;have a:=e;clear e;refine ro z<|cr<|wD (fun st=>Cs (ee st h) (ee st n))<|wn<|Ag ?_;rcases Af (decide (c<(i.length:Int))) with j|j
   ·replace a:=Aw a j;refine Ak rfl j<|cn<|Ag<|AL<|Ag<|Aj ?_;replace a:=Bg a;obtain⟨i3,p,aJ,aK,aL,a⟩:=a;obtain⟨b3,aU,_,aM,rfl,aN⟩:=Sl.CZ o rfl aK;refine wD (fun st=>Bx (k:=i3) Tryz.underlying31 Dm (ee st m) aM (ee st h) aJ aL)<|wD (fun st=>BN (v:=I p) Bs (eR st) aN rfl)<|wA (v:=I p) rfl<|wn<|Aj<|wM (v:=I b) l<|wM (v:=I p) rfl ?_;replace a:=AK a;obtain⟨aO,a⟩:=a;refine wD (fun st=>BF (eR st) (eR st) aO)<|wA (v:=I (b+p)) rfl<|AZ<|De<|Aj ?_;replace a:=AK a;obtain⟨aP,a⟩:=a;refine wD (fun st=>BF (ee st h) (eR st) aP)<|wM (v:=I (c+1)) rfl<|AZ ?_;refine By y (Nat.lt_succ_self _) (fun st=>?_);exact⟨(b+p),(c+1),a,qo st,sp st 2 rfl,sp st 5 m,sp st 6 n,sp st 7 rfl,rfl⟩
   ·replace a:=Ax a j;refine Au rfl j<|D3 ?_;obtain rfl:=oi a;refine BH (fun st=>?_);exact⟨rfl,qo st,sp st 2 l,rfl⟩
 case aG=>
  rintro aE aQ _ (⟨rfl,t,q,rfl⟩);refine lf t<|Bc<|BI<|cr<|wM (v:=I s) q<|wA (v:=I s) rfl<|wn<|Am ?_;obtain rfl:=oi a;refine Ar rfl rfl ?_;exact⟨aD.Bb,rfl⟩
theorem Yy aF f a b c g h i j(Z:Nat→Prop) w(m:Sl Ay w Z b c f.Ac)(n:Sl (BJ (Ao .i64)) w Z g h f.Ai)(o:Sl AG w Z i j f.Ap) aB(d:Ga aF f a=some aB):
 BG Tryz.prog 128 #[.agg (An b c g h i j f).toArray,.agg #[.bool a.BQ,I a.Number,I a.AO,I a.AP]] w (fun v w'=>Ext w w'∧(DD .i64).R w' (zf Z w []) v aB):=by
 unfold Ga at d;refine rq (N:=15) Tryz.func128 fun aG t aH=>?_;have u:=sA 0 t;have x:=sA 1 t;clear t;have q:Hp FN [] w [] w:=Hp.start (Bp.none w);have ⟨y,z,aA⟩:=Dd m n o (Bw (Z:=Z) (L:=[]) w);refine cr<|wE (fun st=>BB (v:=.agg (An b c g h i j f).toArray) (cs:=(An b c g h i j f).toArray) (ee st u) rfl) ?_;rintro _ w1 ⟨b1,rfl,l⟩;have r:=q.nb l;have aD:=q.BD l;refine wE (fun st=>BB (v:=.agg #[.bool a.BQ,I a.Number,I a.AO,I a.AP]) (cs:= #[.bool a.BQ,I a.Number,I a.AO,I a.AP]) (ee st x) rfl) ?_;rintro _ w2 ⟨b2,rfl,e⟩;have s:=r.nb e;have aE:=r.BD e;refine wA (v:=I 0) rfl<|wn<|Ag<|cr<|wD (fun st=>Ae (eR st) (P1 _ _))<|wD (fun st=>Ah (v:=.bool a.BQ) Jx (eR st) e.bk rfl)<|wn ?_;rcases Af (a.BQ) with k|k
 ·replace d:=Aw d k;refine Ak rfl k<|cr<|wD (fun st=>Ae (eR st) (Fk _ _)) ?_;have p:=(l.bk.ext e.gr);refine wD (fun st=>Ah (v:=.slice b f.Ac.length c) GH (eR st) p rfl)<|wD (fun st=>Bm Tryz.underlying35 (eR st))<|wD (fun st=>Ae (eR st) (LI _ _))<|wD (fun st=>Ah (v:=I a.Number) Bs (eR st) e.bk rfl) ?_;replace d:=AK d;obtain⟨aC,d⟩:=d;refine wD (fun st=>BF (eR st) (eR st) aC)<|wA (v:=I ((f.Ac.length:Int)+a.Number)) rfl<|wn<|Am<|AN ?_;obtain rfl:=oi d;refine Ar rfl rfl ?_;exact⟨s.Bb,rfl⟩
 ·replace d:=Ax d k;refine Au rfl k<|cn<|cr<|wD (fun st=>Ae (eR st) (LI _ _))<|wD (fun st=>Ah (v:=I a.Number) Bs (eR st) e.bk rfl)<|wA (v:=I a.Number) rfl<|wn<|Am ?_;obtain rfl:=oi d;refine Ar rfl rfl ?_;exact⟨s.Bb,rfl⟩
theorem Xh z f c d(Z:Nat→Prop) w(r:Sl (Ao .i64) w Z c d f) aA(a:Gh z f=some aA):
 BG Tryz.prog 137 #[.slice c f.length d] w (fun v w'=>Ext w w'∧(DD .i64).R w' (zf Z w []) v aA):=by
 unfold Gh at a;refine rq (N:=25) Tryz.func137 fun aU aB aV=>?_;have o:=sA 0 aB;clear aB;have aC:Hp FN [] w [] w:=Hp.start (Bp.none w);have h:=r.mv (Bw (Z:=Z) (L:=[]) w);refine cr<|wA (v:=I 0) rfl<|wn<|Ag<|cr<|wM (v:=.slice c f.length d) o<|wD (fun st=>Bm Tryz.underlying31 (eR st))<|wD (fun st=>Cs (eR st) (eR st))<|wn ?_;rcases Af (decide ((f.length:Int)<1)) with m|m
 ·replace a:=Aw a m;refine Ak rfl m ?_;exact absurd a (by simp)
 ·replace a:=Ax a m;refine Au rfl m<|cn<|cr<|wM (v:=.slice c f.length d) o ?_;replace a:=Bg a;obtain⟨i2,x2,aD,aE,aF,a⟩:=a;obtain⟨b2,aX,_,aG,rfl,aH⟩:=Sl.CZ h rfl aE;refine wD (fun st=>Bx (k:=i2) Tryz.underlying31 Dm (eR st) aG (eR st) aD aF)<|wD (fun st=>BN (v:=I x2) Bs (eR st) aH rfl)<|wA (v:=I x2) rfl<|wn<|Ag<|cr<|wA (v:=I 1) rfl<|wn<|AL ?_;replace a:=bind_some a;obtain⟨z3,i,a⟩:=a;refine B2 (fun aI g t=>(aI=.exit 0∧Fo X0 25 g∧sl g 3=I z3∧w=t)) ?aJ ?aK
  case aJ=>
   clear a;refine BY (fun u g t=>∃e,∃b,Fc f u e b=some z3∧Fo X0 25 g∧sl g 0=.slice c f.length d∧sl g 3=I e∧sl g 4=I b∧w=t) z ?aL ?aM
   case aL=>
    intro st;exact⟨x2,(1:Int),i,qo st,sp st 0 o,sp st 3 rfl,sp st 4 rfl,rfl⟩
   case aM=>
    rintro(_|u) aW _ ⟨e,b,i,x,j,p,l,rfl⟩
    ·exact absurd (show none=some _ from i) (by simp)
    rw[Fc.eq_2] at i;have a:=i;clear i;refine ro x<|Ag<|cr<|wM (v:=I b) l<|wM (v:=.slice c f.length d) j<|wD (fun st=>Bm Tryz.underlying31 (eR st))<|wD (fun st=>Cs (eR st) (eR st))<|wn ?_;rcases Af (decide (b<(f.length:Int))) with n|n
    ·replace a:=Aw a n;refine Ak rfl n<|cn<|Ag<|AL<|Aj<|wM (v:=I e) p<|wM (v:=.slice c f.length d) j<|wM (v:=I b) l ?_;replace a:=Bg a;obtain⟨i5,y,aN,aO,aP,a⟩:=a;obtain⟨aY,aZ,_,aQ,rfl,aR⟩:=Sl.CZ h rfl aO;refine wD (fun st=>Bx (k:=i5) Tryz.underlying31 Dm (eR st) aQ (eR st) aN aP)<|wD (fun st=>BN (v:=I y) Bs (eR st) aR rfl)<|wD (fun st=>Tz (eR st) (eR st))<|wA (v:=I (min e y)) rfl<|AZ<|De<|Aj<|wM (v:=I b) l ?_;replace a:=AK a;obtain⟨aS,a⟩:=a;refine wD (fun st=>BF (eR st) (eR st) aS)<|wA (v:=I (b+1)) rfl<|AZ ?_;refine By u (Nat.lt_succ_self _) (fun st=>?_);exact⟨(min e y),(b+1),a,qo st,sp st 0 j,sp st 3 rfl,sp st 4 rfl,rfl⟩
    ·replace a:=Ax a n;refine Au rfl n<|D3 ?_;obtain rfl:=oi a;refine BH (fun st=>?_);exact⟨rfl,qo st,sp st 3 p,rfl⟩
  case aK=>
   rintro aI aT _ (⟨rfl,s,q,rfl⟩);refine lf s<|Bc<|BI<|cr<|wM (v:=I z3) q<|wA (v:=I z3) rfl<|wn<|Am ?_;obtain rfl:=oi a;refine Ar rfl rfl ?_;exact⟨aC.Bb,rfl⟩
theorem Yz h e a b(Z:Nat→Prop) w(f:Sl (Ao .i64) w Z a b e) i(c:HM h e=some i):
 BG Tryz.prog 108 #[.slice a e.length b] w (fun v w'=>Ext w w'∧(DD .i64).R w' (zf Z w []) v i):=by
 unfold HM at c;refine rq (N:=5) Tryz.func108 fun p j q=>?_;have g:=sA 0 j;clear j;have k:Hp FN [] w [] w:=Hp.start (Bp.none w);have d:=f.mv (Bw (Z:=Z) (L:=[]) w);refine cr<|wA (v:=I 0) rfl<|wr<|wM (v:=.slice a e.length b) g ?_;replace c:=bind_some c;obtain⟨l,m,c⟩:=c;refine wE (fun st=>Az P2 (eR st) (Ct (eR st)) (Xh h e a b ZA _ d.all l m)) ?_;rintro _ w2 ⟨n,rfl⟩;have o:=k.ext n;refine wA (v:=I l) rfl<|wn<|Am ?_;obtain rfl:=oi c;refine Ar rfl rfl ?_;exact⟨o.Bb,rfl⟩
theorem a37 d b(Z:Nat→Prop) w e(a:IG d b=some e):
 BG Tryz.prog 37 #[I b] w (fun v w'=>Ext w w'∧Bn.R w' (zf Z w []) v e):=by
 unfold IG at a;refine rq (N:=5) Tryz.func37 fun l f m=>?_;have c:=sA 0 f;clear f;have g:Hp FN [] w [] w:=Hp.start (Bp.none w);refine cr<|wA (v:=.bool false) rfl<|wr<|wM (v:=I b) c ?_;replace a:=bind_some a;obtain⟨h,i,a⟩:=a;refine wE (fun st=>Az Lm (eR st) (F9 (eR st) (eR st) (eR st)) (Sn d b 0 100 ZA _ h i)) ?_;rintro _ w2 ⟨j,rfl⟩;have k:=g.ext j;refine wA (v:=.bool h) rfl<|wn<|Am ?_;obtain rfl:=oi a;refine Ar rfl rfl ?_;exact⟨k.Bb,rfl⟩
theorem YA{s:Type}{f:Nat→Prop}{aM:Nat}{o:IT s}{x:s→AH→Option (Bool×s)} aW d(t:s) a(j:Value) c(Z Za:Nat→Prop) w(e:Cb Tryz.prog j f aM o (v1 (Dp Ay)) Bn x)(aN:aM≤w.heap.size)(aO:Bp f [some a,c] w)(aP:∀b,Z b→¬f b∧some b∉[some a,c])(aX:∀b,Z b→Za b)(aB:∀b,Za b→¬f b∧some b∉[some a,c])(aQ:Bk w a 161 #[j])(aY:o t w Z c) aC(n:Gs aW x d t=some aC):
 BG Tryz.prog 132 #[.agg #[I d.Lo,I d.Hi],pt a 0] w (fun v w'=>∃o',Br (FU f [some a,c]) w w'∧Bn.R w' (zf Z w [some a,o']) v aC.1∧Bk w' a 161 #[j]∧(∀k,o'=some k→(c=some k∨w.heap.size≤k)∧k<w'.heap.size)∧o aC.2 w' (zf Z w [some a,o']) o'):=by
 unfold Gs at n;refine rq (N:=8) Tryz.func132 fun a2 aD a3=>?_;have aE:=sA 0 aD;have aF:=sA 1 aD;clear aD;obtain⟨aG,aR,p,aS,aZ,aH⟩:=I0 aO aP aB;have aI:=e.mz aY (AM (L:=[some a,c]) aS w);refine cr<|wE (fun st=>BB (v:=.agg #[I d.Lo,I d.Hi]) (cs:= #[I d.Lo,I d.Hi]) (ee st aE) rfl) ?_;rintro _ w1 ⟨b1,rfl,g⟩;have i:=p.nb g;have aV:=p.BD g;refine wA (v:=.bool false) rfl<|wn<|Ag<|Aj ?_;have m:=(aQ.ext g.gr);refine wD (fun st=>Ah (v:=j) UH (ee st aF) m rfl)<|wD (fun st=>AQ (l:=[I d.Lo,I d.Hi]) HP (eR st) g.bk rfl rfl) ?_;have aJ:o t w1 (ZZ f aG Z w.heap.size [some b1,some a,c]) c:=(e.me aI p g.gr (Aq g));replace n:=bind_some n;obtain⟨aK,aT,n⟩:=n;refine wE (fun st=>EL (e.call t d aK _ (ZZ f aG Z w.heap.size [some b1,some a,c]) (ZC f [c]) c #[.agg #[I d.Lo,I d.Hi]] (Nat.le_trans aN i.sz) (i.zz (F':=f) (M:=[c]) (C:=[]) [2] [] ⟨rfl,trivial⟩ trivial (fun _ h=>.inl h)) HL aJ ⟨_,rfl,⟨_,rfl,rfl⟩⟩ aT) (eR st) (Ct (eR st))) ?_;rintro _ a0 ⟨q,z,r,rfl,aU⟩;have aA:=i.DF z (AI [2] ⟨rfl,trivial⟩ (fun _ h=>h)) 2 rfl r;have aL:o aK.2 a0 (ZZ f aG Z w.heap.size [some b1,some a,q]) q:=e.mz aU (i.call (M:=[q]) (Nat.le_refl _) (B3 ⟨.inr (hw r 2),trivial⟩) (Cp (L:=[some b1,some a,c]) (y:=q) 2 (gm 0)));refine wD (fun st=>Cv (eR st))<|wA (v:=.bool !aK.1) rfl<|wn<|Am ?_;obtain rfl:=oi n;refine Ar rfl rfl ?_;have u:=(m.B5 z (i.Cc 1 rfl [2] rfl ⟨rfl,trivial⟩ (fun _ h=>h)));exact⟨q,aH _ aA.fin,rfl,u,aA.mq 2 [1] (M:=[some a]) ⟨rfl,trivial⟩ aR,e.mz aL (AD (AX [1,2] ⟨rfl,rfl,trivial⟩))⟩
theorem a159{aX:Type}{e:Nat→Prop}{bG:Nat}{aG:IT aX}{aQ:aX→AH→Option (Bool×aX)} bH s(a4:aX) m n(aI:Value) aB(Z:Nat→Prop) w(p:Cb Tryz.prog aI e bG aG (v1 (Dp Ay)) Bn aQ)(bI:bG≤w.heap.size)(bJ:Bp e [aB] w)(bK:∀b,Z b→¬e b∧some b∉[aB])(aY:Sl Ay w Z m n s)(bZ:aG a4 w Z aB) a5(a:G7 bH aQ s a4=some a5):
 BG Tryz.prog 159 #[.slice m s.length n,aI] w (fun v w'=>∃o',Br (FU e [aB]) w w'∧(DD .i64).R w' (zf Z w [o']) v a5.1∧(∀k,o'=some k→(aB=some k∨w.heap.size≤k)∧k<w'.heap.size)∧aG a5.2 w' (zf Z w [o']) o'):=by
 unfold G7 at a;refine rq (N:=19) Tryz.func159 fun b6 a9 b7=>?_;have aR:=sA 0 a9;have bA:=sA 1 a9;clear a9;obtain⟨aC,aZ,bL,a0,aS⟩:=Ht bJ bK;have aN:=aY.mv (AM (L:=[aB]) a0 w);have bB:=p.mz bZ (AM (L:=[aB]) a0 w);refine cr<|wA (v:=I 0) rfl<|wn<|Ag<|cr<|wM (v:=.slice m s.length n) aR<|wD (fun st=>Bm Tryz.underlying35 (eR st))<|wM (v:=I 0) rfl<|wn<|AL ?_;replace a:=bind_some a;obtain⟨bC,t,a⟩:=a;refine B2 (fun bD f aD=>(bD=.ret∧∃o,bC=.inl o∧∃g,Fo X0 19 f∧sl f 4=I o.1∧Hp e aC w [g] aD∧aG o.2 aD (ZZ e aC Z w.heap.size [g]) g)∨(bD=.exit 0∧∃o,bC=.inr o∧∃i,Fo X0 19 f∧Hp e aC w [i] aD∧aG o aD (ZZ e aC Z w.heap.size [i]) i)) ?bM ?bN
 case bM=>
  clear a;refine BY (fun bE f aD=>∃d,∃j,∃c,D6 aQ s bE d j=some bC∧Fo X0 19 f∧sl f 0=.slice m s.length n∧sl f 1=aI∧sl f 7=I (s.length:Int)∧sl f 8=I d∧Hp e aC w [c] aD∧(fun bO=>aG j aD bO c∧Sl Ay aD bO m n s) (ZZ e aC Z w.heap.size [c])) bH ?bP ?bQ
  case bP=>
   intro st;exact⟨(0:Int),a4,aB,t,qo st,sp st 0 aR,sp st 1 bA,sp st 7 rfl,sp st 8 rfl,bL,bB,aN⟩
  case bQ=>
   rintro(_|bE) b8 b9 ⟨d,j,c,t,bF,aJ,aK,aL,x,u,aM,q⟩
   ·exact absurd (show none=some _ from t) (by simp)
   rw[D6.eq_2] at t;have a:=t;clear t;refine ro bF<|cr<|wD (fun st=>Cs (ee st x) (ee st aL))<|wn<|Ag ?_;rcases Af (decide (d<(s.length:Int))) with aE|aE
   ·replace a:=Aw a aE;refine Ak rfl aE<|cn<|Ag<|AL<|cr<|wM (v:=I d) x<|wA (v:=I d) rfl<|wr<|wM (v:=aI) aK<|wM (v:=.slice m s.length n) aJ<|wM (v:=I d) rfl ?_;replace a:=Bg a;obtain⟨i3,aT,bR,bS,bT,a⟩:=a;obtain⟨b3,cB,_,bU,rfl,bV⟩:=Sl.elem q (by decide) bS;refine wD (fun st=>BU (k:=i3) Tryz.underlying35 Ji (eR st) bU (eR st) bR bT)<|wD (fun st=>Ch (l:=[I aT.Lo,I aT.Hi]) HP (eR st) bV rfl rfl) ?_;replace a:=bind_some a;obtain⟨aU,bW,a⟩:=a;refine wE (fun st=>EL (p.call j aT aU _ (ZZ e aC Z w.heap.size [c]) (ZC e [c]) c #[.agg #[I aT.Lo,I aT.Hi]] (Nat.le_trans bI u.sz) (u.zz (F':=e) (M:=[c]) (C:=[]) [0] [] ⟨rfl,trivial⟩ trivial (fun _ h=>.inl h)) HL aM ⟨_,rfl,⟨_,rfl,rfl⟩⟩ bW) (eR st) (Ct (eR st))) ?_;rintro _ b4 ⟨aO,a2,aH,rfl,bX⟩;have a3:=u.DF a2 (AI [0] ⟨rfl,trivial⟩ (fun _ h=>h)) 0 rfl aH;have aV:aG aU.2 b4 (ZZ e aC Z w.heap.size [aO]) aO:=p.mz bX (u.call (M:=[aO]) (Nat.le_refl _) (B3 ⟨.inr (hw aH 0),trivial⟩) (Cp (L:=[c]) (y:=aO) 0 (gm 0)));refine wn ?_;rcases Af (aU.1) with aF|aF
    ·replace a:=Aw a aF;refine Ak rfl aF<|cr<|wM (v:=I d) rfl<|wA (v:=I d) rfl<|wn<|Am<|C5<|AN ?_;obtain rfl:=oi a;refine BH (fun st=>?_);exact .inl ⟨rfl,(d,aU.2),rfl,aO,qo st,sp st 4 rfl,a3,aV⟩
    ·replace a:=Ax a aF;refine Au rfl aF<|Cw<|De<|Aj ?_;replace a:=AK a;obtain⟨bY,a⟩:=a;refine wD (fun st=>BF (ee st x) (eR st) bY)<|wM (v:=I (d+1)) rfl<|AZ ?_;have aP:=(q.mv (u.FP a2 (AI [0] ⟨rfl,trivial⟩ (fun _ h=>h)) 0 rfl (fun k hk=>(aH k hk).1)));refine By bE (Nat.lt_succ_self _) (fun st=>?_);exact⟨(d+1),aU.2,aO,a,qo st,sp st 0 aJ,sp st 1 aK,sp st 7 aL,sp st 8 rfl,a3,aV,aP⟩
   ·replace a:=Ax a aE;refine Au rfl aE<|D3 ?_;obtain rfl:=oi a;refine BH (fun st=>?_);exact .inr ⟨rfl,j,rfl,c,qo st,u,aM⟩
 case bN=>
  rintro bD b5 cA (⟨rfl,o,rfl,g,z,aW,r,aA⟩|⟨rfl,o,rfl,i,z,r,aA⟩)
  ·skip
   replace a:=C7 a;refine lf z<|C5 ?_;obtain rfl:=oi a;refine Ar rfl aW ?_;exact⟨g,aS _ r.fin,rfl,r.mq 0 [] (M:=[]) trivial aZ,p.mz aA (AD (AX [0] ⟨rfl,trivial⟩))⟩
  ·skip
   replace a:=C8 a;refine lf z<|Bc<|BI<|cr<|wA (v:=I (-1)) rfl<|wn<|Am ?_;obtain rfl:=oi a;refine Ar rfl rfl ?_;exact⟨i,aS _ r.fin,rfl,r.mq 0 [] (M:=[]) trivial aZ,p.mz aA (AD (AX [0] ⟨rfl,trivial⟩))⟩
theorem a131{p:Type}{f:Nat→Prop}{aH:Nat}{q:IT p}{s:p→AH→Option (Bool×p)} aI m(x:p) c d(i:Value) a(Z:Nat→Prop) w(e:Cb Tryz.prog i f aH q (v1 (Dp Ay)) Bn s)(aJ:aH≤w.heap.size)(aK:Bp f [a] w)(aL:∀b,Z b→¬f b∧some b∉[a])(r:Sl Ay w Z c d m)(aR:q x w Z a) z(j:Gt aI s m x=some z):
 BG Tryz.prog 131 #[.slice c m.length d,i] w (fun v w'=>∃o',Br (FU f [a]) w w'∧Bn.R w' (zf Z w [o']) v z.1∧(∀k,o'=some k→(a=some k∨w.heap.size≤k)∧k<w'.heap.size)∧q z.2 w' (zf Z w [o']) o'):=by
 unfold Gt at j;refine rq (N:=9) Tryz.func131 fun aS aA aT=>?_;have aB:=sA 0 aA;have aC:=sA 1 aA;clear aA;obtain⟨aM,aN,g,t,aD⟩:=Ht aK aL;have l:=r.mv (AM (L:=[a]) t w);have aE:=e.mz aR (AM (L:=[a]) t w);refine cr<|wA (v:=.bool false) rfl<|wr<|wM (v:=.slice c m.length d) aB<|wM (v:=i) aC ?_;replace j:=bind_some j;obtain⟨aF,aO,j⟩:=j;refine wE (fun st=>Az UI (eR st) (CP (eR st) (eR st)) (a159 aI m x c d i a (ZZ f aM Z w.heap.size [a]) _ e (Nat.le_trans aJ g.sz) (g.Cz (F':=f) (M:=[a]) (C:=[]) [0] [] rfl ⟨rfl,trivial⟩ trivial (fun _ h=>.inl h)) (g.zz (F':=f) (M:=[a]) (C:=[]) [0] [] ⟨rfl,trivial⟩ trivial (fun _ h=>.inl h)) l aE aF aO)) ?_;rintro _ w2 ⟨n,aP,rfl,o,aQ⟩;have u:=g.DF aP (AI [0] ⟨rfl,trivial⟩ (fun _ h=>h)) 0 rfl o;have aG:q aF.2 w2 (ZZ f aM Z w.heap.size [n]) n:=e.mz aQ (g.call (M:=[n]) (Nat.le_refl _) (B3 ⟨.inr (hw o 0),trivial⟩) (Cp (L:=[a]) (y:=n) 0 (gm 0)));refine wD (fun st=>Ip (eR st) (eR st))<|wA (v:=.bool (decide ((0:Int)≤aF.1))) rfl<|wn<|Am ?_;obtain rfl:=oi j;refine Ar rfl rfl ?_;exact⟨n,aD _ u.fin,rfl,u.mq 0 [] (M:=[]) trivial aN,e.mz aG (AD (AX [0] ⟨rfl,trivial⟩))⟩
theorem YB{s:Type}{e:Nat→Prop}{a9:Nat}{t:IT s}{aB:s→AH→Option (Bool×s)} aG aC(aH:s) j l(g:Value) c(Z:Nat→Prop) w(a:Cb Tryz.prog g e a9 t (v1 (Dp Ay)) Bn aB)(bA:a9≤w.heap.size)(bB:Bp e [c] w)(bC:∀b,Z b→¬e b∧some b∉[c])(aI:Sl Ay w Z j l aC)(n:t aH w Z c) aN(u:HU aG aB aC aH=some aN):
 BG Tryz.prog 104 #[.slice j aC.length l,g] w (fun v w'=>∃o',Br (FU e [c]) w w'∧Bn.R w' (zf Z w [o']) v aN.1∧(∀k,o'=some k→(c=some k∨w.heap.size≤k)∧k<w'.heap.size)∧t aN.2 w' (zf Z w [o']) o'):=by
 unfold HU at u;refine rq (N:=9) Tryz.func104 fun bP aO bQ=>?_;have aP:=sA 0 aO;have aQ:=sA 1 aO;clear aO;obtain⟨aR,bD,aD,aJ,aS⟩:=Ht bB bC;have z:=aI.mv (AM (L:=[c]) aJ w);have aT:=a.mz n (AM (L:=[c]) aJ w);refine cr<|wE (fun st=>BB (v:=g) (cs:= #[g]) (ee st aQ) a.fc) ?_;rintro _ w1 ⟨b1,rfl,i⟩;have d:=aD.nb i;have bL:=aD.BD i;refine wA (v:=.bool false) rfl<|wr<|wM (v:=.slice j aC.length l) aP<|wD (fun st=>CO (vs:= #[]) (us:= #[pt b1 0]) Hr (Ct (eR st))) ?_;have aK:=d.Cz (F':=e) (M:=[some b1]) (C:=[]) [0] [] rfl ⟨rfl,trivial⟩ trivial (fun k hk=>.inl ((fun _ h=>h) k hk));have aU:Cb Tryz.prog (.func (.func 132) #[] #[pt b1 0]) (FU e [some b1]) w1.heap.size (fun(st:s) aV bM o=>(∀k,o=some k→k<aV.heap.size∧¬(FU e [some b1]) k)∧Bk aV b1 161 #[g]∧t st aV bM o) (v1 (Dp Ay)) Bn (fun(st:s) (x:AH)=>(Gs aG aB x st).bind fun r=>some (r.1,r.2)):=by
  refine⟨rfl,rfl,d.Iz [0] ⟨rfl,trivial⟩ (fun _ h=>h),?_,?_,?_⟩
  ·intro st x r w1 aW bE o vs hn aX p n aY hc;obtain⟨f,m,q⟩:=n;obtain⟨_,rfl,⟨_,rfl,rfl⟩⟩:=aY;obtain⟨bN,h1,h2⟩:=bind_some hc;obtain rfl:=Option.some.inj h2;refine(Ew UJ rfl (YA aG x st b1 g o aW bE w1 a (Nat.le_trans bA (Nat.le_trans d.sz hn)) ((aK.grow hn).snoc f) (fun b hb=>Dc (p b (aX b hb)).1 (p b (aX b hb)).2) aX (fun b hb=>Dc (p b hb).1 (p b hb).2) m q bN h1)).mono ?_;rintro v w2 ⟨o',aY,aZ,a0,aL,bF⟩;exact⟨o',aY.lf,aL,aZ,⟨aK.keep hn f aL,a0,a.mz bF IK⟩⟩
  ·intro st w1 w2 aW bR o n hm hb;obtain⟨f,m,q⟩:=n;exact⟨fun k hk=>⟨Nat.lt_of_lt_of_le (f k hk).1 hm.size,(f k hk).2⟩,m.HK (hb b1 (.inl (.inr (gm 0)))),a.JJ _ _ _ _ _ _ q hm (fun b bG=>hb b (bG.imp .inl id))⟩
  ·intro st w1 aW o n k hk;obtain⟨f,m,q⟩:=n;exact f k hk
 have aA:=(z.mv (Aq i));replace u:=bind_some u;obtain⟨a2,bH,u⟩:=u;have a3:t aH w1 (ZZ e aR Z w.heap.size [some b1,c]) c:=(a.me aT aD i.gr (Aq i));refine wE (fun st=>Az UK (eR st) (CP (eR st) (eR st)) (a131 aG aC aH j l (.func (.func 132) #[] #[pt b1 0]) c (ZZ e aR Z w.heap.size [some b1,c]) _ aU (Nat.le_refl _) (d.Cz (F':=(FU e [some b1])) (M:=[c]) (C:=[some b1]) [1] [0] rfl ⟨rfl,trivial⟩ ⟨rfl,trivial⟩ (Co (fun _ h=>h))) (d.zz (F':=(FU e [some b1])) (M:=[c]) (C:=[some b1]) [1] [0] ⟨rfl,trivial⟩ ⟨rfl,trivial⟩ (Co (fun _ h=>h))) aA ⟨(fun k hk=>d.La 1 (by rw[←hk];rfl) [0] rfl ⟨rfl,trivial⟩),i.bk,a3⟩ a2 bH)) ?_;rintro _ bO ⟨aE,bI,rfl,aF,bJ⟩;obtain⟨-,bK,a4⟩:=bJ;have aM:=d.DF (Br.cl (M1:=[some b1]) (M2:=[c]) bI) (AI [0,1] ⟨rfl,rfl,trivial⟩ (fun _ h=>h)) 1 rfl aF;have a5:t a2.2 bO (ZZ e aR Z w.heap.size [some b1,aE]) aE:=a.mz a4 (d.call (M:=[aE]) (Nat.le_refl _) (B3 ⟨.inr (hw aF 1),trivial⟩) (Cp (L:=[some b1,c]) (y:=aE) 1 (gm 0)));refine wD (fun st=>Cv (eR st))<|wA (v:=.bool !a2.1) rfl<|wn<|Am ?_;obtain rfl:=oi u;refine Ar rfl rfl ?_;exact⟨aE,aS _ aM.fin,rfl,aM.mq 1 [] (M:=[]) trivial bD,a.mz a5 (AD (AX [1] ⟨rfl,trivial⟩))⟩
theorem YC{q:Type}{d:Nat→Prop}{aM:Nat}{r:IT q}{u:q→(List Int)→Option (Bool×q)} aV l(aB:q) f g a(j:Value) c(Z Za:Nat→Prop) w(i:Cb Tryz.prog j d aM r (v1 (HD (Ao .i64))) Bn u)(aN:aM≤w.heap.size)(aO:Bp d [some a,c] w)(aP:∀b,Z b→¬d b∧some b∉[some a,c])(aW:∀b,Z b→Za b)(aC:∀b,Za b→¬d b∧some b∉[some a,c])(s:Sl (Ao .i64) w Za f g l)(x:Bk w a 92 #[j])(aX:r aB w Z c) aD(m:GU aV u l aB=some aD):
 BG Tryz.prog 134 #[.slice f l.length g,pt a 0] w (fun v w'=>∃o',Br (FU d [some a,c]) w w'∧Bn.R w' (zf Z w [some a,o']) v aD.1∧Bk w' a 92 #[j]∧(∀k,o'=some k→(c=some k∨w.heap.size≤k)∧k<w'.heap.size)∧r aD.2 w' (zf Z w [some a,o']) o'):=by
 unfold GU at m;refine rq (N:=8) Tryz.func134 fun aY aE aZ=>?_;have aF:=sA 0 aE;have aG:=sA 1 aE;clear aE;obtain⟨aQ,aR,e,aS,aH,aI⟩:=I0 aO aP aC;have n:=s.mv (AM (L:=[some a,c]) aH w);have aJ:=i.mz aX (AM (L:=[some a,c]) aS w);refine cr<|wA (v:=.bool false) rfl<|wr<|wD (fun st=>Ah (v:=j) OT (ee st aG) x rfl)<|wM (v:=.slice f l.length g) aF ?_;replace m:=bind_some m;obtain⟨aK,aT,m⟩:=m;refine wE (fun st=>EL (i.call aB l aK _ (ZZ d aQ Z w.heap.size [some a,c]) (ZC d [c]) c #[.slice f l.length g] (Nat.le_trans aN e.sz) (e.zz (F':=d) (M:=[c]) (C:=[]) [1] [] ⟨rfl,trivial⟩ trivial (fun _ h=>.inl h)) HL aJ ⟨_,rfl,⟨_,_,rfl,(n.mv (e.mz (F':=d) (M:=[c]) (C:=[]) [1] [] ⟨rfl,trivial⟩ trivial (fun _ h=>.inl h)))⟩⟩ aT) (eR st) (Ct (eR st))) ?_;rintro _ w2 ⟨o,z,p,rfl,aU⟩;have aA:=e.DF z (AI [1] ⟨rfl,trivial⟩ (fun _ h=>h)) 1 rfl p;have aL:r aK.2 w2 (ZZ d aQ Z w.heap.size [some a,o]) o:=i.mz aU (e.call (M:=[o]) (Nat.le_refl _) (B3 ⟨.inr (hw p 1),trivial⟩) (Cp (L:=[some a,c]) (y:=o) 1 (gm 0)));refine wD (fun st=>Cv (eR st))<|wA (v:=.bool !aK.1) rfl<|wn<|Am ?_;obtain rfl:=oi m;refine Ar rfl rfl ?_;have t:=(x.B5 z (e.Cc 0 rfl [1] rfl ⟨rfl,trivial⟩ (fun _ h=>h)));exact⟨o,aI _ aA.fin,rfl,t,aA.mq 1 [0] (M:=[some a]) ⟨rfl,trivial⟩ aR,i.mz aL (AD (AX [0,1] ⟨rfl,rfl,trivial⟩))⟩
theorem a160{aX:Type}{e:Nat→Prop}{bI:Nat}{aF:IT aX}{aP:aX→(List Int)→Option (Bool×aX)} bJ s(a5:aX) l m(aH:Value) aA(Z:Nat→Prop) w(o:Cb Tryz.prog aH e bI aF (v1 (HD (Ao .i64))) Bn aP)(bK:bI≤w.heap.size)(bL:Bp e [aA] w)(bM:∀b,Z b→¬e b∧some b∉[aA])(aY:Sl (BJ (Ao .i64)) w Z l m s)(b5:aF a5 w Z aA) a9(a:Hl bJ aP s a5=some a9):
 BG Tryz.prog 160 #[.slice l s.length m,aH] w (fun v w'=>∃o',Br (FU e [aA]) w w'∧(DD .i64).R w' (zf Z w [o']) v a9.1∧(∀k,o'=some k→(aA=some k∨w.heap.size≤k)∧k<w'.heap.size)∧aF a9.2 w' (zf Z w [o']) o'):=by
 unfold Hl at a;refine rq (N:=19) Tryz.func160 fun b8 bA b9=>?_;have aQ:=sA 0 bA;have bB:=sA 1 bA;clear bA;obtain⟨aB,a0,bN,a2,aR⟩:=Ht bL bM;have aM:=aY.mv (AM (L:=[aA]) a2 w);have bC:=o.mz b5 (AM (L:=[aA]) a2 w);refine cr<|wA (v:=I 0) rfl<|wn<|Ag<|cr<|wM (v:=.slice l s.length m) aQ<|wD (fun st=>Bm Tryz.underlying23 (eR st))<|wM (v:=I 0) rfl<|wn<|AL ?_;replace a:=bind_some a;obtain⟨bD,t,a⟩:=a;refine B2 (fun bE f aC=>(bE=.ret∧∃n,bD=.inl n∧∃g,Fo X0 19 f∧sl f 4=I n.1∧Hp e aB w [g] aC∧aF n.2 aC (ZZ e aB Z w.heap.size [g]) g)∨(bE=.exit 0∧∃n,bD=.inr n∧∃i,Fo X0 19 f∧Hp e aB w [i] aC∧aF n aC (ZZ e aB Z w.heap.size [i]) i)) ?bO ?bP
 case bO=>
  clear a;refine BY (fun bF f aC=>∃d,∃j,∃c,En aP s bF d j=some bD∧Fo X0 19 f∧sl f 0=.slice l s.length m∧sl f 1=aH∧sl f 7=I (s.length:Int)∧sl f 8=I d∧Hp e aB w [c] aC∧(fun bQ=>aF j aC bQ c∧Sl (BJ (Ao .i64)) aC bQ l m s) (ZZ e aB Z w.heap.size [c])) bJ ?bR ?bS
  case bR=>
   intro st;exact⟨(0:Int),a5,aA,t,qo st,sp st 0 aQ,sp st 1 bB,sp st 7 rfl,sp st 8 rfl,bN,bC,aM⟩
  case bS=>
   rintro(_|bF) cA cB ⟨d,j,c,t,bG,aI,aJ,aK,u,p,aL,q⟩
   ·exact absurd (show none=some _ from t) (by simp)
   rw[En.eq_2] at t;have a:=t;clear t;refine ro bG<|cr<|wD (fun st=>Cs (ee st u) (ee st aK))<|wn<|Ag ?_;rcases Af (decide (d<(s.length:Int))) with aD|aD
   ·replace a:=Aw a aD;refine Ak rfl aD<|cn<|Ag<|AL<|cr<|wM (v:=I d) u<|wA (v:=I d) rfl<|wr<|wM (v:=aH) aJ<|wM (v:=.slice l s.length m) aI<|wM (v:=I d) rfl ?_;replace a:=Bg a;obtain⟨i3,bH,bT,bU,bV,a⟩:=a;obtain⟨b3,cD,_,bW,⟨aS,aT,rfl,aZ⟩,bX⟩:=Sl.CZ q rfl bU;refine wD (fun st=>Bx (k:=i3) Tryz.underlying23 F2 (eR st) bW (eR st) bT bV)<|wD (fun st=>BN (v:=.slice aS bH.length aT) Dj (eR st) bX rfl) ?_;replace a:=bind_some a;obtain⟨aU,bY,a⟩:=a;refine wE (fun st=>EL (o.call j bH aU _ (ZZ e aB Z w.heap.size [c]) (ZC e [c]) c #[.slice aS bH.length aT] (Nat.le_trans bK p.sz) (p.zz (F':=e) (M:=[c]) (C:=[]) [0] [] ⟨rfl,trivial⟩ trivial (fun _ h=>.inl h)) HL aL ⟨_,rfl,⟨_,_,rfl,(aZ.mv (p.mz (F':=e) (M:=[c]) (C:=[]) [0] [] ⟨rfl,trivial⟩ trivial (fun _ h=>.inl h)))⟩⟩ bY) (eR st) (Ct (eR st))) ?_;rintro _ b6 ⟨aN,a3,aG,rfl,bZ⟩;have a4:=p.DF a3 (AI [0] ⟨rfl,trivial⟩ (fun _ h=>h)) 0 rfl aG;have aV:aF aU.2 b6 (ZZ e aB Z w.heap.size [aN]) aN:=o.mz bZ (p.call (M:=[aN]) (Nat.le_refl _) (B3 ⟨.inr (hw aG 0),trivial⟩) (Cp (L:=[c]) (y:=aN) 0 (gm 0)));refine wn ?_;rcases Af (aU.1) with aE|aE
    ·replace a:=Aw a aE;refine Ak rfl aE<|cr<|wM (v:=I d) rfl<|wA (v:=I d) rfl<|wn<|Am<|C5<|AN ?_;obtain rfl:=oi a;refine BH (fun st=>?_);exact .inl ⟨rfl,(d,aU.2),rfl,aN,qo st,sp st 4 rfl,a4,aV⟩
    ·replace a:=Ax a aE;refine Au rfl aE<|Cw<|De<|Aj ?_;replace a:=AK a;obtain⟨b4,a⟩:=a;refine wD (fun st=>BF (ee st u) (eR st) b4)<|wM (v:=I (d+1)) rfl<|AZ ?_;have aO:=(q.mv (p.FP a3 (AI [0] ⟨rfl,trivial⟩ (fun _ h=>h)) 0 rfl (fun k hk=>(aG k hk).1)));refine By bF (Nat.lt_succ_self _) (fun st=>?_);exact⟨(d+1),aU.2,aN,a,qo st,sp st 0 aI,sp st 1 aJ,sp st 7 aK,sp st 8 rfl,a4,aV,aO⟩
   ·replace a:=Ax a aD;refine Au rfl aD<|D3 ?_;obtain rfl:=oi a;refine BH (fun st=>?_);exact .inr ⟨rfl,j,rfl,c,qo st,p,aL⟩
 case bP=>
  rintro bE b7 cC (⟨rfl,n,rfl,g,x,aW,r,z⟩|⟨rfl,n,rfl,i,x,r,z⟩)
  ·skip
   replace a:=C7 a;refine lf x<|C5 ?_;obtain rfl:=oi a;refine Ar rfl aW ?_;exact⟨g,aR _ r.fin,rfl,r.mq 0 [] (M:=[]) trivial a0,o.mz z (AD (AX [0] ⟨rfl,trivial⟩))⟩
  ·skip
   replace a:=C8 a;refine lf x<|Bc<|BI<|cr<|wA (v:=I (-1)) rfl<|wn<|Am ?_;obtain rfl:=oi a;refine Ar rfl rfl ?_;exact⟨i,aR _ r.fin,rfl,r.mq 0 [] (M:=[]) trivial a0,o.mz z (AD (AX [0] ⟨rfl,trivial⟩))⟩
theorem YD{p:Type}{f:Nat→Prop}{aH:Nat}{q:IT p}{s:p→(List Int)→Option (Bool×p)} aI m(x:p) c d(i:Value) a(Z:Nat→Prop) w(e:Cb Tryz.prog i f aH q (v1 (HD (Ao .i64))) Bn s)(aJ:aH≤w.heap.size)(aK:Bp f [a] w)(aL:∀b,Z b→¬f b∧some b∉[a])(r:Sl (BJ (Ao .i64)) w Z c d m)(aR:q x w Z a) z(j:GP aI s m x=some z):
 BG Tryz.prog 133 #[.slice c m.length d,i] w (fun v w'=>∃o',Br (FU f [a]) w w'∧Bn.R w' (zf Z w [o']) v z.1∧(∀k,o'=some k→(a=some k∨w.heap.size≤k)∧k<w'.heap.size)∧q z.2 w' (zf Z w [o']) o'):=by
 unfold GP at j;refine rq (N:=9) Tryz.func133 fun aS aA aT=>?_;have aB:=sA 0 aA;have aC:=sA 1 aA;clear aA;obtain⟨aM,aN,g,t,aD⟩:=Ht aK aL;have l:=r.mv (AM (L:=[a]) t w);have aE:=e.mz aR (AM (L:=[a]) t w);refine cr<|wA (v:=.bool false) rfl<|wr<|wM (v:=.slice c m.length d) aB<|wM (v:=i) aC ?_;replace j:=bind_some j;obtain⟨aF,aO,j⟩:=j;refine wE (fun st=>Az UL (eR st) (CP (eR st) (eR st)) (a160 aI m x c d i a (ZZ f aM Z w.heap.size [a]) _ e (Nat.le_trans aJ g.sz) (g.Cz (F':=f) (M:=[a]) (C:=[]) [0] [] rfl ⟨rfl,trivial⟩ trivial (fun _ h=>.inl h)) (g.zz (F':=f) (M:=[a]) (C:=[]) [0] [] ⟨rfl,trivial⟩ trivial (fun _ h=>.inl h)) l aE aF aO)) ?_;rintro _ w2 ⟨n,aP,rfl,o,aQ⟩;have u:=g.DF aP (AI [0] ⟨rfl,trivial⟩ (fun _ h=>h)) 0 rfl o;have aG:q aF.2 w2 (ZZ f aM Z w.heap.size [n]) n:=e.mz aQ (g.call (M:=[n]) (Nat.le_refl _) (B3 ⟨.inr (hw o 0),trivial⟩) (Cp (L:=[a]) (y:=n) 0 (gm 0)));refine wD (fun st=>Ip (eR st) (eR st))<|wA (v:=.bool (decide ((0:Int)≤aF.1))) rfl<|wn<|Am ?_;obtain rfl:=oi j;refine Ar rfl rfl ?_;exact⟨n,aD _ u.fin,rfl,u.mq 0 [] (M:=[]) trivial aN,e.mz aG (AD (AX [0] ⟨rfl,trivial⟩))⟩
theorem YE{s:Type}{e:Nat→Prop}{bC:Nat}{t:IT s}{aB:s→(List Int)→Option (Bool×s)} aG aC(aH:s) j l(g:Value) c(Z:Nat→Prop) w(a:Cb Tryz.prog g e bC t (v1 (HD (Ao .i64))) Bn aB)(bD:bC≤w.heap.size)(bE:Bp e [c] w)(bF:∀b,Z b→¬e b∧some b∉[c])(aI:Sl (BJ (Ao .i64)) w Z j l aC)(n:t aH w Z c) aO(u:Ie aG aB aC aH=some aO):
 BG Tryz.prog 106 #[.slice j aC.length l,g] w (fun v w'=>∃o',Br (FU e [c]) w w'∧Bn.R w' (zf Z w [o']) v aO.1∧(∀k,o'=some k→(c=some k∨w.heap.size≤k)∧k<w'.heap.size)∧t aO.2 w' (zf Z w [o']) o'):=by
 unfold Ie at u;refine rq (N:=9) Tryz.func106 fun bS aP bT=>?_;have aQ:=sA 0 aP;have aR:=sA 1 aP;clear aP;obtain⟨aS,bG,aD,aK,aT⟩:=Ht bE bF;have z:=aI.mv (AM (L:=[c]) aK w);have aU:=a.mz n (AM (L:=[c]) aK w);refine cr<|wE (fun st=>BB (v:=g) (cs:= #[g]) (ee st aR) a.fc) ?_;rintro _ w1 ⟨b1,rfl,i⟩;have d:=aD.nb i;have bO:=aD.BD i;refine wA (v:=.bool false) rfl<|wr<|wM (v:=.slice j aC.length l) aQ<|wD (fun st=>CO (vs:= #[]) (us:= #[pt b1 0]) Hr (Ct (eR st))) ?_;have aL:=d.Cz (F':=e) (M:=[some b1]) (C:=[]) [0] [] rfl ⟨rfl,trivial⟩ trivial (fun k hk=>.inl ((fun _ h=>h) k hk));have aV:Cb Tryz.prog (.func (.func 134) #[] #[pt b1 0]) (FU e [some b1]) w1.heap.size (fun(st:s) aW bP o=>(∀k,o=some k→k<aW.heap.size∧¬(FU e [some b1]) k)∧Bk aW b1 92 #[g]∧t st aW bP o) (v1 (HD (Ao .i64))) Bn (fun(st:s) (x:(List Int))=>(GU aG aB x st).bind fun r=>some (r.1,r.2)):=by
  refine⟨rfl,rfl,d.Iz [0] ⟨rfl,trivial⟩ (fun _ h=>h),?_,?_,?_⟩
  ·intro st x r w1 aX bH o vs hn aY p n aZ hc;obtain⟨f,m,q⟩:=n;obtain⟨_,rfl,⟨a0,a2,rfl,aJ⟩⟩:=aZ;obtain⟨bQ,h1,h2⟩:=bind_some hc;obtain rfl:=Option.some.inj h2;refine(Ew UM rfl (YC aG x st a0 a2 b1 g o aX bH w1 a (Nat.le_trans bD (Nat.le_trans d.sz hn)) ((aL.grow hn).snoc f) (fun b hb=>Dc (p b (aY b hb)).1 (p b (aY b hb)).2) aY (fun b hb=>Dc (p b hb).1 (p b hb).2) aJ m q bQ h1)).mono ?_;rintro v w2 ⟨o',aZ,a3,a4,aM,bI⟩;exact⟨o',aZ.lf,aM,a3,⟨aL.keep hn f aM,a4,a.mz bI IK⟩⟩
  ·intro st w1 w2 aX bU o n hm hb;obtain⟨f,m,q⟩:=n;exact⟨fun k hk=>⟨Nat.lt_of_lt_of_le (f k hk).1 hm.size,(f k hk).2⟩,m.HK (hb b1 (.inl (.inr (gm 0)))),a.JJ _ _ _ _ _ _ q hm (fun b bJ=>hb b (bJ.imp .inl id))⟩
  ·intro st w1 aX o n k hk;obtain⟨f,m,q⟩:=n;exact f k hk
 have aA:=(z.mv (Aq i));replace u:=bind_some u;obtain⟨a5,bK,u⟩:=u;have a9:t aH w1 (ZZ e aS Z w.heap.size [some b1,c]) c:=(a.me aU aD i.gr (Aq i));refine wE (fun st=>Az UN (eR st) (CP (eR st) (eR st)) (YD aG aC aH j l (.func (.func 134) #[] #[pt b1 0]) c (ZZ e aS Z w.heap.size [some b1,c]) _ aV (Nat.le_refl _) (d.Cz (F':=(FU e [some b1])) (M:=[c]) (C:=[some b1]) [1] [0] rfl ⟨rfl,trivial⟩ ⟨rfl,trivial⟩ (Co (fun _ h=>h))) (d.zz (F':=(FU e [some b1])) (M:=[c]) (C:=[some b1]) [1] [0] ⟨rfl,trivial⟩ ⟨rfl,trivial⟩ (Co (fun _ h=>h))) aA ⟨(fun k hk=>d.La 1 (by rw[←hk];rfl) [0] rfl ⟨rfl,trivial⟩),i.bk,a9⟩ a5 bK)) ?_;rintro _ bR ⟨aE,bL,rfl,aF,bM⟩;obtain⟨-,bN,bA⟩:=bM;have aN:=d.DF (Br.cl (M1:=[some b1]) (M2:=[c]) bL) (AI [0,1] ⟨rfl,rfl,trivial⟩ (fun _ h=>h)) 1 rfl aF;have bB:t a5.2 bR (ZZ e aS Z w.heap.size [some b1,aE]) aE:=a.mz bA (d.call (M:=[aE]) (Nat.le_refl _) (B3 ⟨.inr (hw aF 1),trivial⟩) (Cp (L:=[some b1,c]) (y:=aE) 1 (gm 0)));refine wD (fun st=>Cv (eR st))<|wA (v:=.bool !a5.1) rfl<|wn<|Am ?_;obtain rfl:=oi u;refine Ar rfl rfl ?_;exact⟨aE,aT _ aN.fin,rfl,aN.mq 1 [] (M:=[]) trivial bG,a.mz bB (AD (AX [1] ⟨rfl,trivial⟩))⟩
theorem YF{s:Type}{f:Nat→Prop}{aM:Nat}{o:IT s}{x:s→Bq→Option (Bool×s)} aW a(t:s) c(j:Value) d(Z Za:Nat→Prop) w(e:Cb Tryz.prog j f aM o (v1 (Dp AG)) Bn x)(aN:aM≤w.heap.size)(aO:Bp f [some c,d] w)(aP:∀b,Z b→¬f b∧some b∉[some c,d])(aX:∀b,Z b→Za b)(aB:∀b,Za b→¬f b∧some b∉[some c,d])(aQ:Bk w c 159 #[j])(aY:o t w Z d) aC(n:Gu aW x a t=some aC):
 BG Tryz.prog 136 #[.agg #[.bool a.BQ,I a.Number,I a.AO,I a.AP],pt c 0] w (fun v w'=>∃o',Br (FU f [some c,d]) w w'∧Bn.R w' (zf Z w [some c,o']) v aC.1∧Bk w' c 159 #[j]∧(∀k,o'=some k→(d=some k∨w.heap.size≤k)∧k<w'.heap.size)∧o aC.2 w' (zf Z w [some c,o']) o'):=by
 unfold Gu at n;refine rq (N:=8) Tryz.func136 fun a2 aD a3=>?_;have aE:=sA 0 aD;have aF:=sA 1 aD;clear aD;obtain⟨aG,aR,p,aS,aZ,aH⟩:=I0 aO aP aB;have aI:=e.mz aY (AM (L:=[some c,d]) aS w);refine cr<|wE (fun st=>BB (v:=.agg #[.bool a.BQ,I a.Number,I a.AO,I a.AP]) (cs:= #[.bool a.BQ,I a.Number,I a.AO,I a.AP]) (ee st aE) rfl) ?_;rintro _ w1 ⟨b1,rfl,g⟩;have i:=p.nb g;have aV:=p.BD g;refine wA (v:=.bool false) rfl<|wn<|Ag<|Aj ?_;have m:=(aQ.ext g.gr);refine wD (fun st=>Ah (v:=j) UO (ee st aF) m rfl)<|wD (fun st=>AQ (l:=[.bool a.BQ,I a.Number,I a.AO,I a.AP]) MQ (eR st) g.bk rfl rfl) ?_;have aJ:o t w1 (ZZ f aG Z w.heap.size [some b1,some c,d]) d:=(e.me aI p g.gr (Aq g));replace n:=bind_some n;obtain⟨aK,aT,n⟩:=n;refine wE (fun st=>EL (e.call t a aK _ (ZZ f aG Z w.heap.size [some b1,some c,d]) (ZC f [d]) d #[.agg #[.bool a.BQ,I a.Number,I a.AO,I a.AP]] (Nat.le_trans aN i.sz) (i.zz (F':=f) (M:=[d]) (C:=[]) [2] [] ⟨rfl,trivial⟩ trivial (fun _ h=>.inl h)) HL aJ ⟨_,rfl,⟨_,rfl,rfl⟩⟩ aT) (eR st) (Ct (eR st))) ?_;rintro _ a0 ⟨q,z,r,rfl,aU⟩;have aA:=i.DF z (AI [2] ⟨rfl,trivial⟩ (fun _ h=>h)) 2 rfl r;have aL:o aK.2 a0 (ZZ f aG Z w.heap.size [some b1,some c,q]) q:=e.mz aU (i.call (M:=[q]) (Nat.le_refl _) (B3 ⟨.inr (hw r 2),trivial⟩) (Cp (L:=[some b1,some c,d]) (y:=q) 2 (gm 0)));refine wD (fun st=>Cv (eR st))<|wA (v:=.bool !aK.1) rfl<|wn<|Am ?_;obtain rfl:=oi n;refine Ar rfl rfl ?_;have u:=(m.B5 z (i.Cc 1 rfl [2] rfl ⟨rfl,trivial⟩ (fun _ h=>h)));exact⟨q,aH _ aA.fin,rfl,u,aA.mq 2 [1] (M:=[some c]) ⟨rfl,trivial⟩ aR,e.mz aL (AD (AX [1,2] ⟨rfl,rfl,trivial⟩))⟩
theorem YG{aX:Type}{e:Nat→Prop}{bG:Nat}{aH:IT aX}{aR:aX→Bq→Option (Bool×aX)} bH s(a4:aX) m n(aJ:Value) aC(Z:Nat→Prop) w(p:Cb Tryz.prog aJ e bG aH (v1 (Dp AG)) Bn aR)(bI:bG≤w.heap.size)(bJ:Bp e [aC] w)(bK:∀b,Z b→¬e b∧some b∉[aC])(aY:Sl AG w Z m n s)(bZ:aH a4 w Z aC) a5(a:G8 bH aR s a4=some a5):
 BG Tryz.prog 161 #[.slice m s.length n,aJ] w (fun v w'=>∃o',Br (FU e [aC]) w w'∧(DD .i64).R w' (zf Z w [o']) v a5.1∧(∀k,o'=some k→(aC=some k∨w.heap.size≤k)∧k<w'.heap.size)∧aH a5.2 w' (zf Z w [o']) o'):=by
 unfold G8 at a;refine rq (N:=19) Tryz.func161 fun b6 a9 b7=>?_;have aS:=sA 0 a9;have bA:=sA 1 a9;clear a9;obtain⟨aD,aZ,bL,a0,aT⟩:=Ht bJ bK;have aO:=aY.mv (AM (L:=[aC]) a0 w);have bB:=p.mz bZ (AM (L:=[aC]) a0 w);refine cr<|wA (v:=I 0) rfl<|wn<|Ag<|cr<|wM (v:=.slice m s.length n) aS<|wD (fun st=>Bm Tryz.underlying36 (eR st))<|wM (v:=I 0) rfl<|wn<|AL ?_;replace a:=bind_some a;obtain⟨bC,t,a⟩:=a;refine B2 (fun bD f aE=>(bD=.ret∧∃o,bC=.inl o∧∃g,Fo X0 19 f∧sl f 4=I o.1∧Hp e aD w [g] aE∧aH o.2 aE (ZZ e aD Z w.heap.size [g]) g)∨(bD=.exit 0∧∃o,bC=.inr o∧∃i,Fo X0 19 f∧Hp e aD w [i] aE∧aH o aE (ZZ e aD Z w.heap.size [i]) i)) ?bM ?bN
 case bM=>
  clear a;refine BY (fun bE f aE=>∃d,∃j,∃c,Ea aR s bE d j=some bC∧Fo X0 19 f∧sl f 0=.slice m s.length n∧sl f 1=aJ∧sl f 7=I (s.length:Int)∧sl f 8=I d∧Hp e aD w [c] aE∧(fun bO=>aH j aE bO c∧Sl AG aE bO m n s) (ZZ e aD Z w.heap.size [c])) bH ?bP ?bQ
  case bP=>
   intro st;exact⟨(0:Int),a4,aC,t,qo st,sp st 0 aS,sp st 1 bA,sp st 7 rfl,sp st 8 rfl,bL,bB,aO⟩
  case bQ=>
   rintro(_|bE) b8 b9 ⟨d,j,c,t,bF,aK,aL,aM,x,u,aN,q⟩
   ·exact absurd (show none=some _ from t) (by simp)
   rw[Ea.eq_2] at t;have a:=t;clear t;refine ro bF<|cr<|wD (fun st=>Cs (ee st x) (ee st aM))<|wn<|Ag ?_;rcases Af (decide (d<(s.length:Int))) with aF|aF
   ·replace a:=Aw a aF;refine Ak rfl aF<|cn<|Ag<|AL<|cr<|wM (v:=I d) x<|wA (v:=I d) rfl<|wr<|wM (v:=aJ) aL<|wM (v:=.slice m s.length n) aK<|wM (v:=I d) rfl ?_;replace a:=Bg a;obtain⟨i3,z,bR,bS,bT,a⟩:=a;obtain⟨b3,cB,_,bU,rfl,bV⟩:=Sl.elem q (by decide) bS;refine wD (fun st=>BU (k:=i3) Tryz.underlying36 QW (eR st) bU (eR st) bR bT)<|wD (fun st=>Ch (l:=[.bool z.BQ,I z.Number,I z.AO,I z.AP]) MQ (eR st) bV rfl rfl) ?_;replace a:=bind_some a;obtain⟨aU,bW,a⟩:=a;refine wE (fun st=>EL (p.call j z aU _ (ZZ e aD Z w.heap.size [c]) (ZC e [c]) c #[.agg #[.bool z.BQ,I z.Number,I z.AO,I z.AP]] (Nat.le_trans bI u.sz) (u.zz (F':=e) (M:=[c]) (C:=[]) [0] [] ⟨rfl,trivial⟩ trivial (fun _ h=>.inl h)) HL aN ⟨_,rfl,⟨_,rfl,rfl⟩⟩ bW) (eR st) (Ct (eR st))) ?_;rintro _ b4 ⟨aP,a2,aI,rfl,bX⟩;have a3:=u.DF a2 (AI [0] ⟨rfl,trivial⟩ (fun _ h=>h)) 0 rfl aI;have aV:aH aU.2 b4 (ZZ e aD Z w.heap.size [aP]) aP:=p.mz bX (u.call (M:=[aP]) (Nat.le_refl _) (B3 ⟨.inr (hw aI 0),trivial⟩) (Cp (L:=[c]) (y:=aP) 0 (gm 0)));refine wn ?_;rcases Af (aU.1) with aG|aG
    ·replace a:=Aw a aG;refine Ak rfl aG<|cr<|wM (v:=I d) rfl<|wA (v:=I d) rfl<|wn<|Am<|C5<|AN ?_;obtain rfl:=oi a;refine BH (fun st=>?_);exact .inl ⟨rfl,(d,aU.2),rfl,aP,qo st,sp st 4 rfl,a3,aV⟩
    ·replace a:=Ax a aG;refine Au rfl aG<|Cw<|De<|Aj ?_;replace a:=AK a;obtain⟨bY,a⟩:=a;refine wD (fun st=>BF (ee st x) (eR st) bY)<|wM (v:=I (d+1)) rfl<|AZ ?_;have aQ:=(q.mv (u.FP a2 (AI [0] ⟨rfl,trivial⟩ (fun _ h=>h)) 0 rfl (fun k hk=>(aI k hk).1)));refine By bE (Nat.lt_succ_self _) (fun st=>?_);exact⟨(d+1),aU.2,aP,a,qo st,sp st 0 aK,sp st 1 aL,sp st 7 aM,sp st 8 rfl,a3,aV,aQ⟩
   ·replace a:=Ax a aF;refine Au rfl aF<|D3 ?_;obtain rfl:=oi a;refine BH (fun st=>?_);exact .inr ⟨rfl,j,rfl,c,qo st,u,aN⟩
 case bN=>
  rintro bD b5 cA (⟨rfl,o,rfl,g,aA,aW,r,aB⟩|⟨rfl,o,rfl,i,aA,r,aB⟩)
  ·skip
   replace a:=C7 a;refine lf aA<|C5 ?_;obtain rfl:=oi a;refine Ar rfl aW ?_;exact⟨g,aT _ r.fin,rfl,r.mq 0 [] (M:=[]) trivial aZ,p.mz aB (AD (AX [0] ⟨rfl,trivial⟩))⟩
  ·skip
   replace a:=C8 a;refine lf aA<|Bc<|BI<|cr<|wA (v:=I (-1)) rfl<|wn<|Am ?_;obtain rfl:=oi a;refine Ar rfl rfl ?_;exact⟨i,aT _ r.fin,rfl,r.mq 0 [] (M:=[]) trivial aZ,p.mz aB (AD (AX [0] ⟨rfl,trivial⟩))⟩
theorem YH{p:Type}{f:Nat→Prop}{aH:Nat}{q:IT p}{s:p→Bq→Option (Bool×p)} aI m(x:p) c d(i:Value) a(Z:Nat→Prop) w(e:Cb Tryz.prog i f aH q (v1 (Dp AG)) Bn s)(aJ:aH≤w.heap.size)(aK:Bp f [a] w)(aL:∀b,Z b→¬f b∧some b∉[a])(r:Sl AG w Z c d m)(aR:q x w Z a) z(j:Gv aI s m x=some z):
 BG Tryz.prog 135 #[.slice c m.length d,i] w (fun v w'=>∃o',Br (FU f [a]) w w'∧Bn.R w' (zf Z w [o']) v z.1∧(∀k,o'=some k→(a=some k∨w.heap.size≤k)∧k<w'.heap.size)∧q z.2 w' (zf Z w [o']) o'):=by
 unfold Gv at j;refine rq (N:=9) Tryz.func135 fun aS aA aT=>?_;have aB:=sA 0 aA;have aC:=sA 1 aA;clear aA;obtain⟨aM,aN,g,t,aD⟩:=Ht aK aL;have l:=r.mv (AM (L:=[a]) t w);have aE:=e.mz aR (AM (L:=[a]) t w);refine cr<|wA (v:=.bool false) rfl<|wr<|wM (v:=.slice c m.length d) aB<|wM (v:=i) aC ?_;replace j:=bind_some j;obtain⟨aF,aO,j⟩:=j;refine wE (fun st=>Az UP (eR st) (CP (eR st) (eR st)) (YG aI m x c d i a (ZZ f aM Z w.heap.size [a]) _ e (Nat.le_trans aJ g.sz) (g.Cz (F':=f) (M:=[a]) (C:=[]) [0] [] rfl ⟨rfl,trivial⟩ trivial (fun _ h=>.inl h)) (g.zz (F':=f) (M:=[a]) (C:=[]) [0] [] ⟨rfl,trivial⟩ trivial (fun _ h=>.inl h)) l aE aF aO)) ?_;rintro _ w2 ⟨n,aP,rfl,o,aQ⟩;have u:=g.DF aP (AI [0] ⟨rfl,trivial⟩ (fun _ h=>h)) 0 rfl o;have aG:q aF.2 w2 (ZZ f aM Z w.heap.size [n]) n:=e.mz aQ (g.call (M:=[n]) (Nat.le_refl _) (B3 ⟨.inr (hw o 0),trivial⟩) (Cp (L:=[a]) (y:=n) 0 (gm 0)));refine wD (fun st=>Ip (eR st) (eR st))<|wA (v:=.bool (decide ((0:Int)≤aF.1))) rfl<|wn<|Am ?_;obtain rfl:=oi j;refine Ar rfl rfl ?_;exact⟨n,aD _ u.fin,rfl,u.mq 0 [] (M:=[]) trivial aN,e.mz aG (AD (AX [0] ⟨rfl,trivial⟩))⟩
theorem a107{s:Type}{e:Nat→Prop}{a9:Nat}{t:IT s}{aB:s→Bq→Option (Bool×s)} aG aC(aH:s) j l(g:Value) c(Z:Nat→Prop) w(a:Cb Tryz.prog g e a9 t (v1 (Dp AG)) Bn aB)(bA:a9≤w.heap.size)(bB:Bp e [c] w)(bC:∀b,Z b→¬e b∧some b∉[c])(aI:Sl AG w Z j l aC)(n:t aH w Z c) aN(u:HV aG aB aC aH=some aN):
 BG Tryz.prog 107 #[.slice j aC.length l,g] w (fun v w'=>∃o',Br (FU e [c]) w w'∧Bn.R w' (zf Z w [o']) v aN.1∧(∀k,o'=some k→(c=some k∨w.heap.size≤k)∧k<w'.heap.size)∧t aN.2 w' (zf Z w [o']) o'):=by
 unfold HV at u;refine rq (N:=9) Tryz.func107 fun bP aO bQ=>?_;have aP:=sA 0 aO;have aQ:=sA 1 aO;clear aO;obtain⟨aR,bD,aD,aJ,aS⟩:=Ht bB bC;have z:=aI.mv (AM (L:=[c]) aJ w);have aT:=a.mz n (AM (L:=[c]) aJ w);refine cr<|wE (fun st=>BB (v:=g) (cs:= #[g]) (ee st aQ) a.fc) ?_;rintro _ w1 ⟨b1,rfl,i⟩;have d:=aD.nb i;have bL:=aD.BD i;refine wA (v:=.bool false) rfl<|wr<|wM (v:=.slice j aC.length l) aP<|wD (fun st=>CO (vs:= #[]) (us:= #[pt b1 0]) Hr (Ct (eR st))) ?_;have aK:=d.Cz (F':=e) (M:=[some b1]) (C:=[]) [0] [] rfl ⟨rfl,trivial⟩ trivial (fun k hk=>.inl ((fun _ h=>h) k hk));have aU:Cb Tryz.prog (.func (.func 136) #[] #[pt b1 0]) (FU e [some b1]) w1.heap.size (fun(st:s) aV bM o=>(∀k,o=some k→k<aV.heap.size∧¬(FU e [some b1]) k)∧Bk aV b1 159 #[g]∧t st aV bM o) (v1 (Dp AG)) Bn (fun(st:s) (x:Bq)=>(Gu aG aB x st).bind fun r=>some (r.1,r.2)):=by
  refine⟨rfl,rfl,d.Iz [0] ⟨rfl,trivial⟩ (fun _ h=>h),?_,?_,?_⟩
  ·intro st x r w1 aW bE o vs hn aX p n aY hc;obtain⟨f,m,q⟩:=n;obtain⟨_,rfl,⟨_,rfl,rfl⟩⟩:=aY;obtain⟨bN,h1,h2⟩:=bind_some hc;obtain rfl:=Option.some.inj h2;refine(Ew UQ rfl (YF aG x st b1 g o aW bE w1 a (Nat.le_trans bA (Nat.le_trans d.sz hn)) ((aK.grow hn).snoc f) (fun b hb=>Dc (p b (aX b hb)).1 (p b (aX b hb)).2) aX (fun b hb=>Dc (p b hb).1 (p b hb).2) m q bN h1)).mono ?_;rintro v w2 ⟨o',aY,aZ,a0,aL,bF⟩;exact⟨o',aY.lf,aL,aZ,⟨aK.keep hn f aL,a0,a.mz bF IK⟩⟩
  ·intro st w1 w2 aW bR o n hm hb;obtain⟨f,m,q⟩:=n;exact⟨fun k hk=>⟨Nat.lt_of_lt_of_le (f k hk).1 hm.size,(f k hk).2⟩,m.HK (hb b1 (.inl (.inr (gm 0)))),a.JJ _ _ _ _ _ _ q hm (fun b bG=>hb b (bG.imp .inl id))⟩
  ·intro st w1 aW o n k hk;obtain⟨f,m,q⟩:=n;exact f k hk
 have aA:=(z.mv (Aq i));replace u:=bind_some u;obtain⟨a2,bH,u⟩:=u;have a3:t aH w1 (ZZ e aR Z w.heap.size [some b1,c]) c:=(a.me aT aD i.gr (Aq i));refine wE (fun st=>Az UR (eR st) (CP (eR st) (eR st)) (YH aG aC aH j l (.func (.func 136) #[] #[pt b1 0]) c (ZZ e aR Z w.heap.size [some b1,c]) _ aU (Nat.le_refl _) (d.Cz (F':=(FU e [some b1])) (M:=[c]) (C:=[some b1]) [1] [0] rfl ⟨rfl,trivial⟩ ⟨rfl,trivial⟩ (Co (fun _ h=>h))) (d.zz (F':=(FU e [some b1])) (M:=[c]) (C:=[some b1]) [1] [0] ⟨rfl,trivial⟩ ⟨rfl,trivial⟩ (Co (fun _ h=>h))) aA ⟨(fun k hk=>d.La 1 (by rw[←hk];rfl) [0] rfl ⟨rfl,trivial⟩),i.bk,a3⟩ a2 bH)) ?_;rintro _ bO ⟨aE,bI,rfl,aF,bJ⟩;obtain⟨-,bK,a4⟩:=bJ;have aM:=d.DF (Br.cl (M1:=[some b1]) (M2:=[c]) bI) (AI [0,1] ⟨rfl,rfl,trivial⟩ (fun _ h=>h)) 1 rfl aF;have a5:t a2.2 bO (ZZ e aR Z w.heap.size [some b1,aE]) aE:=a.mz a4 (d.call (M:=[aE]) (Nat.le_refl _) (B3 ⟨.inr (hw aF 1),trivial⟩) (Cp (L:=[some b1,c]) (y:=aE) 1 (gm 0)));refine wD (fun st=>Cv (eR st))<|wA (v:=.bool !a2.1) rfl<|wn<|Am ?_;obtain rfl:=oi u;refine Ar rfl rfl ?_;exact⟨aE,aS _ aM.fin,rfl,aM.mq 1 [] (M:=[]) trivial bD,a.mz a5 (AD (AX [1] ⟨rfl,trivial⟩))⟩
theorem YI{n:Type}{d:Nat→Prop}{aH:Nat}{o:IT n}{q:n→Int→Option (Bool×n)} aQ j(u:n) a(g:Value) c(Z Za:Nat→Prop) w(e:Cb Tryz.prog g d aH o (v1 (DD .i64)) Bn q)(aI:aH≤w.heap.size)(aJ:Bp d [some a,c] w)(aK:∀b,Z b→¬d b∧some b∉[some a,c])(aR:∀b,Z b→Za b)(x:∀b,Za b→¬d b∧some b∉[some a,c])(r:Bk w a 86 #[g])(aS:o u w Z c) z(i:G9 aQ q j u=some z):
 BG Tryz.prog 169 #[I j,pt a 0] w (fun v w'=>∃o',Br (FU d [some a,c]) w w'∧Bn.R w' (zf Z w [some a,o']) v z.1∧Bk w' a 86 #[g]∧(∀k,o'=some k→(c=some k∨w.heap.size≤k)∧k<w'.heap.size)∧o z.2 w' (zf Z w [some a,o']) o'):=by
 unfold G9 at i;refine rq (N:=8) Tryz.func169 fun aU aA aV=>?_;have aB:=sA 0 aA;have aC:=sA 1 aA;clear aA;obtain⟨aL,aM,f,aN,aT,aD⟩:=I0 aJ aK x;have aE:=e.mz aS (AM (L:=[some a,c]) aN w);refine cr<|wA (v:=.bool false) rfl<|wr<|wD (fun st=>Ah (v:=g) Ln (ee st aC) r rfl)<|wM (v:=I j) aB ?_;replace i:=bind_some i;obtain⟨aF,aO,i⟩:=i;refine wE (fun st=>EL (e.call u j aF _ (ZZ d aL Z w.heap.size [some a,c]) (ZC d [c]) c #[I j] (Nat.le_trans aI f.sz) (f.zz (F':=d) (M:=[c]) (C:=[]) [1] [] ⟨rfl,trivial⟩ trivial (fun _ h=>.inl h)) HL aE ⟨_,rfl,rfl⟩ aO) (eR st) (Ct (eR st))) ?_;rintro _ w2 ⟨l,s,m,rfl,aP⟩;have t:=f.DF s (AI [1] ⟨rfl,trivial⟩ (fun _ h=>h)) 1 rfl m;have aG:o aF.2 w2 (ZZ d aL Z w.heap.size [some a,l]) l:=e.mz aP (f.call (M:=[l]) (Nat.le_refl _) (B3 ⟨.inr (hw m 1),trivial⟩) (Cp (L:=[some a,c]) (y:=l) 1 (gm 0)));refine wD (fun st=>Cv (eR st))<|wA (v:=.bool !aF.1) rfl<|wn<|Am ?_;obtain rfl:=oi i;refine Ar rfl rfl ?_;have p:=(r.B5 s (f.Cc 0 rfl [1] rfl ⟨rfl,trivial⟩ (fun _ h=>h)));exact⟨l,aD _ t.fin,rfl,p,t.mq 1 [0] (M:=[some a]) ⟨rfl,trivial⟩ aM,e.mz aG (AD (AX [0,1] ⟨rfl,rfl,trivial⟩))⟩
theorem YJ{aV:Type}{e:Nat→Prop}{bF:Nat}{aF:IT aV}{aP:aV→Int→Option (Bool×aV)} bG r(a2:aV) l m(aH:Value) aA(Z:Nat→Prop) w(o:Cb Tryz.prog aH e bF aF (v1 (DD .i64)) Bn aP)(bH:bF≤w.heap.size)(bI:Bp e [aA] w)(bJ:∀b,Z b→¬e b∧some b∉[aA])(aW:Sl (Ao .i64) w Z l m r)(bY:aF a2 w Z aA) a3(a:HB bG aP r a2=some a3):
 BG Tryz.prog 142 #[.slice l r.length m,aH] w (fun v w'=>∃o',Br (FU e [aA]) w w'∧(DD .i64).R w' (zf Z w [o']) v a3.1∧(∀k,o'=some k→(aA=some k∨w.heap.size≤k)∧k<w'.heap.size)∧aF a3.2 w' (zf Z w [o']) o'):=by
 unfold HB at a;refine rq (N:=19) Tryz.func142 fun b5 a4 b6=>?_;have aQ:=sA 0 a4;have a5:=sA 1 a4;clear a4;obtain⟨aB,aX,bK,aY,aR⟩:=Ht bI bJ;have aM:=aW.mv (AM (L:=[aA]) aY w);have a9:=o.mz bY (AM (L:=[aA]) aY w);refine cr<|wA (v:=I 0) rfl<|wn<|Ag<|cr<|wM (v:=.slice l r.length m) aQ<|wD (fun st=>Bm Tryz.underlying31 (eR st))<|wM (v:=I 0) rfl<|wn<|AL ?_;replace a:=bind_some a;obtain⟨bA,s,a⟩:=a;refine B2 (fun bB f aC=>(bB=.ret∧∃n,bA=.inl n∧∃g,Fo X0 19 f∧sl f 4=I n.1∧Hp e aB w [g] aC∧aF n.2 aC (ZZ e aB Z w.heap.size [g]) g)∨(bB=.exit 0∧∃n,bA=.inr n∧∃i,Fo X0 19 f∧Hp e aB w [i] aC∧aF n aC (ZZ e aB Z w.heap.size [i]) i)) ?bL ?bM
 case bL=>
  clear a;refine BY (fun bC f aC=>∃d,∃j,∃c,EF aP r bC d j=some bA∧Fo X0 19 f∧sl f 0=.slice l r.length m∧sl f 1=aH∧sl f 7=I (r.length:Int)∧sl f 8=I d∧Hp e aB w [c] aC∧(fun bN=>aF j aC bN c∧Sl (Ao .i64) aC bN l m r) (ZZ e aB Z w.heap.size [c])) bG ?bO ?bP
  case bO=>
   intro st;exact⟨(0:Int),a2,aA,s,qo st,sp st 0 aQ,sp st 1 a5,sp st 7 rfl,sp st 8 rfl,bK,a9,aM⟩
  case bP=>
   rintro(_|bC) b7 b8 ⟨d,j,c,s,bD,aI,aJ,aK,u,t,aL,p⟩
   ·exact absurd (show none=some _ from s) (by simp)
   rw[EF.eq_2] at s;have a:=s;clear s;refine ro bD<|cr<|wD (fun st=>Cs (ee st u) (ee st aK))<|wn<|Ag ?_;rcases Af (decide (d<(r.length:Int))) with aD|aD
   ·replace a:=Aw a aD;refine Ak rfl aD<|cn<|Ag<|AL<|cr<|wM (v:=I d) u<|wA (v:=I d) rfl<|wr<|wM (v:=aH) aJ<|wM (v:=.slice l r.length m) aI<|wM (v:=I d) rfl ?_;replace a:=Bg a;obtain⟨i3,bE,bQ,bR,bS,a⟩:=a;obtain⟨b3,cA,_,bT,rfl,bU⟩:=Sl.CZ p rfl bR;refine wD (fun st=>Bx (k:=i3) Tryz.underlying31 Dm (eR st) bT (eR st) bQ bS)<|wD (fun st=>BN (v:=I bE) Bs (eR st) bU rfl) ?_;replace a:=bind_some a;obtain⟨aS,bV,a⟩:=a;refine wE (fun st=>EL (o.call j bE aS _ (ZZ e aB Z w.heap.size [c]) (ZC e [c]) c #[I bE] (Nat.le_trans bH t.sz) (t.zz (F':=e) (M:=[c]) (C:=[]) [0] [] ⟨rfl,trivial⟩ trivial (fun _ h=>.inl h)) HL aL ⟨_,rfl,rfl⟩ bV) (eR st) (Ct (eR st))) ?_;rintro _ bZ ⟨aN,aZ,aG,rfl,bW⟩;have a0:=t.DF aZ (AI [0] ⟨rfl,trivial⟩ (fun _ h=>h)) 0 rfl aG;have aT:aF aS.2 bZ (ZZ e aB Z w.heap.size [aN]) aN:=o.mz bW (t.call (M:=[aN]) (Nat.le_refl _) (B3 ⟨.inr (hw aG 0),trivial⟩) (Cp (L:=[c]) (y:=aN) 0 (gm 0)));refine wn ?_;rcases Af (aS.1) with aE|aE
    ·replace a:=Aw a aE;refine Ak rfl aE<|cr<|wM (v:=I d) rfl<|wA (v:=I d) rfl<|wn<|Am<|C5<|AN ?_;obtain rfl:=oi a;refine BH (fun st=>?_);exact .inl ⟨rfl,(d,aS.2),rfl,aN,qo st,sp st 4 rfl,a0,aT⟩
    ·replace a:=Ax a aE;refine Au rfl aE<|Cw<|De<|Aj ?_;replace a:=AK a;obtain⟨bX,a⟩:=a;refine wD (fun st=>BF (ee st u) (eR st) bX)<|wM (v:=I (d+1)) rfl<|AZ ?_;have aO:=(p.mv (t.FP aZ (AI [0] ⟨rfl,trivial⟩ (fun _ h=>h)) 0 rfl (fun k hk=>(aG k hk).1)));refine By bC (Nat.lt_succ_self _) (fun st=>?_);exact⟨(d+1),aS.2,aN,a,qo st,sp st 0 aI,sp st 1 aJ,sp st 7 aK,sp st 8 rfl,a0,aT,aO⟩
   ·replace a:=Ax a aD;refine Au rfl aD<|D3 ?_;obtain rfl:=oi a;refine BH (fun st=>?_);exact .inr ⟨rfl,j,rfl,c,qo st,t,aL⟩
 case bM=>
  rintro bB b4 b9 (⟨rfl,n,rfl,g,x,aU,q,z⟩|⟨rfl,n,rfl,i,x,q,z⟩)
  ·skip
   replace a:=C7 a;refine lf x<|C5 ?_;obtain rfl:=oi a;refine Ar rfl aU ?_;exact⟨g,aR _ q.fin,rfl,q.mq 0 [] (M:=[]) trivial aX,o.mz z (AD (AX [0] ⟨rfl,trivial⟩))⟩
  ·skip
   replace a:=C8 a;refine lf x<|Bc<|BI<|cr<|wA (v:=I (-1)) rfl<|wn<|Am ?_;obtain rfl:=oi a;refine Ar rfl rfl ?_;exact⟨i,aR _ q.fin,rfl,q.mq 0 [] (M:=[]) trivial aX,o.mz z (AD (AX [0] ⟨rfl,trivial⟩))⟩
theorem YK{p:Type}{f:Nat→Prop}{aH:Nat}{q:IT p}{s:p→Int→Option (Bool×p)} aI m(x:p) c d(i:Value) a(Z:Nat→Prop) w(e:Cb Tryz.prog i f aH q (v1 (DD .i64)) Bn s)(aJ:aH≤w.heap.size)(aK:Bp f [a] w)(aL:∀b,Z b→¬f b∧some b∉[a])(r:Sl (Ao .i64) w Z c d m)(aR:q x w Z a) z(j:GY aI s m x=some z):
 BG Tryz.prog 122 #[.slice c m.length d,i] w (fun v w'=>∃o',Br (FU f [a]) w w'∧Bn.R w' (zf Z w [o']) v z.1∧(∀k,o'=some k→(a=some k∨w.heap.size≤k)∧k<w'.heap.size)∧q z.2 w' (zf Z w [o']) o'):=by
 unfold GY at j;refine rq (N:=9) Tryz.func122 fun aS aA aT=>?_;have aB:=sA 0 aA;have aC:=sA 1 aA;clear aA;obtain⟨aM,aN,g,t,aD⟩:=Ht aK aL;have l:=r.mv (AM (L:=[a]) t w);have aE:=e.mz aR (AM (L:=[a]) t w);refine cr<|wA (v:=.bool false) rfl<|wr<|wM (v:=.slice c m.length d) aB<|wM (v:=i) aC ?_;replace j:=bind_some j;obtain⟨aF,aO,j⟩:=j;refine wE (fun st=>Az US (eR st) (CP (eR st) (eR st)) (YJ aI m x c d i a (ZZ f aM Z w.heap.size [a]) _ e (Nat.le_trans aJ g.sz) (g.Cz (F':=f) (M:=[a]) (C:=[]) [0] [] rfl ⟨rfl,trivial⟩ trivial (fun _ h=>.inl h)) (g.zz (F':=f) (M:=[a]) (C:=[]) [0] [] ⟨rfl,trivial⟩ trivial (fun _ h=>.inl h)) l aE aF aO)) ?_;rintro _ w2 ⟨n,aP,rfl,o,aQ⟩;have u:=g.DF aP (AI [0] ⟨rfl,trivial⟩ (fun _ h=>h)) 0 rfl o;have aG:q aF.2 w2 (ZZ f aM Z w.heap.size [n]) n:=e.mz aQ (g.call (M:=[n]) (Nat.le_refl _) (B3 ⟨.inr (hw o 0),trivial⟩) (Cp (L:=[a]) (y:=n) 0 (gm 0)));refine wD (fun st=>Ip (eR st) (eR st))<|wA (v:=.bool (decide ((0:Int)≤aF.1))) rfl<|wn<|Am ?_;obtain rfl:=oi j;refine Ar rfl rfl ?_;exact⟨n,aD _ u.fin,rfl,u.mq 0 [] (M:=[]) trivial aN,e.mz aG (AD (AX [0] ⟨rfl,trivial⟩))⟩
theorem a157{s:Type}{e:Nat→Prop}{a9:Nat}{t:IT s}{aB:s→Int→Option (Bool×s)} aG aC(aH:s) j l(g:Value) c(Z:Nat→Prop) w(a:Cb Tryz.prog g e a9 t (v1 (DD .i64)) Bn aB)(bA:a9≤w.heap.size)(bB:Bp e [c] w)(bC:∀b,Z b→¬e b∧some b∉[c])(aI:Sl (Ao .i64) w Z j l aC)(n:t aH w Z c) aN(u:Iu aG aB aC aH=some aN):
 BG Tryz.prog 157 #[.slice j aC.length l,g] w (fun v w'=>∃o',Br (FU e [c]) w w'∧Bn.R w' (zf Z w [o']) v aN.1∧(∀k,o'=some k→(c=some k∨w.heap.size≤k)∧k<w'.heap.size)∧t aN.2 w' (zf Z w [o']) o'):=by
 unfold Iu at u;refine rq (N:=9) Tryz.func157 fun bP aO bQ=>?_;have aP:=sA 0 aO;have aQ:=sA 1 aO;clear aO;obtain⟨aR,bD,aD,aJ,aS⟩:=Ht bB bC;have z:=aI.mv (AM (L:=[c]) aJ w);have aT:=a.mz n (AM (L:=[c]) aJ w);refine cr<|wE (fun st=>BB (v:=g) (cs:= #[g]) (ee st aQ) a.fc) ?_;rintro _ w1 ⟨b1,rfl,i⟩;have d:=aD.nb i;have bL:=aD.BD i;refine wA (v:=.bool false) rfl<|wr<|wM (v:=.slice j aC.length l) aP<|wD (fun st=>CO (vs:= #[]) (us:= #[pt b1 0]) Hr (Ct (eR st))) ?_;have aK:=d.Cz (F':=e) (M:=[some b1]) (C:=[]) [0] [] rfl ⟨rfl,trivial⟩ trivial (fun k hk=>.inl ((fun _ h=>h) k hk));have aU:Cb Tryz.prog (.func (.func 169) #[] #[pt b1 0]) (FU e [some b1]) w1.heap.size (fun(st:s) aV bM o=>(∀k,o=some k→k<aV.heap.size∧¬(FU e [some b1]) k)∧Bk aV b1 86 #[g]∧t st aV bM o) (v1 (DD .i64)) Bn (fun(st:s) (x:Int)=>(G9 aG aB x st).bind fun r=>some (r.1,r.2)):=by
  refine⟨rfl,rfl,d.Iz [0] ⟨rfl,trivial⟩ (fun _ h=>h),?_,?_,?_⟩
  ·intro st x r w1 aW bE o vs hn aX p n aY hc;obtain⟨f,m,q⟩:=n;obtain⟨_,rfl,rfl⟩:=aY;obtain⟨bN,h1,h2⟩:=bind_some hc;obtain rfl:=Option.some.inj h2;refine(Ew UT rfl (YI aG x st b1 g o aW bE w1 a (Nat.le_trans bA (Nat.le_trans d.sz hn)) ((aK.grow hn).snoc f) (fun b hb=>Dc (p b (aX b hb)).1 (p b (aX b hb)).2) aX (fun b hb=>Dc (p b hb).1 (p b hb).2) m q bN h1)).mono ?_;rintro v w2 ⟨o',aY,aZ,a0,aL,bF⟩;exact⟨o',aY.lf,aL,aZ,⟨aK.keep hn f aL,a0,a.mz bF IK⟩⟩
  ·intro st w1 w2 aW bR o n hm hb;obtain⟨f,m,q⟩:=n;exact⟨fun k hk=>⟨Nat.lt_of_lt_of_le (f k hk).1 hm.size,(f k hk).2⟩,m.HK (hb b1 (.inl (.inr (gm 0)))),a.JJ _ _ _ _ _ _ q hm (fun b bG=>hb b (bG.imp .inl id))⟩
  ·intro st w1 aW o n k hk;obtain⟨f,m,q⟩:=n;exact f k hk
 have aA:=(z.mv (Aq i));replace u:=bind_some u;obtain⟨a2,bH,u⟩:=u;have a3:t aH w1 (ZZ e aR Z w.heap.size [some b1,c]) c:=(a.me aT aD i.gr (Aq i));refine wE (fun st=>Az UU (eR st) (CP (eR st) (eR st)) (YK aG aC aH j l (.func (.func 169) #[] #[pt b1 0]) c (ZZ e aR Z w.heap.size [some b1,c]) _ aU (Nat.le_refl _) (d.Cz (F':=(FU e [some b1])) (M:=[c]) (C:=[some b1]) [1] [0] rfl ⟨rfl,trivial⟩ ⟨rfl,trivial⟩ (Co (fun _ h=>h))) (d.zz (F':=(FU e [some b1])) (M:=[c]) (C:=[some b1]) [1] [0] ⟨rfl,trivial⟩ ⟨rfl,trivial⟩ (Co (fun _ h=>h))) aA ⟨(fun k hk=>d.La 1 (by rw[←hk];rfl) [0] rfl ⟨rfl,trivial⟩),i.bk,a3⟩ a2 bH)) ?_;rintro _ bO ⟨aE,bI,rfl,aF,bJ⟩;obtain⟨-,bK,a4⟩:=bJ;have aM:=d.DF (Br.cl (M1:=[some b1]) (M2:=[c]) bI) (AI [0,1] ⟨rfl,rfl,trivial⟩ (fun _ h=>h)) 1 rfl aF;have a5:t a2.2 bO (ZZ e aR Z w.heap.size [some b1,aE]) aE:=a.mz a4 (d.call (M:=[aE]) (Nat.le_refl _) (B3 ⟨.inr (hw aF 1),trivial⟩) (Cp (L:=[some b1,c]) (y:=aE) 1 (gm 0)));refine wD (fun st=>Cv (eR st))<|wA (v:=.bool !a2.1) rfl<|wn<|Am ?_;obtain rfl:=oi u;refine Ar rfl rfl ?_;exact⟨aE,aS _ aM.fin,rfl,aM.mq 1 [] (M:=[]) trivial bD,a.mz a5 (AD (AX [1] ⟨rfl,trivial⟩))⟩
end Go.Proofs.YtcdofnchafcfpaaGreat
end
