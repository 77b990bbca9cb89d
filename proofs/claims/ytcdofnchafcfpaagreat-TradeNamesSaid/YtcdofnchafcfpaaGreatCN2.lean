import Derived.Test.YtcdofnchafcfpaaGreatCN1
import Derived.WalkKit
import Derived.KernelRfl
import Derived.WalkSpells
import Derived.WalkLawsBesides
import Derived.Maps.AppendAt
import Derived.OrdersIn
import Derived.RangeFuncIn
import Derived.RangeFuncLeaves
import Derived.RangeFuncRecord
import Derived.RangeFuncSeq
import Derived.Scope
import Derived.DeepKeys3
import Derived.Laws.CopyRow
import Derived.Laws.OwnMore
import Derived.Laws.MakeOwn
import Derived.Laws.IdiomCopy
import Derived.Sort.OwnSortedInts
import Derived.Lib.RowBridge
import Derived.Test.YtcdofnchafcfpaaGreatProg
/-
  The contracts of the functions of the program and of the reference, and the logic that they are proved in: the base that several claims of this seat share.
-/
set_option linter.all false
section
namespace Go.Proofs.YtcdofnchafcfpaaGreat
open Go.RowKit Go.WideShapes
def GG(d:Nat)(a:Int)(b:Int)(c:Int):Option (Bool×Int):=
 (i64 (b+1)).bind fun _=>(i64 (c-1)).bind fun _=>(Ds d a (b+1) (c-1)).bind fun e=>some ((e,a))
def E4(a:Nat)(b:List Int)(c:Int):Option (Bool):=
 (Hx a (fun(st:Int) (x:Int)=>(GG a x st c).bind fun r=>some (r.1,r.2)) b (-1)).bind fun d=>some (d.1)
def DK(e:Nat)(d:Bq)(c:BJ)(f:List Int):Nat→Int→Int→Option (Int)
 |0,_,_=>none
 |h+1,b,a=>cond (decide (a<(c.weights.length:Int))) ((idx c.weights a).bind fun g=>(Dl e f a).bind fun k=>cond (k) ((idx ([d.a0,d.a1,d.a2]:List Int) a).bind fun i=>(i64 (b+i)).bind fun _=>(i64 (a+1)).bind fun _=>DK e d c f h (b+i) (a+1)) ((i64 (g*c.By)).bind fun _=>(i64 (b+(g*c.By))).bind fun _=>(i64 (a+1)).bind fun _=>DK e d c f h (b+(g*c.By)) (a+1))) (some (b))
def Fc(a:Nat)(b:Bq)(c:BJ)(d:List Int):Option (Int):=
 (DK a b c d a (0:Int) (0:Int)).bind fun z2=>some (z2)
def ER(a:Nat)(b:BJ)(d:List Int):Option (Bb×(List (List Int×Int))):=
 (FC a (fun(st:Unit) (x:Bq)=>(Fc a x b d).bind fun r=>some (r,())) b ()).bind fun c=>some ((c.1,c.2.1))
def Db(b:Nat)(c:Bw)(d:List Int):Option (Bb×Int):=
 (E4 b d (c.Ae.length:Int)).bind fun f=>(CN b c f).bind fun a=>Option.elim a.1 (cond (a.2 !=0) (some (((⟨0,0⟩:Bb),a.2))) (none)) (fun g=>cond (a.2 !=0) (some (((⟨0,0⟩:Bb),a.2))) ((ER b g d).bind fun e=>some ((e.1,0))))
def Ea(b:Nat)(c:Bw)(d:List Int)(e:Int):Option (Bool):=
 (Db b c d).bind fun a=>cond (a.2==0) (some (decide (e≤a.1.Lo))) (some (false))
def F5(f:(List Int)→Int→BJ→Int→(List Int)→Option ((List (List Int×Int))×Int×(List Int)))(h:List Int)(b:BJ):Nat→Int→Int→(List Int)→(List (List Int×Int))→Option (Int×(List Int)×(List (List Int×Int)))
 |0,_,_,_,_=>none
 |i+1,a,c,d,e=>cond (decide (a<(b.weights.length:Int))) ((Gd (((0+h.length:Nat):Int)≤140737488355328/8)).bind fun _=>(Gd (((h.length+[a].length:Nat):Int)≤140737488355328/8)).bind fun _=>(i64 (a+1)).bind fun _=>(f (h++[a]) (a+1) (⟨b.Ao,b.Ap,b.Ak,b.By,b.AD,b.AA,b.AP,b.weights,b.BH,e⟩:BJ) c d).bind fun g=>(i64 (a+1)).bind fun _=>F5 f h b i (a+1) g.2.1 g.2.2 g.1) (some ((c,d,e)))
def FT(f:(List Int)→Int→BJ→Int→(List Int)→Option ((List (List Int×Int))×Int×(List Int)))(h:List Int)(b:BJ):Nat→Int→Int→(List Int)→(List (List Int×Int))→Option (Int×(List Int)×(List (List Int×Int)))
 |0,_,_,_,_=>none
 |i+1,a,c,d,e=>cond (decide (a<(b.weights.length:Int))) ((Gd (((0+h.length:Nat):Int)≤140737488355328/8)).bind fun _=>(Gd (((h.length+[a].length:Nat):Int)≤140737488355328/8)).bind fun _=>(i64 (a+1)).bind fun _=>(f (h++[a]) (a+1) (⟨b.Ao,b.Ap,b.Ak,b.By,b.AD,b.AA,b.AP,b.weights,b.BH,e⟩:BJ) c d).bind fun g=>(i64 (a+1)).bind fun _=>FT f h b i (a+1) g.2.1 g.2.2 g.1) (some ((c,d,e)))
def EA(a:Nat):Nat→(List Int)→Int→BJ→Int→(List Int)→Option ((List (List Int×Int))×Int×(List Int))
 |0,_,_,_,_,_=>none
 |f+1,b,g,e,h,i=>(ER a e b).bind fun d=>cond (decide (h<d.1.Lo)) ((Gd (((0+b.length:Nat):Int)≤140737488355328/8)).bind fun _=>(F5 (EA a f) b e a g d.1.Lo b d.2).bind fun z9=>some ((z9.2.2,z9.1,z9.2.1))) ((FT (EA a f) b e a g h i d.2).bind fun c=>some ((c.2.2,c.1,c.2.1)))
def F9(c:Nat)(f:Bw):Option ((List Int)×Int×Int):=
 (CN c f true).bind fun b=>Option.elim b.1 (cond (b.2 !=0) (some ((([]:List Int),0,b.2))) (none)) (fun a=>cond (b.2 !=0) (some ((([]:List Int),0,b.2))) ((ER c a ([]:List Int)).bind fun d=>(EA c c ([]:List Int) 0 (⟨a.Ao,a.Ap,a.Ak,a.By,a.AD,a.AA,a.AP,a.weights,a.BH,d.2⟩:BJ) d.1.Lo ([]:List Int)).bind fun e=>some ((e.2.2,e.2.1,0))))
def EH(d:BJ)(e:AO)(f:Int)(a:Bq×Bq):Option (Bool×Bool):=
 (idx ([a.1.a0,a.1.a1,a.1.a2]:List Int) f).bind fun b=>(idx d.AD e.Cz).bind fun c=>cond (decide (b<c.BB)) (some (false,true)) (some (true,false))
def FV(e:Nat)(b:BJ)(c:AO)(d:Int):Option (Bool×(List (List Int×Int))):=
 (idx b.weights d).bind fun f=>cond (decide (f<c.Cw)) (some ((false,b.known))) ((D5 e (fun(st:Bool) (x:Bq×Bq)=>cond st none (EH b c d x)) b ([]:List Int) false).bind fun a=>cond (a.2) (some ((false,a.1))) (some ((true,a.1))))
def DE(f:Nat)(b:BJ)(g:AO):Nat→(List Int)→Int→(List (List Int×Int))→Option ((List Int)×(List (List Int×Int)))
 |0,_,_,_=>none
 |h+1,c,a,d=>cond (decide (a<(b.weights.length:Int))) ((FV f (⟨b.Ao,b.Ap,b.Ak,b.By,b.AD,b.AA,b.AP,b.weights,b.BH,d⟩:BJ) g a).bind fun e=>cond (e.1) ((Gd (((c.length+[a].length:Nat):Int)≤140737488355328/8)).bind fun _=>(i64 (a+1)).bind fun _=>DE f b g h (c++[a]) (a+1) e.2) ((i64 (a+1)).bind fun _=>DE f b g h c (a+1) e.2)) (some ((c,d)))
def Em(e:Nat)(d:BJ):Nat→(List (List Int))→Int→(List (List Int×Int))→Option ((List (List Int))×(List (List Int×Int)))
 |0,_,_,_=>none
 |g+1,c,a,b=>cond (decide (a<(d.AA.length:Int))) ((idx d.AA a).bind fun h=>(DE e d h e ([]:List Int) (0:Int) b).bind fun f=>(Gd (((c.length+[f.1].length:Nat):Int)≤140737488355328/24)).bind fun _=>(i64 (a+1)).bind fun _=>Em e d g (c++[f.1]) (a+1) f.2) (some ((c,b)))
def Eb(a:Nat)(b:BJ):Option ((List (List Int))×(List (List Int×Int))):=
 (Em a b a ([]:List (List Int)) (0:Int) b.known).bind fun c=>some ((c.1,c.2))
def E7(c:Int→(List (List Int))→(List Int)→Option (Bool×(List Int)))(f:Nat)(e:Int)(g:List (List Int))(x2:List Int):Nat→Int→(List Int)→Option ((Bool×(List Int))⊕((List Int)))
 |0,_,_=>none
 |i+1,b,a=>cond (decide (b<(x2.length:Int))) ((idx x2 b).bind fun h=>(Dl f a h).bind fun k=>cond (k) ((i64 (b+1)).bind fun _=>E7 c f e g x2 i (b+1) a) ((Gd (((a.length+[h].length:Nat):Int)≤140737488355328/8)).bind fun _=>(i64 (e+1)).bind fun _=>(c (e+1) g (a++[h])).bind fun d=>cond (d.1) (some (.inl (true,d.2))) ((J7 d.2.length (0:Int) e).bind fun _=>(i64 (b+1)).bind fun _=>E7 c f e g x2 i (b+1) (CT d.2 (0:Int) e)))) (some (.inr a))
def Ga(b:Nat):Nat→Int→(List (List Int))→(List Int)→Option (Bool×(List Int))
 |0,_,_,_=>none
 |f+1,c,d,e=>cond (c==(d.length:Int)) (some ((true,e))) ((idx d c).bind fun x2=>(E7 (Ga b f) b c d x2 b (0:Int) e).bind fun z=>Sum.elim (fun a=>some ((a.1,a.2))) (fun a=>some ((false,a))) z)
def Gb(b:Nat)(d:Bw):Option ((List Int)×Int):=
 (CN b d true).bind fun a=>Option.elim a.1 (cond (a.2 !=0) (some ((([]:List Int),a.2))) (none)) (fun e=>cond (a.2 !=0) (some ((([]:List Int),a.2))) ((Eb b e).bind fun f=>(Ga b b 0 f.1 ([]:List Int)).bind fun c=>cond (!c.1) (some ((([]:List Int),10))) (some ((c.2,0)))))
def Fe(g:Nat)(h:Bw)(d:List Int)(c:BJ):Nat→Int→(List (List Int×Int))→Option ((Bool×(List (List Int×Int)))⊕((List (List Int×Int))))
 |0,_,_=>none
 |m+1,a,b=>cond (decide (a<(d.length:Int))) ((idx d a).bind fun e=>(FP g h e).bind fun i=>cond (!i) (some (.inl (false,b))) ((J7 d.length (0:Int) a).bind fun _=>(Dl g (CT d (0:Int) a) e).bind fun k=>cond (k) (some (.inl (false,b))) ((idx h.Au a).bind fun l=>(FV g (⟨c.Ao,c.Ap,c.Ak,c.By,c.AD,c.AA,c.AP,c.weights,c.BH,b⟩:BJ) l e).bind fun f=>cond (!f.1) (some (.inl (false,f.2))) ((i64 (a+1)).bind fun _=>Fe g h d c m (a+1) f.2)))) (some (.inr b))
def En(b:Nat)(c:Bw)(e:List Int):Option (Bool):=
 (CN b c true).bind fun d=>Option.elim d.1 (cond (d.2 !=0) (some (false)) (none)) (fun f=>cond (d.2 !=0) (some (false)) (cond ((e.length:Int) !=(c.Au.length:Int)) (some (false)) ((Fe b c e f b (0:Int) f.known).bind fun z=>Sum.elim (fun a=>some (a.1)) (fun a=>some (true)) z)))
def Ec(c:List Int)(d:(List (List Int))×(List (List Int×Int))):Nat→(List Int)→Int→Option ((List Int))
 |0,_,_=>none
 |f+1,b,a=>cond (decide (a<(c.length:Int))) ((idx c a).bind fun g=>(idx d.1 g).bind fun e=>(Gd (((b.length+e.length:Nat):Int)≤140737488355328/8)).bind fun _=>(i64 (a+1)).bind fun _=>Ec c d f (b++e) (a+1)) (some (b))
def Ed(a:Nat)(d:BJ)(b:List Int):Option (Bool×(List (List Int×Int))):=
 (Eb a d).bind fun c=>(Ec b c a ([]:List Int) (0:Int)).bind fun z3=>(Gd ((z3.length:Int)≤100000)).bind fun _=>(Gd (((Gg z3).length:Int)≤100000)).bind fun _=>some ((decide (((Lib.compact (Gg z3)).length:Int)<(b.length:Int)),c.2))
def EW{e:Type}(f:(List Int)→Int→Int→(List Int)→Int→e→Option (Bool×(List Int)×e))(h:List Int)(g:Int)(i:Int):Nat→Int→(List Int)→e→Option ((Bool×(List Int)×e)⊕((List Int)×e))
 |0,_,_,_=>none
 |k+1,a,b,d=>(i64 (i-g)).bind fun _=>cond (decide (a≤(i-g))) ((Gd (((0+h.length:Nat):Int)≤140737488355328/8)).bind fun _=>(Gd (((h.length+[a].length:Nat):Int)≤140737488355328/8)).bind fun _=>(i64 (a+1)).bind fun _=>(i64 (g-1)).bind fun _=>(f (h++[a]) (a+1) (g-1) b i d).bind fun c=>cond (c.1) (some (.inl (true,c.2.1,c.2.2))) ((i64 (a+1)).bind fun _=>EW f h g i k (a+1) c.2.1 c.2.2)) (some (.inr (b,d)))
def ES{b:Type}(e:Nat)(c:b→(List Int)→Option (Bool×b)):Nat→(List Int)→Int→Int→(List Int)→Int→b→Option (Bool×(List Int)×b)
 |0,_,_,_,_,_,_=>none
 |i+1,d,k,f,l,m,g=>cond (f==0) ((c g d).bind fun h=>some ((h.1,d,h.2))) ((EW (ES e c i) d f m e k l g).bind fun z=>Sum.elim (fun a=>some ((a.1,a.2.1,a.2.2))) (fun a=>some ((false,a.1,a.2))) z)
def FD{e:Type}(f:e→(List Int)→Option (Bool×e))(g:Nat)(h:Int):Nat→Bool→Int→(List Int)→e→Option (Bool×(List Int)×e)
 |0,_,_,_,_=>none
 |k+1,i,a,b,d=>cond (decide (a<(h+1))) ((ES g f g ([]:List Int) 0 a b h d).bind fun c=>cond (c.1) (some ((c.1,c.2.1,c.2.2))) ((i64 (a+1)).bind fun _=>FD f g h k c.1 (a+1) c.2.1 c.2.2)) (some ((i,b,d)))
def Ft{a:Type}(c:Nat)(d:a→(List Int)→Option (Bool×a))(e:Int)(f:a):Option ((List Int)×Bool×a):=
 (i64 (e+1)).bind fun _=>(FD d c e c false (0:Int) ([]:List Int) f).bind fun b=>some ((b.2.1,b.1,b.2.2))
def EX(b:Nat)(c:List Int)(d:BJ):Option (Bool×(List (List Int×Int))):=
 (Ed b d c).bind fun a=>some ((a.1,a.2))
def E5(d:Nat)(e:Bw):Option ((List Int)×Int):=
 (CN d e true).bind fun b=>Option.elim b.1 (cond (b.2 !=0) (some ((([]:List Int),b.2))) (none)) (fun a=>cond (b.2 !=0) (some ((([]:List Int),b.2))) ((Ft d (fun(st:(List (List Int×Int))) (x:(List Int))=>(EX d x (⟨a.Ao,a.Ap,a.Ak,a.By,a.AD,a.AA,a.AP,a.weights,a.BH,st⟩:BJ)).bind fun r=>some (r.1,r.2)) (e.Au.length:Int) a.known).bind fun c=>cond (!c.2.1) (some ((([]:List Int),7))) (some ((c.1,0)))))
def DF(a:Nat)(b:Bw)(c:List Int):Option (Bool):=
 (CN a b true).bind fun d=>Option.elim d.1 (cond (d.2==0) ((E4 a c (b.Au.length:Int)).bind fun g=>cond (g) (none) (some (false))) (some (false))) (fun h=>cond (d.2==0) ((E4 a c (b.Au.length:Int)).bind fun e=>cond (e) ((Ed a h c).bind fun f=>some (f.1)) (some (false))) (some (false)))
def Gn(g:Nat)(d:Bw)(c:BJ):Nat→Int→(List AS)→(List (List Int×Int))→Option ((Int×Int×(List AS)×(List (List Int×Int)))⊕((List AS)×(List (List Int×Int))))
 |0,_,_,_=>none
 |h+1,a,e,b=>cond (decide (a<(d.AI.length:Int))) ((i64 (a+1)).bind fun _=>(J7 d.AI.length (0:Int) (a+1)).bind fun _=>(Dy g (⟨c.Ao,c.Ap,c.Ak,c.By,c.AD,c.AA,CT d.AI (0:Int) (a+1),c.weights,c.BH,b⟩:BJ) ([]:List Int)).bind fun f=>cond (!f.1) (some (.inl (a,(0:Int),CT d.AI (0:Int) (a+1),f.2))) ((i64 (a+1)).bind fun _=>Gn g d c h (a+1) (CT d.AI (0:Int) (a+1)) f.2)) (some (.inr (e,b)))
def FI(c:Nat)(e:Bw):Option (Int×Int):=
 (D9 c e true).bind fun a=>Option.elim a.1 (cond (a.2 !=0) (some ((0,a.2))) (none)) (fun d=>cond (a.2 !=0) (some ((0,a.2))) ((Gn c e d c (0:Int) d.AP d.known).bind fun z=>Sum.elim (fun b=>some ((b.1,b.2.1))) (fun b=>some ((0,7))) z))
def FJ(c:Nat)(d:Bw):Option ((List Int)×Int):=
 (D9 c d true).bind fun b=>Option.elim b.1 (cond (b.2 !=0) (some ((([]:List Int),b.2))) (none)) (fun a=>cond (b.2 !=0) (some ((([]:List Int),b.2))) ((Ft c (fun(st:(List (List Int×Int))) (x:(List Int))=>(Dy c (⟨a.Ao,a.Ap,a.Ak,a.By,a.AD,a.AA,a.AP,a.weights,a.BH,st⟩:BJ) x).bind fun r=>some (r.1,r.2)) (d.AI.length:Int) a.known).bind fun e=>some ((e.1,0))))
def EY(b:List Int)(c:List Int):Nat→Int→Option ((Bool)⊕(Unit))
 |0,_=>none
 |d+1,a=>cond (decide (a<(b.length:Int))) ((idx b a).bind fun e=>(idx c a).bind fun f=>cond (e !=f) (some (.inl false)) ((i64 (a+1)).bind fun _=>EY b c d (a+1))) (some (.inr ()))
def Cx(d:Nat)(b:List Int)(c:List Int):Option (Bool):=
 cond ((b.length:Int) !=(c.length:Int)) (some (false)) ((EY b c d (0:Int)).bind fun z=>Sum.elim (fun a=>some (a)) (fun a=>some (true)) z)
def Ch(c:Nat)(a:Int)(b:Int):Option (Bb):=
 some ((⟨a,b⟩:Bb))
def Ar(c:Nat)(d:Int):Option (Bw):=
 (Ch c 80 80).bind fun b=>(Ch c 40 40).bind fun a=>(J7 [(⟨0,b.Lo,b.Hi⟩:AS),(⟨0,a.Lo,a.Hi⟩:AS)].length (0:Int) d).bind fun _=>some ((⟨[(⟨40,42⟩:Bb),(⟨60,63⟩:Bb)],[[10,10],[5,15]],([]:List CM),3,[(⟨55,6⟩:Az),(⟨51,4⟩:Az),(⟨40,2⟩:Az)],[(⟨0,20⟩:AO),(⟨1,10⟩:AO)],CT [(⟨0,b.Lo,b.Hi⟩:AS),(⟨0,a.Lo,a.Hi⟩:AS)] (0:Int) d⟩:Bw))
def Ev(a:Nat):Option (Bool):=
 (Ar a 0).bind fun aA=>(EP a aA [41,62]).bind fun o=>(Ar a 0).bind fun aB=>(Ff a aB).bind fun d=>(Ar a 0).bind fun p=>(Db a p [0,1]).bind fun b=>(Ar a 0).bind fun q=>(F9 a q).bind fun c=>(Ar a 1).bind fun r=>(Gb a r).bind fun e=>(Ar a 0).bind fun s=>(E5 a s).bind fun f=>(Ar a 2).bind fun t=>(FI a t).bind fun g=>(Ar a 2).bind fun u=>(FJ a u).bind fun h=>cond (o.2==0) ((Cx a o.1 [80,120]).bind fun v=>cond (v) (cond (d.2==0) (cond ((d.1.length:Int)==2) ((idx d.1 (0:Int)).bind fun i=>(Ch a 40 80).bind fun k=>cond ([i.Lo,i.Hi]==[k.Lo,k.Hi]) ((idx d.1 (1:Int)).bind fun l=>(Ch a 120 120).bind fun m=>cond ([l.Lo,l.Hi]==[m.Lo,m.Hi]) (cond (b.2==0) ((Ch a 160 200).bind fun n=>cond ([b.1.Lo,b.1.Hi]==[n.Lo,n.Hi]) (cond (c.2.2==0) ((Cx a c.1 [1]).bind fun w=>cond (w) (cond (c.2.1==180) (cond (e.2==0) ((Cx a e.1 [1,0]).bind fun x=>cond (x) (cond (f.2==0) ((Cx a f.1 [0,1]).bind fun y=>cond (y) (cond (g.2==0) (cond (g.1==1) (cond (h.2==0) ((Cx a h.1 [0]).bind fun z=>some (z)) (some (false))) (some (false))) (some (false))) (some (false))) (some (false))) (some (false))) (some (false))) (some (false))) (some (false))) (some (false))) (some (false))) (some (false))) (some (false))) (some (false))) (some (false))) (some (false))) (some (false))) (some (false))
end Go.Proofs.YtcdofnchafcfpaaGreat
end
section
namespace Go.Proofs.YtcdofnchafcfpaaGreat
theorem bd{α β:Type}{x:Option α}{a:α}{f:α→Option β}(h:x=some a):x.bind f=f a:=by rw[h];rfl
theorem df{p:Prop}[Decidable p](h:¬p):decide p=false:=decide_eq_false h
def J2(n a b:Int):Bool:=decide (a≤n)&&decide (n≤b)
theorem JC{n a b:Int}:J2 n a b=true↔a≤n∧n≤b:=by simp[J2]
theorem Nn{a b:Int}(c:a≤0)(d:0≤b):∀l:List Int,(∀x∈l,a≤x∧x≤b)→a*l.length≤l.sum∧l.sum≤b*l.length
 |[],_=>by simp
 |x::l,h=>by
  have f:=h x (List.mem_cons_self ..);have g:=Nn c d l fun y e=>h y (List.mem_cons_of_mem _ e);rw[List.sum_cons,List.length_cons];have i:a*((l.length+1:Nat):Int)=a*l.length+a:=by rw[Int.natCast_add,Int.mul_add];simp
  have k:b*((l.length+1:Nat):Int)=b*l.length+b:=by rw[Int.natCast_add,Int.mul_add];simp
  omega
def run {σ α:Type} (cb:σ→α→Option (Bool×σ)):List α→σ→Option (Bool×σ)
 |[],s=>some (true,s)
 |x::l,s=>(cb s x).bind fun r=>cond r.1 (run cb l r.2) (some (false,r.2))
theorem run_pure{σ α:Type}{cb:σ→α→Option (Bool×σ)}{ok:α→Bool}:∀(l:List α) (s:σ),(∀x∈l,∀s,cb s x=some (ok x,s))→run cb l s=some (l.all ok,s)
 |[],s,_=>rfl
 |x::l,s,h=>by
  rw[run,bd (h x (List.mem_cons_self ..) s),List.all_cons];cases ok x with
  |false=>rfl
  |true=>exact run_pure l s fun y a=>h y (List.mem_cons_of_mem _ a)
section
variable{K:Nat}(hK:1000≤K)
include hK
end
def LC (lo hi a b:Int):Bool:=decide (a≤lo)&&(decide (lo≤hi)&&decide (hi≤b))
theorem OS{lo hi a b:Int}:LC lo hi a b=true↔a≤lo∧lo≤hi∧hi≤b:=by simp[LC]
def LD(c:Cu)(l:List Int):Bool:=l.all (fun x=>J2 x 0 30)&&(l.length==c.BM.length)
def M4(c:Cu)(l:List Int):Bool:=LD c l&&decide (0<l.sum)
def No(c:Cu)(t:CM):Bool:=J2 t.Number 0 ((cond t.C5 c.CI.length c.BM.length:Nat)-1)&&LC t.B7 t.B8 0 100
def Q3(r:Bb):Int:=r.Hi-r.Lo+1
def K5(l:List Bb):Int:=l.foldl (fun n r=>n*Q3 r) 1
def IF(c:Cu):Int:=
 if 3<c.BM.length∨3<c.CI.length∨5<c.C1.length then 3
 else if c.BM.length=0 then 1
 else if !(c.BM.all fun r=>LC r.Lo r.Hi 0 100) then 1
 else if !(c.CI.all (M4 c)) then 1
 else if !(c.C1.all (No c)) then 1
 else if 2000<K5 c.BM then 3 else 0
theorem Np{c:Cu}{l:List Int}(h:LD c l=true):l.length=c.BM.length∧∀x∈l,0≤x∧x≤30:=by
 unfold LD at h;rw[Bool.and_eq_true,List.all_eq_true,beq_iff_eq] at h;exact⟨h.2,fun x a=>JC.1 (h.1 x a)⟩
def Ox(r:Bb):Prop:=0≤r.Lo∧r.Lo≤r.Hi∧r.Hi≤100
theorem OT{r:Bb}:LC r.Lo r.Hi 0 100=true↔Ox r:=OS
theorem N8{l:List Bb}(h:(l.all fun r=>LC r.Lo r.Hi 0 100)=true):∀r∈l,Ox r:=fun r a=>OT.1 (List.all_eq_true.1 h r a)
section
variable{K:Nat}(hK:1000≤K)
include hK
end
def Bw.C(t:Bw):Cu:=⟨t.Ag,t.Ae,t.Af⟩
def JD:Int→Int→List Az→Bool
 |_,_,[]=>true
 |s,p,g::l=>J2 g.BB 0 (s-1)&&(J2 g.Cn 0 p&&JD g.BB g.Cn l)
def LF(t:Bw)(o:AO):Bool:=J2 o.Cz 0 ((t.Av.length:Nat)-1)&&J2 o.Cw 1 90
def Oy(t:Bw)(n:AS):Bool:=J2 n.C5 0 ((t.Ae.length:Nat)-1)&&LC n.B3 n.B4 0 9000
def LG(t:Bw):Int:=
 if IF t.C≠0 then IF t.C
 else if 3<t.Av.length∨3<t.Au.length∨5<t.AI.length then 3
 else if !(J2 t.Flat 0 100) then 1
 else if t.Av.length=0 then 1
 else if !(JD 101 100 t.Av) then 1
 else if !(t.Au.all (LF t)) then 1
 else if !(t.AI.all (Oy t)) then 1 else 0
def Qk (c:Cu):Prop:=c.BM.length≤100∧c.CI.length≤100∧c.C1.length≤100∧∀l∈c.CI,l.length≤100
def Ry(t:Bw):Prop:=Qk t.C∧t.Av.length≤100∧t.Au.length≤100∧t.AI.length≤100
section
variable{K:Nat}(hK:1000≤K)
include hK
end
structure OkC (c:Cu):Prop where
 len:Qk c
 fault:IF c=0
 many:K5 c.BM≤150
theorem Hz{c:Cu}(h:IF c=0):c.BM.length≤3∧c.CI.length≤3∧c.C1.length≤5∧0<c.BM.length∧(∀r∈c.BM,Ox r)∧(∀l∈c.CI,M4 c l=true)∧(∀t∈c.C1,No c t=true)∧K5 c.BM≤2000:=by
 unfold IF at h;split at h
 ·omega
 rename_i e
 split at h
 ·omega
 rename_i f
 split at h
 ·omega
 rename_i a
 split at h
 ·omega
 rename_i b
 split at h
 ·omega
 rename_i d
 split at h
 ·omega
 rename_i g
 refine⟨by omega,by omega,by omega,by omega,N8 (by simpa using a),?_,?_,by omega⟩
 ·exact List.all_eq_true.1 (by simpa using b)
 ·exact List.all_eq_true.1 (by simpa using d)
namespace OkC
variable{c:Cu}(h:OkC c)
include h
theorem hl:c.BM.length≤3:=(Hz h.fault).1
theorem cl:c.CI.length≤3:=(Hz h.fault).2.1
theorem h0:0<c.BM.length:=(Hz h.fault).2.2.2.1
theorem ok:∀r∈c.BM,Ox r:=(Hz h.fault).2.2.2.2.1
theorem DB:∀l∈c.CI,l.length=c.BM.length∧(∀x∈l,0≤x∧x≤30)∧0<l.sum∧l.sum≤90:=fun l hl=>by
 have d:=(Hz h.fault).2.2.2.2.2.1 l hl;unfold M4 at d;rw[Bool.and_eq_true,decide_eq_true_eq] at d;have e:=Np d.1;have f:=Nn (a:=0) (b:=30) (by omega) (by omega) l e.2;have g:=h.hl;exact⟨e.1,e.2,d.2,by omega⟩
end OkC
section
variable{K:Nat}(hK:1000≤K)
include hK
end
structure OkT(t:Bw):Prop where
 len:Ry t
 fault:LG t=0
 many:K5 t.Ag≤150
theorem HN{t:Bw}(h:LG t=0):IF t.C=0∧t.Av.length≤3∧t.Au.length≤3∧t.AI.length≤5∧(0≤t.Flat∧t.Flat≤100)∧0<t.Av.length∧JD 101 100 t.Av=true∧(∀o∈t.Au,LF t o=true)∧∀n∈t.AI,Oy t n=true:=by
 unfold LG at h;split at h
 ·rename_i h0;exact absurd h h0
 rename_i h0
 split at h
 ·omega
 rename_i e
 split at h
 ·omega
 rename_i a
 split at h
 ·omega
 rename_i f
 split at h
 ·omega
 rename_i b
 split at h
 ·omega
 rename_i c
 split at h
 ·omega
 rename_i d
 refine⟨Decidable.byContradiction h0,by omega,by omega,by omega,JC.1 (by simpa using a),by omega,by simpa using b,?_,?_⟩
 ·exact List.all_eq_true.1 (by simpa using c)
 ·exact List.all_eq_true.1 (by simpa using d)
namespace OkT
variable{t:Bw}(h:OkT t)
include h
theorem c:OkC t.C:=⟨h.len.1,(HN h.fault).1,h.many⟩
theorem flat:0≤t.Flat∧t.Flat≤100:=(HN h.fault).2.2.2.2.1
theorem gr:JD 101 100 t.Av=true:=(HN h.fault).2.2.2.2.2.2.1
theorem order:∀o∈t.Au,(0≤o.Cz∧o.Cz<t.Av.length)∧1≤o.Cw∧o.Cw≤90:=fun o b=>by
 have a:=(HN h.fault).2.2.2.2.2.2.2.1 o b;unfold LF at a;rw[Bool.and_eq_true] at a;have c:=JC.1 a.1;exact⟨by omega,JC.1 a.2⟩
theorem DB:∀w∈t.Ae,w.length=t.Ag.length∧(∀x∈w,0≤x∧x≤30)∧0<w.sum∧w.sum≤90:=h.c.DB
theorem hl:t.Ag.length≤3:=h.c.hl
end OkT
section
variable{K:Nat}(hK:1000≤K)
include hK
end
section
variable{K:Nat}(hK:1000≤K)
include hK
end
def Iz(x:Int):List Int→List Int
 |[]=>[x]
 |y::l=>cond (decide (x≤y)) (x::y::l) (y::Iz x l)
def IG:List Int→List Int
 |[]=>[]
 |x::l=>Iz x (IG l)
theorem LH(x z:Int):∀l,z∈Iz x l↔z=x∨z∈l
 |[]=>by simp[Iz]
 |y::l=>by
  unfold Iz;cases h:decide (x≤y)
  ·simp[LH x z l];constructor<;>(rintro(h|h|h)<;>simp[h])
  ·simp
theorem KU(x:Int):∀l,(Iz x l).Perm (x::l)
 |[]=>.refl _
 |y::l=>by
  unfold Iz;cases h:decide (x≤y)
  ·exact((KU x l).cons y).trans (.swap x y l)
  ·exact .refl _
theorem J3:∀l,(IG l).Perm l
 |[]=>.refl _
 |x::l=>(KU x _).trans ((J3 l).cons x)
theorem J4(x:Int):∀l,l.Pairwise (· ≤·)→(Iz x l).Pairwise (· ≤·)
 |[],_=>by simp[Iz]
 |y::l,h=>by
  unfold Iz;cases c:decide (x≤y)
  ·have b:¬x≤y:=by simpa using c
   rw[List.pairwise_cons] at h;refine List.pairwise_cons.2 ⟨fun z a=>?_,J4 x l h.2⟩;rcases(LH x z l).1 a with rfl|a
   ·omega
   ·exact h.1 z a
  ·have b:x≤y:=by simpa using c
   refine List.pairwise_cons.2 ⟨fun z a=>?_,h⟩;rcases List.mem_cons.1 a with rfl|a
   ·exact b
   ·exact Int.le_trans b ((List.pairwise_cons.1 h).1 z a)
theorem I9:∀l,(IG l).Pairwise (· ≤·)
 |[]=>.nil
 |x::l=>J4 x _ (I9 l)
theorem N9(l:List Int):Gg l=IG l:=by
 have d:(Gg l).Pairwise (· ≤·):=by
  have:=List.pairwise_mergeSort (le:=fun(x y:Int)=>decide (x≤y)) (by intro a b c;simp;omega) (by intro a b;simp;omega) l;exact this.imp (fun h=>by simpa using h)
 refine List.Perm.eq_of_pairwise (le:=(· ≤·)) (fun a b _ _ e f=>Int.le_antisymm e f) d (I9 l) ?_;exact(List.mergeSort_perm l _).trans (J3 l).symm
def JE(a:Nat)(d:BJ)(b:List Int):Option (Bool×(List (List Int×Int))):=
 (Eb a d).bind fun c=>(Ec b c a ([]:List Int) (0:Int)).bind fun z3=>(Gd ((z3.length:Int)≤100000)).bind fun _=>(Gd (((IG z3).length:Int)≤100000)).bind fun _=>some ((decide (((Lib.compact (IG z3)).length:Int)<(b.length:Int)),c.2))
theorem LI:Ed=JE:=by
 funext K a b;unfold Ed JE;simp only[N9]
def Jq(b:Nat)(c:List Int)(d:BJ):Option (Bool×(List (List Int×Int))):=
 (JE b d c).bind fun a=>some ((a.1,a.2))
theorem M5:EX=Jq:=by
 funext K a b;unfold EX Jq;rw[LI]
def IH(d:Nat)(e:Bw):Option ((List Int)×Int):=
 (CN d e true).bind fun b=>Option.elim b.1 (cond (b.2 !=0) (some ((([]:List Int),b.2))) (none)) (fun a=>cond (b.2 !=0) (some ((([]:List Int),b.2))) ((Ft d (fun(st:(List (List Int×Int))) (x:(List Int))=>(Jq d x (⟨a.Ao,a.Ap,a.Ak,a.By,a.AD,a.AA,a.AP,a.weights,a.BH,st⟩:BJ)).bind fun r=>some (r.1,r.2)) (e.Au.length:Int) a.known).bind fun c=>cond (!c.2.1) (some ((([]:List Int),7))) (some ((c.1,0)))))
theorem LJ:E5=IH:=by
 funext K a;unfold E5 IH;rw[M5]
def KI(a:Nat):Option (Bool):=
 (Ar a 0).bind fun aA=>(EP a aA [41,62]).bind fun o=>(Ar a 0).bind fun aB=>(Ff a aB).bind fun d=>(Ar a 0).bind fun p=>(Db a p [0,1]).bind fun b=>(Ar a 0).bind fun q=>(F9 a q).bind fun c=>(Ar a 1).bind fun r=>(Gb a r).bind fun e=>(Ar a 0).bind fun s=>(IH a s).bind fun f=>(Ar a 2).bind fun t=>(FI a t).bind fun g=>(Ar a 2).bind fun u=>(FJ a u).bind fun h=>cond (o.2==0) ((Cx a o.1 [80,120]).bind fun v=>cond (v) (cond (d.2==0) (cond ((d.1.length:Int)==2) ((idx d.1 (0:Int)).bind fun i=>(Ch a 40 80).bind fun k=>cond ([i.Lo,i.Hi]==[k.Lo,k.Hi]) ((idx d.1 (1:Int)).bind fun l=>(Ch a 120 120).bind fun m=>cond ([l.Lo,l.Hi]==[m.Lo,m.Hi]) (cond (b.2==0) ((Ch a 160 200).bind fun n=>cond ([b.1.Lo,b.1.Hi]==[n.Lo,n.Hi]) (cond (c.2.2==0) ((Cx a c.1 [1]).bind fun w=>cond (w) (cond (c.2.1==180) (cond (e.2==0) ((Cx a e.1 [1,0]).bind fun x=>cond (x) (cond (f.2==0) ((Cx a f.1 [0,1]).bind fun y=>cond (y) (cond (g.2==0) (cond (g.1==1) (cond (h.2==0) ((Cx a h.1 [0]).bind fun z=>some (z)) (some (false))) (some (false))) (some (false))) (some (false))) (some (false))) (some (false))) (some (false))) (some (false))) (some (false))) (some (false))) (some (false))) (some (false))) (some (false))) (some (false))) (some (false))) (some (false))) (some (false))) (some (false))
theorem Oa:Ev=KI:=by
 funext K;unfold Ev KI;rw[LJ]
end Go.Proofs.YtcdofnchafcfpaaGreat
end
section
namespace Go.Proofs.YtcdofnchafcfpaaGreat
namespace HF
theorem mixed:Tryz.prog.follows .mixedOrders=true:=by kernel_rfl
theorem JF(b:Nat)(w:World):(Instr.fieldAt 71 (.pointer (some ⟨b,0,none⟩)) 0).run Tryz.prog w=.ok (.pointer (some ⟨b,0,none⟩)) w:=by kernel_rfl
theorem BN:One Tryz.prog 3:=by unfold One;exact⟨by kernel_rfl,by kernel_rfl⟩
theorem JG(b:Nat)(w:World):(Instr.fieldAt 71 (.pointer (some ⟨b,0,none⟩)) 1).run Tryz.prog w=.ok (.pointer (some ⟨b,1,none⟩)) w:=by kernel_rfl
theorem Kx:Bg Tryz.prog 78:=by unfold Bg;kernel_rfl
theorem C2:(Tryz.prog.info? 3).map (·.size)=some 1:=by kernel_rfl
theorem Mr(b:Nat)(w:World):(Instr.fieldAt 73 (.pointer (some ⟨b,0,none⟩)) 0).run Tryz.prog w=.ok (.pointer (some ⟨b,0,none⟩)) w:=by kernel_rfl
theorem Iu:One Tryz.prog 4:=by unfold One;exact⟨by kernel_rfl,by kernel_rfl⟩
theorem Fg(b:Nat)(w:World):(Instr.fieldAt 38 (.pointer (some ⟨b,0,none⟩)) 0).run Tryz.prog w=.ok (.pointer (some ⟨b,0,none⟩)) w:=by kernel_rfl
theorem Gr:One Tryz.prog 35:=by unfold One;exact⟨by kernel_rfl,by kernel_rfl⟩
theorem JH(b:Nat)(w:World):(Instr.fieldAt 73 (.pointer (some ⟨b,0,none⟩)) 1).run Tryz.prog w=.ok (.pointer (some ⟨b,1,none⟩)) w:=by kernel_rfl
theorem Ms:Bg Tryz.prog 137:=by unfold Bg;kernel_rfl
theorem OU:One Tryz.prog 161:=by unfold One;exact⟨by kernel_rfl,by kernel_rfl⟩
theorem GP:Eu Tryz.prog 71 2:=by unfold Eu;exact⟨by kernel_rfl,by kernel_rfl⟩
theorem I4:(Tryz.prog.info? 71).map (·.size)=some 2:=by kernel_rfl
theorem OV:Bg Tryz.prog 159:=by unfold Bg;kernel_rfl
theorem OW:Bg Tryz.prog 132:=by unfold Bg;kernel_rfl
theorem OX:Bg Tryz.prog 131:=by unfold Bg;kernel_rfl
theorem LK:One Tryz.prog 92:=by unfold One;exact⟨by kernel_rfl,by kernel_rfl⟩
theorem FE:(Tryz.prog.info? 31).map (·.size)=some 1:=by kernel_rfl
theorem C4:One Tryz.prog 31:=by unfold One;exact⟨by kernel_rfl,by kernel_rfl⟩
theorem OY:Bg Tryz.prog 160:=by unfold Bg;kernel_rfl
theorem OZ:Bg Tryz.prog 134:=by unfold Bg;kernel_rfl
theorem O0:Bg Tryz.prog 133:=by unfold Bg;kernel_rfl
theorem O1:One Tryz.prog 159:=by unfold One;exact⟨by kernel_rfl,by kernel_rfl⟩
theorem Ky:Eu Tryz.prog 73 4:=by unfold Eu;exact⟨by kernel_rfl,by kernel_rfl⟩
theorem M6:(Tryz.prog.info? 73).map (·.size)=some 4:=by kernel_rfl
theorem O2:Bg Tryz.prog 161:=by unfold Bg;kernel_rfl
theorem O3:Bg Tryz.prog 136:=by unfold Bg;kernel_rfl
theorem O4:Bg Tryz.prog 135:=by unfold Bg;kernel_rfl
theorem II:One Tryz.prog 86:=by unfold One;exact⟨by kernel_rfl,by kernel_rfl⟩
theorem O5:Bg Tryz.prog 142:=by unfold Bg;kernel_rfl
theorem O6:Bg Tryz.prog 169:=by unfold Bg;kernel_rfl
theorem Mt:Bg Tryz.prog 122:=by unfold Bg;kernel_rfl
theorem O7:Bg Tryz.prog 158:=by unfold Bg;kernel_rfl
theorem O8:Bg Tryz.prog 157:=by unfold Bg;kernel_rfl
theorem Ew:Eu Tryz.prog 38 3:=by unfold Eu;exact⟨by kernel_rfl,by kernel_rfl⟩
theorem O9:Bg Tryz.prog 129:=by unfold Bg;kernel_rfl
theorem Mu:Bg Tryz.prog 130:=by unfold Bg;kernel_rfl
theorem Gu(b:Nat)(w:World):(Instr.fieldAt 38 (.pointer (some ⟨b,0,none⟩)) 1).run Tryz.prog w=.ok (.pointer (some ⟨b,1,none⟩)) w:=by kernel_rfl
theorem Gs:One Tryz.prog 23:=by unfold One;exact⟨by kernel_rfl,by kernel_rfl⟩
theorem KJ(b:Nat)(w:World):(Instr.fieldAt 73 (.pointer (some ⟨b,0,none⟩)) 2).run Tryz.prog w=.ok (.pointer (some ⟨b,2,none⟩)) w:=by kernel_rfl
theorem KK:Bg Tryz.prog 105:=by unfold Bg;kernel_rfl
theorem JI(b:Nat)(w:World):(Instr.fieldAt 38 (.pointer (some ⟨b,0,none⟩)) 2).run Tryz.prog w=.ok (.pointer (some ⟨b,2,none⟩)) w:=by kernel_rfl
theorem LL:One Tryz.prog 36:=by unfold One;exact⟨by kernel_rfl,by kernel_rfl⟩
theorem Pa:Bg Tryz.prog 104:=by unfold Bg;kernel_rfl
theorem Pb:Bg Tryz.prog 103:=by unfold Bg;kernel_rfl
theorem Pc:Bg Tryz.prog 106:=by unfold Bg;kernel_rfl
theorem Pd:Bg Tryz.prog 102:=by unfold Bg;kernel_rfl
theorem Pe:Bg Tryz.prog 107:=by unfold Bg;kernel_rfl
theorem KL:(Tryz.prog.info? 71).bind (·.zero)=some (.agg #[I 0,I 0]):=by kernel_rfl
theorem Pf:Bg Tryz.prog 109:=by unfold Bg;kernel_rfl
theorem Pg:Bg Tryz.prog 108:=by unfold Bg;kernel_rfl
theorem Ql:Bg Tryz.prog 94:=by unfold Bg;kernel_rfl
theorem Gv:Eu Tryz.prog 136 3:=by unfold Eu;exact⟨by kernel_rfl,by kernel_rfl⟩
theorem Mw:Bg Tryz.prog 119:=by unfold Bg;kernel_rfl
theorem Ph:(Tryz.prog.info? 73).bind (·.zero)=some (.agg #[.bool false,I 0,I 0,I 0]):=by kernel_rfl
theorem Im:Bg Tryz.prog 59:=by unfold Bg;kernel_rfl
theorem Pj:Bg Tryz.prog 128:=by unfold Bg;kernel_rfl
theorem Pk:Bg Tryz.prog 118:=by unfold Bg;kernel_rfl
theorem Mx:Bg Tryz.prog 127:=by unfold Bg;kernel_rfl
theorem Ke:(Tryz.prog.info? 136).bind (·.zero)=some (.agg #[I 0,I 0,I 0]):=by kernel_rfl
theorem Jr:(Tryz.prog.info? 136).map (·.size)=some 3:=by kernel_rfl
theorem LM:Bg Tryz.prog 71:=by unfold Bg;kernel_rfl
theorem Nq:Bg Tryz.prog 99:=by unfold Bg;kernel_rfl
theorem GQ:(Tryz.prog.info? 3).map (fun i=>(i.zero,i.size,i.bytes))=some (some (I 0),1,8):=by kernel_rfl
theorem Pl:Bg Tryz.prog 100:=by unfold Bg;kernel_rfl
theorem My:(Tryz.prog.info? 86).bind (·.zero)=some (.nilFunc):=by kernel_rfl
theorem Oz:(Tryz.prog.info? 86).map (·.size)=some 1:=by kernel_rfl
theorem H7(b:Nat)(w:World):(Instr.fieldAt 60 (.pointer (some ⟨b,0,none⟩)) 0).run Tryz.prog w=.ok (.pointer (some ⟨b,0,none⟩)) w:=by kernel_rfl
theorem IJ(b:Nat)(w:World):(Instr.fieldAt 60 (.pointer (some ⟨b,0,none⟩)) 1).run Tryz.prog w=.ok (.pointer (some ⟨b,1,none⟩)) w:=by kernel_rfl
theorem HR:Bg Tryz.prog 93:=by unfold Bg;kernel_rfl
theorem Gw:(Tryz.prog.info? 60).bind (·.zero)=some (.agg #[I 0,I 0]):=by kernel_rfl
theorem Pm:Bg Tryz.prog 121:=by unfold Bg;kernel_rfl
theorem EZ:(Tryz.prog.info? 60).map (·.size)=some 2:=by kernel_rfl
theorem Ee:Eu Tryz.prog 60 2:=by unfold Eu;exact⟨by kernel_rfl,by kernel_rfl⟩
theorem Fh(b:Nat)(w:World):(Instr.fieldAt 53 (.pointer (some ⟨b,0,none⟩)) 0).run Tryz.prog w=.ok (.pointer (some ⟨b,0,none⟩)) w:=by kernel_rfl
theorem Mz(b:Nat)(w:World):(Instr.fieldAt 77 (.pointer (some ⟨b,0,none⟩)) 0).run Tryz.prog w=.ok (.pointer (some ⟨b,0,none⟩)) w:=by kernel_rfl
theorem H8(b:Nat)(w:World):(Instr.fieldAt 53 (.pointer (some ⟨b,0,none⟩)) 2).run Tryz.prog w=.ok (.pointer (some ⟨b,4,none⟩)) w:=by kernel_rfl
theorem HS:One Tryz.prog 49:=by unfold One;exact⟨by kernel_rfl,by kernel_rfl⟩
theorem MA(b:Nat)(w:World):(Instr.fieldAt 77 (.pointer (some ⟨b,0,none⟩)) 1).run Tryz.prog w=.ok (.pointer (some ⟨b,1,none⟩)) w:=by kernel_rfl
theorem Cp:Eu Tryz.prog 53 7:=by unfold Eu;exact⟨by kernel_rfl,by kernel_rfl⟩
theorem MB(b:Nat)(w:World):(Instr.fieldAt 79 (.pointer (some ⟨b,0,none⟩)) 0).run Tryz.prog w=.ok (.pointer (some ⟨b,0,none⟩)) w:=by kernel_rfl
theorem Nr:Bg Tryz.prog 67:=by unfold Bg;kernel_rfl
theorem MC(b:Nat)(w:World):(Instr.fieldAt 79 (.pointer (some ⟨b,0,none⟩)) 1).run Tryz.prog w=.ok (.pointer (some ⟨b,1,none⟩)) w:=by kernel_rfl
theorem Pn:Bg Tryz.prog 101:=by unfold Bg;kernel_rfl
theorem Po:One Tryz.prog 167:=by unfold One;exact⟨by kernel_rfl,by kernel_rfl⟩
theorem Js:Eu Tryz.prog 48 2:=by unfold Eu;exact⟨by kernel_rfl,by kernel_rfl⟩
theorem H4:(Tryz.prog.info? 48).map (·.size)=some 2:=by kernel_rfl
theorem Pp:Bg Tryz.prog 162:=by unfold Bg;kernel_rfl
theorem Pq:Bg Tryz.prog 139:=by unfold Bg;kernel_rfl
theorem Pr:Bg Tryz.prog 138:=by unfold Bg;kernel_rfl
theorem Ps:One Tryz.prog 124:=by unfold One;exact⟨by kernel_rfl,by kernel_rfl⟩
theorem Jt:Eu Tryz.prog 77 2:=by unfold Eu;exact⟨by kernel_rfl,by kernel_rfl⟩
theorem JJ:(Tryz.prog.info? 77).map (·.size)=some 2:=by kernel_rfl
theorem Pt:Bg Tryz.prog 140:=by unfold Bg;kernel_rfl
theorem Pu:Bg Tryz.prog 113:=by unfold Bg;kernel_rfl
theorem Pv:Bg Tryz.prog 112:=by unfold Bg;kernel_rfl
theorem Pw:One Tryz.prog 125:=by unfold One;exact⟨by kernel_rfl,by kernel_rfl⟩
theorem LN:Eu Tryz.prog 79 3:=by unfold Eu;exact⟨by kernel_rfl,by kernel_rfl⟩
theorem H5:(Tryz.prog.info? 79).map (·.size)=some 3:=by kernel_rfl
theorem Px:Bg Tryz.prog 141:=by unfold Bg;kernel_rfl
theorem Py:Bg Tryz.prog 115:=by unfold Bg;kernel_rfl
theorem Pz:Bg Tryz.prog 114:=by unfold Bg;kernel_rfl
theorem PA:Bg Tryz.prog 123:=by unfold Bg;kernel_rfl
theorem KM(b:Nat)(w:World):(Instr.fieldAt 48 (.pointer (some ⟨b,0,none⟩)) 0).run Tryz.prog w=.ok (.pointer (some ⟨b,0,none⟩)) w:=by kernel_rfl
theorem KN(b:Nat)(w:World):(Instr.fieldAt 48 (.pointer (some ⟨b,0,none⟩)) 1).run Tryz.prog w=.ok (.pointer (some ⟨b,1,none⟩)) w:=by kernel_rfl
theorem MD:(Tryz.prog.info? 48).bind (·.zero)=some (.agg #[I 0,I 0]):=by kernel_rfl
theorem PB:Bg Tryz.prog 111:=by unfold Bg;kernel_rfl
theorem PC:Bg Tryz.prog 110:=by unfold Bg;kernel_rfl
theorem GW(b:Nat)(w:World):(Instr.fieldAt 53 (.pointer (some ⟨b,0,none⟩)) 3).run Tryz.prog w=.ok (.pointer (some ⟨b,5,none⟩)) w:=by kernel_rfl
theorem G7:One Tryz.prog 50:=by unfold One;exact⟨by kernel_rfl,by kernel_rfl⟩
theorem GX(b:Nat)(w:World):(Instr.fieldAt 53 (.pointer (some ⟨b,0,none⟩)) 4).run Tryz.prog w=.ok (.pointer (some ⟨b,6,none⟩)) w:=by kernel_rfl
theorem Io:One Tryz.prog 51:=by unfold One;exact⟨by kernel_rfl,by kernel_rfl⟩
theorem ME(b:Nat)(w:World):(Instr.fieldAt 53 (.pointer (some ⟨b,0,none⟩)) 1).run Tryz.prog w=.ok (.pointer (some ⟨b,3,none⟩)) w:=by kernel_rfl
theorem Qm:Bg Tryz.prog 72:=by unfold Bg;kernel_rfl
theorem Qn:Bg Tryz.prog 73:=by unfold Bg;kernel_rfl
theorem Qo:Bg Tryz.prog 69:=by unfold Bg;kernel_rfl
theorem Qp:Bg Tryz.prog 74:=by unfold Bg;kernel_rfl
theorem Qq:Bg Tryz.prog 70:=by unfold Bg;kernel_rfl
theorem Qr:Bg Tryz.prog 75:=by unfold Bg;kernel_rfl
theorem MF:(Tryz.prog.info? 60).map (fun i=>(i.zero,i.size,i.bytes))=some (some (.agg #[I 0,I 0]),2,16):=by kernel_rfl
theorem MG:I8 Tryz.prog 147 2:=Km 2 Tryz.underlying147 (by kernel_rfl) rfl rfl BN Tryz.underlying3
theorem LO:Lk Tryz.prog 147 2:=Ma 2 Tryz.underlying147 rfl rfl BN Tryz.underlying3
theorem KV:IY Tryz.prog 147:=by unfold IY;kernel_rfl
theorem RA:(Tryz.prog.info? 3).bind (·.zero)=some (I 0):=by kernel_rfl
theorem I5(b:Nat)(w:World):(Instr.fieldAt 109 (.pointer (some ⟨b,0,none⟩)) 1).run Tryz.prog w=.ok (.pointer (some ⟨b,7,none⟩)) w:=by kernel_rfl
theorem PD(w:World):(Op.equal 31 (.slice none 0 0) (.slice none 0 0)).run Tryz.prog w=.ok true w:=by kernel_rfl
theorem PE(ad:Addr)(n c:Nat)(w:World):(Op.equal 31 (.slice (some ad) n c) (.slice none 0 0)).run Tryz.prog w=.ok false w:=by kernel_rfl
theorem Ju:Bg Tryz.prog 50:=by unfold Bg;kernel_rfl
theorem Kz:One Tryz.prog 55:=by unfold One;exact⟨by kernel_rfl,by kernel_rfl⟩
theorem PF:Bg Tryz.prog 156:=by unfold Bg;kernel_rfl
theorem PG(b o:Nat)(w:World):(Instr.fieldAt 60 (.pointer (some ⟨b,o,none⟩)) 0).run Tryz.prog w=.ok (.pointer (some ⟨b,o,none⟩)) w:=by kernel_rfl
theorem MH:Bg Tryz.prog 155:=by unfold Bg;kernel_rfl
theorem JK:(Tryz.prog.info? 31).bind (·.zero)=some (.slice none 0 0):=by kernel_rfl
theorem I6:(Tryz.prog.info? 102).bind (·.zero)=some (.agg #[I 0,I 0,I 0]):=by kernel_rfl
theorem Qs:Bg Tryz.prog 87:=by unfold Bg;kernel_rfl
theorem GY:Eu Tryz.prog 102 3:=by unfold Eu;exact⟨by kernel_rfl,by kernel_rfl⟩
theorem IK:(Tryz.prog.info? 102).map (·.size)=some 3:=by kernel_rfl
theorem LP:Bg Tryz.prog 47:=by unfold Bg;kernel_rfl
theorem IL:(Tryz.prog.info? 99).bind (·.zero)=some (.pointer none):=by kernel_rfl
theorem KA:(Tryz.prog.info? 99).map (·.size)=some 1:=by kernel_rfl
theorem Ns:Bg Tryz.prog 84:=by unfold Bg;kernel_rfl
theorem PH:Bg Tryz.prog 126:=by unfold Bg;kernel_rfl
theorem Nt:Bg Tryz.prog 65:=by unfold Bg;kernel_rfl
theorem LQ:Bg Tryz.prog 49:=by unfold Bg;kernel_rfl
theorem Dv:One Tryz.prog 99:=by unfold One;exact⟨by kernel_rfl,by kernel_rfl⟩
theorem Gp(b:Nat)(w:World):(Instr.fieldAt 109 (.pointer (some ⟨b,0,none⟩)) 2).run Tryz.prog w=.ok (.pointer (some ⟨b,8,none⟩)) w:=by kernel_rfl
theorem Hm:One Tryz.prog 106:=by unfold One;exact⟨by kernel_rfl,by kernel_rfl⟩
theorem LR:(Tryz.prog.info? 102).map (fun i=>(i.zero,i.size,i.bytes))=some (some (.agg #[I 0,I 0,I 0]),3,24):=by kernel_rfl
theorem Nu:(Tryz.prog.info? 106).map (·.size)=some 1:=by kernel_rfl
theorem PI:Tryz.prog.eqGuardType Tryz.prog.depth 102=false:=by kernel_rfl
theorem PJ:I8 Tryz.prog 102 3:=M9 Tryz.underlying102 BN Tryz.underlying3
theorem PK:Bg Tryz.prog 154:=by unfold Bg;kernel_rfl
theorem LS(b o:Nat)(w:World):(Instr.fieldAt 109 (.pointer (some ⟨b,o,none⟩)) 3).run Tryz.prog w=.ok (.pointer (some ⟨b,o+9,none⟩)) w:=by kernel_rfl
theorem MI:One Tryz.prog 107:=by unfold One;exact⟨by kernel_rfl,by kernel_rfl⟩
theorem MJ:Eu Tryz.prog 147 2:=by unfold Eu;exact⟨by kernel_rfl,by kernel_rfl⟩
theorem HH(b o:Nat)(w:World):(Instr.fieldAt 109 (.pointer (some ⟨b,o,none⟩)) 0).run Tryz.prog w=.ok (.pointer (some ⟨b,o,none⟩)) w:=by kernel_rfl
theorem MK(b o:Nat)(w:World):(Instr.fieldAt 53 (.pointer (some ⟨b,o,none⟩)) 2).run Tryz.prog w=.ok (.pointer (some ⟨b,o+4,none⟩)) w:=by kernel_rfl
theorem Ob(b:Nat)(w:World):(Instr.fieldAt 147 (.pointer (some ⟨b,0,none⟩)) 1).run Tryz.prog w=.ok (.pointer (some ⟨b,1,none⟩)) w:=by kernel_rfl
theorem GR(b o:Nat)(w:World):(Instr.fieldAt 109 (.pointer (some ⟨b,o,none⟩)) 1).run Tryz.prog w=.ok (.pointer (some ⟨b,o+7,none⟩)) w:=by kernel_rfl
theorem Oc(b:Nat)(w:World):(Instr.fieldAt 147 (.pointer (some ⟨b,0,none⟩)) 0).run Tryz.prog w=.ok (.pointer (some ⟨b,0,none⟩)) w:=by kernel_rfl
theorem JL:(Tryz.prog.info? 98).bind (·.zero)=some (.agg #[I 0,I 0,I 0]):=by kernel_rfl
theorem Qt:Bg Tryz.prog 86:=by unfold Bg;kernel_rfl
theorem IM:Eu Tryz.prog 98 3:=by unfold Eu;exact⟨by kernel_rfl,by kernel_rfl⟩
theorem K6:(Tryz.prog.info? 98).map (·.size)=some 3:=by kernel_rfl
theorem PL:(Tryz.prog.info? 79).bind (·.zero)=some (.agg #[I 0,I 0,I 0]):=by kernel_rfl
theorem Nv:Bg Tryz.prog 85:=by unfold Bg;kernel_rfl
theorem Od(b o:Nat)(w:World):(Instr.fieldAt 109 (.pointer (some ⟨b,o,none⟩)) 2).run Tryz.prog w=.ok (.pointer (some ⟨b,o+8,none⟩)) w:=by kernel_rfl
theorem LU:Bg Tryz.prog 48:=by unfold Bg;kernel_rfl
theorem LW:Bg Tryz.prog 66:=by unfold Bg;kernel_rfl
theorem LX:(Tryz.prog.info? 4).bind (·.zero)=some (.bool false):=by kernel_rfl
theorem LY:Bg Tryz.prog 88:=by unfold Bg;kernel_rfl
theorem Kf:(Tryz.prog.info? 4).map (·.size)=some 1:=by kernel_rfl
theorem KO:Bg Tryz.prog 120:=by unfold Bg;kernel_rfl
theorem GS:Bg Tryz.prog 30:=by unfold Bg;kernel_rfl
theorem Qu:Bg Tryz.prog 46:=by unfold Bg;kernel_rfl
theorem Qv:Bg Tryz.prog 98:=by unfold Bg;kernel_rfl
theorem LZ:Bg Tryz.prog 63:=by unfold Bg;kernel_rfl
theorem L0:Bg Tryz.prog 64:=by unfold Bg;kernel_rfl
theorem PN:One Tryz.prog 111:=by unfold One;exact⟨by kernel_rfl,by kernel_rfl⟩
theorem Nw:Bg Tryz.prog 89:=by unfold Bg;kernel_rfl
theorem Ip:Bg Tryz.prog 51:=by unfold Bg;kernel_rfl
theorem L1:(Tryz.prog.info? 3).bind (·.zero)=some (I 0):=by kernel_rfl
theorem Qw:Bg Tryz.prog 53:=by unfold Bg;kernel_rfl
theorem Nx:Bg Tryz.prog 52:=by unfold Bg;kernel_rfl
theorem Qx:Bg Tryz.prog 92:=by unfold Bg;kernel_rfl
theorem Qy:Bg Tryz.prog 91:=by unfold Bg;kernel_rfl
theorem PO(b o:Nat)(w:World):(Instr.fieldAt 53 (.pointer (some ⟨b,o,none⟩)) 1).run Tryz.prog w=.ok (.pointer (some ⟨b,o+3,none⟩)) w:=by kernel_rfl
theorem Qz:Bg Tryz.prog 90:=by unfold Bg;kernel_rfl
theorem L2:Bg Tryz.prog 56:=by unfold Bg;kernel_rfl
theorem L3:Bg Tryz.prog 54:=by unfold Bg;kernel_rfl
theorem IN:Bg Tryz.prog 19:=by unfold Bg;kernel_rfl
theorem ML(a:Value)(x1:Value)(w:World):(Instr.field 60 (.agg #[a,x1]) 0).run Tryz.prog w=.ok (a) w:=by kernel_rfl
theorem KP:One Tryz.prog 113:=by unfold One;exact⟨by kernel_rfl,by kernel_rfl⟩
theorem L4:Bg Tryz.prog 55:=by unfold Bg;kernel_rfl
theorem Oe:(Tryz.prog.info? 113).bind (·.zero)=some (.nilFunc):=by kernel_rfl
theorem QA:(Tryz.prog.info? 113).map (·.size)=some 1:=by kernel_rfl
theorem QB:Bg Tryz.prog 95:=by unfold Bg;kernel_rfl
theorem QC:Bg Tryz.prog 96:=by unfold Bg;kernel_rfl
theorem MM(b o:Nat)(w:World):(Instr.fieldAt 48 (.pointer (some ⟨b,o,none⟩)) 0).run Tryz.prog w=.ok (.pointer (some ⟨b,o,none⟩)) w:=by kernel_rfl
theorem PQ(b o:Nat)(w:World):(Instr.fieldAt 53 (.pointer (some ⟨b,o,none⟩)) 3).run Tryz.prog w=.ok (.pointer (some ⟨b,o+5,none⟩)) w:=by kernel_rfl
theorem PR:(Tryz.prog.info? 77).bind (·.zero)=some (.agg #[I 0,I 0]):=by kernel_rfl
theorem Ny:Bg Tryz.prog 68:=by unfold Bg;kernel_rfl
theorem PS:(Tryz.prog.info? 31).map (fun i=>(i.zero,i.size,i.bytes))=some (some (.slice none 0 0),1,24):=by kernel_rfl
theorem Nz:Bg Tryz.prog 58:=by unfold Bg;kernel_rfl
theorem NA:Bg Tryz.prog 57:=by unfold Bg;kernel_rfl
theorem PT:(Tryz.prog.info? 23).bind (·.zero)=some (.slice none 0 0):=by kernel_rfl
theorem Q4:(Tryz.prog.info? 23).map (·.size)=some 1:=by kernel_rfl
theorem MN:One Tryz.prog 142:=by unfold One;exact⟨by kernel_rfl,by kernel_rfl⟩
theorem NB:Bg Tryz.prog 97:=by unfold Bg;kernel_rfl
theorem Of:(Tryz.prog.info? 142).bind (·.zero)=some (.nilFunc):=by kernel_rfl
theorem QD:(Tryz.prog.info? 142).map (·.size)=some 1:=by kernel_rfl
theorem Og(b:Nat)(w:World):(Instr.fieldAt 118 (.pointer (some ⟨b,0,none⟩)) 0).run Tryz.prog w=.ok (.pointer (some ⟨b,0,none⟩)) w:=by kernel_rfl
theorem PU:One Tryz.prog 116:=by unfold One;exact⟨by kernel_rfl,by kernel_rfl⟩
theorem NC:Bg Tryz.prog 60:=by unfold Bg;kernel_rfl
theorem Oh:(Tryz.prog.info? 118).bind (·.zero)=some (.agg #[.nilFunc]):=by kernel_rfl
theorem QE:(Tryz.prog.info? 118).map (·.size)=some 1:=by kernel_rfl
theorem QF:Bg Tryz.prog 62:=by unfold Bg;kernel_rfl
theorem ND:Bg Tryz.prog 61:=by unfold Bg;kernel_rfl
theorem Oi(b:Nat)(w:World):(Instr.fieldAt 109 (.pointer (some ⟨b,0,none⟩)) 0).run Tryz.prog w=.ok (.pointer (some ⟨b,0,none⟩)) w:=by kernel_rfl
theorem OA:(Tryz.prog.info? 51).map (·.size)=some 1:=by kernel_rfl
theorem JM:(Tryz.prog.info? 38).bind (·.zero)=some (.agg #[.slice none 0 0,.slice none 0 0,.slice none 0 0]):=by kernel_rfl
theorem Q5:(Tryz.prog.info? 35).map (·.size)=some 1:=by kernel_rfl
theorem Q6:(Tryz.prog.info? 36).map (·.size)=some 1:=by kernel_rfl
theorem K7:(Tryz.prog.info? 38).map (·.size)=some 3:=by kernel_rfl
theorem Fi:(Tryz.prog.info? 53).bind (·.zero)=some (.agg #[.slice none 0 0,.slice none 0 0,.slice none 0 0,I 0,.slice none 0 0,.slice none 0 0,.slice none 0 0]):=by kernel_rfl
theorem Gc:Bg Tryz.prog 24:=by unfold Bg;kernel_rfl
theorem GZ:(Tryz.prog.info? 53).map (·.size)=some 7:=by kernel_rfl
theorem CJ:Bg Tryz.prog 18:=by unfold Bg;kernel_rfl
theorem L5:Bg Tryz.prog 14:=by unfold Bg;kernel_rfl
theorem NF:Bg Tryz.prog 15:=by unfold Bg;kernel_rfl
theorem NG:Bg Tryz.prog 16:=by unfold Bg;kernel_rfl
theorem NH:Bg Tryz.prog 20:=by unfold Bg;kernel_rfl
theorem L6:Bg Tryz.prog 21:=by unfold Bg;kernel_rfl
theorem NI:Bg Tryz.prog 29:=by unfold Bg;kernel_rfl
theorem NJ:Bg Tryz.prog 22:=by unfold Bg;kernel_rfl
theorem IP:Bg Tryz.prog 23:=by unfold Bg;kernel_rfl
theorem Jv:Tryz.prog.eqGuardType Tryz.prog.depth 60=false:=by kernel_rfl
theorem Jw:I8 Tryz.prog 60 2:=Km 2 Tryz.underlying60 (by kernel_rfl) rfl rfl BN Tryz.underlying3
theorem NK:Bg Tryz.prog 25:=by unfold Bg;kernel_rfl
theorem NL:Bg Tryz.prog 26:=by unfold Bg;kernel_rfl
theorem NM:Bg Tryz.prog 27:=by unfold Bg;kernel_rfl
theorem L7:Bg Tryz.prog 28:=by unfold Bg;kernel_rfl
theorem PV(b o:Nat)(w:World):(Instr.fieldAt 48 (.pointer (some ⟨b,o,none⟩)) 1).run Tryz.prog w=.ok (.pointer (some ⟨b,o+1,none⟩)) w:=by kernel_rfl
theorem PW(b o:Nat)(w:World):(Instr.fieldAt 77 (.pointer (some ⟨b,o,none⟩)) 0).run Tryz.prog w=.ok (.pointer (some ⟨b,o,none⟩)) w:=by kernel_rfl
theorem PX(b o:Nat)(w:World):(Instr.fieldAt 77 (.pointer (some ⟨b,o,none⟩)) 1).run Tryz.prog w=.ok (.pointer (some ⟨b,o+1,none⟩)) w:=by kernel_rfl
theorem PY(b o:Nat)(w:World):(Instr.fieldAt 79 (.pointer (some ⟨b,o,none⟩)) 0).run Tryz.prog w=.ok (.pointer (some ⟨b,o,none⟩)) w:=by kernel_rfl
theorem PZ:(Tryz.prog.info? 79).map (fun i=>(i.zero,i.size,i.bytes))=some (some (.agg #[I 0,I 0,I 0]),3,24):=by kernel_rfl
theorem QG:Bg Tryz.prog 31:=by unfold Bg;kernel_rfl
end HF
end Go.Proofs.YtcdofnchafcfpaaGreat
end
section
namespace Go.Proofs.YtcdofnchafcfpaaGreat
open Go.RowKit Go.WideShapes
set_option maxRecDepth 20000
open HF
attribute [local irreducible] B2 WL CC CW LV BI F7 Eu One Bg
theorem OB m b d e(Z:Nat→Prop) w l(c:FH m b d e=some l):
 BI Tryz.prog 78 #[I b,I d,I e] w (fun v w'=>Ext w w'∧Bu.R w' (zf Z w []) v l):=by
 unfold FH at c;refine rq (N:=15) Tryz.func78 fun n g o=>?_;have f:=sA 0 g;have i:=sA 1 g;have k:=sA 2 g;clear g;have h:Hp FN [] w [] w:=Hp.start (Bx.none w);refine cr<|wA (v:=.bool false) rfl<|wr<|wM (v:=I d) i<|wM (v:=I b) f<|wD (fun st=>G9 (eR st) (eR st))<|wM (v:=.bool (decide (d≤b))) rfl ?_;rcases Ah (decide (d≤b)) with a|a
 ·replace c:=Aw c a;refine wN a (v:=I b) f<|wN a (v:=I e) k<|wG a (fun st=>G9 (eR st) (eR st))<|wD (fun st=>Bn (v:=.bool (decide (b≤e))) (eR st) a (eR st))<|wA (v:=.bool (decide (b≤e))) rfl<|wn<|As ?_;obtain rfl:=oi c;refine AF rfl rfl ?_;exact⟨h.Bt,rfl⟩
 ·replace c:=Ax c a;refine wF a<|wF a<|wF a<|wD (fun st=>BC (v:=.bool false) (eR st) a (eR st))<|wA (v:=.bool false) rfl<|wn<|As ?_;obtain rfl:=oi c;refine AF rfl rfl ?_;exact⟨h.Bt,rfl⟩
theorem a105 m b(Z:Nat→Prop) w i(d:DS m b=some i):
 BI Tryz.prog 105 #[.agg #[I b.Lo,I b.Hi]] w (fun v w'=>Ext w w'∧Bu.R w' (zf Z w []) v i):=by
 unfold DS at d;refine rq (N:=18) Tryz.func105 fun n k o=>?_;have h:=sA 0 k;clear k;have g:Hp FN [] w [] w:=Hp.start (Bx.none w);refine cr<|wE (fun st=>BK (v:=.agg #[I b.Lo,I b.Hi]) (cs:= #[I b.Lo,I b.Hi]) (ee st h) rfl) ?_;rintro _ w1 ⟨p,rfl,e⟩;have f:=g.nb e;have l:=g.Bv e;refine wA (v:=.bool false) rfl<|wr<|wD (fun st=>Al (eR st) (JF _ _))<|wD (fun st=>Ay (v:=I b.Lo) BN (eR st) e.bk rfl)<|wD (fun st=>G9 (eR st) (eR st))<|wM (v:=.bool (decide ((0:Int)≤b.Lo))) rfl ?_;rcases Ah (decide ((0:Int)≤b.Lo)) with a|a
 ·replace d:=Aw d a;refine wG a (fun st=>Al (eR st) (JF _ _))<|wG a (fun st=>Ay (v:=I b.Lo) BN (eR st) e.bk rfl)<|wG a (fun st=>Al (eR st) (JG _ _))<|wG a (fun st=>Ay (v:=I b.Hi) BN (eR st) e.bk rfl)<|wG a (fun st=>G9 (eR st) (eR st))<|wD (fun st=>Bn (v:=.bool (decide (b.Lo≤b.Hi))) (eR st) a (eR st))<|wM (v:=.bool (decide (b.Lo≤b.Hi))) rfl ?_;rcases Ah (decide (b.Lo≤b.Hi)) with c|c
  ·replace d:=Aw d c;refine wG c (fun st=>Al (eR st) (JG _ _))<|wG c (fun st=>Ay (v:=I b.Hi) BN (eR st) e.bk rfl)<|wG c (fun st=>G9 (eR st) (eR st))<|wD (fun st=>Bn (v:=.bool (decide (b.Hi≤100))) (eR st) c (eR st))<|wA (v:=.bool (decide (b.Hi≤100))) rfl<|wn<|As ?_;obtain rfl:=oi d;refine AF rfl rfl ?_;exact⟨f.Bt,rfl⟩
  ·replace d:=Ax d c;refine wF c<|wF c<|wF c<|wD (fun st=>BC (v:=.bool false) (eR st) c (eR st))<|wA (v:=.bool false) rfl<|wn<|As ?_;obtain rfl:=oi d;refine AF rfl rfl ?_;exact⟨f.Bt,rfl⟩
 ·replace d:=Ax d a;refine wF a<|wF a<|wF a<|wF a<|wF a<|wD (fun st=>BC (v:=.bool false) (eR st) a (eR st))<|wM (v:=.bool false) rfl<|wH<|wH<|wH<|wD (fun st=>BC (v:=.bool false) (eR st) rfl (eR st))<|wA (v:=.bool false) rfl<|wn<|As ?_;obtain rfl:=oi d;refine AF rfl rfl ?_;exact⟨f.Bt,rfl⟩
theorem a109 m a(Z:Nat→Prop) w f(b:G1 m a=some f):
 BI Tryz.prog 109 #[.agg #[I a.Lo,I a.Hi]] w (fun v w'=>Ext w w'∧(C7 .i64).R w' (zf Z w []) v f):=by
 unfold G1 at b;refine rq (N:=9) Tryz.func109 fun n g o=>?_;have e:=sA 0 g;clear g;have d:Hp FN [] w [] w:=Hp.start (Bx.none w);refine cr<|wE (fun st=>BK (v:=.agg #[I a.Lo,I a.Hi]) (cs:= #[I a.Lo,I a.Hi]) (ee st e) rfl) ?_;rintro _ w1 ⟨p,rfl,c⟩;have h:=d.nb c;have l:=d.Bv c;refine wA (v:=I 0) rfl<|wr<|wD (fun st=>Al (eR st) (JG _ _))<|wD (fun st=>Ay (v:=I a.Hi) BN (eR st) c.bk rfl)<|wD (fun st=>Al (eR st) (JF _ _))<|wD (fun st=>Ay (v:=I a.Lo) BN (eR st) c.bk rfl) ?_;replace b:=Bo b;obtain⟨i,b⟩:=b;refine wD (fun st=>G8 (eR st) (eR st) i) ?_;replace b:=Bo b;obtain⟨k,b⟩:=b;refine wD (fun st=>Cf (eR st) (eR st) k)<|wA (v:=I ((a.Hi-a.Lo)+1)) rfl<|wn<|As ?_;obtain rfl:=oi b;refine AF rfl rfl ?_;exact⟨h.Bt,rfl⟩
theorem a127 i a d(Z:Nat→Prop) w k(c:Gh i a d=some k):
 BI Tryz.prog 127 #[.agg #[I a.Lo,I a.Hi],I d] w (fun v w'=>Ext w w'∧Bu.R w' (zf Z w []) v k):=by
 unfold Gh at c;refine rq (N:=11) Tryz.func127 fun r f s=>?_;have g:=sA 0 f;have h:=sA 1 f;clear f;have e:Hp FN [] w [] w:=Hp.start (Bx.none w);refine cr<|wE (fun st=>BK (v:=.agg #[I a.Lo,I a.Hi]) (cs:= #[I a.Lo,I a.Hi]) (ee st g) rfl) ?_;rintro _ w1 ⟨t,rfl,b⟩;have l:=e.nb b;have q:=e.Bv b;refine wA (v:=.bool false) rfl<|wr<|wM (v:=I d) h<|wD (fun st=>Al (eR st) (JF _ _))<|wD (fun st=>Ay (v:=I a.Lo) BN (eR st) b.bk rfl)<|wD (fun st=>Al (eR st) (JG _ _))<|wD (fun st=>Ay (v:=I a.Hi) BN (eR st) b.bk rfl) ?_;replace c:=bind_some c;obtain⟨m,n,c⟩:=c;refine wE (fun st=>An Kx (eR st) (GA (eR st) (eR st) (eR st)) (OB i d a.Lo a.Hi ZA _ m n)) ?_;rintro _ u ⟨o,rfl⟩;have p:=l.ext o;refine wA (v:=.bool m) rfl<|wn<|As ?_;obtain rfl:=oi c;refine AF rfl rfl ?_;exact⟨p.Bt,rfl⟩
theorem RB d b(Z:Nat→Prop) w e(a:Hb d b=some e):
 BI Tryz.prog 158 #[I b] w (fun v w'=>Ext w w'∧Bu.R w' (zf Z w []) v e):=by
 unfold Hb at a;refine rq (N:=5) Tryz.func158 fun m f n=>?_;have c:=sA 0 f;clear f;have g:Hp FN [] w [] w:=Hp.start (Bx.none w);refine cr<|wA (v:=.bool false) rfl<|wr<|wM (v:=I b) c ?_;replace a:=bind_some a;obtain⟨h,i,a⟩:=a;refine wE (fun st=>An Kx (eR st) (GA (eR st) (eR st) (eR st)) (OB d b 0 30 ZA _ h i)) ?_;rintro _ w2 ⟨k,rfl⟩;have l:=g.ext k;refine wA (v:=.bool h) rfl<|wn<|As ?_;obtain rfl:=oi a;refine AF rfl rfl ?_;exact⟨l.Bt,rfl⟩
theorem a130 aB i f g(Z:Nat→Prop) w(s:Sl (Am .i64) w Z f g i) aC(a:H3 aB i=some aC):
 BI Tryz.prog 130 #[.slice f i.length g] w (fun v w'=>Ext w w'∧(C7 .i64).R w' (zf Z w []) v aC):=by
 unfold H3 at a;refine rq (N:=16) Tryz.func130 fun aS aD aT=>?_;have x:=sA 0 aD;clear aD;have aE:Hp FN [] w [] w:=Hp.start (Bx.none w);have p:=s.mv (BL (Z:=Z) (L:=[]) w);refine cr<|wA (v:=I 0) rfl<|wn<|Aj<|cr<|wM (v:=.slice f i.length g) x<|wD (fun st=>BT Tryz.underlying31 (eR st))<|wM (v:=I 0) rfl<|wn<|Bi ?_;replace a:=bind_some a;obtain⟨t,e,a⟩:=a;refine Ct (fun aF d y=>(aF=.exit 0∧Fo X0 16 d∧sl d 2=I t∧w=y)) ?aG ?aH
 case aG=>
  clear a;refine Cs (fun z d y=>∃b,∃c,Hc i z b c=some t∧Fo X0 16 d∧sl d 2=I b∧sl d 5=.slice f i.length g∧sl d 6=I (i.length:Int)∧sl d 7=I c∧w=y) aB ?aI ?aJ
  case aI=>
   intro st;exact⟨(0:Int),(0:Int),e,qo st,sp st 2 rfl,sp st 5 rfl,sp st 6 rfl,sp st 7 rfl,rfl⟩
  case aJ=>
   rintro(_|z) aU _ ⟨b,c,e,aA,m,n,o,h,rfl⟩
   ·exact absurd (show none=some _ from e) (by simp)
   rw[Hc.eq_2] at e;have a:=e;clear e;refine ro aA<|cr<|wD (fun st=>CU (ee st h) (ee st o))<|wn<|Aj ?_;rcases Ah (decide (c<(i.length:Int))) with l|l
   ·replace a:=Aw a l;refine AB rfl l<|cn<|Aj<|Bi<|Aj<|Aq ?_;replace a:=BD a;obtain⟨i3,q,aK,aL,aM,a⟩:=a;obtain⟨aV,aW,_,aN,rfl,aO⟩:=Sl.Dt p rfl aL;refine wD (fun st=>Cc (k:=i3) Tryz.underlying31 C2 (ee st n) aN (ee st h) aK aM)<|wD (fun st=>CD (v:=I q) BN (eR st) aO rfl)<|wA (v:=I q) rfl<|wn<|Aq<|wM (v:=I b) m<|wM (v:=I q) rfl ?_;replace a:=Bo a;obtain⟨aP,a⟩:=a;refine wD (fun st=>Cf (eR st) (eR st) aP)<|wA (v:=I (b+q)) rfl<|Be<|Du<|Aq ?_;replace a:=Bo a;obtain⟨aQ,a⟩:=a;refine wD (fun st=>Cf (ee st h) (eR st) aQ)<|wM (v:=I (c+1)) rfl<|Be ?_;refine B1 z (Nat.lt_succ_self _) (fun st=>?_);exact⟨(b+q),(c+1),a,qo st,sp st 2 rfl,sp st 5 n,sp st 6 o,sp st 7 rfl,rfl⟩
   ·replace a:=Ax a l;refine AJ rfl l<|Ei ?_;obtain rfl:=oi a;refine Cg (fun st=>?_);exact⟨rfl,qo st,sp st 2 m,rfl⟩
 case aH=>
  rintro aF aR _ (⟨rfl,u,r,rfl⟩);refine lf u<|BA<|Br<|cr<|wM (v:=I t) r<|wA (v:=I t) rfl<|wn<|As ?_;obtain rfl:=oi a;refine AF rfl rfl ?_;exact⟨aE.Bt,rfl⟩
theorem RC aG f a b c g h i k(Z:Nat→Prop) w(n:Sl AH w Z b c f.BM)(o:Sl (BP (Am .i64)) w Z g h f.CI)(p:Sl AR w Z i k f.C1) aC(d:Gx aG f a=some aC):
 BI Tryz.prog 128 #[.agg (BG b c g h i k f).toArray,.agg #[.bool a.C5,I a.Number,I a.B7,I a.B8]] w (fun v w'=>Ext w w'∧(C7 .i64).R w' (zf Z w []) v aC):=by
 unfold Gx at d;refine rq (N:=15) Tryz.func128 fun aH u aI=>?_;have x:=sA 0 u;have y:=sA 1 u;clear u;have r:Hp FN [] w [] w:=Hp.start (Bx.none w);have ⟨z,aA,aB⟩:=GD n o p (BL (Z:=Z) (L:=[]) w);refine cr<|wE (fun st=>BK (v:=.agg (BG b c g h i k f).toArray) (cs:=(BG b c g h i k f).toArray) (ee st x) rfl) ?_;rintro _ w1 ⟨aJ,rfl,m⟩;have s:=r.nb m;have aE:=r.Bv m;refine wE (fun st=>BK (v:=.agg #[.bool a.C5,I a.Number,I a.B7,I a.B8]) (cs:= #[.bool a.C5,I a.Number,I a.B7,I a.B8]) (ee st y) rfl) ?_;rintro _ w2 ⟨aK,rfl,e⟩;have t:=s.nb e;have aF:=s.Bv e;refine wA (v:=I 0) rfl<|wn<|Aj<|cr<|wD (fun st=>Al (eR st) (Mr _ _))<|wD (fun st=>Ay (v:=.bool a.C5) Iu (eR st) e.bk rfl)<|wn ?_;rcases Ah (a.C5) with l|l
 ·replace d:=Aw d l;refine AB rfl l<|cr<|wD (fun st=>Al (eR st) (Fg _ _)) ?_;have q:=(m.bk.ext e.gr);refine wD (fun st=>Ay (v:=.slice b f.BM.length c) Gr (eR st) q rfl)<|wD (fun st=>BT Tryz.underlying35 (eR st))<|wD (fun st=>Al (eR st) (JH _ _))<|wD (fun st=>Ay (v:=I a.Number) BN (eR st) e.bk rfl) ?_;replace d:=Bo d;obtain⟨aD,d⟩:=d;refine wD (fun st=>Cf (eR st) (eR st) aD)<|wA (v:=I ((f.BM.length:Int)+a.Number)) rfl<|wn<|As<|Ba ?_;obtain rfl:=oi d;refine AF rfl rfl ?_;exact⟨t.Bt,rfl⟩
 ·replace d:=Ax d l;refine AJ rfl l<|cn<|cr<|wD (fun st=>Al (eR st) (JH _ _))<|wD (fun st=>Ay (v:=I a.Number) BN (eR st) e.bk rfl)<|wA (v:=I a.Number) rfl<|wn<|As ?_;obtain rfl:=oi d;refine AF rfl rfl ?_;exact⟨t.Bt,rfl⟩
theorem QH aA f c d(Z:Nat→Prop) w(s:Sl (Am .i64) w Z c d f) aB(a:Gi aA f=some aB):
 BI Tryz.prog 137 #[.slice c f.length d] w (fun v w'=>Ext w w'∧(C7 .i64).R w' (zf Z w []) v aB):=by
 unfold Gi at a;refine rq (N:=25) Tryz.func137 fun aV aC aW=>?_;have p:=sA 0 aC;clear aC;have aD:Hp FN [] w [] w:=Hp.start (Bx.none w);have h:=s.mv (BL (Z:=Z) (L:=[]) w);refine cr<|wA (v:=I 0) rfl<|wn<|Aj<|cr<|wM (v:=.slice c f.length d) p<|wD (fun st=>BT Tryz.underlying31 (eR st))<|wD (fun st=>CU (eR st) (eR st))<|wn ?_;rcases Ah (decide ((f.length:Int)<1)) with n|n
 ·replace a:=Aw a n;refine AB rfl n ?_;exact absurd a (by simp)
 ·replace a:=Ax a n;refine AJ rfl n<|cn<|cr<|wM (v:=.slice c f.length d) p ?_;replace a:=BD a;obtain⟨i2,x2,aE,aF,aG,a⟩:=a;obtain⟨aY,aZ,_,aH,rfl,aI⟩:=Sl.Dt h rfl aF;refine wD (fun st=>Cc (k:=i2) Tryz.underlying31 C2 (eR st) aH (eR st) aE aG)<|wD (fun st=>CD (v:=I x2) BN (eR st) aI rfl)<|wA (v:=I x2) rfl<|wn<|Aj<|cr<|wA (v:=I 1) rfl<|wn<|Bi ?_;replace a:=bind_some a;obtain⟨z3,i,a⟩:=a;refine Ct (fun aJ g u=>(aJ=.exit 0∧Fo X0 25 g∧sl g 3=I z3∧w=u)) ?aK ?aL
  case aK=>
   clear a;refine Cs (fun x g u=>∃e,∃b,Fu f x e b=some z3∧Fo X0 25 g∧sl g 0=.slice c f.length d∧sl g 3=I e∧sl g 4=I b∧w=u) aA ?aM ?aN
   case aM=>
    intro st;exact⟨x2,(1:Int),i,qo st,sp st 0 p,sp st 3 rfl,sp st 4 rfl,rfl⟩
   case aN=>
    rintro(_|x) aX _ ⟨e,b,i,y,l,q,m,rfl⟩
    ·exact absurd (show none=some _ from i) (by simp)
    rw[Fu.eq_2] at i;have a:=i;clear i;refine ro y<|Aj<|cr<|wM (v:=I b) m<|wM (v:=.slice c f.length d) l<|wD (fun st=>BT Tryz.underlying31 (eR st))<|wD (fun st=>CU (eR st) (eR st))<|wn ?_;rcases Ah (decide (b<(f.length:Int))) with o|o
    ·replace a:=Aw a o;refine AB rfl o<|cn<|Aj<|Bi<|Aq<|wM (v:=I e) q<|wM (v:=.slice c f.length d) l<|wM (v:=I b) m ?_;replace a:=BD a;obtain⟨i5,z,aO,aP,aQ,a⟩:=a;obtain⟨a0,a2,_,aR,rfl,aS⟩:=Sl.Dt h rfl aP;refine wD (fun st=>Cc (k:=i5) Tryz.underlying31 C2 (eR st) aR (eR st) aO aQ)<|wD (fun st=>CD (v:=I z) BN (eR st) aS rfl)<|wD (fun st=>QW (eR st) (eR st))<|wA (v:=I (min e z)) rfl<|Be<|Du<|Aq<|wM (v:=I b) m ?_;replace a:=Bo a;obtain⟨aT,a⟩:=a;refine wD (fun st=>Cf (eR st) (eR st) aT)<|wA (v:=I (b+1)) rfl<|Be ?_;refine B1 x (Nat.lt_succ_self _) (fun st=>?_);exact⟨(min e z),(b+1),a,qo st,sp st 0 l,sp st 3 rfl,sp st 4 rfl,rfl⟩
    ·replace a:=Ax a o;refine AJ rfl o<|Ei ?_;obtain rfl:=oi a;refine Cg (fun st=>?_);exact⟨rfl,qo st,sp st 3 q,rfl⟩
  case aL=>
   rintro aJ aU _ (⟨rfl,t,r,rfl⟩);refine lf t<|BA<|Br<|cr<|wM (v:=I z3) r<|wA (v:=I z3) rfl<|wn<|As ?_;obtain rfl:=oi a;refine AF rfl rfl ?_;exact⟨aD.Bt,rfl⟩
theorem RD h e a b(Z:Nat→Prop) w(f:Sl (Am .i64) w Z a b e) i(c:HE h e=some i):
 BI Tryz.prog 108 #[.slice a e.length b] w (fun v w'=>Ext w w'∧(C7 .i64).R w' (zf Z w []) v i):=by
 unfold HE at c;refine rq (N:=5) Tryz.func108 fun q k r=>?_;have g:=sA 0 k;clear k;have l:Hp FN [] w [] w:=Hp.start (Bx.none w);have d:=f.mv (BL (Z:=Z) (L:=[]) w);refine cr<|wA (v:=I 0) rfl<|wr<|wM (v:=.slice a e.length b) g ?_;replace c:=bind_some c;obtain⟨m,n,c⟩:=c;refine wE (fun st=>An Ms (eR st) (BR (eR st)) (QH h e a b ZA _ d.all m n)) ?_;rintro _ w2 ⟨o,rfl⟩;have p:=l.ext o;refine wA (v:=I m) rfl<|wn<|As ?_;obtain rfl:=oi c;refine AF rfl rfl ?_;exact⟨p.Bt,rfl⟩
theorem RE{t:Type}{f:Nat→Prop}{aO:Nat}{p:IT t}{aA:t→Bb→Option (Bool×t)} aY d(u:t) a(m:Value) c(Z Za:Nat→Prop) w(e:Cb Tryz.prog m f aO p (v1 (Cy AH)) Bu aA)(aP:aO≤w.heap.size)(aQ:Bx f [some a,c] w)(aR:∀b,Z b→¬f b∧some b∉[some a,c])(aZ:∀b,Z b→Za b)(aD:∀b,Za b→¬f b∧some b∉[some a,c])(aS:Bk w a 161 #[m])(a0:p u w Z c) aE(o:FM aY aA d u=some aE):
 BI Tryz.prog 132 #[.agg #[I d.Lo,I d.Hi],pt a 0] w (fun v w'=>∃o',Bz (FU f [some a,c]) w w'∧Bu.R w' (zf Z w [some a,o']) v aE.1∧Bk w' a 161 #[m]∧(∀k,o'=some k→(c=some k∨w.heap.size≤k)∧k<w'.heap.size)∧p aE.2 w' (zf Z w [some a,o']) o'):=by
 unfold FM at o;refine rq (N:=8) Tryz.func132 fun a4 aF a5=>?_;have aG:=sA 0 aF;have aH:=sA 1 aF;clear aF;obtain⟨aI,aT,q,aU,a2,aJ⟩:=Hu aQ aR aD;have aK:=e.mz a0 (AK (L:=[some a,c]) aU w);refine cr<|wE (fun st=>BK (v:=.agg #[I d.Lo,I d.Hi]) (cs:= #[I d.Lo,I d.Hi]) (ee st aG) rfl) ?_;rintro _ w1 ⟨x,rfl,g⟩;have i:=q.nb g;have aX:=q.Bv g;refine wA (v:=.bool false) rfl<|wn<|Aj<|Aq ?_;have n:=(aS.ext g.gr);refine wD (fun st=>Ay (v:=m) OU (ee st aH) n rfl)<|wD (fun st=>Bc (l:=[I d.Lo,I d.Hi]) GP (eR st) g.bk rfl rfl) ?_;have aL:p u w1 (ZZ f aI Z w.heap.size [some x,some a,c]) c:=(e.me aK q g.gr (Ac g));replace o:=bind_some o;obtain⟨aM,aV,o⟩:=o;refine wE (fun st=>DJ (e.call u d aM _ (ZZ f aI Z w.heap.size [some x,some a,c]) (ZC f [c]) c #[.agg #[I d.Lo,I d.Hi]] (Nat.le_trans aP i.sz) (i.zz (F':=f) (M:=[c]) (C:=[]) [2] [] ⟨rfl,trivial⟩ trivial (fun _ h=>.inl h)) Gf aL ⟨_,rfl,⟨_,rfl,rfl⟩⟩ aV) (eR st) (BR (eR st))) ?_;rintro _ a3 ⟨r,aB,s,rfl,aW⟩;have aC:=i.De aB (AE [2] ⟨rfl,trivial⟩ (fun _ h=>h)) 2 rfl s;have aN:p aM.2 a3 (ZZ f aI Z w.heap.size [some x,some a,r]) r:=e.mz aW (i.call (M:=[r]) (Nat.le_refl _) (BU ⟨.inr (hw s 2),trivial⟩) (Cr (L:=[some x,some a,c]) (y:=r) 2 (gm 0)));refine wD (fun st=>CB (eR st))<|wA (v:=.bool !aM.1) rfl<|wn<|As ?_;obtain rfl:=oi o;refine AF rfl rfl ?_;have z:=(n.B6 aB (i.Cm 1 rfl [2] rfl ⟨rfl,trivial⟩ (fun _ h=>h)));exact⟨r,aJ _ aC.fin,rfl,z,aC.mq 2 [1] (M:=[some a]) ⟨rfl,trivial⟩ aT,e.mz aN (AG (Bf [1,2] ⟨rfl,rfl,trivial⟩))⟩
theorem a159{aY:Type}{e:Nat→Prop}{bE:Nat}{aH:IT aY}{aR:aY→Bb→Option (Bool×aY)} bF t(a5:aY) n o(aJ:Value) aC(Z:Nat→Prop) w(q:Cb Tryz.prog aJ e bE aH (v1 (Cy AH)) Bu aR)(bG:bE≤w.heap.size)(bH:Bx e [aC] w)(bI:∀b,Z b→¬e b∧some b∉[aC])(aZ:Sl AH w Z n o t)(bX:aH a5 w Z aC) a6(a:Fm bF aR t a5=some a6):
 BI Tryz.prog 159 #[.slice n t.length o,aJ] w (fun v w'=>∃o',Bz (FU e [aC]) w w'∧(C7 .i64).R w' (zf Z w [o']) v a6.1∧(∀k,o'=some k→(aC=some k∨w.heap.size≤k)∧k<w'.heap.size)∧aH a6.2 w' (zf Z w [o']) o'):=by
 unfold Fm at a;refine rq (N:=19) Tryz.func159 fun b2 a7 b3=>?_;have aS:=sA 0 a7;have a8:=sA 1 a7;clear a7;obtain⟨aD,a0,bJ,a2,aT⟩:=Fl bH bI;have aO:=aZ.mv (AK (L:=[aC]) a2 w);have a9:=q.mz bX (AK (L:=[aC]) a2 w);refine cr<|wA (v:=I 0) rfl<|wn<|Aj<|cr<|wM (v:=.slice n t.length o) aS<|wD (fun st=>BT Tryz.underlying35 (eR st))<|wM (v:=I 0) rfl<|wn<|Bi ?_;replace a:=bind_some a;obtain⟨bA,u,a⟩:=a;refine Ct (fun bB f aE=>(bB=.ret∧∃p,bA=.inl p∧∃g,Fo X0 19 f∧sl f 4=I p.1∧Hp e aD w [g] aE∧aH p.2 aE (ZZ e aD Z w.heap.size [g]) g)∨(bB=.exit 0∧∃p,bA=.inr p∧∃i,Fo X0 19 f∧Hp e aD w [i] aE∧aH p aE (ZZ e aD Z w.heap.size [i]) i)) ?bK ?bL
 case bK=>
  clear a;refine Cs (fun bC f aE=>∃d,∃m,∃c,DN aR t bC d m=some bA∧Fo X0 19 f∧sl f 0=.slice n t.length o∧sl f 1=aJ∧sl f 7=I (t.length:Int)∧sl f 8=I d∧Hp e aD w [c] aE∧(fun bM=>aH m aE bM c∧Sl AH aE bM n o t) (ZZ e aD Z w.heap.size [c])) bF ?bN ?bO
  case bN=>
   intro st;exact⟨(0:Int),a5,aC,u,qo st,sp st 0 aS,sp st 1 a8,sp st 7 rfl,sp st 8 rfl,bJ,a9,aO⟩
  case bO=>
   rintro(_|bC) b4 b5 ⟨d,m,c,u,bD,aK,aL,aM,z,x,aN,r⟩
   ·exact absurd (show none=some _ from u) (by simp)
   rw[DN.eq_2] at u;have a:=u;clear u;refine ro bD<|cr<|wD (fun st=>CU (ee st z) (ee st aM))<|wn<|Aj ?_;rcases Ah (decide (d<(t.length:Int))) with aF|aF
   ·replace a:=Aw a aF;refine AB rfl aF<|cn<|Aj<|Bi<|cr<|wM (v:=I d) z<|wA (v:=I d) rfl<|wr<|wM (v:=aJ) aL<|wM (v:=.slice n t.length o) aK<|wM (v:=I d) rfl ?_;replace a:=BD a;obtain⟨i3,aU,bP,bQ,bR,a⟩:=a;obtain⟨b7,b8,_,bS,rfl,bT⟩:=Sl.elem r (by decide) bQ;refine wD (fun st=>Cd (k:=i3) Tryz.underlying35 I4 (eR st) bS (eR st) bP bR)<|wD (fun st=>CQ (l:=[I aU.Lo,I aU.Hi]) GP (eR st) bT rfl rfl) ?_;replace a:=bind_some a;obtain⟨aV,bU,a⟩:=a;refine wE (fun st=>DJ (q.call m aU aV _ (ZZ e aD Z w.heap.size [c]) (ZC e [c]) c #[.agg #[I aU.Lo,I aU.Hi]] (Nat.le_trans bG x.sz) (x.zz (F':=e) (M:=[c]) (C:=[]) [0] [] ⟨rfl,trivial⟩ trivial (fun _ h=>.inl h)) Gf aN ⟨_,rfl,⟨_,rfl,rfl⟩⟩ bU) (eR st) (BR (eR st))) ?_;rintro _ bY ⟨aP,a3,aI,rfl,bV⟩;have a4:=x.De a3 (AE [0] ⟨rfl,trivial⟩ (fun _ h=>h)) 0 rfl aI;have aW:aH aV.2 bY (ZZ e aD Z w.heap.size [aP]) aP:=q.mz bV (x.call (M:=[aP]) (Nat.le_refl _) (BU ⟨.inr (hw aI 0),trivial⟩) (Cr (L:=[c]) (y:=aP) 0 (gm 0)));refine wn ?_;rcases Ah (aV.1) with aG|aG
    ·replace a:=Aw a aG;refine AB rfl aG<|cr<|wM (v:=I d) rfl<|wA (v:=I d) rfl<|wn<|As<|Dk<|Ba ?_;obtain rfl:=oi a;refine Cg (fun st=>?_);exact .inl ⟨rfl,(d,aV.2),rfl,aP,qo st,sp st 4 rfl,a4,aW⟩
    ·replace a:=Ax a aG;refine AJ rfl aG<|CO<|Du<|Aq ?_;replace a:=Bo a;obtain⟨bW,a⟩:=a;refine wD (fun st=>Cf (ee st z) (eR st) bW)<|wM (v:=I (d+1)) rfl<|Be ?_;have aQ:=(r.mv (x.E1 a3 (AE [0] ⟨rfl,trivial⟩ (fun _ h=>h)) 0 rfl (fun k bZ=>(aI k bZ).1)));refine B1 bC (Nat.lt_succ_self _) (fun st=>?_);exact⟨(d+1),aV.2,aP,a,qo st,sp st 0 aK,sp st 1 aL,sp st 7 aM,sp st 8 rfl,a4,aW,aQ⟩
   ·replace a:=Ax a aF;refine AJ rfl aF<|Ei ?_;obtain rfl:=oi a;refine Cg (fun st=>?_);exact .inr ⟨rfl,m,rfl,c,qo st,x,aN⟩
 case bL=>
  rintro bB b1 b6 (⟨rfl,p,rfl,g,aA,aX,s,aB⟩|⟨rfl,p,rfl,i,aA,s,aB⟩)
  ·skip
   replace a:=Dp a;refine lf aA<|Dk ?_;obtain rfl:=oi a;refine AF rfl aX ?_;exact⟨g,aT _ s.fin,rfl,s.mq 0 [] (M:=[]) trivial a0,q.mz aB (AG (Bf [0] ⟨rfl,trivial⟩))⟩
  ·skip
   replace a:=Dq a;refine lf aA<|BA<|Br<|cr<|wA (v:=I (-1)) rfl<|wn<|As ?_;obtain rfl:=oi a;refine AF rfl rfl ?_;exact⟨i,aT _ s.fin,rfl,s.mq 0 [] (M:=[]) trivial a0,q.mz aB (AG (Bf [0] ⟨rfl,trivial⟩))⟩
theorem a131{q:Type}{f:Nat→Prop}{aI:Nat}{r:IT q}{t:q→Bb→Option (Bool×q)} aJ n(z:q) c d(i:Value) a(Z:Nat→Prop) w(e:Cb Tryz.prog i f aI r (v1 (Cy AH)) Bu t)(aK:aI≤w.heap.size)(aL:Bx f [a] w)(aM:∀b,Z b→¬f b∧some b∉[a])(s:Sl AH w Z c d n)(aS:r z w Z a) aA(l:EJ aJ t n z=some aA):
 BI Tryz.prog 131 #[.slice c n.length d,i] w (fun v w'=>∃o',Bz (FU f [a]) w w'∧Bu.R w' (zf Z w [o']) v aA.1∧(∀k,o'=some k→(a=some k∨w.heap.size≤k)∧k<w'.heap.size)∧r aA.2 w' (zf Z w [o']) o'):=by
 unfold EJ at l;refine rq (N:=9) Tryz.func131 fun aT aB aU=>?_;have aC:=sA 0 aB;have aD:=sA 1 aB;clear aB;obtain⟨aN,aO,g,u,aE⟩:=Fl aL aM;have m:=s.mv (AK (L:=[a]) u w);have aF:=e.mz aS (AK (L:=[a]) u w);refine cr<|wA (v:=.bool false) rfl<|wr<|wM (v:=.slice c n.length d) aC<|wM (v:=i) aD ?_;replace l:=bind_some l;obtain⟨aG,aP,l⟩:=l;refine wE (fun st=>An OV (eR st) (BV (eR st) (eR st)) (a159 aJ n z c d i a (ZZ f aN Z w.heap.size [a]) _ e (Nat.le_trans aK g.sz) (g.Ci (F':=f) (M:=[a]) (C:=[]) [0] [] rfl ⟨rfl,trivial⟩ trivial (fun _ h=>.inl h)) (g.zz (F':=f) (M:=[a]) (C:=[]) [0] [] ⟨rfl,trivial⟩ trivial (fun _ h=>.inl h)) m aF aG aP)) ?_;rintro _ w2 ⟨o,aQ,rfl,p,aR⟩;have x:=g.De aQ (AE [0] ⟨rfl,trivial⟩ (fun _ h=>h)) 0 rfl p;have aH:r aG.2 w2 (ZZ f aN Z w.heap.size [o]) o:=e.mz aR (g.call (M:=[o]) (Nat.le_refl _) (BU ⟨.inr (hw p 0),trivial⟩) (Cr (L:=[a]) (y:=o) 0 (gm 0)));refine wD (fun st=>HJ (eR st) (eR st))<|wA (v:=.bool (decide ((0:Int)≤aG.1))) rfl<|wn<|As ?_;obtain rfl:=oi l;refine AF rfl rfl ?_;exact⟨o,aE _ x.fin,rfl,x.mq 0 [] (M:=[]) trivial aO,e.mz aH (AG (Bf [0] ⟨rfl,trivial⟩))⟩
theorem RF{aA:Type}{f:Nat→Prop}{bB:Nat}{aB:IT aA}{aF:aA→Bb→Option (Bool×aA)} aK aG(aL:aA) m n(i:Value) d(Z:Nat→Prop) w(c:Cb Tryz.prog i f bB aB (v1 (Cy AH)) Bu aF)(bC:bB≤w.heap.size)(bD:Bx f [d] w)(bE:∀b,Z b→¬f b∧some b∉[d])(aM:Sl AH w Z m n aG)(t:aB aL w Z d) aR(aC:Hf aK aF aG aL=some aR):
 BI Tryz.prog 104 #[.slice m aG.length n,i] w (fun v w'=>∃o',Bz (FU f [d]) w w'∧Bu.R w' (zf Z w [o']) v aR.1∧(∀k,o'=some k→(d=some k∨w.heap.size≤k)∧k<w'.heap.size)∧aB aR.2 w' (zf Z w [o']) o'):=by
 unfold Hf at aC;refine rq (N:=9) Tryz.func104 fun bU aS bV=>?_;have aT:=sA 0 aS;have aU:=sA 1 aS;clear aS;obtain⟨aV,bF,aH,aN,aW⟩:=Fl bD bE;have aD:=aM.mv (AK (L:=[d]) aN w);have aX:=c.mz t (AK (L:=[d]) aN w);refine cr<|wE (fun st=>BK (v:=i) (cs:= #[i]) (ee st aU) c.fc) ?_;rintro _ w1 ⟨a,rfl,l⟩;have e:=aH.nb l;have bN:=aH.Bv l;refine wA (v:=.bool false) rfl<|wr<|wM (v:=.slice m aG.length n) aT<|wD (fun st=>CE (vs:= #[]) (us:= #[pt a 0]) Gq (BR (eR st))) ?_;have aO:=e.Ci (F':=f) (M:=[some a]) (C:=[]) [0] [] rfl ⟨rfl,trivial⟩ trivial (fun k q=>.inl ((fun _ h=>h) k q));have aY:Cb Tryz.prog (.func (.func 132) #[] #[pt a 0]) (FU f [some a]) w1.heap.size (fun(st:aA) aZ bO o=>(∀k,o=some k→k<aZ.heap.size∧¬(FU f [some a]) k)∧Bk aZ a 161 #[i]∧aB st aZ bO o) (v1 (Cy AH)) Bu (fun(st:aA) (x:Bb)=>(FM aK aF x st).bind fun r=>some (r.1,r.2)):=by
  refine⟨rfl,rfl,e.GC [0] ⟨rfl,trivial⟩ (fun _ h=>h),?_,?_,?_⟩
  ·intro st x r w1 a0 bG o vs a2 a3 u t a4 bP;obtain⟨g,p,z⟩:=t;obtain⟨_,rfl,⟨_,rfl,rfl⟩⟩:=a4;obtain⟨bQ,bR,bS⟩:=bind_some bP;obtain rfl:=Option.some.inj bS;refine(Dj OW rfl (RE aK x st a i o a0 bG w1 c (Nat.le_trans bC (Nat.le_trans e.sz a2)) ((aO.grow a2).snoc g) (fun b s=>CX (u b (a3 b s)).1 (u b (a3 b s)).2) a3 (fun b s=>CX (u b s).1 (u b s).2) p z bQ bR)).mono ?_;rintro v w2 ⟨o',a4,a5,a6,aP,bH⟩;exact⟨o',a4.lf,aP,a5,⟨aO.keep a2 g aP,a6,c.mz bH GL⟩⟩
  ·intro st w1 w2 a0 bW o t hm s;obtain⟨g,p,z⟩:=t;exact⟨fun k q=>⟨Nat.lt_of_lt_of_le (g k q).1 hm.size,(g k q).2⟩,p.Fk (s a (.inl (.inr (gm 0)))),c.HU _ _ _ _ _ _ z hm (fun b bI=>s b (bI.imp .inl id))⟩
  ·intro st w1 a0 o t k q;obtain⟨g,p,z⟩:=t;exact g k q
 have aE:=(aD.mv (Ac l));replace aC:=bind_some aC;obtain⟨a7,bJ,aC⟩:=aC;have a8:aB aL w1 (ZZ f aV Z w.heap.size [some a,d]) d:=(c.me aX aH l.gr (Ac l));refine wE (fun st=>An OX (eR st) (BV (eR st) (eR st)) (a131 aK aG aL m n (.func (.func 132) #[] #[pt a 0]) d (ZZ f aV Z w.heap.size [some a,d]) _ aY (Nat.le_refl _) (e.Ci (F':=(FU f [some a])) (M:=[d]) (C:=[some a]) [1] [0] rfl ⟨rfl,trivial⟩ ⟨rfl,trivial⟩ (Cl (fun _ h=>h))) (e.zz (F':=(FU f [some a])) (M:=[d]) (C:=[some a]) [1] [0] ⟨rfl,trivial⟩ ⟨rfl,trivial⟩ (Cl (fun _ h=>h))) aE ⟨(fun k q=>e.JY 1 (by rw[←q];rfl) [0] rfl ⟨rfl,trivial⟩),l.bk,a8⟩ a7 bJ)) ?_;rintro _ bT ⟨aI,bK,rfl,aJ,bL⟩;obtain⟨-,bM,a9⟩:=bL;have aQ:=e.De (Bz.cl (M1:=[some a]) (M2:=[d]) bK) (AE [0,1] ⟨rfl,rfl,trivial⟩ (fun _ h=>h)) 1 rfl aJ;have bA:aB a7.2 bT (ZZ f aV Z w.heap.size [some a,aI]) aI:=c.mz a9 (e.call (M:=[aI]) (Nat.le_refl _) (BU ⟨.inr (hw aJ 1),trivial⟩) (Cr (L:=[some a,d]) (y:=aI) 1 (gm 0)));refine wD (fun st=>CB (eR st))<|wA (v:=.bool !a7.1) rfl<|wn<|As ?_;obtain rfl:=oi aC;refine AF rfl rfl ?_;exact⟨aI,aW _ aQ.fin,rfl,aQ.mq 1 [] (M:=[]) trivial bF,c.mz bA (AG (Bf [1] ⟨rfl,trivial⟩))⟩
theorem RG{r:Type}{d:Nat→Prop}{aN:Nat}{s:IT r}{x:r→(List Int)→Option (Bool×r)} aW m(aC:r) f g a(l:Value) c(Z Za:Nat→Prop) w(i:Cb Tryz.prog l d aN s (v1 (DT (Am .i64))) Bu x)(aO:aN≤w.heap.size)(aP:Bx d [some a,c] w)(aQ:∀b,Z b→¬d b∧some b∉[some a,c])(aX:∀b,Z b→Za b)(aD:∀b,Za b→¬d b∧some b∉[some a,c])(t:Sl (Am .i64) w Za f g m)(z:Bk w a 92 #[l])(aY:s aC w Z c) aE(n:FZ aW x m aC=some aE):
 BI Tryz.prog 134 #[.slice f m.length g,pt a 0] w (fun v w'=>∃o',Bz (FU d [some a,c]) w w'∧Bu.R w' (zf Z w [some a,o']) v aE.1∧Bk w' a 92 #[l]∧(∀k,o'=some k→(c=some k∨w.heap.size≤k)∧k<w'.heap.size)∧s aE.2 w' (zf Z w [some a,o']) o'):=by
 unfold FZ at n;refine rq (N:=8) Tryz.func134 fun aZ aF a0=>?_;have aG:=sA 0 aF;have aH:=sA 1 aF;clear aF;obtain⟨aR,aS,e,aT,aI,aJ⟩:=Hu aP aQ aD;have o:=t.mv (AK (L:=[some a,c]) aI w);have aK:=i.mz aY (AK (L:=[some a,c]) aT w);refine cr<|wA (v:=.bool false) rfl<|wr<|wD (fun st=>Ay (v:=l) LK (ee st aH) z rfl)<|wM (v:=.slice f m.length g) aG ?_;replace n:=bind_some n;obtain⟨aL,aU,n⟩:=n;refine wE (fun st=>DJ (i.call aC m aL _ (ZZ d aR Z w.heap.size [some a,c]) (ZC d [c]) c #[.slice f m.length g] (Nat.le_trans aO e.sz) (e.zz (F':=d) (M:=[c]) (C:=[]) [1] [] ⟨rfl,trivial⟩ trivial (fun _ h=>.inl h)) Gf aK ⟨_,rfl,⟨_,_,rfl,(o.mv (e.mz (F':=d) (M:=[c]) (C:=[]) [1] [] ⟨rfl,trivial⟩ trivial (fun _ h=>.inl h)))⟩⟩ aU) (eR st) (BR (eR st))) ?_;rintro _ w2 ⟨p,aA,q,rfl,aV⟩;have aB:=e.De aA (AE [1] ⟨rfl,trivial⟩ (fun _ h=>h)) 1 rfl q;have aM:s aL.2 w2 (ZZ d aR Z w.heap.size [some a,p]) p:=i.mz aV (e.call (M:=[p]) (Nat.le_refl _) (BU ⟨.inr (hw q 1),trivial⟩) (Cr (L:=[some a,c]) (y:=p) 1 (gm 0)));refine wD (fun st=>CB (eR st))<|wA (v:=.bool !aL.1) rfl<|wn<|As ?_;obtain rfl:=oi n;refine AF rfl rfl ?_;have u:=(z.B6 aA (e.Cm 0 rfl [1] rfl ⟨rfl,trivial⟩ (fun _ h=>h)));exact⟨p,aJ _ aB.fin,rfl,u,aB.mq 1 [0] (M:=[some a]) ⟨rfl,trivial⟩ aS,i.mz aM (AG (Bf [0,1] ⟨rfl,rfl,trivial⟩))⟩
theorem a160{aY:Type}{e:Nat→Prop}{bG:Nat}{aG:IT aY}{aQ:aY→(List Int)→Option (Bool×aY)} bH t(a6:aY) m n(aI:Value) aB(Z:Nat→Prop) w(p:Cb Tryz.prog aI e bG aG (v1 (DT (Am .i64))) Bu aQ)(bI:bG≤w.heap.size)(bJ:Bx e [aB] w)(bK:∀b,Z b→¬e b∧some b∉[aB])(aZ:Sl (BP (Am .i64)) w Z m n t)(bZ:aG a6 w Z aB) a7(a:FF bH aQ t a6=some a7):
 BI Tryz.prog 160 #[.slice m t.length n,aI] w (fun v w'=>∃o',Bz (FU e [aB]) w w'∧(C7 .i64).R w' (zf Z w [o']) v a7.1∧(∀k,o'=some k→(aB=some k∨w.heap.size≤k)∧k<w'.heap.size)∧aG a7.2 w' (zf Z w [o']) o'):=by
 unfold FF at a;refine rq (N:=19) Tryz.func160 fun b4 a8 b5=>?_;have aR:=sA 0 a8;have a9:=sA 1 a8;clear a8;obtain⟨aC,a2,bL,a3,aS⟩:=Fl bJ bK;have aN:=aZ.mv (AK (L:=[aB]) a3 w);have bA:=p.mz bZ (AK (L:=[aB]) a3 w);refine cr<|wA (v:=I 0) rfl<|wn<|Aj<|cr<|wM (v:=.slice m t.length n) aR<|wD (fun st=>BT Tryz.underlying23 (eR st))<|wM (v:=I 0) rfl<|wn<|Bi ?_;replace a:=bind_some a;obtain⟨bB,u,a⟩:=a;refine Ct (fun bC f aD=>(bC=.ret∧∃o,bB=.inl o∧∃g,Fo X0 19 f∧sl f 4=I o.1∧Hp e aC w [g] aD∧aG o.2 aD (ZZ e aC Z w.heap.size [g]) g)∨(bC=.exit 0∧∃o,bB=.inr o∧∃i,Fo X0 19 f∧Hp e aC w [i] aD∧aG o aD (ZZ e aC Z w.heap.size [i]) i)) ?bM ?bN
 case bM=>
  clear a;refine Cs (fun bD f aD=>∃d,∃l,∃c,DX aQ t bD d l=some bB∧Fo X0 19 f∧sl f 0=.slice m t.length n∧sl f 1=aI∧sl f 7=I (t.length:Int)∧sl f 8=I d∧Hp e aC w [c] aD∧(fun bO=>aG l aD bO c∧Sl (BP (Am .i64)) aD bO m n t) (ZZ e aC Z w.heap.size [c])) bH ?bP ?bQ
  case bP=>
   intro st;exact⟨(0:Int),a6,aB,u,qo st,sp st 0 aR,sp st 1 a9,sp st 7 rfl,sp st 8 rfl,bL,bA,aN⟩
  case bQ=>
   rintro(_|bD) b6 b7 ⟨d,l,c,u,bE,aJ,aK,aL,x,q,aM,r⟩
   ·exact absurd (show none=some _ from u) (by simp)
   rw[DX.eq_2] at u;have a:=u;clear u;refine ro bE<|cr<|wD (fun st=>CU (ee st x) (ee st aL))<|wn<|Aj ?_;rcases Ah (decide (d<(t.length:Int))) with aE|aE
   ·replace a:=Aw a aE;refine AB rfl aE<|cn<|Aj<|Bi<|cr<|wM (v:=I d) x<|wA (v:=I d) rfl<|wr<|wM (v:=aI) aK<|wM (v:=.slice m t.length n) aJ<|wM (v:=I d) rfl ?_;replace a:=BD a;obtain⟨i3,bF,bR,bS,bT,a⟩:=a;obtain⟨b9,cA,_,bU,⟨aT,aU,rfl,a0⟩,bV⟩:=Sl.Dt r rfl bS;refine wD (fun st=>Cc (k:=i3) Tryz.underlying23 FE (eR st) bU (eR st) bR bT)<|wD (fun st=>CD (v:=.slice aT bF.length aU) C4 (eR st) bV rfl) ?_;replace a:=bind_some a;obtain⟨aV,bW,a⟩:=a;refine wE (fun st=>DJ (p.call l bF aV _ (ZZ e aC Z w.heap.size [c]) (ZC e [c]) c #[.slice aT bF.length aU] (Nat.le_trans bI q.sz) (q.zz (F':=e) (M:=[c]) (C:=[]) [0] [] ⟨rfl,trivial⟩ trivial (fun _ h=>.inl h)) Gf aM ⟨_,rfl,⟨_,_,rfl,(a0.mv (q.mz (F':=e) (M:=[c]) (C:=[]) [0] [] ⟨rfl,trivial⟩ trivial (fun _ h=>.inl h)))⟩⟩ bW) (eR st) (BR (eR st))) ?_;rintro _ b1 ⟨aO,a4,aH,rfl,bX⟩;have a5:=q.De a4 (AE [0] ⟨rfl,trivial⟩ (fun _ h=>h)) 0 rfl aH;have aW:aG aV.2 b1 (ZZ e aC Z w.heap.size [aO]) aO:=p.mz bX (q.call (M:=[aO]) (Nat.le_refl _) (BU ⟨.inr (hw aH 0),trivial⟩) (Cr (L:=[c]) (y:=aO) 0 (gm 0)));refine wn ?_;rcases Ah (aV.1) with aF|aF
    ·replace a:=Aw a aF;refine AB rfl aF<|cr<|wM (v:=I d) rfl<|wA (v:=I d) rfl<|wn<|As<|Dk<|Ba ?_;obtain rfl:=oi a;refine Cg (fun st=>?_);exact .inl ⟨rfl,(d,aV.2),rfl,aO,qo st,sp st 4 rfl,a5,aW⟩
    ·replace a:=Ax a aF;refine AJ rfl aF<|CO<|Du<|Aq ?_;replace a:=Bo a;obtain⟨bY,a⟩:=a;refine wD (fun st=>Cf (ee st x) (eR st) bY)<|wM (v:=I (d+1)) rfl<|Be ?_;have aP:=(r.mv (q.E1 a4 (AE [0] ⟨rfl,trivial⟩ (fun _ h=>h)) 0 rfl (fun k b2=>(aH k b2).1)));refine B1 bD (Nat.lt_succ_self _) (fun st=>?_);exact⟨(d+1),aV.2,aO,a,qo st,sp st 0 aJ,sp st 1 aK,sp st 7 aL,sp st 8 rfl,a5,aW,aP⟩
   ·replace a:=Ax a aE;refine AJ rfl aE<|Ei ?_;obtain rfl:=oi a;refine Cg (fun st=>?_);exact .inr ⟨rfl,l,rfl,c,qo st,q,aM⟩
 case bN=>
  rintro bC b3 b8 (⟨rfl,o,rfl,g,z,aX,s,aA⟩|⟨rfl,o,rfl,i,z,s,aA⟩)
  ·skip
   replace a:=Dp a;refine lf z<|Dk ?_;obtain rfl:=oi a;refine AF rfl aX ?_;exact⟨g,aS _ s.fin,rfl,s.mq 0 [] (M:=[]) trivial a2,p.mz aA (AG (Bf [0] ⟨rfl,trivial⟩))⟩
  ·skip
   replace a:=Dq a;refine lf z<|BA<|Br<|cr<|wA (v:=I (-1)) rfl<|wn<|As ?_;obtain rfl:=oi a;refine AF rfl rfl ?_;exact⟨i,aS _ s.fin,rfl,s.mq 0 [] (M:=[]) trivial a2,p.mz aA (AG (Bf [0] ⟨rfl,trivial⟩))⟩
theorem RH{q:Type}{f:Nat→Prop}{aI:Nat}{r:IT q}{t:q→(List Int)→Option (Bool×q)} aJ n(z:q) c d(i:Value) a(Z:Nat→Prop) w(e:Cb Tryz.prog i f aI r (v1 (DT (Am .i64))) Bu t)(aK:aI≤w.heap.size)(aL:Bx f [a] w)(aM:∀b,Z b→¬f b∧some b∉[a])(s:Sl (BP (Am .i64)) w Z c d n)(aS:r z w Z a) aA(l:E2 aJ t n z=some aA):
 BI Tryz.prog 133 #[.slice c n.length d,i] w (fun v w'=>∃o',Bz (FU f [a]) w w'∧Bu.R w' (zf Z w [o']) v aA.1∧(∀k,o'=some k→(a=some k∨w.heap.size≤k)∧k<w'.heap.size)∧r aA.2 w' (zf Z w [o']) o'):=by
 unfold E2 at l;refine rq (N:=9) Tryz.func133 fun aT aB aU=>?_;have aC:=sA 0 aB;have aD:=sA 1 aB;clear aB;obtain⟨aN,aO,g,u,aE⟩:=Fl aL aM;have m:=s.mv (AK (L:=[a]) u w);have aF:=e.mz aS (AK (L:=[a]) u w);refine cr<|wA (v:=.bool false) rfl<|wr<|wM (v:=.slice c n.length d) aC<|wM (v:=i) aD ?_;replace l:=bind_some l;obtain⟨aG,aP,l⟩:=l;refine wE (fun st=>An OY (eR st) (BV (eR st) (eR st)) (a160 aJ n z c d i a (ZZ f aN Z w.heap.size [a]) _ e (Nat.le_trans aK g.sz) (g.Ci (F':=f) (M:=[a]) (C:=[]) [0] [] rfl ⟨rfl,trivial⟩ trivial (fun _ h=>.inl h)) (g.zz (F':=f) (M:=[a]) (C:=[]) [0] [] ⟨rfl,trivial⟩ trivial (fun _ h=>.inl h)) m aF aG aP)) ?_;rintro _ w2 ⟨o,aQ,rfl,p,aR⟩;have x:=g.De aQ (AE [0] ⟨rfl,trivial⟩ (fun _ h=>h)) 0 rfl p;have aH:r aG.2 w2 (ZZ f aN Z w.heap.size [o]) o:=e.mz aR (g.call (M:=[o]) (Nat.le_refl _) (BU ⟨.inr (hw p 0),trivial⟩) (Cr (L:=[a]) (y:=o) 0 (gm 0)));refine wD (fun st=>HJ (eR st) (eR st))<|wA (v:=.bool (decide ((0:Int)≤aG.1))) rfl<|wn<|As ?_;obtain rfl:=oi l;refine AF rfl rfl ?_;exact⟨o,aE _ x.fin,rfl,x.mq 0 [] (M:=[]) trivial aO,e.mz aH (AG (Bf [0] ⟨rfl,trivial⟩))⟩
theorem RI{aA:Type}{f:Nat→Prop}{bE:Nat}{aB:IT aA}{aF:aA→(List Int)→Option (Bool×aA)} aK aG(aL:aA) m n(i:Value) d(Z:Nat→Prop) w(c:Cb Tryz.prog i f bE aB (v1 (DT (Am .i64))) Bu aF)(bF:bE≤w.heap.size)(bG:Bx f [d] w)(bH:∀b,Z b→¬f b∧some b∉[d])(aM:Sl (BP (Am .i64)) w Z m n aG)(t:aB aL w Z d) aS(aC:Hv aK aF aG aL=some aS):
 BI Tryz.prog 106 #[.slice m aG.length n,i] w (fun v w'=>∃o',Bz (FU f [d]) w w'∧Bu.R w' (zf Z w [o']) v aS.1∧(∀k,o'=some k→(d=some k∨w.heap.size≤k)∧k<w'.heap.size)∧aB aS.2 w' (zf Z w [o']) o'):=by
 unfold Hv at aC;refine rq (N:=9) Tryz.func106 fun bX aT bY=>?_;have aU:=sA 0 aT;have aV:=sA 1 aT;clear aT;obtain⟨aW,bI,aH,aO,aX⟩:=Fl bG bH;have aD:=aM.mv (AK (L:=[d]) aO w);have aY:=c.mz t (AK (L:=[d]) aO w);refine cr<|wE (fun st=>BK (v:=i) (cs:= #[i]) (ee st aV) c.fc) ?_;rintro _ w1 ⟨a,rfl,l⟩;have e:=aH.nb l;have bQ:=aH.Bv l;refine wA (v:=.bool false) rfl<|wr<|wM (v:=.slice m aG.length n) aU<|wD (fun st=>CE (vs:= #[]) (us:= #[pt a 0]) Gq (BR (eR st))) ?_;have aP:=e.Ci (F':=f) (M:=[some a]) (C:=[]) [0] [] rfl ⟨rfl,trivial⟩ trivial (fun k q=>.inl ((fun _ h=>h) k q));have aZ:Cb Tryz.prog (.func (.func 134) #[] #[pt a 0]) (FU f [some a]) w1.heap.size (fun(st:aA) a0 bR o=>(∀k,o=some k→k<a0.heap.size∧¬(FU f [some a]) k)∧Bk a0 a 92 #[i]∧aB st a0 bR o) (v1 (DT (Am .i64))) Bu (fun(st:aA) (x:(List Int))=>(FZ aK aF x st).bind fun r=>some (r.1,r.2)):=by
  refine⟨rfl,rfl,e.GC [0] ⟨rfl,trivial⟩ (fun _ h=>h),?_,?_,?_⟩
  ·intro st x r w1 a2 bJ o vs a3 a4 u t a5 bS;obtain⟨g,p,z⟩:=t;obtain⟨_,rfl,⟨a6,a7,rfl,aN⟩⟩:=a5;obtain⟨bT,bU,bV⟩:=bind_some bS;obtain rfl:=Option.some.inj bV;refine(Dj OZ rfl (RG aK x st a6 a7 a i o a2 bJ w1 c (Nat.le_trans bF (Nat.le_trans e.sz a3)) ((aP.grow a3).snoc g) (fun b s=>CX (u b (a4 b s)).1 (u b (a4 b s)).2) a4 (fun b s=>CX (u b s).1 (u b s).2) aN p z bT bU)).mono ?_;rintro v w2 ⟨o',a5,a8,a9,aQ,bK⟩;exact⟨o',a5.lf,aQ,a8,⟨aP.keep a3 g aQ,a9,c.mz bK GL⟩⟩
  ·intro st w1 w2 a2 bZ o t hm s;obtain⟨g,p,z⟩:=t;exact⟨fun k q=>⟨Nat.lt_of_lt_of_le (g k q).1 hm.size,(g k q).2⟩,p.Fk (s a (.inl (.inr (gm 0)))),c.HU _ _ _ _ _ _ z hm (fun b bL=>s b (bL.imp .inl id))⟩
  ·intro st w1 a2 o t k q;obtain⟨g,p,z⟩:=t;exact g k q
 have aE:=(aD.mv (Ac l));replace aC:=bind_some aC;obtain⟨bA,bM,aC⟩:=aC;have bB:aB aL w1 (ZZ f aW Z w.heap.size [some a,d]) d:=(c.me aY aH l.gr (Ac l));refine wE (fun st=>An O0 (eR st) (BV (eR st) (eR st)) (RH aK aG aL m n (.func (.func 134) #[] #[pt a 0]) d (ZZ f aW Z w.heap.size [some a,d]) _ aZ (Nat.le_refl _) (e.Ci (F':=(FU f [some a])) (M:=[d]) (C:=[some a]) [1] [0] rfl ⟨rfl,trivial⟩ ⟨rfl,trivial⟩ (Cl (fun _ h=>h))) (e.zz (F':=(FU f [some a])) (M:=[d]) (C:=[some a]) [1] [0] ⟨rfl,trivial⟩ ⟨rfl,trivial⟩ (Cl (fun _ h=>h))) aE ⟨(fun k q=>e.JY 1 (by rw[←q];rfl) [0] rfl ⟨rfl,trivial⟩),l.bk,bB⟩ bA bM)) ?_;rintro _ bW ⟨aI,bN,rfl,aJ,bO⟩;obtain⟨-,bP,bC⟩:=bO;have aR:=e.De (Bz.cl (M1:=[some a]) (M2:=[d]) bN) (AE [0,1] ⟨rfl,rfl,trivial⟩ (fun _ h=>h)) 1 rfl aJ;have bD:aB bA.2 bW (ZZ f aW Z w.heap.size [some a,aI]) aI:=c.mz bC (e.call (M:=[aI]) (Nat.le_refl _) (BU ⟨.inr (hw aJ 1),trivial⟩) (Cr (L:=[some a,d]) (y:=aI) 1 (gm 0)));refine wD (fun st=>CB (eR st))<|wA (v:=.bool !bA.1) rfl<|wn<|As ?_;obtain rfl:=oi aC;refine AF rfl rfl ?_;exact⟨aI,aX _ aR.fin,rfl,aR.mq 1 [] (M:=[]) trivial bI,c.mz bD (AG (Bf [1] ⟨rfl,trivial⟩))⟩
theorem RJ{t:Type}{f:Nat→Prop}{aO:Nat}{p:IT t}{aA:t→CM→Option (Bool×t)} aY a(u:t) c(m:Value) d(Z Za:Nat→Prop) w(e:Cb Tryz.prog m f aO p (v1 (Cy AR)) Bu aA)(aP:aO≤w.heap.size)(aQ:Bx f [some c,d] w)(aR:∀b,Z b→¬f b∧some b∉[some c,d])(aZ:∀b,Z b→Za b)(aD:∀b,Za b→¬f b∧some b∉[some c,d])(aS:Bk w c 159 #[m])(a0:p u w Z d) aE(o:FO aY aA a u=some aE):
 BI Tryz.prog 136 #[.agg #[.bool a.C5,I a.Number,I a.B7,I a.B8],pt c 0] w (fun v w'=>∃o',Bz (FU f [some c,d]) w w'∧Bu.R w' (zf Z w [some c,o']) v aE.1∧Bk w' c 159 #[m]∧(∀k,o'=some k→(d=some k∨w.heap.size≤k)∧k<w'.heap.size)∧p aE.2 w' (zf Z w [some c,o']) o'):=by
 unfold FO at o;refine rq (N:=8) Tryz.func136 fun a4 aF a5=>?_;have aG:=sA 0 aF;have aH:=sA 1 aF;clear aF;obtain⟨aI,aT,q,aU,a2,aJ⟩:=Hu aQ aR aD;have aK:=e.mz a0 (AK (L:=[some c,d]) aU w);refine cr<|wE (fun st=>BK (v:=.agg #[.bool a.C5,I a.Number,I a.B7,I a.B8]) (cs:= #[.bool a.C5,I a.Number,I a.B7,I a.B8]) (ee st aG) rfl) ?_;rintro _ w1 ⟨x,rfl,g⟩;have i:=q.nb g;have aX:=q.Bv g;refine wA (v:=.bool false) rfl<|wn<|Aj<|Aq ?_;have n:=(aS.ext g.gr);refine wD (fun st=>Ay (v:=m) O1 (ee st aH) n rfl)<|wD (fun st=>Bc (l:=[.bool a.C5,I a.Number,I a.B7,I a.B8]) Ky (eR st) g.bk rfl rfl) ?_;have aL:p u w1 (ZZ f aI Z w.heap.size [some x,some c,d]) d:=(e.me aK q g.gr (Ac g));replace o:=bind_some o;obtain⟨aM,aV,o⟩:=o;refine wE (fun st=>DJ (e.call u a aM _ (ZZ f aI Z w.heap.size [some x,some c,d]) (ZC f [d]) d #[.agg #[.bool a.C5,I a.Number,I a.B7,I a.B8]] (Nat.le_trans aP i.sz) (i.zz (F':=f) (M:=[d]) (C:=[]) [2] [] ⟨rfl,trivial⟩ trivial (fun _ h=>.inl h)) Gf aL ⟨_,rfl,⟨_,rfl,rfl⟩⟩ aV) (eR st) (BR (eR st))) ?_;rintro _ a3 ⟨r,aB,s,rfl,aW⟩;have aC:=i.De aB (AE [2] ⟨rfl,trivial⟩ (fun _ h=>h)) 2 rfl s;have aN:p aM.2 a3 (ZZ f aI Z w.heap.size [some x,some c,r]) r:=e.mz aW (i.call (M:=[r]) (Nat.le_refl _) (BU ⟨.inr (hw s 2),trivial⟩) (Cr (L:=[some x,some c,d]) (y:=r) 2 (gm 0)));refine wD (fun st=>CB (eR st))<|wA (v:=.bool !aM.1) rfl<|wn<|As ?_;obtain rfl:=oi o;refine AF rfl rfl ?_;have z:=(n.B6 aB (i.Cm 1 rfl [2] rfl ⟨rfl,trivial⟩ (fun _ h=>h)));exact⟨r,aJ _ aC.fin,rfl,z,aC.mq 2 [1] (M:=[some c]) ⟨rfl,trivial⟩ aT,e.mz aN (AG (Bf [1,2] ⟨rfl,rfl,trivial⟩))⟩
theorem RK{aY:Type}{e:Nat→Prop}{bE:Nat}{aI:IT aY}{aS:aY→CM→Option (Bool×aY)} bF t(a5:aY) n o(aK:Value) aD(Z:Nat→Prop) w(q:Cb Tryz.prog aK e bE aI (v1 (Cy AR)) Bu aS)(bG:bE≤w.heap.size)(bH:Bx e [aD] w)(bI:∀b,Z b→¬e b∧some b∉[aD])(aZ:Sl AR w Z n o t)(bX:aI a5 w Z aD) a6(a:Fp bF aS t a5=some a6):
 BI Tryz.prog 161 #[.slice n t.length o,aK] w (fun v w'=>∃o',Bz (FU e [aD]) w w'∧(C7 .i64).R w' (zf Z w [o']) v a6.1∧(∀k,o'=some k→(aD=some k∨w.heap.size≤k)∧k<w'.heap.size)∧aI a6.2 w' (zf Z w [o']) o'):=by
 unfold Fp at a;refine rq (N:=19) Tryz.func161 fun b2 a7 b3=>?_;have aT:=sA 0 a7;have a8:=sA 1 a7;clear a7;obtain⟨aE,a0,bJ,a2,aU⟩:=Fl bH bI;have aP:=aZ.mv (AK (L:=[aD]) a2 w);have a9:=q.mz bX (AK (L:=[aD]) a2 w);refine cr<|wA (v:=I 0) rfl<|wn<|Aj<|cr<|wM (v:=.slice n t.length o) aT<|wD (fun st=>BT Tryz.underlying36 (eR st))<|wM (v:=I 0) rfl<|wn<|Bi ?_;replace a:=bind_some a;obtain⟨bA,u,a⟩:=a;refine Ct (fun bB f aF=>(bB=.ret∧∃p,bA=.inl p∧∃g,Fo X0 19 f∧sl f 4=I p.1∧Hp e aE w [g] aF∧aI p.2 aF (ZZ e aE Z w.heap.size [g]) g)∨(bB=.exit 0∧∃p,bA=.inr p∧∃i,Fo X0 19 f∧Hp e aE w [i] aF∧aI p aF (ZZ e aE Z w.heap.size [i]) i)) ?bK ?bL
 case bK=>
  clear a;refine Cs (fun bC f aF=>∃d,∃m,∃c,DO aS t bC d m=some bA∧Fo X0 19 f∧sl f 0=.slice n t.length o∧sl f 1=aK∧sl f 7=I (t.length:Int)∧sl f 8=I d∧Hp e aE w [c] aF∧(fun bM=>aI m aF bM c∧Sl AR aF bM n o t) (ZZ e aE Z w.heap.size [c])) bF ?bN ?bO
  case bN=>
   intro st;exact⟨(0:Int),a5,aD,u,qo st,sp st 0 aT,sp st 1 a8,sp st 7 rfl,sp st 8 rfl,bJ,a9,aP⟩
  case bO=>
   rintro(_|bC) b4 b5 ⟨d,m,c,u,bD,aL,aM,aN,z,x,aO,r⟩
   ·exact absurd (show none=some _ from u) (by simp)
   rw[DO.eq_2] at u;have a:=u;clear u;refine ro bD<|cr<|wD (fun st=>CU (ee st z) (ee st aN))<|wn<|Aj ?_;rcases Ah (decide (d<(t.length:Int))) with aG|aG
   ·replace a:=Aw a aG;refine AB rfl aG<|cn<|Aj<|Bi<|cr<|wM (v:=I d) z<|wA (v:=I d) rfl<|wr<|wM (v:=aK) aM<|wM (v:=.slice n t.length o) aL<|wM (v:=I d) rfl ?_;replace a:=BD a;obtain⟨i3,aA,bP,bQ,bR,a⟩:=a;obtain⟨b7,b8,_,bS,rfl,bT⟩:=Sl.elem r (by decide) bQ;refine wD (fun st=>Cd (k:=i3) Tryz.underlying36 M6 (eR st) bS (eR st) bP bR)<|wD (fun st=>CQ (l:=[.bool aA.C5,I aA.Number,I aA.B7,I aA.B8]) Ky (eR st) bT rfl rfl) ?_;replace a:=bind_some a;obtain⟨aV,bU,a⟩:=a;refine wE (fun st=>DJ (q.call m aA aV _ (ZZ e aE Z w.heap.size [c]) (ZC e [c]) c #[.agg #[.bool aA.C5,I aA.Number,I aA.B7,I aA.B8]] (Nat.le_trans bG x.sz) (x.zz (F':=e) (M:=[c]) (C:=[]) [0] [] ⟨rfl,trivial⟩ trivial (fun _ h=>.inl h)) Gf aO ⟨_,rfl,⟨_,rfl,rfl⟩⟩ bU) (eR st) (BR (eR st))) ?_;rintro _ bY ⟨aQ,a3,aJ,rfl,bV⟩;have a4:=x.De a3 (AE [0] ⟨rfl,trivial⟩ (fun _ h=>h)) 0 rfl aJ;have aW:aI aV.2 bY (ZZ e aE Z w.heap.size [aQ]) aQ:=q.mz bV (x.call (M:=[aQ]) (Nat.le_refl _) (BU ⟨.inr (hw aJ 0),trivial⟩) (Cr (L:=[c]) (y:=aQ) 0 (gm 0)));refine wn ?_;rcases Ah (aV.1) with aH|aH
    ·replace a:=Aw a aH;refine AB rfl aH<|cr<|wM (v:=I d) rfl<|wA (v:=I d) rfl<|wn<|As<|Dk<|Ba ?_;obtain rfl:=oi a;refine Cg (fun st=>?_);exact .inl ⟨rfl,(d,aV.2),rfl,aQ,qo st,sp st 4 rfl,a4,aW⟩
    ·replace a:=Ax a aH;refine AJ rfl aH<|CO<|Du<|Aq ?_;replace a:=Bo a;obtain⟨bW,a⟩:=a;refine wD (fun st=>Cf (ee st z) (eR st) bW)<|wM (v:=I (d+1)) rfl<|Be ?_;have aR:=(r.mv (x.E1 a3 (AE [0] ⟨rfl,trivial⟩ (fun _ h=>h)) 0 rfl (fun k bZ=>(aJ k bZ).1)));refine B1 bC (Nat.lt_succ_self _) (fun st=>?_);exact⟨(d+1),aV.2,aQ,a,qo st,sp st 0 aL,sp st 1 aM,sp st 7 aN,sp st 8 rfl,a4,aW,aR⟩
   ·replace a:=Ax a aG;refine AJ rfl aG<|Ei ?_;obtain rfl:=oi a;refine Cg (fun st=>?_);exact .inr ⟨rfl,m,rfl,c,qo st,x,aO⟩
 case bL=>
  rintro bB b1 b6 (⟨rfl,p,rfl,g,aB,aX,s,aC⟩|⟨rfl,p,rfl,i,aB,s,aC⟩)
  ·skip
   replace a:=Dp a;refine lf aB<|Dk ?_;obtain rfl:=oi a;refine AF rfl aX ?_;exact⟨g,aU _ s.fin,rfl,s.mq 0 [] (M:=[]) trivial a0,q.mz aC (AG (Bf [0] ⟨rfl,trivial⟩))⟩
  ·skip
   replace a:=Dq a;refine lf aB<|BA<|Br<|cr<|wA (v:=I (-1)) rfl<|wn<|As ?_;obtain rfl:=oi a;refine AF rfl rfl ?_;exact⟨i,aU _ s.fin,rfl,s.mq 0 [] (M:=[]) trivial a0,q.mz aC (AG (Bf [0] ⟨rfl,trivial⟩))⟩
theorem RL{q:Type}{f:Nat→Prop}{aI:Nat}{r:IT q}{t:q→CM→Option (Bool×q)} aJ n(z:q) c d(i:Value) a(Z:Nat→Prop) w(e:Cb Tryz.prog i f aI r (v1 (Cy AR)) Bu t)(aK:aI≤w.heap.size)(aL:Bx f [a] w)(aM:∀b,Z b→¬f b∧some b∉[a])(s:Sl AR w Z c d n)(aS:r z w Z a) aA(l:EK aJ t n z=some aA):
 BI Tryz.prog 135 #[.slice c n.length d,i] w (fun v w'=>∃o',Bz (FU f [a]) w w'∧Bu.R w' (zf Z w [o']) v aA.1∧(∀k,o'=some k→(a=some k∨w.heap.size≤k)∧k<w'.heap.size)∧r aA.2 w' (zf Z w [o']) o'):=by
 unfold EK at l;refine rq (N:=9) Tryz.func135 fun aT aB aU=>?_;have aC:=sA 0 aB;have aD:=sA 1 aB;clear aB;obtain⟨aN,aO,g,u,aE⟩:=Fl aL aM;have m:=s.mv (AK (L:=[a]) u w);have aF:=e.mz aS (AK (L:=[a]) u w);refine cr<|wA (v:=.bool false) rfl<|wr<|wM (v:=.slice c n.length d) aC<|wM (v:=i) aD ?_;replace l:=bind_some l;obtain⟨aG,aP,l⟩:=l;refine wE (fun st=>An O2 (eR st) (BV (eR st) (eR st)) (RK aJ n z c d i a (ZZ f aN Z w.heap.size [a]) _ e (Nat.le_trans aK g.sz) (g.Ci (F':=f) (M:=[a]) (C:=[]) [0] [] rfl ⟨rfl,trivial⟩ trivial (fun _ h=>.inl h)) (g.zz (F':=f) (M:=[a]) (C:=[]) [0] [] ⟨rfl,trivial⟩ trivial (fun _ h=>.inl h)) m aF aG aP)) ?_;rintro _ w2 ⟨o,aQ,rfl,p,aR⟩;have x:=g.De aQ (AE [0] ⟨rfl,trivial⟩ (fun _ h=>h)) 0 rfl p;have aH:r aG.2 w2 (ZZ f aN Z w.heap.size [o]) o:=e.mz aR (g.call (M:=[o]) (Nat.le_refl _) (BU ⟨.inr (hw p 0),trivial⟩) (Cr (L:=[a]) (y:=o) 0 (gm 0)));refine wD (fun st=>HJ (eR st) (eR st))<|wA (v:=.bool (decide ((0:Int)≤aG.1))) rfl<|wn<|As ?_;obtain rfl:=oi l;refine AF rfl rfl ?_;exact⟨o,aE _ x.fin,rfl,x.mq 0 [] (M:=[]) trivial aO,e.mz aH (AG (Bf [0] ⟨rfl,trivial⟩))⟩
theorem a107{aA:Type}{f:Nat→Prop}{bB:Nat}{aB:IT aA}{aF:aA→CM→Option (Bool×aA)} aK aG(aL:aA) m n(i:Value) d(Z:Nat→Prop) w(c:Cb Tryz.prog i f bB aB (v1 (Cy AR)) Bu aF)(bC:bB≤w.heap.size)(bD:Bx f [d] w)(bE:∀b,Z b→¬f b∧some b∉[d])(aM:Sl AR w Z m n aG)(t:aB aL w Z d) aR(aC:Hg aK aF aG aL=some aR):
 BI Tryz.prog 107 #[.slice m aG.length n,i] w (fun v w'=>∃o',Bz (FU f [d]) w w'∧Bu.R w' (zf Z w [o']) v aR.1∧(∀k,o'=some k→(d=some k∨w.heap.size≤k)∧k<w'.heap.size)∧aB aR.2 w' (zf Z w [o']) o'):=by
 unfold Hg at aC;refine rq (N:=9) Tryz.func107 fun bU aS bV=>?_;have aT:=sA 0 aS;have aU:=sA 1 aS;clear aS;obtain⟨aV,bF,aH,aN,aW⟩:=Fl bD bE;have aD:=aM.mv (AK (L:=[d]) aN w);have aX:=c.mz t (AK (L:=[d]) aN w);refine cr<|wE (fun st=>BK (v:=i) (cs:= #[i]) (ee st aU) c.fc) ?_;rintro _ w1 ⟨a,rfl,l⟩;have e:=aH.nb l;have bN:=aH.Bv l;refine wA (v:=.bool false) rfl<|wr<|wM (v:=.slice m aG.length n) aT<|wD (fun st=>CE (vs:= #[]) (us:= #[pt a 0]) Gq (BR (eR st))) ?_;have aO:=e.Ci (F':=f) (M:=[some a]) (C:=[]) [0] [] rfl ⟨rfl,trivial⟩ trivial (fun k q=>.inl ((fun _ h=>h) k q));have aY:Cb Tryz.prog (.func (.func 136) #[] #[pt a 0]) (FU f [some a]) w1.heap.size (fun(st:aA) aZ bO o=>(∀k,o=some k→k<aZ.heap.size∧¬(FU f [some a]) k)∧Bk aZ a 159 #[i]∧aB st aZ bO o) (v1 (Cy AR)) Bu (fun(st:aA) (x:CM)=>(FO aK aF x st).bind fun r=>some (r.1,r.2)):=by
  refine⟨rfl,rfl,e.GC [0] ⟨rfl,trivial⟩ (fun _ h=>h),?_,?_,?_⟩
  ·intro st x r w1 a0 bG o vs a2 a3 u t a4 bP;obtain⟨g,p,z⟩:=t;obtain⟨_,rfl,⟨_,rfl,rfl⟩⟩:=a4;obtain⟨bQ,bR,bS⟩:=bind_some bP;obtain rfl:=Option.some.inj bS;refine(Dj O3 rfl (RJ aK x st a i o a0 bG w1 c (Nat.le_trans bC (Nat.le_trans e.sz a2)) ((aO.grow a2).snoc g) (fun b s=>CX (u b (a3 b s)).1 (u b (a3 b s)).2) a3 (fun b s=>CX (u b s).1 (u b s).2) p z bQ bR)).mono ?_;rintro v w2 ⟨o',a4,a5,a6,aP,bH⟩;exact⟨o',a4.lf,aP,a5,⟨aO.keep a2 g aP,a6,c.mz bH GL⟩⟩
  ·intro st w1 w2 a0 bW o t hm s;obtain⟨g,p,z⟩:=t;exact⟨fun k q=>⟨Nat.lt_of_lt_of_le (g k q).1 hm.size,(g k q).2⟩,p.Fk (s a (.inl (.inr (gm 0)))),c.HU _ _ _ _ _ _ z hm (fun b bI=>s b (bI.imp .inl id))⟩
  ·intro st w1 a0 o t k q;obtain⟨g,p,z⟩:=t;exact g k q
 have aE:=(aD.mv (Ac l));replace aC:=bind_some aC;obtain⟨a7,bJ,aC⟩:=aC;have a8:aB aL w1 (ZZ f aV Z w.heap.size [some a,d]) d:=(c.me aX aH l.gr (Ac l));refine wE (fun st=>An O4 (eR st) (BV (eR st) (eR st)) (RL aK aG aL m n (.func (.func 136) #[] #[pt a 0]) d (ZZ f aV Z w.heap.size [some a,d]) _ aY (Nat.le_refl _) (e.Ci (F':=(FU f [some a])) (M:=[d]) (C:=[some a]) [1] [0] rfl ⟨rfl,trivial⟩ ⟨rfl,trivial⟩ (Cl (fun _ h=>h))) (e.zz (F':=(FU f [some a])) (M:=[d]) (C:=[some a]) [1] [0] ⟨rfl,trivial⟩ ⟨rfl,trivial⟩ (Cl (fun _ h=>h))) aE ⟨(fun k q=>e.JY 1 (by rw[←q];rfl) [0] rfl ⟨rfl,trivial⟩),l.bk,a8⟩ a7 bJ)) ?_;rintro _ bT ⟨aI,bK,rfl,aJ,bL⟩;obtain⟨-,bM,a9⟩:=bL;have aQ:=e.De (Bz.cl (M1:=[some a]) (M2:=[d]) bK) (AE [0,1] ⟨rfl,rfl,trivial⟩ (fun _ h=>h)) 1 rfl aJ;have bA:aB a7.2 bT (ZZ f aV Z w.heap.size [some a,aI]) aI:=c.mz a9 (e.call (M:=[aI]) (Nat.le_refl _) (BU ⟨.inr (hw aJ 1),trivial⟩) (Cr (L:=[some a,d]) (y:=aI) 1 (gm 0)));refine wD (fun st=>CB (eR st))<|wA (v:=.bool !a7.1) rfl<|wn<|As ?_;obtain rfl:=oi aC;refine AF rfl rfl ?_;exact⟨aI,aW _ aQ.fin,rfl,aQ.mq 1 [] (M:=[]) trivial bF,c.mz bA (AG (Bf [1] ⟨rfl,trivial⟩))⟩
theorem RM{o:Type}{d:Nat→Prop}{aI:Nat}{p:IT o}{r:o→Int→Option (Bool×o)} aR l(x:o) a(g:Value) c(Z Za:Nat→Prop) w(e:Cb Tryz.prog g d aI p (v1 (C7 .i64)) Bu r)(aJ:aI≤w.heap.size)(aK:Bx d [some a,c] w)(aL:∀b,Z b→¬d b∧some b∉[some a,c])(aS:∀b,Z b→Za b)(z:∀b,Za b→¬d b∧some b∉[some a,c])(s:Bk w a 86 #[g])(aT:p x w Z c) aA(i:Gj aR r l x=some aA):
 BI Tryz.prog 169 #[I l,pt a 0] w (fun v w'=>∃o',Bz (FU d [some a,c]) w w'∧Bu.R w' (zf Z w [some a,o']) v aA.1∧Bk w' a 86 #[g]∧(∀k,o'=some k→(c=some k∨w.heap.size≤k)∧k<w'.heap.size)∧p aA.2 w' (zf Z w [some a,o']) o'):=by
 unfold Gj at i;refine rq (N:=8) Tryz.func169 fun aV aB aW=>?_;have aC:=sA 0 aB;have aD:=sA 1 aB;clear aB;obtain⟨aM,aN,f,aO,aU,aE⟩:=Hu aK aL z;have aF:=e.mz aT (AK (L:=[some a,c]) aO w);refine cr<|wA (v:=.bool false) rfl<|wr<|wD (fun st=>Ay (v:=g) II (ee st aD) s rfl)<|wM (v:=I l) aC ?_;replace i:=bind_some i;obtain⟨aG,aP,i⟩:=i;refine wE (fun st=>DJ (e.call x l aG _ (ZZ d aM Z w.heap.size [some a,c]) (ZC d [c]) c #[I l] (Nat.le_trans aJ f.sz) (f.zz (F':=d) (M:=[c]) (C:=[]) [1] [] ⟨rfl,trivial⟩ trivial (fun _ h=>.inl h)) Gf aF ⟨_,rfl,rfl⟩ aP) (eR st) (BR (eR st))) ?_;rintro _ w2 ⟨m,t,n,rfl,aQ⟩;have u:=f.De t (AE [1] ⟨rfl,trivial⟩ (fun _ h=>h)) 1 rfl n;have aH:p aG.2 w2 (ZZ d aM Z w.heap.size [some a,m]) m:=e.mz aQ (f.call (M:=[m]) (Nat.le_refl _) (BU ⟨.inr (hw n 1),trivial⟩) (Cr (L:=[some a,c]) (y:=m) 1 (gm 0)));refine wD (fun st=>CB (eR st))<|wA (v:=.bool !aG.1) rfl<|wn<|As ?_;obtain rfl:=oi i;refine AF rfl rfl ?_;have q:=(s.B6 t (f.Cm 0 rfl [1] rfl ⟨rfl,trivial⟩ (fun _ h=>h)));exact⟨m,aE _ u.fin,rfl,q,u.mq 1 [0] (M:=[some a]) ⟨rfl,trivial⟩ aN,e.mz aH (AG (Bf [0,1] ⟨rfl,rfl,trivial⟩))⟩
theorem RN{aW:Type}{e:Nat→Prop}{bD:Nat}{aG:IT aW}{aQ:aW→Int→Option (Bool×aW)} bE s(a3:aW) m n(aI:Value) aB(Z:Nat→Prop) w(p:Cb Tryz.prog aI e bD aG (v1 (C7 .i64)) Bu aQ)(bF:bD≤w.heap.size)(bG:Bx e [aB] w)(bH:∀b,Z b→¬e b∧some b∉[aB])(aX:Sl (Am .i64) w Z m n s)(bW:aG a3 w Z aB) a4(a:FY bE aQ s a3=some a4):
 BI Tryz.prog 142 #[.slice m s.length n,aI] w (fun v w'=>∃o',Bz (FU e [aB]) w w'∧(C7 .i64).R w' (zf Z w [o']) v a4.1∧(∀k,o'=some k→(aB=some k∨w.heap.size≤k)∧k<w'.heap.size)∧aG a4.2 w' (zf Z w [o']) o'):=by
 unfold FY at a;refine rq (N:=19) Tryz.func142 fun b1 a5 b2=>?_;have aR:=sA 0 a5;have a6:=sA 1 a5;clear a5;obtain⟨aC,aY,bI,aZ,aS⟩:=Fl bG bH;have aN:=aX.mv (AK (L:=[aB]) aZ w);have a7:=p.mz bW (AK (L:=[aB]) aZ w);refine cr<|wA (v:=I 0) rfl<|wn<|Aj<|cr<|wM (v:=.slice m s.length n) aR<|wD (fun st=>BT Tryz.underlying31 (eR st))<|wM (v:=I 0) rfl<|wn<|Bi ?_;replace a:=bind_some a;obtain⟨a8,t,a⟩:=a;refine Ct (fun a9 f aD=>(a9=.ret∧∃o,a8=.inl o∧∃g,Fo X0 19 f∧sl f 4=I o.1∧Hp e aC w [g] aD∧aG o.2 aD (ZZ e aC Z w.heap.size [g]) g)∨(a9=.exit 0∧∃o,a8=.inr o∧∃i,Fo X0 19 f∧Hp e aC w [i] aD∧aG o aD (ZZ e aC Z w.heap.size [i]) i)) ?bJ ?bK
 case bJ=>
  clear a;refine Cs (fun bA f aD=>∃d,∃l,∃c,Ef aQ s bA d l=some a8∧Fo X0 19 f∧sl f 0=.slice m s.length n∧sl f 1=aI∧sl f 7=I (s.length:Int)∧sl f 8=I d∧Hp e aC w [c] aD∧(fun bL=>aG l aD bL c∧Sl (Am .i64) aD bL m n s) (ZZ e aC Z w.heap.size [c])) bE ?bM ?bN
  case bM=>
   intro st;exact⟨(0:Int),a3,aB,t,qo st,sp st 0 aR,sp st 1 a6,sp st 7 rfl,sp st 8 rfl,bI,a7,aN⟩
  case bN=>
   rintro(_|bA) b3 b4 ⟨d,l,c,t,bB,aJ,aK,aL,x,u,aM,q⟩
   ·exact absurd (show none=some _ from t) (by simp)
   rw[Ef.eq_2] at t;have a:=t;clear t;refine ro bB<|cr<|wD (fun st=>CU (ee st x) (ee st aL))<|wn<|Aj ?_;rcases Ah (decide (d<(s.length:Int))) with aE|aE
   ·replace a:=Aw a aE;refine AB rfl aE<|cn<|Aj<|Bi<|cr<|wM (v:=I d) x<|wA (v:=I d) rfl<|wr<|wM (v:=aI) aK<|wM (v:=.slice m s.length n) aJ<|wM (v:=I d) rfl ?_;replace a:=BD a;obtain⟨i3,bC,bO,bP,bQ,a⟩:=a;obtain⟨b6,b7,_,bR,rfl,bS⟩:=Sl.Dt q rfl bP;refine wD (fun st=>Cc (k:=i3) Tryz.underlying31 C2 (eR st) bR (eR st) bO bQ)<|wD (fun st=>CD (v:=I bC) BN (eR st) bS rfl) ?_;replace a:=bind_some a;obtain⟨aT,bT,a⟩:=a;refine wE (fun st=>DJ (p.call l bC aT _ (ZZ e aC Z w.heap.size [c]) (ZC e [c]) c #[I bC] (Nat.le_trans bF u.sz) (u.zz (F':=e) (M:=[c]) (C:=[]) [0] [] ⟨rfl,trivial⟩ trivial (fun _ h=>.inl h)) Gf aM ⟨_,rfl,rfl⟩ bT) (eR st) (BR (eR st))) ?_;rintro _ bX ⟨aO,a0,aH,rfl,bU⟩;have a2:=u.De a0 (AE [0] ⟨rfl,trivial⟩ (fun _ h=>h)) 0 rfl aH;have aU:aG aT.2 bX (ZZ e aC Z w.heap.size [aO]) aO:=p.mz bU (u.call (M:=[aO]) (Nat.le_refl _) (BU ⟨.inr (hw aH 0),trivial⟩) (Cr (L:=[c]) (y:=aO) 0 (gm 0)));refine wn ?_;rcases Ah (aT.1) with aF|aF
    ·replace a:=Aw a aF;refine AB rfl aF<|cr<|wM (v:=I d) rfl<|wA (v:=I d) rfl<|wn<|As<|Dk<|Ba ?_;obtain rfl:=oi a;refine Cg (fun st=>?_);exact .inl ⟨rfl,(d,aT.2),rfl,aO,qo st,sp st 4 rfl,a2,aU⟩
    ·replace a:=Ax a aF;refine AJ rfl aF<|CO<|Du<|Aq ?_;replace a:=Bo a;obtain⟨bV,a⟩:=a;refine wD (fun st=>Cf (ee st x) (eR st) bV)<|wM (v:=I (d+1)) rfl<|Be ?_;have aP:=(q.mv (u.E1 a0 (AE [0] ⟨rfl,trivial⟩ (fun _ h=>h)) 0 rfl (fun k bY=>(aH k bY).1)));refine B1 bA (Nat.lt_succ_self _) (fun st=>?_);exact⟨(d+1),aT.2,aO,a,qo st,sp st 0 aJ,sp st 1 aK,sp st 7 aL,sp st 8 rfl,a2,aU,aP⟩
   ·replace a:=Ax a aE;refine AJ rfl aE<|Ei ?_;obtain rfl:=oi a;refine Cg (fun st=>?_);exact .inr ⟨rfl,l,rfl,c,qo st,u,aM⟩
 case bK=>
  rintro a9 bZ b5 (⟨rfl,o,rfl,g,z,aV,r,aA⟩|⟨rfl,o,rfl,i,z,r,aA⟩)
  ·skip
   replace a:=Dp a;refine lf z<|Dk ?_;obtain rfl:=oi a;refine AF rfl aV ?_;exact⟨g,aS _ r.fin,rfl,r.mq 0 [] (M:=[]) trivial aY,p.mz aA (AG (Bf [0] ⟨rfl,trivial⟩))⟩
  ·skip
   replace a:=Dq a;refine lf z<|BA<|Br<|cr<|wA (v:=I (-1)) rfl<|wn<|As ?_;obtain rfl:=oi a;refine AF rfl rfl ?_;exact⟨i,aS _ r.fin,rfl,r.mq 0 [] (M:=[]) trivial aY,p.mz aA (AG (Bf [0] ⟨rfl,trivial⟩))⟩
theorem QI{q:Type}{f:Nat→Prop}{aI:Nat}{r:IT q}{t:q→Int→Option (Bool×q)} aJ n(z:q) c d(i:Value) a(Z:Nat→Prop) w(e:Cb Tryz.prog i f aI r (v1 (C7 .i64)) Bu t)(aK:aI≤w.heap.size)(aL:Bx f [a] w)(aM:∀b,Z b→¬f b∧some b∉[a])(s:Sl (Am .i64) w Z c d n)(aS:r z w Z a) aA(l:Eg aJ t n z=some aA):
 BI Tryz.prog 122 #[.slice c n.length d,i] w (fun v w'=>∃o',Bz (FU f [a]) w w'∧Bu.R w' (zf Z w [o']) v aA.1∧(∀k,o'=some k→(a=some k∨w.heap.size≤k)∧k<w'.heap.size)∧r aA.2 w' (zf Z w [o']) o'):=by
 unfold Eg at l;refine rq (N:=9) Tryz.func122 fun aT aB aU=>?_;have aC:=sA 0 aB;have aD:=sA 1 aB;clear aB;obtain⟨aN,aO,g,u,aE⟩:=Fl aL aM;have m:=s.mv (AK (L:=[a]) u w);have aF:=e.mz aS (AK (L:=[a]) u w);refine cr<|wA (v:=.bool false) rfl<|wr<|wM (v:=.slice c n.length d) aC<|wM (v:=i) aD ?_;replace l:=bind_some l;obtain⟨aG,aP,l⟩:=l;refine wE (fun st=>An O5 (eR st) (BV (eR st) (eR st)) (RN aJ n z c d i a (ZZ f aN Z w.heap.size [a]) _ e (Nat.le_trans aK g.sz) (g.Ci (F':=f) (M:=[a]) (C:=[]) [0] [] rfl ⟨rfl,trivial⟩ trivial (fun _ h=>.inl h)) (g.zz (F':=f) (M:=[a]) (C:=[]) [0] [] ⟨rfl,trivial⟩ trivial (fun _ h=>.inl h)) m aF aG aP)) ?_;rintro _ w2 ⟨o,aQ,rfl,p,aR⟩;have x:=g.De aQ (AE [0] ⟨rfl,trivial⟩ (fun _ h=>h)) 0 rfl p;have aH:r aG.2 w2 (ZZ f aN Z w.heap.size [o]) o:=e.mz aR (g.call (M:=[o]) (Nat.le_refl _) (BU ⟨.inr (hw p 0),trivial⟩) (Cr (L:=[a]) (y:=o) 0 (gm 0)));refine wD (fun st=>HJ (eR st) (eR st))<|wA (v:=.bool (decide ((0:Int)≤aG.1))) rfl<|wn<|As ?_;obtain rfl:=oi l;refine AF rfl rfl ?_;exact⟨o,aE _ x.fin,rfl,x.mq 0 [] (M:=[]) trivial aO,e.mz aH (AG (Bf [0] ⟨rfl,trivial⟩))⟩
theorem a157{aA:Type}{f:Nat→Prop}{bB:Nat}{aB:IT aA}{aF:aA→Int→Option (Bool×aA)} aK aG(aL:aA) m n(i:Value) d(Z:Nat→Prop) w(c:Cb Tryz.prog i f bB aB (v1 (C7 .i64)) Bu aF)(bC:bB≤w.heap.size)(bD:Bx f [d] w)(bE:∀b,Z b→¬f b∧some b∉[d])(aM:Sl (Am .i64) w Z m n aG)(t:aB aL w Z d) aR(aC:HG aK aF aG aL=some aR):
 BI Tryz.prog 157 #[.slice m aG.length n,i] w (fun v w'=>∃o',Bz (FU f [d]) w w'∧Bu.R w' (zf Z w [o']) v aR.1∧(∀k,o'=some k→(d=some k∨w.heap.size≤k)∧k<w'.heap.size)∧aB aR.2 w' (zf Z w [o']) o'):=by
 unfold HG at aC;refine rq (N:=9) Tryz.func157 fun bU aS bV=>?_;have aT:=sA 0 aS;have aU:=sA 1 aS;clear aS;obtain⟨aV,bF,aH,aN,aW⟩:=Fl bD bE;have aD:=aM.mv (AK (L:=[d]) aN w);have aX:=c.mz t (AK (L:=[d]) aN w);refine cr<|wE (fun st=>BK (v:=i) (cs:= #[i]) (ee st aU) c.fc) ?_;rintro _ w1 ⟨a,rfl,l⟩;have e:=aH.nb l;have bN:=aH.Bv l;refine wA (v:=.bool false) rfl<|wr<|wM (v:=.slice m aG.length n) aT<|wD (fun st=>CE (vs:= #[]) (us:= #[pt a 0]) Gq (BR (eR st))) ?_;have aO:=e.Ci (F':=f) (M:=[some a]) (C:=[]) [0] [] rfl ⟨rfl,trivial⟩ trivial (fun k q=>.inl ((fun _ h=>h) k q));have aY:Cb Tryz.prog (.func (.func 169) #[] #[pt a 0]) (FU f [some a]) w1.heap.size (fun(st:aA) aZ bO o=>(∀k,o=some k→k<aZ.heap.size∧¬(FU f [some a]) k)∧Bk aZ a 86 #[i]∧aB st aZ bO o) (v1 (C7 .i64)) Bu (fun(st:aA) (x:Int)=>(Gj aK aF x st).bind fun r=>some (r.1,r.2)):=by
  refine⟨rfl,rfl,e.GC [0] ⟨rfl,trivial⟩ (fun _ h=>h),?_,?_,?_⟩
  ·intro st x r w1 a0 bG o vs a2 a3 u t a4 bP;obtain⟨g,p,z⟩:=t;obtain⟨_,rfl,rfl⟩:=a4;obtain⟨bQ,bR,bS⟩:=bind_some bP;obtain rfl:=Option.some.inj bS;refine(Dj O6 rfl (RM aK x st a i o a0 bG w1 c (Nat.le_trans bC (Nat.le_trans e.sz a2)) ((aO.grow a2).snoc g) (fun b s=>CX (u b (a3 b s)).1 (u b (a3 b s)).2) a3 (fun b s=>CX (u b s).1 (u b s).2) p z bQ bR)).mono ?_;rintro v w2 ⟨o',a4,a5,a6,aP,bH⟩;exact⟨o',a4.lf,aP,a5,⟨aO.keep a2 g aP,a6,c.mz bH GL⟩⟩
  ·intro st w1 w2 a0 bW o t hm s;obtain⟨g,p,z⟩:=t;exact⟨fun k q=>⟨Nat.lt_of_lt_of_le (g k q).1 hm.size,(g k q).2⟩,p.Fk (s a (.inl (.inr (gm 0)))),c.HU _ _ _ _ _ _ z hm (fun b bI=>s b (bI.imp .inl id))⟩
  ·intro st w1 a0 o t k q;obtain⟨g,p,z⟩:=t;exact g k q
 have aE:=(aD.mv (Ac l));replace aC:=bind_some aC;obtain⟨a7,bJ,aC⟩:=aC;have a8:aB aL w1 (ZZ f aV Z w.heap.size [some a,d]) d:=(c.me aX aH l.gr (Ac l));refine wE (fun st=>An Mt (eR st) (BV (eR st) (eR st)) (QI aK aG aL m n (.func (.func 169) #[] #[pt a 0]) d (ZZ f aV Z w.heap.size [some a,d]) _ aY (Nat.le_refl _) (e.Ci (F':=(FU f [some a])) (M:=[d]) (C:=[some a]) [1] [0] rfl ⟨rfl,trivial⟩ ⟨rfl,trivial⟩ (Cl (fun _ h=>h))) (e.zz (F':=(FU f [some a])) (M:=[d]) (C:=[some a]) [1] [0] ⟨rfl,trivial⟩ ⟨rfl,trivial⟩ (Cl (fun _ h=>h))) aE ⟨(fun k q=>e.JY 1 (by rw[←q];rfl) [0] rfl ⟨rfl,trivial⟩),l.bk,a8⟩ a7 bJ)) ?_;rintro _ bT ⟨aI,bK,rfl,aJ,bL⟩;obtain⟨-,bM,a9⟩:=bL;have aQ:=e.De (Bz.cl (M1:=[some a]) (M2:=[d]) bK) (AE [0,1] ⟨rfl,rfl,trivial⟩ (fun _ h=>h)) 1 rfl aJ;have bA:aB a7.2 bT (ZZ f aV Z w.heap.size [some a,aI]) aI:=c.mz a9 (e.call (M:=[aI]) (Nat.le_refl _) (BU ⟨.inr (hw aJ 1),trivial⟩) (Cr (L:=[some a,d]) (y:=aI) 1 (gm 0)));refine wD (fun st=>CB (eR st))<|wA (v:=.bool !a7.1) rfl<|wn<|As ?_;obtain rfl:=oi aC;refine AF rfl rfl ?_;exact⟨aI,aW _ aQ.fin,rfl,aQ.mq 1 [] (M:=[]) trivial bF,c.mz bA (AG (Bf [1] ⟨rfl,trivial⟩))⟩
theorem RO aB g p b c i l m n d e(Z:Nat→Prop) w(aC:Sl AH w Z b c g.BM)(aD:Sl (BP (Am .i64)) w Z i l g.CI)(aE:Sl AR w Z m n g.C1)(aF:Sl (Am .i64) w Z d e p) aR(f:F8 aB g p=some aR):
 BI Tryz.prog 129 #[.agg (BG b c i l m n g).toArray,.slice d p.length e] w (fun v w'=>Ext w w'∧Bu.R w' (zf Z w []) v aR):=by
 unfold F8 at f;refine rq (N:=15) Tryz.func129 fun a6 aH a7=>?_;have aI:=sA 0 aH;have y:=sA 1 aH;clear aH;have aG:Hp FN [] w [] w:=Hp.start (Bx.none w);have ⟨aO,aP,aQ,t⟩:=IE aC aD aE aF (BL (Z:=Z) (L:=[]) w);refine cr<|wE (fun st=>BK (v:=.agg (BG b c i l m n g).toArray) (cs:=(BG b c i l m n g).toArray) (ee st aI) rfl) ?_;rintro _ w1 ⟨bA,rfl,q⟩;have s:=aG.nb q;have aZ:=aG.Bv q;refine wA (v:=.bool false) rfl<|wr<|wM (v:=.slice d p.length e) y<|wD (fun st=>BT Tryz.underlying31 (eR st))<|wD (fun st=>Al (eR st) (Fg _ _))<|wD (fun st=>Ay (v:=.slice b g.BM.length c) Gr (eR st) q.bk rfl)<|wD (fun st=>BT Tryz.underlying35 (eR st))<|wD (fun st=>C6 (eR st) (eR st))<|wM (v:=.bool ((p.length:Int)==(g.BM.length:Int))) rfl ?_;rcases Ah ((p.length:Int)==(g.BM.length:Int)) with a|a
 ·replace f:=Aw f a;refine wG a (fun st=>AV (v:=.slice d p.length e) (ee st y)) ?_;have a8:=s.Ci (F':=FN) (M:=[]) (C:=[]) [] [] rfl trivial trivial (fun k aJ=>.inl (eL k aJ));have aK:Cb Tryz.prog (.func (.func 158) #[] #[]) (FU FN []) w1.heap.size (fun(st:Unit) bB bC o=>o=none) (v1 (C7 .i64)) Bu (fun(st:Unit) (x:Int)=>(Hb aB x).bind fun r=>some (r,())):=by
   refine⟨rfl,rfl,s.GC [] trivial eL,?_,?_,?_⟩
   ·intro st x r w1 aS aT o vs bD bE a9 z aL a0;obtain rfl:=z;obtain⟨_,rfl,rfl⟩:=aL;obtain⟨a2,a3,a4⟩:=bind_some a0;obtain rfl:=Option.some.inj a4;refine(Dj O7 rfl (RB aB x aT w1 a2 a3)).mono ?_;rintro v w2 ⟨aL,aM⟩;exact⟨none,AM aL,(fun _ h=>by cases h),aM,rfl⟩
   ·intro st w1 w2 aS bF o z hm bG;obtain rfl:=z;exact rfl
   ·intro st w1 aS o z k aJ;obtain rfl:=z;cases aJ
  have aA:=s.nil;have u:=((t.mv (Ac q)).mv Bs);replace f:=bind_some f;obtain⟨aN,aU,f⟩:=f;refine wX a (fun st=>An O8 (eR st) (BV (eR st) (eR st)) (a157 aB p () d e (.func (.func 158) #[] #[]) none (ZC (FU FN []) [none]) _ aK (Nat.le_refl _) (aA.Ci (F':=(FU FN [])) (M:=[none]) (C:=[]) [0] [] rfl ⟨rfl,trivial⟩ trivial (Cl eL)) DI (u.mv (aA.mz (F':=(FU FN [])) (M:=[none]) (C:=[]) [0] [] ⟨rfl,trivial⟩ trivial (Cl eL))) rfl aN aU)) ?_;rintro _ bH ⟨bI,aV,rfl,a5,aW⟩;obtain rfl:=aW;have aX:=aA.B6 (Bz.cl (M1:=[]) (M2:=[none]) aV) (AE [0] ⟨rfl,trivial⟩ eL);have aY:=aX.erase 0;refine wD (fun st=>Bn (v:=.bool aN.1) (eR st) a (eR st))<|wA (v:=.bool aN.1) rfl<|wn<|As ?_;obtain rfl:=oi f;refine AF rfl rfl ?_;exact⟨aY.Bt,rfl⟩
 ·replace f:=Ax f a;refine wF a<|wF a<|wD (fun st=>BC (v:=.bool false) (eR st) a (eR st))<|wA (v:=.bool false) rfl<|wn<|As ?_;obtain rfl:=oi f;refine AF rfl rfl ?_;exact⟨s.Bt,rfl⟩
theorem RP aI n o c d e f g h i k(Z:Nat→Prop) w(aB:Sl AH w Z c d n.BM)(aC:Sl (BP (Am .i64)) w Z e f n.CI)(aD:Sl AR w Z g h n.C1)(aE:Sl (Am .i64) w Z i k o) aN(b:E9 aI n o=some aN):
 BI Tryz.prog 103 #[.agg (BG c d e f g h n).toArray,.slice i o.length k] w (fun v w'=>Ext w w'∧Bu.R w' (zf Z w []) v aN):=by
 unfold E9 at b;refine rq (N:=13) Tryz.func103 fun aU aJ aV=>?_;have aK:=sA 0 aJ;have aA:=sA 1 aJ;clear aJ;have aF:Hp FN [] w [] w:=Hp.start (Bx.none w);have ⟨q,r,s,t⟩:=IE aB aC aD aE (BL (Z:=Z) (L:=[]) w);refine cr<|wE (fun st=>BK (v:=.agg (BG c d e f g h n).toArray) (cs:=(BG c d e f g h n).toArray) (ee st aK) rfl) ?_;rintro _ w1 ⟨aW,rfl,p⟩;have aO:=aF.nb p;have aT:=aF.Bv p;refine wA (v:=.bool false) rfl<|wr<|wD (fun st=>Bc (l:=(BG c d e f g h n)) Ew (eR st) p.bk rfl rfl)<|wM (v:=.slice i o.length k) aA ?_;have ⟨u,x,y,m⟩:=IE q r s t (Ac p);replace b:=bind_some b;obtain⟨aL,aP,b⟩:=b;refine wE (fun st=>An O9 (eR st) (BV (eR st) (eR st)) (RO aI n o c d e f g h i k ZA _ u.all x.all y.all m.all aL aP)) ?_;rintro _ aX ⟨aG,rfl⟩;have aH:=aO.ext aG;refine wM (v:=.bool aL) rfl ?_;rcases Ah (aL) with a|a
 ·replace b:=Aw b a;refine wG a (fun st=>AV (v:=.slice i o.length k) (ee st aA)) ?_;have z:=(m.mv (Aa aG));replace b:=bind_some b;obtain⟨aM,aQ,b⟩:=b;refine wX a (fun st=>An Mu (eR st) (BR (eR st)) (a130 aI o i k ZA _ z.all aM aQ)) ?_;rintro _ aY ⟨aR,rfl⟩;have aS:=aH.ext aR;refine wG a (fun st=>HI (eR st) (eR st))<|wD (fun st=>Bn (v:=.bool (decide ((0:Int)<aM))) (eR st) a (eR st))<|wA (v:=.bool (decide ((0:Int)<aM))) rfl<|wn<|As ?_;obtain rfl:=oi b;refine AF rfl rfl ?_;exact⟨aS.Bt,rfl⟩
 ·replace b:=Ax b a;refine wF a<|wF a<|wF a<|wD (fun st=>BC (v:=.bool false) (eR st) a (eR st))<|wA (v:=.bool false) rfl<|wn<|As ?_;obtain rfl:=oi b;refine AF rfl rfl ?_;exact⟨aH.Bt,rfl⟩
theorem RQ q e b g h i k m n(Z:Nat→Prop) w(x:Sl AH w Z g h e.BM)(y:Sl (BP (Am .i64)) w Z i k e.CI)(z:Sl AR w Z m n e.C1) aU(a:Fv q e b=some aU):
 BI Tryz.prog 102 #[.agg (BG g h i k m n e).toArray,.agg #[.bool b.C5,I b.Number,I b.B7,I b.B8]] w (fun v w'=>Ext w w'∧Bu.R w' (zf Z w []) v aU):=by
 unfold Fv at a;refine rq (N:=24) Tryz.func102 fun a4 aI a5=>?_;have aJ:=sA 0 aI;have aK:=sA 1 aI;clear aI;have aC:Hp FN [] w [] w:=Hp.start (Bx.none w);have ⟨aR,aS,aT⟩:=GD x y z (BL (Z:=Z) (L:=[]) w);refine cr<|wE (fun st=>BK (v:=.agg (BG g h i k m n e).toArray) (cs:=(BG g h i k m n e).toArray) (ee st aJ) rfl) ?_;rintro _ w1 ⟨a8,rfl,r⟩;have aD:=aC.nb r;have a2:=aC.Bv r;refine wE (fun st=>BK (v:=.agg #[.bool b.C5,I b.Number,I b.B7,I b.B8]) (cs:= #[.bool b.C5,I b.Number,I b.B7,I b.B8]) (ee st aK) rfl) ?_;rintro _ w2 ⟨a9,rfl,f⟩;have aE:=aD.nb f;have a3:=aD.Bv f;refine wA (v:=.bool false) rfl<|wr<|wD (fun st=>Al (eR st) (Fg _ _)) ?_;have p:=(r.bk.ext f.gr);refine wD (fun st=>Ay (v:=.slice g e.BM.length h) Gr (eR st) p rfl)<|wD (fun st=>BT Tryz.underlying35 (eR st))<|wA (v:=I (e.BM.length:Int)) rfl<|wn<|Aj<|cr<|wD (fun st=>Al (eR st) (Mr _ _))<|wD (fun st=>Ay (v:=.bool b.C5) Iu (eR st) f.bk rfl)<|wn ?_;rcases Ah (b.C5) with o|o
 ·replace a:=Aw a o;refine AB rfl o<|Aq<|wD (fun st=>Al (eR st) (Gu _ _))<|wD (fun st=>Ay (v:=.slice i e.CI.length k) Gs (eR st) p rfl)<|wD (fun st=>BT Tryz.underlying23 (eR st))<|wA (v:=I (e.CI.length:Int)) rfl<|wr<|wD (fun st=>Al (eR st) (JH _ _))<|wD (fun st=>Ay (v:=I b.Number) BN (eR st) f.bk rfl)<|wM (v:=I (e.CI.length:Int)) rfl ?_;replace a:=Bo a;obtain⟨aV,a⟩:=a;refine wD (fun st=>G8 (eR st) (eR st) aV) ?_;replace a:=bind_some a;obtain⟨aL,aW,a⟩:=a;refine wE (fun st=>An Kx (eR st) (GA (eR st) (eR st) (eR st)) (OB q b.Number 0 ((e.CI.length:Int)-1) ZA _ aL aW)) ?_;rintro _ bA ⟨aF,rfl⟩;have aG:=aE.ext aF;refine wM (v:=.bool aL) rfl ?_;rcases Ah (aL) with d|d
  ·replace a:=Aw a d;refine wG d (fun st=>Al (eR st) (KJ _ _)) ?_;have aA:=(f.bk.ext aF);refine wG d (fun st=>Bc (l:=[I b.B7,I b.B8]) GP (eR st) aA rfl rfl) ?_;replace a:=bind_some a;obtain⟨aM,aX,a⟩:=a;refine wX d (fun st=>An KK (eR st) (BR (eR st)) (a105 q (⟨b.B7,b.B8⟩:Bb) ZA _ aM aX)) ?_;rintro _ bB ⟨aY,rfl⟩;have aZ:=aG.ext aY;refine wD (fun st=>Bn (v:=.bool aM) (eR st) d (eR st))<|wA (v:=.bool aM) rfl<|wn<|As ?_;obtain rfl:=oi a;refine AF rfl rfl ?_;exact⟨aZ.Bt,rfl⟩
  ·replace a:=Ax a d;refine wF d<|wF d<|wF d<|wD (fun st=>BC (v:=.bool false) (eR st) d (eR st))<|wA (v:=.bool false) rfl<|wn<|As ?_;obtain rfl:=oi a;refine AF rfl rfl ?_;exact⟨aG.Bt,rfl⟩
 ·replace a:=Ax a o;refine AJ rfl o<|cn<|cr<|wD (fun st=>Al (eR st) (JH _ _))<|wD (fun st=>Ay (v:=I b.Number) BN (eR st) f.bk rfl)<|wM (v:=I (e.BM.length:Int)) rfl ?_;replace a:=Bo a;obtain⟨aN,a⟩:=a;refine wD (fun st=>G8 (eR st) (eR st) aN) ?_;replace a:=bind_some a;obtain⟨s,aO,a⟩:=a;refine wE (fun st=>An Kx (eR st) (GA (eR st) (eR st) (eR st)) (OB q b.Number 0 ((e.BM.length:Int)-1) ZA _ s aO)) ?_;rintro _ a6 ⟨t,rfl⟩;have aH:=aE.ext t;refine wM (v:=.bool s) rfl ?_;rcases Ah (s) with c|c
  ·replace a:=Aw a c;refine wG c (fun st=>Al (eR st) (KJ _ _)) ?_;have aB:=(f.bk.ext t);refine wG c (fun st=>Bc (l:=[I b.B7,I b.B8]) GP (eR st) aB rfl rfl) ?_;replace a:=bind_some a;obtain⟨u,aP,a⟩:=a;refine wX c (fun st=>An KK (eR st) (BR (eR st)) (a105 q (⟨b.B7,b.B8⟩:Bb) ZA _ u aP)) ?_;rintro _ a7 ⟨aQ,rfl⟩;have a0:=aH.ext aQ;refine wD (fun st=>Bn (v:=.bool u) (eR st) c (eR st))<|wA (v:=.bool u) rfl<|wn<|As ?_;obtain rfl:=oi a;refine AF rfl rfl ?_;exact⟨a0.Bt,rfl⟩
  ·replace a:=Ax a c;refine wF c<|wF c<|wF c<|wD (fun st=>BC (v:=.bool false) (eR st) c (eR st))<|wA (v:=.bool false) rfl<|wn<|As ?_;obtain rfl:=oi a;refine AF rfl rfl ?_;exact⟨aH.Bt,rfl⟩
set_option maxHeartbeats 4000000 in
theorem QJ aH d b c f g i m(Z:Nat→Prop) w(cF:Sl AH w Z b c d.BM)(cG:Sl (BP (Am .i64)) w Z f g d.CI)(cH:Sl AR w Z i m d.C1) dT(a:EL aH d=some dT):
 BI Tryz.prog 71 #[.agg (BG b c f g i m d).toArray] w (fun v w'=>Ext w w'∧(C7 .i64).R w' (zf Z w []) v dT):=by
 unfold EL at a;refine rq (N:=70) Tryz.func71 fun eJ dU eK=>?_;have cU:=sA 0 dU;clear dU;have cM:Hp FN [] w [] w:=Hp.start (Bx.none w);have ⟨bW,bX,bY⟩:=GD cF cG cH (BL (Z:=Z) (L:=[]) w);refine cr<|wE (fun st=>BK (v:=.agg (BG b c f g i m d).toArray) (cs:=(BG b c f g i m d).toArray) (ee st cU) rfl) ?_;rintro _ w1 ⟨cV,rfl,aN⟩;have dV:=cM.nb aN;have d8:=cM.Bv aN;refine wA (v:=I 0) rfl<|wn<|Aj ?_;refine CY 5 [Kc (.agg (BG b c f g i m d).toArray),Kc (.func (.func 102) #[.agg (BG b c f g i m d).toArray] #[]),Kc (.agg (BG b c f g i m d).toArray),Kc (.func (.func 103) #[.agg (BG b c f g i m d).toArray] #[]),Kc (.func (.func 102) #[.agg (BG b c f g i m d).toArray] #[])] mixed rfl rfl
     (Ab (oD (fun K=>Bc (l:=(BG b c f g i m d)) Ew (K.kO 1) (aN.bk.ext K.BO) rfl rfl))
     (Ab (oD (fun K=>CE (vs:= #[.agg (BG b c f g i m d).toArray]) (us:= #[]) (BR (es (K.dq 0 8))) Gq))
     (Ab (oD (fun K=>Bc (l:=(BG b c f g i m d)) Ew (K.kO 1) (aN.bk.ext K.BO) rfl rfl))
     (Ab (oD (fun K=>CE (vs:= #[.agg (BG b c f g i m d).toArray]) (us:= #[]) (BR (es (K.dq 2 10))) Gq))
     (Ab (oD (fun K=>H9 (es (K.dq 1 9))))
     (CS _)))))) ?_
 intro w2;rintro _ rfl _ rfl _ rfl _ rfl _ rfl bD;have aQ:=dV.ext bD;refine wA (v:=.func (.func 103) #[.agg (BG b c f g i m d).toArray] #[]) rfl<|wn<|Aj<|Bi<|cr<|wD (fun st=>Al (eR st) (Fg _ _)) ?_;have aF:=(aN.bk.ext bD);refine wD (fun st=>Ay (v:=.slice b d.BM.length c) Gr (eR st) aF rfl)<|wD (fun st=>BT Tryz.underlying35 (eR st))<|wD (fun st=>HI (eR st) (eR st))<|wM (v:=.bool (decide ((3:Int)<(d.BM.length:Int)))) rfl ?_;rcases Ah (decide ((3:Int)<(d.BM.length:Int))) with z|z
 ·replace a:=Aw a z;refine wF z<|wF z<|wF z<|wF z<|wD (fun st=>Bn (v:=.bool true) (eR st) z (eR st))<|wM (v:=.bool true) rfl<|wH<|wH<|wH<|wH<|wD (fun st=>Bn (v:=.bool true) (eR st) rfl (eR st))<|wA (v:=.bool true) rfl<|wn<|AB rfl rfl<|cr<|wA (v:=I 3) rfl<|wn<|As<|Dk ?_;obtain rfl:=oi a;refine AF rfl rfl ?_;exact⟨aQ.Bt,rfl⟩
 ·replace a:=Ax a z;refine wG z (fun st=>Al (eR st) (Gu _ _))<|wG z (fun st=>Ay (v:=.slice f d.CI.length g) Gs (eR st) aF rfl)<|wG z (fun st=>BT Tryz.underlying23 (eR st))<|wG z (fun st=>HI (eR st) (eR st))<|wD (fun st=>BC (v:=.bool (decide ((3:Int)<(d.CI.length:Int)))) (eR st) z (eR st))<|wM (v:=.bool (decide ((3:Int)<(d.CI.length:Int)))) rfl ?_;rcases Ah (decide ((3:Int)<(d.CI.length:Int))) with aA|aA
  ·replace a:=Aw a aA;refine wF aA<|wF aA<|wF aA<|wF aA<|wD (fun st=>Bn (v:=.bool true) (eR st) aA (eR st))<|wA (v:=.bool true) rfl<|wn<|AB rfl rfl<|cr<|wA (v:=I 3) rfl<|wn<|As<|Dk ?_;obtain rfl:=oi a;refine AF rfl rfl ?_;exact⟨aQ.Bt,rfl⟩
  ·replace a:=Ax a aA;refine wG aA (fun st=>Al (eR st) (JI _ _))<|wG aA (fun st=>Ay (v:=.slice i d.C1.length m) LL (eR st) aF rfl)<|wG aA (fun st=>BT Tryz.underlying36 (eR st))<|wG aA (fun st=>HI (eR st) (eR st))<|wD (fun st=>BC (v:=.bool (decide ((5:Int)<(d.C1.length:Int)))) (eR st) aA (eR st))<|wA (v:=.bool (decide ((5:Int)<(d.C1.length:Int)))) rfl<|wn ?_;rcases Ah (decide ((5:Int)<(d.C1.length:Int))) with bE|bE
   ·replace a:=Aw a bE;refine AB rfl bE<|cr<|wA (v:=I 3) rfl<|wn<|As<|Dk ?_;obtain rfl:=oi a;refine AF rfl rfl ?_;exact⟨aQ.Bt,rfl⟩
   ·replace a:=Ax a bE;refine AJ rfl bE<|cr<|wD (fun st=>Al (eR st) (Fg _ _))<|wD (fun st=>Ay (v:=.slice b d.BM.length c) Gr (eR st) aF rfl)<|wD (fun st=>BT Tryz.underlying35 (eR st))<|wD (fun st=>C6 (eR st) (eR st))<|wM (v:=.bool ((d.BM.length:Int)==0)) rfl ?_;rcases Ah ((d.BM.length:Int)==0) with aB|aB
    ·replace a:=Aw a aB;refine wF aB<|wF aB<|wF aB<|wF aB<|wD (fun st=>Bn (v:=.bool true) (eR st) aB (eR st))<|wM (v:=.bool true) rfl<|wH<|wH<|wH<|wH<|wH<|wD (fun st=>Bn (v:=.bool true) (eR st) rfl (eR st))<|wM (v:=.bool true) rfl<|wH<|wH<|wH<|wH<|wH<|wD (fun st=>Bn (v:=.bool true) (eR st) rfl (eR st))<|wA (v:=.bool true) rfl<|wn<|AB rfl rfl<|cr<|wA (v:=I 1) rfl<|wn<|As<|Dk ?_;obtain rfl:=oi a;refine AF rfl rfl ?_;exact⟨aQ.Bt,rfl⟩
    ·replace a:=Ax a aB;refine wG aB (fun st=>Al (eR st) (Fg _ _))<|wG aB (fun st=>Ay (v:=.slice b d.BM.length c) Gr (eR st) aF rfl) ?_;have eM:=aQ.Ci (F':=FN) (M:=[]) (C:=[]) [] [] rfl trivial trivial (fun k aR=>.inl (eL k aR));have cW:Cb Tryz.prog (.func (.func 105) #[] #[]) (FU FN []) w2.heap.size (fun(st:Unit) aJ bF o=>o=none) (v1 (Cy AH)) Bu (fun(st:Unit) (x:Bb)=>(DS aH x).bind fun r=>some (r,())):=by
      refine⟨rfl,rfl,aQ.GC [] trivial eL,?_,?_,?_⟩
      ·intro st x r w1 bG bH o vs dW bI cN aD aE b3;obtain rfl:=aD;obtain⟨_,rfl,⟨_,rfl,rfl⟩⟩:=aE;obtain⟨b4,b5,b6⟩:=bind_some b3;obtain rfl:=Option.some.inj b6;refine(Dj KK rfl (a105 aH x bH w1 b4 b5)).mono ?_;rintro v w2 ⟨aE,aS⟩;exact⟨none,AM aE,(fun _ h=>by cases h),aS,rfl⟩
      ·intro st w1 w2 bG dX o aD hm dY;obtain rfl:=aD;exact rfl
      ·intro st w1 bG o aD k aR;obtain rfl:=aD;cases aR
     have aT:=aQ.nil;have aW:=(((bW.mv (Ac aN)).mv (Aa bD)).mv Bs);replace a:=bind_some a;obtain⟨bZ,dZ,a⟩:=a;refine wX aB (fun st=>An Pa (eR st) (BV (eR st) (eR st)) (RF aH d.BM () b c (.func (.func 105) #[] #[]) none (ZC (FU FN []) [none]) _ cW (Nat.le_refl _) (aT.Ci (F':=(FU FN [])) (M:=[none]) (C:=[]) [0] [] rfl ⟨rfl,trivial⟩ trivial (Cl eL)) DI (aW.mv (aT.mz (F':=(FU FN [])) (M:=[none]) (C:=[]) [0] [] ⟨rfl,trivial⟩ trivial (Cl eL))) rfl bZ dZ)) ?_;rintro _ eC ⟨eZ,bJ,rfl,eD,d0⟩;obtain rfl:=d0;have d1:=aT.B6 (Bz.cl (M1:=[]) (M2:=[none]) bJ) (AE [0] ⟨rfl,trivial⟩ eL);have bR:=d1.erase 0;refine wG aB (fun st=>CB (eR st))<|wD (fun st=>BC (v:=.bool !bZ.1) (eR st) aB (eR st))<|wM (v:=.bool !bZ.1) rfl ?_;rcases Ah (!bZ.1) with p|p
     ·replace a:=Aw a p;have dN:bZ.1=false:=by simpa using p
      refine wF p<|wF p<|wF p<|wF p<|wF p<|wD (fun st=>Bn (v:=.bool true) (eR st) p (eR st))<|wM (v:=.bool true) rfl<|wH<|wH<|wH<|wH<|wH<|wD (fun st=>Bn (v:=.bool true) (eR st) rfl (eR st))<|wA (v:=.bool true) rfl<|wn<|AB rfl rfl<|cr<|wA (v:=I 1) rfl<|wn<|As<|Dk ?_;obtain rfl:=oi a;refine AF rfl rfl ?_;exact⟨bR.Bt,rfl⟩
     ·replace a:=Ax a p;have dO:bZ.1=true:=by simpa using p
      refine wG p (fun st=>Al (eR st) (Gu _ _)) ?_;have bS:=(aF.B6 (Bz.cl (M1:=[]) (M2:=[none]) bJ) (aT.Cm 1 rfl [0] rfl ⟨rfl,trivial⟩ eL));refine wG p (fun st=>Ay (v:=.slice f d.CI.length g) Gs (eR st) bS rfl)<|wG p (fun st=>AV (v:=.func (.func 103) #[.agg (BG b c f g i m d).toArray] #[]) (eR st)) ?_;have eE:=bR.Ci (F':=FN) (M:=[]) (C:=[]) [] [] rfl trivial trivial (fun k aR=>.inl (eL k aR));have cI:Cb Tryz.prog (.func (.func 103) #[.agg (BG b c f g i m d).toArray] #[]) (FU FN []) eC.heap.size (fun(st:Unit) aJ bF o=>o=none∧Sl AH aJ bF b c d.BM∧Sl (BP (Am .i64)) aJ bF f g d.CI∧Sl AR aJ bF i m d.C1) (v1 (DT (Am .i64))) Bu (fun(st:Unit) (x:(List Int))=>(E9 aH d x).bind fun r=>some (r,())):=by
       refine⟨rfl,rfl,bR.GC [] trivial eL,?_,?_,?_⟩
       ·intro st x r w1 bG bH o vs dW bI cN aD aE b3;obtain⟨rfl,q,s,t⟩:=aD;obtain⟨_,rfl,⟨cX,cY,rfl,cJ⟩⟩:=aE;obtain⟨b4,b5,b6⟩:=bind_some b3;obtain rfl:=Option.some.inj b6;refine(Dj Pb rfl (RP aH d x b c f g i m cX cY bH w1 (q.mv (C9 bI)) (s.mv (C9 bI)) (t.mv (C9 bI)) cJ b4 b5)).mono ?_;rintro v w2 ⟨aE,aS⟩;exact⟨none,AM aE,(fun _ h=>by cases h),aS,⟨rfl,(q.mv (Cq (Aa aE))),(s.mv (Cq (Aa aE))),(t.mv (Cq (Aa aE)))⟩⟩
       ·intro st w1 w2 bG dX o aD hm dY;obtain⟨rfl,q,s,t⟩:=aD;exact⟨rfl,q.mv hm,s.mv hm,t.mv hm⟩
       ·intro st w1 bG o aD k aR;obtain⟨rfl,q,s,t⟩:=aD;cases aR
      have aX:=bR.nil;have aK:=((((((bX.mv (Ac aN)).mv (Aa bD)).mv Bs).mv (aT.C0 (Bz.cl (M1:=[]) (M2:=[none]) bJ) (AE [0] ⟨rfl,trivial⟩ eL))).mv (Ai 0)).mv Bs);replace a:=bind_some a;obtain⟨aY,cZ,a⟩:=a;have aZ:=(((aW.mv (aT.C0 (Bz.cl (M1:=[]) (M2:=[none]) bJ) (AE [0] ⟨rfl,trivial⟩ eL))).mv (Ai 0)).mv Bs);have a0:=((((((bY.mv (Ac aN)).mv (Aa bD)).mv Bs).mv (aT.C0 (Bz.cl (M1:=[]) (M2:=[none]) bJ) (AE [0] ⟨rfl,trivial⟩ eL))).mv (Ai 0)).mv Bs);have a8:=aX.mz (Z:=Z) (F':=(FU FN [])) (M:=[none]) (C:=[]) [0] [] ⟨rfl,trivial⟩ trivial (Cl eL);refine wX p (fun st=>An Pc (eR st) (BV (eR st) (eR st)) (RI aH d.CI () f g (.func (.func 103) #[.agg (BG b c f g i m d).toArray] #[]) none (ZC (FU FN []) [none]) _ cI (Nat.le_refl _) (aX.Ci (F':=(FU FN [])) (M:=[none]) (C:=[]) [0] [] rfl ⟨rfl,trivial⟩ trivial (Cl eL)) DI (aK.mv a8) ⟨rfl,(aZ.mv a8),(aK.mv a8),(a0.mv a8)⟩ aY cZ)) ?_;rintro _ d2 ⟨eN,a9,rfl,d9,c0⟩;obtain⟨rfl,cO,cP,cQ⟩:=c0;have d3:=aX.B6 (Bz.cl (M1:=[]) (M2:=[none]) a9) (AE [0] ⟨rfl,trivial⟩ eL);have bT:=d3.erase 0;refine wG p (fun st=>CB (eR st))<|wD (fun st=>BC (v:=.bool !aY.1) (eR st) p (eR st))<|wM (v:=.bool !aY.1) rfl ?_;rcases Ah (!aY.1) with u|u
      ·replace a:=Aw a u;have dP:aY.1=false:=by simpa using u
       refine wF u<|wF u<|wF u<|wF u<|wF u<|wD (fun st=>Bn (v:=.bool true) (eR st) u (eR st))<|wA (v:=.bool true) rfl<|wn<|AB rfl rfl<|cr<|wA (v:=I 1) rfl<|wn<|As<|Dk ?_;obtain rfl:=oi a;refine AF rfl rfl ?_;exact⟨bT.Bt,rfl⟩
      ·replace a:=Ax a u;have dQ:aY.1=true:=by simpa using u
       refine wG u (fun st=>Al (eR st) (JI _ _)) ?_;have bU:=(bS.B6 (Bz.cl (M1:=[]) (M2:=[none]) a9) (aX.Cm 1 rfl [0] rfl ⟨rfl,trivial⟩ eL));refine wG u (fun st=>Ay (v:=.slice i d.C1.length m) LL (eR st) bU rfl)<|wG u (fun st=>AV (v:=.func (.func 102) #[.agg (BG b c f g i m d).toArray] #[]) (eR st)) ?_;have eF:=bT.Ci (F':=FN) (M:=[]) (C:=[]) [] [] rfl trivial trivial (fun k aR=>.inl (eL k aR));have cK:Cb Tryz.prog (.func (.func 102) #[.agg (BG b c f g i m d).toArray] #[]) (FU FN []) d2.heap.size (fun(st:Unit) aJ bF o=>o=none∧Sl AH aJ bF b c d.BM∧Sl (BP (Am .i64)) aJ bF f g d.CI∧Sl AR aJ bF i m d.C1) (v1 (Cy AR)) Bu (fun(st:Unit) (x:CM)=>(Fv aH d x).bind fun r=>some (r,())):=by
        refine⟨rfl,rfl,bT.GC [] trivial eL,?_,?_,?_⟩
        ·intro st x r w1 bG bH o vs dW bI cN aD aE b3;obtain⟨rfl,q,s,t⟩:=aD;obtain⟨_,rfl,⟨_,rfl,rfl⟩⟩:=aE;obtain⟨b4,b5,b6⟩:=bind_some b3;obtain rfl:=Option.some.inj b6;refine(Dj Pd rfl (RQ aH d x b c f g i m bH w1 (q.mv (C9 bI)) (s.mv (C9 bI)) (t.mv (C9 bI)) b4 b5)).mono ?_;rintro v w2 ⟨aE,aS⟩;exact⟨none,AM aE,(fun _ h=>by cases h),aS,⟨rfl,(q.mv (Cq (Aa aE))),(s.mv (Cq (Aa aE))),(t.mv (Cq (Aa aE)))⟩⟩
        ·intro st w1 w2 bG dX o aD hm dY;obtain⟨rfl,q,s,t⟩:=aD;exact⟨rfl,q.mv hm,s.mv hm,t.mv hm⟩
        ·intro st w1 bG o aD k aR;obtain⟨rfl,q,s,t⟩:=aD;cases aR
       have bK:=bT.nil;have a2:=(((a0.mv (aX.C0 (Bz.cl (M1:=[]) (M2:=[none]) a9) (AE [0] ⟨rfl,trivial⟩ eL))).mv (Ai 0)).mv Bs);replace a:=bind_some a;obtain⟨a3,c1,a⟩:=a;have ⟨a4,b1⟩:=J1 aZ aK (mt (aX.C0 (Bz.cl (M1:=[]) (M2:=[none]) a9) (AE [0] ⟨rfl,trivial⟩ eL)) (mt (Ai 0) Bs));have bA:=bK.mz (Z:=Z) (F':=(FU FN [])) (M:=[none]) (C:=[]) [0] [] ⟨rfl,trivial⟩ trivial (Cl eL);refine wX u (fun st=>An Pe (eR st) (BV (eR st) (eR st)) (a107 aH d.C1 () i m (.func (.func 102) #[.agg (BG b c f g i m d).toArray] #[]) none (ZC (FU FN []) [none]) _ cK (Nat.le_refl _) (bK.Ci (F':=(FU FN [])) (M:=[none]) (C:=[]) [0] [] rfl ⟨rfl,trivial⟩ trivial (Cl eL)) DI (a2.mv bA) ⟨rfl,(a4.mv bA),(b1.mv bA),(a2.mv bA)⟩ a3 c1)) ?_;rintro _ eO ⟨eP,bM,rfl,eA,c2⟩;obtain⟨rfl,cR,cS,cT⟩:=c2;have c3:=bK.B6 (Bz.cl (M1:=[]) (M2:=[none]) bM) (AE [0] ⟨rfl,trivial⟩ eL);have b7:=c3.erase 0;refine wG u (fun st=>CB (eR st))<|wD (fun st=>BC (v:=.bool !a3.1) (eR st) u (eR st))<|wA (v:=.bool !a3.1) rfl<|wn ?_;rcases Ah (!a3.1) with aG|aG
       ·replace a:=Aw a aG;have dR:a3.1=false:=by simpa using aG
        refine AB rfl aG<|cr<|wA (v:=I 1) rfl<|wn<|As<|Dk ?_;obtain rfl:=oi a;refine AF rfl rfl ?_;exact⟨b7.Bt,rfl⟩
       ·replace a:=Ax a aG;have dS:a3.1=true:=by simpa using aG
        refine AJ rfl aG<|CO<|Du<|cr<|wA (v:=I 1) rfl<|wn<|Aj<|cr<|wD (fun st=>Al (eR st) (Fg _ _)) ?_;have b8:=(bU.B6 (Bz.cl (M1:=[]) (M2:=[none]) bM) (bK.Cm 1 rfl [0] rfl ⟨rfl,trivial⟩ eL));refine wD (fun st=>Ay (v:=.slice b d.BM.length c) Gr (eR st) b8 rfl)<|wD (fun st=>BT Tryz.underlying35 (eR st))<|wM (v:=I 0) rfl<|wn<|Bi ?_;replace a:=bind_some a;obtain⟨z25,aL,a⟩:=a;refine Ct (fun d4 aO aJ=>(d4=.exit 1∧Fo X0 70 aO∧sl aO 5=I z25∧Hp FN [] w [some cV] aJ)) ?c4 ?c5
        case c4=>
         clear a;refine Cs (fun c6 aO aJ=>∃y,∃aC,EB aH d c6 y aC=some z25∧Fo X0 70 aO∧sl aO 5=I y∧sl aO 55=.slice b d.BM.length c∧sl aO 56=I (d.BM.length:Int)∧sl aO 57=I aC∧Hp FN [] w [some cV] aJ∧Sl AH aJ (zf Z w [some cV]) b c d.BM) aH ?c7 ?c8
         case c7=>
          intro st;have bN:=((a4.mv (bK.C0 (Bz.cl (M1:=[]) (M2:=[none]) bM) (AE [0] ⟨rfl,trivial⟩ eL))).mv (Ai 0));exact⟨(1:Int),(0:Int),aL,qo st,sp st 5 rfl,sp st 55 rfl,sp st 56 rfl,sp st 57 rfl,b7,bN⟩
         case c8=>
          rintro(_|c6) eG eH ⟨y,aC,aL,cL,bL,a5,a6,aM,bO,aP⟩
          ·exact absurd (show none=some _ from aL) (by simp)
          rw[EB.eq_2] at aL;have a:=aL;clear aL;refine ro cL<|cr<|wD (fun st=>CU (ee st aM) (ee st a6))<|wn<|Aj ?_;rcases Ah (decide (aC<(d.BM.length:Int))) with aU|aU
          ·replace a:=Aw a aU;refine AB rfl aU<|cn<|Aj<|Bi<|Aj<|Aq ?_;replace a:=BD a;obtain⟨i27,aI,c9,dA,dB,a⟩:=a;obtain⟨eQ,eS,_,dC,rfl,dD⟩:=Sl.elem aP (by decide) dA;refine wD (fun st=>Cd (k:=i27) Tryz.underlying35 I4 (ee st a5) dC (ee st aM) c9 dB)<|wD (fun st=>CQ (l:=[I aI.Lo,I aI.Hi]) GP (eR st) dD rfl rfl)<|wE (fun st=>BE (cs:= #[I 0,I 0]) KL rfl) ?_;rintro _ eT ⟨eU,rfl,bB⟩;have b9:=bO.nb bB;have d5:=bO.Bv bB;refine Bp rfl rfl (fun st=>Bd (n:=2) (l:=[I aI.Lo,I aI.Hi]) (BZ:= #[I aI.Lo,I aI.Hi]) (eR st) (eR st) I4 bB.bk rfl rfl (show 0+2≤2 by decide) (AN rfl) rfl) ?_;rintro _ eV bP;have dE:=b9.gr bP.gr 0 rfl;refine wn<|Aq<|wM (v:=I y) bL<|wD (fun st=>Bc (l:=[I aI.Lo,I aI.Hi]) GP (eR st) bP.bk rfl rfl) ?_;replace a:=bind_some a;obtain⟨a7,dF,a⟩:=a;refine wE (fun st=>An Pf (eR st) (BR (eR st)) (a109 aH aI ZA _ a7 dF)) ?_;rintro _ eW ⟨cA,rfl⟩;have cB:=dE.ext cA;replace a:=Bo a;obtain⟨dG,a⟩:=a;refine wD (fun st=>K0 (eR st) (eR st) dG)<|wE (fun st=>AX (e:=3) (vs:= #[(0,I (y*a7)),(1,I 2001)]) (cs:= #[I (y*a7),I 2001]) (CH (eR st) (eR st)) (by kernel_rfl)) ?_;rintro _ eX ⟨d6,rfl,bC⟩;have dH:=cB.nb bC;have d7:=cB.Bv bC;replace a:=bind_some a;obtain⟨cC,dI,a⟩:=a;refine wE (fun st=>An Pg (eR st) (BR (eR st)) (RD aH [y*a7,2001] (some ⟨d6,0,none⟩) 2 ZA _ (CG (e:=(Am .i64)) (xs:=[y*a7,2001]) (Bj:=[[I (y*a7)],[I 2001]]) bC.bk trivial ⟨rfl,rfl,trivial⟩ rfl (Nat.le_refl _)) cC dI)) ?_;rintro _ eY ⟨cD,rfl⟩;have dJ:=dH.ext cD;refine wA (v:=I cC) rfl<|Be<|Du<|Aq ?_;replace a:=Bo a;obtain⟨dK,a⟩:=a;refine wD (fun st=>Cf (ee st aM) (eR st) dK)<|wM (v:=I (aC+1)) rfl<|Be ?_;have dL:=dJ.erase 0;have dM:=dL.erase 0;have bQ:=(((((((aP.mv (Ac bB)).mv (b9.Ad bP.gr 0 rfl)).mv (Aa cA)).mv (Ac bC)).mv (Aa cD)).mv (Ai 0)).mv (Ai 0));refine B1 c6 (Nat.lt_succ_self _) (fun st=>?_);exact⟨cC,(aC+1),a,qo st,sp st 5 rfl,sp st 55 a5,sp st 56 a6,sp st 57 rfl,dM,bQ⟩
          ·replace a:=Ax a aU;refine AJ rfl aU<|Ei ?_;obtain rfl:=oi a;refine Cg (fun st=>?_);exact⟨rfl,qo st,sp st 5 bL,bO⟩
        case c5=>
         rintro d4 eB eI (⟨rfl,cE,b2,bV⟩);refine lf cE<|BA<|Br<|Aj<|cr<|wM (v:=I z25) b2<|wD (fun st=>HI (eR st) (eR st))<|wn ?_;rcases Ah (decide ((2000:Int)<z25)) with aV|aV
         ·replace a:=Aw a aV;refine AB rfl aV<|cr<|wA (v:=I 3) rfl<|wn<|As<|Ba ?_;obtain rfl:=oi a;refine AF rfl rfl ?_;exact⟨bV.Bt,rfl⟩
         ·replace a:=Ax a aV;refine AJ rfl aV<|cn<|cr<|wA (v:=I 0) rfl<|wn<|As ?_;obtain rfl:=oi a;refine AF rfl rfl ?_;exact⟨bV.Bt,rfl⟩
theorem Sa aG h r d e(Z:Nat→Prop) w(x:Sl (Am .i64) w Z d e h) aH(a:GM aG h r=some aH):
 BI Tryz.prog 94 #[.slice d h.length e,I r] w (fun v w'=>Ext w w'∧(C7 .i64).R w' (zf Z w []) v aH):=by
 unfold GM at a;refine rq (N:=19) Tryz.func94 fun aU aA aV=>?_;have t:=sA 0 aA;have aB:=sA 1 aA;clear aA;have z:Hp FN [] w [] w:=Hp.start (Bx.none w);have s:=x.mv (BL (Z:=Z) (L:=[]) w);refine cr<|wA (v:=I 0) rfl<|wn<|Aj<|cr<|wM (v:=.slice d h.length e) t<|wD (fun st=>BT Tryz.underlying31 (eR st))<|wM (v:=I 0) rfl<|wn<|Bi ?_;replace a:=bind_some a;obtain⟨aC,f,a⟩:=a;refine Ct (fun aD c y=>(aD=.ret∧∃g,aC=.inl g∧Fo X0 19 c∧sl c 4=I g∧w=y)∨(aD=.exit 0∧∃g,aC=.inr g∧Fo X0 19 c∧w=y)) ?aI ?aJ
 case aI=>
  clear a;refine Cs (fun aE c y=>∃b,ET h r aE b=some aC∧Fo X0 19 c∧sl c 0=.slice d h.length e∧sl c 1=I r∧sl c 7=I (h.length:Int)∧sl c 8=I b∧w=y) aG ?aK ?aL
  case aK=>
   intro st;exact⟨(0:Int),f,qo st,sp st 0 t,sp st 1 aB,sp st 7 rfl,sp st 8 rfl,rfl⟩
  case aL=>
   rintro(_|aE) aW _ ⟨b,f,aF,o,p,q,i,rfl⟩
   ·exact absurd (show none=some _ from f) (by simp)
   rw[ET.eq_2] at f;have a:=f;clear f;refine ro aF<|cr<|wD (fun st=>CU (ee st i) (ee st q))<|wn<|Aj ?_;rcases Ah (decide (b<(h.length:Int))) with m|m
   ·replace a:=Aw a m;refine AB rfl m<|cn<|Aj<|Bi<|cr<|wM (v:=I b) i<|wA (v:=I b) rfl<|wr<|wM (v:=I r) p<|wM (v:=.slice d h.length e) o<|wM (v:=I b) rfl ?_;replace a:=BD a;obtain⟨i3,aM,aN,aO,aP,a⟩:=a;obtain⟨aX,aY,_,aQ,rfl,aR⟩:=Sl.Dt s rfl aO;refine wD (fun st=>Cc (k:=i3) Tryz.underlying31 C2 (eR st) aQ (eR st) aN aP)<|wD (fun st=>CD (v:=I aM) BN (eR st) aR rfl)<|wD (fun st=>C6 (eR st) (eR st))<|wn ?_;rcases Ah (r==aM) with n|n
    ·replace a:=Aw a n;refine AB rfl n<|cr<|wM (v:=I b) rfl<|wA (v:=I b) rfl<|wn<|As<|Dk<|Ba ?_;obtain rfl:=oi a;refine Cg (fun st=>?_);exact .inl ⟨rfl,b,rfl,qo st,sp st 4 rfl,rfl⟩
    ·replace a:=Ax a n;refine AJ rfl n<|CO<|Du<|Aq ?_;replace a:=Bo a;obtain⟨aS,a⟩:=a;refine wD (fun st=>Cf (ee st i) (eR st) aS)<|wM (v:=I (b+1)) rfl<|Be ?_;refine B1 aE (Nat.lt_succ_self _) (fun st=>?_);exact⟨(b+1),a,qo st,sp st 0 o,sp st 1 p,sp st 7 q,sp st 8 rfl,rfl⟩
   ·replace a:=Ax a m;refine AJ rfl m<|Ei ?_;obtain rfl:=oi a;refine Cg (fun st=>?_);exact .inr ⟨rfl,(),rfl,qo st,rfl⟩
 case aJ=>
  rintro aD aT _ (⟨rfl,g,rfl,l,u,rfl⟩|⟨rfl,g,rfl,l,rfl⟩)
  ·skip
   replace a:=Dp a;refine lf l<|Dk ?_;obtain rfl:=oi a;refine AF rfl u ?_;exact⟨z.Bt,rfl⟩
  ·skip
   replace a:=Dq a;refine lf l<|BA<|Br<|cr<|wA (v:=I (-1)) rfl<|wn<|As ?_;obtain rfl:=oi a;refine AF rfl rfl ?_;exact⟨z.Bt,rfl⟩
theorem a59 l e f a b(Z:Nat→Prop) w(g:Sl (Am .i64) w Z a b e) m(c:Dl l e f=some m):
 BI Tryz.prog 59 #[.slice a e.length b,I f] w (fun v w'=>Ext w w'∧Bu.R w' (zf Z w []) v m):=by
 unfold Dl at c;refine rq (N:=9) Tryz.func59 fun s h t=>?_;have i:=sA 0 h;have k:=sA 1 h;clear h;have n:Hp FN [] w [] w:=Hp.start (Bx.none w);have d:=g.mv (BL (Z:=Z) (L:=[]) w);refine cr<|wA (v:=.bool false) rfl<|wr<|wM (v:=.slice a e.length b) i<|wM (v:=I f) k ?_;replace c:=bind_some c;obtain⟨o,p,c⟩:=c;refine wE (fun st=>An Ql (eR st) (BV (eR st) (eR st)) (Sa l e f a b ZA _ d.all o p)) ?_;rintro _ w2 ⟨q,rfl⟩;have r:=n.ext q;refine wD (fun st=>HJ (eR st) (eR st))<|wA (v:=.bool (decide ((0:Int)≤o))) rfl<|wn<|As ?_;obtain rfl:=oi c;refine AF rfl rfl ?_;exact⟨r.Bt,rfl⟩
theorem a119 aG f m c d(Z:Nat→Prop) w(aD:Sl (Am .i64) w Z c d m) aO(a:EU aG f m=some aO):
 BI Tryz.prog 119 #[.agg #[I f.a0,I f.a1,I f.a2],.slice c m.length d] w (fun v w'=>Ext w w'∧(C7 .i64).R w' (zf Z w []) v aO):=by
 unfold EU at a;refine rq (N:=27) Tryz.func119 fun bG aH bH=>?_;have aI:=sA 0 aH;have y:=sA 1 aH;clear aH;have aF:Hp FN [] w [] w:=Hp.start (Bx.none w);have n:=aD.mv (BL (Z:=Z) (L:=[]) w);refine cr<|wE (fun st=>BK (v:=.agg #[I f.a0,I f.a1,I f.a2]) (cs:= #[I f.a0,I f.a1,I f.a2]) (ee st aI) rfl) ?_;rintro _ w1 ⟨bE,rfl,p⟩;have aP:=aF.nb p;have bD:=aF.Bv p;refine wA (v:=I 0) rfl<|wr<|wA (v:=I 0) rfl<|wn<|Aj<|cr<|wM (v:=.slice c m.length d) y<|wD (fun st=>BT Tryz.underlying31 (eR st))<|wM (v:=I 0) rfl<|wn<|Bi ?_;replace a:=bind_some a;obtain⟨z2,o,a⟩:=a;refine Ct (fun aQ e aJ=>(aQ=.exit 0∧Fo X0 27 e∧sl e 1=.slice c m.length d∧sl e 5=I z2∧w1=aJ)) ?aR ?aS
 case aR=>
  clear a;refine Cs (fun aK e aJ=>∃h,∃b,Ej f m aK h b=some z2∧Fo X0 27 e∧sl e 1=.slice c m.length d∧sl e 2=pt bE 0∧sl e 5=I h∧sl e 8=.slice c m.length d∧sl e 9=I (m.length:Int)∧sl e 10=I b∧w1=aJ) aG ?aT ?aU
  case aT=>
   intro st;exact⟨(0:Int),(0:Int),o,qo st,sp st 1 y,sp st 2 rfl,sp st 5 rfl,sp st 8 rfl,sp st 9 rfl,sp st 10 rfl,rfl⟩
  case aU=>
   rintro(_|aK) bI _ ⟨h,b,o,aL,r,s,t,u,x,g,rfl⟩
   ·exact absurd (show none=some _ from o) (by simp)
   rw[Ej.eq_2] at o;have a:=o;clear o;refine ro aL<|cr<|wD (fun st=>CU (ee st g) (ee st x))<|wn<|Aj ?_;rcases Ah (decide (b<(m.length:Int))) with q|q
   ·replace a:=Aw a q;refine AB rfl q<|cn<|Aj<|Bi<|cr<|wM (v:=I b) g ?_;replace a:=BD a;obtain⟨i4,z,aV,aW,aX,a⟩:=a;have i:=(n.mv (Ac p));obtain⟨bK,bL,_,aY,rfl,aZ⟩:=Sl.Dt i rfl aW;refine wD (fun st=>Cc (k:=i4) Tryz.underlying31 C2 (ee st u) aY (ee st g) aV aX)<|wD (fun st=>CD (v:=I z) BN (eR st) aZ rfl)<|wA (v:=I b) rfl<|wA (v:=I z) rfl<|wn<|Aq<|wM (v:=I h) t<|wM (v:=I z) rfl<|wM (v:=I b) rfl ?_;replace a:=BD a;obtain⟨i5,aM,a3,a4,a5,a⟩:=a;refine wD (fun st=>Eo (k:=i5) Tryz.underlying136 C2 (ee st s) (eR st) a3 a5)<|wD (fun st=>Ay (v:=I aM) BN (eR st) p.bk (Ik (l:=[f.a0,f.a1,f.a2]) a4)) ?_;replace a:=Bo a;obtain⟨a6,a⟩:=a;refine wD (fun st=>K0 (eR st) (eR st) a6) ?_;replace a:=Bo a;obtain⟨a7,a⟩:=a;refine wD (fun st=>Cf (eR st) (eR st) a7)<|wA (v:=I (h+(z*aM))) rfl<|Be<|Du<|Aq ?_;replace a:=Bo a;obtain⟨a8,a⟩:=a;refine wD (fun st=>Cf (ee st g) (eR st) a8)<|wM (v:=I (b+1)) rfl<|Be ?_;refine B1 aK (Nat.lt_succ_self _) (fun st=>?_);exact⟨(h+(z*aM)),(b+1),a,qo st,sp st 1 r,sp st 2 s,sp st 5 rfl,sp st 8 u,sp st 9 x,sp st 10 rfl,rfl⟩
   ·replace a:=Ax a q;refine AJ rfl q<|Ei ?_;obtain rfl:=oi a;refine Cg (fun st=>?_);exact⟨rfl,qo st,sp st 1 r,sp st 5 t,rfl⟩
 case aS=>
  rintro aQ bF _ (⟨rfl,aE,aA,aB,rfl⟩);refine lf aE<|BA<|Br<|cr<|wM (v:=I z2) aB<|wM (v:=.slice c m.length d) aA ?_;have i:=(n.mv (Ac p));replace a:=bind_some a;obtain⟨a9,bA,a⟩:=a;refine wE (fun st=>An Mu (eR st) (BR (eR st)) (a130 aG m c d ZA _ i.all a9 bA)) ?_;rintro _ bJ ⟨bB,rfl⟩;have bC:=aP.ext bB;replace a:=N4 a;obtain⟨aC,a⟩:=a;replace a:=Bo a;obtain⟨aN,a⟩:=a;refine wD (fun st=>Qc (eR st) (eR st) aC.1 aC.2 aN)<|wA (v:=I (z2/a9)) rfl<|wn<|As ?_;obtain rfl:=oi a;refine AF rfl rfl ?_;exact⟨bC.Bt,rfl⟩
theorem RR aM c b o d e f g i m(Z:Nat→Prop) w(z:Sl AH w Z d e c.BM)(aA:Sl (BP (Am .i64)) w Z f g c.CI)(aB:Sl AR w Z i m c.C1) aN(a:Hh aM c b o=some aN):
 BI Tryz.prog 118 #[.agg (BG d e f g i m c).toArray,.agg #[I b.a0,I b.a1,I b.a2],I o] w (fun v w'=>Ext w w'∧(C7 .i64).R w' (zf Z w []) v aN):=by
 unfold Hh at a;refine rq (N:=26) Tryz.func118 fun bC aC bD=>?_;have aI:=sA 0 aC;have aJ:=sA 1 aC;have p:=sA 2 aC;clear aC;have aE:Hp FN [] w [] w:=Hp.start (Bx.none w);have ⟨aK,s,aL⟩:=GD z aA aB (BL (Z:=Z) (L:=[]) w);refine cr<|wE (fun st=>BK (v:=.agg (BG d e f g i m c).toArray) (cs:=(BG d e f g i m c).toArray) (ee st aI) rfl) ?_;rintro _ w1 ⟨a9,rfl,q⟩;have aF:=aE.nb q;have a7:=aE.Bv q;refine wE (fun st=>BK (v:=.agg #[I b.a0,I b.a1,I b.a2]) (cs:= #[I b.a0,I b.a1,I b.a2]) (ee st aJ) rfl) ?_;rintro _ w2 ⟨bE,rfl,h⟩;have aG:=aF.nb h;have a8:=aF.Bv h;refine wA (v:=I 0) rfl<|wn<|Aj<|cr<|wD (fun st=>Al (eR st) (Fg _ _)) ?_;have r:=(q.bk.ext h.gr);refine wD (fun st=>Ay (v:=.slice d c.BM.length e) Gr (eR st) r rfl)<|wD (fun st=>BT Tryz.underlying35 (eR st))<|wA (v:=I (c.BM.length:Int)) rfl<|wr<|wM (v:=I o) p<|wM (v:=I (c.BM.length:Int)) rfl<|wD (fun st=>HJ (eR st) (eR st))<|wn ?_;rcases Ah (decide ((c.BM.length:Int)≤o)) with n|n
 ·replace a:=Aw a n;refine AB rfl n<|Aj ?_;replace a:=Bo a;obtain⟨aO,a⟩:=a;replace a:=BD a;obtain⟨i6,aP,aQ,aR,aS,a⟩:=a;have t:=((s.mv (Ac q)).mv (Ac h));obtain⟨bA,bB,_,aT,⟨x,y,rfl,aD⟩,aU⟩:=Sl.Dt t rfl aR;refine CY 8 [Kc (.agg #[I b.a0,I b.a1,I b.a2]),Kc (pt a9 1),Kc (.slice f c.CI.length g),Kc (I o),Kc (I (c.BM.length:Int)),Kc (I (o-(c.BM.length:Int))),Kc (pt bA (bB+i6)),Kc (.slice x aP.length y)] mixed rfl rfl
      (Ab (oD (fun K=>Bc (l:=[I b.a0,I b.a1,I b.a2]) Gv (K.kO 4) (h.bk.ext K.BO) rfl rfl))
      (Ab (oD (fun K=>Al (K.kO 3) (Gu _ _)))
      (Ab (oD (fun K=>Ay Gs (es (K.dq 1 15)) (r.ext K.BO) rfl))
      (Ab (oD (fun K=>AV (es ((K.out 2 rfl).trans p))))
      (Ab (oD (fun K=>AV (K.kO 7)))
      (Ab (oD (fun K=>G8 (es (K.dq 3 17)) (es (K.dq 4 18)) aO))
      (Ab (oD (fun K=>Cc (k:=i6) Tryz.underlying23 FE (es (K.dq 2 16)) aT (es (K.dq 5 19)) aQ aS))
      (Ab (oD (fun K=>CD C4 (es (K.dq 6 20)) (aU.mv (Aa K.BO)) rfl))
      (CS _))))))))) ?_
  intro bF;rintro _ rfl _ rfl _ rfl _ rfl _ rfl _ rfl _ rfl _ rfl aH;have aV:=aG.ext aH;have u:=(aD.mv (Aa aH));replace a:=bind_some a;obtain⟨aW,aX,a⟩:=a;refine wE (fun st=>An Mw (eR st) (BV (eR st) (eR st)) (a119 aM b aP x y ZA _ u.all aW aX)) ?_;rintro _ bG ⟨aY,rfl⟩;have aZ:=aV.ext aY;refine wA (v:=I aW) rfl<|wn<|As<|Ba ?_;obtain rfl:=oi a;refine AF rfl rfl ?_;exact⟨aZ.Bt,rfl⟩
 ·replace a:=Ax a n;refine AJ rfl n<|cn<|cr<|wM (v:=I o) p ?_;replace a:=BD a;obtain⟨i9,a3,a4,a5,a6,a⟩:=a;refine wD (fun st=>Eo (k:=i9) Tryz.underlying136 C2 (eR st) (eR st) a4 a6)<|wD (fun st=>Ay (v:=I a3) BN (eR st) h.bk (Ik (l:=[b.a0,b.a1,b.a2]) a5))<|wA (v:=I a3) rfl<|wn<|As ?_;obtain rfl:=oi a;refine AF rfl rfl ?_;exact⟨aG.Bt,rfl⟩
theorem RS aW p q aO g i m o d e r s(Z:Nat→Prop) w(bY:Sl AH w Z g i p.BM)(bZ:Sl (BP (Am .i64)) w Z m o p.CI)(b1:Sl AR w Z d e p.C1)(b2:Sl (Am .i64) w Z r s aO) cT(a:Gy aW p q aO=some cT):
 BI Tryz.prog 100 #[.agg (BG g i m o d e p).toArray,.agg #[I q.a0,I q.a1,I q.a2],.slice r aO.length s] w (fun v w'=>Ext w w'∧Bu.R w' (zf Z w []) v cT):=by
 unfold Gy at a;refine rq (N:=34) Tryz.func100 fun dD b3 dE=>?_;have cD:=sA 0 b3;have cE:=sA 1 b3;have cF:=sA 2 b3;clear b3;have b8:Hp FN [] w [] w:=Hp.start (Bx.none w);have ⟨bE,bF,bG,bH⟩:=IE bY bZ b1 b2 (BL (Z:=Z) (L:=[]) w);refine cr<|wE (fun st=>BK (v:=.agg (BG g i m o d e p).toArray) (cs:=(BG g i m o d e p).toArray) (ee st cD) rfl) ?_;rintro _ w1 ⟨bI,rfl,bB⟩;have b9:=b8.nb bB;have c7:=b8.Bv bB;refine wE (fun st=>BK (v:=.agg #[I q.a0,I q.a1,I q.a2]) (cs:= #[I q.a0,I q.a1,I q.a2]) (ee st cE) rfl) ?_;rintro _ w2 ⟨bJ,rfl,aX⟩;have cU:=b9.nb aX;have c8:=b9.Bv aX;refine wA (v:=.bool false) rfl<|wn<|Aj<|cr<|wD (fun st=>Al (eR st) (JI _ _)) ?_;have bC:=(bB.bk.ext aX.gr);refine wD (fun st=>Ay (v:=.slice d p.C1.length e) LL (eR st) bC rfl)<|wD (fun st=>BT Tryz.underlying36 (eR st))<|wM (v:=I 0) rfl<|wn<|Bi ?_;replace a:=bind_some a;obtain⟨z3,aQ,a⟩:=a;refine Ct (fun cG t aP=>(cG=.ret∧∃aR,z3=.inl aR∧Fo X0 34 t∧sl t 6=.bool aR∧Hp FN [] w [some bJ,some bI] aP)∨(cG=.exit 0∧∃aR,z3=.inr aR∧Fo X0 34 t∧Hp FN [] w [some bJ,some bI] aP)) ?cV ?cW
 case cV=>
  clear a;refine Cs (fun b4 t aP=>∃c,DU aW p q aO b4 c=some z3∧Fo X0 34 t∧sl t 2=.slice r aO.length s∧sl t 3=pt bI 0∧sl t 4=pt bJ 0∧sl t 10=.slice d p.C1.length e∧sl t 11=I (p.C1.length:Int)∧sl t 12=I c∧Hp FN [] w [some bJ,some bI] aP∧Bk aP bI 38 (BG g i m o d e p).toArray∧Bk aP bJ 136 #[I q.a0,I q.a1,I q.a2]∧(fun b5=>Sl AH aP b5 g i p.BM∧Sl (BP (Am .i64)) aP b5 m o p.CI∧Sl AR aP b5 d e p.C1∧Sl (Am .i64) aP b5 r s aO) (zf Z w [some bJ,some bI])) aW ?cX ?cY
  case cX=>
   intro st;have ⟨bK,bL,bM,bN⟩:=IE bE bF bG bH (mt (Ac bB) (Ac aX));exact⟨(0:Int),aQ,qo st,sp st 2 cF,sp st 3 rfl,sp st 4 rfl,sp st 10 rfl,sp st 11 rfl,sp st 12 rfl,cU,bC,aX.bk,bK,bL,bM,bN⟩
  case cY=>
   rintro(_|b4) dF dG ⟨c,aQ,cH,aH,aI,aS,aJ,aK,u,bS,aY,aZ,aL,aM,aB,a5⟩
   ·exact absurd (show none=some _ from aQ) (by simp)
   rw[DU.eq_2] at aQ;have a:=aQ;clear aQ;refine ro cH<|cr<|wD (fun st=>CU (ee st u) (ee st aK))<|wn<|Aj ?_;rcases Ah (decide (c<(p.C1.length:Int))) with a3|a3
   ·replace a:=Aw a a3;refine AB rfl a3<|cn<|Aj<|Bi<|cr<|wM (v:=I c) u ?_;replace a:=BD a;obtain⟨i5,f,cZ,c0,c1,a⟩:=a;obtain⟨dJ,dK,_,c2,rfl,c3⟩:=Sl.elem aB (by decide) c0;refine wD (fun st=>Cd (k:=i5) Tryz.underlying36 M6 (ee st aJ) c2 (ee st u) cZ c1)<|wD (fun st=>CQ (l:=[.bool f.C5,I f.Number,I f.B7,I f.B8]) Ky (eR st) c3 rfl rfl)<|wE (fun st=>BE (cs:= #[.bool false,I 0,I 0,I 0]) Ph rfl) ?_;rintro _ dL ⟨dA,rfl,y⟩;have aG:=bS.nb y;have c9:=bS.Bv y;refine wA (v:=I c) rfl<|Bp rfl rfl (fun st=>Bd (n:=4) (l:=[.bool f.C5,I f.Number,I f.B7,I f.B8]) (BZ:= #[.bool f.C5,I f.Number,I f.B7,I f.B8]) (eR st) (eR st) M6 y.bk rfl rfl (show 0+4≤4 by decide) (AN rfl) rfl) ?_;rintro _ dM z;have cA:=aG.gr z.gr 0 rfl;refine wn<|Aj ?_;have x:=((a5.mv (Ac y)).mv (aG.Ad z.gr 0 rfl));replace a:=bind_some a;obtain⟨aN,cB,a⟩:=a;rcases Ah (!aN) with b|b
    ·replace a:=Aw a b;have cP:aN=false:=by simpa using b
     have aT:=((aY.ext y.gr).gr z.gr (aG.nq 2 0));have bD:=((aZ.ext y.gr).gr z.gr (aG.nq 1 0));have ⟨aD,aE,aF⟩:=GD aL aM aB (mt (Ac y) (aG.Ad z.gr 0 rfl));replace a:=bind_some a;obtain⟨bT,cI,a⟩:=a;replace a:=bind_some a;obtain⟨bU,cJ,a⟩:=a;refine CY 13 [Kc (.slice r aO.length s),Kc (I c),Kc (.bool aN),Kc (.bool !aN),Kc (.bool !aN),Kc (pt dA 2),Kc (.agg #[I f.B7,I f.B8]),Kc (.agg (BG g i m o d e p).toArray),Kc (.agg #[I q.a0,I q.a1,I q.a2]),Kc (.agg (BG g i m o d e p).toArray),Kc (.agg #[.bool f.C5,I f.Number,I f.B7,I f.B8]),Kc (I bT),Kc (I bU)] mixed rfl rfl
         (Ab (oD (fun K=>AV (es ((K.out 2 rfl).trans aH))))
         (Ab (oD (fun K=>AV (K.kO 7)))
         (Ab (oE (fun K=>(An Im rfl (BV (es (K.dq 0 17)) (es (K.dq 1 18))) (a59 aW aO c r s ZA _ (x.mv (Aa K.BO)).all aN cB)).mono (fun _ _ h=>⟨h.2,h.1⟩)))
         (Ab (oD (fun K=>CB (es (K.dq 2 19))))
         (Ab (oD (fun K=>AV (es (K.dq 3 20))))
         (Ab (oG b (fun K=>Al (K.kO 8) (KJ _ _)))
         (Ab (oG b (fun K=>Bc (l:=[I f.B7,I f.B8]) GP (es (K.dq 5 22)) (z.bk.ext K.BO) rfl rfl))
         (Ab (oG b (fun K=>Bc (l:=(BG g i m o d e p)) Ew (es ((K.out 3 rfl).trans aI)) (aT.ext K.BO) rfl rfl))
         (Ab (oG b (fun K=>Bc (l:=[I q.a0,I q.a1,I q.a2]) Gv (es ((K.out 4 rfl).trans aS)) (bD.ext K.BO) rfl rfl))
         (Ab (oG b (fun K=>Bc (l:=(BG g i m o d e p)) Ew (es ((K.out 3 rfl).trans aI)) (aT.ext K.BO) rfl rfl))
         (Ab (oG b (fun K=>Bc (l:=[.bool f.C5,I f.Number,I f.B7,I f.B8]) Ky (K.kO 8) (z.bk.ext K.BO) rfl rfl))
         (Ab (oX b (fun K=>(An Pj rfl (BV (es (K.dq 9 26)) (es (K.dq 10 27))) (RC aW p f g i m o d e ZA _ (aD.mv (Aa K.BO)).all (aE.mv (Aa K.BO)).all (aF.mv (Aa K.BO)).all bT cI)).mono (fun _ _ h=>⟨h.2,h.1⟩)))
         (Ab (oX b (fun K=>(An Pk rfl (GA (es (K.dq 7 24)) (es (K.dq 8 25)) (es (K.dq 11 28))) (RR aW p q bT g i m o d e ZA _ (aD.mv (Aa K.BO)).all (aE.mv (Aa K.BO)).all (aF.mv (Aa K.BO)).all bU cJ)).mono (fun _ _ h=>⟨h.2,h.1⟩)))
         (CS _)))))))))))))) ?_
     intro dB;rintro _ rfl _ rfl _ rfl _ rfl _ rfl _ rfl _ rfl _ rfl _ rfl _ rfl _ rfl _ rfl _ rfl aA;have c4:=cA.ext aA;replace a:=bind_some a;obtain⟨a4,cK,a⟩:=a;refine wX b (fun st=>An Mx (eR st) (BV (eR st) (eR st)) (a127 aW (⟨f.B7,f.B8⟩:Bb) bU ZA _ a4 cK)) ?_;rintro _ dH ⟨aU,rfl⟩;have cC:=c4.ext aU;refine wG b (fun st=>CB (eR st))<|wD (fun st=>Bn (v:=.bool !a4) (eR st) b (eR st))<|wn ?_;rcases Ah (!a4) with aC|aC
     ·replace a:=Aw a aC;have cQ:a4=false:=by simpa using aC
      refine AB rfl aC<|cr<|wA (v:=.bool false) rfl<|wn<|As<|Dk<|Ba ?_;have c5:=cC.erase 0;obtain rfl:=oi a;refine Cg (fun st=>?_);exact .inl ⟨rfl,false,rfl,qo st,sp st 6 rfl,c5⟩
     ·replace a:=Ax a aC;have cR:a4=true:=by simpa using aC
      refine AJ rfl aC<|CO<|Du<|Aq ?_;replace a:=Bo a;obtain⟨cL,a⟩:=a;refine wD (fun st=>Cf (ee st u) (eR st) cL)<|wM (v:=I (c+1)) rfl<|Be ?_;have c6:=cC.erase 0;have b6:=((aT.ext aA).ext aU);have b7:=((bD.ext aA).ext aU);have ⟨bO,bP,bQ,bR⟩:=IE aD aE aF x (mt (Aa aA) (mt (Aa aU) (Ai 0)));refine B1 b4 (Nat.lt_succ_self _) (fun st=>?_);exact⟨(c+1),a,qo st,sp st 2 aH,sp st 3 aI,sp st 4 aS,sp st 10 aJ,sp st 11 aK,sp st 12 rfl,c6,b6,b7,bO,bP,bQ,bR⟩
    ·replace a:=Ax a b;have cS:aN=true:=by simpa using b
     refine CY 13 [Kc (.slice r aO.length s),Kc (I c),Kc (.bool aN),Kc (.bool !aN),Kc (.bool !aN),Kc undef,Kc undef,Kc undef,Kc undef,Kc undef,Kc undef,Kc undef,Kc undef] mixed rfl rfl
         (Ab (oD (fun K=>AV (es ((K.out 2 rfl).trans aH))))
         (Ab (oD (fun K=>AV (K.kO 7)))
         (Ab (oE (fun K=>(An Im rfl (BV (es (K.dq 0 17)) (es (K.dq 1 18))) (a59 aW aO c r s ZA _ (x.mv (Aa K.BO)).all aN cB)).mono (fun _ _ h=>⟨h.2,h.1⟩)))
         (Ab (oD (fun K=>CB (es (K.dq 2 19))))
         (Ab (oD (fun K=>AV (es (K.dq 3 20))))
         (Ab (oT b)
         (Ab (oT b)
         (Ab (oT b)
         (Ab (oT b)
         (Ab (oT b)
         (Ab (oT b)
         (Ab (oT b)
         (Ab (oT b)
         (CS _)))))))))))))) ?_
     intro dB;rintro _ rfl _ rfl _ rfl _ rfl _ rfl _ rfl _ rfl _ rfl _ rfl _ rfl _ rfl _ rfl _ rfl aA;have cM:=cA.ext aA;refine wF b<|wF b<|wD (fun st=>BC (v:=.bool false) (eR st) b (eR st))<|wn<|AJ rfl rfl<|CO<|Du<|Aq ?_;replace a:=Bo a;obtain⟨cN,a⟩:=a;refine wD (fun st=>Cf (ee st u) (eR st) cN)<|wM (v:=I (c+1)) rfl<|Be ?_;have cO:=cM.erase 0;have bV:=(((aY.ext y.gr).gr z.gr (aG.nq 2 0)).ext aA);have bW:=(((aZ.ext y.gr).gr z.gr (aG.nq 1 0)).ext aA);have ⟨a6,a7,a8⟩:=GD aL aM aB (mt (Ac y) (mt (aG.Ad z.gr 0 rfl) (mt (Aa aA) (Ai 0))));have a9:=((x.mv (Aa aA)).mv (Ai 0));refine B1 b4 (Nat.lt_succ_self _) (fun st=>?_);exact⟨(c+1),a,qo st,sp st 2 aH,sp st 3 aI,sp st 4 aS,sp st 10 aJ,sp st 11 aK,sp st 12 rfl,cO,bV,bW,a6,a7,a8,a9⟩
   ·replace a:=Ax a a3;refine AJ rfl a3<|Ei ?_;obtain rfl:=oi a;refine Cg (fun st=>?_);exact .inr ⟨rfl,(),rfl,qo st,bS⟩
 case cW=>
  rintro cG dC dI (⟨rfl,aR,rfl,aV,bX,bA⟩|⟨rfl,aR,rfl,aV,bA⟩)
  ·skip
   replace a:=Dp a;refine lf aV<|Dk ?_;obtain rfl:=oi a;refine AF rfl bX ?_;exact⟨bA.Bt,rfl⟩
  ·skip
   replace a:=Dq a;refine lf aV<|BA<|Br<|cr<|wA (v:=.bool true) rfl<|wn<|As ?_;obtain rfl:=oi a;refine AF rfl rfl ?_;exact⟨bA.Bt,rfl⟩
theorem Re bJ o b i m aJ aK aL aM f g(Z:Nat→Prop) w(bK:Sl AH w Z i m o.BM)(bL:Sl (BP (Am .i64)) w Z aJ aK o.CI)(bM:Sl AR w Z aL aM o.C1)(bN:Sl (Am .i64) w Z f g b) cF(a:Fa bJ o b=some cF):
 BI Tryz.prog 99 #[.agg (BG i m aJ aK aL aM o).toArray,.slice f b.length g] w (fun v w'=>Ext w w'∧(JW (Cy B5) Bu).R w' (zf Z w []) v cF):=by
 unfold Fa at a;refine rq (N:=36) Tryz.func99 fun cZ bU c0=>?_;have bV:=sA 0 bU;have bB:=sA 1 bU;clear bU;have bO:Hp FN [] w [] w:=Hp.start (Bx.none w);have ⟨a6,cB,cC,a7⟩:=IE bK bL bM bN (BL (Z:=Z) (L:=[]) w);refine cr<|wE (fun st=>BK (v:=.agg (BG i m aJ aK aL aM o).toArray) (cs:=(BG i m aJ aK aL aM o).toArray) (ee st bV) rfl) ?_;rintro _ w1 ⟨a8,rfl,aZ⟩;have bP:=bO.nb aZ;have cV:=bO.Bv aZ;refine wE (fun st=>BE (cs:= #[I 0,I 0,I 0]) Ke rfl) ?_;rintro _ w2 ⟨s,rfl,t⟩;have bQ:=bP.nb t;have cW:=bP.Bv t;refine wA (v:=.bool false) rfl<|wn<|Aj<|cr<|wM (v:=.slice f b.length g) bB<|wD (fun st=>BT Tryz.underlying31 (eR st))<|wD (fun st=>Al (eR st) (Fg _ _)) ?_;have a3:=(aZ.bk.ext t.gr);refine wD (fun st=>Ay (v:=.slice i o.BM.length m) Gr (eR st) a3 rfl)<|wD (fun st=>BT Tryz.underlying35 (eR st))<|wD (fun st=>C8 (eR st) (eR st))<|wn ?_;rcases Ah ((b.length:Int) !=(o.BM.length:Int)) with aP|aP
 ·replace a:=Aw a aP;refine AB rfl aP<|cr<|wD (fun st=>Bc (l:=[I 0,I 0,I 0]) Gv (eR st) t.bk rfl rfl)<|Bp rfl rfl (fun st=>Bd (n:=3) (l:=[I 0,I 0,I 0]) (BZ:= #[I 0,I 0,I 0]) (eR st) (eR st) Jr t.bk rfl rfl (show 0+3≤3 by decide) (AN rfl) rfl) ?_;rintro _ c9 bR;have cG:=bQ.gr bR.gr 0 rfl;refine wA (v:=.bool false) rfl<|wn<|As<|Ba ?_;obtain rfl:=oi a;refine He (N:=36) (v:=.agg #[I 0,I 0,I 0]) (v':=.bool false) rfl ⟨_,rfl,CZ Gv bR.bk rfl rfl⟩ rfl ?_;exact⟨cG.Bt,⟨_,_,rfl,⟨_,rfl,rfl⟩,rfl⟩⟩
 ·replace a:=Ax a aP;refine AJ rfl aP<|cn<|Aj<|cr<|wD (fun st=>Al (eR st) (Fg _ _))<|wD (fun st=>Ay (v:=.slice i o.BM.length m) Gr (eR st) a3 rfl)<|wD (fun st=>BT Tryz.underlying35 (eR st))<|wM (v:=I 0) rfl<|wn<|Bi ?_;replace a:=bind_some a;obtain⟨z5,aG,a⟩:=a;refine Ct (fun bW d aF=>(bW=.ret∧∃u,z5=.inl u∧Fo X0 36 d∧sl d 4=pt s 0∧sl d 5=.bool u∧Hp FN [] w [some s,some a8] aF∧Bk aF s 136 #[I 0,I 0,I 0])∨(bW=.exit 0∧∃u,z5=.inr u∧Fo X0 36 d∧sl d 1=.slice f b.length g∧sl d 4=pt s 0∧Hp FN [] w [some s,some a8] aF∧Bk aF s 136 #[I 0,I 0,I 0]∧Sl (Am .i64) aF (zf Z w [some s,some a8]) f g b)) ?cH ?cI
  case cH=>
   clear a;refine Cs (fun bX d aF=>∃c,Es bJ o b bX c=some z5∧Fo X0 36 d∧sl d 1=.slice f b.length g∧sl d 4=pt s 0∧sl d 16=.slice i o.BM.length m∧sl d 17=I (o.BM.length:Int)∧sl d 18=I c∧Hp FN [] w [some s,some a8] aF∧Bk aF s 136 #[I 0,I 0,I 0]∧Sl AH aF (zf Z w [some s,some a8]) i m o.BM∧Sl (Am .i64) aF (zf Z w [some s,some a8]) f g b) bJ ?cJ ?cK
   case cJ=>
    intro st;have ⟨a9,bA⟩:=J1 a6 a7 (mt (Ac aZ) (Ac t));exact⟨(0:Int),aG,qo st,sp st 1 bB,sp st 4 rfl,sp st 16 rfl,sp st 17 rfl,sp st 18 rfl,bQ,t.bk,a9,bA⟩
   case cK=>
    rintro(_|bX) c1 c2 ⟨c,aG,bY,aN,q,aQ,aR,r,bC,x,y,z⟩
    ·exact absurd (show none=some _ from aG) (by simp)
    rw[Es.eq_2] at aG;have a:=aG;clear aG;refine ro bY<|cr<|wD (fun st=>CU (ee st r) (ee st aR))<|wn<|Aj ?_;rcases Ah (decide (c<(o.BM.length:Int))) with aS|aS
    ·replace a:=Aw a aS;refine AB rfl aS<|cn<|Aj<|Bi<|cr<|wM (v:=I c) r ?_;replace a:=BD a;obtain⟨i7,aA,cL,cM,cN,a⟩:=a;obtain⟨dA,dB,_,cO,rfl,cP⟩:=Sl.elem y (by decide) cM;refine wD (fun st=>Cd (k:=i7) Tryz.underlying35 I4 (ee st aQ) cO (ee st r) cL cN)<|wD (fun st=>CQ (l:=[I aA.Lo,I aA.Hi]) GP (eR st) cP rfl rfl)<|wE (fun st=>BE (cs:= #[I 0,I 0]) KL rfl) ?_;rintro _ dC ⟨dD,rfl,aB⟩;have aT:=bC.nb aB;have cX:=bC.Bv aB;refine wA (v:=I c) rfl<|Bp rfl rfl (fun st=>Bd (n:=2) (l:=[I aA.Lo,I aA.Hi]) (BZ:= #[I aA.Lo,I aA.Hi]) (eR st) (eR st) I4 aB.bk rfl rfl (show 0+2≤2 by decide) (AN rfl) rfl) ?_;rintro _ dE aH;have cQ:=aT.gr aH.gr 0 rfl;refine wn<|Aj ?_;replace a:=BD a;obtain⟨i11,bS,bZ,b1,b2,a⟩:=a;have aI:=((z.mv (Ac aB)).mv (aT.Ad aH.gr 0 rfl));obtain⟨cR,cS,_,b3,rfl,b4⟩:=Sl.Dt aI rfl b1;refine CY 5 [Kc (.agg #[I aA.Lo,I aA.Hi]),Kc (.slice f b.length g),Kc (I c),Kc (pt cR (cS+i11)),Kc (I bS)] mixed rfl rfl
         (Ab (oD (fun K=>Bc (l:=[I aA.Lo,I aA.Hi]) GP (K.kO 7) (aH.bk.ext K.BO) rfl rfl))
         (Ab (oD (fun K=>AV (es ((K.out 1 rfl).trans aN))))
         (Ab (oD (fun K=>AV (K.kO 6)))
         (Ab (oD (fun K=>Cc (k:=i11) Tryz.underlying31 C2 (es (K.dq 1 24)) b3 (es (K.dq 2 25)) bZ b2))
         (Ab (oD (fun K=>CD BN (es (K.dq 3 26)) (b4.mv (Aa K.BO)) rfl))
         (CS _)))))) ?_
     intro c3;rintro _ rfl _ rfl _ rfl _ rfl _ rfl aC;have cT:=cQ.ext aC;replace a:=bind_some a;obtain⟨a4,b5,a⟩:=a;refine wE (fun st=>An Mx (eR st) (BV (eR st) (eR st)) (a127 bJ aA bS ZA _ a4 b5)) ?_;rintro _ c4 ⟨aD,rfl⟩;have bT:=cT.ext aD;refine wD (fun st=>CB (eR st))<|wn ?_;rcases Ah (!a4) with p|p
     ·replace a:=Aw a p;have cD:a4=false:=by simpa using p
      refine AB rfl p<|Aj<|Aq ?_;have a5:=((((x.ext aB.gr).gr aH.gr (aT.nq 1 0)).ext aC).ext aD);refine wD (fun st=>Bc (l:=[I 0,I 0,I 0]) Gv (ee st q) a5 rfl rfl)<|Bp rfl rfl (fun st=>Bd (n:=3) (l:=[I 0,I 0,I 0]) (BZ:= #[I 0,I 0,I 0]) (ee st q) (eR st) Jr a5 rfl rfl (show 0+3≤3 by decide) (AN rfl) rfl) ?_;rintro _ c5 bD;have cU:=bT.gr bD.gr 1 rfl;refine wA (v:=.bool false) rfl<|wn<|As<|Dk<|Ba ?_;have b6:=cU.erase 0;obtain rfl:=oi a;have bE:=bD.bk;refine Cg (fun st=>?_);exact .inl ⟨rfl,false,rfl,qo st,sp st 4 q,sp st 5 rfl,b6,bE⟩
     ·replace a:=Ax a p;have cE:a4=true:=by simpa using p
      refine AJ rfl p<|CO<|Du<|Aq ?_;replace a:=Bo a;obtain⟨b7,a⟩:=a;refine wD (fun st=>Cf (ee st r) (eR st) b7)<|wM (v:=I (c+1)) rfl<|Be ?_;have b8:=bT.erase 0;have bF:=((((x.ext aB.gr).gr aH.gr (aT.nq 1 0)).ext aC).ext aD);have aU:=(((((y.mv (Ac aB)).mv (aT.Ad aH.gr 0 rfl)).mv (Aa aC)).mv (Aa aD)).mv (Ai 0));have aV:=(((aI.mv (Aa aC)).mv (Aa aD)).mv (Ai 0));refine B1 bX (Nat.lt_succ_self _) (fun st=>?_);exact⟨(c+1),a,qo st,sp st 1 aN,sp st 4 q,sp st 16 aQ,sp st 17 aR,sp st 18 rfl,b8,bF,aU,aV⟩
    ·replace a:=Ax a aS;refine AJ rfl aS<|Ei ?_;obtain rfl:=oi a;refine Cg (fun st=>?_);exact .inr ⟨rfl,(),rfl,qo st,sp st 1 aN,sp st 4 q,bC,x,z⟩
  case cI=>
   rintro bW cY c6 (⟨rfl,u,rfl,aO,e,bG,aW,aE⟩|⟨rfl,u,rfl,aO,bH,e,aW,aE,aX⟩)
   ·skip
    replace a:=Dp a;refine lf aO<|Dk ?_;obtain rfl:=oi a;refine He (N:=36) (v:=.agg #[I 0,I 0,I 0]) (v':=.bool u) rfl ⟨_,e,CZ Gv aE rfl rfl⟩ bG ?_;exact⟨aW.Bt,⟨_,_,rfl,⟨_,rfl,rfl⟩,rfl⟩⟩
   ·skip
    replace a:=Dq a;refine lf aO<|BA<|Br<|cr<|wD (fun st=>LB (h:=3) Tryz.underlying136 C2 (by decide) (ee st e) J9 ⟨by decide,by decide⟩ rfl)<|wM (v:=.slice f b.length g) bH<|wE (fun st=>Mq (ys:=[0,0,0]) (BZ:= #[I (((⟨0,0,0⟩:Bq).cp b).a0),I (((⟨0,0,0⟩:Bq).cp b).a1),I (((⟨0,0,0⟩:Bq).cp b).a2)]) Tryz.underlying31 C2 rfl (eR st) (eR st) aE rfl aX (Bq.Rc (⟨0,0,0⟩:Bq) b)) ?_;rintro _ c7 aY;have b9:=aW.gr aY.gr 0 rfl;refine wr<|wD (fun st=>Bc (l:=[I (((⟨0,0,0⟩:Bq).cp b).a0),I (((⟨0,0,0⟩:Bq).cp b).a1),I (((⟨0,0,0⟩:Bq).cp b).a2)]) Gv (ee st e) aY.bk rfl rfl)<|Bp rfl rfl (fun st=>Bd (n:=3) (l:=[I (((⟨0,0,0⟩:Bq).cp b).a0),I (((⟨0,0,0⟩:Bq).cp b).a1),I (((⟨0,0,0⟩:Bq).cp b).a2)]) (BZ:= #[I (((⟨0,0,0⟩:Bq).cp b).a0),I (((⟨0,0,0⟩:Bq).cp b).a1),I (((⟨0,0,0⟩:Bq).cp b).a2)]) (ee st e) (eR st) Jr aY.bk rfl rfl (show 0+3≤3 by decide) (AN rfl) rfl) ?_;rintro _ c8 bI;have cA:=b9.gr bI.gr 0 rfl;refine wA (v:=.bool true) rfl<|wn<|As ?_;obtain rfl:=oi a;refine He (N:=36) (v:=.agg #[I (((⟨0,0,0⟩:Bq).cp b).a0),I (((⟨0,0,0⟩:Bq).cp b).a1),I (((⟨0,0,0⟩:Bq).cp b).a2)]) (v':=.bool true) rfl ⟨_,e,CZ Gv bI.bk rfl rfl⟩ rfl ?_;exact⟨cA.Bt,⟨_,_,rfl,⟨_,rfl,rfl⟩,rfl⟩⟩
theorem a87 bC o bO p q f g r s aR aS(Z:Nat→Prop) w(bW:Sl AH w Z p q o.BM)(bX:Sl (BP (Am .i64)) w Z f g o.CI)(bY:Sl AR w Z r s o.C1)(bZ:Sl (Am .i64) w Z aR aS bO) cX(a:Iy bC o bO=some cX):
 BI Tryz.prog 87 #[.agg (BG p q f g r s o).toArray,.slice aR bO.length aS] w (fun v w'=>Ext w w'∧(JW (DT (Am .i64)) (C7 .i64)).R w' (zf Z w []) v cX):=by
 unfold Iy at a;refine rq (N:=40) Tryz.func87 fun dE cC dF=>?_;have cD:=sA 0 cC;have cE:=sA 1 cC;clear cC;have b4:Hp FN [] w [] w:=Hp.start (Bx.none w);have ⟨bD,bE,bF,bG⟩:=IE bW bX bY bZ (BL (Z:=Z) (L:=[]) w);refine cr<|wE (fun st=>BK (v:=.agg (BG p q f g r s o).toArray) (cs:=(BG p q f g r s o).toArray) (ee st cD) rfl) ?_;rintro _ w1 ⟨bP,rfl,aJ⟩;have cY:=b4.nb aJ;have c7:=b4.Bv aJ;refine wA (v:=.slice none 0 0) rfl<|wA (v:=I 0) rfl<|wn<|Aj<|cr<|wD (fun st=>Bc (l:=(BG p q f g r s o)) Ew (eR st) aJ.bk rfl rfl) ?_;have ⟨aK,aL,aM⟩:=GD bD bE bF (Ac aJ);replace a:=bind_some a;obtain⟨bH,cZ,a⟩:=a;refine wE (fun st=>An LM (eR st) (BR (eR st)) (QJ bC o p q f g r s ZA _ aK.all aL.all aM.all bH cZ)) ?_;rintro _ dM ⟨a7,rfl⟩;have b5:=cY.ext a7;refine wA (v:=I bH) rfl<|wr<|wM (v:=I bH) rfl<|wD (fun st=>C8 (eR st) (eR st))<|wn ?_;rcases Ah (bH !=0) with aU|aU
 ·replace a:=Aw a aU;refine AB rfl aU<|cr<|wM (v:=I bH) rfl<|wA (v:=.slice none 0 0) rfl<|wA (v:=I bH) rfl<|wn<|As<|Ba ?_;obtain rfl:=oi a;refine CL rfl rfl rfl ?_;exact⟨b5.Bt,⟨_,_,rfl,⟨_,_,rfl,Sl.nil _ _ _⟩,rfl⟩⟩
 ·replace a:=Ax a aU;refine AJ rfl aU<|cn<|Aj<|Aq ?_;have a8:=(aJ.bk.ext a7);refine wD (fun st=>Bc (l:=(BG p q f g r s o)) Ew (eR st) a8 rfl rfl)<|wM (v:=.slice aR bO.length aS) cE ?_;have ⟨bI,aN,bJ⟩:=GD aK aL aM (Aa a7);have bK:=((bG.mv (Ac aJ)).mv (Aa a7));replace a:=bind_some a;obtain⟨c,c0,a⟩:=a;refine wE (fun st=>An Nq (eR st) (BV (eR st) (eR st)) (Re bC o bO p q f g r s aR aS ZA _ bI.all aN.all bJ.all bK.all c c0)) ?_;rintro _ dN ⟨bQ,⟨_,_,rfl,⟨_,rfl,rfl⟩,rfl⟩⟩;have b6:=b5.ext bQ;refine wM (v:=.tuple #[.agg #[I c.1.a0,I c.1.a1,I c.1.a2],.bool c.2]) rfl<|wD (fun st=>AQ (v:=.agg #[I c.1.a0,I c.1.a1,I c.1.a2]) (eR st) rfl)<|wD (fun st=>AQ (v:=.bool c.2) (eR st) rfl)<|wE (fun st=>BE (cs:= #[I 0,I 0,I 0]) Ke rfl) ?_;rintro _ dO ⟨aZ,rfl,aV⟩;have bR:=b6.nb aV;have c8:=b6.Bv aV;refine Bp rfl rfl (fun st=>Bd (n:=3) (l:=[I c.1.a0,I c.1.a1,I c.1.a2]) (BZ:= #[I c.1.a0,I c.1.a1,I c.1.a2]) (eR st) (eR st) Jr aV.bk rfl rfl (show 0+3≤3 by decide) (AN rfl) rfl) ?_;rintro _ dA a9;have b7:=bR.gr a9.gr 0 rfl;refine wA (v:=.bool c.2) rfl<|wn<|Aj<|cr<|wM (v:=.bool c.2) rfl<|wD (fun st=>CB (eR st))<|wn ?_;rcases Ah (!c.2) with aF|aF
  ·replace a:=Aw a aF;have c1:c.2=false:=by simpa using aF
   refine AB rfl aF<|cr<|wA (v:=.slice none 0 0) rfl<|wA (v:=I 2) rfl<|wn<|As<|Ba ?_;obtain rfl:=oi a;refine CL rfl rfl rfl ?_;exact⟨b7.Bt,⟨_,_,rfl,⟨_,_,rfl,Sl.nil _ _ _⟩,rfl⟩⟩
  ·replace a:=Ax a aF;have c2:c.2=true:=by simpa using aF
   refine AJ rfl aF<|cn<|cr<|wA (v:=.slice none 0 0) rfl<|wn<|Aj<|cr<|wD (fun st=>Al (eR st) (Gu _ _)) ?_;have b1:=(((a8.ext bQ).ext aV.gr).gr a9.gr (bR.nq 1 0));refine wD (fun st=>Ay (v:=.slice f o.CI.length g) Gs (eR st) b1 rfl)<|wD (fun st=>BT Tryz.underlying23 (eR st))<|wM (v:=I 0) rfl<|wn<|Bi ?_;have c3:=b7.nil;have cF:AZ (Am .i64) 3 w.heap.size dA (zf Z w [none,some aZ,some bP]) none 0 ([]:List Int):=AZ.nil _ _ _ _ _;replace a:=bind_some a;obtain⟨z12,z,a⟩:=a;refine Ct (fun c4 x a3=>(c4=.exit 0∧∃b d,Fo X0 40 x∧sl x 9=.slice b z12.length d∧Hp FN [] w [ob b,some aZ,some bP] a3∧AZ (Am .i64) 3 w.heap.size a3 (zf Z w [ob b,some aZ,some bP]) b d z12)) ?cG ?cH
   case cG=>
    clear a;refine Cs (fun cI x a3=>∃m,∃i,∃h t,GF bC o c cI m i=some z12∧Fo X0 40 x∧sl x 7=pt aZ 0∧sl x 9=.slice h m.length t∧sl x 26=.slice f o.CI.length g∧sl x 27=I (o.CI.length:Int)∧sl x 28=I i∧Hp FN [] w [ob h,some aZ,some bP] a3∧(fun c5=>AZ (Am .i64) 3 w.heap.size a3 c5 h t m∧Bk a3 aZ 136 #[I c.1.a0,I c.1.a1,I c.1.a2]∧Sl (BP (Am .i64)) a3 c5 f g o.CI) (zf Z w [ob h,some aZ,some bP])) bC ?cJ ?cK
    case cJ=>
     intro st;have b2:=a9.bk;have bL:=((((aN.mv (Aa bQ)).mv (Ac aV)).mv (bR.Ad a9.gr 0 rfl)).mv Bs);exact⟨([]:List Int),(0:Int),none,0,z,qo st,sp st 7 rfl,sp st 9 rfl,sp st 26 rfl,sp st 27 rfl,sp st 28 rfl,c3,cF,b2,bL⟩
    case cK=>
     rintro(_|cI) dB dC ⟨m,i,h,t,z,b3,aW,aX,aO,aP,aA,b8,y,aQ,aB⟩
     ·exact absurd (show none=some _ from z) (by simp)
     rw[GF.eq_2] at z;have a:=z;clear z;refine ro b3<|cr<|wD (fun st=>CU (ee st aA) (ee st aP))<|wn<|Aj ?_;rcases Ah (decide (i<(o.CI.length:Int))) with aG|aG
     ·replace a:=Aw a aG;refine AB rfl aG<|cn<|Aj<|Bi<|Aj<|Aq ?_;replace a:=BD a;obtain⟨i15,bA,cL,cM,cN,a⟩:=a;obtain⟨dG,dH,_,cO,⟨aD,aE,rfl,bS⟩,cP⟩:=Sl.Dt aB rfl cM;refine wD (fun st=>Cc (k:=i15) Tryz.underlying23 FE (ee st aO) cO (ee st aA) cL cN)<|wD (fun st=>CD (v:=.slice aD bA.length aE) C4 (eR st) cP rfl)<|wA (v:=.slice aD bA.length aE) rfl<|wn<|Aq<|wM (v:=.slice h m.length t) aX<|wD (fun st=>Bc (l:=[I c.1.a0,I c.1.a1,I c.1.a2]) Gv (ee st aW) aQ rfl rfl)<|wM (v:=.slice aD bA.length aE) rfl ?_;replace a:=bind_some a;obtain⟨aH,cQ,a⟩:=a;refine wE (fun st=>An Mw (eR st) (BV (eR st) (eR st)) (a119 bC c.1 bA aD aE ZA _ bS.all aH cQ)) ?_;rintro _ dI ⟨aI,rfl⟩;have b9:=b8.ext aI;refine wE (fun st=>AX (e:=3) (vs:= #[(0,I aH)]) (cs:= #[I aH]) (Fj (eR st)) (by kernel_rfl)) ?_;rintro _ dJ ⟨dK,rfl,u⟩;have aY:=b9.nb u;have c6:=b9.Bv u;have a4:=((y.ext aI (Aa aI)).ext u.gr (Ac u));replace a:=Da a;obtain⟨bT,a⟩:=a;refine wE (fun st=>G5 (ys:=[aH]) Tryz.underlying31 GQ rfl rfl (by decide) (eR st) rfl (eR st) a4 (Hl (Bj:=[[I aH]]) u.bk ⟨rfl,trivial⟩ rfl) (by have:=bT;simp only[maxLen];omega) (by have:=bT;omega) aY.sz (by simp)) ?_;rintro _ dL ⟨cA,cB,rfl,aT,a5,cR⟩;have cS:=aY.row aT 1 rfl a5;have cT:=Ey cR (aY.CP aT 1 rfl (fun k cU=>(a5 k cU).1));refine wA (v:=.slice cA ((m++[aH]).length) cB) rfl<|Be<|Du<|Aq ?_;replace a:=Bo a;obtain⟨cV,a⟩:=a;refine wD (fun st=>Cf (ee st aA) (eR st) cV)<|wM (v:=I (i+1)) rfl<|Be ?_;have cW:=cS.erase 0;have bM:=(cT.up (Ai 0));have bU:=(((aQ.ext aI).ext u.gr).gr aT (aY.nq 2 1));have a6:=((((aB.mv (Aa aI)).mv (Ac u)).mv (aY.CP aT 1 rfl (fun k cU=>(a5 k cU).1))).mv (Ai 0));refine B1 cI (Nat.lt_succ_self _) (fun st=>?_);exact⟨(m++[aH]),(i+1),cA,cB,a,qo st,sp st 7 aW,sp st 9 rfl,sp st 26 aO,sp st 27 aP,sp st 28 rfl,cW,bM,bU,a6⟩
     ·replace a:=Ax a aG;refine AJ rfl aG<|Ei ?_;obtain rfl:=oi a;refine Cg (fun st=>?_);exact⟨rfl,h,t,qo st,sp st 9 aX,b8,y⟩
   case cH=>
    rintro c4 c9 dD (⟨rfl,b,d,bV,bN,bB,aC⟩);refine lf bV<|BA<|Br<|cr<|wM (v:=.slice b z12.length d) bN<|wA (v:=.slice b z12.length d) rfl<|wA (v:=I 0) rfl<|wn<|As ?_;obtain rfl:=oi a;refine CL rfl rfl rfl ?_;exact⟨bB.Bt,⟨_,_,rfl,⟨_,_,rfl,bB.KE (M:=[]) 0 rfl [] rfl trivial aC⟩,rfl⟩⟩
theorem Rf aP k aL c d e f g h u x(Z:Nat→Prop) w(aQ:Sl AH w Z c d k.BM)(aR:Sl (BP (Am .i64)) w Z e f k.CI)(aS:Sl AR w Z g h k.C1)(aT:Sl (Am .i64) w Z u x aL) a7(a:F1 aP k aL=some a7):
 BI Tryz.prog 65 #[.agg (BG c d e f g h k).toArray,.slice u aL.length x] w (fun v w'=>Ext w w'∧Bu.R w' (zf Z w []) v a7):=by
 unfold F1 at a;refine rq (N:=22) Tryz.func65 fun bF aZ bG=>?_;have a3:=sA 0 aZ;have a4:=sA 1 aZ;clear aZ;have aV:Hp FN [] w [] w:=Hp.start (Bx.none w);have ⟨aD,aE,aF,aG⟩:=IE aQ aR aS aT (BL (Z:=Z) (L:=[]) w);refine cr<|wE (fun st=>BK (v:=.agg (BG c d e f g h k).toArray) (cs:=(BG c d e f g h k).toArray) (ee st a3) rfl) ?_;rintro _ w1 ⟨bI,rfl,m⟩;have a8:=aV.nb m;have bD:=aV.Bv m;refine wA (v:=.bool false) rfl<|wn<|Aj<|cr<|wD (fun st=>Bc (l:=(BG c d e f g h k)) Ew (eR st) m.bk rfl rfl) ?_;have ⟨o,p,q⟩:=GD aD aE aF (Ac m);replace a:=bind_some a;obtain⟨a9,bA,a⟩:=a;refine wE (fun st=>An LM (eR st) (BR (eR st)) (QJ aP k c d e f g h ZA _ o.all p.all q.all a9 bA)) ?_;rintro _ bJ ⟨aA,rfl⟩;have aW:=a8.ext aA;refine wD (fun st=>C8 (eR st) (eR st))<|wn ?_;rcases Ah (a9 !=0) with y|y
 ·replace a:=Aw a y;refine AB rfl y<|cr<|wA (v:=.bool false) rfl<|wn<|As<|Ba ?_;obtain rfl:=oi a;refine AF rfl rfl ?_;exact⟨aW.Bt,rfl⟩
 ·replace a:=Ax a y;refine AJ rfl y<|cn<|Aj<|Aq ?_;have aB:=(m.bk.ext aA);refine wD (fun st=>Bc (l:=(BG c d e f g h k)) Ew (eR st) aB rfl rfl)<|wM (v:=.slice u aL.length x) a4 ?_;have ⟨r,s,t⟩:=GD o p q (Aa aA);have aH:=((aG.mv (Ac m)).mv (Aa aA));replace a:=bind_some a;obtain⟨b,bB,a⟩:=a;refine wE (fun st=>An Nq (eR st) (BV (eR st) (eR st)) (Re aP k aL c d e f g h u x ZA _ r.all s.all t.all aH.all b bB)) ?_;rintro _ bK ⟨aM,⟨_,_,rfl,⟨_,rfl,rfl⟩,rfl⟩⟩;have aX:=aW.ext aM;refine wM (v:=.tuple #[.agg #[I b.1.a0,I b.1.a1,I b.1.a2],.bool b.2]) rfl<|wD (fun st=>AQ (v:=.agg #[I b.1.a0,I b.1.a1,I b.1.a2]) (eR st) rfl)<|wD (fun st=>AQ (v:=.bool b.2) (eR st) rfl)<|wE (fun st=>BE (cs:= #[I 0,I 0,I 0]) Ke rfl) ?_;rintro _ bL ⟨bM,rfl,z⟩;have aN:=aX.nb z;have bE:=aX.Bv z;refine Bp rfl rfl (fun st=>Bd (n:=3) (l:=[I b.1.a0,I b.1.a1,I b.1.a2]) (BZ:= #[I b.1.a0,I b.1.a1,I b.1.a2]) (eR st) (eR st) Jr z.bk rfl rfl (show 0+3≤3 by decide) (AN rfl) rfl) ?_;rintro _ bN aC;have aY:=aN.gr aC.gr 0 rfl;refine wA (v:=.bool b.2) rfl<|wr<|wM (v:=.bool b.2) rfl<|wM (v:=.bool b.2) rfl ?_;rcases Ah (b.2) with i|i
  ·replace a:=Aw a i;have aU:=(((aB.ext aM).ext z.gr).gr aC.gr (aN.nq 1 0));refine wG i (fun st=>Bc (l:=(BG c d e f g h k)) Ew (eR st) aU rfl rfl)<|wG i (fun st=>Bc (l:=[I b.1.a0,I b.1.a1,I b.1.a2]) Gv (eR st) aC.bk rfl rfl) ?_;have ⟨aI,aJ,aK⟩:=GD r s t (mt (Aa aM) (mt (Ac z) (aN.Ad aC.gr 0 rfl)));replace a:=bind_some a;obtain⟨aO,a5,a⟩:=a;refine wX i (fun st=>An Pl (eR st) (GA (eR st) (eR st) (eR st)) (RS aP k b.1 ([]:List Int) c d e f g h none 0 ZA _ aI.all aJ.all aK.all (Sl.nil (Am .i64) _ _) aO a5)) ?_;rintro _ bH ⟨a6,rfl⟩;have bC:=aY.ext a6;refine wD (fun st=>Bn (v:=.bool aO) (eR st) i (eR st))<|wA (v:=.bool aO) rfl<|wn<|As ?_;obtain rfl:=oi a;refine AF rfl rfl ?_;exact⟨bC.Bt,rfl⟩
  ·replace a:=Ax a i;refine wF i<|wF i<|wF i<|wD (fun st=>BC (v:=.bool false) (eR st) i (eR st))<|wA (v:=.bool false) rfl<|wn<|As ?_;obtain rfl:=oi a;refine AF rfl rfl ?_;exact⟨aY.Bt,rfl⟩
theorem a93 m b d e(Z:Nat→Prop) w l(c:Ds m b d e=some l):
 BI Tryz.prog 93 #[I b,I d,I e] w (fun v w'=>Ext w w'∧Bu.R w' (zf Z w []) v l):=by
 unfold Ds at c;refine rq (N:=15) Tryz.func93 fun n g o=>?_;have f:=sA 0 g;have i:=sA 1 g;have k:=sA 2 g;clear g;have h:Hp FN [] w [] w:=Hp.start (Bx.none w);refine cr<|wA (v:=.bool false) rfl<|wr<|wM (v:=I d) i<|wM (v:=I b) f<|wD (fun st=>G9 (eR st) (eR st))<|wM (v:=.bool (decide (d≤b))) rfl ?_;rcases Ah (decide (d≤b)) with a|a
 ·replace c:=Aw c a;refine wN a (v:=I b) f<|wN a (v:=I e) k<|wG a (fun st=>G9 (eR st) (eR st))<|wD (fun st=>Bn (v:=.bool (decide (b≤e))) (eR st) a (eR st))<|wA (v:=.bool (decide (b≤e))) rfl<|wn<|As ?_;obtain rfl:=oi c;refine AF rfl rfl ?_;exact⟨h.Bt,rfl⟩
 ·replace c:=Ax c a;refine wF a<|wF a<|wF a<|wD (fun st=>BC (v:=.bool false) (eR st) a (eR st))<|wA (v:=.bool false) rfl<|wn<|As ?_;obtain rfl:=oi c;refine AF rfl rfl ?_;exact⟨h.Bt,rfl⟩
theorem RT o b f(Z:Nat→Prop) w m(d:Hj o b f=some m):
 BI Tryz.prog 101 #[.agg #[I b.Lo,I b.Hi],I f] w (fun v w'=>Ext w w'∧Bu.R w' (zf Z w []) v m):=by
 unfold Hj at d;refine rq (N:=21) Tryz.func101 fun p i q=>?_;have k:=sA 0 i;have l:=sA 1 i;clear i;have h:Hp FN [] w [] w:=Hp.start (Bx.none w);refine cr<|wE (fun st=>BK (v:=.agg #[I b.Lo,I b.Hi]) (cs:= #[I b.Lo,I b.Hi]) (ee st k) rfl) ?_;rintro _ w1 ⟨r,rfl,e⟩;have g:=h.nb e;have n:=h.Bv e;refine wA (v:=.bool false) rfl<|wr<|wD (fun st=>Al (eR st) (H7 _ _))<|wD (fun st=>Ay (v:=I b.Lo) BN (eR st) e.bk rfl)<|wD (fun st=>G9 (eR st) (eR st))<|wM (v:=.bool (decide ((0:Int)≤b.Lo))) rfl ?_;rcases Ah (decide ((0:Int)≤b.Lo)) with a|a
 ·replace d:=Aw d a;refine wG a (fun st=>Al (eR st) (H7 _ _))<|wG a (fun st=>Ay (v:=I b.Lo) BN (eR st) e.bk rfl)<|wG a (fun st=>Al (eR st) (IJ _ _))<|wG a (fun st=>Ay (v:=I b.Hi) BN (eR st) e.bk rfl)<|wG a (fun st=>G9 (eR st) (eR st))<|wD (fun st=>Bn (v:=.bool (decide (b.Lo≤b.Hi))) (eR st) a (eR st))<|wM (v:=.bool (decide (b.Lo≤b.Hi))) rfl ?_;rcases Ah (decide (b.Lo≤b.Hi)) with c|c
  ·replace d:=Aw d c;refine wG c (fun st=>Al (eR st) (IJ _ _))<|wG c (fun st=>Ay (v:=I b.Hi) BN (eR st) e.bk rfl)<|wN c (v:=I f) l<|wG c (fun st=>G9 (eR st) (eR st))<|wD (fun st=>Bn (v:=.bool (decide (b.Hi≤f))) (eR st) c (eR st))<|wA (v:=.bool (decide (b.Hi≤f))) rfl<|wn<|As ?_;obtain rfl:=oi d;refine AF rfl rfl ?_;exact⟨g.Bt,rfl⟩
  ·replace d:=Ax d c;refine wF c<|wF c<|wF c<|wF c<|wD (fun st=>BC (v:=.bool false) (eR st) c (eR st))<|wA (v:=.bool false) rfl<|wn<|As ?_;obtain rfl:=oi d;refine AF rfl rfl ?_;exact⟨g.Bt,rfl⟩
 ·replace d:=Ax d a;refine wF a<|wF a<|wF a<|wF a<|wF a<|wD (fun st=>BC (v:=.bool false) (eR st) a (eR st))<|wM (v:=.bool false) rfl<|wH<|wH<|wH<|wH<|wD (fun st=>BC (v:=.bool false) (eR st) rfl (eR st))<|wA (v:=.bool false) rfl<|wn<|As ?_;obtain rfl:=oi d;refine AF rfl rfl ?_;exact⟨g.Bt,rfl⟩
theorem a85 i a d(Z:Nat→Prop) w k(c:F2 i a d=some k):
 BI Tryz.prog 85 #[.agg #[I a.Lo,I a.Hi],I d] w (fun v w'=>Ext w w'∧Bu.R w' (zf Z w []) v k):=by
 unfold F2 at c;refine rq (N:=11) Tryz.func85 fun r f s=>?_;have g:=sA 0 f;have h:=sA 1 f;clear f;have e:Hp FN [] w [] w:=Hp.start (Bx.none w);refine cr<|wE (fun st=>BK (v:=.agg #[I a.Lo,I a.Hi]) (cs:= #[I a.Lo,I a.Hi]) (ee st g) rfl) ?_;rintro _ w1 ⟨t,rfl,b⟩;have l:=e.nb b;have q:=e.Bv b;refine wA (v:=.bool false) rfl<|wr<|wM (v:=I d) h<|wD (fun st=>Al (eR st) (H7 _ _))<|wD (fun st=>Ay (v:=I a.Lo) BN (eR st) b.bk rfl)<|wD (fun st=>Al (eR st) (IJ _ _))<|wD (fun st=>Ay (v:=I a.Hi) BN (eR st) b.bk rfl) ?_;replace c:=bind_some c;obtain⟨m,n,c⟩:=c;refine wE (fun st=>An HR (eR st) (GA (eR st) (eR st) (eR st)) (a93 i d a.Lo a.Hi ZA _ m n)) ?_;rintro _ u ⟨o,rfl⟩;have p:=l.ext o;refine wA (v:=.bool m) rfl<|wn<|As ?_;obtain rfl:=oi c;refine AF rfl rfl ?_;exact⟨p.Bt,rfl⟩
theorem a156 m a(Z:Nat→Prop) w f(b:GN m a=some f):
 BI Tryz.prog 156 #[.agg #[I a.Lo,I a.Hi]] w (fun v w'=>Ext w w'∧(C7 .i64).R w' (zf Z w []) v f):=by
 unfold GN at b;refine rq (N:=9) Tryz.func156 fun n g o=>?_;have e:=sA 0 g;clear g;have d:Hp FN [] w [] w:=Hp.start (Bx.none w);refine cr<|wE (fun st=>BK (v:=.agg #[I a.Lo,I a.Hi]) (cs:= #[I a.Lo,I a.Hi]) (ee st e) rfl) ?_;rintro _ w1 ⟨p,rfl,c⟩;have h:=d.nb c;have l:=d.Bv c;refine wA (v:=I 0) rfl<|wr<|wD (fun st=>Al (eR st) (IJ _ _))<|wD (fun st=>Ay (v:=I a.Hi) BN (eR st) c.bk rfl)<|wD (fun st=>Al (eR st) (H7 _ _))<|wD (fun st=>Ay (v:=I a.Lo) BN (eR st) c.bk rfl) ?_;replace b:=Bo b;obtain⟨i,b⟩:=b;refine wD (fun st=>G8 (eR st) (eR st) i) ?_;replace b:=Bo b;obtain⟨k,b⟩:=b;refine wD (fun st=>Cf (eR st) (eR st) k)<|wA (v:=I ((a.Hi-a.Lo)+1)) rfl<|wn<|As ?_;obtain rfl:=oi b;refine AF rfl rfl ?_;exact⟨h.Bt,rfl⟩
theorem RU h e a b(Z:Nat→Prop) w(f:Sl (Am .i64) w Z a b e) i(c:Hw h e=some i):
 BI Tryz.prog 121 #[.slice a e.length b] w (fun v w'=>Ext w w'∧(C7 .i64).R w' (zf Z w []) v i):=by
 unfold Hw at c;refine rq (N:=5) Tryz.func121 fun q k r=>?_;have g:=sA 0 k;clear k;have l:Hp FN [] w [] w:=Hp.start (Bx.none w);have d:=f.mv (BL (Z:=Z) (L:=[]) w);refine cr<|wA (v:=I 0) rfl<|wr<|wM (v:=.slice a e.length b) g ?_;replace c:=bind_some c;obtain⟨m,n,c⟩:=c;refine wE (fun st=>An Ms (eR st) (BR (eR st)) (QH h e a b ZA _ d.all m n)) ?_;rintro _ w2 ⟨o,rfl⟩;have p:=l.ext o;refine wA (v:=I m) rfl<|wn<|As ?_;obtain rfl:=oi c;refine AF rfl rfl ?_;exact⟨p.Bt,rfl⟩
theorem Rg aF a b(Z:Nat→Prop) w aG(m:Fw aF a b=some aG):
 BI Tryz.prog 89 #[.agg #[I a.Lo,I a.Hi],I b] w (fun v w'=>Ext w w'∧(Cy AH).R w' (zf Z w []) v aG):=by
 unfold Fw at m;refine rq (N:=15) Tryz.func89 fun aN aC aO=>?_;have aD:=sA 0 aC;have o:=sA 1 aC;clear aC;have x:Hp FN [] w [] w:=Hp.start (Bx.none w);refine cr<|wE (fun st=>BK (v:=.agg #[I a.Lo,I a.Hi]) (cs:= #[I a.Lo,I a.Hi]) (ee st aD) rfl) ?_;rintro _ w1 ⟨q,rfl,p⟩;have y:=x.nb p;have aL:=x.Bv p;refine wE (fun st=>BE (cs:= #[I 0,I 0]) Gw rfl) ?_;rintro _ w2 ⟨aH,rfl,i⟩;have z:=y.nb i;have aM:=y.Bv i;refine wn<|Aj ?_;have k:=(p.bk.ext i.gr);replace m:=bind_some m;obtain⟨g,aI,m⟩:=m;refine CY 9 [Kc (pt q 0),Kc (I a.Lo),Kc (I b),Kv (DT (Am .i64)) (zf Z w [some aH,some q]) [a.Lo,b],Kc (I g),Kc (pt q 1),Kc (I a.Hi),Kc (I b),Kc (I (max a.Hi b))] mixed rfl rfl
     (Ab (oD (fun K=>Al (K.kO 2) (H7 _ _)))
     (Ab (oD (fun K=>Ay BN (es (K.dq 0 5)) (k.ext K.BO) rfl))
     (Ab (oD (fun K=>AV (es ((K.out 1 rfl).trans o))))
     (Ab (Ib rfl rfl (fun a' w' ph K=>(AX (e:=3) (vs:= #[(0,I a.Lo),(1,I b)]) (cs:= #[I a.Lo,I b]) (CH (es (K.dq 1 6)) (es (K.dq 2 7))) (by kernel_rfl)).mono (fun u Bm ⟨aP,hu,r⟩=>⟨⟨_,_,hu,CG (xs:=[a.Lo,b]) (Bj:=[[I a.Lo],[I b]]) r.bk ((z.ext K.BO).kn (Nat.le_of_eq r.Dh.symm)) (R2.mv (Aa r.gr) (show R2 (Am .i64) w' (zf Z w [some aH,some q]) [[I a.Lo],[I b]] [a.Lo,b] from⟨rfl,rfl,trivial⟩)) rfl (Nat.le_refl _)⟩,r.gr⟩)))
     (Ab (oE (fun K=>match K.dq 3 8 with|⟨c,d,aE,f⟩=>(An Pm rfl (BR (es (t:=8) (v:=.slice c ([a.Lo,b].length) d) aE)) (RU aF [a.Lo,b] c d ZA _ f.all g aI)).mono (fun _ _ h=>⟨h.2,h.1⟩)))
     (Ab (oD (fun K=>Al (K.kO 2) (IJ _ _)))
     (Ab (oD (fun K=>Ay BN (es (K.dq 5 10)) (k.ext K.BO) rfl))
     (Ab (oD (fun K=>AV (es ((K.out 1 rfl).trans o))))
     (Ab (oD (fun K=>QV (es (K.dq 6 11)) (es (K.dq 7 12))))
     (CS _)))))))))) ?_
 intro aQ;rintro _ rfl _ rfl _ rfl _ ⟨c,d,rfl,f⟩ _ rfl _ rfl _ rfl _ rfl _ rfl aA;have aJ:=z.ext aA;refine wD (fun st=>BQ (vs:= #[(0,I g),(1,I (max a.Hi b))]) (v:=.agg #[I g,I (max a.Hi b)]) (CH (eR st) (eR st)) (by kernel_rfl)) ?_;have s:=(i.bk.ext aA);refine Bp rfl rfl (fun st=>Bd (n:=2) (l:=[I g,I (max a.Hi b)]) (BZ:= #[I g,I (max a.Hi b)]) (eR st) (eR st) EZ s rfl rfl (show 0+2≤2 by decide) (AN rfl) rfl) ?_;rintro _ aR aB;have aK:=aJ.gr aB.gr 0 rfl;refine wn<|As ?_;obtain rfl:=oi m;refine Ex (v:=.agg #[I g,I (max a.Hi b)]) rfl rfl (CZ Ee aB.bk rfl rfl) ?_;exact⟨aK.Bt,⟨_,rfl,rfl⟩⟩
theorem a72 d b(Z:Nat→Prop) w e(a:HV d b=some e):
 BI Tryz.prog 72 #[I b] w (fun v w'=>Ext w w'∧Bu.R w' (zf Z w []) v e):=by
 unfold HV at a;refine rq (N:=5) Tryz.func72 fun m f n=>?_;have c:=sA 0 f;clear f;have g:Hp FN [] w [] w:=Hp.start (Bx.none w);refine cr<|wA (v:=.bool false) rfl<|wr<|wM (v:=I b) c ?_;replace a:=bind_some a;obtain⟨h,i,a⟩:=a;refine wE (fun st=>An HR (eR st) (GA (eR st) (eR st) (eR st)) (a93 d b 0 100 ZA _ h i)) ?_;rintro _ w2 ⟨k,rfl⟩;have l:=g.ext k;refine wA (v:=.bool h) rfl<|wn<|As ?_;obtain rfl:=oi a;refine AF rfl rfl ?_;exact⟨l.Bt,rfl⟩
theorem Rh aJ a q e f b c g h i k l m n o(Z:Nat→Prop) w(r:Sl AH w Z e f a.Ag)(s:Sl (BP (Am .i64)) w Z b c a.Ae)(t:Sl AR w Z g h a.Af)(u:Sl AT w Z i k a.Av)(x:Sl AU w Z l m a.Au)(y:Sl AW w Z n o a.AI) aK(d:FP aJ a q=some aK):
 BI Tryz.prog 67 #[.agg (AL e f b c g h i k l m n o a).toArray,I q] w (fun v w'=>Ext w w'∧Bu.R w' (zf Z w []) v aK):=by
 unfold FP at d;refine rq (N:=12) Tryz.func67 fun aS aA aT=>?_;have aB:=sA 0 aA;have aC:=sA 1 aA;clear aA;have z:Hp FN [] w [] w:=Hp.start (Bx.none w);have ⟨aD,aE,aF,aG,aH,aI⟩:=C3 r s t u x y (BL (Z:=Z) (L:=[]) w);refine cr<|wE (fun st=>BK (v:=.agg (AL e f b c g h i k l m n o a).toArray) (cs:=(AL e f b c g h i k l m n o a).toArray) (ee st aB) rfl) ?_;rintro _ w1 ⟨aU,rfl,p⟩;have aL:=z.nb p;have aR:=z.Bv p;refine wA (v:=.bool false) rfl<|wr<|wM (v:=I q) aC<|wD (fun st=>Al (eR st) (Fh _ _))<|wD (fun st=>Al (eR st) (Gu _ _))<|wD (fun st=>Ay (v:=.slice b a.Ae.length c) Gs (eR st) p.bk rfl)<|wD (fun st=>BT Tryz.underlying23 (eR st)) ?_;replace d:=Bo d;obtain⟨aM,d⟩:=d;refine wD (fun st=>G8 (eR st) (eR st) aM) ?_;replace d:=bind_some d;obtain⟨aN,aO,d⟩:=d;refine wE (fun st=>An HR (eR st) (GA (eR st) (eR st) (eR st)) (a93 aJ q 0 ((a.Ae.length:Int)-1) ZA _ aN aO)) ?_;rintro _ aV ⟨aP,rfl⟩;have aQ:=aL.ext aP;refine wA (v:=.bool aN) rfl<|wn<|As ?_;obtain rfl:=oi d;refine AF rfl rfl ?_;exact⟨aQ.Bt,rfl⟩
theorem Sb aH c d g h i k l m e f n o p q(Z:Nat→Prop) w(t:Sl AH w Z g h c.Ag)(u:Sl (BP (Am .i64)) w Z i k c.Ae)(x:Sl AR w Z l m c.Af)(y:Sl AT w Z e f c.Av)(z:Sl AU w Z n o c.Au)(aA:Sl AW w Z p q c.AI) aT(a:Fx aH c d=some aT):
 BI Tryz.prog 69 #[.agg (AL g h i k l m e f n o p q c).toArray,.agg #[I d.Cz,I d.Cw]] w (fun v w'=>Ext w w'∧Bu.R w' (zf Z w []) v aT):=by
 unfold Fx at a;refine rq (N:=17) Tryz.func69 fun a3 aI a4=>?_;have aJ:=sA 0 aI;have aK:=sA 1 aI;clear aI;have aD:Hp FN [] w [] w:=Hp.start (Bx.none w);have ⟨aN,aO,aP,aQ,aR,aS⟩:=C3 t u x y z aA (BL (Z:=Z) (L:=[]) w);refine cr<|wE (fun st=>BK (v:=.agg (AL g h i k l m e f n o p q c).toArray) (cs:=(AL g h i k l m e f n o p q c).toArray) (ee st aJ) rfl) ?_;rintro _ w1 ⟨a5,rfl,s⟩;have aE:=aD.nb s;have a0:=aD.Bv s;refine wE (fun st=>BK (v:=.agg #[I d.Cz,I d.Cw]) (cs:= #[I d.Cz,I d.Cw]) (ee st aK) rfl) ?_;rintro _ w2 ⟨a6,rfl,r⟩;have aU:=aE.nb r;have a2:=aE.Bv r;refine wA (v:=.bool false) rfl<|wr<|wD (fun st=>Al (eR st) (Mz _ _))<|wD (fun st=>Ay (v:=I d.Cz) BN (eR st) r.bk rfl)<|wD (fun st=>Al (eR st) (H8 _ _)) ?_;have aB:=(s.bk.ext r.gr);refine wD (fun st=>Ay (v:=.slice e c.Av.length f) HS (eR st) aB rfl)<|wD (fun st=>BT Tryz.underlying49 (eR st)) ?_;replace a:=Bo a;obtain⟨aV,a⟩:=a;refine wD (fun st=>G8 (eR st) (eR st) aV) ?_;replace a:=bind_some a;obtain⟨aL,aW,a⟩:=a;refine wE (fun st=>An HR (eR st) (GA (eR st) (eR st) (eR st)) (a93 aH d.Cz 0 ((c.Av.length:Int)-1) ZA _ aL aW)) ?_;rintro _ a7 ⟨aF,rfl⟩;have aG:=aU.ext aF;refine wM (v:=.bool aL) rfl ?_;rcases Ah (aL) with b|b
 ·replace a:=Aw a b;refine wG b (fun st=>Al (eR st) (MA _ _)) ?_;have aC:=(r.bk.ext aF);refine wG b (fun st=>Ay (v:=I d.Cw) BN (eR st) aC rfl) ?_;replace a:=bind_some a;obtain⟨aM,aX,a⟩:=a;refine wX b (fun st=>An HR (eR st) (GA (eR st) (eR st) (eR st)) (a93 aH d.Cw 1 90 ZA _ aM aX)) ?_;rintro _ a8 ⟨aY,rfl⟩;have aZ:=aG.ext aY;refine wD (fun st=>Bn (v:=.bool aM) (eR st) b (eR st))<|wA (v:=.bool aM) rfl<|wn<|As ?_;obtain rfl:=oi a;refine AF rfl rfl ?_;exact⟨aZ.Bt,rfl⟩
 ·replace a:=Ax a b;refine wF b<|wF b<|wF b<|wD (fun st=>BC (v:=.bool false) (eR st) b (eR st))<|wA (v:=.bool false) rfl<|wn<|As ?_;obtain rfl:=oi a;refine AF rfl rfl ?_;exact⟨aG.Bt,rfl⟩
theorem a70 aU r b d e f g h i k m n o p q(Z:Nat→Prop) w(aI:Sl AH w Z d e r.Ag)(aJ:Sl (BP (Am .i64)) w Z f g r.Ae)(aK:Sl AR w Z h i r.Af)(aL:Sl AT w Z k m r.Av)(aM:Sl AU w Z n o r.Au)(aN:Sl AW w Z p q r.AI) a0(c:FQ aU r b=some a0):
 BI Tryz.prog 70 #[.agg (AL d e f g h i k m n o p q r).toArray,.agg #[I b.C5,I b.B3,I b.B4]] w (fun v w'=>Ext w w'∧Bu.R w' (zf Z w []) v a0):=by
 unfold FQ at c;refine rq (N:=14) Tryz.func70 fun a9 aV bA=>?_;have aW:=sA 0 aV;have aX:=sA 1 aV;clear aV;have aQ:Hp FN [] w [] w:=Hp.start (Bx.none w);have ⟨u,x,y,z,aA,aB⟩:=C3 aI aJ aK aL aM aN (BL (Z:=Z) (L:=[]) w);refine cr<|wE (fun st=>BK (v:=.agg (AL d e f g h i k m n o p q r).toArray) (cs:=(AL d e f g h i k m n o p q r).toArray) (ee st aW) rfl) ?_;rintro _ w1 ⟨bB,rfl,t⟩;have aR:=aQ.nb t;have a7:=aQ.Bv t;refine wE (fun st=>BK (v:=.agg #[I b.C5,I b.B3,I b.B4]) (cs:= #[I b.C5,I b.B3,I b.B4]) (ee st aX) rfl) ?_;rintro _ w2 ⟨bC,rfl,s⟩;have a2:=aR.nb s;have a8:=aR.Bv s;refine wA (v:=.bool false) rfl<|wn<|Aj<|Aq ?_;have aO:=(t.bk.ext s.gr);refine wD (fun st=>Bc (l:=(AL d e f g h i k m n o p q r)) Cp (eR st) aO rfl rfl)<|wD (fun st=>Al (eR st) (MB _ _))<|wD (fun st=>Ay (v:=I b.C5) BN (eR st) s.bk rfl) ?_;have ⟨aC,aD,aE,aF,aG,aH⟩:=C3 u x y z aA aB (mt (Ac t) (Ac s));replace c:=bind_some c;obtain⟨aY,a3,c⟩:=c;refine wE (fun st=>An Nr (eR st) (BV (eR st) (eR st)) (Rh aU r b.C5 d e f g h i k m n o p q ZA _ aC.all aD.all aE.all aF.all aG.all aH.all aY a3)) ?_;rintro _ bD ⟨aS,rfl⟩;have aT:=a2.ext aS;refine wM (v:=.bool aY) rfl ?_;rcases Ah (aY) with a|a
 ·replace c:=Aw c a;refine wG a (fun st=>Al (eR st) (MC _ _)) ?_;have aP:=(s.bk.ext aS);refine wG a (fun st=>Bc (l:=[I b.B3,I b.B4]) Ee (eR st) aP rfl rfl) ?_;replace c:=bind_some c;obtain⟨aZ,a4,c⟩:=c;refine wX a (fun st=>An Pn (eR st) (BV (eR st) (eR st)) (RT aU (⟨b.B3,b.B4⟩:Bb) 9000 ZA _ aZ a4)) ?_;rintro _ bE ⟨a5,rfl⟩;have a6:=aT.ext a5;refine wD (fun st=>Bn (v:=.bool aZ) (eR st) a (eR st))<|wA (v:=.bool aZ) rfl<|wn<|As ?_;obtain rfl:=oi c;refine AF rfl rfl ?_;exact⟨a6.Bt,rfl⟩
 ·replace c:=Ax c a;refine wF a<|wF a<|wF a<|wD (fun st=>BC (v:=.bool false) (eR st) a (eR st))<|wA (v:=.bool false) rfl<|wn<|As ?_;obtain rfl:=oi c;refine AF rfl rfl ?_;exact⟨aT.Bt,rfl⟩
theorem a139{t:Type}{f:Nat→Prop}{aO:Nat}{p:IT t}{aA:t→Az→Option (Bool×t)} aY d(u:t) a(m:Value) c(Z Za:Nat→Prop) w(e:Cb Tryz.prog m f aO p (v1 (Cy AT)) Bu aA)(aP:aO≤w.heap.size)(aQ:Bx f [some a,c] w)(aR:∀b,Z b→¬f b∧some b∉[some a,c])(aZ:∀b,Z b→Za b)(aD:∀b,Za b→¬f b∧some b∉[some a,c])(aS:Bk w a 167 #[m])(a0:p u w Z c) aE(o:Fy aY aA d u=some aE):
 BI Tryz.prog 139 #[.agg #[I d.BB,I d.Cn],pt a 0] w (fun v w'=>∃o',Bz (FU f [some a,c]) w w'∧Bu.R w' (zf Z w [some a,o']) v aE.1∧Bk w' a 167 #[m]∧(∀k,o'=some k→(c=some k∨w.heap.size≤k)∧k<w'.heap.size)∧p aE.2 w' (zf Z w [some a,o']) o'):=by
 unfold Fy at o;refine rq (N:=8) Tryz.func139 fun a4 aF a5=>?_;have aG:=sA 0 aF;have aH:=sA 1 aF;clear aF;obtain⟨aI,aT,q,aU,a2,aJ⟩:=Hu aQ aR aD;have aK:=e.mz a0 (AK (L:=[some a,c]) aU w);refine cr<|wE (fun st=>BK (v:=.agg #[I d.BB,I d.Cn]) (cs:= #[I d.BB,I d.Cn]) (ee st aG) rfl) ?_;rintro _ w1 ⟨x,rfl,g⟩;have i:=q.nb g;have aX:=q.Bv g;refine wA (v:=.bool false) rfl<|wn<|Aj<|Aq ?_;have n:=(aS.ext g.gr);refine wD (fun st=>Ay (v:=m) Po (ee st aH) n rfl)<|wD (fun st=>Bc (l:=[I d.BB,I d.Cn]) Js (eR st) g.bk rfl rfl) ?_;have aL:p u w1 (ZZ f aI Z w.heap.size [some x,some a,c]) c:=(e.me aK q g.gr (Ac g));replace o:=bind_some o;obtain⟨aM,aV,o⟩:=o;refine wE (fun st=>DJ (e.call u d aM _ (ZZ f aI Z w.heap.size [some x,some a,c]) (ZC f [c]) c #[.agg #[I d.BB,I d.Cn]] (Nat.le_trans aP i.sz) (i.zz (F':=f) (M:=[c]) (C:=[]) [2] [] ⟨rfl,trivial⟩ trivial (fun _ h=>.inl h)) Gf aL ⟨_,rfl,⟨_,rfl,rfl⟩⟩ aV) (eR st) (BR (eR st))) ?_;rintro _ a3 ⟨r,aB,s,rfl,aW⟩;have aC:=i.De aB (AE [2] ⟨rfl,trivial⟩ (fun _ h=>h)) 2 rfl s;have aN:p aM.2 a3 (ZZ f aI Z w.heap.size [some x,some a,r]) r:=e.mz aW (i.call (M:=[r]) (Nat.le_refl _) (BU ⟨.inr (hw s 2),trivial⟩) (Cr (L:=[some x,some a,c]) (y:=r) 2 (gm 0)));refine wD (fun st=>CB (eR st))<|wA (v:=.bool !aM.1) rfl<|wn<|As ?_;obtain rfl:=oi o;refine AF rfl rfl ?_;have z:=(n.B6 aB (i.Cm 1 rfl [2] rfl ⟨rfl,trivial⟩ (fun _ h=>h)));exact⟨r,aJ _ aC.fin,rfl,z,aC.mq 2 [1] (M:=[some a]) ⟨rfl,trivial⟩ aT,e.mz aN (AG (Bf [1,2] ⟨rfl,rfl,trivial⟩))⟩
theorem a162{aY:Type}{e:Nat→Prop}{bE:Nat}{aH:IT aY}{aR:aY→Az→Option (Bool×aY)} bF t(a5:aY) n o(aJ:Value) aC(Z:Nat→Prop) w(q:Cb Tryz.prog aJ e bE aH (v1 (Cy AT)) Bu aR)(bG:bE≤w.heap.size)(bH:Bx e [aC] w)(bI:∀b,Z b→¬e b∧some b∉[aC])(aZ:Sl AT w Z n o t)(bX:aH a5 w Z aC) a6(a:Fq bF aR t a5=some a6):
 BI Tryz.prog 162 #[.slice n t.length o,aJ] w (fun v w'=>∃o',Bz (FU e [aC]) w w'∧(C7 .i64).R w' (zf Z w [o']) v a6.1∧(∀k,o'=some k→(aC=some k∨w.heap.size≤k)∧k<w'.heap.size)∧aH a6.2 w' (zf Z w [o']) o'):=by
 unfold Fq at a;refine rq (N:=19) Tryz.func162 fun b2 a7 b3=>?_;have aS:=sA 0 a7;have a8:=sA 1 a7;clear a7;obtain⟨aD,a0,bJ,a2,aT⟩:=Fl bH bI;have aO:=aZ.mv (AK (L:=[aC]) a2 w);have a9:=q.mz bX (AK (L:=[aC]) a2 w);refine cr<|wA (v:=I 0) rfl<|wn<|Aj<|cr<|wM (v:=.slice n t.length o) aS<|wD (fun st=>BT Tryz.underlying49 (eR st))<|wM (v:=I 0) rfl<|wn<|Bi ?_;replace a:=bind_some a;obtain⟨bA,u,a⟩:=a;refine Ct (fun bB f aE=>(bB=.ret∧∃p,bA=.inl p∧∃g,Fo X0 19 f∧sl f 4=I p.1∧Hp e aD w [g] aE∧aH p.2 aE (ZZ e aD Z w.heap.size [g]) g)∨(bB=.exit 0∧∃p,bA=.inr p∧∃i,Fo X0 19 f∧Hp e aD w [i] aE∧aH p aE (ZZ e aD Z w.heap.size [i]) i)) ?bK ?bL
 case bK=>
  clear a;refine Cs (fun bC f aE=>∃d,∃m,∃c,DP aR t bC d m=some bA∧Fo X0 19 f∧sl f 0=.slice n t.length o∧sl f 1=aJ∧sl f 7=I (t.length:Int)∧sl f 8=I d∧Hp e aD w [c] aE∧(fun bM=>aH m aE bM c∧Sl AT aE bM n o t) (ZZ e aD Z w.heap.size [c])) bF ?bN ?bO
  case bN=>
   intro st;exact⟨(0:Int),a5,aC,u,qo st,sp st 0 aS,sp st 1 a8,sp st 7 rfl,sp st 8 rfl,bJ,a9,aO⟩
  case bO=>
   rintro(_|bC) b4 b5 ⟨d,m,c,u,bD,aK,aL,aM,z,x,aN,r⟩
   ·exact absurd (show none=some _ from u) (by simp)
   rw[DP.eq_2] at u;have a:=u;clear u;refine ro bD<|cr<|wD (fun st=>CU (ee st z) (ee st aM))<|wn<|Aj ?_;rcases Ah (decide (d<(t.length:Int))) with aF|aF
   ·replace a:=Aw a aF;refine AB rfl aF<|cn<|Aj<|Bi<|cr<|wM (v:=I d) z<|wA (v:=I d) rfl<|wr<|wM (v:=aJ) aL<|wM (v:=.slice n t.length o) aK<|wM (v:=I d) rfl ?_;replace a:=BD a;obtain⟨i3,aU,bP,bQ,bR,a⟩:=a;obtain⟨b7,b8,_,bS,rfl,bT⟩:=Sl.elem r (by decide) bQ;refine wD (fun st=>Cd (k:=i3) Tryz.underlying49 H4 (eR st) bS (eR st) bP bR)<|wD (fun st=>CQ (l:=[I aU.BB,I aU.Cn]) Js (eR st) bT rfl rfl) ?_;replace a:=bind_some a;obtain⟨aV,bU,a⟩:=a;refine wE (fun st=>DJ (q.call m aU aV _ (ZZ e aD Z w.heap.size [c]) (ZC e [c]) c #[.agg #[I aU.BB,I aU.Cn]] (Nat.le_trans bG x.sz) (x.zz (F':=e) (M:=[c]) (C:=[]) [0] [] ⟨rfl,trivial⟩ trivial (fun _ h=>.inl h)) Gf aN ⟨_,rfl,⟨_,rfl,rfl⟩⟩ bU) (eR st) (BR (eR st))) ?_;rintro _ bY ⟨aP,a3,aI,rfl,bV⟩;have a4:=x.De a3 (AE [0] ⟨rfl,trivial⟩ (fun _ h=>h)) 0 rfl aI;have aW:aH aV.2 bY (ZZ e aD Z w.heap.size [aP]) aP:=q.mz bV (x.call (M:=[aP]) (Nat.le_refl _) (BU ⟨.inr (hw aI 0),trivial⟩) (Cr (L:=[c]) (y:=aP) 0 (gm 0)));refine wn ?_;rcases Ah (aV.1) with aG|aG
    ·replace a:=Aw a aG;refine AB rfl aG<|cr<|wM (v:=I d) rfl<|wA (v:=I d) rfl<|wn<|As<|Dk<|Ba ?_;obtain rfl:=oi a;refine Cg (fun st=>?_);exact .inl ⟨rfl,(d,aV.2),rfl,aP,qo st,sp st 4 rfl,a4,aW⟩
    ·replace a:=Ax a aG;refine AJ rfl aG<|CO<|Du<|Aq ?_;replace a:=Bo a;obtain⟨bW,a⟩:=a;refine wD (fun st=>Cf (ee st z) (eR st) bW)<|wM (v:=I (d+1)) rfl<|Be ?_;have aQ:=(r.mv (x.E1 a3 (AE [0] ⟨rfl,trivial⟩ (fun _ h=>h)) 0 rfl (fun k bZ=>(aI k bZ).1)));refine B1 bC (Nat.lt_succ_self _) (fun st=>?_);exact⟨(d+1),aV.2,aP,a,qo st,sp st 0 aK,sp st 1 aL,sp st 7 aM,sp st 8 rfl,a4,aW,aQ⟩
   ·replace a:=Ax a aF;refine AJ rfl aF<|Ei ?_;obtain rfl:=oi a;refine Cg (fun st=>?_);exact .inr ⟨rfl,m,rfl,c,qo st,x,aN⟩
 case bL=>
  rintro bB b1 b6 (⟨rfl,p,rfl,g,aA,aX,s,aB⟩|⟨rfl,p,rfl,i,aA,s,aB⟩)
  ·skip
   replace a:=Dp a;refine lf aA<|Dk ?_;obtain rfl:=oi a;refine AF rfl aX ?_;exact⟨g,aT _ s.fin,rfl,s.mq 0 [] (M:=[]) trivial a0,q.mz aB (AG (Bf [0] ⟨rfl,trivial⟩))⟩
  ·skip
   replace a:=Dq a;refine lf aA<|BA<|Br<|cr<|wA (v:=I (-1)) rfl<|wn<|As ?_;obtain rfl:=oi a;refine AF rfl rfl ?_;exact⟨i,aT _ s.fin,rfl,s.mq 0 [] (M:=[]) trivial a0,q.mz aB (AG (Bf [0] ⟨rfl,trivial⟩))⟩
theorem a138{q:Type}{f:Nat→Prop}{aI:Nat}{r:IT q}{t:q→Az→Option (Bool×q)} aJ n(z:q) c d(i:Value) a(Z:Nat→Prop) w(e:Cb Tryz.prog i f aI r (v1 (Cy AT)) Bu t)(aK:aI≤w.heap.size)(aL:Bx f [a] w)(aM:∀b,Z b→¬f b∧some b∉[a])(s:Sl AT w Z c d n)(aS:r z w Z a) aA(l:EM aJ t n z=some aA):
 BI Tryz.prog 138 #[.slice c n.length d,i] w (fun v w'=>∃o',Bz (FU f [a]) w w'∧Bu.R w' (zf Z w [o']) v aA.1∧(∀k,o'=some k→(a=some k∨w.heap.size≤k)∧k<w'.heap.size)∧r aA.2 w' (zf Z w [o']) o'):=by
 unfold EM at l;refine rq (N:=9) Tryz.func138 fun aT aB aU=>?_;have aC:=sA 0 aB;have aD:=sA 1 aB;clear aB;obtain⟨aN,aO,g,u,aE⟩:=Fl aL aM;have m:=s.mv (AK (L:=[a]) u w);have aF:=e.mz aS (AK (L:=[a]) u w);refine cr<|wA (v:=.bool false) rfl<|wr<|wM (v:=.slice c n.length d) aC<|wM (v:=i) aD ?_;replace l:=bind_some l;obtain⟨aG,aP,l⟩:=l;refine wE (fun st=>An Pp (eR st) (BV (eR st) (eR st)) (a162 aJ n z c d i a (ZZ f aN Z w.heap.size [a]) _ e (Nat.le_trans aK g.sz) (g.Ci (F':=f) (M:=[a]) (C:=[]) [0] [] rfl ⟨rfl,trivial⟩ trivial (fun _ h=>.inl h)) (g.zz (F':=f) (M:=[a]) (C:=[]) [0] [] ⟨rfl,trivial⟩ trivial (fun _ h=>.inl h)) m aF aG aP)) ?_;rintro _ w2 ⟨o,aQ,rfl,p,aR⟩;have x:=g.De aQ (AE [0] ⟨rfl,trivial⟩ (fun _ h=>h)) 0 rfl p;have aH:r aG.2 w2 (ZZ f aN Z w.heap.size [o]) o:=e.mz aR (g.call (M:=[o]) (Nat.le_refl _) (BU ⟨.inr (hw p 0),trivial⟩) (Cr (L:=[a]) (y:=o) 0 (gm 0)));refine wD (fun st=>HJ (eR st) (eR st))<|wA (v:=.bool (decide ((0:Int)≤aG.1))) rfl<|wn<|As ?_;obtain rfl:=oi l;refine AF rfl rfl ?_;exact⟨o,aE _ x.fin,rfl,x.mq 0 [] (M:=[]) trivial aO,e.mz aH (AG (Bf [0] ⟨rfl,trivial⟩))⟩
theorem RV{aA:Type}{f:Nat→Prop}{bB:Nat}{aB:IT aA}{aF:aA→Az→Option (Bool×aA)} aK aG(aL:aA) m n(i:Value) d(Z:Nat→Prop) w(c:Cb Tryz.prog i f bB aB (v1 (Cy AT)) Bu aF)(bC:bB≤w.heap.size)(bD:Bx f [d] w)(bE:∀b,Z b→¬f b∧some b∉[d])(aM:Sl AT w Z m n aG)(t:aB aL w Z d) aR(aC:G2 aK aF aG aL=some aR):
 BI Tryz.prog 110 #[.slice m aG.length n,i] w (fun v w'=>∃o',Bz (FU f [d]) w w'∧Bu.R w' (zf Z w [o']) v aR.1∧(∀k,o'=some k→(d=some k∨w.heap.size≤k)∧k<w'.heap.size)∧aB aR.2 w' (zf Z w [o']) o'):=by
 unfold G2 at aC;refine rq (N:=9) Tryz.func110 fun bU aS bV=>?_;have aT:=sA 0 aS;have aU:=sA 1 aS;clear aS;obtain⟨aV,bF,aH,aN,aW⟩:=Fl bD bE;have aD:=aM.mv (AK (L:=[d]) aN w);have aX:=c.mz t (AK (L:=[d]) aN w);refine cr<|wE (fun st=>BK (v:=i) (cs:= #[i]) (ee st aU) c.fc) ?_;rintro _ w1 ⟨a,rfl,l⟩;have e:=aH.nb l;have bN:=aH.Bv l;refine wA (v:=.bool false) rfl<|wr<|wM (v:=.slice m aG.length n) aT<|wD (fun st=>CE (vs:= #[]) (us:= #[pt a 0]) Gq (BR (eR st))) ?_;have aO:=e.Ci (F':=f) (M:=[some a]) (C:=[]) [0] [] rfl ⟨rfl,trivial⟩ trivial (fun k q=>.inl ((fun _ h=>h) k q));have aY:Cb Tryz.prog (.func (.func 139) #[] #[pt a 0]) (FU f [some a]) w1.heap.size (fun(st:aA) aZ bO o=>(∀k,o=some k→k<aZ.heap.size∧¬(FU f [some a]) k)∧Bk aZ a 167 #[i]∧aB st aZ bO o) (v1 (Cy AT)) Bu (fun(st:aA) (x:Az)=>(Fy aK aF x st).bind fun r=>some (r.1,r.2)):=by
  refine⟨rfl,rfl,e.GC [0] ⟨rfl,trivial⟩ (fun _ h=>h),?_,?_,?_⟩
  ·intro st x r w1 a0 bG o vs a2 a3 u t a4 bP;obtain⟨g,p,z⟩:=t;obtain⟨_,rfl,⟨_,rfl,rfl⟩⟩:=a4;obtain⟨bQ,bR,bS⟩:=bind_some bP;obtain rfl:=Option.some.inj bS;refine(Dj Pq rfl (a139 aK x st a i o a0 bG w1 c (Nat.le_trans bC (Nat.le_trans e.sz a2)) ((aO.grow a2).snoc g) (fun b s=>CX (u b (a3 b s)).1 (u b (a3 b s)).2) a3 (fun b s=>CX (u b s).1 (u b s).2) p z bQ bR)).mono ?_;rintro v w2 ⟨o',a4,a5,a6,aP,bH⟩;exact⟨o',a4.lf,aP,a5,⟨aO.keep a2 g aP,a6,c.mz bH GL⟩⟩
  ·intro st w1 w2 a0 bW o t hm s;obtain⟨g,p,z⟩:=t;exact⟨fun k q=>⟨Nat.lt_of_lt_of_le (g k q).1 hm.size,(g k q).2⟩,p.Fk (s a (.inl (.inr (gm 0)))),c.HU _ _ _ _ _ _ z hm (fun b bI=>s b (bI.imp .inl id))⟩
  ·intro st w1 a0 o t k q;obtain⟨g,p,z⟩:=t;exact g k q
 have aE:=(aD.mv (Ac l));replace aC:=bind_some aC;obtain⟨a7,bJ,aC⟩:=aC;have a8:aB aL w1 (ZZ f aV Z w.heap.size [some a,d]) d:=(c.me aX aH l.gr (Ac l));refine wE (fun st=>An Pr (eR st) (BV (eR st) (eR st)) (a138 aK aG aL m n (.func (.func 139) #[] #[pt a 0]) d (ZZ f aV Z w.heap.size [some a,d]) _ aY (Nat.le_refl _) (e.Ci (F':=(FU f [some a])) (M:=[d]) (C:=[some a]) [1] [0] rfl ⟨rfl,trivial⟩ ⟨rfl,trivial⟩ (Cl (fun _ h=>h))) (e.zz (F':=(FU f [some a])) (M:=[d]) (C:=[some a]) [1] [0] ⟨rfl,trivial⟩ ⟨rfl,trivial⟩ (Cl (fun _ h=>h))) aE ⟨(fun k q=>e.JY 1 (by rw[←q];rfl) [0] rfl ⟨rfl,trivial⟩),l.bk,a8⟩ a7 bJ)) ?_;rintro _ bT ⟨aI,bK,rfl,aJ,bL⟩;obtain⟨-,bM,a9⟩:=bL;have aQ:=e.De (Bz.cl (M1:=[some a]) (M2:=[d]) bK) (AE [0,1] ⟨rfl,rfl,trivial⟩ (fun _ h=>h)) 1 rfl aJ;have bA:aB a7.2 bT (ZZ f aV Z w.heap.size [some a,aI]) aI:=c.mz a9 (e.call (M:=[aI]) (Nat.le_refl _) (BU ⟨.inr (hw aJ 1),trivial⟩) (Cr (L:=[some a,d]) (y:=aI) 1 (gm 0)));refine wD (fun st=>CB (eR st))<|wA (v:=.bool !a7.1) rfl<|wn<|As ?_;obtain rfl:=oi aC;refine AF rfl rfl ?_;exact⟨aI,aW _ aQ.fin,rfl,aQ.mq 1 [] (M:=[]) trivial bF,c.mz bA (AG (Bf [1] ⟨rfl,trivial⟩))⟩
theorem RW{t:Type}{f:Nat→Prop}{aO:Nat}{p:IT t}{aA:t→AO→Option (Bool×t)} aY d(u:t) a(m:Value) c(Z Za:Nat→Prop) w(e:Cb Tryz.prog m f aO p (v1 (Cy AU)) Bu aA)(aP:aO≤w.heap.size)(aQ:Bx f [some a,c] w)(aR:∀b,Z b→¬f b∧some b∉[some a,c])(aZ:∀b,Z b→Za b)(aD:∀b,Za b→¬f b∧some b∉[some a,c])(aS:Bk w a 124 #[m])(a0:p u w Z c) aE(o:Fz aY aA d u=some aE):
 BI Tryz.prog 113 #[.agg #[I d.Cz,I d.Cw],pt a 0] w (fun v w'=>∃o',Bz (FU f [some a,c]) w w'∧Bu.R w' (zf Z w [some a,o']) v aE.1∧Bk w' a 124 #[m]∧(∀k,o'=some k→(c=some k∨w.heap.size≤k)∧k<w'.heap.size)∧p aE.2 w' (zf Z w [some a,o']) o'):=by
 unfold Fz at o;refine rq (N:=8) Tryz.func113 fun a4 aF a5=>?_;have aG:=sA 0 aF;have aH:=sA 1 aF;clear aF;obtain⟨aI,aT,q,aU,a2,aJ⟩:=Hu aQ aR aD;have aK:=e.mz a0 (AK (L:=[some a,c]) aU w);refine cr<|wE (fun st=>BK (v:=.agg #[I d.Cz,I d.Cw]) (cs:= #[I d.Cz,I d.Cw]) (ee st aG) rfl) ?_;rintro _ w1 ⟨x,rfl,g⟩;have i:=q.nb g;have aX:=q.Bv g;refine wA (v:=.bool false) rfl<|wn<|Aj<|Aq ?_;have n:=(aS.ext g.gr);refine wD (fun st=>Ay (v:=m) Ps (ee st aH) n rfl)<|wD (fun st=>Bc (l:=[I d.Cz,I d.Cw]) Jt (eR st) g.bk rfl rfl) ?_;have aL:p u w1 (ZZ f aI Z w.heap.size [some x,some a,c]) c:=(e.me aK q g.gr (Ac g));replace o:=bind_some o;obtain⟨aM,aV,o⟩:=o;refine wE (fun st=>DJ (e.call u d aM _ (ZZ f aI Z w.heap.size [some x,some a,c]) (ZC f [c]) c #[.agg #[I d.Cz,I d.Cw]] (Nat.le_trans aP i.sz) (i.zz (F':=f) (M:=[c]) (C:=[]) [2] [] ⟨rfl,trivial⟩ trivial (fun _ h=>.inl h)) Gf aL ⟨_,rfl,⟨_,rfl,rfl⟩⟩ aV) (eR st) (BR (eR st))) ?_;rintro _ a3 ⟨r,aB,s,rfl,aW⟩;have aC:=i.De aB (AE [2] ⟨rfl,trivial⟩ (fun _ h=>h)) 2 rfl s;have aN:p aM.2 a3 (ZZ f aI Z w.heap.size [some x,some a,r]) r:=e.mz aW (i.call (M:=[r]) (Nat.le_refl _) (BU ⟨.inr (hw s 2),trivial⟩) (Cr (L:=[some x,some a,c]) (y:=r) 2 (gm 0)));refine wD (fun st=>CB (eR st))<|wA (v:=.bool !aM.1) rfl<|wn<|As ?_;obtain rfl:=oi o;refine AF rfl rfl ?_;have z:=(n.B6 aB (i.Cm 1 rfl [2] rfl ⟨rfl,trivial⟩ (fun _ h=>h)));exact⟨r,aJ _ aC.fin,rfl,z,aC.mq 2 [1] (M:=[some a]) ⟨rfl,trivial⟩ aT,e.mz aN (AG (Bf [1,2] ⟨rfl,rfl,trivial⟩))⟩
theorem RX{aY:Type}{e:Nat→Prop}{bE:Nat}{aH:IT aY}{aR:aY→AO→Option (Bool×aY)} bF t(a5:aY) n o(aJ:Value) aC(Z:Nat→Prop) w(q:Cb Tryz.prog aJ e bE aH (v1 (Cy AU)) Bu aR)(bG:bE≤w.heap.size)(bH:Bx e [aC] w)(bI:∀b,Z b→¬e b∧some b∉[aC])(aZ:Sl AU w Z n o t)(bX:aH a5 w Z aC) a6(a:Fs bF aR t a5=some a6):
 BI Tryz.prog 140 #[.slice n t.length o,aJ] w (fun v w'=>∃o',Bz (FU e [aC]) w w'∧(C7 .i64).R w' (zf Z w [o']) v a6.1∧(∀k,o'=some k→(aC=some k∨w.heap.size≤k)∧k<w'.heap.size)∧aH a6.2 w' (zf Z w [o']) o'):=by
 unfold Fs at a;refine rq (N:=19) Tryz.func140 fun b2 a7 b3=>?_;have aS:=sA 0 a7;have a8:=sA 1 a7;clear a7;obtain⟨aD,a0,bJ,a2,aT⟩:=Fl bH bI;have aO:=aZ.mv (AK (L:=[aC]) a2 w);have a9:=q.mz bX (AK (L:=[aC]) a2 w);refine cr<|wA (v:=I 0) rfl<|wn<|Aj<|cr<|wM (v:=.slice n t.length o) aS<|wD (fun st=>BT Tryz.underlying50 (eR st))<|wM (v:=I 0) rfl<|wn<|Bi ?_;replace a:=bind_some a;obtain⟨bA,u,a⟩:=a;refine Ct (fun bB f aE=>(bB=.ret∧∃p,bA=.inl p∧∃g,Fo X0 19 f∧sl f 4=I p.1∧Hp e aD w [g] aE∧aH p.2 aE (ZZ e aD Z w.heap.size [g]) g)∨(bB=.exit 0∧∃p,bA=.inr p∧∃i,Fo X0 19 f∧Hp e aD w [i] aE∧aH p aE (ZZ e aD Z w.heap.size [i]) i)) ?bK ?bL
 case bK=>
  clear a;refine Cs (fun bC f aE=>∃d,∃m,∃c,DQ aR t bC d m=some bA∧Fo X0 19 f∧sl f 0=.slice n t.length o∧sl f 1=aJ∧sl f 7=I (t.length:Int)∧sl f 8=I d∧Hp e aD w [c] aE∧(fun bM=>aH m aE bM c∧Sl AU aE bM n o t) (ZZ e aD Z w.heap.size [c])) bF ?bN ?bO
  case bN=>
   intro st;exact⟨(0:Int),a5,aC,u,qo st,sp st 0 aS,sp st 1 a8,sp st 7 rfl,sp st 8 rfl,bJ,a9,aO⟩
  case bO=>
   rintro(_|bC) b4 b5 ⟨d,m,c,u,bD,aK,aL,aM,z,x,aN,r⟩
   ·exact absurd (show none=some _ from u) (by simp)
   rw[DQ.eq_2] at u;have a:=u;clear u;refine ro bD<|cr<|wD (fun st=>CU (ee st z) (ee st aM))<|wn<|Aj ?_;rcases Ah (decide (d<(t.length:Int))) with aF|aF
   ·replace a:=Aw a aF;refine AB rfl aF<|cn<|Aj<|Bi<|cr<|wM (v:=I d) z<|wA (v:=I d) rfl<|wr<|wM (v:=aJ) aL<|wM (v:=.slice n t.length o) aK<|wM (v:=I d) rfl ?_;replace a:=BD a;obtain⟨i3,aU,bP,bQ,bR,a⟩:=a;obtain⟨b7,b8,_,bS,rfl,bT⟩:=Sl.elem r (by decide) bQ;refine wD (fun st=>Cd (k:=i3) Tryz.underlying50 JJ (eR st) bS (eR st) bP bR)<|wD (fun st=>CQ (l:=[I aU.Cz,I aU.Cw]) Jt (eR st) bT rfl rfl) ?_;replace a:=bind_some a;obtain⟨aV,bU,a⟩:=a;refine wE (fun st=>DJ (q.call m aU aV _ (ZZ e aD Z w.heap.size [c]) (ZC e [c]) c #[.agg #[I aU.Cz,I aU.Cw]] (Nat.le_trans bG x.sz) (x.zz (F':=e) (M:=[c]) (C:=[]) [0] [] ⟨rfl,trivial⟩ trivial (fun _ h=>.inl h)) Gf aN ⟨_,rfl,⟨_,rfl,rfl⟩⟩ bU) (eR st) (BR (eR st))) ?_;rintro _ bY ⟨aP,a3,aI,rfl,bV⟩;have a4:=x.De a3 (AE [0] ⟨rfl,trivial⟩ (fun _ h=>h)) 0 rfl aI;have aW:aH aV.2 bY (ZZ e aD Z w.heap.size [aP]) aP:=q.mz bV (x.call (M:=[aP]) (Nat.le_refl _) (BU ⟨.inr (hw aI 0),trivial⟩) (Cr (L:=[c]) (y:=aP) 0 (gm 0)));refine wn ?_;rcases Ah (aV.1) with aG|aG
    ·replace a:=Aw a aG;refine AB rfl aG<|cr<|wM (v:=I d) rfl<|wA (v:=I d) rfl<|wn<|As<|Dk<|Ba ?_;obtain rfl:=oi a;refine Cg (fun st=>?_);exact .inl ⟨rfl,(d,aV.2),rfl,aP,qo st,sp st 4 rfl,a4,aW⟩
    ·replace a:=Ax a aG;refine AJ rfl aG<|CO<|Du<|Aq ?_;replace a:=Bo a;obtain⟨bW,a⟩:=a;refine wD (fun st=>Cf (ee st z) (eR st) bW)<|wM (v:=I (d+1)) rfl<|Be ?_;have aQ:=(r.mv (x.E1 a3 (AE [0] ⟨rfl,trivial⟩ (fun _ h=>h)) 0 rfl (fun k bZ=>(aI k bZ).1)));refine B1 bC (Nat.lt_succ_self _) (fun st=>?_);exact⟨(d+1),aV.2,aP,a,qo st,sp st 0 aK,sp st 1 aL,sp st 7 aM,sp st 8 rfl,a4,aW,aQ⟩
   ·replace a:=Ax a aF;refine AJ rfl aF<|Ei ?_;obtain rfl:=oi a;refine Cg (fun st=>?_);exact .inr ⟨rfl,m,rfl,c,qo st,x,aN⟩
 case bL=>
  rintro bB b1 b6 (⟨rfl,p,rfl,g,aA,aX,s,aB⟩|⟨rfl,p,rfl,i,aA,s,aB⟩)
  ·skip
   replace a:=Dp a;refine lf aA<|Dk ?_;obtain rfl:=oi a;refine AF rfl aX ?_;exact⟨g,aT _ s.fin,rfl,s.mq 0 [] (M:=[]) trivial a0,q.mz aB (AG (Bf [0] ⟨rfl,trivial⟩))⟩
  ·skip
   replace a:=Dq a;refine lf aA<|BA<|Br<|cr<|wA (v:=I (-1)) rfl<|wn<|As ?_;obtain rfl:=oi a;refine AF rfl rfl ?_;exact⟨i,aT _ s.fin,rfl,s.mq 0 [] (M:=[]) trivial a0,q.mz aB (AG (Bf [0] ⟨rfl,trivial⟩))⟩
theorem RY{q:Type}{f:Nat→Prop}{aI:Nat}{r:IT q}{t:q→AO→Option (Bool×q)} aJ n(z:q) c d(i:Value) a(Z:Nat→Prop) w(e:Cb Tryz.prog i f aI r (v1 (Cy AU)) Bu t)(aK:aI≤w.heap.size)(aL:Bx f [a] w)(aM:∀b,Z b→¬f b∧some b∉[a])(s:Sl AU w Z c d n)(aS:r z w Z a) aA(l:EN aJ t n z=some aA):
 BI Tryz.prog 112 #[.slice c n.length d,i] w (fun v w'=>∃o',Bz (FU f [a]) w w'∧Bu.R w' (zf Z w [o']) v aA.1∧(∀k,o'=some k→(a=some k∨w.heap.size≤k)∧k<w'.heap.size)∧r aA.2 w' (zf Z w [o']) o'):=by
 unfold EN at l;refine rq (N:=9) Tryz.func112 fun aT aB aU=>?_;have aC:=sA 0 aB;have aD:=sA 1 aB;clear aB;obtain⟨aN,aO,g,u,aE⟩:=Fl aL aM;have m:=s.mv (AK (L:=[a]) u w);have aF:=e.mz aS (AK (L:=[a]) u w);refine cr<|wA (v:=.bool false) rfl<|wr<|wM (v:=.slice c n.length d) aC<|wM (v:=i) aD ?_;replace l:=bind_some l;obtain⟨aG,aP,l⟩:=l;refine wE (fun st=>An Pt (eR st) (BV (eR st) (eR st)) (RX aJ n z c d i a (ZZ f aN Z w.heap.size [a]) _ e (Nat.le_trans aK g.sz) (g.Ci (F':=f) (M:=[a]) (C:=[]) [0] [] rfl ⟨rfl,trivial⟩ trivial (fun _ h=>.inl h)) (g.zz (F':=f) (M:=[a]) (C:=[]) [0] [] ⟨rfl,trivial⟩ trivial (fun _ h=>.inl h)) m aF aG aP)) ?_;rintro _ w2 ⟨o,aQ,rfl,p,aR⟩;have x:=g.De aQ (AE [0] ⟨rfl,trivial⟩ (fun _ h=>h)) 0 rfl p;have aH:r aG.2 w2 (ZZ f aN Z w.heap.size [o]) o:=e.mz aR (g.call (M:=[o]) (Nat.le_refl _) (BU ⟨.inr (hw p 0),trivial⟩) (Cr (L:=[a]) (y:=o) 0 (gm 0)));refine wD (fun st=>HJ (eR st) (eR st))<|wA (v:=.bool (decide ((0:Int)≤aG.1))) rfl<|wn<|As ?_;obtain rfl:=oi l;refine AF rfl rfl ?_;exact⟨o,aE _ x.fin,rfl,x.mq 0 [] (M:=[]) trivial aO,e.mz aH (AG (Bf [0] ⟨rfl,trivial⟩))⟩
theorem Sc{aA:Type}{f:Nat→Prop}{bB:Nat}{aB:IT aA}{aF:aA→AO→Option (Bool×aA)} aK aG(aL:aA) m n(i:Value) d(Z:Nat→Prop) w(c:Cb Tryz.prog i f bB aB (v1 (Cy AU)) Bu aF)(bC:bB≤w.heap.size)(bD:Bx f [d] w)(bE:∀b,Z b→¬f b∧some b∉[d])(aM:Sl AU w Z m n aG)(t:aB aL w Z d) aR(aC:G3 aK aF aG aL=some aR):
 BI Tryz.prog 74 #[.slice m aG.length n,i] w (fun v w'=>∃o',Bz (FU f [d]) w w'∧Bu.R w' (zf Z w [o']) v aR.1∧(∀k,o'=some k→(d=some k∨w.heap.size≤k)∧k<w'.heap.size)∧aB aR.2 w' (zf Z w [o']) o'):=by
 unfold G3 at aC;refine rq (N:=9) Tryz.func74 fun bU aS bV=>?_;have aT:=sA 0 aS;have aU:=sA 1 aS;clear aS;obtain⟨aV,bF,aH,aN,aW⟩:=Fl bD bE;have aD:=aM.mv (AK (L:=[d]) aN w);have aX:=c.mz t (AK (L:=[d]) aN w);refine cr<|wE (fun st=>BK (v:=i) (cs:= #[i]) (ee st aU) c.fc) ?_;rintro _ w1 ⟨a,rfl,l⟩;have e:=aH.nb l;have bN:=aH.Bv l;refine wA (v:=.bool false) rfl<|wr<|wM (v:=.slice m aG.length n) aT<|wD (fun st=>CE (vs:= #[]) (us:= #[pt a 0]) Gq (BR (eR st))) ?_;have aO:=e.Ci (F':=f) (M:=[some a]) (C:=[]) [0] [] rfl ⟨rfl,trivial⟩ trivial (fun k q=>.inl ((fun _ h=>h) k q));have aY:Cb Tryz.prog (.func (.func 113) #[] #[pt a 0]) (FU f [some a]) w1.heap.size (fun(st:aA) aZ bO o=>(∀k,o=some k→k<aZ.heap.size∧¬(FU f [some a]) k)∧Bk aZ a 124 #[i]∧aB st aZ bO o) (v1 (Cy AU)) Bu (fun(st:aA) (x:AO)=>(Fz aK aF x st).bind fun r=>some (r.1,r.2)):=by
  refine⟨rfl,rfl,e.GC [0] ⟨rfl,trivial⟩ (fun _ h=>h),?_,?_,?_⟩
  ·intro st x r w1 a0 bG o vs a2 a3 u t a4 bP;obtain⟨g,p,z⟩:=t;obtain⟨_,rfl,⟨_,rfl,rfl⟩⟩:=a4;obtain⟨bQ,bR,bS⟩:=bind_some bP;obtain rfl:=Option.some.inj bS;refine(Dj Pu rfl (RW aK x st a i o a0 bG w1 c (Nat.le_trans bC (Nat.le_trans e.sz a2)) ((aO.grow a2).snoc g) (fun b s=>CX (u b (a3 b s)).1 (u b (a3 b s)).2) a3 (fun b s=>CX (u b s).1 (u b s).2) p z bQ bR)).mono ?_;rintro v w2 ⟨o',a4,a5,a6,aP,bH⟩;exact⟨o',a4.lf,aP,a5,⟨aO.keep a2 g aP,a6,c.mz bH GL⟩⟩
  ·intro st w1 w2 a0 bW o t hm s;obtain⟨g,p,z⟩:=t;exact⟨fun k q=>⟨Nat.lt_of_lt_of_le (g k q).1 hm.size,(g k q).2⟩,p.Fk (s a (.inl (.inr (gm 0)))),c.HU _ _ _ _ _ _ z hm (fun b bI=>s b (bI.imp .inl id))⟩
  ·intro st w1 a0 o t k q;obtain⟨g,p,z⟩:=t;exact g k q
 have aE:=(aD.mv (Ac l));replace aC:=bind_some aC;obtain⟨a7,bJ,aC⟩:=aC;have a8:aB aL w1 (ZZ f aV Z w.heap.size [some a,d]) d:=(c.me aX aH l.gr (Ac l));refine wE (fun st=>An Pv (eR st) (BV (eR st) (eR st)) (RY aK aG aL m n (.func (.func 113) #[] #[pt a 0]) d (ZZ f aV Z w.heap.size [some a,d]) _ aY (Nat.le_refl _) (e.Ci (F':=(FU f [some a])) (M:=[d]) (C:=[some a]) [1] [0] rfl ⟨rfl,trivial⟩ ⟨rfl,trivial⟩ (Cl (fun _ h=>h))) (e.zz (F':=(FU f [some a])) (M:=[d]) (C:=[some a]) [1] [0] ⟨rfl,trivial⟩ ⟨rfl,trivial⟩ (Cl (fun _ h=>h))) aE ⟨(fun k q=>e.JY 1 (by rw[←q];rfl) [0] rfl ⟨rfl,trivial⟩),l.bk,a8⟩ a7 bJ)) ?_;rintro _ bT ⟨aI,bK,rfl,aJ,bL⟩;obtain⟨-,bM,a9⟩:=bL;have aQ:=e.De (Bz.cl (M1:=[some a]) (M2:=[d]) bK) (AE [0,1] ⟨rfl,rfl,trivial⟩ (fun _ h=>h)) 1 rfl aJ;have bA:aB a7.2 bT (ZZ f aV Z w.heap.size [some a,aI]) aI:=c.mz a9 (e.call (M:=[aI]) (Nat.le_refl _) (BU ⟨.inr (hw aJ 1),trivial⟩) (Cr (L:=[some a,d]) (y:=aI) 1 (gm 0)));refine wD (fun st=>CB (eR st))<|wA (v:=.bool !a7.1) rfl<|wn<|As ?_;obtain rfl:=oi aC;refine AF rfl rfl ?_;exact⟨aI,aW _ aQ.fin,rfl,aQ.mq 1 [] (M:=[]) trivial bF,c.mz bA (AG (Bf [1] ⟨rfl,trivial⟩))⟩
theorem RZ{t:Type}{f:Nat→Prop}{aO:Nat}{p:IT t}{aA:t→AS→Option (Bool×t)} aY a(u:t) c(m:Value) d(Z Za:Nat→Prop) w(e:Cb Tryz.prog m f aO p (v1 (Cy AW)) Bu aA)(aP:aO≤w.heap.size)(aQ:Bx f [some c,d] w)(aR:∀b,Z b→¬f b∧some b∉[some c,d])(aZ:∀b,Z b→Za b)(aD:∀b,Za b→¬f b∧some b∉[some c,d])(aS:Bk w c 125 #[m])(a0:p u w Z d) aE(o:FR aY aA a u=some aE):
 BI Tryz.prog 115 #[.agg #[I a.C5,I a.B3,I a.B4],pt c 0] w (fun v w'=>∃o',Bz (FU f [some c,d]) w w'∧Bu.R w' (zf Z w [some c,o']) v aE.1∧Bk w' c 125 #[m]∧(∀k,o'=some k→(d=some k∨w.heap.size≤k)∧k<w'.heap.size)∧p aE.2 w' (zf Z w [some c,o']) o'):=by
 unfold FR at o;refine rq (N:=8) Tryz.func115 fun a4 aF a5=>?_;have aG:=sA 0 aF;have aH:=sA 1 aF;clear aF;obtain⟨aI,aT,q,aU,a2,aJ⟩:=Hu aQ aR aD;have aK:=e.mz a0 (AK (L:=[some c,d]) aU w);refine cr<|wE (fun st=>BK (v:=.agg #[I a.C5,I a.B3,I a.B4]) (cs:= #[I a.C5,I a.B3,I a.B4]) (ee st aG) rfl) ?_;rintro _ w1 ⟨x,rfl,g⟩;have i:=q.nb g;have aX:=q.Bv g;refine wA (v:=.bool false) rfl<|wn<|Aj<|Aq ?_;have n:=(aS.ext g.gr);refine wD (fun st=>Ay (v:=m) Pw (ee st aH) n rfl)<|wD (fun st=>Bc (l:=[I a.C5,I a.B3,I a.B4]) LN (eR st) g.bk rfl rfl) ?_;have aL:p u w1 (ZZ f aI Z w.heap.size [some x,some c,d]) d:=(e.me aK q g.gr (Ac g));replace o:=bind_some o;obtain⟨aM,aV,o⟩:=o;refine wE (fun st=>DJ (e.call u a aM _ (ZZ f aI Z w.heap.size [some x,some c,d]) (ZC f [d]) d #[.agg #[I a.C5,I a.B3,I a.B4]] (Nat.le_trans aP i.sz) (i.zz (F':=f) (M:=[d]) (C:=[]) [2] [] ⟨rfl,trivial⟩ trivial (fun _ h=>.inl h)) Gf aL ⟨_,rfl,⟨_,rfl,rfl⟩⟩ aV) (eR st) (BR (eR st))) ?_;rintro _ a3 ⟨r,aB,s,rfl,aW⟩;have aC:=i.De aB (AE [2] ⟨rfl,trivial⟩ (fun _ h=>h)) 2 rfl s;have aN:p aM.2 a3 (ZZ f aI Z w.heap.size [some x,some c,r]) r:=e.mz aW (i.call (M:=[r]) (Nat.le_refl _) (BU ⟨.inr (hw s 2),trivial⟩) (Cr (L:=[some x,some c,d]) (y:=r) 2 (gm 0)));refine wD (fun st=>CB (eR st))<|wA (v:=.bool !aM.1) rfl<|wn<|As ?_;obtain rfl:=oi o;refine AF rfl rfl ?_;have z:=(n.B6 aB (i.Cm 1 rfl [2] rfl ⟨rfl,trivial⟩ (fun _ h=>h)));exact⟨r,aJ _ aC.fin,rfl,z,aC.mq 2 [1] (M:=[some c]) ⟨rfl,trivial⟩ aT,e.mz aN (AG (Bf [1,2] ⟨rfl,rfl,trivial⟩))⟩
theorem a141{aY:Type}{e:Nat→Prop}{bE:Nat}{aH:IT aY}{aS:aY→AS→Option (Bool×aY)} bF t(a5:aY) n o(aK:Value) aC(Z:Nat→Prop) w(q:Cb Tryz.prog aK e bE aH (v1 (Cy AW)) Bu aS)(bG:bE≤w.heap.size)(bH:Bx e [aC] w)(bI:∀b,Z b→¬e b∧some b∉[aC])(aZ:Sl AW w Z n o t)(bX:aH a5 w Z aC) a6(a:FG bF aS t a5=some a6):
 BI Tryz.prog 141 #[.slice n t.length o,aK] w (fun v w'=>∃o',Bz (FU e [aC]) w w'∧(C7 .i64).R w' (zf Z w [o']) v a6.1∧(∀k,o'=some k→(aC=some k∨w.heap.size≤k)∧k<w'.heap.size)∧aH a6.2 w' (zf Z w [o']) o'):=by
 unfold FG at a;refine rq (N:=19) Tryz.func141 fun b2 a7 b3=>?_;have aT:=sA 0 a7;have a8:=sA 1 a7;clear a7;obtain⟨aD,a0,bJ,a2,aU⟩:=Fl bH bI;have aP:=aZ.mv (AK (L:=[aC]) a2 w);have a9:=q.mz bX (AK (L:=[aC]) a2 w);refine cr<|wA (v:=I 0) rfl<|wn<|Aj<|cr<|wM (v:=.slice n t.length o) aT<|wD (fun st=>BT Tryz.underlying51 (eR st))<|wM (v:=I 0) rfl<|wn<|Bi ?_;replace a:=bind_some a;obtain⟨bA,u,a⟩:=a;refine Ct (fun bB f aE=>(bB=.ret∧∃p,bA=.inl p∧∃g,Fo X0 19 f∧sl f 4=I p.1∧Hp e aD w [g] aE∧aH p.2 aE (ZZ e aD Z w.heap.size [g]) g)∨(bB=.exit 0∧∃p,bA=.inr p∧∃i,Fo X0 19 f∧Hp e aD w [i] aE∧aH p aE (ZZ e aD Z w.heap.size [i]) i)) ?bK ?bL
 case bK=>
  clear a;refine Cs (fun bC f aE=>∃d,∃m,∃c,DY aS t bC d m=some bA∧Fo X0 19 f∧sl f 0=.slice n t.length o∧sl f 1=aK∧sl f 7=I (t.length:Int)∧sl f 8=I d∧Hp e aD w [c] aE∧(fun bM=>aH m aE bM c∧Sl AW aE bM n o t) (ZZ e aD Z w.heap.size [c])) bF ?bN ?bO
  case bN=>
   intro st;exact⟨(0:Int),a5,aC,u,qo st,sp st 0 aT,sp st 1 a8,sp st 7 rfl,sp st 8 rfl,bJ,a9,aP⟩
  case bO=>
   rintro(_|bC) b4 b5 ⟨d,m,c,u,bD,aL,aM,aN,z,x,aO,r⟩
   ·exact absurd (show none=some _ from u) (by simp)
   rw[DY.eq_2] at u;have a:=u;clear u;refine ro bD<|cr<|wD (fun st=>CU (ee st z) (ee st aN))<|wn<|Aj ?_;rcases Ah (decide (d<(t.length:Int))) with aF|aF
   ·replace a:=Aw a aF;refine AB rfl aF<|cn<|Aj<|Bi<|cr<|wM (v:=I d) z<|wA (v:=I d) rfl<|wr<|wM (v:=aK) aM<|wM (v:=.slice n t.length o) aL<|wM (v:=I d) rfl ?_;replace a:=BD a;obtain⟨i3,aI,bP,bQ,bR,a⟩:=a;obtain⟨b7,b8,_,bS,rfl,bT⟩:=Sl.elem r (by decide) bQ;refine wD (fun st=>Cd (k:=i3) Tryz.underlying51 H5 (eR st) bS (eR st) bP bR)<|wD (fun st=>CQ (l:=[I aI.C5,I aI.B3,I aI.B4]) LN (eR st) bT rfl rfl) ?_;replace a:=bind_some a;obtain⟨aV,bU,a⟩:=a;refine wE (fun st=>DJ (q.call m aI aV _ (ZZ e aD Z w.heap.size [c]) (ZC e [c]) c #[.agg #[I aI.C5,I aI.B3,I aI.B4]] (Nat.le_trans bG x.sz) (x.zz (F':=e) (M:=[c]) (C:=[]) [0] [] ⟨rfl,trivial⟩ trivial (fun _ h=>.inl h)) Gf aO ⟨_,rfl,⟨_,rfl,rfl⟩⟩ bU) (eR st) (BR (eR st))) ?_;rintro _ bY ⟨aQ,a3,aJ,rfl,bV⟩;have a4:=x.De a3 (AE [0] ⟨rfl,trivial⟩ (fun _ h=>h)) 0 rfl aJ;have aW:aH aV.2 bY (ZZ e aD Z w.heap.size [aQ]) aQ:=q.mz bV (x.call (M:=[aQ]) (Nat.le_refl _) (BU ⟨.inr (hw aJ 0),trivial⟩) (Cr (L:=[c]) (y:=aQ) 0 (gm 0)));refine wn ?_;rcases Ah (aV.1) with aG|aG
    ·replace a:=Aw a aG;refine AB rfl aG<|cr<|wM (v:=I d) rfl<|wA (v:=I d) rfl<|wn<|As<|Dk<|Ba ?_;obtain rfl:=oi a;refine Cg (fun st=>?_);exact .inl ⟨rfl,(d,aV.2),rfl,aQ,qo st,sp st 4 rfl,a4,aW⟩
    ·replace a:=Ax a aG;refine AJ rfl aG<|CO<|Du<|Aq ?_;replace a:=Bo a;obtain⟨bW,a⟩:=a;refine wD (fun st=>Cf (ee st z) (eR st) bW)<|wM (v:=I (d+1)) rfl<|Be ?_;have aR:=(r.mv (x.E1 a3 (AE [0] ⟨rfl,trivial⟩ (fun _ h=>h)) 0 rfl (fun k bZ=>(aJ k bZ).1)));refine B1 bC (Nat.lt_succ_self _) (fun st=>?_);exact⟨(d+1),aV.2,aQ,a,qo st,sp st 0 aL,sp st 1 aM,sp st 7 aN,sp st 8 rfl,a4,aW,aR⟩
   ·replace a:=Ax a aF;refine AJ rfl aF<|Ei ?_;obtain rfl:=oi a;refine Cg (fun st=>?_);exact .inr ⟨rfl,m,rfl,c,qo st,x,aO⟩
 case bL=>
  rintro bB b1 b6 (⟨rfl,p,rfl,g,aA,aX,s,aB⟩|⟨rfl,p,rfl,i,aA,s,aB⟩)
  ·skip
   replace a:=Dp a;refine lf aA<|Dk ?_;obtain rfl:=oi a;refine AF rfl aX ?_;exact⟨g,aU _ s.fin,rfl,s.mq 0 [] (M:=[]) trivial a0,q.mz aB (AG (Bf [0] ⟨rfl,trivial⟩))⟩
  ·skip
   replace a:=Dq a;refine lf aA<|BA<|Br<|cr<|wA (v:=I (-1)) rfl<|wn<|As ?_;obtain rfl:=oi a;refine AF rfl rfl ?_;exact⟨i,aU _ s.fin,rfl,s.mq 0 [] (M:=[]) trivial a0,q.mz aB (AG (Bf [0] ⟨rfl,trivial⟩))⟩
theorem R0{q:Type}{f:Nat→Prop}{aI:Nat}{r:IT q}{t:q→AS→Option (Bool×q)} aJ n(z:q) c d(i:Value) a(Z:Nat→Prop) w(e:Cb Tryz.prog i f aI r (v1 (Cy AW)) Bu t)(aK:aI≤w.heap.size)(aL:Bx f [a] w)(aM:∀b,Z b→¬f b∧some b∉[a])(s:Sl AW w Z c d n)(aS:r z w Z a) aA(l:E3 aJ t n z=some aA):
 BI Tryz.prog 114 #[.slice c n.length d,i] w (fun v w'=>∃o',Bz (FU f [a]) w w'∧Bu.R w' (zf Z w [o']) v aA.1∧(∀k,o'=some k→(a=some k∨w.heap.size≤k)∧k<w'.heap.size)∧r aA.2 w' (zf Z w [o']) o'):=by
 unfold E3 at l;refine rq (N:=9) Tryz.func114 fun aT aB aU=>?_;have aC:=sA 0 aB;have aD:=sA 1 aB;clear aB;obtain⟨aN,aO,g,u,aE⟩:=Fl aL aM;have m:=s.mv (AK (L:=[a]) u w);have aF:=e.mz aS (AK (L:=[a]) u w);refine cr<|wA (v:=.bool false) rfl<|wr<|wM (v:=.slice c n.length d) aC<|wM (v:=i) aD ?_;replace l:=bind_some l;obtain⟨aG,aP,l⟩:=l;refine wE (fun st=>An Px (eR st) (BV (eR st) (eR st)) (a141 aJ n z c d i a (ZZ f aN Z w.heap.size [a]) _ e (Nat.le_trans aK g.sz) (g.Ci (F':=f) (M:=[a]) (C:=[]) [0] [] rfl ⟨rfl,trivial⟩ trivial (fun _ h=>.inl h)) (g.zz (F':=f) (M:=[a]) (C:=[]) [0] [] ⟨rfl,trivial⟩ trivial (fun _ h=>.inl h)) m aF aG aP)) ?_;rintro _ w2 ⟨o,aQ,rfl,p,aR⟩;have x:=g.De aQ (AE [0] ⟨rfl,trivial⟩ (fun _ h=>h)) 0 rfl p;have aH:r aG.2 w2 (ZZ f aN Z w.heap.size [o]) o:=e.mz aR (g.call (M:=[o]) (Nat.le_refl _) (BU ⟨.inr (hw p 0),trivial⟩) (Cr (L:=[a]) (y:=o) 0 (gm 0)));refine wD (fun st=>HJ (eR st) (eR st))<|wA (v:=.bool (decide ((0:Int)≤aG.1))) rfl<|wn<|As ?_;obtain rfl:=oi l;refine AF rfl rfl ?_;exact⟨o,aE _ x.fin,rfl,x.mq 0 [] (M:=[]) trivial aO,e.mz aH (AG (Bf [0] ⟨rfl,trivial⟩))⟩
theorem a75{aA:Type}{f:Nat→Prop}{bB:Nat}{aB:IT aA}{aF:aA→AS→Option (Bool×aA)} aK aG(aL:aA) m n(i:Value) d(Z:Nat→Prop) w(c:Cb Tryz.prog i f bB aB (v1 (Cy AW)) Bu aF)(bC:bB≤w.heap.size)(bD:Bx f [d] w)(bE:∀b,Z b→¬f b∧some b∉[d])(aM:Sl AW w Z m n aG)(t:aB aL w Z d) aR(aC:Hk aK aF aG aL=some aR):
 BI Tryz.prog 75 #[.slice m aG.length n,i] w (fun v w'=>∃o',Bz (FU f [d]) w w'∧Bu.R w' (zf Z w [o']) v aR.1∧(∀k,o'=some k→(d=some k∨w.heap.size≤k)∧k<w'.heap.size)∧aB aR.2 w' (zf Z w [o']) o'):=by
 unfold Hk at aC;refine rq (N:=9) Tryz.func75 fun bU aS bV=>?_;have aT:=sA 0 aS;have aU:=sA 1 aS;clear aS;obtain⟨aV,bF,aH,aN,aW⟩:=Fl bD bE;have aD:=aM.mv (AK (L:=[d]) aN w);have aX:=c.mz t (AK (L:=[d]) aN w);refine cr<|wE (fun st=>BK (v:=i) (cs:= #[i]) (ee st aU) c.fc) ?_;rintro _ w1 ⟨a,rfl,l⟩;have e:=aH.nb l;have bN:=aH.Bv l;refine wA (v:=.bool false) rfl<|wr<|wM (v:=.slice m aG.length n) aT<|wD (fun st=>CE (vs:= #[]) (us:= #[pt a 0]) Gq (BR (eR st))) ?_;have aO:=e.Ci (F':=f) (M:=[some a]) (C:=[]) [0] [] rfl ⟨rfl,trivial⟩ trivial (fun k q=>.inl ((fun _ h=>h) k q));have aY:Cb Tryz.prog (.func (.func 115) #[] #[pt a 0]) (FU f [some a]) w1.heap.size (fun(st:aA) aZ bO o=>(∀k,o=some k→k<aZ.heap.size∧¬(FU f [some a]) k)∧Bk aZ a 125 #[i]∧aB st aZ bO o) (v1 (Cy AW)) Bu (fun(st:aA) (x:AS)=>(FR aK aF x st).bind fun r=>some (r.1,r.2)):=by
  refine⟨rfl,rfl,e.GC [0] ⟨rfl,trivial⟩ (fun _ h=>h),?_,?_,?_⟩
  ·intro st x r w1 a0 bG o vs a2 a3 u t a4 bP;obtain⟨g,p,z⟩:=t;obtain⟨_,rfl,⟨_,rfl,rfl⟩⟩:=a4;obtain⟨bQ,bR,bS⟩:=bind_some bP;obtain rfl:=Option.some.inj bS;refine(Dj Py rfl (RZ aK x st a i o a0 bG w1 c (Nat.le_trans bC (Nat.le_trans e.sz a2)) ((aO.grow a2).snoc g) (fun b s=>CX (u b (a3 b s)).1 (u b (a3 b s)).2) a3 (fun b s=>CX (u b s).1 (u b s).2) p z bQ bR)).mono ?_;rintro v w2 ⟨o',a4,a5,a6,aP,bH⟩;exact⟨o',a4.lf,aP,a5,⟨aO.keep a2 g aP,a6,c.mz bH GL⟩⟩
  ·intro st w1 w2 a0 bW o t hm s;obtain⟨g,p,z⟩:=t;exact⟨fun k q=>⟨Nat.lt_of_lt_of_le (g k q).1 hm.size,(g k q).2⟩,p.Fk (s a (.inl (.inr (gm 0)))),c.HU _ _ _ _ _ _ z hm (fun b bI=>s b (bI.imp .inl id))⟩
  ·intro st w1 a0 o t k q;obtain⟨g,p,z⟩:=t;exact g k q
 have aE:=(aD.mv (Ac l));replace aC:=bind_some aC;obtain⟨a7,bJ,aC⟩:=aC;have a8:aB aL w1 (ZZ f aV Z w.heap.size [some a,d]) d:=(c.me aX aH l.gr (Ac l));refine wE (fun st=>An Pz (eR st) (BV (eR st) (eR st)) (R0 aK aG aL m n (.func (.func 115) #[] #[pt a 0]) d (ZZ f aV Z w.heap.size [some a,d]) _ aY (Nat.le_refl _) (e.Ci (F':=(FU f [some a])) (M:=[d]) (C:=[some a]) [1] [0] rfl ⟨rfl,trivial⟩ ⟨rfl,trivial⟩ (Cl (fun _ h=>h))) (e.zz (F':=(FU f [some a])) (M:=[d]) (C:=[some a]) [1] [0] ⟨rfl,trivial⟩ ⟨rfl,trivial⟩ (Cl (fun _ h=>h))) aE ⟨(fun k q=>e.JY 1 (by rw[←q];rfl) [0] rfl ⟨rfl,trivial⟩),l.bk,a8⟩ a7 bJ)) ?_;rintro _ bT ⟨aI,bK,rfl,aJ,bL⟩;obtain⟨-,bM,a9⟩:=bL;have aQ:=e.De (Bz.cl (M1:=[some a]) (M2:=[d]) bK) (AE [0,1] ⟨rfl,rfl,trivial⟩ (fun _ h=>h)) 1 rfl aJ;have bA:aB a7.2 bT (ZZ f aV Z w.heap.size [some a,aI]) aI:=c.mz a9 (e.call (M:=[aI]) (Nat.le_refl _) (BU ⟨.inr (hw aJ 1),trivial⟩) (Cr (L:=[some a,d]) (y:=aI) 1 (gm 0)));refine wD (fun st=>CB (eR st))<|wA (v:=.bool !a7.1) rfl<|wn<|As ?_;obtain rfl:=oi aC;refine AF rfl rfl ?_;exact⟨aI,aW _ aQ.fin,rfl,aQ.mq 1 [] (M:=[]) trivial bF,c.mz bA (AG (Bf [1] ⟨rfl,trivial⟩))⟩
theorem R1{o:Type}{d:Nat→Prop}{aI:Nat}{p:IT o}{r:o→Int→Option (Bool×o)} aR l(x:o) a(g:Value) c(Z Za:Nat→Prop) w(e:Cb Tryz.prog g d aI p (v1 (C7 .i64)) Bu r)(aJ:aI≤w.heap.size)(aK:Bx d [some a,c] w)(aL:∀b,Z b→¬d b∧some b∉[some a,c])(aS:∀b,Z b→Za b)(z:∀b,Za b→¬d b∧some b∉[some a,c])(s:Bk w a 86 #[g])(aT:p x w Z c) aA(i:F3 aR r l x=some aA):
 BI Tryz.prog 123 #[I l,pt a 0] w (fun v w'=>∃o',Bz (FU d [some a,c]) w w'∧Bu.R w' (zf Z w [some a,o']) v aA.1∧Bk w' a 86 #[g]∧(∀k,o'=some k→(c=some k∨w.heap.size≤k)∧k<w'.heap.size)∧p aA.2 w' (zf Z w [some a,o']) o'):=by
 unfold F3 at i;refine rq (N:=8) Tryz.func123 fun aV aB aW=>?_;have aC:=sA 0 aB;have aD:=sA 1 aB;clear aB;obtain⟨aM,aN,f,aO,aU,aE⟩:=Hu aK aL z;have aF:=e.mz aT (AK (L:=[some a,c]) aO w);refine cr<|wA (v:=.bool false) rfl<|wr<|wD (fun st=>Ay (v:=g) II (ee st aD) s rfl)<|wM (v:=I l) aC ?_;replace i:=bind_some i;obtain⟨aG,aP,i⟩:=i;refine wE (fun st=>DJ (e.call x l aG _ (ZZ d aM Z w.heap.size [some a,c]) (ZC d [c]) c #[I l] (Nat.le_trans aJ f.sz) (f.zz (F':=d) (M:=[c]) (C:=[]) [1] [] ⟨rfl,trivial⟩ trivial (fun _ h=>.inl h)) Gf aF ⟨_,rfl,rfl⟩ aP) (eR st) (BR (eR st))) ?_;rintro _ w2 ⟨m,t,n,rfl,aQ⟩;have u:=f.De t (AE [1] ⟨rfl,trivial⟩ (fun _ h=>h)) 1 rfl n;have aH:p aG.2 w2 (ZZ d aM Z w.heap.size [some a,m]) m:=e.mz aQ (f.call (M:=[m]) (Nat.le_refl _) (BU ⟨.inr (hw n 1),trivial⟩) (Cr (L:=[some a,c]) (y:=m) 1 (gm 0)));refine wD (fun st=>CB (eR st))<|wA (v:=.bool !aG.1) rfl<|wn<|As ?_;obtain rfl:=oi i;refine AF rfl rfl ?_;have q:=(s.B6 t (f.Cm 0 rfl [1] rfl ⟨rfl,trivial⟩ (fun _ h=>h)));exact⟨m,aE _ u.fin,rfl,q,u.mq 1 [0] (M:=[some a]) ⟨rfl,trivial⟩ aN,e.mz aH (AG (Bf [0,1] ⟨rfl,rfl,trivial⟩))⟩
theorem a91{aA:Type}{f:Nat→Prop}{bB:Nat}{aB:IT aA}{aF:aA→Int→Option (Bool×aA)} aK aG(aL:aA) m n(i:Value) d(Z:Nat→Prop) w(c:Cb Tryz.prog i f bB aB (v1 (C7 .i64)) Bu aF)(bC:bB≤w.heap.size)(bD:Bx f [d] w)(bE:∀b,Z b→¬f b∧some b∉[d])(aM:Sl (Am .i64) w Z m n aG)(t:aB aL w Z d) aR(aC:Hx aK aF aG aL=some aR):
 BI Tryz.prog 91 #[.slice m aG.length n,i] w (fun v w'=>∃o',Bz (FU f [d]) w w'∧Bu.R w' (zf Z w [o']) v aR.1∧(∀k,o'=some k→(d=some k∨w.heap.size≤k)∧k<w'.heap.size)∧aB aR.2 w' (zf Z w [o']) o'):=by
 unfold Hx at aC;refine rq (N:=9) Tryz.func91 fun bU aS bV=>?_;have aT:=sA 0 aS;have aU:=sA 1 aS;clear aS;obtain⟨aV,bF,aH,aN,aW⟩:=Fl bD bE;have aD:=aM.mv (AK (L:=[d]) aN w);have aX:=c.mz t (AK (L:=[d]) aN w);refine cr<|wE (fun st=>BK (v:=i) (cs:= #[i]) (ee st aU) c.fc) ?_;rintro _ w1 ⟨a,rfl,l⟩;have e:=aH.nb l;have bN:=aH.Bv l;refine wA (v:=.bool false) rfl<|wr<|wM (v:=.slice m aG.length n) aT<|wD (fun st=>CE (vs:= #[]) (us:= #[pt a 0]) Gq (BR (eR st))) ?_;have aO:=e.Ci (F':=f) (M:=[some a]) (C:=[]) [0] [] rfl ⟨rfl,trivial⟩ trivial (fun k q=>.inl ((fun _ h=>h) k q));have aY:Cb Tryz.prog (.func (.func 123) #[] #[pt a 0]) (FU f [some a]) w1.heap.size (fun(st:aA) aZ bO o=>(∀k,o=some k→k<aZ.heap.size∧¬(FU f [some a]) k)∧Bk aZ a 86 #[i]∧aB st aZ bO o) (v1 (C7 .i64)) Bu (fun(st:aA) (x:Int)=>(F3 aK aF x st).bind fun r=>some (r.1,r.2)):=by
  refine⟨rfl,rfl,e.GC [0] ⟨rfl,trivial⟩ (fun _ h=>h),?_,?_,?_⟩
  ·intro st x r w1 a0 bG o vs a2 a3 u t a4 bP;obtain⟨g,p,z⟩:=t;obtain⟨_,rfl,rfl⟩:=a4;obtain⟨bQ,bR,bS⟩:=bind_some bP;obtain rfl:=Option.some.inj bS;refine(Dj PA rfl (R1 aK x st a i o a0 bG w1 c (Nat.le_trans bC (Nat.le_trans e.sz a2)) ((aO.grow a2).snoc g) (fun b s=>CX (u b (a3 b s)).1 (u b (a3 b s)).2) a3 (fun b s=>CX (u b s).1 (u b s).2) p z bQ bR)).mono ?_;rintro v w2 ⟨o',a4,a5,a6,aP,bH⟩;exact⟨o',a4.lf,aP,a5,⟨aO.keep a2 g aP,a6,c.mz bH GL⟩⟩
  ·intro st w1 w2 a0 bW o t hm s;obtain⟨g,p,z⟩:=t;exact⟨fun k q=>⟨Nat.lt_of_lt_of_le (g k q).1 hm.size,(g k q).2⟩,p.Fk (s a (.inl (.inr (gm 0)))),c.HU _ _ _ _ _ _ z hm (fun b bI=>s b (bI.imp .inl id))⟩
  ·intro st w1 a0 o t k q;obtain⟨g,p,z⟩:=t;exact g k q
 have aE:=(aD.mv (Ac l));replace aC:=bind_some aC;obtain⟨a7,bJ,aC⟩:=aC;have a8:aB aL w1 (ZZ f aV Z w.heap.size [some a,d]) d:=(c.me aX aH l.gr (Ac l));refine wE (fun st=>An Mt (eR st) (BV (eR st) (eR st)) (QI aK aG aL m n (.func (.func 123) #[] #[pt a 0]) d (ZZ f aV Z w.heap.size [some a,d]) _ aY (Nat.le_refl _) (e.Ci (F':=(FU f [some a])) (M:=[d]) (C:=[some a]) [1] [0] rfl ⟨rfl,trivial⟩ ⟨rfl,trivial⟩ (Cl (fun _ h=>h))) (e.zz (F':=(FU f [some a])) (M:=[d]) (C:=[some a]) [1] [0] ⟨rfl,trivial⟩ ⟨rfl,trivial⟩ (Cl (fun _ h=>h))) aE ⟨(fun k q=>e.JY 1 (by rw[←q];rfl) [0] rfl ⟨rfl,trivial⟩),l.bk,a8⟩ a7 bJ)) ?_;rintro _ bT ⟨aI,bK,rfl,aJ,bL⟩;obtain⟨-,bM,a9⟩:=bL;have aQ:=e.De (Bz.cl (M1:=[some a]) (M2:=[d]) bK) (AE [0,1] ⟨rfl,rfl,trivial⟩ (fun _ h=>h)) 1 rfl aJ;have bA:aB a7.2 bT (ZZ f aV Z w.heap.size [some a,aI]) aI:=c.mz a9 (e.call (M:=[aI]) (Nat.le_refl _) (BU ⟨.inr (hw aJ 1),trivial⟩) (Cr (L:=[some a,d]) (y:=aI) 1 (gm 0)));refine wD (fun st=>CB (eR st))<|wA (v:=.bool !a7.1) rfl<|wn<|As ?_;obtain rfl:=oi aC;refine AF rfl rfl ?_;exact⟨aI,aW _ aQ.fin,rfl,aQ.mq 1 [] (M:=[]) trivial bF,c.mz bA (AG (Bf [1] ⟨rfl,trivial⟩))⟩
theorem R3 aB a o k(Z Za:Nat→Prop) w(aG:Bx FN [some k] w)(aH:∀b,Z b→¬FN b∧some b∉[some k])(aR:∀b,Z b→Za b)(aC:∀b,Za b→¬FN b∧some b∉[some k])(aI:Bk w k 48 #[I o.BB,I o.Cn]) s(d:EC aB a o=some s):
 BI Tryz.prog 111 #[.agg #[I a.BB,I a.Cn],pt k 0] w (fun v w'=>Bz (FU FN [some k]) w w'∧Bu.R w' (zf Z w [some k]) v s.1∧Bk w' k 48 #[I s.2.BB,I s.2.Cn]):=by
 unfold EC at d;refine rq (N:=20) Tryz.func111 fun aT aD aU=>?_;have aE:=sA 0 aD;have h:=sA 1 aD;clear aD;obtain⟨aX,aV,x,aW,aS,p⟩:=Hu aG aH aC;refine cr<|wE (fun st=>BK (v:=.agg #[I a.BB,I a.Cn]) (cs:= #[I a.BB,I a.Cn]) (ee st aE) rfl) ?_;rintro _ w1 ⟨aY,rfl,g⟩;have aJ:=x.nb g;have aQ:=x.Bv g;refine wA (v:=.bool false) rfl<|wr<|wD (fun st=>Al (eR st) (KM _ _))<|wD (fun st=>Ay (v:=I a.BB) BN (eR st) g.bk rfl)<|wD (fun st=>Al (ee st h) (KM _ _)) ?_;have i:=(aI.ext g.gr);refine wD (fun st=>Ay (v:=I o.BB) BN (eR st) i rfl) ?_;replace d:=Bo d;obtain⟨aK,d⟩:=d;refine wD (fun st=>G8 (eR st) (eR st) aK) ?_;replace d:=bind_some d;obtain⟨aF,aL,d⟩:=d;refine wE (fun st=>An HR (eR st) (GA (eR st) (eR st) (eR st)) (a93 aB a.BB 0 (o.BB-1) ZA _ aF aL)) ?_;rintro _ aZ ⟨m,rfl⟩;have y:=aJ.ext m;refine wM (v:=.bool aF) rfl ?_;rcases Ah (aF) with c|c
 ·replace d:=Aw d c;refine wG c (fun st=>Al (eR st) (KN _ _)) ?_;have e:=(g.bk.ext m);refine wG c (fun st=>Ay (v:=I a.Cn) BN (eR st) e rfl)<|wG c (fun st=>Al (ee st h) (KN _ _)) ?_;have f:=(i.ext m);refine wG c (fun st=>Ay (v:=I o.Cn) BN (eR st) f rfl) ?_;replace d:=bind_some d;obtain⟨q,aM,d⟩:=d;refine wX c (fun st=>An HR (eR st) (GA (eR st) (eR st) (eR st)) (a93 aB a.Cn 0 o.Cn ZA _ q aM)) ?_;rintro _ a0 ⟨r,rfl⟩;have aN:=y.ext r;refine wD (fun st=>Bn (v:=.bool q) (eR st) c (eR st))<|wA (v:=.bool q) rfl<|wn<|Aj<|Aq ?_;have t:=(e.ext r);refine wD (fun st=>Bc (l:=[I a.BB,I a.Cn]) Js (eR st) t rfl rfl) ?_;have u:=(f.ext r);refine Bp rfl rfl (fun st=>Bd (n:=2) (l:=[I a.BB,I a.Cn]) (BZ:= #[I a.BB,I a.Cn]) (ee st h) (eR st) H4 u rfl rfl (show 0+2≤2 by decide) (AN rfl) rfl) ?_;rintro _ a2 z;have aO:=aN.gr z.gr 1 rfl;refine wr<|wM (v:=.bool q) rfl<|wA (v:=.bool q) rfl<|wn<|As ?_;obtain rfl:=oi d;refine AF rfl rfl ?_;exact⟨p _ aO.fin,rfl,z.bk⟩
 ·replace d:=Ax d c;refine wF c<|wF c<|wF c<|wF c<|wF c<|wD (fun st=>BC (v:=.bool false) (eR st) c (eR st))<|wA (v:=.bool false) rfl<|wn<|Aj<|Aq ?_;have e:=(g.bk.ext m);refine wD (fun st=>Bc (l:=[I a.BB,I a.Cn]) Js (eR st) e rfl rfl) ?_;have f:=(i.ext m);refine Bp rfl rfl (fun st=>Bd (n:=2) (l:=[I a.BB,I a.Cn]) (BZ:= #[I a.BB,I a.Cn]) (ee st h) (eR st) H4 f rfl rfl (show 0+2≤2 by decide) (AN rfl) rfl) ?_;rintro _ a3 aA;have aP:=y.gr aA.gr 1 rfl;refine wr<|wM (v:=.bool false) rfl<|wA (v:=.bool false) rfl<|wn<|As ?_;obtain rfl:=oi d;refine AF rfl rfl ?_;exact⟨p _ aP.fin,rfl,aA.bk⟩
theorem Sd aN c i m p q s t d e u y z aA(Z:Nat→Prop) w(aO:Sl AH w Z i m c.Ag)(aP:Sl (BP (Am .i64)) w Z p q c.Ae)(aQ:Sl AR w Z s t c.Af)(aR:Sl AT w Z d e c.Av)(aS:Sl AU w Z u y c.Au)(aT:Sl AW w Z z aA c.AI) bC(g:Gk aN c=some bC):
 BI Tryz.prog 73 #[.agg (AL i m p q s t d e u y z aA c).toArray] w (fun v w'=>Ext w w'∧Bu.R w' (zf Z w []) v bC):=by
 unfold Gk at g;refine rq (N:=15) Tryz.func73 fun bX bD bY=>?_;have aY:=sA 0 bD;clear bD;have aV:Hp FN [] w [] w:=Hp.start (Bx.none w);have ⟨a7,a8,a9,aH,bA,bB⟩:=C3 aO aP aQ aR aS aT (BL (Z:=Z) (L:=[]) w);refine cr<|wE (fun st=>BK (v:=.agg (AL i m p q s t d e u y z aA c).toArray) (cs:=(AL i m p q s t d e u y z aA c).toArray) (ee st aY) rfl) ?_;rintro _ w1 ⟨bZ,rfl,aD⟩;have aW:=aV.nb aD;have bN:=aV.Bv aD;refine wA (v:=.bool false) rfl<|wr<|wD (fun st=>BQ (vs:= #[(0,I 101),(1,I 100)]) (v:=.agg #[I 101,I 100]) (CH (eR st) (eR st)) (by kernel_rfl))<|wE (fun st=>BE (cs:= #[I 0,I 0]) MD rfl) ?_;rintro _ w2 ⟨f,rfl,aC⟩;have aJ:=aW.nb aC;have bO:=aW.Bv aC;refine Bp rfl rfl (fun st=>Bd (n:=2) (l:=[I 101,I 100]) (BZ:= #[I 101,I 100]) (eR st) (eR st) H4 aC.bk rfl rfl (show 0+2≤2 by decide) (AN rfl) rfl) ?_;rintro _ bP aE;have aF:=aJ.gr aE.gr 0 rfl;refine wr<|wD (fun st=>Al (eR st) (H8 _ _)) ?_;have aG:=((aD.bk.ext aC.gr).gr aE.gr (aJ.nq 1 0));refine wD (fun st=>Ay (v:=.slice d c.Av.length e) HS (eR st) aG rfl)<|wD (fun st=>BT Tryz.underlying49 (eR st))<|wD (fun st=>HI (eR st) (eR st))<|wM (v:=.bool (decide ((0:Int)<(c.Av.length:Int)))) rfl ?_;rcases Ah (decide ((0:Int)<(c.Av.length:Int))) with a|a
 ·replace g:=Aw g a;refine wG a (fun st=>Al (eR st) (H8 _ _))<|wG a (fun st=>Ay (v:=.slice d c.Av.length e) HS (eR st) aG rfl)<|wG a (fun st=>CE (vs:= #[]) (us:= #[pt f 0]) Gq (BR (eR st))) ?_;have bE:=aF.Ci (F':=FN) (M:=[some f]) (C:=[]) [0] [] rfl ⟨rfl,trivial⟩ trivial (fun k aZ=>.inl (eL k aZ));have a0:Cb Tryz.prog (.func (.func 111) #[] #[pt f 0]) (FU FN [some f]) bP.heap.size (fun(st:Az) bQ b1 o=>o=none∧Bk bQ f 48 #[I st.BB,I st.Cn]) (v1 (Cy AT)) Bu (fun(st:Az) (x:Az)=>(EC aN x st).bind fun r=>some (r.1,r.2)):=by
   refine⟨rfl,rfl,aF.GC [0] ⟨rfl,trivial⟩ eL,?_,?_,?_⟩
   ·intro st x r w1 a2 bF o vs bR bG aX aK a3 bS;obtain⟨rfl,aB⟩:=aK;obtain⟨_,rfl,⟨_,rfl,rfl⟩⟩:=a3;obtain⟨bT,bU,bV⟩:=bind_some bS;obtain rfl:=Option.some.inj bV;refine(Dj PB rfl (R3 aN x st f a2 bF w1 (bE.grow bR) (fun b aL=>DA (aX b (bG b aL)).1) bG (fun b aL=>DA (aX b aL).1) aB bT bU)).mono ?_;rintro v w2 ⟨a3,a4,a5⟩;exact⟨none,a3.Ks,(fun _ h=>by cases h),a4,⟨rfl,a5⟩⟩
   ·intro st w1 w2 a2 b2 o aK hm aL;obtain⟨rfl,aB⟩:=aK;exact⟨rfl,aB.Fk (aL f (.inl (.inr (gm 0))))⟩
   ·intro st w1 a2 o aK k aZ;obtain⟨rfl,aB⟩:=aK;cases aZ
  have aM:=aF.nil;have aI:=((((aH.mv (Ac aD)).mv (Ac aC)).mv (aJ.Ad aE.gr 0 rfl)).mv Bs);replace g:=bind_some g;obtain⟨a6,bH,g⟩:=g;have aU:=aE.bk;refine wX a (fun st=>An PC (eR st) (BV (eR st) (eR st)) (RV aN c.Av (⟨101,100⟩:Az) d e (.func (.func 111) #[] #[pt f 0]) none (ZC (FU FN [some f]) [none]) _ a0 (Nat.le_refl _) (aM.Ci (F':=(FU FN [some f])) (M:=[none]) (C:=[some f]) [0] [1] rfl ⟨rfl,trivial⟩ ⟨rfl,trivial⟩ (Cl eL)) DI (aI.mv (aM.mz (F':=(FU FN [some f])) (M:=[none]) (C:=[some f]) [0] [1] ⟨rfl,trivial⟩ ⟨rfl,trivial⟩ (Cl eL))) ⟨rfl,aU⟩ a6 bH)) ?_;rintro _ b3 ⟨b4,bI,rfl,bW,bJ⟩;obtain⟨rfl,bK⟩:=bJ;have bL:=aM.B6 (Bz.cl (M1:=[some f]) (M2:=[none]) bI) (AE [1,0] ⟨rfl,rfl,trivial⟩ eL);have bM:=bL.erase 0;refine wD (fun st=>Bn (v:=.bool a6.1) (eR st) a (eR st))<|wA (v:=.bool a6.1) rfl<|wn<|As ?_;obtain rfl:=oi g;refine AF rfl rfl ?_;exact⟨bM.Bt,rfl⟩
 ·replace g:=Ax g a;refine wF a<|wF a<|wF a<|wF a<|wD (fun st=>BC (v:=.bool false) (eR st) a (eR st))<|wA (v:=.bool false) rfl<|wn<|As ?_;obtain rfl:=oi g;refine AF rfl rfl ?_;exact⟨aF.Bt,rfl⟩
set_option maxHeartbeats 4000000 in
theorem Jx aT a g i m n p q s t c d e f(Z:Nat→Prop) w(cB:Sl AH w Z g i a.Ag)(cC:Sl (BP (Am .i64)) w Z m n a.Ae)(cD:Sl AR w Z p q a.Af)(cE:Sl AT w Z s t a.Av)(cF:Sl AU w Z c d a.Au)(cG:Sl AW w Z e f a.AI) dI(b:BS aT a=some dI):
 BI Tryz.prog 30 #[.agg (AL g i m n p q s t c d e f a).toArray] w (fun v w'=>Ext w w'∧(C7 .i64).R w' (zf Z w []) v dI):=by
 unfold BS at b;refine rq (N:=58) Tryz.func30 fun d0 dJ d1=>?_;have cY:=sA 0 dJ;clear dJ;have cK:Hp FN [] w [] w:=Hp.start (Bx.none w);have ⟨bU,bV,bW,bX,bY,bZ⟩:=C3 cB cC cD cE cF cG (BL (Z:=Z) (L:=[]) w);refine cr<|wE (fun st=>BK (v:=.agg (AL g i m n p q s t c d e f a).toArray) (cs:=(AL g i m n p q s t c d e f a).toArray) (ee st cY) rfl) ?_;rintro _ w1 ⟨d6,rfl,aR⟩;have dK:=cK.nb aR;have dS:=cK.Bv aR;refine wA (v:=I 0) rfl<|wn<|Aj ?_;refine CY 5 [Kc (.agg (AL g i m n p q s t c d e f a).toArray),Kc (.func (.func 69) #[.agg (AL g i m n p q s t c d e f a).toArray] #[]),Kc (.agg (AL g i m n p q s t c d e f a).toArray),Kc (.func (.func 70) #[.agg (AL g i m n p q s t c d e f a).toArray] #[]),Kc (.func (.func 69) #[.agg (AL g i m n p q s t c d e f a).toArray] #[])] mixed rfl rfl
     (Ab (oD (fun K=>Bc (l:=(AL g i m n p q s t c d e f a)) Cp (K.kO 1) (aR.bk.ext K.BO) rfl rfl))
     (Ab (oD (fun K=>CE (vs:= #[.agg (AL g i m n p q s t c d e f a).toArray]) (us:= #[]) (BR (es (K.dq 0 6))) Gq))
     (Ab (oD (fun K=>Bc (l:=(AL g i m n p q s t c d e f a)) Cp (K.kO 1) (aR.bk.ext K.BO) rfl rfl))
     (Ab (oD (fun K=>CE (vs:= #[.agg (AL g i m n p q s t c d e f a).toArray]) (us:= #[]) (BR (es (K.dq 2 8))) Gq))
     (Ab (oD (fun K=>H9 (es (K.dq 1 7))))
     (CS _)))))) ?_
 intro w2;rintro _ rfl _ rfl _ rfl _ rfl _ rfl bM;have dL:=dK.ext bM;refine wA (v:=.func (.func 70) #[.agg (AL g i m n p q s t c d e f a).toArray] #[]) rfl<|wn<|Aj<|cr<|wD (fun st=>Al (eR st) (Fh _ _)) ?_;have bN:=(aR.bk.ext bM);refine wD (fun st=>Bc (l:=[.slice g a.Ag.length i,.slice m a.Ae.length n,.slice p a.Af.length q]) Ew (eR st) bN rfl rfl) ?_;have ⟨aU,aV,aW⟩:=GD bU bV bW (mt (Ac aR) (Aa bM));replace b:=bind_some b;obtain⟨bJ,dM,b⟩:=b;refine wE (fun st=>An LM (eR st) (BR (eR st)) (QJ aT (⟨a.Ag,a.Ae,a.Af⟩:Cu) g i m n p q ZA _ aU.all aV.all aW.all bJ dM)) ?_;rintro _ d7 ⟨bO,rfl⟩;have bG:=dL.ext bO;refine wA (v:=I bJ) rfl<|wn<|Bi<|cr<|wM (v:=I bJ) rfl<|wD (fun st=>C8 (eR st) (eR st))<|wA (v:=.bool (bJ !=0)) rfl<|wn ?_;rcases Ah (bJ !=0) with bH|bH
 ·replace b:=Aw b bH;refine AB rfl bH<|cr<|wM (v:=I bJ) rfl<|wA (v:=I bJ) rfl<|wn<|As<|Dk ?_;obtain rfl:=oi b;refine AF rfl rfl ?_;exact⟨bG.Bt,rfl⟩
 ·replace b:=Ax b bH;refine AJ rfl bH<|cr<|wD (fun st=>Al (eR st) (H8 _ _)) ?_;have aM:=(bN.ext bO);refine wD (fun st=>Ay (v:=.slice s a.Av.length t) HS (eR st) aM rfl)<|wD (fun st=>BT Tryz.underlying49 (eR st))<|wD (fun st=>HI (eR st) (eR st))<|wM (v:=.bool (decide ((3:Int)<(a.Av.length:Int)))) rfl ?_;rcases Ah (decide ((3:Int)<(a.Av.length:Int))) with aG|aG
  ·replace b:=Aw b aG;refine wF aG<|wF aG<|wF aG<|wF aG<|wD (fun st=>Bn (v:=.bool true) (eR st) aG (eR st))<|wM (v:=.bool true) rfl<|wH<|wH<|wH<|wH<|wD (fun st=>Bn (v:=.bool true) (eR st) rfl (eR st))<|wA (v:=.bool true) rfl<|wn<|AB rfl rfl<|cr<|wA (v:=I 3) rfl<|wn<|As<|Dk ?_;obtain rfl:=oi b;refine AF rfl rfl ?_;exact⟨bG.Bt,rfl⟩
  ·replace b:=Ax b aG;refine wG aG (fun st=>Al (eR st) (GW _ _))<|wG aG (fun st=>Ay (v:=.slice c a.Au.length d) G7 (eR st) aM rfl)<|wG aG (fun st=>BT Tryz.underlying50 (eR st))<|wG aG (fun st=>HI (eR st) (eR st))<|wD (fun st=>BC (v:=.bool (decide ((3:Int)<(a.Au.length:Int)))) (eR st) aG (eR st))<|wM (v:=.bool (decide ((3:Int)<(a.Au.length:Int)))) rfl ?_;rcases Ah (decide ((3:Int)<(a.Au.length:Int))) with aH|aH
   ·replace b:=Aw b aH;refine wF aH<|wF aH<|wF aH<|wF aH<|wD (fun st=>Bn (v:=.bool true) (eR st) aH (eR st))<|wA (v:=.bool true) rfl<|wn<|AB rfl rfl<|cr<|wA (v:=I 3) rfl<|wn<|As<|Dk ?_;obtain rfl:=oi b;refine AF rfl rfl ?_;exact⟨bG.Bt,rfl⟩
   ·replace b:=Ax b aH;refine wG aH (fun st=>Al (eR st) (GX _ _))<|wG aH (fun st=>Ay (v:=.slice e a.AI.length f) Io (eR st) aM rfl)<|wG aH (fun st=>BT Tryz.underlying51 (eR st))<|wG aH (fun st=>HI (eR st) (eR st))<|wD (fun st=>BC (v:=.bool (decide ((5:Int)<(a.AI.length:Int)))) (eR st) aH (eR st))<|wA (v:=.bool (decide ((5:Int)<(a.AI.length:Int)))) rfl<|wn ?_;rcases Ah (decide ((5:Int)<(a.AI.length:Int))) with bI|bI
    ·replace b:=Aw b bI;refine AB rfl bI<|cr<|wA (v:=I 3) rfl<|wn<|As<|Dk ?_;obtain rfl:=oi b;refine AF rfl rfl ?_;exact⟨bG.Bt,rfl⟩
    ·replace b:=Ax b bI;refine AJ rfl bI<|cr<|wD (fun st=>Al (eR st) (ME _ _))<|wD (fun st=>Ay (v:=I a.Flat) BN (eR st) aM rfl) ?_;replace b:=bind_some b;obtain⟨b6,dN,b⟩:=b;refine wE (fun st=>An Qm (eR st) (BR (eR st)) (a72 aT a.Flat ZA _ b6 dN)) ?_;rintro _ d2 ⟨bP,rfl⟩;have cL:=bG.ext bP;refine wD (fun st=>CB (eR st))<|wM (v:=.bool !b6) rfl ?_;rcases Ah (!b6) with aF|aF
     ·replace b:=Aw b aF;have dA:b6=false:=by simpa using aF
      refine wF aF<|wF aF<|wF aF<|wD (fun st=>Bn (v:=.bool true) (eR st) aF (eR st))<|wM (v:=.bool true) rfl<|wH<|wH<|wH<|wH<|wH<|wD (fun st=>Bn (v:=.bool true) (eR st) rfl (eR st))<|wM (v:=.bool true) rfl<|wH<|wH<|wH<|wH<|wH<|wD (fun st=>Bn (v:=.bool true) (eR st) rfl (eR st))<|wA (v:=.bool true) rfl<|wn<|AB rfl rfl<|cr<|wA (v:=I 1) rfl<|wn<|As<|Dk ?_;obtain rfl:=oi b;refine AF rfl rfl ?_;exact⟨cL.Bt,rfl⟩
     ·replace b:=Ax b aF;have dB:b6=true:=by simpa using aF
      have bQ:=(aM.ext bP);refine wG aF (fun st=>Bc (l:=(AL g i m n p q s t c d e f a)) Cp (eR st) bQ rfl rfl) ?_;have ⟨aX,aY,aZ⟩:=GD aU aV aW (mt (Aa bO) (Aa bP));have ⟨a0,a2,a3⟩:=GD bX bY bZ (mt (Ac aR) (mt (Aa bM) (mt (Aa bO) (Aa bP))));replace b:=bind_some b;obtain⟨a4,cZ,b⟩:=b;refine wX aF (fun st=>An Qn (eR st) (BR (eR st)) (Sd aT a g i m n p q s t c d e f ZA _ aX.all aY.all aZ.all a0.all a2.all a3.all a4 cZ)) ?_;rintro _ dO ⟨bE,rfl⟩;have bR:=cL.ext bE;refine wG aF (fun st=>CB (eR st))<|wD (fun st=>BC (v:=.bool !a4) (eR st) aF (eR st))<|wM (v:=.bool !a4) rfl ?_;rcases Ah (!a4) with u|u
      ·replace b:=Aw b u;have dC:a4=false:=by simpa using u
       refine wF u<|wF u<|wF u<|wF u<|wF u<|wD (fun st=>Bn (v:=.bool true) (eR st) u (eR st))<|wM (v:=.bool true) rfl<|wH<|wH<|wH<|wH<|wH<|wD (fun st=>Bn (v:=.bool true) (eR st) rfl (eR st))<|wA (v:=.bool true) rfl<|wn<|AB rfl rfl<|cr<|wA (v:=I 1) rfl<|wn<|As<|Dk ?_;obtain rfl:=oi b;refine AF rfl rfl ?_;exact⟨bR.Bt,rfl⟩
      ·replace b:=Ax b u;have dD:a4=true:=by simpa using u
       refine wG u (fun st=>Al (eR st) (GW _ _)) ?_;have bS:=(bQ.ext bE);refine wG u (fun st=>Ay (v:=.slice c a.Au.length d) G7 (eR st) bS rfl)<|wG u (fun st=>AV (v:=.func (.func 69) #[.agg (AL g i m n p q s t c d e f a).toArray] #[]) (eR st)) ?_;have dV:=bR.Ci (F':=FN) (M:=[]) (C:=[]) [] [] rfl trivial trivial (fun k bK=>.inl (eL k bK));have cH:Cb Tryz.prog (.func (.func 69) #[.agg (AL g i m n p q s t c d e f a).toArray] #[]) (FU FN []) dO.heap.size (fun(st:Unit) aN aO o=>o=none∧Sl AH aN aO g i a.Ag∧Sl (BP (Am .i64)) aN aO m n a.Ae∧Sl AR aN aO p q a.Af∧Sl AT aN aO s t a.Av∧Sl AU aN aO c d a.Au∧Sl AW aN aO e f a.AI) (v1 (Cy AU)) Bu (fun(st:Unit) (x:AO)=>(Fx aT a x).bind fun r=>some (r,())):=by
        refine⟨rfl,rfl,bR.GC [] trivial eL,?_,?_,?_⟩
        ·intro st x r w1 b7 b8 o vs dW aP dP aS aI c0;obtain⟨rfl,y,z,aA,aB,aC,aD⟩:=aS;obtain⟨_,rfl,⟨_,rfl,rfl⟩⟩:=aI;obtain⟨c1,c2,c3⟩:=bind_some c0;obtain rfl:=Option.some.inj c3;refine(Dj Qo rfl (Sb aT a x g i m n p q s t c d e f b8 w1 (y.mv (C9 aP)) (z.mv (C9 aP)) (aA.mv (C9 aP)) (aB.mv (C9 aP)) (aC.mv (C9 aP)) (aD.mv (C9 aP)) c1 c2)).mono ?_;rintro v w2 ⟨aI,bL⟩;exact⟨none,AM aI,(fun _ h=>by cases h),bL,⟨rfl,(y.mv (Cq (Aa aI))),(z.mv (Cq (Aa aI))),(aA.mv (Cq (Aa aI))),(aB.mv (Cq (Aa aI))),(aC.mv (Cq (Aa aI))),(aD.mv (Cq (Aa aI)))⟩⟩
        ·intro st w1 w2 b7 dX o aS hm dY;obtain⟨rfl,y,z,aA,aB,aC,aD⟩:=aS;exact⟨rfl,y.mv hm,z.mv hm,aA.mv hm,aB.mv hm,aC.mv hm,aD.mv hm⟩
        ·intro st w1 b7 o aS k bK;obtain⟨rfl,y,z,aA,aB,aC,aD⟩:=aS;cases bK
       have a5:=bR.nil;have aQ:=((a2.mv (Aa bE)).mv Bs);replace b:=bind_some b;obtain⟨a6,c4,b⟩:=b;have ⟨a7,a8,a9,bA,bB⟩:=Rb aX aY aZ a0 a3 (mt (Aa bE) Bs);have aJ:=a5.mz (Z:=Z) (F':=(FU FN [])) (M:=[none]) (C:=[]) [0] [] ⟨rfl,trivial⟩ trivial (Cl eL);refine wX u (fun st=>An Qp (eR st) (BV (eR st) (eR st)) (Sc aT a.Au () c d (.func (.func 69) #[.agg (AL g i m n p q s t c d e f a).toArray] #[]) none (ZC (FU FN []) [none]) _ cH (Nat.le_refl _) (a5.Ci (F':=(FU FN [])) (M:=[none]) (C:=[]) [0] [] rfl ⟨rfl,trivial⟩ trivial (Cl eL)) DI (aQ.mv aJ) ⟨rfl,(a7.mv aJ),(a8.mv aJ),(a9.mv aJ),(bA.mv aJ),(aQ.mv aJ),(bB.mv aJ)⟩ a6 c4)) ?_;rintro _ dQ ⟨d3,bF,rfl,dT,c5⟩;obtain⟨rfl,cM,cN,cO,cP,cQ,cR⟩:=c5;have dR:=a5.B6 (Bz.cl (M1:=[]) (M2:=[none]) bF) (AE [0] ⟨rfl,trivial⟩ eL);have bT:=dR.erase 0;refine wG u (fun st=>CB (eR st))<|wD (fun st=>BC (v:=.bool !a6.1) (eR st) u (eR st))<|wM (v:=.bool !a6.1) rfl ?_;rcases Ah (!a6.1) with aE|aE
       ·replace b:=Aw b aE;have dE:a6.1=false:=by simpa using aE
        refine wF aE<|wF aE<|wF aE<|wF aE<|wF aE<|wD (fun st=>Bn (v:=.bool true) (eR st) aE (eR st))<|wA (v:=.bool true) rfl<|wn<|AB rfl rfl<|cr<|wA (v:=I 1) rfl<|wn<|As<|Dk ?_;obtain rfl:=oi b;refine AF rfl rfl ?_;exact⟨bT.Bt,rfl⟩
       ·replace b:=Ax b aE;have dF:a6.1=true:=by simpa using aE
        refine wG aE (fun st=>Al (eR st) (GX _ _)) ?_;have cI:=(bS.B6 (Bz.cl (M1:=[]) (M2:=[none]) bF) (a5.Cm 1 rfl [0] rfl ⟨rfl,trivial⟩ eL));refine wG aE (fun st=>Ay (v:=.slice e a.AI.length f) Io (eR st) cI rfl)<|wG aE (fun st=>AV (v:=.func (.func 70) #[.agg (AL g i m n p q s t c d e f a).toArray] #[]) (eR st)) ?_;have dZ:=bT.Ci (F':=FN) (M:=[]) (C:=[]) [] [] rfl trivial trivial (fun k bK=>.inl (eL k bK));have cJ:Cb Tryz.prog (.func (.func 70) #[.agg (AL g i m n p q s t c d e f a).toArray] #[]) (FU FN []) dQ.heap.size (fun(st:Unit) aN aO o=>o=none∧Sl AH aN aO g i a.Ag∧Sl (BP (Am .i64)) aN aO m n a.Ae∧Sl AR aN aO p q a.Af∧Sl AT aN aO s t a.Av∧Sl AU aN aO c d a.Au∧Sl AW aN aO e f a.AI) (v1 (Cy AW)) Bu (fun(st:Unit) (x:AS)=>(FQ aT a x).bind fun r=>some (r,())):=by
         refine⟨rfl,rfl,bT.GC [] trivial eL,?_,?_,?_⟩
         ·intro st x r w1 b7 b8 o vs dW aP dP aS aI c0;obtain⟨rfl,y,z,aA,aB,aC,aD⟩:=aS;obtain⟨_,rfl,⟨_,rfl,rfl⟩⟩:=aI;obtain⟨c1,c2,c3⟩:=bind_some c0;obtain rfl:=Option.some.inj c3;refine(Dj Qq rfl (a70 aT a x g i m n p q s t c d e f b8 w1 (y.mv (C9 aP)) (z.mv (C9 aP)) (aA.mv (C9 aP)) (aB.mv (C9 aP)) (aC.mv (C9 aP)) (aD.mv (C9 aP)) c1 c2)).mono ?_;rintro v w2 ⟨aI,bL⟩;exact⟨none,AM aI,(fun _ h=>by cases h),bL,⟨rfl,(y.mv (Cq (Aa aI))),(z.mv (Cq (Aa aI))),(aA.mv (Cq (Aa aI))),(aB.mv (Cq (Aa aI))),(aC.mv (Cq (Aa aI))),(aD.mv (Cq (Aa aI)))⟩⟩
         ·intro st w1 w2 b7 dX o aS hm dY;obtain⟨rfl,y,z,aA,aB,aC,aD⟩:=aS;exact⟨rfl,y.mv hm,z.mv hm,aA.mv hm,aB.mv hm,aC.mv hm,aD.mv hm⟩
         ·intro st w1 b7 o aS k bK;obtain⟨rfl,y,z,aA,aB,aC,aD⟩:=aS;cases bK
        have b9:=bT.nil;have bC:=(((bB.mv (a5.C0 (Bz.cl (M1:=[]) (M2:=[none]) bF) (AE [0] ⟨rfl,trivial⟩ eL))).mv (Ai 0)).mv Bs);replace b:=bind_some b;obtain⟨bD,c6,b⟩:=b;have ⟨b1,b2,b3,b4,b5⟩:=Rb a7 a8 a9 bA aQ (mt (a5.C0 (Bz.cl (M1:=[]) (M2:=[none]) bF) (AE [0] ⟨rfl,trivial⟩ eL)) (mt (Ai 0) Bs));have aK:=b9.mz (Z:=Z) (F':=(FU FN [])) (M:=[none]) (C:=[]) [0] [] ⟨rfl,trivial⟩ trivial (Cl eL);refine wX aE (fun st=>An Qr (eR st) (BV (eR st) (eR st)) (a75 aT a.AI () e f (.func (.func 70) #[.agg (AL g i m n p q s t c d e f a).toArray] #[]) none (ZC (FU FN []) [none]) _ cJ (Nat.le_refl _) (b9.Ci (F':=(FU FN [])) (M:=[none]) (C:=[]) [0] [] rfl ⟨rfl,trivial⟩ trivial (Cl eL)) DI (bC.mv aK) ⟨rfl,(b1.mv aK),(b2.mv aK),(b3.mv aK),(b4.mv aK),(b5.mv aK),(bC.mv aK)⟩ bD c6)) ?_;rintro _ d4 ⟨d5,c7,rfl,dU,c8⟩;obtain⟨rfl,cS,cT,cU,cV,cW,cX⟩:=c8;have c9:=b9.B6 (Bz.cl (M1:=[]) (M2:=[none]) c7) (AE [0] ⟨rfl,trivial⟩ eL);have cA:=c9.erase 0;refine wG aE (fun st=>CB (eR st))<|wD (fun st=>BC (v:=.bool !bD.1) (eR st) aE (eR st))<|wA (v:=.bool !bD.1) rfl<|wn ?_;rcases Ah (!bD.1) with aL|aL
        ·replace b:=Aw b aL;have dG:bD.1=false:=by simpa using aL
         refine AB rfl aL<|cr<|wA (v:=I 1) rfl<|wn<|As<|Dk ?_;obtain rfl:=oi b;refine AF rfl rfl ?_;exact⟨cA.Bt,rfl⟩
        ·replace b:=Ax b aL;have dH:bD.1=true:=by simpa using aL
         refine AJ rfl aL<|CO<|Du<|cr<|wA (v:=I 0) rfl<|wn<|As ?_;obtain rfl:=oi b;refine AF rfl rfl ?_;exact⟨cA.Bt,rfl⟩
end Go.Proofs.YtcdofnchafcfpaaGreat
end
