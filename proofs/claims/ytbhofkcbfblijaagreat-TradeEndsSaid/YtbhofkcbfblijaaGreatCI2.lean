import Derived.Test.YtbhofkcbfblijaaGreatCI1
import Derived.WalkKit
import Derived.KernelRfl
import Derived.WalkSpells
import Derived.WalkLawsBesides
import Derived.Maps.AppendAt
import Derived.OrdersIn
import Derived.RangeFuncIn
import Derived.RangeFuncLeaves
import Derived.RangeFuncRecord
import Derived.RangeFuncSeq
import Derived.Scope
import Derived.DeepKeys3
import Derived.Laws.CopyRow
import Derived.Laws.OwnMore
import Derived.Laws.MakeOwn
import Derived.Laws.IdiomCopy
import Derived.Sort.OwnSortedInts
import Derived.Lib.RowBridge
import Derived.Test.YtbhofkcbfblijaaGreatProg
/-
  The contracts of the functions of the program and of the reference, and the logic that they are proved in: the base that several claims of this seat share.
-/
set_option linter.all false
section
namespace Go.Proofs.YtbhofkcbfblijaaGreat
open Go.RowKit Go.WideShapes
def G5(c:Nat)(d:List Int)(b:(List AN)):Nat→Int→Option ((Bool)⊕(Unit))
 |0,_=>none
 |g+1,a=>cond (decide (a<(b.length:Int))) ((idx b a).bind fun h=>(idx d a).bind fun e=>(GY c h e).bind fun f=>cond (!f) (some (.inl false)) ((i64 (a+1)).bind fun _=>G5 c d b g (a+1))) (some (.inr ()))
def I6(b:Nat)(c:AE)(d:List Int):Option (Bool):=
 cond ((d.length:Int) !=(c.Ak.length:Int)) (some (false)) ((Gi b c).bind fun e=>(G5 b d e b (0:Int)).bind fun z=>Sum.elim (fun a=>some (a)) (fun a=>some (true)) z)
def Kz(c:Nat)(b:AE)(d:List Int):Option ((List Int)×Int):=
 (Gu c b).bind fun e=>cond (e !=0) (some ((([]:List Int),e))) ((I6 c b d).bind fun h=>cond (!h) (some ((([]:List Int),2))) ((Fg c b).bind fun f=>(F2 c b d).bind fun g=>(FM c f g).bind fun a=>(MG [a.1.a0,a.1.a1,a.1.a2].length (0:Int) (b.Ab.length:Int)).bind fun _=>(Fw (((0+(FF [a.1.a0,a.1.a1,a.1.a2] (0:Int) (b.Ab.length:Int)).length:Nat):Int)≤140737488355328/8)).bind fun _=>some ((FF [a.1.a0,a.1.a1,a.1.a2] (0:Int) (b.Ab.length:Int),0))))
def Ep(a:Nat)(b:AE)(e:Bool):Option ((Option B6)×Int):=
 (Gu a b).bind fun c=>cond (c !=0) (some (((none:Option B6),c))) (cond (!e) (some (((none:Option B6),2))) ((HE a b).bind fun d=>cond ((d.B5.length:Int)==0) (some (((none:Option B6),11))) (some (((some d),0)))))
def CR(c:Nat)(e:AE)(f:Bool):Option ((Option B6)×Int):=
 (Ep c e f).bind fun b=>Option.elim b.1 (cond (b.2 !=0) (some (((none:Option B6),b.2))) (none)) (fun a=>cond (b.2 !=0) (some (((none:Option B6),b.2))) ((DA c a ([]:List Int)).bind fun d=>cond (!d.1) (some (((none:Option B6),9))) (some (((some (⟨a.Ar,a.As,a.Ap,a.BP,a.AJ,a.AK,a.AW,a.weights,a.B5,d.2⟩:B6)),0)))))
def CQ{e:Type}(i:e→Bo→Option (Int×e))(j:Nat)(c:Int)(d:Int)(a:Bool)(f:e)(k:Bo×Bo):Option (Bool×(Int×Int×Bool×e)):=
 (i f k.2).bind fun b=>cond (a) ((Gg j (⟨b.1,b.1⟩:AN) b.1).bind fun g=>some (true,g.Lo,g.Hi,false,b.2)) ((Gg j (⟨c,d⟩:AN) b.1).bind fun h=>some (true,h.Lo,h.Hi,a,b.2))
def FA{a:Type}(c:Nat)(d:a→Bo→Option (Int×a))(e:B6)(f:a):Option (AN×(List (List Int×Int))×a):=
 (FH c (fun(st:Int×Int×Bool×a) (x:Bo×Bo)=>CQ d c st.1 st.2.1 st.2.2.1 st.2.2.2 x) e ([]:List Int) ((0:Int),(0:Int),true,f)).bind fun b=>some (((⟨b.2.1,b.2.2.1⟩:AN),b.1,b.2.2.2.2))
def FP(c:Nat)(a:Bo)(b:Int):Option (Int):=
 (idx ([a.a0,a.a1,a.a2]:List Int) b).bind fun x2=>some (x2)
def Fx(f:Nat)(b:B6):Nat→(List AN)→Int→(List (List Int×Int))→Option ((List AN)×(List (List Int×Int)))
 |0,_,_,_=>none
 |g+1,d,a,c=>cond (decide (a<(b.weights.length:Int))) ((FA f (fun(st:Unit) (x:Bo)=>(FP f x a).bind fun r=>some (r,())) (⟨b.Ar,b.As,b.Ap,b.BP,b.AJ,b.AK,b.AW,b.weights,b.B5,c⟩:B6) ()).bind fun e=>(Fw (((d.length+[e.1].length:Nat):Int)≤140737488355328/16)).bind fun _=>(i64 (a+1)).bind fun _=>Fx f b g (d++[e.1]) (a+1) e.2.1) (some ((d,c)))
def Hk(b:Nat)(d:AE):Option ((List AN)×Int):=
 (CR b d true).bind fun a=>Option.elim a.1 (cond (a.2 !=0) (some ((([]:List AN),a.2))) (none)) (fun c=>cond (a.2 !=0) (some ((([]:List AN),a.2))) ((Fx b c b ([]:List AN) (0:Int) c.known).bind fun e=>some ((e.1,0))))
def GM(d:Nat)(a:Int)(b:Int)(c:Int):Option (Bool×Int):=
 (i64 (b+1)).bind fun _=>(i64 (c-1)).bind fun _=>(Ex d a (b+1) (c-1)).bind fun e=>some ((e,a))
def HV(a:Nat)(b:List Int)(c:Int):Option (Bool):=
 (Js a (fun(st:Int) (x:Int)=>(GM a x st c).bind fun r=>some (r.1,r.2)) b (-1)).bind fun d=>some (d.1)
def DF(e:Nat)(d:Bo)(c:B6)(f:List Int):Nat→Int→Int→Option (Int)
 |0,_,_=>none
 |h+1,b,a=>cond (decide (a<(c.weights.length:Int))) ((idx c.weights a).bind fun g=>(Eo e f a).bind fun j=>cond (j) ((idx ([d.a0,d.a1,d.a2]:List Int) a).bind fun i=>(i64 (b+i)).bind fun _=>(i64 (a+1)).bind fun _=>DF e d c f h (b+i) (a+1)) ((i64 (g*c.BP)).bind fun _=>(i64 (b+(g*c.BP))).bind fun _=>(i64 (a+1)).bind fun _=>DF e d c f h (b+(g*c.BP)) (a+1))) (some (b))
def EB(a:Nat)(b:Bo)(c:B6)(d:List Int):Option (Int):=
 (DF a b c d a (0:Int) (0:Int)).bind fun z2=>some (z2)
def Fh(a:Nat)(b:B6)(d:List Int):Option (AN×(List (List Int×Int))):=
 (FA a (fun(st:Unit) (x:Bo)=>(EB a x b d).bind fun r=>some (r,())) b ()).bind fun c=>some ((c.1,c.2.1))
def HW(b:Nat)(c:AE)(d:List Int):Option (AN×Int):=
 (HV b d (c.Ab.length:Int)).bind fun f=>(CR b c f).bind fun a=>Option.elim a.1 (cond (a.2 !=0) (some (((⟨0,0⟩:AN),a.2))) (none)) (fun g=>cond (a.2 !=0) (some (((⟨0,0⟩:AN),a.2))) ((Fh b g d).bind fun e=>some ((e.1,0))))
def IK(f:(List Int)→Int→B6→Int→(List Int)→Option ((List (List Int×Int))×Int×(List Int)))(h:List Int)(b:B6):Nat→Int→Int→(List Int)→(List (List Int×Int))→Option (Int×(List Int)×(List (List Int×Int)))
 |0,_,_,_,_=>none
 |i+1,a,c,d,e=>cond (decide (a<(b.weights.length:Int))) ((Fw (((0+h.length:Nat):Int)≤140737488355328/8)).bind fun _=>(Fw (((h.length+[a].length:Nat):Int)≤140737488355328/8)).bind fun _=>(i64 (a+1)).bind fun _=>(f (h++[a]) (a+1) (⟨b.Ar,b.As,b.Ap,b.BP,b.AJ,b.AK,b.AW,b.weights,b.B5,e⟩:B6) c d).bind fun g=>(i64 (a+1)).bind fun _=>IK f h b i (a+1) g.2.1 g.2.2 g.1) (some ((c,d,e)))
def Iz(f:(List Int)→Int→B6→Int→(List Int)→Option ((List (List Int×Int))×Int×(List Int)))(h:List Int)(b:B6):Nat→Int→Int→(List Int)→(List (List Int×Int))→Option (Int×(List Int)×(List (List Int×Int)))
 |0,_,_,_,_=>none
 |i+1,a,c,d,e=>cond (decide (a<(b.weights.length:Int))) ((Fw (((0+h.length:Nat):Int)≤140737488355328/8)).bind fun _=>(Fw (((h.length+[a].length:Nat):Int)≤140737488355328/8)).bind fun _=>(i64 (a+1)).bind fun _=>(f (h++[a]) (a+1) (⟨b.Ar,b.As,b.Ap,b.BP,b.AJ,b.AK,b.AW,b.weights,b.B5,e⟩:B6) c d).bind fun g=>(i64 (a+1)).bind fun _=>Iz f h b i (a+1) g.2.1 g.2.2 g.1) (some ((c,d,e)))
def Hl(a:Nat):Nat→(List Int)→Int→B6→Int→(List Int)→Option ((List (List Int×Int))×Int×(List Int))
 |0,_,_,_,_,_=>none
 |f+1,b,g,e,h,i=>(Fh a e b).bind fun d=>cond (decide (h<d.1.Lo)) ((Fw (((0+b.length:Nat):Int)≤140737488355328/8)).bind fun _=>(IK (Hl a f) b e a g d.1.Lo b d.2).bind fun z9=>some ((z9.2.2,z9.1,z9.2.1))) ((Iz (Hl a f) b e a g h i d.2).bind fun c=>some ((c.2.2,c.1,c.2.1)))
def KA(c:Nat)(f:AE):Option ((List Int)×Int×Int):=
 (CR c f true).bind fun b=>Option.elim b.1 (cond (b.2 !=0) (some ((([]:List Int),0,b.2))) (none)) (fun a=>cond (b.2 !=0) (some ((([]:List Int),0,b.2))) ((Fh c a ([]:List Int)).bind fun d=>(Hl c c ([]:List Int) 0 (⟨a.Ar,a.As,a.Ap,a.BP,a.AJ,a.AK,a.AW,a.weights,a.B5,d.2⟩:B6) d.1.Lo ([]:List Int)).bind fun e=>some ((e.2.2,e.2.1,0))))
def DK(d:B6)(e:BZ)(f:Int)(a:Bo×Bo):Option (Bool×Bool):=
 (idx ([a.1.a0,a.1.a1,a.1.a2]:List Int) f).bind fun b=>(idx d.AJ e.Cw).bind fun c=>cond (decide (b<c.AV)) (some (false,true)) (some (true,false))
def Fi(e:Nat)(b:B6)(c:BZ)(d:Int):Option (Bool×(List (List Int×Int))):=
 (idx b.weights d).bind fun f=>cond (decide (f<c.Ch)) (some ((false,b.known))) ((FH e (fun(st:Bool) (x:Bo×Bo)=>cond st none (DK b c d x)) b ([]:List Int) false).bind fun a=>cond (a.2) (some ((false,a.1))) (some ((true,a.1))))
def Db(f:Nat)(b:B6)(g:BZ):Nat→(List Int)→Int→(List (List Int×Int))→Option ((List Int)×(List (List Int×Int)))
 |0,_,_,_=>none
 |h+1,c,a,d=>cond (decide (a<(b.weights.length:Int))) ((Fi f (⟨b.Ar,b.As,b.Ap,b.BP,b.AJ,b.AK,b.AW,b.weights,b.B5,d⟩:B6) g a).bind fun e=>cond (e.1) ((Fw (((c.length+[a].length:Nat):Int)≤140737488355328/8)).bind fun _=>(i64 (a+1)).bind fun _=>Db f b g h (c++[a]) (a+1) e.2) ((i64 (a+1)).bind fun _=>Db f b g h c (a+1) e.2)) (some ((c,d)))
def Dv(e:Nat)(d:B6):Nat→(List (List Int))→Int→(List (List Int×Int))→Option ((List (List Int))×(List (List Int×Int)))
 |0,_,_,_=>none
 |g+1,c,a,b=>cond (decide (a<(d.AK.length:Int))) ((idx d.AK a).bind fun h=>(Db e d h e ([]:List Int) (0:Int) b).bind fun f=>(Fw (((c.length+[f.1].length:Nat):Int)≤140737488355328/24)).bind fun _=>(i64 (a+1)).bind fun _=>Dv e d g (c++[f.1]) (a+1) f.2) (some ((c,b)))
def Er(a:Nat)(b:B6):Option ((List (List Int))×(List (List Int×Int))):=
 (Dv a b a ([]:List (List Int)) (0:Int) b.known).bind fun c=>some ((c.1,c.2))
def EZ(c:Int→(List (List Int))→(List Int)→Option (Bool×(List Int)))(f:Nat)(e:Int)(g:List (List Int))(x2:List Int):Nat→Int→(List Int)→Option ((Bool×(List Int))⊕((List Int)))
 |0,_,_=>none
 |i+1,b,a=>cond (decide (b<(x2.length:Int))) ((idx x2 b).bind fun h=>(Eo f a h).bind fun j=>cond (j) ((i64 (b+1)).bind fun _=>EZ c f e g x2 i (b+1) a) ((Fw (((a.length+[h].length:Nat):Int)≤140737488355328/8)).bind fun _=>(i64 (e+1)).bind fun _=>(c (e+1) g (a++[h])).bind fun d=>cond (d.1) (some (.inl (true,d.2))) ((MG d.2.length (0:Int) e).bind fun _=>(i64 (b+1)).bind fun _=>EZ c f e g x2 i (b+1) (FF d.2 (0:Int) e)))) (some (.inr a))
def F3(b:Nat):Nat→Int→(List (List Int))→(List Int)→Option (Bool×(List Int))
 |0,_,_,_=>none
 |f+1,c,d,e=>cond (c==(d.length:Int)) (some ((true,e))) ((idx d c).bind fun x2=>(EZ (F3 b f) b c d x2 b (0:Int) e).bind fun z=>Sum.elim (fun a=>some ((a.1,a.2))) (fun a=>some ((false,a))) z)
def Ig(b:Nat)(d:AE):Option ((List Int)×Int):=
 (CR b d true).bind fun a=>Option.elim a.1 (cond (a.2 !=0) (some ((([]:List Int),a.2))) (none)) (fun e=>cond (a.2 !=0) (some ((([]:List Int),a.2))) ((Er b e).bind fun f=>(F3 b b 0 f.1 ([]:List Int)).bind fun c=>cond (!c.1) (some ((([]:List Int),10))) (some ((c.2,0)))))
def Es(c:List Int)(d:(List (List Int))×(List (List Int×Int))):Nat→(List Int)→Int→Option ((List Int))
 |0,_,_=>none
 |f+1,b,a=>cond (decide (a<(c.length:Int))) ((idx c a).bind fun g=>(idx d.1 g).bind fun e=>(Fw (((b.length+e.length:Nat):Int)≤140737488355328/8)).bind fun _=>(i64 (a+1)).bind fun _=>Es c d f (b++e) (a+1)) (some (b))
def Fj(a:Nat)(d:B6)(b:List Int):Option (Bool×(List (List Int×Int))):=
 (Er a d).bind fun c=>(Es b c a ([]:List Int) (0:Int)).bind fun z3=>(Fw ((z3.length:Int)≤100000)).bind fun _=>(Fw (((GJ z3).length:Int)≤100000)).bind fun _=>some ((decide (((Lib.compact (GJ z3)).length:Int)<(b.length:Int)),c.2))
def E3{e:Type}(f:(List Int)→Int→Int→(List Int)→Int→e→Option (Bool×(List Int)×e))(h:List Int)(g:Int)(i:Int):Nat→Int→(List Int)→e→Option ((Bool×(List Int)×e)⊕((List Int)×e))
 |0,_,_,_=>none
 |j+1,a,b,d=>(i64 (i-g)).bind fun _=>cond (decide (a≤(i-g))) ((Fw (((0+h.length:Nat):Int)≤140737488355328/8)).bind fun _=>(Fw (((h.length+[a].length:Nat):Int)≤140737488355328/8)).bind fun _=>(i64 (a+1)).bind fun _=>(i64 (g-1)).bind fun _=>(f (h++[a]) (a+1) (g-1) b i d).bind fun c=>cond (c.1) (some (.inl (true,c.2.1,c.2.2))) ((i64 (a+1)).bind fun _=>E3 f h g i j (a+1) c.2.1 c.2.2)) (some (.inr (b,d)))
def EC{b:Type}(e:Nat)(c:b→(List Int)→Option (Bool×b)):Nat→(List Int)→Int→Int→(List Int)→Int→b→Option (Bool×(List Int)×b)
 |0,_,_,_,_,_,_=>none
 |i+1,d,j,f,k,l,g=>cond (f==0) ((c g d).bind fun h=>some ((h.1,d,h.2))) ((E3 (EC e c i) d f l e j k g).bind fun z=>Sum.elim (fun a=>some ((a.1,a.2.1,a.2.2))) (fun a=>some ((false,a.1,a.2))) z)
def FB{e:Type}(f:e→(List Int)→Option (Bool×e))(g:Nat)(h:Int):Nat→Bool→Int→(List Int)→e→Option (Bool×(List Int)×e)
 |0,_,_,_,_=>none
 |j+1,i,a,b,d=>cond (decide (a<(h+1))) ((EC g f g ([]:List Int) 0 a b h d).bind fun c=>cond (c.1) (some ((c.1,c.2.1,c.2.2))) ((i64 (a+1)).bind fun _=>FB f g h j c.1 (a+1) c.2.1 c.2.2)) (some ((i,b,d)))
def FQ{a:Type}(c:Nat)(d:a→(List Int)→Option (Bool×a))(e:Int)(f:a):Option ((List Int)×Bool×a):=
 (i64 (e+1)).bind fun _=>(FB d c e c false (0:Int) ([]:List Int) f).bind fun b=>some ((b.2.1,b.1,b.2.2))
def E7(b:Nat)(c:List Int)(d:B6):Option (Bool×(List (List Int×Int))):=
 (Fj b d c).bind fun a=>some ((a.1,a.2))
def G0(d:Nat)(e:AE):Option ((List Int)×Int):=
 (CR d e true).bind fun b=>Option.elim b.1 (cond (b.2 !=0) (some ((([]:List Int),b.2))) (none)) (fun a=>cond (b.2 !=0) (some ((([]:List Int),b.2))) ((FQ d (fun(st:(List (List Int×Int))) (x:(List Int))=>(E7 d x (⟨a.Ar,a.As,a.Ap,a.BP,a.AJ,a.AK,a.AW,a.weights,a.B5,st⟩:B6)).bind fun r=>some (r.1,r.2)) (e.AF.length:Int) a.known).bind fun c=>cond (!c.2.1) (some ((([]:List Int),7))) (some ((c.1,0)))))
def I7(g:Nat)(d:AE)(c:B6):Nat→Int→(List B7)→(List (List Int×Int))→Option ((Int×Int×(List B7)×(List (List Int×Int)))⊕((List B7)×(List (List Int×Int))))
 |0,_,_,_=>none
 |h+1,a,e,b=>cond (decide (a<(d.AM.length:Int))) ((i64 (a+1)).bind fun _=>(MG d.AM.length (0:Int) (a+1)).bind fun _=>(DA g (⟨c.Ar,c.As,c.Ap,c.BP,c.AJ,c.AK,FF d.AM (0:Int) (a+1),c.weights,c.B5,b⟩:B6) ([]:List Int)).bind fun f=>cond (!f.1) (some (.inl (a,(0:Int),FF d.AM (0:Int) (a+1),f.2))) ((i64 (a+1)).bind fun _=>I7 g d c h (a+1) (FF d.AM (0:Int) (a+1)) f.2)) (some (.inr (e,b)))
def J5(c:Nat)(e:AE):Option (Int×Int):=
 (Ep c e true).bind fun a=>Option.elim a.1 (cond (a.2 !=0) (some ((0,a.2))) (none)) (fun d=>cond (a.2 !=0) (some ((0,a.2))) ((I7 c e d c (0:Int) d.AW d.known).bind fun z=>Sum.elim (fun b=>some ((b.1,b.2.1))) (fun b=>some ((0,7))) z))
def J6(c:Nat)(d:AE):Option ((List Int)×Int):=
 (Ep c d true).bind fun b=>Option.elim b.1 (cond (b.2 !=0) (some ((([]:List Int),b.2))) (none)) (fun a=>cond (b.2 !=0) (some ((([]:List Int),b.2))) ((FQ c (fun(st:(List (List Int×Int))) (x:(List Int))=>(DA c (⟨a.Ar,a.As,a.Ap,a.BP,a.AJ,a.AK,a.AW,a.weights,a.B5,st⟩:B6) x).bind fun r=>some (r.1,r.2)) (d.AM.length:Int) a.known).bind fun e=>some ((e.1,0))))
def Cs(d:Nat)(a:Int)(b:Int)(c:Int):Option (Bool):=
 cond (decide (b≤a)) (some (decide (a≤c))) (some (false))
def ED(d:Nat)(a:AN)(b:Int)(c:Int):Option (Bool):=
 cond (decide (b≤a.Lo)) (cond (decide (a.Lo≤a.Hi)) (some (decide (a.Hi≤c))) (some (false))) (some (false))
def FR(b:Nat)(a:AN):Option (Int):=
 (i64 (a.Hi-a.Lo)).bind fun _=>(i64 ((a.Hi-a.Lo)+1)).bind fun _=>some ((a.Hi-a.Lo)+1)
def DL(c:List Int):Nat→Int→Int→Option (Int)
 |0,_,_=>none
 |e+1,b,a=>cond (decide (a<(c.length:Int))) ((idx c a).bind fun d=>(i64 (b+d)).bind fun _=>(i64 (a+1)).bind fun _=>DL c e (b+d) (a+1)) (some (b))
def F7(a:Nat)(b:List Int):Option (Int):=
 (DL b a (0:Int) (0:Int)).bind fun c=>some (c)
def Dc(c:Nat)(b:List Int):Nat→Int→Option ((Bool)⊕(Unit))
 |0,_=>none
 |d+1,a=>cond (decide (a<(b.length:Int))) ((idx b a).bind fun e=>(Cs c e 0 30).bind fun f=>cond (!f) (some (.inl false)) ((i64 (a+1)).bind fun _=>Dc c b d (a+1))) (some (.inr ()))
def Gv(b:Nat)(d:Be)(c:List Int):Option (Bool):=
 (Dc b c b (0:Int)).bind fun z=>Sum.elim (fun a=>some (a)) (fun a=>some ((c.length:Int)==(d.Ax.length:Int))) z
def DB(d:Nat)(c:Be):Nat→Int→Int→Option (Int)
 |0,_,_=>none
 |f+1,b,a=>cond (decide (a<(c.Ax.length:Int))) ((idx c.Ax a).bind fun g=>(FR d g).bind fun e=>(i64 (b*e)).bind fun _=>(i64 (a+1)).bind fun _=>DB d c f (min (3000:Int) (b*e)) (a+1)) (some (b))
def EE(a:Nat)(b:Be):Option (Int):=
 (DB a b a (1:Int) (0:Int)).bind fun z2=>some (z2)
def Dt(c:Nat)(b:Be):Nat→Int→Option ((Int)⊕(Unit))
 |0,_=>none
 |d+1,a=>cond (decide (a<(b.Ax.length:Int))) ((idx b.Ax a).bind fun e=>(ED c e 0 100).bind fun f=>cond (!f) (some (.inl (1:Int))) ((i64 (a+1)).bind fun _=>Dt c b d (a+1))) (some (.inr ()))
def CZ(c:Nat)(b:Be):Nat→Int→Option ((Int)⊕(Unit))
 |0,_=>none
 |h+1,a=>cond (decide (a<(b.AX.length:Int))) ((idx b.AX a).bind fun d=>(Gv c b d).bind fun e=>cond (!e) (some (.inl (1:Int))) ((idx b.AX a).bind fun f=>(F7 c f).bind fun g=>cond (g==0) (some (.inl (1:Int))) ((i64 (a+1)).bind fun _=>CZ c b h (a+1)))) (some (.inr ()))
def CL(d:Nat)(c:Be):Nat→Int→Option ((Int)⊕(Unit))
 |0,_=>none
 |e+1,a=>cond (decide (a<(c.AP.length:Int))) ((idx c.AP a).bind fun b=>cond (b.BV) ((i64 ((c.AX.length:Int)-1)).bind fun _=>(Cs d b.Number 0 ((c.AX.length:Int)-1)).bind fun f=>cond (!f) (some (.inl (1:Int))) ((ED d (⟨b.Bm,b.Bn⟩:AN) 0 100).bind fun g=>cond (!g) (some (.inl (1:Int))) ((i64 (a+1)).bind fun _=>CL d c e (a+1)))) ((i64 ((c.Ax.length:Int)-1)).bind fun _=>(Cs d b.Number 0 ((c.Ax.length:Int)-1)).bind fun h=>cond (!h) (some (.inl (1:Int))) ((ED d (⟨b.Bm,b.Bn⟩:AN) 0 100).bind fun i=>cond (!i) (some (.inl (1:Int))) ((i64 (a+1)).bind fun _=>CL d c e (a+1))))) (some (.inr ()))
def EW(b:Nat)(a:Be):Option (Int):=
 cond (decide ((3:Int)<(a.Ax.length:Int))) (some (3)) (cond (decide ((3:Int)<(a.AX.length:Int))) (some (3)) (cond (decide ((5:Int)<(a.AP.length:Int))) (some (3)) (cond ((a.Ax.length:Int)==0) (some (1)) ((Dt b a b (0:Int)).bind fun z=>Sum.elim (fun e=>some (e)) (fun e=>(CZ b a b (0:Int)).bind fun z=>Sum.elim (fun c=>some (c)) (fun c=>(CL b a b (0:Int)).bind fun z=>Sum.elim (fun d=>some (d)) (fun d=>(EE b a).bind fun f=>cond (decide ((2000:Int)<f)) (some (3)) (some (0))) z) z) z))))
def Fm(g:Nat)(h:Be):Nat→Int→(List Int)→Int→Option ((List Int))
 |0,_,_,_=>none
 |i+1,a,c,b=>cond (decide (b<(h.Ax.length:Int))) ((idx h.Ax b).bind fun e=>(FR g e).bind fun d=>(rem a d).bind fun _=>(i64 (e.Lo+(a%d))).bind fun _=>(Fw (((c.length+[e.Lo+(a%d)].length:Nat):Int)≤140737488355328/8)).bind fun _=>(FR g e).bind fun f=>(quo a f).bind fun _=>(i64 (a/f)).bind fun _=>(i64 (b+1)).bind fun _=>Fm g h i (a/f) (c++[e.Lo+(a%d)]) (b+1)) (some (c))
def HZ(a:Nat)(b:Be)(c:Int):Option ((List Int)):=
 (Fm a b a c ([]:List Int) (0:Int)).bind fun z2=>some (z2)
def D6(d:Nat)(b:Be)(c:List Int):Nat→Int→Option ((Bool)⊕(Unit))
 |0,_=>none
 |e+1,a=>cond (decide (a<(c.length:Int))) (cond (decide (a<(b.Ax.length:Int))) ((idx c a).bind fun f=>(idx b.Ax a).bind fun g=>(idx b.Ax a).bind fun h=>(Cs d f g.Lo h.Hi).bind fun i=>cond (!i) (some (.inl false)) ((i64 (a+1)).bind fun _=>D6 d b c e (a+1))) (some (.inr ()))) (some (.inr ()))
def Hq(b:Nat)(c:Be)(d:List Int):Option (Bool):=
 (D6 b c d b (0:Int)).bind fun z=>Sum.elim (fun a=>some (a)) (fun a=>some ((d.length:Int)==(c.Ax.length:Int))) z
def E4(c:List Int)(f:List Int):Nat→Int→Int→Option (Int)
 |0,_,_=>none
 |g+1,b,a=>cond (decide (a<(c.length:Int))) ((idx f a).bind fun d=>(idx c a).bind fun e=>(i64 (d*e)).bind fun _=>(i64 (b+(d*e))).bind fun _=>(i64 (a+1)).bind fun _=>E4 c f g (b+(d*e)) (a+1)) (some (b))
def Dx(c:Nat)(e:List Int)(d:List Int):Option (Int):=
 (E4 e d c (0:Int) (0:Int)).bind fun a=>(F7 c d).bind fun b=>(quo a b).bind fun _=>(i64 (a/b)).bind fun _=>some (a/b)
def Hm(c:Nat)(d:Be)(a:List Int)(b:Int):Option (Int):=
 cond (decide (b<(a.length:Int))) ((idx a b).bind fun e=>some (e)) ((i64 (b-(a.length:Int))).bind fun _=>(idx d.AX (b-(a.length:Int))).bind fun f=>(Dx c a f).bind fun g=>some (g))
def Hb(b:Nat)(c:Be)(d:List Int)(a:Cx):Option (Bool):=
 cond (a.BV) ((i64 (a.Number+(c.Ax.length:Int))).bind fun _=>(Hm b c d (a.Number+(c.Ax.length:Int))).bind fun g=>(Cs b g a.Bm a.Bn).bind fun h=>some (h)) ((Hm b c d a.Number).bind fun e=>(Cs b e a.Bm a.Bn).bind fun f=>some (f))
def Dd(c:Nat)(b:Be)(d:List Int):Nat→Int→Option ((Bool)⊕(Unit))
 |0,_=>none
 |g+1,a=>cond (decide (a<(b.AP.length:Int))) ((idx b.AP a).bind fun e=>(Hb c b d e).bind fun f=>cond (!f) (some (.inl false)) ((i64 (a+1)).bind fun _=>Dd c b d g (a+1))) (some (.inr ()))
def Gw(b:Nat)(c:Be)(d:List Int):Option (Bool):=
 (Hq b c d).bind fun e=>cond (!e) (some (false)) ((Dd b c d b (0:Int)).bind fun z=>Sum.elim (fun a=>some (a)) (fun a=>some (true)) z)
def DY(c:Nat)(d:Be):Nat→(List (List Int))→Int→Option ((List (List Int)))
 |0,_,_=>none
 |f+1,b,a=>(EE c d).bind fun g=>cond (decide (a<g)) ((HZ c d a).bind fun e=>(Gw c d e).bind fun h=>cond (h) ((Fw (((b.length+[e].length:Nat):Int)≤140737488355328/24)).bind fun _=>(i64 (a+1)).bind fun _=>DY c d f (b++[e]) (a+1)) ((i64 (a+1)).bind fun _=>DY c d f b (a+1))) (some (b))
def F4(a:Nat)(b:Be):Option ((List (List Int))):=
 (DY a b a ([]:List (List Int)) (0:Int)).bind fun z2=>some (z2)
def Ea(a:Nat)(b:AE)(c:Int):Option (Int):=
 (idx b.Ab c).bind fun x2=>(F7 a x2).bind fun d=>some (d)
def Ed(d:Nat)(b:AE)(e:List Int)(f:Int):Nat→Int→Int→Option (Int)
 |0,_,_=>none
 |g+1,c,a=>cond (decide ((0:Int)≤a)) ((idx b.Ab f).bind fun i=>(Dx d e i).bind fun j=>(idx b.AB a).bind fun k=>cond (decide (k.AV≤j)) ((idx b.AB a).bind fun h=>(i64 (a-1)).bind fun _=>Ed d b e f g h.B4 (a-1)) ((i64 (a-1)).bind fun _=>Ed d b e f g c (a-1))) (some (c))
def FC(c:Nat)(a:AE)(e:List Int)(d:Int):Option (Int):=
 (i64 ((a.AB.length:Int)-1)).bind fun _=>(Ed c a e d c (0:Int) ((a.AB.length:Int)-1)).bind fun z3=>(Ea c a d).bind fun b=>(i64 (z3*b)).bind fun _=>some (z3*b)
def Ee(d:Nat)(c:AE)(e:List Int):Nat→Int→Int→Option (Int)
 |0,_,_=>none
 |f+1,b,a=>cond (decide (a<(c.AM.length:Int))) ((idx c.AM a).bind fun g=>(idx c.AM a).bind fun i=>(FC d c e i.BV).bind fun j=>(Cs d j g.Cm g.Cn).bind fun h=>cond (h) ((Jc .u64 a).bind fun _=>(Li (1:Int) a).bind fun _=>(Nk b (Gr (1:Int) a)).bind fun _=>(i64 (a+1)).bind fun _=>Ee d c e f (Lp b (Gr (1:Int) a)) (a+1)) ((i64 (a+1)).bind fun _=>Ee d c e f b (a+1))) (some (b))
def Hc(a:Nat)(b:AE)(c:List Int):Option (Int):=
 (Ee a b c a (0:Int) (0:Int)).bind fun z2=>some (z2)
def HG(b:Nat)(a:AE):Option (Int):=
 (Jc .u64 (a.AM.length:Int)).bind fun _=>(Li (1:Int) (a.AM.length:Int)).bind fun _=>(i64 ((Gr (1:Int) (a.AM.length:Int))-1)).bind fun _=>some ((Gr (1:Int) (a.AM.length:Int))-1)
def DZ(d:Nat)(e:AE)(c:(List (List Int))):Nat→(List (List Int))→Int→Option ((List (List Int)))
 |0,_,_=>none
 |g+1,b,a=>cond (decide (a<(c.length:Int))) ((idx c a).bind fun i=>(Hc d e i).bind fun j=>(HG d e).bind fun h=>cond (j==h) ((idx c a).bind fun f=>(Fw (((b.length+[f].length:Nat):Int)≤140737488355328/24)).bind fun _=>(i64 (a+1)).bind fun _=>DZ d e c g (b++[f]) (a+1)) ((i64 (a+1)).bind fun _=>DZ d e c g b (a+1))) (some (b))
def F5(b:Nat)(a:AE):Option ((List (List Int))):=
 (F4 b (⟨a.Ak,a.Ab,a.Aw⟩:Be)).bind fun c=>(DZ b a c b ([]:List (List Int)) (0:Int)).bind fun z4=>some (z4)
def D0(d:Nat)(c:AE):Nat→Int→Option ((Int)⊕(Unit))
 |0,_=>none
 |e+1,a=>cond (decide (a<(c.AB.length:Int))) ((idx c.AB a).bind fun b=>(Cs d b.AV 0 100).bind fun f=>cond (!f) (some (.inl (1:Int))) ((Cs d b.B4 0 100).bind fun g=>cond (!g) (some (.inl (1:Int))) (cond (decide ((0:Int)<a)) ((i64 (a-1)).bind fun _=>(idx c.AB (a-1)).bind fun h=>cond (decide (h.AV≤b.AV)) (some (.inl (1:Int))) ((i64 (a-1)).bind fun _=>(idx c.AB (a-1)).bind fun i=>cond (decide (i.B4<b.B4)) (some (.inl (1:Int))) ((i64 (a+1)).bind fun _=>D0 d c e (a+1)))) ((i64 (a+1)).bind fun _=>D0 d c e (a+1))))) (some (.inr ()))
def C0(c:Nat)(b:AE):Nat→Int→Option ((Int)⊕(Unit))
 |0,_=>none
 |h+1,a=>cond (decide (a<(b.AF.length:Int))) ((idx b.AF a).bind fun d=>(i64 ((b.AB.length:Int)-1)).bind fun _=>(Cs c d.Cw 0 ((b.AB.length:Int)-1)).bind fun e=>cond (!e) (some (.inl (1:Int))) ((idx b.AF a).bind fun f=>(Cs c f.Ch 1 90).bind fun g=>cond (!g) (some (.inl (1:Int))) ((i64 (a+1)).bind fun _=>C0 c b h (a+1)))) (some (.inr ()))
def C1(d:Nat)(b:AE):Nat→Int→Option ((Int)⊕(Unit))
 |0,_=>none
 |h+1,a=>cond (decide (a<(b.AM.length:Int))) ((idx b.AM a).bind fun e=>(i64 ((b.Ab.length:Int)-1)).bind fun _=>(Cs d e.BV 0 ((b.Ab.length:Int)-1)).bind fun f=>cond (!f) (some (.inl (1:Int))) ((idx b.AM a).bind fun c=>(ED d (⟨c.Cm,c.Cn⟩:AN) 0 9000).bind fun g=>cond (!g) (some (.inl (1:Int))) ((i64 (a+1)).bind fun _=>C1 d b h (a+1)))) (some (.inr ()))
def Hd(b:Nat)(a:AE):Option (Int):=
 (EW b (⟨a.Ak,a.Ab,a.Aw⟩:Be)).bind fun f=>cond (f !=0) (some (f)) (cond (decide ((3:Int)<(a.AB.length:Int))) (some (3)) (cond (decide ((3:Int)<(a.AF.length:Int))) (some (3)) (cond (decide ((5:Int)<(a.AM.length:Int))) (some (3)) ((Cs b a.Flat 0 100).bind fun g=>cond (!g) (some (1)) (cond ((a.AB.length:Int)==0) (some (1)) ((D0 b a b (0:Int)).bind fun z=>Sum.elim (fun c=>some (c)) (fun c=>(C0 b a b (0:Int)).bind fun z=>Sum.elim (fun d=>some (d)) (fun d=>(C1 b a b (0:Int)).bind fun z=>Sum.elim (fun e=>some (e)) (fun e=>some (0)) z) z) z))))))
def Hn(b:Nat)(a:AN):Option (AN):=
 some (a)
def HH(b:Nat)(a:List Int):Option ((List Int)):=
 (Fw (((([]:List Int).length+a.length:Nat):Int)≤140737488355328/8)).bind fun _=>some (([]:List Int)++a)
def Dh(d:Nat)(c:Be):Nat→Int→(List AN)→Option ((List AN))
 |0,_,_=>none
 |f+1,b,a=>cond (decide (b<(c.Ax.length:Int))) ((idx c.Ax b).bind fun g=>(Hn d g).bind fun e=>(Fw (((a.length+[e].length:Nat):Int)≤140737488355328/16)).bind fun _=>(i64 (b+1)).bind fun _=>Dh d c f (b+1) (a++[e])) (some (a))
def De(e:Nat)(d:Be):Nat→Int→(List (List Int))→Option ((List (List Int)))
 |0,_,_=>none
 |g+1,b,a=>cond (decide (b<(d.AX.length:Int))) ((idx d.AX b).bind fun f=>(HH e f).bind fun c=>(Fw (((a.length+[c].length:Nat):Int)≤140737488355328/24)).bind fun _=>(i64 (b+1)).bind fun _=>De e d g (b+1) (a++[c])) (some (a))
def Df(f:Nat)(e:Be):Nat→Int→(List Cx)→Option ((List Cx))
 |0,_,_=>none
 |g+1,b,a=>cond (decide (b<(e.AP.length:Int))) ((idx e.AP b).bind fun c=>(Hn f (⟨c.Bm,c.Bn⟩:AN)).bind fun d=>(Fw (((a.length+[(⟨c.BV,c.Number,d.Lo,d.Hi⟩:Cx)].length:Nat):Int)≤140737488355328/32)).bind fun _=>(i64 (b+1)).bind fun _=>Df f e g (b+1) (a++[(⟨c.BV,c.Number,d.Lo,d.Hi⟩:Cx)])) (some (a))
def F6(a:Nat)(b:Be):Option (Be):=
 (Dh a b a (0:Int) ([]:List AN)).bind fun z4=>(De a b a (0:Int) ([]:List (List Int))).bind fun c=>(Df a b a (0:Int) ([]:List Cx)).bind fun z24=>some ((⟨z4,c,z24⟩:Be))
def DC(b:Be):Nat→Int→Option ((Bool)⊕(Unit))
 |0,_=>none
 |c+1,a=>cond (decide (a<(b.AX.length:Int))) ((idx b.AX a).bind fun d=>cond (decide ((6:Int)<(d.length:Int))) (some (.inl false)) ((i64 (a+1)).bind fun _=>DC b c (a+1))) (some (.inr ()))
def Gx(c:Nat)(a:Be):Option (Bool):=
 cond (decide ((5:Int)<(a.Ax.length:Int))) (some (false)) (cond (decide ((5:Int)<(a.AX.length:Int))) (some (false)) (cond (decide ((7:Int)<(a.AP.length:Int))) (some (false)) ((DC a c (0:Int)).bind fun z=>Sum.elim (fun b=>some (b)) (fun b=>(EW c a).bind fun d=>cond (d !=0) (some (true)) ((EE c a).bind fun e=>some (decide (e≤150)))) z)))
def FT(b:Nat)(a:List Int):Option ((List Int)):=
 (Fw (((([]:List Int).length+a.length:Nat):Int)≤140737488355328/8)).bind fun _=>some (([]:List Int)++a)
def I8(b:Nat)(a:AN):Option (AN):=
 some (a)
def Du(c:AE):Nat→Int→(List BK)→Option ((List BK))
 |0,_,_=>none
 |f+1,b,a=>cond (decide (b<(c.AB.length:Int))) ((idx c.AB b).bind fun d=>(idx c.AB b).bind fun e=>(Fw (((a.length+[(⟨d.AV,e.B4⟩:BK)].length:Nat):Int)≤140737488355328/16)).bind fun _=>(i64 (b+1)).bind fun _=>Du c f (b+1) (a++[(⟨d.AV,e.B4⟩:BK)])) (some (a))
def Di(c:AE):Nat→Int→(List BZ)→Option ((List BZ))
 |0,_,_=>none
 |f+1,b,a=>cond (decide (b<(c.AF.length:Int))) ((idx c.AF b).bind fun d=>(idx c.AF b).bind fun e=>(Fw (((a.length+[(⟨d.Cw,e.Ch⟩:BZ)].length:Nat):Int)≤140737488355328/16)).bind fun _=>(i64 (b+1)).bind fun _=>Di c f (b+1) (a++[(⟨d.Cw,e.Ch⟩:BZ)])) (some (a))
def Dj(g:Nat)(d:AE):Nat→Int→(List B7)→Option ((List B7))
 |0,_,_=>none
 |h+1,b,a=>cond (decide (b<(d.AM.length:Int))) ((idx d.AM b).bind fun e=>(idx d.AM b).bind fun f=>(I8 g (⟨f.Cm,f.Cn⟩:AN)).bind fun c=>(Fw (((a.length+[(⟨e.BV,c.Lo,c.Hi⟩:B7)].length:Nat):Int)≤140737488355328/24)).bind fun _=>(i64 (b+1)).bind fun _=>Dj g d h (b+1) (a++[(⟨e.BV,c.Lo,c.Hi⟩:B7)])) (some (a))
def Dn(b:Nat)(a:AE):Option (AE):=
 (F6 b (⟨a.Ak,a.Ab,a.Aw⟩:Be)).bind fun c=>(Du a b (0:Int) ([]:List BK)).bind fun e=>(Di a b (0:Int) ([]:List BZ)).bind fun d=>(Dj b a b (0:Int) ([]:List B7)).bind fun z26=>some ((⟨c.Ax,c.AX,c.AP,a.Flat,e,d,z26⟩:AE))
def HP(b:List Int)(c:List Int):Nat→Int→Option ((Bool)⊕(Unit))
 |0,_=>none
 |d+1,a=>cond (decide (a<(b.length:Int))) ((idx b a).bind fun e=>(idx c a).bind fun f=>cond (e !=f) (some (.inl false)) ((i64 (a+1)).bind fun _=>HP b c d (a+1))) (some (.inr ()))
def Dy(d:Nat)(b:List Int)(c:List Int):Option (Bool):=
 cond ((b.length:Int) !=(c.length:Int)) (some (false)) ((HP b c d (0:Int)).bind fun z=>Sum.elim (fun a=>some (a)) (fun a=>some (true)) z)
def HI(b:Nat)(a:AE):Option (Bool):=
 (Gx b (⟨a.Ak,a.Ab,a.Aw⟩:Be)).bind fun c=>cond (c) (cond (decide ((a.AB.length:Int)≤5)) (cond (decide ((a.AF.length:Int)≤5)) (some (decide ((a.AM.length:Int)≤7))) (some (false))) (some (false))) (some (false))
def DD(c:Nat)(a:Int)(b:Int):Option (AN):=
 some ((⟨a,b⟩:AN))
def Cv(c:Nat)(d:Int):Option (AE):=
 (DD c 80 80).bind fun b=>(DD c 40 40).bind fun a=>(MG [(⟨0,b.Lo,b.Hi⟩:B7),(⟨0,a.Lo,a.Hi⟩:B7)].length (0:Int) d).bind fun _=>some ((⟨[(⟨40,42⟩:AN),(⟨60,63⟩:AN)],[[10,10],[5,15]],([]:List Cx),3,[(⟨55,6⟩:BK),(⟨51,4⟩:BK),(⟨40,2⟩:BK)],[(⟨0,20⟩:BZ),(⟨1,10⟩:BZ)],FF [(⟨0,b.Lo,b.Hi⟩:B7),(⟨0,a.Lo,a.Hi⟩:B7)] (0:Int) d⟩:AE))
def EX(a:Nat)(b:AE):Option (Bool):=
 (HI a b).bind fun c=>cond (c) ((Hd a b).bind fun d=>some (d==0)) (some (false))
def Cq(a:Nat):Option (Bool):=
 (Cv a 0).bind fun z=>(Kz a z [41,62]).bind fun n=>(Cv a 0).bind fun aA=>(Hk a aA).bind fun d=>(Cv a 0).bind fun o=>(HW a o [0,1]).bind fun b=>(Cv a 0).bind fun p=>(KA a p).bind fun c=>(Cv a 1).bind fun q=>(Ig a q).bind fun e=>(Cv a 0).bind fun r=>(G0 a r).bind fun f=>(Cv a 2).bind fun s=>(J5 a s).bind fun g=>(Cv a 2).bind fun t=>(J6 a t).bind fun h=>cond (n.2==0) ((Dy a n.1 [80,120]).bind fun u=>cond (u) (cond (d.2==0) (cond ((d.1.length:Int)==2) ((idx d.1 (0:Int)).bind fun i=>(DD a 40 80).bind fun j=>cond ([i.Lo,i.Hi]==[j.Lo,j.Hi]) ((idx d.1 (1:Int)).bind fun k=>(DD a 120 120).bind fun l=>cond ([k.Lo,k.Hi]==[l.Lo,l.Hi]) (cond (b.2==0) ((DD a 160 200).bind fun m=>cond ([b.1.Lo,b.1.Hi]==[m.Lo,m.Hi]) (cond (c.2.2==0) ((Dy a c.1 [1]).bind fun v=>cond (v) (cond (c.2.1==180) (cond (e.2==0) ((Dy a e.1 [1,0]).bind fun w=>cond (w) (cond (f.2==0) ((Dy a f.1 [0,1]).bind fun x=>cond (x) (cond (g.2==0) (cond (g.1==1) (cond (h.2==0) ((Dy a h.1 [0]).bind fun y=>some (y)) (some (false))) (some (false))) (some (false))) (some (false))) (some (false))) (some (false))) (some (false))) (some (false))) (some (false))) (some (false))) (some (false))) (some (false))) (some (false))) (some (false))) (some (false))) (some (false))) (some (false))) (some (false))
end Go.Proofs.YtbhofkcbfblijaaGreat
end
section
namespace Go.Proofs.YtbhofkcbfblijaaGreat
theorem bd{α β:Type}{x:Option α}{a:α}{f:α→Option β}(h:x=some a):x.bind f=f a:=by rw[h];rfl
theorem BW{β:Type}{x:Int}{f:Int→Option β}(h0:-9223372036854775808≤x)(h1:x≤9223372036854775807):(i64 x).bind f=f x:=bd (Zx h0 h1)
theorem Cf{α β:Type}{xs:List α}{k:Nat}{f:α→Option β}(h:k<xs.length):(idx xs (k:Int)).bind f=f xs[k]:=bd (idx_eq h)
theorem FD{β:Type}{p:Prop}[Decidable p]{f:Unit→Option β}(h:p):(Fw p).bind f=f ():=bd (if_pos h)
theorem Ns{β:Type}{a b:Int}{f:Int→Option β}(h0:0≤a)(h1:1≤b):(rem a b).bind f=f (a%b):=bd (if_pos ⟨h0,h1⟩)
theorem VM{β:Type}{a b:Int}{f:Int→Option β}(h0:0≤a)(h1:1≤b):(quo a b).bind f=f (a/b):=bd (if_pos ⟨h0,h1⟩)
theorem mkb{β:Type}{n:Int}{b:Nat}{f:Unit→Option β}(h0:0≤n)(h1:n*b≤140737488355328)(h2:n≤140737488355328):(WO n b).bind f=f ():=bd (if_pos ⟨h0,h1,h2⟩)
theorem ct{α:Type}{b:Bool}{x y:α}(h:b=true):cond b x y=x:=by rw[h];rfl
theorem cf{α:Type}{b:Bool}{x y:α}(h:b=false):cond b x y=y:=by rw[h];rfl
theorem nt{α:Type}{x y:α}:cond (!true) x y=y:=rfl
theorem nf{α:Type}{x y:α}:cond (!false) x y=x:=rfl
theorem dt{p:Prop}[Decidable p](h:p):decide p=true:=decide_eq_true h
theorem df{p:Prop}[Decidable p](h:¬p):decide p=false:=decide_eq_false h
theorem DM(i:Nat):(i:Int)+1=((i+1:Nat):Int):=by omega
def Ef(n a b:Int):Bool:=decide (a≤n)&&decide (n≤b)
theorem DX{n a b:Int}:Ef n a b=true↔a≤n∧n≤b:=by simp[Ef]
theorem IX{n a b:Int}:Ef n a b=false↔¬(a≤n∧n≤b):=by rw[←DX];simp
theorem WQ{σ β:Type}(F:Nat→σ→Nat→Option β)(n:Nat)(g:σ→Nat→σ)(I:Nat→σ→Prop)(a:∀i s,i<n→I i s→I (i+1) (g s i))(h:∀m i s,i<n→I i s→F (m+1) s i=F m (g s i) (i+1)):
  ∀(d i k:Nat) (s:σ),n=i+d→d≤k→I i s→F k s i=F (k-d) ((List.range' i d).foldl g s) n∧I n ((List.range' i d).foldl g s)
 |0,i,k,s,b,_,hs=>by
  obtain rfl:n=i:=by omega
  exact⟨rfl,hs⟩
 |d+1,i,0,s,_,hk,_=>by omega
 |d+1,i,k+1,s,b,hk,hs=>by
  have:=WQ F n g I a h d (i+1) k (g s i) (by omega) (by omega) (a i s (by omega) hs);rw[h k i s (by omega) hs,List.range'_succ,List.foldl_cons,show k+1-(d+1)=k-d by omega];exact this
theorem Nt{α σ:Type}(g:σ→α→σ)(xs:List α)(f:σ→Nat→σ)(a:∀s i (hi:i<xs.length),f s i=g s xs[i]):∀(d i:Nat) (s:σ),xs.length=i+d→(List.range' i d).foldl f s=(xs.drop i).foldl g s
 |0,i,s,h=>by rw[List.drop_eq_nil_of_le (by omega)];rfl
 |d+1,i,s,h=>by
  have hi:i<xs.length:=by omega
  rw[List.range'_succ,List.foldl_cons,List.drop_eq_getElem_cons hi,List.foldl_cons,a s i hi];exact Nt g xs f a d (i+1) _ (by omega)
theorem Aa4 {α σ β:Type} (xs:List α) (F:Nat→σ→Nat→Option β) (g:σ→α→σ) (I:Nat→σ→Prop) (b:∀i s (hi:i<xs.length),I i s→I (i+1) (g s xs[i])) (h:∀m i s (hi:i<xs.length),I i s→F (m+1) s i=F m (g s xs[i]) (i+1))
  {k:Nat} {s0:σ} (hk:xs.length≤k) (h0:I 0 s0):F k s0 0=F (k-xs.length) (xs.foldl g s0) xs.length∧I xs.length (xs.foldl g s0):=by
 by_cases a:xs.length=0
 ·obtain rfl:=List.eq_nil_of_length_eq_zero a;exact⟨rfl,h0⟩
 ·have a0:α:=xs[0]'(by omega);have e:=Nt g xs (fun s i=>g s (xs.getD i a0)) (fun s i hi=>by simp[List.getElem?_eq_getElem hi]) xs.length 0 s0 (by omega);rw[List.drop_zero] at e;rw[←e];refine WQ F xs.length (fun s i=>g s (xs.getD i a0)) I (fun i s hi hs=>?_) (fun m i s hi hs=>?_) xs.length 0 k s0 (by omega) hk h0
  ·have:=b i s hi hs;simpa[List.getElem?_eq_getElem hi] using this
  ·have:=h m i s hi hs;simpa[List.getElem?_eq_getElem hi] using this
theorem O1{α σ β:Type}(xs:List α)(F:Nat→σ→Nat→Option β)(g:σ→α→σ)(I:Nat→σ→Prop)(fin:σ→β)(a:∀i s (hi:i<xs.length),I i s→I (i+1) (g s xs[i]))(h:∀m i s (hi:i<xs.length),I i s→F (m+1) s i=F m (g s xs[i]) (i+1))
  (b:∀m s,I xs.length s→F (m+1) s xs.length=some (fin s)){k:Nat}{s0:σ}(hk:xs.length<k)(h0:I 0 s0):F k s0 0=some (fin (xs.foldl g s0)):=by
 obtain⟨h1,h2⟩:=Aa4 xs F g I a h (k:=k) (s0:=s0) (by omega) h0;obtain⟨j,hj⟩:∃j,k-xs.length=j+1:=⟨k-xs.length-1,by omega⟩;rw[h1,hj,b _ _ h2]
theorem WR {β:Type} (F:Nat→Nat→Option (β⊕Unit)) (n:Nat) (ok:Nat→Bool) (b:β) (h:∀m i,i<n→F (m+1) i=cond (ok i) (F m (i+1)) (some (.inl b))) (a:∀m,F (m+1) n=some (.inr ())):
  ∀(d i k:Nat),n=i+d→d<k→F k i=some (cond ((List.range' i d).all ok) (.inr ()) (.inl b))
 |0,i,0,_,hk=>by omega
 |0,i,k+1,hi,_=>by
  obtain rfl:n=i:=by omega
  exact a k
 |d+1,i,0,_,hk=>by omega
 |d+1,i,k+1,hi,hk=>by
  rw[h k i (by omega),List.range'_succ,List.all_cons];cases ok i with
  |false=>rfl
  |true=>rw[Bool.true_and];exact WR F n ok b h a d (i+1) k (by omega) (by omega)
theorem O2{α:Type}(p:α→Bool)(xs:List α)(ok:Nat→Bool)(a:∀i (hi:i<xs.length),ok i=p xs[i]):∀(d i:Nat),xs.length=i+d→(List.range' i d).all ok=(xs.drop i).all p
 |0,i,h=>by rw[List.drop_eq_nil_of_le (by omega)];rfl
 |d+1,i,h=>by
  have hi:i<xs.length:=by omega
  rw[List.range'_succ,List.all_cons,List.drop_eq_getElem_cons hi,List.all_cons,a i hi];rw[O2 p xs ok a d (i+1) (by omega)]
theorem K2{α β:Type}(xs:List α)(F:Nat→Nat→Option (β⊕Unit))(ok:α→Bool)(b:β)(h:∀m i (hi:i<xs.length),F (m+1) i=cond (ok xs[i]) (F m (i+1)) (some (.inl b)))(a:∀m,F (m+1) xs.length=some (.inr ()))
  {k:Nat}(hk:xs.length<k):F k 0=some (cond (xs.all ok) (.inr ()) (.inl b)):=by
 by_cases c:xs.length=0
 ·obtain rfl:=List.eq_nil_of_length_eq_zero c;obtain⟨k,rfl⟩:∃k',k=k'+1:=⟨k-1,by omega⟩;exact a k
 ·have a0:α:=xs[0]'(by omega);have e:=O2 ok xs (fun i=>ok (xs.getD i a0)) (fun i hi=>by simp[List.getElem?_eq_getElem hi]) xs.length 0 (by omega);rw[List.drop_zero] at e;rw[←e];refine WR F xs.length (fun i=>ok (xs.getD i a0)) b (fun m i hi=>?_) a xs.length 0 k (by omega) hk;have:=h m i hi;simpa[List.getElem?_eq_getElem hi] using this
theorem L4:∀(l:List Int) (s:Int),l.foldl (· +·) s=s+l.sum
 |[],s=>by simp
 |x::l,s=>by rw[List.foldl_cons,L4 l,List.sum_cons];omega
theorem Ml{a b:Int}(ha:a≤0)(hb:0≤b):∀l:List Int,(∀x∈l,a≤x∧x≤b)→a*l.length≤l.sum∧l.sum≤b*l.length
 |[],_=>by simp
 |x::l,h=>by
  have h1:=h x (List.mem_cons_self ..);have h2:=Ml ha hb l fun y c=>h y (List.mem_cons_of_mem _ c);rw[List.sum_cons,List.length_cons];have d:a*((l.length+1:Nat):Int)=a*l.length+a:=by rw[Int.natCast_add,Int.mul_add];simp
  have e:b*((l.length+1:Nat):Int)=b*l.length+b:=by rw[Int.natCast_add,Int.mul_add];simp
  omega
def run {σ α:Type} (cb:σ→α→Option (Bool×σ)):List α→σ→Option (Bool×σ)
 |[],s=>some (true,s)
 |x::l,s=>(cb s x).bind fun r=>cond r.1 (run cb l r.2) (some (false,r.2))
theorem run_pure{σ α:Type}{cb:σ→α→Option (Bool×σ)}{ok:α→Bool}:∀(l:List α) (s:σ),(∀x∈l,∀s,cb s x=some (ok x,s))→run cb l s=some (l.all ok,s)
 |[],s,_=>rfl
 |x::l,s,h=>by
  rw[run,bd (h x (List.mem_cons_self ..) s),List.all_cons];cases ok x with
  |false=>rfl
  |true=>exact run_pure l s fun y a=>h y (List.mem_cons_of_mem _ a)
theorem SH{σ α:Type}(F:Nat→Int→σ→Option ((Int×σ)⊕σ))(cb:σ→α→Option (Bool×σ))(p:List α)
  (a:∀m i s,F (m+1) i s=cond (decide (i<(p.length:Int))) ((idx p i).bind fun x=>(((cb s x).bind fun r=>some (!r.1,r.2)).bind fun r=>some (r.1,r.2)).bind fun r=>cond r.1 (some (.inl (i,r.2))) ((i64 (i+1)).bind fun _=>F m (i+1) r.2)) (some (.inr s)))
  (c:p.length≤5000):∀(n m i:Nat) (s:σ),p.length=i+n→n<m→
  (((F m (i:Int) s).bind fun z=>Sum.elim (fun q=>some (q.1,q.2)) (fun q=>some (((-1:Int)),q)) z).bind fun r=>some (decide ((0:Int)≤r.1),r.2)).bind (fun r=>some (!r.1,r.2))=run cb (p.drop i) s
 |n,0,i,s,h,hm=>by omega
 |0,m+1,i,s,h,hm=>by
  rw[a,cf (df (by omega)),List.drop_eq_nil_of_le (by omega)];rfl
 |n+1,m+1,i,s,h,hm=>by
  have hi:i<p.length:=by omega
  rw[a,ct (dt (by omega)),Cf hi,List.drop_eq_getElem_cons hi,run];cases cb s p[i] with
  |none=>rfl
  |some r=>
   obtain⟨b,s2⟩:=r;simp only[Option.bind_some];cases b with
   |false=>
    rw[nf];show some (!decide ((0:Int)≤(i:Int)),s2)=some (false,s2);rw[dt (by omega)];rfl
   |true=>
    rw[nt,BW (by omega) (by omega),DM i,ct rfl];exact SH F cb p a c n m (i+1) s2 (by omega) (by omega)
theorem JB{σ α:Type}{F:Nat→Int→σ→Option ((Int×σ)⊕σ)}{cb:σ→α→Option (Bool×σ)}{p:List α}
  (a:∀m i s,F (m+1) i s=cond (decide (i<(p.length:Int))) ((idx p i).bind fun x=>(((cb s x).bind fun r=>some (!r.1,r.2)).bind fun r=>some (r.1,r.2)).bind fun r=>cond r.1 (some (.inl (i,r.2))) ((i64 (i+1)).bind fun _=>F m (i+1) r.2)) (some (.inr s)))
  (b:p.length≤900){K:Nat}(hK:1000≤K)(s:σ):
  (((F K (0:Int) s).bind fun z=>Sum.elim (fun q=>some (q.1,q.2)) (fun q=>some (((-1:Int)),q)) z).bind fun r=>some (decide ((0:Int)≤r.1),r.2)).bind (fun r=>some (!r.1,r.2))=run cb p s:=
 SH F cb p a (by omega) p.length K 0 s (by omega) (by omega)
section
variable{K:Nat}(hK:1000≤K)
include hK
theorem Sj{σ:Type}(cb:σ→AN→Option (Bool×σ))(p:List AN)(a:p.length≤900)(s:σ):I2 K cb p s=run cb p s:=
 JB (F:=Fa (fun(st:σ) (x:AN)=>(Hx K cb x st).bind fun r=>some (r.1,r.2)) p) (fun _ _ _=>rfl) a hK s
theorem TY{σ:Type}(cb:σ→List Int→Option (Bool×σ))(p:List (List Int))(a:p.length≤900)(s:σ):Jr K cb p s=run cb p s:=
 JB (F:=Ft (fun(st:σ) (x:List Int)=>(HX K cb x st).bind fun r=>some (r.1,r.2)) p) (fun _ _ _=>rfl) a hK s
theorem Sk{σ:Type}(cb:σ→Cx→Option (Bool×σ))(p:List Cx)(a:p.length≤900)(s:σ):I3 K cb p s=run cb p s:=
 JB (F:=Fb (fun(st:σ) (x:Cx)=>(Hz K cb x st).bind fun r=>some (r.1,r.2)) p) (fun _ _ _=>rfl) a hK s
theorem Uy{σ:Type}(cb:σ→Int→Option (Bool×σ))(p:List Int)(a:p.length≤900)(s:σ):JO K cb p s=run cb p s:=
 JB (F:=EM (fun(st:σ) (x:Int)=>(Ib K cb x st).bind fun r=>some (r.1,r.2)) p) (fun _ _ _=>rfl) a hK s
theorem Rk{σ:Type}(cb:σ→BK→Option (Bool×σ))(p:List BK)(a:p.length≤900)(s:σ):II K cb p s=run cb p s:=
 JB (F:=Fe (fun(st:σ) (x:BK)=>(G9 K cb x st).bind fun r=>some (r.1,r.2)) p) (fun _ _ _=>rfl) a hK s
theorem Rl{σ:Type}(cb:σ→BZ→Option (Bool×σ))(p:List BZ)(a:p.length≤900)(s:σ):IJ K cb p s=run cb p s:=
 JB (F:=Ff (fun(st:σ) (x:BZ)=>(Ha K cb x st).bind fun r=>some (r.1,r.2)) p) (fun _ _ _=>rfl) a hK s
theorem Sm{σ:Type}(cb:σ→B7→Option (Bool×σ))(p:List B7)(a:p.length≤900)(s:σ):I5 K cb p s=run cb p s:=
 JB (F:=Fu (fun(st:σ) (x:B7)=>(HD K cb x st).bind fun r=>some (r.1,r.2)) p) (fun _ _ _=>rfl) a hK s
theorem TZ{σ:Type}(cb:σ→Int→Option (Bool×σ))(p:List Int)(a:p.length≤900)(s:σ):Js K cb p s=run cb p s:=
 JB (F:=EM (fun(st:σ) (x:Int)=>(HY K cb x st).bind fun r=>some (r.1,r.2)) p) (fun _ _ _=>rfl) a hK s
end
theorem Kh(K:Nat)(n a b:Int):Cs K n a b=some (Ef n a b):=by unfold Cs Ef;cases decide (a≤n)<;>rfl
theorem Ld(K:Nat)(n a b:Int):GZ K n a b=some (Ef n a b):=by unfold GZ Ef;cases decide (a≤n)<;>rfl
theorem IA(K:Nat)(n a b:Int):Ex K n a b=some (Ef n a b):=by unfold Ex Ef;cases decide (a≤n)<;>rfl
def Km (lo hi a b:Int):Bool:=decide (a≤lo)&&(decide (lo≤hi)&&decide (hi≤b))
theorem SI{lo hi a b:Int}:Km lo hi a b=true↔a≤lo∧lo≤hi∧hi≤b:=by simp[Km]
theorem KP(K:Nat)(r:AN)(a b:Int):ED K r a b=some (Km r.Lo r.Hi a b):=by
 unfold ED Km;cases decide (a≤r.Lo)
 ·rfl
 ·cases decide (r.Lo≤r.Hi)<;>rfl
theorem Oq(K:Nat)(r:AN):Fy K r=some (Km r.Lo r.Hi 0 100):=KP K r 0 100
theorem Aa5(K:Nat)(r:AN)(b:Int):I4 K r b=some (Km r.Lo r.Hi 0 b):=KP K r 0 b
theorem Rm{K:Nat}(hK:1000≤K)(l:List Int)(hl:l.length≤100)(hb:∀x∈l,0≤x∧x≤10000):F7 K l=some l.sum:=by
 unfold F7;have h:DL l K 0 0=some (l.foldl (· +·) 0):=O1 l (fun m s i=>DL l m s (i:Int)) (· +·) (fun i s=>0≤s∧s≤10000*(i:Int)) id (fun i s hi hs=>by have:=hb _ (List.getElem_mem hi);omega)
  (fun m i s hi hs=>by
   have a:=hb _ (List.getElem_mem hi);show DL l (m+1) s (i:Int)=_;rw[DL.eq_2,ct (dt (by omega)),Cf hi,BW (by omega) (by omega),BW (by omega) (by omega),DM i])
  (fun m s _=>by
   show DL l (m+1) s (l.length:Int)=_;rw[DL.eq_2,cf (df (by omega))];rfl) (by omega) (by omega)
 rw[bd h,L4,Int.zero_add]
theorem Uz{K:Nat}(hK:1000≤K)(l:List Int)(hl:l.length≤100)(hb:∀x∈l,0≤x∧x≤10000):JN K l=some l.sum:=by
 unfold JN;have h:FV l K 0 0=some (l.foldl (· +·) 0):=O1 l (fun m s i=>FV l m s (i:Int)) (· +·) (fun i s=>0≤s∧s≤10000*(i:Int)) id (fun i s hi hs=>by have:=hb _ (List.getElem_mem hi);omega)
  (fun m i s hi hs=>by
   have a:=hb _ (List.getElem_mem hi);show FV l (m+1) s (i:Int)=_;rw[FV.eq_2,ct (dt (by omega)),Cf hi,BW (by omega) (by omega),BW (by omega) (by omega),DM i])
  (fun m s _=>by
   show FV l (m+1) s (l.length:Int)=_;rw[FV.eq_2,cf (df (by omega))];rfl) (by omega) (by omega)
 rw[bd h,L4,Int.zero_add]
def KB(c:Be)(l:List Int):Bool:=l.all (fun x=>Ef x 0 30)&&(l.length==c.Ax.length)
def KC(c:Be)(l:List Int):Bool:=KB c l&&decide (0<l.sum)
def JC(c:Be)(t:Cx):Bool:=Ef t.Number 0 ((cond t.BV c.AX.length c.Ax.length:Nat)-1)&&Km t.Bm t.Bn 0 100
def Dw(r:AN):Int:=r.Hi-r.Lo+1
def GN(l:List AN):Int:=l.foldl (fun n r=>n*Dw r) 1
def GO(c:Be):Int:=
 if 3<c.Ax.length∨3<c.AX.length∨5<c.AP.length then 3
 else if c.Ax.length=0 then 1
 else if !(c.Ax.all fun r=>Km r.Lo r.Hi 0 100) then 1
 else if !(c.AX.all (KC c)) then 1
 else if !(c.AP.all (JC c)) then 1
 else if 2000<GN c.Ax then 3 else 0
theorem Nu{c:Be}{l:List Int}(h:KB c l=true):l.length=c.Ax.length∧∀x∈l,0≤x∧x≤30:=by
 unfold KB at h;rw[Bool.and_eq_true,List.all_eq_true,beq_iff_eq] at h;exact⟨h.2,fun x a=>DX.1 (h.1 x a)⟩
theorem ZJ(a b:Nat):((a:Int)==(b:Int))=(a==b):=by rw[Bool.eq_iff_iff,beq_iff_eq,beq_iff_eq];omega
theorem UA{K:Nat}(hK:1000≤K)(c:Be)(l:List Int)(hl:l.length≤100):Gv K c l=some (KB c l):=by
 unfold Gv;have h:Dc K l K 0=_:=K2 l (fun m i=>Dc K l m (i:Int)) (fun x=>Ef x 0 30) false (fun m i hi=>by
   show Dc K l (m+1) (i:Int)=_;rw[Dc.eq_2,ct (dt (by omega)),Cf hi,bd (Kh ..)];cases Ef l[i] 0 30 with
   |false=>rw[nf,cf rfl]
   |true=>rw[nt,BW (by omega) (by omega),DM i,ct rfl])
  (fun m=>by
   show Dc K l (m+1) (l.length:Int)=_;rw[Dc.eq_2,cf (df (by omega))]) (k:=K) (by omega)
 rw[bd h];unfold KB;cases l.all (fun x=>Ef x 0 30) with
 |false=>rw[cf rfl,Bool.false_and];rfl
 |true=>
  rw[ct rfl,Bool.true_and,←ZJ];rfl
def IG(r:AN):Prop:=0≤r.Lo∧r.Lo≤r.Hi∧r.Hi≤100
theorem Xn{r:AN}:Km r.Lo r.Hi 0 100=true↔IG r:=SI
theorem Nv(K:Nat){r:AN}(h:IG r):FR K r=some (Dw r):=by
 unfold IG at h;unfold FR Dw;rw[BW (by omega) (by omega),BW (by omega) (by omega)]
theorem Xo(K:Nat){r:AN}(h:IG r):IH K r=some (Dw r):=Nv K h
theorem Xp(K:Nat){r:AN}(h:IG r):Iw K r=some (Dw r):=Nv K h
theorem Iq{r:AN}(h:IG r):1≤Dw r∧Dw r≤101:=by unfold IG at h;unfold Dw;omega
theorem JZ{a b x y:Int}(ha:0≤a)(c:a≤x)(hb:0≤b)(d:b≤y):0≤a*b∧a*b≤x*y:=
 ⟨Int.mul_nonneg ha hb,Int.mul_le_mul c d hb (by omega)⟩
theorem foldl_min{C:Int}(b:0≤C):∀(l:List AN) (s:Int),(∀r∈l,IG r)→0≤s→l.foldl (fun n r=>min C (n*Dw r)) (min C s)=min C (l.foldl (fun n r=>n*Dw r) s)
 |[],s,_,_=>rfl
 |r::l,s,h,hs=>by
  have hr:=Iq (h r (List.mem_cons_self ..));rw[List.foldl_cons,List.foldl_cons];have e:min C (min C s*Dw r)=min C (s*Dw r):=by
   rcases Int.le_total C s with a|a
   ·rw[Int.min_eq_left a];have h1:C*1≤C*Dw r:=Int.mul_le_mul_of_nonneg_left hr.1 b;have h2:s*1≤s*Dw r:=Int.mul_le_mul_of_nonneg_left hr.1 hs;rw[Int.min_eq_left (by omega),Int.min_eq_left (by omega)]
   ·rw[Int.min_eq_right a]
  rw[e];exact foldl_min b l (s*Dw r) (fun y c=>h y (List.mem_cons_of_mem _ c)) (Int.mul_nonneg hs (by omega))
theorem Qg:∀(l:List AN) (s:Int),(∀r∈l,IG r)→1≤s→1≤l.foldl (fun n r=>n*Dw r) s
 |[],s,_,hs=>hs
 |r::l,s,h,hs=>by
  have hr:=Iq (h r (List.mem_cons_self ..));rw[List.foldl_cons];refine Qg l _ (fun y a=>h y (List.mem_cons_of_mem _ a)) ?_;have h2:s*1≤s*Dw r:=Int.mul_le_mul_of_nonneg_left hr.1 (by omega);omega
theorem Ot{l:List AN}(h:(l.all fun r=>Km r.Lo r.Hi 0 100)=true):∀r∈l,IG r:=fun r hr=>Xn.1 (List.all_eq_true.1 h r hr)
theorem KD{a b:Int}(h:a≠b):(a==b)=false:=by rw[Bool.eq_false_iff];intro g;exact h (beq_iff_eq.1 g)
theorem H3{a b:Int}(h:a=b):(a==b)=true:=beq_iff_eq.2 h
theorem JD{a b:Int}(h:a=b):(a !=b)=false:=by rw[h];simp
theorem Jo{a b:Int}(h:a≠b):(a !=b)=true:=by simpa using h
section
variable{K:Nat}(hK:1000≤K)
include hK
theorem Rn(c:Be)(hl:c.Ax.length≤100)(h:∀r∈c.Ax,IG r):EE K c=some (min 3000 (GN c.Ax)):=by
 unfold EE;have a:DB K c K 1 0=some (c.Ax.foldl (fun n r=>min 3000 (n*Dw r)) 1):=O1 c.Ax (fun m s i=>DB K c m s (i:Int)) (fun n r=>min 3000 (n*Dw r)) (fun _ s=>0≤s∧s≤3000) id
  (fun i s hi hs=>by
   have hr:=Iq (h _ (List.getElem_mem hi));have:=JZ hs.1 hs.2 (by omega:0≤Dw c.Ax[i]) hr.2;omega)
  (fun m i s hi hs=>by
   show DB K c (m+1) s (i:Int)=_;have hr:=Iq (h _ (List.getElem_mem hi));have:=JZ hs.1 hs.2 (by omega:0≤Dw c.Ax[i]) hr.2;rw[DB.eq_2,ct (dt (by omega)),Cf hi,bd (Nv K (h _ (List.getElem_mem hi))),BW (by omega) (by omega),BW (by omega) (by omega),DM i])
  (fun m s _=>by
   show DB K c (m+1) s (c.Ax.length:Int)=_;rw[DB.eq_2,cf (df (by omega))];rfl) (by omega) (by omega)
 rw[bd a];have:=foldl_min (C:=3000) (by omega) c.Ax 1 h (by omega);rw[Int.min_eq_right (by omega)] at this;rw[this];rfl
theorem UB(a b:Int):Hj K [a,b]=some (min a b):=by
 obtain⟨k,rfl⟩:∃k,K=k+3:=⟨K-3,by omega⟩;unfold Hj;have c:idx [a,b] (0:Int)=some a:=rfl;have d:idx [a,b] (1:Int)=some b:=rfl;rw[cf (df (by simp)),bd c,Ge.eq_2,ct (dt (by simp)),bd d,BW (by omega) (by omega),Ge.eq_2,cf (df (by simp))];rfl
theorem ZK(a b:Int):IQ K [a,b]=some (min a b):=by
 unfold IQ;rw[bd (UB hK a b)]
theorem UC(c:Be)(hl:c.Ax.length≤100)(h:∀r∈c.Ax,IG r):C9 K c K 1 0=some (min 2001 (GN c.Ax)):=by
 have a:C9 K c K 1 0=some (c.Ax.foldl (fun n r=>min 2001 (n*Dw r)) 1):=O1 c.Ax (fun m s i=>C9 K c m s (i:Int)) (fun n r=>min 2001 (n*Dw r)) (fun _ s=>0≤s∧s≤2001) id
  (fun i s hi hs=>by
   have hr:=Iq (h _ (List.getElem_mem hi));have:=JZ hs.1 hs.2 (by omega:0≤Dw c.Ax[i]) hr.2;omega)
  (fun m i s hi hs=>by
   show C9 K c (m+1) s (i:Int)=_;have hr:=Iq (h _ (List.getElem_mem hi));have:=JZ hs.1 hs.2 (by omega:0≤Dw c.Ax[i]) hr.2;rw[C9.eq_2,ct (dt (by omega)),Cf hi,bd (Xo K (h _ (List.getElem_mem hi))),BW (by omega) (by omega),bd (ZK hK _ _),BW (by omega) (by omega),DM i,Int.min_comm])
  (fun m s _=>by
   show C9 K c (m+1) s (c.Ax.length:Int)=_;rw[C9.eq_2,cf (df (by omega))];rfl) (by omega) (by omega)
 rw[a];have:=foldl_min (C:=2001) (by omega) c.Ax 1 h (by omega);rw[Int.min_eq_right (by omega)] at this;rw[this];rfl
theorem VN(c:Be)(hl:c.Ax.length≤100):Dt K c K 0=some (cond (c.Ax.all fun r=>Km r.Lo r.Hi 0 100) (.inr ()) (.inl 1)):=
 K2 c.Ax (fun m i=>Dt K c m (i:Int)) (fun r=>Km r.Lo r.Hi 0 100) 1
  (fun m i hi=>by
   show Dt K c (m+1) (i:Int)=_;rw[Dt.eq_2,ct (dt (by omega)),Cf hi,bd (KP ..)];cases Km c.Ax[i].Lo c.Ax[i].Hi 0 100 with
   |false=>rw[nf,cf rfl]
   |true=>rw[nt,BW (by omega) (by omega),DM i,ct rfl])
  (fun m=>by
   show Dt K c (m+1) (c.Ax.length:Int)=_;rw[Dt.eq_2,cf (df (by omega))]) (by omega)
theorem UD(c:Be)(hl:c.AX.length≤100)(e:∀l∈c.AX,l.length≤100):CZ K c K 0=some (cond (c.AX.all (KC c)) (.inr ()) (.inl 1)):=
 K2 c.AX (fun m i=>CZ K c m (i:Int)) (KC c) 1
  (fun m i hi=>by
   show CZ K c (m+1) (i:Int)=_;have d:=e _ (List.getElem_mem hi);rw[CZ.eq_2,ct (dt (by omega)),Cf hi,bd (UA hK c _ d)];unfold KC;cases hs:KB c c.AX[i] with
   |false=>rw[nf,Bool.false_and,cf rfl]
   |true=>
    obtain⟨h1,h2⟩:=Nu hs;have f:=Ml (a:=0) (b:=30) (by omega) (by omega) _ h2;rw[nt,Cf hi,bd (Rm hK _ d (fun x d=>by have:=h2 x d;omega)),Bool.true_and]
    by_cases h0:c.AX[i].sum=0
    ·rw[ct (by simp[h0]),cf (df (by omega))]
    ·rw[cf (by simp[h0]),ct (dt (by omega)),BW (by omega) (by omega),DM i])
  (fun m=>by
   show CZ K c (m+1) (c.AX.length:Int)=_;rw[CZ.eq_2,cf (df (by omega))]) (by omega)
theorem UE(c:Be)(hl:c.AP.length≤100)(hh:c.Ax.length≤100)(a:c.AX.length≤100):CL K c K 0=some (cond (c.AP.all (JC c)) (.inr ()) (.inl 1)):=
 K2 c.AP (fun m i=>CL K c m (i:Int)) (JC c) 1
  (fun m i hi=>by
   show CL K c (m+1) (i:Int)=_;rw[CL.eq_2,ct (dt (by omega)),Cf hi];unfold JC;cases c.AP[i].BV with
   |true=>
    rw[ct rfl,BW (by omega) (by omega),bd (Kh ..),ct rfl];cases Ef c.AP[i].Number 0 ((c.AX.length:Nat)-1) with
    |false=>rw[nf,Bool.false_and,cf rfl]
    |true=>
     rw[nt,bd (KP ..),Bool.true_and];cases Km c.AP[i].Bm c.AP[i].Bn 0 100 with
     |false=>rw[nf,cf rfl]
     |true=>rw[nt,BW (by omega) (by omega),DM i,ct rfl]
   |false=>
    rw[cf rfl,BW (by omega) (by omega),bd (Kh ..),cf rfl];cases Ef c.AP[i].Number 0 ((c.Ax.length:Nat)-1) with
    |false=>rw[nf,Bool.false_and,cf rfl]
    |true=>
     rw[nt,bd (KP ..),Bool.true_and];cases Km c.AP[i].Bm c.AP[i].Bn 0 100 with
     |false=>rw[nf,cf rfl]
     |true=>rw[nt,BW (by omega) (by omega),DM i,ct rfl])
  (fun m=>by
   show CL K c (m+1) (c.AP.length:Int)=_;rw[CL.eq_2,cf (df (by omega))]) (by omega)
theorem Ro(c:Be)(hh:c.Ax.length≤100)(a:c.AX.length≤100)(e:c.AP.length≤100)(f:∀l∈c.AX,l.length≤100):EW K c=some (GO c):=by
 unfold EW GO
 by_cases h1:3<c.Ax.length
 ·rw[ct (dt (by omega)),if_pos (.inl h1)]
 rw[cf (df (by omega))]
 by_cases h2:3<c.AX.length
 ·rw[ct (dt (by omega)),if_pos (.inr (.inl h2))]
 rw[cf (df (by omega))]
 by_cases g:5<c.AP.length
 ·rw[ct (dt (by omega)),if_pos (.inr (.inr g))]
 rw[cf (df (by omega)),if_neg (by omega)]
 by_cases b:c.Ax.length=0
 ·rw[ct (H3 (by omega)),if_pos b]
 rw[cf (KD (by omega)),if_neg b,bd (VN hK c hh)];cases h:c.Ax.all fun r=>Km r.Lo r.Hi 0 100 with
 |false=>rw[cf rfl,if_pos (by rfl)];rfl
 |true=>
  rw[ct rfl,if_neg (by simp)];show Option.bind (CZ K c K 0) _=_;rw[bd (UD hK c a f)];cases c.AX.all (KC c) with
  |false=>rw[cf rfl,if_pos (by rfl)];rfl
  |true=>
   rw[ct rfl,if_neg (by simp)];show Option.bind (CL K c K 0) _=_;rw[bd (UE hK c e hh a)];cases c.AP.all (JC c) with
   |false=>rw[cf rfl,if_pos (by rfl)];rfl
   |true=>
    rw[ct rfl,if_neg (by simp)];show Option.bind (EE K c) _=_;rw[bd (Rn hK c hh (Ot h))]
    by_cases d:2000<GN c.Ax
    ·rw[ct (dt (by omega)),if_pos d]
    ·rw[cf (df (by omega)),if_neg d]
theorem UF(c:Be)(l:List Int)(hl:l.length≤100):Gs K c l=some (KB c l):=by
 unfold Gs KB;rw[ZJ,Uy hK _ _ (by omega),run_pure (ok:=fun x=>Ef x 0 30) l () (fun x _ s=>by unfold Jd;rw[bd (Ld ..)];rfl)];cases l.length==c.Ax.length with
 |false=>rw[cf rfl,Bool.and_false]
 |true=>rw[ct rfl,Bool.and_true];rfl
theorem VO(c:Be)(l:List Int)(hl:l.length≤100):FZ K c l=some (KC c l):=by
 unfold FZ KC;rw[bd (UF hK c l hl)];cases hs:KB c l with
 |false=>rw[cf rfl,Bool.false_and]
 |true=>
  have h2:=(Nu hs).2;rw[ct rfl,bd (Uz hK l hl (fun x a=>by have:=h2 x a;omega)),Bool.true_and]
theorem Xq(c:Be)(t:Cx)(hh:c.Ax.length≤100)(a:c.AX.length≤100):Gf K c t=some (JC c t):=by
 unfold Gf JC;cases t.BV with
 |true=>
  rw[ct rfl,BW (by omega) (by omega),bd (Ld ..),ct rfl];cases Ef t.Number 0 ((c.AX.length:Nat)-1) with
  |false=>rw[cf rfl,Bool.false_and]
  |true=>rw[ct rfl,bd (Oq ..),Bool.true_and]
 |false=>
  rw[cf rfl,BW (by omega) (by omega),bd (Ld ..),cf rfl];cases Ef t.Number 0 ((c.Ax.length:Nat)-1) with
  |false=>rw[cf rfl,Bool.false_and]
  |true=>rw[ct rfl,bd (Oq ..),Bool.true_and]
theorem MZ(c:Be)(hh:c.Ax.length≤100)(e:c.AX.length≤100)(i:c.AP.length≤100)(f:∀l∈c.AX,l.length≤100):EA K c=some (GO c):=by
 unfold EA GO
 by_cases h1:3<c.Ax.length
 ·rw[ct (dt (by omega)),if_pos (.inl h1)]
 rw[cf (df (by omega))]
 by_cases h2:3<c.AX.length
 ·rw[ct (dt (by omega)),if_pos (.inr (.inl h2))]
 rw[cf (df (by omega))]
 by_cases g:5<c.AP.length
 ·rw[ct (dt (by omega)),if_pos (.inr (.inr g))]
 rw[cf (df (by omega)),if_neg (by omega)]
 by_cases a:c.Ax.length=0
 ·rw[ct (H3 (by omega)),if_pos a]
 rw[cf (KD (by omega)),if_neg a,Sj hK _ _ (by omega),run_pure (ok:=fun r=>Km r.Lo r.Hi 0 100) c.Ax () (fun x _ s=>by rw[bd (Oq ..)]),Option.bind_some];cases h:c.Ax.all fun r=>Km r.Lo r.Hi 0 100 with
 |false=>rw[nf,if_pos (by rfl)]
 |true=>
  rw[nt,if_neg (by simp),TY hK _ _ (by omega),run_pure (ok:=KC c) c.AX () (fun x b s=>by rw[bd (VO hK c x (f x b))]),Option.bind_some];cases c.AX.all (KC c) with
  |false=>rw[nf,if_pos (by rfl)]
  |true=>
   rw[nt,if_neg (by simp),Sk hK _ _ (by omega),run_pure (ok:=JC c) c.AP () (fun x b s=>by rw[bd (Xq hK c x hh e)]),Option.bind_some];cases c.AP.all (JC c) with
   |false=>rw[nf,if_pos (by rfl)]
   |true=>
    rw[nt,if_neg (by simp),bd (UC hK c hh (Ot h))]
    by_cases d:2000<GN c.Ax
    ·rw[ct (dt (by omega)),if_pos d]
    ·rw[cf (df (by omega)),if_neg d]
end
def AE.C(t:AE):Be:=⟨t.Ak,t.Ab,t.Aw⟩
def H6:Int→Int→List BK→Bool
 |_,_,[]=>true
 |s,p,g::l=>Ef g.AV 0 (s-1)&&(Ef g.B4 0 p&&H6 g.AV g.B4 l)
def JE(t:AE)(o:BZ):Bool:=Ef o.Cw 0 ((t.AB.length:Nat)-1)&&Ef o.Ch 1 90
def KE(t:AE)(n:B7):Bool:=Ef n.BV 0 ((t.Ab.length:Nat)-1)&&Km n.Cm n.Cn 0 9000
def Gy(t:AE):Int:=
 if GO t.C≠0 then GO t.C
 else if 3<t.AB.length∨3<t.AF.length∨5<t.AM.length then 3
 else if !(Ef t.Flat 0 100) then 1
 else if t.AB.length=0 then 1
 else if !(H6 101 100 t.AB) then 1
 else if !(t.AF.all (JE t)) then 1
 else if !(t.AM.all (KE t)) then 1 else 0
def VP (c:Be):Prop:=c.Ax.length≤100∧c.AX.length≤100∧c.AP.length≤100∧∀l∈c.AX,l.length≤100
def Rp(t:AE):Prop:=VP t.C∧t.AB.length≤100∧t.AF.length≤100∧t.AM.length≤100
section
variable{K:Nat}(hK:1000≤K)
include hK
theorem Nw(t:AE)(hl:t.AB.length≤100):∀(n m i:Nat) (s p:Int),t.AB.length=i+n→n<m→(i=0→s=101∧p=100)→
  (∀h:0<i,∃h2:i-1<t.AB.length,s=t.AB[i-1].AV∧p=t.AB[i-1].B4∧s≤100∧p≤100)→
  D0 K t m (i:Int)=some (cond (H6 s p (t.AB.drop i)) (.inr ()) (.inl 1))
 |n,0,i,s,p,h,hm,_,_=>by omega
 |0,m+1,i,s,p,h,hm,_,_=>by
  rw[D0.eq_2,cf (df (by omega)),List.drop_eq_nil_of_le (by omega)];rfl
 |n+1,m+1,i,s,p,h,hm,h0,h1=>by
  have hi:i<t.AB.length:=by omega
  rw[D0.eq_2,ct (dt (by omega)),Cf hi,bd (Kh ..),List.drop_eq_getElem_cons hi,H6];have sp:s≤101∧p≤100:=by
   by_cases e:i=0
   ·have:=h0 e;omega
   ·obtain⟨_,_,_,b⟩:=h1 (by omega);omega
  by_cases hs:0≤t.AB[i].AV∧t.AB[i].AV≤100
  ·rw[DX.2 hs,nt,bd (Kh ..)]
   by_cases a:0≤t.AB[i].B4∧t.AB[i].B4≤100
   ·rw[DX.2 a,nt]
    by_cases e:i=0
    ·obtain⟨rfl,rfl⟩:=h0 e;rw[cf (df (by omega)),BW (by omega) (by omega),DM i,Nw t hl n m (i+1) _ _ (by omega) (by omega) (by omega) (fun _=>⟨by simpa using hi,rfl,rfl,hs.2,a.2⟩),
      DX.2 ⟨hs.1,by omega⟩,DX.2 a,Bool.true_and,Bool.true_and]
    ·obtain⟨h2,rfl,rfl,b⟩:=h1 (by omega);have c:(i:Int)-1=((i-1:Nat):Int):=by omega
     rw[ct (dt (by omega)),BW (by omega) (by omega),c,Cf h2]
     by_cases g1:t.AB[i-1].AV≤t.AB[i].AV
     ·rw[ct (dt g1),IX.2 (by omega),Bool.false_and,cf rfl]
     ·rw[cf (df g1),BW (by omega) (by omega),Cf h2]
      by_cases g2:t.AB[i-1].B4<t.AB[i].B4
      ·rw[ct (dt g2),DX.2 ⟨hs.1,by omega⟩,IX.2 (by omega),Bool.false_and,Bool.true_and,cf rfl]
      ·rw[cf (df g2),BW (by omega) (by omega),DM i,Nw t hl n m (i+1) _ _ (by omega) (by omega) (by omega) (fun _=>⟨by simpa using hi,rfl,rfl,hs.2,a.2⟩),
        DX.2 ⟨hs.1,by omega⟩,DX.2 ⟨a.1,by omega⟩,Bool.true_and,Bool.true_and]
   ·rw[IX.2 a,nf];have:Ef t.AB[i].B4 0 p=false:=IX.2 (by omega);rw[this,Bool.false_and,Bool.and_false,cf rfl]
  ·rw[IX.2 hs,nf,IX.2 (by omega),Bool.false_and,cf rfl]
theorem O3:∀(l:List BK) (g:BK),0≤g.AV∧g.AV≤101→(run (fun(st:BK) (x:BK)=>(Fv K x st).bind fun r=>some (r.1,r.2)) l g).map (·.1)=some (H6 g.AV g.B4 l)
 |[],g,_=>rfl
 |x::l,g,h=>by
  rw[run,H6];unfold Fv;rw[BW (by omega) (by omega),bd (IA ..)];cases hs:Ef x.AV 0 (g.AV-1) with
  |false=>rw[cf rfl,Bool.false_and];rfl
  |true=>
   rw[ct rfl,bd (IA ..),Bool.true_and];cases Ef x.B4 0 g.B4 with
   |false=>rw[Bool.false_and];rfl
   |true=>
    have h1:=DX.1 hs;rw[Bool.true_and];exact O3 l x (by omega)
theorem Rq{α β b:Type}{x:Option (α×β)}{a:α}{f:α→Option b}(h:x.map (·.1)=some a):x.bind (fun r=>f r.1)=f a:=by
 cases x with
 |none=>cases h
 |some r=>exact congrArg f (Option.some.inj h)
theorem VQ(t:AE)(hl:t.AB.length≤100):GL K t=some (decide (0<t.AB.length)&&H6 101 100 t.AB):=by
 unfold GL
 by_cases h:0<t.AB.length
 ·rw[ct (dt (by omega)),Rk hK _ _ (by omega),dt h,Bool.true_and];exact Rq hK (f:=some) (O3 hK t.AB ⟨101,100⟩ (by simp))
 ·rw[cf (df (by omega)),df h,Bool.false_and]
theorem UG(t:AE)(a:t.AB.length≤100)(hl:t.AF.length≤100):C0 K t K 0=some (cond (t.AF.all (JE t)) (.inr ()) (.inl 1)):=
 K2 t.AF (fun m i=>C0 K t m (i:Int)) (JE t) 1
  (fun m i hi=>by
   show C0 K t (m+1) (i:Int)=_;rw[C0.eq_2,ct (dt (by omega)),Cf hi,BW (by omega) (by omega),bd (Kh ..)];unfold JE;cases Ef t.AF[i].Cw 0 ((t.AB.length:Nat)-1) with
   |false=>rw[nf,Bool.false_and,cf rfl]
   |true=>
    rw[nt,Cf hi,bd (Kh ..),Bool.true_and];cases Ef t.AF[i].Ch 1 90 with
    |false=>rw[nf,cf rfl]
    |true=>rw[nt,BW (by omega) (by omega),DM i,ct rfl])
  (fun m=>by
   show C0 K t (m+1) (t.AF.length:Int)=_;rw[C0.eq_2,cf (df (by omega))]) (by omega)
theorem UH(t:AE)(a:t.Ab.length≤100)(hl:t.AM.length≤100):C1 K t K 0=some (cond (t.AM.all (KE t)) (.inr ()) (.inl 1)):=
 K2 t.AM (fun m i=>C1 K t m (i:Int)) (KE t) 1
  (fun m i hi=>by
   show C1 K t (m+1) (i:Int)=_;rw[C1.eq_2,ct (dt (by omega)),Cf hi,BW (by omega) (by omega),bd (Kh ..)];unfold KE;cases Ef t.AM[i].BV 0 ((t.Ab.length:Nat)-1) with
   |false=>rw[nf,Bool.false_and,cf rfl]
   |true=>
    rw[nt,Cf hi,bd (KP ..),Bool.true_and];cases Km t.AM[i].Cm t.AM[i].Cn 0 9000 with
    |false=>rw[nf,cf rfl]
    |true=>rw[nt,BW (by omega) (by omega),DM i,ct rfl])
  (fun m=>by
   show C1 K t (m+1) (t.AM.length:Int)=_;rw[C1.eq_2,cf (df (by omega))]) (by omega)
theorem UI(t:AE)(hl:Rp t):Hd K t=some (Gy t):=by
 obtain⟨⟨hh,a,e,f⟩,b,g,i⟩:=hl;unfold Hd Gy;have j:EW K ⟨t.Ak,t.Ab,t.Aw⟩=some (GO t.C):=Ro hK t.C hh a e f;rw[bd j]
 by_cases h0:GO t.C=0
 ·rw[cf (JD h0),if_neg (by simp[h0])]
  by_cases h1:3<t.AB.length
  ·rw[ct (dt (by omega)),if_pos (.inl h1)]
  rw[cf (df (by omega))]
  by_cases h2:3<t.AF.length
  ·rw[ct (dt (by omega)),if_pos (.inr (.inl h2))]
  rw[cf (df (by omega))]
  by_cases k:5<t.AM.length
  ·rw[ct (dt (by omega)),if_pos (.inr (.inr k))]
  rw[cf (df (by omega)),if_neg (by omega),bd (Kh ..)];cases Ef t.Flat 0 100 with
  |false=>rw[nf,if_pos (by rfl)]
  |true=>
   rw[nt,if_neg (by simp)]
   by_cases c:t.AB.length=0
   ·rw[ct (H3 (by omega)),if_pos c]
   have d:=Nw hK t b t.AB.length K 0 101 100 (by omega) (by omega) (fun _=>⟨rfl,rfl⟩) (fun h=>by omega);rw[Int.natCast_zero,List.drop_zero] at d;rw[cf (KD (by omega)),if_neg c,bd d];cases H6 101 100 t.AB with
   |false=>rw[cf rfl,if_pos (by rfl)];rfl
   |true=>
    rw[ct rfl,if_neg (by simp)];show Option.bind (C0 K t K 0) _=_;rw[bd (UG hK t b g)];cases t.AF.all (JE t) with
    |false=>rw[cf rfl,if_pos (by rfl)];rfl
    |true=>
     rw[ct rfl,if_neg (by simp)];show Option.bind (C1 K t K 0) _=_;rw[bd (UH hK t a i)];cases t.AM.all (KE t) with
     |false=>rw[cf rfl,if_pos (by rfl)];rfl
     |true=>rw[ct rfl,if_neg (by simp)];rfl
 ·rw[ct (Jo h0),if_pos h0]
theorem Xr(t:AE)(n:Int)(a:t.Ab.length≤100):Fc K t n=some (Ef n 0 ((t.Ab.length:Nat)-1)):=by
 unfold Fc;rw[BW (by omega) (by omega),bd (IA ..)]
theorem Xs(t:AE)(o:BZ)(a:t.AB.length≤100):Gh K t o=some (JE t o):=by
 unfold Gh JE;rw[BW (by omega) (by omega),bd (IA ..)];cases Ef o.Cw 0 ((t.AB.length:Nat)-1) with
 |false=>rw[cf rfl,Bool.false_and]
 |true=>rw[ct rfl,bd (IA ..),Bool.true_and]
theorem ZL(t:AE)(o:B7)(a:t.Ab.length≤100):Gt K t o=some (KE t o):=by
 unfold Gt KE;rw[bd (Xr hK t _ a)];cases Ef o.BV 0 ((t.Ab.length:Nat)-1) with
 |false=>rw[cf rfl,Bool.false_and]
 |true=>rw[ct rfl,bd (Aa5 ..),Bool.true_and]
theorem Rr(t:AE)(hl:Rp t):Gu K t=some (Gy t):=by
 obtain⟨⟨hh,a,d,e⟩,b,j,k⟩:=hl;unfold Gu Gy;have f:EA K ⟨t.Ak,t.Ab,t.Aw⟩=some (GO t.C):=MZ hK t.C hh a d e;rw[bd f]
 by_cases h0:GO t.C=0
 ·rw[cf (JD h0),if_neg (by simp[h0])]
  by_cases h1:3<t.AB.length
  ·rw[ct (dt (by omega)),if_pos (.inl h1)]
  rw[cf (df (by omega))]
  by_cases h2:3<t.AF.length
  ·rw[ct (dt (by omega)),if_pos (.inr (.inl h2))]
  rw[cf (df (by omega))]
  by_cases g:5<t.AM.length
  ·rw[ct (dt (by omega)),if_pos (.inr (.inr g))]
  have h:Je K t.Flat=some (Ef t.Flat 0 100):=by unfold Je;rw[bd (IA ..)]
  rw[cf (df (by omega)),if_neg (by omega),bd h];cases Ef t.Flat 0 100 with
  |false=>rw[nf,if_pos (by rfl)]
  |true=>
   rw[nt,if_neg (by simp),bd (VQ hK t b)]
   by_cases c:t.AB.length=0
   ·rw[df (by omega),Bool.false_and,nf,if_pos c]
   rw[if_neg c,dt (by omega),Bool.true_and];cases H6 101 100 t.AB with
   |false=>rw[nf,if_pos (by rfl)]
   |true=>
    rw[nt,if_neg (by simp),Rl hK _ _ (by omega),run_pure (ok:=JE t) t.AF () (fun x i s=>by rw[bd (Xs hK t x b)]),Option.bind_some];cases t.AF.all (JE t) with
    |false=>rw[nf,if_pos (by rfl)]
    |true=>
     rw[nt,if_neg (by simp),Sm hK _ _ (by omega),run_pure (ok:=KE t) t.AM () (fun x i s=>by rw[bd (ZL hK t x a)]),Option.bind_some];cases t.AM.all (KE t) with
     |false=>rw[nf,if_pos (by rfl)]
     |true=>rw[nt,if_neg (by simp)]
 ·rw[ct (Jo h0),if_pos h0]
end
def GC:List AN→List Int→Bool
 |[],[]=>true
 |r::rs,x::xs=>Ef x r.Lo r.Hi&&GC rs xs
 |_,_=>false
theorem ZM(r:AN)(rs:List AN):GC (r::rs) []=false:=rfl
theorem ZN(x:Int)(xs:List Int):GC [] (x::xs)=false:=rfl
theorem UJ:GC [] []=true:=rfl
theorem Ko:∀{rs:List AN} {l:List Int},GC rs l=true→l.length=rs.length
 |[],[],_=>rfl
 |[],_::_,h=>by cases h
 |_::_,[],h=>by cases h
 |r::rs,x::xs,h=>by
  rw[GC,Bool.and_eq_true] at h;rw[List.length_cons,List.length_cons,Ko h.2]
theorem Rs:∀{rs:List AN} {l:List Int},(∀r∈rs,IG r)→GC rs l=true→∀x∈l,0≤x∧x≤100
 |[],[],_,_,x,a=>by cases a
 |[],_::_,_,h,_,_=>by cases h
 |_::_,[],_,h,_,_=>by cases h
 |r::rs,y::xs,hr,h,x,a=>by
  rw[GC,Bool.and_eq_true] at h;rcases List.mem_cons.1 a with rfl|a
  ·have h1:=DX.1 h.1;have h2:IG r:=hr r (List.mem_cons_self ..);unfold IG at h2;omega
  ·exact Rs (fun r b=>hr r (List.mem_cons_of_mem _ b)) h.2 x a
def dot:List Int→List Int→Int
 |w::ws,x::xs=>w*x+dot ws xs
 |_,_=>0
theorem Xt(l:List Int):dot l []=0:=by cases l<;>rfl
def DQ(l w:List Int):Int:=dot w l/w.sum
theorem O4:∀(w l:List Int),(∀x∈w,0≤x∧x≤30)→(∀x∈l,0≤x∧x≤100)→0≤dot w l∧dot w l≤100*w.sum
 |[],l,_,_=>by simp[dot]
 |w::ws,[],hw,_=>by
  have:=(Ml (a:=0) (b:=30) (by omega) (by omega) (w::ws) hw).1;simp only[dot];omega
 |w::ws,x::xs,hw,d=>by
  have h1:=hw w (List.mem_cons_self ..);have h2:=d x (List.mem_cons_self ..);have e:=O4 ws xs (fun y c=>hw y (List.mem_cons_of_mem _ c)) (fun y c=>d y (List.mem_cons_of_mem _ c));have f:w*x≤w*100:=Int.mul_le_mul_of_nonneg_left h2.2 h1.1;have g:=Int.mul_nonneg h1.1 h2.1;rw[dot,List.sum_cons];omega
theorem SJ{w l:List Int}(hw:∀x∈w,0≤x∧x≤30)(hl:∀x∈l,0≤x∧x≤100)(hs:0<w.sum):0≤DQ l w∧DQ l w≤100:=by
 have h:=O4 w l hw hl;unfold DQ;refine⟨Int.ediv_nonneg h.1 (by omega),?_⟩;have:=Int.ediv_le_ediv hs h.2
 rwa[Int.mul_ediv_cancel _ (by omega)] at this
def Ih (c:Be) (l:List Int) (t:Cx):Int:=cond t.BV (DQ l (c.AX.getD t.Number.toNat [])) (l.getD t.Number.toNat 0)
def O5(c:Be)(l:List Int):Bool:=c.AP.all fun t=>Ef (Ih c l t) t.Bm t.Bn
def E5(c:Be)(l:List Int):Bool:=GC c.Ax l&&O5 c l
def Lk:List AN→Int→List Int
 |[],_=>[]
 |r::rs,n=>(r.Lo+n%Dw r)::Lk rs (n/Dw r)
structure OkC (c:Be):Prop where
 len:VP c
 fault:GO c=0
 many:GN c.Ax≤150
theorem IB{c:Be}(h:GO c=0):c.Ax.length≤3∧c.AX.length≤3∧c.AP.length≤5∧0<c.Ax.length∧(∀r∈c.Ax,IG r)∧(∀l∈c.AX,KC c l=true)∧(∀t∈c.AP,JC c t=true)∧GN c.Ax≤2000:=by
 unfold GO at h;split at h
 ·omega
 rename_i h1
 split at h
 ·omega
 rename_i h2
 split at h
 ·omega
 rename_i a
 split at h
 ·omega
 rename_i b
 split at h
 ·omega
 rename_i d
 split at h
 ·omega
 rename_i e
 refine⟨by omega,by omega,by omega,by omega,Ot (by simpa using a),?_,?_,by omega⟩
 ·exact List.all_eq_true.1 (by simpa using b)
 ·exact List.all_eq_true.1 (by simpa using d)
namespace OkC
variable{c:Be}(h:OkC c)
include h
theorem hl:c.Ax.length≤3:=(IB h.fault).1
theorem cl:c.AX.length≤3:=(IB h.fault).2.1
theorem tl:c.AP.length≤5:=(IB h.fault).2.2.1
theorem h0:0<c.Ax.length:=(IB h.fault).2.2.2.1
theorem ok:∀r∈c.Ax,IG r:=(IB h.fault).2.2.2.2.1
theorem EI:∀l∈c.AX,l.length=c.Ax.length∧(∀x∈l,0≤x∧x≤30)∧0<l.sum∧l.sum≤90:=fun l hl=>by
 have h1:=(IB h.fault).2.2.2.2.2.1 l hl;unfold KC at h1;rw[Bool.and_eq_true,decide_eq_true_eq] at h1;have h2:=Nu h1.1;have d:=Ml (a:=0) (b:=30) (by omega) (by omega) l h2.2;have e:=h.hl;exact⟨h2.1,h2.2,h1.2,by omega⟩
theorem WS:∀t∈c.AP,0≤t.Number∧(t.BV=true→t.Number<c.AX.length)∧(t.BV=false→t.Number<c.Ax.length):=fun t a=>by
 have h1:=(IB h.fault).2.2.2.2.2.2.1 t a;unfold JC at h1;rw[Bool.and_eq_true] at h1;have h2:=DX.1 h1.1;refine⟨h2.1,fun e=>?_,fun e=>?_⟩
 ·rw[e,cond_true] at h2;omega
 ·rw[e,cond_false] at h2;omega
end OkC
theorem O6(r:AN)(l:List AN):GN (r::l)=Dw r*GN l:=by
 have:∀(l:List AN) (s:Int),l.foldl (fun n r=>n*Dw r) s=s*l.foldl (fun n r=>n*Dw r) 1:=by
  intro l
  induction l with
  |nil=>intro s;simp
  |cons r l ih=>intro s;rw[List.foldl_cons,List.foldl_cons,ih,ih (1*Dw r),Int.one_mul,Int.mul_assoc]
 unfold GN;rw[List.foldl_cons,this,Int.one_mul]
theorem SK:∀{rs:List AN} {l:List Int},(∀r∈rs,IG r)→GC rs l=true→∃n:Nat,(n:Int)<GN rs∧Lk rs (n:Int)=l
 |[],[],_,_=>⟨0,by simp[GN],rfl⟩
 |[],_::_,_,h=>by cases h
 |_::_,[],_,h=>by cases h
 |r::rs,x::xs,hr,h=>by
  rw[GC,Bool.and_eq_true] at h;obtain⟨n,d,e⟩:=SK (fun r b=>hr r (List.mem_cons_of_mem _ b)) h.2;have h1:=DX.1 h.1;have h2:=Iq (hr r (List.mem_cons_self ..));have a:0≤x-r.Lo∧x-r.Lo<Dw r:=by unfold Dw;omega
  have c:0≤Dw r*(n:Int):=Int.mul_nonneg (by omega) (by omega);refine⟨(x-r.Lo+Dw r*n).toNat,?_,?_⟩
  ·rw[O6];have:Dw r*((n:Int)+1)≤Dw r*GN rs:=Int.mul_le_mul_of_nonneg_left (by omega) (by omega);rw[Int.mul_add] at this;omega
  ·rw[Int.toNat_of_nonneg (by omega),Lk,Int.add_mul_emod_self_left,Int.emod_eq_of_lt a.1 a.2,Int.add_mul_ediv_left _ _ (by omega),Int.ediv_eq_zero_of_lt a.1 a.2,Int.zero_add,e]
   congr 1;omega
def EN (c:Be):List (List Int):=((List.range (GN c.Ax).toNat).map fun n:Nat=>Lk c.Ax (n:Int)).filter (E5 c)
theorem Jj{c:Be}(a:OkC c){l:List Int}:l∈EN c↔E5 c l=true:=by
 unfold EN;rw[List.mem_filter,List.mem_map];refine⟨fun h=>h.2,fun h=>⟨?_,h⟩⟩;have h1:=h;unfold E5 at h1;rw[Bool.and_eq_true] at h1;obtain⟨n,b,e⟩:=SK a.ok h1.1;exact⟨n,List.mem_range.2 (by omega),e⟩
theorem Ou{c:Be}{l:List Int}(h:E5 c l=true):GC c.Ax l=true:=by
 unfold E5 at h;rw[Bool.and_eq_true] at h;exact h.1
section
variable{K:Nat}(hK:1000≤K)
include hK
theorem Rt(c:Be)(l:List Int)(hh:c.Ax.length≤100)(hl:l.length≤100):∀(n m i:Nat),l.length=i+n→i≤c.Ax.length→n<m→
  (D6 K c l m (i:Int)).bind (fun z=>Sum.elim (fun q=>some q) (fun _=>some ((l.length:Int)==(c.Ax.length:Int))) z)=some (GC (c.Ax.drop i) (l.drop i))
 |n,0,i,h,_,hm=>by omega
 |0,m+1,i,h,hi,hm=>by
  rw[D6.eq_2,cf (df (by omega)),List.drop_eq_nil_of_le (by omega:l.length≤i)];show some ((l.length:Int)==(c.Ax.length:Int))=_
  by_cases e:i<c.Ax.length
  ·rw[List.drop_eq_getElem_cons e,KD (by omega),ZM]
  ·rw[List.drop_eq_nil_of_le (by omega),H3 (by omega),UJ]
 |n+1,m+1,i,h,hi,hm=>by
  have h1:i<l.length:=by omega
  rw[D6.eq_2,ct (dt (by omega)),List.drop_eq_getElem_cons h1]
  by_cases e:i<c.Ax.length
  ·rw[ct (dt (by omega)),Cf h1,Cf e,Cf e,bd (Kh ..),List.drop_eq_getElem_cons e,GC];cases Ef l[i] c.Ax[i].Lo c.Ax[i].Hi with
   |false=>rw[nf,Bool.false_and];rfl
   |true=>
    rw[nt,BW (by omega) (by omega),DM i,Bool.true_and];exact Rt c l hh hl n m (i+1) (by omega) (by omega) (by omega)
  ·rw[cf (df (by omega)),List.drop_eq_nil_of_le (by omega:c.Ax.length≤i)];show some ((l.length:Int)==(c.Ax.length:Int))=_;rw[KD (by omega),ZN]
theorem T0(c:Be)(l:List Int)(hh:c.Ax.length≤100)(hl:l.length≤100):Hq K c l=some (GC c.Ax l):=by
 have:=Rt hK c l hh hl l.length K 0 (by omega) (by omega) (by omega);rw[Int.natCast_zero,List.drop_zero,List.drop_zero] at this;exact this
omit hK in
theorem UK (l w:List Int) (hl:l.length≤100) (hw:l.length=w.length) (bw:∀x∈w,0≤x∧x≤30) (bl:∀x∈l,0≤x∧x≤100):∀(n m i:Nat) (s:Int),l.length=i+n→n<m→0≤s∧s≤3000*(i:Int)→
  E4 l w m s (i:Int)=some (s+dot (w.drop i) (l.drop i))
 |n,0,i,s,h,hm,_=>by omega
 |0,m+1,i,s,h,hm,hs=>by
  rw[E4.eq_2,cf (df (by omega)),List.drop_eq_nil_of_le (by omega:l.length≤i),Xt,Int.add_zero]
 |n+1,m+1,i,s,h,hm,hs=>by
  have h1:i<l.length:=by omega
  have h2:i<w.length:=by omega
  have b1:=bw _ (List.getElem_mem h2)
  have b2:=bl _ (List.getElem_mem h1)
  have b3:=JZ b1.1 b1.2 b2.1 b2.2
  rw[E4.eq_2,ct (dt (by omega)),Cf h2,Cf h1,BW (by omega) (by omega),BW (by omega) (by omega),BW (by omega) (by omega),DM i,
   UK l w hl hw bw bl n m (i+1) _ (by omega) (by omega) (by omega),List.drop_eq_getElem_cons h1,List.drop_eq_getElem_cons h2,dot,Int.add_assoc]
theorem ZO{l w:List Int}(hl:l.length≤100)(hw:l.length=w.length)(bw:∀x∈w,0≤x∧x≤30)(bl:∀x∈l,0≤x∧x≤100)(hs:0<w.sum):Dx K l w=some (DQ l w):=by
 unfold Dx;have h:=UK l w hl hw bw bl l.length K 0 0 (by omega) (by omega) (by omega);rw[Int.natCast_zero,Int.zero_add,List.drop_zero,List.drop_zero] at h;have h2:=O4 w l bw bl;have e:=Ml (a:=0) (b:=30) (by omega) (by omega) w bw;have c:=SJ bw bl hs;unfold DQ at c⊢;rw[bd h,bd (Rm hK w (by omega) (fun x d=>by have:=bw x d;omega)),VM (by omega) (by omega),BW (by omega) (by omega)]
end
theorem Dk{α:Type}{l:List α}{i:Nat}(d:α)(h:i<l.length):l.getD i d=l[i]:=by simp[List.getElem?_eq_getElem h]
section
variable{K:Nat}(hK:1000≤K)
include hK
theorem Nx{c:Be}(a:OkC c){l:List Int}(hl:GC c.Ax l=true){k:Nat}(hk:k<c.AX.length):Dx K l c.AX[k]=some (DQ l c.AX[k]):=by
 obtain⟨h1,h2,b,_⟩:=a.EI _ (List.getElem_mem hk);have hh:=Ko hl;have:=a.hl;exact ZO hK (by omega) (by omega) h2 (Rs a.ok hl) b
theorem VR{c:Be}(b:OkC c){l:List Int}(hl:GC c.Ax l=true){t:Cx}(d:t∈c.AP):Hb K c l t=some (Ef (Ih c l t) t.Bm t.Bn):=by
 obtain⟨h0,h1,h2⟩:=b.WS t d;have hh:=Ko hl;have:=b.hl;have:=b.cl;unfold Hb Ih;cases e:t.BV with
 |true=>
  have f:=h1 e;obtain⟨k,hk⟩:∃k:Nat,t.Number=k:=⟨t.Number.toNat,by omega⟩;have a:k<c.AX.length:=by omega
  rw[ct rfl,BW (by omega) (by omega),ct rfl,hk];unfold Hm;have g:(k:Int)+(c.Ax.length:Int)-(l.length:Int)=(k:Int):=by omega
  rw[cf (df (by omega)),BW (by omega) (by omega),g,Cf a,bd (Nx hK b hl a),Option.bind_some,bd (Kh ..),Int.toNat_natCast,Dk _ a]
 |false=>
  have f:=h2 e;obtain⟨k,hk⟩:∃k:Nat,t.Number=k:=⟨t.Number.toNat,by omega⟩;have a:k<l.length:=by omega
  rw[cf rfl,cf rfl,hk];unfold Hm;rw[ct (dt (by omega)),Cf a,Option.bind_some,bd (Kh ..),Int.toNat_natCast,Dk _ a]
theorem T1{c:Be}(a:OkC c){l:List Int}(b:l.length≤100):Gw K c l=some (E5 c l):=by
 have:=a.hl;have:=a.tl;unfold Gw E5;rw[bd (T0 hK c l (by omega) b)];cases hl:GC c.Ax l with
 |false=>rw[nf,Bool.false_and]
 |true=>
  have h:Dd K c l K 0=some (cond (c.AP.all fun t=>Ef (Ih c l t) t.Bm t.Bn) (.inr ()) (.inl false)):=
   K2 c.AP (fun m i=>Dd K c l m (i:Int)) (fun t=>Ef (Ih c l t) t.Bm t.Bn) false
    (fun m i hi=>by
     show Dd K c l (m+1) (i:Int)=_;rw[Dd.eq_2,ct (dt (by omega)),Cf hi,bd (VR hK a hl (List.getElem_mem hi))];cases Ef (Ih c l c.AP[i]) c.AP[i].Bm c.AP[i].Bn with
     |false=>rw[nf,cf rfl]
     |true=>rw[nt,BW (by omega) (by omega),DM i,ct rfl])
    (fun m=>by
     show Dd K c l (m+1) (c.AP.length:Int)=_;rw[Dd.eq_2,cf (df (by omega))]) (by omega)
  rw[nt,bd h,Bool.true_and];unfold O5;cases c.AP.all fun t=>Ef (Ih c l t) t.Bm t.Bn with
  |false=>rfl
  |true=>rfl
theorem WT{c:Be}(hl:c.Ax.length≤100)(b:∀r∈c.Ax,IG r):∀(d m i:Nat) (n:Int) (out:List Int),c.Ax.length=i+d→d<m→0≤n∧n≤5000→out.length≤i→
  Fm K c m n out (i:Int)=some (out++Lk (c.Ax.drop i) n)
 |d,0,i,n,out,h,hm,_,_=>by omega
 |0,m+1,i,n,out,h,hm,_,_=>by
  rw[Fm.eq_2,cf (df (by omega)),List.drop_eq_nil_of_le (by omega:c.Ax.length≤i),Lk,List.append_nil]
 |d+1,m+1,i,n,out,h,hm,a,e=>by
  have hi:i<c.Ax.length:=by omega
  have h1:=b _ (List.getElem_mem hi);have h2:=Iq h1;have f:=Int.emod_nonneg n (by omega:Dw c.Ax[i]≠0);have g:=Int.emod_lt_of_pos n (by omega:0<Dw c.Ax[i]);have j:0≤n/Dw c.Ax[i]:=Int.ediv_nonneg a.1 (by omega);have k:n/Dw c.Ax[i]≤n:=Int.ediv_le_self _ a.1;have l:0≤c.Ax[i].Lo∧c.Ax[i].Lo≤100:=by unfold IG at h1;omega
  rw[Fm.eq_2,ct (dt (by omega)),Cf hi,bd (Nv K h1),Ns a.1 h2.1,BW (by omega) (by omega),FD (by simp;omega),bd (Nv K h1),VM a.1 h2.1,BW (by omega) (by omega),BW (by omega) (by omega),DM i,
   WT hl b d m (i+1) _ _ (by omega) (by omega) (by omega) (by simp;omega),List.drop_eq_getElem_cons hi,Lk,List.append_assoc]
  rfl
theorem ZP{c:Be}(hl:c.Ax.length≤100)(a:∀r∈c.Ax,IG r){n:Int}(b:0≤n∧n≤5000):HZ K c n=some (Lk c.Ax n):=by
 unfold HZ;have:=WT hK hl a c.Ax.length K 0 n [] (by omega) (by omega) b (by simp);rw[Int.natCast_zero,List.drop_zero,List.nil_append] at this;rw[bd this]
theorem VS(rs:List AN):∀n,(Lk rs n).length=rs.length:=by
 clear hK
 induction rs with
 |nil=>intro n;rfl
 |cons r rs ih=>intro n;rw[Lk,List.length_cons,List.length_cons,ih]
theorem SL{c:Be}(a:OkC c):EE K c=some (GN c.Ax):=by
 have:=a.hl;have:=a.many;rw[Rn hK c (by omega) a.ok,Int.min_eq_right (by omega)]
theorem VT{c:Be}(a:OkC c):1≤GN c.Ax:=Qg c.Ax 1 a.ok (by omega)
theorem Ny{c:Be}(a:OkC c):∀(d m i:Nat) (acc:List (List Int)),GN c.Ax=(i:Int)+d→d<m→acc.length≤i→
  DY K c m acc (i:Int)=some (acc++((List.range' i d).map fun n:Nat=>Lk c.Ax (n:Int)).filter (E5 c))
 |d,0,i,acc,h,hm,_=>by omega
 |0,m+1,i,acc,h,hm,_=>by
  rw[DY.eq_2,bd (SL hK a),cf (df (by omega))];simp
 |d+1,m+1,i,acc,h,hm,ha=>by
  have b:=a.many;have hh:=a.hl;rw[DY.eq_2,bd (SL hK a),ct (dt (by omega)),bd (ZP hK (by omega) a.ok (by omega)),bd (T1 hK a (by rw[VS hK];omega)),List.range'_succ,List.map_cons,List.filter_cons];cases E5 c (Lk c.Ax (i:Int)) with
  |true=>
   rw[ct rfl,FD (by simp;omega),BW (by omega) (by omega),DM i,Ny a d m (i+1) _ (by omega) (by omega) (by simp;omega),List.append_assoc];rfl
  |false=>
   rw[cf rfl,BW (by omega) (by omega),DM i,Ny a d m (i+1) _ (by omega) (by omega) (by omega)];rfl
theorem UL{c:Be}(a:OkC c):F4 K c=some (EN c):=by
 unfold F4 EN;have h1:=VT hK a;have h2:=a.many;have:=Ny hK a (GN c.Ax).toNat K 0 [] (by omega) (by omega) (by simp);rw[Int.natCast_zero,List.nil_append] at this;rw[bd this,List.range_eq_range']
theorem KF(p:List Int)(x:Int)(b:p.length≤900):Eo K p x=some (p.contains x):=by
 have h:∀(n m i:Nat),p.length=i+n→n<m→((E1 p x m (i:Int)).bind fun z=>Sum.elim (fun q=>some q) (fun _=>some (-1)) z).bind (fun r=>some (decide ((0:Int)≤r)))=some ((p.drop i).contains x):=by
  intro n
  induction n with
  |zero=>
   intro m i h hm;obtain⟨m,rfl⟩:∃a,m=a+1:=⟨m-1,by omega⟩;rw[E1.eq_2,cf (df (by omega)),List.drop_eq_nil_of_le (by omega)];rfl
  |succ n ih=>
   intro m i h hm;obtain⟨m,rfl⟩:∃a,m=a+1:=⟨m-1,by omega⟩;have hi:i<p.length:=by omega
   rw[E1.eq_2,ct (dt (by omega)),Cf hi,List.drop_eq_getElem_cons hi,List.contains_cons];cases e:x==p[i] with
   |true=>
    rw[ct rfl,Bool.true_or];show some (decide ((0:Int)≤(i:Int)))=some true;rw[dt (by omega)]
   |false=>rw[cf rfl,BW (by omega) (by omega),DM i,Bool.false_or];exact ih m (i+1) (by omega) (by omega)
 have:=h p.length K 0 (by omega) (by omega);rw[Int.natCast_zero,List.drop_zero] at this;exact this
end
def arr (l:List Int):Bo:=⟨l.getD 0 0,l.getD 1 0,l.getD 2 0⟩
theorem ZQ(l:List Int):(⟨0,0,0⟩:Bo).cp l=arr l:=rfl
theorem Xu{w l:List Int}(a:l.length≤3)(h:w.length=l.length):dot w [(arr l).a0,(arr l).a1,(arr l).a2]=dot w l:=by
 match w,l,a,h with
 |[],[],_,_=>rfl
 |[_],[_],_,_=>rfl
 |[_,_],[_,_],_,_=>rfl
 |[_,_,_],[_,_,_],_,_=>rfl
 |_::_::_::_::_,_::_::_::_::_,a,_=>simp at a
theorem JP{l:List Int}(a:l.length≤3){k:Nat}(hk:k<l.length):idx [(arr l).a0,(arr l).a1,(arr l).a2] (k:Int)=some l[k]:=by
 match l,k,a,hk with
 |_::_,0,_,_=>rfl
 |_::_::_,1,_,_=>rfl
 |_::_::_::_,2,_,_=>rfl
 |l,k+3,a,hk=>omega
theorem ZR{l:List Int}(b:∀x∈l,0≤x∧x≤100):∀x∈[(arr l).a0,(arr l).a1,(arr l).a2],0≤x∧x≤100:=by
 have h:∀k,0≤l.getD k 0∧l.getD k 0≤100:=fun k=>by
  by_cases hk:k<l.length
  ·rw[Dk _ hk];exact b _ (List.getElem_mem hk)
  ·rw[List.getD_eq_getElem?_getD,List.getElem?_eq_none (by omega)];simp
 intro x a;simp only[arr,List.mem_cons,List.not_mem_nil,or_false] at a;rcases a with rfl|rfl|rfl<;>exact h _
theorem SM(s:Bo)(w:List Int)(hw:w.length≤3)(bw:∀x∈w,0≤x∧x≤30)(bl:∀x∈[s.a0,s.a1,s.a2],0≤x∧x≤100):∀(n m i:Nat) (z:Int),w.length=i+n→n<m→0≤z∧z≤3000*(i:Int)→
  El s w m z (i:Int)=some (z+dot (w.drop i) ([s.a0,s.a1,s.a2].drop i))
 |n,0,i,z,h,hm,_=>by omega
 |0,m+1,i,z,h,hm,hs=>by
  rw[El.eq_2,cf (df (by omega)),List.drop_eq_nil_of_le (by omega:w.length≤i)];simp[dot]
 |n+1,m+1,i,z,h,hm,hs=>by
  have h2:i<w.length:=by omega
  have h1:i<[s.a0,s.a1,s.a2].length:=by simp;omega
  have b1:=bw _ (List.getElem_mem h2);have b2:=bl _ (List.getElem_mem h1);have b3:=JZ b1.1 b1.2 b2.1 b2.2;rw[El.eq_2,ct (dt (by omega)),Cf h2,Cf h1,BW (by omega) (by omega),BW (by omega) (by omega),BW (by omega) (by omega),DM i,
   SM s w hw bw bl n m (i+1) _ (by omega) (by omega) (by omega),List.drop_eq_getElem_cons h1,List.drop_eq_getElem_cons h2,dot,Int.add_assoc]
section
variable{K:Nat}(hK:1000≤K)
include hK
theorem Xv{l w:List Int}(hl:l.length≤3)(hw:w.length=l.length)(bw:∀x∈w,0≤x∧x≤30)(bl:∀x∈l,0≤x∧x≤100)(hs:0<w.sum):E2 K (arr l) w=some (DQ l w):=by
 unfold E2;have h:=SM (arr l) w (by omega) bw (ZR bl) w.length K 0 0 (by omega) (by omega) (by omega);rw[Int.natCast_zero,Int.zero_add,List.drop_zero,List.drop_zero,Xu hl hw] at h;have h2:=O4 w l bw bl;have e:=Ml (a:=0) (b:=30) (by omega) (by omega) w bw;have c:=SJ bw bl hs;unfold DQ at c⊢;rw[bd h,bd (Uz hK w (by omega) (fun x d=>by have:=bw x d;omega)),VM (by omega) (by omega),BW (by omega) (by omega)]
theorem O7{c:Be}(a:OkC c){l:List Int}(hl:GC c.Ax l=true){k:Nat}(hk:k<c.AX.length):E2 K (arr l) c.AX[k]=some (DQ l c.AX[k]):=by
 obtain⟨h1,h2,b,_⟩:=a.EI _ (List.getElem_mem hk);have hh:=Ko hl;have:=a.hl;exact Xv hK (by omega) (by omega) h2 (Rs a.ok hl) b
theorem VU{c:Be}(b:OkC c){l:List Int}(hl:GC c.Ax l=true):G8 K c (arr l) []=some (O5 c l):=by
 have hh:=Ko hl;have d:=b.hl;have:=b.cl;have:=b.tl;unfold G8;have h:Da K c (arr l) [] K 0=some (cond (c.AP.all fun t=>Ef (Ih c l t) t.Bm t.Bn) (.inr ()) (.inl false)):=
  K2 c.AP (fun m i=>Da K c (arr l) [] m (i:Int)) (fun t=>Ef (Ih c l t) t.Bm t.Bn) false
   (fun m i hi=>by
    show Da K c (arr l) [] (m+1) (i:Int)=_;obtain⟨h0,h1,h2⟩:=b.WS _ (List.getElem_mem hi);have e:G7 K c c.AP[i]=some (cond c.AP[i].BV ((c.Ax.length:Int)+c.AP[i].Number) c.AP[i].Number):=by
     unfold G7;cases e:c.AP[i].BV with
     |true=>have:=h1 e;rw[ct rfl,BW (by omega) (by omega),ct rfl]
     |false=>rw[cf rfl,cf rfl]
    have f:Ic K c (arr l) (cond c.AP[i].BV ((c.Ax.length:Int)+c.AP[i].Number) c.AP[i].Number)=some (Ih c l c.AP[i]):=by
     unfold Ic Ih;cases e:c.AP[i].BV with
     |true=>
      have d:=h1 e;obtain⟨k,hk⟩:∃k:Nat,c.AP[i].Number=k:=⟨c.AP[i].Number.toNat,by omega⟩;have a:k<c.AX.length:=by omega
      have g:(c.Ax.length:Int)+(k:Int)-(c.Ax.length:Int)=(k:Int):=by omega
      rw[ct rfl,ct rfl,hk,ct (dt (by omega)),BW (by omega) (by omega),g,Cf a,bd (O7 hK b hl a),Int.toNat_natCast,Dk _ a]
     |false=>
      have o:=h2 e;obtain⟨k,hk⟩:∃k:Nat,c.AP[i].Number=k:=⟨c.AP[i].Number.toNat,by omega⟩;have a:k<l.length:=by omega
      rw[cf rfl,cf rfl,hk,cf (df (by omega)),bd (JP (by omega) a),Int.toNat_natCast,Dk _ a]
    have j:FL K ⟨c.AP[i].Bm,c.AP[i].Bn⟩ (Ih c l c.AP[i])=some (Ef (Ih c l c.AP[i]) c.AP[i].Bm c.AP[i].Bn):=by
     unfold FL;rw[bd (Ld ..)]
    have n:List.contains ([]:List Int) (i:Int)=false:=rfl;rw[Da.eq_2,ct (dt (by omega)),Cf hi,bd (KF hK [] _ (by simp)),n,nf,bd e,bd f,bd j];cases Ef (Ih c l c.AP[i]) c.AP[i].Bm c.AP[i].Bn with
    |false=>rw[nf,cf rfl]
    |true=>rw[nt,BW (by omega) (by omega),DM i,ct rfl])
   (fun m=>by
    show Da K c (arr l) [] (m+1) (c.AP.length:Int)=_;rw[Da.eq_2,cf (df (by omega))]) (by omega)
 rw[bd h];unfold O5;cases c.AP.all fun t=>Ef (Ih c l t) t.Bm t.Bn with
 |false=>rfl
 |true=>rfl
theorem Qh(c:Be)(l:List Int)(hh:c.Ax.length≤100)(he:l.length=c.Ax.length):∀(n m i:Nat),l.length=i+n→n<m→
  Ev K c l m (i:Int)=some (cond (GC (c.Ax.drop i) (l.drop i)) (.inr ()) (.inl false))
 |n,0,i,h,hm=>by omega
 |0,m+1,i,h,hm=>by
  rw[Ev.eq_2,cf (df (by omega)),List.drop_eq_nil_of_le (by omega:l.length≤i),List.drop_eq_nil_of_le (by omega:c.Ax.length≤i),UJ,ct rfl]
 |n+1,m+1,i,h,hm=>by
  have h1:i<l.length:=by omega
  have h2:i<c.Ax.length:=by omega
  have e:FL K c.Ax[i] l[i]=some (Ef l[i] c.Ax[i].Lo c.Ax[i].Hi):=by unfold FL;rw[bd (Ld ..)]
  rw[Ev.eq_2,ct (dt (by omega)),Cf h2,Cf h1,bd e,List.drop_eq_getElem_cons h1,List.drop_eq_getElem_cons h2,GC];cases Ef l[i] c.Ax[i].Lo c.Ax[i].Hi with
  |false=>rw[nf,Bool.false_and,cf rfl]
  |true=>rw[nt,BW (by omega) (by omega),DM i,Bool.true_and,Qh c l hh he n m (i+1) (by omega) (by omega)]
theorem ZS{rs:List AN}{l:List Int}(h:l.length≠rs.length):GC rs l=false:=by
 rw[Bool.eq_false_iff];intro g;exact h (Ko g)
theorem Qi(c:Be)(l:List Int)(hh:c.Ax.length≤100)(hl:l.length≤100):F1 K c l=some (cond (GC c.Ax l) (arr l) ⟨0,0,0⟩,GC c.Ax l):=by
 unfold F1
 by_cases he:l.length=c.Ax.length
 ·have:=Qh hK c l hh he l.length K 0 (by omega) (by omega);rw[Int.natCast_zero,List.drop_zero,List.drop_zero] at this;rw[cf (JD (by omega)),bd this,ZQ];cases GC c.Ax l<;>rfl
 ·rw[ct (Jo (by omega)),ZS hK he,cf rfl]
theorem Ru{c:Be}(a:OkC c):EA K c=some 0:=by
 rw[MZ hK c a.len.1 a.len.2.1 a.len.2.2.1 a.len.2.2.2,a.fault]
theorem QD{c:Be}(a:OkC c){l:List Int}(hl:l.length≤100):GX K c l=some (E5 c l):=by
 have:=a.hl;unfold GX E5;rw[bd (Ru hK a),cf (JD rfl),bd (Qi hK c l (by omega) hl)];cases h:GC c.Ax l with
 |false=>rw[cf rfl,Bool.false_and]
 |true=>rw[ct rfl,ct rfl,bd (VU hK a h),Bool.true_and]
theorem Xw {c:Be} (a:OkC c) {l:List Int} (hl:GC c.Ax l=true):Ji K c l=some (c.AX.map (DQ l),0):=by
 have f:=a.hl;have g:=a.cl;have hh:=Ko hl;unfold Ji;rw[bd (Ru hK a),cf (JD rfl),bd (Qi hK c l (by omega) (by omega)),hl,nt,ct rfl];have b:∀(d m i:Nat) (acc:List Int),c.AX.length=i+d→d<m→acc.length≤i→GK K c (arr l,true) m acc (i:Int)=some (acc++(c.AX.drop i).map (DQ l)):=by
  intro d
  induction d with
  |zero=>
   intro m i acc h hm ha;obtain⟨m,rfl⟩:∃e,m=e+1:=⟨m-1,by omega⟩;rw[GK.eq_2,cf (df (by omega)),List.drop_eq_nil_of_le (by omega),List.map_nil,List.append_nil]
  |succ d ih=>
   intro m i acc h hm ha;obtain⟨m,rfl⟩:∃e,m=e+1:=⟨m-1,by omega⟩;have hi:i<c.AX.length:=by omega
   rw[GK.eq_2,ct (dt (by omega)),Cf hi,bd (O7 hK a hl hi),FD (by simp;omega),BW (by omega) (by omega),DM i,ih m (i+1) _ (by omega) (by omega) (by simp;omega),List.drop_eq_getElem_cons hi,List.map_cons,List.append_assoc];rfl
 have:=b c.AX.length K 0 [] (by omega) (by omega) (by simp);rw[Int.natCast_zero,List.drop_zero,List.nil_append] at this;rw[bd this]
end
def Gz(g:List BK)(s:Int):Int:=match g.find? (fun x=>decide (x.AV≤s)) with|some x=>x.B4|none=>0
def Bx (t:AE) (l:List Int):List Int:=t.Ab.map fun w=>Gz t.AB (DQ l w)*w.sum
structure OkT(t:AE):Prop where
 len:Rp t
 fault:Gy t=0
 many:GN t.Ak≤150
theorem Hr{t:AE}(h:Gy t=0):GO t.C=0∧t.AB.length≤3∧t.AF.length≤3∧t.AM.length≤5∧(0≤t.Flat∧t.Flat≤100)∧0<t.AB.length∧H6 101 100 t.AB=true∧(∀o∈t.AF,JE t o=true)∧∀n∈t.AM,KE t n=true:=by
 unfold Gy at h;split at h
 ·rename_i h0;exact absurd h h0
 rename_i h0
 split at h
 ·omega
 rename_i h1
 split at h
 ·omega
 rename_i h2
 split at h
 ·omega
 rename_i d
 split at h
 ·omega
 rename_i a
 split at h
 ·omega
 rename_i b
 split at h
 ·omega
 rename_i c
 refine⟨Decidable.byContradiction h0,by omega,by omega,by omega,DX.1 (by simpa using h2),by omega,by simpa using a,?_,?_⟩
 ·exact List.all_eq_true.1 (by simpa using b)
 ·exact List.all_eq_true.1 (by simpa using c)
theorem Qj:∀{l:List BK} {s p:Int},H6 s p l=true→∀g∈l,(0≤g.AV∧g.AV<s)∧0≤g.B4∧g.B4≤p
 |[],_,_,_,g,a=>by cases a
 |x::l,s,p,h,g,a=>by
  rw[H6,Bool.and_eq_true,Bool.and_eq_true] at h;have h1:=DX.1 h.1;have h2:=DX.1 h.2.1;rcases List.mem_cons.1 a with rfl|a
  ·exact⟨by omega,h2⟩
  ·have:=Qj h.2.2 g a;omega
namespace OkT
variable{t:AE}(h:OkT t)
include h
theorem c:OkC t.C:=⟨h.len.1,(Hr h.fault).1,h.many⟩
theorem gl:t.AB.length≤3:=(Hr h.fault).2.1
theorem nl:t.AM.length≤5:=(Hr h.fault).2.2.2.1
theorem flat:0≤t.Flat∧t.Flat≤100:=(Hr h.fault).2.2.2.2.1
theorem gr:H6 101 100 t.AB=true:=(Hr h.fault).2.2.2.2.2.2.1
theorem WU:∀g∈t.AB,(0≤g.AV∧g.AV≤100)∧0≤g.B4∧g.B4≤100:=fun g a=>by have:=Qj h.gr g a;omega
theorem order:∀o∈t.AF,(0≤o.Cw∧o.Cw<t.AB.length)∧1≤o.Ch∧o.Ch≤90:=fun o a=>by
 have h1:=(Hr h.fault).2.2.2.2.2.2.2.1 o a;unfold JE at h1;rw[Bool.and_eq_true] at h1;have h2:=DX.1 h1.1;exact⟨by omega,DX.1 h1.2⟩
theorem note:∀n∈t.AM,(0≤n.BV∧n.BV<t.Ab.length)∧0≤n.Cm∧n.Cm≤n.Cn∧n.Cn≤9000:=fun n a=>by
 have h1:=(Hr h.fault).2.2.2.2.2.2.2.2 n a;unfold KE at h1;rw[Bool.and_eq_true] at h1;have h2:=DX.1 h1.1;exact⟨by omega,SI.1 h1.2⟩
theorem EI:∀w∈t.Ab,w.length=t.Ak.length∧(∀x∈w,0≤x∧x≤30)∧0<w.sum∧w.sum≤90:=h.c.EI
theorem kl:t.Ab.length≤3:=h.c.cl
theorem hl:t.Ak.length≤3:=h.c.hl
theorem WV(s:Int):0≤Gz t.AB s∧Gz t.AB s≤100:=by
 unfold Gz;split
 ·rename_i x a
  exact(h.WU x (List.mem_of_find?_eq_some a)).2
 ·omega
theorem Aa6(l:List Int):∀x∈Bx t l,0≤x∧x≤9000:=fun x a=>by
 unfold Bx at a;obtain⟨w,hw,rfl⟩:=List.mem_map.1 a;have h1:=h.WV (DQ l w);have h2:=h.EI w hw;have:=JZ h1.1 h1.2 (by omega:0≤w.sum) h2.2.2.2;omega
end OkT
theorem Gb(t:AE)(l:List Int):(Bx t l).length=t.Ab.length:=List.length_map ..
section
variable{K:Nat}(hK:1000≤K)
include hK
theorem Ov{t:AE}(a:OkT t){l:List Int}(hl:GC t.Ak l=true){k:Nat}(hk:k<t.Ab.length):∀(i m:Nat) (p:Int),i≤t.AB.length→i<m→p=Gz (t.AB.drop i) (DQ l t.Ab[k])→
  Ed K t l (k:Int) m p ((i:Int)-1)=some (Gz t.AB (DQ l t.Ab[k]))
 |i,0,p,hi,hm,b=>by omega
 |0,m+1,p,hi,hm,b=>by
  rw[Ed.eq_2,cf (df (by omega)),b,List.drop_zero]
 |i+1,m+1,p,hi,hm,b=>by
  have g:=a.gl;have h1:i<t.AB.length:=by omega
  have e:((i+1:Nat):Int)-1=(i:Int):=by omega
  have d:Dx K l t.Ab[k]=some (DQ l t.Ab[k]):=Nx hK a.c (c:=t.C) hl hk;have f:Gz (t.AB.drop i) (DQ l t.Ab[k])=if t.AB[i].AV≤DQ l t.Ab[k] then t.AB[i].B4 else Gz (t.AB.drop (i+1)) (DQ l t.Ab[k]):=by
   rw[List.drop_eq_getElem_cons h1];unfold Gz;rw[List.find?_cons]
   by_cases h:t.AB[i].AV≤DQ l t.Ab[k]
   ·rw[dt h,if_pos h]
   ·rw[df h,if_neg h]
  rw[Ed.eq_2,e,ct (dt (by omega)),Cf hk,bd d,Cf h1]
  by_cases h:t.AB[i].AV≤DQ l t.Ab[k]
  ·rw[ct (dt h),Cf h1,BW (by omega) (by omega)];exact Ov a hl hk i m _ (by omega) (by omega) (by rw[f,if_pos h])
  ·rw[cf (df h),BW (by omega) (by omega)];exact Ov a hl hk i m _ (by omega) (by omega) (by rw[f,if_neg h,b])
theorem Ow{t:AE}(a:OkT t){k:Nat}(hk:k<t.Ab.length):Ea K t (k:Int)=some t.Ab[k].sum:=by
 have h1:=a.EI _ (List.getElem_mem hk);have:=a.hl;unfold Ea;rw[Cf hk,bd (Rm hK _ (by omega) (fun x b=>by have:=h1.2.1 x b;omega))]
theorem PC{t:AE}(a:OkT t){l:List Int}(hl:GC t.Ak l=true){k:Nat}(hk:k<t.Ab.length):FC K t l (k:Int)=some ((Bx t l)[k]'(by rw[Gb];exact hk)):=by
 have b:=a.gl;have h1:=a.WV (DQ l t.Ab[k]);have h2:=a.EI _ (List.getElem_mem hk);have c:=JZ h1.1 h1.2 (by omega:0≤t.Ab[k].sum) h2.2.2.2;unfold FC;rw[BW (by omega) (by omega),bd (Ov hK a hl hk t.AB.length K 0 (by omega) (by omega) (by rw[List.drop_eq_nil_of_le (by omega)];rfl)),bd (Ow hK a hk),BW (by omega) (by omega)];simp[Bx]
end
def Ho (t:AE) (m:List (List Int×Int)):Prop:=∀(i:Nat) (s v:Int),EL m [(i:Int),s]=some v→v=Gz t.AB s*(t.Ab.getD i []).sum
theorem Xx(t:AE):Ho t []:=fun i s v h=>by cases h
def wk (t:AE) (a:List Bo) (m:List (List Int×Int)):B6:=⟨t.Ak,t.Ab,t.Aw,t.Flat,t.AB,t.AF,t.AM,t.Ab.map List.sum,a,m⟩
def BQ(t:AE)(l:List Int):Bo:=arr (t.Ab.map (DQ l))
theorem Xy:∀{l:List Int} {i:Nat} (x:Int),l.length=i→i<3→(arr l).set i x=arr (l++[x])
 |[],_,x,rfl,_=>rfl
 |[_],_,x,rfl,_=>rfl
 |[_,_],_,x,rfl,_=>rfl
 |_::_::_::_,_,x,rfl,h=>by simp at h;omega
section
variable{K:Nat}(hK:1000≤K)
include hK
theorem Rv{t:AE}(b:OkT t)(a:List Bo)(m:List (List Int×Int)){k:Nat}(hk:k<t.Ab.length)(s:Int):∀(d n i:Nat),t.AB.length=i+d→d<n→
  Eb (wk t a m) ⟨(k:Int),s⟩ n 0 (i:Int)=some (Gz (t.AB.drop i) s*t.Ab[k].sum)
 |d,0,i,h,f=>by omega
 |0,n+1,i,h,f=>by
  have e:((wk t a m).AJ.length:Int)=t.AB.length:=rfl;rw[Eb.eq_2,cf (df (by omega)),List.drop_eq_nil_of_le (by omega)];simp[Gz]
 |d+1,n+1,i,h,f=>by
  have h1:i<t.AB.length:=by omega
  have j:=b.gl;have c:k<(wk t a m).weights.length:=by show k<(List.map _ _).length;simpa using hk
  have g:(wk t a m).weights[k]'c=t.Ab[k].sum:=by simp[wk]
  rw[Eb.eq_2,ct (dt (show(i:Int)<((wk t a m).AJ.length:Int) by show(i:Int)<(t.AB.length:Int);omega)),Cf (xs:=(wk t a m).AJ) h1,List.drop_eq_getElem_cons h1];show cond (decide (t.AB[i].AV≤s)) _ _=_
  by_cases h2:t.AB[i].AV≤s
  ·have b1:=(b.WU _ (List.getElem_mem h1)).2;have b2:=b.EI _ (List.getElem_mem hk);have b3:=JZ b1.1 b1.2 (by omega:0≤t.Ab[k].sum) b2.2.2.2;rw[ct (dt h2),Cf c,g];show(i64 (t.AB[i].B4*_)).bind _=_;rw[BW (by omega) (by omega)];unfold Gz;rw[List.find?_cons,dt h2];rfl
  ·rw[cf (df h2),BW (by omega) (by omega),DM i,Rv b a m hk s d n (i+1) (by omega) (by omega)]
   congr 2
   unfold Gz;rw[List.find?_cons,df h2]
theorem VV{t:AE}(d:OkT t)(c:List Bo){m:List (List Int×Int)}(hm:Ho t m){k:Nat}(hk:k<t.Ab.length)(s:Int):
  ∃a,Ho t a∧Gj K (wk t c m) ⟨(k:Int),s⟩=some (Gz t.AB s*t.Ab[k].sum,a):=by
 have g:=d.gl;unfold Gj;show∃a,Ho t a∧cond (!((EL m [(k:Int),s]).isSome)) _ _=_;cases e:EL m [(k:Int),s] with
 |some v=>
  have h1:=hm k s v e;rw[Dk _ hk] at h1;refine⟨m,hm,?_⟩;show cond (!true) _ (some ((EL m [(k:Int),s]).getD 0,m))=_;rw[nt,e,←h1];rfl
 |none=>
  have h:=Rv hK d c m hk s t.AB.length K 0 (by omega) (by omega);rw[Int.natCast_zero,List.drop_zero] at h;refine⟨K1 m [(k:Int),s] (Gz t.AB s*t.Ab[k].sum),fun i f v b=>?_,?_⟩
  ·rw[Sh] at b;split at b
   ·rename_i he
    simp only[List.cons.injEq,and_true] at he;obtain⟨j,rfl⟩:=he;obtain rfl:i=k:=by omega
    rw[Dk _ hk];exact(Option.some.inj b).symm
   ·exact hm i f v b
  ·show cond (!false) ((Eb (wk t c m) ⟨(k:Int),s⟩ K ((EL m [(k:Int),s]).getD 0) 0).bind _) _=_;rw[nf,e,Option.getD_none,bd h];rfl
theorem SN{t:AE}(c:OkT t)(a:List Bo)(b:List (List Int×Int))(l:List Int):∀(d n i:Nat) (m:List (List Int×Int)),t.Ab.length=i+d→d<n→Ho t m→
  ∃f,Ho t f∧DW K (wk t a b) (BQ t l) n (i:Int) (arr ((Bx t l).take i)).a0 (arr ((Bx t l).take i)).a1 (arr ((Bx t l).take i)).a2 m=some ((arr (Bx t l)).a0,(arr (Bx t l)).a1,(arr (Bx t l)).a2,f)
 |d,0,i,m,h,g,_=>by omega
 |0,n+1,i,m,h,g,hm=>by
  have e:((wk t a b).weights.length:Int)=t.Ab.length:=by show((List.map _ _).length:Int)=_;simp
  refine⟨m,hm,?_⟩;rw[DW.eq_2,cf (df (by omega)),List.take_of_length_le (by rw[Gb];omega)]
 |d+1,n+1,i,m,h,g,hm=>by
  have j:=c.kl;have e:((wk t a b).weights.length:Int)=t.Ab.length:=by show((List.map _ _).length:Int)=_;simp
  have hi:i<t.Ab.length:=by omega
  have o:i<(Bx t l).length:=by rw[Gb];exact hi
  have g1:idx [(BQ t l).a0,(BQ t l).a1,(BQ t l).a2] (i:Int)=some (DQ l t.Ab[i]):=by
   have:=JP (l:=t.Ab.map (DQ l)) (by simpa using j) (k:=i) (by simpa using hi);rw[List.getElem_map] at this;exact this
  obtain⟨p,q,g2⟩:=VV hK c a hm hi (DQ l t.Ab[i]);have g3:idx ([(arr ((Bx t l).take i)).a0,(arr ((Bx t l).take i)).a1,(arr ((Bx t l).take i)).a2]:List Int) (i:Int)=some (([(arr ((Bx t l).take i)).a0,(arr ((Bx t l).take i)).a1,(arr ((Bx t l).take i)).a2]:List Int)[i]'(by simp;omega)):=idx_eq _;have g4:(arr ((Bx t l).take i)).set i (Gz t.AB (DQ l t.Ab[i])*t.Ab[i].sum)=arr ((Bx t l).take (i+1)):=by
   rw[Xy _ (by rw[List.length_take];omega) (by omega),List.take_succ_eq_append_getElem o];simp[Bx]
  obtain⟨s,r,g5⟩:=SN c a b l d n (i+1) p (by omega) (by omega) q;refine⟨s,r,?_⟩;rw[DW.eq_2,ct (dt (by omega)),bd g1];show(Gj K (wk t a m) ⟨(i:Int),DQ l t.Ab[i]⟩).bind _=_;rw[bd g2,bd g3,BW (by omega) (by omega),DM i,Int.toNat_natCast];show DW K (wk t a b) (BQ t l) n ((i+1:Nat):Int) ((arr ((Bx t l).take i)).set i (Gz t.AB (DQ l t.Ab[i])*t.Ab[i].sum)).a0 ((arr ((Bx t l).take i)).set i (Gz t.AB (DQ l t.Ab[i])*t.Ab[i].sum)).a1 ((arr ((Bx t l).take i)).set i (Gz t.AB (DQ l t.Ab[i])*t.Ab[i].sum)).a2 p=_;rw[g4];exact g5
theorem Xz{t:AE}(c:OkT t)(b:List Bo){m:List (List Int×Int)}(hm:Ho t m)(l:List Int):
  ∃a,Ho t a∧FM K (wk t b m) (BQ t l)=some (arr (Bx t l),a):=by
 have:=c.kl;obtain⟨a,h1,h2⟩:=SN hK c b m l t.Ab.length K 0 m (by omega) (by omega) hm;refine⟨a,h1,?_⟩;unfold FM;have d:DW K (wk t b m) (BQ t l) K 0 0 0 0 (wk t b m).known=some ((arr (Bx t l)).a0,(arr (Bx t l)).a1,(arr (Bx t l)).a2,a):=h2;rw[bd d]
end
theorem O8{σ α:Type}(cb:σ→α→Option (Bool×σ))(a:List α):∀(b:List α) (s:σ),run cb (b++a) s=(run cb b s).bind fun r=>cond r.1 (run cb a r.2) (some (false,r.2))
 |[],s=>rfl
 |x::l,s=>by
  simp only[List.cons_append,run];cases cb s x with
  |none=>rfl
  |some r=>
   simp only[Option.bind_some];cases h:r.1 with
   |false=>simp
   |true=>simpa using O8 cb a l r.2
def I9:List AN→List (List Int)
 |[]=>[[]]
 |r::rs=>(List.range' 0 (Dw r).toNat).flatMap fun n:Nat=>(I9 rs).map fun x=>(r.Lo+(n:Int))::x
theorem Ox:∀{rs:List AN} {l:List Int},(∀r∈rs,IG r)→(l∈I9 rs↔GC rs l=true)
 |[],[],_=>by simp[I9,GC]
 |[],_::_,_=>by simp[I9,GC]
 |r::rs,[],_=>by simp[I9,GC]
 |r::rs,x::xs,h=>by
  have h1:=h r (List.mem_cons_self ..);have h2:=Iq h1;rw[I9,List.mem_flatMap,GC,Bool.and_eq_true,←Ox (fun r hr=>h r (List.mem_cons_of_mem _ hr)),DX];constructor
  ·rintro⟨n,b,c⟩;obtain⟨y,a,e⟩:=List.mem_map.1 c;injection e with f d
   subst d;rw[List.mem_range'_1] at b;refine⟨?_,a⟩;unfold Dw at b h2;omega
  ·rintro⟨c,a⟩;refine⟨(x-r.Lo).toNat,?_,List.mem_map.2 ⟨xs,a,?_⟩⟩
   ·rw[List.mem_range'_1];unfold Dw;omega
   ·congr 1;omega
theorem Rw:∀{rs:List AN},(∀r∈rs,IG r)→((I9 rs).length:Int)=GN rs
 |[],_=>rfl
 |r::rs,h=>by
  have h2:=Iq (h r (List.mem_cons_self ..));have a:=Rw (rs:=rs) (fun r hr=>h r (List.mem_cons_of_mem _ hr));rw[O6,←a,I9,List.length_flatMap];have:∀(n i:Nat),((List.range' i n).map fun n:Nat=>((I9 rs).map fun x=>(r.Lo+(n:Int))::x).length).sum=n*(I9 rs).length:=by
   intro n
   induction n with
   |zero=>intro i;simp
   |succ n ih=>intro i;rw[List.range'_succ,List.map_cons,List.sum_cons,ih,List.length_map,Nat.succ_mul,Nat.add_comm]
  rw[this,Int.natCast_mul,Int.toNat_of_nonneg (by omega)]
theorem take_set{out:List Int}{i:Nat}(v:Int)(h:i<out.length):(out.set i v).take (i+1)=out.take i++[v]:=by
 rw[List.take_succ_eq_append_getElem (by simpa using h),List.take_set_of_le (Nat.le_refl _),List.getElem_set_self]
section
variable{K:Nat}(hK:1000≤K)
include hK
theorem Rx{σ:Type}(cb:σ→List Int→Option (Bool×σ))(f:Int→List AN→List Int→σ→Option (Bool×List Int×σ))(l:List AN)(hl:l.length≤100)(i:Nat)(hi:i<l.length)(hr:IG l[i])
  (ih:∀(out:List Int) (s:σ) (b:Bool) (d:σ),out.length=l.length→run cb ((I9 (l.drop (i+1))).map fun x=>out.take (i+1)++x) s=some (b,d)→∃c,c.length=l.length∧c.take (i+1)=out.take (i+1)∧f ((i+1:Nat):Int) l out s=some (b,c,d)):
  ∀(e m n:Nat) (out:List Int) (s:σ) (b:Bool) (d:σ),Dw l[i]=(n:Int)+e→e<m→out.length=l.length→
   run cb ((List.range' n e).flatMap fun n:Nat=>(I9 (l.drop (i+1))).map fun x=>out.take i++(l[i].Lo+(n:Int))::x) s=some (b,d)→
   ∃c,c.length=l.length∧c.take i=out.take i∧(Fl f (i:Int) l (Dw l[i]) m (n:Int) out s).bind (fun z=>Sum.elim (fun q=>some (q.1,q.2.1,q.2.2)) (fun q=>some (true,q.1,q.2)) z)=some (b,c,d)
 |e,0,n,out,s,b,d,h,hm,_,_=>by omega
 |0,m+1,n,out,s,b,d,h,hm,k,a=>by
  have:(true,s)=(b,d):=Option.some.inj a;injection this with o p
  subst o;subst p;refine⟨out,k,rfl,?_⟩;rw[Fl.eq_2,cf (df (by omega))];rfl
 |e+1,m+1,n,out,s,b,d,h,hm,k,a=>by
  have aB:=Iq hr;have u:=hr;unfold IG at u;have j:i<out.length:=by omega
  rw[List.range'_succ,List.flatMap_cons,O8] at a;have v:∀x:List Int,out.take i++(l[i].Lo+(n:Int))::x=(out.set i (l[i].Lo+(n:Int))).take (i+1)++x:=fun x=>by rw[take_set _ j,List.append_assoc];rfl
  simp only[v] at a;cases h1:run cb ((I9 (l.drop (i+1))).map fun x=>(out.set i (l[i].Lo+(n:Int))).take (i+1)++x) s with
  |none=>rw[h1] at a;cases a
  |some r=>
   obtain⟨b1,s1⟩:=r;rw[h1,Option.bind_some] at a;obtain⟨g,g1,g2,g3⟩:=ih (out.set i (l[i].Lo+(n:Int))) s b1 s1 (by rw[List.length_set];exact k) h1;have gt:g.take i=out.take i:=by
    have:=congrArg (List.take i) g2;rw[List.take_take,List.take_take,Nat.min_eq_left (by omega),List.take_set_of_le (Nat.le_refl _)] at this;exact this
   rw[Fl.eq_2,ct (dt (by omega)),Cf hi,BW (by omega) (by omega),Cf j,BW (by omega) (by omega),DM i,Int.toNat_natCast,bd g3];cases b1 with
   |false=>
    have:(false,s1)=(b,d):=Option.some.inj a;injection this with o p
    subst o;subst p;exact⟨g,g1,gt,rfl⟩
   |true=>
    rw[nt,BW (by omega) (by omega),DM n];simp only[←v] at a;rw[←gt] at a;obtain⟨t,w,y,aA⟩:=Rx cb f l hl i hi hr ih e m (n+1) g s1 b d (by omega) (by omega) g1 a;exact⟨t,w,y.trans gt,aA⟩
theorem SO{σ:Type}(cb:σ→List Int→Option (Bool×σ))(l:List AN)(hl:l.length≤100)(n:∀r∈l,IG r):∀(d k i:Nat) (out:List Int) (s:σ) (b:Bool) (c:σ),l.length=i+d→d<k→out.length=l.length→
  run cb ((I9 (l.drop i)).map fun x=>out.take i++x) s=some (b,c)→∃f,f.length=l.length∧f.take i=out.take i∧EY K cb k (i:Int) l out s=some (b,f,c)
 |d,0,i,out,s,b,c,h,hk,_,_=>by omega
 |0,k+1,i,out,s,b,c,h,hk,g,a=>by
  rw[List.drop_eq_nil_of_le (by omega)] at a;have e:(I9 []).map (fun x=>out.take i++x)=[out]:=by
   show[out.take i++[]]=[out];rw[List.append_nil,List.take_of_length_le (by omega)]
  rw[e] at a;refine⟨out,g,rfl,?_⟩;rw[EY.eq_2,ct (H3 (by omega))];simp only[run] at a;cases h1:cb s out with
  |none=>rw[h1] at a;cases a
  |some r=>
   obtain⟨b1,s1⟩:=r;rw[h1,Option.bind_some] at a;cases b1 with
   |true=>
    have:(true,s1)=(b,c):=Option.some.inj a;injection this with j m
    subst j;subst m;rfl
   |false=>
    have:(false,s1)=(b,c):=Option.some.inj a;injection this with j m
    subst j;subst m;rfl
 |d+1,k+1,i,out,s,b,c,h,hk,g,a=>by
  have hi:i<l.length:=by omega
  have hr:=n _ (List.getElem_mem hi);have o:=Iq hr;rw[List.drop_eq_getElem_cons hi,I9,List.map_flatMap] at a;simp only[List.map_map] at a;rw[EY.eq_2,cf (KD (by omega)),Cf hi,bd (Xp K hr)];have:=Rx hK cb (EY K cb k) l hl i hi hr (fun out s b c h1 h2=>SO cb l hl n d k (i+1) out s b c (by omega) (by omega) h1 h2) (Dw l[i]).toNat K 0 out s b c (by omega) (by omega) g a;rw[Int.natCast_zero] at this;exact this
theorem XA{σ:Type}(cb:σ→List Int→Option (Bool×σ))(l:List AN)(hl:l.length≤100)(c:∀r∈l,IG r)(s:σ)(b:Bool)(a:σ)(h:run cb (I9 l) s=some (b,a)):Iy K cb l s=some a:=by
 unfold Iy;obtain⟨d,_,_,h2⟩:=SO hK cb l hl c l.length K 0 (List.replicate (l.length:Int).toNat 0) s b a (by omega) (by omega) (by simp) (by simpa using h);rw[Int.natCast_zero] at h2;rw[mkb (by omega) (by omega) (by omega),bd h2]
theorem XB(t:AE)(hl:t.Ak.length≤100):Gi K t=some t.Ak:=by
 have a:∀(d m i:Nat) (acc:List AN),t.Ak.length=i+d→d<m→acc.length≤i→EJ t m acc (i:Int)=some (acc++t.Ak.drop i):=by
  intro d
  induction d with
  |zero=>
   intro m i acc h hm ha;obtain⟨m,rfl⟩:∃b,m=b+1:=⟨m-1,by omega⟩;rw[EJ.eq_2,cf (df (by omega)),List.drop_eq_nil_of_le (by omega),List.append_nil]
  |succ d ih=>
   intro m i acc h hm ha;obtain⟨m,rfl⟩:∃b,m=b+1:=⟨m-1,by omega⟩;have hi:i<t.Ak.length:=by omega
   rw[EJ.eq_2,ct (dt (by omega)),Cf hi,FD (by simp;omega),BW (by omega) (by omega),DM i,ih m (i+1) _ (by omega) (by omega) (by simp;omega),List.drop_eq_getElem_cons hi,List.append_assoc];rfl
 have:=a t.Ak.length K 0 [] (by omega) (by omega) (by simp);rw[Int.natCast_zero,List.drop_zero,List.nil_append] at this;unfold Gi;rw[bd this]
theorem ZT{t:AE}(b:OkT t):Fg K t=some (wk t [] []):=by
 have e:=b.kl;have f:=b.hl;have a:∀(d m i:Nat) (acc:List Int),t.Ab.length=i+d→d<m→acc.length≤i→DV K t m (i:Int) acc=some (acc++(t.Ab.drop i).map List.sum):=by
  intro d
  induction d with
  |zero=>
   intro m i acc h hm ha;obtain⟨m,rfl⟩:∃c,m=c+1:=⟨m-1,by omega⟩;rw[DV.eq_2,cf (df (by omega)),List.drop_eq_nil_of_le (by omega),List.map_nil,List.append_nil]
  |succ d ih=>
   intro m i acc h hm ha;obtain⟨m,rfl⟩:∃c,m=c+1:=⟨m-1,by omega⟩;have hi:i<t.Ab.length:=by omega
   have hw:=b.EI _ (List.getElem_mem hi);have hs:C3 t.Ab[i] K 0 0=some t.Ab[i].sum:=by
    have:=O1 t.Ab[i] (fun m s j=>C3 t.Ab[i] m s (j:Int)) (· +·) (fun j s=>0≤s∧s≤30*(j:Int)) id (fun j s hj hs=>by have:=hw.2.1 _ (List.getElem_mem hj);omega)
     (fun m j s hj hs=>by
      have g:=hw.2.1 _ (List.getElem_mem hj);show C3 t.Ab[i] (m+1) s (j:Int)=_;rw[C3.eq_2,ct (dt (by omega)),Cf hj,BW (by omega) (by omega),BW (by omega) (by omega),DM j])
     (fun m s _=>by
      show C3 t.Ab[i] (m+1) s (t.Ab[i].length:Int)=_;rw[C3.eq_2,cf (df (by omega))];rfl) (k:=K) (s0:=0) (by omega) (by omega)
    rw[L4,Int.zero_add] at this;exact this
   rw[DV.eq_2,ct (dt (by omega)),Cf hi,bd hs,FD (by simp;omega),BW (by omega) (by omega),DM i,ih m (i+1) _ (by omega) (by omega) (by simp;omega),List.drop_eq_getElem_cons hi,List.map_cons,List.append_assoc];rfl
 have:=a t.Ab.length K 0 [] (by omega) (by omega) (by simp);rw[Int.natCast_zero,List.drop_zero,List.nil_append] at this;unfold Fg;rw[bd this];rfl
theorem UM{t:AE}(a:OkT t){l:List Int}(hl:GC t.Ak l=true):F2 K t l=some (BQ t l):=by
 unfold F2;have h:Ji K ⟨t.Ak,t.Ab,t.Aw⟩ l=some (t.Ab.map (DQ l),0):=Xw hK (c:=t.C) a.c hl;rw[bd h];rfl
end
theorem XC:∀{a b:List Int},a.length=b.length→a.length≤3→arr a=arr b→a=b
 |[],[],_,_,_=>rfl
 |[a],[b],_,_,h=>by injection h with h1;exact congrArg (fun x=>[x]) h1
 |[a,a2],[b,b2],_,_,h=>by
  injection h with h1 h2
  rw[show a=b from h1,show a2=b2 from h2]
 |[a,a2,a3],[b,b2,b3],_,_,h=>by
  injection h with h1 h2 c
  rw[show a=b from h1,show a2=b2 from h2,show a3=b3 from c]
 |_::_::_::_::_,_,_,h,_=>by simp at h
 |[],_::_,h,_,_=>by cases h
 |[_],[],h,_,_=>by cases h
 |[_],_::_::_,h,_,_=>by simp at h
 |[_,_],[],h,_,_=>by cases h
 |[_,_],[_],h,_,_=>by simp at h
 |[_,_],_::_::_::_,h,_,_=>by simp at h
 |[_,_,_],[],h,_,_=>by cases h
 |[_,_,_],[_],h,_,_=>by simp at h
 |[_,_,_],[_,_],h,_,_=>by simp at h
 |[_,_,_],_::_::_::_::_,h,_,_=>by simp at h
theorem UN {t:AE} (hk:t.Ab.length≤3) {l l':List Int} (h:BQ t l=BQ t l'):∀w∈t.Ab,DQ l w=DQ l' w:=by
 have e:=XC (by simp) (by simpa using hk) h;intro w hw;obtain⟨i,hi,rfl⟩:=List.getElem_of_mem hw;have:=congrArg (fun x=>x.getD i 0) e;simpa[List.getElem?_eq_getElem hi] using this
theorem Qk{t:AE}(hk:t.Ab.length≤3){l l':List Int}(h:BQ t l=BQ t l'):Bx t l=Bx t l':=by
 unfold Bx;exact List.map_congr_left fun w hw=>by rw[UN hk h w hw]
theorem ZU{x y:Bo}(h:[x.a0,x.a1,x.a2]=[y.a0,y.a1,y.a2]):x=y:=by cases x;cases y;simpa using h
def Jf(M:List Int)(n:B7):Bool:=Ef (M.getD n.BV.toNat 0) n.Cm n.Cn
def Eg(M out:List Int):Nat→List B7→Bool
 |_,[]=>true
 |i,n::a=>(out.contains (i:Int)||Jf M n)&&Eg M out (i+1) a
structure Tr (t:AE) (L:List (List Int)):Prop where
 UO:∀l∈L,E5 t.C l=true
 all:∀l,E5 t.C l=true→∃l'∈L,BQ t l'=BQ t l
 len:L.length≤150
section
variable{K:Nat}(hK:1000≤K)
include hK
theorem XD(t:AE){M out:List Int}(f:M.length≤3)(g:∀n∈t.AM,0≤n.BV∧n.BV<M.length)(hl:t.AM.length≤100)(j:out.length≤900):Fz K t (arr M) out=some (Eg M out 0 t.AM):=by
 have a:∀(d m i:Nat),t.AM.length=i+d→d<m→Ec K t (arr M) out m (i:Int)=some (cond (Eg M out i (t.AM.drop i)) (.inr ()) (.inl false)):=by
  intro d
  induction d with
  |zero=>
   intro m i h hm;obtain⟨m,rfl⟩:∃c,m=c+1:=⟨m-1,by omega⟩;rw[Ec.eq_2,cf (df (by omega)),List.drop_eq_nil_of_le (by omega),Eg,ct rfl]
  |succ d ih=>
   intro m i h hm;obtain⟨m,rfl⟩:∃c,m=c+1:=⟨m-1,by omega⟩;have hi:i<t.AM.length:=by omega
   rw[Ec.eq_2,ct (dt (by omega)),Cf hi,bd (KF hK out _ j),List.drop_eq_getElem_cons hi,Eg];cases out.contains (i:Int) with
   |true=>rw[Bool.true_or,Bool.true_and,nt,BW (by omega) (by omega),DM i,ih m (i+1) (by omega) (by omega)]
   |false=>
    obtain⟨h1,h2⟩:=g _ (List.getElem_mem hi);obtain⟨k,hk⟩:∃k:Nat,t.AM[i].BV=k:=⟨t.AM[i].BV.toNat,by omega⟩;have b:k<M.length:=by omega
    have e:GY K ⟨t.AM[i].Cm,t.AM[i].Cn⟩ M[k]=some (Jf M t.AM[i]):=by
     unfold GY Jf;rw[bd (IA ..),hk,Int.toNat_natCast,Dk _ b]
    rw[nf,hk,bd (JP f b),bd e,Bool.false_or];cases Jf M t.AM[i] with
    |false=>rw[nf,Bool.false_and,cf rfl]
    |true=>rw[nt,BW (by omega) (by omega),DM i,Bool.true_and,ih m (i+1) (by omega) (by omega)]
 have:=a t.AM.length K 0 (by omega) (by omega);rw[Int.natCast_zero,List.drop_zero] at this;unfold Fz;rw[bd this];cases Eg M out 0 t.AM<;>rfl
theorem Ry {t:AE} (f:OkT t):∀(X:List (List Int)) (a:List (List Int)),(∀l∈X,GC t.Ak l=true)→a.length+X.length≤5000→
  ∃L:List (List Int),run (fun(st:List Bo) (x:List Int)=>EK K t st x) X (a.map (BQ t))=some (true,L.map (BQ t))∧(∀l∈L,l∈a∨l∈X∧E5 t.C l=true)∧(∀l∈a,l∈L)∧(∀l∈X,E5 t.C l=true→∃l'∈L,BQ t l'=BQ t l)∧L.length≤a.length+X.length
 |[],a,_,_=>⟨a,rfl,fun l h=>.inl h,fun l h=>h,fun l h=>(nomatch h),by simp⟩
 |x::X,a,i,hlen=>by
  have j:=i x (List.mem_cons_self ..);have v:=f.hl;have w:=Ko j;rw[List.length_cons] at hlen;have o:GX K ⟨t.Ak,t.Ab,t.Aw⟩ x=some (E5 t.C x):=QD hK (c:=t.C) f.c (by omega)
  
  have step:∃b:List (List Int),EK K t (a.map (BQ t)) x=some (true,b.map (BQ t))∧(∀l∈b,l∈a∨l=x∧E5 t.C x=true)∧(∀l∈a,l∈b)∧(E5 t.C x=true→∃l'∈b,BQ t l'=BQ t x)∧b.length≤a.length+1:=by
   unfold EK;rw[bd o];cases g:E5 t.C x with
   |false=>exact⟨a,by rw[nf],fun l h=>.inl h,fun l h=>h,fun h=>(nomatch h),by omega⟩
   |true=>
    have d:∃b:List (List Int),(some (true,a.map (BQ t)++[BQ t x]):Option (Bool×List Bo))=some (true,b.map (BQ t))∧(∀l∈b,l∈a∨l=x∧true=true)∧(∀l∈a,l∈b)∧(true=true→∃l'∈b,BQ t l'=BQ t x)∧b.length≤a.length+1:=
     ⟨a++[x],by simp,fun l h=>by simpa using h,fun l h=>by simp[h],fun _=>⟨x,by simp,rfl⟩,by simp⟩
    rw[nt,bd (UM hK f j)]
    by_cases h0:a.length=0
    ·rw[ct (H3 (by simp[h0])),FD (by simp;omega)];exact d
    ·rw[cf (KD (by simp;simpa using h0)),BW (by simp;omega) (by simp;omega)];have e:(((a.map (BQ t)).length:Int))-1=((a.length-1:Nat):Int):=by rw[List.length_map];omega
     have k:a.length-1<(a.map (BQ t)).length:=by rw[List.length_map];omega
     rw[e,Cf k];cases m:([((a.map (BQ t))[a.length-1]).a0,((a.map (BQ t))[a.length-1]).a1,((a.map (BQ t))[a.length-1]).a2] !=[(BQ t x).a0,(BQ t x).a1,(BQ t x).a2]) with
     |true=>rw[ct rfl,FD (by simp;omega)];exact d
     |false=>
      rw[cf rfl];refine⟨a,rfl,fun l h=>.inl h,fun l h=>h,fun _=>⟨a[a.length-1]'(by omega),List.getElem_mem _,?_⟩,by omega⟩;have h1:[((a.map (BQ t))[a.length-1]).a0,((a.map (BQ t))[a.length-1]).a1,((a.map (BQ t))[a.length-1]).a2]=[(BQ t x).a0,(BQ t x).a1,(BQ t x).a2]:=by simpa using m
      rw[List.getElem_map] at h1;exact ZU h1
  obtain⟨b,s1,s2,p,q,y⟩:=step;obtain⟨L,r,s,n,u,z⟩:=Ry f X b (fun l hl=>i l (List.mem_cons_of_mem _ hl)) (by omega);refine⟨L,by rw[run,bd s1,ct rfl];exact r,?_,fun l hl=>n l (p l hl),?_,by rw[List.length_cons];omega⟩
  ·intro l hl;rcases s l hl with h|h
   ·rcases s2 l h with h|⟨rfl,h⟩
    ·exact .inl h
    ·exact .inr ⟨List.mem_cons_self ..,h⟩
   ·exact .inr ⟨List.mem_cons_of_mem _ h.1,h.2⟩
  ·intro l hl g;rcases List.mem_cons.1 hl with rfl|hl
   ·obtain⟨l',h1,h2⟩:=q g;exact⟨l',n l' h1,h2⟩
   ·exact u l hl g
theorem ZV{t:AE}(a:OkT t):∃L,Tr t L∧HE K t=some (wk t (L.map (BQ t)) []):=by
 have j:=a.hl;have hlen:((I9 t.Ak).length:Int)=GN t.Ak:=Rw a.c.ok;have b:=a.many;obtain⟨L,d,e,_,f,i⟩:=Ry hK a (I9 t.Ak) [] (fun l hl=>(Ox (rs:=t.Ak) a.c.ok).1 hl) (by simp;omega);refine⟨L,⟨fun l hl=>?_,fun l hl=>f l ((Ox (rs:=t.Ak) a.c.ok).2 (Ou hl)) hl,by simp at i;omega⟩,?_⟩
 ·rcases e l hl with h|h
  ·cases h
  ·exact h.2
 ·unfold HE;have g:=XA hK _ t.Ak (by omega) a.c.ok _ true _ d;rw[List.map_nil] at g;rw[bd (ZT hK a),bd (XB hK t (by omega)),bd g];rfl
def J0 (t:AE) (out:List Int) (L:List (List Int)):List (Bo×Bo):=(L.filter fun l=>Eg (Bx t l) out 0 t.AM).map fun l=>(BQ t l,arr (Bx t l))
theorem Oy{σ:Type}{t:AE}(g:OkT t){out:List Int}(u:out.length≤900)(cb:σ→(Bo×Bo)→Option (Bool×σ))(L:List (List Int))(w:L.length≤150)(f:List (List Int×Int)):∀(d n i:Nat) (m:List (List Int×Int)) (s:σ) (b:Bool) (c:σ),L.length=i+d→d<n→Ho t m→
  run cb (J0 t out (L.drop i)) s=some (b,c)→∃j,Ho t j∧(DP cb K (wk t (L.map (BQ t)) f) out n (i:Int) m s).bind (fun z=>Sum.elim (fun q=>some (q.1,q.2)) (fun q=>some (q.1,q.2)) z)=some (j,c)
 |d,0,i,m,s,b,c,h,o,_,_=>by omega
 |0,n+1,i,m,s,b,c,h,o,hm,a=>by
  have e:((wk t (L.map (BQ t)) f).B5.length:Int)=L.length:=by show((List.map _ _).length:Int)=_;simp
  rw[List.drop_eq_nil_of_le (by omega)] at a;have:(true,s)=(b,c):=Option.some.inj a;injection this with aA k
  subst k;refine⟨m,hm,?_⟩;rw[DP.eq_2,cf (df (by omega))];rfl
 |d+1,n+1,i,m,s,b,c,h,o,hm,a=>by
  have e:((wk t (L.map (BQ t)) f).B5.length:Int)=L.length:=by show((List.map _ _).length:Int)=_;simp
  have x:=g.kl;have aB:=g.nl;have hi:i<L.length:=by omega
  have p:i<(wk t (L.map (BQ t)) f).B5.length:=by show i<(List.map _ _).length;simpa using hi
  have k:(wk t (L.map (BQ t)) f).B5[i]'p=BQ t L[i]:=by simp[wk]
  obtain⟨v,l,g1⟩:=Xz hK g (L.map (BQ t)) hm L[i];have g2:Fz K t (arr (Bx t L[i])) out=some (Eg (Bx t L[i]) out 0 t.AM):=XD hK t (by rw[Gb];exact x) (fun n o=>by rw[Gb];exact(g.note n o).1) (by omega) u;rw[DP.eq_2,ct (dt (by omega)),Cf p,k];show∃j,Ho t j∧(((FM K (wk t (L.map (BQ t)) m) (BQ t L[i])).bind _).bind _)=_;rw[bd g1];show∃j,Ho t j∧(((Fz K t (arr (Bx t L[i])) out).bind _).bind _)=_;rw[bd g2];unfold J0 at a;rw[List.drop_eq_getElem_cons hi,List.filter_cons] at a;cases hr:Eg (Bx t L[i]) out 0 t.AM with
  |false=>
   rw[hr,if_neg (by simp)] at a;rw[cf rfl,BW (by omega) (by omega),DM i];exact Oy g u cb L w f d n (i+1) v s b c (by omega) (by omega) l a
  |true=>
   rw[hr,if_pos rfl,List.map_cons,run] at a;rw[ct rfl];cases y:cb s (BQ t L[i],arr (Bx t L[i])) with
   |none=>rw[y] at a;cases a
   |some r=>
    obtain⟨b1,s1⟩:=r;rw[y,Option.bind_some] at a;rw[Option.bind_some];cases b1 with
    |false=>
     have:(false,s1)=(b,c):=Option.some.inj a;injection this with aA k
     subst k;exact⟨v,l,rfl⟩
    |true=>
     rw[nt,BW (by omega) (by omega),DM i];exact Oy g u cb L w f d n (i+1) v s1 b c (by omega) (by omega) l a
theorem Oz{σ:Type}{t:AE}(d:OkT t){out:List Int}(e:out.length≤900)(cb:σ→(Bo×Bo)→Option (Bool×σ)){L:List (List Int)}(f:L.length≤150){m:List (List Int×Int)}(hm:Ho t m){s:σ}{b:Bool}{a:σ}
  (h:run cb (J0 t out L) s=some (b,a)):∃c,Ho t c∧FH K cb (wk t (L.map (BQ t)) m) out s=some (c,a):=
 Oy hK d e cb L f m L.length K 0 m s b a (by omega) (by omega) hm (by rw[List.drop_zero];exact h)
theorem T3{t:AE}(c:OkT t){out:List Int}(d:out.length≤900){L:List (List Int)}(f:L.length≤150){m:List (List Int×Int)}(hm:Ho t m):
  ∃a,Ho t a∧DA K (wk t (L.map (BQ t)) m) out=some (L.any fun l=>Eg (Bx t l) out 0 t.AM,a):=by
 have hr:∃b,run (fun(st:Bool×Bool) (x:Bo×Bo)=>cond st.2 none (FO st.1 x)) (J0 t out L) (false,false)=some (b,(L.any fun l=>Eg (Bx t l) out 0 t.AM,L.any fun l=>Eg (Bx t l) out 0 t.AM)):=by
  have e:(L.any fun l=>Eg (Bx t l) out 0 t.AM)= !(J0 t out L).isEmpty:=by
   unfold J0;rw[Bool.eq_iff_iff,List.any_eq_true];simp
  rw[e];cases J0 t out L with
  |nil=>exact⟨true,rfl⟩
  |cons x X=>exact⟨false,rfl⟩
 obtain⟨b,hr⟩:=hr;obtain⟨a,h1,h2⟩:=Oz hK c d _ f hm hr;refine⟨a,h1,?_⟩;unfold DA;rw[bd h2];cases L.any fun l=>Eg (Bx t l) out 0 t.AM<;>rfl
end
theorem MH(M out:List Int):∀(a:List B7) (i:Nat),Eg M out i a=true↔∀j (hj:j<a.length),out.contains ((i+j:Nat):Int)=true∨Jf M a[j]=true
 |[],i=>by simp[Eg]
 |n::a,i=>by
  rw[Eg,Bool.and_eq_true,Bool.or_eq_true,MH M out a (i+1)];constructor
  ·rintro⟨h1,h2⟩ j hj;cases j with
   |zero=>simpa using h1
   |succ j=>
    have:=h2 j (by simpa using hj);rw[show i+(j+1)=i+1+j by omega];simpa using this
  ·intro h;refine⟨(show out.contains ((i+0:Nat):Int)=true∨Jf M n=true from h 0 (by simp)),fun j hj=>?_⟩;have:=h (j+1) (by simpa using hj);rw[show i+1+j=i+(j+1) by omega];simpa using this
def K3(M:List Int):Nat→List B7→Nat
 |_,[]=>0
 |i,n::a=>(if Jf M n=true then 2^i else 0)|||K3 M (i+1) a
theorem Nz(M:List Int):∀(a:List B7) (i j:Nat),(K3 M i a).testBit j=true↔∃q,∃b:q<a.length,j=i+q∧Jf M a[q]=true
 |[],i,j=>by simp[K3]
 |n::a,i,j=>by
  rw[K3,Nat.testBit_or,Bool.or_eq_true,Nz M a (i+1) j];constructor
  ·rintro(h|⟨q,b,rfl,h⟩)
   ·split at h
    ·rename_i c
     rw[Nat.testBit_two_pow,decide_eq_true_eq] at h;exact⟨0,by simp,by omega,by simpa using c⟩
    ·simp at h
   ·exact⟨q+1,by simpa using b,by omega,by simpa using h⟩
  ·rintro⟨q,b,rfl,h⟩;cases q with
   |zero=>
    left;rw[if_pos (by simpa using h),Nat.testBit_two_pow];simp
   |succ q=>exact .inr ⟨q,by simpa using b,by omega,by simpa using h⟩
theorem UP(M:List Int)(a:List B7):K3 M 0 a=2^a.length-1↔Eg M [] 0 a=true:=by
 rw[MH];constructor
 ·intro h j hj;have:=(Nz M a 0 j).1 (by rw[h,Nat.testBit_two_pow_sub_one];simpa using hj);obtain⟨q,b,e,h2⟩:=this;obtain rfl:j=q:=by omega
  exact .inr h2
 ·intro h;refine Nat.eq_of_testBit_eq fun j=>?_;rw[Nat.testBit_two_pow_sub_one,Bool.eq_iff_iff,Nz,decide_eq_true_eq];constructor
  ·rintro⟨q,b,rfl,_⟩;omega
  ·intro hj;rcases h j hj with h1|h1
   ·simp at h1
   ·exact⟨j,hj,by omega,h1⟩
theorem Ql:∀i:Nat,i<6→Jc .u64 (i:Int)=some ()∧Li 1 (i:Int)=some ()∧Gr 1 (i:Int)=((2^i:Nat):Int)∧2^i≤32∧1≤2^i∧Li 2 (i:Int)=some ()∧Gr 2 (i:Int)=((2^(i+1):Nat):Int):=by decide+kernel
theorem WW(a b:Nat):Lp (a:Int) (b:Int)=((a|||b:Nat):Int):=by unfold Lp;rw[Int.toNat_natCast,Int.toNat_natCast]
theorem RA{β:Type}{a b:Int}{f:Unit→Option β}(h0:0≤a∧a≤9223372036854775807)(h1:0≤b∧b≤9223372036854775807):(Nk a b).bind f=f ():=bd (if_pos ⟨h0,h1⟩)
def GP(t:AE)(l:List Int):Bool:=E5 t.C l&&Eg (Bx t l) [] 0 t.AM
def CV(t:AE):List (List Int):=(EN t.C).filter fun l=>Eg (Bx t l) [] 0 t.AM
theorem Oa{c:Be}(a:OkC c):(EN c).length≤150:=by
 have:=a.many;unfold EN;refine Nat.le_trans (List.length_filter_le _ _) ?_;rw[List.length_map,List.length_range];omega
section
variable{K:Nat}(hK:1000≤K)
include hK
theorem VW{t:AE}(f:OkT t){l:List Int}(hl:GC t.Ak l=true):Hc K t l=some ((K3 (Bx t l) 0 t.AM:Nat):Int):=by
 have o:=f.nl;have a:∀(d m i:Nat) (s:Nat),t.AM.length=i+d→d<m→s<2^5→Ee K t l m (s:Int) (i:Int)=some ((s|||K3 (Bx t l) i (t.AM.drop i):Nat):Int):=by
  intro d
  induction d with
  |zero=>
   intro m i s h hm hs;obtain⟨m,rfl⟩:∃g,m=g+1:=⟨m-1,by omega⟩;rw[Ee.eq_2,cf (df (by omega)),List.drop_eq_nil_of_le (by omega),K3,Nat.or_zero]
  |succ d ih=>
   intro m i s h hm hs;obtain⟨m,rfl⟩:∃g,m=g+1:=⟨m-1,by omega⟩;have hi:i<t.AM.length:=by omega
   obtain⟨h1,h2⟩:=(f.note _ (List.getElem_mem hi)).1;obtain⟨k,hk⟩:∃k:Nat,t.AM[i].BV=k:=⟨t.AM[i].BV.toNat,by omega⟩;have b:k<t.Ab.length:=by omega
   have c:k<(Bx t l).length:=by rw[Gb];exact b
   obtain⟨s1,s2,j,p,q,_⟩:=Ql i (by omega);have e:Ef ((Bx t l)[k]'c) t.AM[i].Cm t.AM[i].Cn=Jf (Bx t l) t.AM[i]:=by
    unfold Jf;rw[hk,Int.toNat_natCast,Dk _ c]
   rw[Ee.eq_2,ct (dt (by omega)),Cf hi,Cf hi,hk,bd (PC hK f hl b),bd (Kh ..),e,List.drop_eq_getElem_cons hi,K3];have n:2^i<2^5:=Nat.pow_lt_pow_right (by omega) (by omega);cases Jf (Bx t l) t.AM[i] with
   |true=>
    rw[ct rfl,bd s1,bd s2,j,RA (by omega) (by omega),BW (by omega) (by omega),DM i,WW,if_pos rfl,ih m (i+1) _ (by omega) (by omega) (Nat.or_lt_two_pow hs n),Nat.or_assoc]
   |false=>rw[cf rfl,BW (by omega) (by omega),DM i,if_neg (by simp),Nat.zero_or,ih m (i+1) _ (by omega) (by omega) hs]
 have:=a t.AM.length K 0 0 (by omega) (by omega) (by omega);rw[Int.natCast_zero,List.drop_zero,Nat.zero_or] at this;unfold Hc;rw[bd this]
theorem ZW{t:AE}(a:OkT t):HG K t=some ((2^t.AM.length-1:Nat):Int):=by
 have d:=a.nl;obtain⟨s1,s2,b,e,c,_⟩:=Ql t.AM.length (by omega);unfold HG;rw[bd s1,bd s2,b,BW (by omega) (by omega),Int.natCast_sub c];rfl
theorem XE{t:AE}(l:List Int):(((K3 (Bx t l) 0 t.AM:Nat):Int)==((2^t.AM.length-1:Nat):Int))=Eg (Bx t l) [] 0 t.AM:=by
 rw[Bool.eq_iff_iff,beq_iff_eq,←UP];omega
theorem O9{t:AE}(a:OkT t):F5 K t=some (CV t):=by
 have hlen:=Oa a.c;have h:F4 K ⟨t.Ak,t.Ab,t.Aw⟩=some (EN t.C):=UL hK (c:=t.C) a.c;have b:∀(d m i:Nat) (acc:List (List Int)),(EN t.C).length=i+d→d<m→acc.length≤i→DZ K t (EN t.C) m acc (i:Int)=some (acc++((EN t.C).drop i).filter fun l=>Eg (Bx t l) [] 0 t.AM):=by
  intro d
  induction d with
  |zero=>
   intro m i acc h hm ha;obtain⟨m,rfl⟩:∃e,m=e+1:=⟨m-1,by omega⟩;rw[DZ.eq_2,cf (df (by omega)),List.drop_eq_nil_of_le (by omega),List.filter_nil,List.append_nil]
  |succ d ih=>
   intro m i acc h hm ha;obtain⟨m,rfl⟩:∃e,m=e+1:=⟨m-1,by omega⟩;have hi:i<(EN t.C).length:=by omega
   have f:=(Jj a.c).1 (List.getElem_mem hi);rw[DZ.eq_2,ct (dt (by omega)),Cf hi,bd (VW hK a (Ou f)),bd (ZW hK a),XE hK,List.drop_eq_getElem_cons hi,List.filter_cons];cases Eg (Bx t (EN t.C)[i]) [] 0 t.AM with
   |true=>
    rw[ct rfl,if_pos rfl,Cf hi,FD (by simp;omega),BW (by omega) (by omega),DM i,ih m (i+1) _ (by omega) (by omega) (by simp;omega),List.append_assoc];rfl
   |false=>rw[cf rfl,if_neg (by simp),BW (by omega) (by omega),DM i,ih m (i+1) _ (by omega) (by omega) (by omega)]
 have:=b (EN t.C).length K 0 [] (by omega) (by omega) (by simp);rw[Int.natCast_zero,List.drop_zero,List.nil_append] at this;unfold F5 CV;rw[bd h,bd this]
end
def K4(c:Be):Bool:=decide (c.Ax.length≤5)&&(decide (c.AX.length≤5)&&(decide (c.AP.length≤7)&&((c.AX.all fun l=>decide (l.length≤6))&&(decide (GO c≠0)||decide (GN c.Ax≤150)))))
def Ij(t:AE):Bool:=K4 t.C&&(decide (t.AB.length≤5)&&(decide (t.AF.length≤5)&&decide (t.AM.length≤7)))
theorem Qm{c:Be}:K4 c=true↔c.Ax.length≤5∧c.AX.length≤5∧c.AP.length≤7∧(∀l∈c.AX,l.length≤6)∧(GO c≠0∨GN c.Ax≤150):=by
 simp[K4]
theorem Ki{t:AE}(h:Ij t=true):Rp t:=by
 unfold Ij at h;rw[Bool.and_eq_true,Bool.and_eq_true,Bool.and_eq_true,decide_eq_true_eq,decide_eq_true_eq,decide_eq_true_eq,Qm] at h;obtain⟨⟨h1,h2,b,a,_⟩,c,d,e⟩:=h;exact⟨⟨by omega,by omega,by omega,fun l hl=>by have:=a l hl;omega⟩,by omega,by omega,by omega⟩
theorem JQ{t:AE}(h:Ij t=true)(h0:Gy t=0):OkT t:=by
 have hl:=Ki h;unfold Ij at h;rw[Bool.and_eq_true,Qm] at h;have a:=(Hr h0).1;exact⟨hl,h0,by
  rcases h.1.2.2.2.2 with h1|h1
  ·exact absurd a h1
  ·exact h1⟩
section
variable{K:Nat}(hK:1000≤K)
include hK
theorem RB(l:List Int)(hl:l.length≤1000):HH K l=some l:=by
 unfold HH;rw[FD (by simp;omega),List.nil_append]
theorem Pa(l:List Int)(hl:l.length≤1000):FT K l=some l:=RB hK l hl
theorem NS {α:Type} (xs:List α) (F:Nat→Int→List α→Option (List α)) (c:∀m (i:Nat) acc (hi:i<xs.length),acc.length≤i→F (m+1) (i:Int) acc=F m ((i+1:Nat):Int) (acc++[xs[i]]))
  (e:∀m acc,F (m+1) (xs.length:Int) acc=some acc) (hl:xs.length≤900):F K 0 []=some xs:=by
 have a:∀(d m i:Nat) (acc:List α),xs.length=i+d→d<m→acc.length≤i→F m (i:Int) acc=some (acc++xs.drop i):=by
  intro d
  induction d with
  |zero=>
   intro m i acc h hm ha;obtain⟨m,rfl⟩:∃b,m=b+1:=⟨m-1,by omega⟩;obtain rfl:i=xs.length:=by omega
   rw[e,List.drop_eq_nil_of_le (by omega),List.append_nil]
  |succ d ih=>
   intro m i acc h hm ha;obtain⟨m,rfl⟩:∃b,m=b+1:=⟨m-1,by omega⟩;have hi:i<xs.length:=by omega
   rw[c m i acc hi ha,ih m (i+1) _ (by omega) (by omega) (by simp;omega),List.drop_eq_getElem_cons hi,List.append_assoc];rfl
 have:=a xs.length K 0 [] (by omega) (by omega) (by simp);rw[Int.natCast_zero,List.drop_zero,List.nil_append] at this;exact this
theorem VX(c:Be)(hl:VP c):F6 K c=some c:=by
 obtain⟨h1,h2,f,a⟩:=hl;unfold F6;have b:Dh K c K 0 []=some c.Ax:=NS hK c.Ax (fun m i acc=>Dh K c m i acc) (fun m i acc hi ha=>by
   show Dh K c (m+1) (i:Int) acc=_;rw[Dh.eq_2,ct (dt (by omega)),Cf hi];unfold Hn;rw[Option.bind_some,FD (by simp;omega),BW (by omega) (by omega),DM i];try rfl) (fun m acc=>by
   show Dh K c (m+1) (c.Ax.length:Int) acc=_;rw[Dh.eq_2,cf (df (by omega))]) (by omega)
 have d:De K c K 0 []=some c.AX:=NS hK c.AX (fun m i acc=>De K c m i acc) (fun m i acc hi ha=>by
   show De K c (m+1) (i:Int) acc=_;rw[De.eq_2,ct (dt (by omega)),Cf hi,bd (RB hK _ (by have:=a _ (List.getElem_mem hi);omega)),FD (by simp;omega),BW (by omega) (by omega),DM i];try rfl) (fun m acc=>by
   show De K c (m+1) (c.AX.length:Int) acc=_;rw[De.eq_2,cf (df (by omega))]) (by omega)
 have e:Df K c K 0 []=some c.AP:=NS hK c.AP (fun m i acc=>Df K c m i acc) (fun m i acc hi ha=>by
   show Df K c (m+1) (i:Int) acc=_;rw[Df.eq_2,ct (dt (by omega)),Cf hi];unfold Hn;rw[Option.bind_some,FD (by simp;omega),BW (by omega) (by omega),DM i];try rfl) (fun m acc=>by
   show Df K c (m+1) (c.AP.length:Int) acc=_;rw[Df.eq_2,cf (df (by omega))]) (by omega)
 rw[bd b,bd d,bd e]
theorem Kp(t:AE)(hl:Rp t):Dn K t=some t:=by
 obtain⟨a,h1,h2,f⟩:=hl;unfold Dn;have b:F6 K ⟨t.Ak,t.Ab,t.Aw⟩=some t.C:=VX hK t.C a;have c:Du t K 0 []=some t.AB:=NS hK t.AB (fun m i acc=>Du t m i acc) (fun m i acc hi ha=>by
   show Du t (m+1) (i:Int) acc=_;rw[Du.eq_2,ct (dt (by omega)),Cf hi,Cf hi,FD (by simp;omega),BW (by omega) (by omega),DM i];try rfl) (fun m acc=>by
   show Du t (m+1) (t.AB.length:Int) acc=_;rw[Du.eq_2,cf (df (by omega))]) (by omega)
 have d:Di t K 0 []=some t.AF:=NS hK t.AF (fun m i acc=>Di t m i acc) (fun m i acc hi ha=>by
   show Di t (m+1) (i:Int) acc=_;rw[Di.eq_2,ct (dt (by omega)),Cf hi,Cf hi,FD (by simp;omega),BW (by omega) (by omega),DM i];try rfl) (fun m acc=>by
   show Di t (m+1) (t.AF.length:Int) acc=_;rw[Di.eq_2,cf (df (by omega))]) (by omega)
 have e:Dj K t K 0 []=some t.AM:=NS hK t.AM (fun m i acc=>Dj K t m i acc) (fun m i acc hi ha=>by
   show Dj K t (m+1) (i:Int) acc=_;rw[Dj.eq_2,ct (dt (by omega)),Cf hi,Cf hi];unfold I8;rw[Option.bind_some,FD (by simp;omega),BW (by omega) (by omega),DM i];try rfl) (fun m acc=>by
   show Dj K t (m+1) (t.AM.length:Int) acc=_;rw[Dj.eq_2,cf (df (by omega))]) (by omega)
 rw[bd b,bd c,bd d,bd e];rfl
theorem T4(c:Be):GO c=0→∀r∈c.Ax,IG r:=fun h=>(IB h).2.2.2.2.1
theorem XF(c:Be):Gx K c=some (K4 c):=by
 unfold Gx
 by_cases h1:c.Ax.length≤5
 case neg=>rw[ct (dt (by omega))];unfold K4;rw[df h1,Bool.false_and]
 rw[cf (df (by omega))]
 by_cases h2:c.AX.length≤5
 case neg=>rw[ct (dt (by omega))];unfold K4;rw[df h2,Bool.false_and,Bool.and_false]
 rw[cf (df (by omega))]
 by_cases a:c.AP.length≤7
 case neg=>rw[ct (dt (by omega))];unfold K4;rw[df a,Bool.false_and,Bool.and_false,Bool.and_false]
 rw[cf (df (by omega))];have b:DC c K 0=some (cond (c.AX.all fun l=>decide (l.length≤6)) (.inr ()) (.inl false)):=
  K2 c.AX (fun m i=>DC c m (i:Int)) (fun l=>decide (l.length≤6)) false
   (fun m i hi=>by
    show DC c (m+1) (i:Int)=_;rw[DC.eq_2,ct (dt (by omega)),Cf hi]
    by_cases h:c.AX[i].length≤6
    ·rw[cf (df (by omega)),BW (by omega) (by omega),DM i,dt h,ct rfl]
    ·rw[ct (dt (by omega)),df h,cf rfl])
   (fun m=>by
    show DC c (m+1) (c.AX.length:Int)=_;rw[DC.eq_2,cf (df (by omega))]) (by omega)
 unfold K4;rw[bd b,dt h1,dt h2,dt a,Bool.true_and,Bool.true_and,Bool.true_and];cases d:c.AX.all fun l=>decide (l.length≤6) with
 |false=>rw[cf rfl,Bool.false_and];rfl
 |true=>
  have e:∀l∈c.AX,l.length≤100:=fun l hl=>by have:=of_decide_eq_true (List.all_eq_true.1 d l hl);omega
  rw[ct rfl,Bool.true_and];show Option.bind (EW K c) _=_;rw[bd (Ro hK c (by omega) (by omega) (by omega) e)]
  by_cases h0:GO c=0
  ·rw[cf (JD h0),bd (Rn hK c (by omega) (T4 hK c h0)),df (show¬(GO c≠0) by simp[h0]),Bool.false_or]
   congr 1
   rw[Bool.eq_iff_iff,decide_eq_true_eq,decide_eq_true_eq];omega
  ·rw[ct (Jo h0),dt h0,Bool.true_or]
theorem ZX(t:AE):HI K t=some (Ij t):=by
 unfold HI Ij;have h:Gx K ⟨t.Ak,t.Ab,t.Aw⟩=some (K4 t.C):=XF hK t.C;rw[bd h];cases K4 t.C with
 |false=>rw[cf rfl,Bool.false_and]
 |true=>
  rw[ct rfl,Bool.true_and]
  by_cases h1:t.AB.length≤5
  case neg=>rw[cf (df (by omega)),df h1,Bool.false_and]
  rw[ct (dt (by omega)),dt h1,Bool.true_and]
  by_cases h2:t.AF.length≤5
  case neg=>rw[cf (df (by omega)),df h2,Bool.false_and]
  rw[ct (dt (by omega)),dt h2,Bool.true_and]
  congr 1
  rw[Bool.eq_iff_iff,decide_eq_true_eq,decide_eq_true_eq];omega
theorem XG(t:AE):EX K t=some (Ij t&&decide (Gy t=0)):=by
 unfold EX;rw[bd (ZX hK t)];cases h:Ij t with
 |false=>rw[cf rfl,Bool.false_and]
 |true=>
  rw[ct rfl,bd (UI hK t (Ki h)),Bool.true_and];try rfl
end
def IL (t:AE):Int:=if Gy t≠0 then Gy t else if EN t.C=[] then 11 else 0
def En(t:AE):Int:=if IL t≠0 then IL t else if CV t=[] then 9 else 0
theorem GQ{t:AE}(h:IL t=0):Gy t=0∧EN t.C≠[]:=by
 unfold IL at h;split at h
 ·rename_i h1;exact absurd h h1
 rename_i h1
 split at h
 ·cases h
 exact⟨Decidable.byContradiction h1,‹_›⟩
theorem GR{t:AE}(h:En t=0):IL t=0∧CV t≠[]:=by
 unfold En at h;split at h
 ·rename_i h1;exact absurd h h1
 rename_i h1
 split at h
 ·cases h
 exact⟨Decidable.byContradiction h1,‹_›⟩
theorem ZY{α:Type}(l:List α):((l.length:Int)==0)=true↔l=[]:=by
 rw[beq_iff_eq];constructor
 ·intro h;exact List.eq_nil_of_length_eq_zero (by omega)
 ·rintro rfl;rfl
theorem UQ{α:Type}{l:List α}(h:l≠[]):((l.length:Int)==0)=false:=by
 rw[Bool.eq_false_iff];exact fun g=>h ((ZY l).1 g)
section
variable{K:Nat}(hK:1000≤K)
include hK
theorem UR{t:AE}(a:OkT t){L:List (List Int)}(b:Tr t L):L=[]↔EN t.C=[]:=by
 constructor
 ·rintro rfl;refine List.eq_nil_iff_forall_not_mem.2 fun l hl=>?_;obtain⟨_,h,_⟩:=b.all l ((Jj a.c).1 hl);cases h
 ·intro h;refine List.eq_nil_iff_forall_not_mem.2 fun l hl=>?_;have:=(Jj a.c).2 (b.UO l hl);rw[h] at this;cases this
theorem Z0{t:AE}(a:OkT t){L:List (List Int)}(b:Tr t L)(p:List Int→Bool)(d:∀l l',BQ t l=BQ t l'→p l=p l'):L.any p=(EN t.C).any p:=by
 rw[Bool.eq_iff_iff,List.any_eq_true,List.any_eq_true];constructor
 ·rintro⟨l,hl,h⟩;exact⟨l,(Jj a.c).2 (b.UO l hl),h⟩
 ·rintro⟨l,hl,h⟩;obtain⟨l',h1,h2⟩:=b.all l ((Jj a.c).1 hl);exact⟨l',h1,by rw[d l' l h2];exact h⟩
theorem US {t:AE} (h:Ij t=true) (a:Bool):
  (IL t=0∧a=true∧∃L,Tr t L∧L≠[]∧Ep K t a=some (some (wk t (L.map (BQ t)) []),0))∨
  (¬(IL t=0∧a=true)∧Ep K t a=some (none,if Gy t=0∧a=false then 2 else IL t)):=by
 unfold Ep;rw[bd (Rr hK t (Ki h))]
 by_cases h0:Gy t=0
 ·have b:=JQ h h0;rw[cf (JD h0)];cases a with
  |false=>exact .inr ⟨by simp,by rw[nf,if_pos ⟨h0,rfl⟩]⟩
  |true=>
   obtain⟨L,c,e⟩:=ZV hK b;rw[nt,bd e];have d:(wk t (L.map (BQ t)) []).B5=L.map (BQ t):=rfl;rw[d,List.length_map]
   by_cases h1:L=[]
   ·have h2:=(UR hK b c).1 h1;refine .inr ⟨by rintro⟨f,_⟩;exact(GQ f).2 h2,?_⟩;rw[ct ((ZY _).2 h1),if_neg (by simp)];unfold IL;rw[if_neg (by simp[h0]),if_pos h2]
   ·have h2:EN t.C≠[]:=fun g=>h1 ((UR hK b c).2 g);refine .inl ⟨?_,rfl,L,c,h1,by rw[cf (UQ h1)]⟩;unfold IL;rw[if_neg (by simp[h0]),if_neg h2]
 ·rw[ct (Jo h0)];refine .inr ⟨fun g=>h0 (GQ g.1).1,?_⟩;rw[if_neg (by simp[h0])];unfold IL;rw[if_pos h0]
theorem UT{t:AE}(a:OkT t)(out:List Int)(l l':List Int)(h:BQ t l=BQ t l'):Eg (Bx t l) out 0 t.AM=Eg (Bx t l') out 0 t.AM:=by
 rw[Qk a.kl h]
theorem Ly{t:AE}(h:Ij t=true)(c:Bool):
  (En t=0∧c=true∧∃L m,Tr t L∧Ho t m∧CR K t c=some (some (wk t (L.map (BQ t)) m),0))∨
  (¬(En t=0∧c=true)∧CR K t c=some (none,if Gy t=0∧c=false then 2 else En t)):=by
 unfold CR;rcases US hK h c with⟨h0,n,L,i,d,e⟩|⟨h0,e⟩
 ·have j:=JQ h (GQ h0).1;rw[bd e];obtain⟨m,hm,g⟩:=T3 hK j (out:=[]) (by simp) i.len (Xx t);have o:(L.any fun l=>Eg (Bx t l) [] 0 t.AM)=(EN t.C).any fun l=>Eg (Bx t l) [] 0 t.AM:=Z0 hK j i _ (UT hK j [])
  by_cases h1:CV t=[]
  ·have f:En t=9:=by unfold En;rw[if_neg (by simp[h0]),if_pos h1]
   refine .inr ⟨by rw[f];simp,?_⟩;have k:((EN t.C).any fun l=>Eg (Bx t l) [] 0 t.AM)=false:=by
    rw[Bool.eq_false_iff];intro hh;obtain⟨l,hl,hr⟩:=List.any_eq_true.1 hh;have:l∈CV t:=List.mem_filter.2 ⟨hl,hr⟩;rw[h1] at this;cases this
   show(cond ((0:Int) !=0) (some ((none:Option B6),(0:Int))) ((DA K (wk t (L.map (BQ t)) []) []).bind _)=_);rw[cf (JD rfl),bd g,o,k,nf,f,n,if_neg (by simp)]
  ·have f:En t=0:=by unfold En;rw[if_neg (by simp[h0]),if_neg h1]
   have k:((EN t.C).any fun l=>Eg (Bx t l) [] 0 t.AM)=true:=by
    obtain⟨l,hl⟩:=List.exists_mem_of_ne_nil _ h1;obtain⟨a,b⟩:=List.mem_filter.1 hl;exact List.any_eq_true.2 ⟨l,a,b⟩
   refine .inl ⟨f,n,L,m,i,hm,?_⟩;show(cond ((0:Int) !=0) (some ((none:Option B6),(0:Int))) ((DA K (wk t (L.map (BQ t)) []) []).bind _)=_);rw[cf (JD rfl),bd g,o,k,nt];rfl
 ·rw[bd e];have d:(if Gy t=0∧c=false then (2:Int) else IL t)≠0:=by
   split
   ·omega
   ·rename_i hh
    intro g;refine h0 ⟨g,?_⟩;cases c with
    |true=>rfl
    |false=>exact absurd ⟨(GQ g).1,rfl⟩ hh
  refine .inr ⟨fun g=>h0 ⟨(GR g.1).1,g.2⟩,?_⟩;show cond (_ !=0) _ _=_;rw[ct (Jo d)]
  congr 2
  split
  ·rfl
  ·rename_i hh
   have:IL t≠0:=by rw[if_neg hh] at d;exact d
   unfold En;rw[if_pos this]
end
def Me(x:Int):List Int→List Int
 |[]=>[x]
 |y::l=>cond (decide (x≤y)) (x::y::l) (y::Me x l)
def Mm:List Int→List Int
 |[]=>[]
 |x::l=>Me x (Mm l)
theorem RC(x z:Int):∀l,z∈Me x l↔z=x∨z∈l
 |[]=>by simp[Me]
 |y::l=>by
  unfold Me;cases h:decide (x≤y)
  ·simp[RC x z l];constructor<;>(rintro(h|h|h)<;>simp[h])
  ·simp
theorem Qn(x:Int):∀l,(Me x l).Perm (x::l)
 |[]=>.refl _
 |y::l=>by
  unfold Me;cases h:decide (x≤y)
  ·exact((Qn x l).cons y).trans (.swap x y l)
  ·exact .refl _
theorem K5:∀l,(Mm l).Perm l
 |[]=>.refl _
 |x::l=>(Qn x _).trans ((K5 l).cons x)
theorem Ob(x:Int):∀l,l.Pairwise (· ≤·)→(Me x l).Pairwise (· ≤·)
 |[],_=>by simp[Me]
 |y::l,h=>by
  unfold Me;cases b:decide (x≤y)
  ·have h1:¬x≤y:=by simpa using b
   rw[List.pairwise_cons] at h;refine List.pairwise_cons.2 ⟨fun z a=>?_,Ob x l h.2⟩;rcases(RC x z l).1 a with rfl|a
   ·omega
   ·exact h.1 z a
  ·have h1:x≤y:=by simpa using b
   refine List.pairwise_cons.2 ⟨fun z a=>?_,h⟩;rcases List.mem_cons.1 a with rfl|a
   ·exact h1
   ·exact Int.le_trans h1 ((List.pairwise_cons.1 h).1 z a)
theorem Ll:∀l,(Mm l).Pairwise (· ≤·)
 |[]=>.nil
 |x::l=>Ob x _ (Ll l)
theorem MI(l:List Int):GJ l=Mm l:=by
 have hs:(GJ l).Pairwise (· ≤·):=by
  have:=List.pairwise_mergeSort (le:=fun(x y:Int)=>decide (x≤y)) (by intro a b c;simp;omega) (by intro a b;simp;omega) l;exact this.imp (fun h=>by simpa using h)
 refine List.Perm.eq_of_pairwise (le:=(· ≤·)) (fun a b _ _ h1 h2=>Int.le_antisymm h1 h2) hs (Ll l) ?_;exact(List.mergeSort_perm l _).trans (K5 l).symm
def PD(a:Nat)(d:B6)(b:List Int):Option (Bool×(List (List Int×Int))):=
 (Er a d).bind fun c=>(Es b c a ([]:List Int) (0:Int)).bind fun z3=>(Fw ((z3.length:Int)≤100000)).bind fun _=>(Fw (((Mm z3).length:Int)≤100000)).bind fun _=>some ((decide (((Lib.compact (Mm z3)).length:Int)<(b.length:Int)),c.2))
theorem VY:Fj=PD:=by
 funext K a b;unfold Fj PD;simp only[MI]
def NA(b:Nat)(c:List Int)(d:B6):Option (Bool×(List (List Int×Int))):=
 (PD b d c).bind fun a=>some ((a.1,a.2))
theorem T5:E7=NA:=by
 funext K a b;unfold E7 NA;rw[VY]
def PE(d:Nat)(e:AE):Option ((List Int)×Int):=
 (CR d e true).bind fun b=>Option.elim b.1 (cond (b.2 !=0) (some ((([]:List Int),b.2))) (none)) (fun a=>cond (b.2 !=0) (some ((([]:List Int),b.2))) ((FQ d (fun(st:(List (List Int×Int))) (x:(List Int))=>(NA d x (⟨a.Ar,a.As,a.Ap,a.BP,a.AJ,a.AK,a.AW,a.weights,a.B5,st⟩:B6)).bind fun r=>some (r.1,r.2)) (e.AF.length:Int) a.known).bind fun c=>cond (!c.2.1) (some ((([]:List Int),7))) (some ((c.1,0)))))
theorem VZ:G0=PE:=by
 funext K a;unfold G0 PE;rw[T5]
def PF(a:Nat):Option (Bool):=
 (Cv a 0).bind fun z=>(Kz a z [41,62]).bind fun n=>(Cv a 0).bind fun aA=>(Hk a aA).bind fun d=>(Cv a 0).bind fun o=>(HW a o [0,1]).bind fun b=>(Cv a 0).bind fun p=>(KA a p).bind fun c=>(Cv a 1).bind fun q=>(Ig a q).bind fun e=>(Cv a 0).bind fun r=>(PE a r).bind fun f=>(Cv a 2).bind fun s=>(J5 a s).bind fun g=>(Cv a 2).bind fun t=>(J6 a t).bind fun h=>cond (n.2==0) ((Dy a n.1 [80,120]).bind fun u=>cond (u) (cond (d.2==0) (cond ((d.1.length:Int)==2) ((idx d.1 (0:Int)).bind fun i=>(DD a 40 80).bind fun j=>cond ([i.Lo,i.Hi]==[j.Lo,j.Hi]) ((idx d.1 (1:Int)).bind fun k=>(DD a 120 120).bind fun l=>cond ([k.Lo,k.Hi]==[l.Lo,l.Hi]) (cond (b.2==0) ((DD a 160 200).bind fun m=>cond ([b.1.Lo,b.1.Hi]==[m.Lo,m.Hi]) (cond (c.2.2==0) ((Dy a c.1 [1]).bind fun v=>cond (v) (cond (c.2.1==180) (cond (e.2==0) ((Dy a e.1 [1,0]).bind fun w=>cond (w) (cond (f.2==0) ((Dy a f.1 [0,1]).bind fun x=>cond (x) (cond (g.2==0) (cond (g.1==1) (cond (h.2==0) ((Dy a h.1 [0]).bind fun y=>some (y)) (some (false))) (some (false))) (some (false))) (some (false))) (some (false))) (some (false))) (some (false))) (some (false))) (some (false))) (some (false))) (some (false))) (some (false))) (some (false))) (some (false))) (some (false))) (some (false))) (some (false))) (some (false))
theorem V0:Cq=PF:=by
 funext K;unfold Cq PF;rw[VZ]
set_option maxRecDepth 100000 in
theorem Sn:PF 1000=some true:=by kernel_rfl
theorem Pb:Cq 1000=some true:=by rw[V0];exact Sn
def CX (s:Nat):List Int:=((List.range 8).filter fun x=>s.testBit x).map fun x:Nat=>(x:Int)
def lexB:List Int→List Int→Bool
 |a::c,b::d=>if a=b then lexB c d else decide (a<b)
 |[],_::_=>true
 |_,[]=>false
def sh (a b:List Int):Bool:=decide (a.length<b.length)||(a.length==b.length&&lexB a b)
theorem MJ:∀a b:List Int,lexB a b=false→lexB b a=false→a=b
 |[],[],_,_=>rfl
 |[],b::c,h,_=>by cases h
 |a::d,[],_,h=>by cases h
 |a::d,b::c,h,g=>by
  rw[lexB] at h g
  by_cases e:a=b
  ·rw[if_pos e] at h;rw[if_pos e.symm] at g;rw[e,MJ d c h g]
  ·rw[if_neg e,decide_eq_false_iff_not] at h;rw[if_neg (Ne.symm e),decide_eq_false_iff_not] at g;omega
theorem Mn{a b:List Int}:sh a b=true↔a.length<b.length∨(a.length=b.length∧lexB a b=true):=by simp[sh]
theorem Z4{a b:List Int}(h:sh a b=false)(g:sh b a=false):a=b:=by
 rw[Bool.eq_false_iff] at h g;have h1:a.length=b.length:=by
  refine Decidable.byContradiction fun e=>?_;rcases Nat.lt_or_gt_of_ne e with e|e
  ·exact h (Mn.2 (.inl e))
  ·exact g (Mn.2 (.inl e))
 refine MJ a b ?_ ?_
 ·rw[Bool.eq_false_iff];exact fun e=>h (Mn.2 (.inr ⟨h1,e⟩))
 ·rw[Bool.eq_false_iff];exact fun e=>g (Mn.2 (.inr ⟨h1.symm,e⟩))
theorem MK{s:Nat}{r:Int}:r∈CX s↔∃x:Nat,x<8∧s.testBit x=true∧r=x:=by
 unfold CX;simp only[List.mem_map,List.mem_filter,List.mem_range];constructor
 ·rintro⟨x,⟨h1,h2⟩,rfl⟩;exact⟨x,h1,h2,rfl⟩
 ·rintro⟨x,h1,h2,rfl⟩;exact⟨x,⟨h1,h2⟩,rfl⟩
theorem UU{s x k:Nat}(hs:s<2^k)(h:s.testBit x=true):x<k:=by
 refine Decidable.byContradiction fun a=>?_;rw[Nat.testBit_lt_two_pow (Nat.lt_of_lt_of_le hs (Nat.pow_le_pow_right (by omega) (by omega)))] at h;cases h
theorem Sp(s:Nat):(CX s).Pairwise (· <·):=by
 unfold CX;rw[List.pairwise_map];have h:(List.range 8).Pairwise (fun a b:Nat=>a<b):=List.pairwise_lt_range;exact(h.sublist (List.filter_sublist)).imp fun h=>by omega
def G3(n:Int):Int→List Int→Bool
 |_,[]=>true
 |lo,x::l=>Ef x lo (n-1)&&G3 n (x+1) l
theorem SP{n:Int}:∀{l:List Int} {lo:Int},lo≤n→G3 n lo l=true→(l.length:Int)≤n-lo
 |[],_,h0,_=>by simp;omega
 |y::l,lo,h0,h=>by
  rw[G3,Bool.and_eq_true,DX] at h;have:=SP (by omega) h.2;rw[List.length_cons];omega
theorem UW{n:Nat}:∀{l:List Int} {lo:Int},l.Pairwise (· <·)→(∀x∈l,lo≤x∧x<(n:Int))→G3 n lo l=true
 |[],_,_,_=>rfl
 |x::l,lo,h,hm=>by
  have b:=hm x (List.mem_cons_self ..);rw[List.pairwise_cons] at h;rw[G3,Bool.and_eq_true,DX];exact⟨by omega,UW h.2 fun y a=>⟨by have:=h.1 y a;omega,(hm y (List.mem_cons_of_mem _ a)).2⟩⟩
theorem OA{n s:Nat}(hs:s<2^n):G3 n 0 (CX s)=true:=by
 refine UW (Sp s) fun x a=>?_;obtain⟨y,_,hb,rfl⟩:=MK.1 a;have:=UU hs hb;omega
section
variable{K:Nat}(hK:1000≤K)
include hK
theorem SQ(n:Int)(b:0≤n∧n≤100):∀(l:List Int) (s:Int),-1≤s→s≤100→∃a,run (fun(st:Int) (x:Int)=>(GM K x st n).bind fun r=>some (r.1,r.2)) l s=some (G3 n (s+1) l,a)
 |[],s,_,_=>⟨s,rfl⟩
 |x::l,s,h0,h1=>by
  have e:GM K x s n=some (Ef x (s+1) (n-1),x):=by
   unfold GM;rw[BW (by omega) (by omega),BW (by omega) (by omega),bd (IA ..)]
  rw[run,bd e,G3,Option.bind_some];cases h:Ef x (s+1) (n-1) with
  |false=>exact⟨x,rfl⟩
  |true=>
   rw[DX] at h;obtain⟨a,hs⟩:=SQ n b l x (by omega) (by omega);exact⟨a,by rw[Bool.true_and];exact hs⟩
theorem SR{n:Int}(a:0≤n∧n≤100){l:List Int}(hl:l.length≤900):HV K l n=some (G3 n 0 l):=by
 unfold HV;obtain⟨b,hs⟩:=SQ hK n a l (-1) (by omega) (by omega);rw[bd ((TZ hK _ l hl (-1)).trans hs)];rfl
end
structure ML (n:Nat) (p:List Int→Bool) (x:List Int):Prop where
 is:∃s,s<2^n∧CX s=x
 ok:p x=true
 least:∀s,s<2^n→p (CX s)=true→sh (CX s) x=false
theorem ML.uniq{n:Nat}{p:List Int→Bool}{x y:List Int}(h:ML n p x)(g:ML n p y):x=y:=by
 obtain⟨s,hs,rfl⟩:=h.is;obtain⟨b,a,rfl⟩:=g.is;exact Z4 (g.least s hs h.ok) (h.least b a g.ok)
theorem ML.ris{n:Nat}{p:List Int→Bool}{x:List Int}(h:ML n p x):G3 n 0 x=true:=by
 obtain⟨s,hs,rfl⟩:=h.is;exact OA hs
theorem ML.len{n:Nat}{p:List Int→Bool}{x:List Int}(h:ML n p x):x.length≤n:=by
 have:=SP (by omega) h.ris;omega
section
variable{K:Nat}(hK:1000≤K)
include hK
end
structure JW {α:Type} (S:List α) (f:α→Int) (r:AN):Prop where
 lo:∃l∈S,f l=r.Lo
 hi:∃l∈S,f l=r.Hi
 all:∀l∈S,r.Lo≤f l∧f l≤r.Hi
theorem XH{r s:AN}(h:r.Lo=s.Lo)(g:r.Hi=s.Hi):r=s:=by cases r;cases s;simp at h g;rw[h,g]
theorem JW.uniq{α:Type}{S:List α}{f:α→Int}{r s:AN}(h:JW S f r)(g:JW S f s):r=s:=by
 obtain⟨a,ha,ea⟩:=h.lo;obtain⟨b,hb,j⟩:=g.lo;obtain⟨c,e,ec⟩:=h.hi;obtain⟨d,i,k⟩:=g.hi;have h1:=g.all a ha;have h2:=h.all b hb;have l:=g.all c e;have m:=h.all d i;exact XH (by omega) (by omega)
theorem JW.map{α β:Type}{X:List α}{f:α→Int}{S:List β}{g:β→Int}{r:AN}(h:JW X f r)(h1:∀x∈X,∃l∈S,g l=f x)(h2:∀l∈S,∃x∈X,f x=g l):JW S g r:=by
 obtain⟨a,ha,ea⟩:=h.lo;obtain⟨c,i,ec⟩:=h.hi;obtain⟨a',b,m⟩:=h1 a ha;obtain⟨j,d,n⟩:=h1 c i;refine⟨⟨a',b,by omega⟩,⟨j,d,by omega⟩,fun l hl=>?_⟩;obtain⟨x,k,e⟩:=h2 l hl;have:=h.all x k;omega
theorem JW.snoc{α:Type}{S:List α}{f:α→Int}{r:AN}(h:JW S f r)(x:α):JW (S++[x]) f ⟨min r.Lo (f x),max r.Hi (f x)⟩:=by
 obtain⟨a,ha,ea⟩:=h.lo;obtain⟨c,b,ec⟩:=h.hi;refine⟨?_,?_,fun l hl=>?_⟩
 ·by_cases hh:r.Lo≤f x
  ·exact⟨a,by simp[ha],by simp only;omega⟩
  ·exact⟨x,by simp,by simp only;omega⟩
 ·by_cases hh:f x≤r.Hi
  ·exact⟨c,by simp[b],by simp only;omega⟩
  ·exact⟨x,by simp,by simp only;omega⟩
 ·simp only;rcases List.mem_append.1 hl with hl|hl
  ·have:=h.all l hl;omega
  ·rw[List.mem_singleton.1 hl];omega
theorem JW.one{α:Type}(f:α→Int)(x:α):JW [x] f ⟨f x,f x⟩:=⟨⟨x,by simp,rfl⟩,⟨x,by simp,rfl⟩,fun l hl=>by rw[List.mem_singleton.1 hl];simp⟩
theorem L5{t:AE}(a:OkT t){l l':List Int}(h:BQ t l=BQ t l'):Bx t l=Bx t l':=Qk a.kl h
theorem KQ{t:AE}{out:List Int}{L:List (List Int)}{x:Bo×Bo}:x∈J0 t out L↔∃l∈L,Eg (Bx t l) out 0 t.AM=true∧x=(BQ t l,arr (Bx t l)):=by
 unfold J0;simp only[List.mem_map,List.mem_filter];constructor
 ·rintro⟨l,⟨h1,h2⟩,rfl⟩;exact⟨l,h1,h2,rfl⟩
 ·rintro⟨l,h1,h2,rfl⟩;exact⟨l,⟨h1,h2⟩,rfl⟩
theorem Jk{t:AE}(a:OkT t){l:List Int}:l∈CV t↔GP t l=true:=by
 unfold CV GP;rw[List.mem_filter,Jj a.c,Bool.and_eq_true]
section
variable{K:Nat}(hK:1000≤K)
include hK
end
structure RD (W:List Int→Int) (n:Nat) (s:List Int):Prop where
 is:∃b,b<2^n∧CX b=s
 Z5:∀x,x<2^n→W (CX x)<W s∨(W (CX x)=W s∧lexB (CX x) s=false)
theorem RD.uniq{W:List Int→Int}{n:Nat}{s a:List Int}(h:RD W n s)(g:RD W n a):s=a:=by
 obtain⟨b,hb,rfl⟩:=h.is;obtain⟨b',c,rfl⟩:=g.is;have h1:=h.Z5 b' c;have h2:=g.Z5 b hb;rcases h1 with h1|⟨h1,d⟩<;>rcases h2 with h2|⟨h2,e⟩
 ·omega
 ·omega
 ·omega
 ·exact MJ _ _ e d
section
variable{K:Nat}(hK:1000≤K)
include hK
theorem Oc{t:AE}(a:OkT t):(CV t).length≤150:=Nat.le_trans (List.length_filter_le _ _) (Oa a.c)
theorem Pc{t:AE}(a:OkT t){l:List Int}(h:l∈CV t):GC t.Ak l=true:=by
 have h1:=(Jk a).1 h;unfold GP at h1;rw[Bool.and_eq_true] at h1;exact Ou h1.1
end
theorem nl{l l':List Int}(h:l=l'):(l !=l')=false:=by subst h;simp
section
variable{K:Nat}(hK:1000≤K)
include hK
end
def IS(t:AE)(o:BZ):Int:=(t.AB.getD o.Cw.toNat ⟨0,0⟩).AV
def Lv (t:AE) (o:BZ) (k:Nat):Bool:=decide (o.Ch≤(t.Ab.getD k []).sum)&&(CV t).all fun l=>decide (IS t o≤DQ l (t.Ab.getD k []))
def J7(t:AE)(o:BZ):List Int:=((List.range t.Ab.length).filter (Lv t o)).map fun k:Nat=>(k:Int)
def E8(t:AE):List (List Int):=t.AF.map (J7 t)
def Dg:List (List Int)→List Int→List Int→Bool
 |[],_,[]=>true
 |s::S,out,x::xs=>s.contains x&&(!out.contains x&&Dg S (out++[x]) xs)
 |_,_,_=>false
structure Pd (t:AE) (d:List Int):Prop where
 is:Dg (E8 t) [] d=true
 first:∀d',Dg (E8 t) [] d'=true→lexB d' d=false
theorem Pd.uniq{t:AE}{d d':List Int}(h:Pd t d)(g:Pd t d'):d=d':=MJ _ _ (g.first d h.is) (h.first d' g.is)
section
variable{K:Nat}(hK:1000≤K)
include hK
end
def WX (t:AE) (out:List Int):Bool:=(EN t.C).any fun l=>Eg (Bx t l) out 0 t.AM
def Pe(t:AE)(a:List B7):AE:=⟨t.Ak,t.Ab,t.Aw,t.Flat,t.AB,t.AF,a⟩
def RE (t:AE) (k:Nat):Bool:=WX (Pe t (t.AM.take k)) []
theorem Pf(M:List Int)(a:List B7):Eg M [] 0 a=true↔∀n∈a,Jf M n=true:=by
 rw[MH];constructor
 ·intro h n b;obtain⟨j,hj,rfl⟩:=List.getElem_of_mem b;rcases h j hj with h1|h1
  ·simp at h1
  ·exact h1
 ·intro h j hj;exact .inr (h _ (List.getElem_mem hj))
theorem Qo{t:AE}{j k:Nat}(h:j≤k)(hk:RE t k=true):RE t j=true:=by
 unfold RE WX at hk⊢;rw[List.any_eq_true] at hk⊢;obtain⟨l,hl,hr⟩:=hk;refine⟨l,hl,?_⟩;have a:Bx (Pe t (t.AM.take k)) l=Bx t l:=rfl;have b:Bx (Pe t (t.AM.take j)) l=Bx t l:=rfl;have c:(Pe t (t.AM.take k)).AM=t.AM.take k:=rfl;have d:(Pe t (t.AM.take j)).AM=t.AM.take j:=rfl;rw[a,c,Pf] at hr;rw[b,d,Pf];exact fun n e=>hr n (List.take_subset_take_left _ h e)
structure PG (t:AE) (i:Nat):Prop where
 lt:i<t.AM.length
 before:RE t i=true
 not:RE t (i+1)=false
theorem PG.uniq{t:AE}{i j:Nat}(h:PG t i)(g:PG t j):i=j:=by
 rcases Nat.lt_trichotomy i j with h1|h1|h1
 ·have:=Qo (show i+1≤j by omega) g.before;rw[h.not] at this;cases this
 ·exact h1
 ·have:=Qo (show j+1≤i by omega) h.before;rw[g.not] at this;cases this
section
variable{K:Nat}(hK:1000≤K)
include hK
end
theorem cvi{x:Int}(h0:-9223372036854775808≤x)(h1:x≤9223372036854775807):Jc .i64 x=some ():=by
 unfold Jc;have:IntKind.i64.wrap x=x:=Kf ⟨by omega,by omega⟩;rw[if_pos this]
theorem T6{β:Type}{x:Int}{f:Unit→Option β}(h0:0≤x)(h1:x<65536):(Jc .i64 x).bind f=f ():=bd (cvi (by omega) (by omega))
theorem SS{t:AE}(c:OkT t)(h0:En t≠0):En t=9∨En t=11:=by
 have a:IL t=0∨IL t=11:=by
  unfold IL
  by_cases b:EN t.C=[]
  ·right;rw[if_neg (show¬Gy t≠0 by simp[c.fault]),if_pos b]
  ·left;rw[if_neg (show¬Gy t≠0 by simp[c.fault]),if_neg b]
 unfold En at h0⊢;rcases a with a|a
 ·rw[a] at h0⊢
  by_cases b:CV t=[]
  ·left;rw[if_neg (show¬(0:Int)≠0 by simp),if_pos b]
  ·rw[if_neg (show¬(0:Int)≠0 by simp),if_neg b] at h0;exact absurd rfl h0
 ·right;rw[a,if_pos (by decide)]
section
variable{K:Nat}(hK:1000≤K)
include hK
theorem Od(t:AE):(EX K t=some false)∨(Ij t=true∧OkT t∧EX K t=some true):=by
 rw[XG hK t];cases h:Ij t with
 |false=>exact .inl rfl
 |true=>
  by_cases h0:Gy t=0
  ·exact .inr ⟨rfl,JQ h h0,by rw[dt h0];rfl⟩
  ·exact .inl (by rw[df h0];rfl)
end
end Go.Proofs.YtbhofkcbfblijaaGreat
end
section
namespace Go.Proofs.YtbhofkcbfblijaaGreat
namespace HF
theorem mixed:Tryz.prog.follows .mixedOrders=true:=by kernel_rfl
theorem MM(b:Nat)(w:World):(Instr.fieldAt 131 (.pointer (some ⟨b,0,none⟩)) 0).run Tryz.prog w=.ok (.pointer (some ⟨b,0,none⟩)) w:=by kernel_rfl
theorem Bg:One Tryz.prog 3:=by unfold One;exact⟨by kernel_rfl,by kernel_rfl⟩
theorem MN(b:Nat)(w:World):(Instr.fieldAt 131 (.pointer (some ⟨b,0,none⟩)) 1).run Tryz.prog w=.ok (.pointer (some ⟨b,1,none⟩)) w:=by kernel_rfl
theorem NT:Bc Tryz.prog 140:=by unfold Bc;kernel_rfl
theorem CM:(Tryz.prog.info? 3).map (·.size)=some 1:=by kernel_rfl
theorem RF(b:Nat)(w:World):(Instr.fieldAt 133 (.pointer (some ⟨b,0,none⟩)) 0).run Tryz.prog w=.ok (.pointer (some ⟨b,0,none⟩)) w:=by kernel_rfl
theorem Ka:One Tryz.prog 4:=by unfold One;exact⟨by kernel_rfl,by kernel_rfl⟩
theorem HQ(b:Nat)(w:World):(Instr.fieldAt 38 (.pointer (some ⟨b,0,none⟩)) 0).run Tryz.prog w=.ok (.pointer (some ⟨b,0,none⟩)) w:=by kernel_rfl
theorem IU:One Tryz.prog 35:=by unfold One;exact⟨by kernel_rfl,by kernel_rfl⟩
theorem MO(b:Nat)(w:World):(Instr.fieldAt 133 (.pointer (some ⟨b,0,none⟩)) 1).run Tryz.prog w=.ok (.pointer (some ⟨b,1,none⟩)) w:=by kernel_rfl
theorem SU:Bc Tryz.prog 199:=by unfold Bc;kernel_rfl
theorem MP:(Tryz.prog.info? 131).bind (·.zero)=some (.agg #[I 0,I 0]):=by kernel_rfl
theorem XI:Bc Tryz.prog 168:=by unfold Bc;kernel_rfl
theorem Le:(Tryz.prog.info? 131).map (·.size)=some 2:=by kernel_rfl
theorem Ir:E9 Tryz.prog 131 2:=by unfold E9;exact⟨by kernel_rfl,by kernel_rfl⟩
theorem XJ:One Tryz.prog 214:=by unfold One;exact⟨by kernel_rfl,by kernel_rfl⟩
theorem XK:Bc Tryz.prog 221:=by unfold Bc;kernel_rfl
theorem XL:Bc Tryz.prog 194:=by unfold Bc;kernel_rfl
theorem XM:Bc Tryz.prog 193:=by unfold Bc;kernel_rfl
theorem PH:One Tryz.prog 148:=by unfold One;exact⟨by kernel_rfl,by kernel_rfl⟩
theorem EO:(Tryz.prog.info? 31).map (·.size)=some 1:=by kernel_rfl
theorem CO:One Tryz.prog 31:=by unfold One;exact⟨by kernel_rfl,by kernel_rfl⟩
theorem XN:Bc Tryz.prog 222:=by unfold Bc;kernel_rfl
theorem XO:Bc Tryz.prog 196:=by unfold Bc;kernel_rfl
theorem XP:Bc Tryz.prog 195:=by unfold Bc;kernel_rfl
theorem XQ:One Tryz.prog 212:=by unfold One;exact⟨by kernel_rfl,by kernel_rfl⟩
theorem NU:E9 Tryz.prog 133 4:=by unfold E9;exact⟨by kernel_rfl,by kernel_rfl⟩
theorem RG:(Tryz.prog.info? 133).map (·.size)=some 4:=by kernel_rfl
theorem XS:Bc Tryz.prog 223:=by unfold Bc;kernel_rfl
theorem XT:Bc Tryz.prog 198:=by unfold Bc;kernel_rfl
theorem XU:Bc Tryz.prog 197:=by unfold Bc;kernel_rfl
theorem Lz:One Tryz.prog 142:=by unfold One;exact⟨by kernel_rfl,by kernel_rfl⟩
theorem XV:Bc Tryz.prog 207:=by unfold Bc;kernel_rfl
theorem XW:Bc Tryz.prog 231:=by unfold Bc;kernel_rfl
theorem SV:Bc Tryz.prog 187:=by unfold Bc;kernel_rfl
theorem XX:Bc Tryz.prog 220:=by unfold Bc;kernel_rfl
theorem XY:Bc Tryz.prog 219:=by unfold Bc;kernel_rfl
theorem H0:E9 Tryz.prog 38 3:=by unfold E9;exact⟨by kernel_rfl,by kernel_rfl⟩
theorem XZ:Bc Tryz.prog 191:=by unfold Bc;kernel_rfl
theorem SW:Bc Tryz.prog 192:=by unfold Bc;kernel_rfl
theorem Is(b:Nat)(w:World):(Instr.fieldAt 38 (.pointer (some ⟨b,0,none⟩)) 1).run Tryz.prog w=.ok (.pointer (some ⟨b,1,none⟩)) w:=by kernel_rfl
theorem C2:One Tryz.prog 23:=by unfold One;exact⟨by kernel_rfl,by kernel_rfl⟩
theorem OB(b:Nat)(w:World):(Instr.fieldAt 133 (.pointer (some ⟨b,0,none⟩)) 2).run Tryz.prog w=.ok (.pointer (some ⟨b,2,none⟩)) w:=by kernel_rfl
theorem PI:Bc Tryz.prog 165:=by unfold Bc;kernel_rfl
theorem Mo(b:Nat)(w:World):(Instr.fieldAt 38 (.pointer (some ⟨b,0,none⟩)) 2).run Tryz.prog w=.ok (.pointer (some ⟨b,2,none⟩)) w:=by kernel_rfl
theorem Pg:One Tryz.prog 36:=by unfold One;exact⟨by kernel_rfl,by kernel_rfl⟩
theorem X3:Bc Tryz.prog 164:=by unfold Bc;kernel_rfl
theorem X5:Bc Tryz.prog 163:=by unfold Bc;kernel_rfl
theorem X6:Bc Tryz.prog 166:=by unfold Bc;kernel_rfl
theorem X7:Bc Tryz.prog 162:=by unfold Bc;kernel_rfl
theorem X8:Bc Tryz.prog 167:=by unfold Bc;kernel_rfl
theorem X9:Bc Tryz.prog 169:=by unfold Bc;kernel_rfl
theorem Ya:Bc Tryz.prog 179:=by unfold Bc;kernel_rfl
theorem Jl:E9 Tryz.prog 182 3:=by unfold E9;exact⟨by kernel_rfl,by kernel_rfl⟩
theorem SX:Bc Tryz.prog 183:=by unfold Bc;kernel_rfl
theorem V1:(Tryz.prog.info? 133).bind (·.zero)=some (.agg #[.bool false,I 0,I 0,I 0]):=by kernel_rfl
theorem KR:Bc Tryz.prog 136:=by unfold Bc;kernel_rfl
theorem Yb:Bc Tryz.prog 178:=by unfold Bc;kernel_rfl
theorem Yc:Bc Tryz.prog 177:=by unfold Bc;kernel_rfl
theorem SY:Bc Tryz.prog 176:=by unfold Bc;kernel_rfl
theorem OC:(Tryz.prog.info? 182).bind (·.zero)=some (.agg #[I 0,I 0,I 0]):=by kernel_rfl
theorem NB:(Tryz.prog.info? 182).map (·.size)=some 3:=by kernel_rfl
theorem PJ:Bc Tryz.prog 127:=by unfold Bc;kernel_rfl
theorem SZ:Bc Tryz.prog 132:=by unfold Bc;kernel_rfl
theorem HJ:(Tryz.prog.info? 3).map (fun i=>(i.zero,i.size,i.bytes))=some (some (I 0),1,8):=by kernel_rfl
theorem Yd:Bc Tryz.prog 133:=by unfold Bc;kernel_rfl
theorem LA(b:Nat)(w:World):(Instr.fieldAt 60 (.pointer (some ⟨b,0,none⟩)) 0).run Tryz.prog w=.ok (.pointer (some ⟨b,0,none⟩)) w:=by kernel_rfl
theorem LB(b:Nat)(w:World):(Instr.fieldAt 60 (.pointer (some ⟨b,0,none⟩)) 1).run Tryz.prog w=.ok (.pointer (some ⟨b,1,none⟩)) w:=by kernel_rfl
theorem Kq:Bc Tryz.prog 158:=by unfold Bc;kernel_rfl
theorem JR:(Tryz.prog.info? 60).bind (·.zero)=some (.agg #[I 0,I 0]):=by kernel_rfl
theorem Ye:Bc Tryz.prog 185:=by unfold Bc;kernel_rfl
theorem Hs:(Tryz.prog.info? 60).map (·.size)=some 2:=by kernel_rfl
theorem GS:E9 Tryz.prog 60 2:=by unfold E9;exact⟨by kernel_rfl,by kernel_rfl⟩
theorem Jm(b:Nat)(w:World):(Instr.fieldAt 53 (.pointer (some ⟨b,0,none⟩)) 0).run Tryz.prog w=.ok (.pointer (some ⟨b,0,none⟩)) w:=by kernel_rfl
theorem RH(b:Nat)(w:World):(Instr.fieldAt 134 (.pointer (some ⟨b,0,none⟩)) 0).run Tryz.prog w=.ok (.pointer (some ⟨b,0,none⟩)) w:=by kernel_rfl
theorem LC(b:Nat)(w:World):(Instr.fieldAt 53 (.pointer (some ⟨b,0,none⟩)) 2).run Tryz.prog w=.ok (.pointer (some ⟨b,4,none⟩)) w:=by kernel_rfl
theorem LP:One Tryz.prog 49:=by unfold One;exact⟨by kernel_rfl,by kernel_rfl⟩
theorem RI(b:Nat)(w:World):(Instr.fieldAt 134 (.pointer (some ⟨b,0,none⟩)) 1).run Tryz.prog w=.ok (.pointer (some ⟨b,1,none⟩)) w:=by kernel_rfl
theorem Eh:E9 Tryz.prog 53 7:=by unfold E9;exact⟨by kernel_rfl,by kernel_rfl⟩
theorem RJ(b:Nat)(w:World):(Instr.fieldAt 136 (.pointer (some ⟨b,0,none⟩)) 0).run Tryz.prog w=.ok (.pointer (some ⟨b,0,none⟩)) w:=by kernel_rfl
theorem S1:Bc Tryz.prog 137:=by unfold Bc;kernel_rfl
theorem RK(b:Nat)(w:World):(Instr.fieldAt 136 (.pointer (some ⟨b,0,none⟩)) 1).run Tryz.prog w=.ok (.pointer (some ⟨b,1,none⟩)) w:=by kernel_rfl
theorem Yf:Bc Tryz.prog 161:=by unfold Bc;kernel_rfl
theorem Yg:One Tryz.prog 220:=by unfold One;exact⟨by kernel_rfl,by kernel_rfl⟩
theorem NC:E9 Tryz.prog 48 2:=by unfold E9;exact⟨by kernel_rfl,by kernel_rfl⟩
theorem MQ:(Tryz.prog.info? 48).map (·.size)=some 2:=by kernel_rfl
theorem Yh:Bc Tryz.prog 224:=by unfold Bc;kernel_rfl
theorem Yi:Bc Tryz.prog 201:=by unfold Bc;kernel_rfl
theorem Yj:Bc Tryz.prog 200:=by unfold Bc;kernel_rfl
theorem Yk:One Tryz.prog 177:=by unfold One;exact⟨by kernel_rfl,by kernel_rfl⟩
theorem Mp:E9 Tryz.prog 134 2:=by unfold E9;exact⟨by kernel_rfl,by kernel_rfl⟩
theorem Ph:(Tryz.prog.info? 134).map (·.size)=some 2:=by kernel_rfl
theorem Yl:Bc Tryz.prog 202:=by unfold Bc;kernel_rfl
theorem Ym:Bc Tryz.prog 173:=by unfold Bc;kernel_rfl
theorem Yn:Bc Tryz.prog 172:=by unfold Bc;kernel_rfl
theorem Yo:One Tryz.prog 178:=by unfold One;exact⟨by kernel_rfl,by kernel_rfl⟩
theorem PK:E9 Tryz.prog 136 3:=by unfold E9;exact⟨by kernel_rfl,by kernel_rfl⟩
theorem ND:(Tryz.prog.info? 136).map (·.size)=some 3:=by kernel_rfl
theorem Yp:Bc Tryz.prog 203:=by unfold Bc;kernel_rfl
theorem Yq:Bc Tryz.prog 175:=by unfold Bc;kernel_rfl
theorem Yr:Bc Tryz.prog 174:=by unfold Bc;kernel_rfl
theorem Ys:Bc Tryz.prog 188:=by unfold Bc;kernel_rfl
theorem PL(b:Nat)(w:World):(Instr.fieldAt 48 (.pointer (some ⟨b,0,none⟩)) 0).run Tryz.prog w=.ok (.pointer (some ⟨b,0,none⟩)) w:=by kernel_rfl
theorem PN(b:Nat)(w:World):(Instr.fieldAt 48 (.pointer (some ⟨b,0,none⟩)) 1).run Tryz.prog w=.ok (.pointer (some ⟨b,1,none⟩)) w:=by kernel_rfl
theorem S2:(Tryz.prog.info? 48).bind (·.zero)=some (.agg #[I 0,I 0]):=by kernel_rfl
theorem Yt:Bc Tryz.prog 171:=by unfold Bc;kernel_rfl
theorem Yu:Bc Tryz.prog 170:=by unfold Bc;kernel_rfl
theorem JS(b:Nat)(w:World):(Instr.fieldAt 53 (.pointer (some ⟨b,0,none⟩)) 3).run Tryz.prog w=.ok (.pointer (some ⟨b,5,none⟩)) w:=by kernel_rfl
theorem KG:One Tryz.prog 50:=by unfold One;exact⟨by kernel_rfl,by kernel_rfl⟩
theorem JT(b:Nat)(w:World):(Instr.fieldAt 53 (.pointer (some ⟨b,0,none⟩)) 4).run Tryz.prog w=.ok (.pointer (some ⟨b,6,none⟩)) w:=by kernel_rfl
theorem LQ:One Tryz.prog 51:=by unfold One;exact⟨by kernel_rfl,by kernel_rfl⟩
theorem Yv(b:Nat)(w:World):(Instr.fieldAt 53 (.pointer (some ⟨b,0,none⟩)) 1).run Tryz.prog w=.ok (.pointer (some ⟨b,3,none⟩)) w:=by kernel_rfl
theorem Yw:Bc Tryz.prog 128:=by unfold Bc;kernel_rfl
theorem Yx:Bc Tryz.prog 129:=by unfold Bc;kernel_rfl
theorem Yy:Bc Tryz.prog 125:=by unfold Bc;kernel_rfl
theorem Yz:Bc Tryz.prog 130:=by unfold Bc;kernel_rfl
theorem YA:Bc Tryz.prog 126:=by unfold Bc;kernel_rfl
theorem YB:Bc Tryz.prog 131:=by unfold Bc;kernel_rfl
theorem S3:(Tryz.prog.info? 60).map (fun i=>(i.zero,i.size,i.bytes))=some (some (.agg #[I 0,I 0]),2,16):=by kernel_rfl
theorem S4:MY Tryz.prog 204 2:=OT 2 Tryz.underlying204 (by kernel_rfl) rfl rfl Bg Tryz.underlying3
theorem RL:QY Tryz.prog 204 2:=Se 2 Tryz.underlying204 rfl rfl Bg Tryz.underlying3
theorem Qp:MB Tryz.prog 204:=by unfold MB;kernel_rfl
theorem AbD:(Tryz.prog.info? 3).bind (·.zero)=some (I 0):=by kernel_rfl
theorem MR(b:Nat)(w:World):(Instr.fieldAt 162 (.pointer (some ⟨b,0,none⟩)) 1).run Tryz.prog w=.ok (.pointer (some ⟨b,7,none⟩)) w:=by kernel_rfl
theorem YC(w:World):(Op.equal 31 (.slice none 0 0) (.slice none 0 0)).run Tryz.prog w=.ok true w:=by kernel_rfl
theorem YD(ad:Addr)(n c:Nat)(w:World):(Op.equal 31 (.slice (some ad) n c) (.slice none 0 0)).run Tryz.prog w=.ok false w:=by kernel_rfl
theorem Mq:Bc Tryz.prog 105:=by unfold Bc;kernel_rfl
theorem Pj:One Tryz.prog 55:=by unfold One;exact⟨by kernel_rfl,by kernel_rfl⟩
theorem YE:Bc Tryz.prog 206:=by unfold Bc;kernel_rfl
theorem S5(b o:Nat)(w:World):(Instr.fieldAt 60 (.pointer (some ⟨b,o,none⟩)) 0).run Tryz.prog w=.ok (.pointer (some ⟨b,o,none⟩)) w:=by kernel_rfl
theorem S6:Bc Tryz.prog 205:=by unfold Bc;kernel_rfl
theorem NV:(Tryz.prog.info? 31).bind (·.zero)=some (.slice none 0 0):=by kernel_rfl
theorem RM:(Tryz.prog.info? 142).bind (·.zero)=some (.nilFunc):=by kernel_rfl
theorem UX:(Tryz.prog.info? 142).map (·.size)=some 1:=by kernel_rfl
theorem MS:(Tryz.prog.info? 155).bind (·.zero)=some (.agg #[I 0,I 0,I 0]):=by kernel_rfl
theorem YF:Bc Tryz.prog 150:=by unfold Bc;kernel_rfl
theorem JU:E9 Tryz.prog 155 3:=by unfold E9;exact⟨by kernel_rfl,by kernel_rfl⟩
theorem Mr:(Tryz.prog.info? 155).map (·.size)=some 3:=by kernel_rfl
theorem S7:Bc Tryz.prog 102:=by unfold Bc;kernel_rfl
theorem LR:(Tryz.prog.info? 152).bind (·.zero)=some (.pointer none):=by kernel_rfl
theorem NF:(Tryz.prog.info? 152).map (·.size)=some 1:=by kernel_rfl
theorem S8:Bc Tryz.prog 147:=by unfold Bc;kernel_rfl
theorem YG:Bc Tryz.prog 186:=by unfold Bc;kernel_rfl
theorem Z6:Bc Tryz.prog 79:=by unfold Bc;kernel_rfl
theorem S9:Bc Tryz.prog 104:=by unfold Bc;kernel_rfl
theorem EP:One Tryz.prog 152:=by unfold One;exact⟨by kernel_rfl,by kernel_rfl⟩
theorem Ja(b:Nat)(w:World):(Instr.fieldAt 162 (.pointer (some ⟨b,0,none⟩)) 2).run Tryz.prog w=.ok (.pointer (some ⟨b,8,none⟩)) w:=by kernel_rfl
theorem Kr:One Tryz.prog 159:=by unfold One;exact⟨by kernel_rfl,by kernel_rfl⟩
theorem RN:(Tryz.prog.info? 155).map (fun i=>(i.zero,i.size,i.bytes))=some (some (.agg #[I 0,I 0,I 0]),3,24):=by kernel_rfl
theorem UY:(Tryz.prog.info? 159).map (·.size)=some 1:=by kernel_rfl
theorem YH:Tryz.prog.eqGuardType Tryz.prog.depth 155=false:=by kernel_rfl
theorem YI:MY Tryz.prog 155 3:=Uo Tryz.underlying155 Bg Tryz.underlying3
theorem YJ:Bc Tryz.prog 204:=by unfold Bc;kernel_rfl
theorem RO(b o:Nat)(w:World):(Instr.fieldAt 162 (.pointer (some ⟨b,o,none⟩)) 3).run Tryz.prog w=.ok (.pointer (some ⟨b,o+9,none⟩)) w:=by kernel_rfl
theorem Ta:One Tryz.prog 160:=by unfold One;exact⟨by kernel_rfl,by kernel_rfl⟩
theorem Tb:E9 Tryz.prog 204 2:=by unfold E9;exact⟨by kernel_rfl,by kernel_rfl⟩
theorem KS(b o:Nat)(w:World):(Instr.fieldAt 162 (.pointer (some ⟨b,o,none⟩)) 0).run Tryz.prog w=.ok (.pointer (some ⟨b,o,none⟩)) w:=by kernel_rfl
theorem Tc(b o:Nat)(w:World):(Instr.fieldAt 53 (.pointer (some ⟨b,o,none⟩)) 2).run Tryz.prog w=.ok (.pointer (some ⟨b,o+4,none⟩)) w:=by kernel_rfl
theorem V2(b:Nat)(w:World):(Instr.fieldAt 204 (.pointer (some ⟨b,0,none⟩)) 1).run Tryz.prog w=.ok (.pointer (some ⟨b,1,none⟩)) w:=by kernel_rfl
theorem JF(b o:Nat)(w:World):(Instr.fieldAt 162 (.pointer (some ⟨b,o,none⟩)) 1).run Tryz.prog w=.ok (.pointer (some ⟨b,o+7,none⟩)) w:=by kernel_rfl
theorem V4(b:Nat)(w:World):(Instr.fieldAt 204 (.pointer (some ⟨b,0,none⟩)) 0).run Tryz.prog w=.ok (.pointer (some ⟨b,0,none⟩)) w:=by kernel_rfl
theorem MT:(Tryz.prog.info? 151).bind (·.zero)=some (.agg #[I 0,I 0,I 0]):=by kernel_rfl
theorem YK:Bc Tryz.prog 149:=by unfold Bc;kernel_rfl
theorem LD:E9 Tryz.prog 151 3:=by unfold E9;exact⟨by kernel_rfl,by kernel_rfl⟩
theorem Pk:(Tryz.prog.info? 151).map (·.size)=some 3:=by kernel_rfl
theorem V5:(Tryz.prog.info? 136).bind (·.zero)=some (.agg #[I 0,I 0,I 0]):=by kernel_rfl
theorem Td:Bc Tryz.prog 148:=by unfold Bc;kernel_rfl
theorem V6(b o:Nat)(w:World):(Instr.fieldAt 162 (.pointer (some ⟨b,o,none⟩)) 2).run Tryz.prog w=.ok (.pointer (some ⟨b,o+8,none⟩)) w:=by kernel_rfl
theorem Te:Bc Tryz.prog 103:=by unfold Bc;kernel_rfl
theorem Tf:Bc Tryz.prog 124:=by unfold Bc;kernel_rfl
theorem RP:(Tryz.prog.info? 4).bind (·.zero)=some (.bool false):=by kernel_rfl
theorem PO:Bc Tryz.prog 151:=by unfold Bc;kernel_rfl
theorem NG:(Tryz.prog.info? 4).map (·.size)=some 1:=by kernel_rfl
theorem PQ:Bc Tryz.prog 184:=by unfold Bc;kernel_rfl
theorem UZ:Bc Tryz.prog 75:=by unfold Bc;kernel_rfl
theorem YL:Bc Tryz.prog 101:=by unfold Bc;kernel_rfl
theorem YM:Bc Tryz.prog 154:=by unfold Bc;kernel_rfl
theorem PR:Bc Tryz.prog 111:=by unfold Bc;kernel_rfl
theorem PS:Bc Tryz.prog 112:=by unfold Bc;kernel_rfl
theorem YN:One Tryz.prog 164:=by unfold One;exact⟨by kernel_rfl,by kernel_rfl⟩
theorem Tg:Bc Tryz.prog 152:=by unfold Bc;kernel_rfl
theorem KT:Bc Tryz.prog 106:=by unfold Bc;kernel_rfl
theorem RQ:(Tryz.prog.info? 3).bind (·.zero)=some (I 0):=by kernel_rfl
theorem YO:Bc Tryz.prog 108:=by unfold Bc;kernel_rfl
theorem Th:Bc Tryz.prog 107:=by unfold Bc;kernel_rfl
theorem YP:Bc Tryz.prog 157:=by unfold Bc;kernel_rfl
theorem YQ:Bc Tryz.prog 156:=by unfold Bc;kernel_rfl
theorem YR(b o:Nat)(w:World):(Instr.fieldAt 53 (.pointer (some ⟨b,o,none⟩)) 1).run Tryz.prog w=.ok (.pointer (some ⟨b,o+3,none⟩)) w:=by kernel_rfl
theorem YS:Bc Tryz.prog 153:=by unfold Bc;kernel_rfl
theorem PT:Bc Tryz.prog 117:=by unfold Bc;kernel_rfl
theorem PU:Bc Tryz.prog 109:=by unfold Bc;kernel_rfl
theorem U0:Bc Tryz.prog 50:=by unfold Bc;kernel_rfl
theorem Ti(a:Value)(x1:Value)(w:World):(Instr.field 60 (.agg #[a,x1]) 0).run Tryz.prog w=.ok (a) w:=by kernel_rfl
theorem PV:One Tryz.prog 166:=by unfold One;exact⟨by kernel_rfl,by kernel_rfl⟩
theorem PW:Bc Tryz.prog 110:=by unfold Bc;kernel_rfl
theorem V7:(Tryz.prog.info? 166).bind (·.zero)=some (.nilFunc):=by kernel_rfl
theorem Z7:(Tryz.prog.info? 166).map (·.size)=some 1:=by kernel_rfl
theorem YT:Bc Tryz.prog 159:=by unfold Bc;kernel_rfl
theorem YU:Bc Tryz.prog 160:=by unfold Bc;kernel_rfl
theorem YV(b o:Nat)(w:World):(Instr.fieldAt 48 (.pointer (some ⟨b,o,none⟩)) 0).run Tryz.prog w=.ok (.pointer (some ⟨b,o,none⟩)) w:=by kernel_rfl
theorem YW(b o:Nat)(w:World):(Instr.fieldAt 53 (.pointer (some ⟨b,o,none⟩)) 3).run Tryz.prog w=.ok (.pointer (some ⟨b,o+5,none⟩)) w:=by kernel_rfl
theorem Wa:(Tryz.prog.info? 134).bind (·.zero)=some (.agg #[I 0,I 0]):=by kernel_rfl
theorem Tj:Bc Tryz.prog 138:=by unfold Bc;kernel_rfl
theorem NW:(Tryz.prog.info? 31).map (fun i=>(i.zero,i.size,i.bytes))=some (some (.slice none 0 0),1,24):=by kernel_rfl
theorem Tk:Bc Tryz.prog 135:=by unfold Bc;kernel_rfl
theorem Tl:Bc Tryz.prog 134:=by unfold Bc;kernel_rfl
theorem YX:(Tryz.prog.info? 23).bind (·.zero)=some (.slice none 0 0):=by kernel_rfl
theorem WY:(Tryz.prog.info? 23).map (·.size)=some 1:=by kernel_rfl
theorem Tm:One Tryz.prog 199:=by unfold One;exact⟨by kernel_rfl,by kernel_rfl⟩
theorem Tn:Bc Tryz.prog 155:=by unfold Bc;kernel_rfl
theorem Wb:(Tryz.prog.info? 199).bind (·.zero)=some (.nilFunc):=by kernel_rfl
theorem Z8:(Tryz.prog.info? 199).map (·.size)=some 1:=by kernel_rfl
theorem Wc(b:Nat)(w:World):(Instr.fieldAt 174 (.pointer (some ⟨b,0,none⟩)) 0).run Tryz.prog w=.ok (.pointer (some ⟨b,0,none⟩)) w:=by kernel_rfl
theorem YY:One Tryz.prog 172:=by unfold One;exact⟨by kernel_rfl,by kernel_rfl⟩
theorem To:Bc Tryz.prog 121:=by unfold Bc;kernel_rfl
theorem We:(Tryz.prog.info? 174).bind (·.zero)=some (.agg #[.nilFunc]):=by kernel_rfl
theorem Z9:(Tryz.prog.info? 174).map (·.size)=some 1:=by kernel_rfl
theorem YZ:Bc Tryz.prog 122:=by unfold Bc;kernel_rfl
theorem Tp:Bc Tryz.prog 113:=by unfold Bc;kernel_rfl
theorem Wf(b:Nat)(w:World):(Instr.fieldAt 162 (.pointer (some ⟨b,0,none⟩)) 0).run Tryz.prog w=.ok (.pointer (some ⟨b,0,none⟩)) w:=by kernel_rfl
theorem WZ:(Tryz.prog.info? 51).map (·.size)=some 1:=by kernel_rfl
theorem KU(b:Nat)(w:World):(Instr.fieldAt 44 (.pointer (some ⟨b,0,none⟩)) 0).run Tryz.prog w=.ok (.pointer (some ⟨b,0,none⟩)) w:=by kernel_rfl
theorem LF(b:Nat)(w:World):(Instr.fieldAt 44 (.pointer (some ⟨b,0,none⟩)) 1).run Tryz.prog w=.ok (.pointer (some ⟨b,1,none⟩)) w:=by kernel_rfl
theorem Em:Bc Tryz.prog 29:=by unfold Bc;kernel_rfl
theorem Gk(b:Nat)(w:World):(Instr.fieldAt 26 (.pointer (some ⟨b,0,none⟩)) 0).run Tryz.prog w=.ok (.pointer (some ⟨b,0,none⟩)) w:=by kernel_rfl
theorem He:One Tryz.prog 22:=by unfold One;exact⟨by kernel_rfl,by kernel_rfl⟩
theorem L6:(Tryz.prog.info? 44).map (·.size)=some 2:=by kernel_rfl
theorem Jg:E9 Tryz.prog 44 2:=by unfold E9;exact⟨by kernel_rfl,by kernel_rfl⟩
theorem PX:Bc Tryz.prog 118:=by unfold Bc;kernel_rfl
theorem DE(b:Nat)(w:World):(Instr.fieldAt 26 (.pointer (some ⟨b,0,none⟩)) 1).run Tryz.prog w=.ok (.pointer (some ⟨b,1,none⟩)) w:=by kernel_rfl
theorem Ks(b:Nat)(w:World):(Instr.fieldAt 26 (.pointer (some ⟨b,0,none⟩)) 2).run Tryz.prog w=.ok (.pointer (some ⟨b,2,none⟩)) w:=by kernel_rfl
theorem Lf:One Tryz.prog 24:=by unfold One;exact⟨by kernel_rfl,by kernel_rfl⟩
theorem Pm:Bc Tryz.prog 90:=by unfold Bc;kernel_rfl
theorem H2:E9 Tryz.prog 26 3:=by unfold E9;exact⟨by kernel_rfl,by kernel_rfl⟩
theorem U1:Bc Tryz.prog 91:=by unfold Bc;kernel_rfl
theorem RR:Bc Tryz.prog 35:=by unfold Bc;kernel_rfl
theorem Pn:(Tryz.prog.info? 46).map (·.size)=some 4:=by kernel_rfl
theorem RS:E9 Tryz.prog 46 4:=by unfold E9;exact⟨by kernel_rfl,by kernel_rfl⟩
theorem Tq:(Tryz.prog.info? 46).bind (·.zero)=some (.agg #[.bool false,I 0,I 0,I 0]):=by kernel_rfl
theorem PY(b:Nat)(w:World):(Instr.fieldAt 46 (.pointer (some ⟨b,0,none⟩)) 0).run Tryz.prog w=.ok (.pointer (some ⟨b,0,none⟩)) w:=by kernel_rfl
theorem NX(b:Nat)(w:World):(Instr.fieldAt 46 (.pointer (some ⟨b,0,none⟩)) 1).run Tryz.prog w=.ok (.pointer (some ⟨b,1,none⟩)) w:=by kernel_rfl
theorem KV(b:Nat)(w:World):(Instr.fieldAt 46 (.pointer (some ⟨b,0,none⟩)) 2).run Tryz.prog w=.ok (.pointer (some ⟨b,2,none⟩)) w:=by kernel_rfl
theorem RT:Bc Tryz.prog 59:=by unfold Bc;kernel_rfl
theorem Ts:(Tryz.prog.info? 44).bind (·.zero)=some (.agg #[I 0,I 0]):=by kernel_rfl
theorem Y0(b o:Nat)(w:World):(Instr.fieldAt 44 (.pointer (some ⟨b,o,none⟩)) 0).run Tryz.prog w=.ok (.pointer (some ⟨b,o,none⟩)) w:=by kernel_rfl
theorem Y1(b o:Nat)(w:World):(Instr.fieldAt 44 (.pointer (some ⟨b,o,none⟩)) 1).run Tryz.prog w=.ok (.pointer (some ⟨b,o+1,none⟩)) w:=by kernel_rfl
theorem Po:Bc Tryz.prog 87:=by unfold Bc;kernel_rfl
theorem U2:Bc Tryz.prog 31:=by unfold Bc;kernel_rfl
theorem Qq(b:Nat)(w:World):(Instr.fieldAt 44 (.pointer (some ⟨b,2,none⟩)) 0).run Tryz.prog w=.ok (.pointer (some ⟨b,2,none⟩)) w:=by kernel_rfl
theorem Qr(b:Nat)(w:World):(Instr.fieldAt 44 (.pointer (some ⟨b,2,none⟩)) 1).run Tryz.prog w=.ok (.pointer (some ⟨b,3,none⟩)) w:=by kernel_rfl
theorem Aaa:Bc Tryz.prog 77:=by unfold Bc;kernel_rfl
theorem Y3:Bc Tryz.prog 146:=by unfold Bc;kernel_rfl
theorem Aab:Bc Tryz.prog 58:=by unfold Bc;kernel_rfl
theorem Y5:Bc Tryz.prog 100:=by unfold Bc;kernel_rfl
theorem MU:(Tryz.prog.underlying 3).isSome=true:=by kernel_rfl
theorem ER(b:Nat)(w:World):(Instr.fieldAt 67 (.pointer (some ⟨b,0,none⟩)) 0).run Tryz.prog w=.ok (.pointer (some ⟨b,0,none⟩)) w:=by kernel_rfl
theorem Gl(b:Nat)(w:World):(Instr.fieldAt 67 (.pointer (some ⟨b,0,none⟩)) 2).run Tryz.prog w=.ok (.pointer (some ⟨b,4,none⟩)) w:=by kernel_rfl
theorem Hf:One Tryz.prog 63:=by unfold One;exact⟨by kernel_rfl,by kernel_rfl⟩
theorem JG:(Tryz.prog.info? 128).map (·.size)=some 2:=by kernel_rfl
theorem KW(b o:Nat)(w:World):(Instr.fieldAt 128 (.pointer (some ⟨b,o,none⟩)) 0).run Tryz.prog w=.ok (.pointer (some ⟨b,o,none⟩)) w:=by kernel_rfl
theorem OD(b o:Nat)(w:World):(Instr.fieldAt 128 (.pointer (some ⟨b,o,none⟩)) 1).run Tryz.prog w=.ok (.pointer (some ⟨b,o+1,none⟩)) w:=by kernel_rfl
theorem E6:E9 Tryz.prog 67 7:=by unfold E9;exact⟨by kernel_rfl,by kernel_rfl⟩
theorem Ms:Bc Tryz.prog 56:=by unfold Bc;kernel_rfl
theorem H7(b:Nat)(w:World):(Instr.fieldAt 67 (.pointer (some ⟨b,0,none⟩)) 4).run Tryz.prog w=.ok (.pointer (some ⟨b,6,none⟩)) w:=by kernel_rfl
theorem IV:One Tryz.prog 65:=by unfold One;exact⟨by kernel_rfl,by kernel_rfl⟩
theorem LS:(Tryz.prog.info? 121).map (·.size)=some 3:=by kernel_rfl
theorem OE(b o:Nat)(w:World):(Instr.fieldAt 121 (.pointer (some ⟨b,o,none⟩)) 1).run Tryz.prog w=.ok (.pointer (some ⟨b,o+1,none⟩)) w:=by kernel_rfl
theorem MV(b o:Nat)(w:World):(Instr.fieldAt 121 (.pointer (some ⟨b,o,none⟩)) 0).run Tryz.prog w=.ok (.pointer (some ⟨b,o,none⟩)) w:=by kernel_rfl
theorem RU:Bc Tryz.prog 54:=by unfold Bc;kernel_rfl
theorem Y6:Bc Tryz.prog 114:=by unfold Bc;kernel_rfl
theorem Aac:Bc Tryz.prog 61:=by unfold Bc;kernel_rfl
theorem Aad:Bc Tryz.prog 28:=by unfold Bc;kernel_rfl
theorem PZ(b:Nat)(w:World):(Instr.fieldAt 67 (.pointer (some ⟨b,0,none⟩)) 1).run Tryz.prog w=.ok (.pointer (some ⟨b,3,none⟩)) w:=by kernel_rfl
theorem Gm(b:Nat)(w:World):(Instr.fieldAt 67 (.pointer (some ⟨b,0,none⟩)) 3).run Tryz.prog w=.ok (.pointer (some ⟨b,5,none⟩)) w:=by kernel_rfl
theorem Hg:One Tryz.prog 64:=by unfold One;exact⟨by kernel_rfl,by kernel_rfl⟩
theorem JH:(Tryz.prog.info? 126).map (·.size)=some 2:=by kernel_rfl
theorem U3:Bc Tryz.prog 24:=by unfold Bc;kernel_rfl
theorem Y7:E9 Tryz.prog 128 2:=by unfold E9;exact⟨by kernel_rfl,by kernel_rfl⟩
theorem Wg:(Tryz.prog.info? 128).bind (·.zero)=some (.agg #[I 0,I 0]):=by kernel_rfl
theorem Kj(b:Nat)(w:World):(Instr.fieldAt 128 (.pointer (some ⟨b,0,none⟩)) 0).run Tryz.prog w=.ok (.pointer (some ⟨b,0,none⟩)) w:=by kernel_rfl
theorem LU(b:Nat)(w:World):(Instr.fieldAt 128 (.pointer (some ⟨b,0,none⟩)) 1).run Tryz.prog w=.ok (.pointer (some ⟨b,1,none⟩)) w:=by kernel_rfl
theorem LW(b o:Nat)(w:World):(Instr.fieldAt 126 (.pointer (some ⟨b,o,none⟩)) 0).run Tryz.prog w=.ok (.pointer (some ⟨b,o,none⟩)) w:=by kernel_rfl
theorem KX(b o:Nat)(w:World):(Instr.fieldAt 126 (.pointer (some ⟨b,o,none⟩)) 1).run Tryz.prog w=.ok (.pointer (some ⟨b,o+1,none⟩)) w:=by kernel_rfl
theorem P0:(Tryz.prog.info? 38).bind (·.zero)=some (.agg #[.slice none 0 0,.slice none 0 0,.slice none 0 0]):=by kernel_rfl
theorem U4:Bc Tryz.prog 98:=by unfold Bc;kernel_rfl
theorem Wh:(Tryz.prog.info? 131).map (fun i=>(i.zero,i.size,i.bytes))=some (some (.agg #[I 0,I 0]),2,16):=by kernel_rfl
theorem Aa7:(Tryz.prog.info? 35).map (·.size)=some 1:=by kernel_rfl
theorem Aae:Bc Tryz.prog 99:=by unfold Bc;kernel_rfl
theorem Wi:(Tryz.prog.info? 133).map (fun i=>(i.zero,i.size,i.bytes))=some (some (.agg #[.bool false,I 0,I 0,I 0]),4,32):=by kernel_rfl
theorem Aa8:(Tryz.prog.info? 36).map (·.size)=some 1:=by kernel_rfl
theorem W0:(Tryz.prog.info? 38).map (·.size)=some 3:=by kernel_rfl
theorem P1:(Tryz.prog.info? 53).bind (·.zero)=some (.agg #[.slice none 0 0,.slice none 0 0,.slice none 0 0,I 0,.slice none 0 0,.slice none 0 0,.slice none 0 0]):=by kernel_rfl
theorem Aaf:Bc Tryz.prog 27:=by unfold Bc;kernel_rfl
theorem T7:(Tryz.prog.info? 53).map (·.size)=some 7:=by kernel_rfl
theorem Y9:(Tryz.prog.info? 48).map (fun i=>(i.zero,i.size,i.bytes))=some (some (.agg #[I 0,I 0]),2,16):=by kernel_rfl
theorem Aa9:(Tryz.prog.info? 49).map (·.size)=some 1:=by kernel_rfl
theorem Wj:(Tryz.prog.info? 134).map (fun i=>(i.zero,i.size,i.bytes))=some (some (.agg #[I 0,I 0]),2,16):=by kernel_rfl
theorem Aba:(Tryz.prog.info? 50).map (·.size)=some 1:=by kernel_rfl
theorem Aag:Bc Tryz.prog 66:=by unfold Bc;kernel_rfl
theorem Wk:(Tryz.prog.info? 136).map (fun i=>(i.zero,i.size,i.bytes))=some (some (.agg #[I 0,I 0,I 0]),3,24):=by kernel_rfl
theorem Aah:Bc Tryz.prog 23:=by unfold Bc;kernel_rfl
theorem Zb:Bc Tryz.prog 116:=by unfold Bc;kernel_rfl
theorem U5:Bc Tryz.prog 53:=by unfold Bc;kernel_rfl
theorem NH:Bc Tryz.prog 57:=by unfold Bc;kernel_rfl
theorem Aai:Bc Tryz.prog 36:=by unfold Bc;kernel_rfl
theorem Lg:Bc Tryz.prog 88:=by unfold Bc;kernel_rfl
theorem Aaj:Bc Tryz.prog 32:=by unfold Bc;kernel_rfl
theorem U6:Bc Tryz.prog 33:=by unfold Bc;kernel_rfl
theorem Aak:Bc Tryz.prog 34:=by unfold Bc;kernel_rfl
theorem U7:Bc Tryz.prog 81:=by unfold Bc;kernel_rfl
theorem U8:Bc Tryz.prog 69:=by unfold Bc;kernel_rfl
theorem Aal:Bc Tryz.prog 42:=by unfold Bc;kernel_rfl
theorem Aam:Bc Tryz.prog 43:=by unfold Bc;kernel_rfl
theorem NI:Bc Tryz.prog 41:=by unfold Bc;kernel_rfl
theorem RV:Tryz.prog.eqGuardType Tryz.prog.depth 60=false:=by kernel_rfl
theorem RW:MY Tryz.prog 60 2:=OT 2 Tryz.underlying60 (by kernel_rfl) rfl rfl Bg Tryz.underlying3
theorem JI:Bc Tryz.prog 37:=by unfold Bc;kernel_rfl
theorem Lh:Bc Tryz.prog 38:=by unfold Bc;kernel_rfl
theorem Pp:Bc Tryz.prog 51:=by unfold Bc;kernel_rfl
theorem U9:Bc Tryz.prog 48:=by unfold Bc;kernel_rfl
end HF
end Go.Proofs.YtbhofkcbfblijaaGreat
end
section
namespace Go.Proofs.YtbhofkcbfblijaaGreat
open Go.RowKit Go.WideShapes
set_option maxRecDepth 20000
open HF
attribute [local irreducible] Ce WL CC CW LV BO G2 E9 One Bc
theorem T8 k b d e(Z:Nat→Prop) w j(c:GZ k b d e=some j):
 BO Tryz.prog 140 #[I b,I d,I e] w (fun v w'=>Ext w w'∧BE.R w' (zf Z w []) v j):=by
 unfold GZ at c;refine rq (N:=15) Tryz.func140 fun l ha m=>?_;have f:=sA 0 ha;have h:=sA 1 ha;have i:=sA 2 ha;clear ha;have g:Hp FN [] w [] w:=Hp.start (BC.none w);refine cr<|wA (v:=.bool false) rfl<|wr<|wM (v:=I d) h<|wM (v:=I b) f<|wD (fun st=>HN (eR st) (eR st))<|wM (v:=.bool (decide (d≤b))) rfl ?_;rcases Ae (decide (d≤b)) with a|a
 ·replace c:=An c a;refine wN a (v:=I b) f<|wN a (v:=I e) i<|wG a (fun st=>HN (eR st) (eR st))<|wD (fun st=>AY (v:=.bool (decide (b≤e))) (eR st) a (eR st))<|wA (v:=.bool (decide (b≤e))) rfl<|wn<|Am ?_;obtain rfl:=oi c;refine Av rfl rfl ?_;exact⟨g.Bf,rfl⟩
 ·replace c:=Ao c a;refine wF a<|wF a<|wF a<|wD (fun st=>Bs (v:=.bool false) (eR st) a (eR st))<|wA (v:=.bool false) rfl<|wn<|Am ?_;obtain rfl:=oi c;refine Av rfl rfl ?_;exact⟨g.Bf,rfl⟩
theorem Wl k b(Z:Nat→Prop) w i(d:Fy k b=some i):
 BO Tryz.prog 165 #[.agg #[I b.Lo,I b.Hi]] w (fun v w'=>Ext w w'∧BE.R w' (zf Z w []) v i):=by
 unfold Fy at d;refine rq (N:=18) Tryz.func165 fun l ha m=>?_;have h:=sA 0 ha;clear ha;have g:Hp FN [] w [] w:=Hp.start (BC.none w);refine cr<|wE (fun st=>BN (v:=.agg #[I b.Lo,I b.Hi]) (cs:= #[I b.Lo,I b.Hi]) (ee st h) rfl) ?_;rintro _ w1 ⟨b1,rfl,e⟩;have f:=g.nb e;have j:=g.BJ e;refine wA (v:=.bool false) rfl<|wr<|wD (fun st=>Ad (eR st) (MM _ _))<|wD (fun st=>Ag (v:=I b.Lo) Bg (eR st) e.bk rfl)<|wD (fun st=>HN (eR st) (eR st))<|wM (v:=.bool (decide ((0:Int)≤b.Lo))) rfl ?_;rcases Ae (decide ((0:Int)≤b.Lo)) with a|a
 ·replace d:=An d a;refine wG a (fun st=>Ad (eR st) (MM _ _))<|wG a (fun st=>Ag (v:=I b.Lo) Bg (eR st) e.bk rfl)<|wG a (fun st=>Ad (eR st) (MN _ _))<|wG a (fun st=>Ag (v:=I b.Hi) Bg (eR st) e.bk rfl)<|wG a (fun st=>HN (eR st) (eR st))<|wD (fun st=>AY (v:=.bool (decide (b.Lo≤b.Hi))) (eR st) a (eR st))<|wM (v:=.bool (decide (b.Lo≤b.Hi))) rfl ?_;rcases Ae (decide (b.Lo≤b.Hi)) with c|c
  ·replace d:=An d c;refine wG c (fun st=>Ad (eR st) (MN _ _))<|wG c (fun st=>Ag (v:=I b.Hi) Bg (eR st) e.bk rfl)<|wG c (fun st=>HN (eR st) (eR st))<|wD (fun st=>AY (v:=.bool (decide (b.Hi≤100))) (eR st) c (eR st))<|wA (v:=.bool (decide (b.Hi≤100))) rfl<|wn<|Am ?_;obtain rfl:=oi d;refine Av rfl rfl ?_;exact⟨f.Bf,rfl⟩
  ·replace d:=Ao d c;refine wF c<|wF c<|wF c<|wD (fun st=>Bs (v:=.bool false) (eR st) c (eR st))<|wA (v:=.bool false) rfl<|wn<|Am ?_;obtain rfl:=oi d;refine Av rfl rfl ?_;exact⟨f.Bf,rfl⟩
 ·replace d:=Ao d a;refine wF a<|wF a<|wF a<|wF a<|wF a<|wD (fun st=>Bs (v:=.bool false) (eR st) a (eR st))<|wM (v:=.bool false) rfl<|wH<|wH<|wH<|wD (fun st=>Bs (v:=.bool false) (eR st) rfl (eR st))<|wA (v:=.bool false) rfl<|wn<|Am ?_;obtain rfl:=oi d;refine Av rfl rfl ?_;exact⟨f.Bf,rfl⟩
theorem AbE k a(Z:Nat→Prop) w f(b:IH k a=some f):
 BO Tryz.prog 169 #[.agg #[I a.Lo,I a.Hi]] w (fun v w'=>Ext w w'∧(Dr .i64).R w' (zf Z w []) v f):=by
 unfold IH at b;refine rq (N:=9) Tryz.func169 fun l ha m=>?_;have e:=sA 0 ha;clear ha;have d:Hp FN [] w [] w:=Hp.start (BC.none w);refine cr<|wE (fun st=>BN (v:=.agg #[I a.Lo,I a.Hi]) (cs:= #[I a.Lo,I a.Hi]) (ee st e) rfl) ?_;rintro _ w1 ⟨b1,rfl,c⟩;have g:=d.nb c;have j:=d.BJ c;refine wA (v:=I 0) rfl<|wr<|wD (fun st=>Ad (eR st) (MN _ _))<|wD (fun st=>Ag (v:=I a.Hi) Bg (eR st) c.bk rfl)<|wD (fun st=>Ad (eR st) (MM _ _))<|wD (fun st=>Ag (v:=I a.Lo) Bg (eR st) c.bk rfl) ?_;replace b:=AL b;obtain⟨h,b⟩:=b;refine wD (fun st=>Ej (eR st) (eR st) h) ?_;replace b:=AL b;obtain⟨i,b⟩:=b;refine wD (fun st=>BL (eR st) (eR st) i)<|wA (v:=I ((a.Hi-a.Lo)+1)) rfl<|wn<|Am ?_;obtain rfl:=oi b;refine Av rfl rfl ?_;exact⟨g.Bf,rfl⟩
theorem Aan h a d(Z:Nat→Prop) w i(c:FL h a d=some i):
 BO Tryz.prog 176 #[.agg #[I a.Lo,I a.Hi],I d] w (fun v w'=>Ext w w'∧BE.R w' (zf Z w []) v i):=by
 unfold FL at c;refine rq (N:=11) Tryz.func176 fun p ha q=>?_;have f:=sA 0 ha;have g:=sA 1 ha;clear ha;have e:Hp FN [] w [] w:=Hp.start (BC.none w);refine cr<|wE (fun st=>BN (v:=.agg #[I a.Lo,I a.Hi]) (cs:= #[I a.Lo,I a.Hi]) (ee st f) rfl) ?_;rintro _ w1 ⟨b1,rfl,b⟩;have j:=e.nb b;have o:=e.BJ b;refine wA (v:=.bool false) rfl<|wr<|wM (v:=I d) g<|wD (fun st=>Ad (eR st) (MM _ _))<|wD (fun st=>Ag (v:=I a.Lo) Bg (eR st) b.bk rfl)<|wD (fun st=>Ad (eR st) (MN _ _))<|wD (fun st=>Ag (v:=I a.Hi) Bg (eR st) b.bk rfl) ?_;replace c:=bind_some c;obtain⟨k,l,c⟩:=c;refine wE (fun st=>Aj NT (eR st) (Ek (eR st) (eR st) (eR st)) (T8 h d a.Lo a.Hi ZA _ k l)) ?_;rintro _ r ⟨m,rfl⟩;have n:=j.ext m;refine wA (v:=.bool k) rfl<|wn<|Am ?_;obtain rfl:=oi c;refine Av rfl rfl ?_;exact⟨n.Bf,rfl⟩
theorem AbF d b(Z:Nat→Prop) w e(a:Jd d b=some e):
 BO Tryz.prog 220 #[I b] w (fun v w'=>Ext w w'∧BE.R w' (zf Z w []) v e):=by
 unfold Jd at a;refine rq (N:=5) Tryz.func220 fun k ha l=>?_;have c:=sA 0 ha;clear ha;have f:Hp FN [] w [] w:=Hp.start (BC.none w);refine cr<|wA (v:=.bool false) rfl<|wr<|wM (v:=I b) c ?_;replace a:=bind_some a;obtain⟨g,h,a⟩:=a;refine wE (fun st=>Aj NT (eR st) (Ek (eR st) (eR st) (eR st)) (T8 d b 0 30 ZA _ g h)) ?_;rintro _ w2 ⟨i,rfl⟩;have j:=f.ext i;refine wA (v:=.bool g) rfl<|wn<|Am ?_;obtain rfl:=oi a;refine Av rfl rfl ?_;exact⟨j.Bf,rfl⟩
theorem Aao aA i f g(Z:Nat→Prop) w(r:Sl (Ai .i64) w Z f g i) aB(a:JN aA i=some aB):
 BO Tryz.prog 192 #[.slice f i.length g] w (fun v w'=>Ext w w'∧(Dr .i64).R w' (zf Z w []) v aB):=by
 unfold JN at a;refine rq (N:=16) Tryz.func192 fun aQ ha aR=>?_;have u:=sA 0 ha;clear ha;have aC:Hp FN [] w [] w:=Hp.start (BC.none w);have o:=r.mv (Bz (Z:=Z) (L:=[]) w);refine cr<|wA (v:=I 0) rfl<|wn<|Af<|cr<|wM (v:=.slice f i.length g) u<|wD (fun st=>Br Tryz.underlying31 (eR st))<|wM (v:=I 0) rfl<|wn<|AI ?_;replace a:=bind_some a;obtain⟨s,e,a⟩:=a;refine BY (fun aD d x=>(aD=.exit 0∧Fo X0 16 d∧sl d 2=I s∧w=x)) ?aE ?aF
 case aE=>
  clear a;refine BX (fun y d x=>∃b,∃c,FV i y b c=some s∧Fo X0 16 d∧sl d 2=I b∧sl d 5=.slice f i.length g∧sl d 6=I (i.length:Int)∧sl d 7=I c∧w=x) aA ?aG ?aH
  case aG=>
   intro st;exact⟨(0:Int),(0:Int),e,qo st,sp st 2 rfl,sp st 5 rfl,sp st 6 rfl,sp st 7 rfl,rfl⟩
  case aH=>
   rintro(_|y) aS _ ⟨b,c,e,z,l,m,n,h,rfl⟩
   ·exact absurd (show none=some _ from e) (by simp)
   rw[FV.eq_2] at e;have a:=e;clear e;refine ro z<|cr<|wD (fun st=>B9 (ee st h) (ee st n))<|wn<|Af ?_;rcases Ae (decide (c<(i.length:Int))) with j|j
   ·replace a:=An a j;refine Ah rfl j<|cn<|Af<|AI<|Af<|Al ?_;replace a:=AT a;obtain⟨i3,p,aI,aJ,aK,a⟩:=a;obtain⟨b3,aT,_,aL,rfl,aM⟩:=Sl.Cy o rfl aJ;refine wD (fun st=>Bi (k:=i3) Tryz.underlying31 CM (ee st m) aL (ee st h) aI aK)<|wD (fun st=>Bp (v:=I p) Bg (eR st) aM rfl)<|wA (v:=I p) rfl<|wn<|Al<|wM (v:=I b) l<|wM (v:=I p) rfl ?_;replace a:=AL a;obtain⟨aN,a⟩:=a;refine wD (fun st=>BL (eR st) (eR st) aN)<|wA (v:=I (b+p)) rfl<|Bj<|CU<|Al ?_;replace a:=AL a;obtain⟨aO,a⟩:=a;refine wD (fun st=>BL (ee st h) (eR st) aO)<|wM (v:=I (c+1)) rfl<|Bj ?_;refine Bv y (Nat.lt_succ_self _) (fun st=>?_);exact⟨(b+p),(c+1),a,qo st,sp st 2 rfl,sp st 5 m,sp st 6 n,sp st 7 rfl,rfl⟩
   ·replace a:=Ao a j;refine Aq rfl j<|DG ?_;obtain rfl:=oi a;refine BF (fun st=>?_);exact⟨rfl,qo st,sp st 2 l,rfl⟩
 case aF=>
  rintro aD aP _ (⟨rfl,t,q,rfl⟩);refine lf t<|Bd<|BM<|cr<|wM (v:=I s) q<|wA (v:=I s) rfl<|wn<|Am ?_;obtain rfl:=oi a;refine Av rfl rfl ?_;exact⟨aC.Bf,rfl⟩
theorem AbG aE f a b c g h i j(Z:Nat→Prop) w(m:Sl AA w Z b c f.Ax)(n:Sl (BH (Ai .i64)) w Z g h f.AX)(o:Sl AH w Z i j f.AP) aA(d:G7 aE f a=some aA):
 BO Tryz.prog 178 #[.agg (AS b c g h i j f).toArray,.agg #[.bool a.BV,I a.Number,I a.Bm,I a.Bn]] w (fun v w'=>Ext w w'∧(Dr .i64).R w' (zf Z w []) v aA):=by
 unfold G7 at d;refine rq (N:=15) Tryz.func178 fun aF ha aG=>?_;have t:=sA 0 ha;have u:=sA 1 ha;clear ha;have q:Hp FN [] w [] w:=Hp.start (BC.none w);have ⟨x,y,z⟩:=Ez m n o (Bz (Z:=Z) (L:=[]) w);refine cr<|wE (fun st=>BN (v:=.agg (AS b c g h i j f).toArray) (cs:=(AS b c g h i j f).toArray) (ee st t) rfl) ?_;rintro _ w1 ⟨b1,rfl,l⟩;have r:=q.nb l;have aC:=q.BJ l;refine wE (fun st=>BN (v:=.agg #[.bool a.BV,I a.Number,I a.Bm,I a.Bn]) (cs:= #[.bool a.BV,I a.Number,I a.Bm,I a.Bn]) (ee st u) rfl) ?_;rintro _ w2 ⟨b2,rfl,e⟩;have s:=r.nb e;have aD:=r.BJ e;refine wA (v:=I 0) rfl<|wn<|Af<|cr<|wD (fun st=>Ad (eR st) (RF _ _))<|wD (fun st=>Ag (v:=.bool a.BV) Ka (eR st) e.bk rfl)<|wn ?_;rcases Ae (a.BV) with k|k
 ·replace d:=An d k;refine Ah rfl k<|cr<|wD (fun st=>Ad (eR st) (HQ _ _)) ?_;have p:=(l.bk.ext e.gr);refine wD (fun st=>Ag (v:=.slice b f.Ax.length c) IU (eR st) p rfl)<|wD (fun st=>Br Tryz.underlying35 (eR st))<|wD (fun st=>Ad (eR st) (MO _ _))<|wD (fun st=>Ag (v:=I a.Number) Bg (eR st) e.bk rfl) ?_;replace d:=AL d;obtain⟨aB,d⟩:=d;refine wD (fun st=>BL (eR st) (eR st) aB)<|wA (v:=I ((f.Ax.length:Int)+a.Number)) rfl<|wn<|Am<|AG ?_;obtain rfl:=oi d;refine Av rfl rfl ?_;exact⟨s.Bf,rfl⟩
 ·replace d:=Ao d k;refine Aq rfl k<|cn<|cr<|wD (fun st=>Ad (eR st) (MO _ _))<|wD (fun st=>Ag (v:=I a.Number) Bg (eR st) e.bk rfl)<|wA (v:=I a.Number) rfl<|wn<|Am ?_;obtain rfl:=oi d;refine Av rfl rfl ?_;exact⟨s.Bf,rfl⟩
theorem Aap z f c d(Z:Nat→Prop) w(r:Sl (Ai .i64) w Z c d f) aA(a:Hj z f=some aA):
 BO Tryz.prog 199 #[.slice c f.length d] w (fun v w'=>Ext w w'∧(Dr .i64).R w' (zf Z w []) v aA):=by
 unfold Hj at a;refine rq (N:=25) Tryz.func199 fun aT ha aU=>?_;have o:=sA 0 ha;clear ha;have aB:Hp FN [] w [] w:=Hp.start (BC.none w);have h:=r.mv (Bz (Z:=Z) (L:=[]) w);refine cr<|wA (v:=I 0) rfl<|wn<|Af<|cr<|wM (v:=.slice c f.length d) o<|wD (fun st=>Br Tryz.underlying31 (eR st))<|wD (fun st=>B9 (eR st) (eR st))<|wn ?_;rcases Ae (decide ((f.length:Int)<1)) with m|m
 ·replace a:=An a m;refine Ah rfl m ?_;exact absurd a (by simp)
 ·replace a:=Ao a m;refine Aq rfl m<|cn<|cr<|wM (v:=.slice c f.length d) o ?_;replace a:=AT a;obtain⟨i2,x2,aC,aD,aE,a⟩:=a;obtain⟨b2,aW,_,aF,rfl,aG⟩:=Sl.Cy h rfl aD;refine wD (fun st=>Bi (k:=i2) Tryz.underlying31 CM (eR st) aF (eR st) aC aE)<|wD (fun st=>Bp (v:=I x2) Bg (eR st) aG rfl)<|wA (v:=I x2) rfl<|wn<|Af<|cr<|wA (v:=I 1) rfl<|wn<|AI ?_;replace a:=bind_some a;obtain⟨z3,i,a⟩:=a;refine BY (fun aH g t=>(aH=.exit 0∧Fo X0 25 g∧sl g 3=I z3∧w=t)) ?aI ?aJ
  case aI=>
   clear a;refine BX (fun u g t=>∃e,∃b,Ge f u e b=some z3∧Fo X0 25 g∧sl g 0=.slice c f.length d∧sl g 3=I e∧sl g 4=I b∧w=t) z ?aK ?aL
   case aK=>
    intro st;exact⟨x2,(1:Int),i,qo st,sp st 0 o,sp st 3 rfl,sp st 4 rfl,rfl⟩
   case aL=>
    rintro(_|u) aV _ ⟨e,b,i,x,j,p,l,rfl⟩
    ·exact absurd (show none=some _ from i) (by simp)
    rw[Ge.eq_2] at i;have a:=i;clear i;refine ro x<|Af<|cr<|wM (v:=I b) l<|wM (v:=.slice c f.length d) j<|wD (fun st=>Br Tryz.underlying31 (eR st))<|wD (fun st=>B9 (eR st) (eR st))<|wn ?_;rcases Ae (decide (b<(f.length:Int))) with n|n
    ·replace a:=An a n;refine Ah rfl n<|cn<|Af<|AI<|Al<|wM (v:=I e) p<|wM (v:=.slice c f.length d) j<|wM (v:=I b) l ?_;replace a:=AT a;obtain⟨i5,y,aM,aN,aO,a⟩:=a;obtain⟨aX,aY,_,aP,rfl,aQ⟩:=Sl.Cy h rfl aN;refine wD (fun st=>Bi (k:=i5) Tryz.underlying31 CM (eR st) aP (eR st) aM aO)<|wD (fun st=>Bp (v:=I y) Bg (eR st) aQ rfl)<|wD (fun st=>WH (eR st) (eR st))<|wA (v:=I (min e y)) rfl<|Bj<|CU<|Al<|wM (v:=I b) l ?_;replace a:=AL a;obtain⟨aR,a⟩:=a;refine wD (fun st=>BL (eR st) (eR st) aR)<|wA (v:=I (b+1)) rfl<|Bj ?_;refine Bv u (Nat.lt_succ_self _) (fun st=>?_);exact⟨(min e y),(b+1),a,qo st,sp st 0 j,sp st 3 rfl,sp st 4 rfl,rfl⟩
    ·replace a:=Ao a n;refine Aq rfl n<|DG ?_;obtain rfl:=oi a;refine BF (fun st=>?_);exact⟨rfl,qo st,sp st 3 p,rfl⟩
  case aJ=>
   rintro aH aS _ (⟨rfl,s,q,rfl⟩);refine lf s<|Bd<|BM<|cr<|wM (v:=I z3) q<|wA (v:=I z3) rfl<|wn<|Am ?_;obtain rfl:=oi a;refine Av rfl rfl ?_;exact⟨aB.Bf,rfl⟩
theorem a168 h e a b(Z:Nat→Prop) w(f:Sl (Ai .i64) w Z a b e) i(c:IQ h e=some i):
 BO Tryz.prog 168 #[.slice a e.length b] w (fun v w'=>Ext w w'∧(Dr .i64).R w' (zf Z w []) v i):=by
 unfold IQ at c;refine rq (N:=5) Tryz.func168 fun o ha p=>?_;have g:=sA 0 ha;clear ha;have j:Hp FN [] w [] w:=Hp.start (BC.none w);have d:=f.mv (Bz (Z:=Z) (L:=[]) w);refine cr<|wA (v:=I 0) rfl<|wr<|wM (v:=.slice a e.length b) g ?_;replace c:=bind_some c;obtain⟨k,l,c⟩:=c;refine wE (fun st=>Aj SU (eR st) (Ck (eR st)) (Aap h e a b ZA _ d.all k l)) ?_;rintro _ w2 ⟨m,rfl⟩;have n:=j.ext m;refine wA (v:=I k) rfl<|wn<|Am ?_;obtain rfl:=oi c;refine Av rfl rfl ?_;exact⟨n.Bf,rfl⟩
theorem a194{r:Type}{e:Nat→Prop}{aK:Nat}{n:IT r}{u:r→AN→Option (Bool×r)} aU c(s:r) q1(i:Value) a(Z Za:Nat→Prop) w(d:Cb Tryz.prog i e aK n (v1 (DJ AA)) BE u)(aL:aK≤w.heap.size)(aM:BC e [some q1,a] w)(aN:∀b,Z b→¬e b∧some b∉[some q1,a])(aV:∀b,Z b→Za b)(aA:∀b,Za b→¬e b∧some b∉[some q1,a])(aO:Bk w q1 214 #[i])(aW:n s w Z a) aB(m:Hx aU u c s=some aB):
 BO Tryz.prog 194 #[.agg #[I c.Lo,I c.Hi],pt q1 0] w (fun v w'=>∃o',BT (FU e [some q1,a]) w w'∧BE.R w' (zf Z w [some q1,o']) v aB.1∧Bk w' q1 214 #[i]∧(∀k,o'=some k→(a=some k∨w.heap.size≤k)∧k<w'.heap.size)∧n aB.2 w' (zf Z w [some q1,o']) o'):=by
 unfold Hx at m;refine rq (N:=8) Tryz.func194 fun aZ ha a0=>?_;have aC:=sA 0 ha;have aD:=sA 1 ha;clear ha;obtain⟨aE,aP,o,aQ,aX,aF⟩:=Ky aM aN aA;have aG:=d.mz aW (AR (L:=[some q1,a]) aQ w);refine cr<|wE (fun st=>BN (v:=.agg #[I c.Lo,I c.Hi]) (cs:= #[I c.Lo,I c.Hi]) (ee st aC) rfl) ?_;rintro _ w1 ⟨b1,rfl,f⟩;have g:=o.nb f;have aT:=o.BJ f;refine wA (v:=.bool false) rfl<|wn<|Af<|Al ?_;have j:=(aO.ext f.gr);refine wD (fun st=>Ag (v:=i) XJ (ee st aD) j rfl)<|wD (fun st=>Ba (l:=[I c.Lo,I c.Hi]) Ir (eR st) f.bk rfl rfl) ?_;have aH:n s w1 (ZZ e aE Z w.heap.size [some b1,some q1,a]) a:=(d.me aG o f.gr (Az f));replace m:=bind_some m;obtain⟨aI,aR,m⟩:=m;refine wE (fun st=>FY (d.call s c aI _ (ZZ e aE Z w.heap.size [some b1,some q1,a]) (ZC e [a]) a #[.agg #[I c.Lo,I c.Hi]] (Nat.le_trans aL g.sz) (g.zz (F':=e) (M:=[a]) (C:=[]) [2] [] ⟨rfl,trivial⟩ trivial (fun _ h=>.inl h)) I1 aH ⟨_,rfl,⟨_,rfl,rfl⟩⟩ aR) (eR st) (Ck (eR st))) ?_;rintro _ aY ⟨p,x,q,rfl,aS⟩;have z:=g.EH x (AO [2] ⟨rfl,trivial⟩ (fun _ h=>h)) 2 rfl q;have aJ:n aI.2 aY (ZZ e aE Z w.heap.size [some b1,some q1,p]) p:=d.mz aS (g.call (M:=[p]) (Nat.le_refl _) (Cg ⟨.inr (hw q 2),trivial⟩) (CT (L:=[some b1,some q1,a]) (y:=p) 2 (gm 0)));refine wD (fun st=>Ca (eR st))<|wA (v:=.bool !aI.1) rfl<|wn<|Am ?_;obtain rfl:=oi m;refine Av rfl rfl ?_;have t:=(j.Co x (g.CI 1 rfl [2] rfl ⟨rfl,trivial⟩ (fun _ h=>h)));exact⟨p,aF _ z.fin,rfl,t,z.mq 2 [1] (M:=[some q1]) ⟨rfl,trivial⟩ aP,d.mz aJ (AU (BB [1,2] ⟨rfl,rfl,trivial⟩))⟩
theorem AbH{aX:Type}{e:Nat→Prop}{bD:Nat}{aG:IT aX}{aQ:aX→AN→Option (Bool×aX)} bE s(a4:aX) m n(aI:Value) aB(Z:Nat→Prop) w(p:Cb Tryz.prog aI e bD aG (v1 (DJ AA)) BE aQ)(bF:bD≤w.heap.size)(bG:BC e [aB] w)(bH:∀b,Z b→¬e b∧some b∉[aB])(aY:Sl AA w Z m n s)(bW:aG a4 w Z aB) a5(a:H9 bE aQ s a4=some a5):
 BO Tryz.prog 221 #[.slice m s.length n,aI] w (fun v w'=>∃o',BT (FU e [aB]) w w'∧(Dr .i64).R w' (zf Z w [o']) v a5.1∧(∀k,o'=some k→(aB=some k∨w.heap.size≤k)∧k<w'.heap.size)∧aG a5.2 w' (zf Z w [o']) o'):=by
 unfold H9 at a;refine rq (N:=19) Tryz.func221 fun bZ ha b4=>?_;have aR:=sA 0 ha;have a7:=sA 1 ha;clear ha;obtain⟨aC,aZ,bI,a0,aS⟩:=Il bG bH;have aN:=aY.mv (AR (L:=[aB]) a0 w);have a8:=p.mz bW (AR (L:=[aB]) a0 w);refine cr<|wA (v:=I 0) rfl<|wn<|Af<|cr<|wM (v:=.slice m s.length n) aR<|wD (fun st=>Br Tryz.underlying35 (eR st))<|wM (v:=I 0) rfl<|wn<|AI ?_;replace a:=bind_some a;obtain⟨a9,t,a⟩:=a;refine BY (fun bA f aD=>(bA=.ret∧∃o,a9=.inl o∧∃g,Fo X0 19 f∧sl f 4=I o.1∧Hp e aC w [g] aD∧aG o.2 aD (ZZ e aC Z w.heap.size [g]) g)∨(bA=.exit 0∧∃o,a9=.inr o∧∃i,Fo X0 19 f∧Hp e aC w [i] aD∧aG o aD (ZZ e aC Z w.heap.size [i]) i)) ?bJ ?bK
 case bJ=>
  clear a;refine BX (fun bB f aD=>∃d,∃j,∃c,Fa aQ s bB d j=some a9∧Fo X0 19 f∧sl f 0=.slice m s.length n∧sl f 1=aI∧sl f 7=I (s.length:Int)∧sl f 8=I d∧Hp e aC w [c] aD∧(fun bL=>aG j aD bL c∧Sl AA aD bL m n s) (ZZ e aC Z w.heap.size [c])) bE ?bM ?bN
  case bM=>
   intro st;exact⟨(0:Int),a4,aB,t,qo st,sp st 0 aR,sp st 1 a7,sp st 7 rfl,sp st 8 rfl,bI,a8,aN⟩
  case bN=>
   rintro(_|bB) b5 b6 ⟨d,j,c,t,bC,aJ,aK,aL,x,u,aM,q⟩
   ·exact absurd (show none=some _ from t) (by simp)
   rw[Fa.eq_2] at t;have a:=t;clear t;refine ro bC<|cr<|wD (fun st=>B9 (ee st x) (ee st aL))<|wn<|Af ?_;rcases Ae (decide (d<(s.length:Int))) with aE|aE
   ·replace a:=An a aE;refine Ah rfl aE<|cn<|Af<|AI<|cr<|wM (v:=I d) x<|wA (v:=I d) rfl<|wr<|wM (v:=aI) aK<|wM (v:=.slice m s.length n) aJ<|wM (v:=I d) rfl ?_;replace a:=AT a;obtain⟨i3,aT,bO,bP,bQ,a⟩:=a;obtain⟨b3,b8,_,bR,rfl,bS⟩:=Sl.elem q (by decide) bP;refine wD (fun st=>Bu (k:=i3) Tryz.underlying35 Le (eR st) bR (eR st) bO bQ)<|wD (fun st=>CK (l:=[I aT.Lo,I aT.Hi]) Ir (eR st) bS rfl rfl) ?_;replace a:=bind_some a;obtain⟨aU,bT,a⟩:=a;refine wE (fun st=>FY (p.call j aT aU _ (ZZ e aC Z w.heap.size [c]) (ZC e [c]) c #[.agg #[I aT.Lo,I aT.Hi]] (Nat.le_trans bF u.sz) (u.zz (F':=e) (M:=[c]) (C:=[]) [0] [] ⟨rfl,trivial⟩ trivial (fun _ h=>.inl h)) I1 aM ⟨_,rfl,⟨_,rfl,rfl⟩⟩ bT) (eR st) (Ck (eR st))) ?_;rintro _ bX ⟨aO,a2,aH,rfl,bU⟩;have a3:=u.EH a2 (AO [0] ⟨rfl,trivial⟩ (fun _ h=>h)) 0 rfl aH;have aV:aG aU.2 bX (ZZ e aC Z w.heap.size [aO]) aO:=p.mz bU (u.call (M:=[aO]) (Nat.le_refl _) (Cg ⟨.inr (hw aH 0),trivial⟩) (CT (L:=[c]) (y:=aO) 0 (gm 0)));refine wn ?_;rcases Ae (aU.1) with aF|aF
    ·replace a:=An a aF;refine Ah rfl aF<|cr<|wM (v:=I d) rfl<|wA (v:=I d) rfl<|wn<|Am<|CN<|AG ?_;obtain rfl:=oi a;refine BF (fun st=>?_);exact .inl ⟨rfl,(d,aU.2),rfl,aO,qo st,sp st 4 rfl,a3,aV⟩
    ·replace a:=Ao a aF;refine Aq rfl aF<|Cp<|CU<|Al ?_;replace a:=AL a;obtain⟨bV,a⟩:=a;refine wD (fun st=>BL (ee st x) (eR st) bV)<|wM (v:=I (d+1)) rfl<|Bj ?_;have aP:=(q.mv (u.HS a2 (AO [0] ⟨rfl,trivial⟩ (fun _ h=>h)) 0 rfl (fun k hk=>(aH k hk).1)));refine Bv bB (Nat.lt_succ_self _) (fun st=>?_);exact⟨(d+1),aU.2,aO,a,qo st,sp st 0 aJ,sp st 1 aK,sp st 7 aL,sp st 8 rfl,a3,aV,aP⟩
   ·replace a:=Ao a aE;refine Aq rfl aE<|DG ?_;obtain rfl:=oi a;refine BF (fun st=>?_);exact .inr ⟨rfl,j,rfl,c,qo st,u,aM⟩
 case bK=>
  rintro bA bY b7 (⟨rfl,o,rfl,g,z,aW,r,aA⟩|⟨rfl,o,rfl,i,z,r,aA⟩)
  ·skip
   replace a:=C4 a;refine lf z<|CN ?_;obtain rfl:=oi a;refine Av rfl aW ?_;exact⟨g,aS _ r.fin,rfl,r.mq 0 [] (M:=[]) trivial aZ,p.mz aA (AU (BB [0] ⟨rfl,trivial⟩))⟩
  ·skip
   replace a:=C5 a;refine lf z<|Bd<|BM<|cr<|wA (v:=I (-1)) rfl<|wn<|Am ?_;obtain rfl:=oi a;refine Av rfl rfl ?_;exact⟨i,aS _ r.fin,rfl,r.mq 0 [] (M:=[]) trivial aZ,p.mz aA (AU (BB [0] ⟨rfl,trivial⟩))⟩
theorem a193{p:Type}{f:Nat→Prop}{aG:Nat}{q:IT p}{s:p→AN→Option (Bool×p)} aH m(x:p) c d(i:Value) a(Z:Nat→Prop) w(e:Cb Tryz.prog i f aG q (v1 (DJ AA)) BE s)(aI:aG≤w.heap.size)(aJ:BC f [a] w)(aK:∀b,Z b→¬f b∧some b∉[a])(r:Sl AA w Z c d m)(aQ:q x w Z a) z(j:Hy aH s m x=some z):
 BO Tryz.prog 193 #[.slice c m.length d,i] w (fun v w'=>∃o',BT (FU f [a]) w w'∧BE.R w' (zf Z w [o']) v z.1∧(∀k,o'=some k→(a=some k∨w.heap.size≤k)∧k<w'.heap.size)∧q z.2 w' (zf Z w [o']) o'):=by
 unfold Hy at j;refine rq (N:=9) Tryz.func193 fun aR ha aS=>?_;have aA:=sA 0 ha;have aB:=sA 1 ha;clear ha;obtain⟨aL,aM,g,t,aC⟩:=Il aJ aK;have l:=r.mv (AR (L:=[a]) t w);have aD:=e.mz aQ (AR (L:=[a]) t w);refine cr<|wA (v:=.bool false) rfl<|wr<|wM (v:=.slice c m.length d) aA<|wM (v:=i) aB ?_;replace j:=bind_some j;obtain⟨aE,aN,j⟩:=j;refine wE (fun st=>Aj XK (eR st) (Ci (eR st) (eR st)) (AbH aH m x c d i a (ZZ f aL Z w.heap.size [a]) _ e (Nat.le_trans aI g.sz) (g.CH (F':=f) (M:=[a]) (C:=[]) [0] [] rfl ⟨rfl,trivial⟩ trivial (fun _ h=>.inl h)) (g.zz (F':=f) (M:=[a]) (C:=[]) [0] [] ⟨rfl,trivial⟩ trivial (fun _ h=>.inl h)) l aD aE aN)) ?_;rintro _ w2 ⟨n,aO,rfl,o,aP⟩;have u:=g.EH aO (AO [0] ⟨rfl,trivial⟩ (fun _ h=>h)) 0 rfl o;have aF:q aE.2 w2 (ZZ f aL Z w.heap.size [n]) n:=e.mz aP (g.call (M:=[n]) (Nat.le_refl _) (Cg ⟨.inr (hw o 0),trivial⟩) (CT (L:=[a]) (y:=n) 0 (gm 0)));refine wD (fun st=>IZ (eR st) (eR st))<|wA (v:=.bool (decide ((0:Int)≤aE.1))) rfl<|wn<|Am ?_;obtain rfl:=oi j;refine Av rfl rfl ?_;exact⟨n,aC _ u.fin,rfl,u.mq 0 [] (M:=[]) trivial aM,e.mz aF (AU (BB [0] ⟨rfl,trivial⟩))⟩
theorem a164{s:Type}{e:Nat→Prop}{a7:Nat}{t:IT s}{aB:s→AN→Option (Bool×s)} aG aC(aH:s) j l(g:Value) c(Z:Nat→Prop) w(a:Cb Tryz.prog g e a7 t (v1 (DJ AA)) BE aB)(a8:a7≤w.heap.size)(a9:BC e [c] w)(bA:∀b,Z b→¬e b∧some b∉[c])(aI:Sl AA w Z j l aC)(n:t aH w Z c) aN(u:I2 aG aB aC aH=some aN):
 BO Tryz.prog 164 #[.slice j aC.length l,g] w (fun v w'=>∃o',BT (FU e [c]) w w'∧BE.R w' (zf Z w [o']) v aN.1∧(∀k,o'=some k→(c=some k∨w.heap.size≤k)∧k<w'.heap.size)∧t aN.2 w' (zf Z w [o']) o'):=by
 unfold I2 at u;refine rq (N:=9) Tryz.func164 fun bO ha bP=>?_;have aO:=sA 0 ha;have aP:=sA 1 ha;clear ha;obtain⟨aQ,bB,aD,aJ,aR⟩:=Il a9 bA;have z:=aI.mv (AR (L:=[c]) aJ w);have aS:=a.mz n (AR (L:=[c]) aJ w);refine cr<|wE (fun st=>BN (v:=g) (cs:= #[g]) (ee st aP) a.fc) ?_;rintro _ w1 ⟨b1,rfl,i⟩;have d:=aD.nb i;have bJ:=aD.BJ i;refine wA (v:=.bool false) rfl<|wr<|wM (v:=.slice j aC.length l) aO<|wD (fun st=>Dl (vs:= #[]) (us:= #[pt b1 0]) Hv (Ck (eR st))) ?_;have aK:=d.CH (F':=e) (M:=[some b1]) (C:=[]) [0] [] rfl ⟨rfl,trivial⟩ trivial (fun k hk=>.inl ((fun _ h=>h) k hk));have aT:Cb Tryz.prog (.func (.func 194) #[] #[pt b1 0]) (FU e [some b1]) w1.heap.size (fun(st:s) aU bK o=>(∀k,o=some k→k<aU.heap.size∧¬(FU e [some b1]) k)∧Bk aU b1 214 #[g]∧t st aU bK o) (v1 (DJ AA)) BE (fun(st:s) (x:AN)=>(Hx aG aB x st).bind fun r=>some (r.1,r.2)):=by
  refine⟨rfl,rfl,d.Jq [0] ⟨rfl,trivial⟩ (fun _ h=>h),?_,?_,?_⟩
  ·intro st x r w1 aV bC o vs aW aX p n aY bL;obtain⟨f,m,q⟩:=n;obtain⟨_,rfl,⟨_,rfl,rfl⟩⟩:=aY;obtain⟨bM,h1,h2⟩:=bind_some bL;obtain rfl:=Option.some.inj h2;refine(E0 XL rfl (a194 aG x st b1 g o aV bC w1 a (Nat.le_trans a8 (Nat.le_trans d.sz aW)) ((aK.grow aW).snoc f) (fun b hb=>DU (p b (aX b hb)).1 (p b (aX b hb)).2) aX (fun b hb=>DU (p b hb).1 (p b hb).2) m q bM h1)).mono ?_;rintro v w2 ⟨o',aY,aZ,a0,aL,bD⟩;exact⟨o',aY.lf,aL,aZ,⟨aK.keep aW f aL,a0,a.mz bD Jy⟩⟩
  ·intro st w1 w2 aV bQ o n hm hb;obtain⟨f,m,q⟩:=n;exact⟨fun k hk=>⟨Nat.lt_of_lt_of_le (f k hk).1 hm.size,(f k hk).2⟩,m.H8 (hb b1 (.inl (.inr (gm 0)))),a.Lj _ _ _ _ _ _ q hm (fun b bE=>hb b (bE.imp .inl id))⟩
  ·intro st w1 aV o n k hk;obtain⟨f,m,q⟩:=n;exact f k hk
 have aA:=(z.mv (Az i));replace u:=bind_some u;obtain⟨a2,bF,u⟩:=u;have a3:t aH w1 (ZZ e aQ Z w.heap.size [some b1,c]) c:=(a.me aS aD i.gr (Az i));refine wE (fun st=>Aj XM (eR st) (Ci (eR st) (eR st)) (a193 aG aC aH j l (.func (.func 194) #[] #[pt b1 0]) c (ZZ e aQ Z w.heap.size [some b1,c]) _ aT (Nat.le_refl _) (d.CH (F':=(FU e [some b1])) (M:=[c]) (C:=[some b1]) [1] [0] rfl ⟨rfl,trivial⟩ ⟨rfl,trivial⟩ (Cr (fun _ h=>h))) (d.zz (F':=(FU e [some b1])) (M:=[c]) (C:=[some b1]) [1] [0] ⟨rfl,trivial⟩ ⟨rfl,trivial⟩ (Cr (fun _ h=>h))) aA ⟨(fun k hk=>d.N8 1 (by rw[←hk];rfl) [0] rfl ⟨rfl,trivial⟩),i.bk,a3⟩ a2 bF)) ?_;rintro _ bN ⟨aE,bG,rfl,aF,bH⟩;obtain⟨-,bI,a4⟩:=bH;have aM:=d.EH (BT.cl (M1:=[some b1]) (M2:=[c]) bG) (AO [0,1] ⟨rfl,rfl,trivial⟩ (fun _ h=>h)) 1 rfl aF;have a5:t a2.2 bN (ZZ e aQ Z w.heap.size [some b1,aE]) aE:=a.mz a4 (d.call (M:=[aE]) (Nat.le_refl _) (Cg ⟨.inr (hw aF 1),trivial⟩) (CT (L:=[some b1,c]) (y:=aE) 1 (gm 0)));refine wD (fun st=>Ca (eR st))<|wA (v:=.bool !a2.1) rfl<|wn<|Am ?_;obtain rfl:=oi u;refine Av rfl rfl ?_;exact⟨aE,aR _ aM.fin,rfl,aM.mq 1 [] (M:=[]) trivial bB,a.mz a5 (AU (BB [1] ⟨rfl,trivial⟩))⟩
theorem a196{p:Type}{c:Nat→Prop}{aK:Nat}{q:IT p}{t:p→(List Int)→Option (Bool×p)} aT j(aA:p) e f q1(i:Value) a(Z Za:Nat→Prop) w(g:Cb Tryz.prog i c aK q (v1 (FE (Ai .i64))) BE t)(aL:aK≤w.heap.size)(aM:BC c [some q1,a] w)(aN:∀b,Z b→¬c b∧some b∉[some q1,a])(aU:∀b,Z b→Za b)(aB:∀b,Za b→¬c b∧some b∉[some q1,a])(r:Sl (Ai .i64) w Za e f j)(u:Bk w q1 148 #[i])(aV:q aA w Z a) aC(l:HX aT t j aA=some aC):
 BO Tryz.prog 196 #[.slice e j.length f,pt q1 0] w (fun v w'=>∃o',BT (FU c [some q1,a]) w w'∧BE.R w' (zf Z w [some q1,o']) v aC.1∧Bk w' q1 148 #[i]∧(∀k,o'=some k→(a=some k∨w.heap.size≤k)∧k<w'.heap.size)∧q aC.2 w' (zf Z w [some q1,o']) o'):=by
 unfold HX at l;refine rq (N:=8) Tryz.func196 fun aW ha aX=>?_;have aD:=sA 0 ha;have aE:=sA 1 ha;clear ha;obtain⟨aO,aP,d,aQ,aF,aG⟩:=Ky aM aN aB;have m:=r.mv (AR (L:=[some q1,a]) aF w);have aH:=g.mz aV (AR (L:=[some q1,a]) aQ w);refine cr<|wA (v:=.bool false) rfl<|wr<|wD (fun st=>Ag (v:=i) PH (ee st aE) u rfl)<|wM (v:=.slice e j.length f) aD ?_;replace l:=bind_some l;obtain⟨aI,aR,l⟩:=l;refine wE (fun st=>FY (g.call aA j aI _ (ZZ c aO Z w.heap.size [some q1,a]) (ZC c [a]) a #[.slice e j.length f] (Nat.le_trans aL d.sz) (d.zz (F':=c) (M:=[a]) (C:=[]) [1] [] ⟨rfl,trivial⟩ trivial (fun _ h=>.inl h)) I1 aH ⟨_,rfl,⟨_,_,rfl,(m.mv (d.mz (F':=c) (M:=[a]) (C:=[]) [1] [] ⟨rfl,trivial⟩ trivial (fun _ h=>.inl h)))⟩⟩ aR) (eR st) (Ck (eR st))) ?_;rintro _ w2 ⟨n,x,o,rfl,aS⟩;have z:=d.EH x (AO [1] ⟨rfl,trivial⟩ (fun _ h=>h)) 1 rfl o;have aJ:q aI.2 w2 (ZZ c aO Z w.heap.size [some q1,n]) n:=g.mz aS (d.call (M:=[n]) (Nat.le_refl _) (Cg ⟨.inr (hw o 1),trivial⟩) (CT (L:=[some q1,a]) (y:=n) 1 (gm 0)));refine wD (fun st=>Ca (eR st))<|wA (v:=.bool !aI.1) rfl<|wn<|Am ?_;obtain rfl:=oi l;refine Av rfl rfl ?_;have s:=(u.Co x (d.CI 0 rfl [1] rfl ⟨rfl,trivial⟩ (fun _ h=>h)));exact⟨n,aG _ z.fin,rfl,s,z.mq 1 [0] (M:=[some q1]) ⟨rfl,trivial⟩ aP,g.mz aJ (AU (BB [0,1] ⟨rfl,rfl,trivial⟩))⟩
theorem a222{aX:Type}{e:Nat→Prop}{bF:Nat}{aF:IT aX}{aP:aX→(List Int)→Option (Bool×aX)} bG s(a5:aX) l m(aH:Value) aA(Z:Nat→Prop) w(o:Cb Tryz.prog aH e bF aF (v1 (FE (Ai .i64))) BE aP)(bH:bF≤w.heap.size)(bI:BC e [aA] w)(bJ:∀b,Z b→¬e b∧some b∉[aA])(aY:Sl (BH (Ai .i64)) w Z l m s)(bY:aF a5 w Z aA) a7(a:Io bG aP s a5=some a7):
 BO Tryz.prog 222 #[.slice l s.length m,aH] w (fun v w'=>∃o',BT (FU e [aA]) w w'∧(Dr .i64).R w' (zf Z w [o']) v a7.1∧(∀k,o'=some k→(aA=some k∨w.heap.size≤k)∧k<w'.heap.size)∧aF a7.2 w' (zf Z w [o']) o'):=by
 unfold Io at a;refine rq (N:=19) Tryz.func222 fun b5 ha b6=>?_;have aQ:=sA 0 ha;have a8:=sA 1 ha;clear ha;obtain⟨aB,a0,bK,a2,aR⟩:=Il bI bJ;have aM:=aY.mv (AR (L:=[aA]) a2 w);have a9:=o.mz bY (AR (L:=[aA]) a2 w);refine cr<|wA (v:=I 0) rfl<|wn<|Af<|cr<|wM (v:=.slice l s.length m) aQ<|wD (fun st=>Br Tryz.underlying23 (eR st))<|wM (v:=I 0) rfl<|wn<|AI ?_;replace a:=bind_some a;obtain⟨bA,t,a⟩:=a;refine BY (fun bB f aC=>(bB=.ret∧∃n,bA=.inl n∧∃g,Fo X0 19 f∧sl f 4=I n.1∧Hp e aB w [g] aC∧aF n.2 aC (ZZ e aB Z w.heap.size [g]) g)∨(bB=.exit 0∧∃n,bA=.inr n∧∃i,Fo X0 19 f∧Hp e aB w [i] aC∧aF n aC (ZZ e aB Z w.heap.size [i]) i)) ?bL ?bM
 case bL=>
  clear a;refine BX (fun bC f aC=>∃d,∃j,∃c,Ft aP s bC d j=some bA∧Fo X0 19 f∧sl f 0=.slice l s.length m∧sl f 1=aH∧sl f 7=I (s.length:Int)∧sl f 8=I d∧Hp e aB w [c] aC∧(fun bN=>aF j aC bN c∧Sl (BH (Ai .i64)) aC bN l m s) (ZZ e aB Z w.heap.size [c])) bG ?bO ?bP
  case bO=>
   intro st;exact⟨(0:Int),a5,aA,t,qo st,sp st 0 aQ,sp st 1 a8,sp st 7 rfl,sp st 8 rfl,bK,a9,aM⟩
  case bP=>
   rintro(_|bC) b7 b8 ⟨d,j,c,t,bD,aI,aJ,aK,u,p,aL,q⟩
   ·exact absurd (show none=some _ from t) (by simp)
   rw[Ft.eq_2] at t;have a:=t;clear t;refine ro bD<|cr<|wD (fun st=>B9 (ee st u) (ee st aK))<|wn<|Af ?_;rcases Ae (decide (d<(s.length:Int))) with aD|aD
   ·replace a:=An a aD;refine Ah rfl aD<|cn<|Af<|AI<|cr<|wM (v:=I d) u<|wA (v:=I d) rfl<|wr<|wM (v:=aH) aJ<|wM (v:=.slice l s.length m) aI<|wM (v:=I d) rfl ?_;replace a:=AT a;obtain⟨i3,bE,bQ,bR,bS,a⟩:=a;obtain⟨b3,cA,_,bT,⟨aS,aT,rfl,aZ⟩,bU⟩:=Sl.Cy q rfl bR;refine wD (fun st=>Bi (k:=i3) Tryz.underlying23 EO (eR st) bT (eR st) bQ bS)<|wD (fun st=>Bp (v:=.slice aS bE.length aT) CO (eR st) bU rfl) ?_;replace a:=bind_some a;obtain⟨aU,bV,a⟩:=a;refine wE (fun st=>FY (o.call j bE aU _ (ZZ e aB Z w.heap.size [c]) (ZC e [c]) c #[.slice aS bE.length aT] (Nat.le_trans bH p.sz) (p.zz (F':=e) (M:=[c]) (C:=[]) [0] [] ⟨rfl,trivial⟩ trivial (fun _ h=>.inl h)) I1 aL ⟨_,rfl,⟨_,_,rfl,(aZ.mv (p.mz (F':=e) (M:=[c]) (C:=[]) [0] [] ⟨rfl,trivial⟩ trivial (fun _ h=>.inl h)))⟩⟩ bV) (eR st) (Ck (eR st))) ?_;rintro _ bZ ⟨aN,a3,aG,rfl,bW⟩;have a4:=p.EH a3 (AO [0] ⟨rfl,trivial⟩ (fun _ h=>h)) 0 rfl aG;have aV:aF aU.2 bZ (ZZ e aB Z w.heap.size [aN]) aN:=o.mz bW (p.call (M:=[aN]) (Nat.le_refl _) (Cg ⟨.inr (hw aG 0),trivial⟩) (CT (L:=[c]) (y:=aN) 0 (gm 0)));refine wn ?_;rcases Ae (aU.1) with aE|aE
    ·replace a:=An a aE;refine Ah rfl aE<|cr<|wM (v:=I d) rfl<|wA (v:=I d) rfl<|wn<|Am<|CN<|AG ?_;obtain rfl:=oi a;refine BF (fun st=>?_);exact .inl ⟨rfl,(d,aU.2),rfl,aN,qo st,sp st 4 rfl,a4,aV⟩
    ·replace a:=Ao a aE;refine Aq rfl aE<|Cp<|CU<|Al ?_;replace a:=AL a;obtain⟨bX,a⟩:=a;refine wD (fun st=>BL (ee st u) (eR st) bX)<|wM (v:=I (d+1)) rfl<|Bj ?_;have aO:=(q.mv (p.HS a3 (AO [0] ⟨rfl,trivial⟩ (fun _ h=>h)) 0 rfl (fun k hk=>(aG k hk).1)));refine Bv bC (Nat.lt_succ_self _) (fun st=>?_);exact⟨(d+1),aU.2,aN,a,qo st,sp st 0 aI,sp st 1 aJ,sp st 7 aK,sp st 8 rfl,a4,aV,aO⟩
   ·replace a:=Ao a aD;refine Aq rfl aD<|DG ?_;obtain rfl:=oi a;refine BF (fun st=>?_);exact .inr ⟨rfl,j,rfl,c,qo st,p,aL⟩
 case bM=>
  rintro bB b4 b9 (⟨rfl,n,rfl,g,x,aW,r,z⟩|⟨rfl,n,rfl,i,x,r,z⟩)
  ·skip
   replace a:=C4 a;refine lf x<|CN ?_;obtain rfl:=oi a;refine Av rfl aW ?_;exact⟨g,aR _ r.fin,rfl,r.mq 0 [] (M:=[]) trivial a0,o.mz z (AU (BB [0] ⟨rfl,trivial⟩))⟩
  ·skip
   replace a:=C5 a;refine lf x<|Bd<|BM<|cr<|wA (v:=I (-1)) rfl<|wn<|Am ?_;obtain rfl:=oi a;refine Av rfl rfl ?_;exact⟨i,aR _ r.fin,rfl,r.mq 0 [] (M:=[]) trivial a0,o.mz z (AU (BB [0] ⟨rfl,trivial⟩))⟩
theorem AbI{p:Type}{f:Nat→Prop}{aG:Nat}{q:IT p}{s:p→(List Int)→Option (Bool×p)} aH m(x:p) c d(i:Value) a(Z:Nat→Prop) w(e:Cb Tryz.prog i f aG q (v1 (FE (Ai .i64))) BE s)(aI:aG≤w.heap.size)(aJ:BC f [a] w)(aK:∀b,Z b→¬f b∧some b∉[a])(r:Sl (BH (Ai .i64)) w Z c d m)(aQ:q x w Z a) z(j:HT aH s m x=some z):
 BO Tryz.prog 195 #[.slice c m.length d,i] w (fun v w'=>∃o',BT (FU f [a]) w w'∧BE.R w' (zf Z w [o']) v z.1∧(∀k,o'=some k→(a=some k∨w.heap.size≤k)∧k<w'.heap.size)∧q z.2 w' (zf Z w [o']) o'):=by
 unfold HT at j;refine rq (N:=9) Tryz.func195 fun aR ha aS=>?_;have aA:=sA 0 ha;have aB:=sA 1 ha;clear ha;obtain⟨aL,aM,g,t,aC⟩:=Il aJ aK;have l:=r.mv (AR (L:=[a]) t w);have aD:=e.mz aQ (AR (L:=[a]) t w);refine cr<|wA (v:=.bool false) rfl<|wr<|wM (v:=.slice c m.length d) aA<|wM (v:=i) aB ?_;replace j:=bind_some j;obtain⟨aE,aN,j⟩:=j;refine wE (fun st=>Aj XN (eR st) (Ci (eR st) (eR st)) (a222 aH m x c d i a (ZZ f aL Z w.heap.size [a]) _ e (Nat.le_trans aI g.sz) (g.CH (F':=f) (M:=[a]) (C:=[]) [0] [] rfl ⟨rfl,trivial⟩ trivial (fun _ h=>.inl h)) (g.zz (F':=f) (M:=[a]) (C:=[]) [0] [] ⟨rfl,trivial⟩ trivial (fun _ h=>.inl h)) l aD aE aN)) ?_;rintro _ w2 ⟨n,aO,rfl,o,aP⟩;have u:=g.EH aO (AO [0] ⟨rfl,trivial⟩ (fun _ h=>h)) 0 rfl o;have aF:q aE.2 w2 (ZZ f aL Z w.heap.size [n]) n:=e.mz aP (g.call (M:=[n]) (Nat.le_refl _) (Cg ⟨.inr (hw o 0),trivial⟩) (CT (L:=[a]) (y:=n) 0 (gm 0)));refine wD (fun st=>IZ (eR st) (eR st))<|wA (v:=.bool (decide ((0:Int)≤aE.1))) rfl<|wn<|Am ?_;obtain rfl:=oi j;refine Av rfl rfl ?_;exact⟨n,aC _ u.fin,rfl,u.mq 0 [] (M:=[]) trivial aM,e.mz aF (AU (BB [0] ⟨rfl,trivial⟩))⟩
theorem AbJ{s:Type}{e:Nat→Prop}{bA:Nat}{t:IT s}{aB:s→(List Int)→Option (Bool×s)} aG aC(aH:s) j l(g:Value) c(Z:Nat→Prop) w(a:Cb Tryz.prog g e bA t (v1 (FE (Ai .i64))) BE aB)(bB:bA≤w.heap.size)(bC:BC e [c] w)(bD:∀b,Z b→¬e b∧some b∉[c])(aI:Sl (BH (Ai .i64)) w Z j l aC)(n:t aH w Z c) aO(u:Jr aG aB aC aH=some aO):
 BO Tryz.prog 166 #[.slice j aC.length l,g] w (fun v w'=>∃o',BT (FU e [c]) w w'∧BE.R w' (zf Z w [o']) v aO.1∧(∀k,o'=some k→(c=some k∨w.heap.size≤k)∧k<w'.heap.size)∧t aO.2 w' (zf Z w [o']) o'):=by
 unfold Jr at u;refine rq (N:=9) Tryz.func166 fun bR ha bS=>?_;have aP:=sA 0 ha;have aQ:=sA 1 ha;clear ha;obtain⟨aR,bE,aD,aK,aS⟩:=Il bC bD;have z:=aI.mv (AR (L:=[c]) aK w);have aT:=a.mz n (AR (L:=[c]) aK w);refine cr<|wE (fun st=>BN (v:=g) (cs:= #[g]) (ee st aQ) a.fc) ?_;rintro _ w1 ⟨b1,rfl,i⟩;have d:=aD.nb i;have bM:=aD.BJ i;refine wA (v:=.bool false) rfl<|wr<|wM (v:=.slice j aC.length l) aP<|wD (fun st=>Dl (vs:= #[]) (us:= #[pt b1 0]) Hv (Ck (eR st))) ?_;have aL:=d.CH (F':=e) (M:=[some b1]) (C:=[]) [0] [] rfl ⟨rfl,trivial⟩ trivial (fun k hk=>.inl ((fun _ h=>h) k hk));have aU:Cb Tryz.prog (.func (.func 196) #[] #[pt b1 0]) (FU e [some b1]) w1.heap.size (fun(st:s) aV bN o=>(∀k,o=some k→k<aV.heap.size∧¬(FU e [some b1]) k)∧Bk aV b1 148 #[g]∧t st aV bN o) (v1 (FE (Ai .i64))) BE (fun(st:s) (x:(List Int))=>(HX aG aB x st).bind fun r=>some (r.1,r.2)):=by
  refine⟨rfl,rfl,d.Jq [0] ⟨rfl,trivial⟩ (fun _ h=>h),?_,?_,?_⟩
  ·intro st x r w1 aW bF o vs aX aY p n aZ bO;obtain⟨f,m,q⟩:=n;obtain⟨_,rfl,⟨a0,a2,rfl,aJ⟩⟩:=aZ;obtain⟨bP,h1,h2⟩:=bind_some bO;obtain rfl:=Option.some.inj h2;refine(E0 XO rfl (a196 aG x st a0 a2 b1 g o aW bF w1 a (Nat.le_trans bB (Nat.le_trans d.sz aX)) ((aL.grow aX).snoc f) (fun b hb=>DU (p b (aY b hb)).1 (p b (aY b hb)).2) aY (fun b hb=>DU (p b hb).1 (p b hb).2) aJ m q bP h1)).mono ?_;rintro v w2 ⟨o',aZ,a3,a4,aM,bG⟩;exact⟨o',aZ.lf,aM,a3,⟨aL.keep aX f aM,a4,a.mz bG Jy⟩⟩
  ·intro st w1 w2 aW bT o n hm hb;obtain⟨f,m,q⟩:=n;exact⟨fun k hk=>⟨Nat.lt_of_lt_of_le (f k hk).1 hm.size,(f k hk).2⟩,m.H8 (hb b1 (.inl (.inr (gm 0)))),a.Lj _ _ _ _ _ _ q hm (fun b bH=>hb b (bH.imp .inl id))⟩
  ·intro st w1 aW o n k hk;obtain⟨f,m,q⟩:=n;exact f k hk
 have aA:=(z.mv (Az i));replace u:=bind_some u;obtain⟨a5,bI,u⟩:=u;have a7:t aH w1 (ZZ e aR Z w.heap.size [some b1,c]) c:=(a.me aT aD i.gr (Az i));refine wE (fun st=>Aj XP (eR st) (Ci (eR st) (eR st)) (AbI aG aC aH j l (.func (.func 196) #[] #[pt b1 0]) c (ZZ e aR Z w.heap.size [some b1,c]) _ aU (Nat.le_refl _) (d.CH (F':=(FU e [some b1])) (M:=[c]) (C:=[some b1]) [1] [0] rfl ⟨rfl,trivial⟩ ⟨rfl,trivial⟩ (Cr (fun _ h=>h))) (d.zz (F':=(FU e [some b1])) (M:=[c]) (C:=[some b1]) [1] [0] ⟨rfl,trivial⟩ ⟨rfl,trivial⟩ (Cr (fun _ h=>h))) aA ⟨(fun k hk=>d.N8 1 (by rw[←hk];rfl) [0] rfl ⟨rfl,trivial⟩),i.bk,a7⟩ a5 bI)) ?_;rintro _ bQ ⟨aE,bJ,rfl,aF,bK⟩;obtain⟨-,bL,a8⟩:=bK;have aN:=d.EH (BT.cl (M1:=[some b1]) (M2:=[c]) bJ) (AO [0,1] ⟨rfl,rfl,trivial⟩ (fun _ h=>h)) 1 rfl aF;have a9:t a5.2 bQ (ZZ e aR Z w.heap.size [some b1,aE]) aE:=a.mz a8 (d.call (M:=[aE]) (Nat.le_refl _) (Cg ⟨.inr (hw aF 1),trivial⟩) (CT (L:=[some b1,c]) (y:=aE) 1 (gm 0)));refine wD (fun st=>Ca (eR st))<|wA (v:=.bool !a5.1) rfl<|wn<|Am ?_;obtain rfl:=oi u;refine Av rfl rfl ?_;exact⟨aE,aS _ aN.fin,rfl,aN.mq 1 [] (M:=[]) trivial bE,a.mz a9 (AU (BB [1] ⟨rfl,trivial⟩))⟩
theorem a198{r:Type}{e:Nat→Prop}{aK:Nat}{n:IT r}{u:r→Cx→Option (Bool×r)} aU a(s:r) q1(i:Value) c(Z Za:Nat→Prop) w(d:Cb Tryz.prog i e aK n (v1 (DJ AH)) BE u)(aL:aK≤w.heap.size)(aM:BC e [some q1,c] w)(aN:∀b,Z b→¬e b∧some b∉[some q1,c])(aV:∀b,Z b→Za b)(aA:∀b,Za b→¬e b∧some b∉[some q1,c])(aO:Bk w q1 212 #[i])(aW:n s w Z c) aB(m:Hz aU u a s=some aB):
 BO Tryz.prog 198 #[.agg #[.bool a.BV,I a.Number,I a.Bm,I a.Bn],pt q1 0] w (fun v w'=>∃o',BT (FU e [some q1,c]) w w'∧BE.R w' (zf Z w [some q1,o']) v aB.1∧Bk w' q1 212 #[i]∧(∀k,o'=some k→(c=some k∨w.heap.size≤k)∧k<w'.heap.size)∧n aB.2 w' (zf Z w [some q1,o']) o'):=by
 unfold Hz at m;refine rq (N:=8) Tryz.func198 fun aZ ha a0=>?_;have aC:=sA 0 ha;have aD:=sA 1 ha;clear ha;obtain⟨aE,aP,o,aQ,aX,aF⟩:=Ky aM aN aA;have aG:=d.mz aW (AR (L:=[some q1,c]) aQ w);refine cr<|wE (fun st=>BN (v:=.agg #[.bool a.BV,I a.Number,I a.Bm,I a.Bn]) (cs:= #[.bool a.BV,I a.Number,I a.Bm,I a.Bn]) (ee st aC) rfl) ?_;rintro _ w1 ⟨b1,rfl,f⟩;have g:=o.nb f;have aT:=o.BJ f;refine wA (v:=.bool false) rfl<|wn<|Af<|Al ?_;have j:=(aO.ext f.gr);refine wD (fun st=>Ag (v:=i) XQ (ee st aD) j rfl)<|wD (fun st=>Ba (l:=[.bool a.BV,I a.Number,I a.Bm,I a.Bn]) NU (eR st) f.bk rfl rfl) ?_;have aH:n s w1 (ZZ e aE Z w.heap.size [some b1,some q1,c]) c:=(d.me aG o f.gr (Az f));replace m:=bind_some m;obtain⟨aI,aR,m⟩:=m;refine wE (fun st=>FY (d.call s a aI _ (ZZ e aE Z w.heap.size [some b1,some q1,c]) (ZC e [c]) c #[.agg #[.bool a.BV,I a.Number,I a.Bm,I a.Bn]] (Nat.le_trans aL g.sz) (g.zz (F':=e) (M:=[c]) (C:=[]) [2] [] ⟨rfl,trivial⟩ trivial (fun _ h=>.inl h)) I1 aH ⟨_,rfl,⟨_,rfl,rfl⟩⟩ aR) (eR st) (Ck (eR st))) ?_;rintro _ aY ⟨p,x,q,rfl,aS⟩;have z:=g.EH x (AO [2] ⟨rfl,trivial⟩ (fun _ h=>h)) 2 rfl q;have aJ:n aI.2 aY (ZZ e aE Z w.heap.size [some b1,some q1,p]) p:=d.mz aS (g.call (M:=[p]) (Nat.le_refl _) (Cg ⟨.inr (hw q 2),trivial⟩) (CT (L:=[some b1,some q1,c]) (y:=p) 2 (gm 0)));refine wD (fun st=>Ca (eR st))<|wA (v:=.bool !aI.1) rfl<|wn<|Am ?_;obtain rfl:=oi m;refine Av rfl rfl ?_;have t:=(j.Co x (g.CI 1 rfl [2] rfl ⟨rfl,trivial⟩ (fun _ h=>h)));exact⟨p,aF _ z.fin,rfl,t,z.mq 2 [1] (M:=[some q1]) ⟨rfl,trivial⟩ aP,d.mz aJ (AU (BB [1,2] ⟨rfl,rfl,trivial⟩))⟩
theorem AbK{aX:Type}{e:Nat→Prop}{bD:Nat}{aH:IT aX}{aR:aX→Cx→Option (Bool×aX)} bE s(a4:aX) m n(aJ:Value) aC(Z:Nat→Prop) w(p:Cb Tryz.prog aJ e bD aH (v1 (DJ AH)) BE aR)(bF:bD≤w.heap.size)(bG:BC e [aC] w)(bH:∀b,Z b→¬e b∧some b∉[aC])(aY:Sl AH w Z m n s)(bW:aH a4 w Z aC) a5(a:Ia bE aR s a4=some a5):
 BO Tryz.prog 223 #[.slice m s.length n,aJ] w (fun v w'=>∃o',BT (FU e [aC]) w w'∧(Dr .i64).R w' (zf Z w [o']) v a5.1∧(∀k,o'=some k→(aC=some k∨w.heap.size≤k)∧k<w'.heap.size)∧aH a5.2 w' (zf Z w [o']) o'):=by
 unfold Ia at a;refine rq (N:=19) Tryz.func223 fun bZ ha b4=>?_;have aS:=sA 0 ha;have a7:=sA 1 ha;clear ha;obtain⟨aD,aZ,bI,a0,aT⟩:=Il bG bH;have aO:=aY.mv (AR (L:=[aC]) a0 w);have a8:=p.mz bW (AR (L:=[aC]) a0 w);refine cr<|wA (v:=I 0) rfl<|wn<|Af<|cr<|wM (v:=.slice m s.length n) aS<|wD (fun st=>Br Tryz.underlying36 (eR st))<|wM (v:=I 0) rfl<|wn<|AI ?_;replace a:=bind_some a;obtain⟨a9,t,a⟩:=a;refine BY (fun bA f aE=>(bA=.ret∧∃o,a9=.inl o∧∃g,Fo X0 19 f∧sl f 4=I o.1∧Hp e aD w [g] aE∧aH o.2 aE (ZZ e aD Z w.heap.size [g]) g)∨(bA=.exit 0∧∃o,a9=.inr o∧∃i,Fo X0 19 f∧Hp e aD w [i] aE∧aH o aE (ZZ e aD Z w.heap.size [i]) i)) ?bJ ?bK
 case bJ=>
  clear a;refine BX (fun bB f aE=>∃d,∃j,∃c,Fb aR s bB d j=some a9∧Fo X0 19 f∧sl f 0=.slice m s.length n∧sl f 1=aJ∧sl f 7=I (s.length:Int)∧sl f 8=I d∧Hp e aD w [c] aE∧(fun bL=>aH j aE bL c∧Sl AH aE bL m n s) (ZZ e aD Z w.heap.size [c])) bE ?bM ?bN
  case bM=>
   intro st;exact⟨(0:Int),a4,aC,t,qo st,sp st 0 aS,sp st 1 a7,sp st 7 rfl,sp st 8 rfl,bI,a8,aO⟩
  case bN=>
   rintro(_|bB) b5 b6 ⟨d,j,c,t,bC,aK,aL,aM,x,u,aN,q⟩
   ·exact absurd (show none=some _ from t) (by simp)
   rw[Fb.eq_2] at t;have a:=t;clear t;refine ro bC<|cr<|wD (fun st=>B9 (ee st x) (ee st aM))<|wn<|Af ?_;rcases Ae (decide (d<(s.length:Int))) with aF|aF
   ·replace a:=An a aF;refine Ah rfl aF<|cn<|Af<|AI<|cr<|wM (v:=I d) x<|wA (v:=I d) rfl<|wr<|wM (v:=aJ) aL<|wM (v:=.slice m s.length n) aK<|wM (v:=I d) rfl ?_;replace a:=AT a;obtain⟨i3,z,bO,bP,bQ,a⟩:=a;obtain⟨b3,b8,_,bR,rfl,bS⟩:=Sl.elem q (by decide) bP;refine wD (fun st=>Bu (k:=i3) Tryz.underlying36 RG (eR st) bR (eR st) bO bQ)<|wD (fun st=>CK (l:=[.bool z.BV,I z.Number,I z.Bm,I z.Bn]) NU (eR st) bS rfl rfl) ?_;replace a:=bind_some a;obtain⟨aU,bT,a⟩:=a;refine wE (fun st=>FY (p.call j z aU _ (ZZ e aD Z w.heap.size [c]) (ZC e [c]) c #[.agg #[.bool z.BV,I z.Number,I z.Bm,I z.Bn]] (Nat.le_trans bF u.sz) (u.zz (F':=e) (M:=[c]) (C:=[]) [0] [] ⟨rfl,trivial⟩ trivial (fun _ h=>.inl h)) I1 aN ⟨_,rfl,⟨_,rfl,rfl⟩⟩ bT) (eR st) (Ck (eR st))) ?_;rintro _ bX ⟨aP,a2,aI,rfl,bU⟩;have a3:=u.EH a2 (AO [0] ⟨rfl,trivial⟩ (fun _ h=>h)) 0 rfl aI;have aV:aH aU.2 bX (ZZ e aD Z w.heap.size [aP]) aP:=p.mz bU (u.call (M:=[aP]) (Nat.le_refl _) (Cg ⟨.inr (hw aI 0),trivial⟩) (CT (L:=[c]) (y:=aP) 0 (gm 0)));refine wn ?_;rcases Ae (aU.1) with aG|aG
    ·replace a:=An a aG;refine Ah rfl aG<|cr<|wM (v:=I d) rfl<|wA (v:=I d) rfl<|wn<|Am<|CN<|AG ?_;obtain rfl:=oi a;refine BF (fun st=>?_);exact .inl ⟨rfl,(d,aU.2),rfl,aP,qo st,sp st 4 rfl,a3,aV⟩
    ·replace a:=Ao a aG;refine Aq rfl aG<|Cp<|CU<|Al ?_;replace a:=AL a;obtain⟨bV,a⟩:=a;refine wD (fun st=>BL (ee st x) (eR st) bV)<|wM (v:=I (d+1)) rfl<|Bj ?_;have aQ:=(q.mv (u.HS a2 (AO [0] ⟨rfl,trivial⟩ (fun _ h=>h)) 0 rfl (fun k hk=>(aI k hk).1)));refine Bv bB (Nat.lt_succ_self _) (fun st=>?_);exact⟨(d+1),aU.2,aP,a,qo st,sp st 0 aK,sp st 1 aL,sp st 7 aM,sp st 8 rfl,a3,aV,aQ⟩
   ·replace a:=Ao a aF;refine Aq rfl aF<|DG ?_;obtain rfl:=oi a;refine BF (fun st=>?_);exact .inr ⟨rfl,j,rfl,c,qo st,u,aN⟩
 case bK=>
  rintro bA bY b7 (⟨rfl,o,rfl,g,aA,aW,r,aB⟩|⟨rfl,o,rfl,i,aA,r,aB⟩)
  ·skip
   replace a:=C4 a;refine lf aA<|CN ?_;obtain rfl:=oi a;refine Av rfl aW ?_;exact⟨g,aT _ r.fin,rfl,r.mq 0 [] (M:=[]) trivial aZ,p.mz aB (AU (BB [0] ⟨rfl,trivial⟩))⟩
  ·skip
   replace a:=C5 a;refine lf aA<|Bd<|BM<|cr<|wA (v:=I (-1)) rfl<|wn<|Am ?_;obtain rfl:=oi a;refine Av rfl rfl ?_;exact⟨i,aT _ r.fin,rfl,r.mq 0 [] (M:=[]) trivial aZ,p.mz aB (AU (BB [0] ⟨rfl,trivial⟩))⟩
theorem AbL{p:Type}{f:Nat→Prop}{aG:Nat}{q:IT p}{s:p→Cx→Option (Bool×p)} aH m(x:p) c d(i:Value) a(Z:Nat→Prop) w(e:Cb Tryz.prog i f aG q (v1 (DJ AH)) BE s)(aI:aG≤w.heap.size)(aJ:BC f [a] w)(aK:∀b,Z b→¬f b∧some b∉[a])(r:Sl AH w Z c d m)(aQ:q x w Z a) z(j:HA aH s m x=some z):
 BO Tryz.prog 197 #[.slice c m.length d,i] w (fun v w'=>∃o',BT (FU f [a]) w w'∧BE.R w' (zf Z w [o']) v z.1∧(∀k,o'=some k→(a=some k∨w.heap.size≤k)∧k<w'.heap.size)∧q z.2 w' (zf Z w [o']) o'):=by
 unfold HA at j;refine rq (N:=9) Tryz.func197 fun aR ha aS=>?_;have aA:=sA 0 ha;have aB:=sA 1 ha;clear ha;obtain⟨aL,aM,g,t,aC⟩:=Il aJ aK;have l:=r.mv (AR (L:=[a]) t w);have aD:=e.mz aQ (AR (L:=[a]) t w);refine cr<|wA (v:=.bool false) rfl<|wr<|wM (v:=.slice c m.length d) aA<|wM (v:=i) aB ?_;replace j:=bind_some j;obtain⟨aE,aN,j⟩:=j;refine wE (fun st=>Aj XS (eR st) (Ci (eR st) (eR st)) (AbK aH m x c d i a (ZZ f aL Z w.heap.size [a]) _ e (Nat.le_trans aI g.sz) (g.CH (F':=f) (M:=[a]) (C:=[]) [0] [] rfl ⟨rfl,trivial⟩ trivial (fun _ h=>.inl h)) (g.zz (F':=f) (M:=[a]) (C:=[]) [0] [] ⟨rfl,trivial⟩ trivial (fun _ h=>.inl h)) l aD aE aN)) ?_;rintro _ w2 ⟨n,aO,rfl,o,aP⟩;have u:=g.EH aO (AO [0] ⟨rfl,trivial⟩ (fun _ h=>h)) 0 rfl o;have aF:q aE.2 w2 (ZZ f aL Z w.heap.size [n]) n:=e.mz aP (g.call (M:=[n]) (Nat.le_refl _) (Cg ⟨.inr (hw o 0),trivial⟩) (CT (L:=[a]) (y:=n) 0 (gm 0)));refine wD (fun st=>IZ (eR st) (eR st))<|wA (v:=.bool (decide ((0:Int)≤aE.1))) rfl<|wn<|Am ?_;obtain rfl:=oi j;refine Av rfl rfl ?_;exact⟨n,aC _ u.fin,rfl,u.mq 0 [] (M:=[]) trivial aM,e.mz aF (AU (BB [0] ⟨rfl,trivial⟩))⟩
theorem a167{s:Type}{e:Nat→Prop}{a7:Nat}{t:IT s}{aB:s→Cx→Option (Bool×s)} aG aC(aH:s) j l(g:Value) c(Z:Nat→Prop) w(a:Cb Tryz.prog g e a7 t (v1 (DJ AH)) BE aB)(a8:a7≤w.heap.size)(a9:BC e [c] w)(bA:∀b,Z b→¬e b∧some b∉[c])(aI:Sl AH w Z j l aC)(n:t aH w Z c) aN(u:I3 aG aB aC aH=some aN):
 BO Tryz.prog 167 #[.slice j aC.length l,g] w (fun v w'=>∃o',BT (FU e [c]) w w'∧BE.R w' (zf Z w [o']) v aN.1∧(∀k,o'=some k→(c=some k∨w.heap.size≤k)∧k<w'.heap.size)∧t aN.2 w' (zf Z w [o']) o'):=by
 unfold I3 at u;refine rq (N:=9) Tryz.func167 fun bO ha bP=>?_;have aO:=sA 0 ha;have aP:=sA 1 ha;clear ha;obtain⟨aQ,bB,aD,aJ,aR⟩:=Il a9 bA;have z:=aI.mv (AR (L:=[c]) aJ w);have aS:=a.mz n (AR (L:=[c]) aJ w);refine cr<|wE (fun st=>BN (v:=g) (cs:= #[g]) (ee st aP) a.fc) ?_;rintro _ w1 ⟨b1,rfl,i⟩;have d:=aD.nb i;have bJ:=aD.BJ i;refine wA (v:=.bool false) rfl<|wr<|wM (v:=.slice j aC.length l) aO<|wD (fun st=>Dl (vs:= #[]) (us:= #[pt b1 0]) Hv (Ck (eR st))) ?_;have aK:=d.CH (F':=e) (M:=[some b1]) (C:=[]) [0] [] rfl ⟨rfl,trivial⟩ trivial (fun k hk=>.inl ((fun _ h=>h) k hk));have aT:Cb Tryz.prog (.func (.func 198) #[] #[pt b1 0]) (FU e [some b1]) w1.heap.size (fun(st:s) aU bK o=>(∀k,o=some k→k<aU.heap.size∧¬(FU e [some b1]) k)∧Bk aU b1 212 #[g]∧t st aU bK o) (v1 (DJ AH)) BE (fun(st:s) (x:Cx)=>(Hz aG aB x st).bind fun r=>some (r.1,r.2)):=by
  refine⟨rfl,rfl,d.Jq [0] ⟨rfl,trivial⟩ (fun _ h=>h),?_,?_,?_⟩
  ·intro st x r w1 aV bC o vs aW aX p n aY bL;obtain⟨f,m,q⟩:=n;obtain⟨_,rfl,⟨_,rfl,rfl⟩⟩:=aY;obtain⟨bM,h1,h2⟩:=bind_some bL;obtain rfl:=Option.some.inj h2;refine(E0 XT rfl (a198 aG x st b1 g o aV bC w1 a (Nat.le_trans a8 (Nat.le_trans d.sz aW)) ((aK.grow aW).snoc f) (fun b hb=>DU (p b (aX b hb)).1 (p b (aX b hb)).2) aX (fun b hb=>DU (p b hb).1 (p b hb).2) m q bM h1)).mono ?_;rintro v w2 ⟨o',aY,aZ,a0,aL,bD⟩;exact⟨o',aY.lf,aL,aZ,⟨aK.keep aW f aL,a0,a.mz bD Jy⟩⟩
  ·intro st w1 w2 aV bQ o n hm hb;obtain⟨f,m,q⟩:=n;exact⟨fun k hk=>⟨Nat.lt_of_lt_of_le (f k hk).1 hm.size,(f k hk).2⟩,m.H8 (hb b1 (.inl (.inr (gm 0)))),a.Lj _ _ _ _ _ _ q hm (fun b bE=>hb b (bE.imp .inl id))⟩
  ·intro st w1 aV o n k hk;obtain⟨f,m,q⟩:=n;exact f k hk
 have aA:=(z.mv (Az i));replace u:=bind_some u;obtain⟨a2,bF,u⟩:=u;have a3:t aH w1 (ZZ e aQ Z w.heap.size [some b1,c]) c:=(a.me aS aD i.gr (Az i));refine wE (fun st=>Aj XU (eR st) (Ci (eR st) (eR st)) (AbL aG aC aH j l (.func (.func 198) #[] #[pt b1 0]) c (ZZ e aQ Z w.heap.size [some b1,c]) _ aT (Nat.le_refl _) (d.CH (F':=(FU e [some b1])) (M:=[c]) (C:=[some b1]) [1] [0] rfl ⟨rfl,trivial⟩ ⟨rfl,trivial⟩ (Cr (fun _ h=>h))) (d.zz (F':=(FU e [some b1])) (M:=[c]) (C:=[some b1]) [1] [0] ⟨rfl,trivial⟩ ⟨rfl,trivial⟩ (Cr (fun _ h=>h))) aA ⟨(fun k hk=>d.N8 1 (by rw[←hk];rfl) [0] rfl ⟨rfl,trivial⟩),i.bk,a3⟩ a2 bF)) ?_;rintro _ bN ⟨aE,bG,rfl,aF,bH⟩;obtain⟨-,bI,a4⟩:=bH;have aM:=d.EH (BT.cl (M1:=[some b1]) (M2:=[c]) bG) (AO [0,1] ⟨rfl,rfl,trivial⟩ (fun _ h=>h)) 1 rfl aF;have a5:t a2.2 bN (ZZ e aQ Z w.heap.size [some b1,aE]) aE:=a.mz a4 (d.call (M:=[aE]) (Nat.le_refl _) (Cg ⟨.inr (hw aF 1),trivial⟩) (CT (L:=[some b1,c]) (y:=aE) 1 (gm 0)));refine wD (fun st=>Ca (eR st))<|wA (v:=.bool !a2.1) rfl<|wn<|Am ?_;obtain rfl:=oi u;refine Av rfl rfl ?_;exact⟨aE,aR _ aM.fin,rfl,aM.mq 1 [] (M:=[]) trivial bB,a.mz a5 (AU (BB [1] ⟨rfl,trivial⟩))⟩
theorem AbM{m:Type}{c:Nat→Prop}{aF:Nat}{n:IT m}{p:m→Int→Option (Bool×m)} aO i(t:m) q1(f:Value) a(Z Za:Nat→Prop) w(d:Cb Tryz.prog f c aF n (v1 (Dr .i64)) BE p)(aG:aF≤w.heap.size)(aH:BC c [some q1,a] w)(aI:∀b,Z b→¬c b∧some b∉[some q1,a])(aP:∀b,Z b→Za b)(u:∀b,Za b→¬c b∧some b∉[some q1,a])(q:Bk w q1 142 #[f])(aQ:n t w Z a) x(g:Ib aO p i t=some x):
 BO Tryz.prog 231 #[I i,pt q1 0] w (fun v w'=>∃o',BT (FU c [some q1,a]) w w'∧BE.R w' (zf Z w [some q1,o']) v x.1∧Bk w' q1 142 #[f]∧(∀k,o'=some k→(a=some k∨w.heap.size≤k)∧k<w'.heap.size)∧n x.2 w' (zf Z w [some q1,o']) o'):=by
 unfold Ib at g;refine rq (N:=8) Tryz.func231 fun aS ha aT=>?_;have z:=sA 0 ha;have aA:=sA 1 ha;clear ha;obtain⟨aJ,aK,e,aL,aR,aB⟩:=Ky aH aI u;have aC:=d.mz aQ (AR (L:=[some q1,a]) aL w);refine cr<|wA (v:=.bool false) rfl<|wr<|wD (fun st=>Ag (v:=f) Lz (ee st aA) q rfl)<|wM (v:=I i) z ?_;replace g:=bind_some g;obtain⟨aD,aM,g⟩:=g;refine wE (fun st=>FY (d.call t i aD _ (ZZ c aJ Z w.heap.size [some q1,a]) (ZC c [a]) a #[I i] (Nat.le_trans aG e.sz) (e.zz (F':=c) (M:=[a]) (C:=[]) [1] [] ⟨rfl,trivial⟩ trivial (fun _ h=>.inl h)) I1 aC ⟨_,rfl,rfl⟩ aM) (eR st) (Ck (eR st))) ?_;rintro _ w2 ⟨j,r,l,rfl,aN⟩;have s:=e.EH r (AO [1] ⟨rfl,trivial⟩ (fun _ h=>h)) 1 rfl l;have aE:n aD.2 w2 (ZZ c aJ Z w.heap.size [some q1,j]) j:=d.mz aN (e.call (M:=[j]) (Nat.le_refl _) (Cg ⟨.inr (hw l 1),trivial⟩) (CT (L:=[some q1,a]) (y:=j) 1 (gm 0)));refine wD (fun st=>Ca (eR st))<|wA (v:=.bool !aD.1) rfl<|wn<|Am ?_;obtain rfl:=oi g;refine Av rfl rfl ?_;have o:=(q.Co r (e.CI 0 rfl [1] rfl ⟨rfl,trivial⟩ (fun _ h=>h)));exact⟨j,aB _ s.fin,rfl,o,s.mq 1 [0] (M:=[some q1]) ⟨rfl,trivial⟩ aK,d.mz aE (AU (BB [0,1] ⟨rfl,rfl,trivial⟩))⟩
theorem AbN{aV:Type}{e:Nat→Prop}{bC:Nat}{aF:IT aV}{aP:aV→Int→Option (Bool×aV)} bD r(a2:aV) l m(aH:Value) aA(Z:Nat→Prop) w(o:Cb Tryz.prog aH e bC aF (v1 (Dr .i64)) BE aP)(bE:bC≤w.heap.size)(bF:BC e [aA] w)(bG:∀b,Z b→¬e b∧some b∉[aA])(aW:Sl (Ai .i64) w Z l m r)(bV:aF a2 w Z aA) a3(a:ID bD aP r a2=some a3):
 BO Tryz.prog 207 #[.slice l r.length m,aH] w (fun v w'=>∃o',BT (FU e [aA]) w w'∧(Dr .i64).R w' (zf Z w [o']) v a3.1∧(∀k,o'=some k→(aA=some k∨w.heap.size≤k)∧k<w'.heap.size)∧aF a3.2 w' (zf Z w [o']) o'):=by
 unfold ID at a;refine rq (N:=19) Tryz.func207 fun bY ha bZ=>?_;have aQ:=sA 0 ha;have a4:=sA 1 ha;clear ha;obtain⟨aB,aX,bH,aY,aR⟩:=Il bF bG;have aM:=aW.mv (AR (L:=[aA]) aY w);have a5:=o.mz bV (AR (L:=[aA]) aY w);refine cr<|wA (v:=I 0) rfl<|wn<|Af<|cr<|wM (v:=.slice l r.length m) aQ<|wD (fun st=>Br Tryz.underlying31 (eR st))<|wM (v:=I 0) rfl<|wn<|AI ?_;replace a:=bind_some a;obtain⟨a7,s,a⟩:=a;refine BY (fun a8 f aC=>(a8=.ret∧∃n,a7=.inl n∧∃g,Fo X0 19 f∧sl f 4=I n.1∧Hp e aB w [g] aC∧aF n.2 aC (ZZ e aB Z w.heap.size [g]) g)∨(a8=.exit 0∧∃n,a7=.inr n∧∃i,Fo X0 19 f∧Hp e aB w [i] aC∧aF n aC (ZZ e aB Z w.heap.size [i]) i)) ?bI ?bJ
 case bI=>
  clear a;refine BX (fun a9 f aC=>∃d,∃j,∃c,EM aP r a9 d j=some a7∧Fo X0 19 f∧sl f 0=.slice l r.length m∧sl f 1=aH∧sl f 7=I (r.length:Int)∧sl f 8=I d∧Hp e aB w [c] aC∧(fun bK=>aF j aC bK c∧Sl (Ai .i64) aC bK l m r) (ZZ e aB Z w.heap.size [c])) bD ?bL ?bM
  case bL=>
   intro st;exact⟨(0:Int),a2,aA,s,qo st,sp st 0 aQ,sp st 1 a4,sp st 7 rfl,sp st 8 rfl,bH,a5,aM⟩
  case bM=>
   rintro(_|a9) b4 b5 ⟨d,j,c,s,bA,aI,aJ,aK,u,t,aL,p⟩
   ·exact absurd (show none=some _ from s) (by simp)
   rw[EM.eq_2] at s;have a:=s;clear s;refine ro bA<|cr<|wD (fun st=>B9 (ee st u) (ee st aK))<|wn<|Af ?_;rcases Ae (decide (d<(r.length:Int))) with aD|aD
   ·replace a:=An a aD;refine Ah rfl aD<|cn<|Af<|AI<|cr<|wM (v:=I d) u<|wA (v:=I d) rfl<|wr<|wM (v:=aH) aJ<|wM (v:=.slice l r.length m) aI<|wM (v:=I d) rfl ?_;replace a:=AT a;obtain⟨i3,bB,bN,bO,bP,a⟩:=a;obtain⟨b3,b7,_,bQ,rfl,bR⟩:=Sl.Cy p rfl bO;refine wD (fun st=>Bi (k:=i3) Tryz.underlying31 CM (eR st) bQ (eR st) bN bP)<|wD (fun st=>Bp (v:=I bB) Bg (eR st) bR rfl) ?_;replace a:=bind_some a;obtain⟨aS,bS,a⟩:=a;refine wE (fun st=>FY (o.call j bB aS _ (ZZ e aB Z w.heap.size [c]) (ZC e [c]) c #[I bB] (Nat.le_trans bE t.sz) (t.zz (F':=e) (M:=[c]) (C:=[]) [0] [] ⟨rfl,trivial⟩ trivial (fun _ h=>.inl h)) I1 aL ⟨_,rfl,rfl⟩ bS) (eR st) (Ck (eR st))) ?_;rintro _ bW ⟨aN,aZ,aG,rfl,bT⟩;have a0:=t.EH aZ (AO [0] ⟨rfl,trivial⟩ (fun _ h=>h)) 0 rfl aG;have aT:aF aS.2 bW (ZZ e aB Z w.heap.size [aN]) aN:=o.mz bT (t.call (M:=[aN]) (Nat.le_refl _) (Cg ⟨.inr (hw aG 0),trivial⟩) (CT (L:=[c]) (y:=aN) 0 (gm 0)));refine wn ?_;rcases Ae (aS.1) with aE|aE
    ·replace a:=An a aE;refine Ah rfl aE<|cr<|wM (v:=I d) rfl<|wA (v:=I d) rfl<|wn<|Am<|CN<|AG ?_;obtain rfl:=oi a;refine BF (fun st=>?_);exact .inl ⟨rfl,(d,aS.2),rfl,aN,qo st,sp st 4 rfl,a0,aT⟩
    ·replace a:=Ao a aE;refine Aq rfl aE<|Cp<|CU<|Al ?_;replace a:=AL a;obtain⟨bU,a⟩:=a;refine wD (fun st=>BL (ee st u) (eR st) bU)<|wM (v:=I (d+1)) rfl<|Bj ?_;have aO:=(p.mv (t.HS aZ (AO [0] ⟨rfl,trivial⟩ (fun _ h=>h)) 0 rfl (fun k hk=>(aG k hk).1)));refine Bv a9 (Nat.lt_succ_self _) (fun st=>?_);exact⟨(d+1),aS.2,aN,a,qo st,sp st 0 aI,sp st 1 aJ,sp st 7 aK,sp st 8 rfl,a0,aT,aO⟩
   ·replace a:=Ao a aD;refine Aq rfl aD<|DG ?_;obtain rfl:=oi a;refine BF (fun st=>?_);exact .inr ⟨rfl,j,rfl,c,qo st,t,aL⟩
 case bJ=>
  rintro a8 bX b6 (⟨rfl,n,rfl,g,x,aU,q,z⟩|⟨rfl,n,rfl,i,x,q,z⟩)
  ·skip
   replace a:=C4 a;refine lf x<|CN ?_;obtain rfl:=oi a;refine Av rfl aU ?_;exact⟨g,aR _ q.fin,rfl,q.mq 0 [] (M:=[]) trivial aX,o.mz z (AU (BB [0] ⟨rfl,trivial⟩))⟩
  ·skip
   replace a:=C5 a;refine lf x<|Bd<|BM<|cr<|wA (v:=I (-1)) rfl<|wn<|Am ?_;obtain rfl:=oi a;refine Av rfl rfl ?_;exact⟨i,aR _ q.fin,rfl,q.mq 0 [] (M:=[]) trivial aX,o.mz z (AU (BB [0] ⟨rfl,trivial⟩))⟩
theorem Aaq{p:Type}{f:Nat→Prop}{aG:Nat}{q:IT p}{s:p→Int→Option (Bool×p)} aH m(x:p) c d(i:Value) a(Z:Nat→Prop) w(e:Cb Tryz.prog i f aG q (v1 (Dr .i64)) BE s)(aI:aG≤w.heap.size)(aJ:BC f [a] w)(aK:∀b,Z b→¬f b∧some b∉[a])(r:Sl (Ai .i64) w Z c d m)(aQ:q x w Z a) z(j:GB aH s m x=some z):
 BO Tryz.prog 187 #[.slice c m.length d,i] w (fun v w'=>∃o',BT (FU f [a]) w w'∧BE.R w' (zf Z w [o']) v z.1∧(∀k,o'=some k→(a=some k∨w.heap.size≤k)∧k<w'.heap.size)∧q z.2 w' (zf Z w [o']) o'):=by
 unfold GB at j;refine rq (N:=9) Tryz.func187 fun aR ha aS=>?_;have aA:=sA 0 ha;have aB:=sA 1 ha;clear ha;obtain⟨aL,aM,g,t,aC⟩:=Il aJ aK;have l:=r.mv (AR (L:=[a]) t w);have aD:=e.mz aQ (AR (L:=[a]) t w);refine cr<|wA (v:=.bool false) rfl<|wr<|wM (v:=.slice c m.length d) aA<|wM (v:=i) aB ?_;replace j:=bind_some j;obtain⟨aE,aN,j⟩:=j;refine wE (fun st=>Aj XV (eR st) (Ci (eR st) (eR st)) (AbN aH m x c d i a (ZZ f aL Z w.heap.size [a]) _ e (Nat.le_trans aI g.sz) (g.CH (F':=f) (M:=[a]) (C:=[]) [0] [] rfl ⟨rfl,trivial⟩ trivial (fun _ h=>.inl h)) (g.zz (F':=f) (M:=[a]) (C:=[]) [0] [] ⟨rfl,trivial⟩ trivial (fun _ h=>.inl h)) l aD aE aN)) ?_;rintro _ w2 ⟨n,aO,rfl,o,aP⟩;have u:=g.EH aO (AO [0] ⟨rfl,trivial⟩ (fun _ h=>h)) 0 rfl o;have aF:q aE.2 w2 (ZZ f aL Z w.heap.size [n]) n:=e.mz aP (g.call (M:=[n]) (Nat.le_refl _) (Cg ⟨.inr (hw o 0),trivial⟩) (CT (L:=[a]) (y:=n) 0 (gm 0)));refine wD (fun st=>IZ (eR st) (eR st))<|wA (v:=.bool (decide ((0:Int)≤aE.1))) rfl<|wn<|Am ?_;obtain rfl:=oi j;refine Av rfl rfl ?_;exact⟨n,aC _ u.fin,rfl,u.mq 0 [] (M:=[]) trivial aM,e.mz aF (AU (BB [0] ⟨rfl,trivial⟩))⟩
theorem AbO{s:Type}{e:Nat→Prop}{a7:Nat}{t:IT s}{aB:s→Int→Option (Bool×s)} aG aC(aH:s) j l(g:Value) c(Z:Nat→Prop) w(a:Cb Tryz.prog g e a7 t (v1 (Dr .i64)) BE aB)(a8:a7≤w.heap.size)(a9:BC e [c] w)(bA:∀b,Z b→¬e b∧some b∉[c])(aI:Sl (Ai .i64) w Z j l aC)(n:t aH w Z c) aN(u:JO aG aB aC aH=some aN):
 BO Tryz.prog 219 #[.slice j aC.length l,g] w (fun v w'=>∃o',BT (FU e [c]) w w'∧BE.R w' (zf Z w [o']) v aN.1∧(∀k,o'=some k→(c=some k∨w.heap.size≤k)∧k<w'.heap.size)∧t aN.2 w' (zf Z w [o']) o'):=by
 unfold JO at u;refine rq (N:=9) Tryz.func219 fun bO ha bP=>?_;have aO:=sA 0 ha;have aP:=sA 1 ha;clear ha;obtain⟨aQ,bB,aD,aJ,aR⟩:=Il a9 bA;have z:=aI.mv (AR (L:=[c]) aJ w);have aS:=a.mz n (AR (L:=[c]) aJ w);refine cr<|wE (fun st=>BN (v:=g) (cs:= #[g]) (ee st aP) a.fc) ?_;rintro _ w1 ⟨b1,rfl,i⟩;have d:=aD.nb i;have bJ:=aD.BJ i;refine wA (v:=.bool false) rfl<|wr<|wM (v:=.slice j aC.length l) aO<|wD (fun st=>Dl (vs:= #[]) (us:= #[pt b1 0]) Hv (Ck (eR st))) ?_;have aK:=d.CH (F':=e) (M:=[some b1]) (C:=[]) [0] [] rfl ⟨rfl,trivial⟩ trivial (fun k hk=>.inl ((fun _ h=>h) k hk));have aT:Cb Tryz.prog (.func (.func 231) #[] #[pt b1 0]) (FU e [some b1]) w1.heap.size (fun(st:s) aU bK o=>(∀k,o=some k→k<aU.heap.size∧¬(FU e [some b1]) k)∧Bk aU b1 142 #[g]∧t st aU bK o) (v1 (Dr .i64)) BE (fun(st:s) (x:Int)=>(Ib aG aB x st).bind fun r=>some (r.1,r.2)):=by
  refine⟨rfl,rfl,d.Jq [0] ⟨rfl,trivial⟩ (fun _ h=>h),?_,?_,?_⟩
  ·intro st x r w1 aV bC o vs aW aX p n aY bL;obtain⟨f,m,q⟩:=n;obtain⟨_,rfl,rfl⟩:=aY;obtain⟨bM,h1,h2⟩:=bind_some bL;obtain rfl:=Option.some.inj h2;refine(E0 XW rfl (AbM aG x st b1 g o aV bC w1 a (Nat.le_trans a8 (Nat.le_trans d.sz aW)) ((aK.grow aW).snoc f) (fun b hb=>DU (p b (aX b hb)).1 (p b (aX b hb)).2) aX (fun b hb=>DU (p b hb).1 (p b hb).2) m q bM h1)).mono ?_;rintro v w2 ⟨o',aY,aZ,a0,aL,bD⟩;exact⟨o',aY.lf,aL,aZ,⟨aK.keep aW f aL,a0,a.mz bD Jy⟩⟩
  ·intro st w1 w2 aV bQ o n hm hb;obtain⟨f,m,q⟩:=n;exact⟨fun k hk=>⟨Nat.lt_of_lt_of_le (f k hk).1 hm.size,(f k hk).2⟩,m.H8 (hb b1 (.inl (.inr (gm 0)))),a.Lj _ _ _ _ _ _ q hm (fun b bE=>hb b (bE.imp .inl id))⟩
  ·intro st w1 aV o n k hk;obtain⟨f,m,q⟩:=n;exact f k hk
 have aA:=(z.mv (Az i));replace u:=bind_some u;obtain⟨a2,bF,u⟩:=u;have a3:t aH w1 (ZZ e aQ Z w.heap.size [some b1,c]) c:=(a.me aS aD i.gr (Az i));refine wE (fun st=>Aj SV (eR st) (Ci (eR st) (eR st)) (Aaq aG aC aH j l (.func (.func 231) #[] #[pt b1 0]) c (ZZ e aQ Z w.heap.size [some b1,c]) _ aT (Nat.le_refl _) (d.CH (F':=(FU e [some b1])) (M:=[c]) (C:=[some b1]) [1] [0] rfl ⟨rfl,trivial⟩ ⟨rfl,trivial⟩ (Cr (fun _ h=>h))) (d.zz (F':=(FU e [some b1])) (M:=[c]) (C:=[some b1]) [1] [0] ⟨rfl,trivial⟩ ⟨rfl,trivial⟩ (Cr (fun _ h=>h))) aA ⟨(fun k hk=>d.N8 1 (by rw[←hk];rfl) [0] rfl ⟨rfl,trivial⟩),i.bk,a3⟩ a2 bF)) ?_;rintro _ bN ⟨aE,bG,rfl,aF,bH⟩;obtain⟨-,bI,a4⟩:=bH;have aM:=d.EH (BT.cl (M1:=[some b1]) (M2:=[c]) bG) (AO [0,1] ⟨rfl,rfl,trivial⟩ (fun _ h=>h)) 1 rfl aF;have a5:t a2.2 bN (ZZ e aQ Z w.heap.size [some b1,aE]) aE:=a.mz a4 (d.call (M:=[aE]) (Nat.le_refl _) (Cg ⟨.inr (hw aF 1),trivial⟩) (CT (L:=[some b1,c]) (y:=aE) 1 (gm 0)));refine wD (fun st=>Ca (eR st))<|wA (v:=.bool !a2.1) rfl<|wn<|Am ?_;obtain rfl:=oi u;refine Av rfl rfl ?_;exact⟨aE,aR _ aM.fin,rfl,aM.mq 1 [] (M:=[]) trivial bB,a.mz a5 (AU (BB [1] ⟨rfl,trivial⟩))⟩
theorem AbP aA g n b c i j l m d e(Z:Nat→Prop) w(aB:Sl AA w Z b c g.Ax)(aC:Sl (BH (Ai .i64)) w Z i j g.AX)(aD:Sl AH w Z l m g.AP)(aE:Sl (Ai .i64) w Z d e n) aO(f:Gs aA g n=some aO):
 BO Tryz.prog 191 #[.agg (AS b c i j l m g).toArray,.slice d n.length e] w (fun v w'=>Ext w w'∧BE.R w' (zf Z w []) v aO):=by
 unfold Gs at f;refine rq (N:=15) Tryz.func191 fun a0 ha a2=>?_;have aG:=sA 0 ha;have u:=sA 1 ha;clear ha;have aF:Hp FN [] w [] w:=Hp.start (BC.none w);have ⟨aL,aM,aN,s⟩:=Iv aB aC aD aE (Bz (Z:=Z) (L:=[]) w);refine cr<|wE (fun st=>BN (v:=.agg (AS b c i j l m g).toArray) (cs:=(AS b c i j l m g).toArray) (ee st aG) rfl) ?_;rintro _ w1 ⟨b1,rfl,p⟩;have q:=aF.nb p;have aW:=aF.BJ p;refine wA (v:=.bool false) rfl<|wr<|wM (v:=.slice d n.length e) u<|wD (fun st=>Br Tryz.underlying31 (eR st))<|wD (fun st=>Ad (eR st) (HQ _ _))<|wD (fun st=>Ag (v:=.slice b g.Ax.length c) IU (eR st) p.bk rfl)<|wD (fun st=>Br Tryz.underlying35 (eR st))<|wD (fun st=>Dp (eR st) (eR st))<|wM (v:=.bool ((n.length:Int)==(g.Ax.length:Int))) rfl ?_;rcases Ae ((n.length:Int)==(g.Ax.length:Int)) with a|a
 ·replace f:=An f a;refine wG a (fun st=>Au (v:=.slice d n.length e) (ee st u)) ?_;have a3:=q.CH (F':=FN) (M:=[]) (C:=[]) [] [] rfl trivial trivial (fun k hk=>.inl (eL k hk));have aH:Cb Tryz.prog (.func (.func 220) #[] #[]) (FU FN []) w1.heap.size (fun(st:Unit) a5 a7 o=>o=none) (v1 (Dr .i64)) BE (fun(st:Unit) (x:Int)=>(Jd aA x).bind fun r=>some (r,())):=by
   refine⟨rfl,rfl,q.Jq [] trivial eL,?_,?_,?_⟩
   ·intro st x r w1 aP aQ o vs a8 a9 a4 y aI aX;obtain rfl:=y;obtain⟨_,rfl,rfl⟩:=aI;obtain⟨aY,h1,h2⟩:=bind_some aX;obtain rfl:=Option.some.inj h2;refine(E0 XX rfl (AbF aA x aQ w1 aY h1)).mono ?_;rintro v w2 ⟨aI,aJ⟩;exact⟨none,Gc aI,(fun _ h=>by cases h),aJ,rfl⟩
   ·intro st w1 w2 aP bA o y hm hb;obtain rfl:=y;exact rfl
   ·intro st w1 aP o y k hk;obtain rfl:=y;cases hk
  have z:=q.nil;have t:=((s.mv (Az p)).mv Bt);replace f:=bind_some f;obtain⟨aK,aR,f⟩:=f;refine wX a (fun st=>Aj XY (eR st) (Ci (eR st) (eR st)) (AbO aA n () d e (.func (.func 220) #[] #[]) none (ZC (FU FN []) [none]) _ aH (Nat.le_refl _) (z.CH (F':=(FU FN [])) (M:=[none]) (C:=[]) [0] [] rfl ⟨rfl,trivial⟩ trivial (Cr eL)) Ga (t.mv (z.mz (F':=(FU FN [])) (M:=[none]) (C:=[]) [0] [] ⟨rfl,trivial⟩ trivial (Cr eL))) rfl aK aR)) ?_;rintro _ bB ⟨bC,aS,rfl,aZ,aT⟩;obtain rfl:=aT;have aU:=z.Co (BT.cl (M1:=[]) (M2:=[none]) aS) (AO [0] ⟨rfl,trivial⟩ eL);have aV:=aU.erase 0;refine wD (fun st=>AY (v:=.bool aK.1) (eR st) a (eR st))<|wA (v:=.bool aK.1) rfl<|wn<|Am ?_;obtain rfl:=oi f;refine Av rfl rfl ?_;exact⟨aV.Bf,rfl⟩
 ·replace f:=Ao f a;refine wF a<|wF a<|wD (fun st=>Bs (v:=.bool false) (eR st) a (eR st))<|wA (v:=.bool false) rfl<|wn<|Am ?_;obtain rfl:=oi f;refine Av rfl rfl ?_;exact⟨q.Bf,rfl⟩
theorem AbQ aH m n c d e f g h i j(Z:Nat→Prop) w(aA:Sl AA w Z c d m.Ax)(aB:Sl (BH (Ai .i64)) w Z e f m.AX)(aC:Sl AH w Z g h m.AP)(aD:Sl (Ai .i64) w Z i j n) aL(b:FZ aH m n=some aL):
 BO Tryz.prog 163 #[.agg (AS c d e f g h m).toArray,.slice i n.length j] w (fun v w'=>Ext w w'∧BE.R w' (zf Z w []) v aL):=by
 unfold FZ at b;refine rq (N:=13) Tryz.func163 fun aS ha aT=>?_;have aI:=sA 0 ha;have z:=sA 1 ha;clear ha;have aE:Hp FN [] w [] w:=Hp.start (BC.none w);have ⟨p,q,r,s⟩:=Iv aA aB aC aD (Bz (Z:=Z) (L:=[]) w);refine cr<|wE (fun st=>BN (v:=.agg (AS c d e f g h m).toArray) (cs:=(AS c d e f g h m).toArray) (ee st aI) rfl) ?_;rintro _ w1 ⟨b1,rfl,o⟩;have aM:=aE.nb o;have aR:=aE.BJ o;refine wA (v:=.bool false) rfl<|wr<|wD (fun st=>Ba (l:=(AS c d e f g h m)) H0 (eR st) o.bk rfl rfl)<|wM (v:=.slice i n.length j) z ?_;have ⟨t,u,x,k⟩:=Iv p q r s (Az o);replace b:=bind_some b;obtain⟨aJ,aN,b⟩:=b;refine wE (fun st=>Aj XZ (eR st) (Ci (eR st) (eR st)) (AbP aH m n c d e f g h i j ZA _ t.all u.all x.all k.all aJ aN)) ?_;rintro _ aU ⟨aF,rfl⟩;have aG:=aM.ext aF;refine wM (v:=.bool aJ) rfl ?_;rcases Ae (aJ) with a|a
 ·replace b:=An b a;refine wG a (fun st=>Au (v:=.slice i n.length j) (ee st z)) ?_;have y:=(k.mv (Ac aF));replace b:=bind_some b;obtain⟨aK,aO,b⟩:=b;refine wX a (fun st=>Aj SW (eR st) (Ck (eR st)) (Aao aH n i j ZA _ y.all aK aO)) ?_;rintro _ aV ⟨aP,rfl⟩;have aQ:=aG.ext aP;refine wG a (fun st=>FI (eR st) (eR st))<|wD (fun st=>AY (v:=.bool (decide ((0:Int)<aK))) (eR st) a (eR st))<|wA (v:=.bool (decide ((0:Int)<aK))) rfl<|wn<|Am ?_;obtain rfl:=oi b;refine Av rfl rfl ?_;exact⟨aQ.Bf,rfl⟩
 ·replace b:=Ao b a;refine wF a<|wF a<|wF a<|wD (fun st=>Bs (v:=.bool false) (eR st) a (eR st))<|wA (v:=.bool false) rfl<|wn<|Am ?_;obtain rfl:=oi b;refine Av rfl rfl ?_;exact⟨aG.Bf,rfl⟩
theorem a162 p e b g h i j k m(Z:Nat→Prop) w(u:Sl AA w Z g h e.Ax)(x:Sl (BH (Ai .i64)) w Z i j e.AX)(y:Sl AH w Z k m e.AP) aS(a:Gf p e b=some aS):
 BO Tryz.prog 162 #[.agg (AS g h i j k m e).toArray,.agg #[.bool b.BV,I b.Number,I b.Bm,I b.Bn]] w (fun v w'=>Ext w w'∧BE.R w' (zf Z w []) v aS):=by
 unfold Gf at a;refine rq (N:=24) Tryz.func162 fun a2 ha a3=>?_;have aH:=sA 0 ha;have aI:=sA 1 ha;clear ha;have aB:Hp FN [] w [] w:=Hp.start (BC.none w);have ⟨aP,aQ,aR⟩:=Ez u x y (Bz (Z:=Z) (L:=[]) w);refine cr<|wE (fun st=>BN (v:=.agg (AS g h i j k m e).toArray) (cs:=(AS g h i j k m e).toArray) (ee st aH) rfl) ?_;rintro _ w1 ⟨b1,rfl,q⟩;have aC:=aB.nb q;have aZ:=aB.BJ q;refine wE (fun st=>BN (v:=.agg #[.bool b.BV,I b.Number,I b.Bm,I b.Bn]) (cs:= #[.bool b.BV,I b.Number,I b.Bm,I b.Bn]) (ee st aI) rfl) ?_;rintro _ w2 ⟨b2,rfl,f⟩;have aD:=aC.nb f;have a0:=aC.BJ f;refine wA (v:=.bool false) rfl<|wr<|wD (fun st=>Ad (eR st) (HQ _ _)) ?_;have o:=(q.bk.ext f.gr);refine wD (fun st=>Ag (v:=.slice g e.Ax.length h) IU (eR st) o rfl)<|wD (fun st=>Br Tryz.underlying35 (eR st))<|wA (v:=I (e.Ax.length:Int)) rfl<|wn<|Af<|cr<|wD (fun st=>Ad (eR st) (RF _ _))<|wD (fun st=>Ag (v:=.bool b.BV) Ka (eR st) f.bk rfl)<|wn ?_;rcases Ae (b.BV) with n|n
 ·replace a:=An a n;refine Ah rfl n<|Al<|wD (fun st=>Ad (eR st) (Is _ _))<|wD (fun st=>Ag (v:=.slice i e.AX.length j) C2 (eR st) o rfl)<|wD (fun st=>Br Tryz.underlying23 (eR st))<|wA (v:=I (e.AX.length:Int)) rfl<|wr<|wD (fun st=>Ad (eR st) (MO _ _))<|wD (fun st=>Ag (v:=I b.Number) Bg (eR st) f.bk rfl)<|wM (v:=I (e.AX.length:Int)) rfl ?_;replace a:=AL a;obtain⟨aT,a⟩:=a;refine wD (fun st=>Ej (eR st) (eR st) aT) ?_;replace a:=bind_some a;obtain⟨aJ,aU,a⟩:=a;refine wE (fun st=>Aj NT (eR st) (Ek (eR st) (eR st) (eR st)) (T8 p b.Number 0 ((e.AX.length:Int)-1) ZA _ aJ aU)) ?_;rintro _ a7 ⟨aE,rfl⟩;have aF:=aD.ext aE;refine wM (v:=.bool aJ) rfl ?_;rcases Ae (aJ) with d|d
  ·replace a:=An a d;refine wG d (fun st=>Ad (eR st) (OB _ _)) ?_;have z:=(f.bk.ext aE);refine wG d (fun st=>Ba (l:=[I b.Bm,I b.Bn]) Ir (eR st) z rfl rfl) ?_;replace a:=bind_some a;obtain⟨aK,aV,a⟩:=a;refine wX d (fun st=>Aj PI (eR st) (Ck (eR st)) (Wl p (⟨b.Bm,b.Bn⟩:AN) ZA _ aK aV)) ?_;rintro _ a8 ⟨aW,rfl⟩;have aX:=aF.ext aW;refine wD (fun st=>AY (v:=.bool aK) (eR st) d (eR st))<|wA (v:=.bool aK) rfl<|wn<|Am ?_;obtain rfl:=oi a;refine Av rfl rfl ?_;exact⟨aX.Bf,rfl⟩
  ·replace a:=Ao a d;refine wF d<|wF d<|wF d<|wD (fun st=>Bs (v:=.bool false) (eR st) d (eR st))<|wA (v:=.bool false) rfl<|wn<|Am ?_;obtain rfl:=oi a;refine Av rfl rfl ?_;exact⟨aF.Bf,rfl⟩
 ·replace a:=Ao a n;refine Aq rfl n<|cn<|cr<|wD (fun st=>Ad (eR st) (MO _ _))<|wD (fun st=>Ag (v:=I b.Number) Bg (eR st) f.bk rfl)<|wM (v:=I (e.Ax.length:Int)) rfl ?_;replace a:=AL a;obtain⟨aL,a⟩:=a;refine wD (fun st=>Ej (eR st) (eR st) aL) ?_;replace a:=bind_some a;obtain⟨r,aM,a⟩:=a;refine wE (fun st=>Aj NT (eR st) (Ek (eR st) (eR st) (eR st)) (T8 p b.Number 0 ((e.Ax.length:Int)-1) ZA _ r aM)) ?_;rintro _ a4 ⟨s,rfl⟩;have aG:=aD.ext s;refine wM (v:=.bool r) rfl ?_;rcases Ae (r) with c|c
  ·replace a:=An a c;refine wG c (fun st=>Ad (eR st) (OB _ _)) ?_;have aA:=(f.bk.ext s);refine wG c (fun st=>Ba (l:=[I b.Bm,I b.Bn]) Ir (eR st) aA rfl rfl) ?_;replace a:=bind_some a;obtain⟨t,aN,a⟩:=a;refine wX c (fun st=>Aj PI (eR st) (Ck (eR st)) (Wl p (⟨b.Bm,b.Bn⟩:AN) ZA _ t aN)) ?_;rintro _ a5 ⟨aO,rfl⟩;have aY:=aG.ext aO;refine wD (fun st=>AY (v:=.bool t) (eR st) c (eR st))<|wA (v:=.bool t) rfl<|wn<|Am ?_;obtain rfl:=oi a;refine Av rfl rfl ?_;exact⟨aY.Bf,rfl⟩
  ·replace a:=Ao a c;refine wF c<|wF c<|wF c<|wD (fun st=>Bs (v:=.bool false) (eR st) c (eR st))<|wA (v:=.bool false) rfl<|wn<|Am ?_;obtain rfl:=oi a;refine Av rfl rfl ?_;exact⟨aG.Bf,rfl⟩
set_option maxHeartbeats 4000000 in
theorem a127 aG d b c f g i j(Z:Nat→Prop) w(cF:Sl AA w Z b c d.Ax)(cG:Sl (BH (Ai .i64)) w Z f g d.AX)(cH:Sl AH w Z i j d.AP) dS(a:EA aG d=some dS):
 BO Tryz.prog 127 #[.agg (AS b c f g i j d).toArray] w (fun v w'=>Ext w w'∧(Dr .i64).R w' (zf Z w []) v dS):=by
 unfold EA at a;refine rq (N:=70) Tryz.func127 fun eG ha eH=>?_;have cU:=sA 0 ha;clear ha;have cM:Hp FN [] w [] w:=Hp.start (BC.none w);have ⟨bV,bW,bX⟩:=Ez cF cG cH (Bz (Z:=Z) (L:=[]) w);refine cr<|wE (fun st=>BN (v:=.agg (AS b c f g i j d).toArray) (cs:=(AS b c f g i j d).toArray) (ee st cU) rfl) ?_;rintro _ w1 ⟨b1,rfl,aM⟩;have dT:=cM.nb aM;have d5:=cM.BJ aM;refine wA (v:=I 0) rfl<|wn<|Af ?_;refine BU 5 [Kc (.agg (AS b c f g i j d).toArray),Kc (.func (.func 162) #[.agg (AS b c f g i j d).toArray] #[]),Kc (.agg (AS b c f g i j d).toArray),Kc (.func (.func 163) #[.agg (AS b c f g i j d).toArray] #[]),Kc (.func (.func 162) #[.agg (AS b c f g i j d).toArray] #[])] mixed rfl rfl
     (Aa (oD (fun K=>Ba (l:=(AS b c f g i j d)) H0 (K.kO 1) (aM.bk.ext K.AQ) rfl rfl))
     (Aa (oD (fun K=>Dl (vs:= #[.agg (AS b c f g i j d).toArray]) (us:= #[]) (Ck (es (K.dq 0 8))) Hv))
     (Aa (oD (fun K=>Ba (l:=(AS b c f g i j d)) H0 (K.kO 1) (aM.bk.ext K.AQ) rfl rfl))
     (Aa (oD (fun K=>Dl (vs:= #[.agg (AS b c f g i j d).toArray]) (us:= #[]) (Ck (es (K.dq 2 10))) Hv))
     (Aa (oD (fun K=>KL (es (K.dq 1 9))))
     (BS _)))))) ?_
 intro w2;rintro _ rfl _ rfl _ rfl _ rfl _ rfl bC;have aP:=dT.ext bC;refine wA (v:=.func (.func 163) #[.agg (AS b c f g i j d).toArray] #[]) rfl<|wn<|Af<|AI<|cr<|wD (fun st=>Ad (eR st) (HQ _ _)) ?_;have aE:=(aM.bk.ext bC);refine wD (fun st=>Ag (v:=.slice b d.Ax.length c) IU (eR st) aE rfl)<|wD (fun st=>Br Tryz.underlying35 (eR st))<|wD (fun st=>FI (eR st) (eR st))<|wM (v:=.bool (decide ((3:Int)<(d.Ax.length:Int)))) rfl ?_;rcases Ae (decide ((3:Int)<(d.Ax.length:Int))) with y|y
 ·replace a:=An a y;refine wF y<|wF y<|wF y<|wF y<|wD (fun st=>AY (v:=.bool true) (eR st) y (eR st))<|wM (v:=.bool true) rfl<|wH<|wH<|wH<|wH<|wD (fun st=>AY (v:=.bool true) (eR st) rfl (eR st))<|wA (v:=.bool true) rfl<|wn<|Ah rfl rfl<|cr<|wA (v:=I 3) rfl<|wn<|Am<|CN ?_;obtain rfl:=oi a;refine Av rfl rfl ?_;exact⟨aP.Bf,rfl⟩
 ·replace a:=Ao a y;refine wG y (fun st=>Ad (eR st) (Is _ _))<|wG y (fun st=>Ag (v:=.slice f d.AX.length g) C2 (eR st) aE rfl)<|wG y (fun st=>Br Tryz.underlying23 (eR st))<|wG y (fun st=>FI (eR st) (eR st))<|wD (fun st=>Bs (v:=.bool (decide ((3:Int)<(d.AX.length:Int)))) (eR st) y (eR st))<|wM (v:=.bool (decide ((3:Int)<(d.AX.length:Int)))) rfl ?_;rcases Ae (decide ((3:Int)<(d.AX.length:Int))) with z|z
  ·replace a:=An a z;refine wF z<|wF z<|wF z<|wF z<|wD (fun st=>AY (v:=.bool true) (eR st) z (eR st))<|wA (v:=.bool true) rfl<|wn<|Ah rfl rfl<|cr<|wA (v:=I 3) rfl<|wn<|Am<|CN ?_;obtain rfl:=oi a;refine Av rfl rfl ?_;exact⟨aP.Bf,rfl⟩
  ·replace a:=Ao a z;refine wG z (fun st=>Ad (eR st) (Mo _ _))<|wG z (fun st=>Ag (v:=.slice i d.AP.length j) Pg (eR st) aE rfl)<|wG z (fun st=>Br Tryz.underlying36 (eR st))<|wG z (fun st=>FI (eR st) (eR st))<|wD (fun st=>Bs (v:=.bool (decide ((5:Int)<(d.AP.length:Int)))) (eR st) z (eR st))<|wA (v:=.bool (decide ((5:Int)<(d.AP.length:Int)))) rfl<|wn ?_;rcases Ae (decide ((5:Int)<(d.AP.length:Int))) with bD|bD
   ·replace a:=An a bD;refine Ah rfl bD<|cr<|wA (v:=I 3) rfl<|wn<|Am<|CN ?_;obtain rfl:=oi a;refine Av rfl rfl ?_;exact⟨aP.Bf,rfl⟩
   ·replace a:=Ao a bD;refine Aq rfl bD<|cr<|wD (fun st=>Ad (eR st) (HQ _ _))<|wD (fun st=>Ag (v:=.slice b d.Ax.length c) IU (eR st) aE rfl)<|wD (fun st=>Br Tryz.underlying35 (eR st))<|wD (fun st=>Dp (eR st) (eR st))<|wM (v:=.bool ((d.Ax.length:Int)==0)) rfl ?_;rcases Ae ((d.Ax.length:Int)==0) with aA|aA
    ·replace a:=An a aA;refine wF aA<|wF aA<|wF aA<|wF aA<|wD (fun st=>AY (v:=.bool true) (eR st) aA (eR st))<|wM (v:=.bool true) rfl<|wH<|wH<|wH<|wH<|wH<|wD (fun st=>AY (v:=.bool true) (eR st) rfl (eR st))<|wM (v:=.bool true) rfl<|wH<|wH<|wH<|wH<|wH<|wD (fun st=>AY (v:=.bool true) (eR st) rfl (eR st))<|wA (v:=.bool true) rfl<|wn<|Ah rfl rfl<|cr<|wA (v:=I 1) rfl<|wn<|Am<|CN ?_;obtain rfl:=oi a;refine Av rfl rfl ?_;exact⟨aP.Bf,rfl⟩
    ·replace a:=Ao a aA;refine wG aA (fun st=>Ad (eR st) (HQ _ _))<|wG aA (fun st=>Ag (v:=.slice b d.Ax.length c) IU (eR st) aE rfl) ?_;have eI:=aP.CH (F':=FN) (M:=[]) (C:=[]) [] [] rfl trivial trivial (fun k hk=>.inl (eL k hk));have cV:Cb Tryz.prog (.func (.func 165) #[] #[]) (FU FN []) w2.heap.size (fun(st:Unit) aI bE o=>o=none) (v1 (DJ AA)) BE (fun(st:Unit) (x:AN)=>(Fy aG x).bind fun r=>some (r,())):=by
      refine⟨rfl,rfl,aP.Jq [] trivial eL,?_,?_,?_⟩
      ·intro st x r w1 bF bG o vs dU bH cN aC aD b5;obtain rfl:=aC;obtain⟨_,rfl,⟨_,rfl,rfl⟩⟩:=aD;obtain⟨b6,h1,h2⟩:=bind_some b5;obtain rfl:=Option.some.inj h2;refine(E0 PI rfl (Wl aG x bG w1 b6 h1)).mono ?_;rintro v w2 ⟨aD,aQ⟩;exact⟨none,Gc aD,(fun _ h=>by cases h),aQ,rfl⟩
      ·intro st w1 w2 bF dV o aC hm hb;obtain rfl:=aC;exact rfl
      ·intro st w1 bF o aC k hk;obtain rfl:=aC;cases hk
     have aR:=aP.nil;have aU:=(((bV.mv (Az aM)).mv (Ac bC)).mv Bt);replace a:=bind_some a;obtain⟨bY,dW,a⟩:=a;refine wX aA (fun st=>Aj X3 (eR st) (Ci (eR st) (eR st)) (a164 aG d.Ax () b c (.func (.func 165) #[] #[]) none (ZC (FU FN []) [none]) _ cV (Nat.le_refl _) (aR.CH (F':=(FU FN [])) (M:=[none]) (C:=[]) [0] [] rfl ⟨rfl,trivial⟩ trivial (Cr eL)) Ga (aU.mv (aR.mz (F':=(FU FN [])) (M:=[none]) (C:=[]) [0] [] ⟨rfl,trivial⟩ trivial (Cr eL))) rfl bY dW)) ?_;rintro _ d9 ⟨eW,bI,rfl,eA,dX⟩;obtain rfl:=dX;have dY:=aR.Co (BT.cl (M1:=[]) (M2:=[none]) bI) (AO [0] ⟨rfl,trivial⟩ eL);have bQ:=dY.erase 0;refine wG aA (fun st=>Ca (eR st))<|wD (fun st=>Bs (v:=.bool !bY.1) (eR st) aA (eR st))<|wM (v:=.bool !bY.1) rfl ?_;rcases Ae (!bY.1) with m|m
     ·replace a:=An a m;have dM:bY.1=false:=by simpa using m
      refine wF m<|wF m<|wF m<|wF m<|wF m<|wD (fun st=>AY (v:=.bool true) (eR st) m (eR st))<|wM (v:=.bool true) rfl<|wH<|wH<|wH<|wH<|wH<|wD (fun st=>AY (v:=.bool true) (eR st) rfl (eR st))<|wA (v:=.bool true) rfl<|wn<|Ah rfl rfl<|cr<|wA (v:=I 1) rfl<|wn<|Am<|CN ?_;obtain rfl:=oi a;refine Av rfl rfl ?_;exact⟨bQ.Bf,rfl⟩
     ·replace a:=Ao a m;have dN:bY.1=true:=by simpa using m
      refine wG m (fun st=>Ad (eR st) (Is _ _)) ?_;have bR:=(aE.Co (BT.cl (M1:=[]) (M2:=[none]) bI) (aR.CI 1 rfl [0] rfl ⟨rfl,trivial⟩ eL));refine wG m (fun st=>Ag (v:=.slice f d.AX.length g) C2 (eR st) bR rfl)<|wG m (fun st=>Au (v:=.func (.func 163) #[.agg (AS b c f g i j d).toArray] #[]) (eR st)) ?_;have eB:=bQ.CH (F':=FN) (M:=[]) (C:=[]) [] [] rfl trivial trivial (fun k hk=>.inl (eL k hk));have cI:Cb Tryz.prog (.func (.func 163) #[.agg (AS b c f g i j d).toArray] #[]) (FU FN []) d9.heap.size (fun(st:Unit) aI bE o=>o=none∧Sl AA aI bE b c d.Ax∧Sl (BH (Ai .i64)) aI bE f g d.AX∧Sl AH aI bE i j d.AP) (v1 (FE (Ai .i64))) BE (fun(st:Unit) (x:(List Int))=>(FZ aG d x).bind fun r=>some (r,())):=by
       refine⟨rfl,rfl,bQ.Jq [] trivial eL,?_,?_,?_⟩
       ·intro st x r w1 bF bG o vs dU bH cN aC aD b5;obtain⟨rfl,p,q,s⟩:=aC;obtain⟨_,rfl,⟨cW,cX,rfl,cJ⟩⟩:=aD;obtain⟨b6,h1,h2⟩:=bind_some b5;obtain rfl:=Option.some.inj h2;refine(E0 X5 rfl (AbQ aG d x b c f g i j cW cX bG w1 (p.mv (Eu bH)) (q.mv (Eu bH)) (s.mv (Eu bH)) cJ b6 h1)).mono ?_;rintro v w2 ⟨aD,aQ⟩;exact⟨none,Gc aD,(fun _ h=>by cases h),aQ,⟨rfl,(p.mv (CS (Ac aD))),(q.mv (CS (Ac aD))),(s.mv (CS (Ac aD)))⟩⟩
       ·intro st w1 w2 bF dV o aC hm hb;obtain⟨rfl,p,q,s⟩:=aC;exact⟨rfl,p.mv hm,q.mv hm,s.mv hm⟩
       ·intro st w1 bF o aC k hk;obtain⟨rfl,p,q,s⟩:=aC;cases hk
      have aV:=bQ.nil;have aJ:=((((((bW.mv (Az aM)).mv (Ac bC)).mv Bt).mv (aR.D2 (BT.cl (M1:=[]) (M2:=[none]) bI) (AO [0] ⟨rfl,trivial⟩ eL))).mv (AD 0)).mv Bt);replace a:=bind_some a;obtain⟨aW,cY,a⟩:=a;have aX:=(((aU.mv (aR.D2 (BT.cl (M1:=[]) (M2:=[none]) bI) (AO [0] ⟨rfl,trivial⟩ eL))).mv (AD 0)).mv Bt);have aY:=((((((bX.mv (Az aM)).mv (Ac bC)).mv Bt).mv (aR.D2 (BT.cl (M1:=[]) (M2:=[none]) bI) (AO [0] ⟨rfl,trivial⟩ eL))).mv (AD 0)).mv Bt);have a7:=aV.mz (Z:=Z) (F':=(FU FN [])) (M:=[none]) (C:=[]) [0] [] ⟨rfl,trivial⟩ trivial (Cr eL);refine wX m (fun st=>Aj X6 (eR st) (Ci (eR st) (eR st)) (AbJ aG d.AX () f g (.func (.func 163) #[.agg (AS b c f g i j d).toArray] #[]) none (ZC (FU FN []) [none]) _ cI (Nat.le_refl _) (aV.CH (F':=(FU FN [])) (M:=[none]) (C:=[]) [0] [] rfl ⟨rfl,trivial⟩ trivial (Cr eL)) Ga (aJ.mv a7) ⟨rfl,(aX.mv a7),(aJ.mv a7),(aY.mv a7)⟩ aW cY)) ?_;rintro _ dZ ⟨eJ,a8,rfl,d6,cZ⟩;obtain⟨rfl,cO,cP,cQ⟩:=cZ;have d0:=aV.Co (BT.cl (M1:=[]) (M2:=[none]) a8) (AO [0] ⟨rfl,trivial⟩ eL);have bS:=d0.erase 0;refine wG m (fun st=>Ca (eR st))<|wD (fun st=>Bs (v:=.bool !aW.1) (eR st) m (eR st))<|wM (v:=.bool !aW.1) rfl ?_;rcases Ae (!aW.1) with t|t
      ·replace a:=An a t;have dO:aW.1=false:=by simpa using t
       refine wF t<|wF t<|wF t<|wF t<|wF t<|wD (fun st=>AY (v:=.bool true) (eR st) t (eR st))<|wA (v:=.bool true) rfl<|wn<|Ah rfl rfl<|cr<|wA (v:=I 1) rfl<|wn<|Am<|CN ?_;obtain rfl:=oi a;refine Av rfl rfl ?_;exact⟨bS.Bf,rfl⟩
      ·replace a:=Ao a t;have dP:aW.1=true:=by simpa using t
       refine wG t (fun st=>Ad (eR st) (Mo _ _)) ?_;have bT:=(bR.Co (BT.cl (M1:=[]) (M2:=[none]) a8) (aV.CI 1 rfl [0] rfl ⟨rfl,trivial⟩ eL));refine wG t (fun st=>Ag (v:=.slice i d.AP.length j) Pg (eR st) bT rfl)<|wG t (fun st=>Au (v:=.func (.func 162) #[.agg (AS b c f g i j d).toArray] #[]) (eR st)) ?_;have eC:=bS.CH (F':=FN) (M:=[]) (C:=[]) [] [] rfl trivial trivial (fun k hk=>.inl (eL k hk));have cK:Cb Tryz.prog (.func (.func 162) #[.agg (AS b c f g i j d).toArray] #[]) (FU FN []) dZ.heap.size (fun(st:Unit) aI bE o=>o=none∧Sl AA aI bE b c d.Ax∧Sl (BH (Ai .i64)) aI bE f g d.AX∧Sl AH aI bE i j d.AP) (v1 (DJ AH)) BE (fun(st:Unit) (x:Cx)=>(Gf aG d x).bind fun r=>some (r,())):=by
        refine⟨rfl,rfl,bS.Jq [] trivial eL,?_,?_,?_⟩
        ·intro st x r w1 bF bG o vs dU bH cN aC aD b5;obtain⟨rfl,p,q,s⟩:=aC;obtain⟨_,rfl,⟨_,rfl,rfl⟩⟩:=aD;obtain⟨b6,h1,h2⟩:=bind_some b5;obtain rfl:=Option.some.inj h2;refine(E0 X7 rfl (a162 aG d x b c f g i j bG w1 (p.mv (Eu bH)) (q.mv (Eu bH)) (s.mv (Eu bH)) b6 h1)).mono ?_;rintro v w2 ⟨aD,aQ⟩;exact⟨none,Gc aD,(fun _ h=>by cases h),aQ,⟨rfl,(p.mv (CS (Ac aD))),(q.mv (CS (Ac aD))),(s.mv (CS (Ac aD)))⟩⟩
        ·intro st w1 w2 bF dV o aC hm hb;obtain⟨rfl,p,q,s⟩:=aC;exact⟨rfl,p.mv hm,q.mv hm,s.mv hm⟩
        ·intro st w1 bF o aC k hk;obtain⟨rfl,p,q,s⟩:=aC;cases hk
       have bJ:=bS.nil;have aZ:=(((aY.mv (aV.D2 (BT.cl (M1:=[]) (M2:=[none]) a8) (AO [0] ⟨rfl,trivial⟩ eL))).mv (AD 0)).mv Bt);replace a:=bind_some a;obtain⟨a0,c0,a⟩:=a;have ⟨a2,bZ⟩:=LO aX aJ (mt (aV.D2 (BT.cl (M1:=[]) (M2:=[none]) a8) (AO [0] ⟨rfl,trivial⟩ eL)) (mt (AD 0) Bt));have a9:=bJ.mz (Z:=Z) (F':=(FU FN [])) (M:=[none]) (C:=[]) [0] [] ⟨rfl,trivial⟩ trivial (Cr eL);refine wX t (fun st=>Aj X8 (eR st) (Ci (eR st) (eR st)) (a167 aG d.AP () i j (.func (.func 162) #[.agg (AS b c f g i j d).toArray] #[]) none (ZC (FU FN []) [none]) _ cK (Nat.le_refl _) (bJ.CH (F':=(FU FN [])) (M:=[none]) (C:=[]) [0] [] rfl ⟨rfl,trivial⟩ trivial (Cr eL)) Ga (aZ.mv a9) ⟨rfl,(a2.mv a9),(bZ.mv a9),(aZ.mv a9)⟩ a0 c0)) ?_;rintro _ eK ⟨eM,bL,rfl,d7,c1⟩;obtain⟨rfl,cR,cS,cT⟩:=c1;have c2:=bJ.Co (BT.cl (M1:=[]) (M2:=[none]) bL) (AO [0] ⟨rfl,trivial⟩ eL);have b7:=c2.erase 0;refine wG t (fun st=>Ca (eR st))<|wD (fun st=>Bs (v:=.bool !a0.1) (eR st) t (eR st))<|wA (v:=.bool !a0.1) rfl<|wn ?_;rcases Ae (!a0.1) with aF|aF
       ·replace a:=An a aF;have dQ:a0.1=false:=by simpa using aF
        refine Ah rfl aF<|cr<|wA (v:=I 1) rfl<|wn<|Am<|CN ?_;obtain rfl:=oi a;refine Av rfl rfl ?_;exact⟨b7.Bf,rfl⟩
       ·replace a:=Ao a aF;have dR:a0.1=true:=by simpa using aF
        refine Aq rfl aF<|Cp<|CU<|cr<|wA (v:=I 1) rfl<|wn<|Af<|cr<|wD (fun st=>Ad (eR st) (HQ _ _)) ?_;have b8:=(bT.Co (BT.cl (M1:=[]) (M2:=[none]) bL) (bJ.CI 1 rfl [0] rfl ⟨rfl,trivial⟩ eL));refine wD (fun st=>Ag (v:=.slice b d.Ax.length c) IU (eR st) b8 rfl)<|wD (fun st=>Br Tryz.underlying35 (eR st))<|wM (v:=I 0) rfl<|wn<|AI ?_;replace a:=bind_some a;obtain⟨z25,aK,a⟩:=a;refine BY (fun d1 aN aI=>(d1=.exit 1∧Fo X0 70 aN∧sl aN 5=I z25∧Hp FN [] w [some b1] aI)) ?c3 ?c4
        case c3=>
         clear a;refine BX (fun c5 aN aI=>∃u,∃aB,C9 aG d c5 u aB=some z25∧Fo X0 70 aN∧sl aN 5=I u∧sl aN 55=.slice b d.Ax.length c∧sl aN 56=I (d.Ax.length:Int)∧sl aN 57=I aB∧Hp FN [] w [some b1] aI∧Sl AA aI (zf Z w [some b1]) b c d.Ax) aG ?c6 ?c7
         case c6=>
          intro st;have bM:=((a2.mv (bJ.D2 (BT.cl (M1:=[]) (M2:=[none]) bL) (AO [0] ⟨rfl,trivial⟩ eL))).mv (AD 0));exact⟨(1:Int),(0:Int),aK,qo st,sp st 5 rfl,sp st 55 rfl,sp st 56 rfl,sp st 57 rfl,b7,bM⟩
         case c7=>
          rintro(_|c5) eD eE ⟨u,aB,aK,cL,bK,a3,a4,aL,bN,aO⟩
          ·exact absurd (show none=some _ from aK) (by simp)
          rw[C9.eq_2] at aK;have a:=aK;clear aK;refine ro cL<|cr<|wD (fun st=>B9 (ee st aL) (ee st a4))<|wn<|Af ?_;rcases Ae (decide (aB<(d.Ax.length:Int))) with aS|aS
          ·replace a:=An a aS;refine Ah rfl aS<|cn<|Af<|AI<|Af<|Al ?_;replace a:=AT a;obtain⟨i27,aH,c8,c9,dA,a⟩:=a;obtain⟨eN,eO,_,dB,rfl,dC⟩:=Sl.elem aO (by decide) c9;refine wD (fun st=>Bu (k:=i27) Tryz.underlying35 Le (ee st a3) dB (ee st aL) c8 dA)<|wD (fun st=>CK (l:=[I aH.Lo,I aH.Hi]) Ir (eR st) dC rfl rfl)<|wE (fun st=>B8 (cs:= #[I 0,I 0]) MP rfl) ?_;rintro _ eP ⟨eQ,rfl,bA⟩;have b9:=bN.nb bA;have d2:=bN.BJ bA;refine BI rfl rfl (fun st=>By (n:=2) (l:=[I aH.Lo,I aH.Hi]) (CB:= #[I aH.Lo,I aH.Hi]) (eR st) (eR st) Le bA.bk rfl rfl (show 0+2≤2 by decide) (Bh rfl) rfl) ?_;rintro _ eS bO;have dD:=b9.gr bO.gr 0 rfl;refine wn<|Al<|wM (v:=I u) bK<|wD (fun st=>Ba (l:=[I aH.Lo,I aH.Hi]) Ir (eR st) bO.bk rfl rfl) ?_;replace a:=bind_some a;obtain⟨a5,dE,a⟩:=a;refine wE (fun st=>Aj X9 (eR st) (Ck (eR st)) (AbE aG aH ZA _ a5 dE)) ?_;rintro _ eT ⟨cA,rfl⟩;have cB:=dD.ext cA;replace a:=AL a;obtain⟨dF,a⟩:=a;refine wD (fun st=>LY (eR st) (eR st) dF)<|wE (fun st=>BR (e:=3) (vs:= #[(0,I (u*a5)),(1,I 2001)]) (cs:= #[I (u*a5),I 2001]) (HO (eR st) (eR st)) (by kernel_rfl)) ?_;rintro _ eU ⟨d3,rfl,bB⟩;have dG:=cB.nb bB;have d4:=cB.BJ bB;replace a:=bind_some a;obtain⟨cC,dH,a⟩:=a;refine wE (fun st=>Aj XI (eR st) (Ck (eR st)) (a168 aG [u*a5,2001] (some ⟨d3,0,none⟩) 2 ZA _ (Gp (e:=(Ai .i64)) (xs:=[u*a5,2001]) (BG:=[[I (u*a5)],[I 2001]]) bB.bk trivial ⟨rfl,rfl,trivial⟩ rfl (Nat.le_refl _)) cC dH)) ?_;rintro _ eV ⟨cD,rfl⟩;have dI:=dG.ext cD;refine wA (v:=I cC) rfl<|Bj<|CU<|Al ?_;replace a:=AL a;obtain⟨dJ,a⟩:=a;refine wD (fun st=>BL (ee st aL) (eR st) dJ)<|wM (v:=I (aB+1)) rfl<|Bj ?_;have dK:=dI.erase 0;have dL:=dK.erase 0;have bP:=(((((((aO.mv (Az bA)).mv (b9.BA bO.gr 0 rfl)).mv (Ac cA)).mv (Az bB)).mv (Ac cD)).mv (AD 0)).mv (AD 0));refine Bv c5 (Nat.lt_succ_self _) (fun st=>?_);exact⟨cC,(aB+1),a,qo st,sp st 5 rfl,sp st 55 a3,sp st 56 a4,sp st 57 rfl,dL,bP⟩
          ·replace a:=Ao a aS;refine Aq rfl aS<|DG ?_;obtain rfl:=oi a;refine BF (fun st=>?_);exact⟨rfl,qo st,sp st 5 bK,bN⟩
        case c4=>
         rintro d1 d8 eF (⟨rfl,cE,b4,bU⟩);refine lf cE<|Bd<|BM<|Af<|cr<|wM (v:=I z25) b4<|wD (fun st=>FI (eR st) (eR st))<|wn ?_;rcases Ae (decide ((2000:Int)<z25)) with aT|aT
         ·replace a:=An a aT;refine Ah rfl aT<|cr<|wA (v:=I 3) rfl<|wn<|Am<|AG ?_;obtain rfl:=oi a;refine Av rfl rfl ?_;exact⟨bU.Bf,rfl⟩
         ·replace a:=Ao a aT;refine Aq rfl aT<|cn<|cr<|wA (v:=I 0) rfl<|wn<|Am ?_;obtain rfl:=oi a;refine Av rfl rfl ?_;exact⟨bU.Bf,rfl⟩
end Go.Proofs.YtbhofkcbfblijaaGreat
end
