import Derived.Test.YtbhofkcbfblijaaGreatCJ1
import Derived.WalkKit
import Derived.KernelRfl
import Derived.WalkSpells
import Derived.WalkLawsBesides
import Derived.Maps.AppendAt
import Derived.OrdersIn
import Derived.RangeFuncIn
import Derived.RangeFuncLeaves
import Derived.RangeFuncRecord
import Derived.RangeFuncSeq
import Derived.Scope
import Derived.DeepKeys3
import Derived.Laws.CopyRow
import Derived.Laws.OwnMore
import Derived.Laws.MakeOwn
import Derived.Laws.IdiomCopy
import Derived.Sort.OwnSortedInts
import Derived.Lib.RowBridge
import Derived.Test.YtbhofkcbfblijaaGreatProg
/-
  The contracts of the functions of the program and of the reference, and the logic that they are proved in: the base that several claims of this seat share.
-/
set_option linter.all false
section
namespace Go.Proofs.YtbhofkcbfblijaaGreat
open Go.RowKit Go.WideShapes
def Hd(c:Nat)(d:List Int)(b:(List AL)):Nat→Int→Option ((Bool)⊕(Unit))
 |0,_=>none
 |g+1,a=>cond (decide (a<(b.length:Int))) ((idx b a).bind fun h=>(idx d a).bind fun e=>(G6 c h e).bind fun f=>cond (!f) (some (.inl false)) ((i64 (a+1)).bind fun _=>Hd c d b g (a+1))) (some (.inr ()))
def Jk(b:Nat)(c:AD)(d:List Int):Option (Bool):=
 cond ((d.length:Int) !=(c.Aj.length:Int)) (some (false)) ((Gj b c).bind fun e=>(Hd b d e b (0:Int)).bind fun z=>Sum.elim (fun a=>some (a)) (fun a=>some (true)) z)
def Ks(c:Nat)(b:AD)(d:List Int):Option ((List Int)×Int):=
 (Gy c b).bind fun e=>cond (e !=0) (some ((([]:List Int),e))) ((Jk c b d).bind fun h=>cond (!h) (some ((([]:List Int),2))) ((Ff c b).bind fun f=>(F4 c b d).bind fun g=>(FO c f g).bind fun a=>(Py [a.1.a0,a.1.a1,a.1.a2].length (0:Int) (b.Ab.length:Int)).bind fun _=>(ED (((0+(Gb [a.1.a0,a.1.a1,a.1.a2] (0:Int) (b.Ab.length:Int)).length:Nat):Int)≤140737488355328/8)).bind fun _=>some ((Gb [a.1.a0,a.1.a1,a.1.a2] (0:Int) (b.Ab.length:Int),0))))
def Ei(a:Nat)(b:AD)(e:Bool):Option ((Option B7)×Int):=
 (Gy a b).bind fun c=>cond (c !=0) (some (((none:Option B7),c))) (cond (!e) (some (((none:Option B7),2))) ((HK a b).bind fun d=>cond ((d.B5.length:Int)==0) (some (((none:Option B7),11))) (some (((some d),0)))))
def C3(c:Nat)(e:AD)(f:Bool):Option ((Option B7)×Int):=
 (Ei c e f).bind fun b=>Option.elim b.1 (cond (b.2 !=0) (some (((none:Option B7),b.2))) (none)) (fun a=>cond (b.2 !=0) (some (((none:Option B7),b.2))) ((DE c a ([]:List Int)).bind fun d=>cond (!d.1) (some (((none:Option B7),9))) (some (((some (⟨a.Av,a.Aw,a.As,a.BV,a.AM,a.AN,a.Bf,a.weights,a.B5,d.2⟩:B7)),0)))))
def CP{e:Type}(i:e→Bo→Option (Int×e))(j:Nat)(c:Int)(d:Int)(a:Bool)(f:e)(k:Bo×Bo):Option (Bool×(Int×Int×Bool×e)):=
 (i f k.2).bind fun b=>cond (a) ((Gh j (⟨b.1,b.1⟩:AL) b.1).bind fun g=>some (true,g.Lo,g.Hi,false,b.2)) ((Gh j (⟨c,d⟩:AL) b.1).bind fun h=>some (true,h.Lo,h.Hi,a,b.2))
def Fx{a:Type}(c:Nat)(d:a→Bo→Option (Int×a))(e:B7)(f:a):Option (AL×(List (List Int×Int))×a):=
 (FG c (fun(st:Int×Int×Bool×a) (x:Bo×Bo)=>CP d c st.1 st.2.1 st.2.2.1 st.2.2.2 x) e ([]:List Int) ((0:Int),(0:Int),true,f)).bind fun b=>some (((⟨b.2.1,b.2.2.1⟩:AL),b.1,b.2.2.2.2))
def FQ(c:Nat)(a:Bo)(b:Int):Option (Int):=
 (idx ([a.a0,a.a1,a.a2]:List Int) b).bind fun x2=>some (x2)
def Fu(f:Nat)(b:B7):Nat→(List AL)→Int→(List (List Int×Int))→Option ((List AL)×(List (List Int×Int)))
 |0,_,_,_=>none
 |g+1,d,a,c=>cond (decide (a<(b.weights.length:Int))) ((Fx f (fun(st:Unit) (x:Bo)=>(FQ f x a).bind fun r=>some (r,())) (⟨b.Av,b.Aw,b.As,b.BV,b.AM,b.AN,b.Bf,b.weights,b.B5,c⟩:B7) ()).bind fun e=>(ED (((d.length+[e.1].length:Nat):Int)≤140737488355328/16)).bind fun _=>(i64 (a+1)).bind fun _=>Fu f b g (d++[e.1]) (a+1) e.2.1) (some ((d,c)))
def Hr(b:Nat)(d:AD):Option ((List AL)×Int):=
 (C3 b d true).bind fun a=>Option.elim a.1 (cond (a.2 !=0) (some ((([]:List AL),a.2))) (none)) (fun c=>cond (a.2 !=0) (some ((([]:List AL),a.2))) ((Fu b c b ([]:List AL) (0:Int) c.known).bind fun e=>some ((e.1,0))))
def GX(d:Nat)(a:Int)(b:Int)(c:Int):Option (Bool×Int):=
 (i64 (b+1)).bind fun _=>(i64 (c-1)).bind fun _=>(Es d a (b+1) (c-1)).bind fun e=>some ((e,a))
def H3(a:Nat)(b:List Int)(c:Int):Option (Bool):=
 (JD a (fun(st:Int) (x:Int)=>(GX a x st c).bind fun r=>some (r.1,r.2)) b (-1)).bind fun d=>some (d.1)
def DJ(e:Nat)(d:Bo)(c:B7)(f:List Int):Nat→Int→Int→Option (Int)
 |0,_,_=>none
 |h+1,b,a=>cond (decide (a<(c.weights.length:Int))) ((idx c.weights a).bind fun g=>(E1 e f a).bind fun j=>cond (j) ((idx ([d.a0,d.a1,d.a2]:List Int) a).bind fun i=>(i64 (b+i)).bind fun _=>(i64 (a+1)).bind fun _=>DJ e d c f h (b+i) (a+1)) ((i64 (g*c.BV)).bind fun _=>(i64 (b+(g*c.BV))).bind fun _=>(i64 (a+1)).bind fun _=>DJ e d c f h (b+(g*c.BV)) (a+1))) (some (b))
def Ew(a:Nat)(b:Bo)(c:B7)(d:List Int):Option (Int):=
 (DJ a b c d a (0:Int) (0:Int)).bind fun z2=>some (z2)
def Fg(a:Nat)(b:B7)(d:List Int):Option (AL×(List (List Int×Int))):=
 (Fx a (fun(st:Unit) (x:Bo)=>(Ew a x b d).bind fun r=>some (r,())) b ()).bind fun c=>some ((c.1,c.2.1))
def G9(b:Nat)(c:AD)(d:List Int):Option (AL×Int):=
 (H3 b d (c.Ab.length:Int)).bind fun f=>(C3 b c f).bind fun a=>Option.elim a.1 (cond (a.2 !=0) (some (((⟨0,0⟩:AL),a.2))) (none)) (fun g=>cond (a.2 !=0) (some (((⟨0,0⟩:AL),a.2))) ((Fg b g d).bind fun e=>some ((e.1,0))))
def IX(f:(List Int)→Int→B7→Int→(List Int)→Option ((List (List Int×Int))×Int×(List Int)))(h:List Int)(b:B7):Nat→Int→Int→(List Int)→(List (List Int×Int))→Option (Int×(List Int)×(List (List Int×Int)))
 |0,_,_,_,_=>none
 |i+1,a,c,d,e=>cond (decide (a<(b.weights.length:Int))) ((ED (((0+h.length:Nat):Int)≤140737488355328/8)).bind fun _=>(ED (((h.length+[a].length:Nat):Int)≤140737488355328/8)).bind fun _=>(i64 (a+1)).bind fun _=>(f (h++[a]) (a+1) (⟨b.Av,b.Aw,b.As,b.BV,b.AM,b.AN,b.Bf,b.weights,b.B5,e⟩:B7) c d).bind fun g=>(i64 (a+1)).bind fun _=>IX f h b i (a+1) g.2.1 g.2.2 g.1) (some ((c,d,e)))
def IH(f:(List Int)→Int→B7→Int→(List Int)→Option ((List (List Int×Int))×Int×(List Int)))(h:List Int)(b:B7):Nat→Int→Int→(List Int)→(List (List Int×Int))→Option (Int×(List Int)×(List (List Int×Int)))
 |0,_,_,_,_=>none
 |i+1,a,c,d,e=>cond (decide (a<(b.weights.length:Int))) ((ED (((0+h.length:Nat):Int)≤140737488355328/8)).bind fun _=>(ED (((h.length+[a].length:Nat):Int)≤140737488355328/8)).bind fun _=>(i64 (a+1)).bind fun _=>(f (h++[a]) (a+1) (⟨b.Av,b.Aw,b.As,b.BV,b.AM,b.AN,b.Bf,b.weights,b.B5,e⟩:B7) c d).bind fun g=>(i64 (a+1)).bind fun _=>IH f h b i (a+1) g.2.1 g.2.2 g.1) (some ((c,d,e)))
def Hs(a:Nat):Nat→(List Int)→Int→B7→Int→(List Int)→Option ((List (List Int×Int))×Int×(List Int))
 |0,_,_,_,_,_=>none
 |f+1,b,g,e,h,i=>(Fg a e b).bind fun d=>cond (decide (h<d.1.Lo)) ((ED (((0+b.length:Nat):Int)≤140737488355328/8)).bind fun _=>(IX (Hs a f) b e a g d.1.Lo b d.2).bind fun z9=>some ((z9.2.2,z9.1,z9.2.1))) ((IH (Hs a f) b e a g h i d.2).bind fun c=>some ((c.2.2,c.1,c.2.1)))
def Ku(c:Nat)(f:AD):Option ((List Int)×Int×Int):=
 (C3 c f true).bind fun b=>Option.elim b.1 (cond (b.2 !=0) (some ((([]:List Int),0,b.2))) (none)) (fun a=>cond (b.2 !=0) (some ((([]:List Int),0,b.2))) ((Fg c a ([]:List Int)).bind fun d=>(Hs c c ([]:List Int) 0 (⟨a.Av,a.Aw,a.As,a.BV,a.AM,a.AN,a.Bf,a.weights,a.B5,d.2⟩:B7) d.1.Lo ([]:List Int)).bind fun e=>some ((e.2.2,e.2.1,0))))
def DN(d:B7)(e:B2)(f:Int)(a:Bo×Bo):Option (Bool×Bool):=
 (idx ([a.1.a0,a.1.a1,a.1.a2]:List Int) f).bind fun b=>(idx d.AM e.Cr).bind fun c=>cond (decide (b<c.Bd)) (some (false,true)) (some (true,false))
def Gz(e:Nat)(b:B7)(c:B2)(d:Int):Option (Bool×(List (List Int×Int))):=
 (idx b.weights d).bind fun f=>cond (decide (f<c.CE)) (some ((false,b.known))) ((FG e (fun(st:Bool) (x:Bo×Bo)=>cond st none (DN b c d x)) b ([]:List Int) false).bind fun a=>cond (a.2) (some ((false,a.1))) (some ((true,a.1))))
def C9(f:Nat)(b:B7)(g:B2):Nat→(List Int)→Int→(List (List Int×Int))→Option ((List Int)×(List (List Int×Int)))
 |0,_,_,_=>none
 |h+1,c,a,d=>cond (decide (a<(b.weights.length:Int))) ((Gz f (⟨b.Av,b.Aw,b.As,b.BV,b.AM,b.AN,b.Bf,b.weights,b.B5,d⟩:B7) g a).bind fun e=>cond (e.1) ((ED (((c.length+[a].length:Nat):Int)≤140737488355328/8)).bind fun _=>(i64 (a+1)).bind fun _=>C9 f b g h (c++[a]) (a+1) e.2) ((i64 (a+1)).bind fun _=>C9 f b g h c (a+1) e.2)) (some ((c,d)))
def Du(e:Nat)(d:B7):Nat→(List (List Int))→Int→(List (List Int×Int))→Option ((List (List Int))×(List (List Int×Int)))
 |0,_,_,_=>none
 |g+1,c,a,b=>cond (decide (a<(d.AN.length:Int))) ((idx d.AN a).bind fun h=>(C9 e d h e ([]:List Int) (0:Int) b).bind fun f=>(ED (((c.length+[f.1].length:Nat):Int)≤140737488355328/24)).bind fun _=>(i64 (a+1)).bind fun _=>Du e d g (c++[f.1]) (a+1) f.2) (some ((c,b)))
def E3(a:Nat)(b:B7):Option ((List (List Int))×(List (List Int×Int))):=
 (Du a b a ([]:List (List Int)) (0:Int) b.known).bind fun c=>some ((c.1,c.2))
def H7(c:Int→(List (List Int))→(List Int)→Option (Bool×(List Int)))(f:Nat)(e:Int)(g:List (List Int))(x2:List Int):Nat→Int→(List Int)→Option ((Bool×(List Int))⊕((List Int)))
 |0,_,_=>none
 |i+1,b,a=>cond (decide (b<(x2.length:Int))) ((idx x2 b).bind fun h=>(E1 f a h).bind fun j=>cond (j) ((i64 (b+1)).bind fun _=>H7 c f e g x2 i (b+1) a) ((ED (((a.length+[h].length:Nat):Int)≤140737488355328/8)).bind fun _=>(i64 (e+1)).bind fun _=>(c (e+1) g (a++[h])).bind fun d=>cond (d.1) (some (.inl (true,d.2))) ((Py d.2.length (0:Int) e).bind fun _=>(i64 (b+1)).bind fun _=>H7 c f e g x2 i (b+1) (Gb d.2 (0:Int) e)))) (some (.inr a))
def I3(b:Nat):Nat→Int→(List (List Int))→(List Int)→Option (Bool×(List Int))
 |0,_,_,_=>none
 |f+1,c,d,e=>cond (c==(d.length:Int)) (some ((true,e))) ((idx d c).bind fun x2=>(H7 (I3 b f) b c d x2 b (0:Int) e).bind fun z=>Sum.elim (fun a=>some ((a.1,a.2))) (fun a=>some ((false,a))) z)
def Kw(b:Nat)(d:AD):Option ((List Int)×Int):=
 (C3 b d true).bind fun a=>Option.elim a.1 (cond (a.2 !=0) (some ((([]:List Int),a.2))) (none)) (fun e=>cond (a.2 !=0) (some ((([]:List Int),a.2))) ((E3 b e).bind fun f=>(I3 b b 0 f.1 ([]:List Int)).bind fun c=>cond (!c.1) (some ((([]:List Int),10))) (some ((c.2,0)))))
def Ej(c:List Int)(d:(List (List Int))×(List (List Int×Int))):Nat→(List Int)→Int→Option ((List Int))
 |0,_,_=>none
 |f+1,b,a=>cond (decide (a<(c.length:Int))) ((idx c a).bind fun g=>(idx d.1 g).bind fun e=>(ED (((b.length+e.length:Nat):Int)≤140737488355328/8)).bind fun _=>(i64 (a+1)).bind fun _=>Ej c d f (b++e) (a+1)) (some (b))
def Fh(a:Nat)(d:B7)(b:List Int):Option (Bool×(List (List Int×Int))):=
 (E3 a d).bind fun c=>(Ej b c a ([]:List Int) (0:Int)).bind fun z3=>(ED ((z3.length:Int)≤100000)).bind fun _=>(ED (((GU z3).length:Int)≤100000)).bind fun _=>some ((decide (((Lib.compact (GU z3)).length:Int)<(b.length:Int)),c.2))
def E4{e:Type}(f:(List Int)→Int→Int→(List Int)→Int→e→Option (Bool×(List Int)×e))(h:List Int)(g:Int)(i:Int):Nat→Int→(List Int)→e→Option ((Bool×(List Int)×e)⊕((List Int)×e))
 |0,_,_,_=>none
 |j+1,a,b,d=>(i64 (i-g)).bind fun _=>cond (decide (a≤(i-g))) ((ED (((0+h.length:Nat):Int)≤140737488355328/8)).bind fun _=>(ED (((h.length+[a].length:Nat):Int)≤140737488355328/8)).bind fun _=>(i64 (a+1)).bind fun _=>(i64 (g-1)).bind fun _=>(f (h++[a]) (a+1) (g-1) b i d).bind fun c=>cond (c.1) (some (.inl (true,c.2.1,c.2.2))) ((i64 (a+1)).bind fun _=>E4 f h g i j (a+1) c.2.1 c.2.2)) (some (.inr (b,d)))
def Ex{b:Type}(e:Nat)(c:b→(List Int)→Option (Bool×b)):Nat→(List Int)→Int→Int→(List Int)→Int→b→Option (Bool×(List Int)×b)
 |0,_,_,_,_,_,_=>none
 |i+1,d,j,f,k,l,g=>cond (f==0) ((c g d).bind fun h=>some ((h.1,d,h.2))) ((E4 (Ex e c i) d f l e j k g).bind fun z=>Sum.elim (fun a=>some ((a.1,a.2.1,a.2.2))) (fun a=>some ((false,a.1,a.2))) z)
def Fy{e:Type}(f:e→(List Int)→Option (Bool×e))(g:Nat)(h:Int):Nat→Bool→Int→(List Int)→e→Option (Bool×(List Int)×e)
 |0,_,_,_,_=>none
 |j+1,i,a,b,d=>cond (decide (a<(h+1))) ((Ex g f g ([]:List Int) 0 a b h d).bind fun c=>cond (c.1) (some ((c.1,c.2.1,c.2.2))) ((i64 (a+1)).bind fun _=>Fy f g h j c.1 (a+1) c.2.1 c.2.2)) (some ((i,b,d)))
def FR{a:Type}(c:Nat)(d:a→(List Int)→Option (Bool×a))(e:Int)(f:a):Option ((List Int)×Bool×a):=
 (i64 (e+1)).bind fun _=>(Fy d c e c false (0:Int) ([]:List Int) f).bind fun b=>some ((b.2.1,b.1,b.2.2))
def E7(b:Nat)(c:List Int)(d:B7):Option (Bool×(List (List Int×Int))):=
 (Fh b d c).bind fun a=>some ((a.1,a.2))
def Ha(d:Nat)(e:AD):Option ((List Int)×Int):=
 (C3 d e true).bind fun b=>Option.elim b.1 (cond (b.2 !=0) (some ((([]:List Int),b.2))) (none)) (fun a=>cond (b.2 !=0) (some ((([]:List Int),b.2))) ((FR d (fun(st:(List (List Int×Int))) (x:(List Int))=>(E7 d x (⟨a.Av,a.Aw,a.As,a.BV,a.AM,a.AN,a.Bf,a.weights,a.B5,st⟩:B7)).bind fun r=>some (r.1,r.2)) (e.AE.length:Int) a.known).bind fun c=>cond (!c.2.1) (some ((([]:List Int),7))) (some ((c.1,0)))))
def Jl(g:Nat)(d:AD)(c:B7):Nat→Int→(List B6)→(List (List Int×Int))→Option ((Int×Int×(List B6)×(List (List Int×Int)))⊕((List B6)×(List (List Int×Int))))
 |0,_,_,_=>none
 |h+1,a,e,b=>cond (decide (a<(d.AK.length:Int))) ((i64 (a+1)).bind fun _=>(Py d.AK.length (0:Int) (a+1)).bind fun _=>(DE g (⟨c.Av,c.Aw,c.As,c.BV,c.AM,c.AN,Gb d.AK (0:Int) (a+1),c.weights,c.B5,b⟩:B7) ([]:List Int)).bind fun f=>cond (!f.1) (some (.inl (a,(0:Int),Gb d.AK (0:Int) (a+1),f.2))) ((i64 (a+1)).bind fun _=>Jl g d c h (a+1) (Gb d.AK (0:Int) (a+1)) f.2)) (some (.inr (e,b)))
def Kb(c:Nat)(e:AD):Option (Int×Int):=
 (Ei c e true).bind fun a=>Option.elim a.1 (cond (a.2 !=0) (some ((0,a.2))) (none)) (fun d=>cond (a.2 !=0) (some ((0,a.2))) ((Jl c e d c (0:Int) d.Bf d.known).bind fun z=>Sum.elim (fun b=>some ((b.1,b.2.1))) (fun b=>some ((0,7))) z))
def Kd(c:Nat)(d:AD):Option ((List Int)×Int):=
 (Ei c d true).bind fun b=>Option.elim b.1 (cond (b.2 !=0) (some ((([]:List Int),b.2))) (none)) (fun a=>cond (b.2 !=0) (some ((([]:List Int),b.2))) ((FR c (fun(st:(List (List Int×Int))) (x:(List Int))=>(DE c (⟨a.Av,a.Aw,a.As,a.BV,a.AM,a.AN,a.Bf,a.weights,a.B5,st⟩:B7) x).bind fun r=>some (r.1,r.2)) (d.AK.length:Int) a.known).bind fun e=>some ((e.1,0))))
def CJ(d:Nat)(a:Int)(b:Int)(c:Int):Option (Bool):=
 cond (decide (b≤a)) (some (decide (a≤c))) (some (false))
def Ey(d:Nat)(a:AL)(b:Int)(c:Int):Option (Bool):=
 cond (decide (b≤a.Lo)) (cond (decide (a.Lo≤a.Hi)) (some (decide (a.Hi≤c))) (some (false))) (some (false))
def FT(b:Nat)(a:AL):Option (Int):=
 (i64 (a.Hi-a.Lo)).bind fun _=>(i64 ((a.Hi-a.Lo)+1)).bind fun _=>some ((a.Hi-a.Lo)+1)
def DO(c:List Int):Nat→Int→Int→Option (Int)
 |0,_,_=>none
 |e+1,b,a=>cond (decide (a<(c.length:Int))) ((idx c a).bind fun d=>(i64 (b+d)).bind fun _=>(i64 (a+1)).bind fun _=>DO c e (b+d) (a+1)) (some (b))
def F8(a:Nat)(b:List Int):Option (Int):=
 (DO b a (0:Int) (0:Int)).bind fun c=>some (c)
def Da(c:Nat)(b:List Int):Nat→Int→Option ((Bool)⊕(Unit))
 |0,_=>none
 |d+1,a=>cond (decide (a<(b.length:Int))) ((idx b a).bind fun e=>(CJ c e 0 30).bind fun f=>cond (!f) (some (.inl false)) ((i64 (a+1)).bind fun _=>Da c b d (a+1))) (some (.inr ()))
def GA(b:Nat)(d:Bh)(c:List Int):Option (Bool):=
 (Da b c b (0:Int)).bind fun z=>Sum.elim (fun a=>some (a)) (fun a=>some ((c.length:Int)==(d.Az.length:Int))) z
def DF(d:Nat)(c:Bh):Nat→Int→Int→Option (Int)
 |0,_,_=>none
 |f+1,b,a=>cond (decide (a<(c.Az.length:Int))) ((idx c.Az a).bind fun g=>(FT d g).bind fun e=>(i64 (b*e)).bind fun _=>(i64 (a+1)).bind fun _=>DF d c f (min (3000:Int) (b*e)) (a+1)) (some (b))
def Ez(a:Nat)(b:Bh):Option (Int):=
 (DF a b a (1:Int) (0:Int)).bind fun z2=>some (z2)
def Dp(c:Nat)(b:Bh):Nat→Int→Option ((Int)⊕(Unit))
 |0,_=>none
 |d+1,a=>cond (decide (a<(b.Az.length:Int))) ((idx b.Az a).bind fun e=>(Ey c e 0 100).bind fun f=>cond (!f) (some (.inl (1:Int))) ((i64 (a+1)).bind fun _=>Dp c b d (a+1))) (some (.inr ()))
def CV(c:Nat)(b:Bh):Nat→Int→Option ((Int)⊕(Unit))
 |0,_=>none
 |h+1,a=>cond (decide (a<(b.Bb.length:Int))) ((idx b.Bb a).bind fun d=>(GA c b d).bind fun e=>cond (!e) (some (.inl (1:Int))) ((idx b.Bb a).bind fun f=>(F8 c f).bind fun g=>cond (g==0) (some (.inl (1:Int))) ((i64 (a+1)).bind fun _=>CV c b h (a+1)))) (some (.inr ()))
def CK(d:Nat)(c:Bh):Nat→Int→Option ((Int)⊕(Unit))
 |0,_=>none
 |e+1,a=>cond (decide (a<(c.AP.length:Int))) ((idx c.AP a).bind fun b=>cond (b.BY) ((i64 ((c.Bb.length:Int)-1)).bind fun _=>(CJ d b.Number 0 ((c.Bb.length:Int)-1)).bind fun f=>cond (!f) (some (.inl (1:Int))) ((Ey d (⟨b.Bl,b.Bm⟩:AL) 0 100).bind fun g=>cond (!g) (some (.inl (1:Int))) ((i64 (a+1)).bind fun _=>CK d c e (a+1)))) ((i64 ((c.Az.length:Int)-1)).bind fun _=>(CJ d b.Number 0 ((c.Az.length:Int)-1)).bind fun h=>cond (!h) (some (.inl (1:Int))) ((Ey d (⟨b.Bl,b.Bm⟩:AL) 0 100).bind fun i=>cond (!i) (some (.inl (1:Int))) ((i64 (a+1)).bind fun _=>CK d c e (a+1))))) (some (.inr ()))
def ET(b:Nat)(a:Bh):Option (Int):=
 cond (decide ((3:Int)<(a.Az.length:Int))) (some (3)) (cond (decide ((3:Int)<(a.Bb.length:Int))) (some (3)) (cond (decide ((5:Int)<(a.AP.length:Int))) (some (3)) (cond ((a.Az.length:Int)==0) (some (1)) ((Dp b a b (0:Int)).bind fun z=>Sum.elim (fun e=>some (e)) (fun e=>(CV b a b (0:Int)).bind fun z=>Sum.elim (fun c=>some (c)) (fun c=>(CK b a b (0:Int)).bind fun z=>Sum.elim (fun d=>some (d)) (fun d=>(Ez b a).bind fun f=>cond (decide ((2000:Int)<f)) (some (3)) (some (0))) z) z) z))))
def Fl(g:Nat)(h:Bh):Nat→Int→(List Int)→Int→Option ((List Int))
 |0,_,_,_=>none
 |i+1,a,c,b=>cond (decide (b<(h.Az.length:Int))) ((idx h.Az b).bind fun e=>(FT g e).bind fun d=>(rem a d).bind fun _=>(i64 (e.Lo+(a%d))).bind fun _=>(ED (((c.length+[e.Lo+(a%d)].length:Nat):Int)≤140737488355328/8)).bind fun _=>(FT g e).bind fun f=>(quo a f).bind fun _=>(i64 (a/f)).bind fun _=>(i64 (b+1)).bind fun _=>Fl g h i (a/f) (c++[e.Lo+(a%d)]) (b+1)) (some (c))
def H8(a:Nat)(b:Bh)(c:Int):Option ((List Int)):=
 (Fl a b a c ([]:List Int) (0:Int)).bind fun z2=>some (z2)
def DY(d:Nat)(b:Bh)(c:List Int):Nat→Int→Option ((Bool)⊕(Unit))
 |0,_=>none
 |e+1,a=>cond (decide (a<(c.length:Int))) (cond (decide (a<(b.Az.length:Int))) ((idx c a).bind fun f=>(idx b.Az a).bind fun g=>(idx b.Az a).bind fun h=>(CJ d f g.Lo h.Hi).bind fun i=>cond (!i) (some (.inl false)) ((i64 (a+1)).bind fun _=>DY d b c e (a+1))) (some (.inr ()))) (some (.inr ()))
def Hw(b:Nat)(c:Bh)(d:List Int):Option (Bool):=
 (DY b c d b (0:Int)).bind fun z=>Sum.elim (fun a=>some (a)) (fun a=>some ((d.length:Int)==(c.Az.length:Int))) z
def E5(c:List Int)(f:List Int):Nat→Int→Int→Option (Int)
 |0,_,_=>none
 |g+1,b,a=>cond (decide (a<(c.length:Int))) ((idx f a).bind fun d=>(idx c a).bind fun e=>(i64 (d*e)).bind fun _=>(i64 (b+(d*e))).bind fun _=>(i64 (a+1)).bind fun _=>E5 c f g (b+(d*e)) (a+1)) (some (b))
def D5(c:Nat)(e:List Int)(d:List Int):Option (Int):=
 (E5 e d c (0:Int) (0:Int)).bind fun a=>(F8 c d).bind fun b=>(quo a b).bind fun _=>(i64 (a/b)).bind fun _=>some (a/b)
def Ht(c:Nat)(d:Bh)(a:List Int)(b:Int):Option (Int):=
 cond (decide (b<(a.length:Int))) ((idx a b).bind fun e=>some (e)) ((i64 (b-(a.length:Int))).bind fun _=>(idx d.Bb (b-(a.length:Int))).bind fun f=>(D5 c a f).bind fun g=>some (g))
def Hj(b:Nat)(c:Bh)(d:List Int)(a:Cw):Option (Bool):=
 cond (a.BY) ((i64 (a.Number+(c.Az.length:Int))).bind fun _=>(Ht b c d (a.Number+(c.Az.length:Int))).bind fun g=>(CJ b g a.Bl a.Bm).bind fun h=>some (h)) ((Ht b c d a.Number).bind fun e=>(CJ b e a.Bl a.Bm).bind fun f=>some (f))
def Db(c:Nat)(b:Bh)(d:List Int):Nat→Int→Option ((Bool)⊕(Unit))
 |0,_=>none
 |g+1,a=>cond (decide (a<(b.AP.length:Int))) ((idx b.AP a).bind fun e=>(Hj c b d e).bind fun f=>cond (!f) (some (.inl false)) ((i64 (a+1)).bind fun _=>Db c b d g (a+1))) (some (.inr ()))
def GB(b:Nat)(c:Bh)(d:List Int):Option (Bool):=
 (Hw b c d).bind fun e=>cond (!e) (some (false)) ((Db b c d b (0:Int)).bind fun z=>Sum.elim (fun a=>some (a)) (fun a=>some (true)) z)
def DU(c:Nat)(d:Bh):Nat→(List (List Int))→Int→Option ((List (List Int)))
 |0,_,_=>none
 |f+1,b,a=>(Ez c d).bind fun g=>cond (decide (a<g)) ((H8 c d a).bind fun e=>(GB c d e).bind fun h=>cond (h) ((ED (((b.length+[e].length:Nat):Int)≤140737488355328/24)).bind fun _=>(i64 (a+1)).bind fun _=>DU c d f (b++[e]) (a+1)) ((i64 (a+1)).bind fun _=>DU c d f b (a+1))) (some (b))
def EA(a:Nat)(b:Bh):Option ((List (List Int))):=
 (DU a b a ([]:List (List Int)) (0:Int)).bind fun z2=>some (z2)
def EB(a:Nat)(b:AD)(c:Int):Option (Int):=
 (idx b.Ab c).bind fun x2=>(F8 a x2).bind fun d=>some (d)
def D6(d:Nat)(b:AD)(e:List Int)(f:Int):Nat→Int→Int→Option (Int)
 |0,_,_=>none
 |g+1,c,a=>cond (decide ((0:Int)≤a)) ((idx b.Ab f).bind fun i=>(D5 d e i).bind fun j=>(idx b.AB a).bind fun k=>cond (decide (k.Bd≤j)) ((idx b.AB a).bind fun h=>(i64 (a-1)).bind fun _=>D6 d b e f g h.B3 (a-1)) ((i64 (a-1)).bind fun _=>D6 d b e f g c (a-1))) (some (c))
def Fz(c:Nat)(a:AD)(e:List Int)(d:Int):Option (Int):=
 (i64 ((a.AB.length:Int)-1)).bind fun _=>(D6 c a e d c (0:Int) ((a.AB.length:Int)-1)).bind fun z3=>(EB c a d).bind fun b=>(i64 (z3*b)).bind fun _=>some (z3*b)
def Ea(d:Nat)(c:AD)(e:List Int):Nat→Int→Int→Option (Int)
 |0,_,_=>none
 |f+1,b,a=>cond (decide (a<(c.AK.length:Int))) ((idx c.AK a).bind fun g=>(idx c.AK a).bind fun i=>(Fz d c e i.BY).bind fun j=>(CJ d j g.Ck g.Cl).bind fun h=>cond (h) ((LD .u64 a).bind fun _=>(LC (1:Int) a).bind fun _=>(Px b (HZ (1:Int) a)).bind fun _=>(i64 (a+1)).bind fun _=>Ea d c e f (Mf b (HZ (1:Int) a)) (a+1)) ((i64 (a+1)).bind fun _=>Ea d c e f b (a+1))) (some (b))
def Hk(a:Nat)(b:AD)(c:List Int):Option (Int):=
 (Ea a b c a (0:Int) (0:Int)).bind fun z2=>some (z2)
def HL(b:Nat)(a:AD):Option (Int):=
 (LD .u64 (a.AK.length:Int)).bind fun _=>(LC (1:Int) (a.AK.length:Int)).bind fun _=>(i64 ((HZ (1:Int) (a.AK.length:Int))-1)).bind fun _=>some ((HZ (1:Int) (a.AK.length:Int))-1)
def DV(d:Nat)(e:AD)(c:(List (List Int))):Nat→(List (List Int))→Int→Option ((List (List Int)))
 |0,_,_=>none
 |g+1,b,a=>cond (decide (a<(c.length:Int))) ((idx c a).bind fun i=>(Hk d e i).bind fun j=>(HL d e).bind fun h=>cond (j==h) ((idx c a).bind fun f=>(ED (((b.length+[f].length:Nat):Int)≤140737488355328/24)).bind fun _=>(i64 (a+1)).bind fun _=>DV d e c g (b++[f]) (a+1)) ((i64 (a+1)).bind fun _=>DV d e c g b (a+1))) (some (b))
def GY(b:Nat)(a:AD):Option ((List (List Int))):=
 (EA b (⟨a.Aj,a.Ab,a.Aq⟩:Bh)).bind fun c=>(DV b a c b ([]:List (List Int)) (0:Int)).bind fun z4=>some (z4)
def Dm(g:Nat)(c:List Int)(f:Int):Nat→Int→Int→Option ((Int×Bool)⊕(Int))
 |0,_,_=>none
 |h+1,b,a=>cond (decide (a<(c.length:Int))) ((idx c a).bind fun k=>(i64 (f-1)).bind fun _=>(CJ g k 0 (f-1)).bind fun l=>cond (!l) (some (.inl ((0:Int),false))) (cond (decide ((0:Int)<a)) ((idx c a).bind fun i=>(i64 (a-1)).bind fun _=>(idx c (a-1)).bind fun j=>cond (decide (i≤j)) (some (.inl ((0:Int),false))) ((idx c a).bind fun d=>(LD .u64 d).bind fun _=>(LC (1:Int) d).bind fun _=>(Px b (HZ (1:Int) d)).bind fun _=>(i64 (a+1)).bind fun _=>Dm g c f h (Mf b (HZ (1:Int) d)) (a+1))) ((idx c a).bind fun e=>(LD .u64 e).bind fun _=>(LC (1:Int) e).bind fun _=>(Px b (HZ (1:Int) e)).bind fun _=>(i64 (a+1)).bind fun _=>Dm g c f h (Mf b (HZ (1:Int) e)) (a+1)))) (some (.inr b))
def Gq(b:Nat)(c:List Int)(d:Int):Option (Int×Bool):=
 (Dm b c d b (0:Int) (0:Int)).bind fun z=>Sum.elim (fun a=>some ((a.1,a.2))) (fun a=>some ((a,true))) z
def DW(d:Nat)(c:AD):Nat→Int→Option ((Int)⊕(Unit))
 |0,_=>none
 |e+1,a=>cond (decide (a<(c.AB.length:Int))) ((idx c.AB a).bind fun b=>(CJ d b.Bd 0 100).bind fun f=>cond (!f) (some (.inl (1:Int))) ((CJ d b.B3 0 100).bind fun g=>cond (!g) (some (.inl (1:Int))) (cond (decide ((0:Int)<a)) ((i64 (a-1)).bind fun _=>(idx c.AB (a-1)).bind fun h=>cond (decide (h.Bd≤b.Bd)) (some (.inl (1:Int))) ((i64 (a-1)).bind fun _=>(idx c.AB (a-1)).bind fun i=>cond (decide (i.B3<b.B3)) (some (.inl (1:Int))) ((i64 (a+1)).bind fun _=>DW d c e (a+1)))) ((i64 (a+1)).bind fun _=>DW d c e (a+1))))) (some (.inr ()))
def CX(c:Nat)(b:AD):Nat→Int→Option ((Int)⊕(Unit))
 |0,_=>none
 |h+1,a=>cond (decide (a<(b.AE.length:Int))) ((idx b.AE a).bind fun d=>(i64 ((b.AB.length:Int)-1)).bind fun _=>(CJ c d.Cr 0 ((b.AB.length:Int)-1)).bind fun e=>cond (!e) (some (.inl (1:Int))) ((idx b.AE a).bind fun f=>(CJ c f.CE 1 90).bind fun g=>cond (!g) (some (.inl (1:Int))) ((i64 (a+1)).bind fun _=>CX c b h (a+1)))) (some (.inr ()))
def CY(d:Nat)(b:AD):Nat→Int→Option ((Int)⊕(Unit))
 |0,_=>none
 |h+1,a=>cond (decide (a<(b.AK.length:Int))) ((idx b.AK a).bind fun e=>(i64 ((b.Ab.length:Int)-1)).bind fun _=>(CJ d e.BY 0 ((b.Ab.length:Int)-1)).bind fun f=>cond (!f) (some (.inl (1:Int))) ((idx b.AK a).bind fun c=>(Ey d (⟨c.Ck,c.Cl⟩:AL) 0 9000).bind fun g=>cond (!g) (some (.inl (1:Int))) ((i64 (a+1)).bind fun _=>CY d b h (a+1)))) (some (.inr ()))
def Hl(b:Nat)(a:AD):Option (Int):=
 (ET b (⟨a.Aj,a.Ab,a.Aq⟩:Bh)).bind fun f=>cond (f !=0) (some (f)) (cond (decide ((3:Int)<(a.AB.length:Int))) (some (3)) (cond (decide ((3:Int)<(a.AE.length:Int))) (some (3)) (cond (decide ((5:Int)<(a.AK.length:Int))) (some (3)) ((CJ b a.Flat 0 100).bind fun g=>cond (!g) (some (1)) (cond ((a.AB.length:Int)==0) (some (1)) ((DW b a b (0:Int)).bind fun z=>Sum.elim (fun c=>some (c)) (fun c=>(CX b a b (0:Int)).bind fun z=>Sum.elim (fun d=>some (d)) (fun d=>(CY b a b (0:Int)).bind fun z=>Sum.elim (fun e=>some (e)) (fun e=>some (0)) z) z) z))))))
def Hu(b:Nat)(a:AL):Option (AL):=
 some (a)
def HM(b:Nat)(a:List Int):Option ((List Int)):=
 (ED (((([]:List Int).length+a.length:Nat):Int)≤140737488355328/8)).bind fun _=>some (([]:List Int)++a)
def Dg(d:Nat)(c:Bh):Nat→Int→(List AL)→Option ((List AL))
 |0,_,_=>none
 |f+1,b,a=>cond (decide (b<(c.Az.length:Int))) ((idx c.Az b).bind fun g=>(Hu d g).bind fun e=>(ED (((a.length+[e].length:Nat):Int)≤140737488355328/16)).bind fun _=>(i64 (b+1)).bind fun _=>Dg d c f (b+1) (a++[e])) (some (a))
def Dc(e:Nat)(d:Bh):Nat→Int→(List (List Int))→Option ((List (List Int)))
 |0,_,_=>none
 |g+1,b,a=>cond (decide (b<(d.Bb.length:Int))) ((idx d.Bb b).bind fun f=>(HM e f).bind fun c=>(ED (((a.length+[c].length:Nat):Int)≤140737488355328/24)).bind fun _=>(i64 (b+1)).bind fun _=>Dc e d g (b+1) (a++[c])) (some (a))
def Dd(f:Nat)(e:Bh):Nat→Int→(List Cw)→Option ((List Cw))
 |0,_,_=>none
 |g+1,b,a=>cond (decide (b<(e.AP.length:Int))) ((idx e.AP b).bind fun c=>(Hu f (⟨c.Bl,c.Bm⟩:AL)).bind fun d=>(ED (((a.length+[(⟨c.BY,c.Number,d.Lo,d.Hi⟩:Cw)].length:Nat):Int)≤140737488355328/32)).bind fun _=>(i64 (b+1)).bind fun _=>Dd f e g (b+1) (a++[(⟨c.BY,c.Number,d.Lo,d.Hi⟩:Cw)])) (some (a))
def F5(a:Nat)(b:Bh):Option (Bh):=
 (Dg a b a (0:Int) ([]:List AL)).bind fun z4=>(Dc a b a (0:Int) ([]:List (List Int))).bind fun c=>(Dd a b a (0:Int) ([]:List Cw)).bind fun z24=>some ((⟨z4,c,z24⟩:Bh))
def DG(b:Bh):Nat→Int→Option ((Bool)⊕(Unit))
 |0,_=>none
 |c+1,a=>cond (decide (a<(b.Bb.length:Int))) ((idx b.Bb a).bind fun d=>cond (decide ((6:Int)<(d.length:Int))) (some (.inl false)) ((i64 (a+1)).bind fun _=>DG b c (a+1))) (some (.inr ()))
def GC(c:Nat)(a:Bh):Option (Bool):=
 cond (decide ((5:Int)<(a.Az.length:Int))) (some (false)) (cond (decide ((5:Int)<(a.Bb.length:Int))) (some (false)) (cond (decide ((7:Int)<(a.AP.length:Int))) (some (false)) ((DG a c (0:Int)).bind fun z=>Sum.elim (fun b=>some (b)) (fun b=>(ET c a).bind fun d=>cond (d !=0) (some (true)) ((Ez c a).bind fun e=>some (decide (e≤150)))) z)))
def GD(b:Nat)(a:List Int):Option ((List Int)):=
 (ED (((([]:List Int).length+a.length:Nat):Int)≤140737488355328/8)).bind fun _=>some (([]:List Int)++a)
def Dv(b:Nat)(a:AL):Option (AL):=
 some (a)
def Dq(c:AD):Nat→Int→(List BO)→Option ((List BO))
 |0,_,_=>none
 |f+1,b,a=>cond (decide (b<(c.AB.length:Int))) ((idx c.AB b).bind fun d=>(idx c.AB b).bind fun e=>(ED (((a.length+[(⟨d.Bd,e.B3⟩:BO)].length:Nat):Int)≤140737488355328/16)).bind fun _=>(i64 (b+1)).bind fun _=>Dq c f (b+1) (a++[(⟨d.Bd,e.B3⟩:BO)])) (some (a))
def Dh(c:AD):Nat→Int→(List B2)→Option ((List B2))
 |0,_,_=>none
 |f+1,b,a=>cond (decide (b<(c.AE.length:Int))) ((idx c.AE b).bind fun d=>(idx c.AE b).bind fun e=>(ED (((a.length+[(⟨d.Cr,e.CE⟩:B2)].length:Nat):Int)≤140737488355328/16)).bind fun _=>(i64 (b+1)).bind fun _=>Dh c f (b+1) (a++[(⟨d.Cr,e.CE⟩:B2)])) (some (a))
def Di(g:Nat)(d:AD):Nat→Int→(List B6)→Option ((List B6))
 |0,_,_=>none
 |h+1,b,a=>cond (decide (b<(d.AK.length:Int))) ((idx d.AK b).bind fun e=>(idx d.AK b).bind fun f=>(Dv g (⟨f.Ck,f.Cl⟩:AL)).bind fun c=>(ED (((a.length+[(⟨e.BY,c.Lo,c.Hi⟩:B6)].length:Nat):Int)≤140737488355328/24)).bind fun _=>(i64 (b+1)).bind fun _=>Di g d h (b+1) (a++[(⟨e.BY,c.Lo,c.Hi⟩:B6)])) (some (a))
def Eh(b:Nat)(a:AD):Option (AD):=
 (F5 b (⟨a.Aj,a.Ab,a.Aq⟩:Bh)).bind fun c=>(Dq a b (0:Int) ([]:List BO)).bind fun e=>(Dh a b (0:Int) ([]:List B2)).bind fun d=>(Di b a b (0:Int) ([]:List B6)).bind fun z26=>some ((⟨c.Az,c.Bb,c.AP,a.Flat,e,d,z26⟩:AD))
def DH(b:List Int)(c:List Int):Nat→Int→Option ((Bool)⊕(Unit))
 |0,_=>none
 |d+1,a=>cond (decide (a<(b.length:Int))) ((idx b a).bind fun e=>(idx c a).bind fun f=>cond (e !=f) (some (.inl false)) ((i64 (a+1)).bind fun _=>DH b c d (a+1))) (some (.inr ()))
def Ct(d:Nat)(b:List Int)(c:List Int):Option (Bool):=
 cond ((b.length:Int) !=(c.length:Int)) (some (false)) ((DH b c d (0:Int)).bind fun z=>Sum.elim (fun a=>some (a)) (fun a=>some (true)) z)
def GF(b:Nat)(a:AD):Option (Bool):=
 (GC b (⟨a.Aj,a.Ab,a.Aq⟩:Bh)).bind fun c=>cond (c) (cond (decide ((a.AB.length:Int)≤5)) (cond (decide ((a.AE.length:Int)≤5)) (some (decide ((a.AK.length:Int)≤7))) (some (false))) (some (false))) (some (false))
def Gl(a:Nat)(b:AD):Option (Int):=
 (Hl a b).bind fun c=>some (c)
def GG(b:Nat)(a:AD):Option (Int):=
 (Gl b a).bind fun c=>cond (c !=0) (some (c)) ((EA b (⟨a.Aj,a.Ab,a.Aq⟩:Bh)).bind fun d=>cond ((d.length:Int)==0) (some (11)) (some (0)))
def GH(a:Nat)(b:AD):Option ((List (List Int))×Int):=
 (GG a b).bind fun c=>cond (c !=0) (some ((([]:List (List Int)),c))) ((GY a b).bind fun d=>cond ((d.length:Int)==0) (some ((([]:List (List Int)),9))) (some ((d,0))))
def DI(c:Nat)(a:Int)(b:Int):Option (AL):=
 some ((⟨a,b⟩:AL))
def Cu(c:Nat)(d:Int):Option (AD):=
 (DI c 80 80).bind fun b=>(DI c 40 40).bind fun a=>(Py [(⟨0,b.Lo,b.Hi⟩:B6),(⟨0,a.Lo,a.Hi⟩:B6)].length (0:Int) d).bind fun _=>some ((⟨[(⟨40,42⟩:AL),(⟨60,63⟩:AL)],[[10,10],[5,15]],([]:List Cw),3,[(⟨55,6⟩:BO),(⟨51,4⟩:BO),(⟨40,2⟩:BO)],[(⟨0,20⟩:B2),(⟨1,10⟩:B2)],Gb [(⟨0,b.Lo,b.Hi⟩:B6),(⟨0,a.Lo,a.Hi⟩:B6)] (0:Int) d⟩:AD))
def BU(a:Nat):Option (Bool):=
 (Cu a 0).bind fun z=>(Ks a z [41,62]).bind fun n=>(Cu a 0).bind fun aA=>(Hr a aA).bind fun d=>(Cu a 0).bind fun o=>(G9 a o [0,1]).bind fun b=>(Cu a 0).bind fun p=>(Ku a p).bind fun c=>(Cu a 1).bind fun q=>(Kw a q).bind fun e=>(Cu a 0).bind fun r=>(Ha a r).bind fun f=>(Cu a 2).bind fun s=>(Kb a s).bind fun g=>(Cu a 2).bind fun t=>(Kd a t).bind fun h=>cond (n.2==0) ((Ct a n.1 [80,120]).bind fun u=>cond (u) (cond (d.2==0) (cond ((d.1.length:Int)==2) ((idx d.1 (0:Int)).bind fun i=>(DI a 40 80).bind fun j=>cond ([i.Lo,i.Hi]==[j.Lo,j.Hi]) ((idx d.1 (1:Int)).bind fun k=>(DI a 120 120).bind fun l=>cond ([k.Lo,k.Hi]==[l.Lo,l.Hi]) (cond (b.2==0) ((DI a 160 200).bind fun m=>cond ([b.1.Lo,b.1.Hi]==[m.Lo,m.Hi]) (cond (c.2.2==0) ((Ct a c.1 [1]).bind fun v=>cond (v) (cond (c.2.1==180) (cond (e.2==0) ((Ct a e.1 [1,0]).bind fun w=>cond (w) (cond (f.2==0) ((Ct a f.1 [0,1]).bind fun x=>cond (x) (cond (g.2==0) (cond (g.1==1) (cond (h.2==0) ((Ct a h.1 [0]).bind fun y=>some (y)) (some (false))) (some (false))) (some (false))) (some (false))) (some (false))) (some (false))) (some (false))) (some (false))) (some (false))) (some (false))) (some (false))) (some (false))) (some (false))) (some (false))) (some (false))) (some (false))) (some (false))) (some (false))
end Go.Proofs.YtbhofkcbfblijaaGreat
end
section
namespace Go.Proofs.YtbhofkcbfblijaaGreat
theorem bd{α β:Type}{x:Option α}{a:α}{f:α→Option β}(h:x=some a):x.bind f=f a:=by rw[h];rfl
theorem BS{β:Type}{x:Int}{f:Int→Option β}(h0:-9223372036854775808≤x)(h1:x≤9223372036854775807):(i64 x).bind f=f x:=bd (ZE h0 h1)
theorem Cp{α β:Type}{xs:List α}{k:Nat}{f:α→Option β}(h:k<xs.length):(idx xs (k:Int)).bind f=f xs[k]:=bd (idx_eq h)
theorem FV{β:Type}{p:Prop}[Decidable p]{f:Unit→Option β}(h:p):(ED p).bind f=f ():=bd (if_pos h)
theorem TQ{β:Type}{a b:Int}{f:Int→Option β}(h0:0≤a)(h1:1≤b):(rem a b).bind f=f (a%b):=bd (if_pos ⟨h0,h1⟩)
theorem VN{β:Type}{a b:Int}{f:Int→Option β}(h0:0≤a)(h1:1≤b):(quo a b).bind f=f (a/b):=bd (if_pos ⟨h0,h1⟩)
theorem mkb{β:Type}{n:Int}{b:Nat}{f:Unit→Option β}(h0:0≤n)(h1:n*b≤140737488355328)(h2:n≤140737488355328):(WX n b).bind f=f ():=bd (if_pos ⟨h0,h1,h2⟩)
theorem ct{α:Type}{b:Bool}{x y:α}(h:b=true):cond b x y=x:=by rw[h];rfl
theorem cf{α:Type}{b:Bool}{x y:α}(h:b=false):cond b x y=y:=by rw[h];rfl
theorem nt{α:Type}{x y:α}:cond (!true) x y=y:=rfl
theorem nf{α:Type}{x y:α}:cond (!false) x y=x:=rfl
theorem dt{p:Prop}[Decidable p](h:p):decide p=true:=decide_eq_true h
theorem df{p:Prop}[Decidable p](h:¬p):decide p=false:=decide_eq_false h
theorem Dw(i:Nat):(i:Int)+1=((i+1:Nat):Int):=by omega
def Ek(n a b:Int):Bool:=decide (a≤n)&&decide (n≤b)
theorem Ee{n a b:Int}:Ek n a b=true↔a≤n∧n≤b:=by simp[Ek]
theorem Jc{n a b:Int}:Ek n a b=false↔¬(a≤n∧n≤b):=by rw[←Ee];simp
theorem WY{σ β:Type}(F:Nat→σ→Nat→Option β)(n:Nat)(g:σ→Nat→σ)(I:Nat→σ→Prop)(a:∀i s,i<n→I i s→I (i+1) (g s i))(h:∀m i s,i<n→I i s→F (m+1) s i=F m (g s i) (i+1)):
  ∀(d i k:Nat) (s:σ),n=i+d→d≤k→I i s→F k s i=F (k-d) ((List.range' i d).foldl g s) n∧I n ((List.range' i d).foldl g s)
 |0,i,k,s,b,_,hs=>by
  obtain rfl:n=i:=by omega
  exact⟨rfl,hs⟩
 |d+1,i,0,s,_,hk,_=>by omega
 |d+1,i,k+1,s,b,hk,hs=>by
  have:=WY F n g I a h d (i+1) k (g s i) (by omega) (by omega) (a i s (by omega) hs);rw[h k i s (by omega) hs,List.range'_succ,List.foldl_cons,show k+1-(d+1)=k-d by omega];exact this
theorem Nq{α σ:Type}(g:σ→α→σ)(xs:List α)(f:σ→Nat→σ)(a:∀s i (hi:i<xs.length),f s i=g s xs[i]):∀(d i:Nat) (s:σ),xs.length=i+d→(List.range' i d).foldl f s=(xs.drop i).foldl g s
 |0,i,s,h=>by rw[List.drop_eq_nil_of_le (by omega)];rfl
 |d+1,i,s,h=>by
  have hi:i<xs.length:=by omega
  rw[List.range'_succ,List.foldl_cons,List.drop_eq_getElem_cons hi,List.foldl_cons,a s i hi];exact Nq g xs f a d (i+1) _ (by omega)
theorem Aa4 {α σ β:Type} (xs:List α) (F:Nat→σ→Nat→Option β) (g:σ→α→σ) (I:Nat→σ→Prop) (b:∀i s (hi:i<xs.length),I i s→I (i+1) (g s xs[i])) (h:∀m i s (hi:i<xs.length),I i s→F (m+1) s i=F m (g s xs[i]) (i+1))
  {k:Nat} {s0:σ} (hk:xs.length≤k) (h0:I 0 s0):F k s0 0=F (k-xs.length) (xs.foldl g s0) xs.length∧I xs.length (xs.foldl g s0):=by
 by_cases a:xs.length=0
 ·obtain rfl:=List.eq_nil_of_length_eq_zero a;exact⟨rfl,h0⟩
 ·have a0:α:=xs[0]'(by omega);have e:=Nq g xs (fun s i=>g s (xs.getD i a0)) (fun s i hi=>by simp[List.getElem?_eq_getElem hi]) xs.length 0 s0 (by omega);rw[List.drop_zero] at e;rw[←e];refine WY F xs.length (fun s i=>g s (xs.getD i a0)) I (fun i s hi hs=>?_) (fun m i s hi hs=>?_) xs.length 0 k s0 (by omega) hk h0
  ·have:=b i s hi hs;simpa[List.getElem?_eq_getElem hi] using this
  ·have:=h m i s hi hs;simpa[List.getElem?_eq_getElem hi] using this
theorem O4{α σ β:Type}(xs:List α)(F:Nat→σ→Nat→Option β)(g:σ→α→σ)(I:Nat→σ→Prop)(fin:σ→β)(a:∀i s (hi:i<xs.length),I i s→I (i+1) (g s xs[i]))(h:∀m i s (hi:i<xs.length),I i s→F (m+1) s i=F m (g s xs[i]) (i+1))
  (b:∀m s,I xs.length s→F (m+1) s xs.length=some (fin s)){k:Nat}{s0:σ}(hk:xs.length<k)(h0:I 0 s0):F k s0 0=some (fin (xs.foldl g s0)):=by
 obtain⟨h1,h2⟩:=Aa4 xs F g I a h (k:=k) (s0:=s0) (by omega) h0;obtain⟨j,hj⟩:∃j,k-xs.length=j+1:=⟨k-xs.length-1,by omega⟩;rw[h1,hj,b _ _ h2]
theorem WZ {β:Type} (F:Nat→Nat→Option (β⊕Unit)) (n:Nat) (ok:Nat→Bool) (b:β) (h:∀m i,i<n→F (m+1) i=cond (ok i) (F m (i+1)) (some (.inl b))) (a:∀m,F (m+1) n=some (.inr ())):
  ∀(d i k:Nat),n=i+d→d<k→F k i=some (cond ((List.range' i d).all ok) (.inr ()) (.inl b))
 |0,i,0,_,hk=>by omega
 |0,i,k+1,hi,_=>by
  obtain rfl:n=i:=by omega
  exact a k
 |d+1,i,0,_,hk=>by omega
 |d+1,i,k+1,hi,hk=>by
  rw[h k i (by omega),List.range'_succ,List.all_cons];cases ok i with
  |false=>rfl
  |true=>rw[Bool.true_and];exact WZ F n ok b h a d (i+1) k (by omega) (by omega)
theorem O5{α:Type}(p:α→Bool)(xs:List α)(ok:Nat→Bool)(a:∀i (hi:i<xs.length),ok i=p xs[i]):∀(d i:Nat),xs.length=i+d→(List.range' i d).all ok=(xs.drop i).all p
 |0,i,h=>by rw[List.drop_eq_nil_of_le (by omega)];rfl
 |d+1,i,h=>by
  have hi:i<xs.length:=by omega
  rw[List.range'_succ,List.all_cons,List.drop_eq_getElem_cons hi,List.all_cons,a i hi];rw[O5 p xs ok a d (i+1) (by omega)]
theorem Ke{α β:Type}(xs:List α)(F:Nat→Nat→Option (β⊕Unit))(ok:α→Bool)(b:β)(h:∀m i (hi:i<xs.length),F (m+1) i=cond (ok xs[i]) (F m (i+1)) (some (.inl b)))(a:∀m,F (m+1) xs.length=some (.inr ()))
  {k:Nat}(hk:xs.length<k):F k 0=some (cond (xs.all ok) (.inr ()) (.inl b)):=by
 by_cases c:xs.length=0
 ·obtain rfl:=List.eq_nil_of_length_eq_zero c;obtain⟨k,rfl⟩:∃k',k=k'+1:=⟨k-1,by omega⟩;exact a k
 ·have a0:α:=xs[0]'(by omega);have e:=O5 ok xs (fun i=>ok (xs.getD i a0)) (fun i hi=>by simp[List.getElem?_eq_getElem hi]) xs.length 0 (by omega);rw[List.drop_zero] at e;rw[←e];refine WZ F xs.length (fun i=>ok (xs.getD i a0)) b (fun m i hi=>?_) a xs.length 0 k (by omega) hk;have:=h m i hi;simpa[List.getElem?_eq_getElem hi] using this
theorem L4:∀(l:List Int) (s:Int),l.foldl (· +·) s=s+l.sum
 |[],s=>by simp
 |x::l,s=>by rw[List.foldl_cons,L4 l,List.sum_cons];omega
theorem Mh{a b:Int}(ha:a≤0)(hb:0≤b):∀l:List Int,(∀x∈l,a≤x∧x≤b)→a*l.length≤l.sum∧l.sum≤b*l.length
 |[],_=>by simp
 |x::l,h=>by
  have h1:=h x (List.mem_cons_self ..);have h2:=Mh ha hb l fun y c=>h y (List.mem_cons_of_mem _ c);rw[List.sum_cons,List.length_cons];have d:a*((l.length+1:Nat):Int)=a*l.length+a:=by rw[Int.natCast_add,Int.mul_add];simp
  have e:b*((l.length+1:Nat):Int)=b*l.length+b:=by rw[Int.natCast_add,Int.mul_add];simp
  omega
def run {σ α:Type} (cb:σ→α→Option (Bool×σ)):List α→σ→Option (Bool×σ)
 |[],s=>some (true,s)
 |x::l,s=>(cb s x).bind fun r=>cond r.1 (run cb l r.2) (some (false,r.2))
theorem run_pure{σ α:Type}{cb:σ→α→Option (Bool×σ)}{ok:α→Bool}:∀(l:List α) (s:σ),(∀x∈l,∀s,cb s x=some (ok x,s))→run cb l s=some (l.all ok,s)
 |[],s,_=>rfl
 |x::l,s,h=>by
  rw[run,bd (h x (List.mem_cons_self ..) s),List.all_cons];cases ok x with
  |false=>rfl
  |true=>exact run_pure l s fun y a=>h y (List.mem_cons_of_mem _ a)
theorem SI{σ α:Type}(F:Nat→Int→σ→Option ((Int×σ)⊕σ))(cb:σ→α→Option (Bool×σ))(p:List α)
  (a:∀m i s,F (m+1) i s=cond (decide (i<(p.length:Int))) ((idx p i).bind fun x=>(((cb s x).bind fun r=>some (!r.1,r.2)).bind fun r=>some (r.1,r.2)).bind fun r=>cond r.1 (some (.inl (i,r.2))) ((i64 (i+1)).bind fun _=>F m (i+1) r.2)) (some (.inr s)))
  (c:p.length≤5000):∀(n m i:Nat) (s:σ),p.length=i+n→n<m→
  (((F m (i:Int) s).bind fun z=>Sum.elim (fun q=>some (q.1,q.2)) (fun q=>some (((-1:Int)),q)) z).bind fun r=>some (decide ((0:Int)≤r.1),r.2)).bind (fun r=>some (!r.1,r.2))=run cb (p.drop i) s
 |n,0,i,s,h,hm=>by omega
 |0,m+1,i,s,h,hm=>by
  rw[a,cf (df (by omega)),List.drop_eq_nil_of_le (by omega)];rfl
 |n+1,m+1,i,s,h,hm=>by
  have hi:i<p.length:=by omega
  rw[a,ct (dt (by omega)),Cp hi,List.drop_eq_getElem_cons hi,run];cases cb s p[i] with
  |none=>rfl
  |some r=>
   obtain⟨b,s2⟩:=r;simp only[Option.bind_some];cases b with
   |false=>
    rw[nf];show some (!decide ((0:Int)≤(i:Int)),s2)=some (false,s2);rw[dt (by omega)];rfl
   |true=>
    rw[nt,BS (by omega) (by omega),Dw i,ct rfl];exact SI F cb p a c n m (i+1) s2 (by omega) (by omega)
theorem JO{σ α:Type}{F:Nat→Int→σ→Option ((Int×σ)⊕σ)}{cb:σ→α→Option (Bool×σ)}{p:List α}
  (a:∀m i s,F (m+1) i s=cond (decide (i<(p.length:Int))) ((idx p i).bind fun x=>(((cb s x).bind fun r=>some (!r.1,r.2)).bind fun r=>some (r.1,r.2)).bind fun r=>cond r.1 (some (.inl (i,r.2))) ((i64 (i+1)).bind fun _=>F m (i+1) r.2)) (some (.inr s)))
  (b:p.length≤900){K:Nat}(hK:1000≤K)(s:σ):
  (((F K (0:Int) s).bind fun z=>Sum.elim (fun q=>some (q.1,q.2)) (fun q=>some (((-1:Int)),q)) z).bind fun r=>some (decide ((0:Int)≤r.1),r.2)).bind (fun r=>some (!r.1,r.2))=run cb p s:=
 SI F cb p a (by omega) p.length K 0 s (by omega) (by omega)
section
variable{K:Nat}(hK:1000≤K)
include hK
theorem Sk{σ:Type}(cb:σ→AL→Option (Bool×σ))(p:List AL)(a:p.length≤900)(s:σ):Jg K cb p s=run cb p s:=
 JO (F:=Fa (fun(st:σ) (x:AL)=>(HB K cb x st).bind fun r=>some (r.1,r.2)) p) (fun _ _ _=>rfl) a hK s
theorem TR{σ:Type}(cb:σ→List Int→Option (Bool×σ))(p:List (List Int))(a:p.length≤900)(s:σ):JC K cb p s=run cb p s:=
 JO (F:=Fp (fun(st:σ) (x:List Int)=>(H5 K cb x st).bind fun r=>some (r.1,r.2)) p) (fun _ _ _=>rfl) a hK s
theorem Sm{σ:Type}(cb:σ→Cw→Option (Bool×σ))(p:List Cw)(a:p.length≤900)(s:σ):Jh K cb p s=run cb p s:=
 JO (F:=Fb (fun(st:σ) (x:Cw)=>(HD K cb x st).bind fun r=>some (r.1,r.2)) p) (fun _ _ _=>rfl) a hK s
theorem Us{σ:Type}(cb:σ→Int→Option (Bool×σ))(p:List Int)(a:p.length≤900)(s:σ):JW K cb p s=run cb p s:=
 JO (F:=EM (fun(st:σ) (x:Int)=>(Io K cb x st).bind fun r=>some (r.1,r.2)) p) (fun _ _ _=>rfl) a hK s
theorem Rf{σ:Type}(cb:σ→BO→Option (Bool×σ))(p:List BO)(a:p.length≤900)(s:σ):IV K cb p s=run cb p s:=
 JO (F:=Fc (fun(st:σ) (x:BO)=>(Hg K cb x st).bind fun r=>some (r.1,r.2)) p) (fun _ _ _=>rfl) a hK s
theorem Rg{σ:Type}(cb:σ→B2→Option (Bool×σ))(p:List B2)(a:p.length≤900)(s:σ):IW K cb p s=run cb p s:=
 JO (F:=Fe (fun(st:σ) (x:B2)=>(Hh K cb x st).bind fun r=>some (r.1,r.2)) p) (fun _ _ _=>rfl) a hK s
theorem Sn{σ:Type}(cb:σ→B6→Option (Bool×σ))(p:List B6)(a:p.length≤900)(s:σ):Jj K cb p s=run cb p s:=
 JO (F:=Fq (fun(st:σ) (x:B6)=>(HJ K cb x st).bind fun r=>some (r.1,r.2)) p) (fun _ _ _=>rfl) a hK s
theorem TS{σ:Type}(cb:σ→Int→Option (Bool×σ))(p:List Int)(a:p.length≤900)(s:σ):JD K cb p s=run cb p s:=
 JO (F:=EM (fun(st:σ) (x:Int)=>(H6 K cb x st).bind fun r=>some (r.1,r.2)) p) (fun _ _ _=>rfl) a hK s
end
theorem Kx(K:Nat)(n a b:Int):CJ K n a b=some (Ek n a b):=by unfold CJ Ek;cases decide (a≤n)<;>rfl
theorem K6(K:Nat)(n a b:Int):G8 K n a b=some (Ek n a b):=by unfold G8 Ek;cases decide (a≤n)<;>rfl
theorem Jd(K:Nat)(n a b:Int):Es K n a b=some (Ek n a b):=by unfold Es Ek;cases decide (a≤n)<;>rfl
def Kk (lo hi a b:Int):Bool:=decide (a≤lo)&&(decide (lo≤hi)&&decide (hi≤b))
theorem SJ{lo hi a b:Int}:Kk lo hi a b=true↔a≤lo∧lo≤hi∧hi≤b:=by simp[Kk]
theorem KK(K:Nat)(r:AL)(a b:Int):Ey K r a b=some (Kk r.Lo r.Hi a b):=by
 unfold Ey Kk;cases decide (a≤r.Lo)
 ·rfl
 ·cases decide (r.Lo≤r.Hi)<;>rfl
theorem Ov(K:Nat)(r:AL):Fv K r=some (Kk r.Lo r.Hi 0 100):=KK K r 0 100
theorem Aa5(K:Nat)(r:AL)(b:Int):Ji K r b=some (Kk r.Lo r.Hi 0 b):=KK K r 0 b
theorem Rh{K:Nat}(hK:1000≤K)(l:List Int)(hl:l.length≤100)(hb:∀x∈l,0≤x∧x≤10000):F8 K l=some l.sum:=by
 unfold F8;have h:DO l K 0 0=some (l.foldl (· +·) 0):=O4 l (fun m s i=>DO l m s (i:Int)) (· +·) (fun i s=>0≤s∧s≤10000*(i:Int)) id (fun i s hi hs=>by have:=hb _ (List.getElem_mem hi);omega)
  (fun m i s hi hs=>by
   have a:=hb _ (List.getElem_mem hi);show DO l (m+1) s (i:Int)=_;rw[DO.eq_2,ct (dt (by omega)),Cp hi,BS (by omega) (by omega),BS (by omega) (by omega),Dw i])
  (fun m s _=>by
   show DO l (m+1) s (l.length:Int)=_;rw[DO.eq_2,cf (df (by omega))];rfl) (by omega) (by omega)
 rw[bd h,L4,Int.zero_add]
theorem Ut{K:Nat}(hK:1000≤K)(l:List Int)(hl:l.length≤100)(hb:∀x∈l,0≤x∧x≤10000):JV K l=some l.sum:=by
 unfold JV;have h:FX l K 0 0=some (l.foldl (· +·) 0):=O4 l (fun m s i=>FX l m s (i:Int)) (· +·) (fun i s=>0≤s∧s≤10000*(i:Int)) id (fun i s hi hs=>by have:=hb _ (List.getElem_mem hi);omega)
  (fun m i s hi hs=>by
   have a:=hb _ (List.getElem_mem hi);show FX l (m+1) s (i:Int)=_;rw[FX.eq_2,ct (dt (by omega)),Cp hi,BS (by omega) (by omega),BS (by omega) (by omega),Dw i])
  (fun m s _=>by
   show FX l (m+1) s (l.length:Int)=_;rw[FX.eq_2,cf (df (by omega))];rfl) (by omega) (by omega)
 rw[bd h,L4,Int.zero_add]
def Ky(c:Bh)(l:List Int):Bool:=l.all (fun x=>Ek x 0 30)&&(l.length==c.Az.length)
def Kz(c:Bh)(l:List Int):Bool:=Ky c l&&decide (0<l.sum)
def JP(c:Bh)(t:Cw):Bool:=Ek t.Number 0 ((cond t.BY c.Bb.length c.Az.length:Nat)-1)&&Kk t.Bl t.Bm 0 100
def Dx(r:AL):Int:=r.Hi-r.Lo+1
def GZ(l:List AL):Int:=l.foldl (fun n r=>n*Dx r) 1
def G0(c:Bh):Int:=
 if 3<c.Az.length∨3<c.Bb.length∨5<c.AP.length then 3
 else if c.Az.length=0 then 1
 else if !(c.Az.all fun r=>Kk r.Lo r.Hi 0 100) then 1
 else if !(c.Bb.all (Kz c)) then 1
 else if !(c.AP.all (JP c)) then 1
 else if 2000<GZ c.Az then 3 else 0
theorem Nr{c:Bh}{l:List Int}(h:Ky c l=true):l.length=c.Az.length∧∀x∈l,0≤x∧x≤30:=by
 unfold Ky at h;rw[Bool.and_eq_true,List.all_eq_true,beq_iff_eq] at h;exact⟨h.2,fun x a=>Ee.1 (h.1 x a)⟩
theorem ZO(a b:Nat):((a:Int)==(b:Int))=(a==b):=by rw[Bool.eq_iff_iff,beq_iff_eq,beq_iff_eq];omega
theorem Uu{K:Nat}(hK:1000≤K)(c:Bh)(l:List Int)(hl:l.length≤100):GA K c l=some (Ky c l):=by
 unfold GA;have h:Da K l K 0=_:=Ke l (fun m i=>Da K l m (i:Int)) (fun x=>Ek x 0 30) false (fun m i hi=>by
   show Da K l (m+1) (i:Int)=_;rw[Da.eq_2,ct (dt (by omega)),Cp hi,bd (Kx ..)];cases Ek l[i] 0 30 with
   |false=>rw[nf,cf rfl]
   |true=>rw[nt,BS (by omega) (by omega),Dw i,ct rfl])
  (fun m=>by
   show Da K l (m+1) (l.length:Int)=_;rw[Da.eq_2,cf (df (by omega))]) (k:=K) (by omega)
 rw[bd h];unfold Ky;cases l.all (fun x=>Ek x 0 30) with
 |false=>rw[cf rfl,Bool.false_and];rfl
 |true=>
  rw[ct rfl,Bool.true_and,←ZO];rfl
def IQ(r:AL):Prop:=0≤r.Lo∧r.Lo≤r.Hi∧r.Hi≤100
theorem Xt{r:AL}:Kk r.Lo r.Hi 0 100=true↔IQ r:=SJ
theorem Ns(K:Nat){r:AL}(h:IQ r):FT K r=some (Dx r):=by
 unfold IQ at h;unfold FT Dx;rw[BS (by omega) (by omega),BS (by omega) (by omega)]
theorem Xu(K:Nat){r:AL}(h:IQ r):IU K r=some (Dx r):=Ns K h
theorem Xv(K:Nat){r:AL}(h:IQ r):IE K r=some (Dx r):=Ns K h
theorem Iy{r:AL}(h:IQ r):1≤Dx r∧Dx r≤101:=by unfold IQ at h;unfold Dx;omega
theorem J5{a b x y:Int}(ha:0≤a)(c:a≤x)(hb:0≤b)(d:b≤y):0≤a*b∧a*b≤x*y:=
 ⟨Int.mul_nonneg ha hb,Int.mul_le_mul c d hb (by omega)⟩
theorem foldl_min{C:Int}(b:0≤C):∀(l:List AL) (s:Int),(∀r∈l,IQ r)→0≤s→l.foldl (fun n r=>min C (n*Dx r)) (min C s)=min C (l.foldl (fun n r=>n*Dx r) s)
 |[],s,_,_=>rfl
 |r::l,s,h,hs=>by
  have hr:=Iy (h r (List.mem_cons_self ..));rw[List.foldl_cons,List.foldl_cons];have e:min C (min C s*Dx r)=min C (s*Dx r):=by
   rcases Int.le_total C s with a|a
   ·rw[Int.min_eq_left a];have h1:C*1≤C*Dx r:=Int.mul_le_mul_of_nonneg_left hr.1 b;have h2:s*1≤s*Dx r:=Int.mul_le_mul_of_nonneg_left hr.1 hs;rw[Int.min_eq_left (by omega),Int.min_eq_left (by omega)]
   ·rw[Int.min_eq_right a]
  rw[e];exact foldl_min b l (s*Dx r) (fun y c=>h y (List.mem_cons_of_mem _ c)) (Int.mul_nonneg hs (by omega))
theorem Qa:∀(l:List AL) (s:Int),(∀r∈l,IQ r)→1≤s→1≤l.foldl (fun n r=>n*Dx r) s
 |[],s,_,hs=>hs
 |r::l,s,h,hs=>by
  have hr:=Iy (h r (List.mem_cons_self ..));rw[List.foldl_cons];refine Qa l _ (fun y a=>h y (List.mem_cons_of_mem _ a)) ?_;have h2:s*1≤s*Dx r:=Int.mul_le_mul_of_nonneg_left hr.1 (by omega);omega
theorem Ow{l:List AL}(h:(l.all fun r=>Kk r.Lo r.Hi 0 100)=true):∀r∈l,IQ r:=fun r hr=>Xt.1 (List.all_eq_true.1 h r hr)
theorem LI{a b:Int}(h:a≠b):(a==b)=false:=by rw[Bool.eq_false_iff];intro g;exact h (beq_iff_eq.1 g)
theorem Le{a b:Int}(h:a=b):(a==b)=true:=beq_iff_eq.2 h
theorem Ib{a b:Int}(h:a=b):(a !=b)=false:=by rw[h];simp
theorem J1{a b:Int}(h:a≠b):(a !=b)=true:=by simpa using h
section
variable{K:Nat}(hK:1000≤K)
include hK
theorem Ri(c:Bh)(hl:c.Az.length≤100)(h:∀r∈c.Az,IQ r):Ez K c=some (min 3000 (GZ c.Az)):=by
 unfold Ez;have a:DF K c K 1 0=some (c.Az.foldl (fun n r=>min 3000 (n*Dx r)) 1):=O4 c.Az (fun m s i=>DF K c m s (i:Int)) (fun n r=>min 3000 (n*Dx r)) (fun _ s=>0≤s∧s≤3000) id
  (fun i s hi hs=>by
   have hr:=Iy (h _ (List.getElem_mem hi));have:=J5 hs.1 hs.2 (by omega:0≤Dx c.Az[i]) hr.2;omega)
  (fun m i s hi hs=>by
   show DF K c (m+1) s (i:Int)=_;have hr:=Iy (h _ (List.getElem_mem hi));have:=J5 hs.1 hs.2 (by omega:0≤Dx c.Az[i]) hr.2;rw[DF.eq_2,ct (dt (by omega)),Cp hi,bd (Ns K (h _ (List.getElem_mem hi))),BS (by omega) (by omega),BS (by omega) (by omega),Dw i])
  (fun m s _=>by
   show DF K c (m+1) s (c.Az.length:Int)=_;rw[DF.eq_2,cf (df (by omega))];rfl) (by omega) (by omega)
 rw[bd a];have:=foldl_min (C:=3000) (by omega) c.Az 1 h (by omega);rw[Int.min_eq_right (by omega)] at this;rw[this];rfl
theorem Uv(a b:Int):Hq K [a,b]=some (min a b):=by
 obtain⟨k,rfl⟩:∃k,K=k+3:=⟨K-3,by omega⟩;unfold Hq;have c:idx [a,b] (0:Int)=some a:=rfl;have d:idx [a,b] (1:Int)=some b:=rfl;rw[cf (df (by simp)),bd c,Gf.eq_2,ct (dt (by simp)),bd d,BS (by omega) (by omega),Gf.eq_2,cf (df (by simp))];rfl
theorem ZP(a b:Int):I2 K [a,b]=some (min a b):=by
 unfold I2;rw[bd (Uv hK a b)]
theorem Uw(c:Bh)(hl:c.Az.length≤100)(h:∀r∈c.Az,IQ r):C7 K c K 1 0=some (min 2001 (GZ c.Az)):=by
 have a:C7 K c K 1 0=some (c.Az.foldl (fun n r=>min 2001 (n*Dx r)) 1):=O4 c.Az (fun m s i=>C7 K c m s (i:Int)) (fun n r=>min 2001 (n*Dx r)) (fun _ s=>0≤s∧s≤2001) id
  (fun i s hi hs=>by
   have hr:=Iy (h _ (List.getElem_mem hi));have:=J5 hs.1 hs.2 (by omega:0≤Dx c.Az[i]) hr.2;omega)
  (fun m i s hi hs=>by
   show C7 K c (m+1) s (i:Int)=_;have hr:=Iy (h _ (List.getElem_mem hi));have:=J5 hs.1 hs.2 (by omega:0≤Dx c.Az[i]) hr.2;rw[C7.eq_2,ct (dt (by omega)),Cp hi,bd (Xu K (h _ (List.getElem_mem hi))),BS (by omega) (by omega),bd (ZP hK _ _),BS (by omega) (by omega),Dw i,Int.min_comm])
  (fun m s _=>by
   show C7 K c (m+1) s (c.Az.length:Int)=_;rw[C7.eq_2,cf (df (by omega))];rfl) (by omega) (by omega)
 rw[a];have:=foldl_min (C:=2001) (by omega) c.Az 1 h (by omega);rw[Int.min_eq_right (by omega)] at this;rw[this];rfl
theorem VO(c:Bh)(hl:c.Az.length≤100):Dp K c K 0=some (cond (c.Az.all fun r=>Kk r.Lo r.Hi 0 100) (.inr ()) (.inl 1)):=
 Ke c.Az (fun m i=>Dp K c m (i:Int)) (fun r=>Kk r.Lo r.Hi 0 100) 1
  (fun m i hi=>by
   show Dp K c (m+1) (i:Int)=_;rw[Dp.eq_2,ct (dt (by omega)),Cp hi,bd (KK ..)];cases Kk c.Az[i].Lo c.Az[i].Hi 0 100 with
   |false=>rw[nf,cf rfl]
   |true=>rw[nt,BS (by omega) (by omega),Dw i,ct rfl])
  (fun m=>by
   show Dp K c (m+1) (c.Az.length:Int)=_;rw[Dp.eq_2,cf (df (by omega))]) (by omega)
theorem Ux(c:Bh)(hl:c.Bb.length≤100)(e:∀l∈c.Bb,l.length≤100):CV K c K 0=some (cond (c.Bb.all (Kz c)) (.inr ()) (.inl 1)):=
 Ke c.Bb (fun m i=>CV K c m (i:Int)) (Kz c) 1
  (fun m i hi=>by
   show CV K c (m+1) (i:Int)=_;have d:=e _ (List.getElem_mem hi);rw[CV.eq_2,ct (dt (by omega)),Cp hi,bd (Uu hK c _ d)];unfold Kz;cases hs:Ky c c.Bb[i] with
   |false=>rw[nf,Bool.false_and,cf rfl]
   |true=>
    obtain⟨h1,h2⟩:=Nr hs;have f:=Mh (a:=0) (b:=30) (by omega) (by omega) _ h2;rw[nt,Cp hi,bd (Rh hK _ d (fun x d=>by have:=h2 x d;omega)),Bool.true_and]
    by_cases h0:c.Bb[i].sum=0
    ·rw[ct (by simp[h0]),cf (df (by omega))]
    ·rw[cf (by simp[h0]),ct (dt (by omega)),BS (by omega) (by omega),Dw i])
  (fun m=>by
   show CV K c (m+1) (c.Bb.length:Int)=_;rw[CV.eq_2,cf (df (by omega))]) (by omega)
theorem Uy(c:Bh)(hl:c.AP.length≤100)(hh:c.Az.length≤100)(a:c.Bb.length≤100):CK K c K 0=some (cond (c.AP.all (JP c)) (.inr ()) (.inl 1)):=
 Ke c.AP (fun m i=>CK K c m (i:Int)) (JP c) 1
  (fun m i hi=>by
   show CK K c (m+1) (i:Int)=_;rw[CK.eq_2,ct (dt (by omega)),Cp hi];unfold JP;cases c.AP[i].BY with
   |true=>
    rw[ct rfl,BS (by omega) (by omega),bd (Kx ..),ct rfl];cases Ek c.AP[i].Number 0 ((c.Bb.length:Nat)-1) with
    |false=>rw[nf,Bool.false_and,cf rfl]
    |true=>
     rw[nt,bd (KK ..),Bool.true_and];cases Kk c.AP[i].Bl c.AP[i].Bm 0 100 with
     |false=>rw[nf,cf rfl]
     |true=>rw[nt,BS (by omega) (by omega),Dw i,ct rfl]
   |false=>
    rw[cf rfl,BS (by omega) (by omega),bd (Kx ..),cf rfl];cases Ek c.AP[i].Number 0 ((c.Az.length:Nat)-1) with
    |false=>rw[nf,Bool.false_and,cf rfl]
    |true=>
     rw[nt,bd (KK ..),Bool.true_and];cases Kk c.AP[i].Bl c.AP[i].Bm 0 100 with
     |false=>rw[nf,cf rfl]
     |true=>rw[nt,BS (by omega) (by omega),Dw i,ct rfl])
  (fun m=>by
   show CK K c (m+1) (c.AP.length:Int)=_;rw[CK.eq_2,cf (df (by omega))]) (by omega)
theorem Rj(c:Bh)(hh:c.Az.length≤100)(a:c.Bb.length≤100)(e:c.AP.length≤100)(f:∀l∈c.Bb,l.length≤100):ET K c=some (G0 c):=by
 unfold ET G0
 by_cases h1:3<c.Az.length
 ·rw[ct (dt (by omega)),if_pos (.inl h1)]
 rw[cf (df (by omega))]
 by_cases h2:3<c.Bb.length
 ·rw[ct (dt (by omega)),if_pos (.inr (.inl h2))]
 rw[cf (df (by omega))]
 by_cases g:5<c.AP.length
 ·rw[ct (dt (by omega)),if_pos (.inr (.inr g))]
 rw[cf (df (by omega)),if_neg (by omega)]
 by_cases b:c.Az.length=0
 ·rw[ct (Le (by omega)),if_pos b]
 rw[cf (LI (by omega)),if_neg b,bd (VO hK c hh)];cases h:c.Az.all fun r=>Kk r.Lo r.Hi 0 100 with
 |false=>rw[cf rfl,if_pos (by rfl)];rfl
 |true=>
  rw[ct rfl,if_neg (by simp)];show Option.bind (CV K c K 0) _=_;rw[bd (Ux hK c a f)];cases c.Bb.all (Kz c) with
  |false=>rw[cf rfl,if_pos (by rfl)];rfl
  |true=>
   rw[ct rfl,if_neg (by simp)];show Option.bind (CK K c K 0) _=_;rw[bd (Uy hK c e hh a)];cases c.AP.all (JP c) with
   |false=>rw[cf rfl,if_pos (by rfl)];rfl
   |true=>
    rw[ct rfl,if_neg (by simp)];show Option.bind (Ez K c) _=_;rw[bd (Ri hK c hh (Ow h))]
    by_cases d:2000<GZ c.Az
    ·rw[ct (dt (by omega)),if_pos d]
    ·rw[cf (df (by omega)),if_neg d]
theorem Uz(c:Bh)(l:List Int)(hl:l.length≤100):Gw K c l=some (Ky c l):=by
 unfold Gw Ky;rw[ZO,Us hK _ _ (by omega),run_pure (ok:=fun x=>Ek x 0 30) l () (fun x _ s=>by unfold Jo;rw[bd (K6 ..)];rfl)];cases l.length==c.Az.length with
 |false=>rw[cf rfl,Bool.and_false]
 |true=>rw[ct rfl,Bool.and_true];rfl
theorem VP(c:Bh)(l:List Int)(hl:l.length≤100):F2 K c l=some (Kz c l):=by
 unfold F2 Kz;rw[bd (Uz hK c l hl)];cases hs:Ky c l with
 |false=>rw[cf rfl,Bool.false_and]
 |true=>
  have h2:=(Nr hs).2;rw[ct rfl,bd (Ut hK l hl (fun x a=>by have:=h2 x a;omega)),Bool.true_and]
theorem Xw(c:Bh)(t:Cw)(hh:c.Az.length≤100)(a:c.Bb.length≤100):Gg K c t=some (JP c t):=by
 unfold Gg JP;cases t.BY with
 |true=>
  rw[ct rfl,BS (by omega) (by omega),bd (K6 ..),ct rfl];cases Ek t.Number 0 ((c.Bb.length:Nat)-1) with
  |false=>rw[cf rfl,Bool.false_and]
  |true=>rw[ct rfl,bd (Ov ..),Bool.true_and]
 |false=>
  rw[cf rfl,BS (by omega) (by omega),bd (K6 ..),cf rfl];cases Ek t.Number 0 ((c.Az.length:Nat)-1) with
  |false=>rw[cf rfl,Bool.false_and]
  |true=>rw[ct rfl,bd (Ov ..),Bool.true_and]
theorem M0(c:Bh)(hh:c.Az.length≤100)(e:c.Bb.length≤100)(i:c.AP.length≤100)(f:∀l∈c.Bb,l.length≤100):Ev K c=some (G0 c):=by
 unfold Ev G0
 by_cases h1:3<c.Az.length
 ·rw[ct (dt (by omega)),if_pos (.inl h1)]
 rw[cf (df (by omega))]
 by_cases h2:3<c.Bb.length
 ·rw[ct (dt (by omega)),if_pos (.inr (.inl h2))]
 rw[cf (df (by omega))]
 by_cases g:5<c.AP.length
 ·rw[ct (dt (by omega)),if_pos (.inr (.inr g))]
 rw[cf (df (by omega)),if_neg (by omega)]
 by_cases a:c.Az.length=0
 ·rw[ct (Le (by omega)),if_pos a]
 rw[cf (LI (by omega)),if_neg a,Sk hK _ _ (by omega),run_pure (ok:=fun r=>Kk r.Lo r.Hi 0 100) c.Az () (fun x _ s=>by rw[bd (Ov ..)]),Option.bind_some];cases h:c.Az.all fun r=>Kk r.Lo r.Hi 0 100 with
 |false=>rw[nf,if_pos (by rfl)]
 |true=>
  rw[nt,if_neg (by simp),TR hK _ _ (by omega),run_pure (ok:=Kz c) c.Bb () (fun x b s=>by rw[bd (VP hK c x (f x b))]),Option.bind_some];cases c.Bb.all (Kz c) with
  |false=>rw[nf,if_pos (by rfl)]
  |true=>
   rw[nt,if_neg (by simp),Sm hK _ _ (by omega),run_pure (ok:=JP c) c.AP () (fun x b s=>by rw[bd (Xw hK c x hh e)]),Option.bind_some];cases c.AP.all (JP c) with
   |false=>rw[nf,if_pos (by rfl)]
   |true=>
    rw[nt,if_neg (by simp),bd (Uw hK c hh (Ow h))]
    by_cases d:2000<GZ c.Az
    ·rw[ct (dt (by omega)),if_pos d]
    ·rw[cf (df (by omega)),if_neg d]
end
def AD.C(t:AD):Bh:=⟨t.Aj,t.Ab,t.Aq⟩
def Ih:Int→Int→List BO→Bool
 |_,_,[]=>true
 |s,p,g::l=>Ek g.Bd 0 (s-1)&&(Ek g.B3 0 p&&Ih g.Bd g.B3 l)
def JQ(t:AD)(o:B2):Bool:=Ek o.Cr 0 ((t.AB.length:Nat)-1)&&Ek o.CE 1 90
def KA(t:AD)(n:B6):Bool:=Ek n.BY 0 ((t.Ab.length:Nat)-1)&&Kk n.Ck n.Cl 0 9000
def Gr(t:AD):Int:=
 if G0 t.C≠0 then G0 t.C
 else if 3<t.AB.length∨3<t.AE.length∨5<t.AK.length then 3
 else if !(Ek t.Flat 0 100) then 1
 else if t.AB.length=0 then 1
 else if !(Ih 101 100 t.AB) then 1
 else if !(t.AE.all (JQ t)) then 1
 else if !(t.AK.all (KA t)) then 1 else 0
def VQ (c:Bh):Prop:=c.Az.length≤100∧c.Bb.length≤100∧c.AP.length≤100∧∀l∈c.Bb,l.length≤100
def PB(t:AD):Prop:=VQ t.C∧t.AB.length≤100∧t.AE.length≤100∧t.AK.length≤100
section
variable{K:Nat}(hK:1000≤K)
include hK
theorem Nt(t:AD)(hl:t.AB.length≤100):∀(n m i:Nat) (s p:Int),t.AB.length=i+n→n<m→(i=0→s=101∧p=100)→
  (∀h:0<i,∃h2:i-1<t.AB.length,s=t.AB[i-1].Bd∧p=t.AB[i-1].B3∧s≤100∧p≤100)→
  DW K t m (i:Int)=some (cond (Ih s p (t.AB.drop i)) (.inr ()) (.inl 1))
 |n,0,i,s,p,h,hm,_,_=>by omega
 |0,m+1,i,s,p,h,hm,_,_=>by
  rw[DW.eq_2,cf (df (by omega)),List.drop_eq_nil_of_le (by omega)];rfl
 |n+1,m+1,i,s,p,h,hm,h0,h1=>by
  have hi:i<t.AB.length:=by omega
  rw[DW.eq_2,ct (dt (by omega)),Cp hi,bd (Kx ..),List.drop_eq_getElem_cons hi,Ih];have sp:s≤101∧p≤100:=by
   by_cases e:i=0
   ·have:=h0 e;omega
   ·obtain⟨_,_,_,b⟩:=h1 (by omega);omega
  by_cases hs:0≤t.AB[i].Bd∧t.AB[i].Bd≤100
  ·rw[Ee.2 hs,nt,bd (Kx ..)]
   by_cases a:0≤t.AB[i].B3∧t.AB[i].B3≤100
   ·rw[Ee.2 a,nt]
    by_cases e:i=0
    ·obtain⟨rfl,rfl⟩:=h0 e;rw[cf (df (by omega)),BS (by omega) (by omega),Dw i,Nt t hl n m (i+1) _ _ (by omega) (by omega) (by omega) (fun _=>⟨by simpa using hi,rfl,rfl,hs.2,a.2⟩),
      Ee.2 ⟨hs.1,by omega⟩,Ee.2 a,Bool.true_and,Bool.true_and]
    ·obtain⟨h2,rfl,rfl,b⟩:=h1 (by omega);have c:(i:Int)-1=((i-1:Nat):Int):=by omega
     rw[ct (dt (by omega)),BS (by omega) (by omega),c,Cp h2]
     by_cases g1:t.AB[i-1].Bd≤t.AB[i].Bd
     ·rw[ct (dt g1),Jc.2 (by omega),Bool.false_and,cf rfl]
     ·rw[cf (df g1),BS (by omega) (by omega),Cp h2]
      by_cases g2:t.AB[i-1].B3<t.AB[i].B3
      ·rw[ct (dt g2),Ee.2 ⟨hs.1,by omega⟩,Jc.2 (by omega),Bool.false_and,Bool.true_and,cf rfl]
      ·rw[cf (df g2),BS (by omega) (by omega),Dw i,Nt t hl n m (i+1) _ _ (by omega) (by omega) (by omega) (fun _=>⟨by simpa using hi,rfl,rfl,hs.2,a.2⟩),
        Ee.2 ⟨hs.1,by omega⟩,Ee.2 ⟨a.1,by omega⟩,Bool.true_and,Bool.true_and]
   ·rw[Jc.2 a,nf];have:Ek t.AB[i].B3 0 p=false:=Jc.2 (by omega);rw[this,Bool.false_and,Bool.and_false,cf rfl]
  ·rw[Jc.2 hs,nf,Jc.2 (by omega),Bool.false_and,cf rfl]
theorem O6:∀(l:List BO) (g:BO),0≤g.Bd∧g.Bd≤101→(run (fun(st:BO) (x:BO)=>(Ft K x st).bind fun r=>some (r.1,r.2)) l g).map (·.1)=some (Ih g.Bd g.B3 l)
 |[],g,_=>rfl
 |x::l,g,h=>by
  rw[run,Ih];unfold Ft;rw[BS (by omega) (by omega),bd (Jd ..)];cases hs:Ek x.Bd 0 (g.Bd-1) with
  |false=>rw[cf rfl,Bool.false_and];rfl
  |true=>
   rw[ct rfl,bd (Jd ..),Bool.true_and];cases Ek x.B3 0 g.B3 with
   |false=>rw[Bool.false_and];rfl
   |true=>
    have h1:=Ee.1 hs;rw[Bool.true_and];exact O6 l x (by omega)
theorem Rk{α β b:Type}{x:Option (α×β)}{a:α}{f:α→Option b}(h:x.map (·.1)=some a):x.bind (fun r=>f r.1)=f a:=by
 cases x with
 |none=>cases h
 |some r=>exact congrArg f (Option.some.inj h)
theorem VR(t:AD)(hl:t.AB.length≤100):GW K t=some (decide (0<t.AB.length)&&Ih 101 100 t.AB):=by
 unfold GW
 by_cases h:0<t.AB.length
 ·rw[ct (dt (by omega)),Rf hK _ _ (by omega),dt h,Bool.true_and];exact Rk hK (f:=some) (O6 hK t.AB ⟨101,100⟩ (by simp))
 ·rw[cf (df (by omega)),df h,Bool.false_and]
theorem UA(t:AD)(a:t.AB.length≤100)(hl:t.AE.length≤100):CX K t K 0=some (cond (t.AE.all (JQ t)) (.inr ()) (.inl 1)):=
 Ke t.AE (fun m i=>CX K t m (i:Int)) (JQ t) 1
  (fun m i hi=>by
   show CX K t (m+1) (i:Int)=_;rw[CX.eq_2,ct (dt (by omega)),Cp hi,BS (by omega) (by omega),bd (Kx ..)];unfold JQ;cases Ek t.AE[i].Cr 0 ((t.AB.length:Nat)-1) with
   |false=>rw[nf,Bool.false_and,cf rfl]
   |true=>
    rw[nt,Cp hi,bd (Kx ..),Bool.true_and];cases Ek t.AE[i].CE 1 90 with
    |false=>rw[nf,cf rfl]
    |true=>rw[nt,BS (by omega) (by omega),Dw i,ct rfl])
  (fun m=>by
   show CX K t (m+1) (t.AE.length:Int)=_;rw[CX.eq_2,cf (df (by omega))]) (by omega)
theorem UB(t:AD)(a:t.Ab.length≤100)(hl:t.AK.length≤100):CY K t K 0=some (cond (t.AK.all (KA t)) (.inr ()) (.inl 1)):=
 Ke t.AK (fun m i=>CY K t m (i:Int)) (KA t) 1
  (fun m i hi=>by
   show CY K t (m+1) (i:Int)=_;rw[CY.eq_2,ct (dt (by omega)),Cp hi,BS (by omega) (by omega),bd (Kx ..)];unfold KA;cases Ek t.AK[i].BY 0 ((t.Ab.length:Nat)-1) with
   |false=>rw[nf,Bool.false_and,cf rfl]
   |true=>
    rw[nt,Cp hi,bd (KK ..),Bool.true_and];cases Kk t.AK[i].Ck t.AK[i].Cl 0 9000 with
    |false=>rw[nf,cf rfl]
    |true=>rw[nt,BS (by omega) (by omega),Dw i,ct rfl])
  (fun m=>by
   show CY K t (m+1) (t.AK.length:Int)=_;rw[CY.eq_2,cf (df (by omega))]) (by omega)
theorem UC(t:AD)(hl:PB t):Hl K t=some (Gr t):=by
 obtain⟨⟨hh,a,e,f⟩,b,g,i⟩:=hl;unfold Hl Gr;have j:ET K ⟨t.Aj,t.Ab,t.Aq⟩=some (G0 t.C):=Rj hK t.C hh a e f;rw[bd j]
 by_cases h0:G0 t.C=0
 ·rw[cf (Ib h0),if_neg (by simp[h0])]
  by_cases h1:3<t.AB.length
  ·rw[ct (dt (by omega)),if_pos (.inl h1)]
  rw[cf (df (by omega))]
  by_cases h2:3<t.AE.length
  ·rw[ct (dt (by omega)),if_pos (.inr (.inl h2))]
  rw[cf (df (by omega))]
  by_cases k:5<t.AK.length
  ·rw[ct (dt (by omega)),if_pos (.inr (.inr k))]
  rw[cf (df (by omega)),if_neg (by omega),bd (Kx ..)];cases Ek t.Flat 0 100 with
  |false=>rw[nf,if_pos (by rfl)]
  |true=>
   rw[nt,if_neg (by simp)]
   by_cases c:t.AB.length=0
   ·rw[ct (Le (by omega)),if_pos c]
   have d:=Nt hK t b t.AB.length K 0 101 100 (by omega) (by omega) (fun _=>⟨rfl,rfl⟩) (fun h=>by omega);rw[Int.natCast_zero,List.drop_zero] at d;rw[cf (LI (by omega)),if_neg c,bd d];cases Ih 101 100 t.AB with
   |false=>rw[cf rfl,if_pos (by rfl)];rfl
   |true=>
    rw[ct rfl,if_neg (by simp)];show Option.bind (CX K t K 0) _=_;rw[bd (UA hK t b g)];cases t.AE.all (JQ t) with
    |false=>rw[cf rfl,if_pos (by rfl)];rfl
    |true=>
     rw[ct rfl,if_neg (by simp)];show Option.bind (CY K t K 0) _=_;rw[bd (UB hK t a i)];cases t.AK.all (KA t) with
     |false=>rw[cf rfl,if_pos (by rfl)];rfl
     |true=>rw[ct rfl,if_neg (by simp)];rfl
 ·rw[ct (J1 h0),if_pos h0]
theorem Xx(t:AD)(n:Int)(a:t.Ab.length≤100):HG K t n=some (Ek n 0 ((t.Ab.length:Nat)-1)):=by
 unfold HG;rw[BS (by omega) (by omega),bd (Jd ..)]
theorem Xy(t:AD)(o:B2)(a:t.AB.length≤100):Gi K t o=some (JQ t o):=by
 unfold Gi JQ;rw[BS (by omega) (by omega),bd (Jd ..)];cases Ek o.Cr 0 ((t.AB.length:Nat)-1) with
 |false=>rw[cf rfl,Bool.false_and]
 |true=>rw[ct rfl,bd (Jd ..),Bool.true_and]
theorem ZQ(t:AD)(o:B6)(a:t.Ab.length≤100):Gx K t o=some (KA t o):=by
 unfold Gx KA;rw[bd (Xx hK t _ a)];cases Ek o.BY 0 ((t.Ab.length:Nat)-1) with
 |false=>rw[cf rfl,Bool.false_and]
 |true=>rw[ct rfl,bd (Aa5 ..),Bool.true_and]
theorem Rl(t:AD)(hl:PB t):Gy K t=some (Gr t):=by
 obtain⟨⟨hh,a,d,e⟩,b,j,k⟩:=hl;unfold Gy Gr;have f:Ev K ⟨t.Aj,t.Ab,t.Aq⟩=some (G0 t.C):=M0 hK t.C hh a d e;rw[bd f]
 by_cases h0:G0 t.C=0
 ·rw[cf (Ib h0),if_neg (by simp[h0])]
  by_cases h1:3<t.AB.length
  ·rw[ct (dt (by omega)),if_pos (.inl h1)]
  rw[cf (df (by omega))]
  by_cases h2:3<t.AE.length
  ·rw[ct (dt (by omega)),if_pos (.inr (.inl h2))]
  rw[cf (df (by omega))]
  by_cases g:5<t.AK.length
  ·rw[ct (dt (by omega)),if_pos (.inr (.inr g))]
  have h:Jp K t.Flat=some (Ek t.Flat 0 100):=by unfold Jp;rw[bd (Jd ..)]
  rw[cf (df (by omega)),if_neg (by omega),bd h];cases Ek t.Flat 0 100 with
  |false=>rw[nf,if_pos (by rfl)]
  |true=>
   rw[nt,if_neg (by simp),bd (VR hK t b)]
   by_cases c:t.AB.length=0
   ·rw[df (by omega),Bool.false_and,nf,if_pos c]
   rw[if_neg c,dt (by omega),Bool.true_and];cases Ih 101 100 t.AB with
   |false=>rw[nf,if_pos (by rfl)]
   |true=>
    rw[nt,if_neg (by simp),Rg hK _ _ (by omega),run_pure (ok:=JQ t) t.AE () (fun x i s=>by rw[bd (Xy hK t x b)]),Option.bind_some];cases t.AE.all (JQ t) with
    |false=>rw[nf,if_pos (by rfl)]
    |true=>
     rw[nt,if_neg (by simp),Sn hK _ _ (by omega),run_pure (ok:=KA t) t.AK () (fun x i s=>by rw[bd (ZQ hK t x a)]),Option.bind_some];cases t.AK.all (KA t) with
     |false=>rw[nf,if_pos (by rfl)]
     |true=>rw[nt,if_neg (by simp)]
 ·rw[ct (J1 h0),if_pos h0]
end
def GP:List AL→List Int→Bool
 |[],[]=>true
 |r::rs,x::xs=>Ek x r.Lo r.Hi&&GP rs xs
 |_,_=>false
theorem ZR(r:AL)(rs:List AL):GP (r::rs) []=false:=rfl
theorem ZS(x:Int)(xs:List Int):GP [] (x::xs)=false:=rfl
theorem UD:GP [] []=true:=rfl
theorem Kl:∀{rs:List AL} {l:List Int},GP rs l=true→l.length=rs.length
 |[],[],_=>rfl
 |[],_::_,h=>by cases h
 |_::_,[],h=>by cases h
 |r::rs,x::xs,h=>by
  rw[GP,Bool.and_eq_true] at h;rw[List.length_cons,List.length_cons,Kl h.2]
theorem Rm:∀{rs:List AL} {l:List Int},(∀r∈rs,IQ r)→GP rs l=true→∀x∈l,0≤x∧x≤100
 |[],[],_,_,x,a=>by cases a
 |[],_::_,_,h,_,_=>by cases h
 |_::_,[],_,h,_,_=>by cases h
 |r::rs,y::xs,hr,h,x,a=>by
  rw[GP,Bool.and_eq_true] at h;rcases List.mem_cons.1 a with rfl|a
  ·have h1:=Ee.1 h.1;have h2:IQ r:=hr r (List.mem_cons_self ..);unfold IQ at h2;omega
  ·exact Rm (fun r b=>hr r (List.mem_cons_of_mem _ b)) h.2 x a
def dot:List Int→List Int→Int
 |w::ws,x::xs=>w*x+dot ws xs
 |_,_=>0
theorem Xz(l:List Int):dot l []=0:=by cases l<;>rfl
def DD(l w:List Int):Int:=dot w l/w.sum
theorem O7:∀(w l:List Int),(∀x∈w,0≤x∧x≤30)→(∀x∈l,0≤x∧x≤100)→0≤dot w l∧dot w l≤100*w.sum
 |[],l,_,_=>by simp[dot]
 |w::ws,[],hw,_=>by
  have:=(Mh (a:=0) (b:=30) (by omega) (by omega) (w::ws) hw).1;simp only[dot];omega
 |w::ws,x::xs,hw,d=>by
  have h1:=hw w (List.mem_cons_self ..);have h2:=d x (List.mem_cons_self ..);have e:=O7 ws xs (fun y c=>hw y (List.mem_cons_of_mem _ c)) (fun y c=>d y (List.mem_cons_of_mem _ c));have f:w*x≤w*100:=Int.mul_le_mul_of_nonneg_left h2.2 h1.1;have g:=Int.mul_nonneg h1.1 h2.1;rw[dot,List.sum_cons];omega
theorem SK{w l:List Int}(hw:∀x∈w,0≤x∧x≤30)(hl:∀x∈l,0≤x∧x≤100)(hs:0<w.sum):0≤DD l w∧DD l w≤100:=by
 have h:=O7 w l hw hl;unfold DD;refine⟨Int.ediv_nonneg h.1 (by omega),?_⟩;have:=Int.ediv_le_ediv hs h.2
 rwa[Int.mul_ediv_cancel _ (by omega)] at this
def Is (c:Bh) (l:List Int) (t:Cw):Int:=cond t.BY (DD l (c.Bb.getD t.Number.toNat [])) (l.getD t.Number.toNat 0)
def O8(c:Bh)(l:List Int):Bool:=c.AP.all fun t=>Ek (Is c l t) t.Bl t.Bm
def E6(c:Bh)(l:List Int):Bool:=GP c.Az l&&O8 c l
def Lf:List AL→Int→List Int
 |[],_=>[]
 |r::rs,n=>(r.Lo+n%Dx r)::Lf rs (n/Dx r)
structure OkC (c:Bh):Prop where
 len:VQ c
 fault:G0 c=0
 many:GZ c.Az≤150
theorem II{c:Bh}(h:G0 c=0):c.Az.length≤3∧c.Bb.length≤3∧c.AP.length≤5∧0<c.Az.length∧(∀r∈c.Az,IQ r)∧(∀l∈c.Bb,Kz c l=true)∧(∀t∈c.AP,JP c t=true)∧GZ c.Az≤2000:=by
 unfold G0 at h;split at h
 ·omega
 rename_i h1
 split at h
 ·omega
 rename_i h2
 split at h
 ·omega
 rename_i a
 split at h
 ·omega
 rename_i b
 split at h
 ·omega
 rename_i d
 split at h
 ·omega
 rename_i e
 refine⟨by omega,by omega,by omega,by omega,Ow (by simpa using a),?_,?_,by omega⟩
 ·exact List.all_eq_true.1 (by simpa using b)
 ·exact List.all_eq_true.1 (by simpa using d)
namespace OkC
variable{c:Bh}(h:OkC c)
include h
theorem hl:c.Az.length≤3:=(II h.fault).1
theorem cl:c.Bb.length≤3:=(II h.fault).2.1
theorem tl:c.AP.length≤5:=(II h.fault).2.2.1
theorem h0:0<c.Az.length:=(II h.fault).2.2.2.1
theorem ok:∀r∈c.Az,IQ r:=(II h.fault).2.2.2.2.1
theorem EH:∀l∈c.Bb,l.length=c.Az.length∧(∀x∈l,0≤x∧x≤30)∧0<l.sum∧l.sum≤90:=fun l hl=>by
 have h1:=(II h.fault).2.2.2.2.2.1 l hl;unfold Kz at h1;rw[Bool.and_eq_true,decide_eq_true_eq] at h1;have h2:=Nr h1.1;have d:=Mh (a:=0) (b:=30) (by omega) (by omega) l h2.2;have e:=h.hl;exact⟨h2.1,h2.2,h1.2,by omega⟩
theorem W0:∀t∈c.AP,0≤t.Number∧(t.BY=true→t.Number<c.Bb.length)∧(t.BY=false→t.Number<c.Az.length):=fun t a=>by
 have h1:=(II h.fault).2.2.2.2.2.2.1 t a;unfold JP at h1;rw[Bool.and_eq_true] at h1;have h2:=Ee.1 h1.1;refine⟨h2.1,fun e=>?_,fun e=>?_⟩
 ·rw[e,cond_true] at h2;omega
 ·rw[e,cond_false] at h2;omega
end OkC
theorem O9(r:AL)(l:List AL):GZ (r::l)=Dx r*GZ l:=by
 have:∀(l:List AL) (s:Int),l.foldl (fun n r=>n*Dx r) s=s*l.foldl (fun n r=>n*Dx r) 1:=by
  intro l
  induction l with
  |nil=>intro s;simp
  |cons r l ih=>intro s;rw[List.foldl_cons,List.foldl_cons,ih,ih (1*Dx r),Int.one_mul,Int.mul_assoc]
 unfold GZ;rw[List.foldl_cons,this,Int.one_mul]
theorem SL:∀{rs:List AL} {l:List Int},(∀r∈rs,IQ r)→GP rs l=true→∃n:Nat,(n:Int)<GZ rs∧Lf rs (n:Int)=l
 |[],[],_,_=>⟨0,by simp[GZ],rfl⟩
 |[],_::_,_,h=>by cases h
 |_::_,[],_,h=>by cases h
 |r::rs,x::xs,hr,h=>by
  rw[GP,Bool.and_eq_true] at h;obtain⟨n,d,e⟩:=SL (fun r b=>hr r (List.mem_cons_of_mem _ b)) h.2;have h1:=Ee.1 h.1;have h2:=Iy (hr r (List.mem_cons_self ..));have a:0≤x-r.Lo∧x-r.Lo<Dx r:=by unfold Dx;omega
  have c:0≤Dx r*(n:Int):=Int.mul_nonneg (by omega) (by omega);refine⟨(x-r.Lo+Dx r*n).toNat,?_,?_⟩
  ·rw[O9];have:Dx r*((n:Int)+1)≤Dx r*GZ rs:=Int.mul_le_mul_of_nonneg_left (by omega) (by omega);rw[Int.mul_add] at this;omega
  ·rw[Int.toNat_of_nonneg (by omega),Lf,Int.add_mul_emod_self_left,Int.emod_eq_of_lt a.1 a.2,Int.add_mul_ediv_left _ _ (by omega),Int.ediv_eq_zero_of_lt a.1 a.2,Int.zero_add,e]
   congr 1;omega
def Et (c:Bh):List (List Int):=((List.range (GZ c.Az).toNat).map fun n:Nat=>Lf c.Az (n:Int)).filter (E6 c)
theorem Jt{c:Bh}(a:OkC c){l:List Int}:l∈Et c↔E6 c l=true:=by
 unfold Et;rw[List.mem_filter,List.mem_map];refine⟨fun h=>h.2,fun h=>⟨?_,h⟩⟩;have h1:=h;unfold E6 at h1;rw[Bool.and_eq_true] at h1;obtain⟨n,b,e⟩:=SL a.ok h1.1;exact⟨n,List.mem_range.2 (by omega),e⟩
theorem Ox{c:Bh}{l:List Int}(h:E6 c l=true):GP c.Az l=true:=by
 unfold E6 at h;rw[Bool.and_eq_true] at h;exact h.1
section
variable{K:Nat}(hK:1000≤K)
include hK
theorem Rn(c:Bh)(l:List Int)(hh:c.Az.length≤100)(hl:l.length≤100):∀(n m i:Nat),l.length=i+n→i≤c.Az.length→n<m→
  (DY K c l m (i:Int)).bind (fun z=>Sum.elim (fun q=>some q) (fun _=>some ((l.length:Int)==(c.Az.length:Int))) z)=some (GP (c.Az.drop i) (l.drop i))
 |n,0,i,h,_,hm=>by omega
 |0,m+1,i,h,hi,hm=>by
  rw[DY.eq_2,cf (df (by omega)),List.drop_eq_nil_of_le (by omega:l.length≤i)];show some ((l.length:Int)==(c.Az.length:Int))=_
  by_cases e:i<c.Az.length
  ·rw[List.drop_eq_getElem_cons e,LI (by omega),ZR]
  ·rw[List.drop_eq_nil_of_le (by omega),Le (by omega),UD]
 |n+1,m+1,i,h,hi,hm=>by
  have h1:i<l.length:=by omega
  rw[DY.eq_2,ct (dt (by omega)),List.drop_eq_getElem_cons h1]
  by_cases e:i<c.Az.length
  ·rw[ct (dt (by omega)),Cp h1,Cp e,Cp e,bd (Kx ..),List.drop_eq_getElem_cons e,GP];cases Ek l[i] c.Az[i].Lo c.Az[i].Hi with
   |false=>rw[nf,Bool.false_and];rfl
   |true=>
    rw[nt,BS (by omega) (by omega),Dw i,Bool.true_and];exact Rn c l hh hl n m (i+1) (by omega) (by omega) (by omega)
  ·rw[cf (df (by omega)),List.drop_eq_nil_of_le (by omega:c.Az.length≤i)];show some ((l.length:Int)==(c.Az.length:Int))=_;rw[LI (by omega),ZS]
theorem TU(c:Bh)(l:List Int)(hh:c.Az.length≤100)(hl:l.length≤100):Hw K c l=some (GP c.Az l):=by
 have:=Rn hK c l hh hl l.length K 0 (by omega) (by omega) (by omega);rw[Int.natCast_zero,List.drop_zero,List.drop_zero] at this;exact this
omit hK in
theorem UE (l w:List Int) (hl:l.length≤100) (hw:l.length=w.length) (bw:∀x∈w,0≤x∧x≤30) (bl:∀x∈l,0≤x∧x≤100):∀(n m i:Nat) (s:Int),l.length=i+n→n<m→0≤s∧s≤3000*(i:Int)→
  E5 l w m s (i:Int)=some (s+dot (w.drop i) (l.drop i))
 |n,0,i,s,h,hm,_=>by omega
 |0,m+1,i,s,h,hm,hs=>by
  rw[E5.eq_2,cf (df (by omega)),List.drop_eq_nil_of_le (by omega:l.length≤i),Xz,Int.add_zero]
 |n+1,m+1,i,s,h,hm,hs=>by
  have h1:i<l.length:=by omega
  have h2:i<w.length:=by omega
  have b1:=bw _ (List.getElem_mem h2)
  have b2:=bl _ (List.getElem_mem h1)
  have b3:=J5 b1.1 b1.2 b2.1 b2.2
  rw[E5.eq_2,ct (dt (by omega)),Cp h2,Cp h1,BS (by omega) (by omega),BS (by omega) (by omega),BS (by omega) (by omega),Dw i,
   UE l w hl hw bw bl n m (i+1) _ (by omega) (by omega) (by omega),List.drop_eq_getElem_cons h1,List.drop_eq_getElem_cons h2,dot,Int.add_assoc]
theorem ZT{l w:List Int}(hl:l.length≤100)(hw:l.length=w.length)(bw:∀x∈w,0≤x∧x≤30)(bl:∀x∈l,0≤x∧x≤100)(hs:0<w.sum):D5 K l w=some (DD l w):=by
 unfold D5;have h:=UE l w hl hw bw bl l.length K 0 0 (by omega) (by omega) (by omega);rw[Int.natCast_zero,Int.zero_add,List.drop_zero,List.drop_zero] at h;have h2:=O7 w l bw bl;have e:=Mh (a:=0) (b:=30) (by omega) (by omega) w bw;have c:=SK bw bl hs;unfold DD at c⊢;rw[bd h,bd (Rh hK w (by omega) (fun x d=>by have:=bw x d;omega)),VN (by omega) (by omega),BS (by omega) (by omega)]
end
theorem Df{α:Type}{l:List α}{i:Nat}(d:α)(h:i<l.length):l.getD i d=l[i]:=by simp[List.getElem?_eq_getElem h]
section
variable{K:Nat}(hK:1000≤K)
include hK
theorem Nu{c:Bh}(a:OkC c){l:List Int}(hl:GP c.Az l=true){k:Nat}(hk:k<c.Bb.length):D5 K l c.Bb[k]=some (DD l c.Bb[k]):=by
 obtain⟨h1,h2,b,_⟩:=a.EH _ (List.getElem_mem hk);have hh:=Kl hl;have:=a.hl;exact ZT hK (by omega) (by omega) h2 (Rm a.ok hl) b
theorem VS{c:Bh}(b:OkC c){l:List Int}(hl:GP c.Az l=true){t:Cw}(d:t∈c.AP):Hj K c l t=some (Ek (Is c l t) t.Bl t.Bm):=by
 obtain⟨h0,h1,h2⟩:=b.W0 t d;have hh:=Kl hl;have:=b.hl;have:=b.cl;unfold Hj Is;cases e:t.BY with
 |true=>
  have f:=h1 e;obtain⟨k,hk⟩:∃k:Nat,t.Number=k:=⟨t.Number.toNat,by omega⟩;have a:k<c.Bb.length:=by omega
  rw[ct rfl,BS (by omega) (by omega),ct rfl,hk];unfold Ht;have g:(k:Int)+(c.Az.length:Int)-(l.length:Int)=(k:Int):=by omega
  rw[cf (df (by omega)),BS (by omega) (by omega),g,Cp a,bd (Nu hK b hl a),Option.bind_some,bd (Kx ..),Int.toNat_natCast,Df _ a]
 |false=>
  have f:=h2 e;obtain⟨k,hk⟩:∃k:Nat,t.Number=k:=⟨t.Number.toNat,by omega⟩;have a:k<l.length:=by omega
  rw[cf rfl,cf rfl,hk];unfold Ht;rw[ct (dt (by omega)),Cp a,Option.bind_some,bd (Kx ..),Int.toNat_natCast,Df _ a]
theorem TV{c:Bh}(a:OkC c){l:List Int}(b:l.length≤100):GB K c l=some (E6 c l):=by
 have:=a.hl;have:=a.tl;unfold GB E6;rw[bd (TU hK c l (by omega) b)];cases hl:GP c.Az l with
 |false=>rw[nf,Bool.false_and]
 |true=>
  have h:Db K c l K 0=some (cond (c.AP.all fun t=>Ek (Is c l t) t.Bl t.Bm) (.inr ()) (.inl false)):=
   Ke c.AP (fun m i=>Db K c l m (i:Int)) (fun t=>Ek (Is c l t) t.Bl t.Bm) false
    (fun m i hi=>by
     show Db K c l (m+1) (i:Int)=_;rw[Db.eq_2,ct (dt (by omega)),Cp hi,bd (VS hK a hl (List.getElem_mem hi))];cases Ek (Is c l c.AP[i]) c.AP[i].Bl c.AP[i].Bm with
     |false=>rw[nf,cf rfl]
     |true=>rw[nt,BS (by omega) (by omega),Dw i,ct rfl])
    (fun m=>by
     show Db K c l (m+1) (c.AP.length:Int)=_;rw[Db.eq_2,cf (df (by omega))]) (by omega)
  rw[nt,bd h,Bool.true_and];unfold O8;cases c.AP.all fun t=>Ek (Is c l t) t.Bl t.Bm with
  |false=>rfl
  |true=>rfl
theorem W1{c:Bh}(hl:c.Az.length≤100)(b:∀r∈c.Az,IQ r):∀(d m i:Nat) (n:Int) (out:List Int),c.Az.length=i+d→d<m→0≤n∧n≤5000→out.length≤i→
  Fl K c m n out (i:Int)=some (out++Lf (c.Az.drop i) n)
 |d,0,i,n,out,h,hm,_,_=>by omega
 |0,m+1,i,n,out,h,hm,_,_=>by
  rw[Fl.eq_2,cf (df (by omega)),List.drop_eq_nil_of_le (by omega:c.Az.length≤i),Lf,List.append_nil]
 |d+1,m+1,i,n,out,h,hm,a,e=>by
  have hi:i<c.Az.length:=by omega
  have h1:=b _ (List.getElem_mem hi);have h2:=Iy h1;have f:=Int.emod_nonneg n (by omega:Dx c.Az[i]≠0);have g:=Int.emod_lt_of_pos n (by omega:0<Dx c.Az[i]);have j:0≤n/Dx c.Az[i]:=Int.ediv_nonneg a.1 (by omega);have k:n/Dx c.Az[i]≤n:=Int.ediv_le_self _ a.1;have l:0≤c.Az[i].Lo∧c.Az[i].Lo≤100:=by unfold IQ at h1;omega
  rw[Fl.eq_2,ct (dt (by omega)),Cp hi,bd (Ns K h1),TQ a.1 h2.1,BS (by omega) (by omega),FV (by simp;omega),bd (Ns K h1),VN a.1 h2.1,BS (by omega) (by omega),BS (by omega) (by omega),Dw i,
   W1 hl b d m (i+1) _ _ (by omega) (by omega) (by omega) (by simp;omega),List.drop_eq_getElem_cons hi,Lf,List.append_assoc]
  rfl
theorem ZU{c:Bh}(hl:c.Az.length≤100)(a:∀r∈c.Az,IQ r){n:Int}(b:0≤n∧n≤5000):H8 K c n=some (Lf c.Az n):=by
 unfold H8;have:=W1 hK hl a c.Az.length K 0 n [] (by omega) (by omega) b (by simp);rw[Int.natCast_zero,List.drop_zero,List.nil_append] at this;rw[bd this]
theorem VT(rs:List AL):∀n,(Lf rs n).length=rs.length:=by
 clear hK
 induction rs with
 |nil=>intro n;rfl
 |cons r rs ih=>intro n;rw[Lf,List.length_cons,List.length_cons,ih]
theorem SM{c:Bh}(a:OkC c):Ez K c=some (GZ c.Az):=by
 have:=a.hl;have:=a.many;rw[Ri hK c (by omega) a.ok,Int.min_eq_right (by omega)]
theorem VU{c:Bh}(a:OkC c):1≤GZ c.Az:=Qa c.Az 1 a.ok (by omega)
theorem Nv{c:Bh}(a:OkC c):∀(d m i:Nat) (acc:List (List Int)),GZ c.Az=(i:Int)+d→d<m→acc.length≤i→
  DU K c m acc (i:Int)=some (acc++((List.range' i d).map fun n:Nat=>Lf c.Az (n:Int)).filter (E6 c))
 |d,0,i,acc,h,hm,_=>by omega
 |0,m+1,i,acc,h,hm,_=>by
  rw[DU.eq_2,bd (SM hK a),cf (df (by omega))];simp
 |d+1,m+1,i,acc,h,hm,ha=>by
  have b:=a.many;have hh:=a.hl;rw[DU.eq_2,bd (SM hK a),ct (dt (by omega)),bd (ZU hK (by omega) a.ok (by omega)),bd (TV hK a (by rw[VT hK];omega)),List.range'_succ,List.map_cons,List.filter_cons];cases E6 c (Lf c.Az (i:Int)) with
  |true=>
   rw[ct rfl,FV (by simp;omega),BS (by omega) (by omega),Dw i,Nv a d m (i+1) _ (by omega) (by omega) (by simp;omega),List.append_assoc];rfl
  |false=>
   rw[cf rfl,BS (by omega) (by omega),Dw i,Nv a d m (i+1) _ (by omega) (by omega) (by omega)];rfl
theorem Qb{c:Bh}(a:OkC c):EA K c=some (Et c):=by
 unfold EA Et;have h1:=VU hK a;have h2:=a.many;have:=Nv hK a (GZ c.Az).toNat K 0 [] (by omega) (by omega) (by simp);rw[Int.natCast_zero,List.nil_append] at this;rw[bd this,List.range_eq_range']
theorem MG(p:List Int)(x:Int)(b:p.length≤900):E1 K p x=some (p.contains x):=by
 have h:∀(n m i:Nat),p.length=i+n→n<m→((E0 p x m (i:Int)).bind fun z=>Sum.elim (fun q=>some q) (fun _=>some (-1)) z).bind (fun r=>some (decide ((0:Int)≤r)))=some ((p.drop i).contains x):=by
  intro n
  induction n with
  |zero=>
   intro m i h hm;obtain⟨m,rfl⟩:∃a,m=a+1:=⟨m-1,by omega⟩;rw[E0.eq_2,cf (df (by omega)),List.drop_eq_nil_of_le (by omega)];rfl
  |succ n ih=>
   intro m i h hm;obtain⟨m,rfl⟩:∃a,m=a+1:=⟨m-1,by omega⟩;have hi:i<p.length:=by omega
   rw[E0.eq_2,ct (dt (by omega)),Cp hi,List.drop_eq_getElem_cons hi,List.contains_cons];cases e:x==p[i] with
   |true=>
    rw[ct rfl,Bool.true_or];show some (decide ((0:Int)≤(i:Int)))=some true;rw[dt (by omega)]
   |false=>rw[cf rfl,BS (by omega) (by omega),Dw i,Bool.false_or];exact ih m (i+1) (by omega) (by omega)
 have:=h p.length K 0 (by omega) (by omega);rw[Int.natCast_zero,List.drop_zero] at this;exact this
end
def arr (l:List Int):Bo:=⟨l.getD 0 0,l.getD 1 0,l.getD 2 0⟩
theorem ZV(l:List Int):(⟨0,0,0⟩:Bo).cp l=arr l:=rfl
theorem XA{w l:List Int}(a:l.length≤3)(h:w.length=l.length):dot w [(arr l).a0,(arr l).a1,(arr l).a2]=dot w l:=by
 match w,l,a,h with
 |[],[],_,_=>rfl
 |[_],[_],_,_=>rfl
 |[_,_],[_,_],_,_=>rfl
 |[_,_,_],[_,_,_],_,_=>rfl
 |_::_::_::_::_,_::_::_::_::_,a,_=>simp at a
theorem JX{l:List Int}(a:l.length≤3){k:Nat}(hk:k<l.length):idx [(arr l).a0,(arr l).a1,(arr l).a2] (k:Int)=some l[k]:=by
 match l,k,a,hk with
 |_::_,0,_,_=>rfl
 |_::_::_,1,_,_=>rfl
 |_::_::_::_,2,_,_=>rfl
 |l,k+3,a,hk=>omega
theorem ZW{l:List Int}(b:∀x∈l,0≤x∧x≤100):∀x∈[(arr l).a0,(arr l).a1,(arr l).a2],0≤x∧x≤100:=by
 have h:∀k,0≤l.getD k 0∧l.getD k 0≤100:=fun k=>by
  by_cases hk:k<l.length
  ·rw[Df _ hk];exact b _ (List.getElem_mem hk)
  ·rw[List.getD_eq_getElem?_getD,List.getElem?_eq_none (by omega)];simp
 intro x a;simp only[arr,List.mem_cons,List.not_mem_nil,or_false] at a;rcases a with rfl|rfl|rfl<;>exact h _
theorem SN(s:Bo)(w:List Int)(hw:w.length≤3)(bw:∀x∈w,0≤x∧x≤30)(bl:∀x∈[s.a0,s.a1,s.a2],0≤x∧x≤100):∀(n m i:Nat) (z:Int),w.length=i+n→n<m→0≤z∧z≤3000*(i:Int)→
  Ef s w m z (i:Int)=some (z+dot (w.drop i) ([s.a0,s.a1,s.a2].drop i))
 |n,0,i,z,h,hm,_=>by omega
 |0,m+1,i,z,h,hm,hs=>by
  rw[Ef.eq_2,cf (df (by omega)),List.drop_eq_nil_of_le (by omega:w.length≤i)];simp[dot]
 |n+1,m+1,i,z,h,hm,hs=>by
  have h2:i<w.length:=by omega
  have h1:i<[s.a0,s.a1,s.a2].length:=by simp;omega
  have b1:=bw _ (List.getElem_mem h2);have b2:=bl _ (List.getElem_mem h1);have b3:=J5 b1.1 b1.2 b2.1 b2.2;rw[Ef.eq_2,ct (dt (by omega)),Cp h2,Cp h1,BS (by omega) (by omega),BS (by omega) (by omega),BS (by omega) (by omega),Dw i,
   SN s w hw bw bl n m (i+1) _ (by omega) (by omega) (by omega),List.drop_eq_getElem_cons h1,List.drop_eq_getElem_cons h2,dot,Int.add_assoc]
section
variable{K:Nat}(hK:1000≤K)
include hK
theorem XB{l w:List Int}(hl:l.length≤3)(hw:w.length=l.length)(bw:∀x∈w,0≤x∧x≤30)(bl:∀x∈l,0≤x∧x≤100)(hs:0<w.sum):E2 K (arr l) w=some (DD l w):=by
 unfold E2;have h:=SN (arr l) w (by omega) bw (ZW bl) w.length K 0 0 (by omega) (by omega) (by omega);rw[Int.natCast_zero,Int.zero_add,List.drop_zero,List.drop_zero,XA hl hw] at h;have h2:=O7 w l bw bl;have e:=Mh (a:=0) (b:=30) (by omega) (by omega) w bw;have c:=SK bw bl hs;unfold DD at c⊢;rw[bd h,bd (Ut hK w (by omega) (fun x d=>by have:=bw x d;omega)),VN (by omega) (by omega),BS (by omega) (by omega)]
theorem Pa{c:Bh}(a:OkC c){l:List Int}(hl:GP c.Az l=true){k:Nat}(hk:k<c.Bb.length):E2 K (arr l) c.Bb[k]=some (DD l c.Bb[k]):=by
 obtain⟨h1,h2,b,_⟩:=a.EH _ (List.getElem_mem hk);have hh:=Kl hl;have:=a.hl;exact XB hK (by omega) (by omega) h2 (Rm a.ok hl) b
theorem VV{c:Bh}(b:OkC c){l:List Int}(hl:GP c.Az l=true):Hf K c (arr l) []=some (O8 c l):=by
 have hh:=Kl hl;have d:=b.hl;have:=b.cl;have:=b.tl;unfold Hf;have h:C8 K c (arr l) [] K 0=some (cond (c.AP.all fun t=>Ek (Is c l t) t.Bl t.Bm) (.inr ()) (.inl false)):=
  Ke c.AP (fun m i=>C8 K c (arr l) [] m (i:Int)) (fun t=>Ek (Is c l t) t.Bl t.Bm) false
   (fun m i hi=>by
    show C8 K c (arr l) [] (m+1) (i:Int)=_;obtain⟨h0,h1,h2⟩:=b.W0 _ (List.getElem_mem hi);have e:He K c c.AP[i]=some (cond c.AP[i].BY ((c.Az.length:Int)+c.AP[i].Number) c.AP[i].Number):=by
     unfold He;cases e:c.AP[i].BY with
     |true=>have:=h1 e;rw[ct rfl,BS (by omega) (by omega),ct rfl]
     |false=>rw[cf rfl,cf rfl]
    have f:Ip K c (arr l) (cond c.AP[i].BY ((c.Az.length:Int)+c.AP[i].Number) c.AP[i].Number)=some (Is c l c.AP[i]):=by
     unfold Ip Is;cases e:c.AP[i].BY with
     |true=>
      have d:=h1 e;obtain⟨k,hk⟩:∃k:Nat,c.AP[i].Number=k:=⟨c.AP[i].Number.toNat,by omega⟩;have a:k<c.Bb.length:=by omega
      have g:(c.Az.length:Int)+(k:Int)-(c.Az.length:Int)=(k:Int):=by omega
      rw[ct rfl,ct rfl,hk,ct (dt (by omega)),BS (by omega) (by omega),g,Cp a,bd (Pa hK b hl a),Int.toNat_natCast,Df _ a]
     |false=>
      have o:=h2 e;obtain⟨k,hk⟩:∃k:Nat,c.AP[i].Number=k:=⟨c.AP[i].Number.toNat,by omega⟩;have a:k<l.length:=by omega
      rw[cf rfl,cf rfl,hk,cf (df (by omega)),bd (JX (by omega) a),Int.toNat_natCast,Df _ a]
    have j:FM K ⟨c.AP[i].Bl,c.AP[i].Bm⟩ (Is c l c.AP[i])=some (Ek (Is c l c.AP[i]) c.AP[i].Bl c.AP[i].Bm):=by
     unfold FM;rw[bd (K6 ..)]
    have n:List.contains ([]:List Int) (i:Int)=false:=rfl;rw[C8.eq_2,ct (dt (by omega)),Cp hi,bd (MG hK [] _ (by simp)),n,nf,bd e,bd f,bd j];cases Ek (Is c l c.AP[i]) c.AP[i].Bl c.AP[i].Bm with
    |false=>rw[nf,cf rfl]
    |true=>rw[nt,BS (by omega) (by omega),Dw i,ct rfl])
   (fun m=>by
    show C8 K c (arr l) [] (m+1) (c.AP.length:Int)=_;rw[C8.eq_2,cf (df (by omega))]) (by omega)
 rw[bd h];unfold O8;cases c.AP.all fun t=>Ek (Is c l t) t.Bl t.Bm with
 |false=>rfl
 |true=>rfl
theorem Qc(c:Bh)(l:List Int)(hh:c.Az.length≤100)(he:l.length=c.Az.length):∀(n m i:Nat),l.length=i+n→n<m→
  Eo K c l m (i:Int)=some (cond (GP (c.Az.drop i) (l.drop i)) (.inr ()) (.inl false))
 |n,0,i,h,hm=>by omega
 |0,m+1,i,h,hm=>by
  rw[Eo.eq_2,cf (df (by omega)),List.drop_eq_nil_of_le (by omega:l.length≤i),List.drop_eq_nil_of_le (by omega:c.Az.length≤i),UD,ct rfl]
 |n+1,m+1,i,h,hm=>by
  have h1:i<l.length:=by omega
  have h2:i<c.Az.length:=by omega
  have e:FM K c.Az[i] l[i]=some (Ek l[i] c.Az[i].Lo c.Az[i].Hi):=by unfold FM;rw[bd (K6 ..)]
  rw[Eo.eq_2,ct (dt (by omega)),Cp h2,Cp h1,bd e,List.drop_eq_getElem_cons h1,List.drop_eq_getElem_cons h2,GP];cases Ek l[i] c.Az[i].Lo c.Az[i].Hi with
  |false=>rw[nf,Bool.false_and,cf rfl]
  |true=>rw[nt,BS (by omega) (by omega),Dw i,Bool.true_and,Qc c l hh he n m (i+1) (by omega) (by omega)]
theorem ZX{rs:List AL}{l:List Int}(h:l.length≠rs.length):GP rs l=false:=by
 rw[Bool.eq_false_iff];intro g;exact h (Kl g)
theorem Qd(c:Bh)(l:List Int)(hh:c.Az.length≤100)(hl:l.length≤100):F3 K c l=some (cond (GP c.Az l) (arr l) ⟨0,0,0⟩,GP c.Az l):=by
 unfold F3
 by_cases he:l.length=c.Az.length
 ·have:=Qc hK c l hh he l.length K 0 (by omega) (by omega);rw[Int.natCast_zero,List.drop_zero,List.drop_zero] at this;rw[cf (Ib (by omega)),bd this,ZV];cases GP c.Az l<;>rfl
 ·rw[ct (J1 (by omega)),ZX hK he,cf rfl]
theorem Ro{c:Bh}(a:OkC c):Ev K c=some 0:=by
 rw[M0 hK c a.len.1 a.len.2.1 a.len.2.2.1 a.len.2.2.2,a.fault]
theorem Qz{c:Bh}(a:OkC c){l:List Int}(hl:l.length≤100):G5 K c l=some (E6 c l):=by
 have:=a.hl;unfold G5 E6;rw[bd (Ro hK a),cf (Ib rfl),bd (Qd hK c l (by omega) hl)];cases h:GP c.Az l with
 |false=>rw[cf rfl,Bool.false_and]
 |true=>rw[ct rfl,ct rfl,bd (VV hK a h),Bool.true_and]
theorem XC {c:Bh} (a:OkC c) {l:List Int} (hl:GP c.Az l=true):Js K c l=some (c.Bb.map (DD l),0):=by
 have f:=a.hl;have g:=a.cl;have hh:=Kl hl;unfold Js;rw[bd (Ro hK a),cf (Ib rfl),bd (Qd hK c l (by omega) (by omega)),hl,nt,ct rfl];have b:∀(d m i:Nat) (acc:List Int),c.Bb.length=i+d→d<m→acc.length≤i→GV K c (arr l,true) m acc (i:Int)=some (acc++(c.Bb.drop i).map (DD l)):=by
  intro d
  induction d with
  |zero=>
   intro m i acc h hm ha;obtain⟨m,rfl⟩:∃e,m=e+1:=⟨m-1,by omega⟩;rw[GV.eq_2,cf (df (by omega)),List.drop_eq_nil_of_le (by omega),List.map_nil,List.append_nil]
  |succ d ih=>
   intro m i acc h hm ha;obtain⟨m,rfl⟩:∃e,m=e+1:=⟨m-1,by omega⟩;have hi:i<c.Bb.length:=by omega
   rw[GV.eq_2,ct (dt (by omega)),Cp hi,bd (Pa hK a hl hi),FV (by simp;omega),BS (by omega) (by omega),Dw i,ih m (i+1) _ (by omega) (by omega) (by simp;omega),List.drop_eq_getElem_cons hi,List.map_cons,List.append_assoc];rfl
 have:=b c.Bb.length K 0 [] (by omega) (by omega) (by simp);rw[Int.natCast_zero,List.drop_zero,List.nil_append] at this;rw[bd this]
end
def GI(g:List BO)(s:Int):Int:=match g.find? (fun x=>decide (x.Bd≤s)) with|some x=>x.B3|none=>0
def Bz (t:AD) (l:List Int):List Int:=t.Ab.map fun w=>GI t.AB (DD l w)*w.sum
structure OkT(t:AD):Prop where
 len:PB t
 fault:Gr t=0
 many:GZ t.Aj≤150
theorem Hx{t:AD}(h:Gr t=0):G0 t.C=0∧t.AB.length≤3∧t.AE.length≤3∧t.AK.length≤5∧(0≤t.Flat∧t.Flat≤100)∧0<t.AB.length∧Ih 101 100 t.AB=true∧(∀o∈t.AE,JQ t o=true)∧∀n∈t.AK,KA t n=true:=by
 unfold Gr at h;split at h
 ·rename_i h0;exact absurd h h0
 rename_i h0
 split at h
 ·omega
 rename_i h1
 split at h
 ·omega
 rename_i h2
 split at h
 ·omega
 rename_i d
 split at h
 ·omega
 rename_i a
 split at h
 ·omega
 rename_i b
 split at h
 ·omega
 rename_i c
 refine⟨Decidable.byContradiction h0,by omega,by omega,by omega,Ee.1 (by simpa using h2),by omega,by simpa using a,?_,?_⟩
 ·exact List.all_eq_true.1 (by simpa using b)
 ·exact List.all_eq_true.1 (by simpa using c)
theorem Qe:∀{l:List BO} {s p:Int},Ih s p l=true→∀g∈l,(0≤g.Bd∧g.Bd<s)∧0≤g.B3∧g.B3≤p
 |[],_,_,_,g,a=>by cases a
 |x::l,s,p,h,g,a=>by
  rw[Ih,Bool.and_eq_true,Bool.and_eq_true] at h;have h1:=Ee.1 h.1;have h2:=Ee.1 h.2.1;rcases List.mem_cons.1 a with rfl|a
  ·exact⟨by omega,h2⟩
  ·have:=Qe h.2.2 g a;omega
namespace OkT
variable{t:AD}(h:OkT t)
include h
theorem c:OkC t.C:=⟨h.len.1,(Hx h.fault).1,h.many⟩
theorem gl:t.AB.length≤3:=(Hx h.fault).2.1
theorem nl:t.AK.length≤5:=(Hx h.fault).2.2.2.1
theorem flat:0≤t.Flat∧t.Flat≤100:=(Hx h.fault).2.2.2.2.1
theorem gr:Ih 101 100 t.AB=true:=(Hx h.fault).2.2.2.2.2.2.1
theorem W2:∀g∈t.AB,(0≤g.Bd∧g.Bd≤100)∧0≤g.B3∧g.B3≤100:=fun g a=>by have:=Qe h.gr g a;omega
theorem order:∀o∈t.AE,(0≤o.Cr∧o.Cr<t.AB.length)∧1≤o.CE∧o.CE≤90:=fun o a=>by
 have h1:=(Hx h.fault).2.2.2.2.2.2.2.1 o a;unfold JQ at h1;rw[Bool.and_eq_true] at h1;have h2:=Ee.1 h1.1;exact⟨by omega,Ee.1 h1.2⟩
theorem note:∀n∈t.AK,(0≤n.BY∧n.BY<t.Ab.length)∧0≤n.Ck∧n.Ck≤n.Cl∧n.Cl≤9000:=fun n a=>by
 have h1:=(Hx h.fault).2.2.2.2.2.2.2.2 n a;unfold KA at h1;rw[Bool.and_eq_true] at h1;have h2:=Ee.1 h1.1;exact⟨by omega,SJ.1 h1.2⟩
theorem EH:∀w∈t.Ab,w.length=t.Aj.length∧(∀x∈w,0≤x∧x≤30)∧0<w.sum∧w.sum≤90:=h.c.EH
theorem kl:t.Ab.length≤3:=h.c.cl
theorem hl:t.Aj.length≤3:=h.c.hl
theorem W3(s:Int):0≤GI t.AB s∧GI t.AB s≤100:=by
 unfold GI;split
 ·rename_i x a
  exact(h.W2 x (List.mem_of_find?_eq_some a)).2
 ·omega
theorem Aa6(l:List Int):∀x∈Bz t l,0≤x∧x≤9000:=fun x a=>by
 unfold Bz at a;obtain⟨w,hw,rfl⟩:=List.mem_map.1 a;have h1:=h.W3 (DD l w);have h2:=h.EH w hw;have:=J5 h1.1 h1.2 (by omega:0≤w.sum) h2.2.2.2;omega
end OkT
theorem Gc(t:AD)(l:List Int):(Bz t l).length=t.Ab.length:=List.length_map ..
section
variable{K:Nat}(hK:1000≤K)
include hK
theorem Oy{t:AD}(a:OkT t){l:List Int}(hl:GP t.Aj l=true){k:Nat}(hk:k<t.Ab.length):∀(i m:Nat) (p:Int),i≤t.AB.length→i<m→p=GI (t.AB.drop i) (DD l t.Ab[k])→
  D6 K t l (k:Int) m p ((i:Int)-1)=some (GI t.AB (DD l t.Ab[k]))
 |i,0,p,hi,hm,b=>by omega
 |0,m+1,p,hi,hm,b=>by
  rw[D6.eq_2,cf (df (by omega)),b,List.drop_zero]
 |i+1,m+1,p,hi,hm,b=>by
  have g:=a.gl;have h1:i<t.AB.length:=by omega
  have e:((i+1:Nat):Int)-1=(i:Int):=by omega
  have d:D5 K l t.Ab[k]=some (DD l t.Ab[k]):=Nu hK a.c (c:=t.C) hl hk;have f:GI (t.AB.drop i) (DD l t.Ab[k])=if t.AB[i].Bd≤DD l t.Ab[k] then t.AB[i].B3 else GI (t.AB.drop (i+1)) (DD l t.Ab[k]):=by
   rw[List.drop_eq_getElem_cons h1];unfold GI;rw[List.find?_cons]
   by_cases h:t.AB[i].Bd≤DD l t.Ab[k]
   ·rw[dt h,if_pos h]
   ·rw[df h,if_neg h]
  rw[D6.eq_2,e,ct (dt (by omega)),Cp hk,bd d,Cp h1]
  by_cases h:t.AB[i].Bd≤DD l t.Ab[k]
  ·rw[ct (dt h),Cp h1,BS (by omega) (by omega)];exact Oy a hl hk i m _ (by omega) (by omega) (by rw[f,if_pos h])
  ·rw[cf (df h),BS (by omega) (by omega)];exact Oy a hl hk i m _ (by omega) (by omega) (by rw[f,if_neg h,b])
theorem Oz{t:AD}(a:OkT t){k:Nat}(hk:k<t.Ab.length):EB K t (k:Int)=some t.Ab[k].sum:=by
 have h1:=a.EH _ (List.getElem_mem hk);have:=a.hl;unfold EB;rw[Cp hk,bd (Rh hK _ (by omega) (fun x b=>by have:=h1.2.1 x b;omega))]
theorem PC{t:AD}(a:OkT t){l:List Int}(hl:GP t.Aj l=true){k:Nat}(hk:k<t.Ab.length):Fz K t l (k:Int)=some ((Bz t l)[k]'(by rw[Gc];exact hk)):=by
 have b:=a.gl;have h1:=a.W3 (DD l t.Ab[k]);have h2:=a.EH _ (List.getElem_mem hk);have c:=J5 h1.1 h1.2 (by omega:0≤t.Ab[k].sum) h2.2.2.2;unfold Fz;rw[BS (by omega) (by omega),bd (Oy hK a hl hk t.AB.length K 0 (by omega) (by omega) (by rw[List.drop_eq_nil_of_le (by omega)];rfl)),bd (Oz hK a hk),BS (by omega) (by omega)];simp[Bz]
end
def HU (t:AD) (m:List (List Int×Int)):Prop:=∀(i:Nat) (s v:Int),EL m [(i:Int),s]=some v→v=GI t.AB s*(t.Ab.getD i []).sum
theorem XD(t:AD):HU t []:=fun i s v h=>by cases h
def wk (t:AD) (a:List Bo) (m:List (List Int×Int)):B7:=⟨t.Aj,t.Ab,t.Aq,t.Flat,t.AB,t.AE,t.AK,t.Ab.map List.sum,a,m⟩
def BT(t:AD)(l:List Int):Bo:=arr (t.Ab.map (DD l))
theorem XE:∀{l:List Int} {i:Nat} (x:Int),l.length=i→i<3→(arr l).set i x=arr (l++[x])
 |[],_,x,rfl,_=>rfl
 |[_],_,x,rfl,_=>rfl
 |[_,_],_,x,rfl,_=>rfl
 |_::_::_::_,_,x,rfl,h=>by simp at h;omega
section
variable{K:Nat}(hK:1000≤K)
include hK
theorem Rp{t:AD}(b:OkT t)(a:List Bo)(m:List (List Int×Int)){k:Nat}(hk:k<t.Ab.length)(s:Int):∀(d n i:Nat),t.AB.length=i+d→d<n→
  D1 (wk t a m) ⟨(k:Int),s⟩ n 0 (i:Int)=some (GI (t.AB.drop i) s*t.Ab[k].sum)
 |d,0,i,h,f=>by omega
 |0,n+1,i,h,f=>by
  have e:((wk t a m).AM.length:Int)=t.AB.length:=rfl;rw[D1.eq_2,cf (df (by omega)),List.drop_eq_nil_of_le (by omega)];simp[GI]
 |d+1,n+1,i,h,f=>by
  have h1:i<t.AB.length:=by omega
  have j:=b.gl;have c:k<(wk t a m).weights.length:=by show k<(List.map _ _).length;simpa using hk
  have g:(wk t a m).weights[k]'c=t.Ab[k].sum:=by simp[wk]
  rw[D1.eq_2,ct (dt (show(i:Int)<((wk t a m).AM.length:Int) by show(i:Int)<(t.AB.length:Int);omega)),Cp (xs:=(wk t a m).AM) h1,List.drop_eq_getElem_cons h1];show cond (decide (t.AB[i].Bd≤s)) _ _=_
  by_cases h2:t.AB[i].Bd≤s
  ·have b1:=(b.W2 _ (List.getElem_mem h1)).2;have b2:=b.EH _ (List.getElem_mem hk);have b3:=J5 b1.1 b1.2 (by omega:0≤t.Ab[k].sum) b2.2.2.2;rw[ct (dt h2),Cp c,g];show(i64 (t.AB[i].B3*_)).bind _=_;rw[BS (by omega) (by omega)];unfold GI;rw[List.find?_cons,dt h2];rfl
  ·rw[cf (df h2),BS (by omega) (by omega),Dw i,Rp b a m hk s d n (i+1) (by omega) (by omega)]
   congr 2
   unfold GI;rw[List.find?_cons,df h2]
theorem VW{t:AD}(d:OkT t)(c:List Bo){m:List (List Int×Int)}(hm:HU t m){k:Nat}(hk:k<t.Ab.length)(s:Int):
  ∃a,HU t a∧Gk K (wk t c m) ⟨(k:Int),s⟩=some (GI t.AB s*t.Ab[k].sum,a):=by
 have g:=d.gl;unfold Gk;show∃a,HU t a∧cond (!((EL m [(k:Int),s]).isSome)) _ _=_;cases e:EL m [(k:Int),s] with
 |some v=>
  have h1:=hm k s v e;rw[Df _ hk] at h1;refine⟨m,hm,?_⟩;show cond (!true) _ (some ((EL m [(k:Int),s]).getD 0,m))=_;rw[nt,e,←h1];rfl
 |none=>
  have h:=Rp hK d c m hk s t.AB.length K 0 (by omega) (by omega);rw[Int.natCast_zero,List.drop_zero] at h;refine⟨KU m [(k:Int),s] (GI t.AB s*t.Ab[k].sum),fun i f v b=>?_,?_⟩
  ·rw[Si] at b;split at b
   ·rename_i he
    simp only[List.cons.injEq,and_true] at he;obtain⟨j,rfl⟩:=he;obtain rfl:i=k:=by omega
    rw[Df _ hk];exact(Option.some.inj b).symm
   ·exact hm i f v b
  ·show cond (!false) ((D1 (wk t c m) ⟨(k:Int),s⟩ K ((EL m [(k:Int),s]).getD 0) 0).bind _) _=_;rw[nf,e,Option.getD_none,bd h];rfl
theorem SO{t:AD}(c:OkT t)(a:List Bo)(b:List (List Int×Int))(l:List Int):∀(d n i:Nat) (m:List (List Int×Int)),t.Ab.length=i+d→d<n→HU t m→
  ∃f,HU t f∧DT K (wk t a b) (BT t l) n (i:Int) (arr ((Bz t l).take i)).a0 (arr ((Bz t l).take i)).a1 (arr ((Bz t l).take i)).a2 m=some ((arr (Bz t l)).a0,(arr (Bz t l)).a1,(arr (Bz t l)).a2,f)
 |d,0,i,m,h,g,_=>by omega
 |0,n+1,i,m,h,g,hm=>by
  have e:((wk t a b).weights.length:Int)=t.Ab.length:=by show((List.map _ _).length:Int)=_;simp
  refine⟨m,hm,?_⟩;rw[DT.eq_2,cf (df (by omega)),List.take_of_length_le (by rw[Gc];omega)]
 |d+1,n+1,i,m,h,g,hm=>by
  have j:=c.kl;have e:((wk t a b).weights.length:Int)=t.Ab.length:=by show((List.map _ _).length:Int)=_;simp
  have hi:i<t.Ab.length:=by omega
  have o:i<(Bz t l).length:=by rw[Gc];exact hi
  have g1:idx [(BT t l).a0,(BT t l).a1,(BT t l).a2] (i:Int)=some (DD l t.Ab[i]):=by
   have:=JX (l:=t.Ab.map (DD l)) (by simpa using j) (k:=i) (by simpa using hi);rw[List.getElem_map] at this;exact this
  obtain⟨p,q,g2⟩:=VW hK c a hm hi (DD l t.Ab[i]);have g3:idx ([(arr ((Bz t l).take i)).a0,(arr ((Bz t l).take i)).a1,(arr ((Bz t l).take i)).a2]:List Int) (i:Int)=some (([(arr ((Bz t l).take i)).a0,(arr ((Bz t l).take i)).a1,(arr ((Bz t l).take i)).a2]:List Int)[i]'(by simp;omega)):=idx_eq _;have g4:(arr ((Bz t l).take i)).set i (GI t.AB (DD l t.Ab[i])*t.Ab[i].sum)=arr ((Bz t l).take (i+1)):=by
   rw[XE _ (by rw[List.length_take];omega) (by omega),List.take_succ_eq_append_getElem o];simp[Bz]
  obtain⟨s,r,g5⟩:=SO c a b l d n (i+1) p (by omega) (by omega) q;refine⟨s,r,?_⟩;rw[DT.eq_2,ct (dt (by omega)),bd g1];show(Gk K (wk t a m) ⟨(i:Int),DD l t.Ab[i]⟩).bind _=_;rw[bd g2,bd g3,BS (by omega) (by omega),Dw i,Int.toNat_natCast];show DT K (wk t a b) (BT t l) n ((i+1:Nat):Int) ((arr ((Bz t l).take i)).set i (GI t.AB (DD l t.Ab[i])*t.Ab[i].sum)).a0 ((arr ((Bz t l).take i)).set i (GI t.AB (DD l t.Ab[i])*t.Ab[i].sum)).a1 ((arr ((Bz t l).take i)).set i (GI t.AB (DD l t.Ab[i])*t.Ab[i].sum)).a2 p=_;rw[g4];exact g5
theorem XF{t:AD}(c:OkT t)(b:List Bo){m:List (List Int×Int)}(hm:HU t m)(l:List Int):
  ∃a,HU t a∧FO K (wk t b m) (BT t l)=some (arr (Bz t l),a):=by
 have:=c.kl;obtain⟨a,h1,h2⟩:=SO hK c b m l t.Ab.length K 0 m (by omega) (by omega) hm;refine⟨a,h1,?_⟩;unfold FO;have d:DT K (wk t b m) (BT t l) K 0 0 0 0 (wk t b m).known=some ((arr (Bz t l)).a0,(arr (Bz t l)).a1,(arr (Bz t l)).a2,a):=h2;rw[bd d]
end
theorem Pb{σ α:Type}(cb:σ→α→Option (Bool×σ))(a:List α):∀(b:List α) (s:σ),run cb (b++a) s=(run cb b s).bind fun r=>cond r.1 (run cb a r.2) (some (false,r.2))
 |[],s=>rfl
 |x::l,s=>by
  simp only[List.cons_append,run];cases cb s x with
  |none=>rfl
  |some r=>
   simp only[Option.bind_some];cases h:r.1 with
   |false=>simp
   |true=>simpa using Pb cb a l r.2
def Jm:List AL→List (List Int)
 |[]=>[[]]
 |r::rs=>(List.range' 0 (Dx r).toNat).flatMap fun n:Nat=>(Jm rs).map fun x=>(r.Lo+(n:Int))::x
theorem OA:∀{rs:List AL} {l:List Int},(∀r∈rs,IQ r)→(l∈Jm rs↔GP rs l=true)
 |[],[],_=>by simp[Jm,GP]
 |[],_::_,_=>by simp[Jm,GP]
 |r::rs,[],_=>by simp[Jm,GP]
 |r::rs,x::xs,h=>by
  have h1:=h r (List.mem_cons_self ..);have h2:=Iy h1;rw[Jm,List.mem_flatMap,GP,Bool.and_eq_true,←OA (fun r hr=>h r (List.mem_cons_of_mem _ hr)),Ee];constructor
  ·rintro⟨n,b,c⟩;obtain⟨y,a,e⟩:=List.mem_map.1 c;injection e with f d
   subst d;rw[List.mem_range'_1] at b;refine⟨?_,a⟩;unfold Dx at b h2;omega
  ·rintro⟨c,a⟩;refine⟨(x-r.Lo).toNat,?_,List.mem_map.2 ⟨xs,a,?_⟩⟩
   ·rw[List.mem_range'_1];unfold Dx;omega
   ·congr 1;omega
theorem Rq:∀{rs:List AL},(∀r∈rs,IQ r)→((Jm rs).length:Int)=GZ rs
 |[],_=>rfl
 |r::rs,h=>by
  have h2:=Iy (h r (List.mem_cons_self ..));have a:=Rq (rs:=rs) (fun r hr=>h r (List.mem_cons_of_mem _ hr));rw[O9,←a,Jm,List.length_flatMap];have:∀(n i:Nat),((List.range' i n).map fun n:Nat=>((Jm rs).map fun x=>(r.Lo+(n:Int))::x).length).sum=n*(Jm rs).length:=by
   intro n
   induction n with
   |zero=>intro i;simp
   |succ n ih=>intro i;rw[List.range'_succ,List.map_cons,List.sum_cons,ih,List.length_map,Nat.succ_mul,Nat.add_comm]
  rw[this,Int.natCast_mul,Int.toNat_of_nonneg (by omega)]
theorem take_set{out:List Int}{i:Nat}(v:Int)(h:i<out.length):(out.set i v).take (i+1)=out.take i++[v]:=by
 rw[List.take_succ_eq_append_getElem (by simpa using h),List.take_set_of_le (Nat.le_refl _),List.getElem_set_self]
section
variable{K:Nat}(hK:1000≤K)
include hK
theorem Rr{σ:Type}(cb:σ→List Int→Option (Bool×σ))(f:Int→List AL→List Int→σ→Option (Bool×List Int×σ))(l:List AL)(hl:l.length≤100)(i:Nat)(hi:i<l.length)(hr:IQ l[i])
  (ih:∀(out:List Int) (s:σ) (b:Bool) (d:σ),out.length=l.length→run cb ((Jm (l.drop (i+1))).map fun x=>out.take (i+1)++x) s=some (b,d)→∃c,c.length=l.length∧c.take (i+1)=out.take (i+1)∧f ((i+1:Nat):Int) l out s=some (b,c,d)):
  ∀(e m n:Nat) (out:List Int) (s:σ) (b:Bool) (d:σ),Dx l[i]=(n:Int)+e→e<m→out.length=l.length→
   run cb ((List.range' n e).flatMap fun n:Nat=>(Jm (l.drop (i+1))).map fun x=>out.take i++(l[i].Lo+(n:Int))::x) s=some (b,d)→
   ∃c,c.length=l.length∧c.take i=out.take i∧(Fk f (i:Int) l (Dx l[i]) m (n:Int) out s).bind (fun z=>Sum.elim (fun q=>some (q.1,q.2.1,q.2.2)) (fun q=>some (true,q.1,q.2)) z)=some (b,c,d)
 |e,0,n,out,s,b,d,h,hm,_,_=>by omega
 |0,m+1,n,out,s,b,d,h,hm,k,a=>by
  have:(true,s)=(b,d):=Option.some.inj a;injection this with o p
  subst o;subst p;refine⟨out,k,rfl,?_⟩;rw[Fk.eq_2,cf (df (by omega))];rfl
 |e+1,m+1,n,out,s,b,d,h,hm,k,a=>by
  have aB:=Iy hr;have u:=hr;unfold IQ at u;have j:i<out.length:=by omega
  rw[List.range'_succ,List.flatMap_cons,Pb] at a;have v:∀x:List Int,out.take i++(l[i].Lo+(n:Int))::x=(out.set i (l[i].Lo+(n:Int))).take (i+1)++x:=fun x=>by rw[take_set _ j,List.append_assoc];rfl
  simp only[v] at a;cases h1:run cb ((Jm (l.drop (i+1))).map fun x=>(out.set i (l[i].Lo+(n:Int))).take (i+1)++x) s with
  |none=>rw[h1] at a;cases a
  |some r=>
   obtain⟨b1,s1⟩:=r;rw[h1,Option.bind_some] at a;obtain⟨g,g1,g2,g3⟩:=ih (out.set i (l[i].Lo+(n:Int))) s b1 s1 (by rw[List.length_set];exact k) h1;have gt:g.take i=out.take i:=by
    have:=congrArg (List.take i) g2;rw[List.take_take,List.take_take,Nat.min_eq_left (by omega),List.take_set_of_le (Nat.le_refl _)] at this;exact this
   rw[Fk.eq_2,ct (dt (by omega)),Cp hi,BS (by omega) (by omega),Cp j,BS (by omega) (by omega),Dw i,Int.toNat_natCast,bd g3];cases b1 with
   |false=>
    have:(false,s1)=(b,d):=Option.some.inj a;injection this with o p
    subst o;subst p;exact⟨g,g1,gt,rfl⟩
   |true=>
    rw[nt,BS (by omega) (by omega),Dw n];simp only[←v] at a;rw[←gt] at a;obtain⟨t,w,y,aA⟩:=Rr cb f l hl i hi hr ih e m (n+1) g s1 b d (by omega) (by omega) g1 a;exact⟨t,w,y.trans gt,aA⟩
theorem SP{σ:Type}(cb:σ→List Int→Option (Bool×σ))(l:List AL)(hl:l.length≤100)(n:∀r∈l,IQ r):∀(d k i:Nat) (out:List Int) (s:σ) (b:Bool) (c:σ),l.length=i+d→d<k→out.length=l.length→
  run cb ((Jm (l.drop i)).map fun x=>out.take i++x) s=some (b,c)→∃f,f.length=l.length∧f.take i=out.take i∧EW K cb k (i:Int) l out s=some (b,f,c)
 |d,0,i,out,s,b,c,h,hk,_,_=>by omega
 |0,k+1,i,out,s,b,c,h,hk,g,a=>by
  rw[List.drop_eq_nil_of_le (by omega)] at a;have e:(Jm []).map (fun x=>out.take i++x)=[out]:=by
   show[out.take i++[]]=[out];rw[List.append_nil,List.take_of_length_le (by omega)]
  rw[e] at a;refine⟨out,g,rfl,?_⟩;rw[EW.eq_2,ct (Le (by omega))];simp only[run] at a;cases h1:cb s out with
  |none=>rw[h1] at a;cases a
  |some r=>
   obtain⟨b1,s1⟩:=r;rw[h1,Option.bind_some] at a;cases b1 with
   |true=>
    have:(true,s1)=(b,c):=Option.some.inj a;injection this with j m
    subst j;subst m;rfl
   |false=>
    have:(false,s1)=(b,c):=Option.some.inj a;injection this with j m
    subst j;subst m;rfl
 |d+1,k+1,i,out,s,b,c,h,hk,g,a=>by
  have hi:i<l.length:=by omega
  have hr:=n _ (List.getElem_mem hi);have o:=Iy hr;rw[List.drop_eq_getElem_cons hi,Jm,List.map_flatMap] at a;simp only[List.map_map] at a;rw[EW.eq_2,cf (LI (by omega)),Cp hi,bd (Xv K hr)];have:=Rr hK cb (EW K cb k) l hl i hi hr (fun out s b c h1 h2=>SP cb l hl n d k (i+1) out s b c (by omega) (by omega) h1 h2) (Dx l[i]).toNat K 0 out s b c (by omega) (by omega) g a;rw[Int.natCast_zero] at this;exact this
theorem XG{σ:Type}(cb:σ→List Int→Option (Bool×σ))(l:List AL)(hl:l.length≤100)(c:∀r∈l,IQ r)(s:σ)(b:Bool)(a:σ)(h:run cb (Jm l) s=some (b,a)):IG K cb l s=some a:=by
 unfold IG;obtain⟨d,_,_,h2⟩:=SP hK cb l hl c l.length K 0 (List.replicate (l.length:Int).toNat 0) s b a (by omega) (by omega) (by simp) (by simpa using h);rw[Int.natCast_zero] at h2;rw[mkb (by omega) (by omega) (by omega),bd h2]
theorem XH(t:AD)(hl:t.Aj.length≤100):Gj K t=some t.Aj:=by
 have a:∀(d m i:Nat) (acc:List AL),t.Aj.length=i+d→d<m→acc.length≤i→EI t m acc (i:Int)=some (acc++t.Aj.drop i):=by
  intro d
  induction d with
  |zero=>
   intro m i acc h hm ha;obtain⟨m,rfl⟩:∃b,m=b+1:=⟨m-1,by omega⟩;rw[EI.eq_2,cf (df (by omega)),List.drop_eq_nil_of_le (by omega),List.append_nil]
  |succ d ih=>
   intro m i acc h hm ha;obtain⟨m,rfl⟩:∃b,m=b+1:=⟨m-1,by omega⟩;have hi:i<t.Aj.length:=by omega
   rw[EI.eq_2,ct (dt (by omega)),Cp hi,FV (by simp;omega),BS (by omega) (by omega),Dw i,ih m (i+1) _ (by omega) (by omega) (by simp;omega),List.drop_eq_getElem_cons hi,List.append_assoc];rfl
 have:=a t.Aj.length K 0 [] (by omega) (by omega) (by simp);rw[Int.natCast_zero,List.drop_zero,List.nil_append] at this;unfold Gj;rw[bd this]
theorem ZY{t:AD}(b:OkT t):Ff K t=some (wk t [] []):=by
 have e:=b.kl;have f:=b.hl;have a:∀(d m i:Nat) (acc:List Int),t.Ab.length=i+d→d<m→acc.length≤i→DS K t m (i:Int) acc=some (acc++(t.Ab.drop i).map List.sum):=by
  intro d
  induction d with
  |zero=>
   intro m i acc h hm ha;obtain⟨m,rfl⟩:∃c,m=c+1:=⟨m-1,by omega⟩;rw[DS.eq_2,cf (df (by omega)),List.drop_eq_nil_of_le (by omega),List.map_nil,List.append_nil]
  |succ d ih=>
   intro m i acc h hm ha;obtain⟨m,rfl⟩:∃c,m=c+1:=⟨m-1,by omega⟩;have hi:i<t.Ab.length:=by omega
   have hw:=b.EH _ (List.getElem_mem hi);have hs:C1 t.Ab[i] K 0 0=some t.Ab[i].sum:=by
    have:=O4 t.Ab[i] (fun m s j=>C1 t.Ab[i] m s (j:Int)) (· +·) (fun j s=>0≤s∧s≤30*(j:Int)) id (fun j s hj hs=>by have:=hw.2.1 _ (List.getElem_mem hj);omega)
     (fun m j s hj hs=>by
      have g:=hw.2.1 _ (List.getElem_mem hj);show C1 t.Ab[i] (m+1) s (j:Int)=_;rw[C1.eq_2,ct (dt (by omega)),Cp hj,BS (by omega) (by omega),BS (by omega) (by omega),Dw j])
     (fun m s _=>by
      show C1 t.Ab[i] (m+1) s (t.Ab[i].length:Int)=_;rw[C1.eq_2,cf (df (by omega))];rfl) (k:=K) (s0:=0) (by omega) (by omega)
    rw[L4,Int.zero_add] at this;exact this
   rw[DS.eq_2,ct (dt (by omega)),Cp hi,bd hs,FV (by simp;omega),BS (by omega) (by omega),Dw i,ih m (i+1) _ (by omega) (by omega) (by simp;omega),List.drop_eq_getElem_cons hi,List.map_cons,List.append_assoc];rfl
 have:=a t.Ab.length K 0 [] (by omega) (by omega) (by simp);rw[Int.natCast_zero,List.drop_zero,List.nil_append] at this;unfold Ff;rw[bd this];rfl
theorem UF{t:AD}(a:OkT t){l:List Int}(hl:GP t.Aj l=true):F4 K t l=some (BT t l):=by
 unfold F4;have h:Js K ⟨t.Aj,t.Ab,t.Aq⟩ l=some (t.Ab.map (DD l),0):=XC hK (c:=t.C) a.c hl;rw[bd h];rfl
end
theorem XI:∀{a b:List Int},a.length=b.length→a.length≤3→arr a=arr b→a=b
 |[],[],_,_,_=>rfl
 |[a],[b],_,_,h=>by injection h with h1;exact congrArg (fun x=>[x]) h1
 |[a,a2],[b,b2],_,_,h=>by
  injection h with h1 h2
  rw[show a=b from h1,show a2=b2 from h2]
 |[a,a2,a3],[b,b2,b3],_,_,h=>by
  injection h with h1 h2 c
  rw[show a=b from h1,show a2=b2 from h2,show a3=b3 from c]
 |_::_::_::_::_,_,_,h,_=>by simp at h
 |[],_::_,h,_,_=>by cases h
 |[_],[],h,_,_=>by cases h
 |[_],_::_::_,h,_,_=>by simp at h
 |[_,_],[],h,_,_=>by cases h
 |[_,_],[_],h,_,_=>by simp at h
 |[_,_],_::_::_::_,h,_,_=>by simp at h
 |[_,_,_],[],h,_,_=>by cases h
 |[_,_,_],[_],h,_,_=>by simp at h
 |[_,_,_],[_,_],h,_,_=>by simp at h
 |[_,_,_],_::_::_::_::_,h,_,_=>by simp at h
theorem UG {t:AD} (hk:t.Ab.length≤3) {l l':List Int} (h:BT t l=BT t l'):∀w∈t.Ab,DD l w=DD l' w:=by
 have e:=XI (by simp) (by simpa using hk) h;intro w hw;obtain⟨i,hi,rfl⟩:=List.getElem_of_mem hw;have:=congrArg (fun x=>x.getD i 0) e;simpa[List.getElem?_eq_getElem hi] using this
theorem Qf{t:AD}(hk:t.Ab.length≤3){l l':List Int}(h:BT t l=BT t l'):Bz t l=Bz t l':=by
 unfold Bz;exact List.map_congr_left fun w hw=>by rw[UG hk h w hw]
theorem Z0{x y:Bo}(h:[x.a0,x.a1,x.a2]=[y.a0,y.a1,y.a2]):x=y:=by cases x;cases y;simpa using h
def Jq(M:List Int)(n:B6):Bool:=Ek (M.getD n.BY.toNat 0) n.Ck n.Cl
def Eb(M out:List Int):Nat→List B6→Bool
 |_,[]=>true
 |i,n::a=>(out.contains (i:Int)||Jq M n)&&Eb M out (i+1) a
structure Tr (t:AD) (L:List (List Int)):Prop where
 UH:∀l∈L,E6 t.C l=true
 all:∀l,E6 t.C l=true→∃l'∈L,BT t l'=BT t l
 len:L.length≤150
section
variable{K:Nat}(hK:1000≤K)
include hK
theorem XJ(t:AD){M out:List Int}(f:M.length≤3)(g:∀n∈t.AK,0≤n.BY∧n.BY<M.length)(hl:t.AK.length≤100)(j:out.length≤900):Fw K t (arr M) out=some (Eb M out 0 t.AK):=by
 have a:∀(d m i:Nat),t.AK.length=i+d→d<m→D2 K t (arr M) out m (i:Int)=some (cond (Eb M out i (t.AK.drop i)) (.inr ()) (.inl false)):=by
  intro d
  induction d with
  |zero=>
   intro m i h hm;obtain⟨m,rfl⟩:∃c,m=c+1:=⟨m-1,by omega⟩;rw[D2.eq_2,cf (df (by omega)),List.drop_eq_nil_of_le (by omega),Eb,ct rfl]
  |succ d ih=>
   intro m i h hm;obtain⟨m,rfl⟩:∃c,m=c+1:=⟨m-1,by omega⟩;have hi:i<t.AK.length:=by omega
   rw[D2.eq_2,ct (dt (by omega)),Cp hi,bd (MG hK out _ j),List.drop_eq_getElem_cons hi,Eb];cases out.contains (i:Int) with
   |true=>rw[Bool.true_or,Bool.true_and,nt,BS (by omega) (by omega),Dw i,ih m (i+1) (by omega) (by omega)]
   |false=>
    obtain⟨h1,h2⟩:=g _ (List.getElem_mem hi);obtain⟨k,hk⟩:∃k:Nat,t.AK[i].BY=k:=⟨t.AK[i].BY.toNat,by omega⟩;have b:k<M.length:=by omega
    have e:G6 K ⟨t.AK[i].Ck,t.AK[i].Cl⟩ M[k]=some (Jq M t.AK[i]):=by
     unfold G6 Jq;rw[bd (Jd ..),hk,Int.toNat_natCast,Df _ b]
    rw[nf,hk,bd (JX f b),bd e,Bool.false_or];cases Jq M t.AK[i] with
    |false=>rw[nf,Bool.false_and,cf rfl]
    |true=>rw[nt,BS (by omega) (by omega),Dw i,Bool.true_and,ih m (i+1) (by omega) (by omega)]
 have:=a t.AK.length K 0 (by omega) (by omega);rw[Int.natCast_zero,List.drop_zero] at this;unfold Fw;rw[bd this];cases Eb M out 0 t.AK<;>rfl
theorem Rs {t:AD} (f:OkT t):∀(X:List (List Int)) (a:List (List Int)),(∀l∈X,GP t.Aj l=true)→a.length+X.length≤5000→
  ∃L:List (List Int),run (fun(st:List Bo) (x:List Int)=>EJ K t st x) X (a.map (BT t))=some (true,L.map (BT t))∧(∀l∈L,l∈a∨l∈X∧E6 t.C l=true)∧(∀l∈a,l∈L)∧(∀l∈X,E6 t.C l=true→∃l'∈L,BT t l'=BT t l)∧L.length≤a.length+X.length
 |[],a,_,_=>⟨a,rfl,fun l h=>.inl h,fun l h=>h,fun l h=>(nomatch h),by simp⟩
 |x::X,a,i,hlen=>by
  have j:=i x (List.mem_cons_self ..);have v:=f.hl;have w:=Kl j;rw[List.length_cons] at hlen;have o:G5 K ⟨t.Aj,t.Ab,t.Aq⟩ x=some (E6 t.C x):=Qz hK (c:=t.C) f.c (by omega)
  
  have step:∃b:List (List Int),EJ K t (a.map (BT t)) x=some (true,b.map (BT t))∧(∀l∈b,l∈a∨l=x∧E6 t.C x=true)∧(∀l∈a,l∈b)∧(E6 t.C x=true→∃l'∈b,BT t l'=BT t x)∧b.length≤a.length+1:=by
   unfold EJ;rw[bd o];cases g:E6 t.C x with
   |false=>exact⟨a,by rw[nf],fun l h=>.inl h,fun l h=>h,fun h=>(nomatch h),by omega⟩
   |true=>
    have d:∃b:List (List Int),(some (true,a.map (BT t)++[BT t x]):Option (Bool×List Bo))=some (true,b.map (BT t))∧(∀l∈b,l∈a∨l=x∧true=true)∧(∀l∈a,l∈b)∧(true=true→∃l'∈b,BT t l'=BT t x)∧b.length≤a.length+1:=
     ⟨a++[x],by simp,fun l h=>by simpa using h,fun l h=>by simp[h],fun _=>⟨x,by simp,rfl⟩,by simp⟩
    rw[nt,bd (UF hK f j)]
    by_cases h0:a.length=0
    ·rw[ct (Le (by simp[h0])),FV (by simp;omega)];exact d
    ·rw[cf (LI (by simp;simpa using h0)),BS (by simp;omega) (by simp;omega)];have e:(((a.map (BT t)).length:Int))-1=((a.length-1:Nat):Int):=by rw[List.length_map];omega
     have k:a.length-1<(a.map (BT t)).length:=by rw[List.length_map];omega
     rw[e,Cp k];cases m:([((a.map (BT t))[a.length-1]).a0,((a.map (BT t))[a.length-1]).a1,((a.map (BT t))[a.length-1]).a2] !=[(BT t x).a0,(BT t x).a1,(BT t x).a2]) with
     |true=>rw[ct rfl,FV (by simp;omega)];exact d
     |false=>
      rw[cf rfl];refine⟨a,rfl,fun l h=>.inl h,fun l h=>h,fun _=>⟨a[a.length-1]'(by omega),List.getElem_mem _,?_⟩,by omega⟩;have h1:[((a.map (BT t))[a.length-1]).a0,((a.map (BT t))[a.length-1]).a1,((a.map (BT t))[a.length-1]).a2]=[(BT t x).a0,(BT t x).a1,(BT t x).a2]:=by simpa using m
      rw[List.getElem_map] at h1;exact Z0 h1
  obtain⟨b,s1,s2,p,q,y⟩:=step;obtain⟨L,r,s,n,u,z⟩:=Rs f X b (fun l hl=>i l (List.mem_cons_of_mem _ hl)) (by omega);refine⟨L,by rw[run,bd s1,ct rfl];exact r,?_,fun l hl=>n l (p l hl),?_,by rw[List.length_cons];omega⟩
  ·intro l hl;rcases s l hl with h|h
   ·rcases s2 l h with h|⟨rfl,h⟩
    ·exact .inl h
    ·exact .inr ⟨List.mem_cons_self ..,h⟩
   ·exact .inr ⟨List.mem_cons_of_mem _ h.1,h.2⟩
  ·intro l hl g;rcases List.mem_cons.1 hl with rfl|hl
   ·obtain⟨l',h1,h2⟩:=q g;exact⟨l',n l' h1,h2⟩
   ·exact u l hl g
theorem Z4{t:AD}(a:OkT t):∃L,Tr t L∧HK K t=some (wk t (L.map (BT t)) []):=by
 have j:=a.hl;have hlen:((Jm t.Aj).length:Int)=GZ t.Aj:=Rq a.c.ok;have b:=a.many;obtain⟨L,d,e,_,f,i⟩:=Rs hK a (Jm t.Aj) [] (fun l hl=>(OA (rs:=t.Aj) a.c.ok).1 hl) (by simp;omega);refine⟨L,⟨fun l hl=>?_,fun l hl=>f l ((OA (rs:=t.Aj) a.c.ok).2 (Ox hl)) hl,by simp at i;omega⟩,?_⟩
 ·rcases e l hl with h|h
  ·cases h
  ·exact h.2
 ·unfold HK;have g:=XG hK _ t.Aj (by omega) a.c.ok _ true _ d;rw[List.map_nil] at g;rw[bd (ZY hK a),bd (XH hK t (by omega)),bd g];rfl
def J6 (t:AD) (out:List Int) (L:List (List Int)):List (Bo×Bo):=(L.filter fun l=>Eb (Bz t l) out 0 t.AK).map fun l=>(BT t l,arr (Bz t l))
theorem OB{σ:Type}{t:AD}(g:OkT t){out:List Int}(u:out.length≤900)(cb:σ→(Bo×Bo)→Option (Bool×σ))(L:List (List Int))(w:L.length≤150)(f:List (List Int×Int)):∀(d n i:Nat) (m:List (List Int×Int)) (s:σ) (b:Bool) (c:σ),L.length=i+d→d<n→HU t m→
  run cb (J6 t out (L.drop i)) s=some (b,c)→∃j,HU t j∧(DP cb K (wk t (L.map (BT t)) f) out n (i:Int) m s).bind (fun z=>Sum.elim (fun q=>some (q.1,q.2)) (fun q=>some (q.1,q.2)) z)=some (j,c)
 |d,0,i,m,s,b,c,h,o,_,_=>by omega
 |0,n+1,i,m,s,b,c,h,o,hm,a=>by
  have e:((wk t (L.map (BT t)) f).B5.length:Int)=L.length:=by show((List.map _ _).length:Int)=_;simp
  rw[List.drop_eq_nil_of_le (by omega)] at a;have:(true,s)=(b,c):=Option.some.inj a;injection this with aA k
  subst k;refine⟨m,hm,?_⟩;rw[DP.eq_2,cf (df (by omega))];rfl
 |d+1,n+1,i,m,s,b,c,h,o,hm,a=>by
  have e:((wk t (L.map (BT t)) f).B5.length:Int)=L.length:=by show((List.map _ _).length:Int)=_;simp
  have x:=g.kl;have aB:=g.nl;have hi:i<L.length:=by omega
  have p:i<(wk t (L.map (BT t)) f).B5.length:=by show i<(List.map _ _).length;simpa using hi
  have k:(wk t (L.map (BT t)) f).B5[i]'p=BT t L[i]:=by simp[wk]
  obtain⟨v,l,g1⟩:=XF hK g (L.map (BT t)) hm L[i];have g2:Fw K t (arr (Bz t L[i])) out=some (Eb (Bz t L[i]) out 0 t.AK):=XJ hK t (by rw[Gc];exact x) (fun n o=>by rw[Gc];exact(g.note n o).1) (by omega) u;rw[DP.eq_2,ct (dt (by omega)),Cp p,k];show∃j,HU t j∧(((FO K (wk t (L.map (BT t)) m) (BT t L[i])).bind _).bind _)=_;rw[bd g1];show∃j,HU t j∧(((Fw K t (arr (Bz t L[i])) out).bind _).bind _)=_;rw[bd g2];unfold J6 at a;rw[List.drop_eq_getElem_cons hi,List.filter_cons] at a;cases hr:Eb (Bz t L[i]) out 0 t.AK with
  |false=>
   rw[hr,if_neg (by simp)] at a;rw[cf rfl,BS (by omega) (by omega),Dw i];exact OB g u cb L w f d n (i+1) v s b c (by omega) (by omega) l a
  |true=>
   rw[hr,if_pos rfl,List.map_cons,run] at a;rw[ct rfl];cases y:cb s (BT t L[i],arr (Bz t L[i])) with
   |none=>rw[y] at a;cases a
   |some r=>
    obtain⟨b1,s1⟩:=r;rw[y,Option.bind_some] at a;rw[Option.bind_some];cases b1 with
    |false=>
     have:(false,s1)=(b,c):=Option.some.inj a;injection this with aA k
     subst k;exact⟨v,l,rfl⟩
    |true=>
     rw[nt,BS (by omega) (by omega),Dw i];exact OB g u cb L w f d n (i+1) v s1 b c (by omega) (by omega) l a
theorem OC{σ:Type}{t:AD}(d:OkT t){out:List Int}(e:out.length≤900)(cb:σ→(Bo×Bo)→Option (Bool×σ)){L:List (List Int)}(f:L.length≤150){m:List (List Int×Int)}(hm:HU t m){s:σ}{b:Bool}{a:σ}
  (h:run cb (J6 t out L) s=some (b,a)):∃c,HU t c∧FG K cb (wk t (L.map (BT t)) m) out s=some (c,a):=
 OB hK d e cb L f m L.length K 0 m s b a (by omega) (by omega) hm (by rw[List.drop_zero];exact h)
theorem TW{t:AD}(c:OkT t){out:List Int}(d:out.length≤900){L:List (List Int)}(f:L.length≤150){m:List (List Int×Int)}(hm:HU t m):
  ∃a,HU t a∧DE K (wk t (L.map (BT t)) m) out=some (L.any fun l=>Eb (Bz t l) out 0 t.AK,a):=by
 have hr:∃b,run (fun(st:Bool×Bool) (x:Bo×Bo)=>cond st.2 none (FP st.1 x)) (J6 t out L) (false,false)=some (b,(L.any fun l=>Eb (Bz t l) out 0 t.AK,L.any fun l=>Eb (Bz t l) out 0 t.AK)):=by
  have e:(L.any fun l=>Eb (Bz t l) out 0 t.AK)= !(J6 t out L).isEmpty:=by
   unfold J6;rw[Bool.eq_iff_iff,List.any_eq_true];simp
  rw[e];cases J6 t out L with
  |nil=>exact⟨true,rfl⟩
  |cons x X=>exact⟨false,rfl⟩
 obtain⟨b,hr⟩:=hr;obtain⟨a,h1,h2⟩:=OC hK c d _ f hm hr;refine⟨a,h1,?_⟩;unfold DE;rw[bd h2];cases L.any fun l=>Eb (Bz t l) out 0 t.AK<;>rfl
end
theorem MH(M out:List Int):∀(a:List B6) (i:Nat),Eb M out i a=true↔∀j (hj:j<a.length),out.contains ((i+j:Nat):Int)=true∨Jq M a[j]=true
 |[],i=>by simp[Eb]
 |n::a,i=>by
  rw[Eb,Bool.and_eq_true,Bool.or_eq_true,MH M out a (i+1)];constructor
  ·rintro⟨h1,h2⟩ j hj;cases j with
   |zero=>simpa using h1
   |succ j=>
    have:=h2 j (by simpa using hj);rw[show i+(j+1)=i+1+j by omega];simpa using this
  ·intro h;refine⟨(show out.contains ((i+0:Nat):Int)=true∨Jq M n=true from h 0 (by simp)),fun j hj=>?_⟩;have:=h (j+1) (by simpa using hj);rw[show i+1+j=i+(j+1) by omega];simpa using this
def KX(M:List Int):Nat→List B6→Nat
 |_,[]=>0
 |i,n::a=>(if Jq M n=true then 2^i else 0)|||KX M (i+1) a
theorem Nw(M:List Int):∀(a:List B6) (i j:Nat),(KX M i a).testBit j=true↔∃q,∃b:q<a.length,j=i+q∧Jq M a[q]=true
 |[],i,j=>by simp[KX]
 |n::a,i,j=>by
  rw[KX,Nat.testBit_or,Bool.or_eq_true,Nw M a (i+1) j];constructor
  ·rintro(h|⟨q,b,rfl,h⟩)
   ·split at h
    ·rename_i c
     rw[Nat.testBit_two_pow,decide_eq_true_eq] at h;exact⟨0,by simp,by omega,by simpa using c⟩
    ·simp at h
   ·exact⟨q+1,by simpa using b,by omega,by simpa using h⟩
  ·rintro⟨q,b,rfl,h⟩;cases q with
   |zero=>
    left;rw[if_pos (by simpa using h),Nat.testBit_two_pow];simp
   |succ q=>exact .inr ⟨q,by simpa using b,by omega,by simpa using h⟩
theorem UI(M:List Int)(a:List B6):KX M 0 a=2^a.length-1↔Eb M [] 0 a=true:=by
 rw[MH];constructor
 ·intro h j hj;have:=(Nw M a 0 j).1 (by rw[h,Nat.testBit_two_pow_sub_one];simpa using hj);obtain⟨q,b,e,h2⟩:=this;obtain rfl:j=q:=by omega
  exact .inr h2
 ·intro h;refine Nat.eq_of_testBit_eq fun j=>?_;rw[Nat.testBit_two_pow_sub_one,Bool.eq_iff_iff,Nw,decide_eq_true_eq];constructor
  ·rintro⟨q,b,rfl,_⟩;omega
  ·intro hj;rcases h j hj with h1|h1
   ·simp at h1
   ·exact⟨j,hj,by omega,h1⟩
theorem Qg:∀i:Nat,i<6→LD .u64 (i:Int)=some ()∧LC 1 (i:Int)=some ()∧HZ 1 (i:Int)=((2^i:Nat):Int)∧2^i≤32∧1≤2^i∧LC 2 (i:Int)=some ()∧HZ 2 (i:Int)=((2^(i+1):Nat):Int):=by decide+kernel
theorem Z5(a b:Nat):Mf (a:Int) (b:Int)=((a|||b:Nat):Int):=by unfold Mf;rw[Int.toNat_natCast,Int.toNat_natCast]
theorem VX{β:Type}{a b:Int}{f:Unit→Option β}(h0:0≤a∧a≤9223372036854775807)(h1:0≤b∧b≤9223372036854775807):(Px a b).bind f=f ():=bd (if_pos ⟨h0,h1⟩)
def G1(t:AD)(l:List Int):Bool:=E6 t.C l&&Eb (Bz t l) [] 0 t.AK
def B4(t:AD):List (List Int):=(Et t.C).filter fun l=>Eb (Bz t l) [] 0 t.AK
theorem Oe{c:Bh}(a:OkC c):(Et c).length≤150:=by
 have:=a.many;unfold Et;refine Nat.le_trans (List.length_filter_le _ _) ?_;rw[List.length_map,List.length_range];omega
section
variable{K:Nat}(hK:1000≤K)
include hK
theorem VY{t:AD}(f:OkT t){l:List Int}(hl:GP t.Aj l=true):Hk K t l=some ((KX (Bz t l) 0 t.AK:Nat):Int):=by
 have o:=f.nl;have a:∀(d m i:Nat) (s:Nat),t.AK.length=i+d→d<m→s<2^5→Ea K t l m (s:Int) (i:Int)=some ((s|||KX (Bz t l) i (t.AK.drop i):Nat):Int):=by
  intro d
  induction d with
  |zero=>
   intro m i s h hm hs;obtain⟨m,rfl⟩:∃g,m=g+1:=⟨m-1,by omega⟩;rw[Ea.eq_2,cf (df (by omega)),List.drop_eq_nil_of_le (by omega),KX,Nat.or_zero]
  |succ d ih=>
   intro m i s h hm hs;obtain⟨m,rfl⟩:∃g,m=g+1:=⟨m-1,by omega⟩;have hi:i<t.AK.length:=by omega
   obtain⟨h1,h2⟩:=(f.note _ (List.getElem_mem hi)).1;obtain⟨k,hk⟩:∃k:Nat,t.AK[i].BY=k:=⟨t.AK[i].BY.toNat,by omega⟩;have b:k<t.Ab.length:=by omega
   have c:k<(Bz t l).length:=by rw[Gc];exact b
   obtain⟨s1,s2,j,p,q,_⟩:=Qg i (by omega);have e:Ek ((Bz t l)[k]'c) t.AK[i].Ck t.AK[i].Cl=Jq (Bz t l) t.AK[i]:=by
    unfold Jq;rw[hk,Int.toNat_natCast,Df _ c]
   rw[Ea.eq_2,ct (dt (by omega)),Cp hi,Cp hi,hk,bd (PC hK f hl b),bd (Kx ..),e,List.drop_eq_getElem_cons hi,KX];have n:2^i<2^5:=Nat.pow_lt_pow_right (by omega) (by omega);cases Jq (Bz t l) t.AK[i] with
   |true=>
    rw[ct rfl,bd s1,bd s2,j,VX (by omega) (by omega),BS (by omega) (by omega),Dw i,Z5,if_pos rfl,ih m (i+1) _ (by omega) (by omega) (Nat.or_lt_two_pow hs n),Nat.or_assoc]
   |false=>rw[cf rfl,BS (by omega) (by omega),Dw i,if_neg (by simp),Nat.zero_or,ih m (i+1) _ (by omega) (by omega) hs]
 have:=a t.AK.length K 0 0 (by omega) (by omega) (by omega);rw[Int.natCast_zero,List.drop_zero,Nat.zero_or] at this;unfold Hk;rw[bd this]
theorem Z6{t:AD}(a:OkT t):HL K t=some ((2^t.AK.length-1:Nat):Int):=by
 have d:=a.nl;obtain⟨s1,s2,b,e,c,_⟩:=Qg t.AK.length (by omega);unfold HL;rw[bd s1,bd s2,b,BS (by omega) (by omega),Int.natCast_sub c];rfl
theorem XK{t:AD}(l:List Int):(((KX (Bz t l) 0 t.AK:Nat):Int)==((2^t.AK.length-1:Nat):Int))=Eb (Bz t l) [] 0 t.AK:=by
 rw[Bool.eq_iff_iff,beq_iff_eq,←UI];omega
theorem TX{t:AD}(a:OkT t):GY K t=some (B4 t):=by
 have hlen:=Oe a.c;have h:EA K ⟨t.Aj,t.Ab,t.Aq⟩=some (Et t.C):=Qb hK (c:=t.C) a.c;have b:∀(d m i:Nat) (acc:List (List Int)),(Et t.C).length=i+d→d<m→acc.length≤i→DV K t (Et t.C) m acc (i:Int)=some (acc++((Et t.C).drop i).filter fun l=>Eb (Bz t l) [] 0 t.AK):=by
  intro d
  induction d with
  |zero=>
   intro m i acc h hm ha;obtain⟨m,rfl⟩:∃e,m=e+1:=⟨m-1,by omega⟩;rw[DV.eq_2,cf (df (by omega)),List.drop_eq_nil_of_le (by omega),List.filter_nil,List.append_nil]
  |succ d ih=>
   intro m i acc h hm ha;obtain⟨m,rfl⟩:∃e,m=e+1:=⟨m-1,by omega⟩;have hi:i<(Et t.C).length:=by omega
   have f:=(Jt a.c).1 (List.getElem_mem hi);rw[DV.eq_2,ct (dt (by omega)),Cp hi,bd (VY hK a (Ox f)),bd (Z6 hK a),XK hK,List.drop_eq_getElem_cons hi,List.filter_cons];cases Eb (Bz t (Et t.C)[i]) [] 0 t.AK with
   |true=>
    rw[ct rfl,if_pos rfl,Cp hi,FV (by simp;omega),BS (by omega) (by omega),Dw i,ih m (i+1) _ (by omega) (by omega) (by simp;omega),List.append_assoc];rfl
   |false=>rw[cf rfl,if_neg (by simp),BS (by omega) (by omega),Dw i,ih m (i+1) _ (by omega) (by omega) (by omega)]
 have:=b (Et t.C).length K 0 [] (by omega) (by omega) (by simp);rw[Int.natCast_zero,List.drop_zero,List.nil_append] at this;unfold GY B4;rw[bd h,bd this]
end
def KY(c:Bh):Bool:=decide (c.Az.length≤5)&&(decide (c.Bb.length≤5)&&(decide (c.AP.length≤7)&&((c.Bb.all fun l=>decide (l.length≤6))&&(decide (G0 c≠0)||decide (GZ c.Az≤150)))))
def IJ(t:AD):Bool:=KY t.C&&(decide (t.AB.length≤5)&&(decide (t.AE.length≤5)&&decide (t.AK.length≤7)))
theorem Qh{c:Bh}:KY c=true↔c.Az.length≤5∧c.Bb.length≤5∧c.AP.length≤7∧(∀l∈c.Bb,l.length≤6)∧(G0 c≠0∨GZ c.Az≤150):=by
 simp[KY]
theorem Ki{t:AD}(h:IJ t=true):PB t:=by
 unfold IJ at h;rw[Bool.and_eq_true,Bool.and_eq_true,Bool.and_eq_true,decide_eq_true_eq,decide_eq_true_eq,decide_eq_true_eq,Qh] at h;obtain⟨⟨h1,h2,b,a,_⟩,c,d,e⟩:=h;exact⟨⟨by omega,by omega,by omega,fun l hl=>by have:=a l hl;omega⟩,by omega,by omega,by omega⟩
theorem Ju{t:AD}(h:IJ t=true)(h0:Gr t=0):OkT t:=by
 have hl:=Ki h;unfold IJ at h;rw[Bool.and_eq_true,Qh] at h;have a:=(Hx h0).1;exact⟨hl,h0,by
  rcases h.1.2.2.2.2 with h1|h1
  ·exact absurd a h1
  ·exact h1⟩
section
variable{K:Nat}(hK:1000≤K)
include hK
theorem Rt(l:List Int)(hl:l.length≤1000):HM K l=some l:=by
 unfold HM;rw[FV (by simp;omega),List.nil_append]
theorem Ru(l:List Int)(hl:l.length≤1000):GD K l=some l:=Rt hK l hl
theorem NP {α:Type} (xs:List α) (F:Nat→Int→List α→Option (List α)) (c:∀m (i:Nat) acc (hi:i<xs.length),acc.length≤i→F (m+1) (i:Int) acc=F m ((i+1:Nat):Int) (acc++[xs[i]]))
  (e:∀m acc,F (m+1) (xs.length:Int) acc=some acc) (hl:xs.length≤900):F K 0 []=some xs:=by
 have a:∀(d m i:Nat) (acc:List α),xs.length=i+d→d<m→acc.length≤i→F m (i:Int) acc=some (acc++xs.drop i):=by
  intro d
  induction d with
  |zero=>
   intro m i acc h hm ha;obtain⟨m,rfl⟩:∃b,m=b+1:=⟨m-1,by omega⟩;obtain rfl:i=xs.length:=by omega
   rw[e,List.drop_eq_nil_of_le (by omega),List.append_nil]
  |succ d ih=>
   intro m i acc h hm ha;obtain⟨m,rfl⟩:∃b,m=b+1:=⟨m-1,by omega⟩;have hi:i<xs.length:=by omega
   rw[c m i acc hi ha,ih m (i+1) _ (by omega) (by omega) (by simp;omega),List.drop_eq_getElem_cons hi,List.append_assoc];rfl
 have:=a xs.length K 0 [] (by omega) (by omega) (by simp);rw[Int.natCast_zero,List.drop_zero,List.nil_append] at this;exact this
theorem VZ(c:Bh)(hl:VQ c):F5 K c=some c:=by
 obtain⟨h1,h2,f,a⟩:=hl;unfold F5;have b:Dg K c K 0 []=some c.Az:=NP hK c.Az (fun m i acc=>Dg K c m i acc) (fun m i acc hi ha=>by
   show Dg K c (m+1) (i:Int) acc=_;rw[Dg.eq_2,ct (dt (by omega)),Cp hi];unfold Hu;rw[Option.bind_some,FV (by simp;omega),BS (by omega) (by omega),Dw i];try rfl) (fun m acc=>by
   show Dg K c (m+1) (c.Az.length:Int) acc=_;rw[Dg.eq_2,cf (df (by omega))]) (by omega)
 have d:Dc K c K 0 []=some c.Bb:=NP hK c.Bb (fun m i acc=>Dc K c m i acc) (fun m i acc hi ha=>by
   show Dc K c (m+1) (i:Int) acc=_;rw[Dc.eq_2,ct (dt (by omega)),Cp hi,bd (Rt hK _ (by have:=a _ (List.getElem_mem hi);omega)),FV (by simp;omega),BS (by omega) (by omega),Dw i];try rfl) (fun m acc=>by
   show Dc K c (m+1) (c.Bb.length:Int) acc=_;rw[Dc.eq_2,cf (df (by omega))]) (by omega)
 have e:Dd K c K 0 []=some c.AP:=NP hK c.AP (fun m i acc=>Dd K c m i acc) (fun m i acc hi ha=>by
   show Dd K c (m+1) (i:Int) acc=_;rw[Dd.eq_2,ct (dt (by omega)),Cp hi];unfold Hu;rw[Option.bind_some,FV (by simp;omega),BS (by omega) (by omega),Dw i];try rfl) (fun m acc=>by
   show Dd K c (m+1) (c.AP.length:Int) acc=_;rw[Dd.eq_2,cf (df (by omega))]) (by omega)
 rw[bd b,bd d,bd e]
theorem Mi(t:AD)(hl:PB t):Eh K t=some t:=by
 obtain⟨a,h1,h2,f⟩:=hl;unfold Eh;have b:F5 K ⟨t.Aj,t.Ab,t.Aq⟩=some t.C:=VZ hK t.C a;have c:Dq t K 0 []=some t.AB:=NP hK t.AB (fun m i acc=>Dq t m i acc) (fun m i acc hi ha=>by
   show Dq t (m+1) (i:Int) acc=_;rw[Dq.eq_2,ct (dt (by omega)),Cp hi,Cp hi,FV (by simp;omega),BS (by omega) (by omega),Dw i];try rfl) (fun m acc=>by
   show Dq t (m+1) (t.AB.length:Int) acc=_;rw[Dq.eq_2,cf (df (by omega))]) (by omega)
 have d:Dh t K 0 []=some t.AE:=NP hK t.AE (fun m i acc=>Dh t m i acc) (fun m i acc hi ha=>by
   show Dh t (m+1) (i:Int) acc=_;rw[Dh.eq_2,ct (dt (by omega)),Cp hi,Cp hi,FV (by simp;omega),BS (by omega) (by omega),Dw i];try rfl) (fun m acc=>by
   show Dh t (m+1) (t.AE.length:Int) acc=_;rw[Dh.eq_2,cf (df (by omega))]) (by omega)
 have e:Di K t K 0 []=some t.AK:=NP hK t.AK (fun m i acc=>Di K t m i acc) (fun m i acc hi ha=>by
   show Di K t (m+1) (i:Int) acc=_;rw[Di.eq_2,ct (dt (by omega)),Cp hi,Cp hi];unfold Dv;rw[Option.bind_some,FV (by simp;omega),BS (by omega) (by omega),Dw i];try rfl) (fun m acc=>by
   show Di K t (m+1) (t.AK.length:Int) acc=_;rw[Di.eq_2,cf (df (by omega))]) (by omega)
 rw[bd b,bd c,bd d,bd e];rfl
theorem TY(c:Bh):G0 c=0→∀r∈c.Az,IQ r:=fun h=>(II h).2.2.2.2.1
theorem XL(c:Bh):GC K c=some (KY c):=by
 unfold GC
 by_cases h1:c.Az.length≤5
 case neg=>rw[ct (dt (by omega))];unfold KY;rw[df h1,Bool.false_and]
 rw[cf (df (by omega))]
 by_cases h2:c.Bb.length≤5
 case neg=>rw[ct (dt (by omega))];unfold KY;rw[df h2,Bool.false_and,Bool.and_false]
 rw[cf (df (by omega))]
 by_cases a:c.AP.length≤7
 case neg=>rw[ct (dt (by omega))];unfold KY;rw[df a,Bool.false_and,Bool.and_false,Bool.and_false]
 rw[cf (df (by omega))];have b:DG c K 0=some (cond (c.Bb.all fun l=>decide (l.length≤6)) (.inr ()) (.inl false)):=
  Ke c.Bb (fun m i=>DG c m (i:Int)) (fun l=>decide (l.length≤6)) false
   (fun m i hi=>by
    show DG c (m+1) (i:Int)=_;rw[DG.eq_2,ct (dt (by omega)),Cp hi]
    by_cases h:c.Bb[i].length≤6
    ·rw[cf (df (by omega)),BS (by omega) (by omega),Dw i,dt h,ct rfl]
    ·rw[ct (dt (by omega)),df h,cf rfl])
   (fun m=>by
    show DG c (m+1) (c.Bb.length:Int)=_;rw[DG.eq_2,cf (df (by omega))]) (by omega)
 unfold KY;rw[bd b,dt h1,dt h2,dt a,Bool.true_and,Bool.true_and,Bool.true_and];cases d:c.Bb.all fun l=>decide (l.length≤6) with
 |false=>rw[cf rfl,Bool.false_and];rfl
 |true=>
  have e:∀l∈c.Bb,l.length≤100:=fun l hl=>by have:=of_decide_eq_true (List.all_eq_true.1 d l hl);omega
  rw[ct rfl,Bool.true_and];show Option.bind (ET K c) _=_;rw[bd (Rj hK c (by omega) (by omega) (by omega) e)]
  by_cases h0:G0 c=0
  ·rw[cf (Ib h0),bd (Ri hK c (by omega) (TY hK c h0)),df (show¬(G0 c≠0) by simp[h0]),Bool.false_or]
   congr 1
   rw[Bool.eq_iff_iff,decide_eq_true_eq,decide_eq_true_eq];omega
  ·rw[ct (J1 h0),dt h0,Bool.true_or]
theorem UJ(t:AD):GF K t=some (IJ t):=by
 unfold GF IJ;have h:GC K ⟨t.Aj,t.Ab,t.Aq⟩=some (KY t.C):=XL hK t.C;rw[bd h];cases KY t.C with
 |false=>rw[cf rfl,Bool.false_and]
 |true=>
  rw[ct rfl,Bool.true_and]
  by_cases h1:t.AB.length≤5
  case neg=>rw[cf (df (by omega)),df h1,Bool.false_and]
  rw[ct (dt (by omega)),dt h1,Bool.true_and]
  by_cases h2:t.AE.length≤5
  case neg=>rw[cf (df (by omega)),df h2,Bool.false_and]
  rw[ct (dt (by omega)),dt h2,Bool.true_and]
  congr 1
  rw[Bool.eq_iff_iff,decide_eq_true_eq,decide_eq_true_eq];omega
theorem SQ{t:AD}(h:PB t):Gl K t=some (Gr t):=by
 unfold Gl;rw[bd (UC hK t h)]
end
def Ic (t:AD):Int:=if Gr t≠0 then Gr t else if Et t.C=[] then 11 else 0
def DZ(t:AD):Int:=if Ic t≠0 then Ic t else if B4 t=[] then 9 else 0
theorem G2{t:AD}(h:Ic t=0):Gr t=0∧Et t.C≠[]:=by
 unfold Ic at h;split at h
 ·rename_i h1;exact absurd h h1
 rename_i h1
 split at h
 ·cases h
 exact⟨Decidable.byContradiction h1,‹_›⟩
theorem Gt{t:AD}(h:DZ t=0):Ic t=0∧B4 t≠[]:=by
 unfold DZ at h;split at h
 ·rename_i h1;exact absurd h h1
 rename_i h1
 split at h
 ·cases h
 exact⟨Decidable.byContradiction h1,‹_›⟩
theorem TZ{α:Type}(l:List α):((l.length:Int)==0)=true↔l=[]:=by
 rw[beq_iff_eq];constructor
 ·intro h;exact List.eq_nil_of_length_eq_zero (by omega)
 ·rintro rfl;rfl
theorem Rv{α:Type}{l:List α}(h:l≠[]):((l.length:Int)==0)=false:=by
 rw[Bool.eq_false_iff];exact fun g=>h ((TZ l).1 g)
section
variable{K:Nat}(hK:1000≤K)
include hK
theorem T0{t:AD}(h:IJ t=true):GG K t=some (Ic t):=by
 unfold GG Ic;rw[bd (SQ hK (Ki h))]
 by_cases h0:Gr t=0
 ·have a:=Ju h h0;have b:EA K ⟨t.Aj,t.Ab,t.Aq⟩=some (Et t.C):=Qb hK (c:=t.C) a.c;rw[cf (Ib h0),if_neg (by simp[h0]),bd b]
  by_cases h1:Et t.C=[]
  ·rw[ct ((TZ _).2 h1),if_pos h1]
  ·rw[cf (Rv h1),if_neg h1]
 ·rw[ct (J1 h0),if_pos h0]
theorem UK{t:AD}(h:IJ t=true):GH K t=some (if DZ t=0 then B4 t else [],DZ t):=by
 unfold GH;rw[bd (T0 hK h)]
 by_cases h0:Ic t=0
 ·have a:=Ju h (G2 h0).1;rw[cf (Ib h0),bd (TX hK a)]
  by_cases h1:B4 t=[]
  ·have e:DZ t=9:=by unfold DZ;rw[if_neg (by simp[h0]),if_pos h1]
   rw[ct ((TZ _).2 h1),e,if_neg (by omega)]
  ·have e:DZ t=0:=by unfold DZ;rw[if_neg (by simp[h0]),if_neg h1]
   rw[cf (Rv h1),e,if_pos rfl]
 ·have e:DZ t=Ic t:=by unfold DZ;rw[if_pos h0]
  rw[ct (J1 h0),e,if_neg h0]
theorem UL{t:AD}(a:OkT t){L:List (List Int)}(b:Tr t L):L=[]↔Et t.C=[]:=by
 constructor
 ·rintro rfl;refine List.eq_nil_iff_forall_not_mem.2 fun l hl=>?_;obtain⟨_,h,_⟩:=b.all l ((Jt a.c).1 hl);cases h
 ·intro h;refine List.eq_nil_iff_forall_not_mem.2 fun l hl=>?_;have:=(Jt a.c).2 (b.UH l hl);rw[h] at this;cases this
theorem Z7{t:AD}(a:OkT t){L:List (List Int)}(b:Tr t L)(p:List Int→Bool)(d:∀l l',BT t l=BT t l'→p l=p l'):L.any p=(Et t.C).any p:=by
 rw[Bool.eq_iff_iff,List.any_eq_true,List.any_eq_true];constructor
 ·rintro⟨l,hl,h⟩;exact⟨l,(Jt a.c).2 (b.UH l hl),h⟩
 ·rintro⟨l,hl,h⟩;obtain⟨l',h1,h2⟩:=b.all l ((Jt a.c).1 hl);exact⟨l',h1,by rw[d l' l h2];exact h⟩
theorem UM {t:AD} (h:IJ t=true) (a:Bool):
  (Ic t=0∧a=true∧∃L,Tr t L∧L≠[]∧Ei K t a=some (some (wk t (L.map (BT t)) []),0))∨
  (¬(Ic t=0∧a=true)∧Ei K t a=some (none,if Gr t=0∧a=false then 2 else Ic t)):=by
 unfold Ei;rw[bd (Rl hK t (Ki h))]
 by_cases h0:Gr t=0
 ·have b:=Ju h h0;rw[cf (Ib h0)];cases a with
  |false=>exact .inr ⟨by simp,by rw[nf,if_pos ⟨h0,rfl⟩]⟩
  |true=>
   obtain⟨L,c,e⟩:=Z4 hK b;rw[nt,bd e];have d:(wk t (L.map (BT t)) []).B5=L.map (BT t):=rfl;rw[d,List.length_map]
   by_cases h1:L=[]
   ·have h2:=(UL hK b c).1 h1;refine .inr ⟨by rintro⟨f,_⟩;exact(G2 f).2 h2,?_⟩;rw[ct ((TZ _).2 h1),if_neg (by simp)];unfold Ic;rw[if_neg (by simp[h0]),if_pos h2]
   ·have h2:Et t.C≠[]:=fun g=>h1 ((UL hK b c).2 g);refine .inl ⟨?_,rfl,L,c,h1,by rw[cf (Rv h1)]⟩;unfold Ic;rw[if_neg (by simp[h0]),if_neg h2]
 ·rw[ct (J1 h0)];refine .inr ⟨fun g=>h0 (G2 g.1).1,?_⟩;rw[if_neg (by simp[h0])];unfold Ic;rw[if_pos h0]
theorem UN{t:AD}(a:OkT t)(out:List Int)(l l':List Int)(h:BT t l=BT t l'):Eb (Bz t l) out 0 t.AK=Eb (Bz t l') out 0 t.AK:=by
 rw[Qf a.kl h]
theorem NQ{t:AD}(h:IJ t=true)(c:Bool):
  (DZ t=0∧c=true∧∃L m,Tr t L∧HU t m∧C3 K t c=some (some (wk t (L.map (BT t)) m),0))∨
  (¬(DZ t=0∧c=true)∧C3 K t c=some (none,if Gr t=0∧c=false then 2 else DZ t)):=by
 unfold C3;rcases UM hK h c with⟨h0,n,L,i,d,e⟩|⟨h0,e⟩
 ·have j:=Ju h (G2 h0).1;rw[bd e];obtain⟨m,hm,g⟩:=TW hK j (out:=[]) (by simp) i.len (XD t);have o:(L.any fun l=>Eb (Bz t l) [] 0 t.AK)=(Et t.C).any fun l=>Eb (Bz t l) [] 0 t.AK:=Z7 hK j i _ (UN hK j [])
  by_cases h1:B4 t=[]
  ·have f:DZ t=9:=by unfold DZ;rw[if_neg (by simp[h0]),if_pos h1]
   refine .inr ⟨by rw[f];simp,?_⟩;have k:((Et t.C).any fun l=>Eb (Bz t l) [] 0 t.AK)=false:=by
    rw[Bool.eq_false_iff];intro hh;obtain⟨l,hl,hr⟩:=List.any_eq_true.1 hh;have:l∈B4 t:=List.mem_filter.2 ⟨hl,hr⟩;rw[h1] at this;cases this
   show(cond ((0:Int) !=0) (some ((none:Option B7),(0:Int))) ((DE K (wk t (L.map (BT t)) []) []).bind _)=_);rw[cf (Ib rfl),bd g,o,k,nf,f,n,if_neg (by simp)]
  ·have f:DZ t=0:=by unfold DZ;rw[if_neg (by simp[h0]),if_neg h1]
   have k:((Et t.C).any fun l=>Eb (Bz t l) [] 0 t.AK)=true:=by
    obtain⟨l,hl⟩:=List.exists_mem_of_ne_nil _ h1;obtain⟨a,b⟩:=List.mem_filter.1 hl;exact List.any_eq_true.2 ⟨l,a,b⟩
   refine .inl ⟨f,n,L,m,i,hm,?_⟩;show(cond ((0:Int) !=0) (some ((none:Option B7),(0:Int))) ((DE K (wk t (L.map (BT t)) []) []).bind _)=_);rw[cf (Ib rfl),bd g,o,k,nt];rfl
 ·rw[bd e];have d:(if Gr t=0∧c=false then (2:Int) else Ic t)≠0:=by
   split
   ·omega
   ·rename_i hh
    intro g;refine h0 ⟨g,?_⟩;cases c with
    |true=>rfl
    |false=>exact absurd ⟨(G2 g).1,rfl⟩ hh
  refine .inr ⟨fun g=>h0 ⟨(Gt g.1).1,g.2⟩,?_⟩;show cond (_ !=0) _ _=_;rw[ct (J1 d)]
  congr 2
  split
  ·rfl
  ·rename_i hh
   have:Ic t≠0:=by rw[if_neg hh] at d;exact d
   unfold DZ;rw[if_pos this]
end
def L8(x:Int):List Int→List Int
 |[]=>[x]
 |y::l=>cond (decide (x≤y)) (x::y::l) (y::L8 x l)
def Mj:List Int→List Int
 |[]=>[]
 |x::l=>L8 x (Mj l)
theorem Rw(x z:Int):∀l,z∈L8 x l↔z=x∨z∈l
 |[]=>by simp[L8]
 |y::l=>by
  unfold L8;cases h:decide (x≤y)
  ·simp[Rw x z l];constructor<;>(rintro(h|h|h)<;>simp[h])
  ·simp
theorem Qi(x:Int):∀l,(L8 x l).Perm (x::l)
 |[]=>.refl _
 |y::l=>by
  unfold L8;cases h:decide (x≤y)
  ·exact((Qi x l).cons y).trans (.swap x y l)
  ·exact .refl _
theorem KZ:∀l,(Mj l).Perm l
 |[]=>.refl _
 |x::l=>(Qi x _).trans ((KZ l).cons x)
theorem Of(x:Int):∀l,l.Pairwise (· ≤·)→(L8 x l).Pairwise (· ≤·)
 |[],_=>by simp[L8]
 |y::l,h=>by
  unfold L8;cases b:decide (x≤y)
  ·have h1:¬x≤y:=by simpa using b
   rw[List.pairwise_cons] at h;refine List.pairwise_cons.2 ⟨fun z a=>?_,Of x l h.2⟩;rcases(Rw x z l).1 a with rfl|a
   ·omega
   ·exact h.1 z a
  ·have h1:x≤y:=by simpa using b
   refine List.pairwise_cons.2 ⟨fun z a=>?_,h⟩;rcases List.mem_cons.1 a with rfl|a
   ·exact h1
   ·exact Int.le_trans h1 ((List.pairwise_cons.1 h).1 z a)
theorem Lg:∀l,(Mj l).Pairwise (· ≤·)
 |[]=>.nil
 |x::l=>Of x _ (Lg l)
theorem MI(l:List Int):GU l=Mj l:=by
 have hs:(GU l).Pairwise (· ≤·):=by
  have:=List.pairwise_mergeSort (le:=fun(x y:Int)=>decide (x≤y)) (by intro a b c;simp;omega) (by intro a b;simp;omega) l;exact this.imp (fun h=>by simpa using h)
 refine List.Perm.eq_of_pairwise (le:=(· ≤·)) (fun a b _ _ h1 h2=>Int.le_antisymm h1 h2) hs (Lg l) ?_;exact(List.mergeSort_perm l _).trans (KZ l).symm
def PD(a:Nat)(d:B7)(b:List Int):Option (Bool×(List (List Int×Int))):=
 (E3 a d).bind fun c=>(Ej b c a ([]:List Int) (0:Int)).bind fun z3=>(ED ((z3.length:Int)≤100000)).bind fun _=>(ED (((Mj z3).length:Int)≤100000)).bind fun _=>some ((decide (((Lib.compact (Mj z3)).length:Int)<(b.length:Int)),c.2))
theorem V0:Fh=PD:=by
 funext K a b;unfold Fh PD;simp only[MI]
def Nx(b:Nat)(c:List Int)(d:B7):Option (Bool×(List (List Int×Int))):=
 (PD b d c).bind fun a=>some ((a.1,a.2))
theorem T1:E7=Nx:=by
 funext K a b;unfold E7 Nx;rw[V0]
def PE(d:Nat)(e:AD):Option ((List Int)×Int):=
 (C3 d e true).bind fun b=>Option.elim b.1 (cond (b.2 !=0) (some ((([]:List Int),b.2))) (none)) (fun a=>cond (b.2 !=0) (some ((([]:List Int),b.2))) ((FR d (fun(st:(List (List Int×Int))) (x:(List Int))=>(Nx d x (⟨a.Av,a.Aw,a.As,a.BV,a.AM,a.AN,a.Bf,a.weights,a.B5,st⟩:B7)).bind fun r=>some (r.1,r.2)) (e.AE.length:Int) a.known).bind fun c=>cond (!c.2.1) (some ((([]:List Int),7))) (some ((c.1,0)))))
theorem V1:Ha=PE:=by
 funext K a;unfold Ha PE;rw[T1]
def PF(a:Nat):Option (Bool):=
 (Cu a 0).bind fun z=>(Ks a z [41,62]).bind fun n=>(Cu a 0).bind fun aA=>(Hr a aA).bind fun d=>(Cu a 0).bind fun o=>(G9 a o [0,1]).bind fun b=>(Cu a 0).bind fun p=>(Ku a p).bind fun c=>(Cu a 1).bind fun q=>(Kw a q).bind fun e=>(Cu a 0).bind fun r=>(PE a r).bind fun f=>(Cu a 2).bind fun s=>(Kb a s).bind fun g=>(Cu a 2).bind fun t=>(Kd a t).bind fun h=>cond (n.2==0) ((Ct a n.1 [80,120]).bind fun u=>cond (u) (cond (d.2==0) (cond ((d.1.length:Int)==2) ((idx d.1 (0:Int)).bind fun i=>(DI a 40 80).bind fun j=>cond ([i.Lo,i.Hi]==[j.Lo,j.Hi]) ((idx d.1 (1:Int)).bind fun k=>(DI a 120 120).bind fun l=>cond ([k.Lo,k.Hi]==[l.Lo,l.Hi]) (cond (b.2==0) ((DI a 160 200).bind fun m=>cond ([b.1.Lo,b.1.Hi]==[m.Lo,m.Hi]) (cond (c.2.2==0) ((Ct a c.1 [1]).bind fun v=>cond (v) (cond (c.2.1==180) (cond (e.2==0) ((Ct a e.1 [1,0]).bind fun w=>cond (w) (cond (f.2==0) ((Ct a f.1 [0,1]).bind fun x=>cond (x) (cond (g.2==0) (cond (g.1==1) (cond (h.2==0) ((Ct a h.1 [0]).bind fun y=>some (y)) (some (false))) (some (false))) (some (false))) (some (false))) (some (false))) (some (false))) (some (false))) (some (false))) (some (false))) (some (false))) (some (false))) (some (false))) (some (false))) (some (false))) (some (false))) (some (false))) (some (false))) (some (false))
theorem V2:BU=PF:=by
 funext K;unfold BU PF;rw[V1]
set_option maxRecDepth 100000 in
theorem Sp:PF 1000=some true:=by kernel_rfl
theorem Pc:BU 1000=some true:=by rw[V2];exact Sp
theorem UO{β:Type}{f:Unit→Option β}{x:Nat}(h:x<64):(LD .u64 (x:Int)).bind f=f ():=bd (by
 have:∀x:Nat,x<64→LD .u64 (x:Int)=some ():=by decide+kernel
 exact this x h)
theorem Rx{β:Type}{f:Unit→Option β}{a:Int}{x:Nat}(h:x<64):(Oo a (x:Int)).bind f=f ():=bd (if_pos ⟨by omega,by omega⟩)
theorem NR(s x:Nat):J0 (s:Int) (x:Int)=((s/2^x:Nat):Int):=by
 unfold J0;rw[show(x:Int).toNat=x by omega];simp
theorem tb(s i:Nat):(s/2^i%2==1)=s.testBit i:=by rw[Nat.testBit_eq_decide_div_mod_eq];rfl
def CZ (s:Nat):List Int:=((List.range 8).filter fun x=>s.testBit x).map fun x:Nat=>(x:Int)
def lexB:List Int→List Int→Bool
 |a::c,b::d=>if a=b then lexB c d else decide (a<b)
 |[],_::_=>true
 |_,[]=>false
def sh (a b:List Int):Bool:=decide (a.length<b.length)||(a.length==b.length&&lexB a b)
theorem MJ:∀a b:List Int,lexB a b=false→lexB b a=false→a=b
 |[],[],_,_=>rfl
 |[],b::c,h,_=>by cases h
 |a::d,[],_,h=>by cases h
 |a::d,b::c,h,g=>by
  rw[lexB] at h g
  by_cases e:a=b
  ·rw[if_pos e] at h;rw[if_pos e.symm] at g;rw[e,MJ d c h g]
  ·rw[if_neg e,decide_eq_false_iff_not] at h;rw[if_neg (Ne.symm e),decide_eq_false_iff_not] at g;omega
theorem Mk{a b:List Int}:sh a b=true↔a.length<b.length∨(a.length=b.length∧lexB a b=true):=by simp[sh]
theorem Z8{a b:List Int}(h:sh a b=false)(g:sh b a=false):a=b:=by
 rw[Bool.eq_false_iff] at h g;have h1:a.length=b.length:=by
  refine Decidable.byContradiction fun e=>?_;rcases Nat.lt_or_gt_of_ne e with e|e
  ·exact h (Mk.2 (.inl e))
  ·exact g (Mk.2 (.inl e))
 refine MJ a b ?_ ?_
 ·rw[Bool.eq_false_iff];exact fun e=>h (Mk.2 (.inr ⟨h1,e⟩))
 ·rw[Bool.eq_false_iff];exact fun e=>g (Mk.2 (.inr ⟨h1.symm,e⟩))
theorem LJ{s:Nat}{r:Int}:r∈CZ s↔∃x:Nat,x<8∧s.testBit x=true∧r=x:=by
 unfold CZ;simp only[List.mem_map,List.mem_filter,List.mem_range];constructor
 ·rintro⟨x,⟨h1,h2⟩,rfl⟩;exact⟨x,h1,h2,rfl⟩
 ·rintro⟨x,h1,h2,rfl⟩;exact⟨x,⟨h1,h2⟩,rfl⟩
theorem UP{s x k:Nat}(hs:s<2^k)(h:s.testBit x=true):x<k:=by
 refine Decidable.byContradiction fun a=>?_;rw[Nat.testBit_lt_two_pow (Nat.lt_of_lt_of_le hs (Nat.pow_le_pow_right (by omega) (by omega)))] at h;cases h
theorem Og(s:Nat):(CZ s).Pairwise (· <·):=by
 unfold CZ;rw[List.pairwise_map];have h:(List.range 8).Pairwise (fun a b:Nat=>a<b):=List.pairwise_lt_range;exact(h.sublist (List.filter_sublist)).imp fun h=>by omega
theorem MK:∀{l m:List Int},l.Pairwise (· <·)→m.Pairwise (· <·)→(∀x,x∈l↔x∈m)→l=m
 |[],[],_,_,_=>rfl
 |[],b::m,_,_,h=>by have:=(h b).2 (List.mem_cons_self ..);cases this
 |a::l,[],_,_,h=>by have:=(h a).1 (List.mem_cons_self ..);cases this
 |a::l,b::m,h1,h2,h=>by
  rw[List.pairwise_cons] at h1 h2;have f:a=b:=by
   rcases List.mem_cons.1 ((h a).1 (List.mem_cons_self ..)) with e|e
   ·exact e
   ·rcases List.mem_cons.1 ((h b).2 (List.mem_cons_self ..)) with d|d
    ·exact d.symm
    ·have:=h1.1 b d;have:=h2.1 a e;omega
  subst f
  congr 1
  refine MK h1.2 h2.2 fun x=>⟨fun c=>?_,fun c=>?_⟩
  ·rcases List.mem_cons.1 ((h x).1 (List.mem_cons_of_mem _ c)) with e|e
   ·have:=h1.1 x c;omega
   ·exact e
  ·rcases List.mem_cons.1 ((h x).2 (List.mem_cons_of_mem _ c)) with e|e
   ·have:=h2.1 x c;omega
   ·exact e
def F9(n:Int):Int→List Int→Bool
 |_,[]=>true
 |lo,x::l=>Ek x lo (n-1)&&F9 n (x+1) l
def IY:List Int→Nat
 |[]=>0
 |x::l=>2^x.toNat|||IY l
theorem Lp{n:Int}:∀{l:List Int} {lo:Int},F9 n lo l=true→∀x∈l,lo≤x∧x<n
 |[],_,_,x,a=>by cases a
 |y::l,lo,h,x,a=>by
  rw[F9,Bool.and_eq_true,Ee] at h;rcases List.mem_cons.1 a with rfl|a
  ·omega
  ·have:=Lp h.2 x a;omega
theorem Pd{n:Int}:∀{l:List Int} {lo:Int},F9 n lo l=true→l.Pairwise (· <·)
 |[],_,_=>.nil
 |y::l,lo,h=>by
  rw[F9,Bool.and_eq_true,Ee] at h;exact List.pairwise_cons.2 ⟨fun z a=>by have:=Lp h.2 z a;omega,Pd h.2⟩
theorem SR{n:Int}:∀{l:List Int} {lo:Int},lo≤n→F9 n lo l=true→(l.length:Int)≤n-lo
 |[],_,h0,_=>by simp;omega
 |y::l,lo,h0,h=>by
  rw[F9,Bool.and_eq_true,Ee] at h;have:=SR (by omega) h.2;rw[List.length_cons];omega
theorem OD:∀{l:List Int} (_:∀x∈l,0≤x) (j:Nat),(IY l).testBit j=true↔(j:Int)∈l
 |[],_,j=>by simp[IY]
 |x::l,h,j=>by
  have b:=h x (List.mem_cons_self ..);rw[IY,Nat.testBit_or,Bool.or_eq_true,OD (fun y a=>h y (List.mem_cons_of_mem _ a)) j,Nat.testBit_two_pow,decide_eq_true_eq,List.mem_cons];constructor
  ·rintro(h|h)
   ·exact .inl (by omega)
   ·exact .inr h
  ·rintro(h|h)
   ·exact .inl (by omega)
   ·exact .inr h
theorem PG{n:Nat}:∀{l:List Int},(∀x∈l,0≤x∧x<n)→IY l<2^n
 |[],_=>Nat.two_pow_pos n
 |x::l,h=>by
  have b:=h x (List.mem_cons_self ..);exact Nat.or_lt_two_pow (Nat.pow_lt_pow_right (by omega) (by omega)) (PG fun y a=>h y (List.mem_cons_of_mem _ a))
theorem bits_mask{n:Nat}(b:n≤8){l:List Int}(h:F9 n 0 l=true):CZ (IY l)=l:=by
 have hm:=Lp h;refine MK (Og _) (Pd h) fun x=>?_;rw[LJ];constructor
 ·rintro⟨y,c,hb,rfl⟩;exact(OD (fun x a=>(hm x a).1) y).1 hb
 ·intro a;have:=hm x a;refine⟨x.toNat,by omega,?_,by omega⟩;rw[OD (fun x a=>(hm x a).1),Int.toNat_of_nonneg (by omega)];exact a
theorem UQ{n:Nat}:∀{l:List Int} {lo:Int},l.Pairwise (· <·)→(∀x∈l,lo≤x∧x<(n:Int))→F9 n lo l=true
 |[],_,_,_=>rfl
 |x::l,lo,h,hm=>by
  have b:=hm x (List.mem_cons_self ..);rw[List.pairwise_cons] at h;rw[F9,Bool.and_eq_true,Ee];exact⟨by omega,UQ h.2 fun y a=>⟨by have:=h.1 y a;omega,(hm y (List.mem_cons_of_mem _ a)).2⟩⟩
theorem V4{n s:Nat}(hs:s<2^n):F9 n 0 (CZ s)=true:=by
 refine UQ (Og s) fun x a=>?_;obtain⟨y,_,hb,rfl⟩:=LJ.1 a;have:=UP hs hb;omega
section
variable{K:Nat}(hK:1000≤K)
include hK
theorem SS(n:Int)(b:0≤n∧n≤100):∀(l:List Int) (s:Int),-1≤s→s≤100→∃a,run (fun(st:Int) (x:Int)=>(GX K x st n).bind fun r=>some (r.1,r.2)) l s=some (F9 n (s+1) l,a)
 |[],s,_,_=>⟨s,rfl⟩
 |x::l,s,h0,h1=>by
  have e:GX K x s n=some (Ek x (s+1) (n-1),x):=by
   unfold GX;rw[BS (by omega) (by omega),BS (by omega) (by omega),bd (Jd ..)]
  rw[run,bd e,F9,Option.bind_some];cases h:Ek x (s+1) (n-1) with
  |false=>exact⟨x,rfl⟩
  |true=>
   rw[Ee] at h;obtain⟨a,hs⟩:=SS n b l x (by omega) (by omega);exact⟨a,by rw[Bool.true_and];exact hs⟩
theorem SU{n:Int}(a:0≤n∧n≤100){l:List Int}(hl:l.length≤900):H3 K l n=some (F9 n 0 l):=by
 unfold H3;obtain⟨b,hs⟩:=SS hK n a l (-1) (by omega) (by omega);rw[bd ((TS hK _ l hl (-1)).trans hs)];rfl
omit hK in
theorem T3:∀i:Nat,i<8→LD .u64 (i:Int)=some ()∧LC 1 (i:Int)=some ()∧HZ 1 (i:Int)=((2^i:Nat):Int)∧2^i≤128∧1≤2^i∧LC 2 (i:Int)=some ()∧HZ 2 (i:Int)=((2^(i+1):Nat):Int):=by decide+kernel
theorem Pe(n:Int)(g:0≤n∧n≤8)(l:List Int)(hl:l.length≤900):∀(d m i:Nat) (bits:Nat) (lo:Int),l.length=i+d→d<m→bits<2^8→(i=0→lo=0)→(∀h:0<i,∃h2:i-1<l.length,lo=l[i-1]+1∧0≤lo)→
  (Dm K l n m (bits:Int) (i:Int)).bind (fun z=>Sum.elim (fun q=>some (q.1,q.2)) (fun q=>some (q,true)) z)=some (if F9 n lo (l.drop i)=true then ((bits|||IY (l.drop i):Nat):Int) else 0,F9 n lo (l.drop i))
 |d,0,i,bits,lo,h,hm,_,_,_=>by omega
 |0,m+1,i,bits,lo,h,hm,hb,_,_=>by
  rw[Dm.eq_2,cf (df (by omega)),List.drop_eq_nil_of_le (by omega),F9,if_pos rfl,IY,Nat.or_zero];rfl
 |d+1,m+1,i,bits,lo,h,hm,hb,h0,h1=>by
  have hi:i<l.length:=by omega
  rw[Dm.eq_2,ct (dt (by omega)),Cp hi,BS (by omega) (by omega),bd (Kx ..),List.drop_eq_getElem_cons hi,F9];have p:0≤lo:=by
   rcases Nat.eq_zero_or_pos i with e|e
   ·rw[h0 e];omega
   ·exact(h1 e).2.2
  cases hr:Ek l[i] 0 (n-1) with
  |false=>
   have:Ek l[i] lo (n-1)=false:=by rw[Jc] at hr⊢;omega
   rw[nf,this,Bool.false_and,if_neg (by simp)];rfl
  |true=>
   rw[Ee] at hr;obtain⟨x,a⟩:∃x:Nat,l[i]=(x:Int):=⟨l[i].toNat,by omega⟩;obtain⟨s1,s2,c,r,s,_⟩:=T3 x (by omega);have j:2^x<2^8:=Nat.pow_lt_pow_right (by omega) (by omega);have rest:∀(b:lo≤l[i]),(Dm K l n m ((bits|||2^x:Nat):Int) ((i+1:Nat):Int)).bind (fun z=>Sum.elim (fun q=>some (q.1,q.2)) (fun q=>some (q,true)) z)=
     some (if (Ek l[i] lo (n-1)&&F9 n (l[i]+1) (l.drop (i+1)))=true then ((bits|||IY (l[i]::l.drop (i+1)):Nat):Int) else 0,Ek l[i] lo (n-1)&&F9 n (l[i]+1) (l.drop (i+1))):=fun b=>by
    rw[Ee.2 ⟨b,hr.2⟩,Bool.true_and,Pe n g l hl d m (i+1) (bits|||2^x) (l[i]+1) (by omega) (by omega) (Nat.or_lt_two_pow hb j) (fun h=>by omega) (fun _=>⟨by omega,rfl,by omega⟩),IY,a,Int.toNat_natCast,Nat.or_assoc]
   rw[nt]
   by_cases f:0<i
   ·obtain⟨k,t,_⟩:=h1 f;have o:(i:Int)-1=((i-1:Nat):Int):=by omega
    rw[ct (dt (by omega)),Cp hi,BS (by omega) (by omega),o,Cp k]
    by_cases hle:l[i]≤l[i-1]
    ·have:Ek l[i] lo (n-1)=false:=by rw[Jc];omega
     rw[ct (dt hle),this,Bool.false_and,if_neg (by simp)];rfl
    ·rw[cf (df hle),Cp hi,a,bd s1,bd s2,c,VX (by omega) (by omega),BS (by omega) (by omega),Dw i,Z5,←a];exact rest (by omega)
   ·rw[cf (df (by omega)),Cp hi,a,bd s1,bd s2,c,VX (by omega) (by omega),BS (by omega) (by omega),Dw i,Z5,←a];exact rest (by rw[h0 (by omega)];omega)
theorem Pf{n:Int}(a:0≤n∧n≤8){l:List Int}(hl:l.length≤900):Gq K l n=some (if F9 n 0 l=true then ((IY l:Nat):Int) else 0,F9 n 0 l):=by
 have:=Pe hK n a l hl l.length K 0 0 0 (by omega) (by omega) (by omega) (fun _=>rfl) (fun h=>by omega);rw[Int.natCast_zero,List.drop_zero,Nat.zero_or] at this;exact this
end
structure LK (n:Nat) (p:List Int→Bool) (x:List Int):Prop where
 is:∃s,s<2^n∧CZ s=x
 ok:p x=true
 least:∀s,s<2^n→p (CZ s)=true→sh (CZ s) x=false
theorem LK.uniq{n:Nat}{p:List Int→Bool}{x y:List Int}(h:LK n p x)(g:LK n p y):x=y:=by
 obtain⟨s,hs,rfl⟩:=h.is;obtain⟨b,a,rfl⟩:=g.is;exact Z8 (g.least s hs h.ok) (h.least b a g.ok)
theorem LK.ris{n:Nat}{p:List Int→Bool}{x:List Int}(h:LK n p x):F9 n 0 x=true:=by
 obtain⟨s,hs,rfl⟩:=h.is;exact V4 hs
theorem LK.len{n:Nat}{p:List Int→Bool}{x:List Int}(h:LK n p x):x.length≤n:=by
 have:=SR (by omega) h.ris;omega
section
variable{K:Nat}(hK:1000≤K)
include hK
end
structure IS {α:Type} (S:List α) (f:α→Int) (r:AL):Prop where
 lo:∃l∈S,f l=r.Lo
 hi:∃l∈S,f l=r.Hi
 all:∀l∈S,r.Lo≤f l∧f l≤r.Hi
theorem XM{r s:AL}(h:r.Lo=s.Lo)(g:r.Hi=s.Hi):r=s:=by cases r;cases s;simp at h g;rw[h,g]
theorem IS.uniq{α:Type}{S:List α}{f:α→Int}{r s:AL}(h:IS S f r)(g:IS S f s):r=s:=by
 obtain⟨a,ha,ea⟩:=h.lo;obtain⟨b,hb,j⟩:=g.lo;obtain⟨c,e,ec⟩:=h.hi;obtain⟨d,i,k⟩:=g.hi;have h1:=g.all a ha;have h2:=h.all b hb;have l:=g.all c e;have m:=h.all d i;exact XM (by omega) (by omega)
theorem IS.map{α β:Type}{X:List α}{f:α→Int}{S:List β}{g:β→Int}{r:AL}(h:IS X f r)(h1:∀x∈X,∃l∈S,g l=f x)(h2:∀l∈S,∃x∈X,f x=g l):IS S g r:=by
 obtain⟨a,ha,ea⟩:=h.lo;obtain⟨c,i,ec⟩:=h.hi;obtain⟨a',b,m⟩:=h1 a ha;obtain⟨j,d,n⟩:=h1 c i;refine⟨⟨a',b,by omega⟩,⟨j,d,by omega⟩,fun l hl=>?_⟩;obtain⟨x,k,e⟩:=h2 l hl;have:=h.all x k;omega
theorem IS.snoc{α:Type}{S:List α}{f:α→Int}{r:AL}(h:IS S f r)(x:α):IS (S++[x]) f ⟨min r.Lo (f x),max r.Hi (f x)⟩:=by
 obtain⟨a,ha,ea⟩:=h.lo;obtain⟨c,b,ec⟩:=h.hi;refine⟨?_,?_,fun l hl=>?_⟩
 ·by_cases hh:r.Lo≤f x
  ·exact⟨a,by simp[ha],by simp only;omega⟩
  ·exact⟨x,by simp,by simp only;omega⟩
 ·by_cases hh:f x≤r.Hi
  ·exact⟨c,by simp[b],by simp only;omega⟩
  ·exact⟨x,by simp,by simp only;omega⟩
 ·simp only;rcases List.mem_append.1 hl with hl|hl
  ·have:=h.all l hl;omega
  ·rw[List.mem_singleton.1 hl];omega
theorem IS.one{α:Type}(f:α→Int)(x:α):IS [x] f ⟨f x,f x⟩:=⟨⟨x,by simp,rfl⟩,⟨x,by simp,rfl⟩,fun l hl=>by rw[List.mem_singleton.1 hl];simp⟩
theorem L5{t:AD}(a:OkT t){l l':List Int}(h:BT t l=BT t l'):Bz t l=Bz t l':=Qf a.kl h
theorem KL{t:AD}{out:List Int}{L:List (List Int)}{x:Bo×Bo}:x∈J6 t out L↔∃l∈L,Eb (Bz t l) out 0 t.AK=true∧x=(BT t l,arr (Bz t l)):=by
 unfold J6;simp only[List.mem_map,List.mem_filter];constructor
 ·rintro⟨l,⟨h1,h2⟩,rfl⟩;exact⟨l,h1,h2,rfl⟩
 ·rintro⟨l,h1,h2,rfl⟩;exact⟨l,⟨h1,h2⟩,rfl⟩
theorem Jv{t:AD}(a:OkT t){l:List Int}:l∈B4 t↔G1 t l=true:=by
 unfold B4 G1;rw[List.mem_filter,Jt a.c,Bool.and_eq_true]
section
variable{K:Nat}(hK:1000≤K)
include hK
end
structure Ry (W:List Int→Int) (n:Nat) (s:List Int):Prop where
 is:∃b,b<2^n∧CZ b=s
 Z9:∀x,x<2^n→W (CZ x)<W s∨(W (CZ x)=W s∧lexB (CZ x) s=false)
theorem Ry.uniq{W:List Int→Int}{n:Nat}{s a:List Int}(h:Ry W n s)(g:Ry W n a):s=a:=by
 obtain⟨b,hb,rfl⟩:=h.is;obtain⟨b',c,rfl⟩:=g.is;have h1:=h.Z9 b' c;have h2:=g.Z9 b hb;rcases h1 with h1|⟨h1,d⟩<;>rcases h2 with h2|⟨h2,e⟩
 ·omega
 ·omega
 ·omega
 ·exact MJ _ _ e d
section
variable{K:Nat}(hK:1000≤K)
include hK
theorem L9{t:AD}(a:OkT t):(B4 t).length≤150:=Nat.le_trans (List.length_filter_le _ _) (Oe a.c)
theorem ML{t:AD}(a:OkT t){l:List Int}(h:l∈B4 t):GP t.Aj l=true:=by
 have h1:=(Jv a).1 h;unfold G1 at h1;rw[Bool.and_eq_true] at h1;exact Ox h1.1
end
theorem nl{l l':List Int}(h:l=l'):(l !=l')=false:=by subst h;simp
section
variable{K:Nat}(hK:1000≤K)
include hK
end
end Go.Proofs.YtbhofkcbfblijaaGreat
end
section
namespace Go.Proofs.YtbhofkcbfblijaaGreat
namespace HF
theorem mixed:Tryz.prog.follows .mixedOrders=true:=by kernel_rfl
theorem MM(b:Nat)(w:World):(Instr.fieldAt 131 (.pointer (some ⟨b,0,none⟩)) 0).run Tryz.prog w=.ok (.pointer (some ⟨b,0,none⟩)) w:=by kernel_rfl
theorem Bq:One Tryz.prog 3:=by unfold One;exact⟨by kernel_rfl,by kernel_rfl⟩
theorem MN(b:Nat)(w:World):(Instr.fieldAt 131 (.pointer (some ⟨b,0,none⟩)) 1).run Tryz.prog w=.ok (.pointer (some ⟨b,1,none⟩)) w:=by kernel_rfl
theorem NS:Ba Tryz.prog 140:=by unfold Ba;kernel_rfl
theorem Dy:(Tryz.prog.info? 3).map (·.size)=some 1:=by kernel_rfl
theorem RA(b:Nat)(w:World):(Instr.fieldAt 133 (.pointer (some ⟨b,0,none⟩)) 0).run Tryz.prog w=.ok (.pointer (some ⟨b,0,none⟩)) w:=by kernel_rfl
theorem KB:One Tryz.prog 4:=by unfold One;exact⟨by kernel_rfl,by kernel_rfl⟩
theorem HV(b:Nat)(w:World):(Instr.fieldAt 38 (.pointer (some ⟨b,0,none⟩)) 0).run Tryz.prog w=.ok (.pointer (some ⟨b,0,none⟩)) w:=by kernel_rfl
theorem I4:One Tryz.prog 35:=by unfold One;exact⟨by kernel_rfl,by kernel_rfl⟩
theorem MO(b:Nat)(w:World):(Instr.fieldAt 133 (.pointer (some ⟨b,0,none⟩)) 1).run Tryz.prog w=.ok (.pointer (some ⟨b,1,none⟩)) w:=by kernel_rfl
theorem SV:Ba Tryz.prog 199:=by unfold Ba;kernel_rfl
theorem MP:(Tryz.prog.info? 131).bind (·.zero)=some (.agg #[I 0,I 0]):=by kernel_rfl
theorem XN:Ba Tryz.prog 168:=by unfold Ba;kernel_rfl
theorem K7:(Tryz.prog.info? 131).map (·.size)=some 2:=by kernel_rfl
theorem Iz:EX Tryz.prog 131 2:=by unfold EX;exact⟨by kernel_rfl,by kernel_rfl⟩
theorem XO:One Tryz.prog 214:=by unfold One;exact⟨by kernel_rfl,by kernel_rfl⟩
theorem XP:Ba Tryz.prog 221:=by unfold Ba;kernel_rfl
theorem XQ:Ba Tryz.prog 194:=by unfold Ba;kernel_rfl
theorem XS:Ba Tryz.prog 193:=by unfold Ba;kernel_rfl
theorem PH:One Tryz.prog 148:=by unfold One;exact⟨by kernel_rfl,by kernel_rfl⟩
theorem E8:(Tryz.prog.info? 31).map (·.size)=some 1:=by kernel_rfl
theorem CU:One Tryz.prog 31:=by unfold One;exact⟨by kernel_rfl,by kernel_rfl⟩
theorem XT:Ba Tryz.prog 222:=by unfold Ba;kernel_rfl
theorem XU:Ba Tryz.prog 196:=by unfold Ba;kernel_rfl
theorem XV:Ba Tryz.prog 195:=by unfold Ba;kernel_rfl
theorem XW:One Tryz.prog 212:=by unfold One;exact⟨by kernel_rfl,by kernel_rfl⟩
theorem NT:EX Tryz.prog 133 4:=by unfold EX;exact⟨by kernel_rfl,by kernel_rfl⟩
theorem RB:(Tryz.prog.info? 133).map (·.size)=some 4:=by kernel_rfl
theorem XX:Ba Tryz.prog 223:=by unfold Ba;kernel_rfl
theorem XY:Ba Tryz.prog 198:=by unfold Ba;kernel_rfl
theorem XZ:Ba Tryz.prog 197:=by unfold Ba;kernel_rfl
theorem Lq:One Tryz.prog 142:=by unfold One;exact⟨by kernel_rfl,by kernel_rfl⟩
theorem X3:Ba Tryz.prog 207:=by unfold Ba;kernel_rfl
theorem X5:Ba Tryz.prog 231:=by unfold Ba;kernel_rfl
theorem SW:Ba Tryz.prog 187:=by unfold Ba;kernel_rfl
theorem X6:Ba Tryz.prog 220:=by unfold Ba;kernel_rfl
theorem X7:Ba Tryz.prog 219:=by unfold Ba;kernel_rfl
theorem H9:EX Tryz.prog 38 3:=by unfold EX;exact⟨by kernel_rfl,by kernel_rfl⟩
theorem X8:Ba Tryz.prog 191:=by unfold Ba;kernel_rfl
theorem SX:Ba Tryz.prog 192:=by unfold Ba;kernel_rfl
theorem IA(b:Nat)(w:World):(Instr.fieldAt 38 (.pointer (some ⟨b,0,none⟩)) 1).run Tryz.prog w=.ok (.pointer (some ⟨b,1,none⟩)) w:=by kernel_rfl
theorem DK:One Tryz.prog 23:=by unfold One;exact⟨by kernel_rfl,by kernel_rfl⟩
theorem OE(b:Nat)(w:World):(Instr.fieldAt 133 (.pointer (some ⟨b,0,none⟩)) 2).run Tryz.prog w=.ok (.pointer (some ⟨b,2,none⟩)) w:=by kernel_rfl
theorem PI:Ba Tryz.prog 165:=by unfold Ba;kernel_rfl
theorem Ml(b:Nat)(w:World):(Instr.fieldAt 38 (.pointer (some ⟨b,0,none⟩)) 2).run Tryz.prog w=.ok (.pointer (some ⟨b,2,none⟩)) w:=by kernel_rfl
theorem Pg:One Tryz.prog 36:=by unfold One;exact⟨by kernel_rfl,by kernel_rfl⟩
theorem X9:Ba Tryz.prog 164:=by unfold Ba;kernel_rfl
theorem Ya:Ba Tryz.prog 163:=by unfold Ba;kernel_rfl
theorem Yb:Ba Tryz.prog 166:=by unfold Ba;kernel_rfl
theorem Yc:Ba Tryz.prog 162:=by unfold Ba;kernel_rfl
theorem Yd:Ba Tryz.prog 167:=by unfold Ba;kernel_rfl
theorem Ye:Ba Tryz.prog 169:=by unfold Ba;kernel_rfl
theorem Yf:Ba Tryz.prog 179:=by unfold Ba;kernel_rfl
theorem Jw:EX Tryz.prog 182 3:=by unfold EX;exact⟨by kernel_rfl,by kernel_rfl⟩
theorem SY:Ba Tryz.prog 183:=by unfold Ba;kernel_rfl
theorem V5:(Tryz.prog.info? 133).bind (·.zero)=some (.agg #[.bool false,I 0,I 0,I 0]):=by kernel_rfl
theorem Lr:Ba Tryz.prog 136:=by unfold Ba;kernel_rfl
theorem Yg:Ba Tryz.prog 178:=by unfold Ba;kernel_rfl
theorem Yh:Ba Tryz.prog 177:=by unfold Ba;kernel_rfl
theorem SZ:Ba Tryz.prog 176:=by unfold Ba;kernel_rfl
theorem OF:(Tryz.prog.info? 182).bind (·.zero)=some (.agg #[I 0,I 0,I 0]):=by kernel_rfl
theorem Ny:(Tryz.prog.info? 182).map (·.size)=some 3:=by kernel_rfl
theorem PJ:Ba Tryz.prog 127:=by unfold Ba;kernel_rfl
theorem S1:Ba Tryz.prog 132:=by unfold Ba;kernel_rfl
theorem It:(Tryz.prog.info? 3).map (fun i=>(i.zero,i.size,i.bytes))=some (some (I 0),1,8):=by kernel_rfl
theorem Yi:Ba Tryz.prog 133:=by unfold Ba;kernel_rfl
theorem Ls(b:Nat)(w:World):(Instr.fieldAt 60 (.pointer (some ⟨b,0,none⟩)) 0).run Tryz.prog w=.ok (.pointer (some ⟨b,0,none⟩)) w:=by kernel_rfl
theorem Mm(b:Nat)(w:World):(Instr.fieldAt 60 (.pointer (some ⟨b,0,none⟩)) 1).run Tryz.prog w=.ok (.pointer (some ⟨b,1,none⟩)) w:=by kernel_rfl
theorem Km:Ba Tryz.prog 158:=by unfold Ba;kernel_rfl
theorem Jx:(Tryz.prog.info? 60).bind (·.zero)=some (.agg #[I 0,I 0]):=by kernel_rfl
theorem Yj:Ba Tryz.prog 185:=by unfold Ba;kernel_rfl
theorem GO:(Tryz.prog.info? 60).map (·.size)=some 2:=by kernel_rfl
theorem EC:EX Tryz.prog 60 2:=by unfold EX;exact⟨by kernel_rfl,by kernel_rfl⟩
theorem Jy(b:Nat)(w:World):(Instr.fieldAt 53 (.pointer (some ⟨b,0,none⟩)) 0).run Tryz.prog w=.ok (.pointer (some ⟨b,0,none⟩)) w:=by kernel_rfl
theorem RC(b:Nat)(w:World):(Instr.fieldAt 134 (.pointer (some ⟨b,0,none⟩)) 0).run Tryz.prog w=.ok (.pointer (some ⟨b,0,none⟩)) w:=by kernel_rfl
theorem Lt(b:Nat)(w:World):(Instr.fieldAt 53 (.pointer (some ⟨b,0,none⟩)) 2).run Tryz.prog w=.ok (.pointer (some ⟨b,4,none⟩)) w:=by kernel_rfl
theorem LL:One Tryz.prog 49:=by unfold One;exact⟨by kernel_rfl,by kernel_rfl⟩
theorem RD(b:Nat)(w:World):(Instr.fieldAt 134 (.pointer (some ⟨b,0,none⟩)) 1).run Tryz.prog w=.ok (.pointer (some ⟨b,1,none⟩)) w:=by kernel_rfl
theorem Eg:EX Tryz.prog 53 7:=by unfold EX;exact⟨by kernel_rfl,by kernel_rfl⟩
theorem RE(b:Nat)(w:World):(Instr.fieldAt 136 (.pointer (some ⟨b,0,none⟩)) 0).run Tryz.prog w=.ok (.pointer (some ⟨b,0,none⟩)) w:=by kernel_rfl
theorem Yk:Ba Tryz.prog 137:=by unfold Ba;kernel_rfl
theorem RF(b:Nat)(w:World):(Instr.fieldAt 136 (.pointer (some ⟨b,0,none⟩)) 1).run Tryz.prog w=.ok (.pointer (some ⟨b,1,none⟩)) w:=by kernel_rfl
theorem Yl:Ba Tryz.prog 161:=by unfold Ba;kernel_rfl
theorem Ym:One Tryz.prog 220:=by unfold One;exact⟨by kernel_rfl,by kernel_rfl⟩
theorem Nz:EX Tryz.prog 48 2:=by unfold EX;exact⟨by kernel_rfl,by kernel_rfl⟩
theorem MQ:(Tryz.prog.info? 48).map (·.size)=some 2:=by kernel_rfl
theorem Yn:Ba Tryz.prog 224:=by unfold Ba;kernel_rfl
theorem Yo:Ba Tryz.prog 201:=by unfold Ba;kernel_rfl
theorem Yp:Ba Tryz.prog 200:=by unfold Ba;kernel_rfl
theorem Yq:One Tryz.prog 177:=by unfold One;exact⟨by kernel_rfl,by kernel_rfl⟩
theorem NU:EX Tryz.prog 134 2:=by unfold EX;exact⟨by kernel_rfl,by kernel_rfl⟩
theorem RG:(Tryz.prog.info? 134).map (·.size)=some 2:=by kernel_rfl
theorem Yr:Ba Tryz.prog 202:=by unfold Ba;kernel_rfl
theorem Ys:Ba Tryz.prog 173:=by unfold Ba;kernel_rfl
theorem Yt:Ba Tryz.prog 172:=by unfold Ba;kernel_rfl
theorem Yu:One Tryz.prog 178:=by unfold One;exact⟨by kernel_rfl,by kernel_rfl⟩
theorem PK:EX Tryz.prog 136 3:=by unfold EX;exact⟨by kernel_rfl,by kernel_rfl⟩
theorem NA:(Tryz.prog.info? 136).map (·.size)=some 3:=by kernel_rfl
theorem Yv:Ba Tryz.prog 203:=by unfold Ba;kernel_rfl
theorem Yw:Ba Tryz.prog 175:=by unfold Ba;kernel_rfl
theorem Yx:Ba Tryz.prog 174:=by unfold Ba;kernel_rfl
theorem Yy:Ba Tryz.prog 188:=by unfold Ba;kernel_rfl
theorem PL(b:Nat)(w:World):(Instr.fieldAt 48 (.pointer (some ⟨b,0,none⟩)) 0).run Tryz.prog w=.ok (.pointer (some ⟨b,0,none⟩)) w:=by kernel_rfl
theorem PN(b:Nat)(w:World):(Instr.fieldAt 48 (.pointer (some ⟨b,0,none⟩)) 1).run Tryz.prog w=.ok (.pointer (some ⟨b,1,none⟩)) w:=by kernel_rfl
theorem S2:(Tryz.prog.info? 48).bind (·.zero)=some (.agg #[I 0,I 0]):=by kernel_rfl
theorem Yz:Ba Tryz.prog 171:=by unfold Ba;kernel_rfl
theorem YA:Ba Tryz.prog 170:=by unfold Ba;kernel_rfl
theorem KM(b:Nat)(w:World):(Instr.fieldAt 53 (.pointer (some ⟨b,0,none⟩)) 3).run Tryz.prog w=.ok (.pointer (some ⟨b,5,none⟩)) w:=by kernel_rfl
theorem LM:One Tryz.prog 50:=by unfold One;exact⟨by kernel_rfl,by kernel_rfl⟩
theorem JY(b:Nat)(w:World):(Instr.fieldAt 53 (.pointer (some ⟨b,0,none⟩)) 4).run Tryz.prog w=.ok (.pointer (some ⟨b,6,none⟩)) w:=by kernel_rfl
theorem LN:One Tryz.prog 51:=by unfold One;exact⟨by kernel_rfl,by kernel_rfl⟩
theorem YB(b:Nat)(w:World):(Instr.fieldAt 53 (.pointer (some ⟨b,0,none⟩)) 1).run Tryz.prog w=.ok (.pointer (some ⟨b,3,none⟩)) w:=by kernel_rfl
theorem YC:Ba Tryz.prog 128:=by unfold Ba;kernel_rfl
theorem YD:Ba Tryz.prog 129:=by unfold Ba;kernel_rfl
theorem YE:Ba Tryz.prog 125:=by unfold Ba;kernel_rfl
theorem YF:Ba Tryz.prog 130:=by unfold Ba;kernel_rfl
theorem YG:Ba Tryz.prog 126:=by unfold Ba;kernel_rfl
theorem YH:Ba Tryz.prog 131:=by unfold Ba;kernel_rfl
theorem S3:(Tryz.prog.info? 60).map (fun i=>(i.zero,i.size,i.bytes))=some (some (.agg #[I 0,I 0]),2,16):=by kernel_rfl
theorem S4:MZ Tryz.prog 204 2:=OU 2 Tryz.underlying204 (by kernel_rfl) rfl rfl Bq Tryz.underlying3
theorem RH:QW Tryz.prog 204 2:=Sf 2 Tryz.underlying204 rfl rfl Bq Tryz.underlying3
theorem Qj:My Tryz.prog 204:=by unfold My;kernel_rfl
theorem Abw:(Tryz.prog.info? 3).bind (·.zero)=some (I 0):=by kernel_rfl
theorem MR(b:Nat)(w:World):(Instr.fieldAt 162 (.pointer (some ⟨b,0,none⟩)) 1).run Tryz.prog w=.ok (.pointer (some ⟨b,7,none⟩)) w:=by kernel_rfl
theorem YI(w:World):(Op.equal 31 (.slice none 0 0) (.slice none 0 0)).run Tryz.prog w=.ok true w:=by kernel_rfl
theorem YJ(ad:Addr)(n c:Nat)(w:World):(Op.equal 31 (.slice (some ad) n c) (.slice none 0 0)).run Tryz.prog w=.ok false w:=by kernel_rfl
theorem Mn:Ba Tryz.prog 105:=by unfold Ba;kernel_rfl
theorem Ph:One Tryz.prog 55:=by unfold One;exact⟨by kernel_rfl,by kernel_rfl⟩
theorem YK:Ba Tryz.prog 206:=by unfold Ba;kernel_rfl
theorem YL(b o:Nat)(w:World):(Instr.fieldAt 60 (.pointer (some ⟨b,o,none⟩)) 0).run Tryz.prog w=.ok (.pointer (some ⟨b,o,none⟩)) w:=by kernel_rfl
theorem S5:Ba Tryz.prog 205:=by unfold Ba;kernel_rfl
theorem NV:(Tryz.prog.info? 31).bind (·.zero)=some (.slice none 0 0):=by kernel_rfl
theorem RI:(Tryz.prog.info? 142).bind (·.zero)=some (.nilFunc):=by kernel_rfl
theorem UR:(Tryz.prog.info? 142).map (·.size)=some 1:=by kernel_rfl
theorem MS:(Tryz.prog.info? 155).bind (·.zero)=some (.agg #[I 0,I 0,I 0]):=by kernel_rfl
theorem YM:Ba Tryz.prog 150:=by unfold Ba;kernel_rfl
theorem JZ:EX Tryz.prog 155 3:=by unfold EX;exact⟨by kernel_rfl,by kernel_rfl⟩
theorem Mo:(Tryz.prog.info? 155).map (·.size)=some 3:=by kernel_rfl
theorem S6:Ba Tryz.prog 102:=by unfold Ba;kernel_rfl
theorem LO:(Tryz.prog.info? 152).bind (·.zero)=some (.pointer none):=by kernel_rfl
theorem NB:(Tryz.prog.info? 152).map (·.size)=some 1:=by kernel_rfl
theorem S7:Ba Tryz.prog 147:=by unfold Ba;kernel_rfl
theorem YN:Ba Tryz.prog 186:=by unfold Ba;kernel_rfl
theorem Aaa:Ba Tryz.prog 79:=by unfold Ba;kernel_rfl
theorem S8:Ba Tryz.prog 104:=by unfold Ba;kernel_rfl
theorem EN:One Tryz.prog 152:=by unfold One;exact⟨by kernel_rfl,by kernel_rfl⟩
theorem Jn(b:Nat)(w:World):(Instr.fieldAt 162 (.pointer (some ⟨b,0,none⟩)) 2).run Tryz.prog w=.ok (.pointer (some ⟨b,8,none⟩)) w:=by kernel_rfl
theorem Kn:One Tryz.prog 159:=by unfold One;exact⟨by kernel_rfl,by kernel_rfl⟩
theorem RJ:(Tryz.prog.info? 155).map (fun i=>(i.zero,i.size,i.bytes))=some (some (.agg #[I 0,I 0,I 0]),3,24):=by kernel_rfl
theorem US:(Tryz.prog.info? 159).map (·.size)=some 1:=by kernel_rfl
theorem YO:Tryz.prog.eqGuardType Tryz.prog.depth 155=false:=by kernel_rfl
theorem YP:MZ Tryz.prog 155 3:=Uh Tryz.underlying155 Bq Tryz.underlying3
theorem YQ:Ba Tryz.prog 204:=by unfold Ba;kernel_rfl
theorem RK(b o:Nat)(w:World):(Instr.fieldAt 162 (.pointer (some ⟨b,o,none⟩)) 3).run Tryz.prog w=.ok (.pointer (some ⟨b,o+9,none⟩)) w:=by kernel_rfl
theorem S9:One Tryz.prog 160:=by unfold One;exact⟨by kernel_rfl,by kernel_rfl⟩
theorem Ta:EX Tryz.prog 204 2:=by unfold EX;exact⟨by kernel_rfl,by kernel_rfl⟩
theorem KN(b o:Nat)(w:World):(Instr.fieldAt 162 (.pointer (some ⟨b,o,none⟩)) 0).run Tryz.prog w=.ok (.pointer (some ⟨b,o,none⟩)) w:=by kernel_rfl
theorem Tb(b o:Nat)(w:World):(Instr.fieldAt 53 (.pointer (some ⟨b,o,none⟩)) 2).run Tryz.prog w=.ok (.pointer (some ⟨b,o+4,none⟩)) w:=by kernel_rfl
theorem V6(b:Nat)(w:World):(Instr.fieldAt 204 (.pointer (some ⟨b,0,none⟩)) 1).run Tryz.prog w=.ok (.pointer (some ⟨b,1,none⟩)) w:=by kernel_rfl
theorem JR(b o:Nat)(w:World):(Instr.fieldAt 162 (.pointer (some ⟨b,o,none⟩)) 1).run Tryz.prog w=.ok (.pointer (some ⟨b,o+7,none⟩)) w:=by kernel_rfl
theorem V7(b:Nat)(w:World):(Instr.fieldAt 204 (.pointer (some ⟨b,0,none⟩)) 0).run Tryz.prog w=.ok (.pointer (some ⟨b,0,none⟩)) w:=by kernel_rfl
theorem MT:(Tryz.prog.info? 151).bind (·.zero)=some (.agg #[I 0,I 0,I 0]):=by kernel_rfl
theorem YR:Ba Tryz.prog 149:=by unfold Ba;kernel_rfl
theorem Lu:EX Tryz.prog 151 3:=by unfold EX;exact⟨by kernel_rfl,by kernel_rfl⟩
theorem Pj:(Tryz.prog.info? 151).map (·.size)=some 3:=by kernel_rfl
theorem Wa:(Tryz.prog.info? 136).bind (·.zero)=some (.agg #[I 0,I 0,I 0]):=by kernel_rfl
theorem Tc:Ba Tryz.prog 148:=by unfold Ba;kernel_rfl
theorem Wb(b o:Nat)(w:World):(Instr.fieldAt 162 (.pointer (some ⟨b,o,none⟩)) 2).run Tryz.prog w=.ok (.pointer (some ⟨b,o+8,none⟩)) w:=by kernel_rfl
theorem Td:Ba Tryz.prog 103:=by unfold Ba;kernel_rfl
theorem Te:Ba Tryz.prog 124:=by unfold Ba;kernel_rfl
theorem RL:(Tryz.prog.info? 4).bind (·.zero)=some (.bool false):=by kernel_rfl
theorem PO:Ba Tryz.prog 151:=by unfold Ba;kernel_rfl
theorem OG:(Tryz.prog.info? 4).map (·.size)=some 1:=by kernel_rfl
theorem PQ:Ba Tryz.prog 184:=by unfold Ba;kernel_rfl
theorem UT:Ba Tryz.prog 75:=by unfold Ba;kernel_rfl
theorem YS:Ba Tryz.prog 101:=by unfold Ba;kernel_rfl
theorem YT:Ba Tryz.prog 154:=by unfold Ba;kernel_rfl
theorem PR:Ba Tryz.prog 111:=by unfold Ba;kernel_rfl
theorem PS:Ba Tryz.prog 112:=by unfold Ba;kernel_rfl
theorem YU:One Tryz.prog 164:=by unfold One;exact⟨by kernel_rfl,by kernel_rfl⟩
theorem Tf:Ba Tryz.prog 152:=by unfold Ba;kernel_rfl
theorem Lv:Ba Tryz.prog 106:=by unfold Ba;kernel_rfl
theorem RM:(Tryz.prog.info? 3).bind (·.zero)=some (I 0):=by kernel_rfl
theorem YV:Ba Tryz.prog 108:=by unfold Ba;kernel_rfl
theorem Tg:Ba Tryz.prog 107:=by unfold Ba;kernel_rfl
theorem YW:Ba Tryz.prog 157:=by unfold Ba;kernel_rfl
theorem YX:Ba Tryz.prog 156:=by unfold Ba;kernel_rfl
theorem YY(b o:Nat)(w:World):(Instr.fieldAt 53 (.pointer (some ⟨b,o,none⟩)) 1).run Tryz.prog w=.ok (.pointer (some ⟨b,o+3,none⟩)) w:=by kernel_rfl
theorem YZ:Ba Tryz.prog 153:=by unfold Ba;kernel_rfl
theorem PT:Ba Tryz.prog 117:=by unfold Ba;kernel_rfl
theorem PU:Ba Tryz.prog 109:=by unfold Ba;kernel_rfl
theorem RN:Ba Tryz.prog 50:=by unfold Ba;kernel_rfl
theorem Th(a:Value)(x1:Value)(w:World):(Instr.field 60 (.agg #[a,x1]) 0).run Tryz.prog w=.ok (a) w:=by kernel_rfl
theorem PV:One Tryz.prog 166:=by unfold One;exact⟨by kernel_rfl,by kernel_rfl⟩
theorem PW:Ba Tryz.prog 110:=by unfold Ba;kernel_rfl
theorem Wc:(Tryz.prog.info? 166).bind (·.zero)=some (.nilFunc):=by kernel_rfl
theorem Aab:(Tryz.prog.info? 166).map (·.size)=some 1:=by kernel_rfl
theorem Y0:Ba Tryz.prog 159:=by unfold Ba;kernel_rfl
theorem Y1:Ba Tryz.prog 160:=by unfold Ba;kernel_rfl
theorem Y3(b o:Nat)(w:World):(Instr.fieldAt 48 (.pointer (some ⟨b,o,none⟩)) 0).run Tryz.prog w=.ok (.pointer (some ⟨b,o,none⟩)) w:=by kernel_rfl
theorem Y5(b o:Nat)(w:World):(Instr.fieldAt 53 (.pointer (some ⟨b,o,none⟩)) 3).run Tryz.prog w=.ok (.pointer (some ⟨b,o+5,none⟩)) w:=by kernel_rfl
theorem We:(Tryz.prog.info? 134).bind (·.zero)=some (.agg #[I 0,I 0]):=by kernel_rfl
theorem Y6:Ba Tryz.prog 138:=by unfold Ba;kernel_rfl
theorem NW:(Tryz.prog.info? 31).map (fun i=>(i.zero,i.size,i.bytes))=some (some (.slice none 0 0),1,24):=by kernel_rfl
theorem Ti:Ba Tryz.prog 135:=by unfold Ba;kernel_rfl
theorem Tj:Ba Tryz.prog 134:=by unfold Ba;kernel_rfl
theorem Y7:(Tryz.prog.info? 23).bind (·.zero)=some (.slice none 0 0):=by kernel_rfl
theorem W4:(Tryz.prog.info? 23).map (·.size)=some 1:=by kernel_rfl
theorem Tk:One Tryz.prog 199:=by unfold One;exact⟨by kernel_rfl,by kernel_rfl⟩
theorem Tl:Ba Tryz.prog 155:=by unfold Ba;kernel_rfl
theorem Wf:(Tryz.prog.info? 199).bind (·.zero)=some (.nilFunc):=by kernel_rfl
theorem Aac:(Tryz.prog.info? 199).map (·.size)=some 1:=by kernel_rfl
theorem Wg(b:Nat)(w:World):(Instr.fieldAt 174 (.pointer (some ⟨b,0,none⟩)) 0).run Tryz.prog w=.ok (.pointer (some ⟨b,0,none⟩)) w:=by kernel_rfl
theorem Y9:One Tryz.prog 172:=by unfold One;exact⟨by kernel_rfl,by kernel_rfl⟩
theorem Tm:Ba Tryz.prog 121:=by unfold Ba;kernel_rfl
theorem Wh:(Tryz.prog.info? 174).bind (·.zero)=some (.agg #[.nilFunc]):=by kernel_rfl
theorem Aad:(Tryz.prog.info? 174).map (·.size)=some 1:=by kernel_rfl
theorem Zb:Ba Tryz.prog 122:=by unfold Ba;kernel_rfl
theorem Tn:Ba Tryz.prog 113:=by unfold Ba;kernel_rfl
theorem Wi(b:Nat)(w:World):(Instr.fieldAt 162 (.pointer (some ⟨b,0,none⟩)) 0).run Tryz.prog w=.ok (.pointer (some ⟨b,0,none⟩)) w:=by kernel_rfl
theorem W5:(Tryz.prog.info? 51).map (·.size)=some 1:=by kernel_rfl
theorem I5(b:Nat)(w:World):(Instr.fieldAt 44 (.pointer (some ⟨b,0,none⟩)) 0).run Tryz.prog w=.ok (.pointer (some ⟨b,0,none⟩)) w:=by kernel_rfl
theorem KO(b:Nat)(w:World):(Instr.fieldAt 44 (.pointer (some ⟨b,0,none⟩)) 1).run Tryz.prog w=.ok (.pointer (some ⟨b,1,none⟩)) w:=by kernel_rfl
theorem Fs:Ba Tryz.prog 29:=by unfold Ba;kernel_rfl
theorem Gm(b:Nat)(w:World):(Instr.fieldAt 26 (.pointer (some ⟨b,0,none⟩)) 0).run Tryz.prog w=.ok (.pointer (some ⟨b,0,none⟩)) w:=by kernel_rfl
theorem Hm:One Tryz.prog 22:=by unfold One;exact⟨by kernel_rfl,by kernel_rfl⟩
theorem Ie:(Tryz.prog.info? 44).map (·.size)=some 2:=by kernel_rfl
theorem FW:EX Tryz.prog 44 2:=by unfold EX;exact⟨by kernel_rfl,by kernel_rfl⟩
theorem PX:Ba Tryz.prog 118:=by unfold Ba;kernel_rfl
theorem EO(b:Nat)(w:World):(Instr.fieldAt 26 (.pointer (some ⟨b,0,none⟩)) 1).run Tryz.prog w=.ok (.pointer (some ⟨b,1,none⟩)) w:=by kernel_rfl
theorem Ko(b:Nat)(w:World):(Instr.fieldAt 26 (.pointer (some ⟨b,0,none⟩)) 2).run Tryz.prog w=.ok (.pointer (some ⟨b,2,none⟩)) w:=by kernel_rfl
theorem K8:One Tryz.prog 24:=by unfold One;exact⟨by kernel_rfl,by kernel_rfl⟩
theorem Pk:Ba Tryz.prog 90:=by unfold Ba;kernel_rfl
theorem HN:EX Tryz.prog 26 3:=by unfold EX;exact⟨by kernel_rfl,by kernel_rfl⟩
theorem UU:Ba Tryz.prog 91:=by unfold Ba;kernel_rfl
theorem RO:Ba Tryz.prog 35:=by unfold Ba;kernel_rfl
theorem Pm:(Tryz.prog.info? 46).map (·.size)=some 4:=by kernel_rfl
theorem RP:EX Tryz.prog 46 4:=by unfold EX;exact⟨by kernel_rfl,by kernel_rfl⟩
theorem To:(Tryz.prog.info? 46).bind (·.zero)=some (.agg #[.bool false,I 0,I 0,I 0]):=by kernel_rfl
theorem PY(b:Nat)(w:World):(Instr.fieldAt 46 (.pointer (some ⟨b,0,none⟩)) 0).run Tryz.prog w=.ok (.pointer (some ⟨b,0,none⟩)) w:=by kernel_rfl
theorem NX(b:Nat)(w:World):(Instr.fieldAt 46 (.pointer (some ⟨b,0,none⟩)) 1).run Tryz.prog w=.ok (.pointer (some ⟨b,1,none⟩)) w:=by kernel_rfl
theorem KP(b:Nat)(w:World):(Instr.fieldAt 46 (.pointer (some ⟨b,0,none⟩)) 2).run Tryz.prog w=.ok (.pointer (some ⟨b,2,none⟩)) w:=by kernel_rfl
theorem RQ:Ba Tryz.prog 59:=by unfold Ba;kernel_rfl
theorem I6:(Tryz.prog.info? 44).bind (·.zero)=some (.agg #[I 0,I 0]):=by kernel_rfl
theorem Zc(b o:Nat)(w:World):(Instr.fieldAt 44 (.pointer (some ⟨b,o,none⟩)) 0).run Tryz.prog w=.ok (.pointer (some ⟨b,o,none⟩)) w:=by kernel_rfl
theorem Zd(b o:Nat)(w:World):(Instr.fieldAt 44 (.pointer (some ⟨b,o,none⟩)) 1).run Tryz.prog w=.ok (.pointer (some ⟨b,o+1,none⟩)) w:=by kernel_rfl
theorem RR:Ba Tryz.prog 87:=by unfold Ba;kernel_rfl
theorem UW:Ba Tryz.prog 31:=by unfold Ba;kernel_rfl
theorem Qk(b:Nat)(w:World):(Instr.fieldAt 44 (.pointer (some ⟨b,2,none⟩)) 0).run Tryz.prog w=.ok (.pointer (some ⟨b,2,none⟩)) w:=by kernel_rfl
theorem Ql(b:Nat)(w:World):(Instr.fieldAt 44 (.pointer (some ⟨b,2,none⟩)) 1).run Tryz.prog w=.ok (.pointer (some ⟨b,3,none⟩)) w:=by kernel_rfl
theorem Aae:Ba Tryz.prog 77:=by unfold Ba;kernel_rfl
theorem Ze:Ba Tryz.prog 146:=by unfold Ba;kernel_rfl
theorem Aaf:Ba Tryz.prog 58:=by unfold Ba;kernel_rfl
theorem Zf:Ba Tryz.prog 100:=by unfold Ba;kernel_rfl
theorem MU:(Tryz.prog.underlying 3).isSome=true:=by kernel_rfl
theorem GJ(b:Nat)(w:World):(Instr.fieldAt 67 (.pointer (some ⟨b,0,none⟩)) 0).run Tryz.prog w=.ok (.pointer (some ⟨b,0,none⟩)) w:=by kernel_rfl
theorem GK(b:Nat)(w:World):(Instr.fieldAt 67 (.pointer (some ⟨b,0,none⟩)) 2).run Tryz.prog w=.ok (.pointer (some ⟨b,4,none⟩)) w:=by kernel_rfl
theorem HO:One Tryz.prog 63:=by unfold One;exact⟨by kernel_rfl,by kernel_rfl⟩
theorem J7:(Tryz.prog.info? 128).map (·.size)=some 2:=by kernel_rfl
theorem LP(b o:Nat)(w:World):(Instr.fieldAt 128 (.pointer (some ⟨b,o,none⟩)) 0).run Tryz.prog w=.ok (.pointer (some ⟨b,o,none⟩)) w:=by kernel_rfl
theorem OH(b o:Nat)(w:World):(Instr.fieldAt 128 (.pointer (some ⟨b,o,none⟩)) 1).run Tryz.prog w=.ok (.pointer (some ⟨b,o+1,none⟩)) w:=by kernel_rfl
theorem DL:EX Tryz.prog 67 7:=by unfold EX;exact⟨by kernel_rfl,by kernel_rfl⟩
theorem RS:Ba Tryz.prog 56:=by unfold Ba;kernel_rfl
theorem Ii(b:Nat)(w:World):(Instr.fieldAt 67 (.pointer (some ⟨b,0,none⟩)) 4).run Tryz.prog w=.ok (.pointer (some ⟨b,6,none⟩)) w:=by kernel_rfl
theorem I7:One Tryz.prog 65:=by unfold One;exact⟨by kernel_rfl,by kernel_rfl⟩
theorem LQ:(Tryz.prog.info? 121).map (·.size)=some 3:=by kernel_rfl
theorem OI(b o:Nat)(w:World):(Instr.fieldAt 121 (.pointer (some ⟨b,o,none⟩)) 1).run Tryz.prog w=.ok (.pointer (some ⟨b,o+1,none⟩)) w:=by kernel_rfl
theorem MV(b o:Nat)(w:World):(Instr.fieldAt 121 (.pointer (some ⟨b,o,none⟩)) 0).run Tryz.prog w=.ok (.pointer (some ⟨b,o,none⟩)) w:=by kernel_rfl
theorem RT:Ba Tryz.prog 54:=by unfold Ba;kernel_rfl
theorem Zg:Ba Tryz.prog 114:=by unfold Ba;kernel_rfl
theorem Aag:Ba Tryz.prog 61:=by unfold Ba;kernel_rfl
theorem UX:Ba Tryz.prog 28:=by unfold Ba;kernel_rfl
theorem PZ(b:Nat)(w:World):(Instr.fieldAt 67 (.pointer (some ⟨b,0,none⟩)) 1).run Tryz.prog w=.ok (.pointer (some ⟨b,3,none⟩)) w:=by kernel_rfl
theorem Ij(b:Nat)(w:World):(Instr.fieldAt 67 (.pointer (some ⟨b,0,none⟩)) 3).run Tryz.prog w=.ok (.pointer (some ⟨b,5,none⟩)) w:=by kernel_rfl
theorem I8:One Tryz.prog 64:=by unfold One;exact⟨by kernel_rfl,by kernel_rfl⟩
theorem LR:(Tryz.prog.info? 126).map (·.size)=some 2:=by kernel_rfl
theorem UY:Ba Tryz.prog 24:=by unfold Ba;kernel_rfl
theorem Zh:EX Tryz.prog 128 2:=by unfold EX;exact⟨by kernel_rfl,by kernel_rfl⟩
theorem Wj:(Tryz.prog.info? 128).bind (·.zero)=some (.agg #[I 0,I 0]):=by kernel_rfl
theorem Kj(b:Nat)(w:World):(Instr.fieldAt 128 (.pointer (some ⟨b,0,none⟩)) 0).run Tryz.prog w=.ok (.pointer (some ⟨b,0,none⟩)) w:=by kernel_rfl
theorem LS(b:Nat)(w:World):(Instr.fieldAt 128 (.pointer (some ⟨b,0,none⟩)) 1).run Tryz.prog w=.ok (.pointer (some ⟨b,1,none⟩)) w:=by kernel_rfl
theorem OJ(b o:Nat)(w:World):(Instr.fieldAt 126 (.pointer (some ⟨b,o,none⟩)) 0).run Tryz.prog w=.ok (.pointer (some ⟨b,o,none⟩)) w:=by kernel_rfl
theorem RU(b o:Nat)(w:World):(Instr.fieldAt 126 (.pointer (some ⟨b,o,none⟩)) 1).run Tryz.prog w=.ok (.pointer (some ⟨b,o+1,none⟩)) w:=by kernel_rfl
theorem P0:(Tryz.prog.info? 38).bind (·.zero)=some (.agg #[.slice none 0 0,.slice none 0 0,.slice none 0 0]):=by kernel_rfl
theorem UZ:Ba Tryz.prog 98:=by unfold Ba;kernel_rfl
theorem Wk:(Tryz.prog.info? 131).map (fun i=>(i.zero,i.size,i.bytes))=some (some (.agg #[I 0,I 0]),2,16):=by kernel_rfl
theorem Aa7:(Tryz.prog.info? 35).map (·.size)=some 1:=by kernel_rfl
theorem Aah:Ba Tryz.prog 99:=by unfold Ba;kernel_rfl
theorem Wl:(Tryz.prog.info? 133).map (fun i=>(i.zero,i.size,i.bytes))=some (some (.agg #[.bool false,I 0,I 0,I 0]),4,32):=by kernel_rfl
theorem Aa8:(Tryz.prog.info? 36).map (·.size)=some 1:=by kernel_rfl
theorem W6:(Tryz.prog.info? 38).map (·.size)=some 3:=by kernel_rfl
theorem P1:(Tryz.prog.info? 53).bind (·.zero)=some (.agg #[.slice none 0 0,.slice none 0 0,.slice none 0 0,I 0,.slice none 0 0,.slice none 0 0,.slice none 0 0]):=by kernel_rfl
theorem Aai:Ba Tryz.prog 27:=by unfold Ba;kernel_rfl
theorem T4:(Tryz.prog.info? 53).map (·.size)=some 7:=by kernel_rfl
theorem Zi:(Tryz.prog.info? 48).map (fun i=>(i.zero,i.size,i.bytes))=some (some (.agg #[I 0,I 0]),2,16):=by kernel_rfl
theorem Aa9:(Tryz.prog.info? 49).map (·.size)=some 1:=by kernel_rfl
theorem Wm:(Tryz.prog.info? 134).map (fun i=>(i.zero,i.size,i.bytes))=some (some (.agg #[I 0,I 0]),2,16):=by kernel_rfl
theorem Aba:(Tryz.prog.info? 50).map (·.size)=some 1:=by kernel_rfl
theorem K9:Ba Tryz.prog 66:=by unfold Ba;kernel_rfl
theorem Wn:(Tryz.prog.info? 136).map (fun i=>(i.zero,i.size,i.bytes))=some (some (.agg #[I 0,I 0,I 0]),3,24):=by kernel_rfl
theorem Aaj:Ba Tryz.prog 23:=by unfold Ba;kernel_rfl
theorem Zj:Ba Tryz.prog 116:=by unfold Ba;kernel_rfl
theorem U0:Ba Tryz.prog 65:=by unfold Ba;kernel_rfl
theorem Aak:Ba Tryz.prog 44:=by unfold Ba;kernel_rfl
theorem Aal:Ba Tryz.prog 53:=by unfold Ba;kernel_rfl
theorem NC:Ba Tryz.prog 57:=by unfold Ba;kernel_rfl
theorem U1:Ba Tryz.prog 36:=by unfold Ba;kernel_rfl
theorem La:Ba Tryz.prog 88:=by unfold Ba;kernel_rfl
theorem Aam:Ba Tryz.prog 32:=by unfold Ba;kernel_rfl
theorem U2:Ba Tryz.prog 33:=by unfold Ba;kernel_rfl
theorem Aan:Ba Tryz.prog 34:=by unfold Ba;kernel_rfl
theorem Aao:Ba Tryz.prog 81:=by unfold Ba;kernel_rfl
theorem U3:Ba Tryz.prog 69:=by unfold Ba;kernel_rfl
theorem Aap:Ba Tryz.prog 42:=by unfold Ba;kernel_rfl
theorem Aaq:Ba Tryz.prog 43:=by unfold Ba;kernel_rfl
theorem Lb:Ba Tryz.prog 41:=by unfold Ba;kernel_rfl
theorem I9:Tryz.prog.eqGuardType Tryz.prog.depth 60=false:=by kernel_rfl
theorem Ja:MZ Tryz.prog 60 2:=OU 2 Tryz.underlying60 (by kernel_rfl) rfl rfl Bq Tryz.underlying3
theorem G3:Ba Tryz.prog 37:=by unfold Ba;kernel_rfl
theorem ND:Ba Tryz.prog 38:=by unfold Ba;kernel_rfl
theorem RV:Ba Tryz.prog 51:=by unfold Ba;kernel_rfl
theorem NY:∀(b c:Bool) (w:World),(Op.equal 4 (.bool b) (.bool c)).run Tryz.prog w=.ok (b==c) w:=by intro b c w;cases b<;>cases c<;>kernel_rfl
theorem U4:Ba Tryz.prog 39:=by unfold Ba;kernel_rfl
theorem U5:Ba Tryz.prog 52:=by unfold Ba;kernel_rfl
end HF
end Go.Proofs.YtbhofkcbfblijaaGreat
end
section
namespace Go.Proofs.YtbhofkcbfblijaaGreat
open Go.RowKit Go.WideShapes
set_option maxRecDepth 20000
open HF
attribute [local irreducible] Cg WL CC CW LV BN Hb EX One Ba
theorem T5 k b d e(Z:Nat→Prop) w j(c:G8 k b d e=some j):
 BN Tryz.prog 140 #[I b,I d,I e] w (fun v w'=>Ext w w'∧BE.R w' (zf Z w []) v j):=by
 unfold G8 at c;refine rq (N:=15) Tryz.func140 fun l ha m=>?_;have f:=sA 0 ha;have h:=sA 1 ha;have i:=sA 2 ha;clear ha;have g:Hp FN [] w [] w:=Hp.start (Bw.none w);refine cr<|wA (v:=.bool false) rfl<|wr<|wM (v:=I d) h<|wM (v:=I b) f<|wD (fun st=>HS (eR st) (eR st))<|wM (v:=.bool (decide (d≤b))) rfl ?_;rcases Ae (decide (d≤b)) with a|a
 ·replace c:=Am c a;refine wN a (v:=I b) f<|wN a (v:=I e) i<|wG a (fun st=>HS (eR st) (eR st))<|wD (fun st=>AR (v:=.bool (decide (b≤e))) (eR st) a (eR st))<|wA (v:=.bool (decide (b≤e))) rfl<|wn<|Ap ?_;obtain rfl:=oi c;refine Au rfl rfl ?_;exact⟨g.AZ,rfl⟩
 ·replace c:=An c a;refine wF a<|wF a<|wF a<|wD (fun st=>Bg (v:=.bool false) (eR st) a (eR st))<|wA (v:=.bool false) rfl<|wn<|Ap ?_;obtain rfl:=oi c;refine Au rfl rfl ?_;exact⟨g.AZ,rfl⟩
theorem Wo k b(Z:Nat→Prop) w i(d:Fv k b=some i):
 BN Tryz.prog 165 #[.agg #[I b.Lo,I b.Hi]] w (fun v w'=>Ext w w'∧BE.R w' (zf Z w []) v i):=by
 unfold Fv at d;refine rq (N:=18) Tryz.func165 fun l ha m=>?_;have h:=sA 0 ha;clear ha;have g:Hp FN [] w [] w:=Hp.start (Bw.none w);refine cr<|wE (fun st=>BL (v:=.agg #[I b.Lo,I b.Hi]) (cs:= #[I b.Lo,I b.Hi]) (ee st h) rfl) ?_;rintro _ w1 ⟨b1,rfl,e⟩;have f:=g.nb e;have j:=g.BH e;refine wA (v:=.bool false) rfl<|wr<|wD (fun st=>Ad (eR st) (MM _ _))<|wD (fun st=>Ag (v:=I b.Lo) Bq (eR st) e.bk rfl)<|wD (fun st=>HS (eR st) (eR st))<|wM (v:=.bool (decide ((0:Int)≤b.Lo))) rfl ?_;rcases Ae (decide ((0:Int)≤b.Lo)) with a|a
 ·replace d:=Am d a;refine wG a (fun st=>Ad (eR st) (MM _ _))<|wG a (fun st=>Ag (v:=I b.Lo) Bq (eR st) e.bk rfl)<|wG a (fun st=>Ad (eR st) (MN _ _))<|wG a (fun st=>Ag (v:=I b.Hi) Bq (eR st) e.bk rfl)<|wG a (fun st=>HS (eR st) (eR st))<|wD (fun st=>AR (v:=.bool (decide (b.Lo≤b.Hi))) (eR st) a (eR st))<|wM (v:=.bool (decide (b.Lo≤b.Hi))) rfl ?_;rcases Ae (decide (b.Lo≤b.Hi)) with c|c
  ·replace d:=Am d c;refine wG c (fun st=>Ad (eR st) (MN _ _))<|wG c (fun st=>Ag (v:=I b.Hi) Bq (eR st) e.bk rfl)<|wG c (fun st=>HS (eR st) (eR st))<|wD (fun st=>AR (v:=.bool (decide (b.Hi≤100))) (eR st) c (eR st))<|wA (v:=.bool (decide (b.Hi≤100))) rfl<|wn<|Ap ?_;obtain rfl:=oi d;refine Au rfl rfl ?_;exact⟨f.AZ,rfl⟩
  ·replace d:=An d c;refine wF c<|wF c<|wF c<|wD (fun st=>Bg (v:=.bool false) (eR st) c (eR st))<|wA (v:=.bool false) rfl<|wn<|Ap ?_;obtain rfl:=oi d;refine Au rfl rfl ?_;exact⟨f.AZ,rfl⟩
 ·replace d:=An d a;refine wF a<|wF a<|wF a<|wF a<|wF a<|wD (fun st=>Bg (v:=.bool false) (eR st) a (eR st))<|wM (v:=.bool false) rfl<|wH<|wH<|wH<|wD (fun st=>Bg (v:=.bool false) (eR st) rfl (eR st))<|wA (v:=.bool false) rfl<|wn<|Ap ?_;obtain rfl:=oi d;refine Au rfl rfl ?_;exact⟨f.AZ,rfl⟩
theorem Abx k a(Z:Nat→Prop) w f(b:IU k a=some f):
 BN Tryz.prog 169 #[.agg #[I a.Lo,I a.Hi]] w (fun v w'=>Ext w w'∧(Dk .i64).R w' (zf Z w []) v f):=by
 unfold IU at b;refine rq (N:=9) Tryz.func169 fun l ha m=>?_;have e:=sA 0 ha;clear ha;have d:Hp FN [] w [] w:=Hp.start (Bw.none w);refine cr<|wE (fun st=>BL (v:=.agg #[I a.Lo,I a.Hi]) (cs:= #[I a.Lo,I a.Hi]) (ee st e) rfl) ?_;rintro _ w1 ⟨b1,rfl,c⟩;have g:=d.nb c;have j:=d.BH c;refine wA (v:=I 0) rfl<|wr<|wD (fun st=>Ad (eR st) (MN _ _))<|wD (fun st=>Ag (v:=I a.Hi) Bq (eR st) c.bk rfl)<|wD (fun st=>Ad (eR st) (MM _ _))<|wD (fun st=>Ag (v:=I a.Lo) Bq (eR st) c.bk rfl) ?_;replace b:=AJ b;obtain⟨h,b⟩:=b;refine wD (fun st=>Fi (eR st) (eR st) h) ?_;replace b:=AJ b;obtain⟨i,b⟩:=b;refine wD (fun st=>BK (eR st) (eR st) i)<|wA (v:=I ((a.Hi-a.Lo)+1)) rfl<|wn<|Ap ?_;obtain rfl:=oi b;refine Au rfl rfl ?_;exact⟨g.AZ,rfl⟩
theorem Aar h a d(Z:Nat→Prop) w i(c:FM h a d=some i):
 BN Tryz.prog 176 #[.agg #[I a.Lo,I a.Hi],I d] w (fun v w'=>Ext w w'∧BE.R w' (zf Z w []) v i):=by
 unfold FM at c;refine rq (N:=11) Tryz.func176 fun p ha q=>?_;have f:=sA 0 ha;have g:=sA 1 ha;clear ha;have e:Hp FN [] w [] w:=Hp.start (Bw.none w);refine cr<|wE (fun st=>BL (v:=.agg #[I a.Lo,I a.Hi]) (cs:= #[I a.Lo,I a.Hi]) (ee st f) rfl) ?_;rintro _ w1 ⟨b1,rfl,b⟩;have j:=e.nb b;have o:=e.BH b;refine wA (v:=.bool false) rfl<|wr<|wM (v:=I d) g<|wD (fun st=>Ad (eR st) (MM _ _))<|wD (fun st=>Ag (v:=I a.Lo) Bq (eR st) b.bk rfl)<|wD (fun st=>Ad (eR st) (MN _ _))<|wD (fun st=>Ag (v:=I a.Hi) Bq (eR st) b.bk rfl) ?_;replace c:=bind_some c;obtain⟨k,l,c⟩:=c;refine wE (fun st=>Ak NS (eR st) (DX (eR st) (eR st) (eR st)) (T5 h d a.Lo a.Hi ZA _ k l)) ?_;rintro _ r ⟨m,rfl⟩;have n:=j.ext m;refine wA (v:=.bool k) rfl<|wn<|Ap ?_;obtain rfl:=oi c;refine Au rfl rfl ?_;exact⟨n.AZ,rfl⟩
theorem Aby d b(Z:Nat→Prop) w e(a:Jo d b=some e):
 BN Tryz.prog 220 #[I b] w (fun v w'=>Ext w w'∧BE.R w' (zf Z w []) v e):=by
 unfold Jo at a;refine rq (N:=5) Tryz.func220 fun k ha l=>?_;have c:=sA 0 ha;clear ha;have f:Hp FN [] w [] w:=Hp.start (Bw.none w);refine cr<|wA (v:=.bool false) rfl<|wr<|wM (v:=I b) c ?_;replace a:=bind_some a;obtain⟨g,h,a⟩:=a;refine wE (fun st=>Ak NS (eR st) (DX (eR st) (eR st) (eR st)) (T5 d b 0 30 ZA _ g h)) ?_;rintro _ w2 ⟨i,rfl⟩;have j:=f.ext i;refine wA (v:=.bool g) rfl<|wn<|Ap ?_;obtain rfl:=oi a;refine Au rfl rfl ?_;exact⟨j.AZ,rfl⟩
theorem Aas aA i f g(Z:Nat→Prop) w(r:Sl (Al .i64) w Z f g i) aB(a:JV aA i=some aB):
 BN Tryz.prog 192 #[.slice f i.length g] w (fun v w'=>Ext w w'∧(Dk .i64).R w' (zf Z w []) v aB):=by
 unfold JV at a;refine rq (N:=16) Tryz.func192 fun aQ ha aR=>?_;have u:=sA 0 ha;clear ha;have aC:Hp FN [] w [] w:=Hp.start (Bw.none w);have o:=r.mv (Bu (Z:=Z) (L:=[]) w);refine cr<|wA (v:=I 0) rfl<|wn<|Af<|cr<|wM (v:=.slice f i.length g) u<|wD (fun st=>Bn Tryz.underlying31 (eR st))<|wM (v:=I 0) rfl<|wn<|AI ?_;replace a:=bind_some a;obtain⟨s,e,a⟩:=a;refine BQ (fun aD d x=>(aD=.exit 0∧Fo X0 16 d∧sl d 2=I s∧w=x)) ?aE ?aF
 case aE=>
  clear a;refine BP (fun y d x=>∃b,∃c,FX i y b c=some s∧Fo X0 16 d∧sl d 2=I b∧sl d 5=.slice f i.length g∧sl d 6=I (i.length:Int)∧sl d 7=I c∧w=x) aA ?aG ?aH
  case aG=>
   intro st;exact⟨(0:Int),(0:Int),e,qo st,sp st 2 rfl,sp st 5 rfl,sp st 6 rfl,sp st 7 rfl,rfl⟩
  case aH=>
   rintro(_|y) aS _ ⟨b,c,e,z,l,m,n,h,rfl⟩
   ·exact absurd (show none=some _ from e) (by simp)
   rw[FX.eq_2] at e;have a:=e;clear e;refine ro z<|cr<|wD (fun st=>B8 (ee st h) (ee st n))<|wn<|Af ?_;rcases Ae (decide (c<(i.length:Int))) with j|j
   ·replace a:=Am a j;refine Ah rfl j<|cn<|Af<|AI<|Af<|Ai ?_;replace a:=Bi a;obtain⟨i3,p,aI,aJ,aK,a⟩:=a;obtain⟨b3,aT,_,aL,rfl,aM⟩:=Sl.CR o rfl aJ;refine wD (fun st=>BA (k:=i3) Tryz.underlying31 Dy (ee st m) aL (ee st h) aI aK)<|wD (fun st=>BF (v:=I p) Bq (eR st) aM rfl)<|wA (v:=I p) rfl<|wn<|Ai<|wM (v:=I b) l<|wM (v:=I p) rfl ?_;replace a:=AJ a;obtain⟨aN,a⟩:=a;refine wD (fun st=>BK (eR st) (eR st) aN)<|wA (v:=I (b+p)) rfl<|Bc<|CG<|Ai ?_;replace a:=AJ a;obtain⟨aO,a⟩:=a;refine wD (fun st=>BK (ee st h) (eR st) aO)<|wM (v:=I (c+1)) rfl<|Bc ?_;refine Br y (Nat.lt_succ_self _) (fun st=>?_);exact⟨(b+p),(c+1),a,qo st,sp st 2 rfl,sp st 5 m,sp st 6 n,sp st 7 rfl,rfl⟩
   ·replace a:=An a j;refine Ao rfl j<|DA ?_;obtain rfl:=oi a;refine BG (fun st=>?_);exact⟨rfl,qo st,sp st 2 l,rfl⟩
 case aF=>
  rintro aD aP _ (⟨rfl,t,q,rfl⟩);refine lf t<|Be<|BM<|cr<|wM (v:=I s) q<|wA (v:=I s) rfl<|wn<|Ap ?_;obtain rfl:=oi a;refine Au rfl rfl ?_;exact⟨aC.AZ,rfl⟩
theorem Abz aE f a b c g h i j(Z:Nat→Prop) w(m:Sl Ax w Z b c f.Az)(n:Sl (Bx (Al .i64)) w Z g h f.Bb)(o:Sl AF w Z i j f.AP) aA(d:He aE f a=some aA):
 BN Tryz.prog 178 #[.agg (AU b c g h i j f).toArray,.agg #[.bool a.BY,I a.Number,I a.Bl,I a.Bm]] w (fun v w'=>Ext w w'∧(Dk .i64).R w' (zf Z w []) v aA):=by
 unfold He at d;refine rq (N:=15) Tryz.func178 fun aF ha aG=>?_;have t:=sA 0 ha;have u:=sA 1 ha;clear ha;have q:Hp FN [] w [] w:=Hp.start (Bw.none w);have ⟨x,y,z⟩:=Er m n o (Bu (Z:=Z) (L:=[]) w);refine cr<|wE (fun st=>BL (v:=.agg (AU b c g h i j f).toArray) (cs:=(AU b c g h i j f).toArray) (ee st t) rfl) ?_;rintro _ w1 ⟨b1,rfl,l⟩;have r:=q.nb l;have aC:=q.BH l;refine wE (fun st=>BL (v:=.agg #[.bool a.BY,I a.Number,I a.Bl,I a.Bm]) (cs:= #[.bool a.BY,I a.Number,I a.Bl,I a.Bm]) (ee st u) rfl) ?_;rintro _ w2 ⟨b2,rfl,e⟩;have s:=r.nb e;have aD:=r.BH e;refine wA (v:=I 0) rfl<|wn<|Af<|cr<|wD (fun st=>Ad (eR st) (RA _ _))<|wD (fun st=>Ag (v:=.bool a.BY) KB (eR st) e.bk rfl)<|wn ?_;rcases Ae (a.BY) with k|k
 ·replace d:=Am d k;refine Ah rfl k<|cr<|wD (fun st=>Ad (eR st) (HV _ _)) ?_;have p:=(l.bk.ext e.gr);refine wD (fun st=>Ag (v:=.slice b f.Az.length c) I4 (eR st) p rfl)<|wD (fun st=>Bn Tryz.underlying35 (eR st))<|wD (fun st=>Ad (eR st) (MO _ _))<|wD (fun st=>Ag (v:=I a.Number) Bq (eR st) e.bk rfl) ?_;replace d:=AJ d;obtain⟨aB,d⟩:=d;refine wD (fun st=>BK (eR st) (eR st) aB)<|wA (v:=I ((f.Az.length:Int)+a.Number)) rfl<|wn<|Ap<|AG ?_;obtain rfl:=oi d;refine Au rfl rfl ?_;exact⟨s.AZ,rfl⟩
 ·replace d:=An d k;refine Ao rfl k<|cn<|cr<|wD (fun st=>Ad (eR st) (MO _ _))<|wD (fun st=>Ag (v:=I a.Number) Bq (eR st) e.bk rfl)<|wA (v:=I a.Number) rfl<|wn<|Ap ?_;obtain rfl:=oi d;refine Au rfl rfl ?_;exact⟨s.AZ,rfl⟩
theorem Aat z f c d(Z:Nat→Prop) w(r:Sl (Al .i64) w Z c d f) aA(a:Hq z f=some aA):
 BN Tryz.prog 199 #[.slice c f.length d] w (fun v w'=>Ext w w'∧(Dk .i64).R w' (zf Z w []) v aA):=by
 unfold Hq at a;refine rq (N:=25) Tryz.func199 fun aT ha aU=>?_;have o:=sA 0 ha;clear ha;have aB:Hp FN [] w [] w:=Hp.start (Bw.none w);have h:=r.mv (Bu (Z:=Z) (L:=[]) w);refine cr<|wA (v:=I 0) rfl<|wn<|Af<|cr<|wM (v:=.slice c f.length d) o<|wD (fun st=>Bn Tryz.underlying31 (eR st))<|wD (fun st=>B8 (eR st) (eR st))<|wn ?_;rcases Ae (decide ((f.length:Int)<1)) with m|m
 ·replace a:=Am a m;refine Ah rfl m ?_;exact absurd a (by simp)
 ·replace a:=An a m;refine Ao rfl m<|cn<|cr<|wM (v:=.slice c f.length d) o ?_;replace a:=Bi a;obtain⟨i2,x2,aC,aD,aE,a⟩:=a;obtain⟨b2,aW,_,aF,rfl,aG⟩:=Sl.CR h rfl aD;refine wD (fun st=>BA (k:=i2) Tryz.underlying31 Dy (eR st) aF (eR st) aC aE)<|wD (fun st=>BF (v:=I x2) Bq (eR st) aG rfl)<|wA (v:=I x2) rfl<|wn<|Af<|cr<|wA (v:=I 1) rfl<|wn<|AI ?_;replace a:=bind_some a;obtain⟨z3,i,a⟩:=a;refine BQ (fun aH g t=>(aH=.exit 0∧Fo X0 25 g∧sl g 3=I z3∧w=t)) ?aI ?aJ
  case aI=>
   clear a;refine BP (fun u g t=>∃e,∃b,Gf f u e b=some z3∧Fo X0 25 g∧sl g 0=.slice c f.length d∧sl g 3=I e∧sl g 4=I b∧w=t) z ?aK ?aL
   case aK=>
    intro st;exact⟨x2,(1:Int),i,qo st,sp st 0 o,sp st 3 rfl,sp st 4 rfl,rfl⟩
   case aL=>
    rintro(_|u) aV _ ⟨e,b,i,x,j,p,l,rfl⟩
    ·exact absurd (show none=some _ from i) (by simp)
    rw[Gf.eq_2] at i;have a:=i;clear i;refine ro x<|Af<|cr<|wM (v:=I b) l<|wM (v:=.slice c f.length d) j<|wD (fun st=>Bn Tryz.underlying31 (eR st))<|wD (fun st=>B8 (eR st) (eR st))<|wn ?_;rcases Ae (decide (b<(f.length:Int))) with n|n
    ·replace a:=Am a n;refine Ah rfl n<|cn<|Af<|AI<|Ai<|wM (v:=I e) p<|wM (v:=.slice c f.length d) j<|wM (v:=I b) l ?_;replace a:=Bi a;obtain⟨i5,y,aM,aN,aO,a⟩:=a;obtain⟨aX,aY,_,aP,rfl,aQ⟩:=Sl.CR h rfl aN;refine wD (fun st=>BA (k:=i5) Tryz.underlying31 Dy (eR st) aP (eR st) aM aO)<|wD (fun st=>BF (v:=I y) Bq (eR st) aQ rfl)<|wD (fun st=>TF (eR st) (eR st))<|wA (v:=I (min e y)) rfl<|Bc<|CG<|Ai<|wM (v:=I b) l ?_;replace a:=AJ a;obtain⟨aR,a⟩:=a;refine wD (fun st=>BK (eR st) (eR st) aR)<|wA (v:=I (b+1)) rfl<|Bc ?_;refine Br u (Nat.lt_succ_self _) (fun st=>?_);exact⟨(min e y),(b+1),a,qo st,sp st 0 j,sp st 3 rfl,sp st 4 rfl,rfl⟩
    ·replace a:=An a n;refine Ao rfl n<|DA ?_;obtain rfl:=oi a;refine BG (fun st=>?_);exact⟨rfl,qo st,sp st 3 p,rfl⟩
  case aJ=>
   rintro aH aS _ (⟨rfl,s,q,rfl⟩);refine lf s<|Be<|BM<|cr<|wM (v:=I z3) q<|wA (v:=I z3) rfl<|wn<|Ap ?_;obtain rfl:=oi a;refine Au rfl rfl ?_;exact⟨aB.AZ,rfl⟩
theorem a168 h e a b(Z:Nat→Prop) w(f:Sl (Al .i64) w Z a b e) i(c:I2 h e=some i):
 BN Tryz.prog 168 #[.slice a e.length b] w (fun v w'=>Ext w w'∧(Dk .i64).R w' (zf Z w []) v i):=by
 unfold I2 at c;refine rq (N:=5) Tryz.func168 fun o ha p=>?_;have g:=sA 0 ha;clear ha;have j:Hp FN [] w [] w:=Hp.start (Bw.none w);have d:=f.mv (Bu (Z:=Z) (L:=[]) w);refine cr<|wA (v:=I 0) rfl<|wr<|wM (v:=.slice a e.length b) g ?_;replace c:=bind_some c;obtain⟨k,l,c⟩:=c;refine wE (fun st=>Ak SV (eR st) (Cd (eR st)) (Aat h e a b ZA _ d.all k l)) ?_;rintro _ w2 ⟨m,rfl⟩;have n:=j.ext m;refine wA (v:=I k) rfl<|wn<|Ap ?_;obtain rfl:=oi c;refine Au rfl rfl ?_;exact⟨n.AZ,rfl⟩
theorem a194{r:Type}{e:Nat→Prop}{aK:Nat}{n:IT r}{u:r→AL→Option (Bool×r)} aU c(s:r) q1(i:Value) a(Z Za:Nat→Prop) w(d:Cb Tryz.prog i e aK n (v1 (DB Ax)) BE u)(aL:aK≤w.heap.size)(aM:Bw e [some q1,a] w)(aN:∀b,Z b→¬e b∧some b∉[some q1,a])(aV:∀b,Z b→Za b)(aA:∀b,Za b→¬e b∧some b∉[some q1,a])(aO:Bk w q1 214 #[i])(aW:n s w Z a) aB(m:HB aU u c s=some aB):
 BN Tryz.prog 194 #[.agg #[I c.Lo,I c.Hi],pt q1 0] w (fun v w'=>∃o',BX (FU e [some q1,a]) w w'∧BE.R w' (zf Z w [some q1,o']) v aB.1∧Bk w' q1 214 #[i]∧(∀k,o'=some k→(a=some k∨w.heap.size≤k)∧k<w'.heap.size)∧n aB.2 w' (zf Z w [some q1,o']) o'):=by
 unfold HB at m;refine rq (N:=8) Tryz.func194 fun aZ ha a0=>?_;have aC:=sA 0 ha;have aD:=sA 1 ha;clear ha;obtain⟨aE,aP,o,aQ,aX,aF⟩:=Kr aM aN aA;have aG:=d.mz aW (AS (L:=[some q1,a]) aQ w);refine cr<|wE (fun st=>BL (v:=.agg #[I c.Lo,I c.Hi]) (cs:= #[I c.Lo,I c.Hi]) (ee st aC) rfl) ?_;rintro _ w1 ⟨b1,rfl,f⟩;have g:=o.nb f;have aT:=o.BH f;refine wA (v:=.bool false) rfl<|wn<|Af<|Ai ?_;have j:=(aO.ext f.gr);refine wD (fun st=>Ag (v:=i) XO (ee st aD) j rfl)<|wD (fun st=>AO (l:=[I c.Lo,I c.Hi]) Iz (eR st) f.bk rfl rfl) ?_;have aH:n s w1 (ZZ e aE Z w.heap.size [some b1,some q1,a]) a:=(d.me aG o f.gr (Ay f));replace m:=bind_some m;obtain⟨aI,aR,m⟩:=m;refine wE (fun st=>F1 (d.call s c aI _ (ZZ e aE Z w.heap.size [some b1,some q1,a]) (ZC e [a]) a #[.agg #[I c.Lo,I c.Hi]] (Nat.le_trans aL g.sz) (g.zz (F':=e) (M:=[a]) (C:=[]) [2] [] ⟨rfl,trivial⟩ trivial (fun _ h=>.inl h)) Jf aH ⟨_,rfl,⟨_,rfl,rfl⟩⟩ aR) (eR st) (Cd (eR st))) ?_;rintro _ aY ⟨p,x,q,rfl,aS⟩;have z:=g.EF x (AQ [2] ⟨rfl,trivial⟩ (fun _ h=>h)) 2 rfl q;have aJ:n aI.2 aY (ZZ e aE Z w.heap.size [some b1,some q1,p]) p:=d.mz aS (g.call (M:=[p]) (Nat.le_refl _) (Ch ⟨.inr (hw q 2),trivial⟩) (CT (L:=[some b1,some q1,a]) (y:=p) 2 (gm 0)));refine wD (fun st=>Ca (eR st))<|wA (v:=.bool !aI.1) rfl<|wn<|Ap ?_;obtain rfl:=oi m;refine Au rfl rfl ?_;have t:=(j.Cn x (g.CI 1 rfl [2] rfl ⟨rfl,trivial⟩ (fun _ h=>h)));exact⟨p,aF _ z.fin,rfl,t,z.mq 2 [1] (M:=[some q1]) ⟨rfl,trivial⟩ aP,d.mz aJ (AX (BB [1,2] ⟨rfl,rfl,trivial⟩))⟩
theorem AbA{aX:Type}{e:Nat→Prop}{bC:Nat}{aG:IT aX}{aQ:aX→AL→Option (Bool×aX)} bD s(a4:aX) m n(aI:Value) aB(Z:Nat→Prop) w(p:Cb Tryz.prog aI e bC aG (v1 (DB Ax)) BE aQ)(bE:bC≤w.heap.size)(bF:Bw e [aB] w)(bG:∀b,Z b→¬e b∧some b∉[aB])(aY:Sl Ax w Z m n s)(bV:aG a4 w Z aB) a5(a:Il bD aQ s a4=some a5):
 BN Tryz.prog 221 #[.slice m s.length n,aI] w (fun v w'=>∃o',BX (FU e [aB]) w w'∧(Dk .i64).R w' (zf Z w [o']) v a5.1∧(∀k,o'=some k→(aB=some k∨w.heap.size≤k)∧k<w'.heap.size)∧aG a5.2 w' (zf Z w [o']) o'):=by
 unfold Il at a;refine rq (N:=19) Tryz.func221 fun bY ha bZ=>?_;have aR:=sA 0 ha;have a6:=sA 1 ha;clear ha;obtain⟨aC,aZ,bH,a0,aS⟩:=Iu bF bG;have aN:=aY.mv (AS (L:=[aB]) a0 w);have a7:=p.mz bV (AS (L:=[aB]) a0 w);refine cr<|wA (v:=I 0) rfl<|wn<|Af<|cr<|wM (v:=.slice m s.length n) aR<|wD (fun st=>Bn Tryz.underlying35 (eR st))<|wM (v:=I 0) rfl<|wn<|AI ?_;replace a:=bind_some a;obtain⟨a8,t,a⟩:=a;refine BQ (fun a9 f aD=>(a9=.ret∧∃o,a8=.inl o∧∃g,Fo X0 19 f∧sl f 4=I o.1∧Hp e aC w [g] aD∧aG o.2 aD (ZZ e aC Z w.heap.size [g]) g)∨(a9=.exit 0∧∃o,a8=.inr o∧∃i,Fo X0 19 f∧Hp e aC w [i] aD∧aG o aD (ZZ e aC Z w.heap.size [i]) i)) ?bI ?bJ
 case bI=>
  clear a;refine BP (fun bA f aD=>∃d,∃j,∃c,Fa aQ s bA d j=some a8∧Fo X0 19 f∧sl f 0=.slice m s.length n∧sl f 1=aI∧sl f 7=I (s.length:Int)∧sl f 8=I d∧Hp e aC w [c] aD∧(fun bK=>aG j aD bK c∧Sl Ax aD bK m n s) (ZZ e aC Z w.heap.size [c])) bD ?bL ?bM
  case bL=>
   intro st;exact⟨(0:Int),a4,aB,t,qo st,sp st 0 aR,sp st 1 a6,sp st 7 rfl,sp st 8 rfl,bH,a7,aN⟩
  case bM=>
   rintro(_|bA) b4 b5 ⟨d,j,c,t,bB,aJ,aK,aL,x,u,aM,q⟩
   ·exact absurd (show none=some _ from t) (by simp)
   rw[Fa.eq_2] at t;have a:=t;clear t;refine ro bB<|cr<|wD (fun st=>B8 (ee st x) (ee st aL))<|wn<|Af ?_;rcases Ae (decide (d<(s.length:Int))) with aE|aE
   ·replace a:=Am a aE;refine Ah rfl aE<|cn<|Af<|AI<|cr<|wM (v:=I d) x<|wA (v:=I d) rfl<|wr<|wM (v:=aI) aK<|wM (v:=.slice m s.length n) aJ<|wM (v:=I d) rfl ?_;replace a:=Bi a;obtain⟨i3,aT,bN,bO,bP,a⟩:=a;obtain⟨b3,b7,_,bQ,rfl,bR⟩:=Sl.elem q (by decide) bO;refine wD (fun st=>BC (k:=i3) Tryz.underlying35 K7 (eR st) bQ (eR st) bN bP)<|wD (fun st=>Cv (l:=[I aT.Lo,I aT.Hi]) Iz (eR st) bR rfl rfl) ?_;replace a:=bind_some a;obtain⟨aU,bS,a⟩:=a;refine wE (fun st=>F1 (p.call j aT aU _ (ZZ e aC Z w.heap.size [c]) (ZC e [c]) c #[.agg #[I aT.Lo,I aT.Hi]] (Nat.le_trans bE u.sz) (u.zz (F':=e) (M:=[c]) (C:=[]) [0] [] ⟨rfl,trivial⟩ trivial (fun _ h=>.inl h)) Jf aM ⟨_,rfl,⟨_,rfl,rfl⟩⟩ bS) (eR st) (Cd (eR st))) ?_;rintro _ bW ⟨aO,a2,aH,rfl,bT⟩;have a3:=u.EF a2 (AQ [0] ⟨rfl,trivial⟩ (fun _ h=>h)) 0 rfl aH;have aV:aG aU.2 bW (ZZ e aC Z w.heap.size [aO]) aO:=p.mz bT (u.call (M:=[aO]) (Nat.le_refl _) (Ch ⟨.inr (hw aH 0),trivial⟩) (CT (L:=[c]) (y:=aO) 0 (gm 0)));refine wn ?_;rcases Ae (aU.1) with aF|aF
    ·replace a:=Am a aF;refine Ah rfl aF<|cr<|wM (v:=I d) rfl<|wA (v:=I d) rfl<|wn<|Ap<|CO<|AG ?_;obtain rfl:=oi a;refine BG (fun st=>?_);exact .inl ⟨rfl,(d,aU.2),rfl,aO,qo st,sp st 4 rfl,a3,aV⟩
    ·replace a:=An a aF;refine Ao rfl aF<|Ce<|CG<|Ai ?_;replace a:=AJ a;obtain⟨bU,a⟩:=a;refine wD (fun st=>BK (ee st x) (eR st) bU)<|wM (v:=I (d+1)) rfl<|Bc ?_;have aP:=(q.mv (u.HY a2 (AQ [0] ⟨rfl,trivial⟩ (fun _ h=>h)) 0 rfl (fun k hk=>(aH k hk).1)));refine Br bA (Nat.lt_succ_self _) (fun st=>?_);exact⟨(d+1),aU.2,aO,a,qo st,sp st 0 aJ,sp st 1 aK,sp st 7 aL,sp st 8 rfl,a3,aV,aP⟩
   ·replace a:=An a aE;refine Ao rfl aE<|DA ?_;obtain rfl:=oi a;refine BG (fun st=>?_);exact .inr ⟨rfl,j,rfl,c,qo st,u,aM⟩
 case bJ=>
  rintro a9 bX b6 (⟨rfl,o,rfl,g,z,aW,r,aA⟩|⟨rfl,o,rfl,i,z,r,aA⟩)
  ·skip
   replace a:=CM a;refine lf z<|CO ?_;obtain rfl:=oi a;refine Au rfl aW ?_;exact⟨g,aS _ r.fin,rfl,r.mq 0 [] (M:=[]) trivial aZ,p.mz aA (AX (BB [0] ⟨rfl,trivial⟩))⟩
  ·skip
   replace a:=CN a;refine lf z<|Be<|BM<|cr<|wA (v:=I (-1)) rfl<|wn<|Ap ?_;obtain rfl:=oi a;refine Au rfl rfl ?_;exact⟨i,aS _ r.fin,rfl,r.mq 0 [] (M:=[]) trivial aZ,p.mz aA (AX (BB [0] ⟨rfl,trivial⟩))⟩
theorem a193{p:Type}{f:Nat→Prop}{aG:Nat}{q:IT p}{s:p→AL→Option (Bool×p)} aH m(x:p) c d(i:Value) a(Z:Nat→Prop) w(e:Cb Tryz.prog i f aG q (v1 (DB Ax)) BE s)(aI:aG≤w.heap.size)(aJ:Bw f [a] w)(aK:∀b,Z b→¬f b∧some b∉[a])(r:Sl Ax w Z c d m)(aQ:q x w Z a) z(j:HC aH s m x=some z):
 BN Tryz.prog 193 #[.slice c m.length d,i] w (fun v w'=>∃o',BX (FU f [a]) w w'∧BE.R w' (zf Z w [o']) v z.1∧(∀k,o'=some k→(a=some k∨w.heap.size≤k)∧k<w'.heap.size)∧q z.2 w' (zf Z w [o']) o'):=by
 unfold HC at j;refine rq (N:=9) Tryz.func193 fun aR ha aS=>?_;have aA:=sA 0 ha;have aB:=sA 1 ha;clear ha;obtain⟨aL,aM,g,t,aC⟩:=Iu aJ aK;have l:=r.mv (AS (L:=[a]) t w);have aD:=e.mz aQ (AS (L:=[a]) t w);refine cr<|wA (v:=.bool false) rfl<|wr<|wM (v:=.slice c m.length d) aA<|wM (v:=i) aB ?_;replace j:=bind_some j;obtain⟨aE,aN,j⟩:=j;refine wE (fun st=>Ak XP (eR st) (Ci (eR st) (eR st)) (AbA aH m x c d i a (ZZ f aL Z w.heap.size [a]) _ e (Nat.le_trans aI g.sz) (g.CH (F':=f) (M:=[a]) (C:=[]) [0] [] rfl ⟨rfl,trivial⟩ trivial (fun _ h=>.inl h)) (g.zz (F':=f) (M:=[a]) (C:=[]) [0] [] ⟨rfl,trivial⟩ trivial (fun _ h=>.inl h)) l aD aE aN)) ?_;rintro _ w2 ⟨n,aO,rfl,o,aP⟩;have u:=g.EF aO (AQ [0] ⟨rfl,trivial⟩ (fun _ h=>h)) 0 rfl o;have aF:q aE.2 w2 (ZZ f aL Z w.heap.size [n]) n:=e.mz aP (g.call (M:=[n]) (Nat.le_refl _) (Ch ⟨.inr (hw o 0),trivial⟩) (CT (L:=[a]) (y:=n) 0 (gm 0)));refine wD (fun st=>HT (eR st) (eR st))<|wA (v:=.bool (decide ((0:Int)≤aE.1))) rfl<|wn<|Ap ?_;obtain rfl:=oi j;refine Au rfl rfl ?_;exact⟨n,aC _ u.fin,rfl,u.mq 0 [] (M:=[]) trivial aM,e.mz aF (AX (BB [0] ⟨rfl,trivial⟩))⟩
theorem a164{s:Type}{e:Nat→Prop}{a6:Nat}{t:IT s}{aB:s→AL→Option (Bool×s)} aG aC(aH:s) j l(g:Value) c(Z:Nat→Prop) w(a:Cb Tryz.prog g e a6 t (v1 (DB Ax)) BE aB)(a7:a6≤w.heap.size)(a8:Bw e [c] w)(a9:∀b,Z b→¬e b∧some b∉[c])(aI:Sl Ax w Z j l aC)(n:t aH w Z c) aN(u:Jg aG aB aC aH=some aN):
 BN Tryz.prog 164 #[.slice j aC.length l,g] w (fun v w'=>∃o',BX (FU e [c]) w w'∧BE.R w' (zf Z w [o']) v aN.1∧(∀k,o'=some k→(c=some k∨w.heap.size≤k)∧k<w'.heap.size)∧t aN.2 w' (zf Z w [o']) o'):=by
 unfold Jg at u;refine rq (N:=9) Tryz.func164 fun bN ha bO=>?_;have aO:=sA 0 ha;have aP:=sA 1 ha;clear ha;obtain⟨aQ,bA,aD,aJ,aR⟩:=Iu a8 a9;have z:=aI.mv (AS (L:=[c]) aJ w);have aS:=a.mz n (AS (L:=[c]) aJ w);refine cr<|wE (fun st=>BL (v:=g) (cs:= #[g]) (ee st aP) a.fc) ?_;rintro _ w1 ⟨b1,rfl,i⟩;have d:=aD.nb i;have bI:=aD.BH i;refine wA (v:=.bool false) rfl<|wr<|wM (v:=.slice j aC.length l) aO<|wD (fun st=>Dl (vs:= #[]) (us:= #[pt b1 0]) F6 (Cd (eR st))) ?_;have aK:=d.CH (F':=e) (M:=[some b1]) (C:=[]) [0] [] rfl ⟨rfl,trivial⟩ trivial (fun k hk=>.inl ((fun _ h=>h) k hk));have aT:Cb Tryz.prog (.func (.func 194) #[] #[pt b1 0]) (FU e [some b1]) w1.heap.size (fun(st:s) aU bJ o=>(∀k,o=some k→k<aU.heap.size∧¬(FU e [some b1]) k)∧Bk aU b1 214 #[g]∧t st aU bJ o) (v1 (DB Ax)) BE (fun(st:s) (x:AL)=>(HB aG aB x st).bind fun r=>some (r.1,r.2)):=by
  refine⟨rfl,rfl,d.JB [0] ⟨rfl,trivial⟩ (fun _ h=>h),?_,?_,?_⟩
  ·intro st x r w1 aV bB o vs aW aX p n aY bK;obtain⟨f,m,q⟩:=n;obtain⟨_,rfl,⟨_,rfl,rfl⟩⟩:=aY;obtain⟨bL,h1,h2⟩:=bind_some bK;obtain rfl:=Option.some.inj h2;refine(EY XQ rfl (a194 aG x st b1 g o aV bB w1 a (Nat.le_trans a7 (Nat.le_trans d.sz aW)) ((aK.grow aW).snoc f) (fun b hb=>DR (p b (aX b hb)).1 (p b (aX b hb)).2) aX (fun b hb=>DR (p b hb).1 (p b hb).2) m q bL h1)).mono ?_;rintro v w2 ⟨o',aY,aZ,a0,aL,bC⟩;exact⟨o',aY.lf,aL,aZ,⟨aK.keep aW f aL,a0,a.mz bC JL⟩⟩
  ·intro st w1 w2 aV bP o n hm hb;obtain⟨f,m,q⟩:=n;exact⟨fun k hk=>⟨Nat.lt_of_lt_of_le (f k hk).1 hm.size,(f k hk).2⟩,m.Ik (hb b1 (.inl (.inr (gm 0)))),a.Ld _ _ _ _ _ _ q hm (fun b bD=>hb b (bD.imp .inl id))⟩
  ·intro st w1 aV o n k hk;obtain⟨f,m,q⟩:=n;exact f k hk
 have aA:=(z.mv (Ay i));replace u:=bind_some u;obtain⟨a2,bE,u⟩:=u;have a3:t aH w1 (ZZ e aQ Z w.heap.size [some b1,c]) c:=(a.me aS aD i.gr (Ay i));refine wE (fun st=>Ak XS (eR st) (Ci (eR st) (eR st)) (a193 aG aC aH j l (.func (.func 194) #[] #[pt b1 0]) c (ZZ e aQ Z w.heap.size [some b1,c]) _ aT (Nat.le_refl _) (d.CH (F':=(FU e [some b1])) (M:=[c]) (C:=[some b1]) [1] [0] rfl ⟨rfl,trivial⟩ ⟨rfl,trivial⟩ (Co (fun _ h=>h))) (d.zz (F':=(FU e [some b1])) (M:=[c]) (C:=[some b1]) [1] [0] ⟨rfl,trivial⟩ ⟨rfl,trivial⟩ (Co (fun _ h=>h))) aA ⟨(fun k hk=>d.Oc 1 (by rw[←hk];rfl) [0] rfl ⟨rfl,trivial⟩),i.bk,a3⟩ a2 bE)) ?_;rintro _ bM ⟨aE,bF,rfl,aF,bG⟩;obtain⟨-,bH,a4⟩:=bG;have aM:=d.EF (BX.cl (M1:=[some b1]) (M2:=[c]) bF) (AQ [0,1] ⟨rfl,rfl,trivial⟩ (fun _ h=>h)) 1 rfl aF;have a5:t a2.2 bM (ZZ e aQ Z w.heap.size [some b1,aE]) aE:=a.mz a4 (d.call (M:=[aE]) (Nat.le_refl _) (Ch ⟨.inr (hw aF 1),trivial⟩) (CT (L:=[some b1,c]) (y:=aE) 1 (gm 0)));refine wD (fun st=>Ca (eR st))<|wA (v:=.bool !a2.1) rfl<|wn<|Ap ?_;obtain rfl:=oi u;refine Au rfl rfl ?_;exact⟨aE,aR _ aM.fin,rfl,aM.mq 1 [] (M:=[]) trivial bA,a.mz a5 (AX (BB [1] ⟨rfl,trivial⟩))⟩
theorem a196{p:Type}{c:Nat→Prop}{aK:Nat}{q:IT p}{t:p→(List Int)→Option (Bool×p)} aT j(aA:p) e f q1(i:Value) a(Z Za:Nat→Prop) w(g:Cb Tryz.prog i c aK q (v1 (FE (Al .i64))) BE t)(aL:aK≤w.heap.size)(aM:Bw c [some q1,a] w)(aN:∀b,Z b→¬c b∧some b∉[some q1,a])(aU:∀b,Z b→Za b)(aB:∀b,Za b→¬c b∧some b∉[some q1,a])(r:Sl (Al .i64) w Za e f j)(u:Bk w q1 148 #[i])(aV:q aA w Z a) aC(l:H5 aT t j aA=some aC):
 BN Tryz.prog 196 #[.slice e j.length f,pt q1 0] w (fun v w'=>∃o',BX (FU c [some q1,a]) w w'∧BE.R w' (zf Z w [some q1,o']) v aC.1∧Bk w' q1 148 #[i]∧(∀k,o'=some k→(a=some k∨w.heap.size≤k)∧k<w'.heap.size)∧q aC.2 w' (zf Z w [some q1,o']) o'):=by
 unfold H5 at l;refine rq (N:=8) Tryz.func196 fun aW ha aX=>?_;have aD:=sA 0 ha;have aE:=sA 1 ha;clear ha;obtain⟨aO,aP,d,aQ,aF,aG⟩:=Kr aM aN aB;have m:=r.mv (AS (L:=[some q1,a]) aF w);have aH:=g.mz aV (AS (L:=[some q1,a]) aQ w);refine cr<|wA (v:=.bool false) rfl<|wr<|wD (fun st=>Ag (v:=i) PH (ee st aE) u rfl)<|wM (v:=.slice e j.length f) aD ?_;replace l:=bind_some l;obtain⟨aI,aR,l⟩:=l;refine wE (fun st=>F1 (g.call aA j aI _ (ZZ c aO Z w.heap.size [some q1,a]) (ZC c [a]) a #[.slice e j.length f] (Nat.le_trans aL d.sz) (d.zz (F':=c) (M:=[a]) (C:=[]) [1] [] ⟨rfl,trivial⟩ trivial (fun _ h=>.inl h)) Jf aH ⟨_,rfl,⟨_,_,rfl,(m.mv (d.mz (F':=c) (M:=[a]) (C:=[]) [1] [] ⟨rfl,trivial⟩ trivial (fun _ h=>.inl h)))⟩⟩ aR) (eR st) (Cd (eR st))) ?_;rintro _ w2 ⟨n,x,o,rfl,aS⟩;have z:=d.EF x (AQ [1] ⟨rfl,trivial⟩ (fun _ h=>h)) 1 rfl o;have aJ:q aI.2 w2 (ZZ c aO Z w.heap.size [some q1,n]) n:=g.mz aS (d.call (M:=[n]) (Nat.le_refl _) (Ch ⟨.inr (hw o 1),trivial⟩) (CT (L:=[some q1,a]) (y:=n) 1 (gm 0)));refine wD (fun st=>Ca (eR st))<|wA (v:=.bool !aI.1) rfl<|wn<|Ap ?_;obtain rfl:=oi l;refine Au rfl rfl ?_;have s:=(u.Cn x (d.CI 0 rfl [1] rfl ⟨rfl,trivial⟩ (fun _ h=>h)));exact⟨n,aG _ z.fin,rfl,s,z.mq 1 [0] (M:=[some q1]) ⟨rfl,trivial⟩ aP,g.mz aJ (AX (BB [0,1] ⟨rfl,rfl,trivial⟩))⟩
theorem a222{aX:Type}{e:Nat→Prop}{bE:Nat}{aF:IT aX}{aP:aX→(List Int)→Option (Bool×aX)} bF s(a5:aX) l m(aH:Value) aA(Z:Nat→Prop) w(o:Cb Tryz.prog aH e bE aF (v1 (FE (Al .i64))) BE aP)(bG:bE≤w.heap.size)(bH:Bw e [aA] w)(bI:∀b,Z b→¬e b∧some b∉[aA])(aY:Sl (Bx (Al .i64)) w Z l m s)(bX:aF a5 w Z aA) a6(a:Iw bF aP s a5=some a6):
 BN Tryz.prog 222 #[.slice l s.length m,aH] w (fun v w'=>∃o',BX (FU e [aA]) w w'∧(Dk .i64).R w' (zf Z w [o']) v a6.1∧(∀k,o'=some k→(aA=some k∨w.heap.size≤k)∧k<w'.heap.size)∧aF a6.2 w' (zf Z w [o']) o'):=by
 unfold Iw at a;refine rq (N:=19) Tryz.func222 fun b4 ha b5=>?_;have aQ:=sA 0 ha;have a7:=sA 1 ha;clear ha;obtain⟨aB,a0,bJ,a2,aR⟩:=Iu bH bI;have aM:=aY.mv (AS (L:=[aA]) a2 w);have a8:=o.mz bX (AS (L:=[aA]) a2 w);refine cr<|wA (v:=I 0) rfl<|wn<|Af<|cr<|wM (v:=.slice l s.length m) aQ<|wD (fun st=>Bn Tryz.underlying23 (eR st))<|wM (v:=I 0) rfl<|wn<|AI ?_;replace a:=bind_some a;obtain⟨a9,t,a⟩:=a;refine BQ (fun bA f aC=>(bA=.ret∧∃n,a9=.inl n∧∃g,Fo X0 19 f∧sl f 4=I n.1∧Hp e aB w [g] aC∧aF n.2 aC (ZZ e aB Z w.heap.size [g]) g)∨(bA=.exit 0∧∃n,a9=.inr n∧∃i,Fo X0 19 f∧Hp e aB w [i] aC∧aF n aC (ZZ e aB Z w.heap.size [i]) i)) ?bK ?bL
 case bK=>
  clear a;refine BP (fun bB f aC=>∃d,∃j,∃c,Fp aP s bB d j=some a9∧Fo X0 19 f∧sl f 0=.slice l s.length m∧sl f 1=aH∧sl f 7=I (s.length:Int)∧sl f 8=I d∧Hp e aB w [c] aC∧(fun bM=>aF j aC bM c∧Sl (Bx (Al .i64)) aC bM l m s) (ZZ e aB Z w.heap.size [c])) bF ?bN ?bO
  case bN=>
   intro st;exact⟨(0:Int),a5,aA,t,qo st,sp st 0 aQ,sp st 1 a7,sp st 7 rfl,sp st 8 rfl,bJ,a8,aM⟩
  case bO=>
   rintro(_|bB) b6 b7 ⟨d,j,c,t,bC,aI,aJ,aK,u,p,aL,q⟩
   ·exact absurd (show none=some _ from t) (by simp)
   rw[Fp.eq_2] at t;have a:=t;clear t;refine ro bC<|cr<|wD (fun st=>B8 (ee st u) (ee st aK))<|wn<|Af ?_;rcases Ae (decide (d<(s.length:Int))) with aD|aD
   ·replace a:=Am a aD;refine Ah rfl aD<|cn<|Af<|AI<|cr<|wM (v:=I d) u<|wA (v:=I d) rfl<|wr<|wM (v:=aH) aJ<|wM (v:=.slice l s.length m) aI<|wM (v:=I d) rfl ?_;replace a:=Bi a;obtain⟨i3,bD,bP,bQ,bR,a⟩:=a;obtain⟨b3,b9,_,bS,⟨aS,aT,rfl,aZ⟩,bT⟩:=Sl.CR q rfl bQ;refine wD (fun st=>BA (k:=i3) Tryz.underlying23 E8 (eR st) bS (eR st) bP bR)<|wD (fun st=>BF (v:=.slice aS bD.length aT) CU (eR st) bT rfl) ?_;replace a:=bind_some a;obtain⟨aU,bU,a⟩:=a;refine wE (fun st=>F1 (o.call j bD aU _ (ZZ e aB Z w.heap.size [c]) (ZC e [c]) c #[.slice aS bD.length aT] (Nat.le_trans bG p.sz) (p.zz (F':=e) (M:=[c]) (C:=[]) [0] [] ⟨rfl,trivial⟩ trivial (fun _ h=>.inl h)) Jf aL ⟨_,rfl,⟨_,_,rfl,(aZ.mv (p.mz (F':=e) (M:=[c]) (C:=[]) [0] [] ⟨rfl,trivial⟩ trivial (fun _ h=>.inl h)))⟩⟩ bU) (eR st) (Cd (eR st))) ?_;rintro _ bY ⟨aN,a3,aG,rfl,bV⟩;have a4:=p.EF a3 (AQ [0] ⟨rfl,trivial⟩ (fun _ h=>h)) 0 rfl aG;have aV:aF aU.2 bY (ZZ e aB Z w.heap.size [aN]) aN:=o.mz bV (p.call (M:=[aN]) (Nat.le_refl _) (Ch ⟨.inr (hw aG 0),trivial⟩) (CT (L:=[c]) (y:=aN) 0 (gm 0)));refine wn ?_;rcases Ae (aU.1) with aE|aE
    ·replace a:=Am a aE;refine Ah rfl aE<|cr<|wM (v:=I d) rfl<|wA (v:=I d) rfl<|wn<|Ap<|CO<|AG ?_;obtain rfl:=oi a;refine BG (fun st=>?_);exact .inl ⟨rfl,(d,aU.2),rfl,aN,qo st,sp st 4 rfl,a4,aV⟩
    ·replace a:=An a aE;refine Ao rfl aE<|Ce<|CG<|Ai ?_;replace a:=AJ a;obtain⟨bW,a⟩:=a;refine wD (fun st=>BK (ee st u) (eR st) bW)<|wM (v:=I (d+1)) rfl<|Bc ?_;have aO:=(q.mv (p.HY a3 (AQ [0] ⟨rfl,trivial⟩ (fun _ h=>h)) 0 rfl (fun k hk=>(aG k hk).1)));refine Br bB (Nat.lt_succ_self _) (fun st=>?_);exact⟨(d+1),aU.2,aN,a,qo st,sp st 0 aI,sp st 1 aJ,sp st 7 aK,sp st 8 rfl,a4,aV,aO⟩
   ·replace a:=An a aD;refine Ao rfl aD<|DA ?_;obtain rfl:=oi a;refine BG (fun st=>?_);exact .inr ⟨rfl,j,rfl,c,qo st,p,aL⟩
 case bL=>
  rintro bA bZ b8 (⟨rfl,n,rfl,g,x,aW,r,z⟩|⟨rfl,n,rfl,i,x,r,z⟩)
  ·skip
   replace a:=CM a;refine lf x<|CO ?_;obtain rfl:=oi a;refine Au rfl aW ?_;exact⟨g,aR _ r.fin,rfl,r.mq 0 [] (M:=[]) trivial a0,o.mz z (AX (BB [0] ⟨rfl,trivial⟩))⟩
  ·skip
   replace a:=CN a;refine lf x<|Be<|BM<|cr<|wA (v:=I (-1)) rfl<|wn<|Ap ?_;obtain rfl:=oi a;refine Au rfl rfl ?_;exact⟨i,aR _ r.fin,rfl,r.mq 0 [] (M:=[]) trivial a0,o.mz z (AX (BB [0] ⟨rfl,trivial⟩))⟩
theorem AbB{p:Type}{f:Nat→Prop}{aG:Nat}{q:IT p}{s:p→(List Int)→Option (Bool×p)} aH m(x:p) c d(i:Value) a(Z:Nat→Prop) w(e:Cb Tryz.prog i f aG q (v1 (FE (Al .i64))) BE s)(aI:aG≤w.heap.size)(aJ:Bw f [a] w)(aK:∀b,Z b→¬f b∧some b∉[a])(r:Sl (Bx (Al .i64)) w Z c d m)(aQ:q x w Z a) z(j:H0 aH s m x=some z):
 BN Tryz.prog 195 #[.slice c m.length d,i] w (fun v w'=>∃o',BX (FU f [a]) w w'∧BE.R w' (zf Z w [o']) v z.1∧(∀k,o'=some k→(a=some k∨w.heap.size≤k)∧k<w'.heap.size)∧q z.2 w' (zf Z w [o']) o'):=by
 unfold H0 at j;refine rq (N:=9) Tryz.func195 fun aR ha aS=>?_;have aA:=sA 0 ha;have aB:=sA 1 ha;clear ha;obtain⟨aL,aM,g,t,aC⟩:=Iu aJ aK;have l:=r.mv (AS (L:=[a]) t w);have aD:=e.mz aQ (AS (L:=[a]) t w);refine cr<|wA (v:=.bool false) rfl<|wr<|wM (v:=.slice c m.length d) aA<|wM (v:=i) aB ?_;replace j:=bind_some j;obtain⟨aE,aN,j⟩:=j;refine wE (fun st=>Ak XT (eR st) (Ci (eR st) (eR st)) (a222 aH m x c d i a (ZZ f aL Z w.heap.size [a]) _ e (Nat.le_trans aI g.sz) (g.CH (F':=f) (M:=[a]) (C:=[]) [0] [] rfl ⟨rfl,trivial⟩ trivial (fun _ h=>.inl h)) (g.zz (F':=f) (M:=[a]) (C:=[]) [0] [] ⟨rfl,trivial⟩ trivial (fun _ h=>.inl h)) l aD aE aN)) ?_;rintro _ w2 ⟨n,aO,rfl,o,aP⟩;have u:=g.EF aO (AQ [0] ⟨rfl,trivial⟩ (fun _ h=>h)) 0 rfl o;have aF:q aE.2 w2 (ZZ f aL Z w.heap.size [n]) n:=e.mz aP (g.call (M:=[n]) (Nat.le_refl _) (Ch ⟨.inr (hw o 0),trivial⟩) (CT (L:=[a]) (y:=n) 0 (gm 0)));refine wD (fun st=>HT (eR st) (eR st))<|wA (v:=.bool (decide ((0:Int)≤aE.1))) rfl<|wn<|Ap ?_;obtain rfl:=oi j;refine Au rfl rfl ?_;exact⟨n,aC _ u.fin,rfl,u.mq 0 [] (M:=[]) trivial aM,e.mz aF (AX (BB [0] ⟨rfl,trivial⟩))⟩
theorem AbC{s:Type}{e:Nat→Prop}{a9:Nat}{t:IT s}{aB:s→(List Int)→Option (Bool×s)} aG aC(aH:s) j l(g:Value) c(Z:Nat→Prop) w(a:Cb Tryz.prog g e a9 t (v1 (FE (Al .i64))) BE aB)(bA:a9≤w.heap.size)(bB:Bw e [c] w)(bC:∀b,Z b→¬e b∧some b∉[c])(aI:Sl (Bx (Al .i64)) w Z j l aC)(n:t aH w Z c) aO(u:JC aG aB aC aH=some aO):
 BN Tryz.prog 166 #[.slice j aC.length l,g] w (fun v w'=>∃o',BX (FU e [c]) w w'∧BE.R w' (zf Z w [o']) v aO.1∧(∀k,o'=some k→(c=some k∨w.heap.size≤k)∧k<w'.heap.size)∧t aO.2 w' (zf Z w [o']) o'):=by
 unfold JC at u;refine rq (N:=9) Tryz.func166 fun bQ ha bR=>?_;have aP:=sA 0 ha;have aQ:=sA 1 ha;clear ha;obtain⟨aR,bD,aD,aK,aS⟩:=Iu bB bC;have z:=aI.mv (AS (L:=[c]) aK w);have aT:=a.mz n (AS (L:=[c]) aK w);refine cr<|wE (fun st=>BL (v:=g) (cs:= #[g]) (ee st aQ) a.fc) ?_;rintro _ w1 ⟨b1,rfl,i⟩;have d:=aD.nb i;have bL:=aD.BH i;refine wA (v:=.bool false) rfl<|wr<|wM (v:=.slice j aC.length l) aP<|wD (fun st=>Dl (vs:= #[]) (us:= #[pt b1 0]) F6 (Cd (eR st))) ?_;have aL:=d.CH (F':=e) (M:=[some b1]) (C:=[]) [0] [] rfl ⟨rfl,trivial⟩ trivial (fun k hk=>.inl ((fun _ h=>h) k hk));have aU:Cb Tryz.prog (.func (.func 196) #[] #[pt b1 0]) (FU e [some b1]) w1.heap.size (fun(st:s) aV bM o=>(∀k,o=some k→k<aV.heap.size∧¬(FU e [some b1]) k)∧Bk aV b1 148 #[g]∧t st aV bM o) (v1 (FE (Al .i64))) BE (fun(st:s) (x:(List Int))=>(H5 aG aB x st).bind fun r=>some (r.1,r.2)):=by
  refine⟨rfl,rfl,d.JB [0] ⟨rfl,trivial⟩ (fun _ h=>h),?_,?_,?_⟩
  ·intro st x r w1 aW bE o vs aX aY p n aZ bN;obtain⟨f,m,q⟩:=n;obtain⟨_,rfl,⟨a0,a2,rfl,aJ⟩⟩:=aZ;obtain⟨bO,h1,h2⟩:=bind_some bN;obtain rfl:=Option.some.inj h2;refine(EY XU rfl (a196 aG x st a0 a2 b1 g o aW bE w1 a (Nat.le_trans bA (Nat.le_trans d.sz aX)) ((aL.grow aX).snoc f) (fun b hb=>DR (p b (aY b hb)).1 (p b (aY b hb)).2) aY (fun b hb=>DR (p b hb).1 (p b hb).2) aJ m q bO h1)).mono ?_;rintro v w2 ⟨o',aZ,a3,a4,aM,bF⟩;exact⟨o',aZ.lf,aM,a3,⟨aL.keep aX f aM,a4,a.mz bF JL⟩⟩
  ·intro st w1 w2 aW bS o n hm hb;obtain⟨f,m,q⟩:=n;exact⟨fun k hk=>⟨Nat.lt_of_lt_of_le (f k hk).1 hm.size,(f k hk).2⟩,m.Ik (hb b1 (.inl (.inr (gm 0)))),a.Ld _ _ _ _ _ _ q hm (fun b bG=>hb b (bG.imp .inl id))⟩
  ·intro st w1 aW o n k hk;obtain⟨f,m,q⟩:=n;exact f k hk
 have aA:=(z.mv (Ay i));replace u:=bind_some u;obtain⟨a5,bH,u⟩:=u;have a6:t aH w1 (ZZ e aR Z w.heap.size [some b1,c]) c:=(a.me aT aD i.gr (Ay i));refine wE (fun st=>Ak XV (eR st) (Ci (eR st) (eR st)) (AbB aG aC aH j l (.func (.func 196) #[] #[pt b1 0]) c (ZZ e aR Z w.heap.size [some b1,c]) _ aU (Nat.le_refl _) (d.CH (F':=(FU e [some b1])) (M:=[c]) (C:=[some b1]) [1] [0] rfl ⟨rfl,trivial⟩ ⟨rfl,trivial⟩ (Co (fun _ h=>h))) (d.zz (F':=(FU e [some b1])) (M:=[c]) (C:=[some b1]) [1] [0] ⟨rfl,trivial⟩ ⟨rfl,trivial⟩ (Co (fun _ h=>h))) aA ⟨(fun k hk=>d.Oc 1 (by rw[←hk];rfl) [0] rfl ⟨rfl,trivial⟩),i.bk,a6⟩ a5 bH)) ?_;rintro _ bP ⟨aE,bI,rfl,aF,bJ⟩;obtain⟨-,bK,a7⟩:=bJ;have aN:=d.EF (BX.cl (M1:=[some b1]) (M2:=[c]) bI) (AQ [0,1] ⟨rfl,rfl,trivial⟩ (fun _ h=>h)) 1 rfl aF;have a8:t a5.2 bP (ZZ e aR Z w.heap.size [some b1,aE]) aE:=a.mz a7 (d.call (M:=[aE]) (Nat.le_refl _) (Ch ⟨.inr (hw aF 1),trivial⟩) (CT (L:=[some b1,c]) (y:=aE) 1 (gm 0)));refine wD (fun st=>Ca (eR st))<|wA (v:=.bool !a5.1) rfl<|wn<|Ap ?_;obtain rfl:=oi u;refine Au rfl rfl ?_;exact⟨aE,aS _ aN.fin,rfl,aN.mq 1 [] (M:=[]) trivial bD,a.mz a8 (AX (BB [1] ⟨rfl,trivial⟩))⟩
theorem a198{r:Type}{e:Nat→Prop}{aK:Nat}{n:IT r}{u:r→Cw→Option (Bool×r)} aU a(s:r) q1(i:Value) c(Z Za:Nat→Prop) w(d:Cb Tryz.prog i e aK n (v1 (DB AF)) BE u)(aL:aK≤w.heap.size)(aM:Bw e [some q1,c] w)(aN:∀b,Z b→¬e b∧some b∉[some q1,c])(aV:∀b,Z b→Za b)(aA:∀b,Za b→¬e b∧some b∉[some q1,c])(aO:Bk w q1 212 #[i])(aW:n s w Z c) aB(m:HD aU u a s=some aB):
 BN Tryz.prog 198 #[.agg #[.bool a.BY,I a.Number,I a.Bl,I a.Bm],pt q1 0] w (fun v w'=>∃o',BX (FU e [some q1,c]) w w'∧BE.R w' (zf Z w [some q1,o']) v aB.1∧Bk w' q1 212 #[i]∧(∀k,o'=some k→(c=some k∨w.heap.size≤k)∧k<w'.heap.size)∧n aB.2 w' (zf Z w [some q1,o']) o'):=by
 unfold HD at m;refine rq (N:=8) Tryz.func198 fun aZ ha a0=>?_;have aC:=sA 0 ha;have aD:=sA 1 ha;clear ha;obtain⟨aE,aP,o,aQ,aX,aF⟩:=Kr aM aN aA;have aG:=d.mz aW (AS (L:=[some q1,c]) aQ w);refine cr<|wE (fun st=>BL (v:=.agg #[.bool a.BY,I a.Number,I a.Bl,I a.Bm]) (cs:= #[.bool a.BY,I a.Number,I a.Bl,I a.Bm]) (ee st aC) rfl) ?_;rintro _ w1 ⟨b1,rfl,f⟩;have g:=o.nb f;have aT:=o.BH f;refine wA (v:=.bool false) rfl<|wn<|Af<|Ai ?_;have j:=(aO.ext f.gr);refine wD (fun st=>Ag (v:=i) XW (ee st aD) j rfl)<|wD (fun st=>AO (l:=[.bool a.BY,I a.Number,I a.Bl,I a.Bm]) NT (eR st) f.bk rfl rfl) ?_;have aH:n s w1 (ZZ e aE Z w.heap.size [some b1,some q1,c]) c:=(d.me aG o f.gr (Ay f));replace m:=bind_some m;obtain⟨aI,aR,m⟩:=m;refine wE (fun st=>F1 (d.call s a aI _ (ZZ e aE Z w.heap.size [some b1,some q1,c]) (ZC e [c]) c #[.agg #[.bool a.BY,I a.Number,I a.Bl,I a.Bm]] (Nat.le_trans aL g.sz) (g.zz (F':=e) (M:=[c]) (C:=[]) [2] [] ⟨rfl,trivial⟩ trivial (fun _ h=>.inl h)) Jf aH ⟨_,rfl,⟨_,rfl,rfl⟩⟩ aR) (eR st) (Cd (eR st))) ?_;rintro _ aY ⟨p,x,q,rfl,aS⟩;have z:=g.EF x (AQ [2] ⟨rfl,trivial⟩ (fun _ h=>h)) 2 rfl q;have aJ:n aI.2 aY (ZZ e aE Z w.heap.size [some b1,some q1,p]) p:=d.mz aS (g.call (M:=[p]) (Nat.le_refl _) (Ch ⟨.inr (hw q 2),trivial⟩) (CT (L:=[some b1,some q1,c]) (y:=p) 2 (gm 0)));refine wD (fun st=>Ca (eR st))<|wA (v:=.bool !aI.1) rfl<|wn<|Ap ?_;obtain rfl:=oi m;refine Au rfl rfl ?_;have t:=(j.Cn x (g.CI 1 rfl [2] rfl ⟨rfl,trivial⟩ (fun _ h=>h)));exact⟨p,aF _ z.fin,rfl,t,z.mq 2 [1] (M:=[some q1]) ⟨rfl,trivial⟩ aP,d.mz aJ (AX (BB [1,2] ⟨rfl,rfl,trivial⟩))⟩
theorem AbD{aX:Type}{e:Nat→Prop}{bC:Nat}{aH:IT aX}{aR:aX→Cw→Option (Bool×aX)} bD s(a4:aX) m n(aJ:Value) aC(Z:Nat→Prop) w(p:Cb Tryz.prog aJ e bC aH (v1 (DB AF)) BE aR)(bE:bC≤w.heap.size)(bF:Bw e [aC] w)(bG:∀b,Z b→¬e b∧some b∉[aC])(aY:Sl AF w Z m n s)(bV:aH a4 w Z aC) a5(a:Im bD aR s a4=some a5):
 BN Tryz.prog 223 #[.slice m s.length n,aJ] w (fun v w'=>∃o',BX (FU e [aC]) w w'∧(Dk .i64).R w' (zf Z w [o']) v a5.1∧(∀k,o'=some k→(aC=some k∨w.heap.size≤k)∧k<w'.heap.size)∧aH a5.2 w' (zf Z w [o']) o'):=by
 unfold Im at a;refine rq (N:=19) Tryz.func223 fun bY ha bZ=>?_;have aS:=sA 0 ha;have a6:=sA 1 ha;clear ha;obtain⟨aD,aZ,bH,a0,aT⟩:=Iu bF bG;have aO:=aY.mv (AS (L:=[aC]) a0 w);have a7:=p.mz bV (AS (L:=[aC]) a0 w);refine cr<|wA (v:=I 0) rfl<|wn<|Af<|cr<|wM (v:=.slice m s.length n) aS<|wD (fun st=>Bn Tryz.underlying36 (eR st))<|wM (v:=I 0) rfl<|wn<|AI ?_;replace a:=bind_some a;obtain⟨a8,t,a⟩:=a;refine BQ (fun a9 f aE=>(a9=.ret∧∃o,a8=.inl o∧∃g,Fo X0 19 f∧sl f 4=I o.1∧Hp e aD w [g] aE∧aH o.2 aE (ZZ e aD Z w.heap.size [g]) g)∨(a9=.exit 0∧∃o,a8=.inr o∧∃i,Fo X0 19 f∧Hp e aD w [i] aE∧aH o aE (ZZ e aD Z w.heap.size [i]) i)) ?bI ?bJ
 case bI=>
  clear a;refine BP (fun bA f aE=>∃d,∃j,∃c,Fb aR s bA d j=some a8∧Fo X0 19 f∧sl f 0=.slice m s.length n∧sl f 1=aJ∧sl f 7=I (s.length:Int)∧sl f 8=I d∧Hp e aD w [c] aE∧(fun bK=>aH j aE bK c∧Sl AF aE bK m n s) (ZZ e aD Z w.heap.size [c])) bD ?bL ?bM
  case bL=>
   intro st;exact⟨(0:Int),a4,aC,t,qo st,sp st 0 aS,sp st 1 a6,sp st 7 rfl,sp st 8 rfl,bH,a7,aO⟩
  case bM=>
   rintro(_|bA) b4 b5 ⟨d,j,c,t,bB,aK,aL,aM,x,u,aN,q⟩
   ·exact absurd (show none=some _ from t) (by simp)
   rw[Fb.eq_2] at t;have a:=t;clear t;refine ro bB<|cr<|wD (fun st=>B8 (ee st x) (ee st aM))<|wn<|Af ?_;rcases Ae (decide (d<(s.length:Int))) with aF|aF
   ·replace a:=Am a aF;refine Ah rfl aF<|cn<|Af<|AI<|cr<|wM (v:=I d) x<|wA (v:=I d) rfl<|wr<|wM (v:=aJ) aL<|wM (v:=.slice m s.length n) aK<|wM (v:=I d) rfl ?_;replace a:=Bi a;obtain⟨i3,z,bN,bO,bP,a⟩:=a;obtain⟨b3,b7,_,bQ,rfl,bR⟩:=Sl.elem q (by decide) bO;refine wD (fun st=>BC (k:=i3) Tryz.underlying36 RB (eR st) bQ (eR st) bN bP)<|wD (fun st=>Cv (l:=[.bool z.BY,I z.Number,I z.Bl,I z.Bm]) NT (eR st) bR rfl rfl) ?_;replace a:=bind_some a;obtain⟨aU,bS,a⟩:=a;refine wE (fun st=>F1 (p.call j z aU _ (ZZ e aD Z w.heap.size [c]) (ZC e [c]) c #[.agg #[.bool z.BY,I z.Number,I z.Bl,I z.Bm]] (Nat.le_trans bE u.sz) (u.zz (F':=e) (M:=[c]) (C:=[]) [0] [] ⟨rfl,trivial⟩ trivial (fun _ h=>.inl h)) Jf aN ⟨_,rfl,⟨_,rfl,rfl⟩⟩ bS) (eR st) (Cd (eR st))) ?_;rintro _ bW ⟨aP,a2,aI,rfl,bT⟩;have a3:=u.EF a2 (AQ [0] ⟨rfl,trivial⟩ (fun _ h=>h)) 0 rfl aI;have aV:aH aU.2 bW (ZZ e aD Z w.heap.size [aP]) aP:=p.mz bT (u.call (M:=[aP]) (Nat.le_refl _) (Ch ⟨.inr (hw aI 0),trivial⟩) (CT (L:=[c]) (y:=aP) 0 (gm 0)));refine wn ?_;rcases Ae (aU.1) with aG|aG
    ·replace a:=Am a aG;refine Ah rfl aG<|cr<|wM (v:=I d) rfl<|wA (v:=I d) rfl<|wn<|Ap<|CO<|AG ?_;obtain rfl:=oi a;refine BG (fun st=>?_);exact .inl ⟨rfl,(d,aU.2),rfl,aP,qo st,sp st 4 rfl,a3,aV⟩
    ·replace a:=An a aG;refine Ao rfl aG<|Ce<|CG<|Ai ?_;replace a:=AJ a;obtain⟨bU,a⟩:=a;refine wD (fun st=>BK (ee st x) (eR st) bU)<|wM (v:=I (d+1)) rfl<|Bc ?_;have aQ:=(q.mv (u.HY a2 (AQ [0] ⟨rfl,trivial⟩ (fun _ h=>h)) 0 rfl (fun k hk=>(aI k hk).1)));refine Br bA (Nat.lt_succ_self _) (fun st=>?_);exact⟨(d+1),aU.2,aP,a,qo st,sp st 0 aK,sp st 1 aL,sp st 7 aM,sp st 8 rfl,a3,aV,aQ⟩
   ·replace a:=An a aF;refine Ao rfl aF<|DA ?_;obtain rfl:=oi a;refine BG (fun st=>?_);exact .inr ⟨rfl,j,rfl,c,qo st,u,aN⟩
 case bJ=>
  rintro a9 bX b6 (⟨rfl,o,rfl,g,aA,aW,r,aB⟩|⟨rfl,o,rfl,i,aA,r,aB⟩)
  ·skip
   replace a:=CM a;refine lf aA<|CO ?_;obtain rfl:=oi a;refine Au rfl aW ?_;exact⟨g,aT _ r.fin,rfl,r.mq 0 [] (M:=[]) trivial aZ,p.mz aB (AX (BB [0] ⟨rfl,trivial⟩))⟩
  ·skip
   replace a:=CN a;refine lf aA<|Be<|BM<|cr<|wA (v:=I (-1)) rfl<|wn<|Ap ?_;obtain rfl:=oi a;refine Au rfl rfl ?_;exact⟨i,aT _ r.fin,rfl,r.mq 0 [] (M:=[]) trivial aZ,p.mz aB (AX (BB [0] ⟨rfl,trivial⟩))⟩
theorem AbE{p:Type}{f:Nat→Prop}{aG:Nat}{q:IT p}{s:p→Cw→Option (Bool×p)} aH m(x:p) c d(i:Value) a(Z:Nat→Prop) w(e:Cb Tryz.prog i f aG q (v1 (DB AF)) BE s)(aI:aG≤w.heap.size)(aJ:Bw f [a] w)(aK:∀b,Z b→¬f b∧some b∉[a])(r:Sl AF w Z c d m)(aQ:q x w Z a) z(j:HE aH s m x=some z):
 BN Tryz.prog 197 #[.slice c m.length d,i] w (fun v w'=>∃o',BX (FU f [a]) w w'∧BE.R w' (zf Z w [o']) v z.1∧(∀k,o'=some k→(a=some k∨w.heap.size≤k)∧k<w'.heap.size)∧q z.2 w' (zf Z w [o']) o'):=by
 unfold HE at j;refine rq (N:=9) Tryz.func197 fun aR ha aS=>?_;have aA:=sA 0 ha;have aB:=sA 1 ha;clear ha;obtain⟨aL,aM,g,t,aC⟩:=Iu aJ aK;have l:=r.mv (AS (L:=[a]) t w);have aD:=e.mz aQ (AS (L:=[a]) t w);refine cr<|wA (v:=.bool false) rfl<|wr<|wM (v:=.slice c m.length d) aA<|wM (v:=i) aB ?_;replace j:=bind_some j;obtain⟨aE,aN,j⟩:=j;refine wE (fun st=>Ak XX (eR st) (Ci (eR st) (eR st)) (AbD aH m x c d i a (ZZ f aL Z w.heap.size [a]) _ e (Nat.le_trans aI g.sz) (g.CH (F':=f) (M:=[a]) (C:=[]) [0] [] rfl ⟨rfl,trivial⟩ trivial (fun _ h=>.inl h)) (g.zz (F':=f) (M:=[a]) (C:=[]) [0] [] ⟨rfl,trivial⟩ trivial (fun _ h=>.inl h)) l aD aE aN)) ?_;rintro _ w2 ⟨n,aO,rfl,o,aP⟩;have u:=g.EF aO (AQ [0] ⟨rfl,trivial⟩ (fun _ h=>h)) 0 rfl o;have aF:q aE.2 w2 (ZZ f aL Z w.heap.size [n]) n:=e.mz aP (g.call (M:=[n]) (Nat.le_refl _) (Ch ⟨.inr (hw o 0),trivial⟩) (CT (L:=[a]) (y:=n) 0 (gm 0)));refine wD (fun st=>HT (eR st) (eR st))<|wA (v:=.bool (decide ((0:Int)≤aE.1))) rfl<|wn<|Ap ?_;obtain rfl:=oi j;refine Au rfl rfl ?_;exact⟨n,aC _ u.fin,rfl,u.mq 0 [] (M:=[]) trivial aM,e.mz aF (AX (BB [0] ⟨rfl,trivial⟩))⟩
theorem a167{s:Type}{e:Nat→Prop}{a6:Nat}{t:IT s}{aB:s→Cw→Option (Bool×s)} aG aC(aH:s) j l(g:Value) c(Z:Nat→Prop) w(a:Cb Tryz.prog g e a6 t (v1 (DB AF)) BE aB)(a7:a6≤w.heap.size)(a8:Bw e [c] w)(a9:∀b,Z b→¬e b∧some b∉[c])(aI:Sl AF w Z j l aC)(n:t aH w Z c) aN(u:Jh aG aB aC aH=some aN):
 BN Tryz.prog 167 #[.slice j aC.length l,g] w (fun v w'=>∃o',BX (FU e [c]) w w'∧BE.R w' (zf Z w [o']) v aN.1∧(∀k,o'=some k→(c=some k∨w.heap.size≤k)∧k<w'.heap.size)∧t aN.2 w' (zf Z w [o']) o'):=by
 unfold Jh at u;refine rq (N:=9) Tryz.func167 fun bN ha bO=>?_;have aO:=sA 0 ha;have aP:=sA 1 ha;clear ha;obtain⟨aQ,bA,aD,aJ,aR⟩:=Iu a8 a9;have z:=aI.mv (AS (L:=[c]) aJ w);have aS:=a.mz n (AS (L:=[c]) aJ w);refine cr<|wE (fun st=>BL (v:=g) (cs:= #[g]) (ee st aP) a.fc) ?_;rintro _ w1 ⟨b1,rfl,i⟩;have d:=aD.nb i;have bI:=aD.BH i;refine wA (v:=.bool false) rfl<|wr<|wM (v:=.slice j aC.length l) aO<|wD (fun st=>Dl (vs:= #[]) (us:= #[pt b1 0]) F6 (Cd (eR st))) ?_;have aK:=d.CH (F':=e) (M:=[some b1]) (C:=[]) [0] [] rfl ⟨rfl,trivial⟩ trivial (fun k hk=>.inl ((fun _ h=>h) k hk));have aT:Cb Tryz.prog (.func (.func 198) #[] #[pt b1 0]) (FU e [some b1]) w1.heap.size (fun(st:s) aU bJ o=>(∀k,o=some k→k<aU.heap.size∧¬(FU e [some b1]) k)∧Bk aU b1 212 #[g]∧t st aU bJ o) (v1 (DB AF)) BE (fun(st:s) (x:Cw)=>(HD aG aB x st).bind fun r=>some (r.1,r.2)):=by
  refine⟨rfl,rfl,d.JB [0] ⟨rfl,trivial⟩ (fun _ h=>h),?_,?_,?_⟩
  ·intro st x r w1 aV bB o vs aW aX p n aY bK;obtain⟨f,m,q⟩:=n;obtain⟨_,rfl,⟨_,rfl,rfl⟩⟩:=aY;obtain⟨bL,h1,h2⟩:=bind_some bK;obtain rfl:=Option.some.inj h2;refine(EY XY rfl (a198 aG x st b1 g o aV bB w1 a (Nat.le_trans a7 (Nat.le_trans d.sz aW)) ((aK.grow aW).snoc f) (fun b hb=>DR (p b (aX b hb)).1 (p b (aX b hb)).2) aX (fun b hb=>DR (p b hb).1 (p b hb).2) m q bL h1)).mono ?_;rintro v w2 ⟨o',aY,aZ,a0,aL,bC⟩;exact⟨o',aY.lf,aL,aZ,⟨aK.keep aW f aL,a0,a.mz bC JL⟩⟩
  ·intro st w1 w2 aV bP o n hm hb;obtain⟨f,m,q⟩:=n;exact⟨fun k hk=>⟨Nat.lt_of_lt_of_le (f k hk).1 hm.size,(f k hk).2⟩,m.Ik (hb b1 (.inl (.inr (gm 0)))),a.Ld _ _ _ _ _ _ q hm (fun b bD=>hb b (bD.imp .inl id))⟩
  ·intro st w1 aV o n k hk;obtain⟨f,m,q⟩:=n;exact f k hk
 have aA:=(z.mv (Ay i));replace u:=bind_some u;obtain⟨a2,bE,u⟩:=u;have a3:t aH w1 (ZZ e aQ Z w.heap.size [some b1,c]) c:=(a.me aS aD i.gr (Ay i));refine wE (fun st=>Ak XZ (eR st) (Ci (eR st) (eR st)) (AbE aG aC aH j l (.func (.func 198) #[] #[pt b1 0]) c (ZZ e aQ Z w.heap.size [some b1,c]) _ aT (Nat.le_refl _) (d.CH (F':=(FU e [some b1])) (M:=[c]) (C:=[some b1]) [1] [0] rfl ⟨rfl,trivial⟩ ⟨rfl,trivial⟩ (Co (fun _ h=>h))) (d.zz (F':=(FU e [some b1])) (M:=[c]) (C:=[some b1]) [1] [0] ⟨rfl,trivial⟩ ⟨rfl,trivial⟩ (Co (fun _ h=>h))) aA ⟨(fun k hk=>d.Oc 1 (by rw[←hk];rfl) [0] rfl ⟨rfl,trivial⟩),i.bk,a3⟩ a2 bE)) ?_;rintro _ bM ⟨aE,bF,rfl,aF,bG⟩;obtain⟨-,bH,a4⟩:=bG;have aM:=d.EF (BX.cl (M1:=[some b1]) (M2:=[c]) bF) (AQ [0,1] ⟨rfl,rfl,trivial⟩ (fun _ h=>h)) 1 rfl aF;have a5:t a2.2 bM (ZZ e aQ Z w.heap.size [some b1,aE]) aE:=a.mz a4 (d.call (M:=[aE]) (Nat.le_refl _) (Ch ⟨.inr (hw aF 1),trivial⟩) (CT (L:=[some b1,c]) (y:=aE) 1 (gm 0)));refine wD (fun st=>Ca (eR st))<|wA (v:=.bool !a2.1) rfl<|wn<|Ap ?_;obtain rfl:=oi u;refine Au rfl rfl ?_;exact⟨aE,aR _ aM.fin,rfl,aM.mq 1 [] (M:=[]) trivial bA,a.mz a5 (AX (BB [1] ⟨rfl,trivial⟩))⟩
theorem AbF{m:Type}{c:Nat→Prop}{aF:Nat}{n:IT m}{p:m→Int→Option (Bool×m)} aO i(t:m) q1(f:Value) a(Z Za:Nat→Prop) w(d:Cb Tryz.prog f c aF n (v1 (Dk .i64)) BE p)(aG:aF≤w.heap.size)(aH:Bw c [some q1,a] w)(aI:∀b,Z b→¬c b∧some b∉[some q1,a])(aP:∀b,Z b→Za b)(u:∀b,Za b→¬c b∧some b∉[some q1,a])(q:Bk w q1 142 #[f])(aQ:n t w Z a) x(g:Io aO p i t=some x):
 BN Tryz.prog 231 #[I i,pt q1 0] w (fun v w'=>∃o',BX (FU c [some q1,a]) w w'∧BE.R w' (zf Z w [some q1,o']) v x.1∧Bk w' q1 142 #[f]∧(∀k,o'=some k→(a=some k∨w.heap.size≤k)∧k<w'.heap.size)∧n x.2 w' (zf Z w [some q1,o']) o'):=by
 unfold Io at g;refine rq (N:=8) Tryz.func231 fun aS ha aT=>?_;have z:=sA 0 ha;have aA:=sA 1 ha;clear ha;obtain⟨aJ,aK,e,aL,aR,aB⟩:=Kr aH aI u;have aC:=d.mz aQ (AS (L:=[some q1,a]) aL w);refine cr<|wA (v:=.bool false) rfl<|wr<|wD (fun st=>Ag (v:=f) Lq (ee st aA) q rfl)<|wM (v:=I i) z ?_;replace g:=bind_some g;obtain⟨aD,aM,g⟩:=g;refine wE (fun st=>F1 (d.call t i aD _ (ZZ c aJ Z w.heap.size [some q1,a]) (ZC c [a]) a #[I i] (Nat.le_trans aG e.sz) (e.zz (F':=c) (M:=[a]) (C:=[]) [1] [] ⟨rfl,trivial⟩ trivial (fun _ h=>.inl h)) Jf aC ⟨_,rfl,rfl⟩ aM) (eR st) (Cd (eR st))) ?_;rintro _ w2 ⟨j,r,l,rfl,aN⟩;have s:=e.EF r (AQ [1] ⟨rfl,trivial⟩ (fun _ h=>h)) 1 rfl l;have aE:n aD.2 w2 (ZZ c aJ Z w.heap.size [some q1,j]) j:=d.mz aN (e.call (M:=[j]) (Nat.le_refl _) (Ch ⟨.inr (hw l 1),trivial⟩) (CT (L:=[some q1,a]) (y:=j) 1 (gm 0)));refine wD (fun st=>Ca (eR st))<|wA (v:=.bool !aD.1) rfl<|wn<|Ap ?_;obtain rfl:=oi g;refine Au rfl rfl ?_;have o:=(q.Cn r (e.CI 0 rfl [1] rfl ⟨rfl,trivial⟩ (fun _ h=>h)));exact⟨j,aB _ s.fin,rfl,o,s.mq 1 [0] (M:=[some q1]) ⟨rfl,trivial⟩ aK,d.mz aE (AX (BB [0,1] ⟨rfl,rfl,trivial⟩))⟩
theorem AbG{aV:Type}{e:Nat→Prop}{bB:Nat}{aF:IT aV}{aP:aV→Int→Option (Bool×aV)} bC r(a2:aV) l m(aH:Value) aA(Z:Nat→Prop) w(o:Cb Tryz.prog aH e bB aF (v1 (Dk .i64)) BE aP)(bD:bB≤w.heap.size)(bE:Bw e [aA] w)(bF:∀b,Z b→¬e b∧some b∉[aA])(aW:Sl (Al .i64) w Z l m r)(bU:aF a2 w Z aA) a3(a:IM bC aP r a2=some a3):
 BN Tryz.prog 207 #[.slice l r.length m,aH] w (fun v w'=>∃o',BX (FU e [aA]) w w'∧(Dk .i64).R w' (zf Z w [o']) v a3.1∧(∀k,o'=some k→(aA=some k∨w.heap.size≤k)∧k<w'.heap.size)∧aF a3.2 w' (zf Z w [o']) o'):=by
 unfold IM at a;refine rq (N:=19) Tryz.func207 fun bX ha bY=>?_;have aQ:=sA 0 ha;have a4:=sA 1 ha;clear ha;obtain⟨aB,aX,bG,aY,aR⟩:=Iu bE bF;have aM:=aW.mv (AS (L:=[aA]) aY w);have a5:=o.mz bU (AS (L:=[aA]) aY w);refine cr<|wA (v:=I 0) rfl<|wn<|Af<|cr<|wM (v:=.slice l r.length m) aQ<|wD (fun st=>Bn Tryz.underlying31 (eR st))<|wM (v:=I 0) rfl<|wn<|AI ?_;replace a:=bind_some a;obtain⟨a6,s,a⟩:=a;refine BQ (fun a7 f aC=>(a7=.ret∧∃n,a6=.inl n∧∃g,Fo X0 19 f∧sl f 4=I n.1∧Hp e aB w [g] aC∧aF n.2 aC (ZZ e aB Z w.heap.size [g]) g)∨(a7=.exit 0∧∃n,a6=.inr n∧∃i,Fo X0 19 f∧Hp e aB w [i] aC∧aF n aC (ZZ e aB Z w.heap.size [i]) i)) ?bH ?bI
 case bH=>
  clear a;refine BP (fun a8 f aC=>∃d,∃j,∃c,EM aP r a8 d j=some a6∧Fo X0 19 f∧sl f 0=.slice l r.length m∧sl f 1=aH∧sl f 7=I (r.length:Int)∧sl f 8=I d∧Hp e aB w [c] aC∧(fun bJ=>aF j aC bJ c∧Sl (Al .i64) aC bJ l m r) (ZZ e aB Z w.heap.size [c])) bC ?bK ?bL
  case bK=>
   intro st;exact⟨(0:Int),a2,aA,s,qo st,sp st 0 aQ,sp st 1 a4,sp st 7 rfl,sp st 8 rfl,bG,a5,aM⟩
  case bL=>
   rintro(_|a8) bZ b4 ⟨d,j,c,s,a9,aI,aJ,aK,u,t,aL,p⟩
   ·exact absurd (show none=some _ from s) (by simp)
   rw[EM.eq_2] at s;have a:=s;clear s;refine ro a9<|cr<|wD (fun st=>B8 (ee st u) (ee st aK))<|wn<|Af ?_;rcases Ae (decide (d<(r.length:Int))) with aD|aD
   ·replace a:=Am a aD;refine Ah rfl aD<|cn<|Af<|AI<|cr<|wM (v:=I d) u<|wA (v:=I d) rfl<|wr<|wM (v:=aH) aJ<|wM (v:=.slice l r.length m) aI<|wM (v:=I d) rfl ?_;replace a:=Bi a;obtain⟨i3,bA,bM,bN,bO,a⟩:=a;obtain⟨b3,b6,_,bP,rfl,bQ⟩:=Sl.CR p rfl bN;refine wD (fun st=>BA (k:=i3) Tryz.underlying31 Dy (eR st) bP (eR st) bM bO)<|wD (fun st=>BF (v:=I bA) Bq (eR st) bQ rfl) ?_;replace a:=bind_some a;obtain⟨aS,bR,a⟩:=a;refine wE (fun st=>F1 (o.call j bA aS _ (ZZ e aB Z w.heap.size [c]) (ZC e [c]) c #[I bA] (Nat.le_trans bD t.sz) (t.zz (F':=e) (M:=[c]) (C:=[]) [0] [] ⟨rfl,trivial⟩ trivial (fun _ h=>.inl h)) Jf aL ⟨_,rfl,rfl⟩ bR) (eR st) (Cd (eR st))) ?_;rintro _ bV ⟨aN,aZ,aG,rfl,bS⟩;have a0:=t.EF aZ (AQ [0] ⟨rfl,trivial⟩ (fun _ h=>h)) 0 rfl aG;have aT:aF aS.2 bV (ZZ e aB Z w.heap.size [aN]) aN:=o.mz bS (t.call (M:=[aN]) (Nat.le_refl _) (Ch ⟨.inr (hw aG 0),trivial⟩) (CT (L:=[c]) (y:=aN) 0 (gm 0)));refine wn ?_;rcases Ae (aS.1) with aE|aE
    ·replace a:=Am a aE;refine Ah rfl aE<|cr<|wM (v:=I d) rfl<|wA (v:=I d) rfl<|wn<|Ap<|CO<|AG ?_;obtain rfl:=oi a;refine BG (fun st=>?_);exact .inl ⟨rfl,(d,aS.2),rfl,aN,qo st,sp st 4 rfl,a0,aT⟩
    ·replace a:=An a aE;refine Ao rfl aE<|Ce<|CG<|Ai ?_;replace a:=AJ a;obtain⟨bT,a⟩:=a;refine wD (fun st=>BK (ee st u) (eR st) bT)<|wM (v:=I (d+1)) rfl<|Bc ?_;have aO:=(p.mv (t.HY aZ (AQ [0] ⟨rfl,trivial⟩ (fun _ h=>h)) 0 rfl (fun k hk=>(aG k hk).1)));refine Br a8 (Nat.lt_succ_self _) (fun st=>?_);exact⟨(d+1),aS.2,aN,a,qo st,sp st 0 aI,sp st 1 aJ,sp st 7 aK,sp st 8 rfl,a0,aT,aO⟩
   ·replace a:=An a aD;refine Ao rfl aD<|DA ?_;obtain rfl:=oi a;refine BG (fun st=>?_);exact .inr ⟨rfl,j,rfl,c,qo st,t,aL⟩
 case bI=>
  rintro a7 bW b5 (⟨rfl,n,rfl,g,x,aU,q,z⟩|⟨rfl,n,rfl,i,x,q,z⟩)
  ·skip
   replace a:=CM a;refine lf x<|CO ?_;obtain rfl:=oi a;refine Au rfl aU ?_;exact⟨g,aR _ q.fin,rfl,q.mq 0 [] (M:=[]) trivial aX,o.mz z (AX (BB [0] ⟨rfl,trivial⟩))⟩
  ·skip
   replace a:=CN a;refine lf x<|Be<|BM<|cr<|wA (v:=I (-1)) rfl<|wn<|Ap ?_;obtain rfl:=oi a;refine Au rfl rfl ?_;exact⟨i,aR _ q.fin,rfl,q.mq 0 [] (M:=[]) trivial aX,o.mz z (AX (BB [0] ⟨rfl,trivial⟩))⟩
theorem Aau{p:Type}{f:Nat→Prop}{aG:Nat}{q:IT p}{s:p→Int→Option (Bool×p)} aH m(x:p) c d(i:Value) a(Z:Nat→Prop) w(e:Cb Tryz.prog i f aG q (v1 (Dk .i64)) BE s)(aI:aG≤w.heap.size)(aJ:Bw f [a] w)(aK:∀b,Z b→¬f b∧some b∉[a])(r:Sl (Al .i64) w Z c d m)(aQ:q x w Z a) z(j:GN aH s m x=some z):
 BN Tryz.prog 187 #[.slice c m.length d,i] w (fun v w'=>∃o',BX (FU f [a]) w w'∧BE.R w' (zf Z w [o']) v z.1∧(∀k,o'=some k→(a=some k∨w.heap.size≤k)∧k<w'.heap.size)∧q z.2 w' (zf Z w [o']) o'):=by
 unfold GN at j;refine rq (N:=9) Tryz.func187 fun aR ha aS=>?_;have aA:=sA 0 ha;have aB:=sA 1 ha;clear ha;obtain⟨aL,aM,g,t,aC⟩:=Iu aJ aK;have l:=r.mv (AS (L:=[a]) t w);have aD:=e.mz aQ (AS (L:=[a]) t w);refine cr<|wA (v:=.bool false) rfl<|wr<|wM (v:=.slice c m.length d) aA<|wM (v:=i) aB ?_;replace j:=bind_some j;obtain⟨aE,aN,j⟩:=j;refine wE (fun st=>Ak X3 (eR st) (Ci (eR st) (eR st)) (AbG aH m x c d i a (ZZ f aL Z w.heap.size [a]) _ e (Nat.le_trans aI g.sz) (g.CH (F':=f) (M:=[a]) (C:=[]) [0] [] rfl ⟨rfl,trivial⟩ trivial (fun _ h=>.inl h)) (g.zz (F':=f) (M:=[a]) (C:=[]) [0] [] ⟨rfl,trivial⟩ trivial (fun _ h=>.inl h)) l aD aE aN)) ?_;rintro _ w2 ⟨n,aO,rfl,o,aP⟩;have u:=g.EF aO (AQ [0] ⟨rfl,trivial⟩ (fun _ h=>h)) 0 rfl o;have aF:q aE.2 w2 (ZZ f aL Z w.heap.size [n]) n:=e.mz aP (g.call (M:=[n]) (Nat.le_refl _) (Ch ⟨.inr (hw o 0),trivial⟩) (CT (L:=[a]) (y:=n) 0 (gm 0)));refine wD (fun st=>HT (eR st) (eR st))<|wA (v:=.bool (decide ((0:Int)≤aE.1))) rfl<|wn<|Ap ?_;obtain rfl:=oi j;refine Au rfl rfl ?_;exact⟨n,aC _ u.fin,rfl,u.mq 0 [] (M:=[]) trivial aM,e.mz aF (AX (BB [0] ⟨rfl,trivial⟩))⟩
theorem AbH{s:Type}{e:Nat→Prop}{a6:Nat}{t:IT s}{aB:s→Int→Option (Bool×s)} aG aC(aH:s) j l(g:Value) c(Z:Nat→Prop) w(a:Cb Tryz.prog g e a6 t (v1 (Dk .i64)) BE aB)(a7:a6≤w.heap.size)(a8:Bw e [c] w)(a9:∀b,Z b→¬e b∧some b∉[c])(aI:Sl (Al .i64) w Z j l aC)(n:t aH w Z c) aN(u:JW aG aB aC aH=some aN):
 BN Tryz.prog 219 #[.slice j aC.length l,g] w (fun v w'=>∃o',BX (FU e [c]) w w'∧BE.R w' (zf Z w [o']) v aN.1∧(∀k,o'=some k→(c=some k∨w.heap.size≤k)∧k<w'.heap.size)∧t aN.2 w' (zf Z w [o']) o'):=by
 unfold JW at u;refine rq (N:=9) Tryz.func219 fun bN ha bO=>?_;have aO:=sA 0 ha;have aP:=sA 1 ha;clear ha;obtain⟨aQ,bA,aD,aJ,aR⟩:=Iu a8 a9;have z:=aI.mv (AS (L:=[c]) aJ w);have aS:=a.mz n (AS (L:=[c]) aJ w);refine cr<|wE (fun st=>BL (v:=g) (cs:= #[g]) (ee st aP) a.fc) ?_;rintro _ w1 ⟨b1,rfl,i⟩;have d:=aD.nb i;have bI:=aD.BH i;refine wA (v:=.bool false) rfl<|wr<|wM (v:=.slice j aC.length l) aO<|wD (fun st=>Dl (vs:= #[]) (us:= #[pt b1 0]) F6 (Cd (eR st))) ?_;have aK:=d.CH (F':=e) (M:=[some b1]) (C:=[]) [0] [] rfl ⟨rfl,trivial⟩ trivial (fun k hk=>.inl ((fun _ h=>h) k hk));have aT:Cb Tryz.prog (.func (.func 231) #[] #[pt b1 0]) (FU e [some b1]) w1.heap.size (fun(st:s) aU bJ o=>(∀k,o=some k→k<aU.heap.size∧¬(FU e [some b1]) k)∧Bk aU b1 142 #[g]∧t st aU bJ o) (v1 (Dk .i64)) BE (fun(st:s) (x:Int)=>(Io aG aB x st).bind fun r=>some (r.1,r.2)):=by
  refine⟨rfl,rfl,d.JB [0] ⟨rfl,trivial⟩ (fun _ h=>h),?_,?_,?_⟩
  ·intro st x r w1 aV bB o vs aW aX p n aY bK;obtain⟨f,m,q⟩:=n;obtain⟨_,rfl,rfl⟩:=aY;obtain⟨bL,h1,h2⟩:=bind_some bK;obtain rfl:=Option.some.inj h2;refine(EY X5 rfl (AbF aG x st b1 g o aV bB w1 a (Nat.le_trans a7 (Nat.le_trans d.sz aW)) ((aK.grow aW).snoc f) (fun b hb=>DR (p b (aX b hb)).1 (p b (aX b hb)).2) aX (fun b hb=>DR (p b hb).1 (p b hb).2) m q bL h1)).mono ?_;rintro v w2 ⟨o',aY,aZ,a0,aL,bC⟩;exact⟨o',aY.lf,aL,aZ,⟨aK.keep aW f aL,a0,a.mz bC JL⟩⟩
  ·intro st w1 w2 aV bP o n hm hb;obtain⟨f,m,q⟩:=n;exact⟨fun k hk=>⟨Nat.lt_of_lt_of_le (f k hk).1 hm.size,(f k hk).2⟩,m.Ik (hb b1 (.inl (.inr (gm 0)))),a.Ld _ _ _ _ _ _ q hm (fun b bD=>hb b (bD.imp .inl id))⟩
  ·intro st w1 aV o n k hk;obtain⟨f,m,q⟩:=n;exact f k hk
 have aA:=(z.mv (Ay i));replace u:=bind_some u;obtain⟨a2,bE,u⟩:=u;have a3:t aH w1 (ZZ e aQ Z w.heap.size [some b1,c]) c:=(a.me aS aD i.gr (Ay i));refine wE (fun st=>Ak SW (eR st) (Ci (eR st) (eR st)) (Aau aG aC aH j l (.func (.func 231) #[] #[pt b1 0]) c (ZZ e aQ Z w.heap.size [some b1,c]) _ aT (Nat.le_refl _) (d.CH (F':=(FU e [some b1])) (M:=[c]) (C:=[some b1]) [1] [0] rfl ⟨rfl,trivial⟩ ⟨rfl,trivial⟩ (Co (fun _ h=>h))) (d.zz (F':=(FU e [some b1])) (M:=[c]) (C:=[some b1]) [1] [0] ⟨rfl,trivial⟩ ⟨rfl,trivial⟩ (Co (fun _ h=>h))) aA ⟨(fun k hk=>d.Oc 1 (by rw[←hk];rfl) [0] rfl ⟨rfl,trivial⟩),i.bk,a3⟩ a2 bE)) ?_;rintro _ bM ⟨aE,bF,rfl,aF,bG⟩;obtain⟨-,bH,a4⟩:=bG;have aM:=d.EF (BX.cl (M1:=[some b1]) (M2:=[c]) bF) (AQ [0,1] ⟨rfl,rfl,trivial⟩ (fun _ h=>h)) 1 rfl aF;have a5:t a2.2 bM (ZZ e aQ Z w.heap.size [some b1,aE]) aE:=a.mz a4 (d.call (M:=[aE]) (Nat.le_refl _) (Ch ⟨.inr (hw aF 1),trivial⟩) (CT (L:=[some b1,c]) (y:=aE) 1 (gm 0)));refine wD (fun st=>Ca (eR st))<|wA (v:=.bool !a2.1) rfl<|wn<|Ap ?_;obtain rfl:=oi u;refine Au rfl rfl ?_;exact⟨aE,aR _ aM.fin,rfl,aM.mq 1 [] (M:=[]) trivial bA,a.mz a5 (AX (BB [1] ⟨rfl,trivial⟩))⟩
end Go.Proofs.YtbhofkcbfblijaaGreat
end
