import Derived.Test.YtbhofkcbfblijaaGreatCK1
import Derived.WalkKit
import Derived.KernelRfl
import Derived.WalkSpells
import Derived.WalkLawsBesides
import Derived.Maps.AppendAt
import Derived.OrdersIn
import Derived.RangeFuncIn
import Derived.RangeFuncLeaves
import Derived.RangeFuncRecord
import Derived.RangeFuncSeq
import Derived.Scope
import Derived.DeepKeys3
import Derived.Laws.CopyRow
import Derived.Laws.OwnMore
import Derived.Laws.MakeOwn
import Derived.Laws.IdiomCopy
import Derived.Sort.OwnSortedInts
import Derived.Lib.RowBridge
import Derived.Test.YtbhofkcbfblijaaGreatProg
/-
  The contracts of the functions of the program and of the reference, and the logic that they are proved in: the base that several claims of this seat share.
-/
set_option linter.all false
section
namespace Go.Proofs.YtbhofkcbfblijaaGreat
open Go.RowKit Go.WideShapes
def Dw{e:Type}(f:e→(Br×Br)→Option (Bool×e))(i:Nat)(a:B1)(j:List Int):Nat→Int→(List (List Int×Int))→e→Option (((List (List Int×Int))×e)⊕((List (List Int×Int))×e))
 |0,_,_,_=>none
 |k+1,b,d,c=>cond (decide (b<(a.BU.length:Int))) ((idx a.BU b).bind fun l=>(Fp i (⟨a.Ao,a.Ap,a.Am,a.BK,a.AF,a.AG,a.AU,a.weights,a.BU,d⟩:B1) l).bind fun g=>(Fb i (⟨a.Ao,a.Ap,a.Am,a.BK,a.AF,a.AG,a.AU⟩:AJ) g.1 j).bind fun m=>cond (m) ((f c (l,g.1)).bind fun h=>cond (!h.1) (some (.inl (g.2,h.2))) ((i64 (b+1)).bind fun _=>Dw f i a j k (b+1) g.2 h.2)) ((i64 (b+1)).bind fun _=>Dw f i a j k (b+1) g.2 c)) (some (.inr (d,c)))
def Fi{b:Type}(c:Nat)(d:b→(Br×Br)→Option (Bool×b))(e:B1)(f:List Int)(g:b):Option ((List (List Int×Int))×b):=
 (Dw d c e f c (0:Int) e.known g).bind fun z=>Sum.elim (fun a=>some ((a.1,a.2))) (fun a=>some ((a.1,a.2))) z
def Fq(a:Bool)(b:Br×Br):Option (Bool×(Bool×Bool)):=
 some (false,true,true)
def Dm(b:Nat)(c:B1)(d:List Int):Option (Bool×(List (List Int×Int))):=
 (Fi b (fun(st:Bool×Bool) (x:Br×Br)=>cond st.2 none (Fq st.1 x)) c d (false,false)).bind fun a=>cond (a.2.2) (some ((a.2.1,a.1))) (some ((false,a.1)))
def GC(c:Nat)(d:List Int)(b:(List AP)):Nat→Int→Option ((Bool)⊕(Unit))
 |0,_=>none
 |g+1,a=>cond (decide (a<(b.length:Int))) ((idx b a).bind fun h=>(idx d a).bind fun e=>(Gv c h e).bind fun f=>cond (!f) (some (.inl false)) ((i64 (a+1)).bind fun _=>GC c d b g (a+1))) (some (.inr ()))
def Ix(b:Nat)(c:AJ)(d:List Int):Option (Bool):=
 cond ((d.length:Int) !=(c.Aj.length:Int)) (some (false)) ((FQ b c).bind fun e=>(GC b d e b (0:Int)).bind fun z=>Sum.elim (fun a=>some (a)) (fun a=>some (true)) z)
def JM(c:Nat)(b:AJ)(d:List Int):Option ((List Int)×Int):=
 (F4 c b).bind fun e=>cond (e !=0) (some ((([]:List Int),e))) ((Ix c b d).bind fun h=>cond (!h) (some ((([]:List Int),2))) ((EW c b).bind fun f=>(FA c b d).bind fun g=>(Fp c f g).bind fun a=>(L2 [a.1.a0,a.1.a1,a.1.a2].length (0:Int) (b.Ab.length:Int)).bind fun _=>(FJ (((0+(Ff [a.1.a0,a.1.a1,a.1.a2] (0:Int) (b.Ab.length:Int)).length:Nat):Int)≤140737488355328/8)).bind fun _=>some ((Ff [a.1.a0,a.1.a1,a.1.a2] (0:Int) (b.Ab.length:Int),0))))
def DW(a:Nat)(b:AJ)(e:Bool):Option ((Option B1)×Int):=
 (F4 a b).bind fun c=>cond (c !=0) (some (((none:Option B1),c))) (cond (!e) (some (((none:Option B1),2))) ((G8 a b).bind fun d=>cond ((d.BU.length:Int)==0) (some (((none:Option B1),11))) (some (((some d),0)))))
def CS(c:Nat)(e:AJ)(f:Bool):Option ((Option B1)×Int):=
 (DW c e f).bind fun b=>Option.elim b.1 (cond (b.2 !=0) (some (((none:Option B1),b.2))) (none)) (fun a=>cond (b.2 !=0) (some (((none:Option B1),b.2))) ((Dm c a ([]:List Int)).bind fun d=>cond (!d.1) (some (((none:Option B1),9))) (some (((some (⟨a.Ao,a.Ap,a.Am,a.BK,a.AF,a.AG,a.AU,a.weights,a.BU,d.2⟩:B1)),0)))))
def GX{e:Type}(i:e→Br→Option (Int×e))(j:Nat)(c:Int)(d:Int)(a:Bool)(f:e)(k:Br×Br):Option (Bool×(Int×Int×Bool×e)):=
 (i f k.2).bind fun b=>cond (a) ((HL j (⟨b.1,b.1⟩:AP) b.1).bind fun g=>some (true,g.Lo,g.Hi,false,b.2)) ((HL j (⟨c,d⟩:AP) b.1).bind fun h=>some (true,h.Lo,h.Hi,a,b.2))
def HM{a:Type}(c:Nat)(d:a→Br→Option (Int×a))(e:B1)(f:a):Option (AP×(List (List Int×Int))×a):=
 (Fi c (fun(st:Int×Int×Bool×a) (x:Br×Br)=>GX d c st.1 st.2.1 st.2.2.1 st.2.2.2 x) e ([]:List Int) ((0:Int),(0:Int),true,f)).bind fun b=>some (((⟨b.2.1,b.2.2.1⟩:AP),b.1,b.2.2.2.2))
def Iy(c:Nat)(a:Br)(b:Int):Option (Int):=
 (idx ([a.a0,a.a1,a.a2]:List Int) b).bind fun x2=>some (x2)
def If(f:Nat)(b:B1):Nat→(List AP)→Int→(List (List Int×Int))→Option ((List AP)×(List (List Int×Int)))
 |0,_,_,_=>none
 |g+1,d,a,c=>cond (decide (a<(b.weights.length:Int))) ((HM f (fun(st:Unit) (x:Br)=>(Iy f x a).bind fun r=>some (r,())) (⟨b.Ao,b.Ap,b.Am,b.BK,b.AF,b.AG,b.AU,b.weights,b.BU,c⟩:B1) ()).bind fun e=>(FJ (((d.length+[e.1].length:Nat):Int)≤140737488355328/16)).bind fun _=>(i64 (a+1)).bind fun _=>If f b g (d++[e.1]) (a+1) e.2.1) (some ((d,c)))
def Jg(b:Nat)(d:AJ):Option ((List AP)×Int):=
 (CS b d true).bind fun a=>Option.elim a.1 (cond (a.2 !=0) (some ((([]:List AP),a.2))) (none)) (fun c=>cond (a.2 !=0) (some ((([]:List AP),a.2))) ((If b c b ([]:List AP) (0:Int) c.known).bind fun e=>some ((e.1,0))))
def Gj(d:Nat)(a:Int)(b:Int)(c:Int):Option (Bool×Int):=
 (i64 (b+1)).bind fun _=>(i64 (c-1)).bind fun _=>(Eb d a (b+1) (c-1)).bind fun e=>some ((e,a))
def Hn(a:Nat)(b:List Int)(c:Int):Option (Bool):=
 (IS a (fun(st:Int) (x:Int)=>(Gj a x st c).bind fun r=>some (r.1,r.2)) b (-1)).bind fun d=>some (d.1)
def FE(e:Nat)(d:Br)(c:B1)(f:List Int):Nat→Int→Int→Option (Int)
 |0,_,_=>none
 |h+1,b,a=>cond (decide (a<(c.weights.length:Int))) ((idx c.weights a).bind fun g=>(DV e f a).bind fun j=>cond (j) ((idx ([d.a0,d.a1,d.a2]:List Int) a).bind fun i=>(i64 (b+i)).bind fun _=>(i64 (a+1)).bind fun _=>FE e d c f h (b+i) (a+1)) ((i64 (g*c.BK)).bind fun _=>(i64 (b+(g*c.BK))).bind fun _=>(i64 (a+1)).bind fun _=>FE e d c f h (b+(g*c.BK)) (a+1))) (some (b))
def Hw(a:Nat)(b:Br)(c:B1)(d:List Int):Option (Int):=
 (FE a b c d a (0:Int) (0:Int)).bind fun z2=>some (z2)
def G9(a:Nat)(b:B1)(d:List Int):Option (AP×(List (List Int×Int))):=
 (HM a (fun(st:Unit) (x:Br)=>(Hw a x b d).bind fun r=>some (r,())) b ()).bind fun c=>some ((c.1,c.2.1))
def Jp(b:Nat)(c:AJ)(d:List Int):Option (AP×Int):=
 (Hn b d (c.Ab.length:Int)).bind fun f=>(CS b c f).bind fun a=>Option.elim a.1 (cond (a.2 !=0) (some (((⟨0,0⟩:AP),a.2))) (none)) (fun g=>cond (a.2 !=0) (some (((⟨0,0⟩:AP),a.2))) ((G9 b g d).bind fun e=>some ((e.1,0))))
def Ig(f:(List Int)→Int→B1→Int→(List Int)→Option ((List (List Int×Int))×Int×(List Int)))(h:List Int)(b:B1):Nat→Int→Int→(List Int)→(List (List Int×Int))→Option (Int×(List Int)×(List (List Int×Int)))
 |0,_,_,_,_=>none
 |i+1,a,c,d,e=>cond (decide (a<(b.weights.length:Int))) ((FJ (((0+h.length:Nat):Int)≤140737488355328/8)).bind fun _=>(FJ (((h.length+[a].length:Nat):Int)≤140737488355328/8)).bind fun _=>(i64 (a+1)).bind fun _=>(f (h++[a]) (a+1) (⟨b.Ao,b.Ap,b.Am,b.BK,b.AF,b.AG,b.AU,b.weights,b.BU,e⟩:B1) c d).bind fun g=>(i64 (a+1)).bind fun _=>Ig f h b i (a+1) g.2.1 g.2.2 g.1) (some ((c,d,e)))
def H2(f:(List Int)→Int→B1→Int→(List Int)→Option ((List (List Int×Int))×Int×(List Int)))(h:List Int)(b:B1):Nat→Int→Int→(List Int)→(List (List Int×Int))→Option (Int×(List Int)×(List (List Int×Int)))
 |0,_,_,_,_=>none
 |i+1,a,c,d,e=>cond (decide (a<(b.weights.length:Int))) ((FJ (((0+h.length:Nat):Int)≤140737488355328/8)).bind fun _=>(FJ (((h.length+[a].length:Nat):Int)≤140737488355328/8)).bind fun _=>(i64 (a+1)).bind fun _=>(f (h++[a]) (a+1) (⟨b.Ao,b.Ap,b.Am,b.BK,b.AF,b.AG,b.AU,b.weights,b.BU,e⟩:B1) c d).bind fun g=>(i64 (a+1)).bind fun _=>H2 f h b i (a+1) g.2.1 g.2.2 g.1) (some ((c,d,e)))
def GU(a:Nat):Nat→(List Int)→Int→B1→Int→(List Int)→Option ((List (List Int×Int))×Int×(List Int))
 |0,_,_,_,_,_=>none
 |f+1,b,g,e,h,i=>(G9 a e b).bind fun d=>cond (decide (h<d.1.Lo)) ((FJ (((0+b.length:Nat):Int)≤140737488355328/8)).bind fun _=>(Ig (GU a f) b e a g d.1.Lo b d.2).bind fun z9=>some ((z9.2.2,z9.1,z9.2.1))) ((H2 (GU a f) b e a g h i d.2).bind fun c=>some ((c.2.2,c.1,c.2.1)))
def JN(c:Nat)(f:AJ):Option ((List Int)×Int×Int):=
 (CS c f true).bind fun b=>Option.elim b.1 (cond (b.2 !=0) (some ((([]:List Int),0,b.2))) (none)) (fun a=>cond (b.2 !=0) (some ((([]:List Int),0,b.2))) ((G9 c a ([]:List Int)).bind fun d=>(GU c c ([]:List Int) 0 (⟨a.Ao,a.Ap,a.Am,a.BK,a.AF,a.AG,a.AU,a.weights,a.BU,d.2⟩:B1) d.1.Lo ([]:List Int)).bind fun e=>some ((e.2.2,e.2.1,0))))
def Dt(d:B1)(e:BS)(f:Int)(a:Br×Br):Option (Bool×Bool):=
 (idx ([a.1.a0,a.1.a1,a.1.a2]:List Int) f).bind fun b=>(idx d.AF e.Cr).bind fun c=>cond (decide (b<c.AT)) (some (false,true)) (some (true,false))
def EX(e:Nat)(b:B1)(c:BS)(d:Int):Option (Bool×(List (List Int×Int))):=
 (idx b.weights d).bind fun f=>cond (decide (f<c.Cc)) (some ((false,b.known))) ((Fi e (fun(st:Bool) (x:Br×Br)=>cond st none (Dt b c d x)) b ([]:List Int) false).bind fun a=>cond (a.2) (some ((false,a.1))) (some ((true,a.1))))
def CZ(f:Nat)(b:B1)(g:BS):Nat→(List Int)→Int→(List (List Int×Int))→Option ((List Int)×(List (List Int×Int)))
 |0,_,_,_=>none
 |h+1,c,a,d=>cond (decide (a<(b.weights.length:Int))) ((EX f (⟨b.Ao,b.Ap,b.Am,b.BK,b.AF,b.AG,b.AU,b.weights,b.BU,d⟩:B1) g a).bind fun e=>cond (e.1) ((FJ (((c.length+[a].length:Nat):Int)≤140737488355328/8)).bind fun _=>(i64 (a+1)).bind fun _=>CZ f b g h (c++[a]) (a+1) e.2) ((i64 (a+1)).bind fun _=>CZ f b g h c (a+1) e.2)) (some ((c,d)))
def De(e:Nat)(d:B1):Nat→(List (List Int))→Int→(List (List Int×Int))→Option ((List (List Int))×(List (List Int×Int)))
 |0,_,_,_=>none
 |g+1,c,a,b=>cond (decide (a<(d.AG.length:Int))) ((idx d.AG a).bind fun h=>(CZ e d h e ([]:List Int) (0:Int) b).bind fun f=>(FJ (((c.length+[f.1].length:Nat):Int)≤140737488355328/24)).bind fun _=>(i64 (a+1)).bind fun _=>De e d g (c++[f.1]) (a+1) f.2) (some ((c,b)))
def DX(a:Nat)(b:B1):Option ((List (List Int))×(List (List Int×Int))):=
 (De a b a ([]:List (List Int)) (0:Int) b.known).bind fun c=>some ((c.1,c.2))
def EE(c:Int→(List (List Int))→(List Int)→Option (Bool×(List Int)))(f:Nat)(e:Int)(g:List (List Int))(x2:List Int):Nat→Int→(List Int)→Option ((Bool×(List Int))⊕((List Int)))
 |0,_,_=>none
 |i+1,b,a=>cond (decide (b<(x2.length:Int))) ((idx x2 b).bind fun h=>(DV f a h).bind fun j=>cond (j) ((i64 (b+1)).bind fun _=>EE c f e g x2 i (b+1) a) ((FJ (((a.length+[h].length:Nat):Int)≤140737488355328/8)).bind fun _=>(i64 (e+1)).bind fun _=>(c (e+1) g (a++[h])).bind fun d=>cond (d.1) (some (.inl (true,d.2))) ((L2 d.2.length (0:Int) e).bind fun _=>(i64 (b+1)).bind fun _=>EE c f e g x2 i (b+1) (Ff d.2 (0:Int) e)))) (some (.inr a))
def FB(b:Nat):Nat→Int→(List (List Int))→(List Int)→Option (Bool×(List Int))
 |0,_,_,_=>none
 |f+1,c,d,e=>cond (c==(d.length:Int)) (some ((true,e))) ((idx d c).bind fun x2=>(EE (FB b f) b c d x2 b (0:Int) e).bind fun z=>Sum.elim (fun a=>some ((a.1,a.2))) (fun a=>some ((false,a))) z)
def HI(b:Nat)(d:AJ):Option ((List Int)×Int):=
 (CS b d true).bind fun a=>Option.elim a.1 (cond (a.2 !=0) (some ((([]:List Int),a.2))) (none)) (fun e=>cond (a.2 !=0) (some ((([]:List Int),a.2))) ((DX b e).bind fun f=>(FB b b 0 f.1 ([]:List Int)).bind fun c=>cond (!c.1) (some ((([]:List Int),10))) (some ((c.2,0)))))
def E1(g:Nat)(h:AJ)(d:List Int)(c:B1):Nat→Int→(List (List Int×Int))→Option ((Bool×(List (List Int×Int)))⊕((List (List Int×Int))))
 |0,_,_=>none
 |l+1,a,b=>cond (decide (a<(d.length:Int))) ((idx d a).bind fun e=>(ET g h e).bind fun i=>cond (!i) (some (.inl (false,b))) ((L2 d.length (0:Int) a).bind fun _=>(DV g (Ff d (0:Int) a) e).bind fun j=>cond (j) (some (.inl (false,b))) ((idx h.AE a).bind fun k=>(EX g (⟨c.Ao,c.Ap,c.Am,c.BK,c.AF,c.AG,c.AU,c.weights,c.BU,b⟩:B1) k e).bind fun f=>cond (!f.1) (some (.inl (false,f.2))) ((i64 (a+1)).bind fun _=>E1 g h d c l (a+1) f.2)))) (some (.inr b))
def FF(b:Nat)(c:AJ)(e:List Int):Option (Bool):=
 (CS b c true).bind fun d=>Option.elim d.1 (cond (d.2 !=0) (some (false)) (none)) (fun f=>cond (d.2 !=0) (some (false)) (cond ((e.length:Int) !=(c.AE.length:Int)) (some (false)) ((E1 b c e f b (0:Int) f.known).bind fun z=>Sum.elim (fun a=>some (a.1)) (fun a=>some (true)) z)))
def DY(c:List Int)(d:(List (List Int))×(List (List Int×Int))):Nat→(List Int)→Int→Option ((List Int))
 |0,_,_=>none
 |f+1,b,a=>cond (decide (a<(c.length:Int))) ((idx c a).bind fun g=>(idx d.1 g).bind fun e=>(FJ (((b.length+e.length:Nat):Int)≤140737488355328/8)).bind fun _=>(i64 (a+1)).bind fun _=>DY c d f (b++e) (a+1)) (some (b))
def EY(a:Nat)(d:B1)(b:List Int):Option (Bool×(List (List Int×Int))):=
 (DX a d).bind fun c=>(DY b c a ([]:List Int) (0:Int)).bind fun z3=>(FJ ((z3.length:Int)≤100000)).bind fun _=>(FJ (((Gg z3).length:Int)≤100000)).bind fun _=>some ((decide (((Lib.compact (Gg z3)).length:Int)<(b.length:Int)),c.2))
def EJ{e:Type}(f:(List Int)→Int→Int→(List Int)→Int→e→Option (Bool×(List Int)×e))(h:List Int)(g:Int)(i:Int):Nat→Int→(List Int)→e→Option ((Bool×(List Int)×e)⊕((List Int)×e))
 |0,_,_,_=>none
 |j+1,a,b,d=>(i64 (i-g)).bind fun _=>cond (decide (a≤(i-g))) ((FJ (((0+h.length:Nat):Int)≤140737488355328/8)).bind fun _=>(FJ (((h.length+[a].length:Nat):Int)≤140737488355328/8)).bind fun _=>(i64 (a+1)).bind fun _=>(i64 (g-1)).bind fun _=>(f (h++[a]) (a+1) (g-1) b i d).bind fun c=>cond (c.1) (some (.inl (true,c.2.1,c.2.2))) ((i64 (a+1)).bind fun _=>EJ f h g i j (a+1) c.2.1 c.2.2)) (some (.inr (b,d)))
def Eg{b:Type}(e:Nat)(c:b→(List Int)→Option (Bool×b)):Nat→(List Int)→Int→Int→(List Int)→Int→b→Option (Bool×(List Int)×b)
 |0,_,_,_,_,_,_=>none
 |i+1,d,j,f,k,l,g=>cond (f==0) ((c g d).bind fun h=>some ((h.1,d,h.2))) ((EJ (Eg e c i) d f l e j k g).bind fun z=>Sum.elim (fun a=>some ((a.1,a.2.1,a.2.2))) (fun a=>some ((false,a.1,a.2))) z)
def Fc{e:Type}(f:e→(List Int)→Option (Bool×e))(g:Nat)(h:Int):Nat→Bool→Int→(List Int)→e→Option (Bool×(List Int)×e)
 |0,_,_,_,_=>none
 |j+1,i,a,b,d=>cond (decide (a<(h+1))) ((Eg g f g ([]:List Int) 0 a b h d).bind fun c=>cond (c.1) (some ((c.1,c.2.1,c.2.2))) ((i64 (a+1)).bind fun _=>Fc f g h j c.1 (a+1) c.2.1 c.2.2)) (some ((i,b,d)))
def Fs{a:Type}(c:Nat)(d:a→(List Int)→Option (Bool×a))(e:Int)(f:a):Option ((List Int)×Bool×a):=
 (i64 (e+1)).bind fun _=>(Fc d c e c false (0:Int) ([]:List Int) f).bind fun b=>some ((b.2.1,b.1,b.2.2))
def EN(b:Nat)(c:List Int)(d:B1):Option (Bool×(List (List Int×Int))):=
 (EY b d c).bind fun a=>some ((a.1,a.2))
def Gy(d:Nat)(e:AJ):Option ((List Int)×Int):=
 (CS d e true).bind fun b=>Option.elim b.1 (cond (b.2 !=0) (some ((([]:List Int),b.2))) (none)) (fun a=>cond (b.2 !=0) (some ((([]:List Int),b.2))) ((Fs d (fun(st:(List (List Int×Int))) (x:(List Int))=>(EN d x (⟨a.Ao,a.Ap,a.Am,a.BK,a.AF,a.AG,a.AU,a.weights,a.BU,st⟩:B1)).bind fun r=>some (r.1,r.2)) (e.AE.length:Int) a.known).bind fun c=>cond (!c.2.1) (some ((([]:List Int),7))) (some ((c.1,0)))))
def Ha(a:Nat)(b:AJ)(c:List Int):Option (Bool):=
 (CS a b true).bind fun d=>Option.elim d.1 (cond (d.2==0) ((Hn a c (b.AE.length:Int)).bind fun g=>cond (g) (none) (some (false))) (some (false))) (fun h=>cond (d.2==0) ((Hn a c (b.AE.length:Int)).bind fun e=>cond (e) ((EY a h c).bind fun f=>some (f.1)) (some (false))) (some (false)))
def Iz(g:Nat)(d:AJ)(c:B1):Nat→Int→(List B2)→(List (List Int×Int))→Option ((Int×Int×(List B2)×(List (List Int×Int)))⊕((List B2)×(List (List Int×Int))))
 |0,_,_,_=>none
 |h+1,a,e,b=>cond (decide (a<(d.AK.length:Int))) ((i64 (a+1)).bind fun _=>(L2 d.AK.length (0:Int) (a+1)).bind fun _=>(Dm g (⟨c.Ao,c.Ap,c.Am,c.BK,c.AF,c.AG,Ff d.AK (0:Int) (a+1),c.weights,c.BU,b⟩:B1) ([]:List Int)).bind fun f=>cond (!f.1) (some (.inl (a,(0:Int),Ff d.AK (0:Int) (a+1),f.2))) ((i64 (a+1)).bind fun _=>Iz g d c h (a+1) (Ff d.AK (0:Int) (a+1)) f.2)) (some (.inr (e,b)))
def Jq(c:Nat)(e:AJ):Option (Int×Int):=
 (DW c e true).bind fun a=>Option.elim a.1 (cond (a.2 !=0) (some ((0,a.2))) (none)) (fun d=>cond (a.2 !=0) (some ((0,a.2))) ((Iz c e d c (0:Int) d.AU d.known).bind fun z=>Sum.elim (fun b=>some ((b.1,b.2.1))) (fun b=>some ((0,7))) z))
def Jr(c:Nat)(d:AJ):Option ((List Int)×Int):=
 (DW c d true).bind fun b=>Option.elim b.1 (cond (b.2 !=0) (some ((([]:List Int),b.2))) (none)) (fun a=>cond (b.2 !=0) (some ((([]:List Int),b.2))) ((Fs c (fun(st:(List (List Int×Int))) (x:(List Int))=>(Dm c (⟨a.Ao,a.Ap,a.Am,a.BK,a.AF,a.AG,a.AU,a.weights,a.BU,st⟩:B1) x).bind fun r=>some (r.1,r.2)) (d.AK.length:Int) a.known).bind fun e=>some ((e.1,0))))
def Cs(d:Nat)(a:Int)(b:Int)(c:Int):Option (Bool):=
 cond (decide (b≤a)) (some (decide (a≤c))) (some (false))
def Eh(d:Nat)(a:AP)(b:Int)(c:Int):Option (Bool):=
 cond (decide (b≤a.Lo)) (cond (decide (a.Lo≤a.Hi)) (some (decide (a.Hi≤c))) (some (false))) (some (false))
def Ft(b:Nat)(a:AP):Option (Int):=
 (i64 (a.Hi-a.Lo)).bind fun _=>(i64 ((a.Hi-a.Lo)+1)).bind fun _=>some ((a.Hi-a.Lo)+1)
def Du(c:List Int):Nat→Int→Int→Option (Int)
 |0,_,_=>none
 |e+1,b,a=>cond (decide (a<(c.length:Int))) ((idx c a).bind fun d=>(i64 (b+d)).bind fun _=>(i64 (a+1)).bind fun _=>Du c e (b+d) (a+1)) (some (b))
def FG(a:Nat)(b:List Int):Option (Int):=
 (Du b a (0:Int) (0:Int)).bind fun c=>some (c)
def C0(c:Nat)(b:List Int):Nat→Int→Option ((Bool)⊕(Unit))
 |0,_=>none
 |d+1,a=>cond (decide (a<(b.length:Int))) ((idx b a).bind fun e=>(Cs c e 0 30).bind fun f=>cond (!f) (some (.inl false)) ((i64 (a+1)).bind fun _=>C0 c b d (a+1))) (some (.inr ()))
def F5(b:Nat)(d:AZ)(c:List Int):Option (Bool):=
 (C0 b c b (0:Int)).bind fun z=>Sum.elim (fun a=>some (a)) (fun a=>some ((c.length:Int)==(d.Av.length:Int))) z
def Dn(d:Nat)(c:AZ):Nat→Int→Int→Option (Int)
 |0,_,_=>none
 |f+1,b,a=>cond (decide (a<(c.Av.length:Int))) ((idx c.Av a).bind fun g=>(Ft d g).bind fun e=>(i64 (b*e)).bind fun _=>(i64 (a+1)).bind fun _=>Dn d c f (min (3000:Int) (b*e)) (a+1)) (some (b))
def Ei(a:Nat)(b:AZ):Option (Int):=
 (Dn a b a (1:Int) (0:Int)).bind fun z2=>some (z2)
def Dc(c:Nat)(b:AZ):Nat→Int→Option ((Int)⊕(Unit))
 |0,_=>none
 |d+1,a=>cond (decide (a<(b.Av.length:Int))) ((idx b.Av a).bind fun e=>(Eh c e 0 100).bind fun f=>cond (!f) (some (.inl (1:Int))) ((i64 (a+1)).bind fun _=>Dc c b d (a+1))) (some (.inr ()))
def CM(c:Nat)(b:AZ):Nat→Int→Option ((Int)⊕(Unit))
 |0,_=>none
 |h+1,a=>cond (decide (a<(b.AW.length:Int))) ((idx b.AW a).bind fun d=>(F5 c b d).bind fun e=>cond (!e) (some (.inl (1:Int))) ((idx b.AW a).bind fun f=>(FG c f).bind fun g=>cond (g==0) (some (.inl (1:Int))) ((i64 (a+1)).bind fun _=>CM c b h (a+1)))) (some (.inr ()))
def CE(d:Nat)(c:AZ):Nat→Int→Option ((Int)⊕(Unit))
 |0,_=>none
 |e+1,a=>cond (decide (a<(c.AO.length:Int))) ((idx c.AO a).bind fun b=>cond (b.BP) ((i64 ((c.AW.length:Int)-1)).bind fun _=>(Cs d b.Number 0 ((c.AW.length:Int)-1)).bind fun f=>cond (!f) (some (.inl (1:Int))) ((Eh d (⟨b.Bg,b.Bh⟩:AP) 0 100).bind fun g=>cond (!g) (some (.inl (1:Int))) ((i64 (a+1)).bind fun _=>CE d c e (a+1)))) ((i64 ((c.Av.length:Int)-1)).bind fun _=>(Cs d b.Number 0 ((c.Av.length:Int)-1)).bind fun h=>cond (!h) (some (.inl (1:Int))) ((Eh d (⟨b.Bg,b.Bh⟩:AP) 0 100).bind fun i=>cond (!i) (some (.inl (1:Int))) ((i64 (a+1)).bind fun _=>CE d c e (a+1))))) (some (.inr ()))
def EB(b:Nat)(a:AZ):Option (Int):=
 cond (decide ((3:Int)<(a.Av.length:Int))) (some (3)) (cond (decide ((3:Int)<(a.AW.length:Int))) (some (3)) (cond (decide ((5:Int)<(a.AO.length:Int))) (some (3)) (cond ((a.Av.length:Int)==0) (some (1)) ((Dc b a b (0:Int)).bind fun z=>Sum.elim (fun e=>some (e)) (fun e=>(CM b a b (0:Int)).bind fun z=>Sum.elim (fun c=>some (c)) (fun c=>(CE b a b (0:Int)).bind fun z=>Sum.elim (fun d=>some (d)) (fun d=>(Ei b a).bind fun f=>cond (decide ((2000:Int)<f)) (some (3)) (some (0))) z) z) z))))
def E2(g:Nat)(h:AZ):Nat→Int→(List Int)→Int→Option ((List Int))
 |0,_,_,_=>none
 |i+1,a,c,b=>cond (decide (b<(h.Av.length:Int))) ((idx h.Av b).bind fun e=>(Ft g e).bind fun d=>(rem a d).bind fun _=>(i64 (e.Lo+(a%d))).bind fun _=>(FJ (((c.length+[e.Lo+(a%d)].length:Nat):Int)≤140737488355328/8)).bind fun _=>(Ft g e).bind fun f=>(quo a f).bind fun _=>(i64 (a/f)).bind fun _=>(i64 (b+1)).bind fun _=>E2 g h i (a/f) (c++[e.Lo+(a%d)]) (b+1)) (some (c))
def Hr(a:Nat)(b:AZ)(c:Int):Option ((List Int)):=
 (E2 a b a c ([]:List Int) (0:Int)).bind fun z2=>some (z2)
def DL(d:Nat)(b:AZ)(c:List Int):Nat→Int→Option ((Bool)⊕(Unit))
 |0,_=>none
 |e+1,a=>cond (decide (a<(c.length:Int))) (cond (decide (a<(b.Av.length:Int))) ((idx c a).bind fun f=>(idx b.Av a).bind fun g=>(idx b.Av a).bind fun h=>(Cs d f g.Lo h.Hi).bind fun i=>cond (!i) (some (.inl false)) ((i64 (a+1)).bind fun _=>DL d b c e (a+1))) (some (.inr ()))) (some (.inr ()))
def GY(b:Nat)(c:AZ)(d:List Int):Option (Bool):=
 (DL b c d b (0:Int)).bind fun z=>Sum.elim (fun a=>some (a)) (fun a=>some ((d.length:Int)==(c.Av.length:Int))) z
def EK(c:List Int)(f:List Int):Nat→Int→Int→Option (Int)
 |0,_,_=>none
 |g+1,b,a=>cond (decide (a<(c.length:Int))) ((idx f a).bind fun d=>(idx c a).bind fun e=>(i64 (d*e)).bind fun _=>(i64 (b+(d*e))).bind fun _=>(i64 (a+1)).bind fun _=>EK c f g (b+(d*e)) (a+1)) (some (b))
def Di(c:Nat)(e:List Int)(d:List Int):Option (Int):=
 (EK e d c (0:Int) (0:Int)).bind fun a=>(FG c d).bind fun b=>(quo a b).bind fun _=>(i64 (a/b)).bind fun _=>some (a/b)
def GV(c:Nat)(d:AZ)(a:List Int)(b:Int):Option (Int):=
 cond (decide (b<(a.length:Int))) ((idx a b).bind fun e=>some (e)) ((i64 (b-(a.length:Int))).bind fun _=>(idx d.AW (b-(a.length:Int))).bind fun f=>(Di c a f).bind fun g=>some (g))
def GJ(b:Nat)(c:AZ)(d:List Int)(a:Cp):Option (Bool):=
 cond (a.BP) ((i64 (a.Number+(c.Av.length:Int))).bind fun _=>(GV b c d (a.Number+(c.Av.length:Int))).bind fun g=>(Cs b g a.Bg a.Bh).bind fun h=>some (h)) ((GV b c d a.Number).bind fun e=>(Cs b e a.Bg a.Bh).bind fun f=>some (f))
def C1(c:Nat)(b:AZ)(d:List Int):Nat→Int→Option ((Bool)⊕(Unit))
 |0,_=>none
 |g+1,a=>cond (decide (a<(b.AO.length:Int))) ((idx b.AO a).bind fun e=>(GJ c b d e).bind fun f=>cond (!f) (some (.inl false)) ((i64 (a+1)).bind fun _=>C1 c b d g (a+1))) (some (.inr ()))
def F6(b:Nat)(c:AZ)(d:List Int):Option (Bool):=
 (GY b c d).bind fun e=>cond (!e) (some (false)) ((C1 b c d b (0:Int)).bind fun z=>Sum.elim (fun a=>some (a)) (fun a=>some (true)) z)
def DE(c:Nat)(d:AZ):Nat→(List (List Int))→Int→Option ((List (List Int)))
 |0,_,_=>none
 |f+1,b,a=>(Ei c d).bind fun g=>cond (decide (a<g)) ((Hr c d a).bind fun e=>(F6 c d e).bind fun h=>cond (h) ((FJ (((b.length+[e].length:Nat):Int)≤140737488355328/24)).bind fun _=>(i64 (a+1)).bind fun _=>DE c d f (b++[e]) (a+1)) ((i64 (a+1)).bind fun _=>DE c d f b (a+1))) (some (b))
def FC(a:Nat)(b:AZ):Option ((List (List Int))):=
 (DE a b a ([]:List (List Int)) (0:Int)).bind fun z2=>some (z2)
def D5(b:List Int)(c:List Int):Nat→Int→Option ((Bool)⊕(Unit))
 |0,_=>none
 |e+1,a=>cond (decide (a<(b.length:Int))) (cond (decide (a<(c.length:Int))) ((idx b a).bind fun f=>(idx c a).bind fun g=>cond (f !=g) ((idx b a).bind fun h=>(idx c a).bind fun d=>some (.inl (decide (h<d)))) ((i64 (a+1)).bind fun _=>D5 b c e (a+1))) (some (.inr ()))) (some (.inr ()))
def Gk(d:Nat)(b:List Int)(c:List Int):Option (Bool):=
 (D5 b c d (0:Int)).bind fun z=>Sum.elim (fun a=>some (a)) (fun a=>some (decide ((b.length:Int)<(c.length:Int)))) z
def Ej(a:Nat)(b:AJ)(c:Int):Option (Int):=
 (idx b.Ab c).bind fun x2=>(FG a x2).bind fun d=>some (d)
def DO(d:Nat)(b:AJ)(e:List Int)(f:Int):Nat→Int→Int→Option (Int)
 |0,_,_=>none
 |g+1,c,a=>cond (decide ((0:Int)≤a)) ((idx b.Ab f).bind fun i=>(Di d e i).bind fun j=>(idx b.Az a).bind fun k=>cond (decide (k.AT≤j)) ((idx b.Az a).bind fun h=>(i64 (a-1)).bind fun _=>DO d b e f g h.BT (a-1)) ((i64 (a-1)).bind fun _=>DO d b e f g c (a-1))) (some (c))
def GK(c:Nat)(a:AJ)(e:List Int)(d:Int):Option (Int):=
 (i64 ((a.Az.length:Int)-1)).bind fun _=>(DO c a e d c (0:Int) ((a.Az.length:Int)-1)).bind fun z3=>(Ej c a d).bind fun b=>(i64 (z3*b)).bind fun _=>some (z3*b)
def DP(d:Nat)(c:AJ)(e:List Int):Nat→Int→Int→Option (Int)
 |0,_,_=>none
 |f+1,b,a=>cond (decide (a<(c.AK.length:Int))) ((idx c.AK a).bind fun g=>(idx c.AK a).bind fun i=>(GK d c e i.BP).bind fun j=>(Cs d j g.Cg g.Ch).bind fun h=>cond (h) ((MB .u64 a).bind fun _=>(OF (1:Int) a).bind fun _=>(SC b (J6 (1:Int) a)).bind fun _=>(i64 (a+1)).bind fun _=>DP d c e f (P0 b (J6 (1:Int) a)) (a+1)) ((i64 (a+1)).bind fun _=>DP d c e f b (a+1))) (some (b))
def GL(a:Nat)(b:AJ)(c:List Int):Option (Int):=
 (DP a b c a (0:Int) (0:Int)).bind fun z2=>some (z2)
def Hb(b:Nat)(a:AJ):Option (Int):=
 (MB .u64 (a.AK.length:Int)).bind fun _=>(OF (1:Int) (a.AK.length:Int)).bind fun _=>(i64 ((J6 (1:Int) (a.AK.length:Int))-1)).bind fun _=>some ((J6 (1:Int) (a.AK.length:Int))-1)
def DF(d:Nat)(e:AJ)(c:(List (List Int))):Nat→(List (List Int))→Int→Option ((List (List Int)))
 |0,_,_=>none
 |g+1,b,a=>cond (decide (a<(c.length:Int))) ((idx c a).bind fun i=>(GL d e i).bind fun j=>(Hb d e).bind fun h=>cond (j==h) ((idx c a).bind fun f=>(FJ (((b.length+[f].length:Nat):Int)≤140737488355328/24)).bind fun _=>(i64 (a+1)).bind fun _=>DF d e c g (b++[f]) (a+1)) ((i64 (a+1)).bind fun _=>DF d e c g b (a+1))) (some (b))
def Gl(b:Nat)(a:AJ):Option ((List (List Int))):=
 (FC b (⟨a.Aj,a.Ab,a.As⟩:AZ)).bind fun c=>(DF b a c b ([]:List (List Int)) (0:Int)).bind fun z4=>some (z4)
def DG(d:Nat)(c:AJ):Nat→Int→Option ((Int)⊕(Unit))
 |0,_=>none
 |e+1,a=>cond (decide (a<(c.Az.length:Int))) ((idx c.Az a).bind fun b=>(Cs d b.AT 0 100).bind fun f=>cond (!f) (some (.inl (1:Int))) ((Cs d b.BT 0 100).bind fun g=>cond (!g) (some (.inl (1:Int))) (cond (decide ((0:Int)<a)) ((i64 (a-1)).bind fun _=>(idx c.Az (a-1)).bind fun h=>cond (decide (h.AT≤b.AT)) (some (.inl (1:Int))) ((i64 (a-1)).bind fun _=>(idx c.Az (a-1)).bind fun i=>cond (decide (i.BT<b.BT)) (some (.inl (1:Int))) ((i64 (a+1)).bind fun _=>DG d c e (a+1)))) ((i64 (a+1)).bind fun _=>DG d c e (a+1))))) (some (.inr ()))
def CN(c:Nat)(b:AJ):Nat→Int→Option ((Int)⊕(Unit))
 |0,_=>none
 |h+1,a=>cond (decide (a<(b.AE.length:Int))) ((idx b.AE a).bind fun d=>(i64 ((b.Az.length:Int)-1)).bind fun _=>(Cs c d.Cr 0 ((b.Az.length:Int)-1)).bind fun e=>cond (!e) (some (.inl (1:Int))) ((idx b.AE a).bind fun f=>(Cs c f.Cc 1 90).bind fun g=>cond (!g) (some (.inl (1:Int))) ((i64 (a+1)).bind fun _=>CN c b h (a+1)))) (some (.inr ()))
def CO(d:Nat)(b:AJ):Nat→Int→Option ((Int)⊕(Unit))
 |0,_=>none
 |h+1,a=>cond (decide (a<(b.AK.length:Int))) ((idx b.AK a).bind fun e=>(i64 ((b.Ab.length:Int)-1)).bind fun _=>(Cs d e.BP 0 ((b.Ab.length:Int)-1)).bind fun f=>cond (!f) (some (.inl (1:Int))) ((idx b.AK a).bind fun c=>(Eh d (⟨c.Cg,c.Ch⟩:AP) 0 9000).bind fun g=>cond (!g) (some (.inl (1:Int))) ((i64 (a+1)).bind fun _=>CO d b h (a+1)))) (some (.inr ()))
def GM(b:Nat)(a:AJ):Option (Int):=
 (EB b (⟨a.Aj,a.Ab,a.As⟩:AZ)).bind fun f=>cond (f !=0) (some (f)) (cond (decide ((3:Int)<(a.Az.length:Int))) (some (3)) (cond (decide ((3:Int)<(a.AE.length:Int))) (some (3)) (cond (decide ((5:Int)<(a.AK.length:Int))) (some (3)) ((Cs b a.Flat 0 100).bind fun g=>cond (!g) (some (1)) (cond ((a.Az.length:Int)==0) (some (1)) ((DG b a b (0:Int)).bind fun z=>Sum.elim (fun c=>some (c)) (fun c=>(CN b a b (0:Int)).bind fun z=>Sum.elim (fun d=>some (d)) (fun d=>(CO b a b (0:Int)).bind fun z=>Sum.elim (fun e=>some (e)) (fun e=>some (0)) z) z) z))))))
def GW(b:Nat)(a:AP):Option (AP):=
 some (a)
def Hc(b:Nat)(a:List Int):Option ((List Int)):=
 (FJ (((([]:List Int).length+a.length:Nat):Int)≤140737488355328/8)).bind fun _=>some (([]:List Int)++a)
def C6(d:Nat)(c:AZ):Nat→Int→(List AP)→Option ((List AP))
 |0,_,_=>none
 |f+1,b,a=>cond (decide (b<(c.Av.length:Int))) ((idx c.Av b).bind fun g=>(GW d g).bind fun e=>(FJ (((a.length+[e].length:Nat):Int)≤140737488355328/16)).bind fun _=>(i64 (b+1)).bind fun _=>C6 d c f (b+1) (a++[e])) (some (a))
def C2(e:Nat)(d:AZ):Nat→Int→(List (List Int))→Option ((List (List Int)))
 |0,_,_=>none
 |g+1,b,a=>cond (decide (b<(d.AW.length:Int))) ((idx d.AW b).bind fun f=>(Hc e f).bind fun c=>(FJ (((a.length+[c].length:Nat):Int)≤140737488355328/24)).bind fun _=>(i64 (b+1)).bind fun _=>C2 e d g (b+1) (a++[c])) (some (a))
def C3(f:Nat)(e:AZ):Nat→Int→(List Cp)→Option ((List Cp))
 |0,_,_=>none
 |g+1,b,a=>cond (decide (b<(e.AO.length:Int))) ((idx e.AO b).bind fun c=>(GW f (⟨c.Bg,c.Bh⟩:AP)).bind fun d=>(FJ (((a.length+[(⟨c.BP,c.Number,d.Lo,d.Hi⟩:Cp)].length:Nat):Int)≤140737488355328/32)).bind fun _=>(i64 (b+1)).bind fun _=>C3 f e g (b+1) (a++[(⟨c.BP,c.Number,d.Lo,d.Hi⟩:Cp)])) (some (a))
def FD(a:Nat)(b:AZ):Option (AZ):=
 (C6 a b a (0:Int) ([]:List AP)).bind fun z4=>(C2 a b a (0:Int) ([]:List (List Int))).bind fun c=>(C3 a b a (0:Int) ([]:List Cp)).bind fun z24=>some ((⟨z4,c,z24⟩:AZ))
def Dp(b:AZ):Nat→Int→Option ((Bool)⊕(Unit))
 |0,_=>none
 |c+1,a=>cond (decide (a<(b.AW.length:Int))) ((idx b.AW a).bind fun d=>cond (decide ((6:Int)<(d.length:Int))) (some (.inl false)) ((i64 (a+1)).bind fun _=>Dp b c (a+1))) (some (.inr ()))
def F7(c:Nat)(a:AZ):Option (Bool):=
 cond (decide ((5:Int)<(a.Av.length:Int))) (some (false)) (cond (decide ((5:Int)<(a.AW.length:Int))) (some (false)) (cond (decide ((7:Int)<(a.AO.length:Int))) (some (false)) ((Dp a c (0:Int)).bind fun z=>Sum.elim (fun b=>some (b)) (fun b=>(EB c a).bind fun d=>cond (d !=0) (some (true)) ((Ei c a).bind fun e=>some (decide (e≤150)))) z)))
def F8(b:Nat)(a:List Int):Option ((List Int)):=
 (FJ (((([]:List Int).length+a.length:Nat):Int)≤140737488355328/8)).bind fun _=>some (([]:List Int)++a)
def IA(b:Nat)(a:AP):Option (AP):=
 some (a)
def Dd(c:AJ):Nat→Int→(List BI)→Option ((List BI))
 |0,_,_=>none
 |f+1,b,a=>cond (decide (b<(c.Az.length:Int))) ((idx c.Az b).bind fun d=>(idx c.Az b).bind fun e=>(FJ (((a.length+[(⟨d.AT,e.BT⟩:BI)].length:Nat):Int)≤140737488355328/16)).bind fun _=>(i64 (b+1)).bind fun _=>Dd c f (b+1) (a++[(⟨d.AT,e.BT⟩:BI)])) (some (a))
def C7(c:AJ):Nat→Int→(List BS)→Option ((List BS))
 |0,_,_=>none
 |f+1,b,a=>cond (decide (b<(c.AE.length:Int))) ((idx c.AE b).bind fun d=>(idx c.AE b).bind fun e=>(FJ (((a.length+[(⟨d.Cr,e.Cc⟩:BS)].length:Nat):Int)≤140737488355328/16)).bind fun _=>(i64 (b+1)).bind fun _=>C7 c f (b+1) (a++[(⟨d.Cr,e.Cc⟩:BS)])) (some (a))
def C8(g:Nat)(d:AJ):Nat→Int→(List B2)→Option ((List B2))
 |0,_,_=>none
 |h+1,b,a=>cond (decide (b<(d.AK.length:Int))) ((idx d.AK b).bind fun e=>(idx d.AK b).bind fun f=>(IA g (⟨f.Cg,f.Ch⟩:AP)).bind fun c=>(FJ (((a.length+[(⟨e.BP,c.Lo,c.Hi⟩:B2)].length:Nat):Int)≤140737488355328/24)).bind fun _=>(i64 (b+1)).bind fun _=>C8 g d h (b+1) (a++[(⟨e.BP,c.Lo,c.Hi⟩:B2)])) (some (a))
def DC(b:Nat)(a:AJ):Option (AJ):=
 (FD b (⟨a.Aj,a.Ab,a.As⟩:AZ)).bind fun c=>(Dd a b (0:Int) ([]:List BI)).bind fun e=>(C7 a b (0:Int) ([]:List BS)).bind fun d=>(C8 b a b (0:Int) ([]:List B2)).bind fun z26=>some ((⟨c.Av,c.AW,c.AO,a.Flat,e,d,z26⟩:AJ))
def Hf(b:List Int)(c:List Int):Nat→Int→Option ((Bool)⊕(Unit))
 |0,_=>none
 |d+1,a=>cond (decide (a<(b.length:Int))) ((idx b a).bind fun e=>(idx c a).bind fun f=>cond (e !=f) (some (.inl false)) ((i64 (a+1)).bind fun _=>Hf b c d (a+1))) (some (.inr ()))
def Dj(d:Nat)(b:List Int)(c:List Int):Option (Bool):=
 cond ((b.length:Int) !=(c.length:Int)) (some (false)) ((Hf b c d (0:Int)).bind fun z=>Sum.elim (fun a=>some (a)) (fun a=>some (true)) z)
def Hd(b:Nat)(a:AJ):Option (Bool):=
 (F7 b (⟨a.Aj,a.Ab,a.As⟩:AZ)).bind fun c=>cond (c) (cond (decide ((a.Az.length:Int)≤5)) (cond (decide ((a.AE.length:Int)≤5)) (some (decide ((a.AK.length:Int)≤7))) (some (false))) (some (false))) (some (false))
def Dq(c:Nat)(a:Int)(b:Int):Option (AP):=
 some ((⟨a,b⟩:AP))
def Cq(c:Nat)(d:Int):Option (AJ):=
 (Dq c 80 80).bind fun b=>(Dq c 40 40).bind fun a=>(L2 [(⟨0,b.Lo,b.Hi⟩:B2),(⟨0,a.Lo,a.Hi⟩:B2)].length (0:Int) d).bind fun _=>some ((⟨[(⟨40,42⟩:AP),(⟨60,63⟩:AP)],[[10,10],[5,15]],([]:List Cp),3,[(⟨55,6⟩:BI),(⟨51,4⟩:BI),(⟨40,2⟩:BI)],[(⟨0,20⟩:BS),(⟨1,10⟩:BS)],Ff [(⟨0,b.Lo,b.Hi⟩:B2),(⟨0,a.Lo,a.Hi⟩:B2)] (0:Int) d⟩:AJ))
def Fe(a:Nat)(b:AJ):Option (Bool):=
 (Hd a b).bind fun c=>cond (c) ((GM a b).bind fun d=>some (d==0)) (some (false))
def F9(d:Nat)(a:List Int)(b:Int):Option (Int):=
 cond ((a.length:Int)==0) (some (0)) ((rem b (a.length:Int)).bind fun _=>(idx a (b%(a.length:Int))).bind fun c=>(MB .i64 c).bind fun _=>some (c))
def Db(a:Nat):Option (Bool):=
 (Cq a 0).bind fun z=>(JM a z [41,62]).bind fun n=>(Cq a 0).bind fun aA=>(Jg a aA).bind fun d=>(Cq a 0).bind fun o=>(Jp a o [0,1]).bind fun b=>(Cq a 0).bind fun p=>(JN a p).bind fun c=>(Cq a 1).bind fun q=>(HI a q).bind fun e=>(Cq a 0).bind fun r=>(Gy a r).bind fun f=>(Cq a 2).bind fun s=>(Jq a s).bind fun g=>(Cq a 2).bind fun t=>(Jr a t).bind fun h=>cond (n.2==0) ((Dj a n.1 [80,120]).bind fun u=>cond (u) (cond (d.2==0) (cond ((d.1.length:Int)==2) ((idx d.1 (0:Int)).bind fun i=>(Dq a 40 80).bind fun j=>cond ([i.Lo,i.Hi]==[j.Lo,j.Hi]) ((idx d.1 (1:Int)).bind fun k=>(Dq a 120 120).bind fun l=>cond ([k.Lo,k.Hi]==[l.Lo,l.Hi]) (cond (b.2==0) ((Dq a 160 200).bind fun m=>cond ([b.1.Lo,b.1.Hi]==[m.Lo,m.Hi]) (cond (c.2.2==0) ((Dj a c.1 [1]).bind fun v=>cond (v) (cond (c.2.1==180) (cond (e.2==0) ((Dj a e.1 [1,0]).bind fun w=>cond (w) (cond (f.2==0) ((Dj a f.1 [0,1]).bind fun x=>cond (x) (cond (g.2==0) (cond (g.1==1) (cond (h.2==0) ((Dj a h.1 [0]).bind fun y=>some (y)) (some (false))) (some (false))) (some (false))) (some (false))) (some (false))) (some (false))) (some (false))) (some (false))) (some (false))) (some (false))) (some (false))) (some (false))) (some (false))) (some (false))) (some (false))) (some (false))) (some (false))) (some (false))
end Go.Proofs.YtbhofkcbfblijaaGreat
end
section
namespace Go.Proofs.YtbhofkcbfblijaaGreat
theorem bd{α β:Type}{x:Option α}{a:α}{f:α→Option β}(h:x=some a):x.bind f=f a:=by rw[h];rfl
theorem B4{β:Type}{x:Int}{f:Int→Option β}(h0:-9223372036854775808≤x)(h1:x≤9223372036854775807):(i64 x).bind f=f x:=bd (X5 h0 h1)
theorem Co{α β:Type}{xs:List α}{k:Nat}{f:α→Option β}(h:k<xs.length):(idx xs (k:Int)).bind f=f xs[k]:=bd (idx_eq h)
theorem Gc{β:Type}{p:Prop}[Decidable p]{f:Unit→Option β}(h:p):(FJ p).bind f=f ():=bd (if_pos h)
theorem Qc{β:Type}{a b:Int}{f:Int→Option β}(h0:0≤a)(h1:1≤b):(rem a b).bind f=f (a%b):=bd (if_pos ⟨h0,h1⟩)
theorem Uq{β:Type}{a b:Int}{f:Int→Option β}(h0:0≤a)(h1:1≤b):(quo a b).bind f=f (a/b):=bd (if_pos ⟨h0,h1⟩)
theorem mkb{β:Type}{n:Int}{b:Nat}{f:Unit→Option β}(h0:0≤n)(h1:n*b≤140737488355328)(h2:n≤140737488355328):(Vn n b).bind f=f ():=bd (if_pos ⟨h0,h1,h2⟩)
theorem Yf{β:Type}{n:Nat}{a b:Int}{f:Unit→Option β}(h:0≤a∧a≤b∧b≤(n:Int)):(L2 n a b).bind f=f ():=bd (if_pos h)
theorem ct{α:Type}{b:Bool}{x y:α}(h:b=true):cond b x y=x:=by rw[h];rfl
theorem cf{α:Type}{b:Bool}{x y:α}(h:b=false):cond b x y=y:=by rw[h];rfl
theorem nt{α:Type}{x y:α}:cond (!true) x y=y:=rfl
theorem nf{α:Type}{x y:α}:cond (!false) x y=x:=rfl
theorem dt{p:Prop}[Decidable p](h:p):decide p=true:=decide_eq_true h
theorem df{p:Prop}[Decidable p](h:¬p):decide p=false:=decide_eq_false h
theorem D6(i:Nat):(i:Int)+1=((i+1:Nat):Int):=by omega
def Ea(n a b:Int):Bool:=decide (a≤n)&&decide (n≤b)
theorem DS{n a b:Int}:Ea n a b=true↔a≤n∧n≤b:=by simp[Ea]
theorem Jz{n a b:Int}:Ea n a b=false↔¬(a≤n∧n≤b):=by rw[←DS];simp
theorem Vo{σ β:Type}(F:Nat→σ→Nat→Option β)(n:Nat)(g:σ→Nat→σ)(I:Nat→σ→Prop)(a:∀i s,i<n→I i s→I (i+1) (g s i))(h:∀m i s,i<n→I i s→F (m+1) s i=F m (g s i) (i+1)):
  ∀(d i k:Nat) (s:σ),n=i+d→d≤k→I i s→F k s i=F (k-d) ((List.range' i d).foldl g s) n∧I n ((List.range' i d).foldl g s)
 |0,i,k,s,b,_,hs=>by
  obtain rfl:n=i:=by omega
  exact⟨rfl,hs⟩
 |d+1,i,0,s,_,c,_=>by omega
 |d+1,i,k+1,s,b,c,hs=>by
  have:=Vo F n g I a h d (i+1) k (g s i) (by omega) (by omega) (a i s (by omega) hs);rw[h k i s (by omega) hs,List.range'_succ,List.foldl_cons,show k+1-(d+1)=k-d by omega];exact this
theorem MJ{α σ:Type}(g:σ→α→σ)(xs:List α)(f:σ→Nat→σ)(a:∀s i (hi:i<xs.length),f s i=g s xs[i]):∀(d i:Nat) (s:σ),xs.length=i+d→(List.range' i d).foldl f s=(xs.drop i).foldl g s
 |0,i,s,h=>by rw[List.drop_eq_nil_of_le (by omega)];rfl
 |d+1,i,s,h=>by
  have hi:i<xs.length:=by omega
  rw[List.range'_succ,List.foldl_cons,List.drop_eq_getElem_cons hi,List.foldl_cons,a s i hi];exact MJ g xs f a d (i+1) _ (by omega)
theorem ZD {α σ β:Type} (xs:List α) (F:Nat→σ→Nat→Option β) (g:σ→α→σ) (I:Nat→σ→Prop) (b:∀i s (hi:i<xs.length),I i s→I (i+1) (g s xs[i])) (h:∀m i s (hi:i<xs.length),I i s→F (m+1) s i=F m (g s xs[i]) (i+1))
  {k:Nat} {s0:σ} (c:xs.length≤k) (h0:I 0 s0):F k s0 0=F (k-xs.length) (xs.foldl g s0) xs.length∧I xs.length (xs.foldl g s0):=by
 by_cases a:xs.length=0
 ·obtain rfl:=List.eq_nil_of_length_eq_zero a;exact⟨rfl,h0⟩
 ·have a0:α:=xs[0]'(by omega);have e:=MJ g xs (fun s i=>g s (xs.getD i a0)) (fun s i hi=>by simp[List.getElem?_eq_getElem hi]) xs.length 0 s0 (by omega);rw[List.drop_zero] at e;rw[←e];refine Vo F xs.length (fun s i=>g s (xs.getD i a0)) I (fun i s hi hs=>?_) (fun m i s hi hs=>?_) xs.length 0 k s0 (by omega) c h0
  ·have:=b i s hi hs;simpa[List.getElem?_eq_getElem hi] using this
  ·have:=h m i s hi hs;simpa[List.getElem?_eq_getElem hi] using this
theorem Od{α σ β:Type}(xs:List α)(F:Nat→σ→Nat→Option β)(g:σ→α→σ)(I:Nat→σ→Prop)(fin:σ→β)(a:∀i s (hi:i<xs.length),I i s→I (i+1) (g s xs[i]))(h:∀m i s (hi:i<xs.length),I i s→F (m+1) s i=F m (g s xs[i]) (i+1))
  (b:∀m s,I xs.length s→F (m+1) s xs.length=some (fin s)){k:Nat}{s0:σ}(c:xs.length<k)(h0:I 0 s0):F k s0 0=some (fin (xs.foldl g s0)):=by
 obtain⟨h1,h2⟩:=ZD xs F g I a h (k:=k) (s0:=s0) (by omega) h0;obtain⟨j,hj⟩:∃j,k-xs.length=j+1:=⟨k-xs.length-1,by omega⟩;rw[h1,hj,b _ _ h2]
theorem Vp {β:Type} (F:Nat→Nat→Option (β⊕Unit)) (n:Nat) (ok:Nat→Bool) (b:β) (h:∀m i,i<n→F (m+1) i=cond (ok i) (F m (i+1)) (some (.inl b))) (a:∀m,F (m+1) n=some (.inr ())):
  ∀(d i k:Nat),n=i+d→d<k→F k i=some (cond ((List.range' i d).all ok) (.inr ()) (.inl b))
 |0,i,0,_,c=>by omega
 |0,i,k+1,hi,_=>by
  obtain rfl:n=i:=by omega
  exact a k
 |d+1,i,0,_,c=>by omega
 |d+1,i,k+1,hi,c=>by
  rw[h k i (by omega),List.range'_succ,List.all_cons];cases ok i with
  |false=>rfl
  |true=>rw[Bool.true_and];exact Vp F n ok b h a d (i+1) k (by omega) (by omega)
theorem Oe{α:Type}(p:α→Bool)(xs:List α)(ok:Nat→Bool)(a:∀i (hi:i<xs.length),ok i=p xs[i]):∀(d i:Nat),xs.length=i+d→(List.range' i d).all ok=(xs.drop i).all p
 |0,i,h=>by rw[List.drop_eq_nil_of_le (by omega)];rfl
 |d+1,i,h=>by
  have hi:i<xs.length:=by omega
  rw[List.range'_succ,List.all_cons,List.drop_eq_getElem_cons hi,List.all_cons,a i hi];rw[Oe p xs ok a d (i+1) (by omega)]
theorem Kn{α β:Type}(xs:List α)(F:Nat→Nat→Option (β⊕Unit))(ok:α→Bool)(b:β)(h:∀m i (hi:i<xs.length),F (m+1) i=cond (ok xs[i]) (F m (i+1)) (some (.inl b)))(a:∀m,F (m+1) xs.length=some (.inr ()))
  {k:Nat}(d:xs.length<k):F k 0=some (cond (xs.all ok) (.inr ()) (.inl b)):=by
 by_cases c:xs.length=0
 ·obtain rfl:=List.eq_nil_of_length_eq_zero c;obtain⟨k,rfl⟩:∃k',k=k'+1:=⟨k-1,by omega⟩;exact a k
 ·have a0:α:=xs[0]'(by omega);have e:=Oe ok xs (fun i=>ok (xs.getD i a0)) (fun i hi=>by simp[List.getElem?_eq_getElem hi]) xs.length 0 (by omega);rw[List.drop_zero] at e;rw[←e];refine Vp F xs.length (fun i=>ok (xs.getD i a0)) b (fun m i hi=>?_) a xs.length 0 k (by omega) d;have:=h m i hi;simpa[List.getElem?_eq_getElem hi] using this
theorem Lg:∀(l:List Int) (s:Int),l.foldl (· +·) s=s+l.sum
 |[],s=>by simp
 |x::l,s=>by rw[List.foldl_cons,Lg l,List.sum_cons];omega
theorem Lz{a b:Int}(ha:a≤0)(hb:0≤b):∀l:List Int,(∀x∈l,a≤x∧x≤b)→a*l.length≤l.sum∧l.sum≤b*l.length
 |[],_=>by simp
 |x::l,h=>by
  have h1:=h x (List.mem_cons_self ..);have h2:=Lz ha hb l fun y c=>h y (List.mem_cons_of_mem _ c);rw[List.sum_cons,List.length_cons];have d:a*((l.length+1:Nat):Int)=a*l.length+a:=by rw[Int.natCast_add,Int.mul_add];simp
  have e:b*((l.length+1:Nat):Int)=b*l.length+b:=by rw[Int.natCast_add,Int.mul_add];simp
  omega
def run {σ α:Type} (cb:σ→α→Option (Bool×σ)):List α→σ→Option (Bool×σ)
 |[],s=>some (true,s)
 |x::l,s=>(cb s x).bind fun r=>cond r.1 (run cb l r.2) (some (false,r.2))
theorem run_pure{σ α:Type}{cb:σ→α→Option (Bool×σ)}{ok:α→Bool}:∀(l:List α) (s:σ),(∀x∈l,∀s,cb s x=some (ok x,s))→run cb l s=some (l.all ok,s)
 |[],s,_=>rfl
 |x::l,s,h=>by
  rw[run,bd (h x (List.mem_cons_self ..) s),List.all_cons];cases ok x with
  |false=>rfl
  |true=>exact run_pure l s fun y a=>h y (List.mem_cons_of_mem _ a)
theorem Rw{σ α:Type}(F:Nat→Int→σ→Option ((Int×σ)⊕σ))(cb:σ→α→Option (Bool×σ))(p:List α)
  (a:∀m i s,F (m+1) i s=cond (decide (i<(p.length:Int))) ((idx p i).bind fun x=>(((cb s x).bind fun r=>some (!r.1,r.2)).bind fun r=>some (r.1,r.2)).bind fun r=>cond r.1 (some (.inl (i,r.2))) ((i64 (i+1)).bind fun _=>F m (i+1) r.2)) (some (.inr s)))
  (c:p.length≤5000):∀(n m i:Nat) (s:σ),p.length=i+n→n<m→
  (((F m (i:Int) s).bind fun z=>Sum.elim (fun q=>some (q.1,q.2)) (fun q=>some (((-1:Int)),q)) z).bind fun r=>some (decide ((0:Int)≤r.1),r.2)).bind (fun r=>some (!r.1,r.2))=run cb (p.drop i) s
 |n,0,i,s,h,hm=>by omega
 |0,m+1,i,s,h,hm=>by
  rw[a,cf (df (by omega)),List.drop_eq_nil_of_le (by omega)];rfl
 |n+1,m+1,i,s,h,hm=>by
  have hi:i<p.length:=by omega
  rw[a,ct (dt (by omega)),Co hi,List.drop_eq_getElem_cons hi,run];cases cb s p[i] with
  |none=>rfl
  |some r=>
   obtain⟨b,s2⟩:=r;simp only[Option.bind_some];cases b with
   |false=>
    rw[nf];show some (!decide ((0:Int)≤(i:Int)),s2)=some (false,s2);rw[dt (by omega)];rfl
   |true=>
    rw[nt,B4 (by omega) (by omega),D6 i,ct rfl];exact Rw F cb p a c n m (i+1) s2 (by omega) (by omega)
theorem I4{σ α:Type}{F:Nat→Int→σ→Option ((Int×σ)⊕σ)}{cb:σ→α→Option (Bool×σ)}{p:List α}
  (a:∀m i s,F (m+1) i s=cond (decide (i<(p.length:Int))) ((idx p i).bind fun x=>(((cb s x).bind fun r=>some (!r.1,r.2)).bind fun r=>some (r.1,r.2)).bind fun r=>cond r.1 (some (.inl (i,r.2))) ((i64 (i+1)).bind fun _=>F m (i+1) r.2)) (some (.inr s)))
  (b:p.length≤900){K:Nat}(hK:1000≤K)(s:σ):
  (((F K (0:Int) s).bind fun z=>Sum.elim (fun q=>some (q.1,q.2)) (fun q=>some (((-1:Int)),q)) z).bind fun r=>some (decide ((0:Int)≤r.1),r.2)).bind (fun r=>some (!r.1,r.2))=run cb p s:=
 Rw F cb p a (by omega) p.length K 0 s (by omega) (by omega)
section
variable{K:Nat}(hK:1000≤K)
include hK
theorem Q9{σ:Type}(cb:σ→AP→Option (Bool×σ))(p:List AP)(a:p.length≤900)(s:σ):It K cb p s=run cb p s:=
 I4 (F:=ER (fun(st:σ) (x:AP)=>(G1 K cb x st).bind fun r=>some (r.1,r.2)) p) (fun _ _ _=>rfl) a hK s
theorem SJ{σ:Type}(cb:σ→List Int→Option (Bool×σ))(p:List (List Int))(a:p.length≤900)(s:σ):IQ K cb p s=run cb p s:=
 I4 (F:=E5 (fun(st:σ) (x:List Int)=>(Ho K cb x st).bind fun r=>some (r.1,r.2)) p) (fun _ _ _=>rfl) a hK s
theorem Ra{σ:Type}(cb:σ→Cp→Option (Bool×σ))(p:List Cp)(a:p.length≤900)(s:σ):Iu K cb p s=run cb p s:=
 I4 (F:=ES (fun(st:σ) (x:Cp)=>(G3 K cb x st).bind fun r=>some (r.1,r.2)) p) (fun _ _ _=>rfl) a hK s
theorem Th{σ:Type}(cb:σ→Int→Option (Bool×σ))(p:List Int)(a:p.length≤900)(s:σ):Jf K cb p s=run cb p s:=
 I4 (F:=Er (fun(st:σ) (x:Int)=>(HD K cb x st).bind fun r=>some (r.1,r.2)) p) (fun _ _ _=>rfl) a hK s
theorem Qd{σ:Type}(cb:σ→BI→Option (Bool×σ))(p:List BI)(a:p.length≤900)(s:σ):Ic K cb p s=run cb p s:=
 I4 (F:=EU (fun(st:σ) (x:BI)=>(GH K cb x st).bind fun r=>some (r.1,r.2)) p) (fun _ _ _=>rfl) a hK s
theorem Qe{σ:Type}(cb:σ→BS→Option (Bool×σ))(p:List BS)(a:p.length≤900)(s:σ):Ie K cb p s=run cb p s:=
 I4 (F:=EV (fun(st:σ) (x:BS)=>(GI K cb x st).bind fun r=>some (r.1,r.2)) p) (fun _ _ _=>rfl) a hK s
theorem Rb{σ:Type}(cb:σ→B2→Option (Bool×σ))(p:List B2)(a:p.length≤900)(s:σ):Iw K cb p s=run cb p s:=
 I4 (F:=E6 (fun(st:σ) (x:B2)=>(G7 K cb x st).bind fun r=>some (r.1,r.2)) p) (fun _ _ _=>rfl) a hK s
theorem SK{σ:Type}(cb:σ→Int→Option (Bool×σ))(p:List Int)(a:p.length≤900)(s:σ):IS K cb p s=run cb p s:=
 I4 (F:=Er (fun(st:σ) (x:Int)=>(Hq K cb x st).bind fun r=>some (r.1,r.2)) p) (fun _ _ _=>rfl) a hK s
end
theorem JO(K:Nat)(n a b:Int):Cs K n a b=some (Ea n a b):=by unfold Cs Ea;cases decide (a≤n)<;>rfl
theorem Ky(K:Nat)(n a b:Int):Gx K n a b=some (Ea n a b):=by unfold Gx Ea;cases decide (a≤n)<;>rfl
theorem H3(K:Nat)(n a b:Int):Eb K n a b=some (Ea n a b):=by unfold Eb Ea;cases decide (a≤n)<;>rfl
def JA (lo hi a b:Int):Bool:=decide (a≤lo)&&(decide (lo≤hi)&&decide (hi≤b))
theorem Rx{lo hi a b:Int}:JA lo hi a b=true↔a≤lo∧lo≤hi∧hi≤b:=by simp[JA]
theorem J7(K:Nat)(r:AP)(a b:Int):Eh K r a b=some (JA r.Lo r.Hi a b):=by
 unfold Eh JA;cases decide (a≤r.Lo)
 ·rfl
 ·cases decide (r.Lo≤r.Hi)<;>rfl
theorem NI(K:Nat)(r:AP):Fa K r=some (JA r.Lo r.Hi 0 100):=J7 K r 0 100
theorem ZE(K:Nat)(r:AP)(b:Int):Iv K r b=some (JA r.Lo r.Hi 0 b):=J7 K r 0 b
theorem Qf{K:Nat}(hK:1000≤K)(l:List Int)(hl:l.length≤100)(hb:∀x∈l,0≤x∧x≤10000):FG K l=some l.sum:=by
 unfold FG;have h:Du l K 0 0=some (l.foldl (· +·) 0):=Od l (fun m s i=>Du l m s (i:Int)) (· +·) (fun i s=>0≤s∧s≤10000*(i:Int)) id (fun i s hi hs=>by have:=hb _ (List.getElem_mem hi);omega)
  (fun m i s hi hs=>by
   have a:=hb _ (List.getElem_mem hi);show Du l (m+1) s (i:Int)=_;rw[Du.eq_2,ct (dt (by omega)),Co hi,B4 (by omega) (by omega),B4 (by omega) (by omega),D6 i])
  (fun m s _=>by
   show Du l (m+1) s (l.length:Int)=_;rw[Du.eq_2,cf (df (by omega))];rfl) (by omega) (by omega)
 rw[bd h,Lg,Int.zero_add]
theorem Ti{K:Nat}(hK:1000≤K)(l:List Int)(hl:l.length≤100)(hb:∀x∈l,0≤x∧x≤10000):Je K l=some l.sum:=by
 unfold Je;have h:Fu l K 0 0=some (l.foldl (· +·) 0):=Od l (fun m s i=>Fu l m s (i:Int)) (· +·) (fun i s=>0≤s∧s≤10000*(i:Int)) id (fun i s hi hs=>by have:=hb _ (List.getElem_mem hi);omega)
  (fun m i s hi hs=>by
   have a:=hb _ (List.getElem_mem hi);show Fu l (m+1) s (i:Int)=_;rw[Fu.eq_2,ct (dt (by omega)),Co hi,B4 (by omega) (by omega),B4 (by omega) (by omega),D6 i])
  (fun m s _=>by
   show Fu l (m+1) s (l.length:Int)=_;rw[Fu.eq_2,cf (df (by omega))];rfl) (by omega) (by omega)
 rw[bd h,Lg,Int.zero_add]
def JP(c:AZ)(l:List Int):Bool:=l.all (fun x=>Ea x 0 30)&&(l.length==c.Av.length)
def JQ(c:AZ)(l:List Int):Bool:=JP c l&&decide (0<l.sum)
def I5(c:AZ)(t:Cp):Bool:=Ea t.Number 0 ((cond t.BP c.AW.length c.Av.length:Nat)-1)&&JA t.Bg t.Bh 0 100
def Df(r:AP):Int:=r.Hi-r.Lo+1
def Gm(l:List AP):Int:=l.foldl (fun n r=>n*Df r) 1
def Gn(c:AZ):Int:=
 if 3<c.Av.length∨3<c.AW.length∨5<c.AO.length then 3
 else if c.Av.length=0 then 1
 else if !(c.Av.all fun r=>JA r.Lo r.Hi 0 100) then 1
 else if !(c.AW.all (JQ c)) then 1
 else if !(c.AO.all (I5 c)) then 1
 else if 2000<Gm c.Av then 3 else 0
theorem MK{c:AZ}{l:List Int}(h:JP c l=true):l.length=c.Av.length∧∀x∈l,0≤x∧x≤30:=by
 unfold JP at h;rw[Bool.and_eq_true,List.all_eq_true,beq_iff_eq] at h;exact⟨h.2,fun x a=>DS.1 (h.1 x a)⟩
theorem Yg(a b:Nat):((a:Int)==(b:Int))=(a==b):=by rw[Bool.eq_iff_iff,beq_iff_eq,beq_iff_eq];omega
theorem Tj{K:Nat}(hK:1000≤K)(c:AZ)(l:List Int)(hl:l.length≤100):F5 K c l=some (JP c l):=by
 unfold F5;have h:C0 K l K 0=_:=Kn l (fun m i=>C0 K l m (i:Int)) (fun x=>Ea x 0 30) false (fun m i hi=>by
   show C0 K l (m+1) (i:Int)=_;rw[C0.eq_2,ct (dt (by omega)),Co hi,bd (JO ..)];cases Ea l[i] 0 30 with
   |false=>rw[nf,cf rfl]
   |true=>rw[nt,B4 (by omega) (by omega),D6 i,ct rfl])
  (fun m=>by
   show C0 K l (m+1) (l.length:Int)=_;rw[C0.eq_2,cf (df (by omega))]) (k:=K) (by omega)
 rw[bd h];unfold JP;cases l.all (fun x=>Ea x 0 30) with
 |false=>rw[cf rfl,Bool.false_and];rfl
 |true=>
  rw[ct rfl,Bool.true_and,←Yg];rfl
def H9(r:AP):Prop:=0≤r.Lo∧r.Lo≤r.Hi∧r.Hi≤100
theorem VS{r:AP}:JA r.Lo r.Hi 0 100=true↔H9 r:=Rx
theorem ML(K:Nat){r:AP}(h:H9 r):Ft K r=some (Df r):=by
 unfold H9 at h;unfold Ft Df;rw[B4 (by omega) (by omega),B4 (by omega) (by omega)]
theorem VT(K:Nat){r:AP}(h:H9 r):Ib K r=some (Df r):=ML K h
theorem VU(K:Nat){r:AP}(h:H9 r):HZ K r=some (Df r):=ML K h
theorem HT{r:AP}(h:H9 r):1≤Df r∧Df r≤101:=by unfold H9 at h;unfold Df;omega
theorem JR{a b x y:Int}(ha:0≤a)(c:a≤x)(hb:0≤b)(d:b≤y):0≤a*b∧a*b≤x*y:=
 ⟨Int.mul_nonneg ha hb,Int.mul_le_mul c d hb (by omega)⟩
theorem foldl_min{C:Int}(b:0≤C):∀(l:List AP) (s:Int),(∀r∈l,H9 r)→0≤s→l.foldl (fun n r=>min C (n*Df r)) (min C s)=min C (l.foldl (fun n r=>n*Df r) s)
 |[],s,_,_=>rfl
 |r::l,s,h,hs=>by
  have c:=HT (h r (List.mem_cons_self ..));rw[List.foldl_cons,List.foldl_cons];have e:min C (min C s*Df r)=min C (s*Df r):=by
   rcases Int.le_total C s with a|a
   ·rw[Int.min_eq_left a];have h1:C*1≤C*Df r:=Int.mul_le_mul_of_nonneg_left c.1 b;have h2:s*1≤s*Df r:=Int.mul_le_mul_of_nonneg_left c.1 hs;rw[Int.min_eq_left (by omega),Int.min_eq_left (by omega)]
   ·rw[Int.min_eq_right a]
  rw[e];exact foldl_min b l (s*Df r) (fun y d=>h y (List.mem_cons_of_mem _ d)) (Int.mul_nonneg hs (by omega))
theorem Pd:∀(l:List AP) (s:Int),(∀r∈l,H9 r)→1≤s→1≤l.foldl (fun n r=>n*Df r) s
 |[],s,_,hs=>hs
 |r::l,s,h,hs=>by
  have a:=HT (h r (List.mem_cons_self ..));rw[List.foldl_cons];refine Pd l _ (fun y b=>h y (List.mem_cons_of_mem _ b)) ?_;have h2:s*1≤s*Df r:=Int.mul_le_mul_of_nonneg_left a.1 (by omega);omega
theorem NJ{l:List AP}(h:(l.all fun r=>JA r.Lo r.Hi 0 100)=true):∀r∈l,H9 r:=fun r a=>VS.1 (List.all_eq_true.1 h r a)
theorem KD{a b:Int}(h:a≠b):(a==b)=false:=by rw[Bool.eq_false_iff];intro g;exact h (beq_iff_eq.1 g)
theorem JS{a b:Int}(h:a=b):(a==b)=true:=beq_iff_eq.2 h
theorem JT{a b:Int}(h:a=b):(a !=b)=false:=by rw[h];simp
theorem Jx{a b:Int}(h:a≠b):(a !=b)=true:=by simpa using h
section
variable{K:Nat}(hK:1000≤K)
include hK
theorem Qg(c:AZ)(hl:c.Av.length≤100)(h:∀r∈c.Av,H9 r):Ei K c=some (min 3000 (Gm c.Av)):=by
 unfold Ei;have b:Dn K c K 1 0=some (c.Av.foldl (fun n r=>min 3000 (n*Df r)) 1):=Od c.Av (fun m s i=>Dn K c m s (i:Int)) (fun n r=>min 3000 (n*Df r)) (fun _ s=>0≤s∧s≤3000) id
  (fun i s hi hs=>by
   have a:=HT (h _ (List.getElem_mem hi));have:=JR hs.1 hs.2 (by omega:0≤Df c.Av[i]) a.2;omega)
  (fun m i s hi hs=>by
   show Dn K c (m+1) s (i:Int)=_;have a:=HT (h _ (List.getElem_mem hi));have:=JR hs.1 hs.2 (by omega:0≤Df c.Av[i]) a.2;rw[Dn.eq_2,ct (dt (by omega)),Co hi,bd (ML K (h _ (List.getElem_mem hi))),B4 (by omega) (by omega),B4 (by omega) (by omega),D6 i])
  (fun m s _=>by
   show Dn K c (m+1) s (c.Av.length:Int)=_;rw[Dn.eq_2,cf (df (by omega))];rfl) (by omega) (by omega)
 rw[bd b];have:=foldl_min (C:=3000) (by omega) c.Av 1 h (by omega);rw[Int.min_eq_right (by omega)] at this;rw[this];rfl
theorem Yh(a b:Int):GS K [a,b]=some (min a b):=by
 obtain⟨k,rfl⟩:∃k,K=k+3:=⟨K-3,by omega⟩;unfold GS;have c:idx [a,b] (0:Int)=some a:=rfl;have d:idx [a,b] (1:Int)=some b:=rfl;rw[cf (df (by simp)),bd c,FM.eq_2,ct (dt (by simp)),bd d,B4 (by omega) (by omega),FM.eq_2,cf (df (by simp))];rfl
theorem Yi(a b:Int):Ik K [a,b]=some (min a b):=by
 unfold Ik;rw[bd (Yh hK a b)]
theorem Tk(c:AZ)(hl:c.Av.length≤100)(h:∀r∈c.Av,H9 r):CX K c K 1 0=some (min 2001 (Gm c.Av)):=by
 have b:CX K c K 1 0=some (c.Av.foldl (fun n r=>min 2001 (n*Df r)) 1):=Od c.Av (fun m s i=>CX K c m s (i:Int)) (fun n r=>min 2001 (n*Df r)) (fun _ s=>0≤s∧s≤2001) id
  (fun i s hi hs=>by
   have a:=HT (h _ (List.getElem_mem hi));have:=JR hs.1 hs.2 (by omega:0≤Df c.Av[i]) a.2;omega)
  (fun m i s hi hs=>by
   show CX K c (m+1) s (i:Int)=_;have a:=HT (h _ (List.getElem_mem hi));have:=JR hs.1 hs.2 (by omega:0≤Df c.Av[i]) a.2;rw[CX.eq_2,ct (dt (by omega)),Co hi,bd (VT K (h _ (List.getElem_mem hi))),B4 (by omega) (by omega),bd (Yi hK _ _),B4 (by omega) (by omega),D6 i,Int.min_comm])
  (fun m s _=>by
   show CX K c (m+1) s (c.Av.length:Int)=_;rw[CX.eq_2,cf (df (by omega))];rfl) (by omega) (by omega)
 rw[b];have:=foldl_min (C:=2001) (by omega) c.Av 1 h (by omega);rw[Int.min_eq_right (by omega)] at this;rw[this];rfl
theorem Ur(c:AZ)(hl:c.Av.length≤100):Dc K c K 0=some (cond (c.Av.all fun r=>JA r.Lo r.Hi 0 100) (.inr ()) (.inl 1)):=
 Kn c.Av (fun m i=>Dc K c m (i:Int)) (fun r=>JA r.Lo r.Hi 0 100) 1
  (fun m i hi=>by
   show Dc K c (m+1) (i:Int)=_;rw[Dc.eq_2,ct (dt (by omega)),Co hi,bd (J7 ..)];cases JA c.Av[i].Lo c.Av[i].Hi 0 100 with
   |false=>rw[nf,cf rfl]
   |true=>rw[nt,B4 (by omega) (by omega),D6 i,ct rfl])
  (fun m=>by
   show Dc K c (m+1) (c.Av.length:Int)=_;rw[Dc.eq_2,cf (df (by omega))]) (by omega)
theorem Tl(c:AZ)(hl:c.AW.length≤100)(e:∀l∈c.AW,l.length≤100):CM K c K 0=some (cond (c.AW.all (JQ c)) (.inr ()) (.inl 1)):=
 Kn c.AW (fun m i=>CM K c m (i:Int)) (JQ c) 1
  (fun m i hi=>by
   show CM K c (m+1) (i:Int)=_;have d:=e _ (List.getElem_mem hi);rw[CM.eq_2,ct (dt (by omega)),Co hi,bd (Tj hK c _ d)];unfold JQ;cases hs:JP c c.AW[i] with
   |false=>rw[nf,Bool.false_and,cf rfl]
   |true=>
    obtain⟨h1,h2⟩:=MK hs;have f:=Lz (a:=0) (b:=30) (by omega) (by omega) _ h2;rw[nt,Co hi,bd (Qf hK _ d (fun x d=>by have:=h2 x d;omega)),Bool.true_and]
    by_cases h0:c.AW[i].sum=0
    ·rw[ct (by simp[h0]),cf (df (by omega))]
    ·rw[cf (by simp[h0]),ct (dt (by omega)),B4 (by omega) (by omega),D6 i])
  (fun m=>by
   show CM K c (m+1) (c.AW.length:Int)=_;rw[CM.eq_2,cf (df (by omega))]) (by omega)
theorem Tm(c:AZ)(hl:c.AO.length≤100)(a:c.Av.length≤100)(b:c.AW.length≤100):CE K c K 0=some (cond (c.AO.all (I5 c)) (.inr ()) (.inl 1)):=
 Kn c.AO (fun m i=>CE K c m (i:Int)) (I5 c) 1
  (fun m i hi=>by
   show CE K c (m+1) (i:Int)=_;rw[CE.eq_2,ct (dt (by omega)),Co hi];unfold I5;cases c.AO[i].BP with
   |true=>
    rw[ct rfl,B4 (by omega) (by omega),bd (JO ..),ct rfl];cases Ea c.AO[i].Number 0 ((c.AW.length:Nat)-1) with
    |false=>rw[nf,Bool.false_and,cf rfl]
    |true=>
     rw[nt,bd (J7 ..),Bool.true_and];cases JA c.AO[i].Bg c.AO[i].Bh 0 100 with
     |false=>rw[nf,cf rfl]
     |true=>rw[nt,B4 (by omega) (by omega),D6 i,ct rfl]
   |false=>
    rw[cf rfl,B4 (by omega) (by omega),bd (JO ..),cf rfl];cases Ea c.AO[i].Number 0 ((c.Av.length:Nat)-1) with
    |false=>rw[nf,Bool.false_and,cf rfl]
    |true=>
     rw[nt,bd (J7 ..),Bool.true_and];cases JA c.AO[i].Bg c.AO[i].Bh 0 100 with
     |false=>rw[nf,cf rfl]
     |true=>rw[nt,B4 (by omega) (by omega),D6 i,ct rfl])
  (fun m=>by
   show CE K c (m+1) (c.AO.length:Int)=_;rw[CE.eq_2,cf (df (by omega))]) (by omega)
theorem Qh(c:AZ)(a:c.Av.length≤100)(b:c.AW.length≤100)(f:c.AO.length≤100)(g:∀l∈c.AW,l.length≤100):EB K c=some (Gn c):=by
 unfold EB Gn
 by_cases h1:3<c.Av.length
 ·rw[ct (dt (by omega)),if_pos (.inl h1)]
 rw[cf (df (by omega))]
 by_cases h2:3<c.AW.length
 ·rw[ct (dt (by omega)),if_pos (.inr (.inl h2))]
 rw[cf (df (by omega))]
 by_cases h:5<c.AO.length
 ·rw[ct (dt (by omega)),if_pos (.inr (.inr h))]
 rw[cf (df (by omega)),if_neg (by omega)]
 by_cases d:c.Av.length=0
 ·rw[ct (JS (by omega)),if_pos d]
 rw[cf (KD (by omega)),if_neg d,bd (Ur hK c a)];cases i:c.Av.all fun r=>JA r.Lo r.Hi 0 100 with
 |false=>rw[cf rfl,if_pos (by rfl)];rfl
 |true=>
  rw[ct rfl,if_neg (by simp)];show Option.bind (CM K c K 0) _=_;rw[bd (Tl hK c b g)];cases c.AW.all (JQ c) with
  |false=>rw[cf rfl,if_pos (by rfl)];rfl
  |true=>
   rw[ct rfl,if_neg (by simp)];show Option.bind (CE K c K 0) _=_;rw[bd (Tm hK c f a b)];cases c.AO.all (I5 c) with
   |false=>rw[cf rfl,if_pos (by rfl)];rfl
   |true=>
    rw[ct rfl,if_neg (by simp)];show Option.bind (Ei K c) _=_;rw[bd (Qg hK c a (NJ i))]
    by_cases e:2000<Gm c.Av
    ·rw[ct (dt (by omega)),if_pos e]
    ·rw[cf (df (by omega)),if_neg e]
theorem Tn(c:AZ)(l:List Int)(hl:l.length≤100):F2 K c l=some (JP c l):=by
 unfold F2 JP;rw[Yg,Th hK _ _ (by omega),run_pure (ok:=fun x=>Ea x 0 30) l () (fun x _ s=>by unfold IE;rw[bd (Ky ..)];rfl)];cases l.length==c.Av.length with
 |false=>rw[cf rfl,Bool.and_false]
 |true=>rw[ct rfl,Bool.and_true];rfl
theorem Us(c:AZ)(l:List Int)(hl:l.length≤100):Fy K c l=some (JQ c l):=by
 unfold Fy JQ;rw[bd (Tn hK c l hl)];cases hs:JP c l with
 |false=>rw[cf rfl,Bool.false_and]
 |true=>
  have h2:=(MK hs).2;rw[ct rfl,bd (Ti hK l hl (fun x a=>by have:=h2 x a;omega)),Bool.true_and]
theorem VV(c:AZ)(t:Cp)(a:c.Av.length≤100)(b:c.AW.length≤100):FO K c t=some (I5 c t):=by
 unfold FO I5;cases t.BP with
 |true=>
  rw[ct rfl,B4 (by omega) (by omega),bd (Ky ..),ct rfl];cases Ea t.Number 0 ((c.AW.length:Nat)-1) with
  |false=>rw[cf rfl,Bool.false_and]
  |true=>rw[ct rfl,bd (NI ..),Bool.true_and]
 |false=>
  rw[cf rfl,B4 (by omega) (by omega),bd (Ky ..),cf rfl];cases Ea t.Number 0 ((c.Av.length:Nat)-1) with
  |false=>rw[cf rfl,Bool.false_and]
  |true=>rw[ct rfl,bd (NI ..),Bool.true_and]
theorem Mj(c:AZ)(a:c.Av.length≤100)(f:c.AW.length≤100)(j:c.AO.length≤100)(g:∀l∈c.AW,l.length≤100):Ef K c=some (Gn c):=by
 unfold Ef Gn
 by_cases h1:3<c.Av.length
 ·rw[ct (dt (by omega)),if_pos (.inl h1)]
 rw[cf (df (by omega))]
 by_cases h2:3<c.AW.length
 ·rw[ct (dt (by omega)),if_pos (.inr (.inl h2))]
 rw[cf (df (by omega))]
 by_cases h:5<c.AO.length
 ·rw[ct (dt (by omega)),if_pos (.inr (.inr h))]
 rw[cf (df (by omega)),if_neg (by omega)]
 by_cases b:c.Av.length=0
 ·rw[ct (JS (by omega)),if_pos b]
 rw[cf (KD (by omega)),if_neg b,Q9 hK _ _ (by omega),run_pure (ok:=fun r=>JA r.Lo r.Hi 0 100) c.Av () (fun x _ s=>by rw[bd (NI ..)]),Option.bind_some];cases i:c.Av.all fun r=>JA r.Lo r.Hi 0 100 with
 |false=>rw[nf,if_pos (by rfl)]
 |true=>
  rw[nt,if_neg (by simp),SJ hK _ _ (by omega),run_pure (ok:=JQ c) c.AW () (fun x d s=>by rw[bd (Us hK c x (g x d))]),Option.bind_some];cases c.AW.all (JQ c) with
  |false=>rw[nf,if_pos (by rfl)]
  |true=>
   rw[nt,if_neg (by simp),Ra hK _ _ (by omega),run_pure (ok:=I5 c) c.AO () (fun x d s=>by rw[bd (VV hK c x a f)]),Option.bind_some];cases c.AO.all (I5 c) with
   |false=>rw[nf,if_pos (by rfl)]
   |true=>
    rw[nt,if_neg (by simp),bd (Tk hK c a (NJ i))]
    by_cases e:2000<Gm c.Av
    ·rw[ct (dt (by omega)),if_pos e]
    ·rw[cf (df (by omega)),if_neg e]
end
def AJ.C(t:AJ):AZ:=⟨t.Aj,t.Ab,t.As⟩
def Hy:Int→Int→List BI→Bool
 |_,_,[]=>true
 |s,p,g::l=>Ea g.AT 0 (s-1)&&(Ea g.BT 0 p&&Hy g.AT g.BT l)
def I6(t:AJ)(o:BS):Bool:=Ea o.Cr 0 ((t.Az.length:Nat)-1)&&Ea o.Cc 1 90
def JU(t:AJ)(n:B2):Bool:=Ea n.BP 0 ((t.Ab.length:Nat)-1)&&JA n.Cg n.Ch 0 9000
def Gp(t:AJ):Int:=
 if Gn t.C≠0 then Gn t.C
 else if 3<t.Az.length∨3<t.AE.length∨5<t.AK.length then 3
 else if !(Ea t.Flat 0 100) then 1
 else if t.Az.length=0 then 1
 else if !(Hy 101 100 t.Az) then 1
 else if !(t.AE.all (I6 t)) then 1
 else if !(t.AK.all (JU t)) then 1 else 0
def Ut (c:AZ):Prop:=c.Av.length≤100∧c.AW.length≤100∧c.AO.length≤100∧∀l∈c.AW,l.length≤100
def Qi(t:AJ):Prop:=Ut t.C∧t.Az.length≤100∧t.AE.length≤100∧t.AK.length≤100
section
variable{K:Nat}(hK:1000≤K)
include hK
theorem MM(t:AJ)(hl:t.Az.length≤100):∀(n m i:Nat) (s p:Int),t.Az.length=i+n→n<m→(i=0→s=101∧p=100)→
  (∀h:0<i,∃h2:i-1<t.Az.length,s=t.Az[i-1].AT∧p=t.Az[i-1].BT∧s≤100∧p≤100)→
  DG K t m (i:Int)=some (cond (Hy s p (t.Az.drop i)) (.inr ()) (.inl 1))
 |n,0,i,s,p,h,hm,_,_=>by omega
 |0,m+1,i,s,p,h,hm,_,_=>by
  rw[DG.eq_2,cf (df (by omega)),List.drop_eq_nil_of_le (by omega)];rfl
 |n+1,m+1,i,s,p,h,hm,h0,h1=>by
  have hi:i<t.Az.length:=by omega
  rw[DG.eq_2,ct (dt (by omega)),Co hi,bd (JO ..),List.drop_eq_getElem_cons hi,Hy];have sp:s≤101∧p≤100:=by
   by_cases e:i=0
   ·have:=h0 e;omega
   ·obtain⟨_,_,_,b⟩:=h1 (by omega);omega
  by_cases hs:0≤t.Az[i].AT∧t.Az[i].AT≤100
  ·rw[DS.2 hs,nt,bd (JO ..)]
   by_cases a:0≤t.Az[i].BT∧t.Az[i].BT≤100
   ·rw[DS.2 a,nt]
    by_cases e:i=0
    ·obtain⟨rfl,rfl⟩:=h0 e;rw[cf (df (by omega)),B4 (by omega) (by omega),D6 i,MM t hl n m (i+1) _ _ (by omega) (by omega) (by omega) (fun _=>⟨by simpa using hi,rfl,rfl,hs.2,a.2⟩),
      DS.2 ⟨hs.1,by omega⟩,DS.2 a,Bool.true_and,Bool.true_and]
    ·obtain⟨h2,rfl,rfl,b⟩:=h1 (by omega);have c:(i:Int)-1=((i-1:Nat):Int):=by omega
     rw[ct (dt (by omega)),B4 (by omega) (by omega),c,Co h2]
     by_cases g1:t.Az[i-1].AT≤t.Az[i].AT
     ·rw[ct (dt g1),Jz.2 (by omega),Bool.false_and,cf rfl]
     ·rw[cf (df g1),B4 (by omega) (by omega),Co h2]
      by_cases g2:t.Az[i-1].BT<t.Az[i].BT
      ·rw[ct (dt g2),DS.2 ⟨hs.1,by omega⟩,Jz.2 (by omega),Bool.false_and,Bool.true_and,cf rfl]
      ·rw[cf (df g2),B4 (by omega) (by omega),D6 i,MM t hl n m (i+1) _ _ (by omega) (by omega) (by omega) (fun _=>⟨by simpa using hi,rfl,rfl,hs.2,a.2⟩),
        DS.2 ⟨hs.1,by omega⟩,DS.2 ⟨a.1,by omega⟩,Bool.true_and,Bool.true_and]
   ·rw[Jz.2 a,nf];have:Ea t.Az[i].BT 0 p=false:=Jz.2 (by omega);rw[this,Bool.false_and,Bool.and_false,cf rfl]
  ·rw[Jz.2 hs,nf,Jz.2 (by omega),Bool.false_and,cf rfl]
theorem Of:∀(l:List BI) (g:BI),0≤g.AT∧g.AT≤101→(run (fun(st:BI) (x:BI)=>(E7 K x st).bind fun r=>some (r.1,r.2)) l g).map (·.1)=some (Hy g.AT g.BT l)
 |[],g,_=>rfl
 |x::l,g,h=>by
  rw[run,Hy];unfold E7;rw[B4 (by omega) (by omega),bd (H3 ..)];cases hs:Ea x.AT 0 (g.AT-1) with
  |false=>rw[cf rfl,Bool.false_and];rfl
  |true=>
   rw[ct rfl,bd (H3 ..),Bool.true_and];cases Ea x.BT 0 g.BT with
   |false=>rw[Bool.false_and];rfl
   |true=>
    have h1:=DS.1 hs;rw[Bool.true_and];exact Of l x (by omega)
theorem Qj{α β b:Type}{x:Option (α×β)}{a:α}{f:α→Option b}(h:x.map (·.1)=some a):x.bind (fun r=>f r.1)=f a:=by
 cases x with
 |none=>cases h
 |some r=>exact congrArg f (Option.some.inj h)
theorem Uu(t:AJ)(hl:t.Az.length≤100):Gi K t=some (decide (0<t.Az.length)&&Hy 101 100 t.Az):=by
 unfold Gi
 by_cases h:0<t.Az.length
 ·rw[ct (dt (by omega)),Qd hK _ _ (by omega),dt h,Bool.true_and];exact Qj hK (f:=some) (Of hK t.Az ⟨101,100⟩ (by simp))
 ·rw[cf (df (by omega)),df h,Bool.false_and]
theorem To(t:AJ)(a:t.Az.length≤100)(hl:t.AE.length≤100):CN K t K 0=some (cond (t.AE.all (I6 t)) (.inr ()) (.inl 1)):=
 Kn t.AE (fun m i=>CN K t m (i:Int)) (I6 t) 1
  (fun m i hi=>by
   show CN K t (m+1) (i:Int)=_;rw[CN.eq_2,ct (dt (by omega)),Co hi,B4 (by omega) (by omega),bd (JO ..)];unfold I6;cases Ea t.AE[i].Cr 0 ((t.Az.length:Nat)-1) with
   |false=>rw[nf,Bool.false_and,cf rfl]
   |true=>
    rw[nt,Co hi,bd (JO ..),Bool.true_and];cases Ea t.AE[i].Cc 1 90 with
    |false=>rw[nf,cf rfl]
    |true=>rw[nt,B4 (by omega) (by omega),D6 i,ct rfl])
  (fun m=>by
   show CN K t (m+1) (t.AE.length:Int)=_;rw[CN.eq_2,cf (df (by omega))]) (by omega)
theorem Tp(t:AJ)(a:t.Ab.length≤100)(hl:t.AK.length≤100):CO K t K 0=some (cond (t.AK.all (JU t)) (.inr ()) (.inl 1)):=
 Kn t.AK (fun m i=>CO K t m (i:Int)) (JU t) 1
  (fun m i hi=>by
   show CO K t (m+1) (i:Int)=_;rw[CO.eq_2,ct (dt (by omega)),Co hi,B4 (by omega) (by omega),bd (JO ..)];unfold JU;cases Ea t.AK[i].BP 0 ((t.Ab.length:Nat)-1) with
   |false=>rw[nf,Bool.false_and,cf rfl]
   |true=>
    rw[nt,Co hi,bd (J7 ..),Bool.true_and];cases JA t.AK[i].Cg t.AK[i].Ch 0 9000 with
    |false=>rw[nf,cf rfl]
    |true=>rw[nt,B4 (by omega) (by omega),D6 i,ct rfl])
  (fun m=>by
   show CO K t (m+1) (t.AK.length:Int)=_;rw[CO.eq_2,cf (df (by omega))]) (by omega)
theorem Tq(t:AJ)(hl:Qi t):GM K t=some (Gp t):=by
 obtain⟨⟨e,a,f,g⟩,b,i,j⟩:=hl;unfold GM Gp;have k:EB K ⟨t.Aj,t.Ab,t.As⟩=some (Gn t.C):=Qh hK t.C e a f g;rw[bd k]
 by_cases h0:Gn t.C=0
 ·rw[cf (JT h0),if_neg (by simp[h0])]
  by_cases h1:3<t.Az.length
  ·rw[ct (dt (by omega)),if_pos (.inl h1)]
  rw[cf (df (by omega))]
  by_cases h2:3<t.AE.length
  ·rw[ct (dt (by omega)),if_pos (.inr (.inl h2))]
  rw[cf (df (by omega))]
  by_cases l:5<t.AK.length
  ·rw[ct (dt (by omega)),if_pos (.inr (.inr l))]
  rw[cf (df (by omega)),if_neg (by omega),bd (JO ..)];cases Ea t.Flat 0 100 with
  |false=>rw[nf,if_pos (by rfl)]
  |true=>
   rw[nt,if_neg (by simp)]
   by_cases c:t.Az.length=0
   ·rw[ct (JS (by omega)),if_pos c]
   have d:=MM hK t b t.Az.length K 0 101 100 (by omega) (by omega) (fun _=>⟨rfl,rfl⟩) (fun h=>by omega);rw[Int.natCast_zero,List.drop_zero] at d;rw[cf (KD (by omega)),if_neg c,bd d];cases Hy 101 100 t.Az with
   |false=>rw[cf rfl,if_pos (by rfl)];rfl
   |true=>
    rw[ct rfl,if_neg (by simp)];show Option.bind (CN K t K 0) _=_;rw[bd (To hK t b i)];cases t.AE.all (I6 t) with
    |false=>rw[cf rfl,if_pos (by rfl)];rfl
    |true=>
     rw[ct rfl,if_neg (by simp)];show Option.bind (CO K t K 0) _=_;rw[bd (Tp hK t a j)];cases t.AK.all (JU t) with
     |false=>rw[cf rfl,if_pos (by rfl)];rfl
     |true=>rw[ct rfl,if_neg (by simp)];rfl
 ·rw[ct (Jx h0),if_pos h0]
theorem VW(t:AJ)(n:Int)(a:t.Ab.length≤100):ET K t n=some (Ea n 0 ((t.Ab.length:Nat)-1)):=by
 unfold ET;rw[B4 (by omega) (by omega),bd (H3 ..)]
theorem VX(t:AJ)(o:BS)(a:t.Az.length≤100):FP K t o=some (I6 t o):=by
 unfold FP I6;rw[B4 (by omega) (by omega),bd (H3 ..)];cases Ea o.Cr 0 ((t.Az.length:Nat)-1) with
 |false=>rw[cf rfl,Bool.false_and]
 |true=>rw[ct rfl,bd (H3 ..),Bool.true_and]
theorem Yj(t:AJ)(o:B2)(a:t.Ab.length≤100):F3 K t o=some (JU t o):=by
 unfold F3 JU;rw[bd (VW hK t _ a)];cases Ea o.BP 0 ((t.Ab.length:Nat)-1) with
 |false=>rw[cf rfl,Bool.false_and]
 |true=>rw[ct rfl,bd (ZE ..),Bool.true_and]
theorem Qk(t:AJ)(hl:Qi t):F4 K t=some (Gp t):=by
 obtain⟨⟨d,a,e,f⟩,b,k,l⟩:=hl;unfold F4 Gp;have g:Ef K ⟨t.Aj,t.Ab,t.As⟩=some (Gn t.C):=Mj hK t.C d a e f;rw[bd g]
 by_cases h0:Gn t.C=0
 ·rw[cf (JT h0),if_neg (by simp[h0])]
  by_cases h1:3<t.Az.length
  ·rw[ct (dt (by omega)),if_pos (.inl h1)]
  rw[cf (df (by omega))]
  by_cases h2:3<t.AE.length
  ·rw[ct (dt (by omega)),if_pos (.inr (.inl h2))]
  rw[cf (df (by omega))]
  by_cases h:5<t.AK.length
  ·rw[ct (dt (by omega)),if_pos (.inr (.inr h))]
  have i:IF K t.Flat=some (Ea t.Flat 0 100):=by unfold IF;rw[bd (H3 ..)]
  rw[cf (df (by omega)),if_neg (by omega),bd i];cases Ea t.Flat 0 100 with
  |false=>rw[nf,if_pos (by rfl)]
  |true=>
   rw[nt,if_neg (by simp),bd (Uu hK t b)]
   by_cases c:t.Az.length=0
   ·rw[df (by omega),Bool.false_and,nf,if_pos c]
   rw[if_neg c,dt (by omega),Bool.true_and];cases Hy 101 100 t.Az with
   |false=>rw[nf,if_pos (by rfl)]
   |true=>
    rw[nt,if_neg (by simp),Qe hK _ _ (by omega),run_pure (ok:=I6 t) t.AE () (fun x j s=>by rw[bd (VX hK t x b)]),Option.bind_some];cases t.AE.all (I6 t) with
    |false=>rw[nf,if_pos (by rfl)]
    |true=>
     rw[nt,if_neg (by simp),Rb hK _ _ (by omega),run_pure (ok:=JU t) t.AK () (fun x j s=>by rw[bd (Yj hK t x a)]),Option.bind_some];cases t.AK.all (JU t) with
     |false=>rw[nf,if_pos (by rfl)]
     |true=>rw[nt,if_neg (by simp)]
 ·rw[ct (Jx h0),if_pos h0]
end
def Gq:List AP→List Int→Bool
 |[],[]=>true
 |r::rs,x::xs=>Ea x r.Lo r.Hi&&Gq rs xs
 |_,_=>false
theorem Yk(r:AP)(rs:List AP):Gq (r::rs) []=false:=rfl
theorem Yl(x:Int)(xs:List Int):Gq [] (x::xs)=false:=rfl
theorem Ts:Gq [] []=true:=rfl
theorem JB:∀{rs:List AP} {l:List Int},Gq rs l=true→l.length=rs.length
 |[],[],_=>rfl
 |[],_::_,h=>by cases h
 |_::_,[],h=>by cases h
 |r::rs,x::xs,h=>by
  rw[Gq,Bool.and_eq_true] at h;rw[List.length_cons,List.length_cons,JB h.2]
theorem Ql:∀{rs:List AP} {l:List Int},(∀r∈rs,H9 r)→Gq rs l=true→∀x∈l,0≤x∧x≤100
 |[],[],_,_,x,a=>by cases a
 |[],_::_,_,h,_,_=>by cases h
 |_::_,[],_,h,_,_=>by cases h
 |r::rs,y::xs,b,h,x,a=>by
  rw[Gq,Bool.and_eq_true] at h;rcases List.mem_cons.1 a with rfl|a
  ·have h1:=DS.1 h.1;have h2:H9 r:=b r (List.mem_cons_self ..);unfold H9 at h2;omega
  ·exact Ql (fun r c=>b r (List.mem_cons_of_mem _ c)) h.2 x a
def dot:List Int→List Int→Int
 |w::ws,x::xs=>w*x+dot ws xs
 |_,_=>0
theorem VY(l:List Int):dot l []=0:=by cases l<;>rfl
def Dx(l w:List Int):Int:=dot w l/w.sum
theorem Og:∀(w l:List Int),(∀x∈w,0≤x∧x≤30)→(∀x∈l,0≤x∧x≤100)→0≤dot w l∧dot w l≤100*w.sum
 |[],l,_,_=>by simp[dot]
 |w::ws,[],hw,_=>by
  have:=(Lz (a:=0) (b:=30) (by omega) (by omega) (w::ws) hw).1;simp only[dot];omega
 |w::ws,x::xs,hw,d=>by
  have h1:=hw w (List.mem_cons_self ..);have h2:=d x (List.mem_cons_self ..);have e:=Og ws xs (fun y c=>hw y (List.mem_cons_of_mem _ c)) (fun y c=>d y (List.mem_cons_of_mem _ c));have f:w*x≤w*100:=Int.mul_le_mul_of_nonneg_left h2.2 h1.1;have g:=Int.mul_nonneg h1.1 h2.1;rw[dot,List.sum_cons];omega
theorem Ry{w l:List Int}(hw:∀x∈w,0≤x∧x≤30)(hl:∀x∈l,0≤x∧x≤100)(hs:0<w.sum):0≤Dx l w∧Dx l w≤100:=by
 have h:=Og w l hw hl;unfold Dx;refine⟨Int.ediv_nonneg h.1 (by omega),?_⟩;have:=Int.ediv_le_ediv hs h.2
 rwa[Int.mul_ediv_cancel _ (by omega)] at this
def HJ (c:AZ) (l:List Int) (t:Cp):Int:=cond t.BP (Dx l (c.AW.getD t.Number.toNat [])) (l.getD t.Number.toNat 0)
def Oh(c:AZ)(l:List Int):Bool:=c.AO.all fun t=>Ea (HJ c l t) t.Bg t.Bh
def EL(c:AZ)(l:List Int):Bool:=Gq c.Av l&&Oh c l
def KE:List AP→Int→List Int
 |[],_=>[]
 |r::rs,n=>(r.Lo+n%Df r)::KE rs (n/Df r)
structure OkC (c:AZ):Prop where
 len:Ut c
 fault:Gn c=0
 many:Gm c.Av≤150
theorem H4{c:AZ}(h:Gn c=0):c.Av.length≤3∧c.AW.length≤3∧c.AO.length≤5∧0<c.Av.length∧(∀r∈c.Av,H9 r)∧(∀l∈c.AW,JQ c l=true)∧(∀t∈c.AO,I5 c t=true)∧Gm c.Av≤2000:=by
 unfold Gn at h;split at h
 ·omega
 rename_i h1
 split at h
 ·omega
 rename_i h2
 split at h
 ·omega
 rename_i a
 split at h
 ·omega
 rename_i b
 split at h
 ·omega
 rename_i d
 split at h
 ·omega
 rename_i e
 refine⟨by omega,by omega,by omega,by omega,NJ (by simpa using a),?_,?_,by omega⟩
 ·exact List.all_eq_true.1 (by simpa using b)
 ·exact List.all_eq_true.1 (by simpa using d)
namespace OkC
variable{c:AZ}(h:OkC c)
include h
theorem hl:c.Av.length≤3:=(H4 h.fault).1
theorem cl:c.AW.length≤3:=(H4 h.fault).2.1
theorem tl:c.AO.length≤5:=(H4 h.fault).2.2.1
theorem h0:0<c.Av.length:=(H4 h.fault).2.2.2.1
theorem ok:∀r∈c.Av,H9 r:=(H4 h.fault).2.2.2.2.1
theorem EA:∀l∈c.AW,l.length=c.Av.length∧(∀x∈l,0≤x∧x≤30)∧0<l.sum∧l.sum≤90:=fun l hl=>by
 have h1:=(H4 h.fault).2.2.2.2.2.1 l hl;unfold JQ at h1;rw[Bool.and_eq_true,decide_eq_true_eq] at h1;have h2:=MK h1.1;have d:=Lz (a:=0) (b:=30) (by omega) (by omega) l h2.2;have e:=h.hl;exact⟨h2.1,h2.2,h1.2,by omega⟩
theorem Vq:∀t∈c.AO,0≤t.Number∧(t.BP=true→t.Number<c.AW.length)∧(t.BP=false→t.Number<c.Av.length):=fun t a=>by
 have h1:=(H4 h.fault).2.2.2.2.2.2.1 t a;unfold I5 at h1;rw[Bool.and_eq_true] at h1;have h2:=DS.1 h1.1;refine⟨h2.1,fun e=>?_,fun e=>?_⟩
 ·rw[e,cond_true] at h2;omega
 ·rw[e,cond_false] at h2;omega
end OkC
theorem Oi(r:AP)(l:List AP):Gm (r::l)=Df r*Gm l:=by
 have:∀(l:List AP) (s:Int),l.foldl (fun n r=>n*Df r) s=s*l.foldl (fun n r=>n*Df r) 1:=by
  intro l
  induction l with
  |nil=>intro s;simp
  |cons r l ih=>intro s;rw[List.foldl_cons,List.foldl_cons,ih,ih (1*Df r),Int.one_mul,Int.mul_assoc]
 unfold Gm;rw[List.foldl_cons,this,Int.one_mul]
theorem RA:∀{rs:List AP} {l:List Int},(∀r∈rs,H9 r)→Gq rs l=true→∃n:Nat,(n:Int)<Gm rs∧KE rs (n:Int)=l
 |[],[],_,_=>⟨0,by simp[Gm],rfl⟩
 |[],_::_,_,h=>by cases h
 |_::_,[],_,h=>by cases h
 |r::rs,x::xs,b,h=>by
  rw[Gq,Bool.and_eq_true] at h;obtain⟨n,f,e⟩:=RA (fun r c=>b r (List.mem_cons_of_mem _ c)) h.2;have h1:=DS.1 h.1;have h2:=HT (b r (List.mem_cons_self ..));have a:0≤x-r.Lo∧x-r.Lo<Df r:=by unfold Df;omega
  have d:0≤Df r*(n:Int):=Int.mul_nonneg (by omega) (by omega);refine⟨(x-r.Lo+Df r*n).toNat,?_,?_⟩
  ·rw[Oi];have:Df r*((n:Int)+1)≤Df r*Gm rs:=Int.mul_le_mul_of_nonneg_left (by omega) (by omega);rw[Int.mul_add] at this;omega
  ·rw[Int.toNat_of_nonneg (by omega),KE,Int.add_mul_emod_self_left,Int.emod_eq_of_lt a.1 a.2,Int.add_mul_ediv_left _ _ (by omega),Int.ediv_eq_zero_of_lt a.1 a.2,Int.zero_add,e]
   congr 1;omega
def Es (c:AZ):List (List Int):=((List.range (Gm c.Av).toNat).map fun n:Nat=>KE c.Av (n:Int)).filter (EL c)
theorem IK{c:AZ}(a:OkC c){l:List Int}:l∈Es c↔EL c l=true:=by
 unfold Es;rw[List.mem_filter,List.mem_map];refine⟨fun h=>h.2,fun h=>⟨?_,h⟩⟩;have h1:=h;unfold EL at h1;rw[Bool.and_eq_true] at h1;obtain⟨n,b,e⟩:=RA a.ok h1.1;exact⟨n,List.mem_range.2 (by omega),e⟩
theorem NK{c:AZ}{l:List Int}(h:EL c l=true):Gq c.Av l=true:=by
 unfold EL at h;rw[Bool.and_eq_true] at h;exact h.1
section
variable{K:Nat}(hK:1000≤K)
include hK
theorem Qm(c:AZ)(l:List Int)(a:c.Av.length≤100)(hl:l.length≤100):∀(n m i:Nat),l.length=i+n→i≤c.Av.length→n<m→
  (DL K c l m (i:Int)).bind (fun z=>Sum.elim (fun q=>some q) (fun _=>some ((l.length:Int)==(c.Av.length:Int))) z)=some (Gq (c.Av.drop i) (l.drop i))
 |n,0,i,h,_,hm=>by omega
 |0,m+1,i,h,hi,hm=>by
  rw[DL.eq_2,cf (df (by omega)),List.drop_eq_nil_of_le (by omega:l.length≤i)];show some ((l.length:Int)==(c.Av.length:Int))=_
  by_cases e:i<c.Av.length
  ·rw[List.drop_eq_getElem_cons e,KD (by omega),Yk]
  ·rw[List.drop_eq_nil_of_le (by omega),JS (by omega),Ts]
 |n+1,m+1,i,h,hi,hm=>by
  have h1:i<l.length:=by omega
  rw[DL.eq_2,ct (dt (by omega)),List.drop_eq_getElem_cons h1]
  by_cases e:i<c.Av.length
  ·rw[ct (dt (by omega)),Co h1,Co e,Co e,bd (JO ..),List.drop_eq_getElem_cons e,Gq];cases Ea l[i] c.Av[i].Lo c.Av[i].Hi with
   |false=>rw[nf,Bool.false_and];rfl
   |true=>
    rw[nt,B4 (by omega) (by omega),D6 i,Bool.true_and];exact Qm c l a hl n m (i+1) (by omega) (by omega) (by omega)
  ·rw[cf (df (by omega)),List.drop_eq_nil_of_le (by omega:c.Av.length≤i)];show some ((l.length:Int)==(c.Av.length:Int))=_;rw[KD (by omega),Yl]
theorem SL(c:AZ)(l:List Int)(a:c.Av.length≤100)(hl:l.length≤100):GY K c l=some (Gq c.Av l):=by
 have:=Qm hK c l a hl l.length K 0 (by omega) (by omega) (by omega);rw[Int.natCast_zero,List.drop_zero,List.drop_zero] at this;exact this
omit hK in
theorem Tt (l w:List Int) (hl:l.length≤100) (hw:l.length=w.length) (bw:∀x∈w,0≤x∧x≤30) (bl:∀x∈l,0≤x∧x≤100):∀(n m i:Nat) (s:Int),l.length=i+n→n<m→0≤s∧s≤3000*(i:Int)→
  EK l w m s (i:Int)=some (s+dot (w.drop i) (l.drop i))
 |n,0,i,s,h,hm,_=>by omega
 |0,m+1,i,s,h,hm,hs=>by
  rw[EK.eq_2,cf (df (by omega)),List.drop_eq_nil_of_le (by omega:l.length≤i),VY,Int.add_zero]
 |n+1,m+1,i,s,h,hm,hs=>by
  have h1:i<l.length:=by omega
  have h2:i<w.length:=by omega
  have b1:=bw _ (List.getElem_mem h2)
  have b2:=bl _ (List.getElem_mem h1)
  have b3:=JR b1.1 b1.2 b2.1 b2.2
  rw[EK.eq_2,ct (dt (by omega)),Co h2,Co h1,B4 (by omega) (by omega),B4 (by omega) (by omega),B4 (by omega) (by omega),D6 i,
   Tt l w hl hw bw bl n m (i+1) _ (by omega) (by omega) (by omega),List.drop_eq_getElem_cons h1,List.drop_eq_getElem_cons h2,dot,Int.add_assoc]
theorem Ym{l w:List Int}(hl:l.length≤100)(hw:l.length=w.length)(bw:∀x∈w,0≤x∧x≤30)(bl:∀x∈l,0≤x∧x≤100)(hs:0<w.sum):Di K l w=some (Dx l w):=by
 unfold Di;have h:=Tt l w hl hw bw bl l.length K 0 0 (by omega) (by omega) (by omega);rw[Int.natCast_zero,Int.zero_add,List.drop_zero,List.drop_zero] at h;have h2:=Og w l bw bl;have e:=Lz (a:=0) (b:=30) (by omega) (by omega) w bw;have c:=Ry bw bl hs;unfold Dx at c⊢;rw[bd h,bd (Qf hK w (by omega) (fun x d=>by have:=bw x d;omega)),Uq (by omega) (by omega),B4 (by omega) (by omega)]
end
theorem EZ{α:Type}{l:List α}{i:Nat}(d:α)(h:i<l.length):l.getD i d=l[i]:=by simp[List.getElem?_eq_getElem h]
section
variable{K:Nat}(hK:1000≤K)
include hK
theorem MN{c:AZ}(a:OkC c){l:List Int}(hl:Gq c.Av l=true){k:Nat}(b:k<c.AW.length):Di K l c.AW[k]=some (Dx l c.AW[k]):=by
 obtain⟨h1,h2,d,_⟩:=a.EA _ (List.getElem_mem b);have e:=JB hl;have:=a.hl;exact Ym hK (by omega) (by omega) h2 (Ql a.ok hl) d
theorem Uv{c:AZ}(b:OkC c){l:List Int}(hl:Gq c.Av l=true){t:Cp}(f:t∈c.AO):GJ K c l t=some (Ea (HJ c l t) t.Bg t.Bh):=by
 obtain⟨h0,h1,h2⟩:=b.Vq t f;have i:=JB hl;have:=b.hl;have:=b.cl;unfold GJ HJ;cases e:t.BP with
 |true=>
  have g:=h1 e;obtain⟨k,d⟩:∃k:Nat,t.Number=k:=⟨t.Number.toNat,by omega⟩;have a:k<c.AW.length:=by omega
  rw[ct rfl,B4 (by omega) (by omega),ct rfl,d];unfold GV;have h:(k:Int)+(c.Av.length:Int)-(l.length:Int)=(k:Int):=by omega
  rw[cf (df (by omega)),B4 (by omega) (by omega),h,Co a,bd (MN hK b hl a),Option.bind_some,bd (JO ..),Int.toNat_natCast,EZ _ a]
 |false=>
  have g:=h2 e;obtain⟨k,d⟩:∃k:Nat,t.Number=k:=⟨t.Number.toNat,by omega⟩;have a:k<l.length:=by omega
  rw[cf rfl,cf rfl,d];unfold GV;rw[ct (dt (by omega)),Co a,Option.bind_some,bd (JO ..),Int.toNat_natCast,EZ _ a]
theorem SM{c:AZ}(a:OkC c){l:List Int}(b:l.length≤100):F6 K c l=some (EL c l):=by
 have:=a.hl;have:=a.tl;unfold F6 EL;rw[bd (SL hK c l (by omega) b)];cases hl:Gq c.Av l with
 |false=>rw[nf,Bool.false_and]
 |true=>
  have h:C1 K c l K 0=some (cond (c.AO.all fun t=>Ea (HJ c l t) t.Bg t.Bh) (.inr ()) (.inl false)):=
   Kn c.AO (fun m i=>C1 K c l m (i:Int)) (fun t=>Ea (HJ c l t) t.Bg t.Bh) false
    (fun m i hi=>by
     show C1 K c l (m+1) (i:Int)=_;rw[C1.eq_2,ct (dt (by omega)),Co hi,bd (Uv hK a hl (List.getElem_mem hi))];cases Ea (HJ c l c.AO[i]) c.AO[i].Bg c.AO[i].Bh with
     |false=>rw[nf,cf rfl]
     |true=>rw[nt,B4 (by omega) (by omega),D6 i,ct rfl])
    (fun m=>by
     show C1 K c l (m+1) (c.AO.length:Int)=_;rw[C1.eq_2,cf (df (by omega))]) (by omega)
  rw[nt,bd h,Bool.true_and];unfold Oh;cases c.AO.all fun t=>Ea (HJ c l t) t.Bg t.Bh with
  |false=>rfl
  |true=>rfl
theorem Vr{c:AZ}(hl:c.Av.length≤100)(b:∀r∈c.Av,H9 r):∀(d m i:Nat) (n:Int) (out:List Int),c.Av.length=i+d→d<m→0≤n∧n≤5000→out.length≤i→
  E2 K c m n out (i:Int)=some (out++KE (c.Av.drop i) n)
 |d,0,i,n,out,h,hm,_,_=>by omega
 |0,m+1,i,n,out,h,hm,_,_=>by
  rw[E2.eq_2,cf (df (by omega)),List.drop_eq_nil_of_le (by omega:c.Av.length≤i),KE,List.append_nil]
 |d+1,m+1,i,n,out,h,hm,a,e=>by
  have hi:i<c.Av.length:=by omega
  have h1:=b _ (List.getElem_mem hi);have h2:=HT h1;have f:=Int.emod_nonneg n (by omega:Df c.Av[i]≠0);have g:=Int.emod_lt_of_pos n (by omega:0<Df c.Av[i]);have j:0≤n/Df c.Av[i]:=Int.ediv_nonneg a.1 (by omega);have k:n/Df c.Av[i]≤n:=Int.ediv_le_self _ a.1;have l:0≤c.Av[i].Lo∧c.Av[i].Lo≤100:=by unfold H9 at h1;omega
  rw[E2.eq_2,ct (dt (by omega)),Co hi,bd (ML K h1),Qc a.1 h2.1,B4 (by omega) (by omega),Gc (by simp;omega),bd (ML K h1),Uq a.1 h2.1,B4 (by omega) (by omega),B4 (by omega) (by omega),D6 i,
   Vr hl b d m (i+1) _ _ (by omega) (by omega) (by omega) (by simp;omega),List.drop_eq_getElem_cons hi,KE,List.append_assoc]
  rfl
theorem Yn{c:AZ}(hl:c.Av.length≤100)(a:∀r∈c.Av,H9 r){n:Int}(b:0≤n∧n≤5000):Hr K c n=some (KE c.Av n):=by
 unfold Hr;have:=Vr hK hl a c.Av.length K 0 n [] (by omega) (by omega) b (by simp);rw[Int.natCast_zero,List.drop_zero,List.nil_append] at this;rw[bd this]
theorem Uw(rs:List AP):∀n,(KE rs n).length=rs.length:=by
 clear hK
 induction rs with
 |nil=>intro n;rfl
 |cons r rs ih=>intro n;rw[KE,List.length_cons,List.length_cons,ih]
theorem RB{c:AZ}(a:OkC c):Ei K c=some (Gm c.Av):=by
 have:=a.hl;have:=a.many;rw[Qg hK c (by omega) a.ok,Int.min_eq_right (by omega)]
theorem Ux{c:AZ}(a:OkC c):1≤Gm c.Av:=Pd c.Av 1 a.ok (by omega)
theorem MO{c:AZ}(a:OkC c):∀(d m i:Nat) (acc:List (List Int)),Gm c.Av=(i:Int)+d→d<m→acc.length≤i→
  DE K c m acc (i:Int)=some (acc++((List.range' i d).map fun n:Nat=>KE c.Av (n:Int)).filter (EL c))
 |d,0,i,acc,h,hm,_=>by omega
 |0,m+1,i,acc,h,hm,_=>by
  rw[DE.eq_2,bd (RB hK a),cf (df (by omega))];simp
 |d+1,m+1,i,acc,h,hm,ha=>by
  have b:=a.many;have e:=a.hl;rw[DE.eq_2,bd (RB hK a),ct (dt (by omega)),bd (Yn hK (by omega) a.ok (by omega)),bd (SM hK a (by rw[Uw hK];omega)),List.range'_succ,List.map_cons,List.filter_cons];cases EL c (KE c.Av (i:Int)) with
  |true=>
   rw[ct rfl,Gc (by simp;omega),B4 (by omega) (by omega),D6 i,MO a d m (i+1) _ (by omega) (by omega) (by simp;omega),List.append_assoc];rfl
  |false=>
   rw[cf rfl,B4 (by omega) (by omega),D6 i,MO a d m (i+1) _ (by omega) (by omega) (by omega)];rfl
theorem Tu{c:AZ}(a:OkC c):FC K c=some (Es c):=by
 unfold FC Es;have h1:=Ux hK a;have h2:=a.many;have:=MO hK a (Gm c.Av).toNat K 0 [] (by omega) (by omega) (by simp);rw[Int.natCast_zero,List.nil_append] at this;rw[bd this,List.range_eq_range']
theorem KL(p:List Int)(x:Int)(b:p.length≤900):DV K p x=some (p.contains x):=by
 have h:∀(n m i:Nat),p.length=i+n→n<m→((EH p x m (i:Int)).bind fun z=>Sum.elim (fun q=>some q) (fun _=>some (-1)) z).bind (fun r=>some (decide ((0:Int)≤r)))=some ((p.drop i).contains x):=by
  intro n
  induction n with
  |zero=>
   intro m i h hm;obtain⟨m,rfl⟩:∃a,m=a+1:=⟨m-1,by omega⟩;rw[EH.eq_2,cf (df (by omega)),List.drop_eq_nil_of_le (by omega)];rfl
  |succ n ih=>
   intro m i h hm;obtain⟨m,rfl⟩:∃a,m=a+1:=⟨m-1,by omega⟩;have hi:i<p.length:=by omega
   rw[EH.eq_2,ct (dt (by omega)),Co hi,List.drop_eq_getElem_cons hi,List.contains_cons];cases e:x==p[i] with
   |true=>
    rw[ct rfl,Bool.true_or];show some (decide ((0:Int)≤(i:Int)))=some true;rw[dt (by omega)]
   |false=>rw[cf rfl,B4 (by omega) (by omega),D6 i,Bool.false_or];exact ih m (i+1) (by omega) (by omega)
 have:=h p.length K 0 (by omega) (by omega);rw[Int.natCast_zero,List.drop_zero] at this;exact this
end
def arr (l:List Int):Br:=⟨l.getD 0 0,l.getD 1 0,l.getD 2 0⟩
theorem Yo(l:List Int):(⟨0,0,0⟩:Br).cp l=arr l:=rfl
theorem VZ{w l:List Int}(a:l.length≤3)(h:w.length=l.length):dot w [(arr l).a0,(arr l).a1,(arr l).a2]=dot w l:=by
 match w,l,a,h with
 |[],[],_,_=>rfl
 |[_],[_],_,_=>rfl
 |[_,_],[_,_],_,_=>rfl
 |[_,_,_],[_,_,_],_,_=>rfl
 |_::_::_::_::_,_::_::_::_::_,a,_=>simp at a
theorem KO{l:List Int}(a:l.length≤3){k:Nat}(b:k<l.length):idx [(arr l).a0,(arr l).a1,(arr l).a2] (k:Int)=some l[k]:=by
 match l,k,a,b with
 |_::_,0,_,_=>rfl
 |_::_::_,1,_,_=>rfl
 |_::_::_::_,2,_,_=>rfl
 |l,k+3,a,b=>omega
theorem Yp{l:List Int}(b:∀x∈l,0≤x∧x≤100):∀x∈[(arr l).a0,(arr l).a1,(arr l).a2],0≤x∧x≤100:=by
 have h:∀k,0≤l.getD k 0∧l.getD k 0≤100:=fun k=>by
  by_cases a:k<l.length
  ·rw[EZ _ a];exact b _ (List.getElem_mem a)
  ·rw[List.getD_eq_getElem?_getD,List.getElem?_eq_none (by omega)];simp
 intro x c;simp only[arr,List.mem_cons,List.not_mem_nil,or_false] at c;rcases c with rfl|rfl|rfl<;>exact h _
theorem RC(s:Br)(w:List Int)(hw:w.length≤3)(bw:∀x∈w,0≤x∧x≤30)(bl:∀x∈[s.a0,s.a1,s.a2],0≤x∧x≤100):∀(n m i:Nat) (z:Int),w.length=i+n→n<m→0≤z∧z≤3000*(i:Int)→
  DT s w m z (i:Int)=some (z+dot (w.drop i) ([s.a0,s.a1,s.a2].drop i))
 |n,0,i,z,h,hm,_=>by omega
 |0,m+1,i,z,h,hm,hs=>by
  rw[DT.eq_2,cf (df (by omega)),List.drop_eq_nil_of_le (by omega:w.length≤i)];simp[dot]
 |n+1,m+1,i,z,h,hm,hs=>by
  have h2:i<w.length:=by omega
  have h1:i<[s.a0,s.a1,s.a2].length:=by simp;omega
  have b1:=bw _ (List.getElem_mem h2);have b2:=bl _ (List.getElem_mem h1);have b3:=JR b1.1 b1.2 b2.1 b2.2;rw[DT.eq_2,ct (dt (by omega)),Co h2,Co h1,B4 (by omega) (by omega),B4 (by omega) (by omega),B4 (by omega) (by omega),D6 i,
   RC s w hw bw bl n m (i+1) _ (by omega) (by omega) (by omega),List.drop_eq_getElem_cons h1,List.drop_eq_getElem_cons h2,dot,Int.add_assoc]
section
variable{K:Nat}(hK:1000≤K)
include hK
theorem V0{l w:List Int}(hl:l.length≤3)(hw:w.length=l.length)(bw:∀x∈w,0≤x∧x≤30)(bl:∀x∈l,0≤x∧x≤100)(hs:0<w.sum):EI K (arr l) w=some (Dx l w):=by
 unfold EI;have h:=RC (arr l) w (by omega) bw (Yp bl) w.length K 0 0 (by omega) (by omega) (by omega);rw[Int.natCast_zero,Int.zero_add,List.drop_zero,List.drop_zero,VZ hl hw] at h;have h2:=Og w l bw bl;have e:=Lz (a:=0) (b:=30) (by omega) (by omega) w bw;have c:=Ry bw bl hs;unfold Dx at c⊢;rw[bd h,bd (Ti hK w (by omega) (fun x d=>by have:=bw x d;omega)),Uq (by omega) (by omega),B4 (by omega) (by omega)]
theorem Oj{c:AZ}(a:OkC c){l:List Int}(hl:Gq c.Av l=true){k:Nat}(b:k<c.AW.length):EI K (arr l) c.AW[k]=some (Dx l c.AW[k]):=by
 obtain⟨h1,h2,d,_⟩:=a.EA _ (List.getElem_mem b);have e:=JB hl;have:=a.hl;exact V0 hK (by omega) (by omega) h2 (Ql a.ok hl) d
theorem Uy{c:AZ}(b:OkC c){l:List Int}(hl:Gq c.Av l=true):GG K c (arr l) []=some (Oh c l):=by
 have p:=JB hl;have f:=b.hl;have:=b.cl;have:=b.tl;unfold GG;have h:CY K c (arr l) [] K 0=some (cond (c.AO.all fun t=>Ea (HJ c l t) t.Bg t.Bh) (.inr ()) (.inl false)):=
  Kn c.AO (fun m i=>CY K c (arr l) [] m (i:Int)) (fun t=>Ea (HJ c l t) t.Bg t.Bh) false
   (fun m i hi=>by
    show CY K c (arr l) [] (m+1) (i:Int)=_;obtain⟨h0,h1,h2⟩:=b.Vq _ (List.getElem_mem hi);have e:GF K c c.AO[i]=some (cond c.AO[i].BP ((c.Av.length:Int)+c.AO[i].Number) c.AO[i].Number):=by
     unfold GF;cases e:c.AO[i].BP with
     |true=>have:=h1 e;rw[ct rfl,B4 (by omega) (by omega),ct rfl]
     |false=>rw[cf rfl,cf rfl]
    have g:HE K c (arr l) (cond c.AO[i].BP ((c.Av.length:Int)+c.AO[i].Number) c.AO[i].Number)=some (HJ c l c.AO[i]):=by
     unfold HE HJ;cases e:c.AO[i].BP with
     |true=>
      have f:=h1 e;obtain⟨k,d⟩:∃k:Nat,c.AO[i].Number=k:=⟨c.AO[i].Number.toNat,by omega⟩;have a:k<c.AW.length:=by omega
      have j:(c.Av.length:Int)+(k:Int)-(c.Av.length:Int)=(k:Int):=by omega
      rw[ct rfl,ct rfl,d,ct (dt (by omega)),B4 (by omega) (by omega),j,Co a,bd (Oj hK b hl a),Int.toNat_natCast,EZ _ a]
     |false=>
      have q:=h2 e;obtain⟨k,d⟩:∃k:Nat,c.AO[i].Number=k:=⟨c.AO[i].Number.toNat,by omega⟩;have a:k<l.length:=by omega
      rw[cf rfl,cf rfl,d,cf (df (by omega)),bd (KO (by omega) a),Int.toNat_natCast,EZ _ a]
    have n:Fm K ⟨c.AO[i].Bg,c.AO[i].Bh⟩ (HJ c l c.AO[i])=some (Ea (HJ c l c.AO[i]) c.AO[i].Bg c.AO[i].Bh):=by
     unfold Fm;rw[bd (Ky ..)]
    have o:List.contains ([]:List Int) (i:Int)=false:=rfl;rw[CY.eq_2,ct (dt (by omega)),Co hi,bd (KL hK [] _ (by simp)),o,nf,bd e,bd g,bd n];cases Ea (HJ c l c.AO[i]) c.AO[i].Bg c.AO[i].Bh with
    |false=>rw[nf,cf rfl]
    |true=>rw[nt,B4 (by omega) (by omega),D6 i,ct rfl])
   (fun m=>by
    show CY K c (arr l) [] (m+1) (c.AO.length:Int)=_;rw[CY.eq_2,cf (df (by omega))]) (by omega)
 rw[bd h];unfold Oh;cases c.AO.all fun t=>Ea (HJ c l t) t.Bg t.Bh with
 |false=>rfl
 |true=>rfl
theorem Pe(c:AZ)(l:List Int)(a:c.Av.length≤100)(he:l.length=c.Av.length):∀(n m i:Nat),l.length=i+n→n<m→
  D2 K c l m (i:Int)=some (cond (Gq (c.Av.drop i) (l.drop i)) (.inr ()) (.inl false))
 |n,0,i,h,hm=>by omega
 |0,m+1,i,h,hm=>by
  rw[D2.eq_2,cf (df (by omega)),List.drop_eq_nil_of_le (by omega:l.length≤i),List.drop_eq_nil_of_le (by omega:c.Av.length≤i),Ts,ct rfl]
 |n+1,m+1,i,h,hm=>by
  have h1:i<l.length:=by omega
  have h2:i<c.Av.length:=by omega
  have e:Fm K c.Av[i] l[i]=some (Ea l[i] c.Av[i].Lo c.Av[i].Hi):=by unfold Fm;rw[bd (Ky ..)]
  rw[D2.eq_2,ct (dt (by omega)),Co h2,Co h1,bd e,List.drop_eq_getElem_cons h1,List.drop_eq_getElem_cons h2,Gq];cases Ea l[i] c.Av[i].Lo c.Av[i].Hi with
  |false=>rw[nf,Bool.false_and,cf rfl]
  |true=>rw[nt,B4 (by omega) (by omega),D6 i,Bool.true_and,Pe c l a he n m (i+1) (by omega) (by omega)]
theorem Yq{rs:List AP}{l:List Int}(h:l.length≠rs.length):Gq rs l=false:=by
 rw[Bool.eq_false_iff];intro g;exact h (JB g)
theorem Pf(c:AZ)(l:List Int)(a:c.Av.length≤100)(hl:l.length≤100):Fz K c l=some (cond (Gq c.Av l) (arr l) ⟨0,0,0⟩,Gq c.Av l):=by
 unfold Fz
 by_cases he:l.length=c.Av.length
 ·have:=Pe hK c l a he l.length K 0 (by omega) (by omega);rw[Int.natCast_zero,List.drop_zero,List.drop_zero] at this;rw[cf (JT (by omega)),bd this,Yo];cases Gq c.Av l<;>rfl
 ·rw[ct (Jx (by omega)),Yq hK he,cf rfl]
theorem Qn{c:AZ}(a:OkC c):Ef K c=some 0:=by
 rw[Mj hK c a.len.1 a.len.2.1 a.len.2.2.1 a.len.2.2.2,a.fault]
theorem Px{c:AZ}(a:OkC c){l:List Int}(hl:l.length≤100):Gu K c l=some (EL c l):=by
 have:=a.hl;unfold Gu EL;rw[bd (Qn hK a),cf (JT rfl),bd (Pf hK c l (by omega) hl)];cases h:Gq c.Av l with
 |false=>rw[cf rfl,Bool.false_and]
 |true=>rw[ct rfl,ct rfl,bd (Uy hK a h),Bool.true_and]
theorem V1 {c:AZ} (a:OkC c) {l:List Int} (hl:Gq c.Av l=true):IJ K c l=some (c.AW.map (Dx l),0):=by
 have f:=a.hl;have g:=a.cl;have j:=JB hl;unfold IJ;rw[bd (Qn hK a),cf (JT rfl),bd (Pf hK c l (by omega) (by omega)),hl,nt,ct rfl];have b:∀(d m i:Nat) (acc:List Int),c.AW.length=i+d→d<m→acc.length≤i→Gh K c (arr l,true) m acc (i:Int)=some (acc++(c.AW.drop i).map (Dx l)):=by
  intro d
  induction d with
  |zero=>
   intro m i acc h hm ha;obtain⟨m,rfl⟩:∃e,m=e+1:=⟨m-1,by omega⟩;rw[Gh.eq_2,cf (df (by omega)),List.drop_eq_nil_of_le (by omega),List.map_nil,List.append_nil]
  |succ d ih=>
   intro m i acc h hm ha;obtain⟨m,rfl⟩:∃e,m=e+1:=⟨m-1,by omega⟩;have hi:i<c.AW.length:=by omega
   rw[Gh.eq_2,ct (dt (by omega)),Co hi,bd (Oj hK a hl hi),Gc (by simp;omega),B4 (by omega) (by omega),D6 i,ih m (i+1) _ (by omega) (by omega) (by simp;omega),List.drop_eq_getElem_cons hi,List.map_cons,List.append_assoc];rfl
 have:=b c.AW.length K 0 [] (by omega) (by omega) (by simp);rw[Int.natCast_zero,List.drop_zero,List.nil_append] at this;rw[bd this]
end
def Ga(g:List BI)(s:Int):Int:=match g.find? (fun x=>decide (x.AT≤s)) with|some x=>x.BT|none=>0
def B3 (t:AJ) (l:List Int):List Int:=t.Ab.map fun w=>Ga t.Az (Dx l w)*w.sum
structure OkT(t:AJ):Prop where
 len:Qi t
 fault:Gp t=0
 many:Gm t.Aj≤150
theorem GZ{t:AJ}(h:Gp t=0):Gn t.C=0∧t.Az.length≤3∧t.AE.length≤3∧t.AK.length≤5∧(0≤t.Flat∧t.Flat≤100)∧0<t.Az.length∧Hy 101 100 t.Az=true∧(∀o∈t.AE,I6 t o=true)∧∀n∈t.AK,JU t n=true:=by
 unfold Gp at h;split at h
 ·rename_i h0;exact absurd h h0
 rename_i h0
 split at h
 ·omega
 rename_i h1
 split at h
 ·omega
 rename_i h2
 split at h
 ·omega
 rename_i d
 split at h
 ·omega
 rename_i a
 split at h
 ·omega
 rename_i b
 split at h
 ·omega
 rename_i c
 refine⟨Decidable.byContradiction h0,by omega,by omega,by omega,DS.1 (by simpa using h2),by omega,by simpa using a,?_,?_⟩
 ·exact List.all_eq_true.1 (by simpa using b)
 ·exact List.all_eq_true.1 (by simpa using c)
theorem Pg:∀{l:List BI} {s p:Int},Hy s p l=true→∀g∈l,(0≤g.AT∧g.AT<s)∧0≤g.BT∧g.BT≤p
 |[],_,_,_,g,a=>by cases a
 |x::l,s,p,h,g,a=>by
  rw[Hy,Bool.and_eq_true,Bool.and_eq_true] at h;have h1:=DS.1 h.1;have h2:=DS.1 h.2.1;rcases List.mem_cons.1 a with rfl|a
  ·exact⟨by omega,h2⟩
  ·have:=Pg h.2.2 g a;omega
namespace OkT
variable{t:AJ}(h:OkT t)
include h
theorem c:OkC t.C:=⟨h.len.1,(GZ h.fault).1,h.many⟩
theorem gl:t.Az.length≤3:=(GZ h.fault).2.1
theorem ol:t.AE.length≤3:=(GZ h.fault).2.2.1
theorem nl:t.AK.length≤5:=(GZ h.fault).2.2.2.1
theorem flat:0≤t.Flat∧t.Flat≤100:=(GZ h.fault).2.2.2.2.1
theorem gr:Hy 101 100 t.Az=true:=(GZ h.fault).2.2.2.2.2.2.1
theorem Vs:∀g∈t.Az,(0≤g.AT∧g.AT≤100)∧0≤g.BT∧g.BT≤100:=fun g a=>by have:=Pg h.gr g a;omega
theorem order:∀o∈t.AE,(0≤o.Cr∧o.Cr<t.Az.length)∧1≤o.Cc∧o.Cc≤90:=fun o a=>by
 have h1:=(GZ h.fault).2.2.2.2.2.2.2.1 o a;unfold I6 at h1;rw[Bool.and_eq_true] at h1;have h2:=DS.1 h1.1;exact⟨by omega,DS.1 h1.2⟩
theorem note:∀n∈t.AK,(0≤n.BP∧n.BP<t.Ab.length)∧0≤n.Cg∧n.Cg≤n.Ch∧n.Ch≤9000:=fun n a=>by
 have h1:=(GZ h.fault).2.2.2.2.2.2.2.2 n a;unfold JU at h1;rw[Bool.and_eq_true] at h1;have h2:=DS.1 h1.1;exact⟨by omega,Rx.1 h1.2⟩
theorem EA:∀w∈t.Ab,w.length=t.Aj.length∧(∀x∈w,0≤x∧x≤30)∧0<w.sum∧w.sum≤90:=h.c.EA
theorem kl:t.Ab.length≤3:=h.c.cl
theorem hl:t.Aj.length≤3:=h.c.hl
theorem Vt(s:Int):0≤Ga t.Az s∧Ga t.Az s≤100:=by
 unfold Ga;split
 ·rename_i x a
  exact(h.Vs x (List.mem_of_find?_eq_some a)).2
 ·omega
theorem Abm(l:List Int):∀x∈B3 t l,0≤x∧x≤9000:=fun x a=>by
 unfold B3 at a;obtain⟨w,hw,rfl⟩:=List.mem_map.1 a;have h1:=h.Vt (Dx l w);have h2:=h.EA w hw;have:=JR h1.1 h1.2 (by omega:0≤w.sum) h2.2.2.2;omega
end OkT
theorem JC(t:AJ)(l:List Int):(B3 t l).length=t.Ab.length:=List.length_map ..
section
variable{K:Nat}(hK:1000≤K)
include hK
theorem NL{t:AJ}(a:OkT t){l:List Int}(hl:Gq t.Aj l=true){k:Nat}(b:k<t.Ab.length):∀(i m:Nat) (p:Int),i≤t.Az.length→i<m→p=Ga (t.Az.drop i) (Dx l t.Ab[k])→
  DO K t l (k:Int) m p ((i:Int)-1)=some (Ga t.Az (Dx l t.Ab[k]))
 |i,0,p,hi,hm,d=>by omega
 |0,m+1,p,hi,hm,d=>by
  rw[DO.eq_2,cf (df (by omega)),d,List.drop_zero]
 |i+1,m+1,p,hi,hm,d=>by
  have j:=a.gl;have h1:i<t.Az.length:=by omega
  have e:((i+1:Nat):Int)-1=(i:Int):=by omega
  have f:Di K l t.Ab[k]=some (Dx l t.Ab[k]):=MN hK a.c (c:=t.C) hl b;have g:Ga (t.Az.drop i) (Dx l t.Ab[k])=if t.Az[i].AT≤Dx l t.Ab[k] then t.Az[i].BT else Ga (t.Az.drop (i+1)) (Dx l t.Ab[k]):=by
   rw[List.drop_eq_getElem_cons h1];unfold Ga;rw[List.find?_cons]
   by_cases h:t.Az[i].AT≤Dx l t.Ab[k]
   ·rw[dt h,if_pos h]
   ·rw[df h,if_neg h]
  rw[DO.eq_2,e,ct (dt (by omega)),Co b,bd f,Co h1]
  by_cases h:t.Az[i].AT≤Dx l t.Ab[k]
  ·rw[ct (dt h),Co h1,B4 (by omega) (by omega)];exact NL a hl b i m _ (by omega) (by omega) (by rw[g,if_pos h])
  ·rw[cf (df h),B4 (by omega) (by omega)];exact NL a hl b i m _ (by omega) (by omega) (by rw[g,if_neg h,d])
theorem Qo{t:AJ}(a:OkT t){k:Nat}(b:k<t.Ab.length):Ej K t (k:Int)=some t.Ab[k].sum:=by
 have h1:=a.EA _ (List.getElem_mem b);have:=a.hl;unfold Ej;rw[Co b,bd (Qf hK _ (by omega) (fun x c=>by have:=h1.2.1 x c;omega))]
theorem V2{t:AJ}(a:OkT t){l:List Int}(hl:Gq t.Aj l=true){k:Nat}(b:k<t.Ab.length):GK K t l (k:Int)=some ((B3 t l)[k]'(by rw[JC];exact b)):=by
 have c:=a.gl;have h1:=a.Vt (Dx l t.Ab[k]);have h2:=a.EA _ (List.getElem_mem b);have d:=JR h1.1 h1.2 (by omega:0≤t.Ab[k].sum) h2.2.2.2;unfold GK;rw[B4 (by omega) (by omega),bd (NL hK a hl b t.Az.length K 0 (by omega) (by omega) (by rw[List.drop_eq_nil_of_le (by omega)];rfl)),bd (Qo hK a b),B4 (by omega) (by omega)];simp[B3]
end
def HK (t:AJ) (m:List (List Int×Int)):Prop:=∀(i:Nat) (s v:Int),Ep m [(i:Int),s]=some v→v=Ga t.Az s*(t.Ab.getD i []).sum
theorem V4(t:AJ):HK t []:=fun i s v h=>by cases h
def wk (t:AJ) (a:List Br) (m:List (List Int×Int)):B1:=⟨t.Aj,t.Ab,t.As,t.Flat,t.Az,t.AE,t.AK,t.Ab.map List.sum,a,m⟩
def BV(t:AJ)(l:List Int):Br:=arr (t.Ab.map (Dx l))
theorem V5:∀{l:List Int} {i:Nat} (x:Int),l.length=i→i<3→(arr l).set i x=arr (l++[x])
 |[],_,x,rfl,_=>rfl
 |[_],_,x,rfl,_=>rfl
 |[_,_],_,x,rfl,_=>rfl
 |_::_::_::_,_,x,rfl,h=>by simp at h;omega
section
variable{K:Nat}(hK:1000≤K)
include hK
theorem Qp{t:AJ}(b:OkT t)(a:List Br)(m:List (List Int×Int)){k:Nat}(f:k<t.Ab.length)(s:Int):∀(d n i:Nat),t.Az.length=i+d→d<n→
  DM (wk t a m) ⟨(k:Int),s⟩ n 0 (i:Int)=some (Ga (t.Az.drop i) s*t.Ab[k].sum)
 |d,0,i,h,g=>by omega
 |0,n+1,i,h,g=>by
  have e:((wk t a m).AF.length:Int)=t.Az.length:=rfl;rw[DM.eq_2,cf (df (by omega)),List.drop_eq_nil_of_le (by omega)];simp[Ga]
 |d+1,n+1,i,h,g=>by
  have h1:i<t.Az.length:=by omega
  have l:=b.gl;have c:k<(wk t a m).weights.length:=by show k<(List.map _ _).length;simpa using f
  have j:(wk t a m).weights[k]'c=t.Ab[k].sum:=by simp[wk]
  rw[DM.eq_2,ct (dt (show(i:Int)<((wk t a m).AF.length:Int) by show(i:Int)<(t.Az.length:Int);omega)),Co (xs:=(wk t a m).AF) h1,List.drop_eq_getElem_cons h1];show cond (decide (t.Az[i].AT≤s)) _ _=_
  by_cases h2:t.Az[i].AT≤s
  ·have b1:=(b.Vs _ (List.getElem_mem h1)).2;have b2:=b.EA _ (List.getElem_mem f);have b3:=JR b1.1 b1.2 (by omega:0≤t.Ab[k].sum) b2.2.2.2;rw[ct (dt h2),Co c,j];show(i64 (t.Az[i].BT*_)).bind _=_;rw[B4 (by omega) (by omega)];unfold Ga;rw[List.find?_cons,dt h2];rfl
  ·rw[cf (df h2),B4 (by omega) (by omega),D6 i,Qp b a m f s d n (i+1) (by omega) (by omega)]
   congr 2
   unfold Ga;rw[List.find?_cons,df h2]
theorem Uz{t:AJ}(f:OkT t)(c:List Br){m:List (List Int×Int)}(hm:HK t m){k:Nat}(d:k<t.Ab.length)(s:Int):
  ∃a,HK t a∧FR K (wk t c m) ⟨(k:Int),s⟩=some (Ga t.Az s*t.Ab[k].sum,a):=by
 have j:=f.gl;unfold FR;show∃a,HK t a∧cond (!((Ep m [(k:Int),s]).isSome)) _ _=_;cases e:Ep m [(k:Int),s] with
 |some v=>
  have h1:=hm k s v e;rw[EZ _ d] at h1;refine⟨m,hm,?_⟩;show cond (!true) _ (some ((Ep m [(k:Int),s]).getD 0,m))=_;rw[nt,e,←h1];rfl
 |none=>
  have h:=Qp hK f c m d s t.Az.length K 0 (by omega) (by omega);rw[Int.natCast_zero,List.drop_zero] at h;refine⟨Km m [(k:Int),s] (Ga t.Az s*t.Ab[k].sum),fun i g v b=>?_,?_⟩
  ·rw[Q7] at b;split at b
   ·rename_i he
    simp only[List.cons.injEq,and_true] at he;obtain⟨l,rfl⟩:=he;obtain rfl:i=k:=by omega
    rw[EZ _ d];exact(Option.some.inj b).symm
   ·exact hm i g v b
  ·show cond (!false) ((DM (wk t c m) ⟨(k:Int),s⟩ K ((Ep m [(k:Int),s]).getD 0) 0).bind _) _=_;rw[nf,e,Option.getD_none,bd h];rfl
theorem RD{t:AJ}(c:OkT t)(a:List Br)(b:List (List Int×Int))(l:List Int):∀(d n i:Nat) (m:List (List Int×Int)),t.Ab.length=i+d→d<n→HK t m→
  ∃f,HK t f∧DB K (wk t a b) (BV t l) n (i:Int) (arr ((B3 t l).take i)).a0 (arr ((B3 t l).take i)).a1 (arr ((B3 t l).take i)).a2 m=some ((arr (B3 t l)).a0,(arr (B3 t l)).a1,(arr (B3 t l)).a2,f)
 |d,0,i,m,h,g,_=>by omega
 |0,n+1,i,m,h,g,hm=>by
  have e:((wk t a b).weights.length:Int)=t.Ab.length:=by show((List.map _ _).length:Int)=_;simp
  refine⟨m,hm,?_⟩;rw[DB.eq_2,cf (df (by omega)),List.take_of_length_le (by rw[JC];omega)]
 |d+1,n+1,i,m,h,g,hm=>by
  have j:=c.kl;have e:((wk t a b).weights.length:Int)=t.Ab.length:=by show((List.map _ _).length:Int)=_;simp
  have hi:i<t.Ab.length:=by omega
  have o:i<(B3 t l).length:=by rw[JC];exact hi
  have g1:idx [(BV t l).a0,(BV t l).a1,(BV t l).a2] (i:Int)=some (Dx l t.Ab[i]):=by
   have:=KO (l:=t.Ab.map (Dx l)) (by simpa using j) (k:=i) (by simpa using hi);rw[List.getElem_map] at this;exact this
  obtain⟨p,q,g2⟩:=Uz hK c a hm hi (Dx l t.Ab[i]);have g3:idx ([(arr ((B3 t l).take i)).a0,(arr ((B3 t l).take i)).a1,(arr ((B3 t l).take i)).a2]:List Int) (i:Int)=some (([(arr ((B3 t l).take i)).a0,(arr ((B3 t l).take i)).a1,(arr ((B3 t l).take i)).a2]:List Int)[i]'(by simp;omega)):=idx_eq _;have g4:(arr ((B3 t l).take i)).set i (Ga t.Az (Dx l t.Ab[i])*t.Ab[i].sum)=arr ((B3 t l).take (i+1)):=by
   rw[V5 _ (by rw[List.length_take];omega) (by omega),List.take_succ_eq_append_getElem o];simp[B3]
  obtain⟨s,r,g5⟩:=RD c a b l d n (i+1) p (by omega) (by omega) q;refine⟨s,r,?_⟩;rw[DB.eq_2,ct (dt (by omega)),bd g1];show(FR K (wk t a m) ⟨(i:Int),Dx l t.Ab[i]⟩).bind _=_;rw[bd g2,bd g3,B4 (by omega) (by omega),D6 i,Int.toNat_natCast];show DB K (wk t a b) (BV t l) n ((i+1:Nat):Int) ((arr ((B3 t l).take i)).set i (Ga t.Az (Dx l t.Ab[i])*t.Ab[i].sum)).a0 ((arr ((B3 t l).take i)).set i (Ga t.Az (Dx l t.Ab[i])*t.Ab[i].sum)).a1 ((arr ((B3 t l).take i)).set i (Ga t.Az (Dx l t.Ab[i])*t.Ab[i].sum)).a2 p=_;rw[g4];exact g5
theorem V6{t:AJ}(c:OkT t)(b:List Br){m:List (List Int×Int)}(hm:HK t m)(l:List Int):
  ∃a,HK t a∧Fp K (wk t b m) (BV t l)=some (arr (B3 t l),a):=by
 have:=c.kl;obtain⟨a,h1,h2⟩:=RD hK c b m l t.Ab.length K 0 m (by omega) (by omega) hm;refine⟨a,h1,?_⟩;unfold Fp;have d:DB K (wk t b m) (BV t l) K 0 0 0 0 (wk t b m).known=some ((arr (B3 t l)).a0,(arr (B3 t l)).a1,(arr (B3 t l)).a2,a):=h2;rw[bd d]
end
theorem Ol{σ α:Type}(cb:σ→α→Option (Bool×σ))(a:List α):∀(b:List α) (s:σ),run cb (b++a) s=(run cb b s).bind fun r=>cond r.1 (run cb a r.2) (some (false,r.2))
 |[],s=>rfl
 |x::l,s=>by
  simp only[List.cons_append,run];cases cb s x with
  |none=>rfl
  |some r=>
   simp only[Option.bind_some];cases h:r.1 with
   |false=>simp
   |true=>simpa using Ol cb a l r.2
def IB:List AP→List (List Int)
 |[]=>[[]]
 |r::rs=>(List.range' 0 (Df r).toNat).flatMap fun n:Nat=>(IB rs).map fun x=>(r.Lo+(n:Int))::x
theorem NM:∀{rs:List AP} {l:List Int},(∀r∈rs,H9 r)→(l∈IB rs↔Gq rs l=true)
 |[],[],_=>by simp[IB,Gq]
 |[],_::_,_=>by simp[IB,Gq]
 |r::rs,[],_=>by simp[IB,Gq]
 |r::rs,x::xs,h=>by
  have h1:=h r (List.mem_cons_self ..);have h2:=HT h1;rw[IB,List.mem_flatMap,Gq,Bool.and_eq_true,←NM (fun r d=>h r (List.mem_cons_of_mem _ d)),DS];constructor
  ·rintro⟨n,b,c⟩;obtain⟨y,a,e⟩:=List.mem_map.1 c;injection e with g f
   subst f;rw[List.mem_range'_1] at b;refine⟨?_,a⟩;unfold Df at b h2;omega
  ·rintro⟨c,a⟩;refine⟨(x-r.Lo).toNat,?_,List.mem_map.2 ⟨xs,a,?_⟩⟩
   ·rw[List.mem_range'_1];unfold Df;omega
   ·congr 1;omega
theorem Qq:∀{rs:List AP},(∀r∈rs,H9 r)→((IB rs).length:Int)=Gm rs
 |[],_=>rfl
 |r::rs,h=>by
  have h2:=HT (h r (List.mem_cons_self ..));have a:=Qq (rs:=rs) (fun r b=>h r (List.mem_cons_of_mem _ b));rw[Oi,←a,IB,List.length_flatMap];have:∀(n i:Nat),((List.range' i n).map fun n:Nat=>((IB rs).map fun x=>(r.Lo+(n:Int))::x).length).sum=n*(IB rs).length:=by
   intro n
   induction n with
   |zero=>intro i;simp
   |succ n ih=>intro i;rw[List.range'_succ,List.map_cons,List.sum_cons,ih,List.length_map,Nat.succ_mul,Nat.add_comm]
  rw[this,Int.natCast_mul,Int.toNat_of_nonneg (by omega)]
theorem take_set{out:List Int}{i:Nat}(v:Int)(h:i<out.length):(out.set i v).take (i+1)=out.take i++[v]:=by
 rw[List.take_succ_eq_append_getElem (by simpa using h),List.take_set_of_le (Nat.le_refl _),List.getElem_set_self]
section
variable{K:Nat}(hK:1000≤K)
include hK
theorem Qr{σ:Type}(cb:σ→List Int→Option (Bool×σ))(f:Int→List AP→List Int→σ→Option (Bool×List Int×σ))(l:List AP)(hl:l.length≤100)(i:Nat)(hi:i<l.length)(k:H9 l[i])
  (ih:∀(out:List Int) (s:σ) (b:Bool) (d:σ),out.length=l.length→run cb ((IB (l.drop (i+1))).map fun x=>out.take (i+1)++x) s=some (b,d)→∃c,c.length=l.length∧c.take (i+1)=out.take (i+1)∧f ((i+1:Nat):Int) l out s=some (b,c,d)):
  ∀(e m n:Nat) (out:List Int) (s:σ) (b:Bool) (d:σ),Df l[i]=(n:Int)+e→e<m→out.length=l.length→
   run cb ((List.range' n e).flatMap fun n:Nat=>(IB (l.drop (i+1))).map fun x=>out.take i++(l[i].Lo+(n:Int))::x) s=some (b,d)→
   ∃c,c.length=l.length∧c.take i=out.take i∧(E0 f (i:Int) l (Df l[i]) m (n:Int) out s).bind (fun z=>Sum.elim (fun q=>some (q.1,q.2.1,q.2.2)) (fun q=>some (true,q.1,q.2)) z)=some (b,c,d)
 |e,0,n,out,s,b,d,h,hm,_,_=>by omega
 |0,m+1,n,out,s,b,d,h,hm,o,a=>by
  have:(true,s)=(b,d):=Option.some.inj a;injection this with p t
  subst p;subst t;refine⟨out,o,rfl,?_⟩;rw[E0.eq_2,cf (df (by omega))];rfl
 |e+1,m+1,n,out,s,b,d,h,hm,o,a=>by
  have aC:=HT k;have v:=k;unfold H9 at v;have j:i<out.length:=by omega
  rw[List.range'_succ,List.flatMap_cons,Ol] at a;have w:∀x:List Int,out.take i++(l[i].Lo+(n:Int))::x=(out.set i (l[i].Lo+(n:Int))).take (i+1)++x:=fun x=>by rw[take_set _ j,List.append_assoc];rfl
  simp only[w] at a;cases h1:run cb ((IB (l.drop (i+1))).map fun x=>(out.set i (l[i].Lo+(n:Int))).take (i+1)++x) s with
  |none=>rw[h1] at a;cases a
  |some r=>
   obtain⟨b1,s1⟩:=r;rw[h1,Option.bind_some] at a;obtain⟨g,g1,g2,g3⟩:=ih (out.set i (l[i].Lo+(n:Int))) s b1 s1 (by rw[List.length_set];exact o) h1;have gt:g.take i=out.take i:=by
    have:=congrArg (List.take i) g2;rw[List.take_take,List.take_take,Nat.min_eq_left (by omega),List.take_set_of_le (Nat.le_refl _)] at this;exact this
   rw[E0.eq_2,ct (dt (by omega)),Co hi,B4 (by omega) (by omega),Co j,B4 (by omega) (by omega),D6 i,Int.toNat_natCast,bd g3];cases b1 with
   |false=>
    have:(false,s1)=(b,d):=Option.some.inj a;injection this with p t
    subst p;subst t;exact⟨g,g1,gt,rfl⟩
   |true=>
    rw[nt,B4 (by omega) (by omega),D6 n];simp only[←w] at a;rw[←gt] at a;obtain⟨u,y,aA,aB⟩:=Qr cb f l hl i hi k ih e m (n+1) g s1 b d (by omega) (by omega) g1 a;exact⟨u,y,aA.trans gt,aB⟩
theorem RE{σ:Type}(cb:σ→List Int→Option (Bool×σ))(l:List AP)(hl:l.length≤100)(o:∀r∈l,H9 r):∀(d k i:Nat) (out:List Int) (s:σ) (b:Bool) (c:σ),l.length=i+d→d<k→out.length=l.length→
  run cb ((IB (l.drop i)).map fun x=>out.take i++x) s=some (b,c)→∃f,f.length=l.length∧f.take i=out.take i∧ED K cb k (i:Int) l out s=some (b,f,c)
 |d,0,i,out,s,b,c,h,p,_,_=>by omega
 |0,k+1,i,out,s,b,c,h,p,g,a=>by
  rw[List.drop_eq_nil_of_le (by omega)] at a;have e:(IB []).map (fun x=>out.take i++x)=[out]:=by
   show[out.take i++[]]=[out];rw[List.append_nil,List.take_of_length_le (by omega)]
  rw[e] at a;refine⟨out,g,rfl,?_⟩;rw[ED.eq_2,ct (JS (by omega))];simp only[run] at a;cases h1:cb s out with
  |none=>rw[h1] at a;cases a
  |some r=>
   obtain⟨b1,s1⟩:=r;rw[h1,Option.bind_some] at a;cases b1 with
   |true=>
    have:(true,s1)=(b,c):=Option.some.inj a;injection this with j m
    subst j;subst m;rfl
   |false=>
    have:(false,s1)=(b,c):=Option.some.inj a;injection this with j m
    subst j;subst m;rfl
 |d+1,k+1,i,out,s,b,c,h,p,g,a=>by
  have hi:i<l.length:=by omega
  have n:=o _ (List.getElem_mem hi);have q:=HT n;rw[List.drop_eq_getElem_cons hi,IB,List.map_flatMap] at a;simp only[List.map_map] at a;rw[ED.eq_2,cf (KD (by omega)),Co hi,bd (VU K n)];have:=Qr hK cb (ED K cb k) l hl i hi n (fun out s b c h1 h2=>RE cb l hl o d k (i+1) out s b c (by omega) (by omega) h1 h2) (Df l[i]).toNat K 0 out s b c (by omega) (by omega) g a;rw[Int.natCast_zero] at this;exact this
theorem V7{σ:Type}(cb:σ→List Int→Option (Bool×σ))(l:List AP)(hl:l.length≤100)(c:∀r∈l,H9 r)(s:σ)(b:Bool)(a:σ)(h:run cb (IB l) s=some (b,a)):H0 K cb l s=some a:=by
 unfold H0;obtain⟨d,_,_,h2⟩:=RE hK cb l hl c l.length K 0 (List.replicate (l.length:Int).toNat 0) s b a (by omega) (by omega) (by simp) (by simpa using h);rw[Int.natCast_zero] at h2;rw[mkb (by omega) (by omega) (by omega),bd h2]
theorem Wa(t:AJ)(hl:t.Aj.length≤100):FQ K t=some t.Aj:=by
 have a:∀(d m i:Nat) (acc:List AP),t.Aj.length=i+d→d<m→acc.length≤i→En t m acc (i:Int)=some (acc++t.Aj.drop i):=by
  intro d
  induction d with
  |zero=>
   intro m i acc h hm ha;obtain⟨m,rfl⟩:∃b,m=b+1:=⟨m-1,by omega⟩;rw[En.eq_2,cf (df (by omega)),List.drop_eq_nil_of_le (by omega),List.append_nil]
  |succ d ih=>
   intro m i acc h hm ha;obtain⟨m,rfl⟩:∃b,m=b+1:=⟨m-1,by omega⟩;have hi:i<t.Aj.length:=by omega
   rw[En.eq_2,ct (dt (by omega)),Co hi,Gc (by simp;omega),B4 (by omega) (by omega),D6 i,ih m (i+1) _ (by omega) (by omega) (by simp;omega),List.drop_eq_getElem_cons hi,List.append_assoc];rfl
 have:=a t.Aj.length K 0 [] (by omega) (by omega) (by simp);rw[Int.natCast_zero,List.drop_zero,List.nil_append] at this;unfold FQ;rw[bd this]
theorem Yr{t:AJ}(b:OkT t):EW K t=some (wk t [] []):=by
 have e:=b.kl;have f:=b.hl;have a:∀(d m i:Nat) (acc:List Int),t.Ab.length=i+d→d<m→acc.length≤i→DA K t m (i:Int) acc=some (acc++(t.Ab.drop i).map List.sum):=by
  intro d
  induction d with
  |zero=>
   intro m i acc h hm ha;obtain⟨m,rfl⟩:∃c,m=c+1:=⟨m-1,by omega⟩;rw[DA.eq_2,cf (df (by omega)),List.drop_eq_nil_of_le (by omega),List.map_nil,List.append_nil]
  |succ d ih=>
   intro m i acc h hm ha;obtain⟨m,rfl⟩:∃c,m=c+1:=⟨m-1,by omega⟩;have hi:i<t.Ab.length:=by omega
   have hw:=b.EA _ (List.getElem_mem hi);have hs:CP t.Ab[i] K 0 0=some t.Ab[i].sum:=by
    have:=Od t.Ab[i] (fun m s j=>CP t.Ab[i] m s (j:Int)) (· +·) (fun j s=>0≤s∧s≤30*(j:Int)) id (fun j s hj hs=>by have:=hw.2.1 _ (List.getElem_mem hj);omega)
     (fun m j s hj hs=>by
      have g:=hw.2.1 _ (List.getElem_mem hj);show CP t.Ab[i] (m+1) s (j:Int)=_;rw[CP.eq_2,ct (dt (by omega)),Co hj,B4 (by omega) (by omega),B4 (by omega) (by omega),D6 j])
     (fun m s _=>by
      show CP t.Ab[i] (m+1) s (t.Ab[i].length:Int)=_;rw[CP.eq_2,cf (df (by omega))];rfl) (k:=K) (s0:=0) (by omega) (by omega)
    rw[Lg,Int.zero_add] at this;exact this
   rw[DA.eq_2,ct (dt (by omega)),Co hi,bd hs,Gc (by simp;omega),B4 (by omega) (by omega),D6 i,ih m (i+1) _ (by omega) (by omega) (by simp;omega),List.drop_eq_getElem_cons hi,List.map_cons,List.append_assoc];rfl
 have:=a t.Ab.length K 0 [] (by omega) (by omega) (by simp);rw[Int.natCast_zero,List.drop_zero,List.nil_append] at this;unfold EW;rw[bd this];rfl
theorem Tv{t:AJ}(a:OkT t){l:List Int}(hl:Gq t.Aj l=true):FA K t l=some (BV t l):=by
 unfold FA;have h:IJ K ⟨t.Aj,t.Ab,t.As⟩ l=some (t.Ab.map (Dx l),0):=V1 hK (c:=t.C) a.c hl;rw[bd h];rfl
end
theorem Wb:∀{a b:List Int},a.length=b.length→a.length≤3→arr a=arr b→a=b
 |[],[],_,_,_=>rfl
 |[a],[b],_,_,h=>by injection h with h1;exact congrArg (fun x=>[x]) h1
 |[a,a2],[b,b2],_,_,h=>by
  injection h with h1 h2
  rw[show a=b from h1,show a2=b2 from h2]
 |[a,a2,a3],[b,b2,b3],_,_,h=>by
  injection h with h1 h2 c
  rw[show a=b from h1,show a2=b2 from h2,show a3=b3 from c]
 |_::_::_::_::_,_,_,h,_=>by simp at h
 |[],_::_,h,_,_=>by cases h
 |[_],[],h,_,_=>by cases h
 |[_],_::_::_,h,_,_=>by simp at h
 |[_,_],[],h,_,_=>by cases h
 |[_,_],[_],h,_,_=>by simp at h
 |[_,_],_::_::_::_,h,_,_=>by simp at h
 |[_,_,_],[],h,_,_=>by cases h
 |[_,_,_],[_],h,_,_=>by simp at h
 |[_,_,_],[_,_],h,_,_=>by simp at h
 |[_,_,_],_::_::_::_::_,h,_,_=>by simp at h
theorem Tw {t:AJ} (a:t.Ab.length≤3) {l l':List Int} (h:BV t l=BV t l'):∀w∈t.Ab,Dx l w=Dx l' w:=by
 have e:=Wb (by simp) (by simpa using a) h;intro w hw;obtain⟨i,hi,rfl⟩:=List.getElem_of_mem hw;have:=congrArg (fun x=>x.getD i 0) e;simpa[List.getElem?_eq_getElem hi] using this
theorem Ph{t:AJ}(a:t.Ab.length≤3){l l':List Int}(h:BV t l=BV t l'):B3 t l=B3 t l':=by
 unfold B3;exact List.map_congr_left fun w hw=>by rw[Tw a h w hw]
theorem Ys{x y:Br}(h:[x.a0,x.a1,x.a2]=[y.a0,y.a1,y.a2]):x=y:=by cases x;cases y;simpa using h
def IG(M:List Int)(n:B2):Bool:=Ea (M.getD n.BP.toNat 0) n.Cg n.Ch
def DQ(M out:List Int):Nat→List B2→Bool
 |_,[]=>true
 |i,n::a=>(out.contains (i:Int)||IG M n)&&DQ M out (i+1) a
structure Tr (t:AJ) (L:List (List Int)):Prop where
 Yt:∀l∈L,EL t.C l=true
 all:∀l,EL t.C l=true→∃l'∈L,BV t l'=BV t l
 len:L.length≤150
section
variable{K:Nat}(hK:1000≤K)
include hK
theorem Wc(t:AJ){M out:List Int}(g:M.length≤3)(j:∀n∈t.AK,0≤n.BP∧n.BP<M.length)(hl:t.AK.length≤100)(l:out.length≤900):Fb K t (arr M) out=some (DQ M out 0 t.AK):=by
 have a:∀(d m i:Nat),t.AK.length=i+d→d<m→DN K t (arr M) out m (i:Int)=some (cond (DQ M out i (t.AK.drop i)) (.inr ()) (.inl false)):=by
  intro d
  induction d with
  |zero=>
   intro m i h hm;obtain⟨m,rfl⟩:∃c,m=c+1:=⟨m-1,by omega⟩;rw[DN.eq_2,cf (df (by omega)),List.drop_eq_nil_of_le (by omega),DQ,ct rfl]
  |succ d ih=>
   intro m i h hm;obtain⟨m,rfl⟩:∃c,m=c+1:=⟨m-1,by omega⟩;have hi:i<t.AK.length:=by omega
   rw[DN.eq_2,ct (dt (by omega)),Co hi,bd (KL hK out _ l),List.drop_eq_getElem_cons hi,DQ];cases out.contains (i:Int) with
   |true=>rw[Bool.true_or,Bool.true_and,nt,B4 (by omega) (by omega),D6 i,ih m (i+1) (by omega) (by omega)]
   |false=>
    obtain⟨h1,h2⟩:=j _ (List.getElem_mem hi);obtain⟨k,f⟩:∃k:Nat,t.AK[i].BP=k:=⟨t.AK[i].BP.toNat,by omega⟩;have b:k<M.length:=by omega
    have e:Gv K ⟨t.AK[i].Cg,t.AK[i].Ch⟩ M[k]=some (IG M t.AK[i]):=by
     unfold Gv IG;rw[bd (H3 ..),f,Int.toNat_natCast,EZ _ b]
    rw[nf,f,bd (KO g b),bd e,Bool.false_or];cases IG M t.AK[i] with
    |false=>rw[nf,Bool.false_and,cf rfl]
    |true=>rw[nt,B4 (by omega) (by omega),D6 i,Bool.true_and,ih m (i+1) (by omega) (by omega)]
 have:=a t.AK.length K 0 (by omega) (by omega);rw[Int.natCast_zero,List.drop_zero] at this;unfold Fb;rw[bd this];cases DQ M out 0 t.AK<;>rfl
theorem Qs {t:AJ} (f:OkT t):∀(X:List (List Int)) (a:List (List Int)),(∀l∈X,Gq t.Aj l=true)→a.length+X.length≤5000→
  ∃L:List (List Int),run (fun(st:List Br) (x:List Int)=>Eo K t st x) X (a.map (BV t))=some (true,L.map (BV t))∧(∀l∈L,l∈a∨l∈X∧EL t.C l=true)∧(∀l∈a,l∈L)∧(∀l∈X,EL t.C l=true→∃l'∈L,BV t l'=BV t l)∧L.length≤a.length+X.length
 |[],a,_,_=>⟨a,rfl,fun l h=>.inl h,fun l h=>h,fun l h=>(nomatch h),by simp⟩
 |x::X,a,i,hlen=>by
  have j:=i x (List.mem_cons_self ..);have v:=f.hl;have w:=JB j;rw[List.length_cons] at hlen;have o:Gu K ⟨t.Aj,t.Ab,t.As⟩ x=some (EL t.C x):=Px hK (c:=t.C) f.c (by omega)
  
  have step:∃b:List (List Int),Eo K t (a.map (BV t)) x=some (true,b.map (BV t))∧(∀l∈b,l∈a∨l=x∧EL t.C x=true)∧(∀l∈a,l∈b)∧(EL t.C x=true→∃l'∈b,BV t l'=BV t x)∧b.length≤a.length+1:=by
   unfold Eo;rw[bd o];cases g:EL t.C x with
   |false=>exact⟨a,by rw[nf],fun l h=>.inl h,fun l h=>h,fun h=>(nomatch h),by omega⟩
   |true=>
    have d:∃b:List (List Int),(some (true,a.map (BV t)++[BV t x]):Option (Bool×List Br))=some (true,b.map (BV t))∧(∀l∈b,l∈a∨l=x∧true=true)∧(∀l∈a,l∈b)∧(true=true→∃l'∈b,BV t l'=BV t x)∧b.length≤a.length+1:=
     ⟨a++[x],by simp,fun l h=>by simpa using h,fun l h=>by simp[h],fun _=>⟨x,by simp,rfl⟩,by simp⟩
    rw[nt,bd (Tv hK f j)]
    by_cases h0:a.length=0
    ·rw[ct (JS (by simp[h0])),Gc (by simp;omega)];exact d
    ·rw[cf (KD (by simp;simpa using h0)),B4 (by simp;omega) (by simp;omega)];have e:(((a.map (BV t)).length:Int))-1=((a.length-1:Nat):Int):=by rw[List.length_map];omega
     have k:a.length-1<(a.map (BV t)).length:=by rw[List.length_map];omega
     rw[e,Co k];cases m:([((a.map (BV t))[a.length-1]).a0,((a.map (BV t))[a.length-1]).a1,((a.map (BV t))[a.length-1]).a2] !=[(BV t x).a0,(BV t x).a1,(BV t x).a2]) with
     |true=>rw[ct rfl,Gc (by simp;omega)];exact d
     |false=>
      rw[cf rfl];refine⟨a,rfl,fun l h=>.inl h,fun l h=>h,fun _=>⟨a[a.length-1]'(by omega),List.getElem_mem _,?_⟩,by omega⟩;have h1:[((a.map (BV t))[a.length-1]).a0,((a.map (BV t))[a.length-1]).a1,((a.map (BV t))[a.length-1]).a2]=[(BV t x).a0,(BV t x).a1,(BV t x).a2]:=by simpa using m
      rw[List.getElem_map] at h1;exact Ys h1
  obtain⟨b,s1,s2,p,q,y⟩:=step;obtain⟨L,r,s,n,u,z⟩:=Qs f X b (fun l hl=>i l (List.mem_cons_of_mem _ hl)) (by omega);refine⟨L,by rw[run,bd s1,ct rfl];exact r,?_,fun l hl=>n l (p l hl),?_,by rw[List.length_cons];omega⟩
  ·intro l hl;rcases s l hl with h|h
   ·rcases s2 l h with h|⟨rfl,h⟩
    ·exact .inl h
    ·exact .inr ⟨List.mem_cons_self ..,h⟩
   ·exact .inr ⟨List.mem_cons_of_mem _ h.1,h.2⟩
  ·intro l hl g;rcases List.mem_cons.1 hl with rfl|hl
   ·obtain⟨l',h1,h2⟩:=q g;exact⟨l',n l' h1,h2⟩
   ·exact u l hl g
theorem Yu{t:AJ}(a:OkT t):∃L,Tr t L∧G8 K t=some (wk t (L.map (BV t)) []):=by
 have j:=a.hl;have hlen:((IB t.Aj).length:Int)=Gm t.Aj:=Qq a.c.ok;have b:=a.many;obtain⟨L,d,e,_,f,i⟩:=Qs hK a (IB t.Aj) [] (fun l hl=>(NM (rs:=t.Aj) a.c.ok).1 hl) (by simp;omega);refine⟨L,⟨fun l hl=>?_,fun l hl=>f l ((NM (rs:=t.Aj) a.c.ok).2 (NK hl)) hl,by simp at i;omega⟩,?_⟩
 ·rcases e l hl with h|h
  ·cases h
  ·exact h.2
 ·unfold G8;have g:=V7 hK _ t.Aj (by omega) a.c.ok _ true _ d;rw[List.map_nil] at g;rw[bd (Yr hK a),bd (Wa hK t (by omega)),bd g];rfl
def Lh (t:AJ) (out:List Int) (L:List (List Int)):List (Br×Br):=(L.filter fun l=>DQ (B3 t l) out 0 t.AK).map fun l=>(BV t l,arr (B3 t l))
theorem NN{σ:Type}{t:AJ}(g:OkT t){out:List Int}(u:out.length≤900)(cb:σ→(Br×Br)→Option (Bool×σ))(L:List (List Int))(w:L.length≤150)(f:List (List Int×Int)):∀(d n i:Nat) (m:List (List Int×Int)) (s:σ) (b:Bool) (c:σ),L.length=i+d→d<n→HK t m→
  run cb (Lh t out (L.drop i)) s=some (b,c)→∃j,HK t j∧(Dw cb K (wk t (L.map (BV t)) f) out n (i:Int) m s).bind (fun z=>Sum.elim (fun q=>some (q.1,q.2)) (fun q=>some (q.1,q.2)) z)=some (j,c)
 |d,0,i,m,s,b,c,h,o,_,_=>by omega
 |0,n+1,i,m,s,b,c,h,o,hm,a=>by
  have e:((wk t (L.map (BV t)) f).BU.length:Int)=L.length:=by show((List.map _ _).length:Int)=_;simp
  rw[List.drop_eq_nil_of_le (by omega)] at a;have:(true,s)=(b,c):=Option.some.inj a;injection this with aB k
  subst k;refine⟨m,hm,?_⟩;rw[Dw.eq_2,cf (df (by omega))];rfl
 |d+1,n+1,i,m,s,b,c,h,o,hm,a=>by
  have e:((wk t (L.map (BV t)) f).BU.length:Int)=L.length:=by show((List.map _ _).length:Int)=_;simp
  have x:=g.kl;have aC:=g.nl;have hi:i<L.length:=by omega
  have p:i<(wk t (L.map (BV t)) f).BU.length:=by show i<(List.map _ _).length;simpa using hi
  have k:(wk t (L.map (BV t)) f).BU[i]'p=BV t L[i]:=by simp[wk]
  obtain⟨v,l,g1⟩:=V6 hK g (L.map (BV t)) hm L[i];have g2:Fb K t (arr (B3 t L[i])) out=some (DQ (B3 t L[i]) out 0 t.AK):=Wc hK t (by rw[JC];exact x) (fun n o=>by rw[JC];exact(g.note n o).1) (by omega) u;rw[Dw.eq_2,ct (dt (by omega)),Co p,k];show∃j,HK t j∧(((Fp K (wk t (L.map (BV t)) m) (BV t L[i])).bind _).bind _)=_;rw[bd g1];show∃j,HK t j∧(((Fb K t (arr (B3 t L[i])) out).bind _).bind _)=_;rw[bd g2];unfold Lh at a;rw[List.drop_eq_getElem_cons hi,List.filter_cons] at a;cases y:DQ (B3 t L[i]) out 0 t.AK with
  |false=>
   rw[y,if_neg (by simp)] at a;rw[cf rfl,B4 (by omega) (by omega),D6 i];exact NN g u cb L w f d n (i+1) v s b c (by omega) (by omega) l a
  |true=>
   rw[y,if_pos rfl,List.map_cons,run] at a;rw[ct rfl];cases aA:cb s (BV t L[i],arr (B3 t L[i])) with
   |none=>rw[aA] at a;cases a
   |some r=>
    obtain⟨b1,s1⟩:=r;rw[aA,Option.bind_some] at a;rw[Option.bind_some];cases b1 with
    |false=>
     have:(false,s1)=(b,c):=Option.some.inj a;injection this with aB k
     subst k;exact⟨v,l,rfl⟩
    |true=>
     rw[nt,B4 (by omega) (by omega),D6 i];exact NN g u cb L w f d n (i+1) v s1 b c (by omega) (by omega) l a
theorem Qt{σ:Type}{t:AJ}(d:OkT t){out:List Int}(e:out.length≤900)(cb:σ→(Br×Br)→Option (Bool×σ)){L:List (List Int)}(f:L.length≤150){m:List (List Int×Int)}(hm:HK t m){s:σ}{b:Bool}{a:σ}
  (h:run cb (Lh t out L) s=some (b,a)):∃c,HK t c∧Fi K cb (wk t (L.map (BV t)) m) out s=some (c,a):=
 NN hK d e cb L f m L.length K 0 m s b a (by omega) (by omega) hm (by rw[List.drop_zero];exact h)
theorem SN{t:AJ}(d:OkT t){out:List Int}(f:out.length≤900){L:List (List Int)}(g:L.length≤150){m:List (List Int×Int)}(hm:HK t m):
  ∃a,HK t a∧Dm K (wk t (L.map (BV t)) m) out=some (L.any fun l=>DQ (B3 t l) out 0 t.AK,a):=by
 have c:∃b,run (fun(st:Bool×Bool) (x:Br×Br)=>cond st.2 none (Fq st.1 x)) (Lh t out L) (false,false)=some (b,(L.any fun l=>DQ (B3 t l) out 0 t.AK,L.any fun l=>DQ (B3 t l) out 0 t.AK)):=by
  have e:(L.any fun l=>DQ (B3 t l) out 0 t.AK)= !(Lh t out L).isEmpty:=by
   unfold Lh;rw[Bool.eq_iff_iff,List.any_eq_true];simp
  rw[e];cases Lh t out L with
  |nil=>exact⟨true,rfl⟩
  |cons x X=>exact⟨false,rfl⟩
 obtain⟨b,c⟩:=c;obtain⟨a,h1,h2⟩:=Qt hK d f _ g hm c;refine⟨a,h1,?_⟩;unfold Dm;rw[bd h2];cases L.any fun l=>DQ (B3 t l) out 0 t.AK<;>rfl
end
theorem L3(M out:List Int):∀(a:List B2) (i:Nat),DQ M out i a=true↔∀j (hj:j<a.length),out.contains ((i+j:Nat):Int)=true∨IG M a[j]=true
 |[],i=>by simp[DQ]
 |n::a,i=>by
  rw[DQ,Bool.and_eq_true,Bool.or_eq_true,L3 M out a (i+1)];constructor
  ·rintro⟨h1,h2⟩ j hj;cases j with
   |zero=>simpa using h1
   |succ j=>
    have:=h2 j (by simpa using hj);rw[show i+(j+1)=i+1+j by omega];simpa using this
  ·intro h;refine⟨(show out.contains ((i+0:Nat):Int)=true∨IG M n=true from h 0 (by simp)),fun j hj=>?_⟩;have:=h (j+1) (by simpa using hj);rw[show i+1+j=i+(j+1) by omega];simpa using this
def Ko(M:List Int):Nat→List B2→Nat
 |_,[]=>0
 |i,n::a=>(if IG M n=true then 2^i else 0)|||Ko M (i+1) a
theorem MP(M:List Int):∀(a:List B2) (i j:Nat),(Ko M i a).testBit j=true↔∃q,∃b:q<a.length,j=i+q∧IG M a[q]=true
 |[],i,j=>by simp[Ko]
 |n::a,i,j=>by
  rw[Ko,Nat.testBit_or,Bool.or_eq_true,MP M a (i+1) j];constructor
  ·rintro(h|⟨q,b,rfl,h⟩)
   ·split at h
    ·rename_i c
     rw[Nat.testBit_two_pow,decide_eq_true_eq] at h;exact⟨0,by simp,by omega,by simpa using c⟩
    ·simp at h
   ·exact⟨q+1,by simpa using b,by omega,by simpa using h⟩
  ·rintro⟨q,b,rfl,h⟩;cases q with
   |zero=>
    left;rw[if_pos (by simpa using h),Nat.testBit_two_pow];simp
   |succ q=>exact .inr ⟨q,by simpa using b,by omega,by simpa using h⟩
theorem Tx(M:List Int)(a:List B2):Ko M 0 a=2^a.length-1↔DQ M [] 0 a=true:=by
 rw[L3];constructor
 ·intro h j hj;have:=(MP M a 0 j).1 (by rw[h,Nat.testBit_two_pow_sub_one];simpa using hj);obtain⟨q,b,e,h2⟩:=this;obtain rfl:j=q:=by omega
  exact .inr h2
 ·intro h;refine Nat.eq_of_testBit_eq fun j=>?_;rw[Nat.testBit_two_pow_sub_one,Bool.eq_iff_iff,MP,decide_eq_true_eq];constructor
  ·rintro⟨q,b,rfl,_⟩;omega
  ·intro hj;rcases h j hj with h1|h1
   ·simp at h1
   ·exact⟨j,hj,by omega,h1⟩
theorem Pj:∀i:Nat,i<6→MB .u64 (i:Int)=some ()∧OF 1 (i:Int)=some ()∧J6 1 (i:Int)=((2^i:Nat):Int)∧2^i≤32∧1≤2^i∧OF 2 (i:Int)=some ()∧J6 2 (i:Int)=((2^(i+1):Nat):Int):=by decide+kernel
theorem orN(a b:Nat):P0 (a:Int) (b:Int)=((a|||b:Nat):Int):=by unfold P0;rw[Int.toNat_natCast,Int.toNat_natCast]
theorem Aab{β:Type}{a b:Int}{f:Unit→Option β}(h0:0≤a∧a≤9223372036854775807)(h1:0≤b∧b≤9223372036854775807):(SC a b).bind f=f ():=bd (if_pos ⟨h0,h1⟩)
def K4(t:AJ)(l:List Int):Bool:=EL t.C l&&DQ (B3 t l) [] 0 t.AK
def EM(t:AJ):List (List Int):=(Es t.C).filter fun l=>DQ (B3 t l) [] 0 t.AK
theorem Nx{c:AZ}(a:OkC c):(Es c).length≤150:=by
 have:=a.many;unfold Es;refine Nat.le_trans (List.length_filter_le _ _) ?_;rw[List.length_map,List.length_range];omega
section
variable{K:Nat}(hK:1000≤K)
include hK
theorem UA{t:AJ}(f:OkT t){l:List Int}(hl:Gq t.Aj l=true):GL K t l=some ((Ko (B3 t l) 0 t.AK:Nat):Int):=by
 have p:=f.nl;have a:∀(d m i:Nat) (s:Nat),t.AK.length=i+d→d<m→s<2^5→DP K t l m (s:Int) (i:Int)=some ((s|||Ko (B3 t l) i (t.AK.drop i):Nat):Int):=by
  intro d
  induction d with
  |zero=>
   intro m i s h hm hs;obtain⟨m,rfl⟩:∃g,m=g+1:=⟨m-1,by omega⟩;rw[DP.eq_2,cf (df (by omega)),List.drop_eq_nil_of_le (by omega),Ko,Nat.or_zero]
  |succ d ih=>
   intro m i s h hm hs;obtain⟨m,rfl⟩:∃g,m=g+1:=⟨m-1,by omega⟩;have hi:i<t.AK.length:=by omega
   obtain⟨h1,h2⟩:=(f.note _ (List.getElem_mem hi)).1;obtain⟨k,j⟩:∃k:Nat,t.AK[i].BP=k:=⟨t.AK[i].BP.toNat,by omega⟩;have b:k<t.Ab.length:=by omega
   have c:k<(B3 t l).length:=by rw[JC];exact b
   obtain⟨s1,s2,n,q,r,_⟩:=Pj i (by omega);have e:Ea ((B3 t l)[k]'c) t.AK[i].Cg t.AK[i].Ch=IG (B3 t l) t.AK[i]:=by
    unfold IG;rw[j,Int.toNat_natCast,EZ _ c]
   rw[DP.eq_2,ct (dt (by omega)),Co hi,Co hi,j,bd (V2 hK f hl b),bd (JO ..),e,List.drop_eq_getElem_cons hi,Ko];have o:2^i<2^5:=Nat.pow_lt_pow_right (by omega) (by omega);cases IG (B3 t l) t.AK[i] with
   |true=>
    rw[ct rfl,bd s1,bd s2,n,Aab (by omega) (by omega),B4 (by omega) (by omega),D6 i,orN,if_pos rfl,ih m (i+1) _ (by omega) (by omega) (Nat.or_lt_two_pow hs o),Nat.or_assoc]
   |false=>rw[cf rfl,B4 (by omega) (by omega),D6 i,if_neg (by simp),Nat.zero_or,ih m (i+1) _ (by omega) (by omega) hs]
 have:=a t.AK.length K 0 0 (by omega) (by omega) (by omega);rw[Int.natCast_zero,List.drop_zero,Nat.zero_or] at this;unfold GL;rw[bd this]
theorem Yv{t:AJ}(a:OkT t):Hb K t=some ((2^t.AK.length-1:Nat):Int):=by
 have d:=a.nl;obtain⟨s1,s2,b,e,c,_⟩:=Pj t.AK.length (by omega);unfold Hb;rw[bd s1,bd s2,b,B4 (by omega) (by omega),Int.natCast_sub c];rfl
theorem We{t:AJ}(l:List Int):(((Ko (B3 t l) 0 t.AK:Nat):Int)==((2^t.AK.length-1:Nat):Int))=DQ (B3 t l) [] 0 t.AK:=by
 rw[Bool.eq_iff_iff,beq_iff_eq,←Tx];omega
theorem SO{t:AJ}(a:OkT t):Gl K t=some (EM t):=by
 have hlen:=Nx a.c;have h:FC K ⟨t.Aj,t.Ab,t.As⟩=some (Es t.C):=Tu hK (c:=t.C) a.c;have b:∀(d m i:Nat) (acc:List (List Int)),(Es t.C).length=i+d→d<m→acc.length≤i→DF K t (Es t.C) m acc (i:Int)=some (acc++((Es t.C).drop i).filter fun l=>DQ (B3 t l) [] 0 t.AK):=by
  intro d
  induction d with
  |zero=>
   intro m i acc h hm ha;obtain⟨m,rfl⟩:∃e,m=e+1:=⟨m-1,by omega⟩;rw[DF.eq_2,cf (df (by omega)),List.drop_eq_nil_of_le (by omega),List.filter_nil,List.append_nil]
  |succ d ih=>
   intro m i acc h hm ha;obtain⟨m,rfl⟩:∃e,m=e+1:=⟨m-1,by omega⟩;have hi:i<(Es t.C).length:=by omega
   have f:=(IK a.c).1 (List.getElem_mem hi);rw[DF.eq_2,ct (dt (by omega)),Co hi,bd (UA hK a (NK f)),bd (Yv hK a),We hK,List.drop_eq_getElem_cons hi,List.filter_cons];cases DQ (B3 t (Es t.C)[i]) [] 0 t.AK with
   |true=>
    rw[ct rfl,if_pos rfl,Co hi,Gc (by simp;omega),B4 (by omega) (by omega),D6 i,ih m (i+1) _ (by omega) (by omega) (by simp;omega),List.append_assoc];rfl
   |false=>rw[cf rfl,if_neg (by simp),B4 (by omega) (by omega),D6 i,ih m (i+1) _ (by omega) (by omega) (by omega)]
 have:=b (Es t.C).length K 0 [] (by omega) (by omega) (by simp);rw[Int.natCast_zero,List.drop_zero,List.nil_append] at this;unfold Gl EM;rw[bd h,bd this]
end
def Kp(c:AZ):Bool:=decide (c.Av.length≤5)&&(decide (c.AW.length≤5)&&(decide (c.AO.length≤7)&&((c.AW.all fun l=>decide (l.length≤6))&&(decide (Gn c≠0)||decide (Gm c.Av≤150)))))
def Ih(t:AJ):Bool:=Kp t.C&&(decide (t.Az.length≤5)&&(decide (t.AE.length≤5)&&decide (t.AK.length≤7)))
theorem Pk{c:AZ}:Kp c=true↔c.Av.length≤5∧c.AW.length≤5∧c.AO.length≤7∧(∀l∈c.AW,l.length≤6)∧(Gn c≠0∨Gm c.Av≤150):=by
 simp[Kp]
theorem K5{t:AJ}(h:Ih t=true):Qi t:=by
 unfold Ih at h;rw[Bool.and_eq_true,Bool.and_eq_true,Bool.and_eq_true,decide_eq_true_eq,decide_eq_true_eq,decide_eq_true_eq,Pk] at h;obtain⟨⟨h1,h2,b,a,_⟩,c,d,e⟩:=h;exact⟨⟨by omega,by omega,by omega,fun l hl=>by have:=a l hl;omega⟩,by omega,by omega,by omega⟩
theorem Ka{t:AJ}(h:Ih t=true)(h0:Gp t=0):OkT t:=by
 have hl:=K5 h;unfold Ih at h;rw[Bool.and_eq_true,Pk] at h;have a:=(GZ h0).1;exact⟨hl,h0,by
  rcases h.1.2.2.2.2 with h1|h1
  ·exact absurd a h1
  ·exact h1⟩
section
variable{K:Nat}(hK:1000≤K)
include hK
theorem Qu(l:List Int)(hl:l.length≤1000):Hc K l=some l:=by
 unfold Hc;rw[Gc (by simp;omega),List.nil_append]
theorem Qv(l:List Int)(hl:l.length≤1000):F8 K l=some l:=Qu hK l hl
theorem Na {α:Type} (xs:List α) (F:Nat→Int→List α→Option (List α)) (c:∀m (i:Nat) acc (hi:i<xs.length),acc.length≤i→F (m+1) (i:Int) acc=F m ((i+1:Nat):Int) (acc++[xs[i]]))
  (e:∀m acc,F (m+1) (xs.length:Int) acc=some acc) (hl:xs.length≤900):F K 0 []=some xs:=by
 have a:∀(d m i:Nat) (acc:List α),xs.length=i+d→d<m→acc.length≤i→F m (i:Int) acc=some (acc++xs.drop i):=by
  intro d
  induction d with
  |zero=>
   intro m i acc h hm ha;obtain⟨m,rfl⟩:∃b,m=b+1:=⟨m-1,by omega⟩;obtain rfl:i=xs.length:=by omega
   rw[e,List.drop_eq_nil_of_le (by omega),List.append_nil]
  |succ d ih=>
   intro m i acc h hm ha;obtain⟨m,rfl⟩:∃b,m=b+1:=⟨m-1,by omega⟩;have hi:i<xs.length:=by omega
   rw[c m i acc hi ha,ih m (i+1) _ (by omega) (by omega) (by simp;omega),List.drop_eq_getElem_cons hi,List.append_assoc];rfl
 have:=a xs.length K 0 [] (by omega) (by omega) (by simp);rw[Int.natCast_zero,List.drop_zero,List.nil_append] at this;exact this
theorem UB(c:AZ)(hl:Ut c):FD K c=some c:=by
 obtain⟨h1,h2,f,a⟩:=hl;unfold FD;have b:C6 K c K 0 []=some c.Av:=Na hK c.Av (fun m i acc=>C6 K c m i acc) (fun m i acc hi ha=>by
   show C6 K c (m+1) (i:Int) acc=_;rw[C6.eq_2,ct (dt (by omega)),Co hi];unfold GW;rw[Option.bind_some,Gc (by simp;omega),B4 (by omega) (by omega),D6 i];try rfl) (fun m acc=>by
   show C6 K c (m+1) (c.Av.length:Int) acc=_;rw[C6.eq_2,cf (df (by omega))]) (by omega)
 have d:C2 K c K 0 []=some c.AW:=Na hK c.AW (fun m i acc=>C2 K c m i acc) (fun m i acc hi ha=>by
   show C2 K c (m+1) (i:Int) acc=_;rw[C2.eq_2,ct (dt (by omega)),Co hi,bd (Qu hK _ (by have:=a _ (List.getElem_mem hi);omega)),Gc (by simp;omega),B4 (by omega) (by omega),D6 i];try rfl) (fun m acc=>by
   show C2 K c (m+1) (c.AW.length:Int) acc=_;rw[C2.eq_2,cf (df (by omega))]) (by omega)
 have e:C3 K c K 0 []=some c.AO:=Na hK c.AO (fun m i acc=>C3 K c m i acc) (fun m i acc hi ha=>by
   show C3 K c (m+1) (i:Int) acc=_;rw[C3.eq_2,ct (dt (by omega)),Co hi];unfold GW;rw[Option.bind_some,Gc (by simp;omega),B4 (by omega) (by omega),D6 i];try rfl) (fun m acc=>by
   show C3 K c (m+1) (c.AO.length:Int) acc=_;rw[C3.eq_2,cf (df (by omega))]) (by omega)
 rw[bd b,bd d,bd e]
theorem KP(t:AJ)(hl:Qi t):DC K t=some t:=by
 obtain⟨a,h1,h2,f⟩:=hl;unfold DC;have b:FD K ⟨t.Aj,t.Ab,t.As⟩=some t.C:=UB hK t.C a;have c:Dd t K 0 []=some t.Az:=Na hK t.Az (fun m i acc=>Dd t m i acc) (fun m i acc hi ha=>by
   show Dd t (m+1) (i:Int) acc=_;rw[Dd.eq_2,ct (dt (by omega)),Co hi,Co hi,Gc (by simp;omega),B4 (by omega) (by omega),D6 i];try rfl) (fun m acc=>by
   show Dd t (m+1) (t.Az.length:Int) acc=_;rw[Dd.eq_2,cf (df (by omega))]) (by omega)
 have d:C7 t K 0 []=some t.AE:=Na hK t.AE (fun m i acc=>C7 t m i acc) (fun m i acc hi ha=>by
   show C7 t (m+1) (i:Int) acc=_;rw[C7.eq_2,ct (dt (by omega)),Co hi,Co hi,Gc (by simp;omega),B4 (by omega) (by omega),D6 i];try rfl) (fun m acc=>by
   show C7 t (m+1) (t.AE.length:Int) acc=_;rw[C7.eq_2,cf (df (by omega))]) (by omega)
 have e:C8 K t K 0 []=some t.AK:=Na hK t.AK (fun m i acc=>C8 K t m i acc) (fun m i acc hi ha=>by
   show C8 K t (m+1) (i:Int) acc=_;rw[C8.eq_2,ct (dt (by omega)),Co hi,Co hi];unfold IA;rw[Option.bind_some,Gc (by simp;omega),B4 (by omega) (by omega),D6 i];try rfl) (fun m acc=>by
   show C8 K t (m+1) (t.AK.length:Int) acc=_;rw[C8.eq_2,cf (df (by omega))]) (by omega)
 rw[bd b,bd c,bd d,bd e];rfl
theorem SP(c:AZ):Gn c=0→∀r∈c.Av,H9 r:=fun h=>(H4 h).2.2.2.2.1
theorem Wf(c:AZ):F7 K c=some (Kp c):=by
 unfold F7
 by_cases h1:c.Av.length≤5
 case neg=>rw[ct (dt (by omega))];unfold Kp;rw[df h1,Bool.false_and]
 rw[cf (df (by omega))]
 by_cases h2:c.AW.length≤5
 case neg=>rw[ct (dt (by omega))];unfold Kp;rw[df h2,Bool.false_and,Bool.and_false]
 rw[cf (df (by omega))]
 by_cases a:c.AO.length≤7
 case neg=>rw[ct (dt (by omega))];unfold Kp;rw[df a,Bool.false_and,Bool.and_false,Bool.and_false]
 rw[cf (df (by omega))];have b:Dp c K 0=some (cond (c.AW.all fun l=>decide (l.length≤6)) (.inr ()) (.inl false)):=
  Kn c.AW (fun m i=>Dp c m (i:Int)) (fun l=>decide (l.length≤6)) false
   (fun m i hi=>by
    show Dp c (m+1) (i:Int)=_;rw[Dp.eq_2,ct (dt (by omega)),Co hi]
    by_cases h:c.AW[i].length≤6
    ·rw[cf (df (by omega)),B4 (by omega) (by omega),D6 i,dt h,ct rfl]
    ·rw[ct (dt (by omega)),df h,cf rfl])
   (fun m=>by
    show Dp c (m+1) (c.AW.length:Int)=_;rw[Dp.eq_2,cf (df (by omega))]) (by omega)
 unfold Kp;rw[bd b,dt h1,dt h2,dt a,Bool.true_and,Bool.true_and,Bool.true_and];cases d:c.AW.all fun l=>decide (l.length≤6) with
 |false=>rw[cf rfl,Bool.false_and];rfl
 |true=>
  have e:∀l∈c.AW,l.length≤100:=fun l hl=>by have:=of_decide_eq_true (List.all_eq_true.1 d l hl);omega
  rw[ct rfl,Bool.true_and];show Option.bind (EB K c) _=_;rw[bd (Qh hK c (by omega) (by omega) (by omega) e)]
  by_cases h0:Gn c=0
  ·rw[cf (JT h0),bd (Qg hK c (by omega) (SP hK c h0)),df (show¬(Gn c≠0) by simp[h0]),Bool.false_or]
   congr 1
   rw[Bool.eq_iff_iff,decide_eq_true_eq,decide_eq_true_eq];omega
  ·rw[ct (Jx h0),dt h0,Bool.true_or]
theorem Yw(t:AJ):Hd K t=some (Ih t):=by
 unfold Hd Ih;have h:F7 K ⟨t.Aj,t.Ab,t.As⟩=some (Kp t.C):=Wf hK t.C;rw[bd h];cases Kp t.C with
 |false=>rw[cf rfl,Bool.false_and]
 |true=>
  rw[ct rfl,Bool.true_and]
  by_cases h1:t.Az.length≤5
  case neg=>rw[cf (df (by omega)),df h1,Bool.false_and]
  rw[ct (dt (by omega)),dt h1,Bool.true_and]
  by_cases h2:t.AE.length≤5
  case neg=>rw[cf (df (by omega)),df h2,Bool.false_and]
  rw[ct (dt (by omega)),dt h2,Bool.true_and]
  congr 1
  rw[Bool.eq_iff_iff,decide_eq_true_eq,decide_eq_true_eq];omega
theorem Wg(t:AJ):Fe K t=some (Ih t&&decide (Gp t=0)):=by
 unfold Fe;rw[bd (Yw hK t)];cases h:Ih t with
 |false=>rw[cf rfl,Bool.false_and]
 |true=>
  rw[ct rfl,bd (Tq hK t (K5 h)),Bool.true_and];try rfl
end
def Ii (t:AJ):Int:=if Gp t≠0 then Gp t else if Es t.C=[] then 11 else 0
def Fh(t:AJ):Int:=if Ii t≠0 then Ii t else if EM t=[] then 9 else 0
theorem H5{t:AJ}(h:Ii t=0):Gp t=0∧Es t.C≠[]:=by
 unfold Ii at h;split at h
 ·rename_i h1;exact absurd h h1
 rename_i h1
 split at h
 ·cases h
 exact⟨Decidable.byContradiction h1,‹_›⟩
theorem Jh{t:AJ}(h:Fh t=0):Ii t=0∧EM t≠[]:=by
 unfold Fh at h;split at h
 ·rename_i h1;exact absurd h h1
 rename_i h1
 split at h
 ·cases h
 exact⟨Decidable.byContradiction h1,‹_›⟩
theorem Yx{α:Type}(l:List α):((l.length:Int)==0)=true↔l=[]:=by
 rw[beq_iff_eq];constructor
 ·intro h;exact List.eq_nil_of_length_eq_zero (by omega)
 ·rintro rfl;rfl
theorem Ty{α:Type}{l:List α}(h:l≠[]):((l.length:Int)==0)=false:=by
 rw[Bool.eq_false_iff];exact fun g=>h ((Yx l).1 g)
section
variable{K:Nat}(hK:1000≤K)
include hK
theorem Tz{t:AJ}(a:OkT t){L:List (List Int)}(b:Tr t L):L=[]↔Es t.C=[]:=by
 constructor
 ·rintro rfl;refine List.eq_nil_iff_forall_not_mem.2 fun l hl=>?_;obtain⟨_,h,_⟩:=b.all l ((IK a.c).1 hl);cases h
 ·intro h;refine List.eq_nil_iff_forall_not_mem.2 fun l hl=>?_;have:=(IK a.c).2 (b.Yt l hl);rw[h] at this;cases this
theorem Yy{t:AJ}(a:OkT t){L:List (List Int)}(b:Tr t L)(p:List Int→Bool)(d:∀l l',BV t l=BV t l'→p l=p l'):L.any p=(Es t.C).any p:=by
 rw[Bool.eq_iff_iff,List.any_eq_true,List.any_eq_true];constructor
 ·rintro⟨l,hl,h⟩;exact⟨l,(IK a.c).2 (b.Yt l hl),h⟩
 ·rintro⟨l,hl,h⟩;obtain⟨l',h1,h2⟩:=b.all l ((IK a.c).1 hl);exact⟨l',h1,by rw[d l' l h2];exact h⟩
theorem TA {t:AJ} (h:Ih t=true) (a:Bool):
  (Ii t=0∧a=true∧∃L,Tr t L∧L≠[]∧DW K t a=some (some (wk t (L.map (BV t)) []),0))∨
  (¬(Ii t=0∧a=true)∧DW K t a=some (none,if Gp t=0∧a=false then 2 else Ii t)):=by
 unfold DW;rw[bd (Qk hK t (K5 h))]
 by_cases h0:Gp t=0
 ·have b:=Ka h h0;rw[cf (JT h0)];cases a with
  |false=>exact .inr ⟨by simp,by rw[nf,if_pos ⟨h0,rfl⟩]⟩
  |true=>
   obtain⟨L,c,e⟩:=Yu hK b;rw[nt,bd e];have d:(wk t (L.map (BV t)) []).BU=L.map (BV t):=rfl;rw[d,List.length_map]
   by_cases h1:L=[]
   ·have h2:=(Tz hK b c).1 h1;refine .inr ⟨by rintro⟨f,_⟩;exact(H5 f).2 h2,?_⟩;rw[ct ((Yx _).2 h1),if_neg (by simp)];unfold Ii;rw[if_neg (by simp[h0]),if_pos h2]
   ·have h2:Es t.C≠[]:=fun g=>h1 ((Tz hK b c).2 g);refine .inl ⟨?_,rfl,L,c,h1,by rw[cf (Ty h1)]⟩;unfold Ii;rw[if_neg (by simp[h0]),if_neg h2]
 ·rw[ct (Jx h0)];refine .inr ⟨fun g=>h0 (H5 g.1).1,?_⟩;rw[if_neg (by simp[h0])];unfold Ii;rw[if_pos h0]
theorem TB{t:AJ}(a:OkT t)(out:List Int)(l l':List Int)(h:BV t l=BV t l'):DQ (B3 t l) out 0 t.AK=DQ (B3 t l') out 0 t.AK:=by
 rw[Ph a.kl h]
theorem Nb{t:AJ}(h:Ih t=true)(c:Bool):
  (Fh t=0∧c=true∧∃L m,Tr t L∧HK t m∧CS K t c=some (some (wk t (L.map (BV t)) m),0))∨
  (¬(Fh t=0∧c=true)∧CS K t c=some (none,if Gp t=0∧c=false then 2 else Fh t)):=by
 unfold CS;rcases TA hK h c with⟨h0,o,L,j,d,e⟩|⟨h0,e⟩
 ·have k:=Ka h (H5 h0).1;rw[bd e];obtain⟨m,hm,g⟩:=SN hK k (out:=[]) (by simp) j.len (V4 t);have p:(L.any fun l=>DQ (B3 t l) [] 0 t.AK)=(Es t.C).any fun l=>DQ (B3 t l) [] 0 t.AK:=Yy hK k j _ (TB hK k [])
  by_cases h1:EM t=[]
  ·have i:Fh t=9:=by unfold Fh;rw[if_neg (by simp[h0]),if_pos h1]
   refine .inr ⟨by rw[i];simp,?_⟩;have n:((Es t.C).any fun l=>DQ (B3 t l) [] 0 t.AK)=false:=by
    rw[Bool.eq_false_iff];intro f;obtain⟨l,hl,q⟩:=List.any_eq_true.1 f;have:l∈EM t:=List.mem_filter.2 ⟨hl,q⟩;rw[h1] at this;cases this
   show(cond ((0:Int) !=0) (some ((none:Option B1),(0:Int))) ((Dm K (wk t (L.map (BV t)) []) []).bind _)=_);rw[cf (JT rfl),bd g,p,n,nf,i,o,if_neg (by simp)]
  ·have i:Fh t=0:=by unfold Fh;rw[if_neg (by simp[h0]),if_neg h1]
   have n:((Es t.C).any fun l=>DQ (B3 t l) [] 0 t.AK)=true:=by
    obtain⟨l,hl⟩:=List.exists_mem_of_ne_nil _ h1;obtain⟨a,b⟩:=List.mem_filter.1 hl;exact List.any_eq_true.2 ⟨l,a,b⟩
   refine .inl ⟨i,o,L,m,j,hm,?_⟩;show(cond ((0:Int) !=0) (some ((none:Option B1),(0:Int))) ((Dm K (wk t (L.map (BV t)) []) []).bind _)=_);rw[cf (JT rfl),bd g,p,n,nt];rfl
 ·rw[bd e];have d:(if Gp t=0∧c=false then (2:Int) else Ii t)≠0:=by
   split
   ·omega
   ·rename_i f
    intro g;refine h0 ⟨g,?_⟩;cases c with
    |true=>rfl
    |false=>exact absurd ⟨(H5 g).1,rfl⟩ f
  refine .inr ⟨fun g=>h0 ⟨(Jh g.1).1,g.2⟩,?_⟩;show cond (_ !=0) _ _=_;rw[ct (Jx d)]
  congr 2
  split
  ·rfl
  ·rename_i f
   have:Ii t≠0:=by rw[if_neg f] at d;exact d
   unfold Fh;rw[if_pos this]
end
def Lq(x:Int):List Int→List Int
 |[]=>[x]
 |y::l=>cond (decide (x≤y)) (x::y::l) (y::Lq x l)
def LA:List Int→List Int
 |[]=>[]
 |x::l=>Lq x (LA l)
theorem Qw(x z:Int):∀l,z∈Lq x l↔z=x∨z∈l
 |[]=>by simp[Lq]
 |y::l=>by
  unfold Lq;cases h:decide (x≤y)
  ·simp[Qw x z l];constructor<;>(rintro(h|h|h)<;>simp[h])
  ·simp
theorem Pm(x:Int):∀l,(Lq x l).Perm (x::l)
 |[]=>.refl _
 |y::l=>by
  unfold Lq;cases h:decide (x≤y)
  ·exact((Pm x l).cons y).trans (.swap x y l)
  ·exact .refl _
theorem Kq:∀l,(LA l).Perm l
 |[]=>.refl _
 |x::l=>(Pm x _).trans ((Kq l).cons x)
theorem Ny(x:Int):∀l,l.Pairwise (· ≤·)→(Lq x l).Pairwise (· ≤·)
 |[],_=>by simp[Lq]
 |y::l,h=>by
  unfold Lq;cases b:decide (x≤y)
  ·have h1:¬x≤y:=by simpa using b
   rw[List.pairwise_cons] at h;refine List.pairwise_cons.2 ⟨fun z a=>?_,Ny x l h.2⟩;rcases(Qw x z l).1 a with rfl|a
   ·omega
   ·exact h.1 z a
  ·have h1:x≤y:=by simpa using b
   refine List.pairwise_cons.2 ⟨fun z a=>?_,h⟩;rcases List.mem_cons.1 a with rfl|a
   ·exact h1
   ·exact Int.le_trans h1 ((List.pairwise_cons.1 h).1 z a)
theorem KF:∀l,(LA l).Pairwise (· ≤·)
 |[]=>.nil
 |x::l=>Ny x _ (KF l)
theorem L4(l:List Int):Gg l=LA l:=by
 have hs:(Gg l).Pairwise (· ≤·):=by
  have:=List.pairwise_mergeSort (le:=fun(x y:Int)=>decide (x≤y)) (by intro a b c;simp;omega) (by intro a b;simp;omega) l;exact this.imp (fun h=>by simpa using h)
 refine List.Perm.eq_of_pairwise (le:=(· ≤·)) (fun a b _ _ h1 h2=>Int.le_antisymm h1 h2) hs (KF l) ?_;exact(List.mergeSort_perm l _).trans (Kq l).symm
def OI(a:Nat)(d:B1)(b:List Int):Option (Bool×(List (List Int×Int))):=
 (DX a d).bind fun c=>(DY b c a ([]:List Int) (0:Int)).bind fun z3=>(FJ ((z3.length:Int)≤100000)).bind fun _=>(FJ (((LA z3).length:Int)≤100000)).bind fun _=>some ((decide (((Lib.compact (LA z3)).length:Int)<(b.length:Int)),c.2))
theorem UC:EY=OI:=by
 funext K a b;unfold EY OI;simp only[L4]
def MQ(b:Nat)(c:List Int)(d:B1):Option (Bool×(List (List Int×Int))):=
 (OI b d c).bind fun a=>some ((a.1,a.2))
theorem SQ:EN=MQ:=by
 funext K a b;unfold EN MQ;rw[UC]
def OJ(d:Nat)(e:AJ):Option ((List Int)×Int):=
 (CS d e true).bind fun b=>Option.elim b.1 (cond (b.2 !=0) (some ((([]:List Int),b.2))) (none)) (fun a=>cond (b.2 !=0) (some ((([]:List Int),b.2))) ((Fs d (fun(st:(List (List Int×Int))) (x:(List Int))=>(MQ d x (⟨a.Ao,a.Ap,a.Am,a.BK,a.AF,a.AG,a.AU,a.weights,a.BU,st⟩:B1)).bind fun r=>some (r.1,r.2)) (e.AE.length:Int) a.known).bind fun c=>cond (!c.2.1) (some ((([]:List Int),7))) (some ((c.1,0)))))
theorem UD:Gy=OJ:=by
 funext K a;unfold Gy OJ;rw[SQ]
def OK(a:Nat):Option (Bool):=
 (Cq a 0).bind fun z=>(JM a z [41,62]).bind fun n=>(Cq a 0).bind fun aA=>(Jg a aA).bind fun d=>(Cq a 0).bind fun o=>(Jp a o [0,1]).bind fun b=>(Cq a 0).bind fun p=>(JN a p).bind fun c=>(Cq a 1).bind fun q=>(HI a q).bind fun e=>(Cq a 0).bind fun r=>(OJ a r).bind fun f=>(Cq a 2).bind fun s=>(Jq a s).bind fun g=>(Cq a 2).bind fun t=>(Jr a t).bind fun h=>cond (n.2==0) ((Dj a n.1 [80,120]).bind fun u=>cond (u) (cond (d.2==0) (cond ((d.1.length:Int)==2) ((idx d.1 (0:Int)).bind fun i=>(Dq a 40 80).bind fun j=>cond ([i.Lo,i.Hi]==[j.Lo,j.Hi]) ((idx d.1 (1:Int)).bind fun k=>(Dq a 120 120).bind fun l=>cond ([k.Lo,k.Hi]==[l.Lo,l.Hi]) (cond (b.2==0) ((Dq a 160 200).bind fun m=>cond ([b.1.Lo,b.1.Hi]==[m.Lo,m.Hi]) (cond (c.2.2==0) ((Dj a c.1 [1]).bind fun v=>cond (v) (cond (c.2.1==180) (cond (e.2==0) ((Dj a e.1 [1,0]).bind fun w=>cond (w) (cond (f.2==0) ((Dj a f.1 [0,1]).bind fun x=>cond (x) (cond (g.2==0) (cond (g.1==1) (cond (h.2==0) ((Dj a h.1 [0]).bind fun y=>some (y)) (some (false))) (some (false))) (some (false))) (some (false))) (some (false))) (some (false))) (some (false))) (some (false))) (some (false))) (some (false))) (some (false))) (some (false))) (some (false))) (some (false))) (some (false))) (some (false))) (some (false))) (some (false))
theorem UE:Db=OK:=by
 funext K;unfold Db OK;rw[UD]
set_option maxRecDepth 100000 in
theorem Rc:OK 1000=some true:=by kernel_rfl
theorem SR:Db 1000=some true:=by rw[UE];exact Rc
def EF (s:Nat):List Int:=((List.range 8).filter fun x=>s.testBit x).map fun x:Nat=>(x:Int)
def lexB:List Int→List Int→Bool
 |a::c,b::d=>if a=b then lexB c d else decide (a<b)
 |[],_::_=>true
 |_,[]=>false
def sh (a b:List Int):Bool:=decide (a.length<b.length)||(a.length==b.length&&lexB a b)
theorem Qx:∀a:List Int,lexB a a=false
 |[]=>rfl
 |a::b=>by rw[lexB,if_pos rfl,Qx b]
theorem L5:∀a b:List Int,lexB a b=false→lexB b a=false→a=b
 |[],[],_,_=>rfl
 |[],b::c,h,_=>by cases h
 |a::d,[],_,h=>by cases h
 |a::d,b::c,h,g=>by
  rw[lexB] at h g
  by_cases e:a=b
  ·rw[if_pos e] at h;rw[if_pos e.symm] at g;rw[e,L5 d c h g]
  ·rw[if_neg e,decide_eq_false_iff_not] at h;rw[if_neg (Ne.symm e),decide_eq_false_iff_not] at g;omega
theorem Om:∀a b c:List Int,lexB a b=true→lexB b c=true→lexB a c=true
 |[],b,[],h1,h2=>by cases b<;>cases h1;cases h2
 |[],b,c::g,h1,h2=>rfl
 |a::d,[],c,h1,h2=>by cases h1
 |a::d,b::h,[],h1,h2=>by cases h2
 |a::d,b::h,c::g,h1,h2=>by
  rw[lexB] at h1 h2⊢
  by_cases e:a=b
  ·subst e;rw[if_pos rfl] at h1
   by_cases f:a=c
   ·subst f;rw[if_pos rfl] at h2⊢;exact Om d h g h1 h2
   ·rw[if_neg f] at h2⊢;exact h2
  ·rw[if_neg e,decide_eq_true_eq] at h1
   by_cases f:b=c
   ·subst f;rw[if_neg e,decide_eq_true_eq];exact h1
   ·rw[if_neg f,decide_eq_true_eq] at h2;rw[if_neg (by omega),decide_eq_true_eq];omega
theorem LB{a b:List Int}:sh a b=true↔a.length<b.length∨(a.length=b.length∧lexB a b=true):=by simp[sh]
theorem TD(a:List Int):sh a a=false:=by
 rw[Bool.eq_false_iff];intro h;rcases LB.1 h with h|h
 ·omega
 ·rw[Qx] at h;cases h.2
theorem Yz{a b:List Int}(h:sh a b=false)(g:sh b a=false):a=b:=by
 rw[Bool.eq_false_iff] at h g;have h1:a.length=b.length:=by
  refine Decidable.byContradiction fun e=>?_;rcases Nat.lt_or_gt_of_ne e with e|e
  ·exact h (LB.2 (.inl e))
  ·exact g (LB.2 (.inl e))
 refine L5 a b ?_ ?_
 ·rw[Bool.eq_false_iff];exact fun e=>h (LB.2 (.inr ⟨h1,e⟩))
 ·rw[Bool.eq_false_iff];exact fun e=>g (LB.2 (.inr ⟨h1.symm,e⟩))
theorem UF{a b c:List Int}(h:sh a b=true)(g:sh b c=true):sh a c=true:=by
 rw[LB] at h g⊢;rcases h with h|h<;>rcases g with g|g
 ·exact .inl (by omega)
 ·exact .inl (by omega)
 ·exact .inl (by omega)
 ·exact .inr ⟨by omega,Om _ _ _ h.2 g.2⟩
theorem UG{s:Nat}{r:Int}:r∈EF s↔∃x:Nat,x<8∧s.testBit x=true∧r=x:=by
 unfold EF;simp only[List.mem_map,List.mem_filter,List.mem_range];constructor
 ·rintro⟨x,⟨h1,h2⟩,rfl⟩;exact⟨x,h1,h2,rfl⟩
 ·rintro⟨x,h1,h2,rfl⟩;exact⟨x,⟨h1,h2⟩,rfl⟩
theorem YA{s x k:Nat}(hs:s<2^k)(h:s.testBit x=true):x<k:=by
 refine Decidable.byContradiction fun a=>?_;rw[Nat.testBit_lt_two_pow (Nat.lt_of_lt_of_le hs (Nat.pow_le_pow_right (by omega) (by omega)))] at h;cases h
theorem Re(s:Nat):(EF s).Pairwise (· <·):=by
 unfold EF;rw[List.pairwise_map];have h:(List.range 8).Pairwise (fun a b:Nat=>a<b):=List.pairwise_lt_range;exact(h.sublist (List.filter_sublist)).imp fun h=>by omega
theorem On:∀{l m:List Int},l.Pairwise (· <·)→m.Pairwise (· <·)→(∀x,x∈l↔x∈m)→l=m
 |[],[],_,_,_=>rfl
 |[],b::m,_,_,h=>by have:=(h b).2 (List.mem_cons_self ..);cases this
 |a::l,[],_,_,h=>by have:=(h a).1 (List.mem_cons_self ..);cases this
 |a::l,b::m,h1,h2,h=>by
  rw[List.pairwise_cons] at h1 h2;have f:a=b:=by
   rcases List.mem_cons.1 ((h a).1 (List.mem_cons_self ..)) with e|e
   ·exact e
   ·rcases List.mem_cons.1 ((h b).2 (List.mem_cons_self ..)) with d|d
    ·exact d.symm
    ·have:=h1.1 b d;have:=h2.1 a e;omega
  subst f
  congr 1
  refine On h1.2 h2.2 fun x=>⟨fun c=>?_,fun c=>?_⟩
  ·rcases List.mem_cons.1 ((h x).1 (List.mem_cons_of_mem _ c)) with e|e
   ·have:=h1.1 x c;omega
   ·exact e
  ·rcases List.mem_cons.1 ((h x).2 (List.mem_cons_of_mem _ c)) with e|e
   ·have:=h2.1 x c;omega
   ·exact e
def JV(n:Int):Int→List Int→Bool
 |_,[]=>true
 |lo,x::l=>Ea x lo (n-1)&&JV n (x+1) l
theorem RF{n:Int}:∀{l:List Int} {lo:Int},JV n lo l=true→∀x∈l,lo≤x∧x<n
 |[],_,_,x,a=>by cases a
 |y::l,lo,h,x,a=>by
  rw[JV,Bool.and_eq_true,DS] at h;rcases List.mem_cons.1 a with rfl|a
  ·omega
  ·have:=RF h.2 x a;omega
theorem RG{n:Int}:∀{l:List Int} {lo:Int},lo≤n→JV n lo l=true→(l.length:Int)≤n-lo
 |[],_,h0,_=>by simp;omega
 |y::l,lo,h0,h=>by
  rw[JV,Bool.and_eq_true,DS] at h;have:=RG (by omega) h.2;rw[List.length_cons];omega
theorem TE{n:Nat}:∀{l:List Int} {lo:Int},l.Pairwise (· <·)→(∀x∈l,lo≤x∧x<(n:Int))→JV n lo l=true
 |[],_,_,_=>rfl
 |x::l,lo,h,hm=>by
  have b:=hm x (List.mem_cons_self ..);rw[List.pairwise_cons] at h;rw[JV,Bool.and_eq_true,DS];exact⟨by omega,TE h.2 fun y a=>⟨by have:=h.1 y a;omega,(hm y (List.mem_cons_of_mem _ a)).2⟩⟩
theorem UH{n s:Nat}(hs:s<2^n):JV n 0 (EF s)=true:=by
 refine TE (Re s) fun x a=>?_;obtain⟨y,_,hb,rfl⟩:=UG.1 a;have:=YA hs hb;omega
section
variable{K:Nat}(hK:1000≤K)
include hK
omit hK in
theorem Qy (a b:List Int) (ha:a.length≤900) (hb:b.length≤900):∀(n m i:Nat),a.length=i+n→i≤b.length→n<m→
  (D5 a b m (i:Int)).bind (fun z=>Sum.elim (fun q1=>some q1) (fun _=>some (decide ((a.length:Int)<(b.length:Int)))) z)=some (lexB (a.drop i) (b.drop i))
 |n,0,i,h,_,hm=>by omega
 |0,m+1,i,h,hib,hm=>by
  rw[D5.eq_2,cf (df (by omega)),List.drop_eq_nil_of_le (by omega:a.length≤i)]
  show some _=_
  by_cases e:i<b.length
  ·rw[List.drop_eq_getElem_cons e,dt (by omega)];rfl
  ·rw[List.drop_eq_nil_of_le (by omega:b.length≤i),df (by omega)];rfl
 |n+1,m+1,i,h,hib,hm=>by
  have hi:i<a.length:=by omega
  rw[D5.eq_2,ct (dt (by omega)),List.drop_eq_getElem_cons hi]
  by_cases hj:i<b.length
  ·rw[ct (dt (by omega)),Co hi,Co hj,List.drop_eq_getElem_cons hj,lexB]
   by_cases he:a[i]=b[i]
   ·rw[if_pos he,cf (by simp[he]),B4 (by omega) (by omega),D6 i]
    exact Qy a b ha hb n m (i+1) (by omega) (by omega) (by omega)
   ·rw[if_neg he,ct (by simp[he]),Co hi,Co hj]
    rfl
  ·rw[cf (df (by omega)),List.drop_eq_nil_of_le (by omega:b.length≤i)]
   show some _=_
   rw[df (by omega)];rfl
theorem UI{a b:List Int}(ha:a.length≤900)(hb:b.length≤900):Gk K a b=some (lexB a b):=by
 unfold Gk;have:=Qy a b ha hb a.length K 0 (by omega) (by omega) (by omega);rw[Int.natCast_zero,List.drop_zero,List.drop_zero] at this;exact this
theorem RH(n:Int)(b:0≤n∧n≤100):∀(l:List Int) (s:Int),-1≤s→s≤100→∃a,run (fun(st:Int) (x:Int)=>(Gj K x st n).bind fun r=>some (r.1,r.2)) l s=some (JV n (s+1) l,a)
 |[],s,_,_=>⟨s,rfl⟩
 |x::l,s,h0,h1=>by
  have e:Gj K x s n=some (Ea x (s+1) (n-1),x):=by
   unfold Gj;rw[B4 (by omega) (by omega),B4 (by omega) (by omega),bd (H3 ..)]
  rw[run,bd e,JV,Option.bind_some];cases h:Ea x (s+1) (n-1) with
  |false=>exact⟨x,rfl⟩
  |true=>
   rw[DS] at h;obtain⟨a,hs⟩:=RH n b l x (by omega) (by omega);exact⟨a,by rw[Bool.true_and];exact hs⟩
theorem Wh{n:Int}(a:0≤n∧n≤100){l:List Int}(hl:l.length≤900):Hn K l n=some (JV n 0 l):=by
 unfold Hn;obtain⟨b,hs⟩:=RH hK n a l (-1) (by omega) (by omega);rw[bd ((SK hK _ l hl (-1)).trans hs)];rfl
end
def JW (n:Nat):Nat→List Int→Nat→List (List Int)
 |0,l,_=>[l]
 |m+1,l,a=>(List.range' a (n-m-a)).flatMap fun t:Nat=>JW n m (l++[(t:Int)]) (t+1)
def Js(n i d:Nat):List (List Int):=(List.range' i d).flatMap fun m=>JW n m [] 0
def Jn (p:List Int→Bool):List Int→List (List Int)→List Int
 |cur,[]=>cur
 |_,c::cs=>if p c=true then c else Jn p c cs
theorem MR(p:List Int→Bool):∀(xs ys:List (List Int)) (cur:List Int),xs.any p=false→Jn p cur (xs++ys)=Jn p (Jn p cur xs) ys
 |[],ys,cur,_=>rfl
 |x::xs,ys,cur,h=>by
  rw[List.any_cons,Bool.or_eq_false_iff] at h;simp only[List.cons_append,Jn,h.1];exact MR p xs ys x h.2
theorem MS(p:List Int→Bool):∀(xs ys:List (List Int)) (cur:List Int),xs.any p=true→Jn p cur (xs++ys)=Jn p cur xs
 |[],ys,cur,h=>by cases h
 |x::xs,ys,cur,h=>by
  simp only[List.cons_append,Jn];cases a:p x with
  |true=>rfl
  |false=>
   rw[List.any_cons,a,Bool.false_or] at h;exact MS p xs ys x h
theorem Pn{p:List Int→Bool}:∀{L:List (List Int)} (cur:List Int),L.any p=true→∃A x B,L=A++x::B∧p x=true∧(∀a∈A,p a=false)∧Jn p cur L=x
 |[],cur,h=>by cases h
 |c::L,cur,h=>by
  by_cases b:p c=true
  ·exact⟨[],c,L,rfl,b,by simp,by rw[Jn,if_pos b]⟩
  ·have d:p c=false:=by simpa using b
   rw[List.any_cons,d,Bool.false_or] at h;obtain⟨A,x,B,h1,h2,e,f⟩:=Pn c h;refine⟨c::A,x,B,by rw[h1];rfl,h2,?_,by rw[Jn,if_neg b];exact f⟩;intro a ha;rcases List.mem_cons.1 ha with rfl|ha
   ·exact d
   ·exact e a ha
theorem RI:∀n:Nat,n<8→∀l∈Js n 0 (n+1),∃s:Nat,s<2^n∧EF s=l:=by decide+kernel
theorem RJ:∀n:Nat,n<8→∀s:Nat,s<2^n→EF s∈Js n 0 (n+1):=by decide+kernel
theorem Rf:∀n:Nat,n<8→(Js n 0 (n+1)).Pairwise fun a b=>sh a b=true:=by decide+kernel
structure L6 (n:Nat) (p:List Int→Bool) (x:List Int):Prop where
 is:∃s,s<2^n∧EF s=x
 ok:p x=true
 least:∀s,s<2^n→p (EF s)=true→sh (EF s) x=false
theorem L6.uniq{n:Nat}{p:List Int→Bool}{x y:List Int}(h:L6 n p x)(g:L6 n p y):x=y:=by
 obtain⟨s,hs,rfl⟩:=h.is;obtain⟨b,a,rfl⟩:=g.is;exact Yz (g.least s hs h.ok) (h.least b a g.ok)
theorem L6.ZW{n:Nat}{p:List Int→Bool}{x:List Int}(h:L6 n p x):JV n 0 x=true:=by
 obtain⟨s,hs,rfl⟩:=h.is;exact UH hs
theorem L6.len{n:Nat}{p:List Int→Bool}{x:List Int}(h:L6 n p x):x.length≤n:=by
 have:=RG (by omega) h.ZW;omega
theorem UJ{n:Nat}(b:n<8){p:List Int→Bool}(cur:List Int)(h:(Js n 0 (n+1)).any p=true):L6 n p (Jn p cur (Js n 0 (n+1))):=by
 obtain⟨A,x,B,g1,g2,g3,g4⟩:=Pn cur h;rw[g4];have hs:=Rf n b;refine⟨RI n b x (by rw[g1];simp),g2,fun s c d=>?_⟩;have a:=RJ n b s c;rw[g1] at a hs;rw[List.pairwise_append] at hs;rcases List.mem_append.1 a with h|h
 ·rw[g3 _ h] at d;cases d
 ·rcases List.mem_cons.1 h with h|h
  ·rw[h];exact TD _
  ·have h1:=(List.pairwise_cons.1 hs.2.1).1 _ h;rw[Bool.eq_false_iff];intro h2;have:=UF h1 h2;rw[TD] at this;cases this
theorem UK{n:Nat}(b:n<8)(p:List Int→Bool):(Js n 0 (n+1)).any p=true↔∃s,s<2^n∧p (EF s)=true:=by
 rw[List.any_eq_true];constructor
 ·rintro⟨l,hl,a⟩;obtain⟨s,hs,rfl⟩:=RI n b l hl;exact⟨s,hs,a⟩
 ·rintro⟨s,hs,a⟩;exact⟨_,RJ n b s hs,a⟩
section
variable{K:Nat}(hK:1000≤K)
include hK
theorem TF{σ:Type}{I:σ→Prop}{p:List Int→Bool}{n m:Nat}{l:List Int}(j:n<8)(hm:l.length+(m+1)≤n)(b:(List Int)→Int→Int→(List Int)→Int→σ→Option (Bool×(List Int)×σ))
  (ih:∀(t:Nat) (q:List Int) (s:σ),t<n→I s→∃c,I c∧b (l++[(t:Int)]) ((t+1:Nat):Int) (m:Int) q (n:Int) s=some ((JW n m (l++[(t:Int)]) (t+1)).any p,Jn p q (JW n m (l++[(t:Int)]) (t+1)),c)):
  ∀(d k i:Nat) (q:List Int) (s:σ),d=n-m-i→d<k→i≤n→I s→∃c,I c∧
   (EJ b l ((m+1:Nat):Int) (n:Int) k (i:Int) q s).bind (fun z=>Sum.elim (fun a=>some (a.1,a.2.1,a.2.2)) (fun a=>some (false,a.1,a.2)) z)=
   some (((List.range' i d).flatMap fun t:Nat=>JW n m (l++[(t:Int)]) (t+1)).any p,Jn p q ((List.range' i d).flatMap fun t:Nat=>JW n m (l++[(t:Int)]) (t+1)),c)
 |d,0,i,q,s,h,f,_,_=>by omega
 |0,k+1,i,q,s,h,f,hi,hs=>by
  refine⟨s,hs,?_⟩;rw[EJ.eq_2,B4 (by omega) (by omega),cf (df (by omega))];rfl
 |d+1,k+1,i,q,s,h,f,hi,hs=>by
  have o:(((m+1:Nat):Int)-1)=(m:Int):=by omega
  obtain⟨s1,e,g1⟩:=ih i q s (by omega) hs;rw[EJ.eq_2,B4 (by omega) (by omega),ct (dt (by omega)),Gc (by omega),Gc (by simp;omega),B4 (by omega) (by omega),B4 (by omega) (by omega),o,D6 i,bd g1,List.range'_succ,List.flatMap_cons];cases ha:(JW n m (l++[(i:Int)]) (i+1)).any p with
  |true=>
   refine⟨s1,e,?_⟩;rw[List.any_append,ha,MS p _ _ _ ha,Bool.true_or];rfl
  |false=>
   obtain⟨s2,g,g2⟩:=TF j hm b ih d k (i+1) (Jn p q (JW n m (l++[(i:Int)]) (i+1))) s1 (by omega) (by omega) (by omega) e;refine⟨s2,g,?_⟩;rw[List.any_append,ha,MR p _ _ _ ha,Bool.false_or,cf rfl,B4 (by omega) (by omega)];exact g2
theorem Vu{σ:Type}{I:σ→Prop}{p:List Int→Bool}{n:Nat}(e:n<8)(cb:σ→List Int→Option (Bool×σ))(d:∀s x,I s→x.length≤n→(∀y∈x,0≤y∧y<(n:Int))→∃b,I b∧cb s x=some (p x,b)):
  ∀(m k a:Nat) (l q:List Int) (s:σ),m<k→I s→l.length+m≤n→(∀y∈l,0≤y∧y<(n:Int))→a≤n→∃b,I b∧Eg K cb k l (a:Int) (m:Int) q (n:Int) s=some ((JW n m l a).any p,Jn p q (JW n m l a),b)
 |m,0,a,l,q,s,h,_,_,_,_=>by omega
 |0,k+1,a,l,q,s,h,hs,hl,hb,_=>by
  obtain⟨s1,h1,g⟩:=d s l hs (by omega) hb;refine⟨s1,h1,?_⟩;rw[Eg.eq_2,ct (JS (by omega)),bd g,JW,List.any_cons,List.any_nil,Bool.or_false,Jn,Jn];cases p l<;>rfl
 |m+1,k+1,a,l,q,s,h,hs,hl,hb,f=>by
  rw[Eg.eq_2,cf (KD (by omega)),JW];exact TF hK (p:=p) e hl (Eg K cb k) (fun t q s i hs=>Vu e cb d m k (t+1) (l++[(t:Int)]) q s (by omega) hs (by simp;omega) (fun y c=>by
   rcases List.mem_append.1 c with c|c
   ·exact hb y c
   ·rw[List.mem_singleton.1 c];omega) (by omega)) (n-m-a) K a q s rfl (by omega) f hs
theorem RK{σ:Type}{I:σ→Prop}{p:List Int→Bool}{n:Nat}(e:n<8)(cb:σ→List Int→Option (Bool×σ))(b:∀s x,I s→x.length≤n→(∀y∈x,0≤y∧y<(n:Int))→∃a,I a∧cb s x=some (p x,a)):
  ∀(d k i:Nat) (q:List Int) (s:σ),n+1=i+d→d<k→I s→∃a,I a∧Fc cb K (n:Int) k false (i:Int) q s=some ((Js n i d).any p,Jn p q (Js n i d),a)
 |d,0,i,q,s,h,f,_=>by omega
 |0,k+1,i,q,s,h,f,hs=>by
  refine⟨s,hs,?_⟩;rw[Fc.eq_2,cf (df (by omega))];rfl
 |d+1,k+1,i,q,s,h,f,hs=>by
  obtain⟨s1,c,g1⟩:=Vu hK e cb b i K 0 [] q s (by omega) hs (by simp;omega) (by simp) (by omega);rw[Int.natCast_zero] at g1;rw[Fc.eq_2,ct (dt (by omega)),bd g1];unfold Js;rw[List.range'_succ,List.flatMap_cons];cases ha:(JW n i [] 0).any p with
  |true=>
   refine⟨s1,c,?_⟩;rw[List.any_append,ha,MS p _ _ _ ha,Bool.true_or];rfl
  |false=>
   obtain⟨s2,g,g2⟩:=RK e cb b d k (i+1) (Jn p q (JW n i [] 0)) s1 (by omega) (by omega) c;refine⟨s2,g,?_⟩;rw[List.any_append,ha,MR p _ _ _ ha,Bool.false_or,cf rfl,B4 (by omega) (by omega),D6 i];exact g2
theorem SS{σ:Type}{I:σ→Prop}{p:List Int→Bool}{n:Nat}(d:n<8)(cb:σ→List Int→Option (Bool×σ))(b:∀s x,I s→x.length≤n→(∀y∈x,0≤y∧y<(n:Int))→∃a,I a∧cb s x=some (p x,a)){s:σ}(hs:I s):
  ∃a,I a∧Fs K cb (n:Int) s=some (Jn p [] (Js n 0 (n+1)),(Js n 0 (n+1)).any p,a):=by
 obtain⟨s1,c,g1⟩:=RK hK d cb b (n+1) K 0 [] s (by omega) (by omega) hs;refine⟨s1,c,?_⟩;unfold Fs;rw[Int.natCast_zero] at g1;rw[B4 (by omega) (by omega),bd g1]
end
structure MT {α:Type} (S:List α) (f:α→Int) (r:AP):Prop where
 lo:∃l∈S,f l=r.Lo
 hi:∃l∈S,f l=r.Hi
 all:∀l∈S,r.Lo≤f l∧f l≤r.Hi
theorem Wi{r s:AP}(h:r.Lo=s.Lo)(g:r.Hi=s.Hi):r=s:=by cases r;cases s;simp at h g;rw[h,g]
theorem MT.uniq{α:Type}{S:List α}{f:α→Int}{r s:AP}(h:MT S f r)(g:MT S f s):r=s:=by
 obtain⟨a,ha,ea⟩:=h.lo;obtain⟨b,hb,j⟩:=g.lo;obtain⟨c,e,ec⟩:=h.hi;obtain⟨d,i,k⟩:=g.hi;have h1:=g.all a ha;have h2:=h.all b hb;have l:=g.all c e;have m:=h.all d i;exact Wi (by omega) (by omega)
theorem MT.map{α β:Type}{X:List α}{f:α→Int}{S:List β}{g:β→Int}{r:AP}(h:MT X f r)(h1:∀x∈X,∃l∈S,g l=f x)(h2:∀l∈S,∃x∈X,f x=g l):MT S g r:=by
 obtain⟨a,ha,ea⟩:=h.lo;obtain⟨c,i,ec⟩:=h.hi;obtain⟨a',b,m⟩:=h1 a ha;obtain⟨j,d,n⟩:=h1 c i;refine⟨⟨a',b,by omega⟩,⟨j,d,by omega⟩,fun l hl=>?_⟩;obtain⟨x,k,e⟩:=h2 l hl;have:=h.all x k;omega
theorem MT.snoc{α:Type}{S:List α}{f:α→Int}{r:AP}(h:MT S f r)(x:α):MT (S++[x]) f ⟨min r.Lo (f x),max r.Hi (f x)⟩:=by
 obtain⟨a,ha,ea⟩:=h.lo;obtain⟨c,b,ec⟩:=h.hi;refine⟨?_,?_,fun l hl=>?_⟩
 ·by_cases d:r.Lo≤f x
  ·exact⟨a,by simp[ha],by simp only;omega⟩
  ·exact⟨x,by simp,by simp only;omega⟩
 ·by_cases d:f x≤r.Hi
  ·exact⟨c,by simp[b],by simp only;omega⟩
  ·exact⟨x,by simp,by simp only;omega⟩
 ·simp only;rcases List.mem_append.1 hl with hl|hl
  ·have:=h.all l hl;omega
  ·rw[List.mem_singleton.1 hl];omega
theorem MT.one{α:Type}(f:α→Int)(x:α):MT [x] f ⟨f x,f x⟩:=⟨⟨x,by simp,rfl⟩,⟨x,by simp,rfl⟩,fun l hl=>by rw[List.mem_singleton.1 hl];simp⟩
theorem TG{t:AJ}(a:OkT t){l l':List Int}(h:BV t l=BV t l'):B3 t l=B3 t l':=Ph a.kl h
theorem OL{t:AJ}{out:List Int}{L:List (List Int)}{x:Br×Br}:x∈Lh t out L↔∃l∈L,DQ (B3 t l) out 0 t.AK=true∧x=(BV t l,arr (B3 t l)):=by
 unfold Lh;simp only[List.mem_map,List.mem_filter];constructor
 ·rintro⟨l,⟨h1,h2⟩,rfl⟩;exact⟨l,h1,h2,rfl⟩
 ·rintro⟨l,h1,h2,rfl⟩;exact⟨l,⟨h1,h2⟩,rfl⟩
theorem Lr{t:AJ}(a:OkT t){l:List Int}:l∈EM t↔K4 t l=true:=by
 unfold EM K4;rw[List.mem_filter,IK a.c,Bool.and_eq_true]
section
variable{K:Nat}(hK:1000≤K)
include hK
end
structure Qz (W:List Int→Int) (n:Nat) (s:List Int):Prop where
 is:∃b,b<2^n∧EF b=s
 YB:∀x,x<2^n→W (EF x)<W s∨(W (EF x)=W s∧lexB (EF x) s=false)
theorem Qz.uniq{W:List Int→Int}{n:Nat}{s a:List Int}(h:Qz W n s)(g:Qz W n a):s=a:=by
 obtain⟨b,hb,rfl⟩:=h.is;obtain⟨b',c,rfl⟩:=g.is;have h1:=h.YB b' c;have h2:=g.YB b hb;rcases h1 with h1|⟨h1,d⟩<;>rcases h2 with h2|⟨h2,e⟩
 ·omega
 ·omega
 ·omega
 ·exact L5 _ _ e d
section
variable{K:Nat}(hK:1000≤K)
include hK
theorem Rg{t:AJ}(a:OkT t):(EM t).length≤150:=Nat.le_trans (List.length_filter_le _ _) (Nx a.c)
theorem SU{t:AJ}(a:OkT t){l:List Int}(h:l∈EM t):Gq t.Aj l=true:=by
 have h1:=(Lr a).1 h;unfold K4 at h1;rw[Bool.and_eq_true] at h1;exact NK h1.1
end
theorem nl{l l':List Int}(h:l=l'):(l !=l')=false:=by subst h;simp
section
variable{K:Nat}(hK:1000≤K)
include hK
end
theorem RL{α:Type}(x:List α)(a:Nat):Ff x (0:Int) (a:Int)=x.take a:=by unfold Ff;simp
def Il(t:AJ)(o:BS):Int:=(t.Az.getD o.Cr.toNat ⟨0,0⟩).AT
def KM (t:AJ) (o:BS) (k:Nat):Bool:=decide (o.Cc≤(t.Ab.getD k []).sum)&&(EM t).all fun l=>decide (Il t o≤Dx l (t.Ab.getD k []))
def Jt(t:AJ)(o:BS):List Int:=((List.range t.Ab.length).filter (KM t o)).map fun k:Nat=>(k:Int)
theorem Li{t:AJ}{o:BS}{x:Int}:x∈Jt t o↔∃k:Nat,k<t.Ab.length∧KM t o k=true∧x=k:=by
 unfold Jt;simp only[List.mem_map,List.mem_filter,List.mem_range];constructor
 ·rintro⟨k,⟨h1,h2⟩,rfl⟩;exact⟨k,h1,h2,rfl⟩
 ·rintro⟨k,h1,h2,rfl⟩;exact⟨k,⟨h1,h2⟩,rfl⟩
theorem QA(t:AJ)(o:BS):(Jt t o).Pairwise (· <·):=by
 unfold Jt;rw[List.pairwise_map];have h:(List.range t.Ab.length).Pairwise (fun a b:Nat=>a<b):=List.pairwise_lt_range;exact(h.sublist (List.filter_sublist)).imp fun h=>by omega
theorem Po(t:AJ)(o:BS):(Jt t o).length≤t.Ab.length:=by
 unfold Jt;rw[List.length_map];exact Nat.le_trans (List.length_filter_le _ _) (by simp)
def EO(t:AJ):List (List Int):=t.AE.map (Jt t)
def C4:List (List Int)→List Int→List Int→Bool
 |[],_,[]=>true
 |s::S,out,x::xs=>s.contains x&&(!out.contains x&&C4 S (out++[x]) xs)
 |_,_,_=>false
theorem I7:∀{S:List (List Int)} {out d:List Int},C4 S out d=true→d.length=S.length
 |[],_,[],_=>rfl
 |[],_,_::_,h=>by cases h
 |_::_,_,[],h=>by cases h
 |s::S,out,x::xs,h=>by
  rw[C4,Bool.and_eq_true,Bool.and_eq_true] at h;rw[List.length_cons,List.length_cons,I7 h.2.2]
theorem NO:∀{S:List (List Int)} {out d:List Int},C4 S out d=true→∀i (h1:i<d.length) (h2:i<S.length),d[i]∈S[i]
 |[],_,[],_,i,h1,_=>by simp at h1
 |[],_,_::_,h,_,_,_=>by cases h
 |_::_,_,[],h,_,_,_=>by cases h
 |s::S,out,x::xs,h,i,h1,h2=>by
  rw[C4,Bool.and_eq_true,Bool.and_eq_true] at h;cases i with
  |zero=>simpa using h.1
  |succ i=>simpa using NO h.2.2 i (by simpa using h1) (by simpa using h2)
structure Oo (t:AJ) (d:List Int):Prop where
 is:C4 (EO t) [] d=true
 first:∀d',C4 (EO t) [] d'=true→lexB d' d=false
theorem Oo.uniq{t:AJ}{d d':List Int}(h:Oo t d)(g:Oo t d'):d=d':=L5 _ _ (g.first d h.is) (h.first d' g.is)
section
variable{K:Nat}(hK:1000≤K)
include hK
theorem RM{t:AJ}(d:OkT t){L:List (List Int)}(n:Tr t L){m:List (List Int×Int)}(hm:HK t m){o:BS}(aE:0≤o.Cr∧o.Cr<t.Az.length){k:Nat}(a:k<t.Ab.length):
  ∃f,HK t f∧EX K (wk t (L.map (BV t)) m) o (k:Int)=some (KM t o k,f):=by
 have e:=d.kl;have i:k<(wk t (L.map (BV t)) m).weights.length:=by show k<(List.map _ _).length;simpa using a
 have z:(wk t (L.map (BV t)) m).weights[k]'i=(t.Ab.getD k []).sum:=by rw[EZ _ a];simp[wk]
 unfold EX KM;rw[Co i,z]
 by_cases hw:(t.Ab.getD k []).sum<o.Cc
 ·exact⟨m,hm,by rw[ct (dt hw),df (by omega),Bool.false_and];rfl⟩
 rw[cf (df hw),dt (by omega),Bool.true_and];obtain⟨g,s⟩:∃g:Nat,o.Cr=g:=⟨o.Cr.toNat,by omega⟩;have j:g<t.Az.length:=by omega
 have u:Il t o=t.Az[g].AT:=by unfold Il;rw[s,Int.toNat_natCast,EZ _ j]
 have v:∀l:List Int,Dt (wk t (L.map (BV t)) m) o (k:Int) (BV t l,arr (B3 t l))=some (if Il t o≤Dx l (t.Ab.getD k []) then (true,false) else (false,true)):=fun l=>by
  have h1:idx [(BV t l).a0,(BV t l).a1,(BV t l).a2] (k:Int)=some (Dx l (t.Ab.getD k [])):=by
   have:=KO (l:=t.Ab.map (Dx l)) (by simpa using e) (k:=k) (by simpa using a);rw[List.getElem_map] at this;rw[EZ _ a];exact this
  unfold Dt;rw[bd h1,s];show(idx t.Az (g:Int)).bind _=_;rw[Co j,u]
  by_cases h2:Dx l (t.Ab.getD k [])<t.Az[g].AT
  ·rw[ct (dt h2),if_neg (by omega)]
  ·rw[cf (df h2),if_pos (by omega)]
 have p:∃b,run (fun(st:Bool) (x:Br×Br)=>cond st none (Dt (wk t (L.map (BV t)) m) o (k:Int) x)) (Lh t [] L) false=some (b, !((Lh t [] L).all fun x=>decide (Il t o≤([x.1.a0,x.1.a1,x.1.a2]:List Int).getD k 0))):=by
  have q:∀x∈Lh t [] L,Dt (wk t (L.map (BV t)) m) o (k:Int) x=some (if Il t o≤([x.1.a0,x.1.a1,x.1.a2]:List Int).getD k 0 then (true,false) else (false,true)):=fun x r=>by
   obtain⟨l,_,_,rfl⟩:=OL.1 r;rw[v l];have h1:=KO (l:=t.Ab.map (Dx l)) (by simpa using e) (k:=k) (by simpa using a);rw[idx_eq (show k<([(arr (t.Ab.map (Dx l))).a0,(arr (t.Ab.map (Dx l))).a1,(arr (t.Ab.map (Dx l))).a2]:List Int).length by simp;omega),List.getElem_map] at h1;have h2:([(BV t l).a0,(BV t l).a1,(BV t l).a2]:List Int).getD k 0=Dx l (t.Ab.getD k []):=by
    rw[EZ _ a,←Option.some.inj h1,EZ _ (show k<([(BV t l).a0,(BV t l).a1,(BV t l).a2]:List Int).length by simp;omega)];rfl
   show some _=some (if Il t o≤([(BV t l).a0,(BV t l).a1,(BV t l).a2]:List Int).getD k 0 then (true,false) else (false,true));rw[h2]
  generalize Lh t [] L=X at q
  induction X with
  |nil=>exact⟨true,rfl⟩
  |cons x X ih=>
   obtain⟨b,hb⟩:=ih fun y aA=>q y (List.mem_cons_of_mem _ aA);rw[run];show∃b,(Dt (wk t (L.map (BV t)) m) o (k:Int) x).bind _=_;rw[bd (q x (List.mem_cons_self ..)),List.all_cons]
   by_cases h1:Il t o≤([x.1.a0,x.1.a1,x.1.a2]:List Int).getD k 0
   ·rw[if_pos h1,dt h1,Bool.true_and];exact⟨b,hb⟩
   ·rw[if_neg h1,df h1,Bool.false_and];exact⟨false,rfl⟩
 obtain⟨b,p⟩:=p;obtain⟨f,c,aB⟩:=Qt hK d (out:=[]) (by simp) _ n.len hm p;refine⟨f,c,?_⟩;rw[bd aB];have aC:((Lh t [] L).all fun x=>decide (Il t o≤([x.1.a0,x.1.a1,x.1.a2]:List Int).getD k 0))=(EM t).all fun l=>decide (Il t o≤Dx l (t.Ab.getD k [])):=by
  have hs:∀l:List Int,([(BV t l).a0,(BV t l).a1,(BV t l).a2]:List Int).getD k 0=Dx l (t.Ab.getD k []):=fun l=>by
   have h1:=KO (l:=t.Ab.map (Dx l)) (by simpa using e) (k:=k) (by simpa using a);rw[idx_eq (show k<([(arr (t.Ab.map (Dx l))).a0,(arr (t.Ab.map (Dx l))).a1,(arr (t.Ab.map (Dx l))).a2]:List Int).length by simp;omega),List.getElem_map] at h1;rw[EZ _ a,←Option.some.inj h1,EZ _ (show k<([(BV t l).a0,(BV t l).a1,(BV t l).a2]:List Int).length by simp;omega)];rfl
  rw[Bool.eq_iff_iff,List.all_eq_true,List.all_eq_true];constructor
  ·intro h l hl;have c:=(Lr d).1 hl;unfold K4 at c;rw[Bool.and_eq_true] at c;obtain⟨l',aD,w⟩:=n.all l c.1;have:=h (BV t l',arr (B3 t l')) (OL.2 ⟨l',aD,by rw[TG d w];exact c.2,rfl⟩);rw[←hs l,←w];exact this
  ·intro h x r;obtain⟨l,h1,h2,rfl⟩:=OL.1 r;have:=h l ((Lr d).2 (by unfold K4;rw[n.Yt l h1,h2];rfl));rw[←hs l] at this;exact this
 rw[aC];cases (EM t).all fun l=>decide (Il t o≤Dx l (t.Ab.getD k []))<;>rfl
theorem Oq{t:AJ}(l:OkT t){L:List (List Int)}(x:Tr t L){m:List (List Int×Int)}(hm:HK t m):∃a,HK t a∧DX K (wk t (L.map (BV t)) m)=some (EO t,a):=by
 have aA:=l.kl;have aB:=l.ol;have aC:((wk t (L.map (BV t)) m).weights.length:Int)=t.Ab.length:=by show((List.map _ _).length:Int)=_;simp
 have s:(wk t (L.map (BV t)) m).AG=t.AE:=rfl;have u:∀(o:BS),o∈t.AE→∀(d n i:Nat) (acc:List Int) (b:List (List Int×Int)),t.Ab.length=i+d→d<n→acc.length≤i→HK t b→
   ∃c,HK t c∧CZ K (wk t (L.map (BV t)) m) o n acc (i:Int) b=some (acc++((List.range' i d).filter (KM t o)).map (fun k:Nat=>(k:Int)),c):=by
  intro o y d
  induction d with
  |zero=>
   intro n i acc b p q ha e;obtain⟨n,rfl⟩:∃a,n=a+1:=⟨n-1,by omega⟩;exact⟨b,e,by rw[CZ.eq_2,cf (df (by omega))];simp⟩
  |succ d ih=>
   intro n i acc b p q ha e;obtain⟨n,rfl⟩:∃a,n=a+1:=⟨n-1,by omega⟩;obtain⟨c,j,g⟩:=RM hK l x e (l.order o y).1 (k:=i) (by omega);rw[CZ.eq_2,ct (dt (by omega)),List.range'_succ,List.filter_cons];show∃h,HK t h∧(EX K (wk t (L.map (BV t)) b) o (i:Int)).bind _=_;rw[bd g];cases hs:KM t o i with
   |true=>
    obtain⟨h,f,g3⟩:=ih n (i+1) (acc++[(i:Int)]) c (by omega) (by omega) (by simp;omega) j;refine⟨h,f,?_⟩;rw[ct rfl,Gc (by simp;omega),B4 (by omega) (by omega),D6 i];show CZ K (wk t (L.map (BV t)) m) o n (acc++[(i:Int)]) ((i+1:Nat):Int) c=_;rw[g3,if_pos rfl,List.map_cons,List.append_assoc];rfl
   |false=>
    obtain⟨h,f,g3⟩:=ih n (i+1) acc c (by omega) (by omega) (by omega) j;refine⟨h,f,?_⟩;rw[cf rfl,B4 (by omega) (by omega),D6 i];show CZ K (wk t (L.map (BV t)) m) o n acc ((i+1:Nat):Int) c=_;rw[g3,if_neg (by simp)]
 have r:∀(d n i:Nat) (acc:List (List Int)) (b:List (List Int×Int)),t.AE.length=i+d→d<n→acc.length≤i→HK t b→
   ∃c,HK t c∧De K (wk t (L.map (BV t)) m) n acc (i:Int) b=some (acc++(t.AE.drop i).map (Jt t),c):=by
  intro d
  induction d with
  |zero=>
   intro n i acc b p q ha e;obtain⟨n,rfl⟩:∃a,n=a+1:=⟨n-1,by omega⟩;exact⟨b,e,by rw[De.eq_2,s,cf (df (by omega)),List.drop_eq_nil_of_le (by omega)];simp⟩
  |succ d ih=>
   intro n i acc b p q ha e;obtain⟨n,rfl⟩:∃a,n=a+1:=⟨n-1,by omega⟩;have hi:i<t.AE.length:=by omega
   obtain⟨c,j,g2⟩:=u _ (List.getElem_mem hi) t.Ab.length K 0 [] b (by omega) (by omega) (by simp) e;obtain⟨h,f,g3⟩:=ih n (i+1) (acc++[Jt t t.AE[i]]) c (by omega) (by omega) (by simp;omega) j;refine⟨h,f,?_⟩;rw[Int.natCast_zero,List.nil_append,←List.range_eq_range'] at g2;rw[De.eq_2,s,ct (dt (by omega)),Co hi,bd g2,Gc (by simp;omega),B4 (by omega) (by omega),D6 i];have v:De K (wk t (L.map (BV t)) m) n (acc++[Jt t t.AE[i]]) ((i+1:Nat):Int) c=_:=g3;rw[List.drop_eq_getElem_cons hi,List.map_cons];refine v.trans ?_;rw[List.append_assoc];rfl
 obtain⟨a,w,g⟩:=r t.AE.length K 0 [] m (by omega) (by omega) (by simp) hm;refine⟨a,w,?_⟩;unfold DX;rw[Int.natCast_zero,List.nil_append,List.drop_zero] at g;have z:De K (wk t (L.map (BV t)) m) K [] 0 (wk t (L.map (BV t)) m).known=some (EO t,a):=g;rw[bd z]
def OM (S:List (List Int)) (out:List Int) (r:Bool×List Int):Prop:=
 (r.1=true∧∃e,r.2=out++e∧C4 S out e=true∧∀a,C4 S out a=true→lexB a e=false)∨(r.1=false∧r.2=out∧∀a,C4 S out a=false)
theorem ON(S:List (List Int))(u:S.length≤100)(i:Nat)(hi:i<S.length)(hs:S[i].Pairwise (· <·))(hl:S[i].length≤100)(out:List Int)(v:out.length=i)(c:Int→List (List Int)→List Int→Option (Bool×List Int))
  (ih:∀x,∃r,c ((i+1:Nat):Int) S (out++[x])=some r∧OM (S.drop (i+1)) (out++[x]) r):
  ∀(d m j:Nat),S[i].length=j+d→d<m→(∀x∈S[i].take j,∀a,out.contains x=true∨C4 (S.drop (i+1)) (out++[x]) a=false)→
   ∃r,(EE c K (i:Int) S S[i] m (j:Int) out).bind (fun z=>Sum.elim (fun q=>some (q.1,q.2)) (fun q=>some (false,q)) z)=some r∧OM (S.drop i) out r
 |d,0,j,h,hm,_=>by omega
 |0,m+1,j,h,hm,n=>by
  rw[EE.eq_2,cf (df (by omega))];refine⟨(false,out),rfl,.inr ⟨rfl,rfl,fun a=>?_⟩⟩;rw[List.drop_eq_getElem_cons hi];cases a with
  |nil=>rfl
  |cons x xs=>
   rw[C4,Bool.eq_false_iff];intro l;rw[Bool.and_eq_true,Bool.and_eq_true] at l;rw[List.take_of_length_le (by omega)] at n;rcases n x (by simpa using l.1) xs with h1|h1
   ·rw[h1] at l;exact absurd l.2.1 (by decide)
   ·rw[h1] at l;exact absurd l.2.2 (by decide)
 |d+1,m+1,j,h,hm,n=>by
  have hj:j<S[i].length:=by omega
  have next:(∀a,out.contains S[i][j]=true∨C4 (S.drop (i+1)) (out++[S[i][j]]) a=false)→∀x∈S[i].take (j+1),∀a,out.contains x=true∨C4 (S.drop (i+1)) (out++[x]) a=false:=fun y x k a=>by
   rw[List.take_succ_eq_append_getElem hj] at k;rcases List.mem_append.1 k with k|k
   ·exact n x k a
   ·rw[List.mem_singleton.1 k];exact y a
  rw[EE.eq_2,ct (dt (by omega)),Co hj,bd (KL hK out _ (by omega))];cases w:out.contains S[i][j] with
  |true=>
   rw[ct rfl,B4 (by omega) (by omega),D6 j];exact ON S u i hi hs hl out v c ih d m (j+1) (by omega) (by omega) (next fun _=>.inl w)
  |false=>
   obtain⟨r,aA,aB⟩:=ih S[i][j];rw[cf rfl,Gc (by simp;omega),B4 (by omega) (by omega),D6 i,bd aA];rcases aB with⟨h1,e,h2,p,aC⟩|⟨h1,h2,p⟩
   ·obtain⟨s,t⟩:=r;obtain rfl:s=true:=h1;obtain rfl:t=out++[S[i][j]]++e:=h2;refine⟨(true,out++[S[i][j]]++e),rfl,.inl ⟨rfl,S[i][j]::e,by simp,?_,fun a b=>?_⟩⟩
    ·rw[List.drop_eq_getElem_cons hi,C4,p,w];simp
    ·rw[List.drop_eq_getElem_cons hi] at b;cases a with
     |nil=>cases b
     |cons x xs=>
      rw[C4,Bool.and_eq_true,Bool.and_eq_true] at b;have k:x∈S[i]:=by simpa using b.1
      rw[lexB]
      by_cases o:x=S[i][j]
      ·subst o;rw[if_pos rfl];exact aC xs b.2.2
      ·rw[if_neg o];refine df fun aE=>?_;obtain⟨q,aD,rfl⟩:=List.getElem_of_mem k;rcases Nat.lt_or_ge q j with f|f
       ·rcases n S[i][q] (List.mem_take_iff_getElem.2 ⟨q,by omega,rfl⟩) xs with g|g
        ·rw[g] at b;exact absurd b.2.1 (by decide)
        ·rw[g] at b;exact absurd b.2.2 (by decide)
       ·rcases Nat.lt_or_eq_of_le f with f|f
        ·have:=(List.pairwise_iff_getElem.1 hs) j q hj aD f;omega
        ·subst f;exact o rfl
   ·obtain⟨s,t⟩:=r;obtain rfl:s=false:=h1;obtain rfl:t=out++[S[i][j]]:=h2;rw[cf rfl];show∃r,((L2 (out++[S[i][j]]).length (0:Int) (i:Int)).bind fun _=>(i64 ((j:Int)+1)).bind fun _=>EE c K (i:Int) S S[i] m ((j:Int)+1) (Ff (out++[S[i][j]]) (0:Int) (i:Int))).bind _=some r∧_;rw[Yf (by simp;omega),B4 (by omega) (by omega),D6 j,RL,List.take_append_of_le_length (by omega),List.take_of_length_le (by omega)];exact ON S u i hi hs hl out v c ih d m (j+1) (by omega) (by omega) (next fun a=>.inr (p a))
theorem TH(S:List (List Int))(b:S.length≤100)(hs:∀s∈S,s.Pairwise (· <·)∧s.length≤100):∀(d k i:Nat) (out:List Int),S.length=i+d→d<k→out.length=i→∃r,FB K k (i:Int) S out=some r∧OM (S.drop i) out r
 |d,0,i,out,h,c,_=>by omega
 |0,k+1,i,out,h,c,e=>by
  rw[FB.eq_2,ct (JS (by omega)),List.drop_eq_nil_of_le (by omega)];refine⟨_,rfl,.inl ⟨rfl,[],by simp,rfl,fun g f=>?_⟩⟩;cases g with
  |nil=>rfl
  |cons x xs=>cases f
 |d+1,k+1,i,out,h,c,e=>by
  have hi:i<S.length:=by omega
  have a:=hs _ (List.getElem_mem hi);rw[FB.eq_2,cf (KD (by omega)),Co hi];have:=ON hK S b i hi a.1 a.2 out e (FB K k) (fun x=>TH S b hs d k (i+1) (out++[x]) (by omega) (by omega) (by simp;omega)) S[i].length K 0 (by omega) (by omega) (by simp);rw[Int.natCast_zero] at this;exact this
theorem YC{t:AJ}(h:Ih t=true):∃x e,HI K t=some (x,e)∧(Fh t≠0→x=[]∧e=Fh t)∧(Fh t=0→(e=0∧Oo t x∨e=10∧x=[]∧∀d,C4 (EO t) [] d=false)):=by
 unfold HI;rcases Nb hK h true with⟨h0,_,L,m,f,hm,e⟩|⟨h0,e⟩
 ·have b:=Ka h (H5 (Jh h0).1).1;have j:=b.kl;have k:=b.ol;obtain⟨n,l,g1⟩:=Oq hK b f hm;obtain⟨r,g2,g3⟩:=TH hK (EO t) (by unfold EO;simp;omega) (fun s hs=>by
   obtain⟨o,_,rfl⟩:=List.mem_map.1 hs;have:=Po t o;exact⟨QA t o,by omega⟩) (EO t).length K 0 [] (by omega) (by unfold EO;simp;omega) rfl
  rw[Int.natCast_zero] at g2;rw[bd e];show∃x e,(DX K (wk t (L.map (BV t)) m)).bind _=_∧_;rw[bd g1,bd g2];rcases g3 with⟨h1,x,h2,c,i⟩|⟨h1,h2,c⟩
  ·refine⟨x,0,?_,fun g=>absurd h0 g,fun _=>.inl ⟨rfl,c,i⟩⟩;rw[h1,nt,h2];rfl
  ·refine⟨[],10,?_,fun g=>absurd h0 g,fun _=>.inr ⟨rfl,rfl,c⟩⟩;rw[h1,nf]
 ·have a:Fh t≠0:=fun g=>h0 ⟨g,rfl⟩;refine⟨[],Fh t,?_,fun _=>⟨rfl,rfl⟩,fun g=>absurd g a⟩;rw[if_neg (by simp)] at e;rw[bd e];show cond (_ !=0) _ _=_;rw[ct (Jx a)]
end
theorem OO{a b c:Bool}:(a&&(b&&c))=true↔a=true∧b=true∧c=true:=by rw[Bool.and_eq_true,Bool.and_eq_true]
theorem Gz(t:AJ):(EO t).length=t.AE.length:=List.length_map ..
theorem Lj{t:AJ}{i:Nat}(hi:i<t.AE.length):(EO t)[i]'(by rw[Gz];exact hi)=Jt t t.AE[i]:=by simp[EO]
theorem TI{t:AJ}{o:BS}{x:Int}:(Jt t o).contains x=(Ea x 0 ((t.Ab.length:Int)-1)&&KM t o x.toNat):=by
 rw[Bool.eq_iff_iff,List.contains_iff_mem,Li,Bool.and_eq_true,DS];constructor
 ·rintro⟨k,h1,h2,rfl⟩;exact⟨by omega,by rw[Int.toNat_natCast];exact h2⟩
 ·rintro⟨h1,h2⟩;exact⟨x.toNat,by omega,h2,by omega⟩
section
variable{K:Nat}(hK:1000≤K)
include hK
theorem UL(t:AJ)(hl:t.Ab.length≤100)(x:Int):ET K t x=some (Ea x 0 ((t.Ab.length:Int)-1)):=by
 unfold ET;rw[B4 (by omega) (by omega),bd (H3 ..)]
theorem RN{t:AJ}(a:OkT t){L:List (List Int)}(f:Tr t L)(j:List (List Int×Int))(d:List Int)(v:d.length=t.AE.length):∀(e n i:Nat) (m:List (List Int×Int)),d.length=i+e→e<n→HK t m→
  ∃l,(E1 K t d (wk t (L.map (BV t)) j) n (i:Int) m).bind (fun z=>Sum.elim (fun q=>some q.1) (fun _=>some true) z)=some (C4 ((EO t).drop i) (d.take i) (d.drop i))∧HK t l
 |e,0,i,m,h,o,_=>by omega
 |0,n+1,i,m,h,o,hm=>by
  refine⟨m,?_,hm⟩;rw[E1.eq_2,cf (df (by omega)),List.drop_eq_nil_of_le (by rw[Gz];omega),List.drop_eq_nil_of_le (by omega)];rfl
 |e+1,n+1,i,m,h,o,hm=>by
  have hi:i<d.length:=by omega
  have b:i<t.AE.length:=by omega
  have p:i<(EO t).length:=by rw[Gz];omega
  have aA:=a.kl;have aB:=a.ol;rw[E1.eq_2,ct (dt (by omega)),Co hi,bd (UL hK t (by omega) _),List.drop_eq_getElem_cons p,List.drop_eq_getElem_cons hi,Lj b,C4,TI];cases w:Ea d[i] 0 ((t.Ab.length:Int)-1) with
  |false=>exact⟨m,by rw[nf];rfl,hm⟩
  |true=>
   have aC:=DS.1 w;obtain⟨x,r⟩:∃x:Nat,d[i]=(x:Int):=⟨d[i].toNat,by omega⟩;rw[nt,Yf (by omega),RL,bd (KL hK _ _ (by simp;omega))];cases aD:(d.take i).contains d[i] with
   |true=>exact⟨m,by rw[ct rfl,Bool.not_true,Bool.false_and,Bool.and_false];rfl,hm⟩
   |false=>
    obtain⟨s,c,g⟩:=RM hK a f hm (a.order _ (List.getElem_mem b)).1 (k:=x) (by omega);rw[cf rfl,Co b];show∃l,((EX K (wk t (L.map (BV t)) m) t.AE[i] d[i]).bind _).bind _=_∧_;rw[r,bd g,Int.toNat_natCast];cases KM t t.AE[i] x with
    |false=>exact⟨s,by rw[nf,Bool.and_false,Bool.false_and];rfl,c⟩
    |true=>
     obtain⟨y,g2,u⟩:=RN a f j d v e n (i+1) s (by omega) (by omega) c;refine⟨y,?_,u⟩;rw[nt,B4 (by omega) (by omega),D6 i,g2,List.take_succ_eq_append_getElem hi,r];simp
theorem Ls{t:AJ}(h:Ih t=true){d:List Int}(i:d.length≤900):FF K t d=some (decide (Fh t=0)&&C4 (EO t) [] d):=by
 unfold FF;rcases Nb hK h true with⟨h0,_,L,m,c,hm,e⟩|⟨h0,e⟩
 ·have b:=Ka h (H5 (Jh h0).1).1;rw[bd e,dt h0,Bool.true_and];show cond ((d.length:Int) !=(t.AE.length:Int)) _ _=_
  by_cases hl:d.length=t.AE.length
  ·have f:=b.ol;obtain⟨j,g,_⟩:=RN hK b c m d hl d.length K 0 m (by omega) (by omega) hm;rw[Int.natCast_zero,List.drop_zero,List.drop_zero,List.take_zero] at g;rw[cf (JT (by omega))];exact g
  ·rw[ct (Jx (by omega))]
   congr 1
   cases hb:C4 (EO t) [] d with
   |false=>rfl
   |true=>have:=I7 hb;rw[Gz] at this;exact absurd this hl
 ·have a:Fh t≠0:=fun g=>h0 ⟨g,rfl⟩;rw[if_neg (by simp)] at e;rw[bd e,df a,Bool.false_and];show cond (_ !=0) _ _=_;rw[ct (Jx a)]
end
theorem QB{a:List Int}{m:Nat}(h:m<a.length):a.toArray[m]! =a[m]:=by
 rw[getElem!_pos a.toArray m (by simpa using h)];simp
theorem Nz{a:List Int}(hs:a.Pairwise (· ≤·)):∀m,m≤a.length→(Lib.compactUpTo a.toArray m).Pairwise (· <·)∧∀x,x∈Lib.compactUpTo a.toArray m↔x∈a.take m
 |0,_=>by simp[Lib.compactUpTo]
 |m+1,h=>by
  obtain⟨h1,h2⟩:=Nz hs m (by omega);have hm:m<a.length:=by omega
  rw[Lib.compactUpTo_succ,List.take_succ_eq_append_getElem hm,QB hm];have hle:∀x∈a.take m,x≤a[m]:=fun x c=>by
   obtain⟨i,hi,rfl⟩:=List.mem_iff_getElem.1 c;rw[List.getElem_take];simp at hi;exact(List.pairwise_iff_getElem.1 hs) i m _ hm (by omega)
  by_cases b:Lib.keeps a.toArray m=true
  ·rw[if_pos b];refine⟨?_,fun x=>by rw[List.mem_append,List.mem_append,h2]⟩;rw[List.pairwise_append];refine⟨h1,by simp,fun x c y l=>?_⟩;obtain rfl:y=a[m]:=by simpa using l
   have d:=(h2 x).1 c;have g:=hle x d;simp only[Lib.keeps,decide_eq_true_eq] at b;rcases b with rfl|b
   ·simp at d
   ·have j:0<m:=by
     rcases Nat.eq_zero_or_pos m with rfl|h0
     ·simp at d
     ·exact h0
    rw[QB hm,QB (by omega:m-1<a.length)] at b;obtain⟨i,hi,rfl⟩:=List.mem_iff_getElem.1 d;rw[List.getElem_take] at g⊢;simp at hi;have n:a[m-1]≤a[m]:=(List.pairwise_iff_getElem.1 hs) (m-1) m _ hm (by omega);have o:a[i]≤a[m-1]:=by
     by_cases e:i=m-1
     ·subst e;exact Int.le_refl _
     ·exact(List.pairwise_iff_getElem.1 hs) i (m-1) _ _ (by omega)
    have p:a[m]≠a[m-1]:=b;show a[i]<a[m];omega
  ·rw[if_neg b,List.append_nil];refine⟨h1,fun x=>?_⟩;rw[h2];have f:¬(m=0∨a.toArray[m]!≠a.toArray[m-1]!):=by simpa[Lib.keeps] using b
   have j:0<m:=by
    rcases Nat.eq_zero_or_pos m with rfl|h0
    ·exact absurd (.inl rfl) f
    ·exact h0
   have he:a.toArray[m]! =a.toArray[m-1]!:=Decidable.byContradiction fun e=>f (.inr e);rw[QB hm,QB (by omega:m-1<a.length)] at he;have k:a[m]∈a.take m:=by
    rw[he,List.mem_iff_getElem];exact⟨m-1,by simp;omega,by simp⟩
   rw[List.mem_append];constructor
   ·exact .inl
   ·rintro(c|c)
    ·exact c
    ·rw[List.mem_singleton.1 c];exact k
theorem QC(l:List Int):(Gg l).Pairwise (· ≤·):=by rw[L4];exact KF l
theorem TJ(l:List Int)(x:Int):x∈Gg l↔x∈l:=by rw[L4];exact(Kq l).mem_iff
theorem TK(l:List Int):(Gg l).length=l.length:=by rw[L4];exact(Kq l).length_eq
def distinct (n:Nat) (l:List Int):Nat:=((List.range n).filter fun k:Nat=>l.contains (k:Int)).length
theorem Rh{n:Nat}{l:List Int}(h:∀x∈l,0≤x∧x<(n:Int)):(Lib.compact (Gg l)).length=distinct n l:=by
 obtain⟨h1,h2⟩:=Nz (QC l) _ (Nat.le_refl _);have e:Lib.compact (Gg l)=Lib.compactUpTo (Gg l).toArray (Gg l).length:=rfl;rw[←e] at h1 h2;have d:Lib.compact (Gg l)=((List.range n).filter fun k:Nat=>l.contains (k:Int)).map fun k:Nat=>(k:Int):=by
  refine On h1 ?_ fun x=>?_
  ·rw[List.pairwise_map];have h:(List.range n).Pairwise (fun a b:Nat=>a<b):=List.pairwise_lt_range;exact(h.sublist (List.filter_sublist)).imp fun h=>by omega
  ·rw[h2,List.take_length,TJ,List.mem_map];constructor
   ·intro c;have:=h x c;refine⟨x.toNat,List.mem_filter.2 ⟨List.mem_range.2 (by omega),?_⟩,by omega⟩;rw[List.contains_iff_mem,Int.toNat_of_nonneg (by omega)];exact c
   ·rintro⟨k,f,rfl⟩;exact List.contains_iff_mem.1 (List.mem_filter.1 f).2
 rw[d,List.length_map];rfl
def union (t:AJ) (l:List Int):List Int:=l.flatMap fun i=>(EO t).getD i.toNat []
def Jo(t:AJ)(l:List Int):Bool:=decide (distinct t.Ab.length (union t l)<l.length)
theorem Pp{t:AJ}{l:List Int}{x:Int}:x∈union t l↔∃i∈l,x∈(EO t).getD i.toNat []:=by unfold union;rw[List.mem_flatMap]
theorem NA{t:AJ}(i:Nat):∀x∈(EO t).getD i [],0≤x∧x<(t.Ab.length:Int):=fun x a=>by
 by_cases hi:i<(EO t).length
 ·rw[EZ _ hi] at a;rw[Gz] at hi;rw[Lj hi] at a;obtain⟨k,b,_,e⟩:=Li.1 a;omega
 ·rw[List.getD_eq_getElem?_getD,List.getElem?_eq_none (by omega)] at a;simp at a
theorem UM{t:AJ}(i:Nat):((EO t).getD i []).length≤t.Ab.length:=by
 by_cases hi:i<(EO t).length
 ·rw[EZ _ hi];rw[Gz] at hi;rw[Lj hi];exact Po t _
 ·rw[List.getD_eq_getElem?_getD,List.getElem?_eq_none (by omega)];simp
theorem oe{α β b:Type}{a:α}{z:b}{x:β}{f:α→β}:Option.elim (some a,z).1 x f=f a:=rfl
theorem pe1{α b:Type}{a:α}{x y:b}:cond ((a,(0:Int)).2 !=0) x y=y:=rfl
theorem pe0{α b:Type}{a:α}{x y:b}:cond ((a,(0:Int)).2==0) x y=x:=rfl
section
variable{K:Nat}(hK:1000≤K)
include hK
theorem RO{t:AJ}(b:OkT t)(m:List (List Int×Int))(l:List Int)(hl:l.length≤100)(hb:∀x∈l,0≤x∧x<(t.AE.length:Int)):∀(d n i:Nat) (acc:List Int),l.length=i+d→d<n→acc.length≤3*i→
  ∃z,DY l (EO t,m) n acc (i:Int)=some (acc++z)∧z=union t (l.drop i)∧(acc++z).length≤3*l.length
 |d,0,i,acc,h,c,_=>by omega
 |0,n+1,i,acc,h,c,ha=>by
  refine⟨[],?_,?_,by simp;omega⟩
  ·rw[DY.eq_2,cf (df (by omega)),List.append_nil]
  ·rw[List.drop_eq_nil_of_le (by omega)];rfl
 |d+1,n+1,i,acc,h,c,ha=>by
  have g:=b.kl;have hi:i<l.length:=by omega
  have j:=hb _ (List.getElem_mem hi);obtain⟨q,e⟩:∃q:Nat,l[i]=(q:Int):=⟨l[i].toNat,by omega⟩;have a:q<(EO t).length:=by rw[Gz];omega
  have f:=UM (t:=t) q;rw[EZ _ a] at f;obtain⟨z,g1,g2,g3⟩:=RO b m l hl hb d n (i+1) (acc++(EO t)[q]) (by omega) (by omega) (by simp;omega);refine⟨(EO t)[q]++z,?_,?_,by rw[←List.append_assoc];exact g3⟩
  ·rw[DY.eq_2,ct (dt (by omega)),Co hi,e];show((idx (EO t) (q:Int)).bind _)=_;rw[Co a,Gc (by omega),B4 (by omega) (by omega),D6 i,g1,List.append_assoc]
  ·rw[List.drop_eq_getElem_cons hi];show _=List.flatMap _ (l[i]::l.drop (i+1));rw[List.flatMap_cons,e,Int.toNat_natCast,EZ _ a,g2];rfl
theorem RP{t:AJ}(a:OkT t){L:List (List Int)}(f:Tr t L){m:List (List Int×Int)}(hm:HK t m){l:List Int}(hl:l.length≤100)(hb:∀x∈l,0≤x∧x<(t.AE.length:Int)):
  ∃b,HK t b∧EY K (wk t (L.map (BV t)) m) l=some (Jo t l,b):=by
 obtain⟨c,d,g1⟩:=Oq hK a f hm;obtain⟨z,g2,g3,g4⟩:=RO hK a c l hl hb l.length K 0 [] (by omega) (by omega) (by simp);rw[Int.natCast_zero,List.nil_append] at g2;rw[List.nil_append] at g4;refine⟨c,d,?_⟩;unfold EY;rw[bd g1,bd g2,Gc (by omega),TK,Gc (by omega),Rh (n:=t.Ab.length)]
 ·rw[List.drop_zero] at g3;rw[g3];unfold Jo
  congr 2
  rw[Bool.eq_iff_iff,decide_eq_true_eq,decide_eq_true_eq];omega
 ·intro x e;rw[g3,Pp] at e;obtain⟨i,_,hi⟩:=e;exact NA _ x hi
theorem Wj{t:AJ}(h:Ih t=true):∃x e,Gy K t=some (x,e)∧(Fh t≠0→x=[]∧e=Fh t)∧(Fh t=0→(e=0∧L6 t.AE.length (Jo t) x∨e=7∧x=[]∧∀s,s<2^t.AE.length→Jo t (EF s)=false)):=by
 unfold Gy;rcases Nb hK h true with⟨h0,_,L,m,f,hm,e⟩|⟨h0,e⟩
 ·have b:=Ka h (H5 (Jh h0).1).1;have k:=b.ol;obtain⟨q,o,g1⟩:=SS hK (n:=t.AE.length) (by omega) (I:=HK t) (p:=Jo t) (fun(st:(List (List Int×Int))) (x:(List Int))=>(EN K x (wk t (L.map (BV t)) st)).bind fun r=>some (r.1,r.2)) (fun s x hs u hb=>by
   obtain⟨i,c,g⟩:=RP hK b f hs (l:=x) (by omega) hb;refine⟨i,c,?_⟩;show(EN K x (wk t (L.map (BV t)) s)).bind _=_;unfold EN;rw[bd (bd g)]) hm
  have d:Fs K (fun(st:(List (List Int×Int))) (x:(List Int))=>(EN K x (⟨(wk t (L.map (BV t)) m).Ao,(wk t (L.map (BV t)) m).Ap,(wk t (L.map (BV t)) m).Am,(wk t (L.map (BV t)) m).BK,(wk t (L.map (BV t)) m).AF,(wk t (L.map (BV t)) m).AG,(wk t (L.map (BV t)) m).AU,(wk t (L.map (BV t)) m).weights,(wk t (L.map (BV t)) m).BU,st⟩:B1)).bind fun r=>some (r.1,r.2)) (t.AE.length:Int) (wk t (L.map (BV t)) m).known=_:=g1;rw[bd e,oe,pe1,bd d];cases ha:(Js t.AE.length 0 (t.AE.length+1)).any (Jo t) with
  |true=>exact⟨_,0,rfl,fun g=>absurd h0 g,fun _=>.inl ⟨rfl,UJ (by omega) [] ha⟩⟩
  |false=>
   refine⟨[],7,rfl,fun g=>absurd h0 g,fun _=>.inr ⟨rfl,rfl,fun s hs=>?_⟩⟩;rw[Bool.eq_false_iff];intro j;rw[(UK (by omega) _).2 ⟨s,hs,j⟩] at ha;cases ha
 ·have a:Fh t≠0:=fun g=>h0 ⟨g,rfl⟩;refine⟨[],Fh t,?_,fun _=>⟨rfl,rfl⟩,fun g=>absurd g a⟩;rw[if_neg (by simp)] at e;rw[bd e];show cond (_ !=0) _ _=_;rw[ct (Jx a)]
theorem QD{t:AJ}(h:Ih t=true){l:List Int}(hl:l.length≤100):Ha K t l=some (decide (Fh t=0)&&(JV t.AE.length 0 l&&Jo t l)):=by
 have hlen:=K5 h;have f:t.AE.length≤100:=hlen.2.2.1;unfold Ha;rcases Nb hK h true with⟨h0,_,L,m,b,hm,e⟩|⟨h0,e⟩
 ·have c:=Ka h (H5 (Jh h0).1).1;rw[bd e,dt h0,Bool.true_and,oe,pe0,bd (Wh hK (by omega) (by omega))];cases d:JV t.AE.length 0 l with
  |false=>rfl
  |true=>
   obtain⟨i,_,g⟩:=RP hK c b hm hl (RF d);rw[ct rfl,bd g,Bool.true_and]
 ·have a:Fh t≠0:=fun g=>h0 ⟨g,rfl⟩;rw[if_neg (by simp)] at e;rw[bd e,df a,Bool.false_and];show cond (_==0) _ _=_;rw[cf (KD a)]
end
def Vv (t:AJ) (out:List Int):Bool:=(Es t.C).any fun l=>DQ (B3 t l) out 0 t.AK
def Ot(t:AJ)(a:List B2):AJ:=⟨t.Aj,t.Ab,t.As,t.Flat,t.Az,t.AE,a⟩
def QE (t:AJ) (k:Nat):Bool:=Vv (Ot t (t.AK.take k)) []
theorem Ou(M:List Int)(a:List B2):DQ M [] 0 a=true↔∀n∈a,IG M n=true:=by
 rw[L3];constructor
 ·intro h n b;obtain⟨j,hj,rfl⟩:=List.getElem_of_mem b;rcases h j hj with h1|h1
  ·simp at h1
  ·exact h1
 ·intro h j hj;exact .inr (h _ (List.getElem_mem hj))
theorem Pq{t:AJ}{j k:Nat}(h:j≤k)(a:QE t k=true):QE t j=true:=by
 unfold QE Vv at a⊢;rw[List.any_eq_true] at a⊢;obtain⟨l,hl,b⟩:=a;refine⟨l,hl,?_⟩;have c:B3 (Ot t (t.AK.take k)) l=B3 t l:=rfl;have d:B3 (Ot t (t.AK.take j)) l=B3 t l:=rfl;have e:(Ot t (t.AK.take k)).AK=t.AK.take k:=rfl;have f:(Ot t (t.AK.take j)).AK=t.AK.take j:=rfl;rw[c,e,Ou] at b;rw[d,f,Ou];exact fun n g=>b n (List.take_subset_take_left _ h g)
structure OP (t:AJ) (i:Nat):Prop where
 lt:i<t.AK.length
 before:QE t i=true
 not:QE t (i+1)=false
theorem OP.uniq{t:AJ}{i j:Nat}(h:OP t i)(g:OP t j):i=j:=by
 rcases Nat.lt_trichotomy i j with h1|h1|h1
 ·have:=Pq (show i+1≤j by omega) g.before;rw[h.not] at this;cases this
 ·exact h1
 ·have:=Pq (show j+1≤i by omega) h.before;rw[g.not] at this;cases this
section
variable{K:Nat}(hK:1000≤K)
include hK
end
theorem cvi{x:Int}(h0:-9223372036854775808≤x)(h1:x≤9223372036854775807):MB .i64 x=some ():=by
 unfold MB;have:IntKind.i64.wrap x=x:=Jv ⟨by omega,by omega⟩;rw[if_pos this]
theorem UN{β:Type}{x:Int}{f:Unit→Option β}(h0:0≤x)(h1:x<65536):(MB .i64 x).bind f=f ():=bd (cvi (by omega) (by omega))
theorem Wk{t:AJ}(c:OkT t)(h0:Fh t≠0):Fh t=9∨Fh t=11:=by
 have a:Ii t=0∨Ii t=11:=by
  unfold Ii
  by_cases b:Es t.C=[]
  ·right;rw[if_neg (show¬Gp t≠0 by simp[c.fault]),if_pos b]
  ·left;rw[if_neg (show¬Gp t≠0 by simp[c.fault]),if_neg b]
 unfold Fh at h0⊢;rcases a with a|a
 ·rw[a] at h0⊢
  by_cases b:EM t=[]
  ·left;rw[if_neg (show¬(0:Int)≠0 by simp),if_pos b]
  ·rw[if_neg (show¬(0:Int)≠0 by simp),if_neg b] at h0;exact absurd rfl h0
 ·right;rw[a,if_pos (by decide)]
section
variable{K:Nat}(hK:1000≤K)
include hK
theorem Ri(t:AJ):(Fe K t=some false)∨(Ih t=true∧OkT t∧Fe K t=some true):=by
 rw[Wg hK t];cases h:Ih t with
 |false=>exact .inl rfl
 |true=>
  by_cases h0:Gp t=0
  ·exact .inr ⟨rfl,Ka h h0,by rw[dt h0];rfl⟩
  ·exact .inl (by rw[df h0];rfl)
end
end Go.Proofs.YtbhofkcbfblijaaGreat
end
section
namespace Go.Proofs.YtbhofkcbfblijaaGreat
namespace HF
theorem mixed:Tryz.prog.follows .mixedOrders=true:=by kernel_rfl
theorem L7(b:Nat)(w:World):(Instr.fieldAt 131 (.pointer (some ⟨b,0,none⟩)) 0).run Tryz.prog w=.ok (.pointer (some ⟨b,0,none⟩)) w:=by kernel_rfl
theorem Bl:One Tryz.prog 3:=by unfold One;exact⟨by kernel_rfl,by kernel_rfl⟩
theorem L8(b:Nat)(w:World):(Instr.fieldAt 131 (.pointer (some ⟨b,0,none⟩)) 1).run Tryz.prog w=.ok (.pointer (some ⟨b,1,none⟩)) w:=by kernel_rfl
theorem Nc:Bb Tryz.prog 140:=by unfold Bb;kernel_rfl
theorem CR:(Tryz.prog.info? 3).map (·.size)=some 1:=by kernel_rfl
theorem QF(b:Nat)(w:World):(Instr.fieldAt 133 (.pointer (some ⟨b,0,none⟩)) 0).run Tryz.prog w=.ok (.pointer (some ⟨b,0,none⟩)) w:=by kernel_rfl
theorem JX:One Tryz.prog 4:=by unfold One;exact⟨by kernel_rfl,by kernel_rfl⟩
theorem Hg(b:Nat)(w:World):(Instr.fieldAt 38 (.pointer (some ⟨b,0,none⟩)) 0).run Tryz.prog w=.ok (.pointer (some ⟨b,0,none⟩)) w:=by kernel_rfl
theorem Im:One Tryz.prog 35:=by unfold One;exact⟨by kernel_rfl,by kernel_rfl⟩
theorem L9(b:Nat)(w:World):(Instr.fieldAt 133 (.pointer (some ⟨b,0,none⟩)) 1).run Tryz.prog w=.ok (.pointer (some ⟨b,1,none⟩)) w:=by kernel_rfl
theorem RQ:Bb Tryz.prog 199:=by unfold Bb;kernel_rfl
theorem Ma:(Tryz.prog.info? 131).bind (·.zero)=some (.agg #[I 0,I 0]):=by kernel_rfl
theorem Wl:Bb Tryz.prog 168:=by unfold Bb;kernel_rfl
theorem Kz:(Tryz.prog.info? 131).map (·.size)=some 2:=by kernel_rfl
theorem HU:E8 Tryz.prog 131 2:=by unfold E8;exact⟨by kernel_rfl,by kernel_rfl⟩
theorem Wm:One Tryz.prog 214:=by unfold One;exact⟨by kernel_rfl,by kernel_rfl⟩
theorem Wn:Bb Tryz.prog 221:=by unfold Bb;kernel_rfl
theorem Wo:Bb Tryz.prog 194:=by unfold Bb;kernel_rfl
theorem Wp:Bb Tryz.prog 193:=by unfold Bb;kernel_rfl
theorem OQ:One Tryz.prog 148:=by unfold One;exact⟨by kernel_rfl,by kernel_rfl⟩
theorem EP:(Tryz.prog.info? 31).map (·.size)=some 1:=by kernel_rfl
theorem CK:One Tryz.prog 31:=by unfold One;exact⟨by kernel_rfl,by kernel_rfl⟩
theorem Wq:Bb Tryz.prog 222:=by unfold Bb;kernel_rfl
theorem Wr:Bb Tryz.prog 196:=by unfold Bb;kernel_rfl
theorem Ws:Bb Tryz.prog 195:=by unfold Bb;kernel_rfl
theorem Wt:One Tryz.prog 212:=by unfold One;exact⟨by kernel_rfl,by kernel_rfl⟩
theorem Nd:E8 Tryz.prog 133 4:=by unfold E8;exact⟨by kernel_rfl,by kernel_rfl⟩
theorem QG:(Tryz.prog.info? 133).map (·.size)=some 4:=by kernel_rfl
theorem Wu:Bb Tryz.prog 223:=by unfold Bb;kernel_rfl
theorem Wv:Bb Tryz.prog 198:=by unfold Bb;kernel_rfl
theorem Ww:Bb Tryz.prog 197:=by unfold Bb;kernel_rfl
theorem KQ:One Tryz.prog 142:=by unfold One;exact⟨by kernel_rfl,by kernel_rfl⟩
theorem Wx:Bb Tryz.prog 207:=by unfold Bb;kernel_rfl
theorem Wy:Bb Tryz.prog 231:=by unfold Bb;kernel_rfl
theorem RR:Bb Tryz.prog 187:=by unfold Bb;kernel_rfl
theorem Wz:Bb Tryz.prog 220:=by unfold Bb;kernel_rfl
theorem WA:Bb Tryz.prog 219:=by unfold Bb;kernel_rfl
theorem Hs:E8 Tryz.prog 38 3:=by unfold E8;exact⟨by kernel_rfl,by kernel_rfl⟩
theorem WB:Bb Tryz.prog 191:=by unfold Bb;kernel_rfl
theorem RS:Bb Tryz.prog 192:=by unfold Bb;kernel_rfl
theorem HV(b:Nat)(w:World):(Instr.fieldAt 38 (.pointer (some ⟨b,0,none⟩)) 1).run Tryz.prog w=.ok (.pointer (some ⟨b,1,none⟩)) w:=by kernel_rfl
theorem Dg:One Tryz.prog 23:=by unfold One;exact⟨by kernel_rfl,by kernel_rfl⟩
theorem NP(b:Nat)(w:World):(Instr.fieldAt 133 (.pointer (some ⟨b,0,none⟩)) 2).run Tryz.prog w=.ok (.pointer (some ⟨b,2,none⟩)) w:=by kernel_rfl
theorem OR:Bb Tryz.prog 165:=by unfold Bb;kernel_rfl
theorem LC(b:Nat)(w:World):(Instr.fieldAt 38 (.pointer (some ⟨b,0,none⟩)) 2).run Tryz.prog w=.ok (.pointer (some ⟨b,2,none⟩)) w:=by kernel_rfl
theorem Ov:One Tryz.prog 36:=by unfold One;exact⟨by kernel_rfl,by kernel_rfl⟩
theorem WC:Bb Tryz.prog 164:=by unfold Bb;kernel_rfl
theorem WD:Bb Tryz.prog 163:=by unfold Bb;kernel_rfl
theorem WE:Bb Tryz.prog 166:=by unfold Bb;kernel_rfl
theorem WG:Bb Tryz.prog 162:=by unfold Bb;kernel_rfl
theorem WH:Bb Tryz.prog 167:=by unfold Bb;kernel_rfl
theorem WI:Bb Tryz.prog 169:=by unfold Bb;kernel_rfl
theorem WJ:Bb Tryz.prog 179:=by unfold Bb;kernel_rfl
theorem IL:E8 Tryz.prog 182 3:=by unfold E8;exact⟨by kernel_rfl,by kernel_rfl⟩
theorem RT:Bb Tryz.prog 183:=by unfold Bb;kernel_rfl
theorem UO:(Tryz.prog.info? 133).bind (·.zero)=some (.agg #[.bool false,I 0,I 0,I 0]):=by kernel_rfl
theorem Kb:Bb Tryz.prog 136:=by unfold Bb;kernel_rfl
theorem WK:Bb Tryz.prog 178:=by unfold Bb;kernel_rfl
theorem WM:Bb Tryz.prog 177:=by unfold Bb;kernel_rfl
theorem RU:Bb Tryz.prog 176:=by unfold Bb;kernel_rfl
theorem NQ:(Tryz.prog.info? 182).bind (·.zero)=some (.agg #[I 0,I 0,I 0]):=by kernel_rfl
theorem MU:(Tryz.prog.info? 182).map (·.size)=some 3:=by kernel_rfl
theorem OS:Bb Tryz.prog 127:=by unfold Bb;kernel_rfl
theorem RV:Bb Tryz.prog 132:=by unfold Bb;kernel_rfl
theorem Ht:(Tryz.prog.info? 3).map (fun i=>(i.zero,i.size,i.bytes))=some (some (I 0),1,8):=by kernel_rfl
theorem WN:Bb Tryz.prog 133:=by unfold Bb;kernel_rfl
theorem QH:(Tryz.prog.info? 142).bind (·.zero)=some (.nilFunc):=by kernel_rfl
theorem TL:(Tryz.prog.info? 142).map (·.size)=some 1:=by kernel_rfl
theorem LD(b:Nat)(w:World):(Instr.fieldAt 60 (.pointer (some ⟨b,0,none⟩)) 0).run Tryz.prog w=.ok (.pointer (some ⟨b,0,none⟩)) w:=by kernel_rfl
theorem LF(b:Nat)(w:World):(Instr.fieldAt 60 (.pointer (some ⟨b,0,none⟩)) 1).run Tryz.prog w=.ok (.pointer (some ⟨b,1,none⟩)) w:=by kernel_rfl
theorem JD:Bb Tryz.prog 158:=by unfold Bb;kernel_rfl
theorem JE:(Tryz.prog.info? 60).bind (·.zero)=some (.agg #[I 0,I 0]):=by kernel_rfl
theorem WO:Bb Tryz.prog 185:=by unfold Bb;kernel_rfl
theorem HN:(Tryz.prog.info? 60).map (·.size)=some 2:=by kernel_rfl
theorem Gr:E8 Tryz.prog 60 2:=by unfold E8;exact⟨by kernel_rfl,by kernel_rfl⟩
theorem IM(b:Nat)(w:World):(Instr.fieldAt 53 (.pointer (some ⟨b,0,none⟩)) 0).run Tryz.prog w=.ok (.pointer (some ⟨b,0,none⟩)) w:=by kernel_rfl
theorem QI(b:Nat)(w:World):(Instr.fieldAt 134 (.pointer (some ⟨b,0,none⟩)) 0).run Tryz.prog w=.ok (.pointer (some ⟨b,0,none⟩)) w:=by kernel_rfl
theorem KR(b:Nat)(w:World):(Instr.fieldAt 53 (.pointer (some ⟨b,0,none⟩)) 2).run Tryz.prog w=.ok (.pointer (some ⟨b,4,none⟩)) w:=by kernel_rfl
theorem K6:One Tryz.prog 49:=by unfold One;exact⟨by kernel_rfl,by kernel_rfl⟩
theorem QJ(b:Nat)(w:World):(Instr.fieldAt 134 (.pointer (some ⟨b,0,none⟩)) 1).run Tryz.prog w=.ok (.pointer (some ⟨b,1,none⟩)) w:=by kernel_rfl
theorem DR:E8 Tryz.prog 53 7:=by unfold E8;exact⟨by kernel_rfl,by kernel_rfl⟩
theorem QK(b:Nat)(w:World):(Instr.fieldAt 136 (.pointer (some ⟨b,0,none⟩)) 0).run Tryz.prog w=.ok (.pointer (some ⟨b,0,none⟩)) w:=by kernel_rfl
theorem RW:Bb Tryz.prog 137:=by unfold Bb;kernel_rfl
theorem QL(b:Nat)(w:World):(Instr.fieldAt 136 (.pointer (some ⟨b,0,none⟩)) 1).run Tryz.prog w=.ok (.pointer (some ⟨b,1,none⟩)) w:=by kernel_rfl
theorem WQ:Bb Tryz.prog 161:=by unfold Bb;kernel_rfl
theorem WR:One Tryz.prog 220:=by unfold One;exact⟨by kernel_rfl,by kernel_rfl⟩
theorem MV:E8 Tryz.prog 48 2:=by unfold E8;exact⟨by kernel_rfl,by kernel_rfl⟩
theorem Mb:(Tryz.prog.info? 48).map (·.size)=some 2:=by kernel_rfl
theorem WS:Bb Tryz.prog 224:=by unfold Bb;kernel_rfl
theorem WT:Bb Tryz.prog 201:=by unfold Bb;kernel_rfl
theorem WU:Bb Tryz.prog 200:=by unfold Bb;kernel_rfl
theorem WV:One Tryz.prog 177:=by unfold One;exact⟨by kernel_rfl,by kernel_rfl⟩
theorem LG:E8 Tryz.prog 134 2:=by unfold E8;exact⟨by kernel_rfl,by kernel_rfl⟩
theorem Ow:(Tryz.prog.info? 134).map (·.size)=some 2:=by kernel_rfl
theorem WW:Bb Tryz.prog 202:=by unfold Bb;kernel_rfl
theorem WX:Bb Tryz.prog 173:=by unfold Bb;kernel_rfl
theorem WY:Bb Tryz.prog 172:=by unfold Bb;kernel_rfl
theorem WZ:One Tryz.prog 178:=by unfold One;exact⟨by kernel_rfl,by kernel_rfl⟩
theorem OT:E8 Tryz.prog 136 3:=by unfold E8;exact⟨by kernel_rfl,by kernel_rfl⟩
theorem MW:(Tryz.prog.info? 136).map (·.size)=some 3:=by kernel_rfl
theorem W0:Bb Tryz.prog 203:=by unfold Bb;kernel_rfl
theorem W1:Bb Tryz.prog 175:=by unfold Bb;kernel_rfl
theorem W2:Bb Tryz.prog 174:=by unfold Bb;kernel_rfl
theorem W3:Bb Tryz.prog 188:=by unfold Bb;kernel_rfl
theorem OU(b:Nat)(w:World):(Instr.fieldAt 48 (.pointer (some ⟨b,0,none⟩)) 0).run Tryz.prog w=.ok (.pointer (some ⟨b,0,none⟩)) w:=by kernel_rfl
theorem OV(b:Nat)(w:World):(Instr.fieldAt 48 (.pointer (some ⟨b,0,none⟩)) 1).run Tryz.prog w=.ok (.pointer (some ⟨b,1,none⟩)) w:=by kernel_rfl
theorem RX:(Tryz.prog.info? 48).bind (·.zero)=some (.agg #[I 0,I 0]):=by kernel_rfl
theorem W4:Bb Tryz.prog 171:=by unfold Bb;kernel_rfl
theorem W5:Bb Tryz.prog 170:=by unfold Bb;kernel_rfl
theorem Ji(b:Nat)(w:World):(Instr.fieldAt 53 (.pointer (some ⟨b,0,none⟩)) 3).run Tryz.prog w=.ok (.pointer (some ⟨b,5,none⟩)) w:=by kernel_rfl
theorem JY:One Tryz.prog 50:=by unfold One;exact⟨by kernel_rfl,by kernel_rfl⟩
theorem Jj(b:Nat)(w:World):(Instr.fieldAt 53 (.pointer (some ⟨b,0,none⟩)) 4).run Tryz.prog w=.ok (.pointer (some ⟨b,6,none⟩)) w:=by kernel_rfl
theorem K7:One Tryz.prog 51:=by unfold One;exact⟨by kernel_rfl,by kernel_rfl⟩
theorem W6(b:Nat)(w:World):(Instr.fieldAt 53 (.pointer (some ⟨b,0,none⟩)) 1).run Tryz.prog w=.ok (.pointer (some ⟨b,3,none⟩)) w:=by kernel_rfl
theorem W7:Bb Tryz.prog 128:=by unfold Bb;kernel_rfl
theorem W8:Bb Tryz.prog 129:=by unfold Bb;kernel_rfl
theorem W9:Bb Tryz.prog 125:=by unfold Bb;kernel_rfl
theorem Xa:Bb Tryz.prog 130:=by unfold Bb;kernel_rfl
theorem Xb:Bb Tryz.prog 126:=by unfold Bb;kernel_rfl
theorem Xc:Bb Tryz.prog 131:=by unfold Bb;kernel_rfl
theorem RY:(Tryz.prog.info? 60).map (fun i=>(i.zero,i.size,i.bytes))=some (some (.agg #[I 0,I 0]),2,16):=by kernel_rfl
theorem RZ:Mi Tryz.prog 204 2:=N5 2 Tryz.underlying204 (by kernel_rfl) rfl rfl Bl Tryz.underlying3
theorem QM:PR Tryz.prog 204 2:=Q4 2 Tryz.underlying204 rfl rfl Bl Tryz.underlying3
theorem Pr:LU Tryz.prog 204:=by unfold LU;kernel_rfl
theorem Aac:(Tryz.prog.info? 3).bind (·.zero)=some (I 0):=by kernel_rfl
theorem Mc(b:Nat)(w:World):(Instr.fieldAt 162 (.pointer (some ⟨b,0,none⟩)) 1).run Tryz.prog w=.ok (.pointer (some ⟨b,7,none⟩)) w:=by kernel_rfl
theorem Xd(w:World):(Op.equal 31 (.slice none 0 0) (.slice none 0 0)).run Tryz.prog w=.ok true w:=by kernel_rfl
theorem Xe(ad:Addr)(n c:Nat)(w:World):(Op.equal 31 (.slice (some ad) n c) (.slice none 0 0)).run Tryz.prog w=.ok false w:=by kernel_rfl
theorem LH:Bb Tryz.prog 105:=by unfold Bb;kernel_rfl
theorem Ox:One Tryz.prog 55:=by unfold One;exact⟨by kernel_rfl,by kernel_rfl⟩
theorem Xf:Bb Tryz.prog 206:=by unfold Bb;kernel_rfl
theorem Xg(b o:Nat)(w:World):(Instr.fieldAt 60 (.pointer (some ⟨b,o,none⟩)) 0).run Tryz.prog w=.ok (.pointer (some ⟨b,o,none⟩)) w:=by kernel_rfl
theorem R0:Bb Tryz.prog 205:=by unfold Bb;kernel_rfl
theorem Nf:(Tryz.prog.info? 31).bind (·.zero)=some (.slice none 0 0):=by kernel_rfl
theorem Md:(Tryz.prog.info? 155).bind (·.zero)=some (.agg #[I 0,I 0,I 0]):=by kernel_rfl
theorem Xh:Bb Tryz.prog 150:=by unfold Bb;kernel_rfl
theorem Jk:E8 Tryz.prog 155 3:=by unfold E8;exact⟨by kernel_rfl,by kernel_rfl⟩
theorem LI:(Tryz.prog.info? 155).map (·.size)=some 3:=by kernel_rfl
theorem R1:Bb Tryz.prog 102:=by unfold Bb;kernel_rfl
theorem K8:(Tryz.prog.info? 152).bind (·.zero)=some (.pointer none):=by kernel_rfl
theorem MX:(Tryz.prog.info? 152).map (·.size)=some 1:=by kernel_rfl
theorem R3:Bb Tryz.prog 147:=by unfold Bb;kernel_rfl
theorem Xi:Bb Tryz.prog 186:=by unfold Bb;kernel_rfl
theorem YD:Bb Tryz.prog 79:=by unfold Bb;kernel_rfl
theorem R4:Bb Tryz.prog 104:=by unfold Bb;kernel_rfl
theorem Et:One Tryz.prog 152:=by unfold One;exact⟨by kernel_rfl,by kernel_rfl⟩
theorem IC(b:Nat)(w:World):(Instr.fieldAt 162 (.pointer (some ⟨b,0,none⟩)) 2).run Tryz.prog w=.ok (.pointer (some ⟨b,8,none⟩)) w:=by kernel_rfl
theorem JF:One Tryz.prog 159:=by unfold One;exact⟨by kernel_rfl,by kernel_rfl⟩
theorem QN:(Tryz.prog.info? 155).map (fun i=>(i.zero,i.size,i.bytes))=some (some (.agg #[I 0,I 0,I 0]),3,24):=by kernel_rfl
theorem TM:(Tryz.prog.info? 159).map (·.size)=some 1:=by kernel_rfl
theorem Xj:Tryz.prog.eqGuardType Tryz.prog.depth 155=false:=by kernel_rfl
theorem Xk:Mi Tryz.prog 155 3:=S6 Tryz.underlying155 Bl Tryz.underlying3
theorem Xl:Bb Tryz.prog 204:=by unfold Bb;kernel_rfl
theorem QO(b o:Nat)(w:World):(Instr.fieldAt 162 (.pointer (some ⟨b,o,none⟩)) 3).run Tryz.prog w=.ok (.pointer (some ⟨b,o+9,none⟩)) w:=by kernel_rfl
theorem R5:One Tryz.prog 160:=by unfold One;exact⟨by kernel_rfl,by kernel_rfl⟩
theorem R6:E8 Tryz.prog 204 2:=by unfold E8;exact⟨by kernel_rfl,by kernel_rfl⟩
theorem Kd(b o:Nat)(w:World):(Instr.fieldAt 162 (.pointer (some ⟨b,o,none⟩)) 0).run Tryz.prog w=.ok (.pointer (some ⟨b,o,none⟩)) w:=by kernel_rfl
theorem R7(b o:Nat)(w:World):(Instr.fieldAt 53 (.pointer (some ⟨b,o,none⟩)) 2).run Tryz.prog w=.ok (.pointer (some ⟨b,o+4,none⟩)) w:=by kernel_rfl
theorem UP(b:Nat)(w:World):(Instr.fieldAt 204 (.pointer (some ⟨b,0,none⟩)) 1).run Tryz.prog w=.ok (.pointer (some ⟨b,1,none⟩)) w:=by kernel_rfl
theorem I8(b o:Nat)(w:World):(Instr.fieldAt 162 (.pointer (some ⟨b,o,none⟩)) 1).run Tryz.prog w=.ok (.pointer (some ⟨b,o+7,none⟩)) w:=by kernel_rfl
theorem UQ(b:Nat)(w:World):(Instr.fieldAt 204 (.pointer (some ⟨b,0,none⟩)) 0).run Tryz.prog w=.ok (.pointer (some ⟨b,0,none⟩)) w:=by kernel_rfl
theorem Me:(Tryz.prog.info? 151).bind (·.zero)=some (.agg #[I 0,I 0,I 0]):=by kernel_rfl
theorem Xm:Bb Tryz.prog 149:=by unfold Bb;kernel_rfl
theorem KS:E8 Tryz.prog 151 3:=by unfold E8;exact⟨by kernel_rfl,by kernel_rfl⟩
theorem Oy:(Tryz.prog.info? 151).map (·.size)=some 3:=by kernel_rfl
theorem UR:(Tryz.prog.info? 136).bind (·.zero)=some (.agg #[I 0,I 0,I 0]):=by kernel_rfl
theorem R8:Bb Tryz.prog 148:=by unfold Bb;kernel_rfl
theorem US(b o:Nat)(w:World):(Instr.fieldAt 162 (.pointer (some ⟨b,o,none⟩)) 2).run Tryz.prog w=.ok (.pointer (some ⟨b,o+8,none⟩)) w:=by kernel_rfl
theorem R9:Bb Tryz.prog 103:=by unfold Bb;kernel_rfl
theorem Sa:Bb Tryz.prog 124:=by unfold Bb;kernel_rfl
theorem QP:(Tryz.prog.info? 4).bind (·.zero)=some (.bool false):=by kernel_rfl
theorem OW:Bb Tryz.prog 151:=by unfold Bb;kernel_rfl
theorem NR:(Tryz.prog.info? 4).map (·.size)=some 1:=by kernel_rfl
theorem OX:Bb Tryz.prog 184:=by unfold Bb;kernel_rfl
theorem TN:Bb Tryz.prog 75:=by unfold Bb;kernel_rfl
theorem Xn:Bb Tryz.prog 101:=by unfold Bb;kernel_rfl
theorem Xo:Bb Tryz.prog 154:=by unfold Bb;kernel_rfl
theorem OY:Bb Tryz.prog 111:=by unfold Bb;kernel_rfl
theorem OZ:Bb Tryz.prog 112:=by unfold Bb;kernel_rfl
theorem Xp:One Tryz.prog 164:=by unfold One;exact⟨by kernel_rfl,by kernel_rfl⟩
theorem Sb:Bb Tryz.prog 152:=by unfold Bb;kernel_rfl
theorem Ke:Bb Tryz.prog 106:=by unfold Bb;kernel_rfl
theorem QQ:(Tryz.prog.info? 3).bind (·.zero)=some (I 0):=by kernel_rfl
theorem Xq:Bb Tryz.prog 108:=by unfold Bb;kernel_rfl
theorem Sc:Bb Tryz.prog 107:=by unfold Bb;kernel_rfl
theorem Xr:Bb Tryz.prog 157:=by unfold Bb;kernel_rfl
theorem Xs:Bb Tryz.prog 156:=by unfold Bb;kernel_rfl
theorem Xt(b o:Nat)(w:World):(Instr.fieldAt 53 (.pointer (some ⟨b,o,none⟩)) 1).run Tryz.prog w=.ok (.pointer (some ⟨b,o+3,none⟩)) w:=by kernel_rfl
theorem Xu:Bb Tryz.prog 153:=by unfold Bb;kernel_rfl
theorem O0:Bb Tryz.prog 117:=by unfold Bb;kernel_rfl
theorem O1:Bb Tryz.prog 109:=by unfold Bb;kernel_rfl
theorem YE:Bb Tryz.prog 50:=by unfold Bb;kernel_rfl
theorem Sd(a:Value)(x1:Value)(w:World):(Instr.field 60 (.agg #[a,x1]) 0).run Tryz.prog w=.ok (a) w:=by kernel_rfl
theorem O2:One Tryz.prog 166:=by unfold One;exact⟨by kernel_rfl,by kernel_rfl⟩
theorem O3:Bb Tryz.prog 110:=by unfold Bb;kernel_rfl
theorem UT:(Tryz.prog.info? 166).bind (·.zero)=some (.nilFunc):=by kernel_rfl
theorem YF:(Tryz.prog.info? 166).map (·.size)=some 1:=by kernel_rfl
theorem Xv:Bb Tryz.prog 159:=by unfold Bb;kernel_rfl
theorem Xw:Bb Tryz.prog 160:=by unfold Bb;kernel_rfl
theorem Xx(b o:Nat)(w:World):(Instr.fieldAt 48 (.pointer (some ⟨b,o,none⟩)) 0).run Tryz.prog w=.ok (.pointer (some ⟨b,o,none⟩)) w:=by kernel_rfl
theorem Xy(b o:Nat)(w:World):(Instr.fieldAt 53 (.pointer (some ⟨b,o,none⟩)) 3).run Tryz.prog w=.ok (.pointer (some ⟨b,o+5,none⟩)) w:=by kernel_rfl
theorem UU:(Tryz.prog.info? 134).bind (·.zero)=some (.agg #[I 0,I 0]):=by kernel_rfl
theorem Se:Bb Tryz.prog 138:=by unfold Bb;kernel_rfl
theorem Ng:(Tryz.prog.info? 31).map (fun i=>(i.zero,i.size,i.bytes))=some (some (.slice none 0 0),1,24):=by kernel_rfl
theorem Sf:Bb Tryz.prog 135:=by unfold Bb;kernel_rfl
theorem Sg:Bb Tryz.prog 134:=by unfold Bb;kernel_rfl
theorem Xz:(Tryz.prog.info? 23).bind (·.zero)=some (.slice none 0 0):=by kernel_rfl
theorem Vw:(Tryz.prog.info? 23).map (·.size)=some 1:=by kernel_rfl
theorem Sh:One Tryz.prog 199:=by unfold One;exact⟨by kernel_rfl,by kernel_rfl⟩
theorem Si:Bb Tryz.prog 155:=by unfold Bb;kernel_rfl
theorem UW:(Tryz.prog.info? 199).bind (·.zero)=some (.nilFunc):=by kernel_rfl
theorem YG:(Tryz.prog.info? 199).map (·.size)=some 1:=by kernel_rfl
theorem UX(b:Nat)(w:World):(Instr.fieldAt 174 (.pointer (some ⟨b,0,none⟩)) 0).run Tryz.prog w=.ok (.pointer (some ⟨b,0,none⟩)) w:=by kernel_rfl
theorem XA:One Tryz.prog 172:=by unfold One;exact⟨by kernel_rfl,by kernel_rfl⟩
theorem Sj:Bb Tryz.prog 121:=by unfold Bb;kernel_rfl
theorem UY:(Tryz.prog.info? 174).bind (·.zero)=some (.agg #[.nilFunc]):=by kernel_rfl
theorem YH:(Tryz.prog.info? 174).map (·.size)=some 1:=by kernel_rfl
theorem XB:Bb Tryz.prog 122:=by unfold Bb;kernel_rfl
theorem Sk:Bb Tryz.prog 113:=by unfold Bb;kernel_rfl
theorem UZ(b:Nat)(w:World):(Instr.fieldAt 162 (.pointer (some ⟨b,0,none⟩)) 0).run Tryz.prog w=.ok (.pointer (some ⟨b,0,none⟩)) w:=by kernel_rfl
theorem Vx:(Tryz.prog.info? 51).map (·.size)=some 1:=by kernel_rfl
theorem Kf(b:Nat)(w:World):(Instr.fieldAt 44 (.pointer (some ⟨b,0,none⟩)) 0).run Tryz.prog w=.ok (.pointer (some ⟨b,0,none⟩)) w:=by kernel_rfl
theorem KT(b:Nat)(w:World):(Instr.fieldAt 44 (.pointer (some ⟨b,0,none⟩)) 1).run Tryz.prog w=.ok (.pointer (some ⟨b,1,none⟩)) w:=by kernel_rfl
theorem Ey:Bb Tryz.prog 29:=by unfold Bb;kernel_rfl
theorem FT(b:Nat)(w:World):(Instr.fieldAt 26 (.pointer (some ⟨b,0,none⟩)) 0).run Tryz.prog w=.ok (.pointer (some ⟨b,0,none⟩)) w:=by kernel_rfl
theorem GN:One Tryz.prog 22:=by unfold One;exact⟨by kernel_rfl,by kernel_rfl⟩
theorem Lk:(Tryz.prog.info? 44).map (·.size)=some 2:=by kernel_rfl
theorem IH:E8 Tryz.prog 44 2:=by unfold E8;exact⟨by kernel_rfl,by kernel_rfl⟩
theorem O4:Bb Tryz.prog 118:=by unfold Bb;kernel_rfl
theorem DZ(b:Nat)(w:World):(Instr.fieldAt 26 (.pointer (some ⟨b,0,none⟩)) 1).run Tryz.prog w=.ok (.pointer (some ⟨b,1,none⟩)) w:=by kernel_rfl
theorem JG(b:Nat)(w:World):(Instr.fieldAt 26 (.pointer (some ⟨b,0,none⟩)) 2).run Tryz.prog w=.ok (.pointer (some ⟨b,2,none⟩)) w:=by kernel_rfl
theorem KA:One Tryz.prog 24:=by unfold One;exact⟨by kernel_rfl,by kernel_rfl⟩
theorem Oz:Bb Tryz.prog 90:=by unfold Bb;kernel_rfl
theorem Hu:E8 Tryz.prog 26 3:=by unfold E8;exact⟨by kernel_rfl,by kernel_rfl⟩
theorem TO:Bb Tryz.prog 91:=by unfold Bb;kernel_rfl
theorem QR:Bb Tryz.prog 35:=by unfold Bb;kernel_rfl
theorem OA:(Tryz.prog.info? 46).map (·.size)=some 4:=by kernel_rfl
theorem QS:E8 Tryz.prog 46 4:=by unfold E8;exact⟨by kernel_rfl,by kernel_rfl⟩
theorem Sm:(Tryz.prog.info? 46).bind (·.zero)=some (.agg #[.bool false,I 0,I 0,I 0]):=by kernel_rfl
theorem O5(b:Nat)(w:World):(Instr.fieldAt 46 (.pointer (some ⟨b,0,none⟩)) 0).run Tryz.prog w=.ok (.pointer (some ⟨b,0,none⟩)) w:=by kernel_rfl
theorem Nh(b:Nat)(w:World):(Instr.fieldAt 46 (.pointer (some ⟨b,0,none⟩)) 1).run Tryz.prog w=.ok (.pointer (some ⟨b,1,none⟩)) w:=by kernel_rfl
theorem Kg(b:Nat)(w:World):(Instr.fieldAt 46 (.pointer (some ⟨b,0,none⟩)) 2).run Tryz.prog w=.ok (.pointer (some ⟨b,2,none⟩)) w:=by kernel_rfl
theorem QT:Bb Tryz.prog 59:=by unfold Bb;kernel_rfl
theorem Sn:(Tryz.prog.info? 44).bind (·.zero)=some (.agg #[I 0,I 0]):=by kernel_rfl
theorem XC(b o:Nat)(w:World):(Instr.fieldAt 44 (.pointer (some ⟨b,o,none⟩)) 0).run Tryz.prog w=.ok (.pointer (some ⟨b,o,none⟩)) w:=by kernel_rfl
theorem XD(b o:Nat)(w:World):(Instr.fieldAt 44 (.pointer (some ⟨b,o,none⟩)) 1).run Tryz.prog w=.ok (.pointer (some ⟨b,o+1,none⟩)) w:=by kernel_rfl
theorem OB:Bb Tryz.prog 87:=by unfold Bb;kernel_rfl
theorem TP:Bb Tryz.prog 31:=by unfold Bb;kernel_rfl
theorem Ps(b:Nat)(w:World):(Instr.fieldAt 44 (.pointer (some ⟨b,2,none⟩)) 0).run Tryz.prog w=.ok (.pointer (some ⟨b,2,none⟩)) w:=by kernel_rfl
theorem Pt(b:Nat)(w:World):(Instr.fieldAt 44 (.pointer (some ⟨b,2,none⟩)) 1).run Tryz.prog w=.ok (.pointer (some ⟨b,3,none⟩)) w:=by kernel_rfl
theorem YI:Bb Tryz.prog 77:=by unfold Bb;kernel_rfl
theorem XE:Bb Tryz.prog 146:=by unfold Bb;kernel_rfl
theorem YJ:Bb Tryz.prog 58:=by unfold Bb;kernel_rfl
theorem XF:Bb Tryz.prog 100:=by unfold Bb;kernel_rfl
theorem YK:(Tryz.prog.underlying 3).isSome=true:=by kernel_rfl
theorem YL:Bb Tryz.prog 73:=by unfold Bb;kernel_rfl
theorem FV(b:Nat)(w:World):(Instr.fieldAt 67 (.pointer (some ⟨b,0,none⟩)) 0).run Tryz.prog w=.ok (.pointer (some ⟨b,0,none⟩)) w:=by kernel_rfl
theorem FW(b:Nat)(w:World):(Instr.fieldAt 67 (.pointer (some ⟨b,0,none⟩)) 2).run Tryz.prog w=.ok (.pointer (some ⟨b,4,none⟩)) w:=by kernel_rfl
theorem GO:One Tryz.prog 63:=by unfold One;exact⟨by kernel_rfl,by kernel_rfl⟩
theorem I9:(Tryz.prog.info? 128).map (·.size)=some 2:=by kernel_rfl
theorem Kh(b o:Nat)(w:World):(Instr.fieldAt 128 (.pointer (some ⟨b,o,none⟩)) 0).run Tryz.prog w=.ok (.pointer (some ⟨b,o,none⟩)) w:=by kernel_rfl
theorem NS(b o:Nat)(w:World):(Instr.fieldAt 128 (.pointer (some ⟨b,o,none⟩)) 1).run Tryz.prog w=.ok (.pointer (some ⟨b,o+1,none⟩)) w:=by kernel_rfl
theorem GP:E8 Tryz.prog 67 7:=by unfold E8;exact⟨by kernel_rfl,by kernel_rfl⟩
theorem MY:Bb Tryz.prog 56:=by unfold Bb;kernel_rfl
theorem Hz(b:Nat)(w:World):(Instr.fieldAt 67 (.pointer (some ⟨b,0,none⟩)) 4).run Tryz.prog w=.ok (.pointer (some ⟨b,6,none⟩)) w:=by kernel_rfl
theorem Io:One Tryz.prog 65:=by unfold One;exact⟨by kernel_rfl,by kernel_rfl⟩
theorem K9:(Tryz.prog.info? 121).map (·.size)=some 3:=by kernel_rfl
theorem NT(b o:Nat)(w:World):(Instr.fieldAt 121 (.pointer (some ⟨b,o,none⟩)) 1).run Tryz.prog w=.ok (.pointer (some ⟨b,o+1,none⟩)) w:=by kernel_rfl
theorem Mf(b o:Nat)(w:World):(Instr.fieldAt 121 (.pointer (some ⟨b,o,none⟩)) 0).run Tryz.prog w=.ok (.pointer (some ⟨b,o,none⟩)) w:=by kernel_rfl
theorem YM:Bb Tryz.prog 54:=by unfold Bb;kernel_rfl
theorem XG:Bb Tryz.prog 114:=by unfold Bb;kernel_rfl
theorem YN:Bb Tryz.prog 61:=by unfold Bb;kernel_rfl
theorem YO:Bb Tryz.prog 28:=by unfold Bb;kernel_rfl
theorem Sp(b:Nat)(w:World):(Instr.fieldAt 67 (.pointer (some ⟨b,0,none⟩)) 1).run Tryz.prog w=.ok (.pointer (some ⟨b,3,none⟩)) w:=by kernel_rfl
theorem FX(b:Nat)(w:World):(Instr.fieldAt 67 (.pointer (some ⟨b,0,none⟩)) 3).run Tryz.prog w=.ok (.pointer (some ⟨b,5,none⟩)) w:=by kernel_rfl
theorem GQ:One Tryz.prog 64:=by unfold One;exact⟨by kernel_rfl,by kernel_rfl⟩
theorem Ja:(Tryz.prog.info? 126).map (·.size)=some 2:=by kernel_rfl
theorem TQ:Bb Tryz.prog 24:=by unfold Bb;kernel_rfl
theorem XH:E8 Tryz.prog 128 2:=by unfold E8;exact⟨by kernel_rfl,by kernel_rfl⟩
theorem U0:(Tryz.prog.info? 128).bind (·.zero)=some (.agg #[I 0,I 0]):=by kernel_rfl
theorem Jy(b:Nat)(w:World):(Instr.fieldAt 128 (.pointer (some ⟨b,0,none⟩)) 0).run Tryz.prog w=.ok (.pointer (some ⟨b,0,none⟩)) w:=by kernel_rfl
theorem La(b:Nat)(w:World):(Instr.fieldAt 128 (.pointer (some ⟨b,0,none⟩)) 1).run Tryz.prog w=.ok (.pointer (some ⟨b,1,none⟩)) w:=by kernel_rfl
theorem Lb(b o:Nat)(w:World):(Instr.fieldAt 126 (.pointer (some ⟨b,o,none⟩)) 0).run Tryz.prog w=.ok (.pointer (some ⟨b,o,none⟩)) w:=by kernel_rfl
theorem Ki(b o:Nat)(w:World):(Instr.fieldAt 126 (.pointer (some ⟨b,o,none⟩)) 1).run Tryz.prog w=.ok (.pointer (some ⟨b,o+1,none⟩)) w:=by kernel_rfl
theorem O6:(Tryz.prog.info? 38).bind (·.zero)=some (.agg #[.slice none 0 0,.slice none 0 0,.slice none 0 0]):=by kernel_rfl
theorem TR:Bb Tryz.prog 98:=by unfold Bb;kernel_rfl
theorem U1:(Tryz.prog.info? 131).map (fun i=>(i.zero,i.size,i.bytes))=some (some (.agg #[I 0,I 0]),2,16):=by kernel_rfl
theorem ZF:(Tryz.prog.info? 35).map (·.size)=some 1:=by kernel_rfl
theorem YP:Bb Tryz.prog 99:=by unfold Bb;kernel_rfl
theorem U2:(Tryz.prog.info? 133).map (fun i=>(i.zero,i.size,i.bytes))=some (some (.agg #[.bool false,I 0,I 0,I 0]),4,32):=by kernel_rfl
theorem ZG:(Tryz.prog.info? 36).map (·.size)=some 1:=by kernel_rfl
theorem Vy:(Tryz.prog.info? 38).map (·.size)=some 3:=by kernel_rfl
theorem O7:(Tryz.prog.info? 53).bind (·.zero)=some (.agg #[.slice none 0 0,.slice none 0 0,.slice none 0 0,I 0,.slice none 0 0,.slice none 0 0,.slice none 0 0]):=by kernel_rfl
theorem YQ:Bb Tryz.prog 27:=by unfold Bb;kernel_rfl
theorem SV:(Tryz.prog.info? 53).map (·.size)=some 7:=by kernel_rfl
theorem XI:(Tryz.prog.info? 48).map (fun i=>(i.zero,i.size,i.bytes))=some (some (.agg #[I 0,I 0]),2,16):=by kernel_rfl
theorem ZH:(Tryz.prog.info? 49).map (·.size)=some 1:=by kernel_rfl
theorem U3:(Tryz.prog.info? 134).map (fun i=>(i.zero,i.size,i.bytes))=some (some (.agg #[I 0,I 0]),2,16):=by kernel_rfl
theorem ZI:(Tryz.prog.info? 50).map (·.size)=some 1:=by kernel_rfl
theorem YR:Bb Tryz.prog 66:=by unfold Bb;kernel_rfl
theorem U4:(Tryz.prog.info? 136).map (fun i=>(i.zero,i.size,i.bytes))=some (some (.agg #[I 0,I 0,I 0]),3,24):=by kernel_rfl
theorem YS:Bb Tryz.prog 23:=by unfold Bb;kernel_rfl
theorem XJ:Bb Tryz.prog 116:=by unfold Bb;kernel_rfl
theorem YT:Bb Tryz.prog 53:=by unfold Bb;kernel_rfl
theorem MZ:Bb Tryz.prog 57:=by unfold Bb;kernel_rfl
theorem YU:Bb Tryz.prog 36:=by unfold Bb;kernel_rfl
theorem ZJ:(Tryz.prog.info? 27).map (·.size)=some 1:=by kernel_rfl
theorem YV:One Tryz.prog 27:=by unfold One;exact⟨by kernel_rfl,by kernel_rfl⟩
theorem SW:(Tryz.prog.underlying 27).isSome=true:=by kernel_rfl
theorem TS:Bb Tryz.prog 86:=by unfold Bb;kernel_rfl
theorem KB:Bb Tryz.prog 88:=by unfold Bb;kernel_rfl
theorem YW:Bb Tryz.prog 32:=by unfold Bb;kernel_rfl
theorem YX:Bb Tryz.prog 33:=by unfold Bb;kernel_rfl
theorem YY:Bb Tryz.prog 34:=by unfold Bb;kernel_rfl
theorem TU:Bb Tryz.prog 81:=by unfold Bb;kernel_rfl
theorem TV:Bb Tryz.prog 69:=by unfold Bb;kernel_rfl
theorem YZ:Bb Tryz.prog 42:=by unfold Bb;kernel_rfl
theorem Y0:Bb Tryz.prog 43:=by unfold Bb;kernel_rfl
theorem M0:Bb Tryz.prog 41:=by unfold Bb;kernel_rfl
theorem QU:Tryz.prog.eqGuardType Tryz.prog.depth 60=false:=by kernel_rfl
theorem QV:Mi Tryz.prog 60 2:=N5 2 Tryz.underlying60 (by kernel_rfl) rfl rfl Bl Tryz.underlying3
theorem LJ:Bb Tryz.prog 37:=by unfold Bb;kernel_rfl
theorem LK:Bb Tryz.prog 38:=by unfold Bb;kernel_rfl
theorem QW:Bb Tryz.prog 51:=by unfold Bb;kernel_rfl
theorem QX:Bb Tryz.prog 82:=by unfold Bb;kernel_rfl
theorem Y1:Bb Tryz.prog 70:=by unfold Bb;kernel_rfl
theorem Y3:Bb Tryz.prog 48:=by unfold Bb;kernel_rfl
end HF
end Go.Proofs.YtbhofkcbfblijaaGreat
end
section
namespace Go.Proofs.YtbhofkcbfblijaaGreat
open Go.RowKit Go.WideShapes
set_option maxRecDepth 20000
open HF
attribute [local irreducible] Ce WL CC CW LV BN Hh E8 One Bb
theorem SX k b d e(Z:Nat→Prop) w j(c:Gx k b d e=some j):
 BN Tryz.prog 140 #[I b,I d,I e] w (fun v w'=>Ext w w'∧BC.R w' (zf Z w []) v j):=by
 unfold Gx at c;refine rq (N:=15) Tryz.func140 fun l ha m=>?_;have f:=sA 0 ha;have h:=sA 1 ha;have i:=sA 2 ha;clear ha;have g:Hp FN [] w [] w:=Hp.start (By.none w);refine cr<|wA (v:=.bool false) rfl<|wr<|wM (v:=I d) h<|wM (v:=I b) f<|wD (fun st=>Hv (eR st) (eR st))<|wM (v:=.bool (decide (d≤b))) rfl ?_;rcases Ae (decide (d≤b)) with a|a
 ·replace c:=Aq c a;refine wN a (v:=I b) f<|wN a (v:=I e) i<|wG a (fun st=>Hv (eR st) (eR st))<|wD (fun st=>Bc (v:=.bool (decide (b≤e))) (eR st) a (eR st))<|wA (v:=.bool (decide (b≤e))) rfl<|wn<|Ak ?_;obtain rfl:=oi c;refine Aw rfl rfl ?_;exact⟨g.Bf,rfl⟩
 ·replace c:=Ar c a;refine wF a<|wF a<|wF a<|wD (fun st=>Bt (v:=.bool false) (eR st) a (eR st))<|wA (v:=.bool false) rfl<|wn<|Ak ?_;obtain rfl:=oi c;refine Aw rfl rfl ?_;exact⟨g.Bf,rfl⟩
theorem U5 k b(Z:Nat→Prop) w i(d:Fa k b=some i):
 BN Tryz.prog 165 #[.agg #[I b.Lo,I b.Hi]] w (fun v w'=>Ext w w'∧BC.R w' (zf Z w []) v i):=by
 unfold Fa at d;refine rq (N:=18) Tryz.func165 fun l ha m=>?_;have h:=sA 0 ha;clear ha;have g:Hp FN [] w [] w:=Hp.start (By.none w);refine cr<|wE (fun st=>BL (v:=.agg #[I b.Lo,I b.Hi]) (cs:= #[I b.Lo,I b.Hi]) (ee st h) rfl) ?_;rintro _ w1 ⟨b1,rfl,e⟩;have f:=g.nb e;have j:=g.BJ e;refine wA (v:=.bool false) rfl<|wr<|wD (fun st=>Ad (eR st) (L7 _ _))<|wD (fun st=>Ag (v:=I b.Lo) Bl (eR st) e.bk rfl)<|wD (fun st=>Hv (eR st) (eR st))<|wM (v:=.bool (decide ((0:Int)≤b.Lo))) rfl ?_;rcases Ae (decide ((0:Int)≤b.Lo)) with a|a
 ·replace d:=Aq d a;refine wG a (fun st=>Ad (eR st) (L7 _ _))<|wG a (fun st=>Ag (v:=I b.Lo) Bl (eR st) e.bk rfl)<|wG a (fun st=>Ad (eR st) (L8 _ _))<|wG a (fun st=>Ag (v:=I b.Hi) Bl (eR st) e.bk rfl)<|wG a (fun st=>Hv (eR st) (eR st))<|wD (fun st=>Bc (v:=.bool (decide (b.Lo≤b.Hi))) (eR st) a (eR st))<|wM (v:=.bool (decide (b.Lo≤b.Hi))) rfl ?_;rcases Ae (decide (b.Lo≤b.Hi)) with c|c
  ·replace d:=Aq d c;refine wG c (fun st=>Ad (eR st) (L8 _ _))<|wG c (fun st=>Ag (v:=I b.Hi) Bl (eR st) e.bk rfl)<|wG c (fun st=>Hv (eR st) (eR st))<|wD (fun st=>Bc (v:=.bool (decide (b.Hi≤100))) (eR st) c (eR st))<|wA (v:=.bool (decide (b.Hi≤100))) rfl<|wn<|Ak ?_;obtain rfl:=oi d;refine Aw rfl rfl ?_;exact⟨f.Bf,rfl⟩
  ·replace d:=Ar d c;refine wF c<|wF c<|wF c<|wD (fun st=>Bt (v:=.bool false) (eR st) c (eR st))<|wA (v:=.bool false) rfl<|wn<|Ak ?_;obtain rfl:=oi d;refine Aw rfl rfl ?_;exact⟨f.Bf,rfl⟩
 ·replace d:=Ar d a;refine wF a<|wF a<|wF a<|wF a<|wF a<|wD (fun st=>Bt (v:=.bool false) (eR st) a (eR st))<|wM (v:=.bool false) rfl<|wH<|wH<|wH<|wD (fun st=>Bt (v:=.bool false) (eR st) rfl (eR st))<|wA (v:=.bool false) rfl<|wn<|Ak ?_;obtain rfl:=oi d;refine Aw rfl rfl ?_;exact⟨f.Bf,rfl⟩
theorem Aad k a(Z:Nat→Prop) w f(b:Ib k a=some f):
 BN Tryz.prog 169 #[.agg #[I a.Lo,I a.Hi]] w (fun v w'=>Ext w w'∧(Dh .i64).R w' (zf Z w []) v f):=by
 unfold Ib at b;refine rq (N:=9) Tryz.func169 fun l ha m=>?_;have e:=sA 0 ha;clear ha;have d:Hp FN [] w [] w:=Hp.start (By.none w);refine cr<|wE (fun st=>BL (v:=.agg #[I a.Lo,I a.Hi]) (cs:= #[I a.Lo,I a.Hi]) (ee st e) rfl) ?_;rintro _ w1 ⟨b1,rfl,c⟩;have g:=d.nb c;have j:=d.BJ c;refine wA (v:=I 0) rfl<|wr<|wD (fun st=>Ad (eR st) (L8 _ _))<|wD (fun st=>Ag (v:=I a.Hi) Bl (eR st) c.bk rfl)<|wD (fun st=>Ad (eR st) (L7 _ _))<|wD (fun st=>Ag (v:=I a.Lo) Bl (eR st) c.bk rfl) ?_;replace b:=AN b;obtain⟨h,b⟩:=b;refine wD (fun st=>EC (eR st) (eR st) h) ?_;replace b:=AN b;obtain⟨i,b⟩:=b;refine wD (fun st=>BR (eR st) (eR st) i)<|wA (v:=I ((a.Hi-a.Lo)+1)) rfl<|wn<|Ak ?_;obtain rfl:=oi b;refine Aw rfl rfl ?_;exact⟨g.Bf,rfl⟩
theorem Y5 h a d(Z:Nat→Prop) w i(c:Fm h a d=some i):
 BN Tryz.prog 176 #[.agg #[I a.Lo,I a.Hi],I d] w (fun v w'=>Ext w w'∧BC.R w' (zf Z w []) v i):=by
 unfold Fm at c;refine rq (N:=11) Tryz.func176 fun p ha q=>?_;have f:=sA 0 ha;have g:=sA 1 ha;clear ha;have e:Hp FN [] w [] w:=Hp.start (By.none w);refine cr<|wE (fun st=>BL (v:=.agg #[I a.Lo,I a.Hi]) (cs:= #[I a.Lo,I a.Hi]) (ee st f) rfl) ?_;rintro _ w1 ⟨b1,rfl,b⟩;have j:=e.nb b;have o:=e.BJ b;refine wA (v:=.bool false) rfl<|wr<|wM (v:=I d) g<|wD (fun st=>Ad (eR st) (L7 _ _))<|wD (fun st=>Ag (v:=I a.Lo) Bl (eR st) b.bk rfl)<|wD (fun st=>Ad (eR st) (L8 _ _))<|wD (fun st=>Ag (v:=I a.Hi) Bl (eR st) b.bk rfl) ?_;replace c:=bind_some c;obtain⟨k,l,c⟩:=c;refine wE (fun st=>Al Nc (eR st) (Ev (eR st) (eR st) (eR st)) (SX h d a.Lo a.Hi ZA _ k l)) ?_;rintro _ r ⟨m,rfl⟩;have n:=j.ext m;refine wA (v:=.bool k) rfl<|wn<|Ak ?_;obtain rfl:=oi c;refine Aw rfl rfl ?_;exact⟨n.Bf,rfl⟩
theorem Aae d b(Z:Nat→Prop) w e(a:IE d b=some e):
 BN Tryz.prog 220 #[I b] w (fun v w'=>Ext w w'∧BC.R w' (zf Z w []) v e):=by
 unfold IE at a;refine rq (N:=5) Tryz.func220 fun k ha l=>?_;have c:=sA 0 ha;clear ha;have f:Hp FN [] w [] w:=Hp.start (By.none w);refine cr<|wA (v:=.bool false) rfl<|wr<|wM (v:=I b) c ?_;replace a:=bind_some a;obtain⟨g,h,a⟩:=a;refine wE (fun st=>Al Nc (eR st) (Ev (eR st) (eR st) (eR st)) (SX d b 0 30 ZA _ g h)) ?_;rintro _ w2 ⟨i,rfl⟩;have j:=f.ext i;refine wA (v:=.bool g) rfl<|wn<|Ak ?_;obtain rfl:=oi a;refine Aw rfl rfl ?_;exact⟨j.Bf,rfl⟩
theorem Y6 aA i f g(Z:Nat→Prop) w(r:Sl (Ah .i64) w Z f g i) aB(a:Je aA i=some aB):
 BN Tryz.prog 192 #[.slice f i.length g] w (fun v w'=>Ext w w'∧(Dh .i64).R w' (zf Z w []) v aB):=by
 unfold Je at a;refine rq (N:=16) Tryz.func192 fun aQ ha aR=>?_;have u:=sA 0 ha;clear ha;have aC:Hp FN [] w [] w:=Hp.start (By.none w);have o:=r.mv (BB (Z:=Z) (L:=[]) w);refine cr<|wA (v:=I 0) rfl<|wn<|Af<|cr<|wM (v:=.slice f i.length g) u<|wD (fun st=>Bo Tryz.underlying31 (eR st))<|wM (v:=I 0) rfl<|wn<|AL ?_;replace a:=bind_some a;obtain⟨s,e,a⟩:=a;refine BX (fun aD d x=>(aD=.exit 0∧Fo X0 16 d∧sl d 2=I s∧w=x)) ?aE ?aF
 case aE=>
  clear a;refine BW (fun y d x=>∃b,∃c,Fu i y b c=some s∧Fo X0 16 d∧sl d 2=I b∧sl d 5=.slice f i.length g∧sl d 6=I (i.length:Int)∧sl d 7=I c∧w=x) aA ?aG ?aH
  case aG=>
   intro st;exact⟨(0:Int),(0:Int),e,qo st,sp st 2 rfl,sp st 5 rfl,sp st 6 rfl,sp st 7 rfl,rfl⟩
  case aH=>
   rintro(_|y) aS _ ⟨b,c,e,z,l,m,n,h,rfl⟩
   ·exact absurd (show none=some _ from e) (by simp)
   rw[Fu.eq_2] at e;have a:=e;clear e;refine ro z<|cr<|wD (fun st=>B6 (ee st h) (ee st n))<|wn<|Af ?_;rcases Ae (decide (c<(i.length:Int))) with j|j
   ·replace a:=Aq a j;refine Ai rfl j<|cn<|Af<|AL<|Af<|An ?_;replace a:=AX a;obtain⟨i3,p,aI,aJ,aK,a⟩:=a;obtain⟨b3,aT,_,aL,rfl,aM⟩:=Sl.CB o rfl aJ;refine wD (fun st=>Bp (k:=i3) Tryz.underlying31 CR (ee st m) aL (ee st h) aI aK)<|wD (fun st=>Bs (v:=I p) Bl (eR st) aM rfl)<|wA (v:=I p) rfl<|wn<|An<|wM (v:=I b) l<|wM (v:=I p) rfl ?_;replace a:=AN a;obtain⟨aN,a⟩:=a;refine wD (fun st=>BR (eR st) (eR st) aN)<|wA (v:=I (b+p)) rfl<|Bn<|C5<|An ?_;replace a:=AN a;obtain⟨aO,a⟩:=a;refine wD (fun st=>BR (ee st h) (eR st) aO)<|wM (v:=I (c+1)) rfl<|Bn ?_;refine Bz y (Nat.lt_succ_self _) (fun st=>?_);exact⟨(b+p),(c+1),a,qo st,sp st 2 rfl,sp st 5 m,sp st 6 n,sp st 7 rfl,rfl⟩
   ·replace a:=Ar a j;refine Au rfl j<|Dy ?_;obtain rfl:=oi a;refine BF (fun st=>?_);exact⟨rfl,qo st,sp st 2 l,rfl⟩
 case aF=>
  rintro aD aP _ (⟨rfl,t,q,rfl⟩);refine lf t<|Bi<|BM<|cr<|wM (v:=I s) q<|wA (v:=I s) rfl<|wn<|Ak ?_;obtain rfl:=oi a;refine Aw rfl rfl ?_;exact⟨aC.Bf,rfl⟩
theorem Aaf aE f a b c g h i j(Z:Nat→Prop) w(m:Sl Ay w Z b c f.Av)(n:Sl (BG (Ah .i64)) w Z g h f.AW)(o:Sl AH w Z i j f.AO) aA(d:GF aE f a=some aA):
 BN Tryz.prog 178 #[.agg (AR b c g h i j f).toArray,.agg #[.bool a.BP,I a.Number,I a.Bg,I a.Bh]] w (fun v w'=>Ext w w'∧(Dh .i64).R w' (zf Z w []) v aA):=by
 unfold GF at d;refine rq (N:=15) Tryz.func178 fun aF ha aG=>?_;have t:=sA 0 ha;have u:=sA 1 ha;clear ha;have q:Hp FN [] w [] w:=Hp.start (By.none w);have ⟨x,y,z⟩:=Ee m n o (BB (Z:=Z) (L:=[]) w);refine cr<|wE (fun st=>BL (v:=.agg (AR b c g h i j f).toArray) (cs:=(AR b c g h i j f).toArray) (ee st t) rfl) ?_;rintro _ w1 ⟨b1,rfl,l⟩;have r:=q.nb l;have aC:=q.BJ l;refine wE (fun st=>BL (v:=.agg #[.bool a.BP,I a.Number,I a.Bg,I a.Bh]) (cs:= #[.bool a.BP,I a.Number,I a.Bg,I a.Bh]) (ee st u) rfl) ?_;rintro _ w2 ⟨b2,rfl,e⟩;have s:=r.nb e;have aD:=r.BJ e;refine wA (v:=I 0) rfl<|wn<|Af<|cr<|wD (fun st=>Ad (eR st) (QF _ _))<|wD (fun st=>Ag (v:=.bool a.BP) JX (eR st) e.bk rfl)<|wn ?_;rcases Ae (a.BP) with k|k
 ·replace d:=Aq d k;refine Ai rfl k<|cr<|wD (fun st=>Ad (eR st) (Hg _ _)) ?_;have p:=(l.bk.ext e.gr);refine wD (fun st=>Ag (v:=.slice b f.Av.length c) Im (eR st) p rfl)<|wD (fun st=>Bo Tryz.underlying35 (eR st))<|wD (fun st=>Ad (eR st) (L9 _ _))<|wD (fun st=>Ag (v:=I a.Number) Bl (eR st) e.bk rfl) ?_;replace d:=AN d;obtain⟨aB,d⟩:=d;refine wD (fun st=>BR (eR st) (eR st) aB)<|wA (v:=I ((f.Av.length:Int)+a.Number)) rfl<|wn<|Ak<|AI ?_;obtain rfl:=oi d;refine Aw rfl rfl ?_;exact⟨s.Bf,rfl⟩
 ·replace d:=Ar d k;refine Au rfl k<|cn<|cr<|wD (fun st=>Ad (eR st) (L9 _ _))<|wD (fun st=>Ag (v:=I a.Number) Bl (eR st) e.bk rfl)<|wA (v:=I a.Number) rfl<|wn<|Ak ?_;obtain rfl:=oi d;refine Aw rfl rfl ?_;exact⟨s.Bf,rfl⟩
theorem Y7 z f c d(Z:Nat→Prop) w(r:Sl (Ah .i64) w Z c d f) aA(a:GS z f=some aA):
 BN Tryz.prog 199 #[.slice c f.length d] w (fun v w'=>Ext w w'∧(Dh .i64).R w' (zf Z w []) v aA):=by
 unfold GS at a;refine rq (N:=25) Tryz.func199 fun aT ha aU=>?_;have o:=sA 0 ha;clear ha;have aB:Hp FN [] w [] w:=Hp.start (By.none w);have h:=r.mv (BB (Z:=Z) (L:=[]) w);refine cr<|wA (v:=I 0) rfl<|wn<|Af<|cr<|wM (v:=.slice c f.length d) o<|wD (fun st=>Bo Tryz.underlying31 (eR st))<|wD (fun st=>B6 (eR st) (eR st))<|wn ?_;rcases Ae (decide ((f.length:Int)<1)) with m|m
 ·replace a:=Aq a m;refine Ai rfl m ?_;exact absurd a (by simp)
 ·replace a:=Ar a m;refine Au rfl m<|cn<|cr<|wM (v:=.slice c f.length d) o ?_;replace a:=AX a;obtain⟨i2,x2,aC,aD,aE,a⟩:=a;obtain⟨b2,aW,_,aF,rfl,aG⟩:=Sl.CB h rfl aD;refine wD (fun st=>Bp (k:=i2) Tryz.underlying31 CR (eR st) aF (eR st) aC aE)<|wD (fun st=>Bs (v:=I x2) Bl (eR st) aG rfl)<|wA (v:=I x2) rfl<|wn<|Af<|cr<|wA (v:=I 1) rfl<|wn<|AL ?_;replace a:=bind_some a;obtain⟨z3,i,a⟩:=a;refine BX (fun aH g t=>(aH=.exit 0∧Fo X0 25 g∧sl g 3=I z3∧w=t)) ?aI ?aJ
  case aI=>
   clear a;refine BW (fun u g t=>∃e,∃b,FM f u e b=some z3∧Fo X0 25 g∧sl g 0=.slice c f.length d∧sl g 3=I e∧sl g 4=I b∧w=t) z ?aK ?aL
   case aK=>
    intro st;exact⟨x2,(1:Int),i,qo st,sp st 0 o,sp st 3 rfl,sp st 4 rfl,rfl⟩
   case aL=>
    rintro(_|u) aV _ ⟨e,b,i,x,j,p,l,rfl⟩
    ·exact absurd (show none=some _ from i) (by simp)
    rw[FM.eq_2] at i;have a:=i;clear i;refine ro x<|Af<|cr<|wM (v:=I b) l<|wM (v:=.slice c f.length d) j<|wD (fun st=>Bo Tryz.underlying31 (eR st))<|wD (fun st=>B6 (eR st) (eR st))<|wn ?_;rcases Ae (decide (b<(f.length:Int))) with n|n
    ·replace a:=Aq a n;refine Ai rfl n<|cn<|Af<|AL<|An<|wM (v:=I e) p<|wM (v:=.slice c f.length d) j<|wM (v:=I b) l ?_;replace a:=AX a;obtain⟨i5,y,aM,aN,aO,a⟩:=a;obtain⟨aX,aY,_,aP,rfl,aQ⟩:=Sl.CB h rfl aN;refine wD (fun st=>Bp (k:=i5) Tryz.underlying31 CR (eR st) aP (eR st) aM aO)<|wD (fun st=>Bs (v:=I y) Bl (eR st) aQ rfl)<|wD (fun st=>Vf (eR st) (eR st))<|wA (v:=I (min e y)) rfl<|Bn<|C5<|An<|wM (v:=I b) l ?_;replace a:=AN a;obtain⟨aR,a⟩:=a;refine wD (fun st=>BR (eR st) (eR st) aR)<|wA (v:=I (b+1)) rfl<|Bn ?_;refine Bz u (Nat.lt_succ_self _) (fun st=>?_);exact⟨(min e y),(b+1),a,qo st,sp st 0 j,sp st 3 rfl,sp st 4 rfl,rfl⟩
    ·replace a:=Ar a n;refine Au rfl n<|Dy ?_;obtain rfl:=oi a;refine BF (fun st=>?_);exact⟨rfl,qo st,sp st 3 p,rfl⟩
  case aJ=>
   rintro aH aS _ (⟨rfl,s,q,rfl⟩);refine lf s<|Bi<|BM<|cr<|wM (v:=I z3) q<|wA (v:=I z3) rfl<|wn<|Ak ?_;obtain rfl:=oi a;refine Aw rfl rfl ?_;exact⟨aB.Bf,rfl⟩
theorem a168 h e a b(Z:Nat→Prop) w(f:Sl (Ah .i64) w Z a b e) i(c:Ik h e=some i):
 BN Tryz.prog 168 #[.slice a e.length b] w (fun v w'=>Ext w w'∧(Dh .i64).R w' (zf Z w []) v i):=by
 unfold Ik at c;refine rq (N:=5) Tryz.func168 fun o ha p=>?_;have g:=sA 0 ha;clear ha;have j:Hp FN [] w [] w:=Hp.start (By.none w);have d:=f.mv (BB (Z:=Z) (L:=[]) w);refine cr<|wA (v:=I 0) rfl<|wr<|wM (v:=.slice a e.length b) g ?_;replace c:=bind_some c;obtain⟨k,l,c⟩:=c;refine wE (fun st=>Al RQ (eR st) (Cj (eR st)) (Y7 h e a b ZA _ d.all k l)) ?_;rintro _ w2 ⟨m,rfl⟩;have n:=j.ext m;refine wA (v:=I k) rfl<|wn<|Ak ?_;obtain rfl:=oi c;refine Aw rfl rfl ?_;exact⟨n.Bf,rfl⟩
end Go.Proofs.YtbhofkcbfblijaaGreat
end
