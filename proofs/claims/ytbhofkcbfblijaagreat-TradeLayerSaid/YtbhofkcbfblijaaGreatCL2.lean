import Derived.Test.YtbhofkcbfblijaaGreatCL1
import Derived.WalkKit
import Derived.KernelRfl
import Derived.WalkSpells
import Derived.WalkLawsBesides
import Derived.Maps.AppendAt
import Derived.OrdersIn
import Derived.RangeFuncIn
import Derived.RangeFuncLeaves
import Derived.RangeFuncRecord
import Derived.RangeFuncSeq
import Derived.Scope
import Derived.DeepKeys3
import Derived.Laws.CopyRow
import Derived.Laws.OwnMore
import Derived.Laws.MakeOwn
import Derived.Laws.IdiomCopy
import Derived.Sort.OwnSortedInts
import Derived.Lib.RowBridge
import Derived.Test.YtbhofkcbfblijaaGreatProg
/-
  The contracts of the functions of the program and of the reference, and the logic that they are proved in: the base that several claims of this seat share.
-/
set_option linter.all false
section
namespace Go.Proofs.YtbhofkcbfblijaaGreat
open Go.RowKit Go.WideShapes
def Du{e:Type}(f:e→(AN×AN)→Option (Bool×e))(i:Nat)(a:BT)(j:List Int):Nat→Int→(List (List Int×Int))→e→Option (((List (List Int×Int))×e)⊕((List (List Int×Int))×e))
 |0,_,_,_=>none
 |k+1,b,d,c=>cond (decide (b<(a.BF.length:Int))) ((idx a.BF b).bind fun l=>(EU i (⟨a.An,a.Ao,a.Aj,a.BG,a.AB,a.AD,a.AU,a.weights,a.BF,d⟩:BT) l).bind fun g=>(EI i (⟨a.An,a.Ao,a.Aj,a.BG,a.AB,a.AD,a.AU⟩:AM) g.1 j).bind fun m=>cond (m) ((f c (l,g.1)).bind fun h=>cond (!h.1) (some (.inl (g.2,h.2))) ((i64 (b+1)).bind fun _=>Du f i a j k (b+1) g.2 h.2)) ((i64 (b+1)).bind fun _=>Du f i a j k (b+1) g.2 c)) (some (.inr (d,c)))
def EO{b:Type}(c:Nat)(d:b→(AN×AN)→Option (Bool×b))(e:BT)(f:List Int)(g:b):Option ((List (List Int×Int))×b):=
 (Du d c e f c (0:Int) e.known g).bind fun z=>Sum.elim (fun a=>some ((a.1,a.2))) (fun a=>some ((a.1,a.2))) z
def EV(a:Bool)(b:AN×AN):Option (Bool×(Bool×Bool)):=
 some (false,true,true)
def De(b:Nat)(c:BT)(d:List Int):Option (Bool×(List (List Int×Int))):=
 (EO b (fun(st:Bool×Bool) (x:AN×AN)=>cond st.2 none (EV st.1 x)) c d (false,false)).bind fun a=>cond (a.2.2) (some ((a.2.1,a.1))) (some ((false,a.1)))
def F7(c:Nat)(d:List Int)(b:(List AK)):Nat→Int→Option ((Bool)⊕(Unit))
 |0,_=>none
 |g+1,a=>cond (decide (a<(b.length:Int))) ((idx b a).bind fun h=>(idx d a).bind fun e=>(F3 c h e).bind fun f=>cond (!f) (some (.inl false)) ((i64 (a+1)).bind fun _=>F7 c d b g (a+1))) (some (.inr ()))
def H3(b:Nat)(c:AM)(d:List Int):Option (Bool):=
 cond ((d.length:Int) !=(c.Ah.length:Int)) (some (false)) ((Fs b c).bind fun e=>(F7 b d e b (0:Int)).bind fun z=>Sum.elim (fun a=>some (a)) (fun a=>some (true)) z)
def Jk(c:Nat)(b:AM)(d:List Int):Option ((List Int)×Int):=
 (FF c b).bind fun e=>cond (e !=0) (some ((([]:List Int),e))) ((H3 c b d).bind fun h=>cond (!h) (some ((([]:List Int),2))) ((Et c b).bind fun f=>(E9 c b d).bind fun g=>(EU c f g).bind fun a=>(Lq [a.1.a0,a.1.a1,a.1.a2].length (0:Int) (b.Ab.length:Int)).bind fun _=>(FP (((0+(EM [a.1.a0,a.1.a1,a.1.a2] (0:Int) (b.Ab.length:Int)).length:Nat):Int)≤140737488355328/8)).bind fun _=>some ((EM [a.1.a0,a.1.a1,a.1.a2] (0:Int) (b.Ab.length:Int),0))))
def DM(a:Nat)(b:AM)(e:Bool):Option ((Option BT)×Int):=
 (FF a b).bind fun c=>cond (c !=0) (some (((none:Option BT),c))) (cond (!e) (some (((none:Option BT),2))) ((Gv a b).bind fun d=>cond ((d.BF.length:Int)==0) (some (((none:Option BT),11))) (some (((some d),0)))))
def C2(c:Nat)(e:AM)(f:Bool):Option ((Option BT)×Int):=
 (DM c e f).bind fun b=>Option.elim b.1 (cond (b.2 !=0) (some (((none:Option BT),b.2))) (none)) (fun a=>cond (b.2 !=0) (some (((none:Option BT),b.2))) ((De c a ([]:List Int)).bind fun d=>cond (!d.1) (some (((none:Option BT),9))) (some (((some (⟨a.An,a.Ao,a.Aj,a.BG,a.AB,a.AD,a.AU,a.weights,a.BF,d.2⟩:BT)),0)))))
def Gk{e:Type}(i:e→AN→Option (Int×e))(j:Nat)(c:Int)(d:Int)(a:Bool)(f:e)(k:AN×AN):Option (Bool×(Int×Int×Bool×e)):=
 (i f k.2).bind fun b=>cond (a) ((Hj j (⟨b.1,b.1⟩:AK) b.1).bind fun g=>some (true,g.Lo,g.Hi,false,b.2)) ((Hj j (⟨c,d⟩:AK) b.1).bind fun h=>some (true,h.Lo,h.Hi,a,b.2))
def Hk{a:Type}(c:Nat)(d:a→AN→Option (Int×a))(e:BT)(f:a):Option (AK×(List (List Int×Int))×a):=
 (EO c (fun(st:Int×Int×Bool×a) (x:AN×AN)=>Gk d c st.1 st.2.1 st.2.2.1 st.2.2.2 x) e ([]:List Int) ((0:Int),(0:Int),true,f)).bind fun b=>some (((⟨b.2.1,b.2.2.1⟩:AK),b.1,b.2.2.2.2))
def H4(c:Nat)(a:AN)(b:Int):Option (Int):=
 (idx ([a.a0,a.a1,a.a2]:List Int) b).bind fun x2=>some (x2)
def HM(f:Nat)(b:BT):Nat→(List AK)→Int→(List (List Int×Int))→Option ((List AK)×(List (List Int×Int)))
 |0,_,_,_=>none
 |g+1,d,a,c=>cond (decide (a<(b.weights.length:Int))) ((Hk f (fun(st:Unit) (x:AN)=>(H4 f x a).bind fun r=>some (r,())) (⟨b.An,b.Ao,b.Aj,b.BG,b.AB,b.AD,b.AU,b.weights,b.BF,c⟩:BT) ()).bind fun e=>(FP (((d.length+[e.1].length:Nat):Int)≤140737488355328/16)).bind fun _=>(i64 (a+1)).bind fun _=>HM f b g (d++[e.1]) (a+1) e.2.1) (some ((d,c)))
def IJ(b:Nat)(d:AM):Option ((List AK)×Int):=
 (C2 b d true).bind fun a=>Option.elim a.1 (cond (a.2 !=0) (some ((([]:List AK),a.2))) (none)) (fun c=>cond (a.2 !=0) (some ((([]:List AK),a.2))) ((HM b c b ([]:List AK) (0:Int) c.known).bind fun e=>some ((e.1,0))))
def Iu(d:Nat)(a:Int)(b:Int)(c:Int):Option (Bool×Int):=
 (i64 (b+1)).bind fun _=>(i64 (c-1)).bind fun _=>(DS d a (b+1) (c-1)).bind fun e=>some ((e,a))
def J0(a:Nat)(b:List Int)(c:Int):Option (Bool):=
 (Jj a (fun(st:Int) (x:Int)=>(Iu a x st c).bind fun r=>some (r.1,r.2)) b (-1)).bind fun d=>some (d.1)
def Fc(e:Nat)(d:AN)(c:BT)(f:List Int):Nat→Int→Int→Option (Int)
 |0,_,_=>none
 |h+1,b,a=>cond (decide (a<(c.weights.length:Int))) ((idx c.weights a).bind fun g=>(DL e f a).bind fun j=>cond (j) ((idx ([d.a0,d.a1,d.a2]:List Int) a).bind fun i=>(i64 (b+i)).bind fun _=>(i64 (a+1)).bind fun _=>Fc e d c f h (b+i) (a+1)) ((i64 (g*c.BG)).bind fun _=>(i64 (b+(g*c.BG))).bind fun _=>(i64 (a+1)).bind fun _=>Fc e d c f h (b+(g*c.BG)) (a+1))) (some (b))
def GX(a:Nat)(b:AN)(c:BT)(d:List Int):Option (Int):=
 (Fc a b c d a (0:Int) (0:Int)).bind fun z2=>some (z2)
def Gw(a:Nat)(b:BT)(d:List Int):Option (AK×(List (List Int×Int))):=
 (Hk a (fun(st:Unit) (x:AN)=>(GX a x b d).bind fun r=>some (r,())) b ()).bind fun c=>some ((c.1,c.2.1))
def IY(b:Nat)(c:AM)(d:List Int):Option (AK×Int):=
 (J0 b d (c.Ab.length:Int)).bind fun f=>(C2 b c f).bind fun a=>Option.elim a.1 (cond (a.2 !=0) (some (((⟨0,0⟩:AK),a.2))) (none)) (fun g=>cond (a.2 !=0) (some (((⟨0,0⟩:AK),a.2))) ((Gw b g d).bind fun e=>some ((e.1,0))))
def HN(f:(List Int)→Int→BT→Int→(List Int)→Option ((List (List Int×Int))×Int×(List Int)))(h:List Int)(b:BT):Nat→Int→Int→(List Int)→(List (List Int×Int))→Option (Int×(List Int)×(List (List Int×Int)))
 |0,_,_,_,_=>none
 |i+1,a,c,d,e=>cond (decide (a<(b.weights.length:Int))) ((FP (((0+h.length:Nat):Int)≤140737488355328/8)).bind fun _=>(FP (((h.length+[a].length:Nat):Int)≤140737488355328/8)).bind fun _=>(i64 (a+1)).bind fun _=>(f (h++[a]) (a+1) (⟨b.An,b.Ao,b.Aj,b.BG,b.AB,b.AD,b.AU,b.weights,b.BF,e⟩:BT) c d).bind fun g=>(i64 (a+1)).bind fun _=>HN f h b i (a+1) g.2.1 g.2.2 g.1) (some ((c,d,e)))
def HB(f:(List Int)→Int→BT→Int→(List Int)→Option ((List (List Int×Int))×Int×(List Int)))(h:List Int)(b:BT):Nat→Int→Int→(List Int)→(List (List Int×Int))→Option (Int×(List Int)×(List (List Int×Int)))
 |0,_,_,_,_=>none
 |i+1,a,c,d,e=>cond (decide (a<(b.weights.length:Int))) ((FP (((0+h.length:Nat):Int)≤140737488355328/8)).bind fun _=>(FP (((h.length+[a].length:Nat):Int)≤140737488355328/8)).bind fun _=>(i64 (a+1)).bind fun _=>(f (h++[a]) (a+1) (⟨b.An,b.Ao,b.Aj,b.BG,b.AB,b.AD,b.AU,b.weights,b.BF,e⟩:BT) c d).bind fun g=>(i64 (a+1)).bind fun _=>HB f h b i (a+1) g.2.1 g.2.2 g.1) (some ((c,d,e)))
def Gg(a:Nat):Nat→(List Int)→Int→BT→Int→(List Int)→Option ((List (List Int×Int))×Int×(List Int))
 |0,_,_,_,_,_=>none
 |f+1,b,g,e,h,i=>(Gw a e b).bind fun d=>cond (decide (h<d.1.Lo)) ((FP (((0+b.length:Nat):Int)≤140737488355328/8)).bind fun _=>(HN (Gg a f) b e a g d.1.Lo b d.2).bind fun z9=>some ((z9.2.2,z9.1,z9.2.1))) ((HB (Gg a f) b e a g h i d.2).bind fun c=>some ((c.2.2,c.1,c.2.1)))
def Jl(c:Nat)(f:AM):Option ((List Int)×Int×Int):=
 (C2 c f true).bind fun b=>Option.elim b.1 (cond (b.2 !=0) (some ((([]:List Int),0,b.2))) (none)) (fun a=>cond (b.2 !=0) (some ((([]:List Int),0,b.2))) ((Gw c a ([]:List Int)).bind fun d=>(Gg c c ([]:List Int) 0 (⟨a.An,a.Ao,a.Aj,a.BG,a.AB,a.AD,a.AU,a.weights,a.BF,d.2⟩:BT) d.1.Lo ([]:List Int)).bind fun e=>some ((e.2.2,e.2.1,0))))
def Dr(d:BT)(e:BH)(f:Int)(a:AN×AN):Option (Bool×Bool):=
 (idx ([a.1.a0,a.1.a1,a.1.a2]:List Int) f).bind fun b=>(idx d.AB e.Cd).bind fun c=>cond (decide (b<c.AW)) (some (false,true)) (some (true,false))
def Eu(e:Nat)(b:BT)(c:BH)(d:Int):Option (Bool×(List (List Int×Int))):=
 (idx b.weights d).bind fun f=>cond (decide (f<c.Ci)) (some ((false,b.known))) ((EO e (fun(st:Bool) (x:AN×AN)=>cond st none (Dr b c d x)) b ([]:List Int) false).bind fun a=>cond (a.2) (some ((false,a.1))) (some ((true,a.1))))
def CR(f:Nat)(b:BT)(g:BH):Nat→(List Int)→Int→(List (List Int×Int))→Option ((List Int)×(List (List Int×Int)))
 |0,_,_,_=>none
 |h+1,c,a,d=>cond (decide (a<(b.weights.length:Int))) ((Eu f (⟨b.An,b.Ao,b.Aj,b.BG,b.AB,b.AD,b.AU,b.weights,b.BF,d⟩:BT) g a).bind fun e=>cond (e.1) ((FP (((c.length+[a].length:Nat):Int)≤140737488355328/8)).bind fun _=>(i64 (a+1)).bind fun _=>CR f b g h (c++[a]) (a+1) e.2) ((i64 (a+1)).bind fun _=>CR f b g h c (a+1) e.2)) (some ((c,d)))
def C7(e:Nat)(d:BT):Nat→(List (List Int))→Int→(List (List Int×Int))→Option ((List (List Int))×(List (List Int×Int)))
 |0,_,_,_=>none
 |g+1,c,a,b=>cond (decide (a<(d.AD.length:Int))) ((idx d.AD a).bind fun h=>(CR e d h e ([]:List Int) (0:Int) b).bind fun f=>(FP (((c.length+[f.1].length:Nat):Int)≤140737488355328/24)).bind fun _=>(i64 (a+1)).bind fun _=>C7 e d g (c++[f.1]) (a+1) f.2) (some ((c,b)))
def DN(a:Nat)(b:BT):Option ((List (List Int))×(List (List Int×Int))):=
 (C7 a b a ([]:List (List Int)) (0:Int) b.known).bind fun c=>some ((c.1,c.2))
def Ee(c:Int→(List (List Int))→(List Int)→Option (Bool×(List Int)))(f:Nat)(e:Int)(g:List (List Int))(x2:List Int):Nat→Int→(List Int)→Option ((Bool×(List Int))⊕((List Int)))
 |0,_,_=>none
 |i+1,b,a=>cond (decide (b<(x2.length:Int))) ((idx x2 b).bind fun h=>(DL f a h).bind fun j=>cond (j) ((i64 (b+1)).bind fun _=>Ee c f e g x2 i (b+1) a) ((FP (((a.length+[h].length:Nat):Int)≤140737488355328/8)).bind fun _=>(i64 (e+1)).bind fun _=>(c (e+1) g (a++[h])).bind fun d=>cond (d.1) (some (.inl (true,d.2))) ((Lq d.2.length (0:Int) e).bind fun _=>(i64 (b+1)).bind fun _=>Ee c f e g x2 i (b+1) (EM d.2 (0:Int) e)))) (some (.inr a))
def Fa(b:Nat):Nat→Int→(List (List Int))→(List Int)→Option (Bool×(List Int))
 |0,_,_,_=>none
 |f+1,c,d,e=>cond (c==(d.length:Int)) (some ((true,e))) ((idx d c).bind fun x2=>(Ee (Fa b f) b c d x2 b (0:Int) e).bind fun z=>Sum.elim (fun a=>some ((a.1,a.2))) (fun a=>some ((false,a))) z)
def Hb(b:Nat)(d:AM):Option ((List Int)×Int):=
 (C2 b d true).bind fun a=>Option.elim a.1 (cond (a.2 !=0) (some ((([]:List Int),a.2))) (none)) (fun e=>cond (a.2 !=0) (some ((([]:List Int),a.2))) ((DN b e).bind fun f=>(Fa b b 0 f.1 ([]:List Int)).bind fun c=>cond (!c.1) (some ((([]:List Int),10))) (some ((c.2,0)))))
def Ey(g:Nat)(h:AM)(d:List Int)(c:BT):Nat→Int→(List (List Int×Int))→Option ((Bool×(List (List Int×Int)))⊕((List (List Int×Int))))
 |0,_,_=>none
 |l+1,a,b=>cond (decide (a<(d.length:Int))) ((idx d a).bind fun e=>(Ep g h e).bind fun i=>cond (!i) (some (.inl (false,b))) ((Lq d.length (0:Int) a).bind fun _=>(DL g (EM d (0:Int) a) e).bind fun j=>cond (j) (some (.inl (false,b))) ((idx h.AF a).bind fun k=>(Eu g (⟨c.An,c.Ao,c.Aj,c.BG,c.AB,c.AD,c.AU,c.weights,c.BF,b⟩:BT) k e).bind fun f=>cond (!f.1) (some (.inl (false,f.2))) ((i64 (a+1)).bind fun _=>Ey g h d c l (a+1) f.2)))) (some (.inr b))
def GV(b:Nat)(c:AM)(e:List Int):Option (Bool):=
 (C2 b c true).bind fun d=>Option.elim d.1 (cond (d.2 !=0) (some (false)) (none)) (fun f=>cond (d.2 !=0) (some (false)) (cond ((e.length:Int) !=(c.AF.length:Int)) (some (false)) ((Ey b c e f b (0:Int) f.known).bind fun z=>Sum.elim (fun a=>some (a.1)) (fun a=>some (true)) z)))
def FG(c:List Int)(d:(List (List Int))×(List (List Int×Int))):Nat→(List Int)→Int→Option ((List Int))
 |0,_,_=>none
 |f+1,b,a=>cond (decide (a<(c.length:Int))) ((idx c a).bind fun g=>(idx d.1 g).bind fun e=>(FP (((b.length+e.length:Nat):Int)≤140737488355328/8)).bind fun _=>(i64 (a+1)).bind fun _=>FG c d f (b++e) (a+1)) (some (b))
def Gx(a:Nat)(d:BT)(b:List Int):Option (Bool×(List (List Int×Int))):=
 (DN a d).bind fun c=>(FG b c a ([]:List Int) (0:Int)).bind fun z3=>(FP ((z3.length:Int)≤100000)).bind fun _=>(FP (((HX z3).length:Int)≤100000)).bind fun _=>some ((decide (((Lib.compact (HX z3)).length:Int)<(b.length:Int)),c.2))
def GH{e:Type}(f:(List Int)→Int→Int→(List Int)→Int→e→Option (Bool×(List Int)×e))(h:List Int)(g:Int)(i:Int):Nat→Int→(List Int)→e→Option ((Bool×(List Int)×e)⊕((List Int)×e))
 |0,_,_,_=>none
 |j+1,a,b,d=>(i64 (i-g)).bind fun _=>cond (decide (a≤(i-g))) ((FP (((0+h.length:Nat):Int)≤140737488355328/8)).bind fun _=>(FP (((h.length+[a].length:Nat):Int)≤140737488355328/8)).bind fun _=>(i64 (a+1)).bind fun _=>(i64 (g-1)).bind fun _=>(f (h++[a]) (a+1) (g-1) b i d).bind fun c=>cond (c.1) (some (.inl (true,c.2.1,c.2.2))) ((i64 (a+1)).bind fun _=>GH f h g i j (a+1) c.2.1 c.2.2)) (some (.inr (b,d)))
def Gy{b:Type}(e:Nat)(c:b→(List Int)→Option (Bool×b)):Nat→(List Int)→Int→Int→(List Int)→Int→b→Option (Bool×(List Int)×b)
 |0,_,_,_,_,_,_=>none
 |i+1,d,j,f,k,l,g=>cond (f==0) ((c g d).bind fun h=>some ((h.1,d,h.2))) ((GH (Gy e c i) d f l e j k g).bind fun z=>Sum.elim (fun a=>some ((a.1,a.2.1,a.2.2))) (fun a=>some ((false,a.1,a.2))) z)
def Hl{e:Type}(f:e→(List Int)→Option (Bool×e))(g:Nat)(h:Int):Nat→Bool→Int→(List Int)→e→Option (Bool×(List Int)×e)
 |0,_,_,_,_=>none
 |j+1,i,a,b,d=>cond (decide (a<(h+1))) ((Gy g f g ([]:List Int) 0 a b h d).bind fun c=>cond (c.1) (some ((c.1,c.2.1,c.2.2))) ((i64 (a+1)).bind fun _=>Hl f g h j c.1 (a+1) c.2.1 c.2.2)) (some ((i,b,d)))
def Hc{a:Type}(c:Nat)(d:a→(List Int)→Option (Bool×a))(e:Int)(f:a):Option ((List Int)×Bool×a):=
 (i64 (e+1)).bind fun _=>(Hl d c e c false (0:Int) ([]:List Int) f).bind fun b=>some ((b.2.1,b.1,b.2.2))
def GI(b:Nat)(c:List Int)(d:BT):Option (Bool×(List (List Int×Int))):=
 (Gx b d c).bind fun a=>some ((a.1,a.2))
def Ic(d:Nat)(e:AM):Option ((List Int)×Int):=
 (C2 d e true).bind fun b=>Option.elim b.1 (cond (b.2 !=0) (some ((([]:List Int),b.2))) (none)) (fun a=>cond (b.2 !=0) (some ((([]:List Int),b.2))) ((Hc d (fun(st:(List (List Int×Int))) (x:(List Int))=>(GI d x (⟨a.An,a.Ao,a.Aj,a.BG,a.AB,a.AD,a.AU,a.weights,a.BF,st⟩:BT)).bind fun r=>some (r.1,r.2)) (e.AF.length:Int) a.known).bind fun c=>cond (!c.2.1) (some ((([]:List Int),7))) (some ((c.1,0)))))
def H5(g:Nat)(d:AM)(c:BT):Nat→Int→(List BR)→(List (List Int×Int))→Option ((Int×Int×(List BR)×(List (List Int×Int)))⊕((List BR)×(List (List Int×Int))))
 |0,_,_,_=>none
 |h+1,a,e,b=>cond (decide (a<(d.AV.length:Int))) ((i64 (a+1)).bind fun _=>(Lq d.AV.length (0:Int) (a+1)).bind fun _=>(De g (⟨c.An,c.Ao,c.Aj,c.BG,c.AB,c.AD,EM d.AV (0:Int) (a+1),c.weights,c.BF,b⟩:BT) ([]:List Int)).bind fun f=>cond (!f.1) (some (.inl (a,(0:Int),EM d.AV (0:Int) (a+1),f.2))) ((i64 (a+1)).bind fun _=>H5 g d c h (a+1) (EM d.AV (0:Int) (a+1)) f.2)) (some (.inr (e,b)))
def IZ(c:Nat)(e:AM):Option (Int×Int):=
 (DM c e true).bind fun a=>Option.elim a.1 (cond (a.2 !=0) (some ((0,a.2))) (none)) (fun d=>cond (a.2 !=0) (some ((0,a.2))) ((H5 c e d c (0:Int) d.AU d.known).bind fun z=>Sum.elim (fun b=>some ((b.1,b.2.1))) (fun b=>some ((0,7))) z))
def I0(c:Nat)(d:AM):Option ((List Int)×Int):=
 (DM c d true).bind fun b=>Option.elim b.1 (cond (b.2 !=0) (some ((([]:List Int),b.2))) (none)) (fun a=>cond (b.2 !=0) (some ((([]:List Int),b.2))) ((Hc c (fun(st:(List (List Int×Int))) (x:(List Int))=>(De c (⟨a.An,a.Ao,a.Aj,a.BG,a.AB,a.AD,a.AU,a.weights,a.BF,st⟩:BT) x).bind fun r=>some (r.1,r.2)) (d.AV.length:Int) a.known).bind fun e=>some ((e.1,0))))
def Dn(d:Nat)(a:Int)(b:Int)(c:Int):Option (Bool):=
 cond (decide (b≤a)) (some (decide (a≤c))) (some (false))
def DV(d:Nat)(a:AK)(b:Int)(c:Int):Option (Bool):=
 cond (decide (b≤a.Lo)) (cond (decide (a.Lo≤a.Hi)) (some (decide (a.Hi≤c))) (some (false))) (some (false))
def Gz(b:Nat)(a:AK):Option (Int):=
 (i64 (a.Hi-a.Lo)).bind fun _=>(i64 ((a.Hi-a.Lo)+1)).bind fun _=>some ((a.Hi-a.Lo)+1)
def Ds(c:List Int):Nat→Int→Int→Option (Int)
 |0,_,_=>none
 |e+1,b,a=>cond (decide (a<(c.length:Int))) ((idx c a).bind fun d=>(i64 (b+d)).bind fun _=>(i64 (a+1)).bind fun _=>Ds c e (b+d) (a+1)) (some (b))
def F4(a:Nat)(b:List Int):Option (Int):=
 (Ds b a (0:Int) (0:Int)).bind fun c=>some (c)
def CS(c:Nat)(b:List Int):Nat→Int→Option ((Bool)⊕(Unit))
 |0,_=>none
 |d+1,a=>cond (decide (a<(b.length:Int))) ((idx b a).bind fun e=>(Dn c e 0 30).bind fun f=>cond (!f) (some (.inl false)) ((i64 (a+1)).bind fun _=>CS c b d (a+1))) (some (.inr ()))
def FH(b:Nat)(d:AX)(c:List Int):Option (Bool):=
 (CS b c b (0:Int)).bind fun z=>Sum.elim (fun a=>some (a)) (fun a=>some ((c.length:Int)==(d.Ap.length:Int))) z
def Df(d:Nat)(c:AX):Nat→Int→Int→Option (Int)
 |0,_,_=>none
 |f+1,b,a=>cond (decide (a<(c.Ap.length:Int))) ((idx c.Ap a).bind fun g=>(Gz d g).bind fun e=>(i64 (b*e)).bind fun _=>(i64 (a+1)).bind fun _=>Df d c f (min (3000:Int) (b*e)) (a+1)) (some (b))
def EW(a:Nat)(b:AX):Option (Int):=
 (Df a b a (1:Int) (0:Int)).bind fun z2=>some (z2)
def C4(c:Nat)(b:AX):Nat→Int→Option ((Int)⊕(Unit))
 |0,_=>none
 |d+1,a=>cond (decide (a<(b.Ap.length:Int))) ((idx b.Ap a).bind fun e=>(DV c e 0 100).bind fun f=>cond (!f) (some (.inl (1:Int))) ((i64 (a+1)).bind fun _=>C4 c b d (a+1))) (some (.inr ()))
def CI(c:Nat)(b:AX):Nat→Int→Option ((Int)⊕(Unit))
 |0,_=>none
 |h+1,a=>cond (decide (a<(b.AP.length:Int))) ((idx b.AP a).bind fun d=>(FH c b d).bind fun e=>cond (!e) (some (.inl (1:Int))) ((idx b.AP a).bind fun f=>(F4 c f).bind fun g=>cond (g==0) (some (.inl (1:Int))) ((i64 (a+1)).bind fun _=>CI c b h (a+1)))) (some (.inr ()))
def CD(d:Nat)(c:AX):Nat→Int→Option ((Int)⊕(Unit))
 |0,_=>none
 |e+1,a=>cond (decide (a<(c.AO.length:Int))) ((idx c.AO a).bind fun b=>cond (b.BS) ((i64 ((c.AP.length:Int)-1)).bind fun _=>(Dn d b.Number 0 ((c.AP.length:Int)-1)).bind fun f=>cond (!f) (some (.inl (1:Int))) ((DV d (⟨b.Bq,b.Br⟩:AK) 0 100).bind fun g=>cond (!g) (some (.inl (1:Int))) ((i64 (a+1)).bind fun _=>CD d c e (a+1)))) ((i64 ((c.Ap.length:Int)-1)).bind fun _=>(Dn d b.Number 0 ((c.Ap.length:Int)-1)).bind fun h=>cond (!h) (some (.inl (1:Int))) ((DV d (⟨b.Bq,b.Br⟩:AK) 0 100).bind fun i=>cond (!i) (some (.inl (1:Int))) ((i64 (a+1)).bind fun _=>CD d c e (a+1))))) (some (.inr ()))
def Eb(b:Nat)(a:AX):Option (Int):=
 cond (decide ((3:Int)<(a.Ap.length:Int))) (some (3)) (cond (decide ((3:Int)<(a.AP.length:Int))) (some (3)) (cond (decide ((5:Int)<(a.AO.length:Int))) (some (3)) (cond ((a.Ap.length:Int)==0) (some (1)) ((C4 b a b (0:Int)).bind fun z=>Sum.elim (fun e=>some (e)) (fun e=>(CI b a b (0:Int)).bind fun z=>Sum.elim (fun c=>some (c)) (fun c=>(CD b a b (0:Int)).bind fun z=>Sum.elim (fun d=>some (d)) (fun d=>(EW b a).bind fun f=>cond (decide ((2000:Int)<f)) (some (3)) (some (0))) z) z) z))))
def FY(a:Nat)(b:AM)(c:Int):Option (Int):=
 (idx b.Ab c).bind fun x2=>(F4 a x2).bind fun d=>some (d)
def DA(d:Nat)(c:AM):Nat→Int→Option ((Int)⊕(Unit))
 |0,_=>none
 |e+1,a=>cond (decide (a<(c.Az.length:Int))) ((idx c.Az a).bind fun b=>(Dn d b.AW 0 100).bind fun f=>cond (!f) (some (.inl (1:Int))) ((Dn d b.BQ 0 100).bind fun g=>cond (!g) (some (.inl (1:Int))) (cond (decide ((0:Int)<a)) ((i64 (a-1)).bind fun _=>(idx c.Az (a-1)).bind fun h=>cond (decide (h.AW≤b.AW)) (some (.inl (1:Int))) ((i64 (a-1)).bind fun _=>(idx c.Az (a-1)).bind fun i=>cond (decide (i.BQ<b.BQ)) (some (.inl (1:Int))) ((i64 (a+1)).bind fun _=>DA d c e (a+1)))) ((i64 (a+1)).bind fun _=>DA d c e (a+1))))) (some (.inr ()))
def CJ(c:Nat)(b:AM):Nat→Int→Option ((Int)⊕(Unit))
 |0,_=>none
 |h+1,a=>cond (decide (a<(b.AF.length:Int))) ((idx b.AF a).bind fun d=>(i64 ((b.Az.length:Int)-1)).bind fun _=>(Dn c d.Cd 0 ((b.Az.length:Int)-1)).bind fun e=>cond (!e) (some (.inl (1:Int))) ((idx b.AF a).bind fun f=>(Dn c f.Ci 1 90).bind fun g=>cond (!g) (some (.inl (1:Int))) ((i64 (a+1)).bind fun _=>CJ c b h (a+1)))) (some (.inr ()))
def CK(d:Nat)(b:AM):Nat→Int→Option ((Int)⊕(Unit))
 |0,_=>none
 |h+1,a=>cond (decide (a<(b.AV.length:Int))) ((idx b.AV a).bind fun e=>(i64 ((b.Ab.length:Int)-1)).bind fun _=>(Dn d e.BS 0 ((b.Ab.length:Int)-1)).bind fun f=>cond (!f) (some (.inl (1:Int))) ((idx b.AV a).bind fun c=>(DV d (⟨c.Cy,c.Cz⟩:AK) 0 9000).bind fun g=>cond (!g) (some (.inl (1:Int))) ((i64 (a+1)).bind fun _=>CK d b h (a+1)))) (some (.inr ()))
def Gc(b:Nat)(a:AM):Option (Int):=
 (Eb b (⟨a.Ah,a.Ab,a.Ak⟩:AX)).bind fun f=>cond (f !=0) (some (f)) (cond (decide ((3:Int)<(a.Az.length:Int))) (some (3)) (cond (decide ((3:Int)<(a.AF.length:Int))) (some (3)) (cond (decide ((5:Int)<(a.AV.length:Int))) (some (3)) ((Dn b a.Flat 0 100).bind fun g=>cond (!g) (some (1)) (cond ((a.Az.length:Int)==0) (some (1)) ((DA b a b (0:Int)).bind fun z=>Sum.elim (fun c=>some (c)) (fun c=>(CJ b a b (0:Int)).bind fun z=>Sum.elim (fun d=>some (d)) (fun d=>(CK b a b (0:Int)).bind fun z=>Sum.elim (fun e=>some (e)) (fun e=>some (0)) z) z) z))))))
def Gh(b:Nat)(a:AK):Option (AK):=
 some (a)
def GA(b:Nat)(a:List Int):Option ((List Int)):=
 (FP (((([]:List Int).length+a.length:Nat):Int)≤140737488355328/8)).bind fun _=>some (([]:List Int)++a)
def CY(d:Nat)(c:AX):Nat→Int→(List AK)→Option ((List AK))
 |0,_,_=>none
 |f+1,b,a=>cond (decide (b<(c.Ap.length:Int))) ((idx c.Ap b).bind fun g=>(Gh d g).bind fun e=>(FP (((a.length+[e].length:Nat):Int)≤140737488355328/16)).bind fun _=>(i64 (b+1)).bind fun _=>CY d c f (b+1) (a++[e])) (some (a))
def CT(e:Nat)(d:AX):Nat→Int→(List (List Int))→Option ((List (List Int)))
 |0,_,_=>none
 |g+1,b,a=>cond (decide (b<(d.AP.length:Int))) ((idx d.AP b).bind fun f=>(GA e f).bind fun c=>(FP (((a.length+[c].length:Nat):Int)≤140737488355328/24)).bind fun _=>(i64 (b+1)).bind fun _=>CT e d g (b+1) (a++[c])) (some (a))
def CU(f:Nat)(e:AX):Nat→Int→(List Cq)→Option ((List Cq))
 |0,_,_=>none
 |g+1,b,a=>cond (decide (b<(e.AO.length:Int))) ((idx e.AO b).bind fun c=>(Gh f (⟨c.Bq,c.Br⟩:AK)).bind fun d=>(FP (((a.length+[(⟨c.BS,c.Number,d.Lo,d.Hi⟩:Cq)].length:Nat):Int)≤140737488355328/32)).bind fun _=>(i64 (b+1)).bind fun _=>CU f e g (b+1) (a++[(⟨c.BS,c.Number,d.Lo,d.Hi⟩:Cq)])) (some (a))
def DW(a:Nat)(b:AX):Option (AX):=
 (CY a b a (0:Int) ([]:List AK)).bind fun z4=>(CT a b a (0:Int) ([]:List (List Int))).bind fun c=>(CU a b a (0:Int) ([]:List Cq)).bind fun z24=>some ((⟨z4,c,z24⟩:AX))
def Dg(b:AX):Nat→Int→Option ((Bool)⊕(Unit))
 |0,_=>none
 |c+1,a=>cond (decide (a<(b.AP.length:Int))) ((idx b.AP a).bind fun d=>cond (decide ((6:Int)<(d.length:Int))) (some (.inl false)) ((i64 (a+1)).bind fun _=>Dg b c (a+1))) (some (.inr ()))
def FI(c:Nat)(a:AX):Option (Bool):=
 cond (decide ((5:Int)<(a.Ap.length:Int))) (some (false)) (cond (decide ((5:Int)<(a.AP.length:Int))) (some (false)) (cond (decide ((7:Int)<(a.AO.length:Int))) (some (false)) ((Dg a c (0:Int)).bind fun z=>Sum.elim (fun b=>some (b)) (fun b=>(Eb c a).bind fun d=>cond (d !=0) (some (true)) ((EW c a).bind fun e=>some (decide (e≤150)))) z)))
def H6(b:Nat)(a:AK):Option (AK):=
 some (a)
def C5(c:AM):Nat→Int→(List BE)→Option ((List BE))
 |0,_,_=>none
 |f+1,b,a=>cond (decide (b<(c.Az.length:Int))) ((idx c.Az b).bind fun d=>(idx c.Az b).bind fun e=>(FP (((a.length+[(⟨d.AW,e.BQ⟩:BE)].length:Nat):Int)≤140737488355328/16)).bind fun _=>(i64 (b+1)).bind fun _=>C5 c f (b+1) (a++[(⟨d.AW,e.BQ⟩:BE)])) (some (a))
def CZ(c:AM):Nat→Int→(List BH)→Option ((List BH))
 |0,_,_=>none
 |f+1,b,a=>cond (decide (b<(c.AF.length:Int))) ((idx c.AF b).bind fun d=>(idx c.AF b).bind fun e=>(FP (((a.length+[(⟨d.Cd,e.Ci⟩:BH)].length:Nat):Int)≤140737488355328/16)).bind fun _=>(i64 (b+1)).bind fun _=>CZ c f (b+1) (a++[(⟨d.Cd,e.Ci⟩:BH)])) (some (a))
def C0(g:Nat)(d:AM):Nat→Int→(List BR)→Option ((List BR))
 |0,_,_=>none
 |h+1,b,a=>cond (decide (b<(d.AV.length:Int))) ((idx d.AV b).bind fun e=>(idx d.AV b).bind fun f=>(H6 g (⟨f.Cy,f.Cz⟩:AK)).bind fun c=>(FP (((a.length+[(⟨e.BS,c.Lo,c.Hi⟩:BR)].length:Nat):Int)≤140737488355328/24)).bind fun _=>(i64 (b+1)).bind fun _=>C0 g d h (b+1) (a++[(⟨e.BS,c.Lo,c.Hi⟩:BR)])) (some (a))
def Ec(b:Nat)(a:AM):Option (AM):=
 (DW b (⟨a.Ah,a.Ab,a.Ak⟩:AX)).bind fun c=>(C5 a b (0:Int) ([]:List BE)).bind fun e=>(CZ a b (0:Int) ([]:List BH)).bind fun d=>(C0 b a b (0:Int) ([]:List BR)).bind fun z26=>some ((⟨c.Ap,c.AP,c.AO,a.Flat,e,d,z26⟩:AM))
def GJ(b:List Int)(c:List Int):Nat→Int→Option ((Bool)⊕(Unit))
 |0,_=>none
 |d+1,a=>cond (decide (a<(b.length:Int))) ((idx b a).bind fun e=>(idx c a).bind fun f=>cond (e !=f) (some (.inl false)) ((i64 (a+1)).bind fun _=>GJ b c d (a+1))) (some (.inr ()))
def Db(d:Nat)(b:List Int)(c:List Int):Option (Bool):=
 cond ((b.length:Int) !=(c.length:Int)) (some (false)) ((GJ b c d (0:Int)).bind fun z=>Sum.elim (fun a=>some (a)) (fun a=>some (true)) z)
def GB(b:Nat)(a:AM):Option (Bool):=
 (FI b (⟨a.Ah,a.Ab,a.Ak⟩:AX)).bind fun c=>cond (c) (cond (decide ((a.Az.length:Int)≤5)) (cond (decide ((a.AF.length:Int)≤5)) (some (decide ((a.AV.length:Int)≤7))) (some (false))) (some (false))) (some (false))
def Dh(c:Nat)(a:Int)(b:Int):Option (AK):=
 some ((⟨a,b⟩:AK))
def Cm(c:Nat)(d:Int):Option (AM):=
 (Dh c 80 80).bind fun b=>(Dh c 40 40).bind fun a=>(Lq [(⟨0,b.Lo,b.Hi⟩:BR),(⟨0,a.Lo,a.Hi⟩:BR)].length (0:Int) d).bind fun _=>some ((⟨[(⟨40,42⟩:AK),(⟨60,63⟩:AK)],[[10,10],[5,15]],([]:List Cq),3,[(⟨55,6⟩:BE),(⟨51,4⟩:BE),(⟨40,2⟩:BE)],[(⟨0,20⟩:BH),(⟨1,10⟩:BH)],EM [(⟨0,b.Lo,b.Hi⟩:BR),(⟨0,a.Lo,a.Hi⟩:BR)] (0:Int) d⟩:AM))
def EJ(a:Nat)(b:AM):Option (Bool):=
 (GB a b).bind fun c=>cond (c) ((Gc a b).bind fun d=>some (d==0)) (some (false))
def C3(a:Nat):Option (Bool):=
 (Cm a 0).bind fun z=>(Jk a z [41,62]).bind fun n=>(Cm a 0).bind fun aA=>(IJ a aA).bind fun d=>(Cm a 0).bind fun o=>(IY a o [0,1]).bind fun b=>(Cm a 0).bind fun p=>(Jl a p).bind fun c=>(Cm a 1).bind fun q=>(Hb a q).bind fun e=>(Cm a 0).bind fun r=>(Ic a r).bind fun f=>(Cm a 2).bind fun s=>(IZ a s).bind fun g=>(Cm a 2).bind fun t=>(I0 a t).bind fun h=>cond (n.2==0) ((Db a n.1 [80,120]).bind fun u=>cond (u) (cond (d.2==0) (cond ((d.1.length:Int)==2) ((idx d.1 (0:Int)).bind fun i=>(Dh a 40 80).bind fun j=>cond ([i.Lo,i.Hi]==[j.Lo,j.Hi]) ((idx d.1 (1:Int)).bind fun k=>(Dh a 120 120).bind fun l=>cond ([k.Lo,k.Hi]==[l.Lo,l.Hi]) (cond (b.2==0) ((Dh a 160 200).bind fun m=>cond ([b.1.Lo,b.1.Hi]==[m.Lo,m.Hi]) (cond (c.2.2==0) ((Db a c.1 [1]).bind fun v=>cond (v) (cond (c.2.1==180) (cond (e.2==0) ((Db a e.1 [1,0]).bind fun w=>cond (w) (cond (f.2==0) ((Db a f.1 [0,1]).bind fun x=>cond (x) (cond (g.2==0) (cond (g.1==1) (cond (h.2==0) ((Db a h.1 [0]).bind fun y=>some (y)) (some (false))) (some (false))) (some (false))) (some (false))) (some (false))) (some (false))) (some (false))) (some (false))) (some (false))) (some (false))) (some (false))) (some (false))) (some (false))) (some (false))) (some (false))) (some (false))) (some (false))) (some (false))
end Go.Proofs.YtbhofkcbfblijaaGreat
end
section
namespace Go.Proofs.YtbhofkcbfblijaaGreat
theorem bd{α β:Type}{x:Option α}{a:α}{f:α→Option β}(h:x=some a):x.bind f=f a:=by rw[h];rfl
theorem Cs{β:Type}{x:Int}{f:Int→Option β}(h0:-9223372036854775808≤x)(a:x≤9223372036854775807):(i64 x).bind f=f x:=bd (WS h0 a)
theorem C1{α β:Type}{xs:List α}{k:Nat}{f:α→Option β}(h:k<xs.length):(idx xs (k:Int)).bind f=f xs[k]:=bd (idx_eq h)
theorem Hd{β:Type}{p:Prop}[Decidable p]{f:Unit→Option β}(h:p):(FP p).bind f=f ():=bd (if_pos h)
theorem W2{β:Type}{a b:Int}{f:Int→Option β}(h0:0≤a)(c:1≤b):(rem a b).bind f=f (a%b):=bd (if_pos ⟨h0,c⟩)
theorem YM{β:Type}{a b:Int}{f:Int→Option β}(h0:0≤a)(c:1≤b):(quo a b).bind f=f (a/b):=bd (if_pos ⟨h0,c⟩)
theorem ZH{β:Type}{n:Int}{b:Nat}{f:Unit→Option β}(h0:0≤n)(a:n*b≤140737488355328)(c:n≤140737488355328):(Ui n b).bind f=f ():=bd (if_pos ⟨h0,a,c⟩)
theorem W3{β:Type}{n:Nat}{a b:Int}{f:Unit→Option β}(h:0≤a∧a≤b∧b≤(n:Int)):(Lq n a b).bind f=f ():=bd (if_pos h)
theorem ct{α:Type}{b:Bool}{x y:α}(h:b=true):cond b x y=x:=by rw[h];rfl
theorem cf{α:Type}{b:Bool}{x y:α}(h:b=false):cond b x y=y:=by rw[h];rfl
theorem nt{α:Type}{x y:α}:cond (!true) x y=y:=rfl
theorem nf{α:Type}{x y:α}:cond (!false) x y=x:=rfl
theorem dt{p:Prop}[Decidable p](h:p):decide p=true:=decide_eq_true h
theorem df{p:Prop}[Decidable p](h:¬p):decide p=false:=decide_eq_false h
theorem EX(i:Nat):(i:Int)+1=((i+1:Nat):Int):=by omega
def Ev(n a b:Int):Bool:=decide (a≤n)&&decide (n≤b)
theorem DB{n a b:Int}:Ev n a b=true↔a≤n∧n≤b:=by simp[Ev]
theorem I9{n a b:Int}:Ev n a b=false↔¬(a≤n∧n≤b):=by rw[←DB];simp
theorem Uk{σ β:Type}(F:Nat→σ→Nat→Option β)(n:Nat)(g:σ→Nat→σ)(I:Nat→σ→Prop)(b:∀i s,i<n→I i s→I (i+1) (g s i))(h:∀m i s,i<n→I i s→F (m+1) s i=F m (g s i) (i+1)):
  ∀(d i k:Nat) (s:σ),n=i+d→d≤k→I i s→F k s i=F (k-d) ((List.range' i d).foldl g s) n∧I n ((List.range' i d).foldl g s)
 |0,i,k,s,c,_,a=>by
  obtain rfl:n=i:=by omega
  exact⟨rfl,a⟩
 |d+1,i,0,s,_,e,_=>by omega
 |d+1,i,k+1,s,c,e,a=>by
  have:=Uk F n g I b h d (i+1) k (g s i) (by omega) (by omega) (b i s (by omega) a);rw[h k i s (by omega) a,List.range'_succ,List.foldl_cons,show k+1-(d+1)=k-d by omega];exact this
theorem Me{α σ:Type}(g:σ→α→σ)(xs:List α)(f:σ→Nat→σ)(a:∀s i (hi:i<xs.length),f s i=g s xs[i]):∀(d i:Nat) (s:σ),xs.length=i+d→(List.range' i d).foldl f s=(xs.drop i).foldl g s
 |0,i,s,h=>by rw[List.drop_eq_nil_of_le (by omega)];rfl
 |d+1,i,s,h=>by
  have hi:i<xs.length:=by omega
  rw[List.range'_succ,List.foldl_cons,List.drop_eq_getElem_cons hi,List.foldl_cons,a s i hi];exact Me g xs f a d (i+1) _ (by omega)
theorem Yh {α σ β:Type} (xs:List α) (F:Nat→σ→Nat→Option β) (g:σ→α→σ) (I:Nat→σ→Prop) (c:∀i s (hi:i<xs.length),I i s→I (i+1) (g s xs[i])) (h:∀m i s (hi:i<xs.length),I i s→F (m+1) s i=F m (g s xs[i]) (i+1))
  {k:Nat} {s0:σ} (d:xs.length≤k) (h0:I 0 s0):F k s0 0=F (k-xs.length) (xs.foldl g s0) xs.length∧I xs.length (xs.foldl g s0):=by
 by_cases b:xs.length=0
 ·obtain rfl:=List.eq_nil_of_length_eq_zero b;exact⟨rfl,h0⟩
 ·have a0:α:=xs[0]'(by omega);have e:=Me g xs (fun s i=>g s (xs.getD i a0)) (fun s i hi=>by simp[List.getElem?_eq_getElem hi]) xs.length 0 s0 (by omega);rw[List.drop_zero] at e;rw[←e];refine Uk F xs.length (fun s i=>g s (xs.getD i a0)) I (fun i s hi a=>?_) (fun m i s hi a=>?_) xs.length 0 k s0 (by omega) d h0
  ·have:=c i s hi a;simpa[List.getElem?_eq_getElem hi] using this
  ·have:=h m i s hi a;simpa[List.getElem?_eq_getElem hi] using this
theorem Ns{α σ β:Type}(xs:List α)(F:Nat→σ→Nat→Option β)(g:σ→α→σ)(I:Nat→σ→Prop)(fin:σ→β)(a:∀i s (hi:i<xs.length),I i s→I (i+1) (g s xs[i]))(h:∀m i s (hi:i<xs.length),I i s→F (m+1) s i=F m (g s xs[i]) (i+1))
  (b:∀m s,I xs.length s→F (m+1) s xs.length=some (fin s)){k:Nat}{s0:σ}(f:xs.length<k)(h0:I 0 s0):F k s0 0=some (fin (xs.foldl g s0)):=by
 obtain⟨c,d⟩:=Yh xs F g I a h (k:=k) (s0:=s0) (by omega) h0;obtain⟨j,e⟩:∃j,k-xs.length=j+1:=⟨k-xs.length-1,by omega⟩;rw[c,e,b _ _ d]
theorem Ul {β:Type} (F:Nat→Nat→Option (β⊕Unit)) (n:Nat) (ok:Nat→Bool) (b:β) (h:∀m i,i<n→F (m+1) i=cond (ok i) (F m (i+1)) (some (.inl b))) (a:∀m,F (m+1) n=some (.inr ())):
  ∀(d i k:Nat),n=i+d→d<k→F k i=some (cond ((List.range' i d).all ok) (.inr ()) (.inl b))
 |0,i,0,_,c=>by omega
 |0,i,k+1,hi,_=>by
  obtain rfl:n=i:=by omega
  exact a k
 |d+1,i,0,_,c=>by omega
 |d+1,i,k+1,hi,c=>by
  rw[h k i (by omega),List.range'_succ,List.all_cons];cases ok i with
  |false=>rfl
  |true=>rw[Bool.true_and];exact Ul F n ok b h a d (i+1) k (by omega) (by omega)
theorem Nt{α:Type}(p:α→Bool)(xs:List α)(ok:Nat→Bool)(a:∀i (hi:i<xs.length),ok i=p xs[i]):∀(d i:Nat),xs.length=i+d→(List.range' i d).all ok=(xs.drop i).all p
 |0,i,h=>by rw[List.drop_eq_nil_of_le (by omega)];rfl
 |d+1,i,h=>by
  have hi:i<xs.length:=by omega
  rw[List.range'_succ,List.all_cons,List.drop_eq_getElem_cons hi,List.all_cons,a i hi];rw[Nt p xs ok a d (i+1) (by omega)]
theorem KL{α β:Type}(xs:List α)(F:Nat→Nat→Option (β⊕Unit))(ok:α→Bool)(b:β)(h:∀m i (hi:i<xs.length),F (m+1) i=cond (ok xs[i]) (F m (i+1)) (some (.inl b)))(a:∀m,F (m+1) xs.length=some (.inr ()))
  {k:Nat}(d:xs.length<k):F k 0=some (cond (xs.all ok) (.inr ()) (.inl b)):=by
 by_cases c:xs.length=0
 ·obtain rfl:=List.eq_nil_of_length_eq_zero c;obtain⟨k,rfl⟩:∃k',k=k'+1:=⟨k-1,by omega⟩;exact a k
 ·have a0:α:=xs[0]'(by omega);have e:=Nt ok xs (fun i=>ok (xs.getD i a0)) (fun i hi=>by simp[List.getElem?_eq_getElem hi]) xs.length 0 (by omega);rw[List.drop_zero] at e;rw[←e];refine Ul F xs.length (fun i=>ok (xs.getD i a0)) b (fun m i hi=>?_) a xs.length 0 k (by omega) d;have:=h m i hi;simpa[List.getElem?_eq_getElem hi] using this
theorem KM:∀(l:List Int) (s:Int),l.foldl (· +·) s=s+l.sum
 |[],s=>by simp
 |x::l,s=>by rw[List.foldl_cons,KM l,List.sum_cons];omega
theorem Mf{a b:Int}(c:a≤0)(d:0≤b):∀l:List Int,(∀x∈l,a≤x∧x≤b)→a*l.length≤l.sum∧l.sum≤b*l.length
 |[],_=>by simp
 |x::l,h=>by
  have f:=h x (List.mem_cons_self ..);have g:=Mf c d l fun y e=>h y (List.mem_cons_of_mem _ e);rw[List.sum_cons,List.length_cons];have i:a*((l.length+1:Nat):Int)=a*l.length+a:=by rw[Int.natCast_add,Int.mul_add];simp
  have j:b*((l.length+1:Nat):Int)=b*l.length+b:=by rw[Int.natCast_add,Int.mul_add];simp
  omega
def run {σ α:Type} (cb:σ→α→Option (Bool×σ)):List α→σ→Option (Bool×σ)
 |[],s=>some (true,s)
 |x::l,s=>(cb s x).bind fun r=>cond r.1 (run cb l r.2) (some (false,r.2))
theorem run_pure{σ α:Type}{cb:σ→α→Option (Bool×σ)}{ok:α→Bool}:∀(l:List α) (s:σ),(∀x∈l,∀s,cb s x=some (ok x,s))→run cb l s=some (l.all ok,s)
 |[],s,_=>rfl
 |x::l,s,h=>by
  rw[run,bd (h x (List.mem_cons_self ..) s),List.all_cons];cases ok x with
  |false=>rfl
  |true=>exact run_pure l s fun y a=>h y (List.mem_cons_of_mem _ a)
theorem Qw{σ α:Type}(F:Nat→Int→σ→Option ((Int×σ)⊕σ))(cb:σ→α→Option (Bool×σ))(p:List α)
  (a:∀m i s,F (m+1) i s=cond (decide (i<(p.length:Int))) ((idx p i).bind fun x=>(((cb s x).bind fun r=>some (!r.1,r.2)).bind fun r=>some (r.1,r.2)).bind fun r=>cond r.1 (some (.inl (i,r.2))) ((i64 (i+1)).bind fun _=>F m (i+1) r.2)) (some (.inr s)))
  (c:p.length≤5000):∀(n m i:Nat) (s:σ),p.length=i+n→n<m→
  (((F m (i:Int) s).bind fun z=>Sum.elim (fun q=>some (q.1,q.2)) (fun q=>some (((-1:Int)),q)) z).bind fun r=>some (decide ((0:Int)≤r.1),r.2)).bind (fun r=>some (!r.1,r.2))=run cb (p.drop i) s
 |n,0,i,s,h,hm=>by omega
 |0,m+1,i,s,h,hm=>by
  rw[a,cf (df (by omega)),List.drop_eq_nil_of_le (by omega)];rfl
 |n+1,m+1,i,s,h,hm=>by
  have hi:i<p.length:=by omega
  rw[a,ct (dt (by omega)),C1 hi,List.drop_eq_getElem_cons hi,run];cases cb s p[i] with
  |none=>rfl
  |some r=>
   obtain⟨b,s2⟩:=r;simp only[Option.bind_some];cases b with
   |false=>
    rw[nf];show some (!decide ((0:Int)≤(i:Int)),s2)=some (false,s2);rw[dt (by omega)];rfl
   |true=>
    rw[nt,Cs (by omega) (by omega),EX i,ct rfl];exact Qw F cb p a c n m (i+1) s2 (by omega) (by omega)
theorem I6{σ α:Type}{F:Nat→Int→σ→Option ((Int×σ)⊕σ)}{cb:σ→α→Option (Bool×σ)}{p:List α}
  (a:∀m i s,F (m+1) i s=cond (decide (i<(p.length:Int))) ((idx p i).bind fun x=>(((cb s x).bind fun r=>some (!r.1,r.2)).bind fun r=>some (r.1,r.2)).bind fun r=>cond r.1 (some (.inl (i,r.2))) ((i64 (i+1)).bind fun _=>F m (i+1) r.2)) (some (.inr s)))
  (b:p.length≤900){K:Nat}(hK:1000≤K)(s:σ):
  (((F K (0:Int) s).bind fun z=>Sum.elim (fun q=>some (q.1,q.2)) (fun q=>some (((-1:Int)),q)) z).bind fun r=>some (decide ((0:Int)≤r.1),r.2)).bind (fun r=>some (!r.1,r.2))=run cb p s:=
 Qw F cb p a (by omega) p.length K 0 s (by omega) (by omega)
section
variable{K:Nat}(hK:1000≤K)
include hK
theorem Qd{σ:Type}(cb:σ→AK→Option (Bool×σ))(p:List AK)(a:p.length≤900)(s:σ):HY K cb p s=run cb p s:=
 I6 (F:=En (fun(st:σ) (x:AK)=>(Gn K cb x st).bind fun r=>some (r.1,r.2)) p) (fun _ _ _=>rfl) a hK s
theorem RC{σ:Type}(cb:σ→List Int→Option (Bool×σ))(p:List (List Int))(a:p.length≤900)(s:σ):It K cb p s=run cb p s:=
 I6 (F:=EC (fun(st:σ) (x:List Int)=>(GU K cb x st).bind fun r=>some (r.1,r.2)) p) (fun _ _ _=>rfl) a hK s
theorem Qe{σ:Type}(cb:σ→Cq→Option (Bool×σ))(p:List Cq)(a:p.length≤900)(s:σ):HZ K cb p s=run cb p s:=
 I6 (F:=Eo (fun(st:σ) (x:Cq)=>(Gq K cb x st).bind fun r=>some (r.1,r.2)) p) (fun _ _ _=>rfl) a hK s
theorem R5{σ:Type}(cb:σ→Int→Option (Bool×σ))(p:List Int)(a:p.length≤900)(s:σ):II K cb p s=run cb p s:=
 I6 (F:=EN (fun(st:σ) (x:Int)=>(G8 K cb x st).bind fun r=>some (r.1,r.2)) p) (fun _ _ _=>rfl) a hK s
theorem Pn{σ:Type}(cb:σ→BE→Option (Bool×σ))(p:List BE)(a:p.length≤900)(s:σ):HJ K cb p s=run cb p s:=
 I6 (F:=Er (fun(st:σ) (x:BE)=>(Ga K cb x st).bind fun r=>some (r.1,r.2)) p) (fun _ _ _=>rfl) a hK s
theorem Po{σ:Type}(cb:σ→BH→Option (Bool×σ))(p:List BH)(a:p.length≤900)(s:σ):HK K cb p s=run cb p s:=
 I6 (F:=Es (fun(st:σ) (x:BH)=>(Gb K cb x st).bind fun r=>some (r.1,r.2)) p) (fun _ _ _=>rfl) a hK s
theorem Qf{σ:Type}(cb:σ→BR→Option (Bool×σ))(p:List BR)(a:p.length≤900)(s:σ):H2 K cb p s=run cb p s:=
 I6 (F:=ED (fun(st:σ) (x:BR)=>(Gu K cb x st).bind fun r=>some (r.1,r.2)) p) (fun _ _ _=>rfl) a hK s
end
theorem Lu(K:Nat)(n a b:Int):Dn K n a b=some (Ev n a b):=by unfold Dn Ev;cases decide (a≤n)<;>rfl
theorem IA(K:Nat)(n a b:Int):EZ K n a b=some (Ev n a b):=by unfold EZ Ev;cases decide (a≤n)<;>rfl
theorem HU(K:Nat)(n a b:Int):DS K n a b=some (Ev n a b):=by unfold DS Ev;cases decide (a≤n)<;>rfl
def Ja (lo hi a b:Int):Bool:=decide (a≤lo)&&(decide (lo≤hi)&&decide (hi≤b))
theorem Qx{lo hi a b:Int}:Ja lo hi a b=true↔a≤lo∧lo≤hi∧hi≤b:=by simp[Ja]
theorem Jz(K:Nat)(r:AK)(a b:Int):DV K r a b=some (Ja r.Lo r.Hi a b):=by
 unfold DV Ja;cases decide (a≤r.Lo)
 ·rfl
 ·cases decide (r.Lo≤r.Hi)<;>rfl
theorem MR(K:Nat)(r:AK):EH K r=some (Ja r.Lo r.Hi 0 100):=Jz K r 0 100
theorem Yi(K:Nat)(r:AK)(b:Int):H0 K r b=some (Ja r.Lo r.Hi 0 b):=Jz K r 0 b
theorem R6{K:Nat}(hK:1000≤K)(l:List Int)(hl:l.length≤100)(a:∀x∈l,0≤x∧x≤10000):F4 K l=some l.sum:=by
 unfold F4;have h:Ds l K 0 0=some (l.foldl (· +·) 0):=Ns l (fun m s i=>Ds l m s (i:Int)) (· +·) (fun i s=>0≤s∧s≤10000*(i:Int)) id (fun i s hi b=>by have:=a _ (List.getElem_mem hi);omega)
  (fun m i s hi b=>by
   have c:=a _ (List.getElem_mem hi);show Ds l (m+1) s (i:Int)=_;rw[Ds.eq_2,ct (dt (by omega)),C1 hi,Cs (by omega) (by omega),Cs (by omega) (by omega),EX i])
  (fun m s _=>by
   show Ds l (m+1) s (l.length:Int)=_;rw[Ds.eq_2,cf (df (by omega))];rfl) (by omega) (by omega)
 rw[bd h,KM,Int.zero_add]
theorem R7{K:Nat}(hK:1000≤K)(l:List Int)(hl:l.length≤100)(a:∀x∈l,0≤x∧x≤10000):IH K l=some l.sum:=by
 unfold IH;have h:E0 l K 0 0=some (l.foldl (· +·) 0):=Ns l (fun m s i=>E0 l m s (i:Int)) (· +·) (fun i s=>0≤s∧s≤10000*(i:Int)) id (fun i s hi b=>by have:=a _ (List.getElem_mem hi);omega)
  (fun m i s hi b=>by
   have c:=a _ (List.getElem_mem hi);show E0 l (m+1) s (i:Int)=_;rw[E0.eq_2,ct (dt (by omega)),C1 hi,Cs (by omega) (by omega),Cs (by omega) (by omega),EX i])
  (fun m s _=>by
   show E0 l (m+1) s (l.length:Int)=_;rw[E0.eq_2,cf (df (by omega))];rfl) (by omega) (by omega)
 rw[bd h,KM,Int.zero_add]
def Jm(c:AX)(l:List Int):Bool:=l.all (fun x=>Ev x 0 30)&&(l.length==c.Ap.length)
def Jn(c:AX)(l:List Int):Bool:=Jm c l&&decide (0<l.sum)
def IB(c:AX)(t:Cq):Bool:=Ev t.Number 0 ((cond t.BS c.AP.length c.Ap.length:Nat)-1)&&Ja t.Bq t.Br 0 100
def Dk(r:AK):Int:=r.Hi-r.Lo+1
def GK(l:List AK):Int:=l.foldl (fun n r=>n*Dk r) 1
def Fv(c:AX):Int:=
 if 3<c.Ap.length∨3<c.AP.length∨5<c.AO.length then 3
 else if c.Ap.length=0 then 1
 else if !(c.Ap.all fun r=>Ja r.Lo r.Hi 0 100) then 1
 else if !(c.AP.all (Jn c)) then 1
 else if !(c.AO.all (IB c)) then 1
 else if 2000<GK c.Ap then 3 else 0
theorem Mg{c:AX}{l:List Int}(h:Jm c l=true):l.length=c.Ap.length∧∀x∈l,0≤x∧x≤30:=by
 unfold Jm at h;rw[Bool.and_eq_true,List.all_eq_true,beq_iff_eq] at h;exact⟨h.2,fun x a=>DB.1 (h.1 x a)⟩
theorem W4(a b:Nat):((a:Int)==(b:Int))=(a==b):=by rw[Bool.eq_iff_iff,beq_iff_eq,beq_iff_eq];omega
theorem R8{K:Nat}(hK:1000≤K)(c:AX)(l:List Int)(hl:l.length≤100):FH K c l=some (Jm c l):=by
 unfold FH;have h:CS K l K 0=_:=KL l (fun m i=>CS K l m (i:Int)) (fun x=>Ev x 0 30) false (fun m i hi=>by
   show CS K l (m+1) (i:Int)=_;rw[CS.eq_2,ct (dt (by omega)),C1 hi,bd (Lu ..)];cases Ev l[i] 0 30 with
   |false=>rw[nf,cf rfl]
   |true=>rw[nt,Cs (by omega) (by omega),EX i,ct rfl])
  (fun m=>by
   show CS K l (m+1) (l.length:Int)=_;rw[CS.eq_2,cf (df (by omega))]) (k:=K) (by omega)
 rw[bd h];unfold Jm;cases l.all (fun x=>Ev x 0 30) with
 |false=>rw[cf rfl,Bool.false_and];rfl
 |true=>
  rw[ct rfl,Bool.true_and,←W4];rfl
def HV(r:AK):Prop:=0≤r.Lo∧r.Lo≤r.Hi∧r.Hi≤100
theorem UJ{r:AK}:Ja r.Lo r.Hi 0 100=true↔HV r:=Qx
theorem Pp(K:Nat){r:AK}(h:HV r):Gz K r=some (Dk r):=by
 unfold HV at h;unfold Gz Dk;rw[Cs (by omega) (by omega),Cs (by omega) (by omega)]
theorem Qy(K:Nat){r:AK}(h:HV r):GS K r=some (Dk r):=Pp K h
theorem UK(K:Nat){r:AK}(h:HV r):Hz K r=some (Dk r):=Pp K h
theorem Hw{r:AK}(h:HV r):1≤Dk r∧Dk r≤101:=by unfold HV at h;unfold Dk;omega
theorem Ky{a b x y:Int}(d:0≤a)(e:a≤x)(c:0≤b)(f:b≤y):0≤a*b∧a*b≤x*y:=
 ⟨Int.mul_nonneg d c,Int.mul_le_mul e f c (by omega)⟩
theorem foldl_min{C:Int}(b:0≤C):∀(l:List AK) (s:Int),(∀r∈l,HV r)→0≤s→l.foldl (fun n r=>min C (n*Dk r)) (min C s)=min C (l.foldl (fun n r=>n*Dk r) s)
 |[],s,_,_=>rfl
 |r::l,s,h,c=>by
  have d:=Hw (h r (List.mem_cons_self ..));rw[List.foldl_cons,List.foldl_cons];have e:min C (min C s*Dk r)=min C (s*Dk r):=by
   rcases Int.le_total C s with a|a
   ·rw[Int.min_eq_left a];have g:C*1≤C*Dk r:=Int.mul_le_mul_of_nonneg_left d.1 b;have i:s*1≤s*Dk r:=Int.mul_le_mul_of_nonneg_left d.1 c;rw[Int.min_eq_left (by omega),Int.min_eq_left (by omega)]
   ·rw[Int.min_eq_right a]
  rw[e];exact foldl_min b l (s*Dk r) (fun y f=>h y (List.mem_cons_of_mem _ f)) (Int.mul_nonneg c (by omega))
theorem MS{l:List AK}(h:(l.all fun r=>Ja r.Lo r.Hi 0 100)=true):∀r∈l,HV r:=fun r a=>UJ.1 (List.all_eq_true.1 h r a)
theorem KW{a b:Int}(h:a≠b):(a==b)=false:=by rw[Bool.eq_false_iff];intro g;exact h (beq_iff_eq.1 g)
theorem J1{a b:Int}(h:a=b):(a==b)=true:=beq_iff_eq.2 h
theorem J2{a b:Int}(h:a=b):(a !=b)=false:=by rw[h];simp
theorem KX{a b:Int}(h:a≠b):(a !=b)=true:=by simpa using h
section
variable{K:Nat}(hK:1000≤K)
include hK
theorem R9(c:AX)(hl:c.Ap.length≤100)(h:∀r∈c.Ap,HV r):EW K c=some (min 3000 (GK c.Ap)):=by
 unfold EW;have d:Df K c K 1 0=some (c.Ap.foldl (fun n r=>min 3000 (n*Dk r)) 1):=Ns c.Ap (fun m s i=>Df K c m s (i:Int)) (fun n r=>min 3000 (n*Dk r)) (fun _ s=>0≤s∧s≤3000) id
  (fun i s hi a=>by
   have b:=Hw (h _ (List.getElem_mem hi));have:=Ky a.1 a.2 (by omega:0≤Dk c.Ap[i]) b.2;omega)
  (fun m i s hi a=>by
   show Df K c (m+1) s (i:Int)=_;have b:=Hw (h _ (List.getElem_mem hi));have:=Ky a.1 a.2 (by omega:0≤Dk c.Ap[i]) b.2;rw[Df.eq_2,ct (dt (by omega)),C1 hi,bd (Pp K (h _ (List.getElem_mem hi))),Cs (by omega) (by omega),Cs (by omega) (by omega),EX i])
  (fun m s _=>by
   show Df K c (m+1) s (c.Ap.length:Int)=_;rw[Df.eq_2,cf (df (by omega))];rfl) (by omega) (by omega)
 rw[bd d];have:=foldl_min (C:=3000) (by omega) c.Ap 1 h (by omega);rw[Int.min_eq_right (by omega)] at this;rw[this];rfl
theorem W5(a b:Int):Gf K [a,b]=some (min a b):=by
 obtain⟨k,rfl⟩:∃k,K=k+3:=⟨K-3,by omega⟩;unfold Gf;have c:idx [a,b] (0:Int)=some a:=rfl;have d:idx [a,b] (1:Int)=some b:=rfl;rw[cf (df (by simp)),bd c,Fl.eq_2,ct (dt (by simp)),bd d,Cs (by omega) (by omega),Fl.eq_2,cf (df (by simp))];rfl
theorem Sa(a b:Int):G0 K [a,b]=some (min a b):=by
 unfold G0;rw[bd (W5 hK a b)]
theorem Sb(c:AX)(hl:c.Ap.length≤100)(h:∀r∈c.Ap,HV r):CP K c K 1 0=some (min 2001 (GK c.Ap)):=by
 have d:CP K c K 1 0=some (c.Ap.foldl (fun n r=>min 2001 (n*Dk r)) 1):=Ns c.Ap (fun m s i=>CP K c m s (i:Int)) (fun n r=>min 2001 (n*Dk r)) (fun _ s=>0≤s∧s≤2001) id
  (fun i s hi a=>by
   have b:=Hw (h _ (List.getElem_mem hi));have:=Ky a.1 a.2 (by omega:0≤Dk c.Ap[i]) b.2;omega)
  (fun m i s hi a=>by
   show CP K c (m+1) s (i:Int)=_;have b:=Hw (h _ (List.getElem_mem hi));have:=Ky a.1 a.2 (by omega:0≤Dk c.Ap[i]) b.2;rw[CP.eq_2,ct (dt (by omega)),C1 hi,bd (Qy K (h _ (List.getElem_mem hi))),Cs (by omega) (by omega),bd (Sa hK _ _),Cs (by omega) (by omega),EX i,Int.min_comm])
  (fun m s _=>by
   show CP K c (m+1) s (c.Ap.length:Int)=_;rw[CP.eq_2,cf (df (by omega))];rfl) (by omega) (by omega)
 rw[d];have:=foldl_min (C:=2001) (by omega) c.Ap 1 h (by omega);rw[Int.min_eq_right (by omega)] at this;rw[this];rfl
theorem Ti(c:AX)(hl:c.Ap.length≤100):C4 K c K 0=some (cond (c.Ap.all fun r=>Ja r.Lo r.Hi 0 100) (.inr ()) (.inl 1)):=
 KL c.Ap (fun m i=>C4 K c m (i:Int)) (fun r=>Ja r.Lo r.Hi 0 100) 1
  (fun m i hi=>by
   show C4 K c (m+1) (i:Int)=_;rw[C4.eq_2,ct (dt (by omega)),C1 hi,bd (Jz ..)];cases Ja c.Ap[i].Lo c.Ap[i].Hi 0 100 with
   |false=>rw[nf,cf rfl]
   |true=>rw[nt,Cs (by omega) (by omega),EX i,ct rfl])
  (fun m=>by
   show C4 K c (m+1) (c.Ap.length:Int)=_;rw[C4.eq_2,cf (df (by omega))]) (by omega)
theorem Sc(c:AX)(hl:c.AP.length≤100)(f:∀l∈c.AP,l.length≤100):CI K c K 0=some (cond (c.AP.all (Jn c)) (.inr ()) (.inl 1)):=
 KL c.AP (fun m i=>CI K c m (i:Int)) (Jn c) 1
  (fun m i hi=>by
   show CI K c (m+1) (i:Int)=_;have d:=f _ (List.getElem_mem hi);rw[CI.eq_2,ct (dt (by omega)),C1 hi,bd (R8 hK c _ d)];unfold Jn;cases g:Jm c c.AP[i] with
   |false=>rw[nf,Bool.false_and,cf rfl]
   |true=>
    obtain⟨j,e⟩:=Mg g;have h:=Mf (a:=0) (b:=30) (by omega) (by omega) _ e;rw[nt,C1 hi,bd (R6 hK _ d (fun x d=>by have:=e x d;omega)),Bool.true_and]
    by_cases h0:c.AP[i].sum=0
    ·rw[ct (by simp[h0]),cf (df (by omega))]
    ·rw[cf (by simp[h0]),ct (dt (by omega)),Cs (by omega) (by omega),EX i])
  (fun m=>by
   show CI K c (m+1) (c.AP.length:Int)=_;rw[CI.eq_2,cf (df (by omega))]) (by omega)
theorem Sd(c:AX)(hl:c.AO.length≤100)(a:c.Ap.length≤100)(b:c.AP.length≤100):CD K c K 0=some (cond (c.AO.all (IB c)) (.inr ()) (.inl 1)):=
 KL c.AO (fun m i=>CD K c m (i:Int)) (IB c) 1
  (fun m i hi=>by
   show CD K c (m+1) (i:Int)=_;rw[CD.eq_2,ct (dt (by omega)),C1 hi];unfold IB;cases c.AO[i].BS with
   |true=>
    rw[ct rfl,Cs (by omega) (by omega),bd (Lu ..),ct rfl];cases Ev c.AO[i].Number 0 ((c.AP.length:Nat)-1) with
    |false=>rw[nf,Bool.false_and,cf rfl]
    |true=>
     rw[nt,bd (Jz ..),Bool.true_and];cases Ja c.AO[i].Bq c.AO[i].Br 0 100 with
     |false=>rw[nf,cf rfl]
     |true=>rw[nt,Cs (by omega) (by omega),EX i,ct rfl]
   |false=>
    rw[cf rfl,Cs (by omega) (by omega),bd (Lu ..),cf rfl];cases Ev c.AO[i].Number 0 ((c.Ap.length:Nat)-1) with
    |false=>rw[nf,Bool.false_and,cf rfl]
    |true=>
     rw[nt,bd (Jz ..),Bool.true_and];cases Ja c.AO[i].Bq c.AO[i].Br 0 100 with
     |false=>rw[nf,cf rfl]
     |true=>rw[nt,Cs (by omega) (by omega),EX i,ct rfl])
  (fun m=>by
   show CD K c (m+1) (c.AO.length:Int)=_;rw[CD.eq_2,cf (df (by omega))]) (by omega)
theorem Pq(c:AX)(a:c.Ap.length≤100)(b:c.AP.length≤100)(f:c.AO.length≤100)(g:∀l∈c.AP,l.length≤100):Eb K c=some (Fv c):=by
 unfold Eb Fv
 by_cases h:3<c.Ap.length
 ·rw[ct (dt (by omega)),if_pos (.inl h)]
 rw[cf (df (by omega))]
 by_cases i:3<c.AP.length
 ·rw[ct (dt (by omega)),if_pos (.inr (.inl i))]
 rw[cf (df (by omega))]
 by_cases j:5<c.AO.length
 ·rw[ct (dt (by omega)),if_pos (.inr (.inr j))]
 rw[cf (df (by omega)),if_neg (by omega)]
 by_cases d:c.Ap.length=0
 ·rw[ct (J1 (by omega)),if_pos d]
 rw[cf (KW (by omega)),if_neg d,bd (Ti hK c a)];cases k:c.Ap.all fun r=>Ja r.Lo r.Hi 0 100 with
 |false=>rw[cf rfl,if_pos (by rfl)];rfl
 |true=>
  rw[ct rfl,if_neg (by simp)];show Option.bind (CI K c K 0) _=_;rw[bd (Sc hK c b g)];cases c.AP.all (Jn c) with
  |false=>rw[cf rfl,if_pos (by rfl)];rfl
  |true=>
   rw[ct rfl,if_neg (by simp)];show Option.bind (CD K c K 0) _=_;rw[bd (Sd hK c f a b)];cases c.AO.all (IB c) with
   |false=>rw[cf rfl,if_pos (by rfl)];rfl
   |true=>
    rw[ct rfl,if_neg (by simp)];show Option.bind (EW K c) _=_;rw[bd (R9 hK c a (MS k))]
    by_cases e:2000<GK c.Ap
    ·rw[ct (dt (by omega)),if_pos e]
    ·rw[cf (df (by omega)),if_neg e]
theorem Se(c:AX)(l:List Int)(hl:l.length≤100):FD K c l=some (Jm c l):=by
 unfold FD Jm;rw[W4,R5 hK _ _ (by omega),run_pure (ok:=fun x=>Ev x 0 30) l () (fun x _ s=>by unfold H9;rw[bd (IA ..)];rfl)];cases l.length==c.Ap.length with
 |false=>rw[cf rfl,Bool.and_false]
 |true=>rw[ct rfl,Bool.and_true];rfl
theorem Tj(c:AX)(l:List Int)(hl:l.length≤100):E7 K c l=some (Jn c l):=by
 unfold E7 Jn;rw[bd (Se hK c l hl)];cases a:Jm c l with
 |false=>rw[cf rfl,Bool.false_and]
 |true=>
  have b:=(Mg a).2;rw[ct rfl,bd (R7 hK l hl (fun x d=>by have:=b x d;omega)),Bool.true_and]
theorem UL(c:AX)(t:Cq)(a:c.Ap.length≤100)(b:c.AP.length≤100):Fm K c t=some (IB c t):=by
 unfold Fm IB;cases t.BS with
 |true=>
  rw[ct rfl,Cs (by omega) (by omega),bd (IA ..),ct rfl];cases Ev t.Number 0 ((c.AP.length:Nat)-1) with
  |false=>rw[cf rfl,Bool.false_and]
  |true=>rw[ct rfl,bd (MR ..),Bool.true_and]
 |false=>
  rw[cf rfl,Cs (by omega) (by omega),bd (IA ..),cf rfl];cases Ev t.Number 0 ((c.Ap.length:Nat)-1) with
  |false=>rw[cf rfl,Bool.false_and]
  |true=>rw[ct rfl,bd (MR ..),Bool.true_and]
theorem LN(c:AX)(a:c.Ap.length≤100)(f:c.AP.length≤100)(m:c.AO.length≤100)(g:∀l∈c.AP,l.length≤100):DC K c=some (Fv c):=by
 unfold DC Fv
 by_cases h:3<c.Ap.length
 ·rw[ct (dt (by omega)),if_pos (.inl h)]
 rw[cf (df (by omega))]
 by_cases i:3<c.AP.length
 ·rw[ct (dt (by omega)),if_pos (.inr (.inl i))]
 rw[cf (df (by omega))]
 by_cases j:5<c.AO.length
 ·rw[ct (dt (by omega)),if_pos (.inr (.inr j))]
 rw[cf (df (by omega)),if_neg (by omega)]
 by_cases b:c.Ap.length=0
 ·rw[ct (J1 (by omega)),if_pos b]
 rw[cf (KW (by omega)),if_neg b,Qd hK _ _ (by omega),run_pure (ok:=fun r=>Ja r.Lo r.Hi 0 100) c.Ap () (fun x _ s=>by rw[bd (MR ..)]),Option.bind_some];cases k:c.Ap.all fun r=>Ja r.Lo r.Hi 0 100 with
 |false=>rw[nf,if_pos (by rfl)]
 |true=>
  rw[nt,if_neg (by simp),RC hK _ _ (by omega),run_pure (ok:=Jn c) c.AP () (fun x d s=>by rw[bd (Tj hK c x (g x d))]),Option.bind_some];cases c.AP.all (Jn c) with
  |false=>rw[nf,if_pos (by rfl)]
  |true=>
   rw[nt,if_neg (by simp),Qe hK _ _ (by omega),run_pure (ok:=IB c) c.AO () (fun x d s=>by rw[bd (UL hK c x a f)]),Option.bind_some];cases c.AO.all (IB c) with
   |false=>rw[nf,if_pos (by rfl)]
   |true=>
    rw[nt,if_neg (by simp),bd (Sb hK c a (MS k))]
    by_cases e:2000<GK c.Ap
    ·rw[ct (dt (by omega)),if_pos e]
    ·rw[cf (df (by omega)),if_neg e]
end
def AM.C(t:AM):AX:=⟨t.Ah,t.Ab,t.Ak⟩
def GL:Int→Int→List BE→Bool
 |_,_,[]=>true
 |s,p,g::l=>Ev g.AW 0 (s-1)&&(Ev g.BQ 0 p&&GL g.AW g.BQ l)
def Ie(t:AM)(o:BH):Bool:=Ev o.Cd 0 ((t.Az.length:Nat)-1)&&Ev o.Ci 1 90
def Jo(t:AM)(n:BR):Bool:=Ev n.BS 0 ((t.Ab.length:Nat)-1)&&Ja n.Cy n.Cz 0 9000
def Fe(t:AM):Int:=
 if Fv t.C≠0 then Fv t.C
 else if 3<t.Az.length∨3<t.AF.length∨5<t.AV.length then 3
 else if !(Ev t.Flat 0 100) then 1
 else if t.Az.length=0 then 1
 else if !(GL 101 100 t.Az) then 1
 else if !(t.AF.all (Ie t)) then 1
 else if !(t.AV.all (Jo t)) then 1 else 0
def Tk (c:AX):Prop:=c.Ap.length≤100∧c.AP.length≤100∧c.AO.length≤100∧∀l∈c.AP,l.length≤100
def Pr(t:AM):Prop:=Tk t.C∧t.Az.length≤100∧t.AF.length≤100∧t.AV.length≤100
section
variable{K:Nat}(hK:1000≤K)
include hK
theorem Mh(t:AM)(hl:t.Az.length≤100):∀(n m i:Nat) (s p:Int),t.Az.length=i+n→n<m→(i=0→s=101∧p=100)→
  (∀h:0<i,∃c:i-1<t.Az.length,s=t.Az[i-1].AW∧p=t.Az[i-1].BQ∧s≤100∧p≤100)→
  DA K t m (i:Int)=some (cond (GL s p (t.Az.drop i)) (.inr ()) (.inl 1))
 |n,0,i,s,p,h,hm,_,_=>by omega
 |0,m+1,i,s,p,h,hm,_,_=>by
  rw[DA.eq_2,cf (df (by omega)),List.drop_eq_nil_of_le (by omega)];rfl
 |n+1,m+1,i,s,p,h,hm,h0,d=>by
  have hi:i<t.Az.length:=by omega
  rw[DA.eq_2,ct (dt (by omega)),C1 hi,bd (Lu ..),List.drop_eq_getElem_cons hi,GL];have sp:s≤101∧p≤100:=by
   by_cases e:i=0
   ·have:=h0 e;omega
   ·obtain⟨_,_,_,f⟩:=d (by omega);omega
  by_cases a:0≤t.Az[i].AW∧t.Az[i].AW≤100
  ·rw[DB.2 a,nt,bd (Lu ..)]
   by_cases b:0≤t.Az[i].BQ∧t.Az[i].BQ≤100
   ·rw[DB.2 b,nt]
    by_cases e:i=0
    ·obtain⟨rfl,rfl⟩:=h0 e;rw[cf (df (by omega)),Cs (by omega) (by omega),EX i,Mh t hl n m (i+1) _ _ (by omega) (by omega) (by omega) (fun _=>⟨by simpa using hi,rfl,rfl,a.2,b.2⟩),
      DB.2 ⟨a.1,by omega⟩,DB.2 b,Bool.true_and,Bool.true_and]
    ·obtain⟨c,rfl,rfl,f⟩:=d (by omega);have g:(i:Int)-1=((i-1:Nat):Int):=by omega
     rw[ct (dt (by omega)),Cs (by omega) (by omega),g,C1 c]
     by_cases g1:t.Az[i-1].AW≤t.Az[i].AW
     ·rw[ct (dt g1),I9.2 (by omega),Bool.false_and,cf rfl]
     ·rw[cf (df g1),Cs (by omega) (by omega),C1 c]
      by_cases g2:t.Az[i-1].BQ<t.Az[i].BQ
      ·rw[ct (dt g2),DB.2 ⟨a.1,by omega⟩,I9.2 (by omega),Bool.false_and,Bool.true_and,cf rfl]
      ·rw[cf (df g2),Cs (by omega) (by omega),EX i,Mh t hl n m (i+1) _ _ (by omega) (by omega) (by omega) (fun _=>⟨by simpa using hi,rfl,rfl,a.2,b.2⟩),
        DB.2 ⟨a.1,by omega⟩,DB.2 ⟨b.1,by omega⟩,Bool.true_and,Bool.true_and]
   ·rw[I9.2 b,nf];have:Ev t.Az[i].BQ 0 p=false:=I9.2 (by omega);rw[this,Bool.false_and,Bool.and_false,cf rfl]
  ·rw[I9.2 a,nf,I9.2 (by omega),Bool.false_and,cf rfl]
theorem Nu:∀(l:List BE) (g:BE),0≤g.AW∧g.AW≤101→(run (fun(st:BE) (x:BE)=>(EF K x st).bind fun r=>some (r.1,r.2)) l g).map (·.1)=some (GL g.AW g.BQ l)
 |[],g,_=>rfl
 |x::l,g,h=>by
  rw[run,GL];unfold EF;rw[Cs (by omega) (by omega),bd (HU ..)];cases a:Ev x.AW 0 (g.AW-1) with
  |false=>rw[cf rfl,Bool.false_and];rfl
  |true=>
   rw[ct rfl,bd (HU ..),Bool.true_and];cases Ev x.BQ 0 g.BQ with
   |false=>rw[Bool.false_and];rfl
   |true=>
    have b:=DB.1 a;rw[Bool.true_and];exact Nu l x (by omega)
theorem Ps{α β b:Type}{x:Option (α×β)}{a:α}{f:α→Option b}(h:x.map (·.1)=some a):x.bind (fun r=>f r.1)=f a:=by
 cases x with
 |none=>cases h
 |some r=>exact congrArg f (Option.some.inj h)
theorem Tl(t:AM)(hl:t.Az.length≤100):FX K t=some (decide (0<t.Az.length)&&GL 101 100 t.Az):=by
 unfold FX
 by_cases h:0<t.Az.length
 ·rw[ct (dt (by omega)),Pn hK _ _ (by omega),dt h,Bool.true_and];exact Ps hK (f:=some) (Nu hK t.Az ⟨101,100⟩ (by simp))
 ·rw[cf (df (by omega)),df h,Bool.false_and]
theorem Sf(t:AM)(a:t.Az.length≤100)(hl:t.AF.length≤100):CJ K t K 0=some (cond (t.AF.all (Ie t)) (.inr ()) (.inl 1)):=
 KL t.AF (fun m i=>CJ K t m (i:Int)) (Ie t) 1
  (fun m i hi=>by
   show CJ K t (m+1) (i:Int)=_;rw[CJ.eq_2,ct (dt (by omega)),C1 hi,Cs (by omega) (by omega),bd (Lu ..)];unfold Ie;cases Ev t.AF[i].Cd 0 ((t.Az.length:Nat)-1) with
   |false=>rw[nf,Bool.false_and,cf rfl]
   |true=>
    rw[nt,C1 hi,bd (Lu ..),Bool.true_and];cases Ev t.AF[i].Ci 1 90 with
    |false=>rw[nf,cf rfl]
    |true=>rw[nt,Cs (by omega) (by omega),EX i,ct rfl])
  (fun m=>by
   show CJ K t (m+1) (t.AF.length:Int)=_;rw[CJ.eq_2,cf (df (by omega))]) (by omega)
theorem Sg(t:AM)(a:t.Ab.length≤100)(hl:t.AV.length≤100):CK K t K 0=some (cond (t.AV.all (Jo t)) (.inr ()) (.inl 1)):=
 KL t.AV (fun m i=>CK K t m (i:Int)) (Jo t) 1
  (fun m i hi=>by
   show CK K t (m+1) (i:Int)=_;rw[CK.eq_2,ct (dt (by omega)),C1 hi,Cs (by omega) (by omega),bd (Lu ..)];unfold Jo;cases Ev t.AV[i].BS 0 ((t.Ab.length:Nat)-1) with
   |false=>rw[nf,Bool.false_and,cf rfl]
   |true=>
    rw[nt,C1 hi,bd (Jz ..),Bool.true_and];cases Ja t.AV[i].Cy t.AV[i].Cz 0 9000 with
    |false=>rw[nf,cf rfl]
    |true=>rw[nt,Cs (by omega) (by omega),EX i,ct rfl])
  (fun m=>by
   show CK K t (m+1) (t.AV.length:Int)=_;rw[CK.eq_2,cf (df (by omega))]) (by omega)
theorem Sh(t:AM)(hl:Pr t):Gc K t=some (Fe t):=by
 obtain⟨⟨e,a,f,g⟩,b,i,j⟩:=hl;unfold Gc Fe;have k:Eb K ⟨t.Ah,t.Ab,t.Ak⟩=some (Fv t.C):=Pq hK t.C e a f g;rw[bd k]
 by_cases h0:Fv t.C=0
 ·rw[cf (J2 h0),if_neg (by simp[h0])]
  by_cases l:3<t.Az.length
  ·rw[ct (dt (by omega)),if_pos (.inl l)]
  rw[cf (df (by omega))]
  by_cases m:3<t.AF.length
  ·rw[ct (dt (by omega)),if_pos (.inr (.inl m))]
  rw[cf (df (by omega))]
  by_cases n:5<t.AV.length
  ·rw[ct (dt (by omega)),if_pos (.inr (.inr n))]
  rw[cf (df (by omega)),if_neg (by omega),bd (Lu ..)];cases Ev t.Flat 0 100 with
  |false=>rw[nf,if_pos (by rfl)]
  |true=>
   rw[nt,if_neg (by simp)]
   by_cases c:t.Az.length=0
   ·rw[ct (J1 (by omega)),if_pos c]
   have d:=Mh hK t b t.Az.length K 0 101 100 (by omega) (by omega) (fun _=>⟨rfl,rfl⟩) (fun h=>by omega);rw[Int.natCast_zero,List.drop_zero] at d;rw[cf (KW (by omega)),if_neg c,bd d];cases GL 101 100 t.Az with
   |false=>rw[cf rfl,if_pos (by rfl)];rfl
   |true=>
    rw[ct rfl,if_neg (by simp)];show Option.bind (CJ K t K 0) _=_;rw[bd (Sf hK t b i)];cases t.AF.all (Ie t) with
    |false=>rw[cf rfl,if_pos (by rfl)];rfl
    |true=>
     rw[ct rfl,if_neg (by simp)];show Option.bind (CK K t K 0) _=_;rw[bd (Sg hK t a j)];cases t.AV.all (Jo t) with
     |false=>rw[cf rfl,if_pos (by rfl)];rfl
     |true=>rw[ct rfl,if_neg (by simp)];rfl
 ·rw[ct (KX h0),if_pos h0]
theorem UM(t:AM)(n:Int)(a:t.Ab.length≤100):Ep K t n=some (Ev n 0 ((t.Ab.length:Nat)-1)):=by
 unfold Ep;rw[Cs (by omega) (by omega),bd (HU ..)]
theorem UN(t:AM)(o:BH)(a:t.Az.length≤100):Fq K t o=some (Ie t o):=by
 unfold Fq Ie;rw[Cs (by omega) (by omega),bd (HU ..)];cases Ev o.Cd 0 ((t.Az.length:Nat)-1) with
 |false=>rw[cf rfl,Bool.false_and]
 |true=>rw[ct rfl,bd (HU ..),Bool.true_and]
theorem W6(t:AM)(o:BR)(a:t.Ab.length≤100):FE K t o=some (Jo t o):=by
 unfold FE Jo;rw[bd (UM hK t _ a)];cases Ev o.BS 0 ((t.Ab.length:Nat)-1) with
 |false=>rw[cf rfl,Bool.false_and]
 |true=>rw[ct rfl,bd (Yi ..),Bool.true_and]
theorem Pt(t:AM)(hl:Pr t):FF K t=some (Fe t):=by
 obtain⟨⟨d,a,e,f⟩,b,m,n⟩:=hl;unfold FF Fe;have g:DC K ⟨t.Ah,t.Ab,t.Ak⟩=some (Fv t.C):=LN hK t.C d a e f;rw[bd g]
 by_cases h0:Fv t.C=0
 ·rw[cf (J2 h0),if_neg (by simp[h0])]
  by_cases h:3<t.Az.length
  ·rw[ct (dt (by omega)),if_pos (.inl h)]
  rw[cf (df (by omega))]
  by_cases i:3<t.AF.length
  ·rw[ct (dt (by omega)),if_pos (.inr (.inl i))]
  rw[cf (df (by omega))]
  by_cases j:5<t.AV.length
  ·rw[ct (dt (by omega)),if_pos (.inr (.inr j))]
  have k:Ib K t.Flat=some (Ev t.Flat 0 100):=by unfold Ib;rw[bd (HU ..)]
  rw[cf (df (by omega)),if_neg (by omega),bd k];cases Ev t.Flat 0 100 with
  |false=>rw[nf,if_pos (by rfl)]
  |true=>
   rw[nt,if_neg (by simp),bd (Tl hK t b)]
   by_cases c:t.Az.length=0
   ·rw[df (by omega),Bool.false_and,nf,if_pos c]
   rw[if_neg c,dt (by omega),Bool.true_and];cases GL 101 100 t.Az with
   |false=>rw[nf,if_pos (by rfl)]
   |true=>
    rw[nt,if_neg (by simp),Po hK _ _ (by omega),run_pure (ok:=Ie t) t.AF () (fun x l s=>by rw[bd (UN hK t x b)]),Option.bind_some];cases t.AF.all (Ie t) with
    |false=>rw[nf,if_pos (by rfl)]
    |true=>
     rw[nt,if_neg (by simp),Qf hK _ _ (by omega),run_pure (ok:=Jo t) t.AV () (fun x l s=>by rw[bd (W6 hK t x a)]),Option.bind_some];cases t.AV.all (Jo t) with
     |false=>rw[nf,if_pos (by rfl)]
     |true=>rw[nt,if_neg (by simp)]
 ·rw[ct (KX h0),if_pos h0]
end
def FQ:List AK→List Int→Bool
 |[],[]=>true
 |r::rs,x::xs=>Ev x r.Lo r.Hi&&FQ rs xs
 |_,_=>false
theorem W7(r:AK)(rs:List AK):FQ (r::rs) []=false:=rfl
theorem W8(x:Int)(xs:List Int):FQ [] (x::xs)=false:=rfl
theorem W9:FQ [] []=true:=rfl
theorem JA:∀{rs:List AK} {l:List Int},FQ rs l=true→l.length=rs.length
 |[],[],_=>rfl
 |[],_::_,h=>by cases h
 |_::_,[],h=>by cases h
 |r::rs,x::xs,h=>by
  rw[FQ,Bool.and_eq_true] at h;rw[List.length_cons,List.length_cons,JA h.2]
theorem Si:∀{rs:List AK} {l:List Int},(∀r∈rs,HV r)→FQ rs l=true→∀x∈l,0≤x∧x≤100
 |[],[],_,_,x,a=>by cases a
 |[],_::_,_,h,_,_=>by cases h
 |_::_,[],_,h,_,_=>by cases h
 |r::rs,y::xs,b,h,x,a=>by
  rw[FQ,Bool.and_eq_true] at h;rcases List.mem_cons.1 a with rfl|a
  ·have e:=DB.1 h.1;have d:HV r:=b r (List.mem_cons_self ..);unfold HV at d;omega
  ·exact Si (fun r c=>b r (List.mem_cons_of_mem _ c)) h.2 x a
def dot:List Int→List Int→Int
 |w::ws,x::xs=>w*x+dot ws xs
 |_,_=>0
def Dy(l w:List Int):Int:=dot w l/w.sum
theorem Pu:∀(w l:List Int),(∀x∈w,0≤x∧x≤30)→(∀x∈l,0≤x∧x≤100)→0≤dot w l∧dot w l≤100*w.sum
 |[],l,_,_=>by simp[dot]
 |w::ws,[],hw,_=>by
  have:=(Mf (a:=0) (b:=30) (by omega) (by omega) (w::ws) hw).1;simp only[dot];omega
 |w::ws,x::xs,hw,d=>by
  have e:=hw w (List.mem_cons_self ..);have f:=d x (List.mem_cons_self ..);have g:=Pu ws xs (fun y c=>hw y (List.mem_cons_of_mem _ c)) (fun y c=>d y (List.mem_cons_of_mem _ c));have h:w*x≤w*100:=Int.mul_le_mul_of_nonneg_left f.2 e.1;have i:=Int.mul_nonneg e.1 f.1;rw[dot,List.sum_cons];omega
theorem UO{w l:List Int}(hw:∀x∈w,0≤x∧x≤30)(hl:∀x∈l,0≤x∧x≤100)(a:0<w.sum):0≤Dy l w∧Dy l w≤100:=by
 have h:=Pu w l hw hl;unfold Dy;refine⟨Int.ediv_nonneg h.1 (by omega),?_⟩;have:=Int.ediv_le_ediv a h.2
 rwa[Int.mul_ediv_cancel _ (by omega)] at this
def Jp (c:AX) (l:List Int) (t:Cq):Int:=cond t.BS (Dy l (c.AP.getD t.Number.toNat [])) (l.getD t.Number.toNat 0)
def K4(c:AX)(l:List Int):Bool:=c.AO.all fun t=>Ev (Jp c l t) t.Bq t.Br
def EK(c:AX)(l:List Int):Bool:=FQ c.Ap l&&K4 c l
def RD:List AK→Int→List Int
 |[],_=>[]
 |r::rs,n=>(r.Lo+n%Dk r)::RD rs (n/Dk r)
structure OkC (c:AX):Prop where
 len:Tk c
 fault:Fv c=0
 many:GK c.Ap≤150
theorem HC{c:AX}(h:Fv c=0):c.Ap.length≤3∧c.AP.length≤3∧c.AO.length≤5∧0<c.Ap.length∧(∀r∈c.Ap,HV r)∧(∀l∈c.AP,Jn c l=true)∧(∀t∈c.AO,IB c t=true)∧GK c.Ap≤2000:=by
 unfold Fv at h;split at h
 ·omega
 rename_i e
 split at h
 ·omega
 rename_i f
 split at h
 ·omega
 rename_i a
 split at h
 ·omega
 rename_i b
 split at h
 ·omega
 rename_i d
 split at h
 ·omega
 rename_i g
 refine⟨by omega,by omega,by omega,by omega,MS (by simpa using a),?_,?_,by omega⟩
 ·exact List.all_eq_true.1 (by simpa using b)
 ·exact List.all_eq_true.1 (by simpa using d)
namespace OkC
variable{c:AX}(h:OkC c)
include h
theorem hl:c.Ap.length≤3:=(HC h.fault).1
theorem cl:c.AP.length≤3:=(HC h.fault).2.1
theorem tl:c.AO.length≤5:=(HC h.fault).2.2.1
theorem h0:0<c.Ap.length:=(HC h.fault).2.2.2.1
theorem ok:∀r∈c.Ap,HV r:=(HC h.fault).2.2.2.2.1
theorem Eg:∀l∈c.AP,l.length=c.Ap.length∧(∀x∈l,0≤x∧x≤30)∧0<l.sum∧l.sum≤90:=fun l hl=>by
 have d:=(HC h.fault).2.2.2.2.2.1 l hl;unfold Jn at d;rw[Bool.and_eq_true,decide_eq_true_eq] at d;have e:=Mg d.1;have f:=Mf (a:=0) (b:=30) (by omega) (by omega) l e.2;have g:=h.hl;exact⟨e.1,e.2,d.2,by omega⟩
theorem Yj:∀t∈c.AO,0≤t.Number∧(t.BS=true→t.Number<c.AP.length)∧(t.BS=false→t.Number<c.Ap.length):=fun t d=>by
 have a:=(HC h.fault).2.2.2.2.2.2.1 t d;unfold IB at a;rw[Bool.and_eq_true] at a;have b:=DB.1 a.1;refine⟨b.1,fun e=>?_,fun e=>?_⟩
 ·rw[e,cond_true] at b;omega
 ·rw[e,cond_false] at b;omega
end OkC
theorem Nv(r:AK)(l:List AK):GK (r::l)=Dk r*GK l:=by
 have:∀(l:List AK) (s:Int),l.foldl (fun n r=>n*Dk r) s=s*l.foldl (fun n r=>n*Dk r) 1:=by
  intro l
  induction l with
  |nil=>intro s;simp
  |cons r l ih=>intro s;rw[List.foldl_cons,List.foldl_cons,ih,ih (1*Dk r),Int.one_mul,Int.mul_assoc]
 unfold GK;rw[List.foldl_cons,this,Int.one_mul]
theorem Qz:∀{rs:List AK} {l:List Int},(∀r∈rs,HV r)→FQ rs l=true→∃n:Nat,(n:Int)<GK rs∧RD rs (n:Int)=l
 |[],[],_,_=>⟨0,by simp[GK],rfl⟩
 |[],_::_,_,h=>by cases h
 |_::_,[],_,h=>by cases h
 |r::rs,x::xs,b,h=>by
  rw[FQ,Bool.and_eq_true] at h;obtain⟨n,f,e⟩:=Qz (fun r c=>b r (List.mem_cons_of_mem _ c)) h.2;have g:=DB.1 h.1;have i:=Hw (b r (List.mem_cons_self ..));have a:0≤x-r.Lo∧x-r.Lo<Dk r:=by unfold Dk;omega
  have d:0≤Dk r*(n:Int):=Int.mul_nonneg (by omega) (by omega);refine⟨(x-r.Lo+Dk r*n).toNat,?_,?_⟩
  ·rw[Nv];have:Dk r*((n:Int)+1)≤Dk r*GK rs:=Int.mul_le_mul_of_nonneg_left (by omega) (by omega);rw[Int.mul_add] at this;omega
  ·rw[Int.toNat_of_nonneg (by omega),RD,Int.add_mul_emod_self_left,Int.emod_eq_of_lt a.1 a.2,Int.add_mul_ediv_left _ _ (by omega),Int.ediv_eq_zero_of_lt a.1 a.2,Int.zero_add,e]
   congr 1;omega
def Di (c:AX):List (List Int):=((List.range (GK c.Ap).toNat).map fun n:Nat=>RD c.Ap (n:Int)).filter (EK c)
theorem FR{c:AX}(b:OkC c){l:List Int}:l∈Di c↔EK c l=true:=by
 unfold Di;rw[List.mem_filter,List.mem_map];refine⟨fun h=>h.2,fun h=>⟨?_,h⟩⟩;have a:=h;unfold EK at a;rw[Bool.and_eq_true] at a;obtain⟨n,d,e⟩:=Qz b.ok a.1;exact⟨n,List.mem_range.2 (by omega),e⟩
theorem Lv{c:AX}{l:List Int}(h:EK c l=true):FQ c.Ap l=true:=by
 unfold EK at h;rw[Bool.and_eq_true] at h;exact h.1
section
variable{K:Nat}(hK:1000≤K)
include hK
end
theorem Gi{α:Type}{l:List α}{i:Nat}(d:α)(h:i<l.length):l.getD i d=l[i]:=by simp[List.getElem?_eq_getElem h]
section
variable{K:Nat}(hK:1000≤K)
include hK
theorem Ka(p:List Int)(x:Int)(b:p.length≤900):DL K p x=some (p.contains x):=by
 have h:∀(n m i:Nat),p.length=i+n→n<m→((Eh p x m (i:Int)).bind fun z=>Sum.elim (fun q=>some q) (fun _=>some (-1)) z).bind (fun r=>some (decide ((0:Int)≤r)))=some ((p.drop i).contains x):=by
  intro n
  induction n with
  |zero=>
   intro m i h hm;obtain⟨m,rfl⟩:∃a,m=a+1:=⟨m-1,by omega⟩;rw[Eh.eq_2,cf (df (by omega)),List.drop_eq_nil_of_le (by omega)];rfl
  |succ n ih=>
   intro m i h hm;obtain⟨m,rfl⟩:∃a,m=a+1:=⟨m-1,by omega⟩;have hi:i<p.length:=by omega
   rw[Eh.eq_2,ct (dt (by omega)),C1 hi,List.drop_eq_getElem_cons hi,List.contains_cons];cases e:x==p[i] with
   |true=>
    rw[ct rfl,Bool.true_or];show some (decide ((0:Int)≤(i:Int)))=some true;rw[dt (by omega)]
   |false=>rw[cf rfl,Cs (by omega) (by omega),EX i,Bool.false_or];exact ih m (i+1) (by omega) (by omega)
 have:=h p.length K 0 (by omega) (by omega);rw[Int.natCast_zero,List.drop_zero] at this;exact this
end
def arr (l:List Int):AN:=⟨l.getD 0 0,l.getD 1 0,l.getD 2 0⟩
theorem Xa(l:List Int):(⟨0,0,0⟩:AN).cp l=arr l:=rfl
theorem QA{w l:List Int}(a:l.length≤3)(h:w.length=l.length):dot w [(arr l).a0,(arr l).a1,(arr l).a2]=dot w l:=by
 match w,l,a,h with
 |[],[],_,_=>rfl
 |[_],[_],_,_=>rfl
 |[_,_],[_,_],_,_=>rfl
 |[_,_,_],[_,_,_],_,_=>rfl
 |_::_::_::_::_,_::_::_::_::_,a,_=>simp at a
theorem Ke{l:List Int}(a:l.length≤3){k:Nat}(b:k<l.length):idx [(arr l).a0,(arr l).a1,(arr l).a2] (k:Int)=some l[k]:=by
 match l,k,a,b with
 |_::_,0,_,_=>rfl
 |_::_::_,1,_,_=>rfl
 |_::_::_::_,2,_,_=>rfl
 |l,k+3,a,b=>omega
theorem Xb{l:List Int}(b:∀x∈l,0≤x∧x≤100):∀x∈[(arr l).a0,(arr l).a1,(arr l).a2],0≤x∧x≤100:=by
 have h:∀k,0≤l.getD k 0∧l.getD k 0≤100:=fun k=>by
  by_cases a:k<l.length
  ·rw[Gi _ a];exact b _ (List.getElem_mem a)
  ·rw[List.getD_eq_getElem?_getD,List.getElem?_eq_none (by omega)];simp
 intro x c;simp only[arr,List.mem_cons,List.not_mem_nil,or_false] at c;rcases c with rfl|rfl|rfl<;>exact h _
theorem QB(s:AN)(w:List Int)(hw:w.length≤3)(bw:∀x∈w,0≤x∧x≤30)(c:∀x∈[s.a0,s.a1,s.a2],0≤x∧x≤100):∀(n m i:Nat) (z:Int),w.length=i+n→n<m→0≤z∧z≤3000*(i:Int)→
  DJ s w m z (i:Int)=some (z+dot (w.drop i) ([s.a0,s.a1,s.a2].drop i))
 |n,0,i,z,h,hm,_=>by omega
 |0,m+1,i,z,h,hm,f=>by
  rw[DJ.eq_2,cf (df (by omega)),List.drop_eq_nil_of_le (by omega:w.length≤i)];simp[dot]
 |n+1,m+1,i,z,h,hm,f=>by
  have a:i<w.length:=by omega
  have b:i<[s.a0,s.a1,s.a2].length:=by simp;omega
  have d:=bw _ (List.getElem_mem a);have e:=c _ (List.getElem_mem b);have g:=Ky d.1 d.2 e.1 e.2;rw[DJ.eq_2,ct (dt (by omega)),C1 a,C1 b,Cs (by omega) (by omega),Cs (by omega) (by omega),Cs (by omega) (by omega),EX i,
   QB s w hw bw c n m (i+1) _ (by omega) (by omega) (by omega),List.drop_eq_getElem_cons b,List.drop_eq_getElem_cons a,dot,Int.add_assoc]
section
variable{K:Nat}(hK:1000≤K)
include hK
theorem UP{l w:List Int}(hl:l.length≤3)(hw:w.length=l.length)(bw:∀x∈w,0≤x∧x≤30)(c:∀x∈l,0≤x∧x≤100)(d:0<w.sum):Ei K (arr l) w=some (Dy l w):=by
 unfold Ei;have h:=QB (arr l) w (by omega) bw (Xb c) w.length K 0 0 (by omega) (by omega) (by omega);rw[Int.natCast_zero,Int.zero_add,List.drop_zero,List.drop_zero,QA hl hw] at h;have g:=Pu w l bw c;have i:=Mf (a:=0) (b:=30) (by omega) (by omega) w bw;have e:=UO bw c d;unfold Dy at e⊢;rw[bd h,bd (R7 hK w (by omega) (fun x f=>by have:=bw x f;omega)),YM (by omega) (by omega),Cs (by omega) (by omega)]
theorem Lw{c:AX}(a:OkC c){l:List Int}(hl:FQ c.Ap l=true){k:Nat}(b:k<c.AP.length):Ei K (arr l) c.AP[k]=some (Dy l c.AP[k]):=by
 obtain⟨f,d,e,_⟩:=a.Eg _ (List.getElem_mem b);have g:=JA hl;have:=a.hl;exact UP hK (by omega) (by omega) d (Si a.ok hl) e
theorem Pv{c:AX}(b:OkC c){l:List Int}(hl:FQ c.Ap l=true):Fp K c (arr l) []=some (K4 c l):=by
 have r:=JA hl;have g:=b.hl;have:=b.cl;have:=b.tl;unfold Fp;have h:CQ K c (arr l) [] K 0=some (cond (c.AO.all fun t=>Ev (Jp c l t) t.Bq t.Br) (.inr ()) (.inl false)):=
  KL c.AO (fun m i=>CQ K c (arr l) [] m (i:Int)) (fun t=>Ev (Jp c l t) t.Bq t.Br) false
   (fun m i hi=>by
    show CQ K c (arr l) [] (m+1) (i:Int)=_;obtain⟨h0,f,j⟩:=b.Yj _ (List.getElem_mem hi);have e:F9 K c c.AO[i]=some (cond c.AO[i].BS ((c.Ap.length:Int)+c.AO[i].Number) c.AO[i].Number):=by
     unfold F9;cases e:c.AO[i].BS with
     |true=>have:=f e;rw[ct rfl,Cs (by omega) (by omega),ct rfl]
     |false=>rw[cf rfl,cf rfl]
    have n:Dx K c (arr l) (cond c.AO[i].BS ((c.Ap.length:Int)+c.AO[i].Number) c.AO[i].Number)=some (Jp c l c.AO[i]):=by
     unfold Dx Jp;cases e:c.AO[i].BS with
     |true=>
      have g:=f e;obtain⟨k,d⟩:∃k:Nat,c.AO[i].Number=k:=⟨c.AO[i].Number.toNat,by omega⟩;have a:k<c.AP.length:=by omega
      have o:(c.Ap.length:Int)+(k:Int)-(c.Ap.length:Int)=(k:Int):=by omega
      rw[ct rfl,ct rfl,d,ct (dt (by omega)),Cs (by omega) (by omega),o,C1 a,bd (Lw hK b hl a),Int.toNat_natCast,Gi _ a]
     |false=>
      have s:=j e;obtain⟨k,d⟩:∃k:Nat,c.AO[i].Number=k:=⟨c.AO[i].Number.toNat,by omega⟩;have a:k<l.length:=by omega
      rw[cf rfl,cf rfl,d,cf (df (by omega)),bd (Ke (by omega) a),Int.toNat_natCast,Gi _ a]
    have p:ET K ⟨c.AO[i].Bq,c.AO[i].Br⟩ (Jp c l c.AO[i])=some (Ev (Jp c l c.AO[i]) c.AO[i].Bq c.AO[i].Br):=by
     unfold ET;rw[bd (IA ..)]
    have q:List.contains ([]:List Int) (i:Int)=false:=rfl;rw[CQ.eq_2,ct (dt (by omega)),C1 hi,bd (Ka hK [] _ (by simp)),q,nf,bd e,bd n,bd p];cases Ev (Jp c l c.AO[i]) c.AO[i].Bq c.AO[i].Br with
    |false=>rw[nf,cf rfl]
    |true=>rw[nt,Cs (by omega) (by omega),EX i,ct rfl])
   (fun m=>by
    show CQ K c (arr l) [] (m+1) (c.AO.length:Int)=_;rw[CQ.eq_2,cf (df (by omega))]) (by omega)
 rw[bd h];unfold K4;cases c.AO.all fun t=>Ev (Jp c l t) t.Bq t.Br with
 |false=>rfl
 |true=>rfl
theorem Oo(c:AX)(l:List Int)(d:c.Ap.length≤100)(he:l.length=c.Ap.length):∀(n m i:Nat),l.length=i+n→n<m→
  DR K c l m (i:Int)=some (cond (FQ (c.Ap.drop i) (l.drop i)) (.inr ()) (.inl false))
 |n,0,i,h,hm=>by omega
 |0,m+1,i,h,hm=>by
  rw[DR.eq_2,cf (df (by omega)),List.drop_eq_nil_of_le (by omega:l.length≤i),List.drop_eq_nil_of_le (by omega:c.Ap.length≤i),W9,ct rfl]
 |n+1,m+1,i,h,hm=>by
  have a:i<l.length:=by omega
  have b:i<c.Ap.length:=by omega
  have e:ET K c.Ap[i] l[i]=some (Ev l[i] c.Ap[i].Lo c.Ap[i].Hi):=by unfold ET;rw[bd (IA ..)]
  rw[DR.eq_2,ct (dt (by omega)),C1 b,C1 a,bd e,List.drop_eq_getElem_cons a,List.drop_eq_getElem_cons b,FQ];cases Ev l[i] c.Ap[i].Lo c.Ap[i].Hi with
  |false=>rw[nf,Bool.false_and,cf rfl]
  |true=>rw[nt,Cs (by omega) (by omega),EX i,Bool.true_and,Oo c l d he n m (i+1) (by omega) (by omega)]
theorem Xc{rs:List AK}{l:List Int}(h:l.length≠rs.length):FQ rs l=false:=by
 rw[Bool.eq_false_iff];intro g;exact h (JA g)
theorem Oq(c:AX)(l:List Int)(a:c.Ap.length≤100)(hl:l.length≤100):E8 K c l=some (cond (FQ c.Ap l) (arr l) ⟨0,0,0⟩,FQ c.Ap l):=by
 unfold E8
 by_cases he:l.length=c.Ap.length
 ·have:=Oo hK c l a he l.length K 0 (by omega) (by omega);rw[Int.natCast_zero,List.drop_zero,List.drop_zero] at this;rw[cf (J2 (by omega)),bd this,Xa];cases FQ c.Ap l<;>rfl
 ·rw[ct (KX (by omega)),Xc hK he,cf rfl]
theorem MT{c:AX}(a:OkC c):DC K c=some 0:=by
 rw[LN hK c a.len.1 a.len.2.1 a.len.2.2.1 a.len.2.2.2,a.fault]
theorem OE{c:AX}(a:OkC c){l:List Int}(hl:l.length≤100):F2 K c l=some (EK c l):=by
 have:=a.hl;unfold F2 EK;rw[bd (MT hK a),cf (J2 rfl),bd (Oq hK c l (by omega) hl)];cases h:FQ c.Ap l with
 |false=>rw[cf rfl,Bool.false_and]
 |true=>rw[ct rfl,ct rfl,bd (Pv hK a h),Bool.true_and]
theorem UQ {c:AX} (a:OkC c) {l:List Int} (hl:FQ c.Ap l=true):Ik K c l=some (c.AP.map (Dy l),0):=by
 have g:=a.hl;have j:=a.cl;have k:=JA hl;unfold Ik;rw[bd (MT hK a),cf (J2 rfl),bd (Oq hK c l (by omega) (by omega)),hl,nt,ct rfl];have b:∀(d m i:Nat) (acc:List Int),c.AP.length=i+d→d<m→acc.length≤i→FW K c (arr l,true) m acc (i:Int)=some (acc++(c.AP.drop i).map (Dy l)):=by
  intro d
  induction d with
  |zero=>
   intro m i acc h hm f;obtain⟨m,rfl⟩:∃e,m=e+1:=⟨m-1,by omega⟩;rw[FW.eq_2,cf (df (by omega)),List.drop_eq_nil_of_le (by omega),List.map_nil,List.append_nil]
  |succ d ih=>
   intro m i acc h hm f;obtain⟨m,rfl⟩:∃e,m=e+1:=⟨m-1,by omega⟩;have hi:i<c.AP.length:=by omega
   rw[FW.eq_2,ct (dt (by omega)),C1 hi,bd (Lw hK a hl hi),Hd (by simp;omega),Cs (by omega) (by omega),EX i,ih m (i+1) _ (by omega) (by omega) (by simp;omega),List.drop_eq_getElem_cons hi,List.map_cons,List.append_assoc];rfl
 have:=b c.AP.length K 0 [] (by omega) (by omega) (by simp);rw[Int.natCast_zero,List.drop_zero,List.nil_append] at this;rw[bd this]
end
def He(g:List BE)(s:Int):Int:=match g.find? (fun x=>decide (x.AW≤s)) with|some x=>x.BQ|none=>0
def Cg (t:AM) (l:List Int):List Int:=t.Ab.map fun w=>He t.Az (Dy l w)*w.sum
structure OkT(t:AM):Prop where
 len:Pr t
 fault:Fe t=0
 many:GK t.Ah≤150
theorem FT{t:AM}(h:Fe t=0):Fv t.C=0∧t.Az.length≤3∧t.AF.length≤3∧t.AV.length≤5∧(0≤t.Flat∧t.Flat≤100)∧0<t.Az.length∧GL 101 100 t.Az=true∧(∀o∈t.AF,Ie t o=true)∧∀n∈t.AV,Jo t n=true:=by
 unfold Fe at h;split at h
 ·rename_i h0;exact absurd h h0
 rename_i h0
 split at h
 ·omega
 rename_i e
 split at h
 ·omega
 rename_i a
 split at h
 ·omega
 rename_i f
 split at h
 ·omega
 rename_i b
 split at h
 ·omega
 rename_i c
 split at h
 ·omega
 rename_i d
 refine⟨Decidable.byContradiction h0,by omega,by omega,by omega,DB.1 (by simpa using a),by omega,by simpa using b,?_,?_⟩
 ·exact List.all_eq_true.1 (by simpa using c)
 ·exact List.all_eq_true.1 (by simpa using d)
theorem Ot:∀{l:List BE} {s p:Int},GL s p l=true→∀g∈l,(0≤g.AW∧g.AW<s)∧0≤g.BQ∧g.BQ≤p
 |[],_,_,_,g,a=>by cases a
 |x::l,s,p,h,g,a=>by
  rw[GL,Bool.and_eq_true,Bool.and_eq_true] at h;have c:=DB.1 h.1;have b:=DB.1 h.2.1;rcases List.mem_cons.1 a with rfl|a
  ·exact⟨by omega,b⟩
  ·have:=Ot h.2.2 g a;omega
namespace OkT
variable{t:AM}(h:OkT t)
include h
theorem c:OkC t.C:=⟨h.len.1,(FT h.fault).1,h.many⟩
theorem gl:t.Az.length≤3:=(FT h.fault).2.1
theorem ol:t.AF.length≤3:=(FT h.fault).2.2.1
theorem nl:t.AV.length≤5:=(FT h.fault).2.2.2.1
theorem flat:0≤t.Flat∧t.Flat≤100:=(FT h.fault).2.2.2.2.1
theorem gr:GL 101 100 t.Az=true:=(FT h.fault).2.2.2.2.2.2.1
theorem RE:∀g∈t.Az,(0≤g.AW∧g.AW≤100)∧0≤g.BQ∧g.BQ≤100:=fun g a=>by have:=Ot h.gr g a;omega
theorem order:∀o∈t.AF,(0≤o.Cd∧o.Cd<t.Az.length)∧1≤o.Ci∧o.Ci≤90:=fun o b=>by
 have a:=(FT h.fault).2.2.2.2.2.2.2.1 o b;unfold Ie at a;rw[Bool.and_eq_true] at a;have c:=DB.1 a.1;exact⟨by omega,DB.1 a.2⟩
theorem note:∀n∈t.AV,(0≤n.BS∧n.BS<t.Ab.length)∧0≤n.Cy∧n.Cy≤n.Cz∧n.Cz≤9000:=fun n b=>by
 have a:=(FT h.fault).2.2.2.2.2.2.2.2 n b;unfold Jo at a;rw[Bool.and_eq_true] at a;have c:=DB.1 a.1;exact⟨by omega,Qx.1 a.2⟩
theorem Eg:∀w∈t.Ab,w.length=t.Ah.length∧(∀x∈w,0≤x∧x≤30)∧0<w.sum∧w.sum≤90:=h.c.Eg
theorem kl:t.Ab.length≤3:=h.c.cl
theorem hl:t.Ah.length≤3:=h.c.hl
theorem Yk(s:Int):0≤He t.Az s∧He t.Az s≤100:=by
 unfold He;split
 ·rename_i x a
  exact(h.RE x (List.mem_of_find?_eq_some a)).2
 ·omega
theorem Z5(l:List Int):∀x∈Cg t l,0≤x∧x≤9000:=fun x a=>by
 unfold Cg at a;obtain⟨w,hw,rfl⟩:=List.mem_map.1 a;have b:=h.Yk (Dy l w);have c:=h.Eg w hw;have:=Ky b.1 b.2 (by omega:0≤w.sum) c.2.2.2;omega
end OkT
theorem KN(t:AM)(l:List Int):(Cg t l).length=t.Ab.length:=List.length_map ..
section
variable{K:Nat}(hK:1000≤K)
include hK
theorem Tm{t:AM}(a:OkT t){k:Nat}(b:k<t.Ab.length):FY K t (k:Int)=some t.Ab[k].sum:=by
 have c:=a.Eg _ (List.getElem_mem b);have:=a.hl;unfold FY;rw[C1 b,bd (R6 hK _ (by omega) (fun x d=>by have:=c.2.1 x d;omega))]
end
def HI (t:AM) (m:List (List Int×Int)):Prop:=∀(i:Nat) (s v:Int),D5 m [(i:Int),s]=some v→v=He t.Az s*(t.Ab.getD i []).sum
theorem UR(t:AM):HI t []:=fun i s v h=>by cases h
def wk (t:AM) (a:List AN) (m:List (List Int×Int)):BT:=⟨t.Ah,t.Ab,t.Ak,t.Flat,t.Az,t.AF,t.AV,t.Ab.map List.sum,a,m⟩
def BY(t:AM)(l:List Int):AN:=arr (t.Ab.map (Dy l))
theorem US:∀{l:List Int} {i:Nat} (x:Int),l.length=i→i<3→(arr l).set i x=arr (l++[x])
 |[],_,x,rfl,_=>rfl
 |[_],_,x,rfl,_=>rfl
 |[_,_],_,x,rfl,_=>rfl
 |_::_::_::_,_,x,rfl,h=>by simp at h;omega
section
variable{K:Nat}(hK:1000≤K)
include hK
theorem Pw{t:AM}(b:OkT t)(a:List AN)(m:List (List Int×Int)){k:Nat}(g:k<t.Ab.length)(s:Int):∀(d n i:Nat),t.Az.length=i+d→d<n→
  DD (wk t a m) ⟨(k:Int),s⟩ n 0 (i:Int)=some (He (t.Az.drop i) s*t.Ab[k].sum)
 |d,0,i,h,l=>by omega
 |0,n+1,i,h,l=>by
  have e:((wk t a m).AB.length:Int)=t.Az.length:=rfl;rw[DD.eq_2,cf (df (by omega)),List.drop_eq_nil_of_le (by omega)];simp[He]
 |d+1,n+1,i,h,l=>by
  have j:i<t.Az.length:=by omega
  have r:=b.gl;have f:k<(wk t a m).weights.length:=by show k<(List.map _ _).length;simpa using g
  have p:(wk t a m).weights[k]'f=t.Ab[k].sum:=by simp[wk]
  rw[DD.eq_2,ct (dt (show(i:Int)<((wk t a m).AB.length:Int) by show(i:Int)<(t.Az.length:Int);omega)),C1 (xs:=(wk t a m).AB) j,List.drop_eq_getElem_cons j];show cond (decide (t.Az[i].AW≤s)) _ _=_
  by_cases c:t.Az[i].AW≤s
  ·have o:=(b.RE _ (List.getElem_mem j)).2;have q:=b.Eg _ (List.getElem_mem g);have u:=Ky o.1 o.2 (by omega:0≤t.Ab[k].sum) q.2.2.2;rw[ct (dt c),C1 f,p];show(i64 (t.Az[i].BQ*_)).bind _=_;rw[Cs (by omega) (by omega)];unfold He;rw[List.find?_cons,dt c];rfl
  ·rw[cf (df c),Cs (by omega) (by omega),EX i,Pw b a m g s d n (i+1) (by omega) (by omega)]
   congr 2
   unfold He;rw[List.find?_cons,df c]
theorem Tn{t:AM}(f:OkT t)(c:List AN){m:List (List Int×Int)}(hm:HI t m){k:Nat}(d:k<t.Ab.length)(s:Int):
  ∃a,HI t a∧Ft K (wk t c m) ⟨(k:Int),s⟩=some (He t.Az s*t.Ab[k].sum,a):=by
 have l:=f.gl;unfold Ft;show∃a,HI t a∧cond (!((D5 m [(k:Int),s]).isSome)) _ _=_;cases e:D5 m [(k:Int),s] with
 |some v=>
  have g:=hm k s v e;rw[Gi _ d] at g;refine⟨m,hm,?_⟩;show cond (!true) _ (some ((D5 m [(k:Int),s]).getD 0,m))=_;rw[nt,e,←g];rfl
 |none=>
  have h:=Pw hK f c m d s t.Az.length K 0 (by omega) (by omega);rw[Int.natCast_zero,List.drop_zero] at h;refine⟨JJ m [(k:Int),s] (He t.Az s*t.Ab[k].sum),fun i j v b=>?_,?_⟩
  ·rw[Qb] at b;split at b
   ·rename_i he
    simp only[List.cons.injEq,and_true] at he;obtain⟨n,rfl⟩:=he;obtain rfl:i=k:=by omega
    rw[Gi _ d];exact(Option.some.inj b).symm
   ·exact hm i j v b
  ·show cond (!false) ((DD (wk t c m) ⟨(k:Int),s⟩ K ((D5 m [(k:Int),s]).getD 0) 0).bind _) _=_;rw[nf,e,Option.getD_none,bd h];rfl
theorem QC{t:AM}(c:OkT t)(a:List AN)(b:List (List Int×Int))(l:List Int):∀(d n i:Nat) (m:List (List Int×Int)),t.Ab.length=i+d→d<n→HI t m→
  ∃f,HI t f∧Dw K (wk t a b) (BY t l) n (i:Int) (arr ((Cg t l).take i)).a0 (arr ((Cg t l).take i)).a1 (arr ((Cg t l).take i)).a2 m=some ((arr (Cg t l)).a0,(arr (Cg t l)).a1,(arr (Cg t l)).a2,f)
 |d,0,i,m,h,g,_=>by omega
 |0,n+1,i,m,h,g,hm=>by
  have e:((wk t a b).weights.length:Int)=t.Ab.length:=by show((List.map _ _).length:Int)=_;simp
  refine⟨m,hm,?_⟩;rw[Dw.eq_2,cf (df (by omega)),List.take_of_length_le (by rw[KN];omega)]
 |d+1,n+1,i,m,h,g,hm=>by
  have j:=c.kl;have e:((wk t a b).weights.length:Int)=t.Ab.length:=by show((List.map _ _).length:Int)=_;simp
  have hi:i<t.Ab.length:=by omega
  have o:i<(Cg t l).length:=by rw[KN];exact hi
  have g1:idx [(BY t l).a0,(BY t l).a1,(BY t l).a2] (i:Int)=some (Dy l t.Ab[i]):=by
   have:=Ke (l:=t.Ab.map (Dy l)) (by simpa using j) (k:=i) (by simpa using hi);rw[List.getElem_map] at this;exact this
  obtain⟨p,q,g2⟩:=Tn hK c a hm hi (Dy l t.Ab[i]);have g3:idx ([(arr ((Cg t l).take i)).a0,(arr ((Cg t l).take i)).a1,(arr ((Cg t l).take i)).a2]:List Int) (i:Int)=some (([(arr ((Cg t l).take i)).a0,(arr ((Cg t l).take i)).a1,(arr ((Cg t l).take i)).a2]:List Int)[i]'(by simp;omega)):=idx_eq _;have g4:(arr ((Cg t l).take i)).set i (He t.Az (Dy l t.Ab[i])*t.Ab[i].sum)=arr ((Cg t l).take (i+1)):=by
   rw[US _ (by rw[List.length_take];omega) (by omega),List.take_succ_eq_append_getElem o];simp[Cg]
  obtain⟨s,r,g5⟩:=QC c a b l d n (i+1) p (by omega) (by omega) q;refine⟨s,r,?_⟩;rw[Dw.eq_2,ct (dt (by omega)),bd g1];show(Ft K (wk t a m) ⟨(i:Int),Dy l t.Ab[i]⟩).bind _=_;rw[bd g2,bd g3,Cs (by omega) (by omega),EX i,Int.toNat_natCast];show Dw K (wk t a b) (BY t l) n ((i+1:Nat):Int) ((arr ((Cg t l).take i)).set i (He t.Az (Dy l t.Ab[i])*t.Ab[i].sum)).a0 ((arr ((Cg t l).take i)).set i (He t.Az (Dy l t.Ab[i])*t.Ab[i].sum)).a1 ((arr ((Cg t l).take i)).set i (He t.Az (Dy l t.Ab[i])*t.Ab[i].sum)).a2 p=_;rw[g4];exact g5
theorem UT{t:AM}(c:OkT t)(b:List AN){m:List (List Int×Int)}(hm:HI t m)(l:List Int):
  ∃a,HI t a∧EU K (wk t b m) (BY t l)=some (arr (Cg t l),a):=by
 have:=c.kl;obtain⟨a,d,e⟩:=QC hK c b m l t.Ab.length K 0 m (by omega) (by omega) hm;refine⟨a,d,?_⟩;unfold EU;have f:Dw K (wk t b m) (BY t l) K 0 0 0 0 (wk t b m).known=some ((arr (Cg t l)).a0,(arr (Cg t l)).a1,(arr (Cg t l)).a2,a):=e;rw[bd f]
end
theorem Ly{σ α:Type}(cb:σ→α→Option (Bool×σ))(a:List α):∀(b:List α) (s:σ),run cb (b++a) s=(run cb b s).bind fun r=>cond r.1 (run cb a r.2) (some (false,r.2))
 |[],s=>rfl
 |x::l,s=>by
  simp only[List.cons_append,run];cases cb s x with
  |none=>rfl
  |some r=>
   simp only[Option.bind_some];cases h:r.1 with
   |false=>simp
   |true=>simpa using Ly cb a l r.2
def FC:List AK→List (List Int)
 |[]=>[[]]
 |r::rs=>(List.range' 0 (Dk r).toNat).flatMap fun n:Nat=>(FC rs).map fun x=>(r.Lo+(n:Int))::x
theorem Kz:∀{rs:List AK} {l:List Int},(∀r∈rs,HV r)→(l∈FC rs↔FQ rs l=true)
 |[],[],_=>by simp[FC,FQ]
 |[],_::_,_=>by simp[FC,FQ]
 |r::rs,[],_=>by simp[FC,FQ]
 |r::rs,x::xs,h=>by
  have d:=h r (List.mem_cons_self ..);have f:=Hw d;rw[FC,List.mem_flatMap,FQ,Bool.and_eq_true,←Kz (fun r g=>h r (List.mem_cons_of_mem _ g)),DB];constructor
  ·rintro⟨n,b,c⟩;obtain⟨y,a,e⟩:=List.mem_map.1 c;injection e with j i
   subst i;rw[List.mem_range'_1] at b;refine⟨?_,a⟩;unfold Dk at b f;omega
  ·rintro⟨c,a⟩;refine⟨(x-r.Lo).toNat,?_,List.mem_map.2 ⟨xs,a,?_⟩⟩
   ·rw[List.mem_range'_1];unfold Dk;omega
   ·congr 1;omega
theorem MU:∀{rs:List AK},(∀r∈rs,HV r)→((FC rs).length:Int)=GK rs
 |[],_=>rfl
 |r::rs,h=>by
  have c:=Hw (h r (List.mem_cons_self ..));have a:=MU (rs:=rs) (fun r b=>h r (List.mem_cons_of_mem _ b));rw[Nv,←a,FC,List.length_flatMap];have:∀(n i:Nat),((List.range' i n).map fun n:Nat=>((FC rs).map fun x=>(r.Lo+(n:Int))::x).length).sum=n*(FC rs).length:=by
   intro n
   induction n with
   |zero=>intro i;simp
   |succ n ih=>intro i;rw[List.range'_succ,List.map_cons,List.sum_cons,ih,List.length_map,Nat.succ_mul,Nat.add_comm]
  rw[this,Int.natCast_mul,Int.toNat_of_nonneg (by omega)]
theorem take_set{out:List Int}{i:Nat}(v:Int)(h:i<out.length):(out.set i v).take (i+1)=out.take i++[v]:=by
 rw[List.take_succ_eq_append_getElem (by simpa using h),List.take_set_of_le (Nat.le_refl _),List.getElem_set_self]
section
variable{K:Nat}(hK:1000≤K)
include hK
theorem Px{σ:Type}(cb:σ→List Int→Option (Bool×σ))(f:Int→List AK→List Int→σ→Option (Bool×List Int×σ))(l:List AK)(hl:l.length≤100)(i:Nat)(hi:i<l.length)(k:HV l[i])
  (ih:∀(out:List Int) (s:σ) (b:Bool) (d:σ),out.length=l.length→run cb ((FC (l.drop (i+1))).map fun x=>out.take (i+1)++x) s=some (b,d)→∃c,c.length=l.length∧c.take (i+1)=out.take (i+1)∧f ((i+1:Nat):Int) l out s=some (b,c,d)):
  ∀(e m n:Nat) (out:List Int) (s:σ) (b:Bool) (d:σ),Dk l[i]=(n:Int)+e→e<m→out.length=l.length→
   run cb ((List.range' n e).flatMap fun n:Nat=>(FC (l.drop (i+1))).map fun x=>out.take i++(l[i].Lo+(n:Int))::x) s=some (b,d)→
   ∃c,c.length=l.length∧c.take i=out.take i∧(Ex f (i:Int) l (Dk l[i]) m (n:Int) out s).bind (fun z=>Sum.elim (fun q=>some (q.1,q.2.1,q.2.2)) (fun q=>some (true,q.1,q.2)) z)=some (b,c,d)
 |e,0,n,out,s,b,d,h,hm,_,_=>by omega
 |0,m+1,n,out,s,b,d,h,hm,o,a=>by
  have:(true,s)=(b,d):=Option.some.inj a;injection this with p t
  subst p;subst t;refine⟨out,o,rfl,?_⟩;rw[Ex.eq_2,cf (df (by omega))];rfl
 |e+1,m+1,n,out,s,b,d,h,hm,o,a=>by
  have aE:=Hw k;have w:=k;unfold HV at w;have j:i<out.length:=by omega
  rw[List.range'_succ,List.flatMap_cons,Ly] at a;have y:∀x:List Int,out.take i++(l[i].Lo+(n:Int))::x=(out.set i (l[i].Lo+(n:Int))).take (i+1)++x:=fun x=>by rw[take_set _ j,List.append_assoc];rfl
  simp only[y] at a;cases u:run cb ((FC (l.drop (i+1))).map fun x=>(out.set i (l[i].Lo+(n:Int))).take (i+1)++x) s with
  |none=>rw[u] at a;cases a
  |some r=>
   obtain⟨aA,s1⟩:=r;rw[u,Option.bind_some] at a;obtain⟨g,g1,g2,g3⟩:=ih (out.set i (l[i].Lo+(n:Int))) s aA s1 (by rw[List.length_set];exact o) u;have gt:g.take i=out.take i:=by
    have:=congrArg (List.take i) g2;rw[List.take_take,List.take_take,Nat.min_eq_left (by omega),List.take_set_of_le (Nat.le_refl _)] at this;exact this
   rw[Ex.eq_2,ct (dt (by omega)),C1 hi,Cs (by omega) (by omega),C1 j,Cs (by omega) (by omega),EX i,Int.toNat_natCast,bd g3];cases aA with
   |false=>
    have:(false,s1)=(b,d):=Option.some.inj a;injection this with p t
    subst p;subst t;exact⟨g,g1,gt,rfl⟩
   |true=>
    rw[nt,Cs (by omega) (by omega),EX n];simp only[←y] at a;rw[←gt] at a;obtain⟨v,aB,aC,aD⟩:=Px cb f l hl i hi k ih e m (n+1) g s1 b d (by omega) (by omega) g1 a;exact⟨v,aB,aC.trans gt,aD⟩
theorem QD{σ:Type}(cb:σ→List Int→Option (Bool×σ))(l:List AK)(hl:l.length≤100)(p:∀r∈l,HV r):∀(d k i:Nat) (out:List Int) (s:σ) (b:Bool) (c:σ),l.length=i+d→d<k→out.length=l.length→
  run cb ((FC (l.drop i)).map fun x=>out.take i++x) s=some (b,c)→∃f,f.length=l.length∧f.take i=out.take i∧Ed K cb k (i:Int) l out s=some (b,f,c)
 |d,0,i,out,s,b,c,h,q,_,_=>by omega
 |0,k+1,i,out,s,b,c,h,q,g,a=>by
  rw[List.drop_eq_nil_of_le (by omega)] at a;have e:(FC []).map (fun x=>out.take i++x)=[out]:=by
   show[out.take i++[]]=[out];rw[List.append_nil,List.take_of_length_le (by omega)]
  rw[e] at a;refine⟨out,g,rfl,?_⟩;rw[Ed.eq_2,ct (J1 (by omega))];simp only[run] at a;cases j:cb s out with
  |none=>rw[j] at a;cases a
  |some r=>
   obtain⟨t,s1⟩:=r;rw[j,Option.bind_some] at a;cases t with
   |true=>
    have:(true,s1)=(b,c):=Option.some.inj a;injection this with m n
    subst m;subst n;rfl
   |false=>
    have:(false,s1)=(b,c):=Option.some.inj a;injection this with m n
    subst m;subst n;rfl
 |d+1,k+1,i,out,s,b,c,h,q,g,a=>by
  have hi:i<l.length:=by omega
  have o:=p _ (List.getElem_mem hi);have v:=Hw o;rw[List.drop_eq_getElem_cons hi,FC,List.map_flatMap] at a;simp only[List.map_map] at a;rw[Ed.eq_2,cf (KW (by omega)),C1 hi,bd (UK K o)];have:=Px hK cb (Ed K cb k) l hl i hi o (fun out s b c j u=>QD cb l hl p d k (i+1) out s b c (by omega) (by omega) j u) (Dk l[i]).toNat K 0 out s b c (by omega) (by omega) g a;rw[Int.natCast_zero] at this;exact this
theorem UU{σ:Type}(cb:σ→List Int→Option (Bool×σ))(l:List AK)(hl:l.length≤100)(d:∀r∈l,HV r)(s:σ)(b:Bool)(a:σ)(h:run cb (FC l) s=some (b,a)):HA K cb l s=some a:=by
 unfold HA;obtain⟨e,_,_,c⟩:=QD hK cb l hl d l.length K 0 (List.replicate (l.length:Int).toNat 0) s b a (by omega) (by omega) (by simp) (by simpa using h);rw[Int.natCast_zero] at c;rw[ZH (by omega) (by omega) (by omega),bd c]
theorem UW(t:AM)(hl:t.Ah.length≤100):Fs K t=some t.Ah:=by
 have a:∀(d m i:Nat) (acc:List AK),t.Ah.length=i+d→d<m→acc.length≤i→DZ t m acc (i:Int)=some (acc++t.Ah.drop i):=by
  intro d
  induction d with
  |zero=>
   intro m i acc h hm c;obtain⟨m,rfl⟩:∃b,m=b+1:=⟨m-1,by omega⟩;rw[DZ.eq_2,cf (df (by omega)),List.drop_eq_nil_of_le (by omega),List.append_nil]
  |succ d ih=>
   intro m i acc h hm c;obtain⟨m,rfl⟩:∃b,m=b+1:=⟨m-1,by omega⟩;have hi:i<t.Ah.length:=by omega
   rw[DZ.eq_2,ct (dt (by omega)),C1 hi,Hd (by simp;omega),Cs (by omega) (by omega),EX i,ih m (i+1) _ (by omega) (by omega) (by simp;omega),List.drop_eq_getElem_cons hi,List.append_assoc];rfl
 have:=a t.Ah.length K 0 [] (by omega) (by omega) (by simp);rw[Int.natCast_zero,List.drop_zero,List.nil_append] at this;unfold Fs;rw[bd this]
theorem Xd{t:AM}(c:OkT t):Et K t=some (wk t [] []):=by
 have l:=c.kl;have n:=c.hl;have a:∀(d m i:Nat) (acc:List Int),t.Ab.length=i+d→d<m→acc.length≤i→Dv K t m (i:Int) acc=some (acc++(t.Ab.drop i).map List.sum):=by
  intro d
  induction d with
  |zero=>
   intro m i acc h hm g;obtain⟨m,rfl⟩:∃e,m=e+1:=⟨m-1,by omega⟩;rw[Dv.eq_2,cf (df (by omega)),List.drop_eq_nil_of_le (by omega),List.map_nil,List.append_nil]
  |succ d ih=>
   intro m i acc h hm g;obtain⟨m,rfl⟩:∃e,m=e+1:=⟨m-1,by omega⟩;have hi:i<t.Ab.length:=by omega
   have hw:=c.Eg _ (List.getElem_mem hi);have f:CL t.Ab[i] K 0 0=some t.Ab[i].sum:=by
    have:=Ns t.Ab[i] (fun m s j=>CL t.Ab[i] m s (j:Int)) (· +·) (fun j s=>0≤s∧s≤30*(j:Int)) id (fun j s b f=>by have:=hw.2.1 _ (List.getElem_mem b);omega)
     (fun m j s b f=>by
      have o:=hw.2.1 _ (List.getElem_mem b);show CL t.Ab[i] (m+1) s (j:Int)=_;rw[CL.eq_2,ct (dt (by omega)),C1 b,Cs (by omega) (by omega),Cs (by omega) (by omega),EX j])
     (fun m s _=>by
      show CL t.Ab[i] (m+1) s (t.Ab[i].length:Int)=_;rw[CL.eq_2,cf (df (by omega))];rfl) (k:=K) (s0:=0) (by omega) (by omega)
    rw[KM,Int.zero_add] at this;exact this
   rw[Dv.eq_2,ct (dt (by omega)),C1 hi,bd f,Hd (by simp;omega),Cs (by omega) (by omega),EX i,ih m (i+1) _ (by omega) (by omega) (by simp;omega),List.drop_eq_getElem_cons hi,List.map_cons,List.append_assoc];rfl
 have:=a t.Ab.length K 0 [] (by omega) (by omega) (by simp);rw[Int.natCast_zero,List.drop_zero,List.nil_append] at this;unfold Et;rw[bd this];rfl
theorem Sj{t:AM}(a:OkT t){l:List Int}(hl:FQ t.Ah l=true):E9 K t l=some (BY t l):=by
 unfold E9;have h:Ik K ⟨t.Ah,t.Ab,t.Ak⟩ l=some (t.Ab.map (Dy l),0):=UQ hK (c:=t.C) a.c hl;rw[bd h];rfl
end
theorem UX:∀{a b:List Int},a.length=b.length→a.length≤3→arr a=arr b→a=b
 |[],[],_,_,_=>rfl
 |[a],[b],_,_,h=>by injection h with c;exact congrArg (fun x=>[x]) c
 |[a,a2],[b,d],_,_,h=>by
  injection h with c e
  rw[show a=b from c,show a2=d from e]
 |[a,a2,a3],[b,d,f],_,_,h=>by
  injection h with c e g
  rw[show a=b from c,show a2=d from e,show a3=f from g]
 |_::_::_::_::_,_,_,h,_=>by simp at h
 |[],_::_,h,_,_=>by cases h
 |[_],[],h,_,_=>by cases h
 |[_],_::_::_,h,_,_=>by simp at h
 |[_,_],[],h,_,_=>by cases h
 |[_,_],[_],h,_,_=>by simp at h
 |[_,_],_::_::_::_,h,_,_=>by simp at h
 |[_,_,_],[],h,_,_=>by cases h
 |[_,_,_],[_],h,_,_=>by simp at h
 |[_,_,_],[_,_],h,_,_=>by simp at h
 |[_,_,_],_::_::_::_::_,h,_,_=>by simp at h
theorem Sk {t:AM} (a:t.Ab.length≤3) {l l':List Int} (h:BY t l=BY t l'):∀w∈t.Ab,Dy l w=Dy l' w:=by
 have e:=UX (by simp) (by simpa using a) h;intro w hw;obtain⟨i,hi,rfl⟩:=List.getElem_of_mem hw;have:=congrArg (fun x=>x.getD i 0) e;simpa[List.getElem?_eq_getElem hi] using this
theorem Ou{t:AM}(a:t.Ab.length≤3){l l':List Int}(h:BY t l=BY t l'):Cg t l=Cg t l':=by
 unfold Cg;exact List.map_congr_left fun w hw=>by rw[Sk a h w hw]
theorem Py{x y:AN}(h:[x.a0,x.a1,x.a2]=[y.a0,y.a1,y.a2]):x=y:=by cases x;cases y;simpa using h
def KA(M:List Int)(n:BR):Bool:=Ev (M.getD n.BS.toNat 0) n.Cy n.Cz
def Ea(M out:List Int):Nat→List BR→Bool
 |_,[]=>true
 |i,n::a=>(out.contains (i:Int)||KA M n)&&Ea M out (i+1) a
structure Tr (t:AM) (L:List (List Int)):Prop where
 Xe:∀l∈L,EK t.C l=true
 all:∀l,EK t.C l=true→∃l'∈L,BY t l'=BY t l
 len:L.length≤150
section
variable{K:Nat}(hK:1000≤K)
include hK
theorem UY(t:AM){M out:List Int}(g:M.length≤3)(j:∀n∈t.AV,0≤n.BS∧n.BS<M.length)(hl:t.AV.length≤100)(l:out.length≤900):EI K t (arr M) out=some (Ea M out 0 t.AV):=by
 have a:∀(d m i:Nat),t.AV.length=i+d→d<m→DE K t (arr M) out m (i:Int)=some (cond (Ea M out i (t.AV.drop i)) (.inr ()) (.inl false)):=by
  intro d
  induction d with
  |zero=>
   intro m i h hm;obtain⟨m,rfl⟩:∃c,m=c+1:=⟨m-1,by omega⟩;rw[DE.eq_2,cf (df (by omega)),List.drop_eq_nil_of_le (by omega),Ea,ct rfl]
  |succ d ih=>
   intro m i h hm;obtain⟨m,rfl⟩:∃c,m=c+1:=⟨m-1,by omega⟩;have hi:i<t.AV.length:=by omega
   rw[DE.eq_2,ct (dt (by omega)),C1 hi,bd (Ka hK out _ l),List.drop_eq_getElem_cons hi,Ea];cases out.contains (i:Int) with
   |true=>rw[Bool.true_or,Bool.true_and,nt,Cs (by omega) (by omega),EX i,ih m (i+1) (by omega) (by omega)]
   |false=>
    obtain⟨o,p⟩:=j _ (List.getElem_mem hi);obtain⟨k,f⟩:∃k:Nat,t.AV[i].BS=k:=⟨t.AV[i].BS.toNat,by omega⟩;have b:k<M.length:=by omega
    have e:F3 K ⟨t.AV[i].Cy,t.AV[i].Cz⟩ M[k]=some (KA M t.AV[i]):=by
     unfold F3 KA;rw[bd (HU ..),f,Int.toNat_natCast,Gi _ b]
    rw[nf,f,bd (Ke g b),bd e,Bool.false_or];cases KA M t.AV[i] with
    |false=>rw[nf,Bool.false_and,cf rfl]
    |true=>rw[nt,Cs (by omega) (by omega),EX i,Bool.true_and,ih m (i+1) (by omega) (by omega)]
 have:=a t.AV.length K 0 (by omega) (by omega);rw[Int.natCast_zero,List.drop_zero] at this;unfold EI;rw[bd this];cases Ea M out 0 t.AV<;>rfl
theorem Pz {t:AM} (f:OkT t):∀(X:List (List Int)) (a:List (List Int)),(∀l∈X,FQ t.Ah l=true)→a.length+X.length≤5000→
  ∃L:List (List Int),run (fun(st:List AN) (x:List Int)=>D0 K t st x) X (a.map (BY t))=some (true,L.map (BY t))∧(∀l∈L,l∈a∨l∈X∧EK t.C l=true)∧(∀l∈a,l∈L)∧(∀l∈X,EK t.C l=true→∃l'∈L,BY t l'=BY t l)∧L.length≤a.length+X.length
 |[],a,_,_=>⟨a,rfl,fun l h=>.inl h,fun l h=>h,fun l h=>(nomatch h),by simp⟩
 |x::X,a,j,hlen=>by
  have k:=j x (List.mem_cons_self ..);have y:=f.hl;have z:=JA k;rw[List.length_cons] at hlen;have p:F2 K ⟨t.Ah,t.Ab,t.Ak⟩ x=some (EK t.C x):=OE hK (c:=t.C) f.c (by omega)
  
  have step:∃b:List (List Int),D0 K t (a.map (BY t)) x=some (true,b.map (BY t))∧(∀l∈b,l∈a∨l=x∧EK t.C x=true)∧(∀l∈a,l∈b)∧(EK t.C x=true→∃l'∈b,BY t l'=BY t x)∧b.length≤a.length+1:=by
   unfold D0;rw[bd p];cases i:EK t.C x with
   |false=>exact⟨a,by rw[nf],fun l h=>.inl h,fun l h=>h,fun h=>(nomatch h),by omega⟩
   |true=>
    have d:∃b:List (List Int),(some (true,a.map (BY t)++[BY t x]):Option (Bool×List AN))=some (true,b.map (BY t))∧(∀l∈b,l∈a∨l=x∧true=true)∧(∀l∈a,l∈b)∧(true=true→∃l'∈b,BY t l'=BY t x)∧b.length≤a.length+1:=
     ⟨a++[x],by simp,fun l h=>by simpa using h,fun l h=>by simp[h],fun _=>⟨x,by simp,rfl⟩,by simp⟩
    rw[nt,bd (Sj hK f k)]
    by_cases h0:a.length=0
    ·rw[ct (J1 (by simp[h0])),Hd (by simp;omega)];exact d
    ·rw[cf (KW (by simp;simpa using h0)),Cs (by simp;omega) (by simp;omega)];have e:(((a.map (BY t)).length:Int))-1=((a.length-1:Nat):Int):=by rw[List.length_map];omega
     have m:a.length-1<(a.map (BY t)).length:=by rw[List.length_map];omega
     rw[e,C1 m];cases n:([((a.map (BY t))[a.length-1]).a0,((a.map (BY t))[a.length-1]).a1,((a.map (BY t))[a.length-1]).a2] !=[(BY t x).a0,(BY t x).a1,(BY t x).a2]) with
     |true=>rw[ct rfl,Hd (by simp;omega)];exact d
     |false=>
      rw[cf rfl];refine⟨a,rfl,fun l h=>.inl h,fun l h=>h,fun _=>⟨a[a.length-1]'(by omega),List.getElem_mem _,?_⟩,by omega⟩;have g:[((a.map (BY t))[a.length-1]).a0,((a.map (BY t))[a.length-1]).a1,((a.map (BY t))[a.length-1]).a2]=[(BY t x).a0,(BY t x).a1,(BY t x).a2]:=by simpa using n
      rw[List.getElem_map] at g;exact Py g
  obtain⟨b,s1,s2,q,r,aA⟩:=step;obtain⟨L,s,u,o,v,aB⟩:=Pz f X b (fun l hl=>j l (List.mem_cons_of_mem _ hl)) (by omega);refine⟨L,by rw[run,bd s1,ct rfl];exact s,?_,fun l hl=>o l (q l hl),?_,by rw[List.length_cons];omega⟩
  ·intro l hl;rcases u l hl with h|h
   ·rcases s2 l h with h|⟨rfl,h⟩
    ·exact .inl h
    ·exact .inr ⟨List.mem_cons_self ..,h⟩
   ·exact .inr ⟨List.mem_cons_of_mem _ h.1,h.2⟩
  ·intro l hl i;rcases List.mem_cons.1 hl with rfl|hl
   ·obtain⟨l',g,w⟩:=r i;exact⟨l',o l' g,w⟩
   ·exact v l hl i
theorem Xf{t:AM}(a:OkT t):∃L,Tr t L∧Gv K t=some (wk t (L.map (BY t)) []):=by
 have j:=a.hl;have hlen:((FC t.Ah).length:Int)=GK t.Ah:=MU a.c.ok;have b:=a.many;obtain⟨L,d,e,_,f,i⟩:=Pz hK a (FC t.Ah) [] (fun l hl=>(Kz (rs:=t.Ah) a.c.ok).1 hl) (by simp;omega);refine⟨L,⟨fun l hl=>?_,fun l hl=>f l ((Kz (rs:=t.Ah) a.c.ok).2 (Lv hl)) hl,by simp at i;omega⟩,?_⟩
 ·rcases e l hl with h|h
  ·cases h
  ·exact h.2
 ·unfold Gv;have g:=UU hK _ t.Ah (by omega) a.c.ok _ true _ d;rw[List.map_nil] at g;rw[bd (Xd hK a),bd (UW hK t (by omega)),bd g];rfl
def KO (t:AM) (out:List Int) (L:List (List Int)):List (AN×AN):=(L.filter fun l=>Ea (Cg t l) out 0 t.AV).map fun l=>(BY t l,arr (Cg t l))
theorem MV{σ:Type}{t:AM}(g:OkT t){out:List Int}(u:out.length≤900)(cb:σ→(AN×AN)→Option (Bool×σ))(L:List (List Int))(w:L.length≤150)(f:List (List Int×Int)):∀(d n i:Nat) (m:List (List Int×Int)) (s:σ) (b:Bool) (c:σ),L.length=i+d→d<n→HI t m→
  run cb (KO t out (L.drop i)) s=some (b,c)→∃j,HI t j∧(Du cb K (wk t (L.map (BY t)) f) out n (i:Int) m s).bind (fun z=>Sum.elim (fun q=>some (q.1,q.2)) (fun q=>some (q.1,q.2)) z)=some (j,c)
 |d,0,i,m,s,b,c,h,o,_,_=>by omega
 |0,n+1,i,m,s,b,c,h,o,hm,a=>by
  have e:((wk t (L.map (BY t)) f).BF.length:Int)=L.length:=by show((List.map _ _).length:Int)=_;simp
  rw[List.drop_eq_nil_of_le (by omega)] at a;have:(true,s)=(b,c):=Option.some.inj a;injection this with aB k
  subst k;refine⟨m,hm,?_⟩;rw[Du.eq_2,cf (df (by omega))];rfl
 |d+1,n+1,i,m,s,b,c,h,o,hm,a=>by
  have e:((wk t (L.map (BY t)) f).BF.length:Int)=L.length:=by show((List.map _ _).length:Int)=_;simp
  have x:=g.kl;have aD:=g.nl;have hi:i<L.length:=by omega
  have p:i<(wk t (L.map (BY t)) f).BF.length:=by show i<(List.map _ _).length;simpa using hi
  have k:(wk t (L.map (BY t)) f).BF[i]'p=BY t L[i]:=by simp[wk]
  obtain⟨v,l,g1⟩:=UT hK g (L.map (BY t)) hm L[i];have g2:EI K t (arr (Cg t L[i])) out=some (Ea (Cg t L[i]) out 0 t.AV):=UY hK t (by rw[KN];exact x) (fun n o=>by rw[KN];exact(g.note n o).1) (by omega) u;rw[Du.eq_2,ct (dt (by omega)),C1 p,k];show∃j,HI t j∧(((EU K (wk t (L.map (BY t)) m) (BY t L[i])).bind _).bind _)=_;rw[bd g1];show∃j,HI t j∧(((EI K t (arr (Cg t L[i])) out).bind _).bind _)=_;rw[bd g2];unfold KO at a;rw[List.drop_eq_getElem_cons hi,List.filter_cons] at a;cases y:Ea (Cg t L[i]) out 0 t.AV with
  |false=>
   rw[y,if_neg (by simp)] at a;rw[cf rfl,Cs (by omega) (by omega),EX i];exact MV g u cb L w f d n (i+1) v s b c (by omega) (by omega) l a
  |true=>
   rw[y,if_pos rfl,List.map_cons,run] at a;rw[ct rfl];cases aA:cb s (BY t L[i],arr (Cg t L[i])) with
   |none=>rw[aA] at a;cases a
   |some r=>
    obtain⟨aC,s1⟩:=r;rw[aA,Option.bind_some] at a;rw[Option.bind_some];cases aC with
    |false=>
     have:(false,s1)=(b,c):=Option.some.inj a;injection this with aB k
     subst k;exact⟨v,l,rfl⟩
    |true=>
     rw[nt,Cs (by omega) (by omega),EX i];exact MV g u cb L w f d n (i+1) v s1 b c (by omega) (by omega) l a
theorem PA{σ:Type}{t:AM}(d:OkT t){out:List Int}(e:out.length≤900)(cb:σ→(AN×AN)→Option (Bool×σ)){L:List (List Int)}(f:L.length≤150){m:List (List Int×Int)}(hm:HI t m){s:σ}{b:Bool}{a:σ}
  (h:run cb (KO t out L) s=some (b,a)):∃c,HI t c∧EO K cb (wk t (L.map (BY t)) m) out s=some (c,a):=
 MV hK d e cb L f m L.length K 0 m s b a (by omega) (by omega) hm (by rw[List.drop_zero];exact h)
theorem RF{t:AM}(d:OkT t){out:List Int}(f:out.length≤900){L:List (List Int)}(g:L.length≤150){m:List (List Int×Int)}(hm:HI t m):
  ∃a,HI t a∧De K (wk t (L.map (BY t)) m) out=some (L.any fun l=>Ea (Cg t l) out 0 t.AV,a):=by
 have c:∃b,run (fun(st:Bool×Bool) (x:AN×AN)=>cond st.2 none (EV st.1 x)) (KO t out L) (false,false)=some (b,(L.any fun l=>Ea (Cg t l) out 0 t.AV,L.any fun l=>Ea (Cg t l) out 0 t.AV)):=by
  have e:(L.any fun l=>Ea (Cg t l) out 0 t.AV)= !(KO t out L).isEmpty:=by
   unfold KO;rw[Bool.eq_iff_iff,List.any_eq_true];simp
  rw[e];cases KO t out L with
  |nil=>exact⟨true,rfl⟩
  |cons x X=>exact⟨false,rfl⟩
 obtain⟨b,c⟩:=c;obtain⟨a,h,i⟩:=PA hK d f _ g hm c;refine⟨a,h,?_⟩;unfold De;rw[bd i];cases L.any fun l=>Ea (Cg t l) out 0 t.AV<;>rfl
end
theorem Nw(M out:List Int):∀(a:List BR) (i:Nat),Ea M out i a=true↔∀j (b:j<a.length),out.contains ((i+j:Nat):Int)=true∨KA M a[j]=true
 |[],i=>by simp[Ea]
 |n::a,i=>by
  rw[Ea,Bool.and_eq_true,Bool.or_eq_true,Nw M out a (i+1)];constructor
  ·rintro⟨c,d⟩ j b;cases j with
   |zero=>simpa using c
   |succ j=>
    have:=d j (by simpa using b);rw[show i+(j+1)=i+1+j by omega];simpa using this
  ·intro h;refine⟨(show out.contains ((i+0:Nat):Int)=true∨KA M n=true from h 0 (by simp)),fun j b=>?_⟩;have:=h (j+1) (by simpa using b);rw[show i+1+j=i+(j+1) by omega];simpa using this
def Lz(t:AM)(l:List Int):Bool:=EK t.C l&&Ea (Cg t l) [] 0 t.AV
def Hx(t:AM):List (List Int):=(Di t.C).filter fun l=>Ea (Cg t l) [] 0 t.AV
section
variable{K:Nat}(hK:1000≤K)
include hK
end
def Jq(c:AX):Bool:=decide (c.Ap.length≤5)&&(decide (c.AP.length≤5)&&(decide (c.AO.length≤7)&&((c.AP.all fun l=>decide (l.length≤6))&&(decide (Fv c≠0)||decide (GK c.Ap≤150)))))
def Hm(t:AM):Bool:=Jq t.C&&(decide (t.Az.length≤5)&&(decide (t.AF.length≤5)&&decide (t.AV.length≤7)))
theorem Ov{c:AX}:Jq c=true↔c.Ap.length≤5∧c.AP.length≤5∧c.AO.length≤7∧(∀l∈c.AP,l.length≤6)∧(Fv c≠0∨GK c.Ap≤150):=by
 simp[Jq]
theorem KB{t:AM}(h:Hm t=true):Pr t:=by
 unfold Hm at h;rw[Bool.and_eq_true,Bool.and_eq_true,Bool.and_eq_true,decide_eq_true_eq,decide_eq_true_eq,decide_eq_true_eq,Ov] at h;obtain⟨⟨b,c,d,a,_⟩,e,f,g⟩:=h;exact⟨⟨by omega,by omega,by omega,fun l hl=>by have:=a l hl;omega⟩,by omega,by omega,by omega⟩
theorem Kf{t:AM}(h:Hm t=true)(h0:Fe t=0):OkT t:=by
 have hl:=KB h;unfold Hm at h;rw[Bool.and_eq_true,Ov] at h;have b:=(FT h0).1;exact⟨hl,h0,by
  rcases h.1.2.2.2.2 with a|a
  ·exact absurd b a
  ·exact a⟩
section
variable{K:Nat}(hK:1000≤K)
include hK
theorem To(l:List Int)(hl:l.length≤1000):GA K l=some l:=by
 unfold GA;rw[Hd (by simp;omega),List.nil_append]
theorem Mt {α:Type} (xs:List α) (F:Nat→Int→List α→Option (List α)) (e:∀m (i:Nat) acc (hi:i<xs.length),acc.length≤i→F (m+1) (i:Int) acc=F m ((i+1:Nat):Int) (acc++[xs[i]]))
  (f:∀m acc,F (m+1) (xs.length:Int) acc=some acc) (hl:xs.length≤900):F K 0 []=some xs:=by
 have a:∀(d m i:Nat) (acc:List α),xs.length=i+d→d<m→acc.length≤i→F m (i:Int) acc=some (acc++xs.drop i):=by
  intro d
  induction d with
  |zero=>
   intro m i acc h hm c;obtain⟨m,rfl⟩:∃b,m=b+1:=⟨m-1,by omega⟩;obtain rfl:i=xs.length:=by omega
   rw[f,List.drop_eq_nil_of_le (by omega),List.append_nil]
  |succ d ih=>
   intro m i acc h hm c;obtain⟨m,rfl⟩:∃b,m=b+1:=⟨m-1,by omega⟩;have hi:i<xs.length:=by omega
   rw[e m i acc hi c,ih m (i+1) _ (by omega) (by omega) (by simp;omega),List.drop_eq_getElem_cons hi,List.append_assoc];rfl
 have:=a xs.length K 0 [] (by omega) (by omega) (by simp);rw[Int.natCast_zero,List.drop_zero,List.nil_append] at this;exact this
theorem PB(c:AX)(hl:Tk c):DW K c=some c:=by
 obtain⟨g,h,j,b⟩:=hl;unfold DW;have d:CY K c K 0 []=some c.Ap:=Mt hK c.Ap (fun m i acc=>CY K c m i acc) (fun m i acc hi a=>by
   show CY K c (m+1) (i:Int) acc=_;rw[CY.eq_2,ct (dt (by omega)),C1 hi];unfold Gh;rw[Option.bind_some,Hd (by simp;omega),Cs (by omega) (by omega),EX i];try rfl) (fun m acc=>by
   show CY K c (m+1) (c.Ap.length:Int) acc=_;rw[CY.eq_2,cf (df (by omega))]) (by omega)
 have e:CT K c K 0 []=some c.AP:=Mt hK c.AP (fun m i acc=>CT K c m i acc) (fun m i acc hi a=>by
   show CT K c (m+1) (i:Int) acc=_;rw[CT.eq_2,ct (dt (by omega)),C1 hi,bd (To hK _ (by have:=b _ (List.getElem_mem hi);omega)),Hd (by simp;omega),Cs (by omega) (by omega),EX i];try rfl) (fun m acc=>by
   show CT K c (m+1) (c.AP.length:Int) acc=_;rw[CT.eq_2,cf (df (by omega))]) (by omega)
 have f:CU K c K 0 []=some c.AO:=Mt hK c.AO (fun m i acc=>CU K c m i acc) (fun m i acc hi a=>by
   show CU K c (m+1) (i:Int) acc=_;rw[CU.eq_2,ct (dt (by omega)),C1 hi];unfold Gh;rw[Option.bind_some,Hd (by simp;omega),Cs (by omega) (by omega),EX i];try rfl) (fun m acc=>by
   show CU K c (m+1) (c.AO.length:Int) acc=_;rw[CU.eq_2,cf (df (by omega))]) (by omega)
 rw[bd d,bd e,bd f]
theorem QE(t:AM)(hl:Pr t):Ec K t=some t:=by
 obtain⟨b,g,h,j⟩:=hl;unfold Ec;have c:DW K ⟨t.Ah,t.Ab,t.Ak⟩=some t.C:=PB hK t.C b;have d:C5 t K 0 []=some t.Az:=Mt hK t.Az (fun m i acc=>C5 t m i acc) (fun m i acc hi a=>by
   show C5 t (m+1) (i:Int) acc=_;rw[C5.eq_2,ct (dt (by omega)),C1 hi,C1 hi,Hd (by simp;omega),Cs (by omega) (by omega),EX i];try rfl) (fun m acc=>by
   show C5 t (m+1) (t.Az.length:Int) acc=_;rw[C5.eq_2,cf (df (by omega))]) (by omega)
 have e:CZ t K 0 []=some t.AF:=Mt hK t.AF (fun m i acc=>CZ t m i acc) (fun m i acc hi a=>by
   show CZ t (m+1) (i:Int) acc=_;rw[CZ.eq_2,ct (dt (by omega)),C1 hi,C1 hi,Hd (by simp;omega),Cs (by omega) (by omega),EX i];try rfl) (fun m acc=>by
   show CZ t (m+1) (t.AF.length:Int) acc=_;rw[CZ.eq_2,cf (df (by omega))]) (by omega)
 have f:C0 K t K 0 []=some t.AV:=Mt hK t.AV (fun m i acc=>C0 K t m i acc) (fun m i acc hi a=>by
   show C0 K t (m+1) (i:Int) acc=_;rw[C0.eq_2,ct (dt (by omega)),C1 hi,C1 hi];unfold H6;rw[Option.bind_some,Hd (by simp;omega),Cs (by omega) (by omega),EX i];try rfl) (fun m acc=>by
   show C0 K t (m+1) (t.AV.length:Int) acc=_;rw[C0.eq_2,cf (df (by omega))]) (by omega)
 rw[bd c,bd d,bd e,bd f];rfl
theorem RG(c:AX):Fv c=0→∀r∈c.Ap,HV r:=fun h=>(HC h).2.2.2.2.1
theorem UZ(c:AX):FI K c=some (Jq c):=by
 unfold FI
 by_cases a:c.Ap.length≤5
 case neg=>rw[ct (dt (by omega))];unfold Jq;rw[df a,Bool.false_and]
 rw[cf (df (by omega))]
 by_cases b:c.AP.length≤5
 case neg=>rw[ct (dt (by omega))];unfold Jq;rw[df b,Bool.false_and,Bool.and_false]
 rw[cf (df (by omega))]
 by_cases d:c.AO.length≤7
 case neg=>rw[ct (dt (by omega))];unfold Jq;rw[df d,Bool.false_and,Bool.and_false,Bool.and_false]
 rw[cf (df (by omega))];have e:Dg c K 0=some (cond (c.AP.all fun l=>decide (l.length≤6)) (.inr ()) (.inl false)):=
  KL c.AP (fun m i=>Dg c m (i:Int)) (fun l=>decide (l.length≤6)) false
   (fun m i hi=>by
    show Dg c (m+1) (i:Int)=_;rw[Dg.eq_2,ct (dt (by omega)),C1 hi]
    by_cases h:c.AP[i].length≤6
    ·rw[cf (df (by omega)),Cs (by omega) (by omega),EX i,dt h,ct rfl]
    ·rw[ct (dt (by omega)),df h,cf rfl])
   (fun m=>by
    show Dg c (m+1) (c.AP.length:Int)=_;rw[Dg.eq_2,cf (df (by omega))]) (by omega)
 unfold Jq;rw[bd e,dt a,dt b,dt d,Bool.true_and,Bool.true_and,Bool.true_and];cases f:c.AP.all fun l=>decide (l.length≤6) with
 |false=>rw[cf rfl,Bool.false_and];rfl
 |true=>
  have g:∀l∈c.AP,l.length≤100:=fun l hl=>by have:=of_decide_eq_true (List.all_eq_true.1 f l hl);omega
  rw[ct rfl,Bool.true_and];show Option.bind (Eb K c) _=_;rw[bd (Pq hK c (by omega) (by omega) (by omega) g)]
  by_cases h0:Fv c=0
  ·rw[cf (J2 h0),bd (R9 hK c (by omega) (RG hK c h0)),df (show¬(Fv c≠0) by simp[h0]),Bool.false_or]
   congr 1
   rw[Bool.eq_iff_iff,decide_eq_true_eq,decide_eq_true_eq];omega
  ·rw[ct (KX h0),dt h0,Bool.true_or]
theorem Xg(t:AM):GB K t=some (Hm t):=by
 unfold GB Hm;have h:FI K ⟨t.Ah,t.Ab,t.Ak⟩=some (Jq t.C):=UZ hK t.C;rw[bd h];cases Jq t.C with
 |false=>rw[cf rfl,Bool.false_and]
 |true=>
  rw[ct rfl,Bool.true_and]
  by_cases a:t.Az.length≤5
  case neg=>rw[cf (df (by omega)),df a,Bool.false_and]
  rw[ct (dt (by omega)),dt a,Bool.true_and]
  by_cases b:t.AF.length≤5
  case neg=>rw[cf (df (by omega)),df b,Bool.false_and]
  rw[ct (dt (by omega)),dt b,Bool.true_and]
  congr 1
  rw[Bool.eq_iff_iff,decide_eq_true_eq,decide_eq_true_eq];omega
theorem U0(t:AM):EJ K t=some (Hm t&&decide (Fe t=0)):=by
 unfold EJ;rw[bd (Xg hK t)];cases h:Hm t with
 |false=>rw[cf rfl,Bool.false_and]
 |true=>
  rw[ct rfl,bd (Sh hK t (KB h)),Bool.true_and];try rfl
end
def GY (t:AM):Int:=if Fe t≠0 then Fe t else if Di t.C=[] then 11 else 0
def FZ(t:AM):Int:=if GY t≠0 then GY t else if Hx t=[] then 9 else 0
theorem IK{t:AM}(h:GY t=0):Fe t=0∧Di t.C≠[]:=by
 unfold GY at h;split at h
 ·rename_i a;exact absurd h a
 rename_i a
 split at h
 ·cases h
 exact⟨Decidable.byContradiction a,‹_›⟩
theorem LA{t:AM}(h:FZ t=0):GY t=0∧Hx t≠[]:=by
 unfold FZ at h;split at h
 ·rename_i a;exact absurd h a
 rename_i a
 split at h
 ·cases h
 exact⟨Decidable.byContradiction a,‹_›⟩
theorem Xh{α:Type}(l:List α):((l.length:Int)==0)=true↔l=[]:=by
 rw[beq_iff_eq];constructor
 ·intro h;exact List.eq_nil_of_length_eq_zero (by omega)
 ·rintro rfl;rfl
theorem Sm{α:Type}{l:List α}(h:l≠[]):((l.length:Int)==0)=false:=by
 rw[Bool.eq_false_iff];exact fun g=>h ((Xh l).1 g)
section
variable{K:Nat}(hK:1000≤K)
include hK
theorem Sn{t:AM}(a:OkT t){L:List (List Int)}(b:Tr t L):L=[]↔Di t.C=[]:=by
 constructor
 ·rintro rfl;refine List.eq_nil_iff_forall_not_mem.2 fun l hl=>?_;obtain⟨_,h,_⟩:=b.all l ((FR a.c).1 hl);cases h
 ·intro h;refine List.eq_nil_iff_forall_not_mem.2 fun l hl=>?_;have:=(FR a.c).2 (b.Xe l hl);rw[h] at this;cases this
theorem Xi{t:AM}(a:OkT t){L:List (List Int)}(b:Tr t L)(p:List Int→Bool)(d:∀l l',BY t l=BY t l'→p l=p l'):L.any p=(Di t.C).any p:=by
 rw[Bool.eq_iff_iff,List.any_eq_true,List.any_eq_true];constructor
 ·rintro⟨l,hl,h⟩;exact⟨l,(FR a.c).2 (b.Xe l hl),h⟩
 ·rintro⟨l,hl,h⟩;obtain⟨l',e,f⟩:=b.all l ((FR a.c).1 hl);exact⟨l',e,by rw[d l' l f];exact h⟩
theorem Sp {t:AM} (h:Hm t=true) (a:Bool):
  (GY t=0∧a=true∧∃L,Tr t L∧L≠[]∧DM K t a=some (some (wk t (L.map (BY t)) []),0))∨
  (¬(GY t=0∧a=true)∧DM K t a=some (none,if Fe t=0∧a=false then 2 else GY t)):=by
 unfold DM;rw[bd (Pt hK t (KB h))]
 by_cases h0:Fe t=0
 ·have d:=Kf h h0;rw[cf (J2 h0)];cases a with
  |false=>exact .inr ⟨by simp,by rw[nf,if_pos ⟨h0,rfl⟩]⟩
  |true=>
   obtain⟨L,f,e⟩:=Xf hK d;rw[nt,bd e];have i:(wk t (L.map (BY t)) []).BF=L.map (BY t):=rfl;rw[i,List.length_map]
   by_cases b:L=[]
   ·have c:=(Sn hK d f).1 b;refine .inr ⟨by rintro⟨j,_⟩;exact(IK j).2 c,?_⟩;rw[ct ((Xh _).2 b),if_neg (by simp)];unfold GY;rw[if_neg (by simp[h0]),if_pos c]
   ·have c:Di t.C≠[]:=fun g=>b ((Sn hK d f).2 g);refine .inl ⟨?_,rfl,L,f,b,by rw[cf (Sm b)]⟩;unfold GY;rw[if_neg (by simp[h0]),if_neg c]
 ·rw[ct (KX h0)];refine .inr ⟨fun g=>h0 (IK g.1).1,?_⟩;rw[if_neg (by simp[h0])];unfold GY;rw[if_pos h0]
theorem Sq{t:AM}(a:OkT t)(out:List Int)(l l':List Int)(h:BY t l=BY t l'):Ea (Cg t l) out 0 t.AV=Ea (Cg t l') out 0 t.AV:=by
 rw[Ou a.kl h]
theorem QF{t:AM}(h:Hm t=true)(c:Bool):
  (FZ t=0∧c=true∧∃L m,Tr t L∧HI t m∧C2 K t c=some (some (wk t (L.map (BY t)) m),0))∨
  (¬(FZ t=0∧c=true)∧C2 K t c=some (none,if Fe t=0∧c=false then 2 else FZ t)):=by
 unfold C2;rcases Sp hK h c with⟨h0,p,L,k,d,e⟩|⟨h0,e⟩
 ·have n:=Kf h (IK h0).1;rw[bd e];obtain⟨m,hm,g⟩:=RF hK n (out:=[]) (by simp) k.len (UR t);have q:(L.any fun l=>Ea (Cg t l) [] 0 t.AV)=(Di t.C).any fun l=>Ea (Cg t l) [] 0 t.AV:=Xi hK n k _ (Sq hK n [])
  by_cases i:Hx t=[]
  ·have j:FZ t=9:=by unfold FZ;rw[if_neg (by simp[h0]),if_pos i]
   refine .inr ⟨by rw[j];simp,?_⟩;have o:((Di t.C).any fun l=>Ea (Cg t l) [] 0 t.AV)=false:=by
    rw[Bool.eq_false_iff];intro f;obtain⟨l,hl,r⟩:=List.any_eq_true.1 f;have:l∈Hx t:=List.mem_filter.2 ⟨hl,r⟩;rw[i] at this;cases this
   show(cond ((0:Int) !=0) (some ((none:Option BT),(0:Int))) ((De K (wk t (L.map (BY t)) []) []).bind _)=_);rw[cf (J2 rfl),bd g,q,o,nf,j,p,if_neg (by simp)]
  ·have j:FZ t=0:=by unfold FZ;rw[if_neg (by simp[h0]),if_neg i]
   have o:((Di t.C).any fun l=>Ea (Cg t l) [] 0 t.AV)=true:=by
    obtain⟨l,hl⟩:=List.exists_mem_of_ne_nil _ i;obtain⟨a,b⟩:=List.mem_filter.1 hl;exact List.any_eq_true.2 ⟨l,a,b⟩
   refine .inl ⟨j,p,L,m,k,hm,?_⟩;show(cond ((0:Int) !=0) (some ((none:Option BT),(0:Int))) ((De K (wk t (L.map (BY t)) []) []).bind _)=_);rw[cf (J2 rfl),bd g,q,o,nt];rfl
 ·rw[bd e];have d:(if Fe t=0∧c=false then (2:Int) else GY t)≠0:=by
   split
   ·omega
   ·rename_i f
    intro g;refine h0 ⟨g,?_⟩;cases c with
    |true=>rfl
    |false=>exact absurd ⟨(IK g).1,rfl⟩ f
  refine .inr ⟨fun g=>h0 ⟨(LA g.1).1,g.2⟩,?_⟩;show cond (_ !=0) _ _=_;rw[ct (KX d)]
  congr 2
  split
  ·rfl
  ·rename_i f
   have:GY t≠0:=by rw[if_neg f] at d;exact d
   unfold FZ;rw[if_pos this]
end
def KY(x:Int):List Int→List Int
 |[]=>[x]
 |y::l=>cond (decide (x≤y)) (x::y::l) (y::KY x l)
def K5:List Int→List Int
 |[]=>[]
 |x::l=>KY x (K5 l)
theorem PC(x z:Int):∀l,z∈KY x l↔z=x∨z∈l
 |[]=>by simp[KY]
 |y::l=>by
  unfold KY;cases h:decide (x≤y)
  ·simp[PC x z l];constructor<;>(rintro(h|h|h)<;>simp[h])
  ·simp
theorem Ow(x:Int):∀l,(KY x l).Perm (x::l)
 |[]=>.refl _
 |y::l=>by
  unfold KY;cases h:decide (x≤y)
  ·exact((Ow x l).cons y).trans (.swap x y l)
  ·exact .refl _
theorem MJ:∀l,(K5 l).Perm l
 |[]=>.refl _
 |x::l=>(Ow x _).trans ((MJ l).cons x)
theorem MK(x:Int):∀l,l.Pairwise (· ≤·)→(KY x l).Pairwise (· ≤·)
 |[],_=>by simp[KY]
 |y::l,h=>by
  unfold KY;cases c:decide (x≤y)
  ·have b:¬x≤y:=by simpa using c
   rw[List.pairwise_cons] at h;refine List.pairwise_cons.2 ⟨fun z a=>?_,MK x l h.2⟩;rcases(PC x z l).1 a with rfl|a
   ·omega
   ·exact h.1 z a
  ·have b:x≤y:=by simpa using c
   refine List.pairwise_cons.2 ⟨fun z a=>?_,h⟩;rcases List.mem_cons.1 a with rfl|a
   ·exact b
   ·exact Int.le_trans b ((List.pairwise_cons.1 h).1 z a)
theorem LO:∀l,(K5 l).Pairwise (· ≤·)
 |[]=>.nil
 |x::l=>MK x _ (LO l)
theorem Tp(l:List Int):HX l=K5 l:=by
 have d:(HX l).Pairwise (· ≤·):=by
  have:=List.pairwise_mergeSort (le:=fun(x y:Int)=>decide (x≤y)) (by intro a b c;simp;omega) (by intro a b;simp;omega) l;exact this.imp (fun h=>by simpa using h)
 refine List.Perm.eq_of_pairwise (le:=(· ≤·)) (fun a b _ _ e f=>Int.le_antisymm e f) d (LO l) ?_;exact(List.mergeSort_perm l _).trans (MJ l).symm
def NN(a:Nat)(d:BT)(b:List Int):Option (Bool×(List (List Int×Int))):=
 (DN a d).bind fun c=>(FG b c a ([]:List Int) (0:Int)).bind fun z3=>(FP ((z3.length:Int)≤100000)).bind fun _=>(FP (((K5 z3).length:Int)≤100000)).bind fun _=>some ((decide (((Lib.compact (K5 z3)).length:Int)<(b.length:Int)),c.2))
theorem Tq:Gx=NN:=by
 funext K a b;unfold Gx NN;simp only[Tp]
def Mi(b:Nat)(c:List Int)(d:BT):Option (Bool×(List (List Int×Int))):=
 (NN b d c).bind fun a=>some ((a.1,a.2))
theorem RH:GI=Mi:=by
 funext K a b;unfold GI Mi;rw[Tq]
def NO(d:Nat)(e:AM):Option ((List Int)×Int):=
 (C2 d e true).bind fun b=>Option.elim b.1 (cond (b.2 !=0) (some ((([]:List Int),b.2))) (none)) (fun a=>cond (b.2 !=0) (some ((([]:List Int),b.2))) ((Hc d (fun(st:(List (List Int×Int))) (x:(List Int))=>(Mi d x (⟨a.An,a.Ao,a.Aj,a.BG,a.AB,a.AD,a.AU,a.weights,a.BF,st⟩:BT)).bind fun r=>some (r.1,r.2)) (e.AF.length:Int) a.known).bind fun c=>cond (!c.2.1) (some ((([]:List Int),7))) (some ((c.1,0)))))
theorem Ts:Ic=NO:=by
 funext K a;unfold Ic NO;rw[RH]
def NP(a:Nat):Option (Bool):=
 (Cm a 0).bind fun z=>(Jk a z [41,62]).bind fun n=>(Cm a 0).bind fun aA=>(IJ a aA).bind fun d=>(Cm a 0).bind fun o=>(IY a o [0,1]).bind fun b=>(Cm a 0).bind fun p=>(Jl a p).bind fun c=>(Cm a 1).bind fun q=>(Hb a q).bind fun e=>(Cm a 0).bind fun r=>(NO a r).bind fun f=>(Cm a 2).bind fun s=>(IZ a s).bind fun g=>(Cm a 2).bind fun t=>(I0 a t).bind fun h=>cond (n.2==0) ((Db a n.1 [80,120]).bind fun u=>cond (u) (cond (d.2==0) (cond ((d.1.length:Int)==2) ((idx d.1 (0:Int)).bind fun i=>(Dh a 40 80).bind fun j=>cond ([i.Lo,i.Hi]==[j.Lo,j.Hi]) ((idx d.1 (1:Int)).bind fun k=>(Dh a 120 120).bind fun l=>cond ([k.Lo,k.Hi]==[l.Lo,l.Hi]) (cond (b.2==0) ((Dh a 160 200).bind fun m=>cond ([b.1.Lo,b.1.Hi]==[m.Lo,m.Hi]) (cond (c.2.2==0) ((Db a c.1 [1]).bind fun v=>cond (v) (cond (c.2.1==180) (cond (e.2==0) ((Db a e.1 [1,0]).bind fun w=>cond (w) (cond (f.2==0) ((Db a f.1 [0,1]).bind fun x=>cond (x) (cond (g.2==0) (cond (g.1==1) (cond (h.2==0) ((Db a h.1 [0]).bind fun y=>some (y)) (some (false))) (some (false))) (some (false))) (some (false))) (some (false))) (some (false))) (some (false))) (some (false))) (some (false))) (some (false))) (some (false))) (some (false))) (some (false))) (some (false))) (some (false))) (some (false))) (some (false))) (some (false))
theorem Tt:C3=NP:=by
 funext K;unfold C3 NP;rw[Ts]
set_option maxRecDepth 100000 in
theorem Qg:NP 1000=some true:=by kernel_rfl
theorem RI:C3 1000=some true:=by rw[Tt];exact Qg
def I1 (s:Nat):List Int:=((List.range 8).filter fun x=>s.testBit x).map fun x:Nat=>(x:Int)
def lexB:List Int→List Int→Bool
 |a::c,b::d=>if a=b then lexB c d else decide (a<b)
 |[],_::_=>true
 |_,[]=>false
def sh (a b:List Int):Bool:=decide (a.length<b.length)||(a.length==b.length&&lexB a b)
theorem LB:∀a b:List Int,lexB a b=false→lexB b a=false→a=b
 |[],[],_,_=>rfl
 |[],b::c,h,_=>by cases h
 |a::d,[],_,h=>by cases h
 |a::d,b::c,h,g=>by
  rw[lexB] at h g
  by_cases e:a=b
  ·rw[if_pos e] at h;rw[if_pos e.symm] at g;rw[e,LB d c h g]
  ·rw[if_neg e,decide_eq_false_iff_not] at h;rw[if_neg (Ne.symm e),decide_eq_false_iff_not] at g;omega
theorem Nx{a b:List Int}:sh a b=true↔a.length<b.length∨(a.length=b.length∧lexB a b=true):=by simp[sh]
theorem Xj{a b:List Int}(h:sh a b=false)(g:sh b a=false):a=b:=by
 rw[Bool.eq_false_iff] at h g;have c:a.length=b.length:=by
  refine Decidable.byContradiction fun e=>?_;rcases Nat.lt_or_gt_of_ne e with e|e
  ·exact h (Nx.2 (.inl e))
  ·exact g (Nx.2 (.inl e))
 refine LB a b ?_ ?_
 ·rw[Bool.eq_false_iff];exact fun e=>h (Nx.2 (.inr ⟨c,e⟩))
 ·rw[Bool.eq_false_iff];exact fun e=>g (Nx.2 (.inr ⟨c.symm,e⟩))
theorem Tu{s:Nat}{r:Int}:r∈I1 s↔∃x:Nat,x<8∧s.testBit x=true∧r=x:=by
 unfold I1;simp only[List.mem_map,List.mem_filter,List.mem_range];constructor
 ·rintro⟨x,⟨a,b⟩,rfl⟩;exact⟨x,a,b,rfl⟩
 ·rintro⟨x,a,b,rfl⟩;exact⟨x,⟨a,b⟩,rfl⟩
theorem Xk{s x k:Nat}(a:s<2^k)(h:s.testBit x=true):x<k:=by
 refine Decidable.byContradiction fun b=>?_;rw[Nat.testBit_lt_two_pow (Nat.lt_of_lt_of_le a (Nat.pow_le_pow_right (by omega) (by omega)))] at h;cases h
theorem Qh(s:Nat):(I1 s).Pairwise (· <·):=by
 unfold I1;rw[List.pairwise_map];have h:(List.range 8).Pairwise (fun a b:Nat=>a<b):=List.pairwise_lt_range;exact(h.sublist (List.filter_sublist)).imp fun h=>by omega
def MW(n:Int):Int→List Int→Bool
 |_,[]=>true
 |lo,x::l=>Ev x lo (n-1)&&MW n (x+1) l
theorem QG{n:Int}:∀{l:List Int} {lo:Int},lo≤n→MW n lo l=true→(l.length:Int)≤n-lo
 |[],_,h0,_=>by simp;omega
 |y::l,lo,h0,h=>by
  rw[MW,Bool.and_eq_true,DB] at h;have:=QG (by omega) h.2;rw[List.length_cons];omega
theorem Sr{n:Nat}:∀{l:List Int} {lo:Int},l.Pairwise (· <·)→(∀x∈l,lo≤x∧x<(n:Int))→MW n lo l=true
 |[],_,_,_=>rfl
 |x::l,lo,h,hm=>by
  have b:=hm x (List.mem_cons_self ..);rw[List.pairwise_cons] at h;rw[MW,Bool.and_eq_true,DB];exact⟨by omega,Sr h.2 fun y a=>⟨by have:=h.1 y a;omega,(hm y (List.mem_cons_of_mem _ a)).2⟩⟩
theorem Tv{n s:Nat}(a:s<2^n):MW n 0 (I1 s)=true:=by
 refine Sr (Qh s) fun x b=>?_;obtain⟨y,_,c,rfl⟩:=Tu.1 b;have:=Xk a c;omega
section
variable{K:Nat}(hK:1000≤K)
include hK
end
structure MX (n:Nat) (p:List Int→Bool) (x:List Int):Prop where
 is:∃s,s<2^n∧I1 s=x
 ok:p x=true
 least:∀s,s<2^n→p (I1 s)=true→sh (I1 s) x=false
theorem MX.uniq{n:Nat}{p:List Int→Bool}{x y:List Int}(h:MX n p x)(g:MX n p y):x=y:=by
 obtain⟨s,b,rfl⟩:=h.is;obtain⟨c,a,rfl⟩:=g.is;exact Xj (g.least s b h.ok) (h.least c a g.ok)
theorem MX.ZI{n:Nat}{p:List Int→Bool}{x:List Int}(h:MX n p x):MW n 0 x=true:=by
 obtain⟨s,a,rfl⟩:=h.is;exact Tv a
theorem MX.len{n:Nat}{p:List Int→Bool}{x:List Int}(h:MX n p x):x.length≤n:=by
 have:=QG (by omega) h.ZI;omega
section
variable{K:Nat}(hK:1000≤K)
include hK
end
structure J5 {α:Type} (S:List α) (f:α→Int) (r:AK):Prop where
 lo:∃l∈S,f l=r.Lo
 hi:∃l∈S,f l=r.Hi
 all:∀l∈S,r.Lo≤f l∧f l≤r.Hi
theorem U1{r s:AK}(h:r.Lo=s.Lo)(g:r.Hi=s.Hi):r=s:=by cases r;cases s;simp at h g;rw[h,g]
theorem J5.uniq{α:Type}{S:List α}{f:α→Int}{r s:AK}(h:J5 S f r)(g:J5 S f s):r=s:=by
 obtain⟨a,e,ea⟩:=h.lo;obtain⟨b,i,l⟩:=g.lo;obtain⟨c,j,ec⟩:=h.hi;obtain⟨d,k,m⟩:=g.hi;have n:=g.all a e;have o:=h.all b i;have p:=g.all c j;have q:=h.all d k;exact U1 (by omega) (by omega)
theorem J5.map{α β:Type}{X:List α}{f:α→Int}{S:List β}{g:β→Int}{r:AK}(h:J5 X f r)(b:∀x∈X,∃l∈S,g l=f x)(j:∀l∈S,∃x∈X,f x=g l):J5 S g r:=by
 obtain⟨a,k,ea⟩:=h.lo;obtain⟨c,m,ec⟩:=h.hi;obtain⟨a',d,p⟩:=b a k;obtain⟨n,i,q⟩:=b c m;refine⟨⟨a',d,by omega⟩,⟨n,i,by omega⟩,fun l hl=>?_⟩;obtain⟨x,o,e⟩:=j l hl;have:=h.all x o;omega
theorem J5.snoc{α:Type}{S:List α}{f:α→Int}{r:AK}(h:J5 S f r)(x:α):J5 (S++[x]) f ⟨min r.Lo (f x),max r.Hi (f x)⟩:=by
 obtain⟨a,b,ea⟩:=h.lo;obtain⟨c,d,ec⟩:=h.hi;refine⟨?_,?_,fun l hl=>?_⟩
 ·by_cases e:r.Lo≤f x
  ·exact⟨a,by simp[b],by simp only;omega⟩
  ·exact⟨x,by simp,by simp only;omega⟩
 ·by_cases e:f x≤r.Hi
  ·exact⟨c,by simp[d],by simp only;omega⟩
  ·exact⟨x,by simp,by simp only;omega⟩
 ·simp only;rcases List.mem_append.1 hl with hl|hl
  ·have:=h.all l hl;omega
  ·rw[List.mem_singleton.1 hl];omega
theorem J5.one{α:Type}(f:α→Int)(x:α):J5 [x] f ⟨f x,f x⟩:=⟨⟨x,by simp,rfl⟩,⟨x,by simp,rfl⟩,fun l hl=>by rw[List.mem_singleton.1 hl];simp⟩
theorem Ss{t:AM}(a:OkT t){l l':List Int}(h:BY t l=BY t l'):Cg t l=Cg t l':=Ou a.kl h
theorem NQ{t:AM}{out:List Int}{L:List (List Int)}{x:AN×AN}:x∈KO t out L↔∃l∈L,Ea (Cg t l) out 0 t.AV=true∧x=(BY t l,arr (Cg t l)):=by
 unfold KO;simp only[List.mem_map,List.mem_filter];constructor
 ·rintro⟨l,⟨a,b⟩,rfl⟩;exact⟨l,a,b,rfl⟩
 ·rintro⟨l,a,b,rfl⟩;exact⟨l,⟨a,b⟩,rfl⟩
theorem ML{t:AM}(a:OkT t){l:List Int}:l∈Hx t↔Lz t l=true:=by
 unfold Hx Lz;rw[List.mem_filter,FR a.c,Bool.and_eq_true]
section
variable{K:Nat}(hK:1000≤K)
include hK
end
structure PD (W:List Int→Int) (n:Nat) (s:List Int):Prop where
 is:∃b,b<2^n∧I1 b=s
 Xl:∀x,x<2^n→W (I1 x)<W s∨(W (I1 x)=W s∧lexB (I1 x) s=false)
theorem PD.uniq{W:List Int→Int}{n:Nat}{s d:List Int}(h:PD W n s)(g:PD W n d):s=d:=by
 obtain⟨b,j,rfl⟩:=h.is;obtain⟨b',e,rfl⟩:=g.is;have a:=h.Xl b' e;have c:=g.Xl b j;rcases a with a|⟨a,f⟩<;>rcases c with c|⟨c,i⟩
 ·omega
 ·omega
 ·omega
 ·exact LB _ _ i f
section
variable{K:Nat}(hK:1000≤K)
include hK
end
theorem nl{l l':List Int}(h:l=l'):(l !=l')=false:=by subst h;simp
theorem bb(b:Bool):(b==b)=true:=by cases b<;>rfl
section
variable{K:Nat}(hK:1000≤K)
include hK
end
theorem QH{α:Type}(x:List α)(a:Nat):EM x (0:Int) (a:Int)=x.take a:=by unfold EM;simp
def HP(t:AM)(o:BH):Int:=(t.Az.getD o.Cd.toNat ⟨0,0⟩).AW
def I2 (t:AM) (o:BH) (k:Nat):Bool:=decide (o.Ci≤(t.Ab.getD k []).sum)&&(Hx t).all fun l=>decide (HP t o≤Dy l (t.Ab.getD k []))
def H7(t:AM)(o:BH):List Int:=((List.range t.Ab.length).filter (I2 t o)).map fun k:Nat=>(k:Int)
theorem Ox{t:AM}{o:BH}{x:Int}:x∈H7 t o↔∃k:Nat,k<t.Ab.length∧I2 t o k=true∧x=k:=by
 unfold H7;simp only[List.mem_map,List.mem_filter,List.mem_range];constructor
 ·rintro⟨k,⟨a,b⟩,rfl⟩;exact⟨k,a,b,rfl⟩
 ·rintro⟨k,a,b,rfl⟩;exact⟨k,⟨a,b⟩,rfl⟩
theorem U2{t:AM}{o:BH}{k:Nat}(a:k<t.Ab.length):(H7 t o).contains (k:Int)=I2 t o k:=by
 rw[Bool.eq_iff_iff,List.contains_iff_mem,Ox];constructor
 ·rintro⟨j,_,h,e⟩;obtain rfl:k=j:=by omega
  exact h
 ·intro h;exact⟨k,a,h,rfl⟩
theorem PE(t:AM)(o:BH):(H7 t o).Pairwise (· <·):=by
 unfold H7;rw[List.pairwise_map];have h:(List.range t.Ab.length).Pairwise (fun a b:Nat=>a<b):=List.pairwise_lt_range;exact(h.sublist (List.filter_sublist)).imp fun h=>by omega
theorem Su(t:AM)(o:BH):(H7 t o).length≤t.Ab.length:=by
 unfold H7;rw[List.length_map];exact Nat.le_trans (List.length_filter_le _ _) (by simp)
def Hn(t:AM):List (List Int):=t.AF.map (H7 t)
def HQ:List (List Int)→List Int→List Int→Bool
 |[],_,[]=>true
 |s::S,out,x::xs=>s.contains x&&(!out.contains x&&HQ S (out++[x]) xs)
 |_,_,_=>false
theorem PF:∀{S:List (List Int)} {out d:List Int},HQ S out d=true→d.length=S.length
 |[],_,[],_=>rfl
 |[],_,_::_,h=>by cases h
 |_::_,_,[],h=>by cases h
 |s::S,out,x::xs,h=>by
  rw[HQ,Bool.and_eq_true,Bool.and_eq_true] at h;rw[List.length_cons,List.length_cons,PF h.2.2]
structure Ny (t:AM) (d:List Int):Prop where
 is:HQ (Hn t) [] d=true
 first:∀d',HQ (Hn t) [] d'=true→lexB d' d=false
theorem Ny.uniq{t:AM}{d d':List Int}(h:Ny t d)(g:Ny t d'):d=d':=LB _ _ (g.first d h.is) (h.first d' g.is)
section
variable{K:Nat}(hK:1000≤K)
include hK
theorem QI{t:AM}(f:OkT t){L:List (List Int)}(q:Tr t L){m:List (List Int×Int)}(hm:HI t m){o:BH}(aI:0≤o.Cd∧o.Cd<t.Az.length){k:Nat}(c:k<t.Ab.length):
  ∃j,HI t j∧Eu K (wk t (L.map (BY t)) m) o (k:Int)=some (I2 t o k,j):=by
 have i:=f.kl;have n:k<(wk t (L.map (BY t)) m).weights.length:=by show k<(List.map _ _).length;simpa using c
 have aC:(wk t (L.map (BY t)) m).weights[k]'n=(t.Ab.getD k []).sum:=by rw[Gi _ c];simp[wk]
 unfold Eu I2;rw[C1 n,aC]
 by_cases hw:(t.Ab.getD k []).sum<o.Ci
 ·exact⟨m,hm,by rw[ct (dt hw),df (by omega),Bool.false_and];rfl⟩
 rw[cf (df hw),dt (by omega),Bool.true_and];obtain⟨g,v⟩:∃g:Nat,o.Cd=g:=⟨o.Cd.toNat,by omega⟩;have p:g<t.Az.length:=by omega
 have w:HP t o=t.Az[g].AW:=by unfold HP;rw[v,Int.toNat_natCast,Gi _ p]
 have z:∀l:List Int,Dr (wk t (L.map (BY t)) m) o (k:Int) (BY t l,arr (Cg t l))=some (if HP t o≤Dy l (t.Ab.getD k []) then (true,false) else (false,true)):=fun l=>by
  have a:idx [(BY t l).a0,(BY t l).a1,(BY t l).a2] (k:Int)=some (Dy l (t.Ab.getD k [])):=by
   have:=Ke (l:=t.Ab.map (Dy l)) (by simpa using i) (k:=k) (by simpa using c);rw[List.getElem_map] at this;rw[Gi _ c];exact this
  unfold Dr;rw[bd a,v];show(idx t.Az (g:Int)).bind _=_;rw[C1 p,w]
  by_cases d:Dy l (t.Ab.getD k [])<t.Az[g].AW
  ·rw[ct (dt d),if_neg (by omega)]
  ·rw[cf (df d),if_pos (by omega)]
 have r:∃b,run (fun(st:Bool) (x:AN×AN)=>cond st none (Dr (wk t (L.map (BY t)) m) o (k:Int) x)) (KO t [] L) false=some (b, !((KO t [] L).all fun x=>decide (HP t o≤([x.1.a0,x.1.a1,x.1.a2]:List Int).getD k 0))):=by
  have s:∀x∈KO t [] L,Dr (wk t (L.map (BY t)) m) o (k:Int) x=some (if HP t o≤([x.1.a0,x.1.a1,x.1.a2]:List Int).getD k 0 then (true,false) else (false,true)):=fun x u=>by
   obtain⟨l,_,_,rfl⟩:=NQ.1 u;rw[z l];have a:=Ke (l:=t.Ab.map (Dy l)) (by simpa using i) (k:=k) (by simpa using c);rw[idx_eq (show k<([(arr (t.Ab.map (Dy l))).a0,(arr (t.Ab.map (Dy l))).a1,(arr (t.Ab.map (Dy l))).a2]:List Int).length by simp;omega),List.getElem_map] at a;have d:([(BY t l).a0,(BY t l).a1,(BY t l).a2]:List Int).getD k 0=Dy l (t.Ab.getD k []):=by
    rw[Gi _ c,←Option.some.inj a,Gi _ (show k<([(BY t l).a0,(BY t l).a1,(BY t l).a2]:List Int).length by simp;omega)];rfl
   show some _=some (if HP t o≤([(BY t l).a0,(BY t l).a1,(BY t l).a2]:List Int).getD k 0 then (true,false) else (false,true));rw[d]
  generalize KO t [] L=X at s
  induction X with
  |nil=>exact⟨true,rfl⟩
  |cons x X ih=>
   obtain⟨b,aD⟩:=ih fun y aE=>s y (List.mem_cons_of_mem _ aE);rw[run];show∃b,(Dr (wk t (L.map (BY t)) m) o (k:Int) x).bind _=_;rw[bd (s x (List.mem_cons_self ..)),List.all_cons]
   by_cases a:HP t o≤([x.1.a0,x.1.a1,x.1.a2]:List Int).getD k 0
   ·rw[if_pos a,dt a,Bool.true_and];exact⟨b,aD⟩
   ·rw[if_neg a,df a,Bool.false_and];exact⟨false,rfl⟩
 obtain⟨b,r⟩:=r;obtain⟨j,e,aF⟩:=PA hK f (out:=[]) (by simp) _ q.len hm r;refine⟨j,e,?_⟩;rw[bd aF];have aG:((KO t [] L).all fun x=>decide (HP t o≤([x.1.a0,x.1.a1,x.1.a2]:List Int).getD k 0))=(Hx t).all fun l=>decide (HP t o≤Dy l (t.Ab.getD k [])):=by
  have aA:∀l:List Int,([(BY t l).a0,(BY t l).a1,(BY t l).a2]:List Int).getD k 0=Dy l (t.Ab.getD k []):=fun l=>by
   have a:=Ke (l:=t.Ab.map (Dy l)) (by simpa using i) (k:=k) (by simpa using c);rw[idx_eq (show k<([(arr (t.Ab.map (Dy l))).a0,(arr (t.Ab.map (Dy l))).a1,(arr (t.Ab.map (Dy l))).a2]:List Int).length by simp;omega),List.getElem_map] at a;rw[Gi _ c,←Option.some.inj a,Gi _ (show k<([(BY t l).a0,(BY t l).a1,(BY t l).a2]:List Int).length by simp;omega)];rfl
  rw[Bool.eq_iff_iff,List.all_eq_true,List.all_eq_true];constructor
  ·intro h l hl;have e:=(ML f).1 hl;unfold Lz at e;rw[Bool.and_eq_true] at e;obtain⟨l',aH,aB⟩:=q.all l e.1;have:=h (BY t l',arr (Cg t l')) (NQ.2 ⟨l',aH,by rw[Ss f aB];exact e.2,rfl⟩);rw[←aA l,←aB];exact this
  ·intro h x u;obtain⟨l,a,d,rfl⟩:=NQ.1 u;have:=h l ((ML f).2 (by unfold Lz;rw[q.Xe l a,d];rfl));rw[←aA l] at this;exact this
 rw[aG];cases (Hx t).all fun l=>decide (HP t o≤Dy l (t.Ab.getD k []))<;>rfl
theorem RJ{t:AM}(l:OkT t){L:List (List Int)}(y:Tr t L){m:List (List Int×Int)}(hm:HI t m):∃a,HI t a∧DN K (wk t (L.map (BY t)) m)=some (Hn t,a):=by
 have aB:=l.kl;have aC:=l.ol;have aD:((wk t (L.map (BY t)) m).weights.length:Int)=t.Ab.length:=by show((List.map _ _).length:Int)=_;simp
 have u:(wk t (L.map (BY t)) m).AD=t.AF:=rfl;have v:∀(o:BH),o∈t.AF→∀(d n i:Nat) (acc:List Int) (b:List (List Int×Int)),t.Ab.length=i+d→d<n→acc.length≤i→HI t b→
   ∃c,HI t c∧CR K (wk t (L.map (BY t)) m) o n acc (i:Int) b=some (acc++((List.range' i d).filter (I2 t o)).map (fun k:Nat=>(k:Int)),c):=by
  intro o z d
  induction d with
  |zero=>
   intro n i acc b p q r e;obtain⟨n,rfl⟩:∃a,n=a+1:=⟨n-1,by omega⟩;exact⟨b,e,by rw[CR.eq_2,cf (df (by omega))];simp⟩
  |succ d ih=>
   intro n i acc b p q r e;obtain⟨n,rfl⟩:∃a,n=a+1:=⟨n-1,by omega⟩;obtain⟨c,j,g⟩:=QI hK l y e (l.order o z).1 (k:=i) (by omega);rw[CR.eq_2,ct (dt (by omega)),List.range'_succ,List.filter_cons];show∃h,HI t h∧(Eu K (wk t (L.map (BY t)) b) o (i:Int)).bind _=_;rw[bd g];cases aE:I2 t o i with
   |true=>
    obtain⟨h,f,g3⟩:=ih n (i+1) (acc++[(i:Int)]) c (by omega) (by omega) (by simp;omega) j;refine⟨h,f,?_⟩;rw[ct rfl,Hd (by simp;omega),Cs (by omega) (by omega),EX i];show CR K (wk t (L.map (BY t)) m) o n (acc++[(i:Int)]) ((i+1:Nat):Int) c=_;rw[g3,if_pos rfl,List.map_cons,List.append_assoc];rfl
   |false=>
    obtain⟨h,f,g3⟩:=ih n (i+1) acc c (by omega) (by omega) (by omega) j;refine⟨h,f,?_⟩;rw[cf rfl,Cs (by omega) (by omega),EX i];show CR K (wk t (L.map (BY t)) m) o n acc ((i+1:Nat):Int) c=_;rw[g3,if_neg (by simp)]
 have s:∀(d n i:Nat) (acc:List (List Int)) (b:List (List Int×Int)),t.AF.length=i+d→d<n→acc.length≤i→HI t b→
   ∃c,HI t c∧C7 K (wk t (L.map (BY t)) m) n acc (i:Int) b=some (acc++(t.AF.drop i).map (H7 t),c):=by
  intro d
  induction d with
  |zero=>
   intro n i acc b p q r e;obtain⟨n,rfl⟩:∃a,n=a+1:=⟨n-1,by omega⟩;exact⟨b,e,by rw[C7.eq_2,u,cf (df (by omega)),List.drop_eq_nil_of_le (by omega)];simp⟩
  |succ d ih=>
   intro n i acc b p q r e;obtain⟨n,rfl⟩:∃a,n=a+1:=⟨n-1,by omega⟩;have hi:i<t.AF.length:=by omega
   obtain⟨c,j,g2⟩:=v _ (List.getElem_mem hi) t.Ab.length K 0 [] b (by omega) (by omega) (by simp) e;obtain⟨h,f,g3⟩:=ih n (i+1) (acc++[H7 t t.AF[i]]) c (by omega) (by omega) (by simp;omega) j;refine⟨h,f,?_⟩;rw[Int.natCast_zero,List.nil_append,←List.range_eq_range'] at g2;rw[C7.eq_2,u,ct (dt (by omega)),C1 hi,bd g2,Hd (by simp;omega),Cs (by omega) (by omega),EX i];have w:C7 K (wk t (L.map (BY t)) m) n (acc++[H7 t t.AF[i]]) ((i+1:Nat):Int) c=_:=g3;rw[List.drop_eq_getElem_cons hi,List.map_cons];refine w.trans ?_;rw[List.append_assoc];rfl
 obtain⟨a,x,g⟩:=s t.AF.length K 0 [] m (by omega) (by omega) (by simp) hm;refine⟨a,x,?_⟩;unfold DN;rw[Int.natCast_zero,List.nil_append,List.drop_zero] at g;have aA:C7 K (wk t (L.map (BY t)) m) K [] 0 (wk t (L.map (BY t)) m).known=some (Hn t,a):=g;rw[bd aA]
def NR (S:List (List Int)) (out:List Int) (r:Bool×List Int):Prop:=
 (r.1=true∧∃e,r.2=out++e∧HQ S out e=true∧∀a,HQ S out a=true→lexB a e=false)∨(r.1=false∧r.2=out∧∀a,HQ S out a=false)
theorem NS(S:List (List Int))(aA:S.length≤100)(i:Nat)(hi:i<S.length)(s:S[i].Pairwise (· <·))(hl:S[i].length≤100)(out:List Int)(aB:out.length=i)(c:Int→List (List Int)→List Int→Option (Bool×List Int))
  (ih:∀x,∃r,c ((i+1:Nat):Int) S (out++[x])=some r∧NR (S.drop (i+1)) (out++[x]) r):
  ∀(d m j:Nat),S[i].length=j+d→d<m→(∀x∈S[i].take j,∀a,out.contains x=true∨HQ (S.drop (i+1)) (out++[x]) a=false)→
   ∃r,(Ee c K (i:Int) S S[i] m (j:Int) out).bind (fun z=>Sum.elim (fun q=>some (q.1,q.2)) (fun q=>some (false,q)) z)=some r∧NR (S.drop i) out r
 |d,0,j,h,hm,_=>by omega
 |0,m+1,j,h,hm,o=>by
  rw[Ee.eq_2,cf (df (by omega))];refine⟨(false,out),rfl,.inr ⟨rfl,rfl,fun a=>?_⟩⟩;rw[List.drop_eq_getElem_cons hi];cases a with
  |nil=>rfl
  |cons x xs=>
   rw[HQ,Bool.eq_false_iff];intro n;rw[Bool.and_eq_true,Bool.and_eq_true] at n;rw[List.take_of_length_le (by omega)] at o;rcases o x (by simpa using n.1) xs with l|l
   ·rw[l] at n;exact absurd n.2.1 (by decide)
   ·rw[l] at n;exact absurd n.2.2 (by decide)
 |d+1,m+1,j,h,hm,o=>by
  have t:j<S[i].length:=by omega
  have next:(∀a,out.contains S[i][j]=true∨HQ (S.drop (i+1)) (out++[S[i][j]]) a=false)→∀x∈S[i].take (j+1),∀a,out.contains x=true∨HQ (S.drop (i+1)) (out++[x]) a=false:=fun aD x k a=>by
   rw[List.take_succ_eq_append_getElem t] at k;rcases List.mem_append.1 k with k|k
   ·exact o x k a
   ·rw[List.mem_singleton.1 k];exact aD a
  rw[Ee.eq_2,ct (dt (by omega)),C1 t,bd (Ka hK out _ (by omega))];cases aC:out.contains S[i][j] with
  |true=>
   rw[ct rfl,Cs (by omega) (by omega),EX j];exact NS S aA i hi s hl out aB c ih d m (j+1) (by omega) (by omega) (next fun _=>.inl aC)
  |false=>
   obtain⟨r,aE,aF⟩:=ih S[i][j];rw[cf rfl,Hd (by simp;omega),Cs (by omega) (by omega),EX i,bd aE];rcases aF with⟨l,e,u,v,aG⟩|⟨l,u,v⟩
   ·obtain⟨w,y⟩:=r;obtain rfl:w=true:=l;obtain rfl:y=out++[S[i][j]]++e:=u;refine⟨(true,out++[S[i][j]]++e),rfl,.inl ⟨rfl,S[i][j]::e,by simp,?_,fun a b=>?_⟩⟩
    ·rw[List.drop_eq_getElem_cons hi,HQ,v,aC];simp
    ·rw[List.drop_eq_getElem_cons hi] at b;cases a with
     |nil=>cases b
     |cons x xs=>
      rw[HQ,Bool.and_eq_true,Bool.and_eq_true] at b;have k:x∈S[i]:=by simpa using b.1
      rw[lexB]
      by_cases p:x=S[i][j]
      ·subst p;rw[if_pos rfl];exact aG xs b.2.2
      ·rw[if_neg p];refine df fun aI=>?_;obtain⟨q,aH,rfl⟩:=List.getElem_of_mem k;rcases Nat.lt_or_ge q j with f|f
       ·rcases o S[i][q] (List.mem_take_iff_getElem.2 ⟨q,by omega,rfl⟩) xs with g|g
        ·rw[g] at b;exact absurd b.2.1 (by decide)
        ·rw[g] at b;exact absurd b.2.2 (by decide)
       ·rcases Nat.lt_or_eq_of_le f with f|f
        ·have:=(List.pairwise_iff_getElem.1 s) j q t aH f;omega
        ·subst f;exact p rfl
   ·obtain⟨w,y⟩:=r;obtain rfl:w=false:=l;obtain rfl:y=out++[S[i][j]]:=u;rw[cf rfl];show∃r,((Lq (out++[S[i][j]]).length (0:Int) (i:Int)).bind fun _=>(i64 ((j:Int)+1)).bind fun _=>Ee c K (i:Int) S S[i] m ((j:Int)+1) (EM (out++[S[i][j]]) (0:Int) (i:Int))).bind _=some r∧_;rw[W3 (by simp;omega),Cs (by omega) (by omega),EX j,QH,List.take_append_of_le_length (by omega),List.take_of_length_le (by omega)];exact NS S aA i hi s hl out aB c ih d m (j+1) (by omega) (by omega) (next fun a=>.inr (v a))
theorem Sv(S:List (List Int))(b:S.length≤100)(c:∀s∈S,s.Pairwise (· <·)∧s.length≤100):∀(d k i:Nat) (out:List Int),S.length=i+d→d<k→out.length=i→∃r,Fa K k (i:Int) S out=some r∧NR (S.drop i) out r
 |d,0,i,out,h,e,_=>by omega
 |0,k+1,i,out,h,e,f=>by
  rw[Fa.eq_2,ct (J1 (by omega)),List.drop_eq_nil_of_le (by omega)];refine⟨_,rfl,.inl ⟨rfl,[],by simp,rfl,fun j g=>?_⟩⟩;cases j with
  |nil=>rfl
  |cons x xs=>cases g
 |d+1,k+1,i,out,h,e,f=>by
  have hi:i<S.length:=by omega
  have a:=c _ (List.getElem_mem hi);rw[Fa.eq_2,cf (KW (by omega)),C1 hi];have:=NS hK S b i hi a.1 a.2 out f (Fa K k) (fun x=>Sv S b c d k (i+1) (out++[x]) (by omega) (by omega) (by simp;omega)) S[i].length K 0 (by omega) (by omega) (by simp);rw[Int.natCast_zero] at this;exact this
theorem Xm{t:AM}(h:Hm t=true):∃x e,Hb K t=some (x,e)∧(FZ t≠0→x=[]∧e=FZ t)∧(FZ t=0→(e=0∧Ny t x∨e=10∧x=[]∧∀d,HQ (Hn t) [] d=false)):=by
 unfold Hb;rcases QF hK h true with⟨h0,_,L,m,j,hm,e⟩|⟨h0,e⟩
 ·have b:=Kf h (IK (LA h0).1).1;have n:=b.kl;have p:=b.ol;obtain⟨u,q,g1⟩:=RJ hK b j hm;obtain⟨r,g2,g3⟩:=Sv hK (Hn t) (by unfold Hn;simp;omega) (fun s k=>by
   obtain⟨o,_,rfl⟩:=List.mem_map.1 k;have:=Su t o;exact⟨PE t o,by omega⟩) (Hn t).length K 0 [] (by omega) (by unfold Hn;simp;omega) rfl
  rw[Int.natCast_zero] at g2;rw[bd e];show∃x e,(DN K (wk t (L.map (BY t)) m)).bind _=_∧_;rw[bd g1,bd g2];rcases g3 with⟨c,x,i,f,l⟩|⟨c,i,f⟩
  ·refine⟨x,0,?_,fun g=>absurd h0 g,fun _=>.inl ⟨rfl,f,l⟩⟩;rw[c,nt,i];rfl
  ·refine⟨[],10,?_,fun g=>absurd h0 g,fun _=>.inr ⟨rfl,rfl,f⟩⟩;rw[c,nf]
 ·have a:FZ t≠0:=fun g=>h0 ⟨g,rfl⟩;refine⟨[],FZ t,?_,fun _=>⟨rfl,rfl⟩,fun g=>absurd g a⟩;rw[if_neg (by simp)] at e;rw[bd e];show cond (_ !=0) _ _=_;rw[ct (KX a)]
end
theorem KP(t:AM):(Hn t).length=t.AF.length:=List.length_map ..
theorem Sw{t:AM}{i:Nat}(hi:i<t.AF.length):(Hn t)[i]'(by rw[KP];exact hi)=H7 t t.AF[i]:=by simp[Hn]
theorem Sx{t:AM}{o:BH}{x:Int}:(H7 t o).contains x=(Ev x 0 ((t.Ab.length:Int)-1)&&I2 t o x.toNat):=by
 rw[Bool.eq_iff_iff,List.contains_iff_mem,Ox,Bool.and_eq_true,DB];constructor
 ·rintro⟨k,b,a,rfl⟩;exact⟨by omega,by rw[Int.toNat_natCast];exact a⟩
 ·rintro⟨b,a⟩;exact⟨x.toNat,by omega,a,by omega⟩
section
variable{K:Nat}(hK:1000≤K)
include hK
theorem Tw(t:AM)(hl:t.Ab.length≤100)(x:Int):Ep K t x=some (Ev x 0 ((t.Ab.length:Int)-1)):=by
 unfold Ep;rw[Cs (by omega) (by omega),bd (HU ..)]
theorem QJ{t:AM}(a:OkT t){L:List (List Int)}(f:Tr t L)(j:List (List Int×Int))(d:List Int)(v:d.length=t.AF.length):∀(e n i:Nat) (m:List (List Int×Int)),d.length=i+e→e<n→HI t m→
  ∃l,(Ey K t d (wk t (L.map (BY t)) j) n (i:Int) m).bind (fun z=>Sum.elim (fun q=>some q.1) (fun _=>some true) z)=some (HQ ((Hn t).drop i) (d.take i) (d.drop i))∧HI t l
 |e,0,i,m,h,o,_=>by omega
 |0,n+1,i,m,h,o,hm=>by
  refine⟨m,?_,hm⟩;rw[Ey.eq_2,cf (df (by omega)),List.drop_eq_nil_of_le (by rw[KP];omega),List.drop_eq_nil_of_le (by omega)];rfl
 |e+1,n+1,i,m,h,o,hm=>by
  have hi:i<d.length:=by omega
  have b:i<t.AF.length:=by omega
  have p:i<(Hn t).length:=by rw[KP];omega
  have aA:=a.kl;have aB:=a.ol;rw[Ey.eq_2,ct (dt (by omega)),C1 hi,bd (Tw hK t (by omega) _),List.drop_eq_getElem_cons p,List.drop_eq_getElem_cons hi,Sw b,HQ,Sx];cases w:Ev d[i] 0 ((t.Ab.length:Int)-1) with
  |false=>exact⟨m,by rw[nf];rfl,hm⟩
  |true=>
   have aC:=DB.1 w;obtain⟨x,r⟩:∃x:Nat,d[i]=(x:Int):=⟨d[i].toNat,by omega⟩;rw[nt,W3 (by omega),QH,bd (Ka hK _ _ (by simp;omega))];cases aD:(d.take i).contains d[i] with
   |true=>exact⟨m,by rw[ct rfl,Bool.not_true,Bool.false_and,Bool.and_false];rfl,hm⟩
   |false=>
    obtain⟨s,c,g⟩:=QI hK a f hm (a.order _ (List.getElem_mem b)).1 (k:=x) (by omega);rw[cf rfl,C1 b];show∃l,((Eu K (wk t (L.map (BY t)) m) t.AF[i] d[i]).bind _).bind _=_∧_;rw[r,bd g,Int.toNat_natCast];cases I2 t t.AF[i] x with
    |false=>exact⟨s,by rw[nf,Bool.and_false,Bool.false_and];rfl,c⟩
    |true=>
     obtain⟨y,g2,u⟩:=QJ a f j d v e n (i+1) s (by omega) (by omega) c;refine⟨y,?_,u⟩;rw[nt,Cs (by omega) (by omega),EX i,g2,List.take_succ_eq_append_getElem hi,r];simp
theorem Qi{t:AM}(h:Hm t=true){d:List Int}(j:d.length≤900):GV K t d=some (decide (FZ t=0)&&HQ (Hn t) [] d):=by
 unfold GV;rcases QF hK h true with⟨h0,_,L,m,c,hm,e⟩|⟨h0,e⟩
 ·have b:=Kf h (IK (LA h0).1).1;rw[bd e,dt h0,Bool.true_and];show cond ((d.length:Int) !=(t.AF.length:Int)) _ _=_
  by_cases hl:d.length=t.AF.length
  ·have i:=b.ol;obtain⟨k,g,_⟩:=QJ hK b c m d hl d.length K 0 m (by omega) (by omega) hm;rw[Int.natCast_zero,List.drop_zero,List.drop_zero,List.take_zero] at g;rw[cf (J2 (by omega))];exact g
  ·rw[ct (KX (by omega))]
   congr 1
   cases f:HQ (Hn t) [] d with
   |false=>rfl
   |true=>have:=PF f;rw[KP] at this;exact absurd this hl
 ·have a:FZ t≠0:=fun g=>h0 ⟨g,rfl⟩;rw[if_neg (by simp)] at e;rw[bd e,df a,Bool.false_and];show cond (_ !=0) _ _=_;rw[ct (KX a)]
end
def Um (t:AM) (out:List Int):Bool:=(Di t.C).any fun l=>Ea (Cg t l) out 0 t.AV
def Nz(t:AM)(a:List BR):AM:=⟨t.Ah,t.Ab,t.Ak,t.Flat,t.Az,t.AF,a⟩
def PG (t:AM) (k:Nat):Bool:=Um (Nz t (t.AV.take k)) []
theorem NA(M:List Int)(c:List BR):Ea M [] 0 c=true↔∀n∈c,KA M n=true:=by
 rw[Nw];constructor
 ·intro h n d;obtain⟨j,a,rfl⟩:=List.getElem_of_mem d;rcases h j a with b|b
  ·simp at b
  ·exact b
 ·intro h j a;exact .inr (h _ (List.getElem_mem a))
theorem Oy{t:AM}{j k:Nat}(h:j≤k)(a:PG t k=true):PG t j=true:=by
 unfold PG Um at a⊢;rw[List.any_eq_true] at a⊢;obtain⟨l,hl,b⟩:=a;refine⟨l,hl,?_⟩;have c:Cg (Nz t (t.AV.take k)) l=Cg t l:=rfl;have d:Cg (Nz t (t.AV.take j)) l=Cg t l:=rfl;have e:(Nz t (t.AV.take k)).AV=t.AV.take k:=rfl;have f:(Nz t (t.AV.take j)).AV=t.AV.take j:=rfl;rw[c,e,NA] at b;rw[d,f,NA];exact fun n g=>b n (List.take_subset_take_left _ h g)
structure NT (t:AM) (i:Nat):Prop where
 lt:i<t.AV.length
 before:PG t i=true
 not:PG t (i+1)=false
theorem NT.uniq{t:AM}{i j:Nat}(h:NT t i)(g:NT t j):i=j:=by
 rcases Nat.lt_trichotomy i j with a|a|a
 ·have:=Oy (show i+1≤j by omega) g.before;rw[h.not] at this;cases this
 ·exact a
 ·have:=Oy (show j+1≤i by omega) h.before;rw[g.not] at this;cases this
section
variable{K:Nat}(hK:1000≤K)
include hK
end
theorem ZJ{x:Int}(h0:-9223372036854775808≤x)(a:x≤9223372036854775807):Pa .i64 x=some ():=by
 unfold Pa;have:IntKind.i64.wrap x=x:=Kl ⟨by omega,by omega⟩;rw[if_pos this]
theorem Xn{β:Type}{x:Int}{f:Unit→Option β}(h0:0≤x)(a:x<65536):(Pa .i64 x).bind f=f ():=bd (ZJ (by omega) (by omega))
theorem QK{t:AM}(b:OkT t):GY t=0∧Di t.C≠[]∨GY t=11∧Di t.C=[]:=by
 unfold GY
 by_cases a:Di t.C=[]
 ·right;rw[if_neg (show¬Fe t≠0 by simp[b.fault]),if_pos a];exact⟨rfl,a⟩
 ·left;rw[if_neg (show¬Fe t≠0 by simp[b.fault]),if_neg a];exact⟨rfl,a⟩
theorem U3{t:AM}(b:OkT t)(a:GY t=0):FZ t=if Hx t=[] then 9 else 0:=by
 unfold FZ;rw[a,if_neg (show¬(0:Int)≠0 by simp)]
theorem Sy{t:AM}(a:GY t≠0):FZ t=GY t:=by unfold FZ;rw[if_pos a]
section
variable{K:Nat}(hK:1000≤K)
include hK
theorem Qj(t:AM):(EJ K t=some false)∨(Hm t=true∧OkT t∧EJ K t=some true):=by
 rw[U0 hK t];cases h:Hm t with
 |false=>exact .inl rfl
 |true=>
  by_cases h0:Fe t=0
  ·exact .inr ⟨rfl,Kf h h0,by rw[dt h0];rfl⟩
  ·exact .inl (by rw[df h0];rfl)
end
end Go.Proofs.YtbhofkcbfblijaaGreat
end
section
namespace Go.Proofs.YtbhofkcbfblijaaGreat
open Go.RowKit Go.WideShapes
def Dp{h:Type}(i:Int→AX→AN→(List Int)→h→Option (Bool×AN×h))(g:Int)(l:AX)(m:List Int)(j:Int):Nat→Int→Int→Int→Int→h→Option ((Bool×Int×Int×Int×h)⊕(Int×Int×Int×h))
 |0,_,_,_,_,_=>none
 |n+1,a,c,d,e,f=>cond (decide (a<j)) ((idx l.Ap g).bind fun k=>(i64 (k.Lo+a)).bind fun _=>(idx ([c,d,e]:List Int) g).bind fun o=>(i64 (g+1)).bind fun _=>(i (g+1) l ((⟨c,d,e⟩:AN).set g.toNat (k.Lo+a)) m f).bind fun b=>cond (!b.1) (some (.inl (false,b.2.1.a0,b.2.1.a1,b.2.1.a2,b.2.2))) ((i64 (a+1)).bind fun _=>Dp i g l m j n (a+1) b.2.1.a0 b.2.1.a1 b.2.1.a2 b.2.2)) (some (.inr (c,d,e,f)))
def C8{c:Type}(d:Nat)(f:c→AN→Option (Bool×c)):Nat→Int→AX→AN→(List Int)→c→Option (Bool×AN×c)
 |0,_,_,_,_,_=>none
 |l+1,g,e,b,i,h=>cond (g==(e.Ap.length:Int)) ((Fp d e b i).bind fun m=>cond (!m) (some ((true,b,h))) ((f h b).bind fun j=>some ((j.1,b,j.2)))) ((idx e.Ap g).bind fun n=>(GS d n).bind fun k=>(Dp (C8 d f l) g e i k d (0:Int) b.a0 b.a1 b.a2 h).bind fun z=>Sum.elim (fun a=>some ((a.1,(⟨a.2.1,a.2.2.1,a.2.2.2.1⟩:AN),a.2.2.2.2))) (fun a=>some ((true,(⟨a.1,a.2.1,a.2.2.1⟩:AN),a.2.2.2))) z)
def Fw{a:Type}(b:Nat)(c:a→AN→Option (Bool×a))(d:AX)(e:List Int)(f:a):Option (a):=
 (C8 b c b 0 d (⟨0,0,0⟩:AN) e f).bind fun g=>some (g.2.2)
def Fi(a:Nat)(c:Int)(b:AX)(d:Int):Option (Bool):=
 (i64 ((b.AP.length:Int)-1)).bind fun _=>(EZ a c 0 ((b.AP.length:Int)-1)).bind fun e=>cond (e) ((Ia a d).bind fun f=>some (f)) (some (false))
def Ct(a:List AN)(b:AN):Option (Bool×(List AN)):=
 cond ((a.length:Int)==0) ((FP (((a.length+[b].length:Nat):Int)≤140737488355328/24)).bind fun _=>some (true,a++[b])) ((i64 ((a.length:Int)-1)).bind fun _=>(idx a ((a.length:Int)-1)).bind fun c=>cond ([c.a0,c.a1,c.a2] !=[b.a0,b.a1,b.a2]) ((FP (((a.length+[b].length:Nat):Int)≤140737488355328/24)).bind fun _=>some (true,a++[b])) (some (true,a)))
def EL{b:Type}(e:Nat)(f:b→Unit→Option (Bool×b))(a:AX)(g:b):Option ((Option G5)×Int×b):=
 (DC e a).bind fun h=>cond (h !=0) (some (((none:Option G5),h,g))) ((f g ()).bind fun c=>cond (!c.1) (some (((none:Option G5),2,c.2))) ((Fw e (fun(st:(List AN)) (x:AN)=>Ct st x) a ([]:List Int) ([]:List AN)).bind fun d=>cond ((d.length:Int)==0) (some (((none:Option G5),11,c.2))) (some (((some (⟨a.Ap,a.AP,a.AO,d⟩:G5)),0,c.2)))))
def Ej(f:Nat)(d:G5)(g:Int):Nat→Int→Int→Int→Option (Int×Int)
 |0,_,_,_=>none
 |j+1,a,b,c=>cond (decide (a<(d.BF.length:Int))) ((idx d.BF a).bind fun h=>(Dx f (⟨d.Ah,d.Ab,d.Ak⟩:AX) h g).bind fun i=>(Gm f (⟨b,c⟩:AK) i).bind fun e=>(i64 (a+1)).bind fun _=>Ej f d g j (a+1) e.Lo e.Hi) (some ((b,c)))
def GC(b:Nat)(a:G5)(c:Int):Option (AK):=
 (idx a.BF (0:Int)).bind fun f=>(Dx b (⟨a.Ah,a.Ab,a.Ak⟩:AX) f c).bind fun d=>(Ej b a c b (0:Int) d d).bind fun e=>some ((⟨e.1,e.2⟩:AK))
def F6(d:Nat)(b:AX)(e:Int)(f:Int):Option (Int×Int):=
 (EL d (fun(st:Unit) (x:Unit)=>(Fi d e b f).bind fun r=>some (r,())) b ()).bind fun a=>Option.elim a.1 (cond (a.2.1 !=0) (some ((0,a.2.1))) (none)) (fun g=>cond (a.2.1 !=0) (some ((0,a.2.1))) ((i64 ((b.Ap.length:Int)+e)).bind fun _=>(GC d g ((b.Ap.length:Int)+e)).bind fun c=>cond (decide (f≤c.Lo)) (some ((1,0))) (cond (decide (c.Hi<f)) (some ((2,0))) (some ((3,0))))))
end Go.Proofs.YtbhofkcbfblijaaGreat
end
section
namespace Go.Proofs.YtbhofkcbfblijaaGreat
def Hf(x:AN):List Int:=[x.a0,x.a1,x.a2]
theorem Mu(x:AN){i:Nat}(v:Int)(h:i<3):Hf (x.set i v)=(Hf x).set i v:=by
 obtain rfl|rfl|rfl:i=0∨i=1∨i=2:=by omega
 ·rfl
 ·rfl
 ·rfl
def Jr (H:Nat) (x:AN):Prop:=(Hf x).drop H=List.replicate (3-H) 0
theorem Jr.set{H:Nat}{x:AN}(h:Jr H x){i:Nat}(v:Int)(hi:i<H)(a:i<3):Jr H (x.set i v):=by
 unfold Jr at h⊢;rw[Mu x v a,List.drop_set_of_lt hi];exact h
theorem Jr.arr{H:Nat}{x:AN}(h:Jr H x)(d:H≤3):arr ((Hf x).take H)=x:=by
 unfold Jr at h;apply Py;cases x with
 |mk a b c=>
  obtain rfl|rfl|rfl|rfl:H=0∨H=1∨H=2∨H=3:=by omega
  all_goals simp[Hf,Go.Proofs.YtbhofkcbfblijaaGreat.arr] at h⊢
  all_goals simp[h]
def KC(c:AX)(X:List (List Int)):List AN:=(X.filter (K4 c)).map arr
theorem U4(c:AX)(X Y:List (List Int)):KC c (X++Y)=KC c X++KC c Y:=by unfold KC;rw[List.filter_append,List.map_append]
theorem Tx{rs:List AK}{l:List Int}{i:Nat}{v:Int}(h:FQ (rs.take i) l=true)(hi:i<rs.length)(a:Ev v rs[i].Lo rs[i].Hi=true):FQ (rs.take (i+1)) (l++[v])=true:=by
 induction rs generalizing l i with
 |nil=>simp at hi
 |cons r rs ih=>
  cases i with
  |zero=>
   cases l with
   |nil=>
    show FQ [r] [v]=true;rw[FQ,Bool.and_eq_true];exact⟨a,rfl⟩
   |cons y l=>rw[List.take_zero,W8] at h;cases h
  |succ i=>
   cases l with
   |nil=>rw[List.take_succ_cons,W7] at h;cases h
   |cons y l=>
    rw[List.take_succ_cons,FQ,Bool.and_eq_true] at h;rw[List.take_succ_cons,List.cons_append,FQ,Bool.and_eq_true];exact⟨h.1,ih h.2 (by simpa using hi) a⟩
section
variable{K:Nat}(hK:1000≤K)
include hK
theorem Sz{σ:Type}{c:AX}(w:OkC c)(cb:σ→AN→Option (Bool×σ))(f:Int→AX→AN→List Int→σ→Option (Bool×AN×σ))(i:Nat)(hi:i<c.Ap.length)(l:HV c.Ap[i])
  (ih:∀(x:AN) (s:σ) (b:Bool) (d:σ),Jr c.Ap.length x→FQ (c.Ap.take (i+1)) ((Hf x).take (i+1))=true→run cb (KC c ((FC (c.Ap.drop (i+1))).map fun y=>(Hf x).take (i+1)++y)) s=some (b,d)→
   ∃g,Jr c.Ap.length g∧(Hf g).take (i+1)=(Hf x).take (i+1)∧f ((i+1:Nat):Int) c x [] s=some (b,g,d)):
  ∀(e m n:Nat) (x:AN) (s:σ) (b:Bool) (d:σ),Dk c.Ap[i]=(n:Int)+e→e<m→Jr c.Ap.length x→FQ (c.Ap.take i) ((Hf x).take i)=true→
   run cb (KC c ((List.range' n e).flatMap fun n:Nat=>(FC (c.Ap.drop (i+1))).map fun y=>(Hf x).take i++(c.Ap[i].Lo+(n:Int))::y)) s=some (b,d)→
   ∃g,Jr c.Ap.length g∧(Hf g).take i=(Hf x).take i∧(Dp f (i:Int) c [] (Dk c.Ap[i]) m (n:Int) x.a0 x.a1 x.a2 s).bind (fun z=>Sum.elim (fun q=>some (q.1,(⟨q.2.1,q.2.2.1,q.2.2.2.1⟩:AN),q.2.2.2.2)) (fun q=>some (true,(⟨q.1,q.2.1,q.2.2.1⟩:AN),q.2.2.2)) z)=some (b,g,d)
 |e,0,n,x,s,b,d,h,hm,_,_,_=>by omega
 |0,m+1,n,x,s,b,d,h,hm,o,p,a=>by
  have:(true,s)=(b,d):=Option.some.inj a;injection this with t u
  subst t;subst u;refine⟨x,o,rfl,?_⟩;rw[Dp.eq_2,cf (df (by omega))];rfl
 |e+1,m+1,n,x,s,b,d,h,hm,o,p,a=>by
  have aI:=Hw l;have aA:=l;have hl:=w.hl;unfold HV at aA;have aD:Dk c.Ap[i]=c.Ap[i].Hi-c.Ap[i].Lo+1:=rfl;have k:i<3:=by omega
  have j:i<(Hf x).length:=k;rw[List.range'_succ,List.flatMap_cons,U4,Ly] at a;have aB:∀y:List Int,(Hf x).take i++(c.Ap[i].Lo+(n:Int))::y=(Hf (x.set i (c.Ap[i].Lo+(n:Int)))).take (i+1)++y:=fun y=>by rw[Mu x _ k,take_set _ j,List.append_assoc];rfl
  simp only[aB] at a;cases v:run cb (KC c ((FC (c.Ap.drop (i+1))).map fun y=>(Hf (x.set i (c.Ap[i].Lo+(n:Int)))).take (i+1)++y)) s with
  |none=>rw[v] at a;cases a
  |some r=>
   obtain⟨aC,s1⟩:=r;rw[v,Option.bind_some] at a;obtain⟨x1,g1,g2,g3⟩:=ih (x.set i (c.Ap[i].Lo+(n:Int))) s aC s1 (o.set _ hi k) (by rw[Mu x _ k,take_set _ j];exact Tx p hi (DB.2 ⟨by omega,by omega⟩)) v;have gt:(Hf x1).take i=(Hf x).take i:=by
    have:=congrArg (List.take i) g2;rw[List.take_take,List.take_take,Nat.min_eq_left (by omega),Mu x _ k,List.take_set_of_le (Nat.le_refl _)] at this;exact this
   have aE:idx ([x.a0,x.a1,x.a2]:List Int) (i:Int)=some ((Hf x)[i]'j):=idx_eq j;rw[Dp.eq_2,ct (dt (by omega)),C1 hi,Cs (by omega) (by omega),bd aE,Cs (by omega) (by omega),EX i,Int.toNat_natCast];show∃g,_∧_∧(((f ((i+1:Nat):Int) c (x.set i (c.Ap[i].Lo+(n:Int))) [] s).bind _).bind _)=_;rw[bd g3];cases aC with
   |false=>
    have:(false,s1)=(b,d):=Option.some.inj a;injection this with t u
    subst t;subst u;exact⟨x1,g1,gt,rfl⟩
   |true=>
    rw[nt,Cs (by omega) (by omega),EX n];simp only[←aB] at a;rw[←gt] at a;obtain⟨x2,aF,aG,aH⟩:=Sz w cb f i hi l ih e m (n+1) x1 s1 b d (by omega) (by omega) g1 (by rw[gt];exact p) a;exact⟨x2,aF,aG.trans gt,aH⟩
theorem Xo{σ:Type}{c:AX}(j:OkC c)(cb:σ→AN→Option (Bool×σ)):∀(d k i:Nat) (x:AN) (s:σ) (b:Bool) (f:σ),c.Ap.length=i+d→d<k→Jr c.Ap.length x→FQ (c.Ap.take i) ((Hf x).take i)=true→
  run cb (KC c ((FC (c.Ap.drop i)).map fun y=>(Hf x).take i++y)) s=some (b,f)→∃q,Jr c.Ap.length q∧(Hf q).take i=(Hf x).take i∧C8 K cb k (i:Int) c x [] s=some (b,q,f)
 |d,0,i,x,s,b,f,h,t,_,_,_=>by omega
 |0,k+1,i,x,s,b,f,h,t,n,o,a=>by
  have hl:=j.hl;obtain rfl:i=c.Ap.length:=by omega
  rw[List.take_length] at o;rw[List.drop_length] at a;have e:(FC []).map (fun y=>(Hf x).take c.Ap.length++y)=[(Hf x).take c.Ap.length]:=by
   show[(Hf x).take c.Ap.length++[]]=_;rw[List.append_nil]
  rw[e] at a;have ea:=n.arr hl;have u:=Pv hK j o;rw[ea] at u;refine⟨x,n,rfl,?_⟩;rw[C8.eq_2,ct (J1 rfl),bd u];unfold KC at a;rw[List.filter_cons] at a;cases g:K4 c ((Hf x).take c.Ap.length) with
  |false=>
   rw[g,if_neg (by simp)] at a;have:(true,s)=(b,f):=Option.some.inj a;injection this with l m
   subst l;subst m;rw[nf]
  |true=>
   rw[g,if_pos rfl,List.map_cons,ea,run] at a;rw[nt];cases p:cb s x with
   |none=>rw[p] at a;cases a
   |some r=>
    obtain⟨v,s1⟩:=r;rw[p,Option.bind_some] at a;cases v with
    |true=>
     have:(true,s1)=(b,f):=Option.some.inj a;injection this with l m
     subst l;subst m;rfl
    |false=>
     have:(false,s1)=(b,f):=Option.some.inj a;injection this with l m
     subst l;subst m;rfl
 |d+1,k+1,i,x,s,b,f,h,t,n,o,a=>by
  have hi:i<c.Ap.length:=by omega
  have g:=j.ok _ (List.getElem_mem hi);have aA:=Hw g;rw[List.drop_eq_getElem_cons hi,FC,List.map_flatMap] at a;simp only[List.map_map] at a;rw[C8.eq_2,cf (KW (by omega)),C1 hi,bd (Qy K g)];have:=Sz hK j cb (C8 K cb k) i hi g (fun x s b f p w z=>Xo j cb d k (i+1) x s b f (by omega) (by omega) p w z) (Dk c.Ap[i]).toNat K 0 x s b f (by omega) (by omega) n o a;rw[Int.natCast_zero] at this;exact this
theorem SA {σ:Type} {c:AX} (d:OkC c) (cb:σ→AN→Option (Bool×σ)) (s:σ) (b:Bool) (a:σ) (h:run cb (KC c (FC c.Ap)) s=some (b,a)):Fw K cb c [] s=some a:=by
 have hl:=d.hl;unfold Fw;obtain⟨g,_,_,f⟩:=Xo hK d cb c.Ap.length K 0 ⟨0,0,0⟩ s b a (by omega) (by omega) (by
  unfold Jr Hf;obtain e|e|e|e:c.Ap.length=0∨c.Ap.length=1∨c.Ap.length=2∨c.Ap.length=3:=by omega
  all_goals rw[e];rfl) rfl (by simpa using h)
 rw[Int.natCast_zero] at f;rw[bd f]
end
theorem U5{c:AX}(a:OkC c){x:AN}:x∈KC c (FC c.Ap)↔∃l∈Di c,x=arr l:=by
 unfold KC;rw[List.mem_map];constructor
 ·rintro⟨l,hl,rfl⟩;obtain⟨b,d⟩:=List.mem_filter.1 hl;exact⟨l,(FR a).2 (by unfold EK;rw[(Kz a.ok).1 b,d];rfl),rfl⟩
 ·rintro⟨l,hl,rfl⟩;have h:=(FR a).1 hl;unfold EK at h;rw[Bool.and_eq_true] at h;exact⟨l,List.mem_filter.2 ⟨(Kz a.ok).2 h.1,h.2⟩,rfl⟩
theorem U6{c:AX}(a:OkC c):(KC c (FC c.Ap)).length≤150:=by
 have b:((FC c.Ap).length:Int)=GK c.Ap:=MU a.ok;have d:=a.many;unfold KC;rw[List.length_map];have:=List.length_filter_le (K4 c) (FC c.Ap);omega
theorem NU:∀(X S:List AN),S.length+X.length≤5000→∃c,run (fun(st:List AN) (x:AN)=>Ct st x) X S=some (true,c)∧c.length≤S.length+X.length∧∀x,x∈c↔x∈S∨x∈X
 |[],S,_=>⟨S,rfl,by simp,fun x=>by simp⟩
 |y::X,S,h=>by
  rw[List.length_cons] at h;have g:((S.length+[y].length:Nat):Int)≤140737488355328/24:=by rw[List.length_singleton];omega
  have d:Ct S y=some (true,S++[y])→∃c,run (fun(st:List AN) (x:AN)=>Ct st x) (y::X) S=some (true,c)∧c.length≤S.length+(X.length+1)∧∀x,x∈c↔x∈S∨x∈y::X:=fun e=>by
   obtain⟨c,g1,g2,g3⟩:=NU X (S++[y]) (by rw[List.length_append,List.length_singleton];omega);rw[List.length_append,List.length_singleton] at g2;refine⟨c,?_,by omega,fun x=>?_⟩
   ·rw[run];show(Ct S y).bind _=_;rw[bd e,ct rfl];exact g1
   ·rw[g3,List.mem_append,List.mem_singleton,List.mem_cons,or_assoc]
  rw[List.length_cons];cases S with
  |nil=>exact d (by unfold Ct;rw[ct (show((([]:List AN).length:Int)==0)=true from rfl),Hd g])
  |cons z a=>
   have f:(z::a).length-1<(z::a).length:=by simp
   have i:(((z::a).length:Int)-1)=(((z::a).length-1:Nat):Int):=by simp
   have j:(((z::a).length:Int)==0)=false:=by simp;omega
   have gr:Ct (z::a) y=if [((z::a)[(z::a).length-1]).a0,((z::a)[(z::a).length-1]).a1,((z::a)[(z::a).length-1]).a2]=[y.a0,y.a1,y.a2] then some (true,z::a) else some (true,z::a++[y]):=by
    unfold Ct;rw[cf j,Cs (by simp) (by rw[List.length_cons] at h;rw[List.length_cons];omega),i,C1 f]
    by_cases e:[((z::a)[(z::a).length-1]).a0,((z::a)[(z::a).length-1]).a1,((z::a)[(z::a).length-1]).a2]=[y.a0,y.a1,y.a2]
    ·rw[if_pos e,cf (nl e)]
    ·rw[if_neg e,ct (by simpa using e),Hd g]
   by_cases e:[((z::a)[(z::a).length-1]).a0,((z::a)[(z::a).length-1]).a1,((z::a)[(z::a).length-1]).a2]=[y.a0,y.a1,y.a2]
   ·rw[if_pos e] at gr;have k:y∈z::a:=by
     have:=Py e;rw[←this];exact List.getElem_mem f
    obtain⟨c,g1,g2,g3⟩:=NU X (z::a) (by omega);refine⟨c,?_,by omega,fun x=>?_⟩
    ·rw[run];show(Ct (z::a) y).bind _=_;rw[bd gr,ct rfl];exact g1
    ·rw[g3,List.mem_cons (b:=y)];constructor
     ·rintro(h|h)
      ·exact .inl h
      ·exact .inr (.inr h)
     ·rintro(h|rfl|h)
      ·exact .inl h
      ·exact .inl k
      ·exact .inr h
   ·rw[if_neg e] at gr;exact d gr
section
variable{K:Nat}(hK:1000≤K)
include hK
theorem Ty {σ:Type} {c:AX} (b:OkC c) (cb:σ→Unit→Option (Bool×σ)) (s a:σ) (f:cb s ()=some (true,a)):
  (Di c=[]∧EL K cb c s=some (none,11,a))∨(Di c≠[]∧∃T,T≠[]∧T.length≤150∧(∀x,x∈T↔∃l∈Di c,x=arr l)∧EL K cb c s=some (some ⟨c.Ap,c.AP,c.AO,T⟩,0,a)):=by
 have i:=U6 b;obtain⟨T,j,k,m⟩:=NU (KC c (FC c.Ap)) [] (by simp;omega);have g:=SA hK b (fun(st:List AN) (x:AN)=>Ct st x) [] true T j;have hm:∀x,x∈T↔∃l∈Di c,x=arr l:=fun x=>by rw[m,U5 b];simp
 have e:EL K cb c s=cond ((T.length:Int)==0) (some (none,11,a)) (some (some ⟨c.Ap,c.AP,c.AO,T⟩,0,a)):=by
  unfold EL;rw[bd (MT hK b),cf (J2 rfl),bd f,nt,bd g]
 cases d:T with
 |nil=>
  left;rw[d] at hm e;refine⟨?_,e⟩;cases n:Di c with
  |nil=>rfl
  |cons l L=>
   have:=(hm (arr l)).2 ⟨l,by rw[n];simp,rfl⟩;cases this
 |cons x X=>
  right;have o:=(hm x).1 (by rw[d];simp);obtain⟨l,hl,_⟩:=o;refine⟨fun h=>(by rw[h] at hl;cases hl),T,by rw[d];simp,by simp at k;omega,hm,?_⟩;rw[e,cf (Sm (by rw[d];simp))]
theorem Yl{c:AX}(a:OkC c){l:List Int}(hl:FQ c.Ap l=true){k:Nat}(b:k<c.AP.length):Dx K c (arr l) ((c.Ap.length:Int)+(k:Int))=some (Dy l c.AP[k]):=by
 have e:=a.hl;have f:=a.cl;have d:(c.Ap.length:Int)+(k:Int)-(c.Ap.length:Int)=(k:Int):=by omega
 unfold Dx;rw[ct (dt (by omega)),Cs (by omega) (by omega),d,C1 b,bd (Lw hK a hl b)]
end
end Go.Proofs.YtbhofkcbfblijaaGreat
end
section
namespace Go.Proofs.YtbhofkcbfblijaaGreat
namespace HF
theorem mixed:Tryz.prog.follows .mixedOrders=true:=by kernel_rfl
theorem JB(b:Nat)(w:World):(Instr.fieldAt 131 (.pointer (some ⟨b,0,none⟩)) 0).run Tryz.prog w=.ok (.pointer (some ⟨b,0,none⟩)) w:=by kernel_rfl
theorem Bp:One Tryz.prog 3:=by unfold One;exact⟨by kernel_rfl,by kernel_rfl⟩
theorem JC(b:Nat)(w:World):(Instr.fieldAt 131 (.pointer (some ⟨b,0,none⟩)) 1).run Tryz.prog w=.ok (.pointer (some ⟨b,1,none⟩)) w:=by kernel_rfl
theorem Kg:AZ Tryz.prog 140:=by unfold AZ;kernel_rfl
theorem DG:(Tryz.prog.info? 3).map (·.size)=some 1:=by kernel_rfl
theorem PH(b:Nat)(w:World):(Instr.fieldAt 133 (.pointer (some ⟨b,0,none⟩)) 0).run Tryz.prog w=.ok (.pointer (some ⟨b,0,none⟩)) w:=by kernel_rfl
theorem JM:One Tryz.prog 4:=by unfold One;exact⟨by kernel_rfl,by kernel_rfl⟩
theorem Fu(b:Nat)(w:World):(Instr.fieldAt 38 (.pointer (some ⟨b,0,none⟩)) 0).run Tryz.prog w=.ok (.pointer (some ⟨b,0,none⟩)) w:=by kernel_rfl
theorem GD:One Tryz.prog 35:=by unfold One;exact⟨by kernel_rfl,by kernel_rfl⟩
theorem LC(b:Nat)(w:World):(Instr.fieldAt 133 (.pointer (some ⟨b,0,none⟩)) 1).run Tryz.prog w=.ok (.pointer (some ⟨b,1,none⟩)) w:=by kernel_rfl
theorem QL:AZ Tryz.prog 199:=by unfold AZ;kernel_rfl
theorem IC:(Tryz.prog.info? 131).bind (·.zero)=some (.agg #[I 0,I 0]):=by kernel_rfl
theorem QM:AZ Tryz.prog 168:=by unfold AZ;kernel_rfl
theorem Hg:(Tryz.prog.info? 131).map (·.size)=some 2:=by kernel_rfl
theorem FJ:EA Tryz.prog 131 2:=by unfold EA;exact⟨by kernel_rfl,by kernel_rfl⟩
theorem U7:One Tryz.prog 214:=by unfold One;exact⟨by kernel_rfl,by kernel_rfl⟩
theorem U8:AZ Tryz.prog 221:=by unfold AZ;kernel_rfl
theorem U9:AZ Tryz.prog 194:=by unfold AZ;kernel_rfl
theorem Va:AZ Tryz.prog 193:=by unfold AZ;kernel_rfl
theorem NV:One Tryz.prog 148:=by unfold One;exact⟨by kernel_rfl,by kernel_rfl⟩
theorem FM:(Tryz.prog.info? 31).map (·.size)=some 1:=by kernel_rfl
theorem C9:One Tryz.prog 31:=by unfold One;exact⟨by kernel_rfl,by kernel_rfl⟩
theorem Vb:AZ Tryz.prog 222:=by unfold AZ;kernel_rfl
theorem Vc:AZ Tryz.prog 196:=by unfold AZ;kernel_rfl
theorem Vd:AZ Tryz.prog 195:=by unfold AZ;kernel_rfl
theorem Ve:One Tryz.prog 212:=by unfold One;exact⟨by kernel_rfl,by kernel_rfl⟩
theorem Mw:EA Tryz.prog 133 4:=by unfold EA;exact⟨by kernel_rfl,by kernel_rfl⟩
theorem PI:(Tryz.prog.info? 133).map (·.size)=some 4:=by kernel_rfl
theorem Vf:AZ Tryz.prog 223:=by unfold AZ;kernel_rfl
theorem Vg:AZ Tryz.prog 198:=by unfold AZ;kernel_rfl
theorem Vh:AZ Tryz.prog 197:=by unfold AZ;kernel_rfl
theorem Jb:One Tryz.prog 142:=by unfold One;exact⟨by kernel_rfl,by kernel_rfl⟩
theorem Vi:AZ Tryz.prog 207:=by unfold AZ;kernel_rfl
theorem Vj:AZ Tryz.prog 231:=by unfold AZ;kernel_rfl
theorem QN:AZ Tryz.prog 187:=by unfold AZ;kernel_rfl
theorem Vk:AZ Tryz.prog 220:=by unfold AZ;kernel_rfl
theorem Vl:AZ Tryz.prog 219:=by unfold AZ;kernel_rfl
theorem EY:EA Tryz.prog 38 3:=by unfold EA;exact⟨by kernel_rfl,by kernel_rfl⟩
theorem Vm:AZ Tryz.prog 191:=by unfold AZ;kernel_rfl
theorem QO:AZ Tryz.prog 192:=by unfold AZ;kernel_rfl
theorem G1(b:Nat)(w:World):(Instr.fieldAt 38 (.pointer (some ⟨b,0,none⟩)) 1).run Tryz.prog w=.ok (.pointer (some ⟨b,1,none⟩)) w:=by kernel_rfl
theorem DO:One Tryz.prog 23:=by unfold One;exact⟨by kernel_rfl,by kernel_rfl⟩
theorem MY(b:Nat)(w:World):(Instr.fieldAt 133 (.pointer (some ⟨b,0,none⟩)) 2).run Tryz.prog w=.ok (.pointer (some ⟨b,2,none⟩)) w:=by kernel_rfl
theorem NW:AZ Tryz.prog 165:=by unfold AZ;kernel_rfl
theorem K6(b:Nat)(w:World):(Instr.fieldAt 38 (.pointer (some ⟨b,0,none⟩)) 2).run Tryz.prog w=.ok (.pointer (some ⟨b,2,none⟩)) w:=by kernel_rfl
theorem NB:One Tryz.prog 36:=by unfold One;exact⟨by kernel_rfl,by kernel_rfl⟩
theorem Vn:AZ Tryz.prog 164:=by unfold AZ;kernel_rfl
theorem Vo:AZ Tryz.prog 163:=by unfold AZ;kernel_rfl
theorem Vp:AZ Tryz.prog 166:=by unfold AZ;kernel_rfl
theorem Vq:AZ Tryz.prog 162:=by unfold AZ;kernel_rfl
theorem Vr:AZ Tryz.prog 167:=by unfold AZ;kernel_rfl
theorem QP:AZ Tryz.prog 169:=by unfold AZ;kernel_rfl
theorem Vs:AZ Tryz.prog 179:=by unfold AZ;kernel_rfl
theorem Fb:EA Tryz.prog 182 3:=by unfold EA;exact⟨by kernel_rfl,by kernel_rfl⟩
theorem QQ:AZ Tryz.prog 183:=by unfold AZ;kernel_rfl
theorem Tz:(Tryz.prog.info? 133).bind (·.zero)=some (.agg #[.bool false,I 0,I 0,I 0]):=by kernel_rfl
theorem JD:AZ Tryz.prog 136:=by unfold AZ;kernel_rfl
theorem Vt:AZ Tryz.prog 178:=by unfold AZ;kernel_rfl
theorem NX:AZ Tryz.prog 177:=by unfold AZ;kernel_rfl
theorem QR:AZ Tryz.prog 176:=by unfold AZ;kernel_rfl
theorem JE:(Tryz.prog.info? 182).bind (·.zero)=some (.agg #[I 0,I 0,I 0]):=by kernel_rfl
theorem IX:(Tryz.prog.info? 182).map (·.size)=some 3:=by kernel_rfl
theorem Mx:AZ Tryz.prog 127:=by unfold AZ;kernel_rfl
theorem QS:AZ Tryz.prog 132:=by unfold AZ;kernel_rfl
theorem If:(Tryz.prog.info? 3).map (fun i=>(i.zero,i.size,i.bytes))=some (some (I 0),1,8):=by kernel_rfl
theorem QT:AZ Tryz.prog 133:=by unfold AZ;kernel_rfl
theorem Vu:One Tryz.prog 223:=by unfold One;exact⟨by kernel_rfl,by kernel_rfl⟩
theorem TA(b o:Nat)(w:World):(Instr.fieldAt 131 (.pointer (some ⟨b,o,none⟩)) 0).run Tryz.prog w=.ok (.pointer (some ⟨b,o,none⟩)) w:=by kernel_rfl
theorem QU:AZ Tryz.prog 182:=by unfold AZ;kernel_rfl
theorem MZ:(Tryz.prog.info? 142).bind (·.zero)=some (.nilFunc):=by kernel_rfl
theorem PJ:(Tryz.prog.info? 142).map (·.size)=some 1:=by kernel_rfl
theorem Xp:AZ Tryz.prog 94:=by unfold AZ;kernel_rfl
theorem TB:(Tryz.prog.info? 139).bind (·.zero)=some (.pointer none):=by kernel_rfl
theorem Xq:(Tryz.prog.info? 139).map (·.size)=some 1:=by kernel_rfl
theorem Vv:AZ Tryz.prog 142:=by unfold AZ;kernel_rfl
theorem Il:One Tryz.prog 139:=by unfold One;exact⟨by kernel_rfl,by kernel_rfl⟩
theorem Hh(b:Nat)(w:World):(Instr.fieldAt 191 (.pointer (some ⟨b,0,none⟩)) 1).run Tryz.prog w=.ok (.pointer (some ⟨b,3,none⟩)) w:=by kernel_rfl
theorem IL:One Tryz.prog 189:=by unfold One;exact⟨by kernel_rfl,by kernel_rfl⟩
theorem PK:(Tryz.prog.info? 182).map (fun i=>(i.zero,i.size,i.bytes))=some (some (.agg #[I 0,I 0,I 0]),3,24):=by kernel_rfl
theorem SC:(Tryz.prog.info? 189).map (·.size)=some 1:=by kernel_rfl
theorem Vw:Tryz.prog.eqGuardType Tryz.prog.depth 182=false:=by kernel_rfl
theorem Vx:K2 Tryz.prog 182 3:=Oi Tryz.underlying182 Bp Tryz.underlying3
theorem Vy:AZ Tryz.prog 181:=by unfold AZ;kernel_rfl
theorem PL(b:Nat)(w:World):(Instr.fieldAt 191 (.pointer (some ⟨b,0,none⟩)) 0).run Tryz.prog w=.ok (.pointer (some ⟨b,0,none⟩)) w:=by kernel_rfl
theorem Vz:AZ Tryz.prog 180:=by unfold AZ;kernel_rfl
theorem VA:AZ Tryz.prog 139:=by unfold AZ;kernel_rfl
theorem Xr:AZ Tryz.prog 92:=by unfold AZ;kernel_rfl
theorem VB:AZ Tryz.prog 141:=by unfold AZ;kernel_rfl
theorem K7(b:Nat)(w:World):(Instr.fieldAt 60 (.pointer (some ⟨b,0,none⟩)) 0).run Tryz.prog w=.ok (.pointer (some ⟨b,0,none⟩)) w:=by kernel_rfl
theorem K8(b:Nat)(w:World):(Instr.fieldAt 60 (.pointer (some ⟨b,0,none⟩)) 1).run Tryz.prog w=.ok (.pointer (some ⟨b,1,none⟩)) w:=by kernel_rfl
theorem Jc:AZ Tryz.prog 158:=by unfold AZ;kernel_rfl
theorem Jd:(Tryz.prog.info? 60).bind (·.zero)=some (.agg #[I 0,I 0]):=by kernel_rfl
theorem VC:AZ Tryz.prog 185:=by unfold AZ;kernel_rfl
theorem Ho:(Tryz.prog.info? 60).map (·.size)=some 2:=by kernel_rfl
theorem F1:EA Tryz.prog 60 2:=by unfold EA;exact⟨by kernel_rfl,by kernel_rfl⟩
theorem Im(b:Nat)(w:World):(Instr.fieldAt 53 (.pointer (some ⟨b,0,none⟩)) 0).run Tryz.prog w=.ok (.pointer (some ⟨b,0,none⟩)) w:=by kernel_rfl
theorem PN(b:Nat)(w:World):(Instr.fieldAt 134 (.pointer (some ⟨b,0,none⟩)) 0).run Tryz.prog w=.ok (.pointer (some ⟨b,0,none⟩)) w:=by kernel_rfl
theorem Kh(b:Nat)(w:World):(Instr.fieldAt 53 (.pointer (some ⟨b,0,none⟩)) 2).run Tryz.prog w=.ok (.pointer (some ⟨b,4,none⟩)) w:=by kernel_rfl
theorem KD:One Tryz.prog 49:=by unfold One;exact⟨by kernel_rfl,by kernel_rfl⟩
theorem PO(b:Nat)(w:World):(Instr.fieldAt 134 (.pointer (some ⟨b,0,none⟩)) 1).run Tryz.prog w=.ok (.pointer (some ⟨b,1,none⟩)) w:=by kernel_rfl
theorem DK:EA Tryz.prog 53 7:=by unfold EA;exact⟨by kernel_rfl,by kernel_rfl⟩
theorem PQ(b:Nat)(w:World):(Instr.fieldAt 136 (.pointer (some ⟨b,0,none⟩)) 0).run Tryz.prog w=.ok (.pointer (some ⟨b,0,none⟩)) w:=by kernel_rfl
theorem QV:AZ Tryz.prog 137:=by unfold AZ;kernel_rfl
theorem PR(b:Nat)(w:World):(Instr.fieldAt 136 (.pointer (some ⟨b,0,none⟩)) 1).run Tryz.prog w=.ok (.pointer (some ⟨b,1,none⟩)) w:=by kernel_rfl
theorem VD:AZ Tryz.prog 161:=by unfold AZ;kernel_rfl
theorem VF:One Tryz.prog 220:=by unfold One;exact⟨by kernel_rfl,by kernel_rfl⟩
theorem Mj:EA Tryz.prog 48 2:=by unfold EA;exact⟨by kernel_rfl,by kernel_rfl⟩
theorem LD:(Tryz.prog.info? 48).map (·.size)=some 2:=by kernel_rfl
theorem VG:AZ Tryz.prog 224:=by unfold AZ;kernel_rfl
theorem VH:AZ Tryz.prog 201:=by unfold AZ;kernel_rfl
theorem VI:AZ Tryz.prog 200:=by unfold AZ;kernel_rfl
theorem VJ:One Tryz.prog 177:=by unfold One;exact⟨by kernel_rfl,by kernel_rfl⟩
theorem K9:EA Tryz.prog 134 2:=by unfold EA;exact⟨by kernel_rfl,by kernel_rfl⟩
theorem NC:(Tryz.prog.info? 134).map (·.size)=some 2:=by kernel_rfl
theorem VK:AZ Tryz.prog 202:=by unfold AZ;kernel_rfl
theorem VM:AZ Tryz.prog 173:=by unfold AZ;kernel_rfl
theorem VN:AZ Tryz.prog 172:=by unfold AZ;kernel_rfl
theorem VO:One Tryz.prog 178:=by unfold One;exact⟨by kernel_rfl,by kernel_rfl⟩
theorem NY:EA Tryz.prog 136 3:=by unfold EA;exact⟨by kernel_rfl,by kernel_rfl⟩
theorem Mk:(Tryz.prog.info? 136).map (·.size)=some 3:=by kernel_rfl
theorem VP:AZ Tryz.prog 203:=by unfold AZ;kernel_rfl
theorem VQ:AZ Tryz.prog 175:=by unfold AZ;kernel_rfl
theorem VR:AZ Tryz.prog 174:=by unfold AZ;kernel_rfl
theorem VS:AZ Tryz.prog 188:=by unfold AZ;kernel_rfl
theorem NZ(b:Nat)(w:World):(Instr.fieldAt 48 (.pointer (some ⟨b,0,none⟩)) 0).run Tryz.prog w=.ok (.pointer (some ⟨b,0,none⟩)) w:=by kernel_rfl
theorem N0(b:Nat)(w:World):(Instr.fieldAt 48 (.pointer (some ⟨b,0,none⟩)) 1).run Tryz.prog w=.ok (.pointer (some ⟨b,1,none⟩)) w:=by kernel_rfl
theorem QW:(Tryz.prog.info? 48).bind (·.zero)=some (.agg #[I 0,I 0]):=by kernel_rfl
theorem VT:AZ Tryz.prog 171:=by unfold AZ;kernel_rfl
theorem VU:AZ Tryz.prog 170:=by unfold AZ;kernel_rfl
theorem JF(b:Nat)(w:World):(Instr.fieldAt 53 (.pointer (some ⟨b,0,none⟩)) 3).run Tryz.prog w=.ok (.pointer (some ⟨b,5,none⟩)) w:=by kernel_rfl
theorem KE:One Tryz.prog 50:=by unfold One;exact⟨by kernel_rfl,by kernel_rfl⟩
theorem IM(b:Nat)(w:World):(Instr.fieldAt 53 (.pointer (some ⟨b,0,none⟩)) 4).run Tryz.prog w=.ok (.pointer (some ⟨b,6,none⟩)) w:=by kernel_rfl
theorem KF:One Tryz.prog 51:=by unfold One;exact⟨by kernel_rfl,by kernel_rfl⟩
theorem VV(b:Nat)(w:World):(Instr.fieldAt 53 (.pointer (some ⟨b,0,none⟩)) 1).run Tryz.prog w=.ok (.pointer (some ⟨b,3,none⟩)) w:=by kernel_rfl
theorem VW:AZ Tryz.prog 128:=by unfold AZ;kernel_rfl
theorem VX:AZ Tryz.prog 129:=by unfold AZ;kernel_rfl
theorem VY:AZ Tryz.prog 125:=by unfold AZ;kernel_rfl
theorem VZ:AZ Tryz.prog 130:=by unfold AZ;kernel_rfl
theorem V0:AZ Tryz.prog 126:=by unfold AZ;kernel_rfl
theorem V1:AZ Tryz.prog 131:=by unfold AZ;kernel_rfl
theorem QX:(Tryz.prog.info? 60).map (fun i=>(i.zero,i.size,i.bytes))=some (some (.agg #[I 0,I 0]),2,16):=by kernel_rfl
theorem QY:K2 Tryz.prog 204 2:=Nh 2 Tryz.underlying204 (by kernel_rfl) rfl rfl Bp Tryz.underlying3
theorem PS:O0 Tryz.prog 204 2:=P8 2 Tryz.underlying204 rfl rfl Bp Tryz.underlying3
theorem Oz:Lk Tryz.prog 204:=by unfold Lk;kernel_rfl
theorem YN:(Tryz.prog.info? 3).bind (·.zero)=some (I 0):=by kernel_rfl
theorem LF(b:Nat)(w:World):(Instr.fieldAt 162 (.pointer (some ⟨b,0,none⟩)) 1).run Tryz.prog w=.ok (.pointer (some ⟨b,7,none⟩)) w:=by kernel_rfl
theorem V2(w:World):(Op.equal 31 (.slice none 0 0) (.slice none 0 0)).run Tryz.prog w=.ok true w:=by kernel_rfl
theorem V4(ad:Addr)(n c:Nat)(w:World):(Op.equal 31 (.slice (some ad) n c) (.slice none 0 0)).run Tryz.prog w=.ok false w:=by kernel_rfl
theorem La:AZ Tryz.prog 105:=by unfold AZ;kernel_rfl
theorem ND:One Tryz.prog 55:=by unfold One;exact⟨by kernel_rfl,by kernel_rfl⟩
theorem V5:AZ Tryz.prog 206:=by unfold AZ;kernel_rfl
theorem V6(b o:Nat)(w:World):(Instr.fieldAt 60 (.pointer (some ⟨b,o,none⟩)) 0).run Tryz.prog w=.ok (.pointer (some ⟨b,o,none⟩)) w:=by kernel_rfl
theorem QZ:AZ Tryz.prog 205:=by unfold AZ;kernel_rfl
theorem My:(Tryz.prog.info? 31).bind (·.zero)=some (.slice none 0 0):=by kernel_rfl
theorem LG:(Tryz.prog.info? 155).bind (·.zero)=some (.agg #[I 0,I 0,I 0]):=by kernel_rfl
theorem V7:AZ Tryz.prog 150:=by unfold AZ;kernel_rfl
theorem IN:EA Tryz.prog 155 3:=by unfold EA;exact⟨by kernel_rfl,by kernel_rfl⟩
theorem Lb:(Tryz.prog.info? 155).map (·.size)=some 3:=by kernel_rfl
theorem Q0:AZ Tryz.prog 102:=by unfold AZ;kernel_rfl
theorem KG:(Tryz.prog.info? 152).bind (·.zero)=some (.pointer none):=by kernel_rfl
theorem Ml:(Tryz.prog.info? 152).map (·.size)=some 1:=by kernel_rfl
theorem Q1:AZ Tryz.prog 147:=by unfold AZ;kernel_rfl
theorem V9:AZ Tryz.prog 186:=by unfold AZ;kernel_rfl
theorem Xs:AZ Tryz.prog 79:=by unfold AZ;kernel_rfl
theorem Q2:AZ Tryz.prog 104:=by unfold AZ;kernel_rfl
theorem D6:One Tryz.prog 152:=by unfold One;exact⟨by kernel_rfl,by kernel_rfl⟩
theorem H8(b:Nat)(w:World):(Instr.fieldAt 162 (.pointer (some ⟨b,0,none⟩)) 2).run Tryz.prog w=.ok (.pointer (some ⟨b,8,none⟩)) w:=by kernel_rfl
theorem Je:One Tryz.prog 159:=by unfold One;exact⟨by kernel_rfl,by kernel_rfl⟩
theorem PT:(Tryz.prog.info? 155).map (fun i=>(i.zero,i.size,i.bytes))=some (some (.agg #[I 0,I 0,I 0]),3,24):=by kernel_rfl
theorem SD:(Tryz.prog.info? 159).map (·.size)=some 1:=by kernel_rfl
theorem Wa:Tryz.prog.eqGuardType Tryz.prog.depth 155=false:=by kernel_rfl
theorem Wb:K2 Tryz.prog 155 3:=Oi Tryz.underlying155 Bp Tryz.underlying3
theorem Wc:AZ Tryz.prog 204:=by unfold AZ;kernel_rfl
theorem PU(b o:Nat)(w:World):(Instr.fieldAt 162 (.pointer (some ⟨b,o,none⟩)) 3).run Tryz.prog w=.ok (.pointer (some ⟨b,o+9,none⟩)) w:=by kernel_rfl
theorem Q3:One Tryz.prog 160:=by unfold One;exact⟨by kernel_rfl,by kernel_rfl⟩
theorem Q4:EA Tryz.prog 204 2:=by unfold EA;exact⟨by kernel_rfl,by kernel_rfl⟩
theorem JG(b o:Nat)(w:World):(Instr.fieldAt 162 (.pointer (some ⟨b,o,none⟩)) 0).run Tryz.prog w=.ok (.pointer (some ⟨b,o,none⟩)) w:=by kernel_rfl
theorem Q5(b o:Nat)(w:World):(Instr.fieldAt 53 (.pointer (some ⟨b,o,none⟩)) 2).run Tryz.prog w=.ok (.pointer (some ⟨b,o+4,none⟩)) w:=by kernel_rfl
theorem TD(b:Nat)(w:World):(Instr.fieldAt 204 (.pointer (some ⟨b,0,none⟩)) 1).run Tryz.prog w=.ok (.pointer (some ⟨b,1,none⟩)) w:=by kernel_rfl
theorem ID(b o:Nat)(w:World):(Instr.fieldAt 162 (.pointer (some ⟨b,o,none⟩)) 1).run Tryz.prog w=.ok (.pointer (some ⟨b,o+7,none⟩)) w:=by kernel_rfl
theorem TE(b:Nat)(w:World):(Instr.fieldAt 204 (.pointer (some ⟨b,0,none⟩)) 0).run Tryz.prog w=.ok (.pointer (some ⟨b,0,none⟩)) w:=by kernel_rfl
theorem LH:(Tryz.prog.info? 151).bind (·.zero)=some (.agg #[I 0,I 0,I 0]):=by kernel_rfl
theorem We:AZ Tryz.prog 149:=by unfold AZ;kernel_rfl
theorem Ki:EA Tryz.prog 151 3:=by unfold EA;exact⟨by kernel_rfl,by kernel_rfl⟩
theorem NF:(Tryz.prog.info? 151).map (·.size)=some 3:=by kernel_rfl
theorem TF:(Tryz.prog.info? 136).bind (·.zero)=some (.agg #[I 0,I 0,I 0]):=by kernel_rfl
theorem Q6:AZ Tryz.prog 148:=by unfold AZ;kernel_rfl
theorem TG(b o:Nat)(w:World):(Instr.fieldAt 162 (.pointer (some ⟨b,o,none⟩)) 2).run Tryz.prog w=.ok (.pointer (some ⟨b,o+8,none⟩)) w:=by kernel_rfl
theorem Q7:AZ Tryz.prog 103:=by unfold AZ;kernel_rfl
theorem Q8:AZ Tryz.prog 124:=by unfold AZ;kernel_rfl
theorem PV:(Tryz.prog.info? 4).bind (·.zero)=some (.bool false):=by kernel_rfl
theorem N1:AZ Tryz.prog 151:=by unfold AZ;kernel_rfl
theorem M0:(Tryz.prog.info? 4).map (·.size)=some 1:=by kernel_rfl
theorem N2:AZ Tryz.prog 184:=by unfold AZ;kernel_rfl
theorem SE:AZ Tryz.prog 75:=by unfold AZ;kernel_rfl
theorem Wf:AZ Tryz.prog 101:=by unfold AZ;kernel_rfl
theorem Wg:AZ Tryz.prog 154:=by unfold AZ;kernel_rfl
theorem N3:AZ Tryz.prog 111:=by unfold AZ;kernel_rfl
theorem N4:AZ Tryz.prog 112:=by unfold AZ;kernel_rfl
theorem Wh:One Tryz.prog 164:=by unfold One;exact⟨by kernel_rfl,by kernel_rfl⟩
theorem Q9:AZ Tryz.prog 152:=by unfold AZ;kernel_rfl
theorem Kj:AZ Tryz.prog 106:=by unfold AZ;kernel_rfl
theorem PW:(Tryz.prog.info? 3).bind (·.zero)=some (I 0):=by kernel_rfl
theorem Wi:AZ Tryz.prog 108:=by unfold AZ;kernel_rfl
theorem Ra:AZ Tryz.prog 107:=by unfold AZ;kernel_rfl
theorem Wj:AZ Tryz.prog 157:=by unfold AZ;kernel_rfl
theorem Wk:AZ Tryz.prog 156:=by unfold AZ;kernel_rfl
theorem Wl(b o:Nat)(w:World):(Instr.fieldAt 53 (.pointer (some ⟨b,o,none⟩)) 1).run Tryz.prog w=.ok (.pointer (some ⟨b,o+3,none⟩)) w:=by kernel_rfl
theorem Wm:AZ Tryz.prog 153:=by unfold AZ;kernel_rfl
theorem Wn:AZ Tryz.prog 117:=by unfold AZ;kernel_rfl
theorem N5:AZ Tryz.prog 109:=by unfold AZ;kernel_rfl
theorem Xt:AZ Tryz.prog 50:=by unfold AZ;kernel_rfl
theorem Rb(a:Value)(x1:Value)(w:World):(Instr.field 60 (.agg #[a,x1]) 0).run Tryz.prog w=.ok (a) w:=by kernel_rfl
theorem N6:One Tryz.prog 166:=by unfold One;exact⟨by kernel_rfl,by kernel_rfl⟩
theorem N7:AZ Tryz.prog 110:=by unfold AZ;kernel_rfl
theorem TH:(Tryz.prog.info? 166).bind (·.zero)=some (.nilFunc):=by kernel_rfl
theorem Xu:(Tryz.prog.info? 166).map (·.size)=some 1:=by kernel_rfl
theorem Wo:AZ Tryz.prog 159:=by unfold AZ;kernel_rfl
theorem Wp:AZ Tryz.prog 160:=by unfold AZ;kernel_rfl
theorem Wq(b o:Nat)(w:World):(Instr.fieldAt 48 (.pointer (some ⟨b,o,none⟩)) 0).run Tryz.prog w=.ok (.pointer (some ⟨b,o,none⟩)) w:=by kernel_rfl
theorem Wr(b o:Nat)(w:World):(Instr.fieldAt 53 (.pointer (some ⟨b,o,none⟩)) 3).run Tryz.prog w=.ok (.pointer (some ⟨b,o+5,none⟩)) w:=by kernel_rfl
theorem TI:(Tryz.prog.info? 134).bind (·.zero)=some (.agg #[I 0,I 0]):=by kernel_rfl
theorem Rc:AZ Tryz.prog 138:=by unfold AZ;kernel_rfl
theorem Re:(Tryz.prog.info? 31).map (fun i=>(i.zero,i.size,i.bytes))=some (some (.slice none 0 0),1,24):=by kernel_rfl
theorem Rf:AZ Tryz.prog 135:=by unfold AZ;kernel_rfl
theorem Rg:AZ Tryz.prog 134:=by unfold AZ;kernel_rfl
theorem Ws:(Tryz.prog.info? 23).bind (·.zero)=some (.slice none 0 0):=by kernel_rfl
theorem Un:(Tryz.prog.info? 23).map (·.size)=some 1:=by kernel_rfl
theorem Rh:One Tryz.prog 199:=by unfold One;exact⟨by kernel_rfl,by kernel_rfl⟩
theorem Ri:AZ Tryz.prog 155:=by unfold AZ;kernel_rfl
theorem TJ:(Tryz.prog.info? 199).bind (·.zero)=some (.nilFunc):=by kernel_rfl
theorem Xv:(Tryz.prog.info? 199).map (·.size)=some 1:=by kernel_rfl
theorem TK(b:Nat)(w:World):(Instr.fieldAt 174 (.pointer (some ⟨b,0,none⟩)) 0).run Tryz.prog w=.ok (.pointer (some ⟨b,0,none⟩)) w:=by kernel_rfl
theorem Wt:One Tryz.prog 172:=by unfold One;exact⟨by kernel_rfl,by kernel_rfl⟩
theorem Wu:AZ Tryz.prog 121:=by unfold AZ;kernel_rfl
theorem TL:(Tryz.prog.info? 174).bind (·.zero)=some (.agg #[.nilFunc]):=by kernel_rfl
theorem Xw:(Tryz.prog.info? 174).map (·.size)=some 1:=by kernel_rfl
theorem Wv:AZ Tryz.prog 122:=by unfold AZ;kernel_rfl
theorem Rj:AZ Tryz.prog 113:=by unfold AZ;kernel_rfl
theorem TM(b:Nat)(w:World):(Instr.fieldAt 162 (.pointer (some ⟨b,0,none⟩)) 0).run Tryz.prog w=.ok (.pointer (some ⟨b,0,none⟩)) w:=by kernel_rfl
theorem Uo:(Tryz.prog.info? 51).map (·.size)=some 1:=by kernel_rfl
theorem Lc(b:Nat)(w:World):(Instr.fieldAt 44 (.pointer (some ⟨b,0,none⟩)) 0).run Tryz.prog w=.ok (.pointer (some ⟨b,0,none⟩)) w:=by kernel_rfl
theorem Ld(b:Nat)(w:World):(Instr.fieldAt 44 (.pointer (some ⟨b,0,none⟩)) 1).run Tryz.prog w=.ok (.pointer (some ⟨b,1,none⟩)) w:=by kernel_rfl
theorem Gd:AZ Tryz.prog 29:=by unfold AZ;kernel_rfl
theorem HR(b:Nat)(w:World):(Instr.fieldAt 26 (.pointer (some ⟨b,0,none⟩)) 0).run Tryz.prog w=.ok (.pointer (some ⟨b,0,none⟩)) w:=by kernel_rfl
theorem IE:One Tryz.prog 22:=by unfold One;exact⟨by kernel_rfl,by kernel_rfl⟩
theorem RK:(Tryz.prog.info? 44).map (·.size)=some 2:=by kernel_rfl
theorem JV:EA Tryz.prog 44 2:=by unfold EA;exact⟨by kernel_rfl,by kernel_rfl⟩
theorem Ww:AZ Tryz.prog 118:=by unfold AZ;kernel_rfl
theorem F5(b:Nat)(w:World):(Instr.fieldAt 26 (.pointer (some ⟨b,0,none⟩)) 1).run Tryz.prog w=.ok (.pointer (some ⟨b,1,none⟩)) w:=by kernel_rfl
theorem Kk(b:Nat)(w:World):(Instr.fieldAt 26 (.pointer (some ⟨b,0,none⟩)) 2).run Tryz.prog w=.ok (.pointer (some ⟨b,2,none⟩)) w:=by kernel_rfl
theorem Le:One Tryz.prog 24:=by unfold One;exact⟨by kernel_rfl,by kernel_rfl⟩
theorem NG:AZ Tryz.prog 90:=by unfold AZ;kernel_rfl
theorem Js:EA Tryz.prog 26 3:=by unfold EA;exact⟨by kernel_rfl,by kernel_rfl⟩
theorem SF:AZ Tryz.prog 91:=by unfold AZ;kernel_rfl
theorem SG:AZ Tryz.prog 35:=by unfold AZ;kernel_rfl
theorem OL:(Tryz.prog.info? 46).map (·.size)=some 4:=by kernel_rfl
theorem SH:EA Tryz.prog 46 4:=by unfold EA;exact⟨by kernel_rfl,by kernel_rfl⟩
theorem Rk:(Tryz.prog.info? 46).bind (·.zero)=some (.agg #[.bool false,I 0,I 0,I 0]):=by kernel_rfl
theorem Rl(b:Nat)(w:World):(Instr.fieldAt 46 (.pointer (some ⟨b,0,none⟩)) 0).run Tryz.prog w=.ok (.pointer (some ⟨b,0,none⟩)) w:=by kernel_rfl
theorem N8(b:Nat)(w:World):(Instr.fieldAt 46 (.pointer (some ⟨b,0,none⟩)) 1).run Tryz.prog w=.ok (.pointer (some ⟨b,1,none⟩)) w:=by kernel_rfl
theorem N9(b:Nat)(w:World):(Instr.fieldAt 46 (.pointer (some ⟨b,0,none⟩)) 2).run Tryz.prog w=.ok (.pointer (some ⟨b,2,none⟩)) w:=by kernel_rfl
theorem SI:AZ Tryz.prog 59:=by unfold AZ;kernel_rfl
theorem IP(b:Nat)(w:World):(Instr.fieldAt 67 (.pointer (some ⟨b,0,none⟩)) 0).run Tryz.prog w=.ok (.pointer (some ⟨b,0,none⟩)) w:=by kernel_rfl
theorem GM(b:Nat)(w:World):(Instr.fieldAt 67 (.pointer (some ⟨b,0,none⟩)) 2).run Tryz.prog w=.ok (.pointer (some ⟨b,4,none⟩)) w:=by kernel_rfl
theorem HD:One Tryz.prog 63:=by unfold One;exact⟨by kernel_rfl,by kernel_rfl⟩
theorem JW:(Tryz.prog.info? 128).map (·.size)=some 2:=by kernel_rfl
theorem LI(b o:Nat)(w:World):(Instr.fieldAt 128 (.pointer (some ⟨b,o,none⟩)) 0).run Tryz.prog w=.ok (.pointer (some ⟨b,o,none⟩)) w:=by kernel_rfl
theorem PX(b o:Nat)(w:World):(Instr.fieldAt 128 (.pointer (some ⟨b,o,none⟩)) 1).run Tryz.prog w=.ok (.pointer (some ⟨b,o+1,none⟩)) w:=by kernel_rfl
theorem JX:EA Tryz.prog 67 7:=by unfold EA;exact⟨by kernel_rfl,by kernel_rfl⟩
theorem Xx:AZ Tryz.prog 56:=by unfold AZ;kernel_rfl
theorem Io(b:Nat)(w:World):(Instr.fieldAt 67 (.pointer (some ⟨b,0,none⟩)) 4).run Tryz.prog w=.ok (.pointer (some ⟨b,6,none⟩)) w:=by kernel_rfl
theorem Jt:One Tryz.prog 65:=by unfold One;exact⟨by kernel_rfl,by kernel_rfl⟩
theorem Mm:(Tryz.prog.info? 121).map (·.size)=some 3:=by kernel_rfl
theorem PY(b o:Nat)(w:World):(Instr.fieldAt 121 (.pointer (some ⟨b,o,none⟩)) 1).run Tryz.prog w=.ok (.pointer (some ⟨b,o+1,none⟩)) w:=by kernel_rfl
theorem M3(b o:Nat)(w:World):(Instr.fieldAt 121 (.pointer (some ⟨b,o,none⟩)) 0).run Tryz.prog w=.ok (.pointer (some ⟨b,o,none⟩)) w:=by kernel_rfl
theorem Rm(b:Nat)(w:World):(Instr.fieldAt 67 (.pointer (some ⟨b,0,none⟩)) 1).run Tryz.prog w=.ok (.pointer (some ⟨b,3,none⟩)) w:=by kernel_rfl
theorem G2(b:Nat)(w:World):(Instr.fieldAt 67 (.pointer (some ⟨b,0,none⟩)) 3).run Tryz.prog w=.ok (.pointer (some ⟨b,5,none⟩)) w:=by kernel_rfl
theorem Ig:One Tryz.prog 64:=by unfold One;exact⟨by kernel_rfl,by kernel_rfl⟩
theorem KH:(Tryz.prog.info? 126).map (·.size)=some 2:=by kernel_rfl
theorem Rn:EA Tryz.prog 126 2:=by unfold EA;exact⟨by kernel_rfl,by kernel_rfl⟩
theorem TN:(Tryz.prog.info? 126).bind (·.zero)=some (.agg #[I 0,I 0]):=by kernel_rfl
theorem TO(b:Nat)(w:World):(Instr.fieldAt 126 (.pointer (some ⟨b,0,none⟩)) 0).run Tryz.prog w=.ok (.pointer (some ⟨b,0,none⟩)) w:=by kernel_rfl
theorem TP(b:Nat)(w:World):(Instr.fieldAt 126 (.pointer (some ⟨b,0,none⟩)) 1).run Tryz.prog w=.ok (.pointer (some ⟨b,1,none⟩)) w:=by kernel_rfl
theorem SJ:AZ Tryz.prog 24:=by unfold AZ;kernel_rfl
theorem Wx:EA Tryz.prog 128 2:=by unfold EA;exact⟨by kernel_rfl,by kernel_rfl⟩
theorem TQ:(Tryz.prog.info? 128).bind (·.zero)=some (.agg #[I 0,I 0]):=by kernel_rfl
theorem I7(b:Nat)(w:World):(Instr.fieldAt 128 (.pointer (some ⟨b,0,none⟩)) 0).run Tryz.prog w=.ok (.pointer (some ⟨b,0,none⟩)) w:=by kernel_rfl
theorem KI(b:Nat)(w:World):(Instr.fieldAt 128 (.pointer (some ⟨b,0,none⟩)) 1).run Tryz.prog w=.ok (.pointer (some ⟨b,1,none⟩)) w:=by kernel_rfl
theorem M4(b o:Nat)(w:World):(Instr.fieldAt 126 (.pointer (some ⟨b,o,none⟩)) 0).run Tryz.prog w=.ok (.pointer (some ⟨b,o,none⟩)) w:=by kernel_rfl
theorem PZ(b o:Nat)(w:World):(Instr.fieldAt 126 (.pointer (some ⟨b,o,none⟩)) 1).run Tryz.prog w=.ok (.pointer (some ⟨b,o+1,none⟩)) w:=by kernel_rfl
theorem Oa:(Tryz.prog.info? 38).bind (·.zero)=some (.agg #[.slice none 0 0,.slice none 0 0,.slice none 0 0]):=by kernel_rfl
theorem SK:AZ Tryz.prog 98:=by unfold AZ;kernel_rfl
theorem TR:(Tryz.prog.info? 131).map (fun i=>(i.zero,i.size,i.bytes))=some (some (.agg #[I 0,I 0]),2,16):=by kernel_rfl
theorem Ym:(Tryz.prog.info? 35).map (·.size)=some 1:=by kernel_rfl
theorem Xy:AZ Tryz.prog 99:=by unfold AZ;kernel_rfl
theorem TS:(Tryz.prog.info? 133).map (fun i=>(i.zero,i.size,i.bytes))=some (some (.agg #[.bool false,I 0,I 0,I 0]),4,32):=by kernel_rfl
theorem Yn:(Tryz.prog.info? 36).map (·.size)=some 1:=by kernel_rfl
theorem Up:(Tryz.prog.info? 38).map (·.size)=some 3:=by kernel_rfl
theorem Ob:(Tryz.prog.info? 53).bind (·.zero)=some (.agg #[.slice none 0 0,.slice none 0 0,.slice none 0 0,I 0,.slice none 0 0,.slice none 0 0,.slice none 0 0]):=by kernel_rfl
theorem SL:AZ Tryz.prog 27:=by unfold AZ;kernel_rfl
theorem RL:(Tryz.prog.info? 53).map (·.size)=some 7:=by kernel_rfl
theorem Wy:(Tryz.prog.info? 48).map (fun i=>(i.zero,i.size,i.bytes))=some (some (.agg #[I 0,I 0]),2,16):=by kernel_rfl
theorem Yo:(Tryz.prog.info? 49).map (·.size)=some 1:=by kernel_rfl
theorem TU:(Tryz.prog.info? 134).map (fun i=>(i.zero,i.size,i.bytes))=some (some (.agg #[I 0,I 0]),2,16):=by kernel_rfl
theorem Yp:(Tryz.prog.info? 50).map (·.size)=some 1:=by kernel_rfl
theorem Xz:AZ Tryz.prog 66:=by unfold AZ;kernel_rfl
theorem TV:(Tryz.prog.info? 136).map (fun i=>(i.zero,i.size,i.bytes))=some (some (.agg #[I 0,I 0,I 0]),3,24):=by kernel_rfl
theorem XA:AZ Tryz.prog 23:=by unfold AZ;kernel_rfl
theorem Wz:AZ Tryz.prog 116:=by unfold AZ;kernel_rfl
theorem Mn:AZ Tryz.prog 57:=by unfold AZ;kernel_rfl
theorem XB:AZ Tryz.prog 36:=by unfold AZ;kernel_rfl
theorem WA:(Tryz.prog.info? 67).bind (·.zero)=some (.agg #[.slice none 0 0,.slice none 0 0,.slice none 0 0,I 0,.slice none 0 0,.slice none 0 0,.slice none 0 0]):=by kernel_rfl
theorem Yq:(Tryz.prog.info? 67).map (·.size)=some 7:=by kernel_rfl
theorem Yr:(Tryz.prog.info? 65).map (·.size)=some 1:=by kernel_rfl
theorem XC:(Tryz.prog.underlying 5).isSome=true:=by kernel_rfl
theorem JY:AZ Tryz.prog 88:=by unfold AZ;kernel_rfl
theorem XD:AZ Tryz.prog 32:=by unfold AZ;kernel_rfl
theorem XE:AZ Tryz.prog 33:=by unfold AZ;kernel_rfl
theorem XF:AZ Tryz.prog 34:=by unfold AZ;kernel_rfl
theorem SM:AZ Tryz.prog 81:=by unfold AZ;kernel_rfl
theorem XG:AZ Tryz.prog 69:=by unfold AZ;kernel_rfl
theorem XH:AZ Tryz.prog 42:=by unfold AZ;kernel_rfl
theorem XI:AZ Tryz.prog 43:=by unfold AZ;kernel_rfl
theorem Mo:AZ Tryz.prog 41:=by unfold AZ;kernel_rfl
theorem P0:Tryz.prog.eqGuardType Tryz.prog.depth 60=false:=by kernel_rfl
theorem P1:K2 Tryz.prog 60 2:=Nh 2 Tryz.underlying60 (by kernel_rfl) rfl rfl Bp Tryz.underlying3
theorem Lf:AZ Tryz.prog 37:=by unfold AZ;kernel_rfl
theorem P2:AZ Tryz.prog 38:=by unfold AZ;kernel_rfl
theorem Uq:∀(b c:Bool) (w:World),(Op.equal 4 (.bool b) (.bool c)).run Tryz.prog w=.ok (b==c) w:=by intro b c w;cases b<;>cases c<;>kernel_rfl
theorem SN:AZ Tryz.prog 82:=by unfold AZ;kernel_rfl
theorem XJ:AZ Tryz.prog 48:=by unfold AZ;kernel_rfl
theorem Ys:(Tryz.prog.info? 64).map (·.size)=some 1:=by kernel_rfl
theorem XK:AZ Tryz.prog 89:=by unfold AZ;kernel_rfl
end HF
end Go.Proofs.YtbhofkcbfblijaaGreat
end
section
namespace Go.Proofs.YtbhofkcbfblijaaGreat
open Go.RowKit Go.WideShapes
set_option maxRecDepth 20000
open HF
attribute [local irreducible] Ce WL CC CW LV BN GN EA One AZ
theorem Oc l b d e(Z:Nat→Prop) w k(c:EZ l b d e=some k):
 BN Tryz.prog 140 #[I b,I d,I e] w (fun v w'=>Ext w w'∧Bw.R w' (zf Z w []) v k):=by
 unfold EZ at c;refine rq (N:=15) Tryz.func140 fun m g n=>?_;have f:=sA 0 g;have i:=sA 1 g;have j:=sA 2 g;clear g;have h:Hp FN [] w [] w:=Hp.start (By.none w);refine cr<|wA (v:=.bool false) rfl<|wr<|wM (v:=I d) i<|wM (v:=I b) f<|wD (fun st=>GW (eR st) (eR st))<|wM (v:=.bool (decide (d≤b))) rfl ?_;rcases Ae (decide (d≤b)) with a|a
 ·replace c:=Au c a;refine wN a (v:=I b) f<|wN a (v:=I e) j<|wG a (fun st=>GW (eR st) (eR st))<|wD (fun st=>Be (v:=.bool (decide (b≤e))) (eR st) a (eR st))<|wA (v:=.bool (decide (b≤e))) rfl<|wn<|Al ?_;obtain rfl:=oi c;refine Ax rfl rfl ?_;exact⟨h.Bg,rfl⟩
 ·replace c:=Av c a;refine wF a<|wF a<|wF a<|wD (fun st=>BB (v:=.bool false) (eR st) a (eR st))<|wA (v:=.bool false) rfl<|wn<|Al ?_;obtain rfl:=oi c;refine Ax rfl rfl ?_;exact⟨h.Bg,rfl⟩
theorem TW l b(Z:Nat→Prop) w i(d:EH l b=some i):
 BN Tryz.prog 165 #[.agg #[I b.Lo,I b.Hi]] w (fun v w'=>Ext w w'∧Bw.R w' (zf Z w []) v i):=by
 unfold EH at d;refine rq (N:=18) Tryz.func165 fun m j n=>?_;have h:=sA 0 j;clear j;have g:Hp FN [] w [] w:=Hp.start (By.none w);refine cr<|wE (fun st=>BI (v:=.agg #[I b.Lo,I b.Hi]) (cs:= #[I b.Lo,I b.Hi]) (ee st h) rfl) ?_;rintro _ w1 ⟨o,rfl,e⟩;have f:=g.nb e;have k:=g.BD e;refine wA (v:=.bool false) rfl<|wr<|wD (fun st=>Ac (eR st) (JB _ _))<|wD (fun st=>Af (v:=I b.Lo) Bp (eR st) e.bk rfl)<|wD (fun st=>GW (eR st) (eR st))<|wM (v:=.bool (decide ((0:Int)≤b.Lo))) rfl ?_;rcases Ae (decide ((0:Int)≤b.Lo)) with a|a
 ·replace d:=Au d a;refine wG a (fun st=>Ac (eR st) (JB _ _))<|wG a (fun st=>Af (v:=I b.Lo) Bp (eR st) e.bk rfl)<|wG a (fun st=>Ac (eR st) (JC _ _))<|wG a (fun st=>Af (v:=I b.Hi) Bp (eR st) e.bk rfl)<|wG a (fun st=>GW (eR st) (eR st))<|wD (fun st=>Be (v:=.bool (decide (b.Lo≤b.Hi))) (eR st) a (eR st))<|wM (v:=.bool (decide (b.Lo≤b.Hi))) rfl ?_;rcases Ae (decide (b.Lo≤b.Hi)) with c|c
  ·replace d:=Au d c;refine wG c (fun st=>Ac (eR st) (JC _ _))<|wG c (fun st=>Af (v:=I b.Hi) Bp (eR st) e.bk rfl)<|wG c (fun st=>GW (eR st) (eR st))<|wD (fun st=>Be (v:=.bool (decide (b.Hi≤100))) (eR st) c (eR st))<|wA (v:=.bool (decide (b.Hi≤100))) rfl<|wn<|Al ?_;obtain rfl:=oi d;refine Ax rfl rfl ?_;exact⟨f.Bg,rfl⟩
  ·replace d:=Av d c;refine wF c<|wF c<|wF c<|wD (fun st=>BB (v:=.bool false) (eR st) c (eR st))<|wA (v:=.bool false) rfl<|wn<|Al ?_;obtain rfl:=oi d;refine Ax rfl rfl ?_;exact⟨f.Bg,rfl⟩
 ·replace d:=Av d a;refine wF a<|wF a<|wF a<|wF a<|wF a<|wD (fun st=>BB (v:=.bool false) (eR st) a (eR st))<|wM (v:=.bool false) rfl<|wH<|wH<|wH<|wD (fun st=>BB (v:=.bool false) (eR st) rfl (eR st))<|wA (v:=.bool false) rfl<|wn<|Al ?_;obtain rfl:=oi d;refine Ax rfl rfl ?_;exact⟨f.Bg,rfl⟩
theorem XL l a(Z:Nat→Prop) w f(b:GS l a=some f):
 BN Tryz.prog 169 #[.agg #[I a.Lo,I a.Hi]] w (fun v w'=>Ext w w'∧(Dq .i64).R w' (zf Z w []) v f):=by
 unfold GS at b;refine rq (N:=9) Tryz.func169 fun m g n=>?_;have e:=sA 0 g;clear g;have d:Hp FN [] w [] w:=Hp.start (By.none w);refine cr<|wE (fun st=>BI (v:=.agg #[I a.Lo,I a.Hi]) (cs:= #[I a.Lo,I a.Hi]) (ee st e) rfl) ?_;rintro _ w1 ⟨o,rfl,c⟩;have h:=d.nb c;have k:=d.BD c;refine wA (v:=I 0) rfl<|wr<|wD (fun st=>Ac (eR st) (JC _ _))<|wD (fun st=>Af (v:=I a.Hi) Bp (eR st) c.bk rfl)<|wD (fun st=>Ac (eR st) (JB _ _))<|wD (fun st=>Af (v:=I a.Lo) Bp (eR st) c.bk rfl) ?_;replace b:=AY b;obtain⟨i,b⟩:=b;refine wD (fun st=>FK (eR st) (eR st) i) ?_;replace b:=AY b;obtain⟨j,b⟩:=b;refine wD (fun st=>BX (eR st) (eR st) j)<|wA (v:=I ((a.Hi-a.Lo)+1)) rfl<|wn<|Al ?_;obtain rfl:=oi b;refine Ax rfl rfl ?_;exact⟨h.Bg,rfl⟩
theorem XM i a d(Z:Nat→Prop) w j(c:ET i a d=some j):
 BN Tryz.prog 176 #[.agg #[I a.Lo,I a.Hi],I d] w (fun v w'=>Ext w w'∧Bw.R w' (zf Z w []) v j):=by
 unfold ET at c;refine rq (N:=11) Tryz.func176 fun q f r=>?_;have g:=sA 0 f;have h:=sA 1 f;clear f;have e:Hp FN [] w [] w:=Hp.start (By.none w);refine cr<|wE (fun st=>BI (v:=.agg #[I a.Lo,I a.Hi]) (cs:= #[I a.Lo,I a.Hi]) (ee st g) rfl) ?_;rintro _ w1 ⟨s,rfl,b⟩;have k:=e.nb b;have p:=e.BD b;refine wA (v:=.bool false) rfl<|wr<|wM (v:=I d) h<|wD (fun st=>Ac (eR st) (JB _ _))<|wD (fun st=>Af (v:=I a.Lo) Bp (eR st) b.bk rfl)<|wD (fun st=>Ac (eR st) (JC _ _))<|wD (fun st=>Af (v:=I a.Hi) Bp (eR st) b.bk rfl) ?_;replace c:=bind_some c;obtain⟨l,m,c⟩:=c;refine wE (fun st=>Ar Kg (eR st) (EG (eR st) (eR st) (eR st)) (Oc i d a.Lo a.Hi ZA _ l m)) ?_;rintro _ t ⟨n,rfl⟩;have o:=k.ext n;refine wA (v:=.bool l) rfl<|wn<|Al ?_;obtain rfl:=oi c;refine Ax rfl rfl ?_;exact⟨o.Bg,rfl⟩
theorem YO d b(Z:Nat→Prop) w e(a:H9 d b=some e):
 BN Tryz.prog 220 #[I b] w (fun v w'=>Ext w w'∧Bw.R w' (zf Z w []) v e):=by
 unfold H9 at a;refine rq (N:=5) Tryz.func220 fun l f m=>?_;have c:=sA 0 f;clear f;have g:Hp FN [] w [] w:=Hp.start (By.none w);refine cr<|wA (v:=.bool false) rfl<|wr<|wM (v:=I b) c ?_;replace a:=bind_some a;obtain⟨h,i,a⟩:=a;refine wE (fun st=>Ar Kg (eR st) (EG (eR st) (eR st) (eR st)) (Oc d b 0 30 ZA _ h i)) ?_;rintro _ w2 ⟨j,rfl⟩;have k:=g.ext j;refine wA (v:=.bool h) rfl<|wn<|Al ?_;obtain rfl:=oi a;refine Ax rfl rfl ?_;exact⟨k.Bg,rfl⟩
theorem XN aA i f g(Z:Nat→Prop) w(r:Sl (Am .i64) w Z f g i) aB(a:IH aA i=some aB):
 BN Tryz.prog 192 #[.slice f i.length g] w (fun v w'=>Ext w w'∧(Dq .i64).R w' (zf Z w []) v aB):=by
 unfold IH at a;refine rq (N:=16) Tryz.func192 fun aR aC aS=>?_;have u:=sA 0 aC;clear aC;have aD:Hp FN [] w [] w:=Hp.start (By.none w);have o:=r.mv (BM (Z:=Z) (L:=[]) w);refine cr<|wA (v:=I 0) rfl<|wn<|Ag<|cr<|wM (v:=.slice f i.length g) u<|wD (fun st=>Bx Tryz.underlying31 (eR st))<|wM (v:=I 0) rfl<|wn<|AQ ?_;replace a:=bind_some a;obtain⟨s,e,a⟩:=a;refine B7 (fun aE d x=>(aE=.exit 0∧Fo X0 16 d∧sl d 2=I s∧w=x)) ?aF ?aG
 case aF=>
  clear a;refine B6 (fun y d x=>∃b,∃c,E0 i y b c=some s∧Fo X0 16 d∧sl d 2=I b∧sl d 5=.slice f i.length g∧sl d 6=I (i.length:Int)∧sl d 7=I c∧w=x) aA ?aH ?aI
  case aH=>
   intro st;exact⟨(0:Int),(0:Int),e,qo st,sp st 2 rfl,sp st 5 rfl,sp st 6 rfl,sp st 7 rfl,rfl⟩
  case aI=>
   rintro(_|y) aT _ ⟨b,c,e,z,l,m,n,h,rfl⟩
   ·exact absurd (show none=some _ from e) (by simp)
   rw[E0.eq_2] at e;have a:=e;clear e;refine ro z<|cr<|wD (fun st=>CA (ee st h) (ee st n))<|wn<|Ag ?_;rcases Ae (decide (c<(i.length:Int))) with j|j
   ·replace a:=Au a j;refine Ai rfl j<|cn<|Ag<|AQ<|Ag<|Aq ?_;replace a:=Bo a;obtain⟨i3,p,aJ,aK,aL,a⟩:=a;obtain⟨aU,aV,_,aM,rfl,aN⟩:=Sl.DP o rfl aK;refine wD (fun st=>B3 (k:=i3) Tryz.underlying31 DG (ee st m) aM (ee st h) aJ aL)<|wD (fun st=>B2 (v:=I p) Bp (eR st) aN rfl)<|wA (v:=I p) rfl<|wn<|Aq<|wM (v:=I b) l<|wM (v:=I p) rfl ?_;replace a:=AY a;obtain⟨aO,a⟩:=a;refine wD (fun st=>BX (eR st) (eR st) aO)<|wA (v:=I (b+p)) rfl<|Bs<|Dt<|Aq ?_;replace a:=AY a;obtain⟨aP,a⟩:=a;refine wD (fun st=>BX (ee st h) (eR st) aP)<|wM (v:=I (c+1)) rfl<|Bs ?_;refine BJ y (Nat.lt_succ_self _) (fun st=>?_);exact⟨(b+p),(c+1),a,qo st,sp st 2 rfl,sp st 5 m,sp st 6 n,sp st 7 rfl,rfl⟩
   ·replace a:=Av a j;refine Aw rfl j<|D9 ?_;obtain rfl:=oi a;refine BO (fun st=>?_);exact⟨rfl,qo st,sp st 2 l,rfl⟩
 case aG=>
  rintro aE aQ _ (⟨rfl,t,q,rfl⟩);refine lf t<|Bm<|BU<|cr<|wM (v:=I s) q<|wA (v:=I s) rfl<|wn<|Al ?_;obtain rfl:=oi a;refine Ax rfl rfl ?_;exact⟨aD.Bg,rfl⟩
theorem YP aF f a b c g h i j(Z:Nat→Prop) w(m:Sl Ay w Z b c f.Ap)(n:Sl (BL (Am .i64)) w Z g h f.AP)(o:Sl AI w Z i j f.AO) aB(d:F9 aF f a=some aB):
 BN Tryz.prog 178 #[.agg (AR b c g h i j f).toArray,.agg #[.bool a.BS,I a.Number,I a.Bq,I a.Br]] w (fun v w'=>Ext w w'∧(Dq .i64).R w' (zf Z w []) v aB):=by
 unfold F9 at d;refine rq (N:=15) Tryz.func178 fun aG t aH=>?_;have u:=sA 0 t;have x:=sA 1 t;clear t;have q:Hp FN [] w [] w:=Hp.start (By.none w);have ⟨y,z,aA⟩:=DH m n o (BM (Z:=Z) (L:=[]) w);refine cr<|wE (fun st=>BI (v:=.agg (AR b c g h i j f).toArray) (cs:=(AR b c g h i j f).toArray) (ee st u) rfl) ?_;rintro _ w1 ⟨aI,rfl,l⟩;have r:=q.nb l;have aD:=q.BD l;refine wE (fun st=>BI (v:=.agg #[.bool a.BS,I a.Number,I a.Bq,I a.Br]) (cs:= #[.bool a.BS,I a.Number,I a.Bq,I a.Br]) (ee st x) rfl) ?_;rintro _ w2 ⟨aJ,rfl,e⟩;have s:=r.nb e;have aE:=r.BD e;refine wA (v:=I 0) rfl<|wn<|Ag<|cr<|wD (fun st=>Ac (eR st) (PH _ _))<|wD (fun st=>Af (v:=.bool a.BS) JM (eR st) e.bk rfl)<|wn ?_;rcases Ae (a.BS) with k|k
 ·replace d:=Au d k;refine Ai rfl k<|cr<|wD (fun st=>Ac (eR st) (Fu _ _)) ?_;have p:=(l.bk.ext e.gr);refine wD (fun st=>Af (v:=.slice b f.Ap.length c) GD (eR st) p rfl)<|wD (fun st=>Bx Tryz.underlying35 (eR st))<|wD (fun st=>Ac (eR st) (LC _ _))<|wD (fun st=>Af (v:=I a.Number) Bp (eR st) e.bk rfl) ?_;replace d:=AY d;obtain⟨aC,d⟩:=d;refine wD (fun st=>BX (eR st) (eR st) aC)<|wA (v:=I ((f.Ap.length:Int)+a.Number)) rfl<|wn<|Al<|AG ?_;obtain rfl:=oi d;refine Ax rfl rfl ?_;exact⟨s.Bg,rfl⟩
 ·replace d:=Av d k;refine Aw rfl k<|cn<|cr<|wD (fun st=>Ac (eR st) (LC _ _))<|wD (fun st=>Af (v:=I a.Number) Bp (eR st) e.bk rfl)<|wA (v:=I a.Number) rfl<|wn<|Al ?_;obtain rfl:=oi d;refine Ax rfl rfl ?_;exact⟨s.Bg,rfl⟩
theorem XO z f c d(Z:Nat→Prop) w(r:Sl (Am .i64) w Z c d f) aA(a:Gf z f=some aA):
 BN Tryz.prog 199 #[.slice c f.length d] w (fun v w'=>Ext w w'∧(Dq .i64).R w' (zf Z w []) v aA):=by
 unfold Gf at a;refine rq (N:=25) Tryz.func199 fun aU aB aV=>?_;have o:=sA 0 aB;clear aB;have aC:Hp FN [] w [] w:=Hp.start (By.none w);have h:=r.mv (BM (Z:=Z) (L:=[]) w);refine cr<|wA (v:=I 0) rfl<|wn<|Ag<|cr<|wM (v:=.slice c f.length d) o<|wD (fun st=>Bx Tryz.underlying31 (eR st))<|wD (fun st=>CA (eR st) (eR st))<|wn ?_;rcases Ae (decide ((f.length:Int)<1)) with m|m
 ·replace a:=Au a m;refine Ai rfl m ?_;exact absurd a (by simp)
 ·replace a:=Av a m;refine Aw rfl m<|cn<|cr<|wM (v:=.slice c f.length d) o ?_;replace a:=Bo a;obtain⟨i2,x2,aD,aE,aF,a⟩:=a;obtain⟨aX,aY,_,aG,rfl,aH⟩:=Sl.DP h rfl aE;refine wD (fun st=>B3 (k:=i2) Tryz.underlying31 DG (eR st) aG (eR st) aD aF)<|wD (fun st=>B2 (v:=I x2) Bp (eR st) aH rfl)<|wA (v:=I x2) rfl<|wn<|Ag<|cr<|wA (v:=I 1) rfl<|wn<|AQ ?_;replace a:=bind_some a;obtain⟨z3,i,a⟩:=a;refine B7 (fun aI g t=>(aI=.exit 0∧Fo X0 25 g∧sl g 3=I z3∧w=t)) ?aJ ?aK
  case aJ=>
   clear a;refine B6 (fun u g t=>∃e,∃b,Fl f u e b=some z3∧Fo X0 25 g∧sl g 0=.slice c f.length d∧sl g 3=I e∧sl g 4=I b∧w=t) z ?aL ?aM
   case aL=>
    intro st;exact⟨x2,(1:Int),i,qo st,sp st 0 o,sp st 3 rfl,sp st 4 rfl,rfl⟩
   case aM=>
    rintro(_|u) aW _ ⟨e,b,i,x,j,p,l,rfl⟩
    ·exact absurd (show none=some _ from i) (by simp)
    rw[Fl.eq_2] at i;have a:=i;clear i;refine ro x<|Ag<|cr<|wM (v:=I b) l<|wM (v:=.slice c f.length d) j<|wD (fun st=>Bx Tryz.underlying31 (eR st))<|wD (fun st=>CA (eR st) (eR st))<|wn ?_;rcases Ae (decide (b<(f.length:Int))) with n|n
    ·replace a:=Au a n;refine Ai rfl n<|cn<|Ag<|AQ<|Aq<|wM (v:=I e) p<|wM (v:=.slice c f.length d) j<|wM (v:=I b) l ?_;replace a:=Bo a;obtain⟨i5,y,aN,aO,aP,a⟩:=a;obtain⟨aZ,a0,_,aQ,rfl,aR⟩:=Sl.DP h rfl aO;refine wD (fun st=>B3 (k:=i5) Tryz.underlying31 DG (eR st) aQ (eR st) aN aP)<|wD (fun st=>B2 (v:=I y) Bp (eR st) aR rfl)<|wD (fun st=>Ua (eR st) (eR st))<|wA (v:=I (min e y)) rfl<|Bs<|Dt<|Aq<|wM (v:=I b) l ?_;replace a:=AY a;obtain⟨aS,a⟩:=a;refine wD (fun st=>BX (eR st) (eR st) aS)<|wA (v:=I (b+1)) rfl<|Bs ?_;refine BJ u (Nat.lt_succ_self _) (fun st=>?_);exact⟨(min e y),(b+1),a,qo st,sp st 0 j,sp st 3 rfl,sp st 4 rfl,rfl⟩
    ·replace a:=Av a n;refine Aw rfl n<|D9 ?_;obtain rfl:=oi a;refine BO (fun st=>?_);exact⟨rfl,qo st,sp st 3 p,rfl⟩
  case aK=>
   rintro aI aT _ (⟨rfl,s,q,rfl⟩);refine lf s<|Bm<|BU<|cr<|wM (v:=I z3) q<|wA (v:=I z3) rfl<|wn<|Al ?_;obtain rfl:=oi a;refine Ax rfl rfl ?_;exact⟨aC.Bg,rfl⟩
theorem a168 h e a b(Z:Nat→Prop) w(f:Sl (Am .i64) w Z a b e) i(c:G0 h e=some i):
 BN Tryz.prog 168 #[.slice a e.length b] w (fun v w'=>Ext w w'∧(Dq .i64).R w' (zf Z w []) v i):=by
 unfold G0 at c;refine rq (N:=5) Tryz.func168 fun p j q=>?_;have g:=sA 0 j;clear j;have k:Hp FN [] w [] w:=Hp.start (By.none w);have d:=f.mv (BM (Z:=Z) (L:=[]) w);refine cr<|wA (v:=I 0) rfl<|wr<|wM (v:=.slice a e.length b) g ?_;replace c:=bind_some c;obtain⟨l,m,c⟩:=c;refine wE (fun st=>Ar QL (eR st) (Cl (eR st)) (XO h e a b ZA _ d.all l m)) ?_;rintro _ w2 ⟨n,rfl⟩;have o:=k.ext n;refine wA (v:=I l) rfl<|wn<|Al ?_;obtain rfl:=oi c;refine Ax rfl rfl ?_;exact⟨o.Bg,rfl⟩
theorem YQ aE a b(Z:Nat→Prop) w aF(k:Gm aE a b=some aF):
 BN Tryz.prog 180 #[.agg #[I a.Lo,I a.Hi],I b] w (fun v w'=>Ext w w'∧(CO Ay).R w' (zf Z w []) v aF):=by
 unfold Gm at k;refine rq (N:=15) Tryz.func180 fun aM aB aN=>?_;have aC:=sA 0 aB;have m:=sA 1 aB;clear aB;have s:Hp FN [] w [] w:=Hp.start (By.none w);refine cr<|wE (fun st=>BI (v:=.agg #[I a.Lo,I a.Hi]) (cs:= #[I a.Lo,I a.Hi]) (ee st aC) rfl) ?_;rintro _ w1 ⟨p,rfl,o⟩;have x:=s.nb o;have aK:=s.BD o;refine wE (fun st=>BP (cs:= #[I 0,I 0]) IC rfl) ?_;rintro _ w2 ⟨aG,rfl,i⟩;have y:=x.nb i;have aL:=x.BD i;refine wn<|Ag ?_;have j:=(o.bk.ext i.gr);replace k:=bind_some k;obtain⟨g,aH,k⟩:=k;refine B8 9 [Kc (pt p 0),Kc (I a.Lo),Kc (I b),Kv (E1 (Am .i64)) (zf Z w [some aG,some p]) [a.Lo,b],Kc (I g),Kc (pt p 1),Kc (I a.Hi),Kc (I b),Kc (I (max a.Hi b))] mixed rfl rfl
     (Aa (oD (fun K=>Ac (K.kO 2) (JB _ _)))
     (Aa (oD (fun K=>Af Bp (es (K.dq 0 5)) (j.ext K.Bh) rfl))
     (Aa (oD (fun K=>AS (es ((K.out 1 rfl).trans m))))
     (Aa (G4 rfl rfl (fun a' w' ph K=>(BK (e:=3) (vs:= #[(0,I a.Lo),(1,I b)]) (cs:= #[I a.Lo,I b]) (F8 (es (K.dq 1 6)) (es (K.dq 2 7))) (by kernel_rfl)).mono (fun u Bt ⟨aO,hu,q⟩=>⟨⟨_,_,hu,E5 (xs:=[a.Lo,b]) (Bz:=[[I a.Lo],[I b]]) q.bk ((y.ext K.Bh).kn (Nat.le_of_eq q.Ef.symm)) (R2.mv (Ad q.gr) (show R2 (Am .i64) w' (zf Z w [some aG,some p]) [[I a.Lo],[I b]] [a.Lo,b] from⟨rfl,rfl,trivial⟩)) rfl (Nat.le_refl _)⟩,q.gr⟩)))
     (Aa (oE (fun K=>match K.dq 3 8 with|⟨c,d,aD,f⟩=>(Ar QM rfl (Cl (es (t:=8) (v:=.slice c ([a.Lo,b].length) d) aD)) (a168 aE [a.Lo,b] c d ZA _ f.all g aH)).mono (fun _ _ h=>⟨h.2,h.1⟩)))
     (Aa (oD (fun K=>Ac (K.kO 2) (JC _ _)))
     (Aa (oD (fun K=>Af Bp (es (K.dq 5 10)) (j.ext K.Bh) rfl))
     (Aa (oD (fun K=>AS (es ((K.out 1 rfl).trans m))))
     (Aa (oD (fun K=>T9 (es (K.dq 6 11)) (es (K.dq 7 12))))
     (B5 _)))))))))) ?_
 intro aP;rintro _ rfl _ rfl _ rfl _ ⟨c,d,rfl,f⟩ _ rfl _ rfl _ rfl _ rfl _ rfl z;have aI:=y.ext z;refine wD (fun st=>Dm (vs:= #[(0,I g),(1,I (max a.Hi b))]) (v:=.agg #[I g,I (max a.Hi b)]) (F8 (eR st) (eR st)) (by kernel_rfl)) ?_;have r:=(i.bk.ext z);refine Bu rfl rfl (fun st=>Bj (n:=2) (l:=[I g,I (max a.Hi b)]) (Cj:= #[I g,I (max a.Hi b)]) (eR st) (eR st) Hg r rfl rfl (show 0+2≤2 by decide) (AT rfl) rfl) ?_;rintro _ aQ aA;have aJ:=aI.gr aA.gr 0 rfl;refine wn<|Al ?_;obtain rfl:=oi k;refine Fj (v:=.agg #[I g,I (max a.Hi b)]) rfl rfl (C6 FJ aA.bk rfl rfl) ?_;exact⟨aJ.Bg,⟨_,rfl,rfl⟩⟩
theorem ZK d b(Z:Nat→Prop) w e(a:Ia d b=some e):
 BN Tryz.prog 94 #[I b] w (fun v w'=>Ext w w'∧Bw.R w' (zf Z w []) v e):=by
 unfold Ia at a;refine rq (N:=5) Tryz.func94 fun l f m=>?_;have c:=sA 0 f;clear f;have g:Hp FN [] w [] w:=Hp.start (By.none w);refine cr<|wA (v:=.bool false) rfl<|wr<|wM (v:=I b) c ?_;replace a:=bind_some a;obtain⟨h,i,a⟩:=a;refine wE (fun st=>Ar Kg (eR st) (EG (eR st) (eR st) (eR st)) (Oc d b 0 100 ZA _ h i)) ?_;rintro _ w2 ⟨j,rfl⟩;have k:=g.ext j;refine wA (v:=.bool h) rfl<|wn<|Al ?_;obtain rfl:=oi a;refine Ax rfl rfl ?_;exact⟨k.Bg,rfl⟩
theorem a194{s:Type}{f:Nat→Prop}{aN:Nat}{o:IT s}{z:s→AK→Option (Bool×s)} aX d(t:s) a(j:Value) c(Z Za:Nat→Prop) w(e:Cb Tryz.prog j f aN o (v1 (CO Ay)) Bw z)(aO:aN≤w.heap.size)(aP:By f [some a,c] w)(aQ:∀b,Z b→¬f b∧some b∉[some a,c])(aY:∀b,Z b→Za b)(aC:∀b,Za b→¬f b∧some b∉[some a,c])(aR:Bk w a 214 #[j])(aZ:o t w Z c) aD(n:Gn aX z d t=some aD):
 BN Tryz.prog 194 #[.agg #[I d.Lo,I d.Hi],pt a 0] w (fun v w'=>∃o',BC (FU f [some a,c]) w w'∧Bw.R w' (zf Z w [some a,o']) v aD.1∧Bk w' a 214 #[j]∧(∀k,o'=some k→(c=some k∨w.heap.size≤k)∧k<w'.heap.size)∧o aD.2 w' (zf Z w [some a,o']) o'):=by
 unfold Gn at n;refine rq (N:=8) Tryz.func194 fun a3 aE a4=>?_;have aF:=sA 0 aE;have aG:=sA 1 aE;clear aE;obtain⟨aH,aS,p,aT,a0,aI⟩:=IS aP aQ aC;have aJ:=e.mz aZ (AJ (L:=[some a,c]) aT w);refine cr<|wE (fun st=>BI (v:=.agg #[I d.Lo,I d.Hi]) (cs:= #[I d.Lo,I d.Hi]) (ee st aF) rfl) ?_;rintro _ w1 ⟨u,rfl,g⟩;have i:=p.nb g;have aW:=p.BD g;refine wA (v:=.bool false) rfl<|wn<|Ag<|Aq ?_;have m:=(aR.ext g.gr);refine wD (fun st=>Af (v:=j) U7 (ee st aG) m rfl)<|wD (fun st=>Ba (l:=[I d.Lo,I d.Hi]) FJ (eR st) g.bk rfl rfl) ?_;have aK:o t w1 (ZZ f aH Z w.heap.size [some u,some a,c]) c:=(e.me aJ p g.gr (As g));replace n:=bind_some n;obtain⟨aL,aU,n⟩:=n;refine wE (fun st=>EE (e.call t d aL _ (ZZ f aH Z w.heap.size [some u,some a,c]) (ZC f [c]) c #[.agg #[I d.Lo,I d.Hi]] (Nat.le_trans aO i.sz) (i.zz (F':=f) (M:=[c]) (C:=[]) [2] [] ⟨rfl,trivial⟩ trivial (fun _ h=>.inl h)) HE aK ⟨_,rfl,⟨_,rfl,rfl⟩⟩ aU) (eR st) (Cl (eR st))) ?_;rintro _ a2 ⟨q,aA,r,rfl,aV⟩;have aB:=i.DF aA (AE [2] ⟨rfl,trivial⟩ (fun _ h=>h)) 2 rfl r;have aM:o aL.2 a2 (ZZ f aH Z w.heap.size [some u,some a,q]) q:=e.mz aV (i.call (M:=[q]) (Nat.le_refl _) (B4 ⟨.inr (hw r 2),trivial⟩) (Cx (L:=[some u,some a,c]) (y:=q) 2 (gm 0)));refine wD (fun st=>Ch (eR st))<|wA (v:=.bool !aL.1) rfl<|wn<|Al ?_;obtain rfl:=oi n;refine Ax rfl rfl ?_;have x:=(m.B1 aA (i.Cf 1 rfl [2] rfl ⟨rfl,trivial⟩ (fun _ h=>h)));exact⟨q,aI _ aB.fin,rfl,x,aB.mq 2 [1] (M:=[some a]) ⟨rfl,trivial⟩ aS,e.mz aM (AH (Bi [1,2] ⟨rfl,rfl,trivial⟩))⟩
theorem YR{aX:Type}{e:Nat→Prop}{bD:Nat}{aG:IT aX}{aQ:aX→AK→Option (Bool×aX)} bE s(a4:aX) m n(aI:Value) aB(Z:Nat→Prop) w(p:Cb Tryz.prog aI e bD aG (v1 (CO Ay)) Bw aQ)(bF:bD≤w.heap.size)(bG:By e [aB] w)(bH:∀b,Z b→¬e b∧some b∉[aB])(aY:Sl Ay w Z m n s)(bW:aG a4 w Z aB) a5(a:G6 bE aQ s a4=some a5):
 BN Tryz.prog 221 #[.slice m s.length n,aI] w (fun v w'=>∃o',BC (FU e [aB]) w w'∧(Dq .i64).R w' (zf Z w [o']) v a5.1∧(∀k,o'=some k→(aB=some k∨w.heap.size≤k)∧k<w'.heap.size)∧aG a5.2 w' (zf Z w [o']) o'):=by
 unfold G6 at a;refine rq (N:=19) Tryz.func221 fun b1 a6 b2=>?_;have aR:=sA 0 a6;have a7:=sA 1 a6;clear a6;obtain⟨aC,aZ,bI,a0,aS⟩:=GZ bG bH;have aN:=aY.mv (AJ (L:=[aB]) a0 w);have a8:=p.mz bW (AJ (L:=[aB]) a0 w);refine cr<|wA (v:=I 0) rfl<|wn<|Ag<|cr<|wM (v:=.slice m s.length n) aR<|wD (fun st=>Bx Tryz.underlying35 (eR st))<|wM (v:=I 0) rfl<|wn<|AQ ?_;replace a:=bind_some a;obtain⟨a9,t,a⟩:=a;refine B7 (fun bA f aD=>(bA=.ret∧∃o,a9=.inl o∧∃g,Fo X0 19 f∧sl f 4=I o.1∧Hp e aC w [g] aD∧aG o.2 aD (ZZ e aC Z w.heap.size [g]) g)∨(bA=.exit 0∧∃o,a9=.inr o∧∃i,Fo X0 19 f∧Hp e aC w [i] aD∧aG o aD (ZZ e aC Z w.heap.size [i]) i)) ?bJ ?bK
 case bJ=>
  clear a;refine B6 (fun bB f aD=>∃d,∃j,∃c,En aQ s bB d j=some a9∧Fo X0 19 f∧sl f 0=.slice m s.length n∧sl f 1=aI∧sl f 7=I (s.length:Int)∧sl f 8=I d∧Hp e aC w [c] aD∧(fun bL=>aG j aD bL c∧Sl Ay aD bL m n s) (ZZ e aC Z w.heap.size [c])) bE ?bM ?bN
  case bM=>
   intro st;exact⟨(0:Int),a4,aB,t,qo st,sp st 0 aR,sp st 1 a7,sp st 7 rfl,sp st 8 rfl,bI,a8,aN⟩
  case bN=>
   rintro(_|bB) b3 b4 ⟨d,j,c,t,bC,aJ,aK,aL,x,u,aM,q⟩
   ·exact absurd (show none=some _ from t) (by simp)
   rw[En.eq_2] at t;have a:=t;clear t;refine ro bC<|cr<|wD (fun st=>CA (ee st x) (ee st aL))<|wn<|Ag ?_;rcases Ae (decide (d<(s.length:Int))) with aE|aE
   ·replace a:=Au a aE;refine Ai rfl aE<|cn<|Ag<|AQ<|cr<|wM (v:=I d) x<|wA (v:=I d) rfl<|wr<|wM (v:=aI) aK<|wM (v:=.slice m s.length n) aJ<|wM (v:=I d) rfl ?_;replace a:=Bo a;obtain⟨i3,aT,bO,bP,bQ,a⟩:=a;obtain⟨b6,b7,_,bR,rfl,bS⟩:=Sl.elem q (by decide) bP;refine wD (fun st=>BA (k:=i3) Tryz.underlying35 Hg (eR st) bR (eR st) bO bQ)<|wD (fun st=>Cp (l:=[I aT.Lo,I aT.Hi]) FJ (eR st) bS rfl rfl) ?_;replace a:=bind_some a;obtain⟨aU,bT,a⟩:=a;refine wE (fun st=>EE (p.call j aT aU _ (ZZ e aC Z w.heap.size [c]) (ZC e [c]) c #[.agg #[I aT.Lo,I aT.Hi]] (Nat.le_trans bF u.sz) (u.zz (F':=e) (M:=[c]) (C:=[]) [0] [] ⟨rfl,trivial⟩ trivial (fun _ h=>.inl h)) HE aM ⟨_,rfl,⟨_,rfl,rfl⟩⟩ bT) (eR st) (Cl (eR st))) ?_;rintro _ bX ⟨aO,a2,aH,rfl,bU⟩;have a3:=u.DF a2 (AE [0] ⟨rfl,trivial⟩ (fun _ h=>h)) 0 rfl aH;have aV:aG aU.2 bX (ZZ e aC Z w.heap.size [aO]) aO:=p.mz bU (u.call (M:=[aO]) (Nat.le_refl _) (B4 ⟨.inr (hw aH 0),trivial⟩) (Cx (L:=[c]) (y:=aO) 0 (gm 0)));refine wn ?_;rcases Ae (aU.1) with aF|aF
    ·replace a:=Au a aF;refine Ai rfl aF<|cr<|wM (v:=I d) rfl<|wA (v:=I d) rfl<|wn<|Al<|CV<|AG ?_;obtain rfl:=oi a;refine BO (fun st=>?_);exact .inl ⟨rfl,(d,aU.2),rfl,aO,qo st,sp st 4 rfl,a3,aV⟩
    ·replace a:=Av a aF;refine Aw rfl aF<|Cu<|Dt<|Aq ?_;replace a:=AY a;obtain⟨bV,a⟩:=a;refine wD (fun st=>BX (ee st x) (eR st) bV)<|wM (v:=I (d+1)) rfl<|Bs ?_;have aP:=(q.mv (u.FB a2 (AE [0] ⟨rfl,trivial⟩ (fun _ h=>h)) 0 rfl (fun k bY=>(aH k bY).1)));refine BJ bB (Nat.lt_succ_self _) (fun st=>?_);exact⟨(d+1),aU.2,aO,a,qo st,sp st 0 aJ,sp st 1 aK,sp st 7 aL,sp st 8 rfl,a3,aV,aP⟩
   ·replace a:=Av a aE;refine Aw rfl aE<|D9 ?_;obtain rfl:=oi a;refine BO (fun st=>?_);exact .inr ⟨rfl,j,rfl,c,qo st,u,aM⟩
 case bK=>
  rintro bA bZ b5 (⟨rfl,o,rfl,g,z,aW,r,aA⟩|⟨rfl,o,rfl,i,z,r,aA⟩)
  ·skip
   replace a:=Dc a;refine lf z<|CV ?_;obtain rfl:=oi a;refine Ax rfl aW ?_;exact⟨g,aS _ r.fin,rfl,r.mq 0 [] (M:=[]) trivial aZ,p.mz aA (AH (Bi [0] ⟨rfl,trivial⟩))⟩
  ·skip
   replace a:=Dd a;refine lf z<|Bm<|BU<|cr<|wA (v:=I (-1)) rfl<|wn<|Al ?_;obtain rfl:=oi a;refine Ax rfl rfl ?_;exact⟨i,aS _ r.fin,rfl,r.mq 0 [] (M:=[]) trivial aZ,p.mz aA (AH (Bi [0] ⟨rfl,trivial⟩))⟩
theorem a193{p:Type}{f:Nat→Prop}{aH:Nat}{q:IT p}{s:p→AK→Option (Bool×p)} aI m(x:p) c d(i:Value) a(Z:Nat→Prop) w(e:Cb Tryz.prog i f aH q (v1 (CO Ay)) Bw s)(aJ:aH≤w.heap.size)(aK:By f [a] w)(aL:∀b,Z b→¬f b∧some b∉[a])(r:Sl Ay w Z c d m)(aR:q x w Z a) z(j:Gp aI s m x=some z):
 BN Tryz.prog 193 #[.slice c m.length d,i] w (fun v w'=>∃o',BC (FU f [a]) w w'∧Bw.R w' (zf Z w [o']) v z.1∧(∀k,o'=some k→(a=some k∨w.heap.size≤k)∧k<w'.heap.size)∧q z.2 w' (zf Z w [o']) o'):=by
 unfold Gp at j;refine rq (N:=9) Tryz.func193 fun aS aA aT=>?_;have aB:=sA 0 aA;have aC:=sA 1 aA;clear aA;obtain⟨aM,aN,g,t,aD⟩:=GZ aK aL;have l:=r.mv (AJ (L:=[a]) t w);have aE:=e.mz aR (AJ (L:=[a]) t w);refine cr<|wA (v:=.bool false) rfl<|wr<|wM (v:=.slice c m.length d) aB<|wM (v:=i) aC ?_;replace j:=bind_some j;obtain⟨aF,aO,j⟩:=j;refine wE (fun st=>Ar U8 (eR st) (Cr (eR st) (eR st)) (YR aI m x c d i a (ZZ f aM Z w.heap.size [a]) _ e (Nat.le_trans aJ g.sz) (g.Cn (F':=f) (M:=[a]) (C:=[]) [0] [] rfl ⟨rfl,trivial⟩ trivial (fun _ h=>.inl h)) (g.zz (F':=f) (M:=[a]) (C:=[]) [0] [] ⟨rfl,trivial⟩ trivial (fun _ h=>.inl h)) l aE aF aO)) ?_;rintro _ w2 ⟨n,aP,rfl,o,aQ⟩;have u:=g.DF aP (AE [0] ⟨rfl,trivial⟩ (fun _ h=>h)) 0 rfl o;have aG:q aF.2 w2 (ZZ f aM Z w.heap.size [n]) n:=e.mz aQ (g.call (M:=[n]) (Nat.le_refl _) (B4 ⟨.inr (hw o 0),trivial⟩) (Cx (L:=[a]) (y:=n) 0 (gm 0)));refine wD (fun st=>HW (eR st) (eR st))<|wA (v:=.bool (decide ((0:Int)≤aF.1))) rfl<|wn<|Al ?_;obtain rfl:=oi j;refine Ax rfl rfl ?_;exact⟨n,aD _ u.fin,rfl,u.mq 0 [] (M:=[]) trivial aN,e.mz aG (AH (Bi [0] ⟨rfl,trivial⟩))⟩
theorem a164{z:Type}{f:Nat→Prop}{bA:Nat}{aA:IT z}{aE:z→AK→Option (Bool×z)} aJ aF(aK:z) l m(i:Value) d(Z:Nat→Prop) w(c:Cb Tryz.prog i f bA aA (v1 (CO Ay)) Bw aE)(bB:bA≤w.heap.size)(bC:By f [d] w)(bD:∀b,Z b→¬f b∧some b∉[d])(aL:Sl Ay w Z l m aF)(s:aA aK w Z d) aQ(aB:HY aJ aE aF aK=some aQ):
 BN Tryz.prog 164 #[.slice l aF.length m,i] w (fun v w'=>∃o',BC (FU f [d]) w w'∧Bw.R w' (zf Z w [o']) v aQ.1∧(∀k,o'=some k→(d=some k∨w.heap.size≤k)∧k<w'.heap.size)∧aA aQ.2 w' (zf Z w [o']) o'):=by
 unfold HY at aB;refine rq (N:=9) Tryz.func164 fun bT aR bU=>?_;have aS:=sA 0 aR;have aT:=sA 1 aR;clear aR;obtain⟨aU,bE,aG,aM,aV⟩:=GZ bC bD;have aC:=aL.mv (AJ (L:=[d]) aM w);have aW:=c.mz s (AJ (L:=[d]) aM w);refine cr<|wE (fun st=>BI (v:=i) (cs:= #[i]) (ee st aT) c.fc) ?_;rintro _ w1 ⟨a,rfl,j⟩;have e:=aG.nb j;have bM:=aG.BD j;refine wA (v:=.bool false) rfl<|wr<|wM (v:=.slice l aF.length m) aS<|wD (fun st=>CH (vs:= #[]) (us:= #[pt a 0]) GF (Cl (eR st))) ?_;have aN:=e.Cn (F':=f) (M:=[some a]) (C:=[]) [0] [] rfl ⟨rfl,trivial⟩ trivial (fun k p=>.inl ((fun _ h=>h) k p));have aX:Cb Tryz.prog (.func (.func 194) #[] #[pt a 0]) (FU f [some a]) w1.heap.size (fun(st:z) aY bN o=>(∀k,o=some k→k<aY.heap.size∧¬(FU f [some a]) k)∧Bk aY a 214 #[i]∧aA st aY bN o) (v1 (CO Ay)) Bw (fun(st:z) (x:AK)=>(Gn aJ aE x st).bind fun r=>some (r.1,r.2)):=by
  refine⟨rfl,rfl,e.HS [0] ⟨rfl,trivial⟩ (fun _ h=>h),?_,?_,?_⟩
  ·intro st x r w1 aZ bF o vs a0 a2 t s a3 bO;obtain⟨g,n,u⟩:=s;obtain⟨_,rfl,⟨_,rfl,rfl⟩⟩:=a3;obtain⟨bP,bQ,bR⟩:=bind_some bO;obtain rfl:=Option.some.inj bR;refine(DY U9 rfl (a194 aJ x st a i o aZ bF w1 c (Nat.le_trans bB (Nat.le_trans e.sz a0)) ((aN.grow a0).snoc g) (fun b q=>Dj (t b (a2 b q)).1 (t b (a2 b q)).2) a2 (fun b q=>Dj (t b q).1 (t b q).2) n u bP bQ)).mono ?_;rintro v w2 ⟨o',a3,a4,a5,aO,bG⟩;exact⟨o',a3.lf,aO,a4,⟨aN.keep a0 g aO,a5,c.mz bG Ix⟩⟩
  ·intro st w1 w2 aZ bV o s hm q;obtain⟨g,n,u⟩:=s;exact⟨fun k p=>⟨Nat.lt_of_lt_of_le (g k p).1 hm.size,(g k p).2⟩,n.Gj (q a (.inl (.inr (gm 0)))),c.JZ _ _ _ _ _ _ u hm (fun b bH=>q b (bH.imp .inl id))⟩
  ·intro st w1 aZ o s k p;obtain⟨g,n,u⟩:=s;exact g k p
 have aD:=(aC.mv (As j));replace aB:=bind_some aB;obtain⟨a6,bI,aB⟩:=aB;have a7:aA aK w1 (ZZ f aU Z w.heap.size [some a,d]) d:=(c.me aW aG j.gr (As j));refine wE (fun st=>Ar Va (eR st) (Cr (eR st) (eR st)) (a193 aJ aF aK l m (.func (.func 194) #[] #[pt a 0]) d (ZZ f aU Z w.heap.size [some a,d]) _ aX (Nat.le_refl _) (e.Cn (F':=(FU f [some a])) (M:=[d]) (C:=[some a]) [1] [0] rfl ⟨rfl,trivial⟩ ⟨rfl,trivial⟩ (Ca (fun _ h=>h))) (e.zz (F':=(FU f [some a])) (M:=[d]) (C:=[some a]) [1] [0] ⟨rfl,trivial⟩ ⟨rfl,trivial⟩ (Ca (fun _ h=>h))) aD ⟨(fun k p=>e.LL 1 (by rw[←p];rfl) [0] rfl ⟨rfl,trivial⟩),j.bk,a7⟩ a6 bI)) ?_;rintro _ bS ⟨aH,bJ,rfl,aI,bK⟩;obtain⟨-,bL,a8⟩:=bK;have aP:=e.DF (BC.cl (M1:=[some a]) (M2:=[d]) bJ) (AE [0,1] ⟨rfl,rfl,trivial⟩ (fun _ h=>h)) 1 rfl aI;have a9:aA a6.2 bS (ZZ f aU Z w.heap.size [some a,aH]) aH:=c.mz a8 (e.call (M:=[aH]) (Nat.le_refl _) (B4 ⟨.inr (hw aI 1),trivial⟩) (Cx (L:=[some a,d]) (y:=aH) 1 (gm 0)));refine wD (fun st=>Ch (eR st))<|wA (v:=.bool !a6.1) rfl<|wn<|Al ?_;obtain rfl:=oi aB;refine Ax rfl rfl ?_;exact⟨aH,aV _ aP.fin,rfl,aP.mq 1 [] (M:=[]) trivial bE,c.mz a9 (AH (Bi [1] ⟨rfl,trivial⟩))⟩
theorem a196{q:Type}{d:Nat→Prop}{aM:Nat}{r:IT q}{u:q→(List Int)→Option (Bool×q)} aV l(aB:q) f g a(j:Value) c(Z Za:Nat→Prop) w(i:Cb Tryz.prog j d aM r (v1 (E1 (Am .i64))) Bw u)(aN:aM≤w.heap.size)(aO:By d [some a,c] w)(aP:∀b,Z b→¬d b∧some b∉[some a,c])(aW:∀b,Z b→Za b)(aC:∀b,Za b→¬d b∧some b∉[some a,c])(s:Sl (Am .i64) w Za f g l)(x:Bk w a 148 #[j])(aX:r aB w Z c) aD(m:GU aV u l aB=some aD):
 BN Tryz.prog 196 #[.slice f l.length g,pt a 0] w (fun v w'=>∃o',BC (FU d [some a,c]) w w'∧Bw.R w' (zf Z w [some a,o']) v aD.1∧Bk w' a 148 #[j]∧(∀k,o'=some k→(c=some k∨w.heap.size≤k)∧k<w'.heap.size)∧r aD.2 w' (zf Z w [some a,o']) o'):=by
 unfold GU at m;refine rq (N:=8) Tryz.func196 fun aY aE aZ=>?_;have aF:=sA 0 aE;have aG:=sA 1 aE;clear aE;obtain⟨aQ,aR,e,aS,aH,aI⟩:=IS aO aP aC;have n:=s.mv (AJ (L:=[some a,c]) aH w);have aJ:=i.mz aX (AJ (L:=[some a,c]) aS w);refine cr<|wA (v:=.bool false) rfl<|wr<|wD (fun st=>Af (v:=j) NV (ee st aG) x rfl)<|wM (v:=.slice f l.length g) aF ?_;replace m:=bind_some m;obtain⟨aK,aT,m⟩:=m;refine wE (fun st=>EE (i.call aB l aK _ (ZZ d aQ Z w.heap.size [some a,c]) (ZC d [c]) c #[.slice f l.length g] (Nat.le_trans aN e.sz) (e.zz (F':=d) (M:=[c]) (C:=[]) [1] [] ⟨rfl,trivial⟩ trivial (fun _ h=>.inl h)) HE aJ ⟨_,rfl,⟨_,_,rfl,(n.mv (e.mz (F':=d) (M:=[c]) (C:=[]) [1] [] ⟨rfl,trivial⟩ trivial (fun _ h=>.inl h)))⟩⟩ aT) (eR st) (Cl (eR st))) ?_;rintro _ w2 ⟨o,z,p,rfl,aU⟩;have aA:=e.DF z (AE [1] ⟨rfl,trivial⟩ (fun _ h=>h)) 1 rfl p;have aL:r aK.2 w2 (ZZ d aQ Z w.heap.size [some a,o]) o:=i.mz aU (e.call (M:=[o]) (Nat.le_refl _) (B4 ⟨.inr (hw p 1),trivial⟩) (Cx (L:=[some a,c]) (y:=o) 1 (gm 0)));refine wD (fun st=>Ch (eR st))<|wA (v:=.bool !aK.1) rfl<|wn<|Al ?_;obtain rfl:=oi m;refine Ax rfl rfl ?_;have t:=(x.B1 z (e.Cf 0 rfl [1] rfl ⟨rfl,trivial⟩ (fun _ h=>h)));exact⟨o,aI _ aA.fin,rfl,t,aA.mq 1 [0] (M:=[some a]) ⟨rfl,trivial⟩ aR,i.mz aL (AH (Bi [0,1] ⟨rfl,rfl,trivial⟩))⟩
theorem a222{aX:Type}{e:Nat→Prop}{bF:Nat}{aF:IT aX}{aP:aX→(List Int)→Option (Bool×aX)} bG s(a5:aX) l m(aH:Value) aA(Z:Nat→Prop) w(o:Cb Tryz.prog aH e bF aF (v1 (E1 (Am .i64))) Bw aP)(bH:bF≤w.heap.size)(bI:By e [aA] w)(bJ:∀b,Z b→¬e b∧some b∉[aA])(aY:Sl (BL (Am .i64)) w Z l m s)(bY:aF a5 w Z aA) a6(a:Hu bG aP s a5=some a6):
 BN Tryz.prog 222 #[.slice l s.length m,aH] w (fun v w'=>∃o',BC (FU e [aA]) w w'∧(Dq .i64).R w' (zf Z w [o']) v a6.1∧(∀k,o'=some k→(aA=some k∨w.heap.size≤k)∧k<w'.heap.size)∧aF a6.2 w' (zf Z w [o']) o'):=by
 unfold Hu at a;refine rq (N:=19) Tryz.func222 fun b3 a7 b4=>?_;have aQ:=sA 0 a7;have a8:=sA 1 a7;clear a7;obtain⟨aB,a0,bK,a2,aR⟩:=GZ bI bJ;have aM:=aY.mv (AJ (L:=[aA]) a2 w);have a9:=o.mz bY (AJ (L:=[aA]) a2 w);refine cr<|wA (v:=I 0) rfl<|wn<|Ag<|cr<|wM (v:=.slice l s.length m) aQ<|wD (fun st=>Bx Tryz.underlying23 (eR st))<|wM (v:=I 0) rfl<|wn<|AQ ?_;replace a:=bind_some a;obtain⟨bA,t,a⟩:=a;refine B7 (fun bB f aC=>(bB=.ret∧∃n,bA=.inl n∧∃g,Fo X0 19 f∧sl f 4=I n.1∧Hp e aB w [g] aC∧aF n.2 aC (ZZ e aB Z w.heap.size [g]) g)∨(bB=.exit 0∧∃n,bA=.inr n∧∃i,Fo X0 19 f∧Hp e aB w [i] aC∧aF n aC (ZZ e aB Z w.heap.size [i]) i)) ?bL ?bM
 case bL=>
  clear a;refine B6 (fun bC f aC=>∃d,∃j,∃c,EC aP s bC d j=some bA∧Fo X0 19 f∧sl f 0=.slice l s.length m∧sl f 1=aH∧sl f 7=I (s.length:Int)∧sl f 8=I d∧Hp e aB w [c] aC∧(fun bN=>aF j aC bN c∧Sl (BL (Am .i64)) aC bN l m s) (ZZ e aB Z w.heap.size [c])) bG ?bO ?bP
  case bO=>
   intro st;exact⟨(0:Int),a5,aA,t,qo st,sp st 0 aQ,sp st 1 a8,sp st 7 rfl,sp st 8 rfl,bK,a9,aM⟩
  case bP=>
   rintro(_|bC) b5 b6 ⟨d,j,c,t,bD,aI,aJ,aK,u,p,aL,q⟩
   ·exact absurd (show none=some _ from t) (by simp)
   rw[EC.eq_2] at t;have a:=t;clear t;refine ro bD<|cr<|wD (fun st=>CA (ee st u) (ee st aK))<|wn<|Ag ?_;rcases Ae (decide (d<(s.length:Int))) with aD|aD
   ·replace a:=Au a aD;refine Ai rfl aD<|cn<|Ag<|AQ<|cr<|wM (v:=I d) u<|wA (v:=I d) rfl<|wr<|wM (v:=aH) aJ<|wM (v:=.slice l s.length m) aI<|wM (v:=I d) rfl ?_;replace a:=Bo a;obtain⟨i3,bE,bQ,bR,bS,a⟩:=a;obtain⟨b8,b9,_,bT,⟨aS,aT,rfl,aZ⟩,bU⟩:=Sl.DP q rfl bR;refine wD (fun st=>B3 (k:=i3) Tryz.underlying23 FM (eR st) bT (eR st) bQ bS)<|wD (fun st=>B2 (v:=.slice aS bE.length aT) C9 (eR st) bU rfl) ?_;replace a:=bind_some a;obtain⟨aU,bV,a⟩:=a;refine wE (fun st=>EE (o.call j bE aU _ (ZZ e aB Z w.heap.size [c]) (ZC e [c]) c #[.slice aS bE.length aT] (Nat.le_trans bH p.sz) (p.zz (F':=e) (M:=[c]) (C:=[]) [0] [] ⟨rfl,trivial⟩ trivial (fun _ h=>.inl h)) HE aL ⟨_,rfl,⟨_,_,rfl,(aZ.mv (p.mz (F':=e) (M:=[c]) (C:=[]) [0] [] ⟨rfl,trivial⟩ trivial (fun _ h=>.inl h)))⟩⟩ bV) (eR st) (Cl (eR st))) ?_;rintro _ bZ ⟨aN,a3,aG,rfl,bW⟩;have a4:=p.DF a3 (AE [0] ⟨rfl,trivial⟩ (fun _ h=>h)) 0 rfl aG;have aV:aF aU.2 bZ (ZZ e aB Z w.heap.size [aN]) aN:=o.mz bW (p.call (M:=[aN]) (Nat.le_refl _) (B4 ⟨.inr (hw aG 0),trivial⟩) (Cx (L:=[c]) (y:=aN) 0 (gm 0)));refine wn ?_;rcases Ae (aU.1) with aE|aE
    ·replace a:=Au a aE;refine Ai rfl aE<|cr<|wM (v:=I d) rfl<|wA (v:=I d) rfl<|wn<|Al<|CV<|AG ?_;obtain rfl:=oi a;refine BO (fun st=>?_);exact .inl ⟨rfl,(d,aU.2),rfl,aN,qo st,sp st 4 rfl,a4,aV⟩
    ·replace a:=Av a aE;refine Aw rfl aE<|Cu<|Dt<|Aq ?_;replace a:=AY a;obtain⟨bX,a⟩:=a;refine wD (fun st=>BX (ee st u) (eR st) bX)<|wM (v:=I (d+1)) rfl<|Bs ?_;have aO:=(q.mv (p.FB a3 (AE [0] ⟨rfl,trivial⟩ (fun _ h=>h)) 0 rfl (fun k b1=>(aG k b1).1)));refine BJ bC (Nat.lt_succ_self _) (fun st=>?_);exact⟨(d+1),aU.2,aN,a,qo st,sp st 0 aI,sp st 1 aJ,sp st 7 aK,sp st 8 rfl,a4,aV,aO⟩
   ·replace a:=Av a aD;refine Aw rfl aD<|D9 ?_;obtain rfl:=oi a;refine BO (fun st=>?_);exact .inr ⟨rfl,j,rfl,c,qo st,p,aL⟩
 case bM=>
  rintro bB b2 b7 (⟨rfl,n,rfl,g,x,aW,r,z⟩|⟨rfl,n,rfl,i,x,r,z⟩)
  ·skip
   replace a:=Dc a;refine lf x<|CV ?_;obtain rfl:=oi a;refine Ax rfl aW ?_;exact⟨g,aR _ r.fin,rfl,r.mq 0 [] (M:=[]) trivial a0,o.mz z (AH (Bi [0] ⟨rfl,trivial⟩))⟩
  ·skip
   replace a:=Dd a;refine lf x<|Bm<|BU<|cr<|wA (v:=I (-1)) rfl<|wn<|Al ?_;obtain rfl:=oi a;refine Ax rfl rfl ?_;exact⟨i,aR _ r.fin,rfl,r.mq 0 [] (M:=[]) trivial a0,o.mz z (AH (Bi [0] ⟨rfl,trivial⟩))⟩
theorem YS{p:Type}{f:Nat→Prop}{aH:Nat}{q:IT p}{s:p→(List Int)→Option (Bool×p)} aI m(x:p) c d(i:Value) a(Z:Nat→Prop) w(e:Cb Tryz.prog i f aH q (v1 (E1 (Am .i64))) Bw s)(aJ:aH≤w.heap.size)(aK:By f [a] w)(aL:∀b,Z b→¬f b∧some b∉[a])(r:Sl (BL (Am .i64)) w Z c d m)(aR:q x w Z a) z(j:GP aI s m x=some z):
 BN Tryz.prog 195 #[.slice c m.length d,i] w (fun v w'=>∃o',BC (FU f [a]) w w'∧Bw.R w' (zf Z w [o']) v z.1∧(∀k,o'=some k→(a=some k∨w.heap.size≤k)∧k<w'.heap.size)∧q z.2 w' (zf Z w [o']) o'):=by
 unfold GP at j;refine rq (N:=9) Tryz.func195 fun aS aA aT=>?_;have aB:=sA 0 aA;have aC:=sA 1 aA;clear aA;obtain⟨aM,aN,g,t,aD⟩:=GZ aK aL;have l:=r.mv (AJ (L:=[a]) t w);have aE:=e.mz aR (AJ (L:=[a]) t w);refine cr<|wA (v:=.bool false) rfl<|wr<|wM (v:=.slice c m.length d) aB<|wM (v:=i) aC ?_;replace j:=bind_some j;obtain⟨aF,aO,j⟩:=j;refine wE (fun st=>Ar Vb (eR st) (Cr (eR st) (eR st)) (a222 aI m x c d i a (ZZ f aM Z w.heap.size [a]) _ e (Nat.le_trans aJ g.sz) (g.Cn (F':=f) (M:=[a]) (C:=[]) [0] [] rfl ⟨rfl,trivial⟩ trivial (fun _ h=>.inl h)) (g.zz (F':=f) (M:=[a]) (C:=[]) [0] [] ⟨rfl,trivial⟩ trivial (fun _ h=>.inl h)) l aE aF aO)) ?_;rintro _ w2 ⟨n,aP,rfl,o,aQ⟩;have u:=g.DF aP (AE [0] ⟨rfl,trivial⟩ (fun _ h=>h)) 0 rfl o;have aG:q aF.2 w2 (ZZ f aM Z w.heap.size [n]) n:=e.mz aQ (g.call (M:=[n]) (Nat.le_refl _) (B4 ⟨.inr (hw o 0),trivial⟩) (Cx (L:=[a]) (y:=n) 0 (gm 0)));refine wD (fun st=>HW (eR st) (eR st))<|wA (v:=.bool (decide ((0:Int)≤aF.1))) rfl<|wn<|Al ?_;obtain rfl:=oi j;refine Ax rfl rfl ?_;exact⟨n,aD _ u.fin,rfl,u.mq 0 [] (M:=[]) trivial aN,e.mz aG (AH (Bi [0] ⟨rfl,trivial⟩))⟩
theorem YT{z:Type}{f:Nat→Prop}{bD:Nat}{aA:IT z}{aE:z→(List Int)→Option (Bool×z)} aJ aF(aK:z) l m(i:Value) d(Z:Nat→Prop) w(c:Cb Tryz.prog i f bD aA (v1 (E1 (Am .i64))) Bw aE)(bE:bD≤w.heap.size)(bF:By f [d] w)(bG:∀b,Z b→¬f b∧some b∉[d])(aL:Sl (BL (Am .i64)) w Z l m aF)(s:aA aK w Z d) aR(aB:It aJ aE aF aK=some aR):
 BN Tryz.prog 166 #[.slice l aF.length m,i] w (fun v w'=>∃o',BC (FU f [d]) w w'∧Bw.R w' (zf Z w [o']) v aR.1∧(∀k,o'=some k→(d=some k∨w.heap.size≤k)∧k<w'.heap.size)∧aA aR.2 w' (zf Z w [o']) o'):=by
 unfold It at aB;refine rq (N:=9) Tryz.func166 fun bW aS bX=>?_;have aT:=sA 0 aS;have aU:=sA 1 aS;clear aS;obtain⟨aV,bH,aG,aN,aW⟩:=GZ bF bG;have aC:=aL.mv (AJ (L:=[d]) aN w);have aX:=c.mz s (AJ (L:=[d]) aN w);refine cr<|wE (fun st=>BI (v:=i) (cs:= #[i]) (ee st aU) c.fc) ?_;rintro _ w1 ⟨a,rfl,j⟩;have e:=aG.nb j;have bP:=aG.BD j;refine wA (v:=.bool false) rfl<|wr<|wM (v:=.slice l aF.length m) aT<|wD (fun st=>CH (vs:= #[]) (us:= #[pt a 0]) GF (Cl (eR st))) ?_;have aO:=e.Cn (F':=f) (M:=[some a]) (C:=[]) [0] [] rfl ⟨rfl,trivial⟩ trivial (fun k p=>.inl ((fun _ h=>h) k p));have aY:Cb Tryz.prog (.func (.func 196) #[] #[pt a 0]) (FU f [some a]) w1.heap.size (fun(st:z) aZ bQ o=>(∀k,o=some k→k<aZ.heap.size∧¬(FU f [some a]) k)∧Bk aZ a 148 #[i]∧aA st aZ bQ o) (v1 (E1 (Am .i64))) Bw (fun(st:z) (x:(List Int))=>(GU aJ aE x st).bind fun r=>some (r.1,r.2)):=by
  refine⟨rfl,rfl,e.HS [0] ⟨rfl,trivial⟩ (fun _ h=>h),?_,?_,?_⟩
  ·intro st x r w1 a0 bI o vs a2 a3 t s a4 bR;obtain⟨g,n,u⟩:=s;obtain⟨_,rfl,⟨a5,a6,rfl,aM⟩⟩:=a4;obtain⟨bS,bT,bU⟩:=bind_some bR;obtain rfl:=Option.some.inj bU;refine(DY Vc rfl (a196 aJ x st a5 a6 a i o a0 bI w1 c (Nat.le_trans bE (Nat.le_trans e.sz a2)) ((aO.grow a2).snoc g) (fun b q=>Dj (t b (a3 b q)).1 (t b (a3 b q)).2) a3 (fun b q=>Dj (t b q).1 (t b q).2) aM n u bS bT)).mono ?_;rintro v w2 ⟨o',a4,a7,a8,aP,bJ⟩;exact⟨o',a4.lf,aP,a7,⟨aO.keep a2 g aP,a8,c.mz bJ Ix⟩⟩
  ·intro st w1 w2 a0 bY o s hm q;obtain⟨g,n,u⟩:=s;exact⟨fun k p=>⟨Nat.lt_of_lt_of_le (g k p).1 hm.size,(g k p).2⟩,n.Gj (q a (.inl (.inr (gm 0)))),c.JZ _ _ _ _ _ _ u hm (fun b bK=>q b (bK.imp .inl id))⟩
  ·intro st w1 a0 o s k p;obtain⟨g,n,u⟩:=s;exact g k p
 have aD:=(aC.mv (As j));replace aB:=bind_some aB;obtain⟨a9,bL,aB⟩:=aB;have bA:aA aK w1 (ZZ f aV Z w.heap.size [some a,d]) d:=(c.me aX aG j.gr (As j));refine wE (fun st=>Ar Vd (eR st) (Cr (eR st) (eR st)) (YS aJ aF aK l m (.func (.func 196) #[] #[pt a 0]) d (ZZ f aV Z w.heap.size [some a,d]) _ aY (Nat.le_refl _) (e.Cn (F':=(FU f [some a])) (M:=[d]) (C:=[some a]) [1] [0] rfl ⟨rfl,trivial⟩ ⟨rfl,trivial⟩ (Ca (fun _ h=>h))) (e.zz (F':=(FU f [some a])) (M:=[d]) (C:=[some a]) [1] [0] ⟨rfl,trivial⟩ ⟨rfl,trivial⟩ (Ca (fun _ h=>h))) aD ⟨(fun k p=>e.LL 1 (by rw[←p];rfl) [0] rfl ⟨rfl,trivial⟩),j.bk,bA⟩ a9 bL)) ?_;rintro _ bV ⟨aH,bM,rfl,aI,bN⟩;obtain⟨-,bO,bB⟩:=bN;have aQ:=e.DF (BC.cl (M1:=[some a]) (M2:=[d]) bM) (AE [0,1] ⟨rfl,rfl,trivial⟩ (fun _ h=>h)) 1 rfl aI;have bC:aA a9.2 bV (ZZ f aV Z w.heap.size [some a,aH]) aH:=c.mz bB (e.call (M:=[aH]) (Nat.le_refl _) (B4 ⟨.inr (hw aI 1),trivial⟩) (Cx (L:=[some a,d]) (y:=aH) 1 (gm 0)));refine wD (fun st=>Ch (eR st))<|wA (v:=.bool !a9.1) rfl<|wn<|Al ?_;obtain rfl:=oi aB;refine Ax rfl rfl ?_;exact⟨aH,aW _ aQ.fin,rfl,aQ.mq 1 [] (M:=[]) trivial bH,c.mz bC (AH (Bi [1] ⟨rfl,trivial⟩))⟩
theorem a198{s:Type}{f:Nat→Prop}{aN:Nat}{o:IT s}{z:s→Cq→Option (Bool×s)} aX a(t:s) c(j:Value) d(Z Za:Nat→Prop) w(e:Cb Tryz.prog j f aN o (v1 (CO AI)) Bw z)(aO:aN≤w.heap.size)(aP:By f [some c,d] w)(aQ:∀b,Z b→¬f b∧some b∉[some c,d])(aY:∀b,Z b→Za b)(aC:∀b,Za b→¬f b∧some b∉[some c,d])(aR:Bk w c 212 #[j])(aZ:o t w Z d) aD(n:Gq aX z a t=some aD):
 BN Tryz.prog 198 #[.agg #[.bool a.BS,I a.Number,I a.Bq,I a.Br],pt c 0] w (fun v w'=>∃o',BC (FU f [some c,d]) w w'∧Bw.R w' (zf Z w [some c,o']) v aD.1∧Bk w' c 212 #[j]∧(∀k,o'=some k→(d=some k∨w.heap.size≤k)∧k<w'.heap.size)∧o aD.2 w' (zf Z w [some c,o']) o'):=by
 unfold Gq at n;refine rq (N:=8) Tryz.func198 fun a3 aE a4=>?_;have aF:=sA 0 aE;have aG:=sA 1 aE;clear aE;obtain⟨aH,aS,p,aT,a0,aI⟩:=IS aP aQ aC;have aJ:=e.mz aZ (AJ (L:=[some c,d]) aT w);refine cr<|wE (fun st=>BI (v:=.agg #[.bool a.BS,I a.Number,I a.Bq,I a.Br]) (cs:= #[.bool a.BS,I a.Number,I a.Bq,I a.Br]) (ee st aF) rfl) ?_;rintro _ w1 ⟨u,rfl,g⟩;have i:=p.nb g;have aW:=p.BD g;refine wA (v:=.bool false) rfl<|wn<|Ag<|Aq ?_;have m:=(aR.ext g.gr);refine wD (fun st=>Af (v:=j) Ve (ee st aG) m rfl)<|wD (fun st=>Ba (l:=[.bool a.BS,I a.Number,I a.Bq,I a.Br]) Mw (eR st) g.bk rfl rfl) ?_;have aK:o t w1 (ZZ f aH Z w.heap.size [some u,some c,d]) d:=(e.me aJ p g.gr (As g));replace n:=bind_some n;obtain⟨aL,aU,n⟩:=n;refine wE (fun st=>EE (e.call t a aL _ (ZZ f aH Z w.heap.size [some u,some c,d]) (ZC f [d]) d #[.agg #[.bool a.BS,I a.Number,I a.Bq,I a.Br]] (Nat.le_trans aO i.sz) (i.zz (F':=f) (M:=[d]) (C:=[]) [2] [] ⟨rfl,trivial⟩ trivial (fun _ h=>.inl h)) HE aK ⟨_,rfl,⟨_,rfl,rfl⟩⟩ aU) (eR st) (Cl (eR st))) ?_;rintro _ a2 ⟨q,aA,r,rfl,aV⟩;have aB:=i.DF aA (AE [2] ⟨rfl,trivial⟩ (fun _ h=>h)) 2 rfl r;have aM:o aL.2 a2 (ZZ f aH Z w.heap.size [some u,some c,q]) q:=e.mz aV (i.call (M:=[q]) (Nat.le_refl _) (B4 ⟨.inr (hw r 2),trivial⟩) (Cx (L:=[some u,some c,d]) (y:=q) 2 (gm 0)));refine wD (fun st=>Ch (eR st))<|wA (v:=.bool !aL.1) rfl<|wn<|Al ?_;obtain rfl:=oi n;refine Ax rfl rfl ?_;have x:=(m.B1 aA (i.Cf 1 rfl [2] rfl ⟨rfl,trivial⟩ (fun _ h=>h)));exact⟨q,aI _ aB.fin,rfl,x,aB.mq 2 [1] (M:=[some c]) ⟨rfl,trivial⟩ aS,e.mz aM (AH (Bi [1,2] ⟨rfl,rfl,trivial⟩))⟩
theorem YU{aX:Type}{e:Nat→Prop}{bD:Nat}{aH:IT aX}{aR:aX→Cq→Option (Bool×aX)} bE s(a4:aX) m n(aJ:Value) aC(Z:Nat→Prop) w(p:Cb Tryz.prog aJ e bD aH (v1 (CO AI)) Bw aR)(bF:bD≤w.heap.size)(bG:By e [aC] w)(bH:∀b,Z b→¬e b∧some b∉[aC])(aY:Sl AI w Z m n s)(bW:aH a4 w Z aC) a5(a:G7 bE aR s a4=some a5):
 BN Tryz.prog 223 #[.slice m s.length n,aJ] w (fun v w'=>∃o',BC (FU e [aC]) w w'∧(Dq .i64).R w' (zf Z w [o']) v a5.1∧(∀k,o'=some k→(aC=some k∨w.heap.size≤k)∧k<w'.heap.size)∧aH a5.2 w' (zf Z w [o']) o'):=by
 unfold G7 at a;refine rq (N:=19) Tryz.func223 fun b1 a6 b2=>?_;have aS:=sA 0 a6;have a7:=sA 1 a6;clear a6;obtain⟨aD,aZ,bI,a0,aT⟩:=GZ bG bH;have aO:=aY.mv (AJ (L:=[aC]) a0 w);have a8:=p.mz bW (AJ (L:=[aC]) a0 w);refine cr<|wA (v:=I 0) rfl<|wn<|Ag<|cr<|wM (v:=.slice m s.length n) aS<|wD (fun st=>Bx Tryz.underlying36 (eR st))<|wM (v:=I 0) rfl<|wn<|AQ ?_;replace a:=bind_some a;obtain⟨a9,t,a⟩:=a;refine B7 (fun bA f aE=>(bA=.ret∧∃o,a9=.inl o∧∃g,Fo X0 19 f∧sl f 4=I o.1∧Hp e aD w [g] aE∧aH o.2 aE (ZZ e aD Z w.heap.size [g]) g)∨(bA=.exit 0∧∃o,a9=.inr o∧∃i,Fo X0 19 f∧Hp e aD w [i] aE∧aH o aE (ZZ e aD Z w.heap.size [i]) i)) ?bJ ?bK
 case bJ=>
  clear a;refine B6 (fun bB f aE=>∃d,∃j,∃c,Eo aR s bB d j=some a9∧Fo X0 19 f∧sl f 0=.slice m s.length n∧sl f 1=aJ∧sl f 7=I (s.length:Int)∧sl f 8=I d∧Hp e aD w [c] aE∧(fun bL=>aH j aE bL c∧Sl AI aE bL m n s) (ZZ e aD Z w.heap.size [c])) bE ?bM ?bN
  case bM=>
   intro st;exact⟨(0:Int),a4,aC,t,qo st,sp st 0 aS,sp st 1 a7,sp st 7 rfl,sp st 8 rfl,bI,a8,aO⟩
  case bN=>
   rintro(_|bB) b3 b4 ⟨d,j,c,t,bC,aK,aL,aM,x,u,aN,q⟩
   ·exact absurd (show none=some _ from t) (by simp)
   rw[Eo.eq_2] at t;have a:=t;clear t;refine ro bC<|cr<|wD (fun st=>CA (ee st x) (ee st aM))<|wn<|Ag ?_;rcases Ae (decide (d<(s.length:Int))) with aF|aF
   ·replace a:=Au a aF;refine Ai rfl aF<|cn<|Ag<|AQ<|cr<|wM (v:=I d) x<|wA (v:=I d) rfl<|wr<|wM (v:=aJ) aL<|wM (v:=.slice m s.length n) aK<|wM (v:=I d) rfl ?_;replace a:=Bo a;obtain⟨i3,z,bO,bP,bQ,a⟩:=a;obtain⟨b6,b7,_,bR,rfl,bS⟩:=Sl.elem q (by decide) bP;refine wD (fun st=>BA (k:=i3) Tryz.underlying36 PI (eR st) bR (eR st) bO bQ)<|wD (fun st=>Cp (l:=[.bool z.BS,I z.Number,I z.Bq,I z.Br]) Mw (eR st) bS rfl rfl) ?_;replace a:=bind_some a;obtain⟨aU,bT,a⟩:=a;refine wE (fun st=>EE (p.call j z aU _ (ZZ e aD Z w.heap.size [c]) (ZC e [c]) c #[.agg #[.bool z.BS,I z.Number,I z.Bq,I z.Br]] (Nat.le_trans bF u.sz) (u.zz (F':=e) (M:=[c]) (C:=[]) [0] [] ⟨rfl,trivial⟩ trivial (fun _ h=>.inl h)) HE aN ⟨_,rfl,⟨_,rfl,rfl⟩⟩ bT) (eR st) (Cl (eR st))) ?_;rintro _ bX ⟨aP,a2,aI,rfl,bU⟩;have a3:=u.DF a2 (AE [0] ⟨rfl,trivial⟩ (fun _ h=>h)) 0 rfl aI;have aV:aH aU.2 bX (ZZ e aD Z w.heap.size [aP]) aP:=p.mz bU (u.call (M:=[aP]) (Nat.le_refl _) (B4 ⟨.inr (hw aI 0),trivial⟩) (Cx (L:=[c]) (y:=aP) 0 (gm 0)));refine wn ?_;rcases Ae (aU.1) with aG|aG
    ·replace a:=Au a aG;refine Ai rfl aG<|cr<|wM (v:=I d) rfl<|wA (v:=I d) rfl<|wn<|Al<|CV<|AG ?_;obtain rfl:=oi a;refine BO (fun st=>?_);exact .inl ⟨rfl,(d,aU.2),rfl,aP,qo st,sp st 4 rfl,a3,aV⟩
    ·replace a:=Av a aG;refine Aw rfl aG<|Cu<|Dt<|Aq ?_;replace a:=AY a;obtain⟨bV,a⟩:=a;refine wD (fun st=>BX (ee st x) (eR st) bV)<|wM (v:=I (d+1)) rfl<|Bs ?_;have aQ:=(q.mv (u.FB a2 (AE [0] ⟨rfl,trivial⟩ (fun _ h=>h)) 0 rfl (fun k bY=>(aI k bY).1)));refine BJ bB (Nat.lt_succ_self _) (fun st=>?_);exact⟨(d+1),aU.2,aP,a,qo st,sp st 0 aK,sp st 1 aL,sp st 7 aM,sp st 8 rfl,a3,aV,aQ⟩
   ·replace a:=Av a aF;refine Aw rfl aF<|D9 ?_;obtain rfl:=oi a;refine BO (fun st=>?_);exact .inr ⟨rfl,j,rfl,c,qo st,u,aN⟩
 case bK=>
  rintro bA bZ b5 (⟨rfl,o,rfl,g,aA,aW,r,aB⟩|⟨rfl,o,rfl,i,aA,r,aB⟩)
  ·skip
   replace a:=Dc a;refine lf aA<|CV ?_;obtain rfl:=oi a;refine Ax rfl aW ?_;exact⟨g,aT _ r.fin,rfl,r.mq 0 [] (M:=[]) trivial aZ,p.mz aB (AH (Bi [0] ⟨rfl,trivial⟩))⟩
  ·skip
   replace a:=Dd a;refine lf aA<|Bm<|BU<|cr<|wA (v:=I (-1)) rfl<|wn<|Al ?_;obtain rfl:=oi a;refine Ax rfl rfl ?_;exact⟨i,aT _ r.fin,rfl,r.mq 0 [] (M:=[]) trivial aZ,p.mz aB (AH (Bi [0] ⟨rfl,trivial⟩))⟩
theorem YV{p:Type}{f:Nat→Prop}{aH:Nat}{q:IT p}{s:p→Cq→Option (Bool×p)} aI m(x:p) c d(i:Value) a(Z:Nat→Prop) w(e:Cb Tryz.prog i f aH q (v1 (CO AI)) Bw s)(aJ:aH≤w.heap.size)(aK:By f [a] w)(aL:∀b,Z b→¬f b∧some b∉[a])(r:Sl AI w Z c d m)(aR:q x w Z a) z(j:Gr aI s m x=some z):
 BN Tryz.prog 197 #[.slice c m.length d,i] w (fun v w'=>∃o',BC (FU f [a]) w w'∧Bw.R w' (zf Z w [o']) v z.1∧(∀k,o'=some k→(a=some k∨w.heap.size≤k)∧k<w'.heap.size)∧q z.2 w' (zf Z w [o']) o'):=by
 unfold Gr at j;refine rq (N:=9) Tryz.func197 fun aS aA aT=>?_;have aB:=sA 0 aA;have aC:=sA 1 aA;clear aA;obtain⟨aM,aN,g,t,aD⟩:=GZ aK aL;have l:=r.mv (AJ (L:=[a]) t w);have aE:=e.mz aR (AJ (L:=[a]) t w);refine cr<|wA (v:=.bool false) rfl<|wr<|wM (v:=.slice c m.length d) aB<|wM (v:=i) aC ?_;replace j:=bind_some j;obtain⟨aF,aO,j⟩:=j;refine wE (fun st=>Ar Vf (eR st) (Cr (eR st) (eR st)) (YU aI m x c d i a (ZZ f aM Z w.heap.size [a]) _ e (Nat.le_trans aJ g.sz) (g.Cn (F':=f) (M:=[a]) (C:=[]) [0] [] rfl ⟨rfl,trivial⟩ trivial (fun _ h=>.inl h)) (g.zz (F':=f) (M:=[a]) (C:=[]) [0] [] ⟨rfl,trivial⟩ trivial (fun _ h=>.inl h)) l aE aF aO)) ?_;rintro _ w2 ⟨n,aP,rfl,o,aQ⟩;have u:=g.DF aP (AE [0] ⟨rfl,trivial⟩ (fun _ h=>h)) 0 rfl o;have aG:q aF.2 w2 (ZZ f aM Z w.heap.size [n]) n:=e.mz aQ (g.call (M:=[n]) (Nat.le_refl _) (B4 ⟨.inr (hw o 0),trivial⟩) (Cx (L:=[a]) (y:=n) 0 (gm 0)));refine wD (fun st=>HW (eR st) (eR st))<|wA (v:=.bool (decide ((0:Int)≤aF.1))) rfl<|wn<|Al ?_;obtain rfl:=oi j;refine Ax rfl rfl ?_;exact⟨n,aD _ u.fin,rfl,u.mq 0 [] (M:=[]) trivial aN,e.mz aG (AH (Bi [0] ⟨rfl,trivial⟩))⟩
theorem a167{z:Type}{f:Nat→Prop}{bA:Nat}{aA:IT z}{aE:z→Cq→Option (Bool×z)} aJ aF(aK:z) l m(i:Value) d(Z:Nat→Prop) w(c:Cb Tryz.prog i f bA aA (v1 (CO AI)) Bw aE)(bB:bA≤w.heap.size)(bC:By f [d] w)(bD:∀b,Z b→¬f b∧some b∉[d])(aL:Sl AI w Z l m aF)(s:aA aK w Z d) aQ(aB:HZ aJ aE aF aK=some aQ):
 BN Tryz.prog 167 #[.slice l aF.length m,i] w (fun v w'=>∃o',BC (FU f [d]) w w'∧Bw.R w' (zf Z w [o']) v aQ.1∧(∀k,o'=some k→(d=some k∨w.heap.size≤k)∧k<w'.heap.size)∧aA aQ.2 w' (zf Z w [o']) o'):=by
 unfold HZ at aB;refine rq (N:=9) Tryz.func167 fun bT aR bU=>?_;have aS:=sA 0 aR;have aT:=sA 1 aR;clear aR;obtain⟨aU,bE,aG,aM,aV⟩:=GZ bC bD;have aC:=aL.mv (AJ (L:=[d]) aM w);have aW:=c.mz s (AJ (L:=[d]) aM w);refine cr<|wE (fun st=>BI (v:=i) (cs:= #[i]) (ee st aT) c.fc) ?_;rintro _ w1 ⟨a,rfl,j⟩;have e:=aG.nb j;have bM:=aG.BD j;refine wA (v:=.bool false) rfl<|wr<|wM (v:=.slice l aF.length m) aS<|wD (fun st=>CH (vs:= #[]) (us:= #[pt a 0]) GF (Cl (eR st))) ?_;have aN:=e.Cn (F':=f) (M:=[some a]) (C:=[]) [0] [] rfl ⟨rfl,trivial⟩ trivial (fun k p=>.inl ((fun _ h=>h) k p));have aX:Cb Tryz.prog (.func (.func 198) #[] #[pt a 0]) (FU f [some a]) w1.heap.size (fun(st:z) aY bN o=>(∀k,o=some k→k<aY.heap.size∧¬(FU f [some a]) k)∧Bk aY a 212 #[i]∧aA st aY bN o) (v1 (CO AI)) Bw (fun(st:z) (x:Cq)=>(Gq aJ aE x st).bind fun r=>some (r.1,r.2)):=by
  refine⟨rfl,rfl,e.HS [0] ⟨rfl,trivial⟩ (fun _ h=>h),?_,?_,?_⟩
  ·intro st x r w1 aZ bF o vs a0 a2 t s a3 bO;obtain⟨g,n,u⟩:=s;obtain⟨_,rfl,⟨_,rfl,rfl⟩⟩:=a3;obtain⟨bP,bQ,bR⟩:=bind_some bO;obtain rfl:=Option.some.inj bR;refine(DY Vg rfl (a198 aJ x st a i o aZ bF w1 c (Nat.le_trans bB (Nat.le_trans e.sz a0)) ((aN.grow a0).snoc g) (fun b q=>Dj (t b (a2 b q)).1 (t b (a2 b q)).2) a2 (fun b q=>Dj (t b q).1 (t b q).2) n u bP bQ)).mono ?_;rintro v w2 ⟨o',a3,a4,a5,aO,bG⟩;exact⟨o',a3.lf,aO,a4,⟨aN.keep a0 g aO,a5,c.mz bG Ix⟩⟩
  ·intro st w1 w2 aZ bV o s hm q;obtain⟨g,n,u⟩:=s;exact⟨fun k p=>⟨Nat.lt_of_lt_of_le (g k p).1 hm.size,(g k p).2⟩,n.Gj (q a (.inl (.inr (gm 0)))),c.JZ _ _ _ _ _ _ u hm (fun b bH=>q b (bH.imp .inl id))⟩
  ·intro st w1 aZ o s k p;obtain⟨g,n,u⟩:=s;exact g k p
 have aD:=(aC.mv (As j));replace aB:=bind_some aB;obtain⟨a6,bI,aB⟩:=aB;have a7:aA aK w1 (ZZ f aU Z w.heap.size [some a,d]) d:=(c.me aW aG j.gr (As j));refine wE (fun st=>Ar Vh (eR st) (Cr (eR st) (eR st)) (YV aJ aF aK l m (.func (.func 198) #[] #[pt a 0]) d (ZZ f aU Z w.heap.size [some a,d]) _ aX (Nat.le_refl _) (e.Cn (F':=(FU f [some a])) (M:=[d]) (C:=[some a]) [1] [0] rfl ⟨rfl,trivial⟩ ⟨rfl,trivial⟩ (Ca (fun _ h=>h))) (e.zz (F':=(FU f [some a])) (M:=[d]) (C:=[some a]) [1] [0] ⟨rfl,trivial⟩ ⟨rfl,trivial⟩ (Ca (fun _ h=>h))) aD ⟨(fun k p=>e.LL 1 (by rw[←p];rfl) [0] rfl ⟨rfl,trivial⟩),j.bk,a7⟩ a6 bI)) ?_;rintro _ bS ⟨aH,bJ,rfl,aI,bK⟩;obtain⟨-,bL,a8⟩:=bK;have aP:=e.DF (BC.cl (M1:=[some a]) (M2:=[d]) bJ) (AE [0,1] ⟨rfl,rfl,trivial⟩ (fun _ h=>h)) 1 rfl aI;have a9:aA a6.2 bS (ZZ f aU Z w.heap.size [some a,aH]) aH:=c.mz a8 (e.call (M:=[aH]) (Nat.le_refl _) (B4 ⟨.inr (hw aI 1),trivial⟩) (Cx (L:=[some a,d]) (y:=aH) 1 (gm 0)));refine wD (fun st=>Ch (eR st))<|wA (v:=.bool !a6.1) rfl<|wn<|Al ?_;obtain rfl:=oi aB;refine Ax rfl rfl ?_;exact⟨aH,aV _ aP.fin,rfl,aP.mq 1 [] (M:=[]) trivial bE,c.mz a9 (AH (Bi [1] ⟨rfl,trivial⟩))⟩
theorem YW{n:Type}{d:Nat→Prop}{aH:Nat}{o:IT n}{q:n→Int→Option (Bool×n)} aQ j(u:n) a(g:Value) c(Z Za:Nat→Prop) w(e:Cb Tryz.prog g d aH o (v1 (Dq .i64)) Bw q)(aI:aH≤w.heap.size)(aJ:By d [some a,c] w)(aK:∀b,Z b→¬d b∧some b∉[some a,c])(aR:∀b,Z b→Za b)(x:∀b,Za b→¬d b∧some b∉[some a,c])(r:Bk w a 142 #[g])(aS:o u w Z c) z(i:G8 aQ q j u=some z):
 BN Tryz.prog 231 #[I j,pt a 0] w (fun v w'=>∃o',BC (FU d [some a,c]) w w'∧Bw.R w' (zf Z w [some a,o']) v z.1∧Bk w' a 142 #[g]∧(∀k,o'=some k→(c=some k∨w.heap.size≤k)∧k<w'.heap.size)∧o z.2 w' (zf Z w [some a,o']) o'):=by
 unfold G8 at i;refine rq (N:=8) Tryz.func231 fun aU aA aV=>?_;have aB:=sA 0 aA;have aC:=sA 1 aA;clear aA;obtain⟨aL,aM,f,aN,aT,aD⟩:=IS aJ aK x;have aE:=e.mz aS (AJ (L:=[some a,c]) aN w);refine cr<|wA (v:=.bool false) rfl<|wr<|wD (fun st=>Af (v:=g) Jb (ee st aC) r rfl)<|wM (v:=I j) aB ?_;replace i:=bind_some i;obtain⟨aF,aO,i⟩:=i;refine wE (fun st=>EE (e.call u j aF _ (ZZ d aL Z w.heap.size [some a,c]) (ZC d [c]) c #[I j] (Nat.le_trans aI f.sz) (f.zz (F':=d) (M:=[c]) (C:=[]) [1] [] ⟨rfl,trivial⟩ trivial (fun _ h=>.inl h)) HE aE ⟨_,rfl,rfl⟩ aO) (eR st) (Cl (eR st))) ?_;rintro _ w2 ⟨l,s,m,rfl,aP⟩;have t:=f.DF s (AE [1] ⟨rfl,trivial⟩ (fun _ h=>h)) 1 rfl m;have aG:o aF.2 w2 (ZZ d aL Z w.heap.size [some a,l]) l:=e.mz aP (f.call (M:=[l]) (Nat.le_refl _) (B4 ⟨.inr (hw m 1),trivial⟩) (Cx (L:=[some a,c]) (y:=l) 1 (gm 0)));refine wD (fun st=>Ch (eR st))<|wA (v:=.bool !aF.1) rfl<|wn<|Al ?_;obtain rfl:=oi i;refine Ax rfl rfl ?_;have p:=(r.B1 s (f.Cf 0 rfl [1] rfl ⟨rfl,trivial⟩ (fun _ h=>h)));exact⟨l,aD _ t.fin,rfl,p,t.mq 1 [0] (M:=[some a]) ⟨rfl,trivial⟩ aM,e.mz aG (AH (Bi [0,1] ⟨rfl,rfl,trivial⟩))⟩
theorem YX{aV:Type}{e:Nat→Prop}{bC:Nat}{aF:IT aV}{aP:aV→Int→Option (Bool×aV)} bD r(a2:aV) l m(aH:Value) aA(Z:Nat→Prop) w(o:Cb Tryz.prog aH e bC aF (v1 (Dq .i64)) Bw aP)(bE:bC≤w.heap.size)(bF:By e [aA] w)(bG:∀b,Z b→¬e b∧some b∉[aA])(aW:Sl (Am .i64) w Z l m r)(bV:aF a2 w Z aA) a3(a:HG bD aP r a2=some a3):
 BN Tryz.prog 207 #[.slice l r.length m,aH] w (fun v w'=>∃o',BC (FU e [aA]) w w'∧(Dq .i64).R w' (zf Z w [o']) v a3.1∧(∀k,o'=some k→(aA=some k∨w.heap.size≤k)∧k<w'.heap.size)∧aF a3.2 w' (zf Z w [o']) o'):=by
 unfold HG at a;refine rq (N:=19) Tryz.func207 fun bZ a4 b1=>?_;have aQ:=sA 0 a4;have a5:=sA 1 a4;clear a4;obtain⟨aB,aX,bH,aY,aR⟩:=GZ bF bG;have aM:=aW.mv (AJ (L:=[aA]) aY w);have a6:=o.mz bV (AJ (L:=[aA]) aY w);refine cr<|wA (v:=I 0) rfl<|wn<|Ag<|cr<|wM (v:=.slice l r.length m) aQ<|wD (fun st=>Bx Tryz.underlying31 (eR st))<|wM (v:=I 0) rfl<|wn<|AQ ?_;replace a:=bind_some a;obtain⟨a7,s,a⟩:=a;refine B7 (fun a8 f aC=>(a8=.ret∧∃n,a7=.inl n∧∃g,Fo X0 19 f∧sl f 4=I n.1∧Hp e aB w [g] aC∧aF n.2 aC (ZZ e aB Z w.heap.size [g]) g)∨(a8=.exit 0∧∃n,a7=.inr n∧∃i,Fo X0 19 f∧Hp e aB w [i] aC∧aF n aC (ZZ e aB Z w.heap.size [i]) i)) ?bI ?bJ
 case bI=>
  clear a;refine B6 (fun a9 f aC=>∃d,∃j,∃c,EN aP r a9 d j=some a7∧Fo X0 19 f∧sl f 0=.slice l r.length m∧sl f 1=aH∧sl f 7=I (r.length:Int)∧sl f 8=I d∧Hp e aB w [c] aC∧(fun bK=>aF j aC bK c∧Sl (Am .i64) aC bK l m r) (ZZ e aB Z w.heap.size [c])) bD ?bL ?bM
  case bL=>
   intro st;exact⟨(0:Int),a2,aA,s,qo st,sp st 0 aQ,sp st 1 a5,sp st 7 rfl,sp st 8 rfl,bH,a6,aM⟩
  case bM=>
   rintro(_|a9) b2 b3 ⟨d,j,c,s,bA,aI,aJ,aK,u,t,aL,p⟩
   ·exact absurd (show none=some _ from s) (by simp)
   rw[EN.eq_2] at s;have a:=s;clear s;refine ro bA<|cr<|wD (fun st=>CA (ee st u) (ee st aK))<|wn<|Ag ?_;rcases Ae (decide (d<(r.length:Int))) with aD|aD
   ·replace a:=Au a aD;refine Ai rfl aD<|cn<|Ag<|AQ<|cr<|wM (v:=I d) u<|wA (v:=I d) rfl<|wr<|wM (v:=aH) aJ<|wM (v:=.slice l r.length m) aI<|wM (v:=I d) rfl ?_;replace a:=Bo a;obtain⟨i3,bB,bN,bO,bP,a⟩:=a;obtain⟨b5,b6,_,bQ,rfl,bR⟩:=Sl.DP p rfl bO;refine wD (fun st=>B3 (k:=i3) Tryz.underlying31 DG (eR st) bQ (eR st) bN bP)<|wD (fun st=>B2 (v:=I bB) Bp (eR st) bR rfl) ?_;replace a:=bind_some a;obtain⟨aS,bS,a⟩:=a;refine wE (fun st=>EE (o.call j bB aS _ (ZZ e aB Z w.heap.size [c]) (ZC e [c]) c #[I bB] (Nat.le_trans bE t.sz) (t.zz (F':=e) (M:=[c]) (C:=[]) [0] [] ⟨rfl,trivial⟩ trivial (fun _ h=>.inl h)) HE aL ⟨_,rfl,rfl⟩ bS) (eR st) (Cl (eR st))) ?_;rintro _ bW ⟨aN,aZ,aG,rfl,bT⟩;have a0:=t.DF aZ (AE [0] ⟨rfl,trivial⟩ (fun _ h=>h)) 0 rfl aG;have aT:aF aS.2 bW (ZZ e aB Z w.heap.size [aN]) aN:=o.mz bT (t.call (M:=[aN]) (Nat.le_refl _) (B4 ⟨.inr (hw aG 0),trivial⟩) (Cx (L:=[c]) (y:=aN) 0 (gm 0)));refine wn ?_;rcases Ae (aS.1) with aE|aE
    ·replace a:=Au a aE;refine Ai rfl aE<|cr<|wM (v:=I d) rfl<|wA (v:=I d) rfl<|wn<|Al<|CV<|AG ?_;obtain rfl:=oi a;refine BO (fun st=>?_);exact .inl ⟨rfl,(d,aS.2),rfl,aN,qo st,sp st 4 rfl,a0,aT⟩
    ·replace a:=Av a aE;refine Aw rfl aE<|Cu<|Dt<|Aq ?_;replace a:=AY a;obtain⟨bU,a⟩:=a;refine wD (fun st=>BX (ee st u) (eR st) bU)<|wM (v:=I (d+1)) rfl<|Bs ?_;have aO:=(p.mv (t.FB aZ (AE [0] ⟨rfl,trivial⟩ (fun _ h=>h)) 0 rfl (fun k bX=>(aG k bX).1)));refine BJ a9 (Nat.lt_succ_self _) (fun st=>?_);exact⟨(d+1),aS.2,aN,a,qo st,sp st 0 aI,sp st 1 aJ,sp st 7 aK,sp st 8 rfl,a0,aT,aO⟩
   ·replace a:=Av a aD;refine Aw rfl aD<|D9 ?_;obtain rfl:=oi a;refine BO (fun st=>?_);exact .inr ⟨rfl,j,rfl,c,qo st,t,aL⟩
 case bJ=>
  rintro a8 bY b4 (⟨rfl,n,rfl,g,x,aU,q,z⟩|⟨rfl,n,rfl,i,x,q,z⟩)
  ·skip
   replace a:=Dc a;refine lf x<|CV ?_;obtain rfl:=oi a;refine Ax rfl aU ?_;exact⟨g,aR _ q.fin,rfl,q.mq 0 [] (M:=[]) trivial aX,o.mz z (AH (Bi [0] ⟨rfl,trivial⟩))⟩
  ·skip
   replace a:=Dd a;refine lf x<|Bm<|BU<|cr<|wA (v:=I (-1)) rfl<|wn<|Al ?_;obtain rfl:=oi a;refine Ax rfl rfl ?_;exact⟨i,aR _ q.fin,rfl,q.mq 0 [] (M:=[]) trivial aX,o.mz z (AH (Bi [0] ⟨rfl,trivial⟩))⟩
theorem XP{p:Type}{f:Nat→Prop}{aH:Nat}{q:IT p}{s:p→Int→Option (Bool×p)} aI m(x:p) c d(i:Value) a(Z:Nat→Prop) w(e:Cb Tryz.prog i f aH q (v1 (Dq .i64)) Bw s)(aJ:aH≤w.heap.size)(aK:By f [a] w)(aL:∀b,Z b→¬f b∧some b∉[a])(r:Sl (Am .i64) w Z c d m)(aR:q x w Z a) z(j:FL aI s m x=some z):
 BN Tryz.prog 187 #[.slice c m.length d,i] w (fun v w'=>∃o',BC (FU f [a]) w w'∧Bw.R w' (zf Z w [o']) v z.1∧(∀k,o'=some k→(a=some k∨w.heap.size≤k)∧k<w'.heap.size)∧q z.2 w' (zf Z w [o']) o'):=by
 unfold FL at j;refine rq (N:=9) Tryz.func187 fun aS aA aT=>?_;have aB:=sA 0 aA;have aC:=sA 1 aA;clear aA;obtain⟨aM,aN,g,t,aD⟩:=GZ aK aL;have l:=r.mv (AJ (L:=[a]) t w);have aE:=e.mz aR (AJ (L:=[a]) t w);refine cr<|wA (v:=.bool false) rfl<|wr<|wM (v:=.slice c m.length d) aB<|wM (v:=i) aC ?_;replace j:=bind_some j;obtain⟨aF,aO,j⟩:=j;refine wE (fun st=>Ar Vi (eR st) (Cr (eR st) (eR st)) (YX aI m x c d i a (ZZ f aM Z w.heap.size [a]) _ e (Nat.le_trans aJ g.sz) (g.Cn (F':=f) (M:=[a]) (C:=[]) [0] [] rfl ⟨rfl,trivial⟩ trivial (fun _ h=>.inl h)) (g.zz (F':=f) (M:=[a]) (C:=[]) [0] [] ⟨rfl,trivial⟩ trivial (fun _ h=>.inl h)) l aE aF aO)) ?_;rintro _ w2 ⟨n,aP,rfl,o,aQ⟩;have u:=g.DF aP (AE [0] ⟨rfl,trivial⟩ (fun _ h=>h)) 0 rfl o;have aG:q aF.2 w2 (ZZ f aM Z w.heap.size [n]) n:=e.mz aQ (g.call (M:=[n]) (Nat.le_refl _) (B4 ⟨.inr (hw o 0),trivial⟩) (Cx (L:=[a]) (y:=n) 0 (gm 0)));refine wD (fun st=>HW (eR st) (eR st))<|wA (v:=.bool (decide ((0:Int)≤aF.1))) rfl<|wn<|Al ?_;obtain rfl:=oi j;refine Ax rfl rfl ?_;exact⟨n,aD _ u.fin,rfl,u.mq 0 [] (M:=[]) trivial aN,e.mz aG (AH (Bi [0] ⟨rfl,trivial⟩))⟩
theorem YY{z:Type}{f:Nat→Prop}{bA:Nat}{aA:IT z}{aE:z→Int→Option (Bool×z)} aJ aF(aK:z) l m(i:Value) d(Z:Nat→Prop) w(c:Cb Tryz.prog i f bA aA (v1 (Dq .i64)) Bw aE)(bB:bA≤w.heap.size)(bC:By f [d] w)(bD:∀b,Z b→¬f b∧some b∉[d])(aL:Sl (Am .i64) w Z l m aF)(s:aA aK w Z d) aQ(aB:II aJ aE aF aK=some aQ):
 BN Tryz.prog 219 #[.slice l aF.length m,i] w (fun v w'=>∃o',BC (FU f [d]) w w'∧Bw.R w' (zf Z w [o']) v aQ.1∧(∀k,o'=some k→(d=some k∨w.heap.size≤k)∧k<w'.heap.size)∧aA aQ.2 w' (zf Z w [o']) o'):=by
 unfold II at aB;refine rq (N:=9) Tryz.func219 fun bT aR bU=>?_;have aS:=sA 0 aR;have aT:=sA 1 aR;clear aR;obtain⟨aU,bE,aG,aM,aV⟩:=GZ bC bD;have aC:=aL.mv (AJ (L:=[d]) aM w);have aW:=c.mz s (AJ (L:=[d]) aM w);refine cr<|wE (fun st=>BI (v:=i) (cs:= #[i]) (ee st aT) c.fc) ?_;rintro _ w1 ⟨a,rfl,j⟩;have e:=aG.nb j;have bM:=aG.BD j;refine wA (v:=.bool false) rfl<|wr<|wM (v:=.slice l aF.length m) aS<|wD (fun st=>CH (vs:= #[]) (us:= #[pt a 0]) GF (Cl (eR st))) ?_;have aN:=e.Cn (F':=f) (M:=[some a]) (C:=[]) [0] [] rfl ⟨rfl,trivial⟩ trivial (fun k p=>.inl ((fun _ h=>h) k p));have aX:Cb Tryz.prog (.func (.func 231) #[] #[pt a 0]) (FU f [some a]) w1.heap.size (fun(st:z) aY bN o=>(∀k,o=some k→k<aY.heap.size∧¬(FU f [some a]) k)∧Bk aY a 142 #[i]∧aA st aY bN o) (v1 (Dq .i64)) Bw (fun(st:z) (x:Int)=>(G8 aJ aE x st).bind fun r=>some (r.1,r.2)):=by
  refine⟨rfl,rfl,e.HS [0] ⟨rfl,trivial⟩ (fun _ h=>h),?_,?_,?_⟩
  ·intro st x r w1 aZ bF o vs a0 a2 t s a3 bO;obtain⟨g,n,u⟩:=s;obtain⟨_,rfl,rfl⟩:=a3;obtain⟨bP,bQ,bR⟩:=bind_some bO;obtain rfl:=Option.some.inj bR;refine(DY Vj rfl (YW aJ x st a i o aZ bF w1 c (Nat.le_trans bB (Nat.le_trans e.sz a0)) ((aN.grow a0).snoc g) (fun b q=>Dj (t b (a2 b q)).1 (t b (a2 b q)).2) a2 (fun b q=>Dj (t b q).1 (t b q).2) n u bP bQ)).mono ?_;rintro v w2 ⟨o',a3,a4,a5,aO,bG⟩;exact⟨o',a3.lf,aO,a4,⟨aN.keep a0 g aO,a5,c.mz bG Ix⟩⟩
  ·intro st w1 w2 aZ bV o s hm q;obtain⟨g,n,u⟩:=s;exact⟨fun k p=>⟨Nat.lt_of_lt_of_le (g k p).1 hm.size,(g k p).2⟩,n.Gj (q a (.inl (.inr (gm 0)))),c.JZ _ _ _ _ _ _ u hm (fun b bH=>q b (bH.imp .inl id))⟩
  ·intro st w1 aZ o s k p;obtain⟨g,n,u⟩:=s;exact g k p
 have aD:=(aC.mv (As j));replace aB:=bind_some aB;obtain⟨a6,bI,aB⟩:=aB;have a7:aA aK w1 (ZZ f aU Z w.heap.size [some a,d]) d:=(c.me aW aG j.gr (As j));refine wE (fun st=>Ar QN (eR st) (Cr (eR st) (eR st)) (XP aJ aF aK l m (.func (.func 231) #[] #[pt a 0]) d (ZZ f aU Z w.heap.size [some a,d]) _ aX (Nat.le_refl _) (e.Cn (F':=(FU f [some a])) (M:=[d]) (C:=[some a]) [1] [0] rfl ⟨rfl,trivial⟩ ⟨rfl,trivial⟩ (Ca (fun _ h=>h))) (e.zz (F':=(FU f [some a])) (M:=[d]) (C:=[some a]) [1] [0] ⟨rfl,trivial⟩ ⟨rfl,trivial⟩ (Ca (fun _ h=>h))) aD ⟨(fun k p=>e.LL 1 (by rw[←p];rfl) [0] rfl ⟨rfl,trivial⟩),j.bk,a7⟩ a6 bI)) ?_;rintro _ bS ⟨aH,bJ,rfl,aI,bK⟩;obtain⟨-,bL,a8⟩:=bK;have aP:=e.DF (BC.cl (M1:=[some a]) (M2:=[d]) bJ) (AE [0,1] ⟨rfl,rfl,trivial⟩ (fun _ h=>h)) 1 rfl aI;have a9:aA a6.2 bS (ZZ f aU Z w.heap.size [some a,aH]) aH:=c.mz a8 (e.call (M:=[aH]) (Nat.le_refl _) (B4 ⟨.inr (hw aI 1),trivial⟩) (Cx (L:=[some a,d]) (y:=aH) 1 (gm 0)));refine wD (fun st=>Ch (eR st))<|wA (v:=.bool !a6.1) rfl<|wn<|Al ?_;obtain rfl:=oi aB;refine Ax rfl rfl ?_;exact⟨aH,aV _ aP.fin,rfl,aP.mq 1 [] (M:=[]) trivial bE,c.mz a9 (AH (Bi [1] ⟨rfl,trivial⟩))⟩
end Go.Proofs.YtbhofkcbfblijaaGreat
end
