import Derived.Test.YtbhofkcbfblijaaGreatCH1
import Derived.WalkKit
import Derived.KernelRfl
import Derived.WalkSpells
import Derived.WalkLawsBesides
import Derived.Maps.AppendAt
import Derived.OrdersIn
import Derived.RangeFuncIn
import Derived.RangeFuncLeaves
import Derived.RangeFuncRecord
import Derived.RangeFuncSeq
import Derived.Scope
import Derived.DeepKeys3
import Derived.Laws.CopyRow
import Derived.Laws.OwnMore
import Derived.Laws.MakeOwn
import Derived.Laws.IdiomCopy
import Derived.Sort.OwnSortedInts
import Derived.Lib.RowBridge
import Derived.Test.YtbhofkcbfblijaaGreatProg
/-
  The contracts of the functions of the program and of the reference, and the logic that they are proved in: the base that several claims of this seat share.
-/
set_option linter.all false
section
namespace Go.Proofs.YtbhofkcbfblijaaGreat
open Go.RowKit Go.WideShapes
def Hw(a:Nat)(b:Ah)(e:Bool):Option ((Option CZ)×Int):=
 (Jo a b).bind fun c=>cond (c !=0) (some (((none:Option CZ),c))) (cond (!e) (some (((none:Option CZ),2))) ((LB a b).bind fun d=>cond ((d.Dg.length:Int)==0) (some (((none:Option CZ),11))) (some (((some d),0)))))
def Cw(c:Nat)(e:Ah)(f:Bool):Option ((Option CZ)×Int):=
 (Hw c e f).bind fun b=>Option.elim b.1 (cond (b.2 !=0) (some (((none:Option CZ),b.2))) (none)) (fun a=>cond (b.2 !=0) (some (((none:Option CZ),b.2))) ((CF c a ([]:List Int)).bind fun d=>cond (!d.1) (some (((none:Option CZ),9))) (some (((some (⟨a.AX,a.AY,a.AT,a.CV,a.Bx,a.Bw,a.BT,a.weights,a.Dg,d.2⟩:CZ)),0)))))
def B6{e:Type}(i:e→BA→Option (Int×e))(j:Nat)(c:Int)(d:Int)(a:Bool)(f:e)(k:BA×BA):Option (Bool×(Int×Int×Bool×e)):=
 (i f k.2).bind fun b=>cond (a) ((Fe j (⟨b.1,b.1⟩:Bl) b.1).bind fun g=>some (true,g.Lo,g.Hi,false,b.2)) ((Fe j (⟨c,d⟩:Bl) b.1).bind fun h=>some (true,h.Lo,h.Hi,a,b.2))
def Ey{a:Type}(c:Nat)(d:a→BA→Option (Int×a))(e:CZ)(f:a):Option (Bl×(List (List Int×Int))×a):=
 (Ji c (fun(st:Int×Int×Bool×a) (x:BA×BA)=>B6 d c st.1 st.2.1 st.2.2.1 st.2.2.2 x) e ([]:List Int) ((0:Int),(0:Int),true,f)).bind fun b=>some (((⟨b.2.1,b.2.2.1⟩:Bl),b.1,b.2.2.2.2))
def Fw(c:Nat)(a:BA)(b:Int):Option (Int):=
 (idx ([a.a0,a.a1,a.a2]:List Int) b).bind fun x2=>some (x2)
def E8(f:Nat)(b:CZ):Nat→(List Bl)→Int→(List (List Int×Int))→Option ((List Bl)×(List (List Int×Int)))
 |0,_,_,_=>none
 |g+1,d,a,c=>cond (decide (a<(b.weights.length:Int))) ((Ey f (fun(st:Unit) (x:BA)=>(Fw f x a).bind fun r=>some (r,())) (⟨b.AX,b.AY,b.AT,b.CV,b.Bx,b.Bw,b.BT,b.weights,b.Dg,c⟩:CZ) ()).bind fun e=>(Es (((d.length+[e.1].length:Nat):Int)≤140737488355328/16)).bind fun _=>(i64 (a+1)).bind fun _=>E8 f b g (d++[e.1]) (a+1) e.2.1) (some ((d,c)))
def Hm(b:Nat)(d:Ah):Option ((List Bl)×Int):=
 (Cw b d true).bind fun a=>Option.elim a.1 (cond (a.2 !=0) (some ((([]:List Bl),a.2))) (none)) (fun c=>cond (a.2 !=0) (some ((([]:List Bl),a.2))) ((E8 b c b ([]:List Bl) (0:Int) c.known).bind fun e=>some ((e.1,0))))
def Ex(d:Nat)(a:Int)(b:Int)(c:Int):Option (Bool×Int):=
 (i64 (b+1)).bind fun _=>(i64 (c-1)).bind fun _=>(HM d a (b+1) (c-1)).bind fun e=>some ((e,a))
def FH(a:Nat)(b:List Int)(c:Int):Option (Bool):=
 (Ja a (fun(st:Int) (x:Int)=>(Ex a x st c).bind fun r=>some (r.1,r.2)) b (-1)).bind fun d=>some (d.1)
def C1(e:Nat)(d:BA)(c:CZ)(f:List Int):Nat→Int→Int→Option (Int)
 |0,_,_=>none
 |h+1,b,a=>cond (decide (a<(c.weights.length:Int))) ((idx c.weights a).bind fun g=>(G1 e f a).bind fun j=>cond (j) ((idx ([d.a0,d.a1,d.a2]:List Int) a).bind fun i=>(i64 (b+i)).bind fun _=>(i64 (a+1)).bind fun _=>C1 e d c f h (b+i) (a+1)) ((i64 (g*c.CV)).bind fun _=>(i64 (b+(g*c.CV))).bind fun _=>(i64 (a+1)).bind fun _=>C1 e d c f h (b+(g*c.CV)) (a+1))) (some (b))
def Dl(a:Nat)(b:BA)(c:CZ)(d:List Int):Option (Int):=
 (C1 a b c d a (0:Int) (0:Int)).bind fun z2=>some (z2)
def D5(a:Nat)(b:CZ)(d:List Int):Option (Bl×(List (List Int×Int))):=
 (Ey a (fun(st:Unit) (x:BA)=>(Dl a x b d).bind fun r=>some (r,())) b ()).bind fun c=>some ((c.1,c.2.1))
def F7(b:Nat)(c:Ah)(d:List Int):Option (Bl×Int):=
 (FH b d (c.Ab.length:Int)).bind fun f=>(Cw b c f).bind fun a=>Option.elim a.1 (cond (a.2 !=0) (some (((⟨0,0⟩:Bl),a.2))) (none)) (fun g=>cond (a.2 !=0) (some (((⟨0,0⟩:Bl),a.2))) ((D5 b g d).bind fun e=>some ((e.1,0))))
def Ed(f:(List Int)→Int→CZ→Int→(List Int)→Option ((List (List Int×Int))×Int×(List Int)))(h:List Int)(b:CZ):Nat→Int→Int→(List Int)→(List (List Int×Int))→Option (Int×(List Int)×(List (List Int×Int)))
 |0,_,_,_,_=>none
 |i+1,a,c,d,e=>cond (decide (a<(b.weights.length:Int))) ((Es (((0+h.length:Nat):Int)≤140737488355328/8)).bind fun _=>(Es (((h.length+[a].length:Nat):Int)≤140737488355328/8)).bind fun _=>(i64 (a+1)).bind fun _=>(f (h++[a]) (a+1) (⟨b.AX,b.AY,b.AT,b.CV,b.Bx,b.Bw,b.BT,b.weights,b.Dg,e⟩:CZ) c d).bind fun g=>(i64 (a+1)).bind fun _=>Ed f h b i (a+1) g.2.1 g.2.2 g.1) (some ((c,d,e)))
def IF(f:(List Int)→Int→CZ→Int→(List Int)→Option ((List (List Int×Int))×Int×(List Int)))(h:List Int)(b:CZ):Nat→Int→Int→(List Int)→(List (List Int×Int))→Option (Int×(List Int)×(List (List Int×Int)))
 |0,_,_,_,_=>none
 |i+1,a,c,d,e=>cond (decide (a<(b.weights.length:Int))) ((Es (((0+h.length:Nat):Int)≤140737488355328/8)).bind fun _=>(Es (((h.length+[a].length:Nat):Int)≤140737488355328/8)).bind fun _=>(i64 (a+1)).bind fun _=>(f (h++[a]) (a+1) (⟨b.AX,b.AY,b.AT,b.CV,b.Bx,b.Bw,b.BT,b.weights,b.Dg,e⟩:CZ) c d).bind fun g=>(i64 (a+1)).bind fun _=>IF f h b i (a+1) g.2.1 g.2.2 g.1) (some ((c,d,e)))
def EV(a:Nat):Nat→(List Int)→Int→CZ→Int→(List Int)→Option ((List (List Int×Int))×Int×(List Int))
 |0,_,_,_,_,_=>none
 |f+1,b,g,e,h,i=>(D5 a e b).bind fun d=>cond (decide (h<d.1.Lo)) ((Es (((0+b.length:Nat):Int)≤140737488355328/8)).bind fun _=>(Ed (EV a f) b e a g d.1.Lo b d.2).bind fun z9=>some ((z9.2.2,z9.1,z9.2.1))) ((IF (EV a f) b e a g h i d.2).bind fun c=>some ((c.2.2,c.1,c.2.1)))
def J1(c:Nat)(f:Ah):Option ((List Int)×Int×Int):=
 (Cw c f true).bind fun b=>Option.elim b.1 (cond (b.2 !=0) (some ((([]:List Int),0,b.2))) (none)) (fun a=>cond (b.2 !=0) (some ((([]:List Int),0,b.2))) ((D5 c a ([]:List Int)).bind fun d=>(EV c c ([]:List Int) 0 (⟨a.AX,a.AY,a.AT,a.CV,a.Bx,a.Bw,a.BT,a.weights,a.Dg,d.2⟩:CZ) d.1.Lo ([]:List Int)).bind fun e=>some ((e.2.2,e.2.1,0))))
def DI(d:CZ)(e:CH)(f:Int)(a:BA×BA):Option (Bool×Bool):=
 (idx ([a.1.a0,a.1.a1,a.1.a2]:List Int) f).bind fun b=>(idx d.Bx e.Dh).bind fun c=>cond (decide (b<c.BN)) (some (false,true)) (some (true,false))
def EY(e:Nat)(b:CZ)(c:CH)(d:Int):Option (Bool×(List (List Int×Int))):=
 (idx b.weights d).bind fun f=>cond (decide (f<c.Df)) (some ((false,b.known))) ((Ji e (fun(st:Bool) (x:BA×BA)=>cond st none (DI b c d x)) b ([]:List Int) false).bind fun a=>cond (a.2) (some ((false,a.1))) (some ((true,a.1))))
def Dj(f:Nat)(b:CZ)(g:CH):Nat→(List Int)→Int→(List (List Int×Int))→Option ((List Int)×(List (List Int×Int)))
 |0,_,_,_=>none
 |h+1,c,a,d=>cond (decide (a<(b.weights.length:Int))) ((EY f (⟨b.AX,b.AY,b.AT,b.CV,b.Bx,b.Bw,b.BT,b.weights,b.Dg,d⟩:CZ) g a).bind fun e=>cond (e.1) ((Es (((c.length+[a].length:Nat):Int)≤140737488355328/8)).bind fun _=>(i64 (a+1)).bind fun _=>Dj f b g h (c++[a]) (a+1) e.2) ((i64 (a+1)).bind fun _=>Dj f b g h c (a+1) e.2)) (some ((c,d)))
def Dw(e:Nat)(d:CZ):Nat→(List (List Int))→Int→(List (List Int×Int))→Option ((List (List Int))×(List (List Int×Int)))
 |0,_,_,_=>none
 |g+1,c,a,b=>cond (decide (a<(d.Bw.length:Int))) ((idx d.Bw a).bind fun h=>(Dj e d h e ([]:List Int) (0:Int) b).bind fun f=>(Es (((c.length+[f.1].length:Nat):Int)≤140737488355328/24)).bind fun _=>(i64 (a+1)).bind fun _=>Dw e d g (c++[f.1]) (a+1) f.2) (some ((c,b)))
def E5(a:Nat)(b:CZ):Option ((List (List Int))×(List (List Int×Int))):=
 (Dw a b a ([]:List (List Int)) (0:Int) b.known).bind fun c=>some ((c.1,c.2))
def Gg(c:Int→(List (List Int))→(List Int)→Option (Bool×(List Int)))(f:Nat)(e:Int)(g:List (List Int))(x2:List Int):Nat→Int→(List Int)→Option ((Bool×(List Int))⊕((List Int)))
 |0,_,_=>none
 |i+1,b,a=>cond (decide (b<(x2.length:Int))) ((idx x2 b).bind fun h=>(G1 f a h).bind fun j=>cond (j) ((i64 (b+1)).bind fun _=>Gg c f e g x2 i (b+1) a) ((Es (((a.length+[h].length:Nat):Int)≤140737488355328/8)).bind fun _=>(i64 (e+1)).bind fun _=>(c (e+1) g (a++[h])).bind fun d=>cond (d.1) (some (.inl (true,d.2))) ((Ph d.2.length (0:Int) e).bind fun _=>(i64 (b+1)).bind fun _=>Gg c f e g x2 i (b+1) (HL d.2 (0:Int) e)))) (some (.inr a))
def Hn(b:Nat):Nat→Int→(List (List Int))→(List Int)→Option (Bool×(List Int))
 |0,_,_,_=>none
 |f+1,c,d,e=>cond (c==(d.length:Int)) (some ((true,e))) ((idx d c).bind fun x2=>(Gg (Hn b f) b c d x2 b (0:Int) e).bind fun z=>Sum.elim (fun a=>some ((a.1,a.2))) (fun a=>some ((false,a))) z)
def J2(b:Nat)(d:Ah):Option ((List Int)×Int):=
 (Cw b d true).bind fun a=>Option.elim a.1 (cond (a.2 !=0) (some ((([]:List Int),a.2))) (none)) (fun e=>cond (a.2 !=0) (some ((([]:List Int),a.2))) ((E5 b e).bind fun f=>(Hn b b 0 f.1 ([]:List Int)).bind fun c=>cond (!c.1) (some ((([]:List Int),10))) (some ((c.2,0)))))
def FV(c:List Int)(d:(List (List Int))×(List (List Int×Int))):Nat→(List Int)→Int→Option ((List Int))
 |0,_,_=>none
 |f+1,b,a=>cond (decide (a<(c.length:Int))) ((idx c a).bind fun g=>(idx d.1 g).bind fun e=>(Es (((b.length+e.length:Nat):Int)≤140737488355328/8)).bind fun _=>(i64 (a+1)).bind fun _=>FV c d f (b++e) (a+1)) (some (b))
def GQ(a:Nat)(d:CZ)(b:List Int):Option (Bool×(List (List Int×Int))):=
 (E5 a d).bind fun c=>(FV b c a ([]:List Int) (0:Int)).bind fun z3=>(Es ((z3.length:Int)≤100000)).bind fun _=>(Es (((IN z3).length:Int)≤100000)).bind fun _=>some ((decide (((Lib.compact (IN z3)).length:Int)<(b.length:Int)),c.2))
def En{e:Type}(f:(List Int)→Int→Int→(List Int)→Int→e→Option (Bool×(List Int)×e))(h:List Int)(g:Int)(i:Int):Nat→Int→(List Int)→e→Option ((Bool×(List Int)×e)⊕((List Int)×e))
 |0,_,_,_=>none
 |j+1,a,b,d=>(i64 (i-g)).bind fun _=>cond (decide (a≤(i-g))) ((Es (((0+h.length:Nat):Int)≤140737488355328/8)).bind fun _=>(Es (((h.length+[a].length:Nat):Int)≤140737488355328/8)).bind fun _=>(i64 (a+1)).bind fun _=>(i64 (g-1)).bind fun _=>(f (h++[a]) (a+1) (g-1) b i d).bind fun c=>cond (c.1) (some (.inl (true,c.2.1,c.2.2))) ((i64 (a+1)).bind fun _=>En f h g i j (a+1) c.2.1 c.2.2)) (some (.inr (b,d)))
def D6{b:Type}(e:Nat)(c:b→(List Int)→Option (Bool×b)):Nat→(List Int)→Int→Int→(List Int)→Int→b→Option (Bool×(List Int)×b)
 |0,_,_,_,_,_,_=>none
 |i+1,d,j,f,k,l,g=>cond (f==0) ((c g d).bind fun h=>some ((h.1,d,h.2))) ((En (D6 e c i) d f l e j k g).bind fun z=>Sum.elim (fun a=>some ((a.1,a.2.1,a.2.2))) (fun a=>some ((false,a.1,a.2))) z)
def EM{e:Type}(f:e→(List Int)→Option (Bool×e))(g:Nat)(h:Int):Nat→Bool→Int→(List Int)→e→Option (Bool×(List Int)×e)
 |0,_,_,_,_=>none
 |j+1,i,a,b,d=>cond (decide (a<(h+1))) ((D6 g f g ([]:List Int) 0 a b h d).bind fun c=>cond (c.1) (some ((c.1,c.2.1,c.2.2))) ((i64 (a+1)).bind fun _=>EM f g h j c.1 (a+1) c.2.1 c.2.2)) (some ((i,b,d)))
def Fa{a:Type}(c:Nat)(d:a→(List Int)→Option (Bool×a))(e:Int)(f:a):Option ((List Int)×Bool×a):=
 (i64 (e+1)).bind fun _=>(EM d c e c false (0:Int) ([]:List Int) f).bind fun b=>some ((b.2.1,b.1,b.2.2))
def GA(b:Nat)(c:List Int)(d:CZ):Option (Bool×(List (List Int×Int))):=
 (GQ b d c).bind fun a=>some ((a.1,a.2))
def I3(d:Nat)(e:Ah):Option ((List Int)×Int):=
 (Cw d e true).bind fun b=>Option.elim b.1 (cond (b.2 !=0) (some ((([]:List Int),b.2))) (none)) (fun a=>cond (b.2 !=0) (some ((([]:List Int),b.2))) ((Fa d (fun(st:(List (List Int×Int))) (x:(List Int))=>(GA d x (⟨a.AX,a.AY,a.AT,a.CV,a.Bx,a.Bw,a.BT,a.weights,a.Dg,st⟩:CZ)).bind fun r=>some (r.1,r.2)) (e.Aw.length:Int) a.known).bind fun c=>cond (!c.2.1) (some ((([]:List Int),7))) (some ((c.1,0)))))
def H2(g:Nat)(d:Ah)(c:CZ):Nat→Int→(List Cu)→(List (List Int×Int))→Option ((Int×Int×(List Cu)×(List (List Int×Int)))⊕((List Cu)×(List (List Int×Int))))
 |0,_,_,_=>none
 |h+1,a,e,b=>cond (decide (a<(d.Ar.length:Int))) ((i64 (a+1)).bind fun _=>(Ph d.Ar.length (0:Int) (a+1)).bind fun _=>(CF g (⟨c.AX,c.AY,c.AT,c.CV,c.Bx,c.Bw,HL d.Ar (0:Int) (a+1),c.weights,c.Dg,b⟩:CZ) ([]:List Int)).bind fun f=>cond (!f.1) (some (.inl (a,(0:Int),HL d.Ar (0:Int) (a+1),f.2))) ((i64 (a+1)).bind fun _=>H2 g d c h (a+1) (HL d.Ar (0:Int) (a+1)) f.2)) (some (.inr (e,b)))
def Jz(c:Nat)(e:Ah):Option (Int×Int):=
 (Hw c e true).bind fun a=>Option.elim a.1 (cond (a.2 !=0) (some ((0,a.2))) (none)) (fun d=>cond (a.2 !=0) (some ((0,a.2))) ((H2 c e d c (0:Int) d.BT d.known).bind fun z=>Sum.elim (fun b=>some ((b.1,b.2.1))) (fun b=>some ((0,7))) z))
def JA(c:Nat)(d:Ah):Option ((List Int)×Int):=
 (Hw c d true).bind fun b=>Option.elim b.1 (cond (b.2 !=0) (some ((([]:List Int),b.2))) (none)) (fun a=>cond (b.2 !=0) (some ((([]:List Int),b.2))) ((Fa c (fun(st:(List (List Int×Int))) (x:(List Int))=>(CF c (⟨a.AX,a.AY,a.AT,a.CV,a.Bx,a.Bw,a.BT,a.weights,a.Dg,st⟩:CZ) x).bind fun r=>some (r.1,r.2)) (d.Ar.length:Int) a.known).bind fun e=>some ((e.1,0))))
def Cn(d:Nat)(a:Int)(b:Int)(c:Int):Option (Bool):=
 cond (decide (b≤a)) (some (decide (a≤c))) (some (false))
def HS(d:Nat)(a:Bl)(b:Int)(c:Int):Option (Bool):=
 cond (decide (b≤a.Lo)) (cond (decide (a.Lo≤a.Hi)) (some (decide (a.Hi≤c))) (some (false))) (some (false))
def Jq(b:Nat)(a:Bl):Option (Int):=
 (i64 (a.Hi-a.Lo)).bind fun _=>(i64 ((a.Hi-a.Lo)+1)).bind fun _=>some ((a.Hi-a.Lo)+1)
def GG(c:List Int):Nat→Int→Int→Option (Int)
 |0,_,_=>none
 |e+1,b,a=>cond (decide (a<(c.length:Int))) ((idx c a).bind fun d=>(i64 (b+d)).bind fun _=>(i64 (a+1)).bind fun _=>GG c e (b+d) (a+1)) (some (b))
def JL(a:Nat)(b:List Int):Option (Int):=
 (GG b a (0:Int) (0:Int)).bind fun c=>some (c)
def FB(c:Nat)(b:List Int):Nat→Int→Option ((Bool)⊕(Unit))
 |0,_=>none
 |d+1,a=>cond (decide (a<(b.length:Int))) ((idx b a).bind fun e=>(Cn c e 0 30).bind fun f=>cond (!f) (some (.inl false)) ((i64 (a+1)).bind fun _=>FB c b d (a+1))) (some (.inr ()))
def Km(b:Nat)(d:AO)(c:List Int):Option (Bool):=
 (FB b c b (0:Int)).bind fun z=>Sum.elim (fun a=>some (a)) (fun a=>some ((c.length:Int)==(d.Ax.length:Int))) z
def Gp(d:Nat)(c:AO):Nat→Int→Int→Option (Int)
 |0,_,_=>none
 |f+1,b,a=>cond (decide (a<(c.Ax.length:Int))) ((idx c.Ax a).bind fun g=>(Jq d g).bind fun e=>(i64 (b*e)).bind fun _=>(i64 (a+1)).bind fun _=>Gp d c f (min (3000:Int) (b*e)) (a+1)) (some (b))
def Ez(a:Nat)(b:AO):Option (Int):=
 (Gp a b a (1:Int) (0:Int)).bind fun z2=>some (z2)
def Gb(c:Nat)(b:AO):Nat→Int→Option ((Int)⊕(Unit))
 |0,_=>none
 |d+1,a=>cond (decide (a<(b.Ax.length:Int))) ((idx b.Ax a).bind fun e=>(HS c e 0 100).bind fun f=>cond (!f) (some (.inl (1:Int))) ((i64 (a+1)).bind fun _=>Gb c b d (a+1))) (some (.inr ()))
def Fk(c:Nat)(b:AO):Nat→Int→Option ((Int)⊕(Unit))
 |0,_=>none
 |h+1,a=>cond (decide (a<(b.Bv.length:Int))) ((idx b.Bv a).bind fun d=>(Km c b d).bind fun e=>cond (!e) (some (.inl (1:Int))) ((idx b.Bv a).bind fun f=>(JL c f).bind fun g=>cond (g==0) (some (.inl (1:Int))) ((i64 (a+1)).bind fun _=>Fk c b h (a+1)))) (some (.inr ()))
def E3(d:Nat)(c:AO):Nat→Int→Option ((Int)⊕(Unit))
 |0,_=>none
 |e+1,a=>cond (decide (a<(c.AQ.length:Int))) ((idx c.AQ a).bind fun b=>cond (b.Ce) ((i64 ((c.Bv.length:Int)-1)).bind fun _=>(Cn d b.Number 0 ((c.Bv.length:Int)-1)).bind fun f=>cond (!f) (some (.inl (1:Int))) ((HS d (⟨b.AM,b.AN⟩:Bl) 0 100).bind fun g=>cond (!g) (some (.inl (1:Int))) ((i64 (a+1)).bind fun _=>E3 d c e (a+1)))) ((i64 ((c.Ax.length:Int)-1)).bind fun _=>(Cn d b.Number 0 ((c.Ax.length:Int)-1)).bind fun h=>cond (!h) (some (.inl (1:Int))) ((HS d (⟨b.AM,b.AN⟩:Bl) 0 100).bind fun i=>cond (!i) (some (.inl (1:Int))) ((i64 (a+1)).bind fun _=>E3 d c e (a+1))))) (some (.inr ()))
def Ij(b:Nat)(a:AO):Option (Int):=
 cond (decide ((3:Int)<(a.Ax.length:Int))) (some (3)) (cond (decide ((3:Int)<(a.Bv.length:Int))) (some (3)) (cond (decide ((5:Int)<(a.AQ.length:Int))) (some (3)) (cond ((a.Ax.length:Int)==0) (some (1)) ((Gb b a b (0:Int)).bind fun z=>Sum.elim (fun e=>some (e)) (fun e=>(Fk b a b (0:Int)).bind fun z=>Sum.elim (fun c=>some (c)) (fun c=>(E3 b a b (0:Int)).bind fun z=>Sum.elim (fun d=>some (d)) (fun d=>(Ez b a).bind fun f=>cond (decide ((2000:Int)<f)) (some (3)) (some (0))) z) z) z))))
def IS(g:Nat)(h:AO):Nat→Int→(List Int)→Int→Option ((List Int))
 |0,_,_,_=>none
 |i+1,a,c,b=>cond (decide (b<(h.Ax.length:Int))) ((idx h.Ax b).bind fun e=>(Jq g e).bind fun d=>(rem a d).bind fun _=>(i64 (e.Lo+(a%d))).bind fun _=>(Es (((c.length+[e.Lo+(a%d)].length:Nat):Int)≤140737488355328/8)).bind fun _=>(Jq g e).bind fun f=>(quo a f).bind fun _=>(i64 (a/f)).bind fun _=>(i64 (b+1)).bind fun _=>IS g h i (a/f) (c++[e.Lo+(a%d)]) (b+1)) (some (c))
def FM(a:Nat)(b:AO)(c:Int):Option ((List Int)):=
 (IS a b a c ([]:List Int) (0:Int)).bind fun z2=>some (z2)
def Is(c:List Int)(f:List Int):Nat→Int→Int→Option (Int)
 |0,_,_=>none
 |g+1,b,a=>cond (decide (a<(c.length:Int))) ((idx f a).bind fun d=>(idx c a).bind fun e=>(i64 (d*e)).bind fun _=>(i64 (b+(d*e))).bind fun _=>(i64 (a+1)).bind fun _=>Is c f g (b+(d*e)) (a+1)) (some (b))
def DM(c:Nat)(e:List Int)(d:List Int):Option (Int):=
 (Is e d c (0:Int) (0:Int)).bind fun a=>(JL c d).bind fun b=>(quo a b).bind fun _=>(i64 (a/b)).bind fun _=>some (a/b)
def Ef(a:Nat)(b:Ah)(c:Int):Option (Int):=
 (idx b.Ab c).bind fun x2=>(JL a x2).bind fun d=>some (d)
def Hk(d:Nat)(b:Ah)(e:List Int)(f:Int):Nat→Int→Int→Option (Int)
 |0,_,_=>none
 |g+1,c,a=>cond (decide ((0:Int)≤a)) ((idx b.Ab f).bind fun i=>(DM d e i).bind fun j=>(idx b.AJ a).bind fun k=>cond (decide (k.BN≤j)) ((idx b.AJ a).bind fun h=>(i64 (a-1)).bind fun _=>Hk d b e f g h.Dn (a-1)) ((i64 (a-1)).bind fun _=>Hk d b e f g c (a-1))) (some (c))
def Eg(c:Nat)(a:Ah)(e:List Int)(d:Int):Option (Int):=
 (i64 ((a.AJ.length:Int)-1)).bind fun _=>(Hk c a e d c (0:Int) ((a.AJ.length:Int)-1)).bind fun z3=>(Ef c a d).bind fun b=>(i64 (z3*b)).bind fun _=>some (z3*b)
def G7(d:Nat)(c:Ah):Nat→Int→Option ((Int)⊕(Unit))
 |0,_=>none
 |e+1,a=>cond (decide (a<(c.AJ.length:Int))) ((idx c.AJ a).bind fun b=>(Cn d b.BN 0 100).bind fun f=>cond (!f) (some (.inl (1:Int))) ((Cn d b.Dn 0 100).bind fun g=>cond (!g) (some (.inl (1:Int))) (cond (decide ((0:Int)<a)) ((i64 (a-1)).bind fun _=>(idx c.AJ (a-1)).bind fun h=>cond (decide (h.BN≤b.BN)) (some (.inl (1:Int))) ((i64 (a-1)).bind fun _=>(idx c.AJ (a-1)).bind fun i=>cond (decide (i.Dn<b.Dn)) (some (.inl (1:Int))) ((i64 (a+1)).bind fun _=>G7 d c e (a+1)))) ((i64 (a+1)).bind fun _=>G7 d c e (a+1))))) (some (.inr ()))
def Fl(c:Nat)(b:Ah):Nat→Int→Option ((Int)⊕(Unit))
 |0,_=>none
 |h+1,a=>cond (decide (a<(b.Aw.length:Int))) ((idx b.Aw a).bind fun d=>(i64 ((b.AJ.length:Int)-1)).bind fun _=>(Cn c d.Dh 0 ((b.AJ.length:Int)-1)).bind fun e=>cond (!e) (some (.inl (1:Int))) ((idx b.Aw a).bind fun f=>(Cn c f.Df 1 90).bind fun g=>cond (!g) (some (.inl (1:Int))) ((i64 (a+1)).bind fun _=>Fl c b h (a+1)))) (some (.inr ()))
def Fm(d:Nat)(b:Ah):Nat→Int→Option ((Int)⊕(Unit))
 |0,_=>none
 |h+1,a=>cond (decide (a<(b.Ar.length:Int))) ((idx b.Ar a).bind fun e=>(i64 ((b.Ab.length:Int)-1)).bind fun _=>(Cn d e.Ce 0 ((b.Ab.length:Int)-1)).bind fun f=>cond (!f) (some (.inl (1:Int))) ((idx b.Ar a).bind fun c=>(HS d (⟨c.CA,c.CB⟩:Bl) 0 9000).bind fun g=>cond (!g) (some (.inl (1:Int))) ((i64 (a+1)).bind fun _=>Fm d b h (a+1)))) (some (.inr ()))
def Fy(b:Nat)(a:Ah):Option (Int):=
 (Ij b (⟨a.Ag,a.Ab,a.Ak⟩:AO)).bind fun f=>cond (f !=0) (some (f)) (cond (decide ((3:Int)<(a.AJ.length:Int))) (some (3)) (cond (decide ((3:Int)<(a.Aw.length:Int))) (some (3)) (cond (decide ((5:Int)<(a.Ar.length:Int))) (some (3)) ((Cn b a.Flat 0 100).bind fun g=>cond (!g) (some (1)) (cond ((a.AJ.length:Int)==0) (some (1)) ((G7 b a b (0:Int)).bind fun z=>Sum.elim (fun c=>some (c)) (fun c=>(Fl b a b (0:Int)).bind fun z=>Sum.elim (fun d=>some (d)) (fun d=>(Fm b a b (0:Int)).bind fun z=>Sum.elim (fun e=>some (e)) (fun e=>some (0)) z) z) z))))))
def Lb(b:Nat)(a:Bl):Option (Bl):=
 some (a)
def LD(b:Nat)(a:List Int):Option ((List Int)):=
 (Es (((([]:List Int).length+a.length:Nat):Int)≤140737488355328/8)).bind fun _=>some (([]:List Int)++a)
def FO(d:Nat)(c:AO):Nat→Int→(List Bl)→Option ((List Bl))
 |0,_,_=>none
 |f+1,b,a=>cond (decide (b<(c.Ax.length:Int))) ((idx c.Ax b).bind fun g=>(Lb d g).bind fun e=>(Es (((a.length+[e].length:Nat):Int)≤140737488355328/16)).bind fun _=>(i64 (b+1)).bind fun _=>FO d c f (b+1) (a++[e])) (some (a))
def FC(e:Nat)(d:AO):Nat→Int→(List (List Int))→Option ((List (List Int)))
 |0,_,_=>none
 |g+1,b,a=>cond (decide (b<(d.Bv.length:Int))) ((idx d.Bv b).bind fun f=>(LD e f).bind fun c=>(Es (((a.length+[c].length:Nat):Int)≤140737488355328/24)).bind fun _=>(i64 (b+1)).bind fun _=>FC e d g (b+1) (a++[c])) (some (a))
def FD(f:Nat)(e:AO):Nat→Int→(List DL)→Option ((List DL))
 |0,_,_=>none
 |g+1,b,a=>cond (decide (b<(e.AQ.length:Int))) ((idx e.AQ b).bind fun c=>(Lb f (⟨c.AM,c.AN⟩:Bl)).bind fun d=>(Es (((a.length+[(⟨c.Ce,c.Number,d.Lo,d.Hi⟩:DL)].length:Nat):Int)≤140737488355328/32)).bind fun _=>(i64 (b+1)).bind fun _=>FD f e g (b+1) (a++[(⟨c.Ce,c.Number,d.Lo,d.Hi⟩:DL)])) (some (a))
def HT(a:Nat)(b:AO):Option (AO):=
 (FO a b a (0:Int) ([]:List Bl)).bind fun z4=>(FC a b a (0:Int) ([]:List (List Int))).bind fun c=>(FD a b a (0:Int) ([]:List DL)).bind fun z24=>some ((⟨z4,c,z24⟩:AO))
def Gq(b:AO):Nat→Int→Option ((Bool)⊕(Unit))
 |0,_=>none
 |c+1,a=>cond (decide (a<(b.Bv.length:Int))) ((idx b.Bv a).bind fun d=>cond (decide ((6:Int)<(d.length:Int))) (some (.inl false)) ((i64 (a+1)).bind fun _=>Gq b c (a+1))) (some (.inr ()))
def Ko(c:Nat)(a:AO):Option (Bool):=
 cond (decide ((5:Int)<(a.Ax.length:Int))) (some (false)) (cond (decide ((5:Int)<(a.Bv.length:Int))) (some (false)) (cond (decide ((7:Int)<(a.AQ.length:Int))) (some (false)) ((Gq a c (0:Int)).bind fun z=>Sum.elim (fun b=>some (b)) (fun b=>(Ij c a).bind fun d=>cond (d !=0) (some (true)) ((Ez c a).bind fun e=>some (decide (e≤150)))) z)))
def Ge(b:Nat)(a:Bl):Option (Bl):=
 some (a)
def Gc(c:Ah):Nat→Int→(List C6)→Option ((List C6))
 |0,_,_=>none
 |f+1,b,a=>cond (decide (b<(c.AJ.length:Int))) ((idx c.AJ b).bind fun d=>(idx c.AJ b).bind fun e=>(Es (((a.length+[(⟨d.BN,e.Dn⟩:C6)].length:Nat):Int)≤140737488355328/16)).bind fun _=>(i64 (b+1)).bind fun _=>Gc c f (b+1) (a++[(⟨d.BN,e.Dn⟩:C6)])) (some (a))
def FP(c:Ah):Nat→Int→(List CH)→Option ((List CH))
 |0,_,_=>none
 |f+1,b,a=>cond (decide (b<(c.Aw.length:Int))) ((idx c.Aw b).bind fun d=>(idx c.Aw b).bind fun e=>(Es (((a.length+[(⟨d.Dh,e.Df⟩:CH)].length:Nat):Int)≤140737488355328/16)).bind fun _=>(i64 (b+1)).bind fun _=>FP c f (b+1) (a++[(⟨d.Dh,e.Df⟩:CH)])) (some (a))
def FQ(g:Nat)(d:Ah):Nat→Int→(List Cu)→Option ((List Cu))
 |0,_,_=>none
 |h+1,b,a=>cond (decide (b<(d.Ar.length:Int))) ((idx d.Ar b).bind fun e=>(idx d.Ar b).bind fun f=>(Ge g (⟨f.CA,f.CB⟩:Bl)).bind fun c=>(Es (((a.length+[(⟨e.Ce,c.Lo,c.Hi⟩:Cu)].length:Nat):Int)≤140737488355328/24)).bind fun _=>(i64 (b+1)).bind fun _=>FQ g d h (b+1) (a++[(⟨e.Ce,c.Lo,c.Hi⟩:Cu)])) (some (a))
def CD(b:Nat)(a:Ah):Option (Ah):=
 (HT b (⟨a.Ag,a.Ab,a.Ak⟩:AO)).bind fun c=>(Gc a b (0:Int) ([]:List C6)).bind fun e=>(FP a b (0:Int) ([]:List CH)).bind fun d=>(FQ b a b (0:Int) ([]:List Cu)).bind fun z26=>some ((⟨c.Ax,c.Bv,c.AQ,a.Flat,e,d,z26⟩:Ah))
def CX(b:List Int)(c:List Int):Nat→Int→Option ((Bool)⊕(Unit))
 |0,_=>none
 |d+1,a=>cond (decide (a<(b.length:Int))) ((idx b a).bind fun e=>(idx c a).bind fun f=>cond (e !=f) (some (.inl false)) ((i64 (a+1)).bind fun _=>CX b c d (a+1))) (some (.inr ()))
def Dk(d:Nat)(b:List Int)(c:List Int):Option (Bool):=
 cond ((b.length:Int) !=(c.length:Int)) (some (false)) ((CX b c d (0:Int)).bind fun z=>Sum.elim (fun a=>some (a)) (fun a=>some (true)) z)
def FW(b:Nat)(a:Ah):Option (Bool):=
 (Ko b (⟨a.Ag,a.Ab,a.Ak⟩:AO)).bind fun c=>cond (c) (cond (decide ((a.AJ.length:Int)≤5)) (cond (decide ((a.Aw.length:Int)≤5)) (some (decide ((a.Ar.length:Int)≤7))) (some (false))) (some (false))) (some (false))
def Gr(c:Nat)(a:Int)(b:Int):Option (Bl):=
 some ((⟨a,b⟩:Bl))
def EA(c:Nat)(d:Int):Option (Ah):=
 (Gr c 80 80).bind fun b=>(Gr c 40 40).bind fun a=>(Ph [(⟨0,b.Lo,b.Hi⟩:Cu),(⟨0,a.Lo,a.Hi⟩:Cu)].length (0:Int) d).bind fun _=>some ((⟨[(⟨40,42⟩:Bl),(⟨60,63⟩:Bl)],[[10,10],[5,15]],([]:List DL),3,[(⟨55,6⟩:C6),(⟨51,4⟩:C6),(⟨40,2⟩:C6)],[(⟨0,20⟩:CH),(⟨1,10⟩:CH)],HL [(⟨0,b.Lo,b.Hi⟩:Cu),(⟨0,a.Lo,a.Hi⟩:Cu)] (0:Int) d⟩:Ah))
def BF(a:Nat):Option (Bool):=
 (EA a 0).bind fun z=>(LC a z [41,62]).bind fun n=>(EA a 0).bind fun aA=>(Hm a aA).bind fun d=>(EA a 0).bind fun o=>(F7 a o [0,1]).bind fun b=>(EA a 0).bind fun p=>(J1 a p).bind fun c=>(EA a 1).bind fun q=>(J2 a q).bind fun e=>(EA a 0).bind fun r=>(I3 a r).bind fun f=>(EA a 2).bind fun s=>(Jz a s).bind fun g=>(EA a 2).bind fun t=>(JA a t).bind fun h=>cond (n.2==0) ((Dk a n.1 [80,120]).bind fun u=>cond (u) (cond (d.2==0) (cond ((d.1.length:Int)==2) ((idx d.1 (0:Int)).bind fun i=>(Gr a 40 80).bind fun j=>cond ([i.Lo,i.Hi]==[j.Lo,j.Hi]) ((idx d.1 (1:Int)).bind fun k=>(Gr a 120 120).bind fun l=>cond ([k.Lo,k.Hi]==[l.Lo,l.Hi]) (cond (b.2==0) ((Gr a 160 200).bind fun m=>cond ([b.1.Lo,b.1.Hi]==[m.Lo,m.Hi]) (cond (c.2.2==0) ((Dk a c.1 [1]).bind fun v=>cond (v) (cond (c.2.1==180) (cond (e.2==0) ((Dk a e.1 [1,0]).bind fun w=>cond (w) (cond (f.2==0) ((Dk a f.1 [0,1]).bind fun x=>cond (x) (cond (g.2==0) (cond (g.1==1) (cond (h.2==0) ((Dk a h.1 [0]).bind fun y=>some (y)) (some (false))) (some (false))) (some (false))) (some (false))) (some (false))) (some (false))) (some (false))) (some (false))) (some (false))) (some (false))) (some (false))) (some (false))) (some (false))) (some (false))) (some (false))) (some (false))) (some (false))) (some (false))
end Go.Proofs.YtbhofkcbfblijaaGreat
end
section
namespace Go.Proofs.YtbhofkcbfblijaaGreat
theorem bd{α β:Type}{x:Option α}{a:α}{f:α→Option β}(h:x=some a):x.bind f=f a:=by rw[h];rfl
theorem Br{β:Type}{x:Int}{f:Int→Option β}(h0:-9223372036854775808≤x)(h1:x≤9223372036854775807):(i64 x).bind f=f x:=bd (Aes h0 h1)
theorem B5{α β:Type}{xs:List α}{k:Nat}{f:α→Option β}(h:k<xs.length):(idx xs (k:Int)).bind f=f xs[k]:=bd (idx_eq h)
theorem DG{β:Type}{p:Prop}[Decidable p]{f:Unit→Option β}(h:p):(Es p).bind f=f ():=bd (if_pos h)
theorem LF{β:Type}{a b:Int}{f:Int→Option β}(h0:0≤a)(h1:1≤b):(rem a b).bind f=f (a%b):=bd (if_pos ⟨h0,h1⟩)
theorem Vw{β:Type}{a b:Int}{f:Int→Option β}(h0:0≤a)(h1:1≤b):(quo a b).bind f=f (a/b):=bd (if_pos ⟨h0,h1⟩)
theorem mkb{β:Type}{n:Int}{b:Nat}{f:Unit→Option β}(h0:0≤n)(h1:n*b≤140737488355328)(h2:n≤140737488355328):(mkO n b).bind f=f ():=bd (if_pos ⟨h0,h1,h2⟩)
theorem ct{α:Type}{b:Bool}{x y:α}(h:b=true):cond b x y=x:=by rw[h];rfl
theorem cf{α:Type}{b:Bool}{x y:α}(h:b=false):cond b x y=y:=by rw[h];rfl
theorem nt{α:Type}{x y:α}:cond (!true) x y=y:=rfl
theorem nf{α:Type}{x y:α}:cond (!false) x y=x:=rfl
theorem dt{p:Prop}[Decidable p](h:p):decide p=true:=decide_eq_true h
theorem df{p:Prop}[Decidable p](h:¬p):decide p=false:=decide_eq_false h
theorem CP(i:Nat):(i:Int)+1=((i+1:Nat):Int):=by omega
def DK(n a b:Int):Bool:=decide (a≤n)&&decide (n≤b)
theorem Ei{n a b:Int}:DK n a b=true↔a≤n∧n≤b:=by simp[DK]
theorem JS{n a b:Int}:DK n a b=false↔¬(a≤n∧n≤b):=by rw[←Ei];simp
theorem Aca{σ β:Type}(F:Nat→σ→Nat→Option β)(n:Nat)(g:σ→Nat→σ)(I:Nat→σ→Prop)(a:∀i s,i<n→I i s→I (i+1) (g s i))(h:∀m i s,i<n→I i s→F (m+1) s i=F m (g s i) (i+1)):
  ∀(d i k:Nat) (s:σ),n=i+d→d≤k→I i s→F k s i=F (k-d) ((List.range' i d).foldl g s) n∧I n ((List.range' i d).foldl g s)
 |0,i,k,s,hn,_,hs=>by
  obtain rfl:n=i:=by omega
  exact⟨rfl,hs⟩
 |d+1,i,0,s,_,hk,_=>by omega
 |d+1,i,k+1,s,hn,hk,hs=>by
  have:=Aca F n g I a h d (i+1) k (g s i) (by omega) (by omega) (a i s (by omega) hs);rw[h k i s (by omega) hs,List.range'_succ,List.foldl_cons,show k+1-(d+1)=k-d by omega];exact this
theorem SP{α σ:Type}(g:σ→α→σ)(xs:List α)(f:σ→Nat→σ)(a:∀s i (hi:i<xs.length),f s i=g s xs[i]):∀(d i:Nat) (s:σ),xs.length=i+d→(List.range' i d).foldl f s=(xs.drop i).foldl g s
 |0,i,s,h=>by rw[List.drop_eq_nil_of_le (by omega)];rfl
 |d+1,i,s,h=>by
  have hi:i<xs.length:=by omega
  rw[List.range'_succ,List.foldl_cons,List.drop_eq_getElem_cons hi,List.foldl_cons,a s i hi];exact SP g xs f a d (i+1) _ (by omega)
theorem Afp {α σ β:Type} (xs:List α) (F:Nat→σ→Nat→Option β) (g:σ→α→σ) (I:Nat→σ→Prop) (b:∀i s (hi:i<xs.length),I i s→I (i+1) (g s xs[i])) (h:∀m i s (hi:i<xs.length),I i s→F (m+1) s i=F m (g s xs[i]) (i+1))
  {k:Nat} {s0:σ} (hk:xs.length≤k) (h0:I 0 s0):F k s0 0=F (k-xs.length) (xs.foldl g s0) xs.length∧I xs.length (xs.foldl g s0):=by
 by_cases a:xs.length=0
 ·obtain rfl:=List.eq_nil_of_length_eq_zero a;exact⟨rfl,h0⟩
 ·have a0:α:=xs[0]'(by omega);have e:=SP g xs (fun s i=>g s (xs.getD i a0)) (fun s i hi=>by simp[List.getElem?_eq_getElem hi]) xs.length 0 s0 (by omega);rw[List.drop_zero] at e;rw[←e];refine Aca F xs.length (fun s i=>g s (xs.getD i a0)) I (fun i s hi hs=>?_) (fun m i s hi hs=>?_) xs.length 0 k s0 (by omega) hk h0
  ·have:=b i s hi hs;simpa[List.getElem?_eq_getElem hi] using this
  ·have:=h m i s hi hs;simpa[List.getElem?_eq_getElem hi] using this
theorem UU{α σ β:Type}(xs:List α)(F:Nat→σ→Nat→Option β)(g:σ→α→σ)(I:Nat→σ→Prop)(fin:σ→β)(a:∀i s (hi:i<xs.length),I i s→I (i+1) (g s xs[i]))(h:∀m i s (hi:i<xs.length),I i s→F (m+1) s i=F m (g s xs[i]) (i+1))
  (hn:∀m s,I xs.length s→F (m+1) s xs.length=some (fin s)){k:Nat}{s0:σ}(hk:xs.length<k)(h0:I 0 s0):F k s0 0=some (fin (xs.foldl g s0)):=by
 obtain⟨h1,h2⟩:=Afp xs F g I a h (k:=k) (s0:=s0) (by omega) h0;obtain⟨j,hj⟩:∃j,k-xs.length=j+1:=⟨k-xs.length-1,by omega⟩;rw[h1,hj,hn _ _ h2]
theorem Acb {β:Type} (F:Nat→Nat→Option (β⊕Unit)) (n:Nat) (ok:Nat→Bool) (b:β) (h:∀m i,i<n→F (m+1) i=cond (ok i) (F m (i+1)) (some (.inl b))) (hn:∀m,F (m+1) n=some (.inr ())):
  ∀(d i k:Nat),n=i+d→d<k→F k i=some (cond ((List.range' i d).all ok) (.inr ()) (.inl b))
 |0,i,0,_,hk=>by omega
 |0,i,k+1,hi,_=>by
  obtain rfl:n=i:=by omega
  exact hn k
 |d+1,i,0,_,hk=>by omega
 |d+1,i,k+1,hi,hk=>by
  rw[h k i (by omega),List.range'_succ,List.all_cons];cases ok i with
  |false=>rfl
  |true=>rw[Bool.true_and];exact Acb F n ok b h hn d (i+1) k (by omega) (by omega)
theorem UW{α:Type}(p:α→Bool)(xs:List α)(ok:Nat→Bool)(a:∀i (hi:i<xs.length),ok i=p xs[i]):∀(d i:Nat),xs.length=i+d→(List.range' i d).all ok=(xs.drop i).all p
 |0,i,h=>by rw[List.drop_eq_nil_of_le (by omega)];rfl
 |d+1,i,h=>by
  have hi:i<xs.length:=by omega
  rw[List.range'_succ,List.all_cons,List.drop_eq_getElem_cons hi,List.all_cons,a i hi];rw[UW p xs ok a d (i+1) (by omega)]
theorem JT{α β:Type}(xs:List α)(F:Nat→Nat→Option (β⊕Unit))(ok:α→Bool)(b:β)(h:∀m i (hi:i<xs.length),F (m+1) i=cond (ok xs[i]) (F m (i+1)) (some (.inl b)))(hn:∀m,F (m+1) xs.length=some (.inr ()))
  {k:Nat}(hk:xs.length<k):F k 0=some (cond (xs.all ok) (.inr ()) (.inl b)):=by
 by_cases a:xs.length=0
 ·obtain rfl:=List.eq_nil_of_length_eq_zero a;obtain⟨k,rfl⟩:∃k',k=k'+1:=⟨k-1,by omega⟩;exact hn k
 ·have a0:α:=xs[0]'(by omega);have e:=UW ok xs (fun i=>ok (xs.getD i a0)) (fun i hi=>by simp[List.getElem?_eq_getElem hi]) xs.length 0 (by omega);rw[List.drop_zero] at e;rw[←e];refine Acb F xs.length (fun i=>ok (xs.getD i a0)) b (fun m i hi=>?_) hn xs.length 0 k (by omega) hk;have:=h m i hi;simpa[List.getElem?_eq_getElem hi] using this
theorem Q9:∀(l:List Int) (s:Int),l.foldl (· +·) s=s+l.sum
 |[],s=>by simp
 |x::l,s=>by rw[List.foldl_cons,Q9 l,List.sum_cons];omega
theorem Rw{a b:Int}(ha:a≤0)(hb:0≤b):∀l:List Int,(∀x∈l,a≤x∧x≤b)→a*l.length≤l.sum∧l.sum≤b*l.length
 |[],_=>by simp
 |x::l,h=>by
  have h1:=h x (List.mem_cons_self ..);have h2:=Rw ha hb l fun y c=>h y (List.mem_cons_of_mem _ c);rw[List.sum_cons,List.length_cons];have d:a*((l.length+1:Nat):Int)=a*l.length+a:=by rw[Int.natCast_add,Int.mul_add];simp
  have e:b*((l.length+1:Nat):Int)=b*l.length+b:=by rw[Int.natCast_add,Int.mul_add];simp
  omega
def run {σ α:Type} (cb:σ→α→Option (Bool×σ)):List α→σ→Option (Bool×σ)
 |[],s=>some (true,s)
 |x::l,s=>(cb s x).bind fun r=>cond r.1 (run cb l r.2) (some (false,r.2))
theorem run_pure{σ α:Type}{cb:σ→α→Option (Bool×σ)}{ok:α→Bool}:∀(l:List α) (s:σ),(∀x∈l,∀s,cb s x=some (ok x,s))→run cb l s=some (l.all ok,s)
 |[],s,_=>rfl
 |x::l,s,h=>by
  rw[run,bd (h x (List.mem_cons_self ..) s),List.all_cons];cases ok x with
  |false=>rfl
  |true=>exact run_pure l s fun y a=>h y (List.mem_cons_of_mem _ a)
theorem YM{σ α:Type}(F:Nat→Int→σ→Option ((Int×σ)⊕σ))(cb:σ→α→Option (Bool×σ))(p:List α)
  (a:∀m i s,F (m+1) i s=cond (decide (i<(p.length:Int))) ((idx p i).bind fun x=>(((cb s x).bind fun r=>some (!r.1,r.2)).bind fun r=>some (r.1,r.2)).bind fun r=>cond r.1 (some (.inl (i,r.2))) ((i64 (i+1)).bind fun _=>F m (i+1) r.2)) (some (.inr s)))
  (c:p.length≤5000):∀(n m i:Nat) (s:σ),p.length=i+n→n<m→
  (((F m (i:Int) s).bind fun z=>Sum.elim (fun q=>some (q.1,q.2)) (fun q=>some (((-1:Int)),q)) z).bind fun r=>some (decide ((0:Int)≤r.1),r.2)).bind (fun r=>some (!r.1,r.2))=run cb (p.drop i) s
 |n,0,i,s,h,hm=>by omega
 |0,m+1,i,s,h,hm=>by
  rw[a,cf (df (by omega)),List.drop_eq_nil_of_le (by omega)];rfl
 |n+1,m+1,i,s,h,hm=>by
  have hi:i<p.length:=by omega
  rw[a,ct (dt (by omega)),B5 hi,List.drop_eq_getElem_cons hi,run];cases cb s p[i] with
  |none=>rfl
  |some r=>
   obtain⟨b,s2⟩:=r;simp only[Option.bind_some];cases b with
   |false=>
    rw[nf];show some (!decide ((0:Int)≤(i:Int)),s2)=some (false,s2);rw[dt (by omega)];rfl
   |true=>
    rw[nt,Br (by omega) (by omega),CP i,ct rfl];exact YM F cb p a c n m (i+1) s2 (by omega) (by omega)
theorem Lc{σ α:Type}{F:Nat→Int→σ→Option ((Int×σ)⊕σ)}{cb:σ→α→Option (Bool×σ)}{p:List α}
  (a:∀m i s,F (m+1) i s=cond (decide (i<(p.length:Int))) ((idx p i).bind fun x=>(((cb s x).bind fun r=>some (!r.1,r.2)).bind fun r=>some (r.1,r.2)).bind fun r=>cond r.1 (some (.inl (i,r.2))) ((i64 (i+1)).bind fun _=>F m (i+1) r.2)) (some (.inr s)))
  (b:p.length≤900){K:Nat}(hK:1000≤K)(s:σ):
  (((F K (0:Int) s).bind fun z=>Sum.elim (fun q=>some (q.1,q.2)) (fun q=>some (((-1:Int)),q)) z).bind fun r=>some (decide ((0:Int)≤r.1),r.2)).bind (fun r=>some (!r.1,r.2))=run cb p s:=
 YM F cb p a (by omega) p.length K 0 s (by omega) (by omega)
section
variable{K:Nat}(hK:1000≤K)
include hK
theorem Yw{σ:Type}(cb:σ→Bl→Option (Bool×σ))(p:List Bl)(a:p.length≤900)(s:σ):Ny K cb p s=run cb p s:=
 Lc (F:=IA (fun(st:σ) (x:Bl)=>(Lt K cb x st).bind fun r=>some (r.1,r.2)) p) (fun _ _ _=>rfl) a hK s
theorem ZG{σ:Type}(cb:σ→List Int→Option (Bool×σ))(p:List (List Int))(a:p.length≤900)(s:σ):N3 K cb p s=run cb p s:=
 Lc (F:=I1 (fun(st:σ) (x:List Int)=>(LY K cb x st).bind fun r=>some (r.1,r.2)) p) (fun _ _ _=>rfl) a hK s
theorem Yx{σ:Type}(cb:σ→DL→Option (Bool×σ))(p:List DL)(a:p.length≤900)(s:σ):Nz K cb p s=run cb p s:=
 Lc (F:=IB (fun(st:σ) (x:DL)=>(Lv K cb x st).bind fun r=>some (r.1,r.2)) p) (fun _ _ _=>rfl) a hK s
theorem Aae{σ:Type}(cb:σ→Int→Option (Bool×σ))(p:List Int)(a:p.length≤900)(s:σ):Oy K cb p s=run cb p s:=
 Lc (F:=E2 (fun(st:σ) (x:Int)=>(Ml K cb x st).bind fun r=>some (r.1,r.2)) p) (fun _ _ _=>rfl) a hK s
theorem Xn{σ:Type}(cb:σ→C6→Option (Bool×σ))(p:List C6)(a:p.length≤900)(s:σ):M7 K cb p s=run cb p s:=
 Lc (F:=IC (fun(st:σ) (x:C6)=>(K4 K cb x st).bind fun r=>some (r.1,r.2)) p) (fun _ _ _=>rfl) a hK s
theorem Xo{σ:Type}(cb:σ→CH→Option (Bool×σ))(p:List CH)(a:p.length≤900)(s:σ):M8 K cb p s=run cb p s:=
 Lc (F:=ID (fun(st:σ) (x:CH)=>(K5 K cb x st).bind fun r=>some (r.1,r.2)) p) (fun _ _ _=>rfl) a hK s
theorem Yy{σ:Type}(cb:σ→Cu→Option (Bool×σ))(p:List Cu)(a:p.length≤900)(s:σ):NB K cb p s=run cb p s:=
 Lc (F:=I2 (fun(st:σ) (x:Cu)=>(LA K cb x st).bind fun r=>some (r.1,r.2)) p) (fun _ _ _=>rfl) a hK s
end
theorem Hs(K:Nat)(n a b:Int):Cn K n a b=some (DK n a b):=by unfold Cn DK;cases decide (a≤n)<;>rfl
theorem P7(K:Nat)(n a b:Int):KU K n a b=some (DK n a b):=by unfold KU DK;cases decide (a≤n)<;>rfl
theorem I7(K:Nat)(n a b:Int):HM K n a b=some (DK n a b):=by unfold HM DK;cases decide (a≤n)<;>rfl
def Pb (lo hi a b:Int):Bool:=decide (a≤lo)&&(decide (lo≤hi)&&decide (hi≤b))
theorem Vx{lo hi a b:Int}:Pb lo hi a b=true↔a≤lo∧lo≤hi∧hi≤b:=by simp[Pb]
theorem PK(K:Nat)(r:Bl)(a b:Int):HS K r a b=some (Pb r.Lo r.Hi a b):=by
 unfold HS Pb;cases decide (a≤r.Lo)
 ·rfl
 ·cases decide (r.Lo≤r.Hi)<;>rfl
theorem Ub(K:Nat)(r:Bl):I8 K r=some (Pb r.Lo r.Hi 0 100):=PK K r 0 100
theorem Afq(K:Nat)(r:Bl)(b:Int):NA K r b=some (Pb r.Lo r.Hi 0 b):=PK K r 0 b
theorem Xp{K:Nat}(hK:1000≤K)(l:List Int)(hl:l.length≤100)(hb:∀x∈l,0≤x∧x≤10000):JL K l=some l.sum:=by
 unfold JL;have h:GG l K 0 0=some (l.foldl (· +·) 0):=UU l (fun m s i=>GG l m s (i:Int)) (· +·) (fun i s=>0≤s∧s≤10000*(i:Int)) id (fun i s hi hs=>by have:=hb _ (List.getElem_mem hi);omega)
  (fun m i s hi hs=>by
   have a:=hb _ (List.getElem_mem hi);show GG l (m+1) s (i:Int)=_;rw[GG.eq_2,ct (dt (by omega)),B5 hi,Br (by omega) (by omega),Br (by omega) (by omega),CP i])
  (fun m s _=>by
   show GG l (m+1) s (l.length:Int)=_;rw[GG.eq_2,cf (df (by omega))];rfl) (by omega) (by omega)
 rw[bd h,Q9,Int.zero_add]
theorem Aaf{K:Nat}(hK:1000≤K)(l:List Int)(hl:l.length≤100)(hb:∀x∈l,0≤x∧x≤10000):Ox K l=some l.sum:=by
 unfold Ox;have h:Jy l K 0 0=some (l.foldl (· +·) 0):=UU l (fun m s i=>Jy l m s (i:Int)) (· +·) (fun i s=>0≤s∧s≤10000*(i:Int)) id (fun i s hi hs=>by have:=hb _ (List.getElem_mem hi);omega)
  (fun m i s hi hs=>by
   have a:=hb _ (List.getElem_mem hi);show Jy l (m+1) s (i:Int)=_;rw[Jy.eq_2,ct (dt (by omega)),B5 hi,Br (by omega) (by omega),Br (by omega) (by omega),CP i])
  (fun m s _=>by
   show Jy l (m+1) s (l.length:Int)=_;rw[Jy.eq_2,cf (df (by omega))];rfl) (by omega) (by omega)
 rw[bd h,Q9,Int.zero_add]
def Pm(c:AO)(l:List Int):Bool:=l.all (fun x=>DK x 0 30)&&(l.length==c.Ax.length)
def Pn(c:AO)(l:List Int):Bool:=Pm c l&&decide (0<l.sum)
def Og(c:AO)(t:DL):Bool:=DK t.Number 0 ((cond t.Ce c.Bv.length c.Ax.length:Nat)-1)&&Pb t.AM t.AN 0 100
def FI(r:Bl):Int:=r.Hi-r.Lo+1
def Gt(l:List Bl):Int:=l.foldl (fun n r=>n*FI r) 1
def KG(c:AO):Int:=
 if 3<c.Ax.length∨3<c.Bv.length∨5<c.AQ.length then 3
 else if c.Ax.length=0 then 1
 else if !(c.Ax.all fun r=>Pb r.Lo r.Hi 0 100) then 1
 else if !(c.Bv.all (Pn c)) then 1
 else if !(c.AQ.all (Og c)) then 1
 else if 2000<Gt c.Ax then 3 else 0
theorem SQ{c:AO}{l:List Int}(h:Pm c l=true):l.length=c.Ax.length∧∀x∈l,0≤x∧x≤30:=by
 unfold Pm at h;rw[Bool.and_eq_true,List.all_eq_true,beq_iff_eq] at h;exact⟨h.2,fun x a=>Ei.1 (h.1 x a)⟩
theorem Aa8(a b:Nat):((a:Int)==(b:Int))=(a==b):=by rw[Bool.eq_iff_iff,beq_iff_eq,beq_iff_eq];omega
theorem Aag{K:Nat}(hK:1000≤K)(c:AO)(l:List Int)(hl:l.length≤100):Km K c l=some (Pm c l):=by
 unfold Km;have h:FB K l K 0=_:=JT l (fun m i=>FB K l m (i:Int)) (fun x=>DK x 0 30) false (fun m i hi=>by
   show FB K l (m+1) (i:Int)=_;rw[FB.eq_2,ct (dt (by omega)),B5 hi,bd (Hs ..)];cases DK l[i] 0 30 with
   |false=>rw[nf,cf rfl]
   |true=>rw[nt,Br (by omega) (by omega),CP i,ct rfl])
  (fun m=>by
   show FB K l (m+1) (l.length:Int)=_;rw[FB.eq_2,cf (df (by omega))]) (k:=K) (by omega)
 rw[bd h];unfold Pm;cases l.all (fun x=>DK x 0 30) with
 |false=>rw[cf rfl,Bool.false_and];rfl
 |true=>
  rw[ct rfl,Bool.true_and,←Aa8];rfl
def ML(r:Bl):Prop:=0≤r.Lo∧r.Lo≤r.Hi∧r.Hi≤100
theorem AcC{r:Bl}:Pb r.Lo r.Hi 0 100=true↔ML r:=Vx
theorem SR(K:Nat){r:Bl}(h:ML r):Jq K r=some (FI r):=by
 unfold ML at h;unfold Jq FI;rw[Br (by omega) (by omega),Br (by omega) (by omega)]
theorem AcD(K:Nat){r:Bl}(h:ML r):M6 K r=some (FI r):=SR K h
theorem AcE(K:Nat){r:Bl}(h:ML r):MJ K r=some (FI r):=SR K h
theorem Md{r:Bl}(h:ML r):1≤FI r∧FI r≤101:=by unfold ML at h;unfold FI;omega
theorem MM{a b x y:Int}(ha:0≤a)(c:a≤x)(hb:0≤b)(d:b≤y):0≤a*b∧a*b≤x*y:=
 ⟨Int.mul_nonneg ha hb,Int.mul_le_mul c d hb (by omega)⟩
theorem foldl_min{C:Int}(b:0≤C):∀(l:List Bl) (s:Int),(∀r∈l,ML r)→0≤s→l.foldl (fun n r=>min C (n*FI r)) (min C s)=min C (l.foldl (fun n r=>n*FI r) s)
 |[],s,_,_=>rfl
 |r::l,s,h,hs=>by
  have hr:=Md (h r (List.mem_cons_self ..));rw[List.foldl_cons,List.foldl_cons];have e:min C (min C s*FI r)=min C (s*FI r):=by
   rcases Int.le_total C s with a|a
   ·rw[Int.min_eq_left a];have h1:C*1≤C*FI r:=Int.mul_le_mul_of_nonneg_left hr.1 b;have h2:s*1≤s*FI r:=Int.mul_le_mul_of_nonneg_left hr.1 hs;rw[Int.min_eq_left (by omega),Int.min_eq_left (by omega)]
   ·rw[Int.min_eq_right a]
  rw[e];exact foldl_min b l (s*FI r) (fun y c=>h y (List.mem_cons_of_mem _ c)) (Int.mul_nonneg hs (by omega))
theorem Wp:∀(l:List Bl) (s:Int),(∀r∈l,ML r)→1≤s→1≤l.foldl (fun n r=>n*FI r) s
 |[],s,_,hs=>hs
 |r::l,s,h,hs=>by
  have hr:=Md (h r (List.mem_cons_self ..));rw[List.foldl_cons];refine Wp l _ (fun y a=>h y (List.mem_cons_of_mem _ a)) ?_;have h2:s*1≤s*FI r:=Int.mul_le_mul_of_nonneg_left hr.1 (by omega);omega
theorem Uc{l:List Bl}(h:(l.all fun r=>Pb r.Lo r.Hi 0 100)=true):∀r∈l,ML r:=fun r hr=>AcC.1 (List.all_eq_true.1 h r hr)
theorem IU{a b:Int}(h:a≠b):(a==b)=false:=by rw[Bool.eq_false_iff];intro g;exact h (beq_iff_eq.1 g)
theorem F9{a b:Int}(h:a=b):(a==b)=true:=beq_iff_eq.2 h
theorem EW{a b:Int}(h:a=b):(a !=b)=false:=by rw[h];simp
theorem FX{a b:Int}(h:a≠b):(a !=b)=true:=by simpa using h
section
variable{K:Nat}(hK:1000≤K)
include hK
theorem Xq(c:AO)(hl:c.Ax.length≤100)(h:∀r∈c.Ax,ML r):Ez K c=some (min 3000 (Gt c.Ax)):=by
 unfold Ez;have a:Gp K c K 1 0=some (c.Ax.foldl (fun n r=>min 3000 (n*FI r)) 1):=UU c.Ax (fun m s i=>Gp K c m s (i:Int)) (fun n r=>min 3000 (n*FI r)) (fun _ s=>0≤s∧s≤3000) id
  (fun i s hi hs=>by
   have hr:=Md (h _ (List.getElem_mem hi));have:=MM hs.1 hs.2 (by omega:0≤FI c.Ax[i]) hr.2;omega)
  (fun m i s hi hs=>by
   show Gp K c (m+1) s (i:Int)=_;have hr:=Md (h _ (List.getElem_mem hi));have:=MM hs.1 hs.2 (by omega:0≤FI c.Ax[i]) hr.2;rw[Gp.eq_2,ct (dt (by omega)),B5 hi,bd (SR K (h _ (List.getElem_mem hi))),Br (by omega) (by omega),Br (by omega) (by omega),CP i])
  (fun m s _=>by
   show Gp K c (m+1) s (c.Ax.length:Int)=_;rw[Gp.eq_2,cf (df (by omega))];rfl) (by omega) (by omega)
 rw[bd a];have:=foldl_min (C:=3000) (by omega) c.Ax 1 h (by omega);rw[Int.min_eq_right (by omega)] at this;rw[this];rfl
theorem Rx(a b:Int):La K [a,b]=some (min a b):=by
 obtain⟨k,rfl⟩:∃k,K=k+3:=⟨K-3,by omega⟩;unfold La;have c:idx [a,b] (0:Int)=some a:=rfl;have d:idx [a,b] (1:Int)=some b:=rfl;rw[cf (df (by simp)),bd c,JW.eq_2,ct (dt (by simp)),bd d,Br (by omega) (by omega),JW.eq_2,cf (df (by simp))];rfl
theorem AeA(a b:Int):Nc K [a,b]=some (min a b):=by
 unfold Nc;rw[bd (Rx hK a b)]
theorem Aah(c:AO)(hl:c.Ax.length≤100)(h:∀r∈c.Ax,ML r):Fz K c K 1 0=some (min 2001 (Gt c.Ax)):=by
 have a:Fz K c K 1 0=some (c.Ax.foldl (fun n r=>min 2001 (n*FI r)) 1):=UU c.Ax (fun m s i=>Fz K c m s (i:Int)) (fun n r=>min 2001 (n*FI r)) (fun _ s=>0≤s∧s≤2001) id
  (fun i s hi hs=>by
   have hr:=Md (h _ (List.getElem_mem hi));have:=MM hs.1 hs.2 (by omega:0≤FI c.Ax[i]) hr.2;omega)
  (fun m i s hi hs=>by
   show Fz K c (m+1) s (i:Int)=_;have hr:=Md (h _ (List.getElem_mem hi));have:=MM hs.1 hs.2 (by omega:0≤FI c.Ax[i]) hr.2;rw[Fz.eq_2,ct (dt (by omega)),B5 hi,bd (AcD K (h _ (List.getElem_mem hi))),Br (by omega) (by omega),bd (AeA hK _ _),Br (by omega) (by omega),CP i,Int.min_comm])
  (fun m s _=>by
   show Fz K c (m+1) s (c.Ax.length:Int)=_;rw[Fz.eq_2,cf (df (by omega))];rfl) (by omega) (by omega)
 rw[a];have:=foldl_min (C:=2001) (by omega) c.Ax 1 h (by omega);rw[Int.min_eq_right (by omega)] at this;rw[this];rfl
theorem Aa9(c:AO)(hl:c.Ax.length≤100):Gb K c K 0=some (cond (c.Ax.all fun r=>Pb r.Lo r.Hi 0 100) (.inr ()) (.inl 1)):=
 JT c.Ax (fun m i=>Gb K c m (i:Int)) (fun r=>Pb r.Lo r.Hi 0 100) 1
  (fun m i hi=>by
   show Gb K c (m+1) (i:Int)=_;rw[Gb.eq_2,ct (dt (by omega)),B5 hi,bd (PK ..)];cases Pb c.Ax[i].Lo c.Ax[i].Hi 0 100 with
   |false=>rw[nf,cf rfl]
   |true=>rw[nt,Br (by omega) (by omega),CP i,ct rfl])
  (fun m=>by
   show Gb K c (m+1) (c.Ax.length:Int)=_;rw[Gb.eq_2,cf (df (by omega))]) (by omega)
theorem Aai(c:AO)(hl:c.Bv.length≤100)(e:∀l∈c.Bv,l.length≤100):Fk K c K 0=some (cond (c.Bv.all (Pn c)) (.inr ()) (.inl 1)):=
 JT c.Bv (fun m i=>Fk K c m (i:Int)) (Pn c) 1
  (fun m i hi=>by
   show Fk K c (m+1) (i:Int)=_;have d:=e _ (List.getElem_mem hi);rw[Fk.eq_2,ct (dt (by omega)),B5 hi,bd (Aag hK c _ d)];unfold Pn;cases hs:Pm c c.Bv[i] with
   |false=>rw[nf,Bool.false_and,cf rfl]
   |true=>
    obtain⟨h1,h2⟩:=SQ hs;have f:=Rw (a:=0) (b:=30) (by omega) (by omega) _ h2;rw[nt,B5 hi,bd (Xp hK _ d (fun x d=>by have:=h2 x d;omega)),Bool.true_and]
    by_cases h0:c.Bv[i].sum=0
    ·rw[ct (by simp[h0]),cf (df (by omega))]
    ·rw[cf (by simp[h0]),ct (dt (by omega)),Br (by omega) (by omega),CP i])
  (fun m=>by
   show Fk K c (m+1) (c.Bv.length:Int)=_;rw[Fk.eq_2,cf (df (by omega))]) (by omega)
theorem Aaj(c:AO)(hl:c.AQ.length≤100)(hh:c.Ax.length≤100)(a:c.Bv.length≤100):E3 K c K 0=some (cond (c.AQ.all (Og c)) (.inr ()) (.inl 1)):=
 JT c.AQ (fun m i=>E3 K c m (i:Int)) (Og c) 1
  (fun m i hi=>by
   show E3 K c (m+1) (i:Int)=_;rw[E3.eq_2,ct (dt (by omega)),B5 hi];unfold Og;cases c.AQ[i].Ce with
   |true=>
    rw[ct rfl,Br (by omega) (by omega),bd (Hs ..),ct rfl];cases DK c.AQ[i].Number 0 ((c.Bv.length:Nat)-1) with
    |false=>rw[nf,Bool.false_and,cf rfl]
    |true=>
     rw[nt,bd (PK ..),Bool.true_and];cases Pb c.AQ[i].AM c.AQ[i].AN 0 100 with
     |false=>rw[nf,cf rfl]
     |true=>rw[nt,Br (by omega) (by omega),CP i,ct rfl]
   |false=>
    rw[cf rfl,Br (by omega) (by omega),bd (Hs ..),cf rfl];cases DK c.AQ[i].Number 0 ((c.Ax.length:Nat)-1) with
    |false=>rw[nf,Bool.false_and,cf rfl]
    |true=>
     rw[nt,bd (PK ..),Bool.true_and];cases Pb c.AQ[i].AM c.AQ[i].AN 0 100 with
     |false=>rw[nf,cf rfl]
     |true=>rw[nt,Br (by omega) (by omega),CP i,ct rfl])
  (fun m=>by
   show E3 K c (m+1) (c.AQ.length:Int)=_;rw[E3.eq_2,cf (df (by omega))]) (by omega)
theorem Xr(c:AO)(hh:c.Ax.length≤100)(a:c.Bv.length≤100)(e:c.AQ.length≤100)(f:∀l∈c.Bv,l.length≤100):Ij K c=some (KG c):=by
 unfold Ij KG
 by_cases h1:3<c.Ax.length
 ·rw[ct (dt (by omega)),if_pos (.inl h1)]
 rw[cf (df (by omega))]
 by_cases h2:3<c.Bv.length
 ·rw[ct (dt (by omega)),if_pos (.inr (.inl h2))]
 rw[cf (df (by omega))]
 by_cases g:5<c.AQ.length
 ·rw[ct (dt (by omega)),if_pos (.inr (.inr g))]
 rw[cf (df (by omega)),if_neg (by omega)]
 by_cases b:c.Ax.length=0
 ·rw[ct (F9 (by omega)),if_pos b]
 rw[cf (IU (by omega)),if_neg b,bd (Aa9 hK c hh)];cases h5:c.Ax.all fun r=>Pb r.Lo r.Hi 0 100 with
 |false=>rw[cf rfl,if_pos (by rfl)];rfl
 |true=>
  rw[ct rfl,if_neg (by simp)];show Option.bind (Fk K c K 0) _=_;rw[bd (Aai hK c a f)];cases c.Bv.all (Pn c) with
  |false=>rw[cf rfl,if_pos (by rfl)];rfl
  |true=>
   rw[ct rfl,if_neg (by simp)];show Option.bind (E3 K c K 0) _=_;rw[bd (Aaj hK c e hh a)];cases c.AQ.all (Og c) with
   |false=>rw[cf rfl,if_pos (by rfl)];rfl
   |true=>
    rw[ct rfl,if_neg (by simp)];show Option.bind (Ez K c) _=_;rw[bd (Xq hK c hh (Uc h5))]
    by_cases d:2000<Gt c.Ax
    ·rw[ct (dt (by omega)),if_pos d]
    ·rw[cf (df (by omega)),if_neg d]
theorem Aak(c:AO)(l:List Int)(hl:l.length≤100):Kk K c l=some (Pm c l):=by
 unfold Kk Pm;rw[Aa8,Aae hK _ _ (by omega),run_pure (ok:=fun x=>DK x 0 30) l () (fun x _ s=>by unfold NN;rw[bd (P7 ..)];rfl)];cases l.length==c.Ax.length with
 |false=>rw[cf rfl,Bool.and_false]
 |true=>rw[ct rfl,Bool.and_true];rfl
theorem Aba(c:AO)(l:List Int)(hl:l.length≤100):JE K c l=some (Pn c l):=by
 unfold JE Pn;rw[bd (Aak hK c l hl)];cases hs:Pm c l with
 |false=>rw[cf rfl,Bool.false_and]
 |true=>
  have h2:=(SQ hs).2;rw[ct rfl,bd (Aaf hK l hl (fun x a=>by have:=h2 x a;omega)),Bool.true_and]
theorem AcF(c:AO)(t:DL)(hh:c.Ax.length≤100)(a:c.Bv.length≤100):JX K c t=some (Og c t):=by
 unfold JX Og;cases t.Ce with
 |true=>
  rw[ct rfl,Br (by omega) (by omega),bd (P7 ..),ct rfl];cases DK t.Number 0 ((c.Bv.length:Nat)-1) with
  |false=>rw[cf rfl,Bool.false_and]
  |true=>rw[ct rfl,bd (Ub ..),Bool.true_and]
 |false=>
  rw[cf rfl,Br (by omega) (by omega),bd (P7 ..),cf rfl];cases DK t.Number 0 ((c.Ax.length:Nat)-1) with
  |false=>rw[cf rfl,Bool.false_and]
  |true=>rw[ct rfl,bd (Ub ..),Bool.true_and]
theorem Sn(c:AO)(hh:c.Ax.length≤100)(e:c.Bv.length≤100)(h:c.AQ.length≤100)(f:∀l∈c.Bv,l.length≤100):HQ K c=some (KG c):=by
 unfold HQ KG
 by_cases h1:3<c.Ax.length
 ·rw[ct (dt (by omega)),if_pos (.inl h1)]
 rw[cf (df (by omega))]
 by_cases h2:3<c.Bv.length
 ·rw[ct (dt (by omega)),if_pos (.inr (.inl h2))]
 rw[cf (df (by omega))]
 by_cases g:5<c.AQ.length
 ·rw[ct (dt (by omega)),if_pos (.inr (.inr g))]
 rw[cf (df (by omega)),if_neg (by omega)]
 by_cases a:c.Ax.length=0
 ·rw[ct (F9 (by omega)),if_pos a]
 rw[cf (IU (by omega)),if_neg a,Yw hK _ _ (by omega),run_pure (ok:=fun r=>Pb r.Lo r.Hi 0 100) c.Ax () (fun x _ s=>by rw[bd (Ub ..)]),Option.bind_some];cases h5:c.Ax.all fun r=>Pb r.Lo r.Hi 0 100 with
 |false=>rw[nf,if_pos (by rfl)]
 |true=>
  rw[nt,if_neg (by simp),ZG hK _ _ (by omega),run_pure (ok:=Pn c) c.Bv () (fun x b s=>by rw[bd (Aba hK c x (f x b))]),Option.bind_some];cases c.Bv.all (Pn c) with
  |false=>rw[nf,if_pos (by rfl)]
  |true=>
   rw[nt,if_neg (by simp),Yx hK _ _ (by omega),run_pure (ok:=Og c) c.AQ () (fun x b s=>by rw[bd (AcF hK c x hh e)]),Option.bind_some];cases c.AQ.all (Og c) with
   |false=>rw[nf,if_pos (by rfl)]
   |true=>
    rw[nt,if_neg (by simp),bd (Aah hK c hh (Uc h5))]
    by_cases d:2000<Gt c.Ax
    ·rw[ct (dt (by omega)),if_pos d]
    ·rw[cf (df (by omega)),if_neg d]
end
def Ah.C(t:Ah):AO:=⟨t.Ag,t.Ab,t.Ak⟩
def Me:Int→Int→List C6→Bool
 |_,_,[]=>true
 |s,p,g::l=>DK g.BN 0 (s-1)&&(DK g.Dn 0 p&&Me g.BN g.Dn l)
def LG(t:Ah)(o:CH):Bool:=DK o.Dh 0 ((t.AJ.length:Nat)-1)&&DK o.Df 1 90
def Kb(t:Ah)(n:Cu):Bool:=DK n.Ce 0 ((t.Ab.length:Nat)-1)&&Pb n.CA n.CB 0 9000
def DV(t:Ah):Int:=
 if KG t.C≠0 then KG t.C
 else if 3<t.AJ.length∨3<t.Aw.length∨5<t.Ar.length then 3
 else if !(DK t.Flat 0 100) then 1
 else if t.AJ.length=0 then 1
 else if !(Me 101 100 t.AJ) then 1
 else if !(t.Aw.all (LG t)) then 1
 else if !(t.Ar.all (Kb t)) then 1 else 0
def Abb (c:AO):Prop:=c.Ax.length≤100∧c.Bv.length≤100∧c.AQ.length≤100∧∀l∈c.Bv,l.length≤100
def Ri(t:Ah):Prop:=Abb t.C∧t.AJ.length≤100∧t.Aw.length≤100∧t.Ar.length≤100
section
variable{K:Nat}(hK:1000≤K)
include hK
theorem SS(t:Ah)(hl:t.AJ.length≤100):∀(n m i:Nat) (s p:Int),t.AJ.length=i+n→n<m→(i=0→s=101∧p=100)→
  (∀h:0<i,∃h2:i-1<t.AJ.length,s=t.AJ[i-1].BN∧p=t.AJ[i-1].Dn∧s≤100∧p≤100)→
  G7 K t m (i:Int)=some (cond (Me s p (t.AJ.drop i)) (.inr ()) (.inl 1))
 |n,0,i,s,p,h,hm,_,_=>by omega
 |0,m+1,i,s,p,h,hm,_,_=>by
  rw[G7.eq_2,cf (df (by omega)),List.drop_eq_nil_of_le (by omega)];rfl
 |n+1,m+1,i,s,p,h,hm,h0,h1=>by
  have hi:i<t.AJ.length:=by omega
  rw[G7.eq_2,ct (dt (by omega)),B5 hi,bd (Hs ..),List.drop_eq_getElem_cons hi,Me];have sp:s≤101∧p≤100:=by
   by_cases e:i=0
   ·have:=h0 e;omega
   ·obtain⟨_,_,_,b⟩:=h1 (by omega);omega
  by_cases hs:0≤t.AJ[i].BN∧t.AJ[i].BN≤100
  ·rw[Ei.2 hs,nt,bd (Hs ..)]
   by_cases a:0≤t.AJ[i].Dn∧t.AJ[i].Dn≤100
   ·rw[Ei.2 a,nt]
    by_cases e:i=0
    ·obtain⟨rfl,rfl⟩:=h0 e;rw[cf (df (by omega)),Br (by omega) (by omega),CP i,SS t hl n m (i+1) _ _ (by omega) (by omega) (by omega) (fun _=>⟨by simpa using hi,rfl,rfl,hs.2,a.2⟩),
      Ei.2 ⟨hs.1,by omega⟩,Ei.2 a,Bool.true_and,Bool.true_and]
    ·obtain⟨h2,rfl,rfl,b⟩:=h1 (by omega);have c:(i:Int)-1=((i-1:Nat):Int):=by omega
     rw[ct (dt (by omega)),Br (by omega) (by omega),c,B5 h2]
     by_cases g1:t.AJ[i-1].BN≤t.AJ[i].BN
     ·rw[ct (dt g1),JS.2 (by omega),Bool.false_and,cf rfl]
     ·rw[cf (df g1),Br (by omega) (by omega),B5 h2]
      by_cases g2:t.AJ[i-1].Dn<t.AJ[i].Dn
      ·rw[ct (dt g2),Ei.2 ⟨hs.1,by omega⟩,JS.2 (by omega),Bool.false_and,Bool.true_and,cf rfl]
      ·rw[cf (df g2),Br (by omega) (by omega),CP i,SS t hl n m (i+1) _ _ (by omega) (by omega) (by omega) (fun _=>⟨by simpa using hi,rfl,rfl,hs.2,a.2⟩),
        Ei.2 ⟨hs.1,by omega⟩,Ei.2 ⟨a.1,by omega⟩,Bool.true_and,Bool.true_and]
   ·rw[JS.2 a,nf];have:DK t.AJ[i].Dn 0 p=false:=JS.2 (by omega);rw[this,Bool.false_and,Bool.and_false,cf rfl]
  ·rw[JS.2 hs,nf,JS.2 (by omega),Bool.false_and,cf rfl]
theorem UX:∀(l:List C6) (g:C6),0≤g.BN∧g.BN≤101→(run (fun(st:C6) (x:C6)=>(I4 K x st).bind fun r=>some (r.1,r.2)) l g).map (·.1)=some (Me g.BN g.Dn l)
 |[],g,_=>rfl
 |x::l,g,h=>by
  rw[run,Me];unfold I4;rw[Br (by omega) (by omega),bd (I7 ..)];cases hs:DK x.BN 0 (g.BN-1) with
  |false=>rw[cf rfl,Bool.false_and];rfl
  |true=>
   rw[ct rfl,bd (I7 ..),Bool.true_and];cases DK x.Dn 0 g.Dn with
   |false=>rw[Bool.false_and];rfl
   |true=>
    have h1:=Ei.1 hs;rw[Bool.true_and];exact UX l x (by omega)
theorem Xs{α β b:Type}{x:Option (α×β)}{a:α}{f:α→Option b}(h:x.map (·.1)=some a):x.bind (fun r=>f r.1)=f a:=by
 cases x with
 |none=>cases h
 |some r=>exact congrArg f (Option.some.inj h)
theorem Abc(t:Ah)(hl:t.AJ.length≤100):KE K t=some (decide (0<t.AJ.length)&&Me 101 100 t.AJ):=by
 unfold KE
 by_cases h:0<t.AJ.length
 ·rw[ct (dt (by omega)),Xn hK _ _ (by omega),dt h,Bool.true_and];exact Xs hK (f:=some) (UX hK t.AJ ⟨101,100⟩ (by simp))
 ·rw[cf (df (by omega)),df h,Bool.false_and]
theorem Aal(t:Ah)(a:t.AJ.length≤100)(hl:t.Aw.length≤100):Fl K t K 0=some (cond (t.Aw.all (LG t)) (.inr ()) (.inl 1)):=
 JT t.Aw (fun m i=>Fl K t m (i:Int)) (LG t) 1
  (fun m i hi=>by
   show Fl K t (m+1) (i:Int)=_;rw[Fl.eq_2,ct (dt (by omega)),B5 hi,Br (by omega) (by omega),bd (Hs ..)];unfold LG;cases DK t.Aw[i].Dh 0 ((t.AJ.length:Nat)-1) with
   |false=>rw[nf,Bool.false_and,cf rfl]
   |true=>
    rw[nt,B5 hi,bd (Hs ..),Bool.true_and];cases DK t.Aw[i].Df 1 90 with
    |false=>rw[nf,cf rfl]
    |true=>rw[nt,Br (by omega) (by omega),CP i,ct rfl])
  (fun m=>by
   show Fl K t (m+1) (t.Aw.length:Int)=_;rw[Fl.eq_2,cf (df (by omega))]) (by omega)
theorem Aam(t:Ah)(a:t.Ab.length≤100)(hl:t.Ar.length≤100):Fm K t K 0=some (cond (t.Ar.all (Kb t)) (.inr ()) (.inl 1)):=
 JT t.Ar (fun m i=>Fm K t m (i:Int)) (Kb t) 1
  (fun m i hi=>by
   show Fm K t (m+1) (i:Int)=_;rw[Fm.eq_2,ct (dt (by omega)),B5 hi,Br (by omega) (by omega),bd (Hs ..)];unfold Kb;cases DK t.Ar[i].Ce 0 ((t.Ab.length:Nat)-1) with
   |false=>rw[nf,Bool.false_and,cf rfl]
   |true=>
    rw[nt,B5 hi,bd (PK ..),Bool.true_and];cases Pb t.Ar[i].CA t.Ar[i].CB 0 9000 with
    |false=>rw[nf,cf rfl]
    |true=>rw[nt,Br (by omega) (by omega),CP i,ct rfl])
  (fun m=>by
   show Fm K t (m+1) (t.Ar.length:Int)=_;rw[Fm.eq_2,cf (df (by omega))]) (by omega)
theorem MN(t:Ah)(hl:Ri t):Fy K t=some (DV t):=by
 obtain⟨⟨hh,a,e,f⟩,b,g,hn⟩:=hl;unfold Fy DV;have h5:Ij K ⟨t.Ag,t.Ab,t.Ak⟩=some (KG t.C):=Xr hK t.C hh a e f;rw[bd h5]
 by_cases h0:KG t.C=0
 ·rw[cf (EW h0),if_neg (by simp[h0])]
  by_cases h1:3<t.AJ.length
  ·rw[ct (dt (by omega)),if_pos (.inl h1)]
  rw[cf (df (by omega))]
  by_cases h2:3<t.Aw.length
  ·rw[ct (dt (by omega)),if_pos (.inr (.inl h2))]
  rw[cf (df (by omega))]
  by_cases i:5<t.Ar.length
  ·rw[ct (dt (by omega)),if_pos (.inr (.inr i))]
  rw[cf (df (by omega)),if_neg (by omega),bd (Hs ..)];cases DK t.Flat 0 100 with
  |false=>rw[nf,if_pos (by rfl)]
  |true=>
   rw[nt,if_neg (by simp)]
   by_cases c:t.AJ.length=0
   ·rw[ct (F9 (by omega)),if_pos c]
   have d:=SS hK t b t.AJ.length K 0 101 100 (by omega) (by omega) (fun _=>⟨rfl,rfl⟩) (fun h=>by omega);rw[Int.natCast_zero,List.drop_zero] at d;rw[cf (IU (by omega)),if_neg c,bd d];cases Me 101 100 t.AJ with
   |false=>rw[cf rfl,if_pos (by rfl)];rfl
   |true=>
    rw[ct rfl,if_neg (by simp)];show Option.bind (Fl K t K 0) _=_;rw[bd (Aal hK t b g)];cases t.Aw.all (LG t) with
    |false=>rw[cf rfl,if_pos (by rfl)];rfl
    |true=>
     rw[ct rfl,if_neg (by simp)];show Option.bind (Fm K t K 0) _=_;rw[bd (Aam hK t a hn)];cases t.Ar.all (Kb t) with
     |false=>rw[cf rfl,if_pos (by rfl)];rfl
     |true=>rw[ct rfl,if_neg (by simp)];rfl
 ·rw[ct (FX h0),if_pos h0]
theorem AcG(t:Ah)(n:Int)(a:t.Ab.length≤100):GO K t n=some (DK n 0 ((t.Ab.length:Nat)-1)):=by
 unfold GO;rw[Br (by omega) (by omega),bd (I7 ..)]
theorem AcH(t:Ah)(o:CH)(a:t.AJ.length≤100):JY K t o=some (LG t o):=by
 unfold JY LG;rw[Br (by omega) (by omega),bd (I7 ..)];cases DK o.Dh 0 ((t.AJ.length:Nat)-1) with
 |false=>rw[cf rfl,Bool.false_and]
 |true=>rw[ct rfl,bd (I7 ..),Bool.true_and]
theorem AeB(t:Ah)(o:Cu)(a:t.Ab.length≤100):Kl K t o=some (Kb t o):=by
 unfold Kl Kb;rw[bd (AcG hK t _ a)];cases DK o.Ce 0 ((t.Ab.length:Nat)-1) with
 |false=>rw[cf rfl,Bool.false_and]
 |true=>rw[ct rfl,bd (Afq ..),Bool.true_and]
theorem QI(t:Ah)(hl:Ri t):Jo K t=some (DV t):=by
 obtain⟨⟨hh,a,d,e⟩,b,i,hn⟩:=hl;unfold Jo DV;have h5:HQ K ⟨t.Ag,t.Ab,t.Ak⟩=some (KG t.C):=Sn hK t.C hh a d e;rw[bd h5]
 by_cases h0:KG t.C=0
 ·rw[cf (EW h0),if_neg (by simp[h0])]
  by_cases h1:3<t.AJ.length
  ·rw[ct (dt (by omega)),if_pos (.inl h1)]
  rw[cf (df (by omega))]
  by_cases h2:3<t.Aw.length
  ·rw[ct (dt (by omega)),if_pos (.inr (.inl h2))]
  rw[cf (df (by omega))]
  by_cases f:5<t.Ar.length
  ·rw[ct (dt (by omega)),if_pos (.inr (.inr f))]
  have g:NO K t.Flat=some (DK t.Flat 0 100):=by unfold NO;rw[bd (I7 ..)]
  rw[cf (df (by omega)),if_neg (by omega),bd g];cases DK t.Flat 0 100 with
  |false=>rw[nf,if_pos (by rfl)]
  |true=>
   rw[nt,if_neg (by simp),bd (Abc hK t b)]
   by_cases c:t.AJ.length=0
   ·rw[df (by omega),Bool.false_and,nf,if_pos c]
   rw[if_neg c,dt (by omega),Bool.true_and];cases Me 101 100 t.AJ with
   |false=>rw[nf,if_pos (by rfl)]
   |true=>
    rw[nt,if_neg (by simp),Xo hK _ _ (by omega),run_pure (ok:=LG t) t.Aw () (fun x h s=>by rw[bd (AcH hK t x b)]),Option.bind_some];cases t.Aw.all (LG t) with
    |false=>rw[nf,if_pos (by rfl)]
    |true=>
     rw[nt,if_neg (by simp),Yy hK _ _ (by omega),run_pure (ok:=Kb t) t.Ar () (fun x h s=>by rw[bd (AeB hK t x a)]),Option.bind_some];cases t.Ar.all (Kb t) with
     |false=>rw[nf,if_pos (by rfl)]
     |true=>rw[nt,if_neg (by simp)]
 ·rw[ct (FX h0),if_pos h0]
end
def Eu:List Bl→List Int→Bool
 |[],[]=>true
 |r::rs,x::xs=>DK x r.Lo r.Hi&&Eu rs xs
 |_,_=>false
theorem OQ:Eu [] []=true:=rfl
theorem KS:∀{rs:List Bl} {l:List Int},Eu rs l=true→l.length=rs.length
 |[],[],_=>rfl
 |[],_::_,h=>by cases h
 |_::_,[],h=>by cases h
 |r::rs,x::xs,h=>by
  rw[Eu,Bool.and_eq_true] at h;rw[List.length_cons,List.length_cons,KS h.2]
theorem Xt:∀{rs:List Bl} {l:List Int},(∀r∈rs,ML r)→Eu rs l=true→∀x∈l,0≤x∧x≤100
 |[],[],_,_,x,a=>by cases a
 |[],_::_,_,h,_,_=>by cases h
 |_::_,[],_,h,_,_=>by cases h
 |r::rs,y::xs,hr,h,x,a=>by
  rw[Eu,Bool.and_eq_true] at h;rcases List.mem_cons.1 a with rfl|a
  ·have h1:=Ei.1 h.1;have h2:ML r:=hr r (List.mem_cons_self ..);unfold ML at h2;omega
  ·exact Xt (fun r b=>hr r (List.mem_cons_of_mem _ b)) h.2 x a
def dot:List Int→List Int→Int
 |w::ws,x::xs=>w*x+dot ws xs
 |_,_=>0
theorem AcI(l:List Int):dot l []=0:=by cases l<;>rfl
def DZ(l w:List Int):Int:=dot w l/w.sum
theorem UY:∀(w l:List Int),(∀x∈w,0≤x∧x≤30)→(∀x∈l,0≤x∧x≤100)→0≤dot w l∧dot w l≤100*w.sum
 |[],l,_,_=>by simp[dot]
 |w::ws,[],hw,_=>by
  have:=(Rw (a:=0) (b:=30) (by omega) (by omega) (w::ws) hw).1;simp only[dot];omega
 |w::ws,x::xs,hw,d=>by
  have h1:=hw w (List.mem_cons_self ..);have h2:=d x (List.mem_cons_self ..);have e:=UY ws xs (fun y c=>hw y (List.mem_cons_of_mem _ c)) (fun y c=>d y (List.mem_cons_of_mem _ c));have f:w*x≤w*100:=Int.mul_le_mul_of_nonneg_left h2.2 h1.1;have h5:=Int.mul_nonneg h1.1 h2.1;rw[dot,List.sum_cons];omega
theorem YN{w l:List Int}(hw:∀x∈w,0≤x∧x≤30)(hl:∀x∈l,0≤x∧x≤100)(hs:0<w.sum):0≤DZ l w∧DZ l w≤100:=by
 have h:=UY w l hw hl;unfold DZ;refine⟨Int.ediv_nonneg h.1 (by omega),?_⟩;have:=Int.ediv_le_ediv hs h.2
 rwa[Int.mul_ediv_cancel _ (by omega)] at this
def Ew (c:AO) (l:List Int) (t:DL):Int:=cond t.Ce (DZ l (c.Bv.getD t.Number.toNat [])) (l.getD t.Number.toNat 0)
def Oh(c:AO)(l:List Int):Bool:=c.AQ.all fun t=>DK (Ew c l t) t.AM t.AN
def Dr(c:AO)(l:List Int):Bool:=Eu c.Ax l&&Oh c l
def HK:List Bl→Int→List Int
 |[],_=>[]
 |r::rs,n=>(r.Lo+n%FI r)::HK rs (n/FI r)
structure OkC (c:AO):Prop where
 len:Abb c
 fault:KG c=0
 many:Gt c.Ax≤150
theorem MO{c:AO}(h:KG c=0):c.Ax.length≤3∧c.Bv.length≤3∧c.AQ.length≤5∧0<c.Ax.length∧(∀r∈c.Ax,ML r)∧(∀l∈c.Bv,Pn c l=true)∧(∀t∈c.AQ,Og c t=true)∧Gt c.Ax≤2000:=by
 unfold KG at h;split at h
 ·omega
 rename_i h1
 split at h
 ·omega
 rename_i h2
 split at h
 ·omega
 rename_i a
 split at h
 ·omega
 rename_i b
 split at h
 ·omega
 rename_i h5
 split at h
 ·omega
 rename_i d
 refine⟨by omega,by omega,by omega,by omega,Uc (by simpa using a),?_,?_,by omega⟩
 ·exact List.all_eq_true.1 (by simpa using b)
 ·exact List.all_eq_true.1 (by simpa using h5)
namespace OkC
variable{c:AO}(h:OkC c)
include h
theorem hl:c.Ax.length≤3:=(MO h.fault).1
theorem cl:c.Bv.length≤3:=(MO h.fault).2.1
theorem tl:c.AQ.length≤5:=(MO h.fault).2.2.1
theorem h0:0<c.Ax.length:=(MO h.fault).2.2.2.1
theorem ok:∀r∈c.Ax,ML r:=(MO h.fault).2.2.2.2.1
theorem Hq:∀l∈c.Bv,l.length=c.Ax.length∧(∀x∈l,0≤x∧x≤30)∧0<l.sum∧l.sum≤90:=fun l hl=>by
 have h1:=(MO h.fault).2.2.2.2.2.1 l hl;unfold Pn at h1;rw[Bool.and_eq_true,decide_eq_true_eq] at h1;have h2:=SQ h1.1;have d:=Rw (a:=0) (b:=30) (by omega) (by omega) l h2.2;have e:=h.hl;exact⟨h2.1,h2.2,h1.2,by omega⟩
theorem Qp:∀t∈c.AQ,0≤t.Number∧(t.Ce=true→t.Number<c.Bv.length)∧(t.Ce=false→t.Number<c.Ax.length):=fun t a=>by
 have h1:=(MO h.fault).2.2.2.2.2.2.1 t a;unfold Og at h1;rw[Bool.and_eq_true] at h1;have h2:=Ei.1 h1.1;refine⟨h2.1,fun e=>?_,fun e=>?_⟩
 ·rw[e,cond_true] at h2;omega
 ·rw[e,cond_false] at h2;omega
end OkC
theorem UZ(r:Bl)(l:List Bl):Gt (r::l)=FI r*Gt l:=by
 have:∀(l:List Bl) (s:Int),l.foldl (fun n r=>n*FI r) s=s*l.foldl (fun n r=>n*FI r) 1:=by
  intro l
  induction l with
  |nil=>intro s;simp
  |cons r l ih=>intro s;rw[List.foldl_cons,List.foldl_cons,ih,ih (1*FI r),Int.one_mul,Int.mul_assoc]
 unfold Gt;rw[List.foldl_cons,this,Int.one_mul]
theorem YO:∀{rs:List Bl} {l:List Int},(∀r∈rs,ML r)→Eu rs l=true→∃n:Nat,(n:Int)<Gt rs∧HK rs (n:Int)=l
 |[],[],_,_=>⟨0,by simp[Gt],rfl⟩
 |[],_::_,_,h=>by cases h
 |_::_,[],_,h=>by cases h
 |r::rs,x::xs,hr,h=>by
  rw[Eu,Bool.and_eq_true] at h;obtain⟨n,hn,e⟩:=YO (fun r b=>hr r (List.mem_cons_of_mem _ b)) h.2;have h1:=Ei.1 h.1;have h2:=Md (hr r (List.mem_cons_self ..));have a:0≤x-r.Lo∧x-r.Lo<FI r:=by unfold FI;omega
  have c:0≤FI r*(n:Int):=Int.mul_nonneg (by omega) (by omega);refine⟨(x-r.Lo+FI r*n).toNat,?_,?_⟩
  ·rw[UZ];have:FI r*((n:Int)+1)≤FI r*Gt rs:=Int.mul_le_mul_of_nonneg_left (by omega) (by omega);rw[Int.mul_add] at this;omega
  ·rw[Int.toNat_of_nonneg (by omega),HK,Int.add_mul_emod_self_left,Int.emod_eq_of_lt a.1 a.2,Int.add_mul_ediv_left _ _ (by omega),Int.ediv_eq_zero_of_lt a.1 a.2,Int.zero_add,e]
   congr 1;omega
def BR (c:AO):List (List Int):=((List.range (Gt c.Ax).toNat).map fun n:Nat=>HK c.Ax (n:Int)).filter (Dr c)
theorem Gd{c:AO}(a:OkC c){l:List Int}:l∈BR c↔Dr c l=true:=by
 unfold BR;rw[List.mem_filter,List.mem_map];refine⟨fun h=>h.2,fun h=>⟨?_,h⟩⟩;have h1:=h;unfold Dr at h1;rw[Bool.and_eq_true] at h1;obtain⟨n,hn,e⟩:=YO a.ok h1.1;exact⟨n,List.mem_range.2 (by omega),e⟩
theorem Jr{c:AO}{l:List Int}(h:Dr c l=true):Eu c.Ax l=true:=by
 unfold Dr at h;rw[Bool.and_eq_true] at h;exact h.1
section
variable{K:Nat}(hK:1000≤K)
include hK
omit hK in
theorem Aan (l w:List Int) (hl:l.length≤100) (hw:l.length=w.length) (bw:∀x∈w,0≤x∧x≤30) (bl:∀x∈l,0≤x∧x≤100):∀(n m i:Nat) (s:Int),l.length=i+n→n<m→0≤s∧s≤3000*(i:Int)→
  Is l w m s (i:Int)=some (s+dot (w.drop i) (l.drop i))
 |n,0,i,s,h,hm,_=>by omega
 |0,m+1,i,s,h,hm,hs=>by
  rw[Is.eq_2,cf (df (by omega)),List.drop_eq_nil_of_le (by omega:l.length≤i),AcI,Int.add_zero]
 |n+1,m+1,i,s,h,hm,hs=>by
  have h1:i<l.length:=by omega
  have h2:i<w.length:=by omega
  have b1:=bw _ (List.getElem_mem h2)
  have b2:=bl _ (List.getElem_mem h1)
  have b3:=MM b1.1 b1.2 b2.1 b2.2
  rw[Is.eq_2,ct (dt (by omega)),B5 h2,B5 h1,Br (by omega) (by omega),Br (by omega) (by omega),Br (by omega) (by omega),CP i,
   Aan l w hl hw bw bl n m (i+1) _ (by omega) (by omega) (by omega),List.drop_eq_getElem_cons h1,List.drop_eq_getElem_cons h2,dot,Int.add_assoc]
theorem AeC{l w:List Int}(hl:l.length≤100)(hw:l.length=w.length)(bw:∀x∈w,0≤x∧x≤30)(bl:∀x∈l,0≤x∧x≤100)(hs:0<w.sum):DM K l w=some (DZ l w):=by
 unfold DM;have h:=Aan l w hl hw bw bl l.length K 0 0 (by omega) (by omega) (by omega);rw[Int.natCast_zero,Int.zero_add,List.drop_zero,List.drop_zero] at h;have h2:=UY w l bw bl;have e:=Rw (a:=0) (b:=30) (by omega) (by omega) w bw;have c:=YN bw bl hs;unfold DZ at c⊢;rw[bd h,bd (Xp hK w (by omega) (fun x d=>by have:=bw x d;omega)),Vw (by omega) (by omega),Br (by omega) (by omega)]
end
theorem Cl{α:Type}{l:List α}{i:Nat}(d:α)(h:i<l.length):l.getD i d=l[i]:=by simp[List.getElem?_eq_getElem h]
section
variable{K:Nat}(hK:1000≤K)
include hK
theorem KV{c:AO}(a:OkC c){l:List Int}(hl:Eu c.Ax l=true){k:Nat}(hk:k<c.Bv.length):DM K l c.Bv[k]=some (DZ l c.Bv[k]):=by
 obtain⟨h1,h2,b,_⟩:=a.Hq _ (List.getElem_mem hk);have hh:=KS hl;have:=a.hl;exact AeC hK (by omega) (by omega) h2 (Xt a.ok hl) b
theorem Acd{c:AO}(hl:c.Ax.length≤100)(a:∀r∈c.Ax,ML r):∀(d m i:Nat) (n:Int) (out:List Int),c.Ax.length=i+d→d<m→0≤n∧n≤5000→out.length≤i→
  IS K c m n out (i:Int)=some (out++HK (c.Ax.drop i) n)
 |d,0,i,n,out,h,hm,_,_=>by omega
 |0,m+1,i,n,out,h,hm,_,_=>by
  rw[IS.eq_2,cf (df (by omega)),List.drop_eq_nil_of_le (by omega:c.Ax.length≤i),HK,List.append_nil]
 |d+1,m+1,i,n,out,h,hm,hn,b=>by
  have hi:i<c.Ax.length:=by omega
  have h1:=a _ (List.getElem_mem hi);have h2:=Md h1;have e:=Int.emod_nonneg n (by omega:FI c.Ax[i]≠0);have f:=Int.emod_lt_of_pos n (by omega:0<FI c.Ax[i]);have h5:0≤n/FI c.Ax[i]:=Int.ediv_nonneg hn.1 (by omega);have g:n/FI c.Ax[i]≤n:=Int.ediv_le_self _ hn.1;have j:0≤c.Ax[i].Lo∧c.Ax[i].Lo≤100:=by unfold ML at h1;omega
  rw[IS.eq_2,ct (dt (by omega)),B5 hi,bd (SR K h1),LF hn.1 h2.1,Br (by omega) (by omega),DG (by simp;omega),bd (SR K h1),Vw hn.1 h2.1,Br (by omega) (by omega),Br (by omega) (by omega),CP i,
   Acd hl a d m (i+1) _ _ (by omega) (by omega) (by omega) (by simp;omega),List.drop_eq_getElem_cons hi,HK,List.append_assoc]
  rfl
theorem Po{c:AO}(hl:c.Ax.length≤100)(a:∀r∈c.Ax,ML r){n:Int}(hn:0≤n∧n≤5000):FM K c n=some (HK c.Ax n):=by
 unfold FM;have:=Acd hK hl a c.Ax.length K 0 n [] (by omega) (by omega) hn (by simp);rw[Int.natCast_zero,List.drop_zero,List.nil_append] at this;rw[bd this]
theorem Kp{c:AO}(a:OkC c):Ez K c=some (Gt c.Ax):=by
 have:=a.hl;have:=a.many;rw[Xq hK c (by omega) a.ok,Int.min_eq_right (by omega)]
theorem NC{c:AO}(a:OkC c):1≤Gt c.Ax:=Wp c.Ax 1 a.ok (by omega)
theorem KH(p:List Int)(x:Int)(b:p.length≤900):G1 K p x=some (p.contains x):=by
 have h:∀(n m i:Nat),p.length=i+n→n<m→((Iq p x m (i:Int)).bind fun z=>Sum.elim (fun q=>some q) (fun _=>some (-1)) z).bind (fun r=>some (decide ((0:Int)≤r)))=some ((p.drop i).contains x):=by
  intro n
  induction n with
  |zero=>
   intro m i h hm;obtain⟨m,rfl⟩:∃a,m=a+1:=⟨m-1,by omega⟩;rw[Iq.eq_2,cf (df (by omega)),List.drop_eq_nil_of_le (by omega)];rfl
  |succ n ih=>
   intro m i h hm;obtain⟨m,rfl⟩:∃a,m=a+1:=⟨m-1,by omega⟩;have hi:i<p.length:=by omega
   rw[Iq.eq_2,ct (dt (by omega)),B5 hi,List.drop_eq_getElem_cons hi,List.contains_cons];cases e:x==p[i] with
   |true=>
    rw[ct rfl,Bool.true_or];show some (decide ((0:Int)≤(i:Int)))=some true;rw[dt (by omega)]
   |false=>rw[cf rfl,Br (by omega) (by omega),CP i,Bool.false_or];exact ih m (i+1) (by omega) (by omega)
 have:=h p.length K 0 (by omega) (by omega);rw[Int.natCast_zero,List.drop_zero] at this;exact this
end
def arr (l:List Int):BA:=⟨l.getD 0 0,l.getD 1 0,l.getD 2 0⟩
theorem AeD(l:List Int):(⟨0,0,0⟩:BA).cp l=arr l:=rfl
theorem AcJ{w l:List Int}(a:l.length≤3)(h:w.length=l.length):dot w [(arr l).a0,(arr l).a1,(arr l).a2]=dot w l:=by
 match w,l,a,h with
 |[],[],_,_=>rfl
 |[_],[_],_,_=>rfl
 |[_,_],[_,_],_,_=>rfl
 |[_,_,_],[_,_,_],_,_=>rfl
 |_::_::_::_::_,_::_::_::_::_,a,_=>simp at a
theorem HN{l:List Int}(a:l.length≤3){k:Nat}(hk:k<l.length):idx [(arr l).a0,(arr l).a1,(arr l).a2] (k:Int)=some l[k]:=by
 match l,k,a,hk with
 |_::_,0,_,_=>rfl
 |_::_::_,1,_,_=>rfl
 |_::_::_::_,2,_,_=>rfl
 |l,k+3,a,hk=>omega
theorem AeE{l:List Int}(b:∀x∈l,0≤x∧x≤100):∀x∈[(arr l).a0,(arr l).a1,(arr l).a2],0≤x∧x≤100:=by
 have h:∀k,0≤l.getD k 0∧l.getD k 0≤100:=fun k=>by
  by_cases hk:k<l.length
  ·rw[Cl _ hk];exact b _ (List.getElem_mem hk)
  ·rw[List.getD_eq_getElem?_getD,List.getElem?_eq_none (by omega)];simp
 intro x a;simp only[arr,List.mem_cons,List.not_mem_nil,or_false] at a;rcases a with rfl|rfl|rfl<;>exact h _
theorem YP(s:BA)(w:List Int)(hw:w.length≤3)(bw:∀x∈w,0≤x∧x≤30)(bl:∀x∈[s.a0,s.a1,s.a2],0≤x∧x≤100):∀(n m i:Nat) (z:Int),w.length=i+n→n<m→0≤z∧z≤3000*(i:Int)→
  Hr s w m z (i:Int)=some (z+dot (w.drop i) ([s.a0,s.a1,s.a2].drop i))
 |n,0,i,z,h,hm,_=>by omega
 |0,m+1,i,z,h,hm,hs=>by
  rw[Hr.eq_2,cf (df (by omega)),List.drop_eq_nil_of_le (by omega:w.length≤i)];simp[dot]
 |n+1,m+1,i,z,h,hm,hs=>by
  have h2:i<w.length:=by omega
  have h1:i<[s.a0,s.a1,s.a2].length:=by simp;omega
  have b1:=bw _ (List.getElem_mem h2);have b2:=bl _ (List.getElem_mem h1);have b3:=MM b1.1 b1.2 b2.1 b2.2;rw[Hr.eq_2,ct (dt (by omega)),B5 h2,B5 h1,Br (by omega) (by omega),Br (by omega) (by omega),Br (by omega) (by omega),CP i,
   YP s w hw bw bl n m (i+1) _ (by omega) (by omega) (by omega),List.drop_eq_getElem_cons h1,List.drop_eq_getElem_cons h2,dot,Int.add_assoc]
section
variable{K:Nat}(hK:1000≤K)
include hK
theorem AcK{l w:List Int}(hl:l.length≤3)(hw:w.length=l.length)(bw:∀x∈w,0≤x∧x≤30)(bl:∀x∈l,0≤x∧x≤100)(hs:0<w.sum):Ir K (arr l) w=some (DZ l w):=by
 unfold Ir;have h:=YP (arr l) w (by omega) bw (AeE bl) w.length K 0 0 (by omega) (by omega) (by omega);rw[Int.natCast_zero,Int.zero_add,List.drop_zero,List.drop_zero,AcJ hl hw] at h;have h2:=UY w l bw bl;have e:=Rw (a:=0) (b:=30) (by omega) (by omega) w bw;have c:=YN bw bl hs;unfold DZ at c⊢;rw[bd h,bd (Aaf hK w (by omega) (fun x d=>by have:=bw x d;omega)),Vw (by omega) (by omega),Br (by omega) (by omega)]
theorem U0{c:AO}(a:OkC c){l:List Int}(hl:Eu c.Ax l=true){k:Nat}(hk:k<c.Bv.length):Ir K (arr l) c.Bv[k]=some (DZ l c.Bv[k]):=by
 obtain⟨h1,h2,b,_⟩:=a.Hq _ (List.getElem_mem hk);have hh:=KS hl;have:=a.hl;exact AcK hK (by omega) (by omega) h2 (Xt a.ok hl) b
theorem Abd{c:AO}(b:OkC c){l:List Int}(hl:Eu c.Ax l=true):K3 K c (arr l) []=some (Oh c l):=by
 have hh:=KS hl;have d:=b.hl;have:=b.cl;have:=b.tl;unfold K3;have h:FA K c (arr l) [] K 0=some (cond (c.AQ.all fun t=>DK (Ew c l t) t.AM t.AN) (.inr ()) (.inl false)):=
  JT c.AQ (fun m i=>FA K c (arr l) [] m (i:Int)) (fun t=>DK (Ew c l t) t.AM t.AN) false
   (fun m i hi=>by
    show FA K c (arr l) [] (m+1) (i:Int)=_;obtain⟨h0,h1,h2⟩:=b.Qp _ (List.getElem_mem hi);have e:K2 K c c.AQ[i]=some (cond c.AQ[i].Ce ((c.Ax.length:Int)+c.AQ[i].Number) c.AQ[i].Number):=by
     unfold K2;cases e:c.AQ[i].Ce with
     |true=>have:=h1 e;rw[ct rfl,Br (by omega) (by omega),ct rfl]
     |false=>rw[cf rfl,cf rfl]
    have f:Mm K c (arr l) (cond c.AQ[i].Ce ((c.Ax.length:Int)+c.AQ[i].Number) c.AQ[i].Number)=some (Ew c l c.AQ[i]):=by
     unfold Mm Ew;cases e:c.AQ[i].Ce with
     |true=>
      have d:=h1 e;obtain⟨k,hk⟩:∃k:Nat,c.AQ[i].Number=k:=⟨c.AQ[i].Number.toNat,by omega⟩;have a:k<c.Bv.length:=by omega
      have g:(c.Ax.length:Int)+(k:Int)-(c.Ax.length:Int)=(k:Int):=by omega
      rw[ct rfl,ct rfl,hk,ct (dt (by omega)),Br (by omega) (by omega),g,B5 a,bd (U0 hK b hl a),Int.toNat_natCast,Cl _ a]
     |false=>
      have o:=h2 e;obtain⟨k,hk⟩:∃k:Nat,c.AQ[i].Number=k:=⟨c.AQ[i].Number.toNat,by omega⟩;have a:k<l.length:=by omega
      rw[cf rfl,cf rfl,hk,cf (df (by omega)),bd (HN (by omega) a),Int.toNat_natCast,Cl _ a]
    have j:Jn K ⟨c.AQ[i].AM,c.AQ[i].AN⟩ (Ew c l c.AQ[i])=some (DK (Ew c l c.AQ[i]) c.AQ[i].AM c.AQ[i].AN):=by
     unfold Jn;rw[bd (P7 ..)]
    have n:List.contains ([]:List Int) (i:Int)=false:=rfl;rw[FA.eq_2,ct (dt (by omega)),B5 hi,bd (KH hK [] _ (by simp)),n,nf,bd e,bd f,bd j];cases DK (Ew c l c.AQ[i]) c.AQ[i].AM c.AQ[i].AN with
    |false=>rw[nf,cf rfl]
    |true=>rw[nt,Br (by omega) (by omega),CP i,ct rfl])
   (fun m=>by
    show FA K c (arr l) [] (m+1) (c.AQ.length:Int)=_;rw[FA.eq_2,cf (df (by omega))]) (by omega)
 rw[bd h];unfold Oh;cases c.AQ.all fun t=>DK (Ew c l t) t.AM t.AN with
 |false=>rfl
 |true=>rfl
theorem Wq(c:AO)(l:List Int)(hh:c.Ax.length≤100)(he:l.length=c.Ax.length):∀(n m i:Nat),l.length=i+n→n<m→
  HI K c l m (i:Int)=some (cond (Eu (c.Ax.drop i) (l.drop i)) (.inr ()) (.inl false))
 |n,0,i,h,hm=>by omega
 |0,m+1,i,h,hm=>by
  rw[HI.eq_2,cf (df (by omega)),List.drop_eq_nil_of_le (by omega:l.length≤i),List.drop_eq_nil_of_le (by omega:c.Ax.length≤i),OQ,ct rfl]
 |n+1,m+1,i,h,hm=>by
  have h1:i<l.length:=by omega
  have h2:i<c.Ax.length:=by omega
  have e:Jn K c.Ax[i] l[i]=some (DK l[i] c.Ax[i].Lo c.Ax[i].Hi):=by unfold Jn;rw[bd (P7 ..)]
  rw[HI.eq_2,ct (dt (by omega)),B5 h2,B5 h1,bd e,List.drop_eq_getElem_cons h1,List.drop_eq_getElem_cons h2,Eu];cases DK l[i] c.Ax[i].Lo c.Ax[i].Hi with
  |false=>rw[nf,Bool.false_and,cf rfl]
  |true=>rw[nt,Br (by omega) (by omega),CP i,Bool.true_and,Wq c l hh he n m (i+1) (by omega) (by omega)]
theorem Aao{rs:List Bl}{l:List Int}(h:l.length≠rs.length):Eu rs l=false:=by
 rw[Bool.eq_false_iff];intro g;exact h (KS g)
theorem Wr(c:AO)(l:List Int)(hh:c.Ax.length≤100)(hl:l.length≤100):JF K c l=some (cond (Eu c.Ax l) (arr l) ⟨0,0,0⟩,Eu c.Ax l):=by
 unfold JF
 by_cases he:l.length=c.Ax.length
 ·have:=Wq hK c l hh he l.length K 0 (by omega) (by omega);rw[Int.natCast_zero,List.drop_zero,List.drop_zero] at this;rw[cf (EW (by omega)),bd this,AeD];cases Eu c.Ax l<;>rfl
 ·rw[ct (FX (by omega)),Aao hK he,cf rfl]
theorem Xu{c:AO}(a:OkC c):HQ K c=some 0:=by
 rw[Sn hK c a.len.1 a.len.2.1 a.len.2.2.1 a.len.2.2.2,a.fault]
theorem Qj{c:AO}(a:OkC c){l:List Int}(hl:l.length≤100):HC K c l=some (Dr c l):=by
 have:=a.hl;unfold HC Dr;rw[bd (Xu hK a),cf (EW rfl),bd (Wr hK c l (by omega) hl)];cases h:Eu c.Ax l with
 |false=>rw[cf rfl,Bool.false_and]
 |true=>rw[ct rfl,ct rfl,bd (Abd hK a h),Bool.true_and]
theorem AcL {c:AO} (a:OkC c) {l:List Int} (hl:Eu c.Ax l=true):NT K c l=some (c.Bv.map (DZ l),0):=by
 have f:=a.hl;have g:=a.cl;have hh:=KS hl;unfold NT;rw[bd (Xu hK a),cf (EW rfl),bd (Wr hK c l (by omega) (by omega)),hl,nt,ct rfl];have b:∀(d m i:Nat) (acc:List Int),c.Bv.length=i+d→d<m→acc.length≤i→KD K c (arr l,true) m acc (i:Int)=some (acc++(c.Bv.drop i).map (DZ l)):=by
  intro d
  induction d with
  |zero=>
   intro m i acc h hm ha;obtain⟨m,rfl⟩:∃e,m=e+1:=⟨m-1,by omega⟩;rw[KD.eq_2,cf (df (by omega)),List.drop_eq_nil_of_le (by omega),List.map_nil,List.append_nil]
  |succ d ih=>
   intro m i acc h hm ha;obtain⟨m,rfl⟩:∃e,m=e+1:=⟨m-1,by omega⟩;have hi:i<c.Bv.length:=by omega
   rw[KD.eq_2,ct (dt (by omega)),B5 hi,bd (U0 hK a hl hi),DG (by simp;omega),Br (by omega) (by omega),CP i,ih m (i+1) _ (by omega) (by omega) (by simp;omega),List.drop_eq_getElem_cons hi,List.map_cons,List.append_assoc];rfl
 have:=b c.Bv.length K 0 [] (by omega) (by omega) (by simp);rw[Int.natCast_zero,List.drop_zero,List.nil_append] at this;rw[bd this]
end
def Kq(g:List C6)(s:Int):Int:=match g.find? (fun x=>decide (x.BN≤s)) with|some x=>x.Dn|none=>0
def AB (t:Ah) (l:List Int):List Int:=t.Ab.map fun w=>Kq t.AJ (DZ l w)*w.sum
structure OkT(t:Ah):Prop where
 len:Ri t
 fault:DV t=0
 many:Gt t.Ag≤150
theorem HE{t:Ah}(h:DV t=0):KG t.C=0∧t.AJ.length≤3∧t.Aw.length≤3∧t.Ar.length≤5∧(0≤t.Flat∧t.Flat≤100)∧0<t.AJ.length∧Me 101 100 t.AJ=true∧(∀o∈t.Aw,LG t o=true)∧∀n∈t.Ar,Kb t n=true:=by
 unfold DV at h;split at h
 ·rename_i h0;exact absurd h h0
 rename_i h0
 split at h
 ·omega
 rename_i h1
 split at h
 ·omega
 rename_i h2
 split at h
 ·omega
 rename_i c
 split at h
 ·omega
 rename_i a
 split at h
 ·omega
 rename_i h5
 split at h
 ·omega
 rename_i b
 refine⟨Decidable.byContradiction h0,by omega,by omega,by omega,Ei.1 (by simpa using h2),by omega,by simpa using a,?_,?_⟩
 ·exact List.all_eq_true.1 (by simpa using h5)
 ·exact List.all_eq_true.1 (by simpa using b)
theorem Ws:∀{l:List C6} {s p:Int},Me s p l=true→∀g∈l,(0≤g.BN∧g.BN<s)∧0≤g.Dn∧g.Dn≤p
 |[],_,_,_,g,a=>by cases a
 |x::l,s,p,h,g,a=>by
  rw[Me,Bool.and_eq_true,Bool.and_eq_true] at h;have h1:=Ei.1 h.1;have h2:=Ei.1 h.2.1;rcases List.mem_cons.1 a with rfl|a
  ·exact⟨by omega,h2⟩
  ·have:=Ws h.2.2 g a;omega
namespace OkT
variable{t:Ah}(h:OkT t)
include h
theorem c:OkC t.C:=⟨h.len.1,(HE h.fault).1,h.many⟩
theorem gl:t.AJ.length≤3:=(HE h.fault).2.1
theorem nl:t.Ar.length≤5:=(HE h.fault).2.2.2.1
theorem flat:0≤t.Flat∧t.Flat≤100:=(HE h.fault).2.2.2.2.1
theorem gr:Me 101 100 t.AJ=true:=(HE h.fault).2.2.2.2.2.2.1
theorem Ace:∀g∈t.AJ,(0≤g.BN∧g.BN≤100)∧0≤g.Dn∧g.Dn≤100:=fun g a=>by have:=Ws h.gr g a;omega
theorem order:∀o∈t.Aw,(0≤o.Dh∧o.Dh<t.AJ.length)∧1≤o.Df∧o.Df≤90:=fun o a=>by
 have h1:=(HE h.fault).2.2.2.2.2.2.2.1 o a;unfold LG at h1;rw[Bool.and_eq_true] at h1;have h2:=Ei.1 h1.1;exact⟨by omega,Ei.1 h1.2⟩
theorem note:∀n∈t.Ar,(0≤n.Ce∧n.Ce<t.Ab.length)∧0≤n.CA∧n.CA≤n.CB∧n.CB≤9000:=fun n hn=>by
 have h1:=(HE h.fault).2.2.2.2.2.2.2.2 n hn;unfold Kb at h1;rw[Bool.and_eq_true] at h1;have h2:=Ei.1 h1.1;exact⟨by omega,Vx.1 h1.2⟩
theorem Hq:∀w∈t.Ab,w.length=t.Ag.length∧(∀x∈w,0≤x∧x≤30)∧0<w.sum∧w.sum≤90:=h.c.Hq
theorem kl:t.Ab.length≤3:=h.c.cl
theorem hl:t.Ag.length≤3:=h.c.hl
theorem Acf(s:Int):0≤Kq t.AJ s∧Kq t.AJ s≤100:=by
 unfold Kq;split
 ·rename_i x a
  exact(h.Ace x (List.mem_of_find?_eq_some a)).2
 ·omega
theorem RX(l:List Int):∀x∈AB t l,0≤x∧x≤9000:=fun x a=>by
 unfold AB at a;obtain⟨w,hw,rfl⟩:=List.mem_map.1 a;have h1:=h.Acf (DZ l w);have h2:=h.Hq w hw;have:=MM h1.1 h1.2 (by omega:0≤w.sum) h2.2.2.2;omega
end OkT
theorem DC(t:Ah)(l:List Int):(AB t l).length=t.Ab.length:=List.length_map ..
section
variable{K:Nat}(hK:1000≤K)
include hK
theorem Ud{t:Ah}(a:OkT t){l:List Int}(hl:Eu t.Ag l=true){k:Nat}(hk:k<t.Ab.length):∀(i m:Nat) (p:Int),i≤t.AJ.length→i<m→p=Kq (t.AJ.drop i) (DZ l t.Ab[k])→
  Hk K t l (k:Int) m p ((i:Int)-1)=some (Kq t.AJ (DZ l t.Ab[k]))
 |i,0,p,hi,hm,b=>by omega
 |0,m+1,p,hi,hm,b=>by
  rw[Hk.eq_2,cf (df (by omega)),b,List.drop_zero]
 |i+1,m+1,p,hi,hm,b=>by
  have g:=a.gl;have h1:i<t.AJ.length:=by omega
  have e:((i+1:Nat):Int)-1=(i:Int):=by omega
  have d:DM K l t.Ab[k]=some (DZ l t.Ab[k]):=KV hK a.c (c:=t.C) hl hk;have f:Kq (t.AJ.drop i) (DZ l t.Ab[k])=if t.AJ[i].BN≤DZ l t.Ab[k] then t.AJ[i].Dn else Kq (t.AJ.drop (i+1)) (DZ l t.Ab[k]):=by
   rw[List.drop_eq_getElem_cons h1];unfold Kq;rw[List.find?_cons]
   by_cases h:t.AJ[i].BN≤DZ l t.Ab[k]
   ·rw[dt h,if_pos h]
   ·rw[df h,if_neg h]
  rw[Hk.eq_2,e,ct (dt (by omega)),B5 hk,bd d,B5 h1]
  by_cases h:t.AJ[i].BN≤DZ l t.Ab[k]
  ·rw[ct (dt h),B5 h1,Br (by omega) (by omega)];exact Ud a hl hk i m _ (by omega) (by omega) (by rw[f,if_pos h])
  ·rw[cf (df h),Br (by omega) (by omega)];exact Ud a hl hk i m _ (by omega) (by omega) (by rw[f,if_neg h,b])
theorem MW{t:Ah}(a:OkT t){k:Nat}(hk:k<t.Ab.length):Ef K t (k:Int)=some t.Ab[k].sum:=by
 have h1:=a.Hq _ (List.getElem_mem hk);have:=a.hl;unfold Ef;rw[B5 hk,bd (Xp hK _ (by omega) (fun x b=>by have:=h1.2.1 x b;omega))]
theorem Ld{t:Ah}(a:OkT t){l:List Int}(hl:Eu t.Ag l=true){k:Nat}(hk:k<t.Ab.length):Eg K t l (k:Int)=some ((AB t l)[k]'(by rw[DC];exact hk)):=by
 have b:=a.gl;have h1:=a.Acf (DZ l t.Ab[k]);have h2:=a.Hq _ (List.getElem_mem hk);have c:=MM h1.1 h1.2 (by omega:0≤t.Ab[k].sum) h2.2.2.2;unfold Eg;rw[Br (by omega) (by omega),bd (Ud hK a hl hk t.AJ.length K 0 (by omega) (by omega) (by rw[List.drop_eq_nil_of_le (by omega)];rfl)),bd (MW hK a hk),Br (by omega) (by omega)];simp[AB]
end
def EC (t:Ah) (m:List (List Int×Int)):Prop:=∀(i:Nat) (s v:Int),H6 m [(i:Int),s]=some v→v=Kq t.AJ s*(t.Ab.getD i []).sum
theorem LN(t:Ah):EC t []:=fun i s v h=>by cases h
def wk (t:Ah) (a:List BA) (m:List (List Int×Int)):CZ:=⟨t.Ag,t.Ab,t.Ak,t.Flat,t.AJ,t.Aw,t.Ar,t.Ab.map List.sum,a,m⟩
def Bq(t:Ah)(l:List Int):BA:=arr (t.Ab.map (DZ l))
theorem AcM:∀{l:List Int} {i:Nat} (x:Int),l.length=i→i<3→(arr l).set i x=arr (l++[x])
 |[],_,x,rfl,_=>rfl
 |[_],_,x,rfl,_=>rfl
 |[_,_],_,x,rfl,_=>rfl
 |_::_::_::_,_,x,rfl,h=>by simp at h;omega
section
variable{K:Nat}(hK:1000≤K)
include hK
theorem Xv{t:Ah}(b:OkT t)(a:List BA)(m:List (List Int×Int)){k:Nat}(hk:k<t.Ab.length)(s:Int):∀(d n i:Nat),t.AJ.length=i+d→d<n→
  Hh (wk t a m) ⟨(k:Int),s⟩ n 0 (i:Int)=some (Kq (t.AJ.drop i) s*t.Ab[k].sum)
 |d,0,i,h,hn=>by omega
 |0,n+1,i,h,hn=>by
  have e:((wk t a m).Bx.length:Int)=t.AJ.length:=rfl;rw[Hh.eq_2,cf (df (by omega)),List.drop_eq_nil_of_le (by omega)];simp[Kq]
 |d+1,n+1,i,h,hn=>by
  have h1:i<t.AJ.length:=by omega
  have g:=b.gl;have c:k<(wk t a m).weights.length:=by show k<(List.map _ _).length;simpa using hk
  have f:(wk t a m).weights[k]'c=t.Ab[k].sum:=by simp[wk]
  rw[Hh.eq_2,ct (dt (show(i:Int)<((wk t a m).Bx.length:Int) by show(i:Int)<(t.AJ.length:Int);omega)),B5 (xs:=(wk t a m).Bx) h1,List.drop_eq_getElem_cons h1];show cond (decide (t.AJ[i].BN≤s)) _ _=_
  by_cases h2:t.AJ[i].BN≤s
  ·have b1:=(b.Ace _ (List.getElem_mem h1)).2;have b2:=b.Hq _ (List.getElem_mem hk);have b3:=MM b1.1 b1.2 (by omega:0≤t.Ab[k].sum) b2.2.2.2;rw[ct (dt h2),B5 c,f];show(i64 (t.AJ[i].Dn*_)).bind _=_;rw[Br (by omega) (by omega)];unfold Kq;rw[List.find?_cons,dt h2];rfl
  ·rw[cf (df h2),Br (by omega) (by omega),CP i,Xv b a m hk s d n (i+1) (by omega) (by omega)]
   congr 2
   unfold Kq;rw[List.find?_cons,df h2]
theorem Abe{t:Ah}(d:OkT t)(c:List BA){m:List (List Int×Int)}(hm:EC t m){k:Nat}(hk:k<t.Ab.length)(s:Int):
  ∃a,EC t a∧J0 K (wk t c m) ⟨(k:Int),s⟩=some (Kq t.AJ s*t.Ab[k].sum,a):=by
 have g:=d.gl;unfold J0;show∃a,EC t a∧cond (!((H6 m [(k:Int),s]).isSome)) _ _=_;cases e:H6 m [(k:Int),s] with
 |some v=>
  have h1:=hm k s v e;rw[Cl _ hk] at h1;refine⟨m,hm,?_⟩;show cond (!true) _ (some ((H6 m [(k:Int),s]).getD 0,m))=_;rw[nt,e,←h1];rfl
 |none=>
  have h:=Xv hK d c m hk s t.AJ.length K 0 (by omega) (by omega);rw[Int.natCast_zero,List.drop_zero] at h;refine⟨P0 m [(k:Int),s] (Kq t.AJ s*t.Ab[k].sum),fun i f v b=>?_,?_⟩
  ·rw[Yv] at b;split at b
   ·rename_i he
    simp only[List.cons.injEq,and_true] at he;obtain⟨j,rfl⟩:=he;obtain rfl:i=k:=by omega
    rw[Cl _ hk];exact(Option.some.inj b).symm
   ·exact hm i f v b
  ·show cond (!false) ((Hh (wk t c m) ⟨(k:Int),s⟩ K ((H6 m [(k:Int),s]).getD 0) 0).bind _) _=_;rw[nf,e,Option.getD_none,bd h];rfl
theorem YQ{t:Ah}(c:OkT t)(a:List BA)(b:List (List Int×Int))(l:List Int):∀(d n i:Nat) (m:List (List Int×Int)),t.Ab.length=i+d→d<n→EC t m→
  ∃f,EC t f∧G4 K (wk t a b) (Bq t l) n (i:Int) (arr ((AB t l).take i)).a0 (arr ((AB t l).take i)).a1 (arr ((AB t l).take i)).a2 m=some ((arr (AB t l)).a0,(arr (AB t l)).a1,(arr (AB t l)).a2,f)
 |d,0,i,m,h,hn,_=>by omega
 |0,n+1,i,m,h,hn,hm=>by
  have e:((wk t a b).weights.length:Int)=t.Ab.length:=by show((List.map _ _).length:Int)=_;simp
  refine⟨m,hm,?_⟩;rw[G4.eq_2,cf (df (by omega)),List.take_of_length_le (by rw[DC];omega)]
 |d+1,n+1,i,m,h,hn,hm=>by
  have g:=c.kl;have e:((wk t a b).weights.length:Int)=t.Ab.length:=by show((List.map _ _).length:Int)=_;simp
  have hi:i<t.Ab.length:=by omega
  have j:i<(AB t l).length:=by rw[DC];exact hi
  have g1:idx [(Bq t l).a0,(Bq t l).a1,(Bq t l).a2] (i:Int)=some (DZ l t.Ab[i]):=by
   have:=HN (l:=t.Ab.map (DZ l)) (by simpa using g) (k:=i) (by simpa using hi);rw[List.getElem_map] at this;exact this
  obtain⟨o,p,g2⟩:=Abe hK c a hm hi (DZ l t.Ab[i]);have g3:idx ([(arr ((AB t l).take i)).a0,(arr ((AB t l).take i)).a1,(arr ((AB t l).take i)).a2]:List Int) (i:Int)=some (([(arr ((AB t l).take i)).a0,(arr ((AB t l).take i)).a1,(arr ((AB t l).take i)).a2]:List Int)[i]'(by simp;omega)):=idx_eq _;have g4:(arr ((AB t l).take i)).set i (Kq t.AJ (DZ l t.Ab[i])*t.Ab[i].sum)=arr ((AB t l).take (i+1)):=by
   rw[AcM _ (by rw[List.length_take];omega) (by omega),List.take_succ_eq_append_getElem j];simp[AB]
  obtain⟨r,q,g5⟩:=YQ c a b l d n (i+1) o (by omega) (by omega) p;refine⟨r,q,?_⟩;rw[G4.eq_2,ct (dt (by omega)),bd g1];show(J0 K (wk t a m) ⟨(i:Int),DZ l t.Ab[i]⟩).bind _=_;rw[bd g2,bd g3,Br (by omega) (by omega),CP i,Int.toNat_natCast];show G4 K (wk t a b) (Bq t l) n ((i+1:Nat):Int) ((arr ((AB t l).take i)).set i (Kq t.AJ (DZ l t.Ab[i])*t.Ab[i].sum)).a0 ((arr ((AB t l).take i)).set i (Kq t.AJ (DZ l t.Ab[i])*t.Ab[i].sum)).a1 ((arr ((AB t l).take i)).set i (Kq t.AJ (DZ l t.Ab[i])*t.Ab[i].sum)).a2 o=_;rw[g4];exact g5
theorem Vy{t:Ah}(c:OkT t)(b:List BA){m:List (List Int×Int)}(hm:EC t m)(l:List Int):
  ∃a,EC t a∧IE K (wk t b m) (Bq t l)=some (arr (AB t l),a):=by
 have:=c.kl;obtain⟨a,h1,h2⟩:=YQ hK c b m l t.Ab.length K 0 m (by omega) (by omega) hm;refine⟨a,h1,?_⟩;unfold IE;have d:G4 K (wk t b m) (Bq t l) K 0 0 0 0 (wk t b m).known=some ((arr (AB t l)).a0,(arr (AB t l)).a1,(arr (AB t l)).a2,a):=h2;rw[bd d]
end
theorem U1{σ α:Type}(cb:σ→α→Option (Bool×σ))(a:List α):∀(b:List α) (s:σ),run cb (b++a) s=(run cb b s).bind fun r=>cond r.1 (run cb a r.2) (some (false,r.2))
 |[],s=>rfl
 |x::l,s=>by
  simp only[List.cons_append,run];cases cb s x with
  |none=>rfl
  |some r=>
   simp only[Option.bind_some];cases h:r.1 with
   |false=>simp
   |true=>simpa using U1 cb a l r.2
def ND:List Bl→List (List Int)
 |[]=>[[]]
 |r::rs=>(List.range' 0 (FI r).toNat).flatMap fun n:Nat=>(ND rs).map fun x=>(r.Lo+(n:Int))::x
theorem Ue:∀{rs:List Bl} {l:List Int},(∀r∈rs,ML r)→(l∈ND rs↔Eu rs l=true)
 |[],[],_=>by simp[ND,Eu]
 |[],_::_,_=>by simp[ND,Eu]
 |r::rs,[],_=>by simp[ND,Eu]
 |r::rs,x::xs,h=>by
  have h1:=h r (List.mem_cons_self ..);have h2:=Md h1;rw[ND,List.mem_flatMap,Eu,Bool.and_eq_true,←Ue (fun r hr=>h r (List.mem_cons_of_mem _ hr)),Ei];constructor
  ·rintro⟨n,hn,b⟩;obtain⟨y,a,e⟩:=List.mem_map.1 b;injection e with d c
   subst c;rw[List.mem_range'_1] at hn;refine⟨?_,a⟩;unfold FI at hn h2;omega
  ·rintro⟨b,a⟩;refine⟨(x-r.Lo).toNat,?_,List.mem_map.2 ⟨xs,a,?_⟩⟩
   ·rw[List.mem_range'_1];unfold FI;omega
   ·congr 1;omega
theorem Xw:∀{rs:List Bl},(∀r∈rs,ML r)→((ND rs).length:Int)=Gt rs
 |[],_=>rfl
 |r::rs,h=>by
  have h2:=Md (h r (List.mem_cons_self ..));have a:=Xw (rs:=rs) (fun r hr=>h r (List.mem_cons_of_mem _ hr));rw[UZ,←a,ND,List.length_flatMap];have:∀(n i:Nat),((List.range' i n).map fun n:Nat=>((ND rs).map fun x=>(r.Lo+(n:Int))::x).length).sum=n*(ND rs).length:=by
   intro n
   induction n with
   |zero=>intro i;simp
   |succ n ih=>intro i;rw[List.range'_succ,List.map_cons,List.sum_cons,ih,List.length_map,Nat.succ_mul,Nat.add_comm]
  rw[this,Int.natCast_mul,Int.toNat_of_nonneg (by omega)]
theorem take_set{out:List Int}{i:Nat}(v:Int)(h:i<out.length):(out.set i v).take (i+1)=out.take i++[v]:=by
 rw[List.take_succ_eq_append_getElem (by simpa using h),List.take_set_of_le (Nat.le_refl _),List.getElem_set_self]
section
variable{K:Nat}(hK:1000≤K)
include hK
theorem Xx{σ:Type}(cb:σ→List Int→Option (Bool×σ))(f:Int→List Bl→List Int→σ→Option (Bool×List Int×σ))(l:List Bl)(hl:l.length≤100)(i:Nat)(hi:i<l.length)(hr:ML l[i])
  (ih:∀(out:List Int) (s:σ) (b:Bool) (d:σ),out.length=l.length→run cb ((ND (l.drop (i+1))).map fun x=>out.take (i+1)++x) s=some (b,d)→∃c,c.length=l.length∧c.take (i+1)=out.take (i+1)∧f ((i+1:Nat):Int) l out s=some (b,c,d)):
  ∀(e m n:Nat) (out:List Int) (s:σ) (b:Bool) (d:σ),FI l[i]=(n:Int)+e→e<m→out.length=l.length→
   run cb ((List.range' n e).flatMap fun n:Nat=>(ND (l.drop (i+1))).map fun x=>out.take i++(l[i].Lo+(n:Int))::x) s=some (b,d)→
   ∃c,c.length=l.length∧c.take i=out.take i∧(IP f (i:Int) l (FI l[i]) m (n:Int) out s).bind (fun z=>Sum.elim (fun q=>some (q.1,q.2.1,q.2.2)) (fun q=>some (true,q.1,q.2)) z)=some (b,c,d)
 |e,0,n,out,s,b,d,h,hm,_,_=>by omega
 |0,m+1,n,out,s,b,d,h,hm,k,a=>by
  have:(true,s)=(b,d):=Option.some.inj a;injection this with o p
  subst o;subst p;refine⟨out,k,rfl,?_⟩;rw[IP.eq_2,cf (df (by omega))];rfl
 |e+1,m+1,n,out,s,b,d,h,hm,k,a=>by
  have aB:=Md hr;have u:=hr;unfold ML at u;have j:i<out.length:=by omega
  rw[List.range'_succ,List.flatMap_cons,U1] at a;have v:∀x:List Int,out.take i++(l[i].Lo+(n:Int))::x=(out.set i (l[i].Lo+(n:Int))).take (i+1)++x:=fun x=>by rw[take_set _ j,List.append_assoc];rfl
  simp only[v] at a;cases h1:run cb ((ND (l.drop (i+1))).map fun x=>(out.set i (l[i].Lo+(n:Int))).take (i+1)++x) s with
  |none=>rw[h1] at a;cases a
  |some r=>
   obtain⟨b1,s1⟩:=r;rw[h1,Option.bind_some] at a;obtain⟨g,g1,g2,g3⟩:=ih (out.set i (l[i].Lo+(n:Int))) s b1 s1 (by rw[List.length_set];exact k) h1;have gt:g.take i=out.take i:=by
    have:=congrArg (List.take i) g2;rw[List.take_take,List.take_take,Nat.min_eq_left (by omega),List.take_set_of_le (Nat.le_refl _)] at this;exact this
   rw[IP.eq_2,ct (dt (by omega)),B5 hi,Br (by omega) (by omega),B5 j,Br (by omega) (by omega),CP i,Int.toNat_natCast,bd g3];cases b1 with
   |false=>
    have:(false,s1)=(b,d):=Option.some.inj a;injection this with o p
    subst o;subst p;exact⟨g,g1,gt,rfl⟩
   |true=>
    rw[nt,Br (by omega) (by omega),CP n];simp only[←v] at a;rw[←gt] at a;obtain⟨t,w,y,aA⟩:=Xx cb f l hl i hi hr ih e m (n+1) g s1 b d (by omega) (by omega) g1 a;exact⟨t,w,y.trans gt,aA⟩
theorem YR{σ:Type}(cb:σ→List Int→Option (Bool×σ))(l:List Bl)(hl:l.length≤100)(n:∀r∈l,ML r):∀(d k i:Nat) (out:List Int) (s:σ) (b:Bool) (c:σ),l.length=i+d→d<k→out.length=l.length→
  run cb ((ND (l.drop i)).map fun x=>out.take i++x) s=some (b,c)→∃f,f.length=l.length∧f.take i=out.take i∧Il K cb k (i:Int) l out s=some (b,f,c)
 |d,0,i,out,s,b,c,h,hk,_,_=>by omega
 |0,k+1,i,out,s,b,c,h,hk,g,a=>by
  rw[List.drop_eq_nil_of_le (by omega)] at a;have e:(ND []).map (fun x=>out.take i++x)=[out]:=by
   show[out.take i++[]]=[out];rw[List.append_nil,List.take_of_length_le (by omega)]
  rw[e] at a;refine⟨out,g,rfl,?_⟩;rw[Il.eq_2,ct (F9 (by omega))];simp only[run] at a;cases h1:cb s out with
  |none=>rw[h1] at a;cases a
  |some r=>
   obtain⟨b1,s1⟩:=r;rw[h1,Option.bind_some] at a;cases b1 with
   |true=>
    have:(true,s1)=(b,c):=Option.some.inj a;injection this with j m
    subst j;subst m;rfl
   |false=>
    have:(false,s1)=(b,c):=Option.some.inj a;injection this with j m
    subst j;subst m;rfl
 |d+1,k+1,i,out,s,b,c,h,hk,g,a=>by
  have hi:i<l.length:=by omega
  have hr:=n _ (List.getElem_mem hi);have o:=Md hr;rw[List.drop_eq_getElem_cons hi,ND,List.map_flatMap] at a;simp only[List.map_map] at a;rw[Il.eq_2,cf (IU (by omega)),B5 hi,bd (AcE K hr)];have:=Xx hK cb (Il K cb k) l hl i hi hr (fun out s b c h1 h2=>YR cb l hl n d k (i+1) out s b c (by omega) (by omega) h1 h2) (FI l[i]).toNat K 0 out s b c (by omega) (by omega) g a;rw[Int.natCast_zero] at this;exact this
theorem AcN{σ:Type}(cb:σ→List Int→Option (Bool×σ))(l:List Bl)(hl:l.length≤100)(c:∀r∈l,ML r)(s:σ)(b:Bool)(a:σ)(h:run cb (ND l) s=some (b,a)):MK K cb l s=some a:=by
 unfold MK;obtain⟨d,_,_,h2⟩:=YR hK cb l hl c l.length K 0 (List.replicate (l.length:Int).toNat 0) s b a (by omega) (by omega) (by simp) (by simpa using h);rw[Int.natCast_zero] at h2;rw[mkb (by omega) (by omega) (by omega),bd h2]
theorem YS(t:Ah)(hl:t.Ag.length≤100):JZ K t=some t.Ag:=by
 have a:∀(d m i:Nat) (acc:List Bl),t.Ag.length=i+d→d<m→acc.length≤i→HZ t m acc (i:Int)=some (acc++t.Ag.drop i):=by
  intro d
  induction d with
  |zero=>
   intro m i acc h hm ha;obtain⟨m,rfl⟩:∃b,m=b+1:=⟨m-1,by omega⟩;rw[HZ.eq_2,cf (df (by omega)),List.drop_eq_nil_of_le (by omega),List.append_nil]
  |succ d ih=>
   intro m i acc h hm ha;obtain⟨m,rfl⟩:∃b,m=b+1:=⟨m-1,by omega⟩;have hi:i<t.Ag.length:=by omega
   rw[HZ.eq_2,ct (dt (by omega)),B5 hi,DG (by simp;omega),Br (by omega) (by omega),CP i,ih m (i+1) _ (by omega) (by omega) (by simp;omega),List.drop_eq_getElem_cons hi,List.append_assoc];rfl
 have:=a t.Ag.length K 0 [] (by omega) (by omega) (by simp);rw[Int.natCast_zero,List.drop_zero,List.nil_append] at this;unfold JZ;rw[bd this]
theorem Xy{t:Ah}(b:OkT t):HR K t=some (wk t [] []):=by
 have e:=b.kl;have f:=b.hl;have a:∀(d m i:Nat) (acc:List Int),t.Ab.length=i+d→d<m→acc.length≤i→G3 K t m (i:Int) acc=some (acc++(t.Ab.drop i).map List.sum):=by
  intro d
  induction d with
  |zero=>
   intro m i acc h hm ha;obtain⟨m,rfl⟩:∃c,m=c+1:=⟨m-1,by omega⟩;rw[G3.eq_2,cf (df (by omega)),List.drop_eq_nil_of_le (by omega),List.map_nil,List.append_nil]
  |succ d ih=>
   intro m i acc h hm ha;obtain⟨m,rfl⟩:∃c,m=c+1:=⟨m-1,by omega⟩;have hi:i<t.Ab.length:=by omega
   have hw:=b.Hq _ (List.getElem_mem hi);have hs:Fs t.Ab[i] K 0 0=some t.Ab[i].sum:=by
    have:=UU t.Ab[i] (fun m s j=>Fs t.Ab[i] m s (j:Int)) (· +·) (fun j s=>0≤s∧s≤30*(j:Int)) id (fun j s hj hs=>by have:=hw.2.1 _ (List.getElem_mem hj);omega)
     (fun m j s hj hs=>by
      have g:=hw.2.1 _ (List.getElem_mem hj);show Fs t.Ab[i] (m+1) s (j:Int)=_;rw[Fs.eq_2,ct (dt (by omega)),B5 hj,Br (by omega) (by omega),Br (by omega) (by omega),CP j])
     (fun m s _=>by
      show Fs t.Ab[i] (m+1) s (t.Ab[i].length:Int)=_;rw[Fs.eq_2,cf (df (by omega))];rfl) (k:=K) (s0:=0) (by omega) (by omega)
    rw[Q9,Int.zero_add] at this;exact this
   rw[G3.eq_2,ct (dt (by omega)),B5 hi,bd hs,DG (by simp;omega),Br (by omega) (by omega),CP i,ih m (i+1) _ (by omega) (by omega) (by simp;omega),List.drop_eq_getElem_cons hi,List.map_cons,List.append_assoc];rfl
 have:=a t.Ab.length K 0 [] (by omega) (by omega) (by simp);rw[Int.natCast_zero,List.drop_zero,List.nil_append] at this;unfold HR;rw[bd this];rfl
theorem SU{t:Ah}(a:OkT t){l:List Int}(hl:Eu t.Ag l=true):IQ K t l=some (Bq t l):=by
 unfold IQ;have h:NT K ⟨t.Ag,t.Ab,t.Ak⟩ l=some (t.Ab.map (DZ l),0):=AcL hK (c:=t.C) a.c hl;rw[bd h];rfl
end
theorem AcO:∀{a b:List Int},a.length=b.length→a.length≤3→arr a=arr b→a=b
 |[],[],_,_,_=>rfl
 |[a],[b],_,_,h=>by injection h with h1;exact congrArg (fun x=>[x]) h1
 |[a,a2],[b,b2],_,_,h=>by
  injection h with h1 h2
  rw[show a=b from h1,show a2=b2 from h2]
 |[a,a2,a3],[b,b2,b3],_,_,h=>by
  injection h with h1 h2 c
  rw[show a=b from h1,show a2=b2 from h2,show a3=b3 from c]
 |_::_::_::_::_,_,_,h,_=>by simp at h
 |[],_::_,h,_,_=>by cases h
 |[_],[],h,_,_=>by cases h
 |[_],_::_::_,h,_,_=>by simp at h
 |[_,_],[],h,_,_=>by cases h
 |[_,_],[_],h,_,_=>by simp at h
 |[_,_],_::_::_::_,h,_,_=>by simp at h
 |[_,_,_],[],h,_,_=>by cases h
 |[_,_,_],[_],h,_,_=>by simp at h
 |[_,_,_],[_,_],h,_,_=>by simp at h
 |[_,_,_],_::_::_::_::_,h,_,_=>by simp at h
theorem Aap {t:Ah} (hk:t.Ab.length≤3) {l l':List Int} (h:Bq t l=Bq t l'):∀w∈t.Ab,DZ l w=DZ l' w:=by
 have e:=AcO (by simp) (by simpa using hk) h;intro w hw;obtain⟨i,hi,rfl⟩:=List.getElem_of_mem hw;have:=congrArg (fun x=>x.getD i 0) e;simpa[List.getElem?_eq_getElem hi] using this
theorem MP{t:Ah}(hk:t.Ab.length≤3){l l':List Int}(h:Bq t l=Bq t l'):AB t l=AB t l':=by
 unfold AB;exact List.map_congr_left fun w hw=>by rw[Aap hk h w hw]
theorem AeF{x y:BA}(h:[x.a0,x.a1,x.a2]=[y.a0,y.a1,y.a2]):x=y:=by cases x;cases y;simpa using h
def EB(M:List Int)(n:Cu):Bool:=DK (M.getD n.Ce.toNat 0) n.CA n.CB
def CK(M out:List Int):Nat→List Cu→Bool
 |_,[]=>true
 |i,n::ns=>(out.contains (i:Int)||EB M n)&&CK M out (i+1) ns
structure Tr (t:Ah) (L:List (List Int)):Prop where
 P8:∀l∈L,Dr t.C l=true
 all:∀l,Dr t.C l=true→∃l'∈L,Bq t l'=Bq t l
 len:L.length≤150
section
variable{K:Nat}(hK:1000≤K)
include hK
theorem YT(t:Ah){M out:List Int}(f:M.length≤3)(hn:∀n∈t.Ar,0≤n.Ce∧n.Ce<M.length)(hl:t.Ar.length≤100)(g:out.length≤900):Ii K t (arr M) out=some (CK M out 0 t.Ar):=by
 have a:∀(d m i:Nat),t.Ar.length=i+d→d<m→Hj K t (arr M) out m (i:Int)=some (cond (CK M out i (t.Ar.drop i)) (.inr ()) (.inl false)):=by
  intro d
  induction d with
  |zero=>
   intro m i h hm;obtain⟨m,rfl⟩:∃c,m=c+1:=⟨m-1,by omega⟩;rw[Hj.eq_2,cf (df (by omega)),List.drop_eq_nil_of_le (by omega),CK,ct rfl]
  |succ d ih=>
   intro m i h hm;obtain⟨m,rfl⟩:∃c,m=c+1:=⟨m-1,by omega⟩;have hi:i<t.Ar.length:=by omega
   rw[Hj.eq_2,ct (dt (by omega)),B5 hi,bd (KH hK out _ g),List.drop_eq_getElem_cons hi,CK];cases out.contains (i:Int) with
   |true=>rw[Bool.true_or,Bool.true_and,nt,Br (by omega) (by omega),CP i,ih m (i+1) (by omega) (by omega)]
   |false=>
    obtain⟨h1,h2⟩:=hn _ (List.getElem_mem hi);obtain⟨k,hk⟩:∃k:Nat,t.Ar[i].Ce=k:=⟨t.Ar[i].Ce.toNat,by omega⟩;have b:k<M.length:=by omega
    have e:I6 K ⟨t.Ar[i].CA,t.Ar[i].CB⟩ M[k]=some (EB M t.Ar[i]):=by
     unfold I6 EB;rw[bd (I7 ..),hk,Int.toNat_natCast,Cl _ b]
    rw[nf,hk,bd (HN f b),bd e,Bool.false_or];cases EB M t.Ar[i] with
    |false=>rw[nf,Bool.false_and,cf rfl]
    |true=>rw[nt,Br (by omega) (by omega),CP i,Bool.true_and,ih m (i+1) (by omega) (by omega)]
 have:=a t.Ar.length K 0 (by omega) (by omega);rw[Int.natCast_zero,List.drop_zero] at this;unfold Ii;rw[bd this];cases CK M out 0 t.Ar<;>rfl
theorem Xz {t:Ah} (f:OkT t):∀(X:List (List Int)) (a:List (List Int)),(∀l∈X,Eu t.Ag l=true)→a.length+X.length≤5000→
  ∃L:List (List Int),run (fun(st:List BA) (x:List Int)=>H0 K t st x) X (a.map (Bq t))=some (true,L.map (Bq t))∧(∀l∈L,l∈a∨l∈X∧Dr t.C l=true)∧(∀l∈a,l∈L)∧(∀l∈X,Dr t.C l=true→∃l'∈L,Bq t l'=Bq t l)∧L.length≤a.length+X.length
 |[],a,_,_=>⟨a,rfl,fun l h=>.inl h,fun l h=>h,fun l h=>(nomatch h),by simp⟩
 |x::X,a,i,hlen=>by
  have j:=i x (List.mem_cons_self ..);have v:=f.hl;have w:=KS j;rw[List.length_cons] at hlen;have o:HC K ⟨t.Ag,t.Ab,t.Ak⟩ x=some (Dr t.C x):=Qj hK (c:=t.C) f.c (by omega)
  
  have step:∃b:List (List Int),H0 K t (a.map (Bq t)) x=some (true,b.map (Bq t))∧(∀l∈b,l∈a∨l=x∧Dr t.C x=true)∧(∀l∈a,l∈b)∧(Dr t.C x=true→∃l'∈b,Bq t l'=Bq t x)∧b.length≤a.length+1:=by
   unfold H0;rw[bd o];cases g:Dr t.C x with
   |false=>exact⟨a,by rw[nf],fun l h=>.inl h,fun l h=>h,fun h=>(nomatch h),by omega⟩
   |true=>
    have d:∃b:List (List Int),(some (true,a.map (Bq t)++[Bq t x]):Option (Bool×List BA))=some (true,b.map (Bq t))∧(∀l∈b,l∈a∨l=x∧true=true)∧(∀l∈a,l∈b)∧(true=true→∃l'∈b,Bq t l'=Bq t x)∧b.length≤a.length+1:=
     ⟨a++[x],by simp,fun l h=>by simpa using h,fun l h=>by simp[h],fun _=>⟨x,by simp,rfl⟩,by simp⟩
    rw[nt,bd (SU hK f j)]
    by_cases h0:a.length=0
    ·rw[ct (F9 (by simp[h0])),DG (by simp;omega)];exact d
    ·rw[cf (IU (by simp;simpa using h0)),Br (by simp;omega) (by simp;omega)];have e:(((a.map (Bq t)).length:Int))-1=((a.length-1:Nat):Int):=by rw[List.length_map];omega
     have k:a.length-1<(a.map (Bq t)).length:=by rw[List.length_map];omega
     rw[e,B5 k];cases m:([((a.map (Bq t))[a.length-1]).a0,((a.map (Bq t))[a.length-1]).a1,((a.map (Bq t))[a.length-1]).a2] !=[(Bq t x).a0,(Bq t x).a1,(Bq t x).a2]) with
     |true=>rw[ct rfl,DG (by simp;omega)];exact d
     |false=>
      rw[cf rfl];refine⟨a,rfl,fun l h=>.inl h,fun l h=>h,fun _=>⟨a[a.length-1]'(by omega),List.getElem_mem _,?_⟩,by omega⟩;have h1:[((a.map (Bq t))[a.length-1]).a0,((a.map (Bq t))[a.length-1]).a1,((a.map (Bq t))[a.length-1]).a2]=[(Bq t x).a0,(Bq t x).a1,(Bq t x).a2]:=by simpa using m
      rw[List.getElem_map] at h1;exact AeF h1
  obtain⟨b,s1,s2,p,q,y⟩:=step;obtain⟨L,r,s,n,u,z⟩:=Xz f X b (fun l hl=>i l (List.mem_cons_of_mem _ hl)) (by omega);refine⟨L,by rw[run,bd s1,ct rfl];exact r,?_,fun l hl=>n l (p l hl),?_,by rw[List.length_cons];omega⟩
  ·intro l hl;rcases s l hl with h|h
   ·rcases s2 l h with h|⟨rfl,h⟩
    ·exact .inl h
    ·exact .inr ⟨List.mem_cons_self ..,h⟩
   ·exact .inr ⟨List.mem_cons_of_mem _ h.1,h.2⟩
  ·intro l hl g;rcases List.mem_cons.1 hl with rfl|hl
   ·obtain⟨l',h1,h2⟩:=q g;exact⟨l',n l' h1,h2⟩
   ·exact u l hl g
theorem AeG{t:Ah}(a:OkT t):∃L,Tr t L∧LB K t=some (wk t (L.map (Bq t)) []):=by
 have j:=a.hl;have hlen:((ND t.Ag).length:Int)=Gt t.Ag:=Xw a.c.ok;have b:=a.many;obtain⟨L,d,e,_,f,i⟩:=Xz hK a (ND t.Ag) [] (fun l hl=>(Ue (rs:=t.Ag) a.c.ok).1 hl) (by simp;omega);refine⟨L,⟨fun l hl=>?_,fun l hl=>f l ((Ue (rs:=t.Ag) a.c.ok).2 (Jr hl)) hl,by simp at i;omega⟩,?_⟩
 ·rcases e l hl with h|h
  ·cases h
  ·exact h.2
 ·unfold LB;have g:=AcN hK _ t.Ag (by omega) a.c.ok _ true _ d;rw[List.map_nil] at g;rw[bd (Xy hK a),bd (YS hK t (by omega)),bd g];rfl
def GF (t:Ah) (out:List Int) (L:List (List Int)):List (BA×BA):=(L.filter fun l=>CK (AB t l) out 0 t.Ar).map fun l=>(Bq t l,arr (AB t l))
theorem Uf{σ:Type}{t:Ah}(g:OkT t){out:List Int}(p:out.length≤900)(cb:σ→(BA×BA)→Option (Bool×σ))(L:List (List Int))(v:L.length≤150)(f:List (List Int×Int)):∀(d n i:Nat) (m:List (List Int×Int)) (s:σ) (b:Bool) (c:σ),L.length=i+d→d<n→EC t m→
  run cb (GF t out (L.drop i)) s=some (b,c)→∃j,EC t j∧(GP cb K (wk t (L.map (Bq t)) f) out n (i:Int) m s).bind (fun z=>Sum.elim (fun q=>some (q.1,q.2)) (fun q=>some (q.1,q.2)) z)=some (j,c)
 |d,0,i,m,s,b,c,h,hn,_,_=>by omega
 |0,n+1,i,m,s,b,c,h,hn,hm,a=>by
  have e:((wk t (L.map (Bq t)) f).Dg.length:Int)=L.length:=by show((List.map _ _).length:Int)=_;simp
  rw[List.drop_eq_nil_of_le (by omega)] at a;have:(true,s)=(b,c):=Option.some.inj a;injection this with y k
  subst k;refine⟨m,hm,?_⟩;rw[GP.eq_2,cf (df (by omega))];rfl
 |d+1,n+1,i,m,s,b,c,h,hn,hm,a=>by
  have e:((wk t (L.map (Bq t)) f).Dg.length:Int)=L.length:=by show((List.map _ _).length:Int)=_;simp
  have w:=g.kl;have aA:=g.nl;have hi:i<L.length:=by omega
  have o:i<(wk t (L.map (Bq t)) f).Dg.length:=by show i<(List.map _ _).length;simpa using hi
  have k:(wk t (L.map (Bq t)) f).Dg[i]'o=Bq t L[i]:=by simp[wk]
  obtain⟨u,l,g1⟩:=Vy hK g (L.map (Bq t)) hm L[i];have g2:Ii K t (arr (AB t L[i])) out=some (CK (AB t L[i]) out 0 t.Ar):=YT hK t (by rw[DC];exact w) (fun n hn=>by rw[DC];exact(g.note n hn).1) (by omega) p;rw[GP.eq_2,ct (dt (by omega)),B5 o,k];show∃j,EC t j∧(((IE K (wk t (L.map (Bq t)) m) (Bq t L[i])).bind _).bind _)=_;rw[bd g1];show∃j,EC t j∧(((Ii K t (arr (AB t L[i])) out).bind _).bind _)=_;rw[bd g2];unfold GF at a;rw[List.drop_eq_getElem_cons hi,List.filter_cons] at a;cases hr:CK (AB t L[i]) out 0 t.Ar with
  |false=>
   rw[hr,if_neg (by simp)] at a;rw[cf rfl,Br (by omega) (by omega),CP i];exact Uf g p cb L v f d n (i+1) u s b c (by omega) (by omega) l a
  |true=>
   rw[hr,if_pos rfl,List.map_cons,run] at a;rw[ct rfl];cases x:cb s (Bq t L[i],arr (AB t L[i])) with
   |none=>rw[x] at a;cases a
   |some r=>
    obtain⟨b1,s1⟩:=r;rw[x,Option.bind_some] at a;rw[Option.bind_some];cases b1 with
    |false=>
     have:(false,s1)=(b,c):=Option.some.inj a;injection this with y k
     subst k;exact⟨u,l,rfl⟩
    |true=>
     rw[nt,Br (by omega) (by omega),CP i];exact Uf g p cb L v f d n (i+1) u s1 b c (by omega) (by omega) l a
theorem NF{σ:Type}{t:Ah}(d:OkT t){out:List Int}(e:out.length≤900)(cb:σ→(BA×BA)→Option (Bool×σ)){L:List (List Int)}(f:L.length≤150){m:List (List Int×Int)}(hm:EC t m){s:σ}{b:Bool}{a:σ}
  (h:run cb (GF t out L) s=some (b,a)):∃c,EC t c∧Ji K cb (wk t (L.map (Bq t)) m) out s=some (c,a):=
 Uf hK d e cb L f m L.length K 0 m s b a (by omega) (by omega) hm (by rw[List.drop_zero];exact h)
theorem Lp{t:Ah}(c:OkT t){out:List Int}(d:out.length≤900){L:List (List Int)}(f:L.length≤150){m:List (List Int×Int)}(hm:EC t m):
  ∃a,EC t a∧CF K (wk t (L.map (Bq t)) m) out=some (L.any fun l=>CK (AB t l) out 0 t.Ar,a):=by
 have hr:∃b,run (fun(st:Bool×Bool) (x:BA×BA)=>cond st.2 none (Jp st.1 x)) (GF t out L) (false,false)=some (b,(L.any fun l=>CK (AB t l) out 0 t.Ar,L.any fun l=>CK (AB t l) out 0 t.Ar)):=by
  have e:(L.any fun l=>CK (AB t l) out 0 t.Ar)= !(GF t out L).isEmpty:=by
   unfold GF;rw[Bool.eq_iff_iff,List.any_eq_true];simp
  rw[e];cases GF t out L with
  |nil=>exact⟨true,rfl⟩
  |cons x X=>exact⟨false,rfl⟩
 obtain⟨b,hr⟩:=hr;obtain⟨a,h1,h2⟩:=NF hK c d _ f hm hr;refine⟨a,h1,?_⟩;unfold CF;rw[bd h2];cases L.any fun l=>CK (AB t l) out 0 t.Ar<;>rfl
end
theorem HU(M out:List Int):∀(ns:List Cu) (i:Nat),CK M out i ns=true↔∀j (hj:j<ns.length),out.contains ((i+j:Nat):Int)=true∨EB M ns[j]=true
 |[],i=>by simp[CK]
 |n::ns,i=>by
  rw[CK,Bool.and_eq_true,Bool.or_eq_true,HU M out ns (i+1)];constructor
  ·rintro⟨h1,h2⟩ j hj;cases j with
   |zero=>simpa using h1
   |succ j=>
    have:=h2 j (by simpa using hj);rw[show i+(j+1)=i+1+j by omega];simpa using this
  ·intro h;refine⟨(show out.contains ((i+0:Nat):Int)=true∨EB M n=true from h 0 (by simp)),fun j hj=>?_⟩;have:=h (j+1) (by simpa using hj);rw[show i+1+j=i+(j+1) by omega];simpa using this
theorem MC{β:Type}{a b:Int}{f:Unit→Option β}(h0:0≤a∧a≤9223372036854775807)(h1:0≤b∧b≤9223372036854775807):(LU a b).bind f=f ():=bd (if_pos ⟨h0,h1⟩)
def Bf(t:Ah):List (List Int):=(BR t.C).filter fun l=>CK (AB t l) [] 0 t.Ar
section
variable{K:Nat}(hK:1000≤K)
include hK
end
def P1(c:AO):Bool:=decide (c.Ax.length≤5)&&(decide (c.Bv.length≤5)&&(decide (c.AQ.length≤7)&&((c.Bv.all fun l=>decide (l.length≤6))&&(decide (KG c≠0)||decide (Gt c.Ax≤150)))))
def Eh(t:Ah):Bool:=P1 t.C&&(decide (t.AJ.length≤5)&&(decide (t.Aw.length≤5)&&decide (t.Ar.length≤7)))
theorem Wt{c:AO}:P1 c=true↔c.Ax.length≤5∧c.Bv.length≤5∧c.AQ.length≤7∧(∀l∈c.Bv,l.length≤6)∧(KG c≠0∨Gt c.Ax≤150):=by
 simp[P1]
theorem Gn{t:Ah}(h:Eh t=true):Ri t:=by
 unfold Eh at h;rw[Bool.and_eq_true,Bool.and_eq_true,Bool.and_eq_true,decide_eq_true_eq,decide_eq_true_eq,decide_eq_true_eq,Wt] at h;obtain⟨⟨h1,h2,b,a,_⟩,h5,c,d⟩:=h;exact⟨⟨by omega,by omega,by omega,fun l hl=>by have:=a l hl;omega⟩,by omega,by omega,by omega⟩
theorem Eo{t:Ah}(h:Eh t=true)(h0:DV t=0):OkT t:=by
 have hl:=Gn h;unfold Eh at h;rw[Bool.and_eq_true,Wt] at h;have a:=(HE h0).1;exact⟨hl,h0,by
  rcases h.1.2.2.2.2 with h1|h1
  ·exact absurd a h1
  ·exact h1⟩
section
variable{K:Nat}(hK:1000≤K)
include hK
theorem Oi(l:List Int)(hl:l.length≤1000):LD K l=some l:=by
 unfold LD;rw[DG (by simp;omega),List.nil_append]
theorem TA {α:Type} (xs:List α) (F:Nat→Int→List α→Option (List α)) (c:∀m (i:Nat) acc (hi:i<xs.length),acc.length≤i→F (m+1) (i:Int) acc=F m ((i+1:Nat):Int) (acc++[xs[i]]))
  (hn:∀m acc,F (m+1) (xs.length:Int) acc=some acc) (hl:xs.length≤900):F K 0 []=some xs:=by
 have a:∀(d m i:Nat) (acc:List α),xs.length=i+d→d<m→acc.length≤i→F m (i:Int) acc=some (acc++xs.drop i):=by
  intro d
  induction d with
  |zero=>
   intro m i acc h hm ha;obtain⟨m,rfl⟩:∃b,m=b+1:=⟨m-1,by omega⟩;obtain rfl:i=xs.length:=by omega
   rw[hn,List.drop_eq_nil_of_le (by omega),List.append_nil]
  |succ d ih=>
   intro m i acc h hm ha;obtain⟨m,rfl⟩:∃b,m=b+1:=⟨m-1,by omega⟩;have hi:i<xs.length:=by omega
   rw[c m i acc hi ha,ih m (i+1) _ (by omega) (by omega) (by simp;omega),List.drop_eq_getElem_cons hi,List.append_assoc];rfl
 have:=a xs.length K 0 [] (by omega) (by omega) (by simp);rw[Int.natCast_zero,List.drop_zero,List.nil_append] at this;exact this
theorem XA(c:AO)(hl:Abb c):HT K c=some c:=by
 obtain⟨h1,h2,f,a⟩:=hl;unfold HT;have b:FO K c K 0 []=some c.Ax:=TA hK c.Ax (fun m i acc=>FO K c m i acc) (fun m i acc hi ha=>by
   show FO K c (m+1) (i:Int) acc=_;rw[FO.eq_2,ct (dt (by omega)),B5 hi];unfold Lb;rw[Option.bind_some,DG (by simp;omega),Br (by omega) (by omega),CP i];try rfl) (fun m acc=>by
   show FO K c (m+1) (c.Ax.length:Int) acc=_;rw[FO.eq_2,cf (df (by omega))]) (by omega)
 have d:FC K c K 0 []=some c.Bv:=TA hK c.Bv (fun m i acc=>FC K c m i acc) (fun m i acc hi ha=>by
   show FC K c (m+1) (i:Int) acc=_;rw[FC.eq_2,ct (dt (by omega)),B5 hi,bd (Oi hK _ (by have:=a _ (List.getElem_mem hi);omega)),DG (by simp;omega),Br (by omega) (by omega),CP i];try rfl) (fun m acc=>by
   show FC K c (m+1) (c.Bv.length:Int) acc=_;rw[FC.eq_2,cf (df (by omega))]) (by omega)
 have e:FD K c K 0 []=some c.AQ:=TA hK c.AQ (fun m i acc=>FD K c m i acc) (fun m i acc hi ha=>by
   show FD K c (m+1) (i:Int) acc=_;rw[FD.eq_2,ct (dt (by omega)),B5 hi];unfold Lb;rw[Option.bind_some,DG (by simp;omega),Br (by omega) (by omega),CP i];try rfl) (fun m acc=>by
   show FD K c (m+1) (c.AQ.length:Int) acc=_;rw[FD.eq_2,cf (df (by omega))]) (by omega)
 rw[bd b,bd d,bd e]
theorem It(t:Ah)(hl:Ri t):CD K t=some t:=by
 obtain⟨a,h1,h2,f⟩:=hl;unfold CD;have b:HT K ⟨t.Ag,t.Ab,t.Ak⟩=some t.C:=XA hK t.C a;have c:Gc t K 0 []=some t.AJ:=TA hK t.AJ (fun m i acc=>Gc t m i acc) (fun m i acc hi ha=>by
   show Gc t (m+1) (i:Int) acc=_;rw[Gc.eq_2,ct (dt (by omega)),B5 hi,B5 hi,DG (by simp;omega),Br (by omega) (by omega),CP i];try rfl) (fun m acc=>by
   show Gc t (m+1) (t.AJ.length:Int) acc=_;rw[Gc.eq_2,cf (df (by omega))]) (by omega)
 have d:FP t K 0 []=some t.Aw:=TA hK t.Aw (fun m i acc=>FP t m i acc) (fun m i acc hi ha=>by
   show FP t (m+1) (i:Int) acc=_;rw[FP.eq_2,ct (dt (by omega)),B5 hi,B5 hi,DG (by simp;omega),Br (by omega) (by omega),CP i];try rfl) (fun m acc=>by
   show FP t (m+1) (t.Aw.length:Int) acc=_;rw[FP.eq_2,cf (df (by omega))]) (by omega)
 have e:FQ K t K 0 []=some t.Ar:=TA hK t.Ar (fun m i acc=>FQ K t m i acc) (fun m i acc hi ha=>by
   show FQ K t (m+1) (i:Int) acc=_;rw[FQ.eq_2,ct (dt (by omega)),B5 hi,B5 hi];unfold Ge;rw[Option.bind_some,DG (by simp;omega),Br (by omega) (by omega),CP i];try rfl) (fun m acc=>by
   show FQ K t (m+1) (t.Ar.length:Int) acc=_;rw[FQ.eq_2,cf (df (by omega))]) (by omega)
 rw[bd b,bd c,bd d,bd e];rfl
theorem ZH(c:AO):KG c=0→∀r∈c.Ax,ML r:=fun h=>(MO h).2.2.2.2.1
theorem AcP(c:AO):Ko K c=some (P1 c):=by
 unfold Ko
 by_cases h1:c.Ax.length≤5
 case neg=>rw[ct (dt (by omega))];unfold P1;rw[df h1,Bool.false_and]
 rw[cf (df (by omega))]
 by_cases h2:c.Bv.length≤5
 case neg=>rw[ct (dt (by omega))];unfold P1;rw[df h2,Bool.false_and,Bool.and_false]
 rw[cf (df (by omega))]
 by_cases a:c.AQ.length≤7
 case neg=>rw[ct (dt (by omega))];unfold P1;rw[df a,Bool.false_and,Bool.and_false,Bool.and_false]
 rw[cf (df (by omega))];have h5:Gq c K 0=some (cond (c.Bv.all fun l=>decide (l.length≤6)) (.inr ()) (.inl false)):=
  JT c.Bv (fun m i=>Gq c m (i:Int)) (fun l=>decide (l.length≤6)) false
   (fun m i hi=>by
    show Gq c (m+1) (i:Int)=_;rw[Gq.eq_2,ct (dt (by omega)),B5 hi]
    by_cases h:c.Bv[i].length≤6
    ·rw[cf (df (by omega)),Br (by omega) (by omega),CP i,dt h,ct rfl]
    ·rw[ct (dt (by omega)),df h,cf rfl])
   (fun m=>by
    show Gq c (m+1) (c.Bv.length:Int)=_;rw[Gq.eq_2,cf (df (by omega))]) (by omega)
 unfold P1;rw[bd h5,dt h1,dt h2,dt a,Bool.true_and,Bool.true_and,Bool.true_and];cases b:c.Bv.all fun l=>decide (l.length≤6) with
 |false=>rw[cf rfl,Bool.false_and];rfl
 |true=>
  have d:∀l∈c.Bv,l.length≤100:=fun l hl=>by have:=of_decide_eq_true (List.all_eq_true.1 b l hl);omega
  rw[ct rfl,Bool.true_and];show Option.bind (Ij K c) _=_;rw[bd (Xr hK c (by omega) (by omega) (by omega) d)]
  by_cases h0:KG c=0
  ·rw[cf (EW h0),bd (Xq hK c (by omega) (ZH hK c h0)),df (show¬(KG c≠0) by simp[h0]),Bool.false_or]
   congr 1
   rw[Bool.eq_iff_iff,decide_eq_true_eq,decide_eq_true_eq];omega
  ·rw[ct (FX h0),dt h0,Bool.true_or]
theorem Pp(t:Ah):FW K t=some (Eh t):=by
 unfold FW Eh;have h:Ko K ⟨t.Ag,t.Ab,t.Ak⟩=some (P1 t.C):=AcP hK t.C;rw[bd h];cases P1 t.C with
 |false=>rw[cf rfl,Bool.false_and]
 |true=>
  rw[ct rfl,Bool.true_and]
  by_cases h1:t.AJ.length≤5
  case neg=>rw[cf (df (by omega)),df h1,Bool.false_and]
  rw[ct (dt (by omega)),dt h1,Bool.true_and]
  by_cases h2:t.Aw.length≤5
  case neg=>rw[cf (df (by omega)),df h2,Bool.false_and]
  rw[ct (dt (by omega)),dt h2,Bool.true_and]
  congr 1
  rw[Bool.eq_iff_iff,decide_eq_true_eq,decide_eq_true_eq];omega
end
def De (t:Ah):Int:=if DV t≠0 then DV t else if BR t.C=[] then 11 else 0
theorem C5{t:Ah}(h:De t=0):DV t=0∧BR t.C≠[]:=by
 unfold De at h;split at h
 ·rename_i h1;exact absurd h h1
 rename_i h1
 split at h
 ·cases h
 exact⟨Decidable.byContradiction h1,‹_›⟩
theorem QJ{α:Type}(l:List α):((l.length:Int)==0)=true↔l=[]:=by
 rw[beq_iff_eq];constructor
 ·intro h;exact List.eq_nil_of_length_eq_zero (by omega)
 ·rintro rfl;rfl
theorem NP{α:Type}{l:List α}(h:l≠[]):((l.length:Int)==0)=false:=by
 rw[Bool.eq_false_iff];exact fun g=>h ((QJ l).1 g)
section
variable{K:Nat}(hK:1000≤K)
include hK
theorem Aaq{t:Ah}(a:OkT t){L:List (List Int)}(b:Tr t L):L=[]↔BR t.C=[]:=by
 constructor
 ·rintro rfl;refine List.eq_nil_iff_forall_not_mem.2 fun l hl=>?_;obtain⟨_,h,_⟩:=b.all l ((Gd a.c).1 hl);cases h
 ·intro h;refine List.eq_nil_iff_forall_not_mem.2 fun l hl=>?_;have:=(Gd a.c).2 (b.P8 l hl);rw[h] at this;cases this
theorem OR{t:Ah}(a:OkT t){L:List (List Int)}(b:Tr t L)(p:List Int→Bool)(d:∀l l',Bq t l=Bq t l'→p l=p l'):L.any p=(BR t.C).any p:=by
 rw[Bool.eq_iff_iff,List.any_eq_true,List.any_eq_true];constructor
 ·rintro⟨l,hl,h⟩;exact⟨l,(Gd a.c).2 (b.P8 l hl),h⟩
 ·rintro⟨l,hl,h⟩;obtain⟨l',h1,h2⟩:=b.all l ((Gd a.c).1 hl);exact⟨l',h1,by rw[d l' l h2];exact h⟩
theorem KW {t:Ah} (h:Eh t=true) (a:Bool):
  (De t=0∧a=true∧∃L,Tr t L∧L≠[]∧Hw K t a=some (some (wk t (L.map (Bq t)) []),0))∨
  (¬(De t=0∧a=true)∧Hw K t a=some (none,if DV t=0∧a=false then 2 else De t)):=by
 unfold Hw;rw[bd (QI hK t (Gn h))]
 by_cases h0:DV t=0
 ·have b:=Eo h h0;rw[cf (EW h0)];cases a with
  |false=>exact .inr ⟨by simp,by rw[nf,if_pos ⟨h0,rfl⟩]⟩
  |true=>
   obtain⟨L,c,e⟩:=AeG hK b;rw[nt,bd e];have d:(wk t (L.map (Bq t)) []).Dg=L.map (Bq t):=rfl;rw[d,List.length_map]
   by_cases h1:L=[]
   ·have h2:=(Aaq hK b c).1 h1;refine .inr ⟨by rintro⟨f,_⟩;exact(C5 f).2 h2,?_⟩;rw[ct ((QJ _).2 h1),if_neg (by simp)];unfold De;rw[if_neg (by simp[h0]),if_pos h2]
   ·have h2:BR t.C≠[]:=fun g=>h1 ((Aaq hK b c).2 g);refine .inl ⟨?_,rfl,L,c,h1,by rw[cf (NP h1)]⟩;unfold De;rw[if_neg (by simp[h0]),if_neg h2]
 ·rw[ct (FX h0)];refine .inr ⟨fun g=>h0 (C5 g.1).1,?_⟩;rw[if_neg (by simp[h0])];unfold De;rw[if_pos h0]
theorem Ma{t:Ah}(a:OkT t)(out:List Int)(l l':List Int)(h:Bq t l=Bq t l'):CK (AB t l) out 0 t.Ar=CK (AB t l') out 0 t.Ar:=by
 rw[MP a.kl h]
end
def Rj(x:Int):List Int→List Int
 |[]=>[x]
 |y::l=>cond (decide (x≤y)) (x::y::l) (y::Rj x l)
def Ry:List Int→List Int
 |[]=>[]
 |x::l=>Rj x (Ry l)
theorem XB(x z:Int):∀l,z∈Rj x l↔z=x∨z∈l
 |[]=>by simp[Rj]
 |y::l=>by
  unfold Rj;cases h:decide (x≤y)
  ·simp[XB x z l];constructor<;>(rintro(h|h|h)<;>simp[h])
  ·simp
theorem Wu(x:Int):∀l,(Rj x l).Perm (x::l)
 |[]=>.refl _
 |y::l=>by
  unfold Rj;cases h:decide (x≤y)
  ·exact((Wu x l).cons y).trans (.swap x y l)
  ·exact .refl _
theorem NU:∀l,(Ry l).Perm l
 |[]=>.refl _
 |x::l=>(Wu x _).trans ((NU l).cons x)
theorem T4(x:Int):∀l,l.Pairwise (· ≤·)→(Rj x l).Pairwise (· ≤·)
 |[],_=>by simp[Rj]
 |y::l,h=>by
  unfold Rj;cases b:decide (x≤y)
  ·have h1:¬x≤y:=by simpa using b
   rw[List.pairwise_cons] at h;refine List.pairwise_cons.2 ⟨fun z a=>?_,T4 x l h.2⟩;rcases(XB x z l).1 a with rfl|a
   ·omega
   ·exact h.1 z a
  ·have h1:x≤y:=by simpa using b
   refine List.pairwise_cons.2 ⟨fun z a=>?_,h⟩;rcases List.mem_cons.1 a with rfl|a
   ·exact h1
   ·exact Int.le_trans h1 ((List.pairwise_cons.1 h).1 z a)
theorem OW:∀l,(Ry l).Pairwise (· ≤·)
 |[]=>.nil
 |x::l=>T4 x _ (OW l)
theorem O1(l:List Int):IN l=Ry l:=by
 have hs:(IN l).Pairwise (· ≤·):=by
  have:=List.pairwise_mergeSort (le:=fun(x y:Int)=>decide (x≤y)) (by intro a b c;simp;omega) (by intro a b;simp;omega) l;exact this.imp (fun h=>by simpa using h)
 refine List.Perm.eq_of_pairwise (le:=(· ≤·)) (fun a b _ _ h1 h2=>Int.le_antisymm h1 h2) hs (OW l) ?_;exact(List.mergeSort_perm l _).trans (NU l).symm
def Vz(a:Nat)(d:CZ)(b:List Int):Option (Bool×(List (List Int×Int))):=
 (E5 a d).bind fun c=>(FV b c a ([]:List Int) (0:Int)).bind fun z3=>(Es ((z3.length:Int)≤100000)).bind fun _=>(Es (((Ry z3).length:Int)≤100000)).bind fun _=>some ((decide (((Lib.compact (Ry z3)).length:Int)<(b.length:Int)),c.2))
theorem Abf:GQ=Vz:=by
 funext K a b;unfold GQ Vz;simp only[O1]
def SV(b:Nat)(c:List Int)(d:CZ):Option (Bool×(List (List Int×Int))):=
 (Vz b d c).bind fun a=>some ((a.1,a.2))
theorem ZI:GA=SV:=by
 funext K a b;unfold GA SV;rw[Abf]
def VA(d:Nat)(e:Ah):Option ((List Int)×Int):=
 (Cw d e true).bind fun b=>Option.elim b.1 (cond (b.2 !=0) (some ((([]:List Int),b.2))) (none)) (fun a=>cond (b.2 !=0) (some ((([]:List Int),b.2))) ((Fa d (fun(st:(List (List Int×Int))) (x:(List Int))=>(SV d x (⟨a.AX,a.AY,a.AT,a.CV,a.Bx,a.Bw,a.BT,a.weights,a.Dg,st⟩:CZ)).bind fun r=>some (r.1,r.2)) (e.Aw.length:Int) a.known).bind fun c=>cond (!c.2.1) (some ((([]:List Int),7))) (some ((c.1,0)))))
theorem Abg:I3=VA:=by
 funext K a;unfold I3 VA;rw[ZI]
def VB(a:Nat):Option (Bool):=
 (EA a 0).bind fun z=>(LC a z [41,62]).bind fun n=>(EA a 0).bind fun aA=>(Hm a aA).bind fun d=>(EA a 0).bind fun o=>(F7 a o [0,1]).bind fun b=>(EA a 0).bind fun p=>(J1 a p).bind fun c=>(EA a 1).bind fun q=>(J2 a q).bind fun e=>(EA a 0).bind fun r=>(VA a r).bind fun f=>(EA a 2).bind fun s=>(Jz a s).bind fun g=>(EA a 2).bind fun t=>(JA a t).bind fun h=>cond (n.2==0) ((Dk a n.1 [80,120]).bind fun u=>cond (u) (cond (d.2==0) (cond ((d.1.length:Int)==2) ((idx d.1 (0:Int)).bind fun i=>(Gr a 40 80).bind fun j=>cond ([i.Lo,i.Hi]==[j.Lo,j.Hi]) ((idx d.1 (1:Int)).bind fun k=>(Gr a 120 120).bind fun l=>cond ([k.Lo,k.Hi]==[l.Lo,l.Hi]) (cond (b.2==0) ((Gr a 160 200).bind fun m=>cond ([b.1.Lo,b.1.Hi]==[m.Lo,m.Hi]) (cond (c.2.2==0) ((Dk a c.1 [1]).bind fun v=>cond (v) (cond (c.2.1==180) (cond (e.2==0) ((Dk a e.1 [1,0]).bind fun w=>cond (w) (cond (f.2==0) ((Dk a f.1 [0,1]).bind fun x=>cond (x) (cond (g.2==0) (cond (g.1==1) (cond (h.2==0) ((Dk a h.1 [0]).bind fun y=>some (y)) (some (false))) (some (false))) (some (false))) (some (false))) (some (false))) (some (false))) (some (false))) (some (false))) (some (false))) (some (false))) (some (false))) (some (false))) (some (false))) (some (false))) (some (false))) (some (false))) (some (false))) (some (false))
theorem Abh:BF=VB:=by
 funext K;unfold BF VB;rw[Abg]
set_option maxRecDepth 100000 in
theorem Yz:VB 1000=some true:=by kernel_rfl
theorem L2:BF 1000=some true:=by rw[Abh];exact Yz
def BE (s:Nat):List Int:=((List.range 8).filter fun x=>s.testBit x).map fun x:Nat=>(x:Int)
def lexB:List Int→List Int→Bool
 |a::c,b::d=>if a=b then lexB c d else decide (a<b)
 |[],_::_=>true
 |_,[]=>false
def sh (a b:List Int):Bool:=decide (a.length<b.length)||(a.length==b.length&&lexB a b)
theorem MX:∀a b:List Int,lexB a b=false→lexB b a=false→a=b
 |[],[],_,_=>rfl
 |[],b::c,h,_=>by cases h
 |a::d,[],_,h=>by cases h
 |a::d,b::c,h,g=>by
  rw[lexB] at h g
  by_cases e:a=b
  ·rw[if_pos e] at h;rw[if_pos e.symm] at g;rw[e,MX d c h g]
  ·rw[if_neg e,decide_eq_false_iff_not] at h;rw[if_neg (Ne.symm e),decide_eq_false_iff_not] at g;omega
theorem NQ{a b:List Int}:sh a b=true↔a.length<b.length∨(a.length=b.length∧lexB a b=true):=by simp[sh]
theorem AeH{a b:List Int}(h:sh a b=false)(g:sh b a=false):a=b:=by
 rw[Bool.eq_false_iff] at h g;have h1:a.length=b.length:=by
  refine Decidable.byContradiction fun e=>?_;rcases Nat.lt_or_gt_of_ne e with e|e
  ·exact h (NQ.2 (.inl e))
  ·exact g (NQ.2 (.inl e))
 refine MX a b ?_ ?_
 ·rw[Bool.eq_false_iff];exact fun e=>h (NQ.2 (.inr ⟨h1,e⟩))
 ·rw[Bool.eq_false_iff];exact fun e=>g (NQ.2 (.inr ⟨h1.symm,e⟩))
theorem Kf{s:Nat}{r:Int}:r∈BE s↔∃x:Nat,x<8∧s.testBit x=true∧r=x:=by
 unfold BE;simp only[List.mem_map,List.mem_filter,List.mem_range];constructor
 ·rintro⟨x,⟨h1,h2⟩,rfl⟩;exact⟨x,h1,h2,rfl⟩
 ·rintro⟨x,h1,h2,rfl⟩;exact⟨x,⟨h1,h2⟩,rfl⟩
theorem SW{s x k:Nat}(hs:s<2^k)(h:s.testBit x=true):x<k:=by
 refine Decidable.byContradiction fun a=>?_;rw[Nat.testBit_lt_two_pow (Nat.lt_of_lt_of_le hs (Nat.pow_le_pow_right (by omega) (by omega)))] at h;cases h
theorem Rk(s:Nat):(BE s).Pairwise (· <·):=by
 unfold BE;rw[List.pairwise_map];have h:(List.range 8).Pairwise (fun a b:Nat=>a<b):=List.pairwise_lt_range;exact(h.sublist (List.filter_sublist)).imp fun h=>by omega
def DX(n:Int):Int→List Int→Bool
 |_,[]=>true
 |lo,x::l=>DK x lo (n-1)&&DX n (x+1) l
theorem YU{n:Int}:∀{l:List Int} {lo:Int},lo≤n→DX n lo l=true→(l.length:Int)≤n-lo
 |[],_,h0,_=>by simp;omega
 |y::l,lo,h0,h=>by
  rw[DX,Bool.and_eq_true,Ei] at h;have:=YU (by omega) h.2;rw[List.length_cons];omega
theorem Aar{n:Nat}:∀{l:List Int} {lo:Int},l.Pairwise (· <·)→(∀x∈l,lo≤x∧x<(n:Int))→DX n lo l=true
 |[],_,_,_=>rfl
 |x::l,lo,h,hm=>by
  have b:=hm x (List.mem_cons_self ..);rw[List.pairwise_cons] at h;rw[DX,Bool.and_eq_true,Ei];exact⟨by omega,Aar h.2 fun y a=>⟨by have:=h.1 y a;omega,(hm y (List.mem_cons_of_mem _ a)).2⟩⟩
theorem O2{n s:Nat}(hs:s<2^n):DX n 0 (BE s)=true:=by
 refine Aar (Rk s) fun x a=>?_;obtain⟨y,_,hb,rfl⟩:=Kf.1 a;have:=SW hs hb;omega
section
variable{K:Nat}(hK:1000≤K)
include hK
end
structure Nd (n:Nat) (p:List Int→Bool) (x:List Int):Prop where
 is:∃s,s<2^n∧BE s=x
 ok:p x=true
 least:∀s,s<2^n→p (BE s)=true→sh (BE s) x=false
theorem Nd.uniq{n:Nat}{p:List Int→Bool}{x y:List Int}(h:Nd n p x)(g:Nd n p y):x=y:=by
 obtain⟨s,hs,rfl⟩:=h.is;obtain⟨b,a,rfl⟩:=g.is;exact AeH (g.least s hs h.ok) (h.least b a g.ok)
theorem Nd.ris{n:Nat}{p:List Int→Bool}{x:List Int}(h:Nd n p x):DX n 0 x=true:=by
 obtain⟨s,hs,rfl⟩:=h.is;exact O2 hs
theorem Nd.len{n:Nat}{p:List Int→Bool}{x:List Int}(h:Nd n p x):x.length≤n:=by
 have:=YU (by omega) h.ris;omega
section
variable{K:Nat}(hK:1000≤K)
include hK
end
structure Gi {α:Type} (S:List α) (f:α→Int) (r:Bl):Prop where
 lo:∃l∈S,f l=r.Lo
 hi:∃l∈S,f l=r.Hi
 all:∀l∈S,r.Lo≤f l∧f l≤r.Hi
theorem AcQ{r s:Bl}(h:r.Lo=s.Lo)(g:r.Hi=s.Hi):r=s:=by cases r;cases s;simp at h g;rw[h,g]
theorem Gi.uniq{α:Type}{S:List α}{f:α→Int}{r s:Bl}(h:Gi S f r)(g:Gi S f s):r=s:=by
 obtain⟨a,ha,ea⟩:=h.lo;obtain⟨b,hb,j⟩:=g.lo;obtain⟨c,e,ec⟩:=h.hi;obtain⟨d,i,k⟩:=g.hi;have h1:=g.all a ha;have h2:=h.all b hb;have l:=g.all c e;have m:=h.all d i;exact AcQ (by omega) (by omega)
theorem Gi.map{α β:Type}{X:List α}{f:α→Int}{S:List β}{g:β→Int}{r:Bl}(h:Gi X f r)(h1:∀x∈X,∃l∈S,g l=f x)(h2:∀l∈S,∃x∈X,f x=g l):Gi S g r:=by
 obtain⟨a,ha,ea⟩:=h.lo;obtain⟨c,i,ec⟩:=h.hi;obtain⟨a',b,m⟩:=h1 a ha;obtain⟨j,d,n⟩:=h1 c i;refine⟨⟨a',b,by omega⟩,⟨j,d,by omega⟩,fun l hl=>?_⟩;obtain⟨x,k,e⟩:=h2 l hl;have:=h.all x k;omega
theorem Gi.snoc{α:Type}{S:List α}{f:α→Int}{r:Bl}(h:Gi S f r)(x:α):Gi (S++[x]) f ⟨min r.Lo (f x),max r.Hi (f x)⟩:=by
 obtain⟨a,ha,ea⟩:=h.lo;obtain⟨c,b,ec⟩:=h.hi;refine⟨?_,?_,fun l hl=>?_⟩
 ·by_cases hh:r.Lo≤f x
  ·exact⟨a,by simp[ha],by simp only;omega⟩
  ·exact⟨x,by simp,by simp only;omega⟩
 ·by_cases hh:f x≤r.Hi
  ·exact⟨c,by simp[b],by simp only;omega⟩
  ·exact⟨x,by simp,by simp only;omega⟩
 ·simp only;rcases List.mem_append.1 hl with hl|hl
  ·have:=h.all l hl;omega
  ·rw[List.mem_singleton.1 hl];omega
theorem Gi.one{α:Type}(f:α→Int)(x:α):Gi [x] f ⟨f x,f x⟩:=⟨⟨x,by simp,rfl⟩,⟨x,by simp,rfl⟩,fun l hl=>by rw[List.mem_singleton.1 hl];simp⟩
section
variable{K:Nat}(hK:1000≤K)
include hK
end
structure NR (W:List Int→Int) (n:Nat) (s:List Int):Prop where
 is:∃b,b<2^n∧BE b=s
 Abi:∀x,x<2^n→W (BE x)<W s∨(W (BE x)=W s∧lexB (BE x) s=false)
theorem NR.uniq{W:List Int→Int}{n:Nat}{s a:List Int}(h:NR W n s)(g:NR W n a):s=a:=by
 obtain⟨b,hb,rfl⟩:=h.is;obtain⟨b',c,rfl⟩:=g.is;have h1:=h.Abi b' c;have h2:=g.Abi b hb;rcases h1 with h1|⟨h1,d⟩<;>rcases h2 with h2|⟨h2,e⟩
 ·omega
 ·omega
 ·omega
 ·exact MX _ _ e d
section
variable{K:Nat}(hK:1000≤K)
include hK
end
theorem nl{l l':List Int}(h:l=l'):(l !=l')=false:=by subst h;simp
section
variable{K:Nat}(hK:1000≤K)
include hK
end
end Go.Proofs.YtbhofkcbfblijaaGreat
end
section
namespace Go.Proofs.YtbhofkcbfblijaaGreat
namespace HF
theorem mixed:Tryz.prog.follows .mixedOrders=true:=by kernel_rfl
theorem RY(b:Nat)(w:World):(Instr.fieldAt 131 (.pointer (some ⟨b,0,none⟩)) 0).run Tryz.prog w=.ok (.pointer (some ⟨b,0,none⟩)) w:=by kernel_rfl
theorem Bh:One Tryz.prog 3:=by unfold One;exact⟨by kernel_rfl,by kernel_rfl⟩
theorem RZ(b:Nat)(w:World):(Instr.fieldAt 131 (.pointer (some ⟨b,0,none⟩)) 1).run Tryz.prog w=.ok (.pointer (some ⟨b,1,none⟩)) w:=by kernel_rfl
theorem TB:Bg Tryz.prog 140:=by unfold Bg;kernel_rfl
theorem C7:(Tryz.prog.info? 3).map (·.size)=some 1:=by kernel_rfl
theorem XC(b:Nat)(w:World):(Instr.fieldAt 133 (.pointer (some ⟨b,0,none⟩)) 0).run Tryz.prog w=.ok (.pointer (some ⟨b,0,none⟩)) w:=by kernel_rfl
theorem L3:One Tryz.prog 4:=by unfold One;exact⟨by kernel_rfl,by kernel_rfl⟩
theorem LO(b:Nat)(w:World):(Instr.fieldAt 38 (.pointer (some ⟨b,0,none⟩)) 0).run Tryz.prog w=.ok (.pointer (some ⟨b,0,none⟩)) w:=by kernel_rfl
theorem Nf:One Tryz.prog 35:=by unfold One;exact⟨by kernel_rfl,by kernel_rfl⟩
theorem R0(b:Nat)(w:World):(Instr.fieldAt 133 (.pointer (some ⟨b,0,none⟩)) 1).run Tryz.prog w=.ok (.pointer (some ⟨b,1,none⟩)) w:=by kernel_rfl
theorem YV:Bg Tryz.prog 199:=by unfold Bg;kernel_rfl
theorem R1:(Tryz.prog.info? 131).bind (·.zero)=some (.agg #[I 0,I 0]):=by kernel_rfl
theorem AcR:Bg Tryz.prog 168:=by unfold Bg;kernel_rfl
theorem P9:(Tryz.prog.info? 131).map (·.size)=some 2:=by kernel_rfl
theorem MD:GL Tryz.prog 131 2:=by unfold GL;exact⟨by kernel_rfl,by kernel_rfl⟩
theorem AcS:One Tryz.prog 214:=by unfold One;exact⟨by kernel_rfl,by kernel_rfl⟩
theorem AcT:Bg Tryz.prog 221:=by unfold Bg;kernel_rfl
theorem AcU:Bg Tryz.prog 194:=by unfold Bg;kernel_rfl
theorem AcV:Bg Tryz.prog 193:=by unfold Bg;kernel_rfl
theorem VC:One Tryz.prog 148:=by unfold One;exact⟨by kernel_rfl,by kernel_rfl⟩
theorem ES:(Tryz.prog.info? 31).map (·.size)=some 1:=by kernel_rfl
theorem DB:One Tryz.prog 31:=by unfold One;exact⟨by kernel_rfl,by kernel_rfl⟩
theorem AcW:Bg Tryz.prog 222:=by unfold Bg;kernel_rfl
theorem AcX:Bg Tryz.prog 196:=by unfold Bg;kernel_rfl
theorem AcY:Bg Tryz.prog 195:=by unfold Bg;kernel_rfl
theorem AcZ:One Tryz.prog 212:=by unfold One;exact⟨by kernel_rfl,by kernel_rfl⟩
theorem TD:GL Tryz.prog 133 4:=by unfold GL;exact⟨by kernel_rfl,by kernel_rfl⟩
theorem XD:(Tryz.prog.info? 133).map (·.size)=some 4:=by kernel_rfl
theorem Ac0:Bg Tryz.prog 223:=by unfold Bg;kernel_rfl
theorem Ac1:Bg Tryz.prog 198:=by unfold Bg;kernel_rfl
theorem Ac2:Bg Tryz.prog 197:=by unfold Bg;kernel_rfl
theorem Qv:One Tryz.prog 142:=by unfold One;exact⟨by kernel_rfl,by kernel_rfl⟩
theorem Ac3:Bg Tryz.prog 207:=by unfold Bg;kernel_rfl
theorem Ac4:Bg Tryz.prog 231:=by unfold Bg;kernel_rfl
theorem YW:Bg Tryz.prog 187:=by unfold Bg;kernel_rfl
theorem Ac5:Bg Tryz.prog 220:=by unfold Bg;kernel_rfl
theorem Ac6:Bg Tryz.prog 219:=by unfold Bg;kernel_rfl
theorem LH:GL Tryz.prog 38 3:=by unfold GL;exact⟨by kernel_rfl,by kernel_rfl⟩
theorem Ac7:Bg Tryz.prog 191:=by unfold Bg;kernel_rfl
theorem YX:Bg Tryz.prog 192:=by unfold Bg;kernel_rfl
theorem ME(b:Nat)(w:World):(Instr.fieldAt 38 (.pointer (some ⟨b,0,none⟩)) 1).run Tryz.prog w=.ok (.pointer (some ⟨b,1,none⟩)) w:=by kernel_rfl
theorem DH:One Tryz.prog 23:=by unfold One;exact⟨by kernel_rfl,by kernel_rfl⟩
theorem Ug(b:Nat)(w:World):(Instr.fieldAt 133 (.pointer (some ⟨b,0,none⟩)) 2).run Tryz.prog w=.ok (.pointer (some ⟨b,2,none⟩)) w:=by kernel_rfl
theorem VD:Bg Tryz.prog 165:=by unfold Bg;kernel_rfl
theorem RA(b:Nat)(w:World):(Instr.fieldAt 38 (.pointer (some ⟨b,0,none⟩)) 2).run Tryz.prog w=.ok (.pointer (some ⟨b,2,none⟩)) w:=by kernel_rfl
theorem U2:One Tryz.prog 36:=by unfold One;exact⟨by kernel_rfl,by kernel_rfl⟩
theorem Ac8:Bg Tryz.prog 164:=by unfold Bg;kernel_rfl
theorem Ac9:Bg Tryz.prog 163:=by unfold Bg;kernel_rfl
theorem Ada:Bg Tryz.prog 166:=by unfold Bg;kernel_rfl
theorem Adb:Bg Tryz.prog 162:=by unfold Bg;kernel_rfl
theorem Adc:Bg Tryz.prog 167:=by unfold Bg;kernel_rfl
theorem Ade:Bg Tryz.prog 169:=by unfold Bg;kernel_rfl
theorem Adf:Bg Tryz.prog 179:=by unfold Bg;kernel_rfl
theorem NV:GL Tryz.prog 182 3:=by unfold GL;exact⟨by kernel_rfl,by kernel_rfl⟩
theorem YY:Bg Tryz.prog 183:=by unfold Bg;kernel_rfl
theorem Abj:(Tryz.prog.info? 133).bind (·.zero)=some (.agg #[.bool false,I 0,I 0,I 0]):=by kernel_rfl
theorem Pc:Bg Tryz.prog 136:=by unfold Bg;kernel_rfl
theorem Adg:Bg Tryz.prog 178:=by unfold Bg;kernel_rfl
theorem Adh:Bg Tryz.prog 177:=by unfold Bg;kernel_rfl
theorem YZ:Bg Tryz.prog 176:=by unfold Bg;kernel_rfl
theorem Uh:(Tryz.prog.info? 182).bind (·.zero)=some (.agg #[I 0,I 0,I 0]):=by kernel_rfl
theorem SX:(Tryz.prog.info? 182).map (·.size)=some 3:=by kernel_rfl
theorem VF:Bg Tryz.prog 127:=by unfold Bg;kernel_rfl
theorem Y0:Bg Tryz.prog 132:=by unfold Bg;kernel_rfl
theorem HG:(Tryz.prog.info? 3).map (fun i=>(i.zero,i.size,i.bytes))=some (some (I 0),1,8):=by kernel_rfl
theorem Adi:Bg Tryz.prog 133:=by unfold Bg;kernel_rfl
theorem Ng(b:Nat)(w:World):(Instr.fieldAt 60 (.pointer (some ⟨b,0,none⟩)) 0).run Tryz.prog w=.ok (.pointer (some ⟨b,0,none⟩)) w:=by kernel_rfl
theorem PL(b:Nat)(w:World):(Instr.fieldAt 60 (.pointer (some ⟨b,0,none⟩)) 1).run Tryz.prog w=.ok (.pointer (some ⟨b,1,none⟩)) w:=by kernel_rfl
theorem Pd:Bg Tryz.prog 158:=by unfold Bg;kernel_rfl
theorem LP:(Tryz.prog.info? 60).bind (·.zero)=some (.agg #[I 0,I 0]):=by kernel_rfl
theorem Adj:Bg Tryz.prog 185:=by unfold Bg;kernel_rfl
theorem IV:(Tryz.prog.info? 60).map (·.size)=some 2:=by kernel_rfl
theorem Ht:GL Tryz.prog 60 2:=by unfold GL;exact⟨by kernel_rfl,by kernel_rfl⟩
theorem Nh(b:Nat)(w:World):(Instr.fieldAt 53 (.pointer (some ⟨b,0,none⟩)) 0).run Tryz.prog w=.ok (.pointer (some ⟨b,0,none⟩)) w:=by kernel_rfl
theorem XE(b:Nat)(w:World):(Instr.fieldAt 134 (.pointer (some ⟨b,0,none⟩)) 0).run Tryz.prog w=.ok (.pointer (some ⟨b,0,none⟩)) w:=by kernel_rfl
theorem Qw(b:Nat)(w:World):(Instr.fieldAt 53 (.pointer (some ⟨b,0,none⟩)) 2).run Tryz.prog w=.ok (.pointer (some ⟨b,4,none⟩)) w:=by kernel_rfl
theorem QK:One Tryz.prog 49:=by unfold One;exact⟨by kernel_rfl,by kernel_rfl⟩
theorem XF(b:Nat)(w:World):(Instr.fieldAt 134 (.pointer (some ⟨b,0,none⟩)) 1).run Tryz.prog w=.ok (.pointer (some ⟨b,1,none⟩)) w:=by kernel_rfl
theorem FY:GL Tryz.prog 53 7:=by unfold GL;exact⟨by kernel_rfl,by kernel_rfl⟩
theorem XG(b:Nat)(w:World):(Instr.fieldAt 136 (.pointer (some ⟨b,0,none⟩)) 0).run Tryz.prog w=.ok (.pointer (some ⟨b,0,none⟩)) w:=by kernel_rfl
theorem VG:Bg Tryz.prog 137:=by unfold Bg;kernel_rfl
theorem XH(b:Nat)(w:World):(Instr.fieldAt 136 (.pointer (some ⟨b,0,none⟩)) 1).run Tryz.prog w=.ok (.pointer (some ⟨b,1,none⟩)) w:=by kernel_rfl
theorem Adk:Bg Tryz.prog 161:=by unfold Bg;kernel_rfl
theorem Adl:One Tryz.prog 220:=by unfold One;exact⟨by kernel_rfl,by kernel_rfl⟩
theorem SY:GL Tryz.prog 48 2:=by unfold GL;exact⟨by kernel_rfl,by kernel_rfl⟩
theorem R3:(Tryz.prog.info? 48).map (·.size)=some 2:=by kernel_rfl
theorem Adm:Bg Tryz.prog 224:=by unfold Bg;kernel_rfl
theorem Adn:Bg Tryz.prog 201:=by unfold Bg;kernel_rfl
theorem Ado:Bg Tryz.prog 200:=by unfold Bg;kernel_rfl
theorem Adp:One Tryz.prog 177:=by unfold One;exact⟨by kernel_rfl,by kernel_rfl⟩
theorem Qx:GL Tryz.prog 134 2:=by unfold GL;exact⟨by kernel_rfl,by kernel_rfl⟩
theorem SZ:(Tryz.prog.info? 134).map (·.size)=some 2:=by kernel_rfl
theorem Adq:Bg Tryz.prog 202:=by unfold Bg;kernel_rfl
theorem Adr:Bg Tryz.prog 173:=by unfold Bg;kernel_rfl
theorem Ads:Bg Tryz.prog 172:=by unfold Bg;kernel_rfl
theorem Adt:One Tryz.prog 178:=by unfold One;exact⟨by kernel_rfl,by kernel_rfl⟩
theorem VH:GL Tryz.prog 136 3:=by unfold GL;exact⟨by kernel_rfl,by kernel_rfl⟩
theorem S1:(Tryz.prog.info? 136).map (·.size)=some 3:=by kernel_rfl
theorem Adu:Bg Tryz.prog 203:=by unfold Bg;kernel_rfl
theorem Adv:Bg Tryz.prog 175:=by unfold Bg;kernel_rfl
theorem Adw:Bg Tryz.prog 174:=by unfold Bg;kernel_rfl
theorem Adx:Bg Tryz.prog 188:=by unfold Bg;kernel_rfl
theorem VI(b:Nat)(w:World):(Instr.fieldAt 48 (.pointer (some ⟨b,0,none⟩)) 0).run Tryz.prog w=.ok (.pointer (some ⟨b,0,none⟩)) w:=by kernel_rfl
theorem VJ(b:Nat)(w:World):(Instr.fieldAt 48 (.pointer (some ⟨b,0,none⟩)) 1).run Tryz.prog w=.ok (.pointer (some ⟨b,1,none⟩)) w:=by kernel_rfl
theorem Y1:(Tryz.prog.info? 48).bind (·.zero)=some (.agg #[I 0,I 0]):=by kernel_rfl
theorem Ady:Bg Tryz.prog 171:=by unfold Bg;kernel_rfl
theorem Adz:Bg Tryz.prog 170:=by unfold Bg;kernel_rfl
theorem Mf(b:Nat)(w:World):(Instr.fieldAt 53 (.pointer (some ⟨b,0,none⟩)) 3).run Tryz.prog w=.ok (.pointer (some ⟨b,5,none⟩)) w:=by kernel_rfl
theorem Ni:One Tryz.prog 50:=by unfold One;exact⟨by kernel_rfl,by kernel_rfl⟩
theorem Oz(b:Nat)(w:World):(Instr.fieldAt 53 (.pointer (some ⟨b,0,none⟩)) 4).run Tryz.prog w=.ok (.pointer (some ⟨b,6,none⟩)) w:=by kernel_rfl
theorem QL:One Tryz.prog 51:=by unfold One;exact⟨by kernel_rfl,by kernel_rfl⟩
theorem AdA(b:Nat)(w:World):(Instr.fieldAt 53 (.pointer (some ⟨b,0,none⟩)) 1).run Tryz.prog w=.ok (.pointer (some ⟨b,3,none⟩)) w:=by kernel_rfl
theorem AdB:Bg Tryz.prog 128:=by unfold Bg;kernel_rfl
theorem AdC:Bg Tryz.prog 129:=by unfold Bg;kernel_rfl
theorem AdD:Bg Tryz.prog 125:=by unfold Bg;kernel_rfl
theorem AdE:Bg Tryz.prog 130:=by unfold Bg;kernel_rfl
theorem AdF:Bg Tryz.prog 126:=by unfold Bg;kernel_rfl
theorem AdG:Bg Tryz.prog 131:=by unfold Bg;kernel_rfl
theorem Y3:(Tryz.prog.info? 60).map (fun i=>(i.zero,i.size,i.bytes))=some (some (.agg #[I 0,I 0]),2,16):=by kernel_rfl
theorem Y5:Sm Tryz.prog 204 2:=UL 2 Tryz.underlying204 (by kernel_rfl) rfl rfl Bh Tryz.underlying3
theorem XI:W3 Tryz.prog 204 2:=Ys 2 Tryz.underlying204 rfl rfl Bh Tryz.underlying3
theorem Wv:RS Tryz.prog 204:=by unfold RS;kernel_rfl
theorem AfW:(Tryz.prog.info? 3).bind (·.zero)=some (I 0):=by kernel_rfl
theorem R4(b:Nat)(w:World):(Instr.fieldAt 162 (.pointer (some ⟨b,0,none⟩)) 1).run Tryz.prog w=.ok (.pointer (some ⟨b,7,none⟩)) w:=by kernel_rfl
theorem AdH(w:World):(Op.equal 31 (.slice none 0 0) (.slice none 0 0)).run Tryz.prog w=.ok true w:=by kernel_rfl
theorem AdI(ad:Addr)(n c:Nat)(w:World):(Op.equal 31 (.slice (some ad) n c) (.slice none 0 0)).run Tryz.prog w=.ok false w:=by kernel_rfl
theorem RB:Bg Tryz.prog 105:=by unfold Bg;kernel_rfl
theorem U3:One Tryz.prog 55:=by unfold One;exact⟨by kernel_rfl,by kernel_rfl⟩
theorem AdJ:Bg Tryz.prog 206:=by unfold Bg;kernel_rfl
theorem Y6(b o:Nat)(w:World):(Instr.fieldAt 60 (.pointer (some ⟨b,o,none⟩)) 0).run Tryz.prog w=.ok (.pointer (some ⟨b,o,none⟩)) w:=by kernel_rfl
theorem Y7:Bg Tryz.prog 205:=by unfold Bg;kernel_rfl
theorem TE:(Tryz.prog.info? 31).bind (·.zero)=some (.slice none 0 0):=by kernel_rfl
theorem XJ:(Tryz.prog.info? 142).bind (·.zero)=some (.nilFunc):=by kernel_rfl
theorem Aas:(Tryz.prog.info? 142).map (·.size)=some 1:=by kernel_rfl
theorem R5:(Tryz.prog.info? 155).bind (·.zero)=some (.agg #[I 0,I 0,I 0]):=by kernel_rfl
theorem AdK:Bg Tryz.prog 150:=by unfold Bg;kernel_rfl
theorem OA:GL Tryz.prog 155 3:=by unfold GL;exact⟨by kernel_rfl,by kernel_rfl⟩
theorem RC:(Tryz.prog.info? 155).map (·.size)=some 3:=by kernel_rfl
theorem VK:Bg Tryz.prog 102:=by unfold Bg;kernel_rfl
theorem QM:(Tryz.prog.info? 152).bind (·.zero)=some (.pointer none):=by kernel_rfl
theorem S2:(Tryz.prog.info? 152).map (·.size)=some 1:=by kernel_rfl
theorem Y9:Bg Tryz.prog 147:=by unfold Bg;kernel_rfl
theorem AdL:Bg Tryz.prog 186:=by unfold Bg;kernel_rfl
theorem XK:Bg Tryz.prog 79:=by unfold Bg;kernel_rfl
theorem VM:Bg Tryz.prog 104:=by unfold Bg;kernel_rfl
theorem H7:One Tryz.prog 152:=by unfold One;exact⟨by kernel_rfl,by kernel_rfl⟩
theorem NG(b:Nat)(w:World):(Instr.fieldAt 162 (.pointer (some ⟨b,0,none⟩)) 2).run Tryz.prog w=.ok (.pointer (some ⟨b,8,none⟩)) w:=by kernel_rfl
theorem Pe:One Tryz.prog 159:=by unfold One;exact⟨by kernel_rfl,by kernel_rfl⟩
theorem XL:(Tryz.prog.info? 155).map (fun i=>(i.zero,i.size,i.bytes))=some (some (.agg #[I 0,I 0,I 0]),3,24):=by kernel_rfl
theorem Aat:(Tryz.prog.info? 159).map (·.size)=some 1:=by kernel_rfl
theorem AdM:Tryz.prog.eqGuardType Tryz.prog.depth 155=false:=by kernel_rfl
theorem AdN:Sm Tryz.prog 155 3:=Z4 Tryz.underlying155 Bh Tryz.underlying3
theorem AdO:Bg Tryz.prog 204:=by unfold Bg;kernel_rfl
theorem XM(b o:Nat)(w:World):(Instr.fieldAt 162 (.pointer (some ⟨b,o,none⟩)) 3).run Tryz.prog w=.ok (.pointer (some ⟨b,o+9,none⟩)) w:=by kernel_rfl
theorem Zb:One Tryz.prog 160:=by unfold One;exact⟨by kernel_rfl,by kernel_rfl⟩
theorem Zc:GL Tryz.prog 204 2:=by unfold GL;exact⟨by kernel_rfl,by kernel_rfl⟩
theorem PN(b o:Nat)(w:World):(Instr.fieldAt 162 (.pointer (some ⟨b,o,none⟩)) 0).run Tryz.prog w=.ok (.pointer (some ⟨b,o,none⟩)) w:=by kernel_rfl
theorem Zd(b o:Nat)(w:World):(Instr.fieldAt 53 (.pointer (some ⟨b,o,none⟩)) 2).run Tryz.prog w=.ok (.pointer (some ⟨b,o+4,none⟩)) w:=by kernel_rfl
theorem Abk(b:Nat)(w:World):(Instr.fieldAt 204 (.pointer (some ⟨b,0,none⟩)) 1).run Tryz.prog w=.ok (.pointer (some ⟨b,1,none⟩)) w:=by kernel_rfl
theorem Oj(b o:Nat)(w:World):(Instr.fieldAt 162 (.pointer (some ⟨b,o,none⟩)) 1).run Tryz.prog w=.ok (.pointer (some ⟨b,o+7,none⟩)) w:=by kernel_rfl
theorem Abl(b:Nat)(w:World):(Instr.fieldAt 204 (.pointer (some ⟨b,0,none⟩)) 0).run Tryz.prog w=.ok (.pointer (some ⟨b,0,none⟩)) w:=by kernel_rfl
theorem R6:(Tryz.prog.info? 151).bind (·.zero)=some (.agg #[I 0,I 0,I 0]):=by kernel_rfl
theorem AdP:Bg Tryz.prog 149:=by unfold Bg;kernel_rfl
theorem Qy:GL Tryz.prog 151 3:=by unfold GL;exact⟨by kernel_rfl,by kernel_rfl⟩
theorem U4:(Tryz.prog.info? 151).map (·.size)=some 3:=by kernel_rfl
theorem Abm:(Tryz.prog.info? 136).bind (·.zero)=some (.agg #[I 0,I 0,I 0]):=by kernel_rfl
theorem Ze:Bg Tryz.prog 148:=by unfold Bg;kernel_rfl
theorem Abn(b o:Nat)(w:World):(Instr.fieldAt 162 (.pointer (some ⟨b,o,none⟩)) 2).run Tryz.prog w=.ok (.pointer (some ⟨b,o+8,none⟩)) w:=by kernel_rfl
theorem VN:Bg Tryz.prog 103:=by unfold Bg;kernel_rfl
theorem VO:Bg Tryz.prog 124:=by unfold Bg;kernel_rfl
theorem XN:(Tryz.prog.info? 4).bind (·.zero)=some (.bool false):=by kernel_rfl
theorem VP:Bg Tryz.prog 151:=by unfold Bg;kernel_rfl
theorem S3:(Tryz.prog.info? 4).map (·.size)=some 1:=by kernel_rfl
theorem VQ:Bg Tryz.prog 184:=by unfold Bg;kernel_rfl
theorem XO:Bg Tryz.prog 75:=by unfold Bg;kernel_rfl
theorem AdQ:Bg Tryz.prog 101:=by unfold Bg;kernel_rfl
theorem AdR:Bg Tryz.prog 154:=by unfold Bg;kernel_rfl
theorem VR:Bg Tryz.prog 111:=by unfold Bg;kernel_rfl
theorem VS:Bg Tryz.prog 112:=by unfold Bg;kernel_rfl
theorem AdS:One Tryz.prog 164:=by unfold One;exact⟨by kernel_rfl,by kernel_rfl⟩
theorem Zf:Bg Tryz.prog 152:=by unfold Bg;kernel_rfl
theorem OB:Bg Tryz.prog 106:=by unfold Bg;kernel_rfl
theorem XP:(Tryz.prog.info? 3).bind (·.zero)=some (I 0):=by kernel_rfl
theorem AdT:Bg Tryz.prog 108:=by unfold Bg;kernel_rfl
theorem Zg:Bg Tryz.prog 107:=by unfold Bg;kernel_rfl
theorem AdU:Bg Tryz.prog 157:=by unfold Bg;kernel_rfl
theorem AdV:Bg Tryz.prog 156:=by unfold Bg;kernel_rfl
theorem AdW(b o:Nat)(w:World):(Instr.fieldAt 53 (.pointer (some ⟨b,o,none⟩)) 1).run Tryz.prog w=.ok (.pointer (some ⟨b,o+3,none⟩)) w:=by kernel_rfl
theorem AdX:Bg Tryz.prog 153:=by unfold Bg;kernel_rfl
theorem RD:Bg Tryz.prog 117:=by unfold Bg;kernel_rfl
theorem VT:Bg Tryz.prog 109:=by unfold Bg;kernel_rfl
theorem QN:Bg Tryz.prog 50:=by unfold Bg;kernel_rfl
theorem Zh(a:Value)(x1:Value)(w:World):(Instr.field 60 (.agg #[a,x1]) 0).run Tryz.prog w=.ok (a) w:=by kernel_rfl
theorem VU:One Tryz.prog 166:=by unfold One;exact⟨by kernel_rfl,by kernel_rfl⟩
theorem VV:Bg Tryz.prog 110:=by unfold Bg;kernel_rfl
theorem Abo:(Tryz.prog.info? 166).bind (·.zero)=some (.nilFunc):=by kernel_rfl
theorem AeI:(Tryz.prog.info? 166).map (·.size)=some 1:=by kernel_rfl
theorem AdY:Bg Tryz.prog 159:=by unfold Bg;kernel_rfl
theorem AdZ:Bg Tryz.prog 160:=by unfold Bg;kernel_rfl
theorem Ad0(b o:Nat)(w:World):(Instr.fieldAt 48 (.pointer (some ⟨b,o,none⟩)) 0).run Tryz.prog w=.ok (.pointer (some ⟨b,o,none⟩)) w:=by kernel_rfl
theorem Ad1(b o:Nat)(w:World):(Instr.fieldAt 53 (.pointer (some ⟨b,o,none⟩)) 3).run Tryz.prog w=.ok (.pointer (some ⟨b,o+5,none⟩)) w:=by kernel_rfl
theorem Abp:(Tryz.prog.info? 134).bind (·.zero)=some (.agg #[I 0,I 0]):=by kernel_rfl
theorem VW:Bg Tryz.prog 138:=by unfold Bg;kernel_rfl
theorem Kr:(Tryz.prog.info? 31).map (fun i=>(i.zero,i.size,i.bytes))=some (some (.slice none 0 0),1,24):=by kernel_rfl
theorem Zi:Bg Tryz.prog 135:=by unfold Bg;kernel_rfl
theorem Zj:Bg Tryz.prog 134:=by unfold Bg;kernel_rfl
theorem Ad2:(Tryz.prog.info? 23).bind (·.zero)=some (.slice none 0 0):=by kernel_rfl
theorem Acg:(Tryz.prog.info? 23).map (·.size)=some 1:=by kernel_rfl
theorem Zk:One Tryz.prog 199:=by unfold One;exact⟨by kernel_rfl,by kernel_rfl⟩
theorem Zl:Bg Tryz.prog 155:=by unfold Bg;kernel_rfl
theorem Abq:(Tryz.prog.info? 199).bind (·.zero)=some (.nilFunc):=by kernel_rfl
theorem AeJ:(Tryz.prog.info? 199).map (·.size)=some 1:=by kernel_rfl
theorem Abr(b:Nat)(w:World):(Instr.fieldAt 174 (.pointer (some ⟨b,0,none⟩)) 0).run Tryz.prog w=.ok (.pointer (some ⟨b,0,none⟩)) w:=by kernel_rfl
theorem Ad3:One Tryz.prog 172:=by unfold One;exact⟨by kernel_rfl,by kernel_rfl⟩
theorem VX:Bg Tryz.prog 121:=by unfold Bg;kernel_rfl
theorem Abs:(Tryz.prog.info? 174).bind (·.zero)=some (.agg #[.nilFunc]):=by kernel_rfl
theorem AeK:(Tryz.prog.info? 174).map (·.size)=some 1:=by kernel_rfl
theorem Ad4:Bg Tryz.prog 122:=by unfold Bg;kernel_rfl
theorem Zm:Bg Tryz.prog 113:=by unfold Bg;kernel_rfl
theorem Abt(b:Nat)(w:World):(Instr.fieldAt 162 (.pointer (some ⟨b,0,none⟩)) 0).run Tryz.prog w=.ok (.pointer (some ⟨b,0,none⟩)) w:=by kernel_rfl
theorem Ach:(Tryz.prog.info? 51).map (·.size)=some 1:=by kernel_rfl
theorem JG(b:Nat)(w:World):(Instr.fieldAt 44 (.pointer (some ⟨b,0,none⟩)) 0).run Tryz.prog w=.ok (.pointer (some ⟨b,0,none⟩)) w:=by kernel_rfl
theorem Le(b:Nat)(w:World):(Instr.fieldAt 44 (.pointer (some ⟨b,0,none⟩)) 1).run Tryz.prog w=.ok (.pointer (some ⟨b,1,none⟩)) w:=by kernel_rfl
theorem DR:Bg Tryz.prog 29:=by unfold Bg;kernel_rfl
theorem Ej(b:Nat)(w:World):(Instr.fieldAt 26 (.pointer (some ⟨b,0,none⟩)) 0).run Tryz.prog w=.ok (.pointer (some ⟨b,0,none⟩)) w:=by kernel_rfl
theorem EJ:One Tryz.prog 22:=by unfold One;exact⟨by kernel_rfl,by kernel_rfl⟩
theorem Gu:(Tryz.prog.info? 44).map (·.size)=some 2:=by kernel_rfl
theorem GR:GL Tryz.prog 44 2:=by unfold GL;exact⟨by kernel_rfl,by kernel_rfl⟩
theorem VY:Bg Tryz.prog 118:=by unfold Bg;kernel_rfl
theorem DP(b:Nat)(w:World):(Instr.fieldAt 26 (.pointer (some ⟨b,0,none⟩)) 1).run Tryz.prog w=.ok (.pointer (some ⟨b,1,none⟩)) w:=by kernel_rfl
theorem II(b:Nat)(w:World):(Instr.fieldAt 26 (.pointer (some ⟨b,0,none⟩)) 2).run Tryz.prog w=.ok (.pointer (some ⟨b,2,none⟩)) w:=by kernel_rfl
theorem JI:One Tryz.prog 24:=by unfold One;exact⟨by kernel_rfl,by kernel_rfl⟩
theorem U5:Bg Tryz.prog 90:=by unfold Bg;kernel_rfl
theorem Dt:GL Tryz.prog 26 3:=by unfold GL;exact⟨by kernel_rfl,by kernel_rfl⟩
theorem Aau:Bg Tryz.prog 91:=by unfold Bg;kernel_rfl
theorem XQ:Bg Tryz.prog 35:=by unfold Bg;kernel_rfl
theorem OX:(Tryz.prog.info? 46).map (·.size)=some 4:=by kernel_rfl
theorem OS:GL Tryz.prog 46 4:=by unfold GL;exact⟨by kernel_rfl,by kernel_rfl⟩
theorem Zn:(Tryz.prog.info? 46).bind (·.zero)=some (.agg #[.bool false,I 0,I 0,I 0]):=by kernel_rfl
theorem NW(b:Nat)(w:World):(Instr.fieldAt 46 (.pointer (some ⟨b,0,none⟩)) 0).run Tryz.prog w=.ok (.pointer (some ⟨b,0,none⟩)) w:=by kernel_rfl
theorem Nj(b:Nat)(w:World):(Instr.fieldAt 46 (.pointer (some ⟨b,0,none⟩)) 1).run Tryz.prog w=.ok (.pointer (some ⟨b,1,none⟩)) w:=by kernel_rfl
theorem FZ(b:Nat)(w:World):(Instr.fieldAt 46 (.pointer (some ⟨b,0,none⟩)) 2).run Tryz.prog w=.ok (.pointer (some ⟨b,2,none⟩)) w:=by kernel_rfl
theorem Ol:Bg Tryz.prog 59:=by unfold Bg;kernel_rfl
theorem IJ:(Tryz.prog.info? 44).bind (·.zero)=some (.agg #[I 0,I 0]):=by kernel_rfl
theorem Nk:Bg Tryz.prog 87:=by unfold Bg;kernel_rfl
theorem Pq:Bg Tryz.prog 58:=by unfold Bg;kernel_rfl
theorem Ho:(Tryz.prog.underlying 3).isSome=true:=by kernel_rfl
theorem DQ(b:Nat)(w:World):(Instr.fieldAt 67 (.pointer (some ⟨b,0,none⟩)) 0).run Tryz.prog w=.ok (.pointer (some ⟨b,0,none⟩)) w:=by kernel_rfl
theorem Jj(b:Nat)(w:World):(Instr.fieldAt 67 (.pointer (some ⟨b,0,none⟩)) 2).run Tryz.prog w=.ok (.pointer (some ⟨b,4,none⟩)) w:=by kernel_rfl
theorem Ks:One Tryz.prog 63:=by unfold One;exact⟨by kernel_rfl,by kernel_rfl⟩
theorem Nl:(Tryz.prog.info? 128).map (·.size)=some 2:=by kernel_rfl
theorem Om(b o:Nat)(w:World):(Instr.fieldAt 128 (.pointer (some ⟨b,o,none⟩)) 0).run Tryz.prog w=.ok (.pointer (some ⟨b,o,none⟩)) w:=by kernel_rfl
theorem Ui(b o:Nat)(w:World):(Instr.fieldAt 128 (.pointer (some ⟨b,o,none⟩)) 1).run Tryz.prog w=.ok (.pointer (some ⟨b,o+1,none⟩)) w:=by kernel_rfl
theorem Cc:GL Tryz.prog 67 7:=by unfold GL;exact⟨by kernel_rfl,by kernel_rfl⟩
theorem Nn:Bg Tryz.prog 56:=by unfold Bg;kernel_rfl
theorem EN(b:Nat)(w:World):(Instr.fieldAt 67 (.pointer (some ⟨b,0,none⟩)) 4).run Tryz.prog w=.ok (.pointer (some ⟨b,6,none⟩)) w:=by kernel_rfl
theorem FE:One Tryz.prog 65:=by unfold One;exact⟨by kernel_rfl,by kernel_rfl⟩
theorem J4:(Tryz.prog.info? 121).map (·.size)=some 3:=by kernel_rfl
theorem MY(b o:Nat)(w:World):(Instr.fieldAt 121 (.pointer (some ⟨b,o,none⟩)) 1).run Tryz.prog w=.ok (.pointer (some ⟨b,o+1,none⟩)) w:=by kernel_rfl
theorem Mp(b o:Nat)(w:World):(Instr.fieldAt 121 (.pointer (some ⟨b,o,none⟩)) 0).run Tryz.prog w=.ok (.pointer (some ⟨b,o,none⟩)) w:=by kernel_rfl
theorem Mq:Bg Tryz.prog 54:=by unfold Bg;kernel_rfl
theorem Pf(b:Nat)(w:World):(Instr.fieldAt 67 (.pointer (some ⟨b,0,none⟩)) 1).run Tryz.prog w=.ok (.pointer (some ⟨b,3,none⟩)) w:=by kernel_rfl
theorem Hx(b:Nat)(w:World):(Instr.fieldAt 67 (.pointer (some ⟨b,0,none⟩)) 3).run Tryz.prog w=.ok (.pointer (some ⟨b,5,none⟩)) w:=by kernel_rfl
theorem IG:One Tryz.prog 64:=by unfold One;exact⟨by kernel_rfl,by kernel_rfl⟩
theorem Mr:(Tryz.prog.info? 126).map (·.size)=some 2:=by kernel_rfl
theorem Aav:Bg Tryz.prog 24:=by unfold Bg;kernel_rfl
theorem Ad5:GL Tryz.prog 128 2:=by unfold GL;exact⟨by kernel_rfl,by kernel_rfl⟩
theorem Abu:(Tryz.prog.info? 128).bind (·.zero)=some (.agg #[I 0,I 0]):=by kernel_rfl
theorem O3(b:Nat)(w:World):(Instr.fieldAt 128 (.pointer (some ⟨b,0,none⟩)) 0).run Tryz.prog w=.ok (.pointer (some ⟨b,0,none⟩)) w:=by kernel_rfl
theorem QO(b:Nat)(w:World):(Instr.fieldAt 128 (.pointer (some ⟨b,0,none⟩)) 1).run Tryz.prog w=.ok (.pointer (some ⟨b,1,none⟩)) w:=by kernel_rfl
theorem QP(b o:Nat)(w:World):(Instr.fieldAt 126 (.pointer (some ⟨b,o,none⟩)) 0).run Tryz.prog w=.ok (.pointer (some ⟨b,o,none⟩)) w:=by kernel_rfl
theorem PO(b o:Nat)(w:World):(Instr.fieldAt 126 (.pointer (some ⟨b,o,none⟩)) 1).run Tryz.prog w=.ok (.pointer (some ⟨b,o+1,none⟩)) w:=by kernel_rfl
theorem VZ:(Tryz.prog.info? 38).bind (·.zero)=some (.agg #[.slice none 0 0,.slice none 0 0,.slice none 0 0]):=by kernel_rfl
theorem Aaw:Bg Tryz.prog 98:=by unfold Bg;kernel_rfl
theorem Abv:(Tryz.prog.info? 131).map (fun i=>(i.zero,i.size,i.bytes))=some (some (.agg #[I 0,I 0]),2,16):=by kernel_rfl
theorem Afr:(Tryz.prog.info? 35).map (·.size)=some 1:=by kernel_rfl
theorem AeL:Bg Tryz.prog 99:=by unfold Bg;kernel_rfl
theorem Abw:(Tryz.prog.info? 133).map (fun i=>(i.zero,i.size,i.bytes))=some (some (.agg #[.bool false,I 0,I 0,I 0]),4,32):=by kernel_rfl
theorem Afs:(Tryz.prog.info? 36).map (·.size)=some 1:=by kernel_rfl
theorem Aci:(Tryz.prog.info? 38).map (·.size)=some 3:=by kernel_rfl
theorem V0:(Tryz.prog.info? 53).bind (·.zero)=some (.agg #[.slice none 0 0,.slice none 0 0,.slice none 0 0,I 0,.slice none 0 0,.slice none 0 0,.slice none 0 0]):=by kernel_rfl
theorem Aax:Bg Tryz.prog 27:=by unfold Bg;kernel_rfl
theorem ZJ:(Tryz.prog.info? 53).map (·.size)=some 7:=by kernel_rfl
theorem Ad6:(Tryz.prog.info? 48).map (fun i=>(i.zero,i.size,i.bytes))=some (some (.agg #[I 0,I 0]),2,16):=by kernel_rfl
theorem Aft:(Tryz.prog.info? 49).map (·.size)=some 1:=by kernel_rfl
theorem Abx:(Tryz.prog.info? 134).map (fun i=>(i.zero,i.size,i.bytes))=some (some (.agg #[I 0,I 0]),2,16):=by kernel_rfl
theorem Afu:(Tryz.prog.info? 50).map (·.size)=some 1:=by kernel_rfl
theorem Qa:Bg Tryz.prog 66:=by unfold Bg;kernel_rfl
theorem Aby:(Tryz.prog.info? 136).map (fun i=>(i.zero,i.size,i.bytes))=some (some (.agg #[I 0,I 0,I 0]),3,24):=by kernel_rfl
theorem AeM:Bg Tryz.prog 23:=by unfold Bg;kernel_rfl
theorem OC:Bg Tryz.prog 116:=by unfold Bg;kernel_rfl
theorem S4:Bg Tryz.prog 57:=by unfold Bg;kernel_rfl
theorem Pr:Bg Tryz.prog 36:=by unfold Bg;kernel_rfl
theorem Qb:Bg Tryz.prog 88:=by unfold Bg;kernel_rfl
theorem Aay:Bg Tryz.prog 32:=by unfold Bg;kernel_rfl
theorem U6:Bg Tryz.prog 33:=by unfold Bg;kernel_rfl
theorem XS:Bg Tryz.prog 34:=by unfold Bg;kernel_rfl
theorem XT:Bg Tryz.prog 81:=by unfold Bg;kernel_rfl
theorem XU:Bg Tryz.prog 69:=by unfold Bg;kernel_rfl
theorem XV:Bg Tryz.prog 42:=by unfold Bg;kernel_rfl
theorem XW:Bg Tryz.prog 43:=by unfold Bg;kernel_rfl
theorem On:Bg Tryz.prog 41:=by unfold Bg;kernel_rfl
theorem No:Tryz.prog.eqGuardType Tryz.prog.depth 60=false:=by kernel_rfl
theorem Np:Sm Tryz.prog 60 2:=UL 2 Tryz.underlying60 (by kernel_rfl) rfl rfl Bh Tryz.underlying3
theorem EZ:Bg Tryz.prog 37:=by unfold Bg;kernel_rfl
theorem Ic:Bg Tryz.prog 38:=by unfold Bg;kernel_rfl
end HF
end Go.Proofs.YtbhofkcbfblijaaGreat
end
section
namespace Go.Proofs.YtbhofkcbfblijaaGreat
open Go.RowKit Go.WideShapes
set_option maxRecDepth 20000
open HF
attribute [local irreducible] Dm WL CC CW LV B7 Ih GL One Bg
theorem ZK k b d e(Z:Nat→Prop) w j(c:KU k b d e=some j):
 B7 Tryz.prog 140 #[I b,I d,I e] w (fun v w'=>Ext w w'∧Cm.R w' (zf Z w []) v j):=by
 unfold KU at c;refine rq (N:=15) Tryz.func140 fun l ha m=>?_;have f:=sA 0 ha;have h:=sA 1 ha;have i:=sA 2 ha;clear ha;have g:Hp FN [] w [] w:=Hp.start (BL.none w);refine cr<|wA (v:=.bool false) rfl<|wr<|wM (v:=I d) h<|wM (v:=I b) f<|wD (fun st=>JP (eR st) (eR st))<|wM (v:=.bool (decide (d≤b))) rfl ?_;rcases Ae (decide (d≤b)) with a|a
 ·replace c:=Ap c a;refine wN a (v:=I b) f<|wN a (v:=I e) i<|wG a (fun st=>JP (eR st) (eR st))<|wD (fun st=>AW (v:=.bool (decide (b≤e))) (eR st) a (eR st))<|wA (v:=.bool (decide (b≤e))) rfl<|wn<|Av ?_;obtain rfl:=oi c;refine Ay rfl rfl ?_;exact⟨g.AS,rfl⟩
 ·replace c:=Aq c a;refine wF a<|wF a<|wF a<|wD (fun st=>Bo (v:=.bool false) (eR st) a (eR st))<|wA (v:=.bool false) rfl<|wn<|Av ?_;obtain rfl:=oi c;refine Ay rfl rfl ?_;exact⟨g.AS,rfl⟩
theorem Abz k b(Z:Nat→Prop) w i(d:I8 k b=some i):
 B7 Tryz.prog 165 #[.agg #[I b.Lo,I b.Hi]] w (fun v w'=>Ext w w'∧Cm.R w' (zf Z w []) v i):=by
 unfold I8 at d;refine rq (N:=18) Tryz.func165 fun l ha m=>?_;have h:=sA 0 ha;clear ha;have g:Hp FN [] w [] w:=Hp.start (BL.none w);refine cr<|wE (fun st=>BP (v:=.agg #[I b.Lo,I b.Hi]) (cs:= #[I b.Lo,I b.Hi]) (ee st h) rfl) ?_;rintro _ w1 ⟨b1,rfl,e⟩;have f:=g.nb e;have j:=g.BU e;refine wA (v:=.bool false) rfl<|wr<|wD (fun st=>Ad (eR st) (RY _ _))<|wD (fun st=>As (v:=I b.Lo) Bh (eR st) e.bk rfl)<|wD (fun st=>JP (eR st) (eR st))<|wM (v:=.bool (decide ((0:Int)≤b.Lo))) rfl ?_;rcases Ae (decide ((0:Int)≤b.Lo)) with a|a
 ·replace d:=Ap d a;refine wG a (fun st=>Ad (eR st) (RY _ _))<|wG a (fun st=>As (v:=I b.Lo) Bh (eR st) e.bk rfl)<|wG a (fun st=>Ad (eR st) (RZ _ _))<|wG a (fun st=>As (v:=I b.Hi) Bh (eR st) e.bk rfl)<|wG a (fun st=>JP (eR st) (eR st))<|wD (fun st=>AW (v:=.bool (decide (b.Lo≤b.Hi))) (eR st) a (eR st))<|wM (v:=.bool (decide (b.Lo≤b.Hi))) rfl ?_;rcases Ae (decide (b.Lo≤b.Hi)) with c|c
  ·replace d:=Ap d c;refine wG c (fun st=>Ad (eR st) (RZ _ _))<|wG c (fun st=>As (v:=I b.Hi) Bh (eR st) e.bk rfl)<|wG c (fun st=>JP (eR st) (eR st))<|wD (fun st=>AW (v:=.bool (decide (b.Hi≤100))) (eR st) c (eR st))<|wA (v:=.bool (decide (b.Hi≤100))) rfl<|wn<|Av ?_;obtain rfl:=oi d;refine Ay rfl rfl ?_;exact⟨f.AS,rfl⟩
  ·replace d:=Aq d c;refine wF c<|wF c<|wF c<|wD (fun st=>Bo (v:=.bool false) (eR st) c (eR st))<|wA (v:=.bool false) rfl<|wn<|Av ?_;obtain rfl:=oi d;refine Ay rfl rfl ?_;exact⟨f.AS,rfl⟩
 ·replace d:=Aq d a;refine wF a<|wF a<|wF a<|wF a<|wF a<|wD (fun st=>Bo (v:=.bool false) (eR st) a (eR st))<|wM (v:=.bool false) rfl<|wH<|wH<|wH<|wD (fun st=>Bo (v:=.bool false) (eR st) rfl (eR st))<|wA (v:=.bool false) rfl<|wn<|Av ?_;obtain rfl:=oi d;refine Ay rfl rfl ?_;exact⟨f.AS,rfl⟩
theorem AfX k a(Z:Nat→Prop) w f(b:M6 k a=some f):
 B7 Tryz.prog 169 #[.agg #[I a.Lo,I a.Hi]] w (fun v w'=>Ext w w'∧(DT .i64).R w' (zf Z w []) v f):=by
 unfold M6 at b;refine rq (N:=9) Tryz.func169 fun l ha m=>?_;have e:=sA 0 ha;clear ha;have d:Hp FN [] w [] w:=Hp.start (BL.none w);refine cr<|wE (fun st=>BP (v:=.agg #[I a.Lo,I a.Hi]) (cs:= #[I a.Lo,I a.Hi]) (ee st e) rfl) ?_;rintro _ w1 ⟨b1,rfl,c⟩;have g:=d.nb c;have j:=d.BU c;refine wA (v:=I 0) rfl<|wr<|wD (fun st=>Ad (eR st) (RZ _ _))<|wD (fun st=>As (v:=I a.Hi) Bh (eR st) c.bk rfl)<|wD (fun st=>Ad (eR st) (RY _ _))<|wD (fun st=>As (v:=I a.Lo) Bh (eR st) c.bk rfl) ?_;replace b:=AF b;obtain⟨h,b⟩:=b;refine wD (fun st=>El (eR st) (eR st) h) ?_;replace b:=AF b;obtain⟨i,b⟩:=b;refine wD (fun st=>BG (eR st) (eR st) i)<|wA (v:=I ((a.Hi-a.Lo)+1)) rfl<|wn<|Av ?_;obtain rfl:=oi b;refine Ay rfl rfl ?_;exact⟨g.AS,rfl⟩
theorem AeN h a d(Z:Nat→Prop) w i(c:Jn h a d=some i):
 B7 Tryz.prog 176 #[.agg #[I a.Lo,I a.Hi],I d] w (fun v w'=>Ext w w'∧Cm.R w' (zf Z w []) v i):=by
 unfold Jn at c;refine rq (N:=11) Tryz.func176 fun p ha q=>?_;have f:=sA 0 ha;have g:=sA 1 ha;clear ha;have e:Hp FN [] w [] w:=Hp.start (BL.none w);refine cr<|wE (fun st=>BP (v:=.agg #[I a.Lo,I a.Hi]) (cs:= #[I a.Lo,I a.Hi]) (ee st f) rfl) ?_;rintro _ w1 ⟨b1,rfl,b⟩;have j:=e.nb b;have o:=e.BU b;refine wA (v:=.bool false) rfl<|wr<|wM (v:=I d) g<|wD (fun st=>Ad (eR st) (RY _ _))<|wD (fun st=>As (v:=I a.Lo) Bh (eR st) b.bk rfl)<|wD (fun st=>Ad (eR st) (RZ _ _))<|wD (fun st=>As (v:=I a.Hi) Bh (eR st) b.bk rfl) ?_;replace c:=bind_some c;obtain⟨k,l,c⟩:=c;refine wE (fun st=>Aj TB (eR st) (Dx (eR st) (eR st) (eR st)) (ZK h d a.Lo a.Hi ZA _ k l)) ?_;rintro _ r ⟨m,rfl⟩;have n:=j.ext m;refine wA (v:=.bool k) rfl<|wn<|Av ?_;obtain rfl:=oi c;refine Ay rfl rfl ?_;exact⟨n.AS,rfl⟩
theorem AfY d b(Z:Nat→Prop) w e(a:NN d b=some e):
 B7 Tryz.prog 220 #[I b] w (fun v w'=>Ext w w'∧Cm.R w' (zf Z w []) v e):=by
 unfold NN at a;refine rq (N:=5) Tryz.func220 fun k ha l=>?_;have c:=sA 0 ha;clear ha;have f:Hp FN [] w [] w:=Hp.start (BL.none w);refine cr<|wA (v:=.bool false) rfl<|wr<|wM (v:=I b) c ?_;replace a:=bind_some a;obtain⟨g,h,a⟩:=a;refine wE (fun st=>Aj TB (eR st) (Dx (eR st) (eR st) (eR st)) (ZK d b 0 30 ZA _ g h)) ?_;rintro _ w2 ⟨i,rfl⟩;have j:=f.ext i;refine wA (v:=.bool g) rfl<|wn<|Av ?_;obtain rfl:=oi a;refine Ay rfl rfl ?_;exact⟨j.AS,rfl⟩
theorem AeO aA i f g(Z:Nat→Prop) w(r:Sl (Ao .i64) w Z f g i) aB(a:Ox aA i=some aB):
 B7 Tryz.prog 192 #[.slice f i.length g] w (fun v w'=>Ext w w'∧(DT .i64).R w' (zf Z w []) v aB):=by
 unfold Ox at a;refine rq (N:=16) Tryz.func192 fun aQ ha aR=>?_;have u:=sA 0 ha;clear ha;have aC:Hp FN [] w [] w:=Hp.start (BL.none w);have o:=r.mv (Bd (Z:=Z) (L:=[]) w);refine cr<|wA (v:=I 0) rfl<|wn<|Af<|cr<|wM (v:=.slice f i.length g) u<|wD (fun st=>Be Tryz.underlying31 (eR st))<|wM (v:=I 0) rfl<|wn<|AI ?_;replace a:=bind_some a;obtain⟨s,e,a⟩:=a;refine BX (fun aD d x=>(aD=.exit 0∧Fo X0 16 d∧sl d 2=I s∧w=x)) ?aE ?aF
 case aE=>
  clear a;refine BW (fun y d x=>∃b,∃c,Jy i y b c=some s∧Fo X0 16 d∧sl d 2=I b∧sl d 5=.slice f i.length g∧sl d 6=I (i.length:Int)∧sl d 7=I c∧w=x) aA ?aG ?aH
  case aG=>
   intro st;exact⟨(0:Int),(0:Int),e,qo st,sp st 2 rfl,sp st 5 rfl,sp st 6 rfl,sp st 7 rfl,rfl⟩
  case aH=>
   rintro(_|y) aS _ ⟨b,c,e,z,l,m,n,h,rfl⟩
   ·exact absurd (show none=some _ from e) (by simp)
   rw[Jy.eq_2] at e;have a:=e;clear e;refine ro z<|cr<|wD (fun st=>B9 (ee st h) (ee st n))<|wn<|Af ?_;rcases Ae (decide (c<(i.length:Int))) with j|j
   ·replace a:=Ap a j;refine Am rfl j<|cn<|Af<|AI<|Af<|Al ?_;replace a:=AP a;obtain⟨i3,p,aI,aJ,aK,a⟩:=a;obtain⟨b3,aT,_,aL,rfl,aM⟩:=Sl.Cz o rfl aJ;refine wD (fun st=>AR (k:=i3) Tryz.underlying31 C7 (ee st m) aL (ee st h) aI aK)<|wD (fun st=>Bb (v:=I p) Bh (eR st) aM rfl)<|wA (v:=I p) rfl<|wn<|Al<|wM (v:=I b) l<|wM (v:=I p) rfl ?_;replace a:=AF a;obtain⟨aN,a⟩:=a;refine wD (fun st=>BG (eR st) (eR st) aN)<|wA (v:=I (b+p)) rfl<|AU<|CS<|Al ?_;replace a:=AF a;obtain⟨aO,a⟩:=a;refine wD (fun st=>BG (ee st h) (eR st) aO)<|wM (v:=I (c+1)) rfl<|AU ?_;refine Bi y (Nat.lt_succ_self _) (fun st=>?_);exact⟨(b+p),(c+1),a,qo st,sp st 2 rfl,sp st 5 m,sp st 6 n,sp st 7 rfl,rfl⟩
   ·replace a:=Aq a j;refine An rfl j<|Dq ?_;obtain rfl:=oi a;refine BC (fun st=>?_);exact⟨rfl,qo st,sp st 2 l,rfl⟩
 case aF=>
  rintro aD aP _ (⟨rfl,t,q,rfl⟩);refine lf t<|AZ<|BS<|cr<|wM (v:=I s) q<|wA (v:=I s) rfl<|wn<|Av ?_;obtain rfl:=oi a;refine Ay rfl rfl ?_;exact⟨aC.AS,rfl⟩
theorem AfZ aE f a b c g h i j(Z:Nat→Prop) w(m:Sl Az w Z b c f.Ax)(n:Sl (Bs (Ao .i64)) w Z g h f.Bv)(o:Sl AH w Z i j f.AQ) aA(d:K2 aE f a=some aA):
 B7 Tryz.prog 178 #[.agg (AE b c g h i j f).toArray,.agg #[.bool a.Ce,I a.Number,I a.AM,I a.AN]] w (fun v w'=>Ext w w'∧(DT .i64).R w' (zf Z w []) v aA):=by
 unfold K2 at d;refine rq (N:=15) Tryz.func178 fun aF ha aG=>?_;have t:=sA 0 ha;have u:=sA 1 ha;clear ha;have q:Hp FN [] w [] w:=Hp.start (BL.none w);have ⟨x,y,z⟩:=DU m n o (Bd (Z:=Z) (L:=[]) w);refine cr<|wE (fun st=>BP (v:=.agg (AE b c g h i j f).toArray) (cs:=(AE b c g h i j f).toArray) (ee st t) rfl) ?_;rintro _ w1 ⟨b1,rfl,l⟩;have r:=q.nb l;have aC:=q.BU l;refine wE (fun st=>BP (v:=.agg #[.bool a.Ce,I a.Number,I a.AM,I a.AN]) (cs:= #[.bool a.Ce,I a.Number,I a.AM,I a.AN]) (ee st u) rfl) ?_;rintro _ w2 ⟨b2,rfl,e⟩;have s:=r.nb e;have aD:=r.BU e;refine wA (v:=I 0) rfl<|wn<|Af<|cr<|wD (fun st=>Ad (eR st) (XC _ _))<|wD (fun st=>As (v:=.bool a.Ce) L3 (eR st) e.bk rfl)<|wn ?_;rcases Ae (a.Ce) with k|k
 ·replace d:=Ap d k;refine Am rfl k<|cr<|wD (fun st=>Ad (eR st) (LO _ _)) ?_;have p:=(l.bk.ext e.gr);refine wD (fun st=>As (v:=.slice b f.Ax.length c) Nf (eR st) p rfl)<|wD (fun st=>Be Tryz.underlying35 (eR st))<|wD (fun st=>Ad (eR st) (R0 _ _))<|wD (fun st=>As (v:=I a.Number) Bh (eR st) e.bk rfl) ?_;replace d:=AF d;obtain⟨aB,d⟩:=d;refine wD (fun st=>BG (eR st) (eR st) aB)<|wA (v:=I ((f.Ax.length:Int)+a.Number)) rfl<|wn<|Av<|AG ?_;obtain rfl:=oi d;refine Ay rfl rfl ?_;exact⟨s.AS,rfl⟩
 ·replace d:=Aq d k;refine An rfl k<|cn<|cr<|wD (fun st=>Ad (eR st) (R0 _ _))<|wD (fun st=>As (v:=I a.Number) Bh (eR st) e.bk rfl)<|wA (v:=I a.Number) rfl<|wn<|Av ?_;obtain rfl:=oi d;refine Ay rfl rfl ?_;exact⟨s.AS,rfl⟩
theorem AeP z f c d(Z:Nat→Prop) w(r:Sl (Ao .i64) w Z c d f) aA(a:La z f=some aA):
 B7 Tryz.prog 199 #[.slice c f.length d] w (fun v w'=>Ext w w'∧(DT .i64).R w' (zf Z w []) v aA):=by
 unfold La at a;refine rq (N:=25) Tryz.func199 fun aT ha aU=>?_;have o:=sA 0 ha;clear ha;have aB:Hp FN [] w [] w:=Hp.start (BL.none w);have h:=r.mv (Bd (Z:=Z) (L:=[]) w);refine cr<|wA (v:=I 0) rfl<|wn<|Af<|cr<|wM (v:=.slice c f.length d) o<|wD (fun st=>Be Tryz.underlying31 (eR st))<|wD (fun st=>B9 (eR st) (eR st))<|wn ?_;rcases Ae (decide ((f.length:Int)<1)) with m|m
 ·replace a:=Ap a m;refine Am rfl m ?_;exact absurd a (by simp)
 ·replace a:=Aq a m;refine An rfl m<|cn<|cr<|wM (v:=.slice c f.length d) o ?_;replace a:=AP a;obtain⟨i2,x2,aC,aD,aE,a⟩:=a;obtain⟨b2,aW,_,aF,rfl,aG⟩:=Sl.Cz h rfl aD;refine wD (fun st=>AR (k:=i2) Tryz.underlying31 C7 (eR st) aF (eR st) aC aE)<|wD (fun st=>Bb (v:=I x2) Bh (eR st) aG rfl)<|wA (v:=I x2) rfl<|wn<|Af<|cr<|wA (v:=I 1) rfl<|wn<|AI ?_;replace a:=bind_some a;obtain⟨z3,i,a⟩:=a;refine BX (fun aH g t=>(aH=.exit 0∧Fo X0 25 g∧sl g 3=I z3∧w=t)) ?aI ?aJ
  case aI=>
   clear a;refine BW (fun u g t=>∃e,∃b,JW f u e b=some z3∧Fo X0 25 g∧sl g 0=.slice c f.length d∧sl g 3=I e∧sl g 4=I b∧w=t) z ?aK ?aL
   case aK=>
    intro st;exact⟨x2,(1:Int),i,qo st,sp st 0 o,sp st 3 rfl,sp st 4 rfl,rfl⟩
   case aL=>
    rintro(_|u) aV _ ⟨e,b,i,x,j,p,l,rfl⟩
    ·exact absurd (show none=some _ from i) (by simp)
    rw[JW.eq_2] at i;have a:=i;clear i;refine ro x<|Af<|cr<|wM (v:=I b) l<|wM (v:=.slice c f.length d) j<|wD (fun st=>Be Tryz.underlying31 (eR st))<|wD (fun st=>B9 (eR st) (eR st))<|wn ?_;rcases Ae (decide (b<(f.length:Int))) with n|n
    ·replace a:=Ap a n;refine Am rfl n<|cn<|Af<|AI<|Al<|wM (v:=I e) p<|wM (v:=.slice c f.length d) j<|wM (v:=I b) l ?_;replace a:=AP a;obtain⟨i5,y,aM,aN,aO,a⟩:=a;obtain⟨aX,aY,_,aP,rfl,aQ⟩:=Sl.Cz h rfl aN;refine wD (fun st=>AR (k:=i5) Tryz.underlying31 C7 (eR st) aP (eR st) aM aO)<|wD (fun st=>Bb (v:=I y) Bh (eR st) aQ rfl)<|wD (fun st=>UH (eR st) (eR st))<|wA (v:=I (min e y)) rfl<|AU<|CS<|Al<|wM (v:=I b) l ?_;replace a:=AF a;obtain⟨aR,a⟩:=a;refine wD (fun st=>BG (eR st) (eR st) aR)<|wA (v:=I (b+1)) rfl<|AU ?_;refine Bi u (Nat.lt_succ_self _) (fun st=>?_);exact⟨(min e y),(b+1),a,qo st,sp st 0 j,sp st 3 rfl,sp st 4 rfl,rfl⟩
    ·replace a:=Aq a n;refine An rfl n<|Dq ?_;obtain rfl:=oi a;refine BC (fun st=>?_);exact⟨rfl,qo st,sp st 3 p,rfl⟩
  case aJ=>
   rintro aH aS _ (⟨rfl,s,q,rfl⟩);refine lf s<|AZ<|BS<|cr<|wM (v:=I z3) q<|wA (v:=I z3) rfl<|wn<|Av ?_;obtain rfl:=oi a;refine Ay rfl rfl ?_;exact⟨aB.AS,rfl⟩
theorem a168 h e a b(Z:Nat→Prop) w(f:Sl (Ao .i64) w Z a b e) i(c:Nc h e=some i):
 B7 Tryz.prog 168 #[.slice a e.length b] w (fun v w'=>Ext w w'∧(DT .i64).R w' (zf Z w []) v i):=by
 unfold Nc at c;refine rq (N:=5) Tryz.func168 fun o ha p=>?_;have g:=sA 0 ha;clear ha;have j:Hp FN [] w [] w:=Hp.start (BL.none w);have d:=f.mv (Bd (Z:=Z) (L:=[]) w);refine cr<|wA (v:=I 0) rfl<|wr<|wM (v:=.slice a e.length b) g ?_;replace c:=bind_some c;obtain⟨k,l,c⟩:=c;refine wE (fun st=>Aj YV (eR st) (Cy (eR st)) (AeP h e a b ZA _ d.all k l)) ?_;rintro _ w2 ⟨m,rfl⟩;have n:=j.ext m;refine wA (v:=I k) rfl<|wn<|Av ?_;obtain rfl:=oi c;refine Ay rfl rfl ?_;exact⟨n.AS,rfl⟩
theorem a194{r:Type}{e:Nat→Prop}{aK:Nat}{n:IT r}{u:r→Bl→Option (Bool×r)} aU c(s:r) q1(i:Value) a(Z Za:Nat→Prop) w(d:Cb Tryz.prog i e aK n (v1 (Fx Az)) Cm u)(aL:aK≤w.heap.size)(aM:BL e [some q1,a] w)(aN:∀b,Z b→¬e b∧some b∉[some q1,a])(aV:∀b,Z b→Za b)(aA:∀b,Za b→¬e b∧some b∉[some q1,a])(aO:Bk w q1 214 #[i])(aW:n s w Z a) aB(m:Lt aU u c s=some aB):
 B7 Tryz.prog 194 #[.agg #[I c.Lo,I c.Hi],pt q1 0] w (fun v w'=>∃o',Dc (FU e [some q1,a]) w w'∧Cm.R w' (zf Z w [some q1,o']) v aB.1∧Bk w' q1 214 #[i]∧(∀k,o'=some k→(a=some k∨w.heap.size≤k)∧k<w'.heap.size)∧n aB.2 w' (zf Z w [some q1,o']) o'):=by
 unfold Lt at m;refine rq (N:=8) Tryz.func194 fun aZ ha a0=>?_;have aC:=sA 0 ha;have aD:=sA 1 ha;clear ha;obtain⟨aE,aP,o,aQ,aX,aF⟩:=Pk aM aN aA;have aG:=d.mz aW (BV (L:=[some q1,a]) aQ w);refine cr<|wE (fun st=>BP (v:=.agg #[I c.Lo,I c.Hi]) (cs:= #[I c.Lo,I c.Hi]) (ee st aC) rfl) ?_;rintro _ w1 ⟨b1,rfl,f⟩;have g:=o.nb f;have aT:=o.BU f;refine wA (v:=.bool false) rfl<|wn<|Af<|Al ?_;have j:=(aO.ext f.gr);refine wD (fun st=>As (v:=i) AcS (ee st aD) j rfl)<|wD (fun st=>AK (l:=[I c.Lo,I c.Hi]) MD (eR st) f.bk rfl rfl) ?_;have aH:n s w1 (ZZ e aE Z w.heap.size [some b1,some q1,a]) a:=(d.me aG o f.gr (AA f));replace m:=bind_some m;obtain⟨aI,aR,m⟩:=m;refine wE (fun st=>JD (d.call s c aI _ (ZZ e aE Z w.heap.size [some b1,some q1,a]) (ZC e [a]) a #[.agg #[I c.Lo,I c.Hi]] (Nat.le_trans aL g.sz) (g.zz (F':=e) (M:=[a]) (C:=[]) [2] [] ⟨rfl,trivial⟩ trivial (fun _ h=>.inl h)) Nx aH ⟨_,rfl,⟨_,rfl,rfl⟩⟩ aR) (eR st) (Cy (eR st))) ?_;rintro _ aY ⟨p,x,q,rfl,aS⟩;have z:=g.HY x (BM [2] ⟨rfl,trivial⟩ (fun _ h=>h)) 2 rfl q;have aJ:n aI.2 aY (ZZ e aE Z w.heap.size [some b1,some q1,p]) p:=d.mz aS (g.call (M:=[p]) (Nat.le_refl _) (Ee ⟨.inr (hw q 2),trivial⟩) (Fg (L:=[some b1,some q1,a]) (y:=p) 2 (gm 0)));refine wD (fun st=>CJ (eR st))<|wA (v:=.bool !aI.1) rfl<|wn<|Av ?_;obtain rfl:=oi m;refine Ay rfl rfl ?_;have t:=(j.Ek x (g.EU 1 rfl [2] rfl ⟨rfl,trivial⟩ (fun _ h=>h)));exact⟨p,aF _ z.fin,rfl,t,z.mq 2 [1] (M:=[some q1]) ⟨rfl,trivial⟩ aP,d.mz aJ (BQ (CE [1,2] ⟨rfl,rfl,trivial⟩))⟩
theorem Af0{aX:Type}{e:Nat→Prop}{bD:Nat}{aG:IT aX}{aQ:aX→Bl→Option (Bool×aX)} bE s(a4:aX) m n(aI:Value) aC(Z:Nat→Prop) w(p:Cb Tryz.prog aI e bD aG (v1 (Fx Az)) Cm aQ)(bF:bD≤w.heap.size)(bG:BL e [aC] w)(bH:∀b,Z b→¬e b∧some b∉[aC])(aY:Sl Az w Z m n s)(bV:aG a4 w Z aC) a5(a:Mj bE aQ s a4=some a5):
 B7 Tryz.prog 221 #[.slice m s.length n,aI] w (fun v w'=>∃o',Dc (FU e [aC]) w w'∧(DT .i64).R w' (zf Z w [o']) v a5.1∧(∀k,o'=some k→(aC=some k∨w.heap.size≤k)∧k<w'.heap.size)∧aG a5.2 w' (zf Z w [o']) o'):=by
 unfold Mj at a;refine rq (N:=19) Tryz.func221 fun bY ha bZ=>?_;have aR:=sA 0 ha;have a7:=sA 1 ha;clear ha;obtain⟨x,aZ,bI,a0,aS⟩:=My bG bH;have aN:=aY.mv (BV (L:=[aC]) a0 w);have a8:=p.mz bV (BV (L:=[aC]) a0 w);refine cr<|wA (v:=I 0) rfl<|wn<|Af<|cr<|wM (v:=.slice m s.length n) aR<|wD (fun st=>Be Tryz.underlying35 (eR st))<|wM (v:=I 0) rfl<|wn<|AI ?_;replace a:=bind_some a;obtain⟨a9,t,a⟩:=a;refine BX (fun bA f aD=>(bA=.ret∧∃o,a9=.inl o∧∃g,Fo X0 19 f∧sl f 4=I o.1∧Hp e x w [g] aD∧aG o.2 aD (ZZ e x Z w.heap.size [g]) g)∨(bA=.exit 0∧∃o,a9=.inr o∧∃i,Fo X0 19 f∧Hp e x w [i] aD∧aG o aD (ZZ e x Z w.heap.size [i]) i)) ?bJ ?bK
 case bJ=>
  clear a;refine BW (fun bB f aD=>∃d,∃j,∃c,IA aQ s bB d j=some a9∧Fo X0 19 f∧sl f 0=.slice m s.length n∧sl f 1=aI∧sl f 7=I (s.length:Int)∧sl f 8=I d∧Hp e x w [c] aD∧aG j aD (ZZ e x Z w.heap.size [c]) c∧Sl Az aD (ZZ e x Z w.heap.size [c]) m n s) bE ?bL ?bM
  case bL=>
   intro st;exact⟨(0:Int),a4,aC,t,qo st,sp st 0 aR,sp st 1 a7,sp st 7 rfl,sp st 8 rfl,bI,a8,aN⟩
  case bM=>
   rintro(_|bB) b4 b5 ⟨d,j,c,t,bC,aJ,aK,aL,z,u,aM,q⟩
   ·exact absurd (show none=some _ from t) (by simp)
   rw[IA.eq_2] at t;have a:=t;clear t;refine ro bC<|cr<|wD (fun st=>B9 (ee st z) (ee st aL))<|wn<|Af ?_;rcases Ae (decide (d<(s.length:Int))) with aE|aE
   ·replace a:=Ap a aE;refine Am rfl aE<|cn<|Af<|AI<|cr<|wM (v:=I d) z<|wA (v:=I d) rfl<|wr<|wM (v:=aI) aK<|wM (v:=.slice m s.length n) aJ<|wM (v:=I d) rfl ?_;replace a:=AP a;obtain⟨i3,aT,bN,bO,bP,a⟩:=a;obtain⟨b3,b7,_,bQ,rfl,bR⟩:=Sl.elem q (by decide) bO;refine wD (fun st=>BD (k:=i3) Tryz.underlying35 P9 (eR st) bQ (eR st) bN bP)<|wD (fun st=>DF (l:=[I aT.Lo,I aT.Hi]) MD (eR st) bR rfl rfl) ?_;replace a:=bind_some a;obtain⟨aU,bS,a⟩:=a;refine wE (fun st=>JD (p.call j aT aU _ (ZZ e x Z w.heap.size [c]) (ZC e [c]) c #[.agg #[I aT.Lo,I aT.Hi]] (Nat.le_trans bF u.sz) (u.zz (F':=e) (M:=[c]) (C:=[]) [0] [] ⟨rfl,trivial⟩ trivial (fun _ h=>.inl h)) Nx aM ⟨_,rfl,⟨_,rfl,rfl⟩⟩ bS) (eR st) (Cy (eR st))) ?_;rintro _ bW ⟨aO,a2,aH,rfl,bT⟩;have a3:=u.HY a2 (BM [0] ⟨rfl,trivial⟩ (fun _ h=>h)) 0 rfl aH;have aV:aG aU.2 bW (ZZ e x Z w.heap.size [aO]) aO:=p.mz bT (u.call (M:=[aO]) (Nat.le_refl _) (Ee ⟨.inr (hw aH 0),trivial⟩) (Fg (L:=[c]) (y:=aO) 0 (gm 0)));refine wn ?_;rcases Ae (aU.1) with aF|aF
    ·replace a:=Ap a aF;refine Am rfl aF<|cr<|wM (v:=I d) rfl<|wA (v:=I d) rfl<|wn<|Av<|Dd<|AG ?_;obtain rfl:=oi a;refine BC (fun st=>?_);exact .inl ⟨rfl,(d,aU.2),rfl,aO,qo st,sp st 4 rfl,a3,aV⟩
    ·replace a:=Aq a aF;refine An rfl aF<|Ct<|CS<|Al ?_;replace a:=AF a;obtain⟨bU,a⟩:=a;refine wD (fun st=>BG (ee st z) (eR st) bU)<|wM (v:=I (d+1)) rfl<|AU ?_;have aP:=(q.mv (u.LS a2 (BM [0] ⟨rfl,trivial⟩ (fun _ h=>h)) 0 rfl (fun k hk=>(aH k hk).1)));refine Bi bB (Nat.lt_succ_self _) (fun st=>?_);exact⟨(d+1),aU.2,aO,a,qo st,sp st 0 aJ,sp st 1 aK,sp st 7 aL,sp st 8 rfl,a3,aV,aP⟩
   ·replace a:=Aq a aE;refine An rfl aE<|Dq ?_;obtain rfl:=oi a;refine BC (fun st=>?_);exact .inr ⟨rfl,j,rfl,c,qo st,u,aM⟩
 case bK=>
  rintro bA bX b6 (⟨rfl,o,rfl,g,aA,aW,r,aB⟩|⟨rfl,o,rfl,i,aA,r,aB⟩)
  ·skip
   replace a:=C9 a;refine lf aA<|Dd ?_;obtain rfl:=oi a;refine Ay rfl aW ?_;exact⟨g,aS _ r.fin,rfl,r.mq 0 [] (M:=[]) trivial aZ,p.mz aB (BQ (CE [0] ⟨rfl,trivial⟩))⟩
  ·skip
   replace a:=Da a;refine lf aA<|AZ<|BS<|cr<|wA (v:=I (-1)) rfl<|wn<|Av ?_;obtain rfl:=oi a;refine Ay rfl rfl ?_;exact⟨i,aS _ r.fin,rfl,r.mq 0 [] (M:=[]) trivial aZ,p.mz aB (BQ (CE [0] ⟨rfl,trivial⟩))⟩
theorem a193{p:Type}{f:Nat→Prop}{aG:Nat}{q:IT p}{s:p→Bl→Option (Bool×p)} aH m(x:p) c d(i:Value) a(Z:Nat→Prop) w(e:Cb Tryz.prog i f aG q (v1 (Fx Az)) Cm s)(aI:aG≤w.heap.size)(aJ:BL f [a] w)(aK:∀b,Z b→¬f b∧some b∉[a])(r:Sl Az w Z c d m)(aQ:q x w Z a) z(j:Lu aH s m x=some z):
 B7 Tryz.prog 193 #[.slice c m.length d,i] w (fun v w'=>∃o',Dc (FU f [a]) w w'∧Cm.R w' (zf Z w [o']) v z.1∧(∀k,o'=some k→(a=some k∨w.heap.size≤k)∧k<w'.heap.size)∧q z.2 w' (zf Z w [o']) o'):=by
 unfold Lu at j;refine rq (N:=9) Tryz.func193 fun aR ha aS=>?_;have aA:=sA 0 ha;have aB:=sA 1 ha;clear ha;obtain⟨aL,aM,g,t,aC⟩:=My aJ aK;have l:=r.mv (BV (L:=[a]) t w);have aD:=e.mz aQ (BV (L:=[a]) t w);refine cr<|wA (v:=.bool false) rfl<|wr<|wM (v:=.slice c m.length d) aA<|wM (v:=i) aB ?_;replace j:=bind_some j;obtain⟨aE,aN,j⟩:=j;refine wE (fun st=>Aj AcT (eR st) (CN (eR st) (eR st)) (Af0 aH m x c d i a (ZZ f aL Z w.heap.size [a]) _ e (Nat.le_trans aI g.sz) (g.EP (F':=f) (M:=[a]) (C:=[]) [0] [] rfl ⟨rfl,trivial⟩ trivial (fun _ h=>.inl h)) (g.zz (F':=f) (M:=[a]) (C:=[]) [0] [] ⟨rfl,trivial⟩ trivial (fun _ h=>.inl h)) l aD aE aN)) ?_;rintro _ w2 ⟨n,aO,rfl,o,aP⟩;have u:=g.HY aO (BM [0] ⟨rfl,trivial⟩ (fun _ h=>h)) 0 rfl o;have aF:q aE.2 w2 (ZZ f aL Z w.heap.size [n]) n:=e.mz aP (g.call (M:=[n]) (Nat.le_refl _) (Ee ⟨.inr (hw o 0),trivial⟩) (Fg (L:=[a]) (y:=n) 0 (gm 0)));refine wD (fun st=>J7 (eR st) (eR st))<|wA (v:=.bool (decide ((0:Int)≤aE.1))) rfl<|wn<|Av ?_;obtain rfl:=oi j;refine Ay rfl rfl ?_;exact⟨n,aC _ u.fin,rfl,u.mq 0 [] (M:=[]) trivial aM,e.mz aF (BQ (CE [0] ⟨rfl,trivial⟩))⟩
theorem a164{s:Type}{e:Nat→Prop}{a5:Nat}{t:IT s}{aB:s→Bl→Option (Bool×s)} aG aC(aH:s) j l(g:Value) c(Z:Nat→Prop) w(a:Cb Tryz.prog g e a5 t (v1 (Fx Az)) Cm aB)(a7:a5≤w.heap.size)(a8:BL e [c] w)(a9:∀b,Z b→¬e b∧some b∉[c])(aI:Sl Az w Z j l aC)(n:t aH w Z c) aN(u:Ny aG aB aC aH=some aN):
 B7 Tryz.prog 164 #[.slice j aC.length l,g] w (fun v w'=>∃o',Dc (FU e [c]) w w'∧Cm.R w' (zf Z w [o']) v aN.1∧(∀k,o'=some k→(c=some k∨w.heap.size≤k)∧k<w'.heap.size)∧t aN.2 w' (zf Z w [o']) o'):=by
 unfold Ny at u;refine rq (N:=9) Tryz.func164 fun bN ha bO=>?_;have aO:=sA 0 ha;have aP:=sA 1 ha;clear ha;obtain⟨aQ,bA,aD,aJ,aR⟩:=My a8 a9;have z:=aI.mv (BV (L:=[c]) aJ w);have aS:=a.mz n (BV (L:=[c]) aJ w);refine cr<|wE (fun st=>BP (v:=g) (cs:= #[g]) (ee st aP) a.fc) ?_;rintro _ w1 ⟨b1,rfl,i⟩;have d:=aD.nb i;have bI:=aD.BU i;refine wA (v:=.bool false) rfl<|wr<|wM (v:=.slice j aC.length l) aO<|wD (fun st=>F4 (vs:= #[]) (us:= #[pt b1 0]) Gj (Cy (eR st))) ?_;have aK:=d.EP (F':=e) (M:=[some b1]) (C:=[]) [0] [] rfl ⟨rfl,trivial⟩ trivial (fun k hk=>.inl ((fun _ h=>h) k hk));have aT:Cb Tryz.prog (.func (.func 194) #[] #[pt b1 0]) (FU e [some b1]) w1.heap.size (fun(st:s) aU bJ o=>(∀k,o=some k→k<aU.heap.size∧¬(FU e [some b1]) k)∧Bk aU b1 214 #[g]∧t st aU bJ o) (v1 (Fx Az)) Cm (fun(st:s) (x:Bl)=>(Lt aG aB x st).bind fun r=>some (r.1,r.2)):=by
  refine⟨rfl,rfl,d.N2 [0] ⟨rfl,trivial⟩ (fun _ h=>h),?_,?_,?_⟩
  ·intro st x r w1 aV bB o vs hn aW p n aX bK;obtain⟨f,m,q⟩:=n;obtain⟨_,rfl,⟨_,rfl,rfl⟩⟩:=aX;obtain⟨bL,h1,h2⟩:=bind_some bK;obtain rfl:=Option.some.inj h2;refine(Ip AcU rfl (a194 aG x st b1 g o aV bB w1 a (Nat.le_trans a7 (Nat.le_trans d.sz hn)) ((aK.grow hn).snoc f) (fun b hb=>G0 (p b (aW b hb)).1 (p b (aW b hb)).2) aW (fun b hb=>G0 (p b hb).1 (p b hb).2) m q bL h1)).mono ?_;rintro v w2 ⟨o',aX,aY,aZ,aL,bC⟩;exact⟨o',aX.lf,aL,aY,⟨aK.keep hn f aL,aZ,a.mz bC Od⟩⟩
  ·intro st w1 w2 aV bP o n hm hb;obtain⟨f,m,q⟩:=n;exact⟨fun k hk=>⟨Nat.lt_of_lt_of_le (f k hk).1 hm.size,(f k hk).2⟩,m.Mh (hb b1 (.inl (.inr (gm 0)))),a.Qg _ _ _ _ _ _ q hm (fun b bD=>hb b (bD.imp .inl id))⟩
  ·intro st w1 aV o n k hk;obtain⟨f,m,q⟩:=n;exact f k hk
 have aA:=(z.mv (AA i));replace u:=bind_some u;obtain⟨a0,bE,u⟩:=u;have a2:t aH w1 (ZZ e aQ Z w.heap.size [some b1,c]) c:=(a.me aS aD i.gr (AA i));refine wE (fun st=>Aj AcV (eR st) (CN (eR st) (eR st)) (a193 aG aC aH j l (.func (.func 194) #[] #[pt b1 0]) c (ZZ e aQ Z w.heap.size [some b1,c]) _ aT (Nat.le_refl _) (d.EP (F':=(FU e [some b1])) (M:=[c]) (C:=[some b1]) [1] [0] rfl ⟨rfl,trivial⟩ ⟨rfl,trivial⟩ (CG (fun _ h=>h))) (d.zz (F':=(FU e [some b1])) (M:=[c]) (C:=[some b1]) [1] [0] ⟨rfl,trivial⟩ ⟨rfl,trivial⟩ (CG (fun _ h=>h))) aA ⟨(fun k hk=>d.T0 1 (by rw[←hk];rfl) [0] rfl ⟨rfl,trivial⟩),i.bk,a2⟩ a0 bE)) ?_;rintro _ bM ⟨aE,bF,rfl,aF,bG⟩;obtain⟨-,bH,a3⟩:=bG;have aM:=d.HY (Dc.cl (M1:=[some b1]) (M2:=[c]) bF) (BM [0,1] ⟨rfl,rfl,trivial⟩ (fun _ h=>h)) 1 rfl aF;have a4:t a0.2 bM (ZZ e aQ Z w.heap.size [some b1,aE]) aE:=a.mz a3 (d.call (M:=[aE]) (Nat.le_refl _) (Ee ⟨.inr (hw aF 1),trivial⟩) (Fg (L:=[some b1,c]) (y:=aE) 1 (gm 0)));refine wD (fun st=>CJ (eR st))<|wA (v:=.bool !a0.1) rfl<|wn<|Av ?_;obtain rfl:=oi u;refine Ay rfl rfl ?_;exact⟨aE,aR _ aM.fin,rfl,aM.mq 1 [] (M:=[]) trivial bA,a.mz a4 (BQ (CE [1] ⟨rfl,trivial⟩))⟩
theorem a196{p:Type}{c:Nat→Prop}{aK:Nat}{q:IT p}{t:p→(List Int)→Option (Bool×p)} aT j(aA:p) e f q1(i:Value) a(Z Za:Nat→Prop) w(g:Cb Tryz.prog i c aK q (v1 (Fq (Ao .i64))) Cm t)(aL:aK≤w.heap.size)(aM:BL c [some q1,a] w)(aN:∀b,Z b→¬c b∧some b∉[some q1,a])(aU:∀b,Z b→Za b)(aB:∀b,Za b→¬c b∧some b∉[some q1,a])(r:Sl (Ao .i64) w Za e f j)(u:Bk w q1 148 #[i])(aV:q aA w Z a) aC(l:LY aT t j aA=some aC):
 B7 Tryz.prog 196 #[.slice e j.length f,pt q1 0] w (fun v w'=>∃o',Dc (FU c [some q1,a]) w w'∧Cm.R w' (zf Z w [some q1,o']) v aC.1∧Bk w' q1 148 #[i]∧(∀k,o'=some k→(a=some k∨w.heap.size≤k)∧k<w'.heap.size)∧q aC.2 w' (zf Z w [some q1,o']) o'):=by
 unfold LY at l;refine rq (N:=8) Tryz.func196 fun aW ha aX=>?_;have aD:=sA 0 ha;have aE:=sA 1 ha;clear ha;obtain⟨aO,aP,d,aQ,aF,aG⟩:=Pk aM aN aB;have m:=r.mv (BV (L:=[some q1,a]) aF w);have aH:=g.mz aV (BV (L:=[some q1,a]) aQ w);refine cr<|wA (v:=.bool false) rfl<|wr<|wD (fun st=>As (v:=i) VC (ee st aE) u rfl)<|wM (v:=.slice e j.length f) aD ?_;replace l:=bind_some l;obtain⟨aI,aR,l⟩:=l;refine wE (fun st=>JD (g.call aA j aI _ (ZZ c aO Z w.heap.size [some q1,a]) (ZC c [a]) a #[.slice e j.length f] (Nat.le_trans aL d.sz) (d.zz (F':=c) (M:=[a]) (C:=[]) [1] [] ⟨rfl,trivial⟩ trivial (fun _ h=>.inl h)) Nx aH ⟨_,rfl,⟨_,_,rfl,(m.mv (d.mz (F':=c) (M:=[a]) (C:=[]) [1] [] ⟨rfl,trivial⟩ trivial (fun _ h=>.inl h)))⟩⟩ aR) (eR st) (Cy (eR st))) ?_;rintro _ w2 ⟨n,x,o,rfl,aS⟩;have z:=d.HY x (BM [1] ⟨rfl,trivial⟩ (fun _ h=>h)) 1 rfl o;have aJ:q aI.2 w2 (ZZ c aO Z w.heap.size [some q1,n]) n:=g.mz aS (d.call (M:=[n]) (Nat.le_refl _) (Ee ⟨.inr (hw o 1),trivial⟩) (Fg (L:=[some q1,a]) (y:=n) 1 (gm 0)));refine wD (fun st=>CJ (eR st))<|wA (v:=.bool !aI.1) rfl<|wn<|Av ?_;obtain rfl:=oi l;refine Ay rfl rfl ?_;have s:=(u.Ek x (d.EU 0 rfl [1] rfl ⟨rfl,trivial⟩ (fun _ h=>h)));exact⟨n,aG _ z.fin,rfl,s,z.mq 1 [0] (M:=[some q1]) ⟨rfl,trivial⟩ aP,g.mz aJ (BQ (CE [0,1] ⟨rfl,rfl,trivial⟩))⟩
theorem a222{aX:Type}{e:Nat→Prop}{bF:Nat}{aF:IT aX}{aP:aX→(List Int)→Option (Bool×aX)} bG s(a5:aX) l m(aH:Value) aB(Z:Nat→Prop) w(o:Cb Tryz.prog aH e bF aF (v1 (Fq (Ao .i64))) Cm aP)(bH:bF≤w.heap.size)(bI:BL e [aB] w)(bJ:∀b,Z b→¬e b∧some b∉[aB])(aY:Sl (Bs (Ao .i64)) w Z l m s)(bX:aF a5 w Z aB) a7(c:MA bG aP s a5=some a7):
 B7 Tryz.prog 222 #[.slice l s.length m,aH] w (fun v w'=>∃o',Dc (FU e [aB]) w w'∧(DT .i64).R w' (zf Z w [o']) v a7.1∧(∀k,o'=some k→(aB=some k∨w.heap.size≤k)∧k<w'.heap.size)∧aF a7.2 w' (zf Z w [o']) o'):=by
 unfold MA at c;refine rq (N:=19) Tryz.func222 fun b4 ha b5=>?_;have aQ:=sA 0 ha;have a8:=sA 1 ha;clear ha;obtain⟨u,a0,bK,a2,aR⟩:=My bI bJ;have aM:=aY.mv (BV (L:=[aB]) a2 w);have a9:=o.mz bX (BV (L:=[aB]) a2 w);refine cr<|wA (v:=I 0) rfl<|wn<|Af<|cr<|wM (v:=.slice l s.length m) aQ<|wD (fun st=>Be Tryz.underlying23 (eR st))<|wM (v:=I 0) rfl<|wn<|AI ?_;replace c:=bind_some c;obtain⟨bA,t,c⟩:=c;refine BX (fun bB f aC=>(bB=.ret∧∃n,bA=.inl n∧∃g,Fo X0 19 f∧sl f 4=I n.1∧Hp e u w [g] aC∧aF n.2 aC (ZZ e u Z w.heap.size [g]) g)∨(bB=.exit 0∧∃n,bA=.inr n∧∃i,Fo X0 19 f∧Hp e u w [i] aC∧aF n aC (ZZ e u Z w.heap.size [i]) i)) ?bL ?bM
 case bL=>
  clear c;refine BW (fun bC f aC=>∃d,∃j,∃a,I1 aP s bC d j=some bA∧Fo X0 19 f∧sl f 0=.slice l s.length m∧sl f 1=aH∧sl f 7=I (s.length:Int)∧sl f 8=I d∧Hp e u w [a] aC∧aF j aC (ZZ e u Z w.heap.size [a]) a∧Sl (Bs (Ao .i64)) aC (ZZ e u Z w.heap.size [a]) l m s) bG ?bN ?bO
  case bN=>
   intro st;exact⟨(0:Int),a5,aB,t,qo st,sp st 0 aQ,sp st 1 a8,sp st 7 rfl,sp st 8 rfl,bK,a9,aM⟩
  case bO=>
   rintro(_|bC) b6 b7 ⟨d,j,a,t,bD,aI,aJ,aK,x,p,aL,q⟩
   ·exact absurd (show none=some _ from t) (by simp)
   rw[I1.eq_2] at t;have c:=t;clear t;refine ro bD<|cr<|wD (fun st=>B9 (ee st x) (ee st aK))<|wn<|Af ?_;rcases Ae (decide (d<(s.length:Int))) with aD|aD
   ·replace c:=Ap c aD;refine Am rfl aD<|cn<|Af<|AI<|cr<|wM (v:=I d) x<|wA (v:=I d) rfl<|wr<|wM (v:=aH) aJ<|wM (v:=.slice l s.length m) aI<|wM (v:=I d) rfl ?_;replace c:=AP c;obtain⟨i3,bE,bP,bQ,bR,c⟩:=c;obtain⟨b3,b9,_,bS,⟨aS,aT,rfl,aZ⟩,bT⟩:=Sl.Cz q rfl bQ;refine wD (fun st=>AR (k:=i3) Tryz.underlying23 ES (eR st) bS (eR st) bP bR)<|wD (fun st=>Bb (v:=.slice aS bE.length aT) DB (eR st) bT rfl) ?_;replace c:=bind_some c;obtain⟨aU,bU,c⟩:=c;refine wE (fun st=>JD (o.call j bE aU _ (ZZ e u Z w.heap.size [a]) (ZC e [a]) a #[.slice aS bE.length aT] (Nat.le_trans bH p.sz) (p.zz (F':=e) (M:=[a]) (C:=[]) [0] [] ⟨rfl,trivial⟩ trivial (fun _ h=>.inl h)) Nx aL ⟨_,rfl,⟨_,_,rfl,(aZ.mv (p.mz (F':=e) (M:=[a]) (C:=[]) [0] [] ⟨rfl,trivial⟩ trivial (fun _ h=>.inl h)))⟩⟩ bU) (eR st) (Cy (eR st))) ?_;rintro _ bY ⟨aN,a3,aG,rfl,bV⟩;have a4:=p.HY a3 (BM [0] ⟨rfl,trivial⟩ (fun _ h=>h)) 0 rfl aG;have aV:aF aU.2 bY (ZZ e u Z w.heap.size [aN]) aN:=o.mz bV (p.call (M:=[aN]) (Nat.le_refl _) (Ee ⟨.inr (hw aG 0),trivial⟩) (Fg (L:=[a]) (y:=aN) 0 (gm 0)));refine wn ?_;rcases Ae (aU.1) with aE|aE
    ·replace c:=Ap c aE;refine Am rfl aE<|cr<|wM (v:=I d) rfl<|wA (v:=I d) rfl<|wn<|Av<|Dd<|AG ?_;obtain rfl:=oi c;refine BC (fun st=>?_);exact .inl ⟨rfl,(d,aU.2),rfl,aN,qo st,sp st 4 rfl,a4,aV⟩
    ·replace c:=Aq c aE;refine An rfl aE<|Ct<|CS<|Al ?_;replace c:=AF c;obtain⟨bW,c⟩:=c;refine wD (fun st=>BG (ee st x) (eR st) bW)<|wM (v:=I (d+1)) rfl<|AU ?_;have aO:=(q.mv (p.LS a3 (BM [0] ⟨rfl,trivial⟩ (fun _ h=>h)) 0 rfl (fun k hk=>(aG k hk).1)));refine Bi bC (Nat.lt_succ_self _) (fun st=>?_);exact⟨(d+1),aU.2,aN,c,qo st,sp st 0 aI,sp st 1 aJ,sp st 7 aK,sp st 8 rfl,a4,aV,aO⟩
   ·replace c:=Aq c aD;refine An rfl aD<|Dq ?_;obtain rfl:=oi c;refine BC (fun st=>?_);exact .inr ⟨rfl,j,rfl,a,qo st,p,aL⟩
 case bM=>
  rintro bB bZ b8 (⟨rfl,n,rfl,g,z,aW,r,aA⟩|⟨rfl,n,rfl,i,z,r,aA⟩)
  ·skip
   replace c:=C9 c;refine lf z<|Dd ?_;obtain rfl:=oi c;refine Ay rfl aW ?_;exact⟨g,aR _ r.fin,rfl,r.mq 0 [] (M:=[]) trivial a0,o.mz aA (BQ (CE [0] ⟨rfl,trivial⟩))⟩
  ·skip
   replace c:=Da c;refine lf z<|AZ<|BS<|cr<|wA (v:=I (-1)) rfl<|wn<|Av ?_;obtain rfl:=oi c;refine Ay rfl rfl ?_;exact⟨i,aR _ r.fin,rfl,r.mq 0 [] (M:=[]) trivial a0,o.mz aA (BQ (CE [0] ⟨rfl,trivial⟩))⟩
theorem Af1{p:Type}{f:Nat→Prop}{aG:Nat}{q:IT p}{s:p→(List Int)→Option (Bool×p)} aH m(x:p) c d(i:Value) a(Z:Nat→Prop) w(e:Cb Tryz.prog i f aG q (v1 (Fq (Ao .i64))) Cm s)(aI:aG≤w.heap.size)(aJ:BL f [a] w)(aK:∀b,Z b→¬f b∧some b∉[a])(r:Sl (Bs (Ao .i64)) w Z c d m)(aQ:q x w Z a) z(j:LW aH s m x=some z):
 B7 Tryz.prog 195 #[.slice c m.length d,i] w (fun v w'=>∃o',Dc (FU f [a]) w w'∧Cm.R w' (zf Z w [o']) v z.1∧(∀k,o'=some k→(a=some k∨w.heap.size≤k)∧k<w'.heap.size)∧q z.2 w' (zf Z w [o']) o'):=by
 unfold LW at j;refine rq (N:=9) Tryz.func195 fun aR ha aS=>?_;have aA:=sA 0 ha;have aB:=sA 1 ha;clear ha;obtain⟨aL,aM,g,t,aC⟩:=My aJ aK;have l:=r.mv (BV (L:=[a]) t w);have aD:=e.mz aQ (BV (L:=[a]) t w);refine cr<|wA (v:=.bool false) rfl<|wr<|wM (v:=.slice c m.length d) aA<|wM (v:=i) aB ?_;replace j:=bind_some j;obtain⟨aE,aN,j⟩:=j;refine wE (fun st=>Aj AcW (eR st) (CN (eR st) (eR st)) (a222 aH m x c d i a (ZZ f aL Z w.heap.size [a]) _ e (Nat.le_trans aI g.sz) (g.EP (F':=f) (M:=[a]) (C:=[]) [0] [] rfl ⟨rfl,trivial⟩ trivial (fun _ h=>.inl h)) (g.zz (F':=f) (M:=[a]) (C:=[]) [0] [] ⟨rfl,trivial⟩ trivial (fun _ h=>.inl h)) l aD aE aN)) ?_;rintro _ w2 ⟨n,aO,rfl,o,aP⟩;have u:=g.HY aO (BM [0] ⟨rfl,trivial⟩ (fun _ h=>h)) 0 rfl o;have aF:q aE.2 w2 (ZZ f aL Z w.heap.size [n]) n:=e.mz aP (g.call (M:=[n]) (Nat.le_refl _) (Ee ⟨.inr (hw o 0),trivial⟩) (Fg (L:=[a]) (y:=n) 0 (gm 0)));refine wD (fun st=>J7 (eR st) (eR st))<|wA (v:=.bool (decide ((0:Int)≤aE.1))) rfl<|wn<|Av ?_;obtain rfl:=oi j;refine Ay rfl rfl ?_;exact⟨n,aC _ u.fin,rfl,u.mq 0 [] (M:=[]) trivial aM,e.mz aF (BQ (CE [0] ⟨rfl,trivial⟩))⟩
theorem Af2{s:Type}{e:Nat→Prop}{a9:Nat}{t:IT s}{aB:s→(List Int)→Option (Bool×s)} aG aC(aH:s) j l(g:Value) c(Z:Nat→Prop) w(a:Cb Tryz.prog g e a9 t (v1 (Fq (Ao .i64))) Cm aB)(bA:a9≤w.heap.size)(bB:BL e [c] w)(bC:∀b,Z b→¬e b∧some b∉[c])(aI:Sl (Bs (Ao .i64)) w Z j l aC)(n:t aH w Z c) aO(u:N3 aG aB aC aH=some aO):
 B7 Tryz.prog 166 #[.slice j aC.length l,g] w (fun v w'=>∃o',Dc (FU e [c]) w w'∧Cm.R w' (zf Z w [o']) v aO.1∧(∀k,o'=some k→(c=some k∨w.heap.size≤k)∧k<w'.heap.size)∧t aO.2 w' (zf Z w [o']) o'):=by
 unfold N3 at u;refine rq (N:=9) Tryz.func166 fun bQ ha bR=>?_;have aP:=sA 0 ha;have aQ:=sA 1 ha;clear ha;obtain⟨aR,bD,aD,aK,aS⟩:=My bB bC;have z:=aI.mv (BV (L:=[c]) aK w);have aT:=a.mz n (BV (L:=[c]) aK w);refine cr<|wE (fun st=>BP (v:=g) (cs:= #[g]) (ee st aQ) a.fc) ?_;rintro _ w1 ⟨b1,rfl,i⟩;have d:=aD.nb i;have bL:=aD.BU i;refine wA (v:=.bool false) rfl<|wr<|wM (v:=.slice j aC.length l) aP<|wD (fun st=>F4 (vs:= #[]) (us:= #[pt b1 0]) Gj (Cy (eR st))) ?_;have aL:=d.EP (F':=e) (M:=[some b1]) (C:=[]) [0] [] rfl ⟨rfl,trivial⟩ trivial (fun k hk=>.inl ((fun _ h=>h) k hk));have aU:Cb Tryz.prog (.func (.func 196) #[] #[pt b1 0]) (FU e [some b1]) w1.heap.size (fun(st:s) aV bM o=>(∀k,o=some k→k<aV.heap.size∧¬(FU e [some b1]) k)∧Bk aV b1 148 #[g]∧t st aV bM o) (v1 (Fq (Ao .i64))) Cm (fun(st:s) (x:(List Int))=>(LY aG aB x st).bind fun r=>some (r.1,r.2)):=by
  refine⟨rfl,rfl,d.N2 [0] ⟨rfl,trivial⟩ (fun _ h=>h),?_,?_,?_⟩
  ·intro st x r w1 aW bE o vs hn aX p n aY bN;obtain⟨f,m,q⟩:=n;obtain⟨_,rfl,⟨aZ,a0,rfl,aJ⟩⟩:=aY;obtain⟨bO,h1,h2⟩:=bind_some bN;obtain rfl:=Option.some.inj h2;refine(Ip AcX rfl (a196 aG x st aZ a0 b1 g o aW bE w1 a (Nat.le_trans bA (Nat.le_trans d.sz hn)) ((aL.grow hn).snoc f) (fun b hb=>G0 (p b (aX b hb)).1 (p b (aX b hb)).2) aX (fun b hb=>G0 (p b hb).1 (p b hb).2) aJ m q bO h1)).mono ?_;rintro v w2 ⟨o',aY,a2,a3,aM,bF⟩;exact⟨o',aY.lf,aM,a2,⟨aL.keep hn f aM,a3,a.mz bF Od⟩⟩
  ·intro st w1 w2 aW bS o n hm hb;obtain⟨f,m,q⟩:=n;exact⟨fun k hk=>⟨Nat.lt_of_lt_of_le (f k hk).1 hm.size,(f k hk).2⟩,m.Mh (hb b1 (.inl (.inr (gm 0)))),a.Qg _ _ _ _ _ _ q hm (fun b bG=>hb b (bG.imp .inl id))⟩
  ·intro st w1 aW o n k hk;obtain⟨f,m,q⟩:=n;exact f k hk
 have aA:=(z.mv (AA i));replace u:=bind_some u;obtain⟨a4,bH,u⟩:=u;have a5:t aH w1 (ZZ e aR Z w.heap.size [some b1,c]) c:=(a.me aT aD i.gr (AA i));refine wE (fun st=>Aj AcY (eR st) (CN (eR st) (eR st)) (Af1 aG aC aH j l (.func (.func 196) #[] #[pt b1 0]) c (ZZ e aR Z w.heap.size [some b1,c]) _ aU (Nat.le_refl _) (d.EP (F':=(FU e [some b1])) (M:=[c]) (C:=[some b1]) [1] [0] rfl ⟨rfl,trivial⟩ ⟨rfl,trivial⟩ (CG (fun _ h=>h))) (d.zz (F':=(FU e [some b1])) (M:=[c]) (C:=[some b1]) [1] [0] ⟨rfl,trivial⟩ ⟨rfl,trivial⟩ (CG (fun _ h=>h))) aA ⟨(fun k hk=>d.T0 1 (by rw[←hk];rfl) [0] rfl ⟨rfl,trivial⟩),i.bk,a5⟩ a4 bH)) ?_;rintro _ bP ⟨aE,bI,rfl,aF,bJ⟩;obtain⟨-,bK,a7⟩:=bJ;have aN:=d.HY (Dc.cl (M1:=[some b1]) (M2:=[c]) bI) (BM [0,1] ⟨rfl,rfl,trivial⟩ (fun _ h=>h)) 1 rfl aF;have a8:t a4.2 bP (ZZ e aR Z w.heap.size [some b1,aE]) aE:=a.mz a7 (d.call (M:=[aE]) (Nat.le_refl _) (Ee ⟨.inr (hw aF 1),trivial⟩) (Fg (L:=[some b1,c]) (y:=aE) 1 (gm 0)));refine wD (fun st=>CJ (eR st))<|wA (v:=.bool !a4.1) rfl<|wn<|Av ?_;obtain rfl:=oi u;refine Ay rfl rfl ?_;exact⟨aE,aS _ aN.fin,rfl,aN.mq 1 [] (M:=[]) trivial bD,a.mz a8 (BQ (CE [1] ⟨rfl,trivial⟩))⟩
theorem a198{r:Type}{e:Nat→Prop}{aK:Nat}{n:IT r}{u:r→DL→Option (Bool×r)} aU a(s:r) q1(i:Value) c(Z Za:Nat→Prop) w(d:Cb Tryz.prog i e aK n (v1 (Fx AH)) Cm u)(aL:aK≤w.heap.size)(aM:BL e [some q1,c] w)(aN:∀b,Z b→¬e b∧some b∉[some q1,c])(aV:∀b,Z b→Za b)(aA:∀b,Za b→¬e b∧some b∉[some q1,c])(aO:Bk w q1 212 #[i])(aW:n s w Z c) aB(m:Lv aU u a s=some aB):
 B7 Tryz.prog 198 #[.agg #[.bool a.Ce,I a.Number,I a.AM,I a.AN],pt q1 0] w (fun v w'=>∃o',Dc (FU e [some q1,c]) w w'∧Cm.R w' (zf Z w [some q1,o']) v aB.1∧Bk w' q1 212 #[i]∧(∀k,o'=some k→(c=some k∨w.heap.size≤k)∧k<w'.heap.size)∧n aB.2 w' (zf Z w [some q1,o']) o'):=by
 unfold Lv at m;refine rq (N:=8) Tryz.func198 fun aZ ha a0=>?_;have aC:=sA 0 ha;have aD:=sA 1 ha;clear ha;obtain⟨aE,aP,o,aQ,aX,aF⟩:=Pk aM aN aA;have aG:=d.mz aW (BV (L:=[some q1,c]) aQ w);refine cr<|wE (fun st=>BP (v:=.agg #[.bool a.Ce,I a.Number,I a.AM,I a.AN]) (cs:= #[.bool a.Ce,I a.Number,I a.AM,I a.AN]) (ee st aC) rfl) ?_;rintro _ w1 ⟨b1,rfl,f⟩;have g:=o.nb f;have aT:=o.BU f;refine wA (v:=.bool false) rfl<|wn<|Af<|Al ?_;have j:=(aO.ext f.gr);refine wD (fun st=>As (v:=i) AcZ (ee st aD) j rfl)<|wD (fun st=>AK (l:=[.bool a.Ce,I a.Number,I a.AM,I a.AN]) TD (eR st) f.bk rfl rfl) ?_;have aH:n s w1 (ZZ e aE Z w.heap.size [some b1,some q1,c]) c:=(d.me aG o f.gr (AA f));replace m:=bind_some m;obtain⟨aI,aR,m⟩:=m;refine wE (fun st=>JD (d.call s a aI _ (ZZ e aE Z w.heap.size [some b1,some q1,c]) (ZC e [c]) c #[.agg #[.bool a.Ce,I a.Number,I a.AM,I a.AN]] (Nat.le_trans aL g.sz) (g.zz (F':=e) (M:=[c]) (C:=[]) [2] [] ⟨rfl,trivial⟩ trivial (fun _ h=>.inl h)) Nx aH ⟨_,rfl,⟨_,rfl,rfl⟩⟩ aR) (eR st) (Cy (eR st))) ?_;rintro _ aY ⟨p,x,q,rfl,aS⟩;have z:=g.HY x (BM [2] ⟨rfl,trivial⟩ (fun _ h=>h)) 2 rfl q;have aJ:n aI.2 aY (ZZ e aE Z w.heap.size [some b1,some q1,p]) p:=d.mz aS (g.call (M:=[p]) (Nat.le_refl _) (Ee ⟨.inr (hw q 2),trivial⟩) (Fg (L:=[some b1,some q1,c]) (y:=p) 2 (gm 0)));refine wD (fun st=>CJ (eR st))<|wA (v:=.bool !aI.1) rfl<|wn<|Av ?_;obtain rfl:=oi m;refine Ay rfl rfl ?_;have t:=(j.Ek x (g.EU 1 rfl [2] rfl ⟨rfl,trivial⟩ (fun _ h=>h)));exact⟨p,aF _ z.fin,rfl,t,z.mq 2 [1] (M:=[some q1]) ⟨rfl,trivial⟩ aP,d.mz aJ (BQ (CE [1,2] ⟨rfl,rfl,trivial⟩))⟩
theorem Af3{aX:Type}{e:Nat→Prop}{bD:Nat}{aH:IT aX}{aR:aX→DL→Option (Bool×aX)} bE s(a4:aX) m n(aJ:Value) aD(Z:Nat→Prop) w(p:Cb Tryz.prog aJ e bD aH (v1 (Fx AH)) Cm aR)(bF:bD≤w.heap.size)(bG:BL e [aD] w)(bH:∀b,Z b→¬e b∧some b∉[aD])(aY:Sl AH w Z m n s)(bV:aH a4 w Z aD) a5(a:Mk bE aR s a4=some a5):
 B7 Tryz.prog 223 #[.slice m s.length n,aJ] w (fun v w'=>∃o',Dc (FU e [aD]) w w'∧(DT .i64).R w' (zf Z w [o']) v a5.1∧(∀k,o'=some k→(aD=some k∨w.heap.size≤k)∧k<w'.heap.size)∧aH a5.2 w' (zf Z w [o']) o'):=by
 unfold Mk at a;refine rq (N:=19) Tryz.func223 fun bY ha bZ=>?_;have aS:=sA 0 ha;have a7:=sA 1 ha;clear ha;obtain⟨x,aZ,bI,a0,aT⟩:=My bG bH;have aO:=aY.mv (BV (L:=[aD]) a0 w);have a8:=p.mz bV (BV (L:=[aD]) a0 w);refine cr<|wA (v:=I 0) rfl<|wn<|Af<|cr<|wM (v:=.slice m s.length n) aS<|wD (fun st=>Be Tryz.underlying36 (eR st))<|wM (v:=I 0) rfl<|wn<|AI ?_;replace a:=bind_some a;obtain⟨a9,t,a⟩:=a;refine BX (fun bA f aE=>(bA=.ret∧∃o,a9=.inl o∧∃g,Fo X0 19 f∧sl f 4=I o.1∧Hp e x w [g] aE∧aH o.2 aE (ZZ e x Z w.heap.size [g]) g)∨(bA=.exit 0∧∃o,a9=.inr o∧∃i,Fo X0 19 f∧Hp e x w [i] aE∧aH o aE (ZZ e x Z w.heap.size [i]) i)) ?bJ ?bK
 case bJ=>
  clear a;refine BW (fun bB f aE=>∃d,∃j,∃c,IB aR s bB d j=some a9∧Fo X0 19 f∧sl f 0=.slice m s.length n∧sl f 1=aJ∧sl f 7=I (s.length:Int)∧sl f 8=I d∧Hp e x w [c] aE∧aH j aE (ZZ e x Z w.heap.size [c]) c∧Sl AH aE (ZZ e x Z w.heap.size [c]) m n s) bE ?bL ?bM
  case bL=>
   intro st;exact⟨(0:Int),a4,aD,t,qo st,sp st 0 aS,sp st 1 a7,sp st 7 rfl,sp st 8 rfl,bI,a8,aO⟩
  case bM=>
   rintro(_|bB) b4 b5 ⟨d,j,c,t,bC,aK,aL,aM,z,u,aN,q⟩
   ·exact absurd (show none=some _ from t) (by simp)
   rw[IB.eq_2] at t;have a:=t;clear t;refine ro bC<|cr<|wD (fun st=>B9 (ee st z) (ee st aM))<|wn<|Af ?_;rcases Ae (decide (d<(s.length:Int))) with aF|aF
   ·replace a:=Ap a aF;refine Am rfl aF<|cn<|Af<|AI<|cr<|wM (v:=I d) z<|wA (v:=I d) rfl<|wr<|wM (v:=aJ) aL<|wM (v:=.slice m s.length n) aK<|wM (v:=I d) rfl ?_;replace a:=AP a;obtain⟨i3,aA,bN,bO,bP,a⟩:=a;obtain⟨b3,b7,_,bQ,rfl,bR⟩:=Sl.elem q (by decide) bO;refine wD (fun st=>BD (k:=i3) Tryz.underlying36 XD (eR st) bQ (eR st) bN bP)<|wD (fun st=>DF (l:=[.bool aA.Ce,I aA.Number,I aA.AM,I aA.AN]) TD (eR st) bR rfl rfl) ?_;replace a:=bind_some a;obtain⟨aU,bS,a⟩:=a;refine wE (fun st=>JD (p.call j aA aU _ (ZZ e x Z w.heap.size [c]) (ZC e [c]) c #[.agg #[.bool aA.Ce,I aA.Number,I aA.AM,I aA.AN]] (Nat.le_trans bF u.sz) (u.zz (F':=e) (M:=[c]) (C:=[]) [0] [] ⟨rfl,trivial⟩ trivial (fun _ h=>.inl h)) Nx aN ⟨_,rfl,⟨_,rfl,rfl⟩⟩ bS) (eR st) (Cy (eR st))) ?_;rintro _ bW ⟨aP,a2,aI,rfl,bT⟩;have a3:=u.HY a2 (BM [0] ⟨rfl,trivial⟩ (fun _ h=>h)) 0 rfl aI;have aV:aH aU.2 bW (ZZ e x Z w.heap.size [aP]) aP:=p.mz bT (u.call (M:=[aP]) (Nat.le_refl _) (Ee ⟨.inr (hw aI 0),trivial⟩) (Fg (L:=[c]) (y:=aP) 0 (gm 0)));refine wn ?_;rcases Ae (aU.1) with aG|aG
    ·replace a:=Ap a aG;refine Am rfl aG<|cr<|wM (v:=I d) rfl<|wA (v:=I d) rfl<|wn<|Av<|Dd<|AG ?_;obtain rfl:=oi a;refine BC (fun st=>?_);exact .inl ⟨rfl,(d,aU.2),rfl,aP,qo st,sp st 4 rfl,a3,aV⟩
    ·replace a:=Aq a aG;refine An rfl aG<|Ct<|CS<|Al ?_;replace a:=AF a;obtain⟨bU,a⟩:=a;refine wD (fun st=>BG (ee st z) (eR st) bU)<|wM (v:=I (d+1)) rfl<|AU ?_;have aQ:=(q.mv (u.LS a2 (BM [0] ⟨rfl,trivial⟩ (fun _ h=>h)) 0 rfl (fun k hk=>(aI k hk).1)));refine Bi bB (Nat.lt_succ_self _) (fun st=>?_);exact⟨(d+1),aU.2,aP,a,qo st,sp st 0 aK,sp st 1 aL,sp st 7 aM,sp st 8 rfl,a3,aV,aQ⟩
   ·replace a:=Aq a aF;refine An rfl aF<|Dq ?_;obtain rfl:=oi a;refine BC (fun st=>?_);exact .inr ⟨rfl,j,rfl,c,qo st,u,aN⟩
 case bK=>
  rintro bA bX b6 (⟨rfl,o,rfl,g,aB,aW,r,aC⟩|⟨rfl,o,rfl,i,aB,r,aC⟩)
  ·skip
   replace a:=C9 a;refine lf aB<|Dd ?_;obtain rfl:=oi a;refine Ay rfl aW ?_;exact⟨g,aT _ r.fin,rfl,r.mq 0 [] (M:=[]) trivial aZ,p.mz aC (BQ (CE [0] ⟨rfl,trivial⟩))⟩
  ·skip
   replace a:=Da a;refine lf aB<|AZ<|BS<|cr<|wA (v:=I (-1)) rfl<|wn<|Av ?_;obtain rfl:=oi a;refine Ay rfl rfl ?_;exact⟨i,aT _ r.fin,rfl,r.mq 0 [] (M:=[]) trivial aZ,p.mz aC (BQ (CE [0] ⟨rfl,trivial⟩))⟩
theorem Af4{p:Type}{f:Nat→Prop}{aG:Nat}{q:IT p}{s:p→DL→Option (Bool×p)} aH m(x:p) c d(i:Value) a(Z:Nat→Prop) w(e:Cb Tryz.prog i f aG q (v1 (Fx AH)) Cm s)(aI:aG≤w.heap.size)(aJ:BL f [a] w)(aK:∀b,Z b→¬f b∧some b∉[a])(r:Sl AH w Z c d m)(aQ:q x w Z a) z(j:Lw aH s m x=some z):
 B7 Tryz.prog 197 #[.slice c m.length d,i] w (fun v w'=>∃o',Dc (FU f [a]) w w'∧Cm.R w' (zf Z w [o']) v z.1∧(∀k,o'=some k→(a=some k∨w.heap.size≤k)∧k<w'.heap.size)∧q z.2 w' (zf Z w [o']) o'):=by
 unfold Lw at j;refine rq (N:=9) Tryz.func197 fun aR ha aS=>?_;have aA:=sA 0 ha;have aB:=sA 1 ha;clear ha;obtain⟨aL,aM,g,t,aC⟩:=My aJ aK;have l:=r.mv (BV (L:=[a]) t w);have aD:=e.mz aQ (BV (L:=[a]) t w);refine cr<|wA (v:=.bool false) rfl<|wr<|wM (v:=.slice c m.length d) aA<|wM (v:=i) aB ?_;replace j:=bind_some j;obtain⟨aE,aN,j⟩:=j;refine wE (fun st=>Aj Ac0 (eR st) (CN (eR st) (eR st)) (Af3 aH m x c d i a (ZZ f aL Z w.heap.size [a]) _ e (Nat.le_trans aI g.sz) (g.EP (F':=f) (M:=[a]) (C:=[]) [0] [] rfl ⟨rfl,trivial⟩ trivial (fun _ h=>.inl h)) (g.zz (F':=f) (M:=[a]) (C:=[]) [0] [] ⟨rfl,trivial⟩ trivial (fun _ h=>.inl h)) l aD aE aN)) ?_;rintro _ w2 ⟨n,aO,rfl,o,aP⟩;have u:=g.HY aO (BM [0] ⟨rfl,trivial⟩ (fun _ h=>h)) 0 rfl o;have aF:q aE.2 w2 (ZZ f aL Z w.heap.size [n]) n:=e.mz aP (g.call (M:=[n]) (Nat.le_refl _) (Ee ⟨.inr (hw o 0),trivial⟩) (Fg (L:=[a]) (y:=n) 0 (gm 0)));refine wD (fun st=>J7 (eR st) (eR st))<|wA (v:=.bool (decide ((0:Int)≤aE.1))) rfl<|wn<|Av ?_;obtain rfl:=oi j;refine Ay rfl rfl ?_;exact⟨n,aC _ u.fin,rfl,u.mq 0 [] (M:=[]) trivial aM,e.mz aF (BQ (CE [0] ⟨rfl,trivial⟩))⟩
theorem a167{s:Type}{e:Nat→Prop}{a5:Nat}{t:IT s}{aB:s→DL→Option (Bool×s)} aG aC(aH:s) j l(g:Value) c(Z:Nat→Prop) w(a:Cb Tryz.prog g e a5 t (v1 (Fx AH)) Cm aB)(a7:a5≤w.heap.size)(a8:BL e [c] w)(a9:∀b,Z b→¬e b∧some b∉[c])(aI:Sl AH w Z j l aC)(n:t aH w Z c) aN(u:Nz aG aB aC aH=some aN):
 B7 Tryz.prog 167 #[.slice j aC.length l,g] w (fun v w'=>∃o',Dc (FU e [c]) w w'∧Cm.R w' (zf Z w [o']) v aN.1∧(∀k,o'=some k→(c=some k∨w.heap.size≤k)∧k<w'.heap.size)∧t aN.2 w' (zf Z w [o']) o'):=by
 unfold Nz at u;refine rq (N:=9) Tryz.func167 fun bN ha bO=>?_;have aO:=sA 0 ha;have aP:=sA 1 ha;clear ha;obtain⟨aQ,bA,aD,aJ,aR⟩:=My a8 a9;have z:=aI.mv (BV (L:=[c]) aJ w);have aS:=a.mz n (BV (L:=[c]) aJ w);refine cr<|wE (fun st=>BP (v:=g) (cs:= #[g]) (ee st aP) a.fc) ?_;rintro _ w1 ⟨b1,rfl,i⟩;have d:=aD.nb i;have bI:=aD.BU i;refine wA (v:=.bool false) rfl<|wr<|wM (v:=.slice j aC.length l) aO<|wD (fun st=>F4 (vs:= #[]) (us:= #[pt b1 0]) Gj (Cy (eR st))) ?_;have aK:=d.EP (F':=e) (M:=[some b1]) (C:=[]) [0] [] rfl ⟨rfl,trivial⟩ trivial (fun k hk=>.inl ((fun _ h=>h) k hk));have aT:Cb Tryz.prog (.func (.func 198) #[] #[pt b1 0]) (FU e [some b1]) w1.heap.size (fun(st:s) aU bJ o=>(∀k,o=some k→k<aU.heap.size∧¬(FU e [some b1]) k)∧Bk aU b1 212 #[g]∧t st aU bJ o) (v1 (Fx AH)) Cm (fun(st:s) (x:DL)=>(Lv aG aB x st).bind fun r=>some (r.1,r.2)):=by
  refine⟨rfl,rfl,d.N2 [0] ⟨rfl,trivial⟩ (fun _ h=>h),?_,?_,?_⟩
  ·intro st x r w1 aV bB o vs hn aW p n aX bK;obtain⟨f,m,q⟩:=n;obtain⟨_,rfl,⟨_,rfl,rfl⟩⟩:=aX;obtain⟨bL,h1,h2⟩:=bind_some bK;obtain rfl:=Option.some.inj h2;refine(Ip Ac1 rfl (a198 aG x st b1 g o aV bB w1 a (Nat.le_trans a7 (Nat.le_trans d.sz hn)) ((aK.grow hn).snoc f) (fun b hb=>G0 (p b (aW b hb)).1 (p b (aW b hb)).2) aW (fun b hb=>G0 (p b hb).1 (p b hb).2) m q bL h1)).mono ?_;rintro v w2 ⟨o',aX,aY,aZ,aL,bC⟩;exact⟨o',aX.lf,aL,aY,⟨aK.keep hn f aL,aZ,a.mz bC Od⟩⟩
  ·intro st w1 w2 aV bP o n hm hb;obtain⟨f,m,q⟩:=n;exact⟨fun k hk=>⟨Nat.lt_of_lt_of_le (f k hk).1 hm.size,(f k hk).2⟩,m.Mh (hb b1 (.inl (.inr (gm 0)))),a.Qg _ _ _ _ _ _ q hm (fun b bD=>hb b (bD.imp .inl id))⟩
  ·intro st w1 aV o n k hk;obtain⟨f,m,q⟩:=n;exact f k hk
 have aA:=(z.mv (AA i));replace u:=bind_some u;obtain⟨a0,bE,u⟩:=u;have a2:t aH w1 (ZZ e aQ Z w.heap.size [some b1,c]) c:=(a.me aS aD i.gr (AA i));refine wE (fun st=>Aj Ac2 (eR st) (CN (eR st) (eR st)) (Af4 aG aC aH j l (.func (.func 198) #[] #[pt b1 0]) c (ZZ e aQ Z w.heap.size [some b1,c]) _ aT (Nat.le_refl _) (d.EP (F':=(FU e [some b1])) (M:=[c]) (C:=[some b1]) [1] [0] rfl ⟨rfl,trivial⟩ ⟨rfl,trivial⟩ (CG (fun _ h=>h))) (d.zz (F':=(FU e [some b1])) (M:=[c]) (C:=[some b1]) [1] [0] ⟨rfl,trivial⟩ ⟨rfl,trivial⟩ (CG (fun _ h=>h))) aA ⟨(fun k hk=>d.T0 1 (by rw[←hk];rfl) [0] rfl ⟨rfl,trivial⟩),i.bk,a2⟩ a0 bE)) ?_;rintro _ bM ⟨aE,bF,rfl,aF,bG⟩;obtain⟨-,bH,a3⟩:=bG;have aM:=d.HY (Dc.cl (M1:=[some b1]) (M2:=[c]) bF) (BM [0,1] ⟨rfl,rfl,trivial⟩ (fun _ h=>h)) 1 rfl aF;have a4:t a0.2 bM (ZZ e aQ Z w.heap.size [some b1,aE]) aE:=a.mz a3 (d.call (M:=[aE]) (Nat.le_refl _) (Ee ⟨.inr (hw aF 1),trivial⟩) (Fg (L:=[some b1,c]) (y:=aE) 1 (gm 0)));refine wD (fun st=>CJ (eR st))<|wA (v:=.bool !a0.1) rfl<|wn<|Av ?_;obtain rfl:=oi u;refine Ay rfl rfl ?_;exact⟨aE,aR _ aM.fin,rfl,aM.mq 1 [] (M:=[]) trivial bA,a.mz a4 (BQ (CE [1] ⟨rfl,trivial⟩))⟩
theorem Af5{m:Type}{c:Nat→Prop}{aF:Nat}{n:IT m}{p:m→Int→Option (Bool×m)} aO i(t:m) q1(f:Value) a(Z Za:Nat→Prop) w(d:Cb Tryz.prog f c aF n (v1 (DT .i64)) Cm p)(aG:aF≤w.heap.size)(aH:BL c [some q1,a] w)(aI:∀b,Z b→¬c b∧some b∉[some q1,a])(aP:∀b,Z b→Za b)(u:∀b,Za b→¬c b∧some b∉[some q1,a])(q:Bk w q1 142 #[f])(aQ:n t w Z a) x(g:Ml aO p i t=some x):
 B7 Tryz.prog 231 #[I i,pt q1 0] w (fun v w'=>∃o',Dc (FU c [some q1,a]) w w'∧Cm.R w' (zf Z w [some q1,o']) v x.1∧Bk w' q1 142 #[f]∧(∀k,o'=some k→(a=some k∨w.heap.size≤k)∧k<w'.heap.size)∧n x.2 w' (zf Z w [some q1,o']) o'):=by
 unfold Ml at g;refine rq (N:=8) Tryz.func231 fun aS ha aT=>?_;have z:=sA 0 ha;have aA:=sA 1 ha;clear ha;obtain⟨aJ,aK,e,aL,aR,aB⟩:=Pk aH aI u;have aC:=d.mz aQ (BV (L:=[some q1,a]) aL w);refine cr<|wA (v:=.bool false) rfl<|wr<|wD (fun st=>As (v:=f) Qv (ee st aA) q rfl)<|wM (v:=I i) z ?_;replace g:=bind_some g;obtain⟨aD,aM,g⟩:=g;refine wE (fun st=>JD (d.call t i aD _ (ZZ c aJ Z w.heap.size [some q1,a]) (ZC c [a]) a #[I i] (Nat.le_trans aG e.sz) (e.zz (F':=c) (M:=[a]) (C:=[]) [1] [] ⟨rfl,trivial⟩ trivial (fun _ h=>.inl h)) Nx aC ⟨_,rfl,rfl⟩ aM) (eR st) (Cy (eR st))) ?_;rintro _ w2 ⟨j,r,l,rfl,aN⟩;have s:=e.HY r (BM [1] ⟨rfl,trivial⟩ (fun _ h=>h)) 1 rfl l;have aE:n aD.2 w2 (ZZ c aJ Z w.heap.size [some q1,j]) j:=d.mz aN (e.call (M:=[j]) (Nat.le_refl _) (Ee ⟨.inr (hw l 1),trivial⟩) (Fg (L:=[some q1,a]) (y:=j) 1 (gm 0)));refine wD (fun st=>CJ (eR st))<|wA (v:=.bool !aD.1) rfl<|wn<|Av ?_;obtain rfl:=oi g;refine Ay rfl rfl ?_;have o:=(q.Ek r (e.EU 0 rfl [1] rfl ⟨rfl,trivial⟩ (fun _ h=>h)));exact⟨j,aB _ s.fin,rfl,o,s.mq 1 [0] (M:=[some q1]) ⟨rfl,trivial⟩ aK,d.mz aE (BQ (CE [0,1] ⟨rfl,rfl,trivial⟩))⟩
theorem Af6{aV:Type}{e:Nat→Prop}{bC:Nat}{aF:IT aV}{aP:aV→Int→Option (Bool×aV)} bD r(a2:aV) l m(aH:Value) aB(Z:Nat→Prop) w(o:Cb Tryz.prog aH e bC aF (v1 (DT .i64)) Cm aP)(bE:bC≤w.heap.size)(bF:BL e [aB] w)(bG:∀b,Z b→¬e b∧some b∉[aB])(aW:Sl (Ao .i64) w Z l m r)(bU:aF a2 w Z aB) a3(a:MV bD aP r a2=some a3):
 B7 Tryz.prog 207 #[.slice l r.length m,aH] w (fun v w'=>∃o',Dc (FU e [aB]) w w'∧(DT .i64).R w' (zf Z w [o']) v a3.1∧(∀k,o'=some k→(aB=some k∨w.heap.size≤k)∧k<w'.heap.size)∧aF a3.2 w' (zf Z w [o']) o'):=by
 unfold MV at a;refine rq (N:=19) Tryz.func207 fun bX ha bY=>?_;have aQ:=sA 0 ha;have a4:=sA 1 ha;clear ha;obtain⟨u,aX,bH,aY,aR⟩:=My bF bG;have aM:=aW.mv (BV (L:=[aB]) aY w);have a5:=o.mz bU (BV (L:=[aB]) aY w);refine cr<|wA (v:=I 0) rfl<|wn<|Af<|cr<|wM (v:=.slice l r.length m) aQ<|wD (fun st=>Be Tryz.underlying31 (eR st))<|wM (v:=I 0) rfl<|wn<|AI ?_;replace a:=bind_some a;obtain⟨a7,s,a⟩:=a;refine BX (fun a8 f aC=>(a8=.ret∧∃n,a7=.inl n∧∃g,Fo X0 19 f∧sl f 4=I n.1∧Hp e u w [g] aC∧aF n.2 aC (ZZ e u Z w.heap.size [g]) g)∨(a8=.exit 0∧∃n,a7=.inr n∧∃i,Fo X0 19 f∧Hp e u w [i] aC∧aF n aC (ZZ e u Z w.heap.size [i]) i)) ?bI ?bJ
 case bI=>
  clear a;refine BW (fun a9 f aC=>∃d,∃j,∃c,E2 aP r a9 d j=some a7∧Fo X0 19 f∧sl f 0=.slice l r.length m∧sl f 1=aH∧sl f 7=I (r.length:Int)∧sl f 8=I d∧Hp e u w [c] aC∧aF j aC (ZZ e u Z w.heap.size [c]) c∧Sl (Ao .i64) aC (ZZ e u Z w.heap.size [c]) l m r) bD ?bK ?bL
  case bK=>
   intro st;exact⟨(0:Int),a2,aB,s,qo st,sp st 0 aQ,sp st 1 a4,sp st 7 rfl,sp st 8 rfl,bH,a5,aM⟩
  case bL=>
   rintro(_|a9) bZ b4 ⟨d,j,c,s,bA,aI,aJ,aK,x,t,aL,p⟩
   ·exact absurd (show none=some _ from s) (by simp)
   rw[E2.eq_2] at s;have a:=s;clear s;refine ro bA<|cr<|wD (fun st=>B9 (ee st x) (ee st aK))<|wn<|Af ?_;rcases Ae (decide (d<(r.length:Int))) with aD|aD
   ·replace a:=Ap a aD;refine Am rfl aD<|cn<|Af<|AI<|cr<|wM (v:=I d) x<|wA (v:=I d) rfl<|wr<|wM (v:=aH) aJ<|wM (v:=.slice l r.length m) aI<|wM (v:=I d) rfl ?_;replace a:=AP a;obtain⟨i3,bB,bM,bN,bO,a⟩:=a;obtain⟨b3,b6,_,bP,rfl,bQ⟩:=Sl.Cz p rfl bN;refine wD (fun st=>AR (k:=i3) Tryz.underlying31 C7 (eR st) bP (eR st) bM bO)<|wD (fun st=>Bb (v:=I bB) Bh (eR st) bQ rfl) ?_;replace a:=bind_some a;obtain⟨aS,bR,a⟩:=a;refine wE (fun st=>JD (o.call j bB aS _ (ZZ e u Z w.heap.size [c]) (ZC e [c]) c #[I bB] (Nat.le_trans bE t.sz) (t.zz (F':=e) (M:=[c]) (C:=[]) [0] [] ⟨rfl,trivial⟩ trivial (fun _ h=>.inl h)) Nx aL ⟨_,rfl,rfl⟩ bR) (eR st) (Cy (eR st))) ?_;rintro _ bV ⟨aN,aZ,aG,rfl,bS⟩;have a0:=t.HY aZ (BM [0] ⟨rfl,trivial⟩ (fun _ h=>h)) 0 rfl aG;have aT:aF aS.2 bV (ZZ e u Z w.heap.size [aN]) aN:=o.mz bS (t.call (M:=[aN]) (Nat.le_refl _) (Ee ⟨.inr (hw aG 0),trivial⟩) (Fg (L:=[c]) (y:=aN) 0 (gm 0)));refine wn ?_;rcases Ae (aS.1) with aE|aE
    ·replace a:=Ap a aE;refine Am rfl aE<|cr<|wM (v:=I d) rfl<|wA (v:=I d) rfl<|wn<|Av<|Dd<|AG ?_;obtain rfl:=oi a;refine BC (fun st=>?_);exact .inl ⟨rfl,(d,aS.2),rfl,aN,qo st,sp st 4 rfl,a0,aT⟩
    ·replace a:=Aq a aE;refine An rfl aE<|Ct<|CS<|Al ?_;replace a:=AF a;obtain⟨bT,a⟩:=a;refine wD (fun st=>BG (ee st x) (eR st) bT)<|wM (v:=I (d+1)) rfl<|AU ?_;have aO:=(p.mv (t.LS aZ (BM [0] ⟨rfl,trivial⟩ (fun _ h=>h)) 0 rfl (fun k hk=>(aG k hk).1)));refine Bi a9 (Nat.lt_succ_self _) (fun st=>?_);exact⟨(d+1),aS.2,aN,a,qo st,sp st 0 aI,sp st 1 aJ,sp st 7 aK,sp st 8 rfl,a0,aT,aO⟩
   ·replace a:=Aq a aD;refine An rfl aD<|Dq ?_;obtain rfl:=oi a;refine BC (fun st=>?_);exact .inr ⟨rfl,j,rfl,c,qo st,t,aL⟩
 case bJ=>
  rintro a8 bW b5 (⟨rfl,n,rfl,g,z,aU,q,aA⟩|⟨rfl,n,rfl,i,z,q,aA⟩)
  ·skip
   replace a:=C9 a;refine lf z<|Dd ?_;obtain rfl:=oi a;refine Ay rfl aU ?_;exact⟨g,aR _ q.fin,rfl,q.mq 0 [] (M:=[]) trivial aX,o.mz aA (BQ (CE [0] ⟨rfl,trivial⟩))⟩
  ·skip
   replace a:=Da a;refine lf z<|AZ<|BS<|cr<|wA (v:=I (-1)) rfl<|wn<|Av ?_;obtain rfl:=oi a;refine Ay rfl rfl ?_;exact⟨i,aR _ q.fin,rfl,q.mq 0 [] (M:=[]) trivial aX,o.mz aA (BQ (CE [0] ⟨rfl,trivial⟩))⟩
theorem AeQ{p:Type}{f:Nat→Prop}{aG:Nat}{q:IT p}{s:p→Int→Option (Bool×p)} aH m(x:p) c d(i:Value) a(Z:Nat→Prop) w(e:Cb Tryz.prog i f aG q (v1 (DT .i64)) Cm s)(aI:aG≤w.heap.size)(aJ:BL f [a] w)(aK:∀b,Z b→¬f b∧some b∉[a])(r:Sl (Ao .i64) w Z c d m)(aQ:q x w Z a) z(j:Ky aH s m x=some z):
 B7 Tryz.prog 187 #[.slice c m.length d,i] w (fun v w'=>∃o',Dc (FU f [a]) w w'∧Cm.R w' (zf Z w [o']) v z.1∧(∀k,o'=some k→(a=some k∨w.heap.size≤k)∧k<w'.heap.size)∧q z.2 w' (zf Z w [o']) o'):=by
 unfold Ky at j;refine rq (N:=9) Tryz.func187 fun aR ha aS=>?_;have aA:=sA 0 ha;have aB:=sA 1 ha;clear ha;obtain⟨aL,aM,g,t,aC⟩:=My aJ aK;have l:=r.mv (BV (L:=[a]) t w);have aD:=e.mz aQ (BV (L:=[a]) t w);refine cr<|wA (v:=.bool false) rfl<|wr<|wM (v:=.slice c m.length d) aA<|wM (v:=i) aB ?_;replace j:=bind_some j;obtain⟨aE,aN,j⟩:=j;refine wE (fun st=>Aj Ac3 (eR st) (CN (eR st) (eR st)) (Af6 aH m x c d i a (ZZ f aL Z w.heap.size [a]) _ e (Nat.le_trans aI g.sz) (g.EP (F':=f) (M:=[a]) (C:=[]) [0] [] rfl ⟨rfl,trivial⟩ trivial (fun _ h=>.inl h)) (g.zz (F':=f) (M:=[a]) (C:=[]) [0] [] ⟨rfl,trivial⟩ trivial (fun _ h=>.inl h)) l aD aE aN)) ?_;rintro _ w2 ⟨n,aO,rfl,o,aP⟩;have u:=g.HY aO (BM [0] ⟨rfl,trivial⟩ (fun _ h=>h)) 0 rfl o;have aF:q aE.2 w2 (ZZ f aL Z w.heap.size [n]) n:=e.mz aP (g.call (M:=[n]) (Nat.le_refl _) (Ee ⟨.inr (hw o 0),trivial⟩) (Fg (L:=[a]) (y:=n) 0 (gm 0)));refine wD (fun st=>J7 (eR st) (eR st))<|wA (v:=.bool (decide ((0:Int)≤aE.1))) rfl<|wn<|Av ?_;obtain rfl:=oi j;refine Ay rfl rfl ?_;exact⟨n,aC _ u.fin,rfl,u.mq 0 [] (M:=[]) trivial aM,e.mz aF (BQ (CE [0] ⟨rfl,trivial⟩))⟩
theorem Af7{s:Type}{e:Nat→Prop}{a5:Nat}{t:IT s}{aB:s→Int→Option (Bool×s)} aG aC(aH:s) j l(g:Value) c(Z:Nat→Prop) w(a:Cb Tryz.prog g e a5 t (v1 (DT .i64)) Cm aB)(a7:a5≤w.heap.size)(a8:BL e [c] w)(a9:∀b,Z b→¬e b∧some b∉[c])(aI:Sl (Ao .i64) w Z j l aC)(n:t aH w Z c) aN(u:Oy aG aB aC aH=some aN):
 B7 Tryz.prog 219 #[.slice j aC.length l,g] w (fun v w'=>∃o',Dc (FU e [c]) w w'∧Cm.R w' (zf Z w [o']) v aN.1∧(∀k,o'=some k→(c=some k∨w.heap.size≤k)∧k<w'.heap.size)∧t aN.2 w' (zf Z w [o']) o'):=by
 unfold Oy at u;refine rq (N:=9) Tryz.func219 fun bN ha bO=>?_;have aO:=sA 0 ha;have aP:=sA 1 ha;clear ha;obtain⟨aQ,bA,aD,aJ,aR⟩:=My a8 a9;have z:=aI.mv (BV (L:=[c]) aJ w);have aS:=a.mz n (BV (L:=[c]) aJ w);refine cr<|wE (fun st=>BP (v:=g) (cs:= #[g]) (ee st aP) a.fc) ?_;rintro _ w1 ⟨b1,rfl,i⟩;have d:=aD.nb i;have bI:=aD.BU i;refine wA (v:=.bool false) rfl<|wr<|wM (v:=.slice j aC.length l) aO<|wD (fun st=>F4 (vs:= #[]) (us:= #[pt b1 0]) Gj (Cy (eR st))) ?_;have aK:=d.EP (F':=e) (M:=[some b1]) (C:=[]) [0] [] rfl ⟨rfl,trivial⟩ trivial (fun k hk=>.inl ((fun _ h=>h) k hk));have aT:Cb Tryz.prog (.func (.func 231) #[] #[pt b1 0]) (FU e [some b1]) w1.heap.size (fun(st:s) aU bJ o=>(∀k,o=some k→k<aU.heap.size∧¬(FU e [some b1]) k)∧Bk aU b1 142 #[g]∧t st aU bJ o) (v1 (DT .i64)) Cm (fun(st:s) (x:Int)=>(Ml aG aB x st).bind fun r=>some (r.1,r.2)):=by
  refine⟨rfl,rfl,d.N2 [0] ⟨rfl,trivial⟩ (fun _ h=>h),?_,?_,?_⟩
  ·intro st x r w1 aV bB o vs hn aW p n aX bK;obtain⟨f,m,q⟩:=n;obtain⟨_,rfl,rfl⟩:=aX;obtain⟨bL,h1,h2⟩:=bind_some bK;obtain rfl:=Option.some.inj h2;refine(Ip Ac4 rfl (Af5 aG x st b1 g o aV bB w1 a (Nat.le_trans a7 (Nat.le_trans d.sz hn)) ((aK.grow hn).snoc f) (fun b hb=>G0 (p b (aW b hb)).1 (p b (aW b hb)).2) aW (fun b hb=>G0 (p b hb).1 (p b hb).2) m q bL h1)).mono ?_;rintro v w2 ⟨o',aX,aY,aZ,aL,bC⟩;exact⟨o',aX.lf,aL,aY,⟨aK.keep hn f aL,aZ,a.mz bC Od⟩⟩
  ·intro st w1 w2 aV bP o n hm hb;obtain⟨f,m,q⟩:=n;exact⟨fun k hk=>⟨Nat.lt_of_lt_of_le (f k hk).1 hm.size,(f k hk).2⟩,m.Mh (hb b1 (.inl (.inr (gm 0)))),a.Qg _ _ _ _ _ _ q hm (fun b bD=>hb b (bD.imp .inl id))⟩
  ·intro st w1 aV o n k hk;obtain⟨f,m,q⟩:=n;exact f k hk
 have aA:=(z.mv (AA i));replace u:=bind_some u;obtain⟨a0,bE,u⟩:=u;have a2:t aH w1 (ZZ e aQ Z w.heap.size [some b1,c]) c:=(a.me aS aD i.gr (AA i));refine wE (fun st=>Aj YW (eR st) (CN (eR st) (eR st)) (AeQ aG aC aH j l (.func (.func 231) #[] #[pt b1 0]) c (ZZ e aQ Z w.heap.size [some b1,c]) _ aT (Nat.le_refl _) (d.EP (F':=(FU e [some b1])) (M:=[c]) (C:=[some b1]) [1] [0] rfl ⟨rfl,trivial⟩ ⟨rfl,trivial⟩ (CG (fun _ h=>h))) (d.zz (F':=(FU e [some b1])) (M:=[c]) (C:=[some b1]) [1] [0] ⟨rfl,trivial⟩ ⟨rfl,trivial⟩ (CG (fun _ h=>h))) aA ⟨(fun k hk=>d.T0 1 (by rw[←hk];rfl) [0] rfl ⟨rfl,trivial⟩),i.bk,a2⟩ a0 bE)) ?_;rintro _ bM ⟨aE,bF,rfl,aF,bG⟩;obtain⟨-,bH,a3⟩:=bG;have aM:=d.HY (Dc.cl (M1:=[some b1]) (M2:=[c]) bF) (BM [0,1] ⟨rfl,rfl,trivial⟩ (fun _ h=>h)) 1 rfl aF;have a4:t a0.2 bM (ZZ e aQ Z w.heap.size [some b1,aE]) aE:=a.mz a3 (d.call (M:=[aE]) (Nat.le_refl _) (Ee ⟨.inr (hw aF 1),trivial⟩) (Fg (L:=[some b1,c]) (y:=aE) 1 (gm 0)));refine wD (fun st=>CJ (eR st))<|wA (v:=.bool !a0.1) rfl<|wn<|Av ?_;obtain rfl:=oi u;refine Ay rfl rfl ?_;exact⟨aE,aR _ aM.fin,rfl,aM.mq 1 [] (M:=[]) trivial bA,a.mz a4 (BQ (CE [1] ⟨rfl,trivial⟩))⟩
theorem Af8 aA g n b c i j l m d e(Z:Nat→Prop) w(aB:Sl Az w Z b c g.Ax)(aC:Sl (Bs (Ao .i64)) w Z i j g.Bv)(aD:Sl AH w Z l m g.AQ)(aE:Sl (Ao .i64) w Z d e n) aO(f:Kk aA g n=some aO):
 B7 Tryz.prog 191 #[.agg (AE b c i j l m g).toArray,.slice d n.length e] w (fun v w'=>Ext w w'∧Cm.R w' (zf Z w []) v aO):=by
 unfold Kk at f;refine rq (N:=15) Tryz.func191 fun a0 ha a2=>?_;have aG:=sA 0 ha;have u:=sA 1 ha;clear ha;have aF:Hp FN [] w [] w:=Hp.start (BL.none w);have ⟨aL,aM,aN,s⟩:=Et aB aC aD aE (Bd (Z:=Z) (L:=[]) w);refine cr<|wE (fun st=>BP (v:=.agg (AE b c i j l m g).toArray) (cs:=(AE b c i j l m g).toArray) (ee st aG) rfl) ?_;rintro _ w1 ⟨b1,rfl,p⟩;have q:=aF.nb p;have aW:=aF.BU p;refine wA (v:=.bool false) rfl<|wr<|wM (v:=.slice d n.length e) u<|wD (fun st=>Be Tryz.underlying31 (eR st))<|wD (fun st=>Ad (eR st) (LO _ _))<|wD (fun st=>As (v:=.slice b g.Ax.length c) Nf (eR st) p.bk rfl)<|wD (fun st=>Be Tryz.underlying35 (eR st))<|wD (fun st=>CT (eR st) (eR st))<|wM (v:=.bool ((n.length:Int)==(g.Ax.length:Int))) rfl ?_;rcases Ae ((n.length:Int)==(g.Ax.length:Int)) with a|a
 ·replace f:=Ap f a;refine wG a (fun st=>Au (v:=.slice d n.length e) (ee st u)) ?_;have a3:=q.EP (F':=FN) (M:=[]) (C:=[]) [] [] rfl trivial trivial (fun k hk=>.inl (eL k hk));have aH:Cb Tryz.prog (.func (.func 220) #[] #[]) (FU FN []) w1.heap.size (fun(st:Unit) a5 a7 o=>o=none) (v1 (DT .i64)) Cm (fun(st:Unit) (x:Int)=>(NN aA x).bind fun r=>some (r,())):=by
   refine⟨rfl,rfl,q.N2 [] trivial eL,?_,?_,?_⟩
   ·intro st x r w1 aP aQ o vs hn a8 a4 y aI aX;obtain rfl:=y;obtain⟨_,rfl,rfl⟩:=aI;obtain⟨aY,h1,h2⟩:=bind_some aX;obtain rfl:=Option.some.inj h2;refine(Ip Ac5 rfl (AfY aA x aQ w1 aY h1)).mono ?_;rintro v w2 ⟨aI,aJ⟩;exact⟨none,JU aI,(fun _ h=>by cases h),aJ,rfl⟩
   ·intro st w1 w2 aP a9 o y hm hb;obtain rfl:=y;exact rfl
   ·intro st w1 aP o y k hk;obtain rfl:=y;cases hk
  have z:=q.nil;have t:=((s.mv (AA p)).mv B8);replace f:=bind_some f;obtain⟨aK,aR,f⟩:=f;refine wX a (fun st=>Aj Ac6 (eR st) (CN (eR st) (eR st)) (Af7 aA n () d e (.func (.func 220) #[] #[]) none (ZC (FU FN []) [none]) _ aH (Nat.le_refl _) (z.EP (F':=(FU FN [])) (M:=[none]) (C:=[]) [0] [] rfl ⟨rfl,trivial⟩ trivial (CG eL)) I9 (t.mv (z.mz (F':=(FU FN [])) (M:=[none]) (C:=[]) [0] [] ⟨rfl,trivial⟩ trivial (CG eL))) rfl aK aR)) ?_;rintro _ bA ⟨bB,aS,rfl,aZ,aT⟩;obtain rfl:=aT;have aU:=z.Ek (Dc.cl (M1:=[]) (M2:=[none]) aS) (BM [0] ⟨rfl,trivial⟩ eL);have aV:=aU.erase 0;refine wD (fun st=>AW (v:=.bool aK.1) (eR st) a (eR st))<|wA (v:=.bool aK.1) rfl<|wn<|Av ?_;obtain rfl:=oi f;refine Ay rfl rfl ?_;exact⟨aV.AS,rfl⟩
 ·replace f:=Aq f a;refine wF a<|wF a<|wD (fun st=>Bo (v:=.bool false) (eR st) a (eR st))<|wA (v:=.bool false) rfl<|wn<|Av ?_;obtain rfl:=oi f;refine Ay rfl rfl ?_;exact⟨q.AS,rfl⟩
theorem Af9 aH m n c d e f g h i j(Z:Nat→Prop) w(aA:Sl Az w Z c d m.Ax)(aB:Sl (Bs (Ao .i64)) w Z e f m.Bv)(aC:Sl AH w Z g h m.AQ)(aD:Sl (Ao .i64) w Z i j n) aL(b:JE aH m n=some aL):
 B7 Tryz.prog 163 #[.agg (AE c d e f g h m).toArray,.slice i n.length j] w (fun v w'=>Ext w w'∧Cm.R w' (zf Z w []) v aL):=by
 unfold JE at b;refine rq (N:=13) Tryz.func163 fun aS ha aT=>?_;have aI:=sA 0 ha;have z:=sA 1 ha;clear ha;have aE:Hp FN [] w [] w:=Hp.start (BL.none w);have ⟨p,q,r,s⟩:=Et aA aB aC aD (Bd (Z:=Z) (L:=[]) w);refine cr<|wE (fun st=>BP (v:=.agg (AE c d e f g h m).toArray) (cs:=(AE c d e f g h m).toArray) (ee st aI) rfl) ?_;rintro _ w1 ⟨b1,rfl,o⟩;have aM:=aE.nb o;have aR:=aE.BU o;refine wA (v:=.bool false) rfl<|wr<|wD (fun st=>AK (l:=(AE c d e f g h m)) LH (eR st) o.bk rfl rfl)<|wM (v:=.slice i n.length j) z ?_;have ⟨t,u,x,k⟩:=Et p q r s (AA o);replace b:=bind_some b;obtain⟨aJ,aN,b⟩:=b;refine wE (fun st=>Aj Ac7 (eR st) (CN (eR st) (eR st)) (Af8 aH m n c d e f g h i j ZA _ t.all u.all x.all k.all aJ aN)) ?_;rintro _ aU ⟨aF,rfl⟩;have aG:=aM.ext aF;refine wM (v:=.bool aJ) rfl ?_;rcases Ae (aJ) with a|a
 ·replace b:=Ap b a;refine wG a (fun st=>Au (v:=.slice i n.length j) (ee st z)) ?_;have y:=(k.mv (Ac aF));replace b:=bind_some b;obtain⟨aK,aO,b⟩:=b;refine wX a (fun st=>Aj YX (eR st) (Cy (eR st)) (AeO aH n i j ZA _ y.all aK aO)) ?_;rintro _ aV ⟨aP,rfl⟩;have aQ:=aG.ext aP;refine wG a (fun st=>Gs (eR st) (eR st))<|wD (fun st=>AW (v:=.bool (decide ((0:Int)<aK))) (eR st) a (eR st))<|wA (v:=.bool (decide ((0:Int)<aK))) rfl<|wn<|Av ?_;obtain rfl:=oi b;refine Ay rfl rfl ?_;exact⟨aQ.AS,rfl⟩
 ·replace b:=Aq b a;refine wF a<|wF a<|wF a<|wD (fun st=>Bo (v:=.bool false) (eR st) a (eR st))<|wA (v:=.bool false) rfl<|wn<|Av ?_;obtain rfl:=oi b;refine Ay rfl rfl ?_;exact⟨aG.AS,rfl⟩
theorem a162 p e b g h i j k m(Z:Nat→Prop) w(u:Sl Az w Z g h e.Ax)(x:Sl (Bs (Ao .i64)) w Z i j e.Bv)(y:Sl AH w Z k m e.AQ) aS(a:JX p e b=some aS):
 B7 Tryz.prog 162 #[.agg (AE g h i j k m e).toArray,.agg #[.bool b.Ce,I b.Number,I b.AM,I b.AN]] w (fun v w'=>Ext w w'∧Cm.R w' (zf Z w []) v aS):=by
 unfold JX at a;refine rq (N:=24) Tryz.func162 fun a2 ha a3=>?_;have aH:=sA 0 ha;have aI:=sA 1 ha;clear ha;have aB:Hp FN [] w [] w:=Hp.start (BL.none w);have ⟨aP,aQ,aR⟩:=DU u x y (Bd (Z:=Z) (L:=[]) w);refine cr<|wE (fun st=>BP (v:=.agg (AE g h i j k m e).toArray) (cs:=(AE g h i j k m e).toArray) (ee st aH) rfl) ?_;rintro _ w1 ⟨b1,rfl,q⟩;have aC:=aB.nb q;have aZ:=aB.BU q;refine wE (fun st=>BP (v:=.agg #[.bool b.Ce,I b.Number,I b.AM,I b.AN]) (cs:= #[.bool b.Ce,I b.Number,I b.AM,I b.AN]) (ee st aI) rfl) ?_;rintro _ w2 ⟨b2,rfl,f⟩;have aD:=aC.nb f;have a0:=aC.BU f;refine wA (v:=.bool false) rfl<|wr<|wD (fun st=>Ad (eR st) (LO _ _)) ?_;have o:=(q.bk.ext f.gr);refine wD (fun st=>As (v:=.slice g e.Ax.length h) Nf (eR st) o rfl)<|wD (fun st=>Be Tryz.underlying35 (eR st))<|wA (v:=I (e.Ax.length:Int)) rfl<|wn<|Af<|cr<|wD (fun st=>Ad (eR st) (XC _ _))<|wD (fun st=>As (v:=.bool b.Ce) L3 (eR st) f.bk rfl)<|wn ?_;rcases Ae (b.Ce) with n|n
 ·replace a:=Ap a n;refine Am rfl n<|Al<|wD (fun st=>Ad (eR st) (ME _ _))<|wD (fun st=>As (v:=.slice i e.Bv.length j) DH (eR st) o rfl)<|wD (fun st=>Be Tryz.underlying23 (eR st))<|wA (v:=I (e.Bv.length:Int)) rfl<|wr<|wD (fun st=>Ad (eR st) (R0 _ _))<|wD (fun st=>As (v:=I b.Number) Bh (eR st) f.bk rfl)<|wM (v:=I (e.Bv.length:Int)) rfl ?_;replace a:=AF a;obtain⟨aT,a⟩:=a;refine wD (fun st=>El (eR st) (eR st) aT) ?_;replace a:=bind_some a;obtain⟨aJ,aU,a⟩:=a;refine wE (fun st=>Aj TB (eR st) (Dx (eR st) (eR st) (eR st)) (ZK p b.Number 0 ((e.Bv.length:Int)-1) ZA _ aJ aU)) ?_;rintro _ a7 ⟨aE,rfl⟩;have aF:=aD.ext aE;refine wM (v:=.bool aJ) rfl ?_;rcases Ae (aJ) with d|d
  ·replace a:=Ap a d;refine wG d (fun st=>Ad (eR st) (Ug _ _)) ?_;have z:=(f.bk.ext aE);refine wG d (fun st=>AK (l:=[I b.AM,I b.AN]) MD (eR st) z rfl rfl) ?_;replace a:=bind_some a;obtain⟨aK,aV,a⟩:=a;refine wX d (fun st=>Aj VD (eR st) (Cy (eR st)) (Abz p (⟨b.AM,b.AN⟩:Bl) ZA _ aK aV)) ?_;rintro _ a8 ⟨aW,rfl⟩;have aX:=aF.ext aW;refine wD (fun st=>AW (v:=.bool aK) (eR st) d (eR st))<|wA (v:=.bool aK) rfl<|wn<|Av ?_;obtain rfl:=oi a;refine Ay rfl rfl ?_;exact⟨aX.AS,rfl⟩
  ·replace a:=Aq a d;refine wF d<|wF d<|wF d<|wD (fun st=>Bo (v:=.bool false) (eR st) d (eR st))<|wA (v:=.bool false) rfl<|wn<|Av ?_;obtain rfl:=oi a;refine Ay rfl rfl ?_;exact⟨aF.AS,rfl⟩
 ·replace a:=Aq a n;refine An rfl n<|cn<|cr<|wD (fun st=>Ad (eR st) (R0 _ _))<|wD (fun st=>As (v:=I b.Number) Bh (eR st) f.bk rfl)<|wM (v:=I (e.Ax.length:Int)) rfl ?_;replace a:=AF a;obtain⟨aL,a⟩:=a;refine wD (fun st=>El (eR st) (eR st) aL) ?_;replace a:=bind_some a;obtain⟨r,aM,a⟩:=a;refine wE (fun st=>Aj TB (eR st) (Dx (eR st) (eR st) (eR st)) (ZK p b.Number 0 ((e.Ax.length:Int)-1) ZA _ r aM)) ?_;rintro _ a4 ⟨s,rfl⟩;have aG:=aD.ext s;refine wM (v:=.bool r) rfl ?_;rcases Ae (r) with c|c
  ·replace a:=Ap a c;refine wG c (fun st=>Ad (eR st) (Ug _ _)) ?_;have aA:=(f.bk.ext s);refine wG c (fun st=>AK (l:=[I b.AM,I b.AN]) MD (eR st) aA rfl rfl) ?_;replace a:=bind_some a;obtain⟨t,aN,a⟩:=a;refine wX c (fun st=>Aj VD (eR st) (Cy (eR st)) (Abz p (⟨b.AM,b.AN⟩:Bl) ZA _ t aN)) ?_;rintro _ a5 ⟨aO,rfl⟩;have aY:=aG.ext aO;refine wD (fun st=>AW (v:=.bool t) (eR st) c (eR st))<|wA (v:=.bool t) rfl<|wn<|Av ?_;obtain rfl:=oi a;refine Ay rfl rfl ?_;exact⟨aY.AS,rfl⟩
  ·replace a:=Aq a c;refine wF c<|wF c<|wF c<|wD (fun st=>Bo (v:=.bool false) (eR st) c (eR st))<|wA (v:=.bool false) rfl<|wn<|Av ?_;obtain rfl:=oi a;refine Ay rfl rfl ?_;exact⟨aG.AS,rfl⟩
set_option maxHeartbeats 4000000 in
theorem a127 aG d b c f g i j(Z:Nat→Prop) w(cD:Sl Az w Z b c d.Ax)(cE:Sl (Bs (Ao .i64)) w Z f g d.Bv)(cF:Sl AH w Z i j d.AQ) dQ(a:HQ aG d=some dQ):
 B7 Tryz.prog 127 #[.agg (AE b c f g i j d).toArray] w (fun v w'=>Ext w w'∧(DT .i64).R w' (zf Z w []) v dQ):=by
 unfold HQ at a;refine rq (N:=70) Tryz.func127 fun eD ha eE=>?_;have cS:=sA 0 ha;clear ha;have cK:Hp FN [] w [] w:=Hp.start (BL.none w);have ⟨bT,bU,bV⟩:=DU cD cE cF (Bd (Z:=Z) (L:=[]) w);refine cr<|wE (fun st=>BP (v:=.agg (AE b c f g i j d).toArray) (cs:=(AE b c f g i j d).toArray) (ee st cS) rfl) ?_;rintro _ w1 ⟨b1,rfl,aN⟩;have dR:=cK.nb aN;have d2:=cK.BU aN;refine wA (v:=I 0) rfl<|wn<|Af ?_;refine BK 5 [Kc (.agg (AE b c f g i j d).toArray),Kc (.func (.func 162) #[.agg (AE b c f g i j d).toArray] #[]),Kc (.agg (AE b c f g i j d).toArray),Kc (.func (.func 163) #[.agg (AE b c f g i j d).toArray] #[]),Kc (.func (.func 162) #[.agg (AE b c f g i j d).toArray] #[])] mixed rfl rfl
     (Aa (oD (fun K=>AK (l:=(AE b c f g i j d)) LH (K.kO 1) (aN.bk.ext K.AD) rfl rfl))
     (Aa (oD (fun K=>F4 (vs:= #[.agg (AE b c f g i j d).toArray]) (us:= #[]) (Cy (es (K.dq 0 8))) Gj))
     (Aa (oD (fun K=>AK (l:=(AE b c f g i j d)) LH (K.kO 1) (aN.bk.ext K.AD) rfl rfl))
     (Aa (oD (fun K=>F4 (vs:= #[.agg (AE b c f g i j d).toArray]) (us:= #[]) (Cy (es (K.dq 2 10))) Gj))
     (Aa (oD (fun K=>PF (es (K.dq 1 9))))
     (BI _)))))) ?_
 intro w2;rintro _ rfl _ rfl _ rfl _ rfl _ rfl bB;have aR:=dR.ext bB;refine wA (v:=.func (.func 163) #[.agg (AE b c f g i j d).toArray] #[]) rfl<|wn<|Af<|AI<|cr<|wD (fun st=>Ad (eR st) (LO _ _)) ?_;have aE:=(aN.bk.ext bB);refine wD (fun st=>As (v:=.slice b d.Ax.length c) Nf (eR st) aE rfl)<|wD (fun st=>Be Tryz.underlying35 (eR st))<|wD (fun st=>Gs (eR st) (eR st))<|wM (v:=.bool (decide ((3:Int)<(d.Ax.length:Int)))) rfl ?_;rcases Ae (decide ((3:Int)<(d.Ax.length:Int))) with y|y
 ·replace a:=Ap a y;refine wF y<|wF y<|wF y<|wF y<|wD (fun st=>AW (v:=.bool true) (eR st) y (eR st))<|wM (v:=.bool true) rfl<|wH<|wH<|wH<|wH<|wD (fun st=>AW (v:=.bool true) (eR st) rfl (eR st))<|wA (v:=.bool true) rfl<|wn<|Am rfl rfl<|cr<|wA (v:=I 3) rfl<|wn<|Av<|Dd ?_;obtain rfl:=oi a;refine Ay rfl rfl ?_;exact⟨aR.AS,rfl⟩
 ·replace a:=Aq a y;refine wG y (fun st=>Ad (eR st) (ME _ _))<|wG y (fun st=>As (v:=.slice f d.Bv.length g) DH (eR st) aE rfl)<|wG y (fun st=>Be Tryz.underlying23 (eR st))<|wG y (fun st=>Gs (eR st) (eR st))<|wD (fun st=>Bo (v:=.bool (decide ((3:Int)<(d.Bv.length:Int)))) (eR st) y (eR st))<|wM (v:=.bool (decide ((3:Int)<(d.Bv.length:Int)))) rfl ?_;rcases Ae (decide ((3:Int)<(d.Bv.length:Int))) with z|z
  ·replace a:=Ap a z;refine wF z<|wF z<|wF z<|wF z<|wD (fun st=>AW (v:=.bool true) (eR st) z (eR st))<|wA (v:=.bool true) rfl<|wn<|Am rfl rfl<|cr<|wA (v:=I 3) rfl<|wn<|Av<|Dd ?_;obtain rfl:=oi a;refine Ay rfl rfl ?_;exact⟨aR.AS,rfl⟩
  ·replace a:=Aq a z;refine wG z (fun st=>Ad (eR st) (RA _ _))<|wG z (fun st=>As (v:=.slice i d.AQ.length j) U2 (eR st) aE rfl)<|wG z (fun st=>Be Tryz.underlying36 (eR st))<|wG z (fun st=>Gs (eR st) (eR st))<|wD (fun st=>Bo (v:=.bool (decide ((5:Int)<(d.AQ.length:Int)))) (eR st) z (eR st))<|wA (v:=.bool (decide ((5:Int)<(d.AQ.length:Int)))) rfl<|wn ?_;rcases Ae (decide ((5:Int)<(d.AQ.length:Int))) with bC|bC
   ·replace a:=Ap a bC;refine Am rfl bC<|cr<|wA (v:=I 3) rfl<|wn<|Av<|Dd ?_;obtain rfl:=oi a;refine Ay rfl rfl ?_;exact⟨aR.AS,rfl⟩
   ·replace a:=Aq a bC;refine An rfl bC<|cr<|wD (fun st=>Ad (eR st) (LO _ _))<|wD (fun st=>As (v:=.slice b d.Ax.length c) Nf (eR st) aE rfl)<|wD (fun st=>Be Tryz.underlying35 (eR st))<|wD (fun st=>CT (eR st) (eR st))<|wM (v:=.bool ((d.Ax.length:Int)==0)) rfl ?_;rcases Ae ((d.Ax.length:Int)==0) with aA|aA
    ·replace a:=Ap a aA;refine wF aA<|wF aA<|wF aA<|wF aA<|wD (fun st=>AW (v:=.bool true) (eR st) aA (eR st))<|wM (v:=.bool true) rfl<|wH<|wH<|wH<|wH<|wH<|wD (fun st=>AW (v:=.bool true) (eR st) rfl (eR st))<|wM (v:=.bool true) rfl<|wH<|wH<|wH<|wH<|wH<|wD (fun st=>AW (v:=.bool true) (eR st) rfl (eR st))<|wA (v:=.bool true) rfl<|wn<|Am rfl rfl<|cr<|wA (v:=I 1) rfl<|wn<|Av<|Dd ?_;obtain rfl:=oi a;refine Ay rfl rfl ?_;exact⟨aR.AS,rfl⟩
    ·replace a:=Aq a aA;refine wG aA (fun st=>Ad (eR st) (LO _ _))<|wG aA (fun st=>As (v:=.slice b d.Ax.length c) Nf (eR st) aE rfl) ?_;have eF:=aR.EP (F':=FN) (M:=[]) (C:=[]) [] [] rfl trivial trivial (fun k hk=>.inl (eL k hk));have cT:Cb Tryz.prog (.func (.func 165) #[] #[]) (FU FN []) w2.heap.size (fun(st:Unit) aJ bD o=>o=none) (v1 (Fx Az)) Cm (fun(st:Unit) (x:Bl)=>(I8 aG x).bind fun r=>some (r,())):=by
      refine⟨rfl,rfl,aR.N2 [] trivial eL,?_,?_,?_⟩
      ·intro st x r w1 bE bF o vs hn bG cL aC aD bZ;obtain rfl:=aC;obtain⟨_,rfl,⟨_,rfl,rfl⟩⟩:=aD;obtain⟨b4,h1,h2⟩:=bind_some bZ;obtain rfl:=Option.some.inj h2;refine(Ip VD rfl (Abz aG x bF w1 b4 h1)).mono ?_;rintro v w2 ⟨aD,aS⟩;exact⟨none,JU aD,(fun _ h=>by cases h),aS,rfl⟩
      ·intro st w1 w2 bE dS o aC hm hb;obtain rfl:=aC;exact rfl
      ·intro st w1 bE o aC k hk;obtain rfl:=aC;cases hk
     have aT:=aR.nil;have aW:=(((bT.mv (AA aN)).mv (Ac bB)).mv B8);replace a:=bind_some a;obtain⟨bW,dT,a⟩:=a;refine wX aA (fun st=>Aj Ac8 (eR st) (CN (eR st) (eR st)) (a164 aG d.Ax () b c (.func (.func 165) #[] #[]) none (ZC (FU FN []) [none]) _ cT (Nat.le_refl _) (aT.EP (F':=(FU FN [])) (M:=[none]) (C:=[]) [0] [] rfl ⟨rfl,trivial⟩ trivial (CG eL)) I9 (aW.mv (aT.mz (F':=(FU FN [])) (M:=[none]) (C:=[]) [0] [] ⟨rfl,trivial⟩ trivial (CG eL))) rfl bW dT)) ?_;rintro _ d6 ⟨eT,bH,rfl,d7,dU⟩;obtain rfl:=dU;have dV:=aT.Ek (Dc.cl (M1:=[]) (M2:=[none]) bH) (BM [0] ⟨rfl,trivial⟩ eL);have bO:=dV.erase 0;refine wG aA (fun st=>CJ (eR st))<|wD (fun st=>Bo (v:=.bool !bW.1) (eR st) aA (eR st))<|wM (v:=.bool !bW.1) rfl ?_;rcases Ae (!bW.1) with m|m
     ·replace a:=Ap a m;have dK:bW.1=false:=by simpa using m
      refine wF m<|wF m<|wF m<|wF m<|wF m<|wD (fun st=>AW (v:=.bool true) (eR st) m (eR st))<|wM (v:=.bool true) rfl<|wH<|wH<|wH<|wH<|wH<|wD (fun st=>AW (v:=.bool true) (eR st) rfl (eR st))<|wA (v:=.bool true) rfl<|wn<|Am rfl rfl<|cr<|wA (v:=I 1) rfl<|wn<|Av<|Dd ?_;obtain rfl:=oi a;refine Ay rfl rfl ?_;exact⟨bO.AS,rfl⟩
     ·replace a:=Aq a m;have dL:bW.1=true:=by simpa using m
      refine wG m (fun st=>Ad (eR st) (ME _ _)) ?_;have bP:=(aE.Ek (Dc.cl (M1:=[]) (M2:=[none]) bH) (aT.EU 1 rfl [0] rfl ⟨rfl,trivial⟩ eL));refine wG m (fun st=>As (v:=.slice f d.Bv.length g) DH (eR st) bP rfl)<|wG m (fun st=>Au (v:=.func (.func 163) #[.agg (AE b c f g i j d).toArray] #[]) (eR st)) ?_;have d8:=bO.EP (F':=FN) (M:=[]) (C:=[]) [] [] rfl trivial trivial (fun k hk=>.inl (eL k hk));have cG:Cb Tryz.prog (.func (.func 163) #[.agg (AE b c f g i j d).toArray] #[]) (FU FN []) d6.heap.size (fun(st:Unit) aJ bD o=>o=none∧Sl Az aJ bD b c d.Ax∧Sl (Bs (Ao .i64)) aJ bD f g d.Bv∧Sl AH aJ bD i j d.AQ) (v1 (Fq (Ao .i64))) Cm (fun(st:Unit) (x:(List Int))=>(JE aG d x).bind fun r=>some (r,())):=by
       refine⟨rfl,rfl,bO.N2 [] trivial eL,?_,?_,?_⟩
       ·intro st x r w1 bE bF o vs hn bG cL aC aD bZ;obtain⟨rfl,p,q,s⟩:=aC;obtain⟨_,rfl,⟨cU,cV,rfl,cH⟩⟩:=aD;obtain⟨b4,h1,h2⟩:=bind_some bZ;obtain rfl:=Option.some.inj h2;refine(Ip Ac9 rfl (Af9 aG d x b c f g i j cU cV bF w1 (p.mv (HH bG)) (q.mv (HH bG)) (s.mv (HH bG)) cH b4 h1)).mono ?_;rintro v w2 ⟨aD,aS⟩;exact⟨none,JU aD,(fun _ h=>by cases h),aS,⟨rfl,(p.mv (Ff (Ac aD))),(q.mv (Ff (Ac aD))),(s.mv (Ff (Ac aD)))⟩⟩
       ·intro st w1 w2 bE dS o aC hm hb;obtain⟨rfl,p,q,s⟩:=aC;exact⟨rfl,p.mv hm,q.mv hm,s.mv hm⟩
       ·intro st w1 bE o aC k hk;obtain⟨rfl,p,q,s⟩:=aC;cases hk
      have aH:=bO.nil;have aK:=((((((bU.mv (AA aN)).mv (Ac bB)).mv B8).mv (aT.GD (Dc.cl (M1:=[]) (M2:=[none]) bH) (BM [0] ⟨rfl,trivial⟩ eL))).mv (AV 0)).mv B8);replace a:=bind_some a;obtain⟨aX,cW,a⟩:=a;have aY:=(((aW.mv (aT.GD (Dc.cl (M1:=[]) (M2:=[none]) bH) (BM [0] ⟨rfl,trivial⟩ eL))).mv (AV 0)).mv B8);have aZ:=((((((bV.mv (AA aN)).mv (Ac bB)).mv B8).mv (aT.GD (Dc.cl (M1:=[]) (M2:=[none]) bH) (BM [0] ⟨rfl,trivial⟩ eL))).mv (AV 0)).mv B8);refine wX m (fun st=>Aj Ada (eR st) (CN (eR st) (eR st)) (Af2 aG d.Bv () f g (.func (.func 163) #[.agg (AE b c f g i j d).toArray] #[]) none (ZC (FU FN []) [none]) _ cG (Nat.le_refl _) (aH.EP (F':=(FU FN [])) (M:=[none]) (C:=[]) [0] [] rfl ⟨rfl,trivial⟩ trivial (CG eL)) I9 (aK.mv (aH.mz (F':=(FU FN [])) (M:=[none]) (C:=[]) [0] [] ⟨rfl,trivial⟩ trivial (CG eL))) ⟨rfl,(aY.mv (aH.mz (F':=(FU FN [])) (M:=[none]) (C:=[]) [0] [] ⟨rfl,trivial⟩ trivial (CG eL))),(aK.mv (aH.mz (F':=(FU FN [])) (M:=[none]) (C:=[]) [0] [] ⟨rfl,trivial⟩ trivial (CG eL))),(aZ.mv (aH.mz (F':=(FU FN [])) (M:=[none]) (C:=[]) [0] [] ⟨rfl,trivial⟩ trivial (CG eL)))⟩ aX cW)) ?_;rintro _ dW ⟨eG,a8,rfl,d3,cX⟩;obtain⟨rfl,cM,cN,cO⟩:=cX;have dX:=aH.Ek (Dc.cl (M1:=[]) (M2:=[none]) a8) (BM [0] ⟨rfl,trivial⟩ eL);have bQ:=dX.erase 0;refine wG m (fun st=>CJ (eR st))<|wD (fun st=>Bo (v:=.bool !aX.1) (eR st) m (eR st))<|wM (v:=.bool !aX.1) rfl ?_;rcases Ae (!aX.1) with t|t
      ·replace a:=Ap a t;have dM:aX.1=false:=by simpa using t
       refine wF t<|wF t<|wF t<|wF t<|wF t<|wD (fun st=>AW (v:=.bool true) (eR st) t (eR st))<|wA (v:=.bool true) rfl<|wn<|Am rfl rfl<|cr<|wA (v:=I 1) rfl<|wn<|Av<|Dd ?_;obtain rfl:=oi a;refine Ay rfl rfl ?_;exact⟨bQ.AS,rfl⟩
      ·replace a:=Aq a t;have dN:aX.1=true:=by simpa using t
       refine wG t (fun st=>Ad (eR st) (RA _ _)) ?_;have bR:=(bP.Ek (Dc.cl (M1:=[]) (M2:=[none]) a8) (aH.EU 1 rfl [0] rfl ⟨rfl,trivial⟩ eL));refine wG t (fun st=>As (v:=.slice i d.AQ.length j) U2 (eR st) bR rfl)<|wG t (fun st=>Au (v:=.func (.func 162) #[.agg (AE b c f g i j d).toArray] #[]) (eR st)) ?_;have d9:=bQ.EP (F':=FN) (M:=[]) (C:=[]) [] [] rfl trivial trivial (fun k hk=>.inl (eL k hk));have cI:Cb Tryz.prog (.func (.func 162) #[.agg (AE b c f g i j d).toArray] #[]) (FU FN []) dW.heap.size (fun(st:Unit) aJ bD o=>o=none∧Sl Az aJ bD b c d.Ax∧Sl (Bs (Ao .i64)) aJ bD f g d.Bv∧Sl AH aJ bD i j d.AQ) (v1 (Fx AH)) Cm (fun(st:Unit) (x:DL)=>(JX aG d x).bind fun r=>some (r,())):=by
        refine⟨rfl,rfl,bQ.N2 [] trivial eL,?_,?_,?_⟩
        ·intro st x r w1 bE bF o vs hn bG cL aC aD bZ;obtain⟨rfl,p,q,s⟩:=aC;obtain⟨_,rfl,⟨_,rfl,rfl⟩⟩:=aD;obtain⟨b4,h1,h2⟩:=bind_some bZ;obtain rfl:=Option.some.inj h2;refine(Ip Adb rfl (a162 aG d x b c f g i j bF w1 (p.mv (HH bG)) (q.mv (HH bG)) (s.mv (HH bG)) b4 h1)).mono ?_;rintro v w2 ⟨aD,aS⟩;exact⟨none,JU aD,(fun _ h=>by cases h),aS,⟨rfl,(p.mv (Ff (Ac aD))),(q.mv (Ff (Ac aD))),(s.mv (Ff (Ac aD)))⟩⟩
        ·intro st w1 w2 bE dS o aC hm hb;obtain⟨rfl,p,q,s⟩:=aC;exact⟨rfl,p.mv hm,q.mv hm,s.mv hm⟩
        ·intro st w1 bE o aC k hk;obtain⟨rfl,p,q,s⟩:=aC;cases hk
       have aO:=bQ.nil;have a0:=(((aZ.mv (aH.GD (Dc.cl (M1:=[]) (M2:=[none]) a8) (BM [0] ⟨rfl,trivial⟩ eL))).mv (AV 0)).mv B8);replace a:=bind_some a;obtain⟨a2,cY,a⟩:=a;have ⟨a3,bX⟩:=Nb aY aK (mt (aH.GD (Dc.cl (M1:=[]) (M2:=[none]) a8) (BM [0] ⟨rfl,trivial⟩ eL)) (mt (AV 0) B8));refine wX t (fun st=>Aj Adc (eR st) (CN (eR st) (eR st)) (a167 aG d.AQ () i j (.func (.func 162) #[.agg (AE b c f g i j d).toArray] #[]) none (ZC (FU FN []) [none]) _ cI (Nat.le_refl _) (aO.EP (F':=(FU FN [])) (M:=[none]) (C:=[]) [0] [] rfl ⟨rfl,trivial⟩ trivial (CG eL)) I9 (a0.mv (aO.mz (F':=(FU FN [])) (M:=[none]) (C:=[]) [0] [] ⟨rfl,trivial⟩ trivial (CG eL))) ⟨rfl,(a3.mv (aO.mz (F':=(FU FN [])) (M:=[none]) (C:=[]) [0] [] ⟨rfl,trivial⟩ trivial (CG eL))),(bX.mv (aO.mz (F':=(FU FN [])) (M:=[none]) (C:=[]) [0] [] ⟨rfl,trivial⟩ trivial (CG eL))),(a0.mv (aO.mz (F':=(FU FN [])) (M:=[none]) (C:=[]) [0] [] ⟨rfl,trivial⟩ trivial (CG eL)))⟩ a2 cY)) ?_;rintro _ eH ⟨eI,bJ,rfl,d4,cZ⟩;obtain⟨rfl,cP,cQ,cR⟩:=cZ;have c0:=aO.Ek (Dc.cl (M1:=[]) (M2:=[none]) bJ) (BM [0] ⟨rfl,trivial⟩ eL);have b5:=c0.erase 0;refine wG t (fun st=>CJ (eR st))<|wD (fun st=>Bo (v:=.bool !a2.1) (eR st) t (eR st))<|wA (v:=.bool !a2.1) rfl<|wn ?_;rcases Ae (!a2.1) with aF|aF
       ·replace a:=Ap a aF;have dO:a2.1=false:=by simpa using aF
        refine Am rfl aF<|cr<|wA (v:=I 1) rfl<|wn<|Av<|Dd ?_;obtain rfl:=oi a;refine Ay rfl rfl ?_;exact⟨b5.AS,rfl⟩
       ·replace a:=Aq a aF;have dP:a2.1=true:=by simpa using aF
        refine An rfl aF<|Ct<|CS<|cr<|wA (v:=I 1) rfl<|wn<|Af<|cr<|wD (fun st=>Ad (eR st) (LO _ _)) ?_;have b6:=(bR.Ek (Dc.cl (M1:=[]) (M2:=[none]) bJ) (aO.EU 1 rfl [0] rfl ⟨rfl,trivial⟩ eL));refine wD (fun st=>As (v:=.slice b d.Ax.length c) Nf (eR st) b6 rfl)<|wD (fun st=>Be Tryz.underlying35 (eR st))<|wM (v:=I 0) rfl<|wn<|AI ?_;replace a:=bind_some a;obtain⟨z25,aL,a⟩:=a;refine BX (fun dY aP aJ=>(dY=.exit 1∧Fo X0 70 aP∧sl aP 5=I z25∧Hp FN [] w [some b1] aJ)) ?c1 ?c2
        case c1=>
         clear a;refine BW (fun c3 aP aJ=>∃u,∃aB,Fz aG d c3 u aB=some z25∧Fo X0 70 aP∧sl aP 5=I u∧sl aP 55=.slice b d.Ax.length c∧sl aP 56=I (d.Ax.length:Int)∧sl aP 57=I aB∧Hp FN [] w [some b1] aJ∧Sl Az aJ (zf Z w [some b1]) b c d.Ax) aG ?c4 ?c5
         case c4=>
          intro st;have bK:=((a3.mv (aO.GD (Dc.cl (M1:=[]) (M2:=[none]) bJ) (BM [0] ⟨rfl,trivial⟩ eL))).mv (AV 0));exact⟨(1:Int),(0:Int),aL,qo st,sp st 5 rfl,sp st 55 rfl,sp st 56 rfl,sp st 57 rfl,b5,bK⟩
         case c5=>
          rintro(_|c3) eA eB ⟨u,aB,aL,cJ,bI,a4,a5,aM,bL,aQ⟩
          ·exact absurd (show none=some _ from aL) (by simp)
          rw[Fz.eq_2] at aL;have a:=aL;clear aL;refine ro cJ<|cr<|wD (fun st=>B9 (ee st aM) (ee st a5))<|wn<|Af ?_;rcases Ae (decide (aB<(d.Ax.length:Int))) with aU|aU
          ·replace a:=Ap a aU;refine Am rfl aU<|cn<|Af<|AI<|Af<|Al ?_;replace a:=AP a;obtain⟨i27,aI,c6,c7,c8,a⟩:=a;obtain⟨eJ,eK,_,c9,rfl,dA⟩:=Sl.elem aQ (by decide) c7;refine wD (fun st=>BD (k:=i27) Tryz.underlying35 P9 (ee st a4) c9 (ee st aM) c6 c8)<|wD (fun st=>DF (l:=[I aI.Lo,I aI.Hi]) MD (eR st) dA rfl rfl)<|wE (fun st=>CR (cs:= #[I 0,I 0]) R1 rfl) ?_;rintro _ eM ⟨eN,rfl,a9⟩;have b7:=bL.nb a9;have dZ:=bL.BU a9;refine Cs rfl rfl (fun st=>Ca (n:=2) (l:=[I aI.Lo,I aI.Hi]) (DO:= #[I aI.Lo,I aI.Hi]) (eR st) (eR st) P9 a9.bk rfl rfl (show 0+2≤2 by decide) (BJ rfl) rfl) ?_;rintro _ eO bM;have dB:=b7.gr bM.gr 0 rfl;refine wn<|Al<|wM (v:=I u) bI<|wD (fun st=>AK (l:=[I aI.Lo,I aI.Hi]) MD (eR st) bM.bk rfl rfl) ?_;replace a:=bind_some a;obtain⟨a7,dC,a⟩:=a;refine wE (fun st=>Aj Ade (eR st) (Cy (eR st)) (AfX aG aI ZA _ a7 dC)) ?_;rintro _ eP ⟨b8,rfl⟩;have b9:=dB.ext b8;replace a:=AF a;obtain⟨dD,a⟩:=a;refine wD (fun st=>N0 (eR st) (eR st) dD)<|wE (fun st=>Cx (e:=3) (vs:= #[(0,I (u*a7)),(1,I 2001)]) (cs:= #[I (u*a7),I 2001]) (Kz (eR st) (eR st)) (by kernel_rfl)) ?_;rintro _ eQ ⟨d0,rfl,bA⟩;have dE:=b9.nb bA;have d1:=b9.BU bA;replace a:=bind_some a;obtain⟨cA,dF,a⟩:=a;refine wE (fun st=>Aj AcR (eR st) (Cy (eR st)) (a168 aG [u*a7,2001] (some ⟨d0,0,none⟩) 2 ZA _ (JQ (e:=(Ao .i64)) (xs:=[u*a7,2001]) (CM:=[[I (u*a7)],[I 2001]]) bA.bk trivial ⟨rfl,rfl,trivial⟩ rfl (Nat.le_refl _)) cA dF)) ?_;rintro _ eS ⟨cB,rfl⟩;have dG:=dE.ext cB;refine wA (v:=I cA) rfl<|AU<|CS<|Al ?_;replace a:=AF a;obtain⟨dH,a⟩:=a;refine wD (fun st=>BG (ee st aM) (eR st) dH)<|wM (v:=I (aB+1)) rfl<|AU ?_;have dI:=dG.erase 0;have dJ:=dI.erase 0;have bN:=(((((((aQ.mv (AA a9)).mv (b7.Co bM.gr 0 rfl)).mv (Ac b8)).mv (AA bA)).mv (Ac cB)).mv (AV 0)).mv (AV 0));refine Bi c3 (Nat.lt_succ_self _) (fun st=>?_);exact⟨cA,(aB+1),a,qo st,sp st 5 rfl,sp st 55 a4,sp st 56 a5,sp st 57 rfl,dJ,bN⟩
          ·replace a:=Aq a aU;refine An rfl aU<|Dq ?_;obtain rfl:=oi a;refine BC (fun st=>?_);exact⟨rfl,qo st,sp st 5 bI,bL⟩
        case c2=>
         rintro dY d5 eC (⟨rfl,cC,bY,bS⟩);refine lf cC<|AZ<|BS<|Af<|cr<|wM (v:=I z25) bY<|wD (fun st=>Gs (eR st) (eR st))<|wn ?_;rcases Ae (decide ((2000:Int)<z25)) with aV|aV
         ·replace a:=Ap a aV;refine Am rfl aV<|cr<|wA (v:=I 3) rfl<|wn<|Av<|AG ?_;obtain rfl:=oi a;refine Ay rfl rfl ?_;exact⟨bS.AS,rfl⟩
         ·replace a:=Aq a aV;refine An rfl aV<|cn<|cr<|wA (v:=I 0) rfl<|wn<|Av ?_;obtain rfl:=oi a;refine Ay rfl rfl ?_;exact⟨bS.AS,rfl⟩
end Go.Proofs.YtbhofkcbfblijaaGreat
end
