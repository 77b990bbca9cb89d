import Derived.Test.YtbhofkcbfblijaaGreatCG1
import Derived.WalkKit
import Derived.KernelRfl
import Derived.WalkSpells
import Derived.WalkLawsBesides
import Derived.Maps.AppendAt
import Derived.OrdersIn
import Derived.RangeFuncIn
import Derived.RangeFuncLeaves
import Derived.RangeFuncRecord
import Derived.RangeFuncSeq
import Derived.Scope
import Derived.DeepKeys3
import Derived.Laws.CopyRow
import Derived.Laws.OwnMore
import Derived.Laws.MakeOwn
import Derived.Laws.IdiomCopy
import Derived.Sort.OwnSortedInts
import Derived.Lib.RowBridge
import Derived.Test.YtbhofkcbfblijaaGreatProg
/-
  The contracts of the functions of the program and of the reference, and the logic that they are proved in: the base that several claims of this seat share.
-/
set_option linter.all false
section
namespace Go.Proofs.YtbhofkcbfblijaaGreat
open Go.RowKit Go.WideShapes
def DL(d:DO)(e:CU)(f:Int)(a:Be×Be):Option (Bool×Bool):=
 (idx ([a.1.a0,a.1.a1,a.1.a2]:List Int) f).bind fun b=>(idx d.Ce e.En).bind fun c=>cond (decide (b<c.BU)) (some (false,true)) (some (true,false))
def EK(e:Nat)(b:DO)(c:CU)(d:Int):Option (Bool×(List (List Int×Int))):=
 (idx b.weights d).bind fun f=>cond (decide (f<c.Ey)) (some ((false,b.known))) ((FG e (fun(st:Bool) (x:Be×Be)=>cond st none (DL b c d x)) b ([]:List Int) false).bind fun a=>cond (a.2) (some ((false,a.1))) (some ((true,a.1))))
def Dx(f:Nat)(b:DO)(g:CU):Nat→(List Int)→Int→(List (List Int×Int))→Option ((List Int)×(List (List Int×Int)))
 |0,_,_,_=>none
 |h+1,c,a,d=>cond (decide (a<(b.weights.length:Int))) ((EK f (⟨b.BD,b.BE,b.By,b.DZ,b.Ce,b.Ca,b.CH,b.weights,b.Dq,d⟩:DO) g a).bind fun e=>cond (e.1) ((EG (((c.length+[a].length:Nat):Int)≤140737488355328/8)).bind fun _=>(i64 (a+1)).bind fun _=>Dx f b g h (c++[a]) (a+1) e.2) ((i64 (a+1)).bind fun _=>Dx f b g h c (a+1) e.2)) (some ((c,d)))
def DB(e:Nat)(d:DO):Nat→(List (List Int))→Int→(List (List Int×Int))→Option ((List (List Int))×(List (List Int×Int)))
 |0,_,_,_=>none
 |g+1,c,a,b=>cond (decide (a<(d.Ca.length:Int))) ((idx d.Ca a).bind fun h=>(Dx e d h e ([]:List Int) (0:Int) b).bind fun f=>(EG (((c.length+[f.1].length:Nat):Int)≤140737488355328/24)).bind fun _=>(i64 (a+1)).bind fun _=>DB e d g (c++[f.1]) (a+1) f.2) (some ((c,b)))
def Fp(a:Nat)(b:DO):Option ((List (List Int))×(List (List Int×Int))):=
 (DB a b a ([]:List (List Int)) (0:Int) b.known).bind fun c=>some ((c.1,c.2))
def Gi(c:Int→(List (List Int))→(List Int)→Option (Bool×(List Int)))(f:Nat)(e:Int)(g:List (List Int))(x2:List Int):Nat→Int→(List Int)→Option ((Bool×(List Int))⊕((List Int)))
 |0,_,_=>none
 |i+1,b,a=>cond (decide (b<(x2.length:Int))) ((idx x2 b).bind fun h=>(Ip f a h).bind fun j=>cond (j) ((i64 (b+1)).bind fun _=>Gi c f e g x2 i (b+1) a) ((EG (((a.length+[h].length:Nat):Int)≤140737488355328/8)).bind fun _=>(i64 (e+1)).bind fun _=>(c (e+1) g (a++[h])).bind fun d=>cond (d.1) (some (.inl (true,d.2))) ((Ov d.2.length (0:Int) e).bind fun _=>(i64 (b+1)).bind fun _=>Gi c f e g x2 i (b+1) (Gv d.2 (0:Int) e)))) (some (.inr a))
def He(b:Nat):Nat→Int→(List (List Int))→(List Int)→Option (Bool×(List Int))
 |0,_,_,_=>none
 |f+1,c,d,e=>cond (c==(d.length:Int)) (some ((true,e))) ((idx d c).bind fun x2=>(Gi (He b f) b c d x2 b (0:Int) e).bind fun z=>Sum.elim (fun a=>some ((a.1,a.2))) (fun a=>some ((false,a))) z)
def JI(b:Nat)(d:Aj):Option ((List Int)×Int):=
 (CD b d true).bind fun a=>Option.elim a.1 (cond (a.2 !=0) (some ((([]:List Int),a.2))) (none)) (fun e=>cond (a.2 !=0) (some ((([]:List Int),a.2))) ((Fp b e).bind fun f=>(He b b 0 f.1 ([]:List Int)).bind fun c=>cond (!c.1) (some ((([]:List Int),10))) (some ((c.2,0)))))
def G7(c:List Int)(d:(List (List Int))×(List (List Int×Int))):Nat→(List Int)→Int→Option ((List Int))
 |0,_,_=>none
 |f+1,b,a=>cond (decide (a<(c.length:Int))) ((idx c a).bind fun g=>(idx d.1 g).bind fun e=>(EG (((b.length+e.length:Nat):Int)≤140737488355328/8)).bind fun _=>(i64 (a+1)).bind fun _=>G7 c d f (b++e) (a+1)) (some (b))
def HZ(a:Nat)(d:DO)(b:List Int):Option (Bool×(List (List Int×Int))):=
 (Fp a d).bind fun c=>(G7 b c a ([]:List Int) (0:Int)).bind fun z3=>(EG ((z3.length:Int)≤100000)).bind fun _=>(EG (((JO z3).length:Int)≤100000)).bind fun _=>some ((decide (((Lib.compact (JO z3)).length:Int)<(b.length:Int)),c.2))
def EH{e:Type}(f:(List Int)→Int→Int→(List Int)→Int→e→Option (Bool×(List Int)×e))(h:List Int)(g:Int)(i:Int):Nat→Int→(List Int)→e→Option ((Bool×(List Int)×e)⊕((List Int)×e))
 |0,_,_,_=>none
 |j+1,a,b,d=>(i64 (i-g)).bind fun _=>cond (decide (a≤(i-g))) ((EG (((0+h.length:Nat):Int)≤140737488355328/8)).bind fun _=>(EG (((h.length+[a].length:Nat):Int)≤140737488355328/8)).bind fun _=>(i64 (a+1)).bind fun _=>(i64 (g-1)).bind fun _=>(f (h++[a]) (a+1) (g-1) b i d).bind fun c=>cond (c.1) (some (.inl (true,c.2.1,c.2.2))) ((i64 (a+1)).bind fun _=>EH f h g i j (a+1) c.2.1 c.2.2)) (some (.inr (b,d)))
def Ek{b:Type}(e:Nat)(c:b→(List Int)→Option (Bool×b)):Nat→(List Int)→Int→Int→(List Int)→Int→b→Option (Bool×(List Int)×b)
 |0,_,_,_,_,_,_=>none
 |i+1,d,j,f,k,l,g=>cond (f==0) ((c g d).bind fun h=>some ((h.1,d,h.2))) ((EH (Ek e c i) d f l e j k g).bind fun z=>Sum.elim (fun a=>some ((a.1,a.2.1,a.2.2))) (fun a=>some ((false,a.1,a.2))) z)
def E7{e:Type}(f:e→(List Int)→Option (Bool×e))(g:Nat)(h:Int):Nat→Bool→Int→(List Int)→e→Option (Bool×(List Int)×e)
 |0,_,_,_,_=>none
 |j+1,i,a,b,d=>cond (decide (a<(h+1))) ((Ek g f g ([]:List Int) 0 a b h d).bind fun c=>cond (c.1) (some ((c.1,c.2.1,c.2.2))) ((i64 (a+1)).bind fun _=>E7 f g h j c.1 (a+1) c.2.1 c.2.2)) (some ((i,b,d)))
def FL{a:Type}(c:Nat)(d:a→(List Int)→Option (Bool×a))(e:Int)(f:a):Option ((List Int)×Bool×a):=
 (i64 (e+1)).bind fun _=>(E7 d c e c false (0:Int) ([]:List Int) f).bind fun b=>some ((b.2.1,b.1,b.2.2))
def HE(b:Nat)(c:List Int)(d:DO):Option (Bool×(List (List Int×Int))):=
 (HZ b d c).bind fun a=>some ((a.1,a.2))
def J1(d:Nat)(e:Aj):Option ((List Int)×Int):=
 (CD d e true).bind fun b=>Option.elim b.1 (cond (b.2 !=0) (some ((([]:List Int),b.2))) (none)) (fun a=>cond (b.2 !=0) (some ((([]:List Int),b.2))) ((FL d (fun(st:(List (List Int×Int))) (x:(List Int))=>(HE d x (⟨a.BD,a.BE,a.By,a.DZ,a.Ce,a.Ca,a.CH,a.weights,a.Dq,st⟩:DO)).bind fun r=>some (r.1,r.2)) (e.Aw.length:Int) a.known).bind fun c=>cond (!c.2.1) (some ((([]:List Int),7))) (some ((c.1,0)))))
def Jb(g:Nat)(d:Aj)(c:DO):Nat→Int→(List Ct)→(List (List Int×Int))→Option ((Int×Int×(List Ct)×(List (List Int×Int)))⊕((List Ct)×(List (List Int×Int))))
 |0,_,_,_=>none
 |h+1,a,e,b=>cond (decide (a<(d.Ao.length:Int))) ((i64 (a+1)).bind fun _=>(Ov d.Ao.length (0:Int) (a+1)).bind fun _=>(BM g (⟨c.BD,c.BE,c.By,c.DZ,c.Ce,c.Ca,Gv d.Ao (0:Int) (a+1),c.weights,c.Dq,b⟩:DO) ([]:List Int)).bind fun f=>cond (!f.1) (some (.inl (a,(0:Int),Gv d.Ao (0:Int) (a+1),f.2))) ((i64 (a+1)).bind fun _=>Jb g d c h (a+1) (Gv d.Ao (0:Int) (a+1)) f.2)) (some (.inr (e,b)))
def Kx(c:Nat)(e:Aj):Option (Int×Int):=
 (CX c e true).bind fun a=>Option.elim a.1 (cond (a.2 !=0) (some ((0,a.2))) (none)) (fun d=>cond (a.2 !=0) (some ((0,a.2))) ((Jb c e d c (0:Int) d.CH d.known).bind fun z=>Sum.elim (fun b=>some ((b.1,b.2.1))) (fun b=>some ((0,7))) z))
def IY(c:Nat)(d:Aj):Option ((List Int)×Int):=
 (CX c d true).bind fun b=>Option.elim b.1 (cond (b.2 !=0) (some ((([]:List Int),b.2))) (none)) (fun a=>cond (b.2 !=0) (some ((([]:List Int),b.2))) ((FL c (fun(st:(List (List Int×Int))) (x:(List Int))=>(BM c (⟨a.BD,a.BE,a.By,a.DZ,a.Ce,a.Ca,a.CH,a.weights,a.Dq,st⟩:DO) x).bind fun r=>some (r.1,r.2)) (d.Ao.length:Int) a.known).bind fun e=>some ((e.1,0))))
def Dh(d:Nat)(a:Int)(b:Int)(c:Int):Option (Bool):=
 cond (decide (b≤a)) (some (decide (a≤c))) (some (false))
def KF(d:Nat)(a:AN)(b:Int)(c:Int):Option (Bool):=
 cond (decide (b≤a.Lo)) (cond (decide (a.Lo≤a.Hi)) (some (decide (a.Hi≤c))) (some (false))) (some (false))
def FM(b:Nat)(a:AN):Option (Int):=
 (i64 (a.Hi-a.Lo)).bind fun _=>(i64 ((a.Hi-a.Lo)+1)).bind fun _=>some ((a.Hi-a.Lo)+1)
def Je(c:List Int):Nat→Int→Int→Option (Int)
 |0,_,_=>none
 |e+1,b,a=>cond (decide (a<(c.length:Int))) ((idx c a).bind fun d=>(i64 (b+d)).bind fun _=>(i64 (a+1)).bind fun _=>Je c e (b+d) (a+1)) (some (b))
def Ft(a:Nat)(b:List Int):Option (Int):=
 (Je b a (0:Int) (0:Int)).bind fun c=>some (c)
def H8(c:Nat)(b:List Int):Nat→Int→Option ((Bool)⊕(Unit))
 |0,_=>none
 |d+1,a=>cond (decide (a<(b.length:Int))) ((idx b a).bind fun e=>(Dh c e 0 30).bind fun f=>cond (!f) (some (.inl false)) ((i64 (a+1)).bind fun _=>H8 c b d (a+1))) (some (.inr ()))
def Nk(b:Nat)(d:AV)(c:List Int):Option (Bool):=
 (H8 b c b (0:Int)).bind fun z=>Sum.elim (fun a=>some (a)) (fun a=>some ((c.length:Int)==(d.AF.length:Int))) z
def I2(d:Nat)(c:AV):Nat→Int→Int→Option (Int)
 |0,_,_=>none
 |f+1,b,a=>cond (decide (a<(c.AF.length:Int))) ((idx c.AF a).bind fun g=>(FM d g).bind fun e=>(i64 (b*e)).bind fun _=>(i64 (a+1)).bind fun _=>I2 d c f (min (3000:Int) (b*e)) (a+1)) (some (b))
def Fb(a:Nat)(b:AV):Option (Int):=
 (I2 a b a (1:Int) (0:Int)).bind fun z2=>some (z2)
def IK(c:Nat)(b:AV):Nat→Int→Option ((Int)⊕(Unit))
 |0,_=>none
 |d+1,a=>cond (decide (a<(b.AF.length:Int))) ((idx b.AF a).bind fun e=>(KF c e 0 100).bind fun f=>cond (!f) (some (.inl (1:Int))) ((i64 (a+1)).bind fun _=>IK c b d (a+1))) (some (.inr ()))
def HP(c:Nat)(b:AV):Nat→Int→Option ((Int)⊕(Unit))
 |0,_=>none
 |h+1,a=>cond (decide (a<(b.BW.length:Int))) ((idx b.BW a).bind fun d=>(Nk c b d).bind fun e=>cond (!e) (some (.inl (1:Int))) ((idx b.BW a).bind fun f=>(Ft c f).bind fun g=>cond (g==0) (some (.inl (1:Int))) ((i64 (a+1)).bind fun _=>HP c b h (a+1)))) (some (.inr ()))
def Ho(d:Nat)(c:AV):Nat→Int→Option ((Int)⊕(Unit))
 |0,_=>none
 |e+1,a=>cond (decide (a<(c.Bt.length:Int))) ((idx c.Bt a).bind fun b=>cond (b.C0) ((i64 ((c.BW.length:Int)-1)).bind fun _=>(Dh d b.Number 0 ((c.BW.length:Int)-1)).bind fun f=>cond (!f) (some (.inl (1:Int))) ((KF d (⟨b.Bq,b.Br⟩:AN) 0 100).bind fun g=>cond (!g) (some (.inl (1:Int))) ((i64 (a+1)).bind fun _=>Ho d c e (a+1)))) ((i64 ((c.AF.length:Int)-1)).bind fun _=>(Dh d b.Number 0 ((c.AF.length:Int)-1)).bind fun h=>cond (!h) (some (.inl (1:Int))) ((KF d (⟨b.Bq,b.Br⟩:AN) 0 100).bind fun i=>cond (!i) (some (.inl (1:Int))) ((i64 (a+1)).bind fun _=>Ho d c e (a+1))))) (some (.inr ()))
def K8(b:Nat)(a:AV):Option (Int):=
 cond (decide ((3:Int)<(a.AF.length:Int))) (some (3)) (cond (decide ((3:Int)<(a.BW.length:Int))) (some (3)) (cond (decide ((5:Int)<(a.Bt.length:Int))) (some (3)) (cond ((a.AF.length:Int)==0) (some (1)) ((IK b a b (0:Int)).bind fun z=>Sum.elim (fun e=>some (e)) (fun e=>(HP b a b (0:Int)).bind fun z=>Sum.elim (fun c=>some (c)) (fun c=>(Ho b a b (0:Int)).bind fun z=>Sum.elim (fun d=>some (d)) (fun d=>(Fb b a).bind fun f=>cond (decide ((2000:Int)<f)) (some (3)) (some (0))) z) z) z))))
def JD(d:Nat)(c:Aj):Nat→Int→Option ((Int)⊕(Unit))
 |0,_=>none
 |e+1,a=>cond (decide (a<(c.AH.length:Int))) ((idx c.AH a).bind fun b=>(Dh d b.BU 0 100).bind fun f=>cond (!f) (some (.inl (1:Int))) ((Dh d b.DT 0 100).bind fun g=>cond (!g) (some (.inl (1:Int))) (cond (decide ((0:Int)<a)) ((i64 (a-1)).bind fun _=>(idx c.AH (a-1)).bind fun h=>cond (decide (h.BU≤b.BU)) (some (.inl (1:Int))) ((i64 (a-1)).bind fun _=>(idx c.AH (a-1)).bind fun i=>cond (decide (i.DT<b.DT)) (some (.inl (1:Int))) ((i64 (a+1)).bind fun _=>JD d c e (a+1)))) ((i64 (a+1)).bind fun _=>JD d c e (a+1))))) (some (.inr ()))
def HQ(c:Nat)(b:Aj):Nat→Int→Option ((Int)⊕(Unit))
 |0,_=>none
 |h+1,a=>cond (decide (a<(b.Aw.length:Int))) ((idx b.Aw a).bind fun d=>(i64 ((b.AH.length:Int)-1)).bind fun _=>(Dh c d.En 0 ((b.AH.length:Int)-1)).bind fun e=>cond (!e) (some (.inl (1:Int))) ((idx b.Aw a).bind fun f=>(Dh c f.Ey 1 90).bind fun g=>cond (!g) (some (.inl (1:Int))) ((i64 (a+1)).bind fun _=>HQ c b h (a+1)))) (some (.inr ()))
def HR(d:Nat)(b:Aj):Nat→Int→Option ((Int)⊕(Unit))
 |0,_=>none
 |h+1,a=>cond (decide (a<(b.Ao.length:Int))) ((idx b.Ao a).bind fun e=>(i64 ((b.Ac.length:Int)-1)).bind fun _=>(Dh d e.C0 0 ((b.Ac.length:Int)-1)).bind fun f=>cond (!f) (some (.inl (1:Int))) ((idx b.Ao a).bind fun c=>(KF d (⟨c.Db,c.Dc⟩:AN) 0 9000).bind fun g=>cond (!g) (some (.inl (1:Int))) ((i64 (a+1)).bind fun _=>HR d b h (a+1)))) (some (.inr ()))
def F6(b:Nat)(a:Aj):Option (Int):=
 (K8 b (⟨a.Al,a.Ac,a.Ap⟩:AV)).bind fun f=>cond (f !=0) (some (f)) (cond (decide ((3:Int)<(a.AH.length:Int))) (some (3)) (cond (decide ((3:Int)<(a.Aw.length:Int))) (some (3)) (cond (decide ((5:Int)<(a.Ao.length:Int))) (some (3)) ((Dh b a.Flat 0 100).bind fun g=>cond (!g) (some (1)) (cond ((a.AH.length:Int)==0) (some (1)) ((JD b a b (0:Int)).bind fun z=>Sum.elim (fun c=>some (c)) (fun c=>(HQ b a b (0:Int)).bind fun z=>Sum.elim (fun d=>some (d)) (fun d=>(HR b a b (0:Int)).bind fun z=>Sum.elim (fun e=>some (e)) (fun e=>some (0)) z) z) z))))))
def Oe(b:Nat)(a:AN):Option (AN):=
 some (a)
def OF(b:Nat)(a:List Int):Option ((List Int)):=
 (EG (((([]:List Int).length+a.length:Nat):Int)≤140737488355328/8)).bind fun _=>some (([]:List Int)++a)
def Ik(d:Nat)(c:AV):Nat→Int→(List AN)→Option ((List AN))
 |0,_,_=>none
 |f+1,b,a=>cond (decide (b<(c.AF.length:Int))) ((idx c.AF b).bind fun g=>(Oe d g).bind fun e=>(EG (((a.length+[e].length:Nat):Int)≤140737488355328/16)).bind fun _=>(i64 (b+1)).bind fun _=>Ik d c f (b+1) (a++[e])) (some (a))
def H9(e:Nat)(d:AV):Nat→Int→(List (List Int))→Option ((List (List Int)))
 |0,_,_=>none
 |g+1,b,a=>cond (decide (b<(d.BW.length:Int))) ((idx d.BW b).bind fun f=>(OF e f).bind fun c=>(EG (((a.length+[c].length:Nat):Int)≤140737488355328/24)).bind fun _=>(i64 (b+1)).bind fun _=>H9 e d g (b+1) (a++[c])) (some (a))
def Ia(f:Nat)(e:AV):Nat→Int→(List FD)→Option ((List FD))
 |0,_,_=>none
 |g+1,b,a=>cond (decide (b<(e.Bt.length:Int))) ((idx e.Bt b).bind fun c=>(Oe f (⟨c.Bq,c.Br⟩:AN)).bind fun d=>(EG (((a.length+[(⟨c.C0,c.Number,d.Lo,d.Hi⟩:FD)].length:Nat):Int)≤140737488355328/32)).bind fun _=>(i64 (b+1)).bind fun _=>Ia f e g (b+1) (a++[(⟨c.C0,c.Number,d.Lo,d.Hi⟩:FD)])) (some (a))
def KG(a:Nat)(b:AV):Option (AV):=
 (Ik a b a (0:Int) ([]:List AN)).bind fun z4=>(H9 a b a (0:Int) ([]:List (List Int))).bind fun c=>(Ia a b a (0:Int) ([]:List FD)).bind fun z24=>some ((⟨z4,c,z24⟩:AV))
def I3(b:AV):Nat→Int→Option ((Bool)⊕(Unit))
 |0,_=>none
 |c+1,a=>cond (decide (a<(b.BW.length:Int))) ((idx b.BW a).bind fun d=>cond (decide ((6:Int)<(d.length:Int))) (some (.inl false)) ((i64 (a+1)).bind fun _=>I3 b c (a+1))) (some (.inr ()))
def Nl(c:Nat)(a:AV):Option (Bool):=
 cond (decide ((5:Int)<(a.AF.length:Int))) (some (false)) (cond (decide ((5:Int)<(a.BW.length:Int))) (some (false)) (cond (decide ((7:Int)<(a.Bt.length:Int))) (some (false)) ((I3 a c (0:Int)).bind fun z=>Sum.elim (fun b=>some (b)) (fun b=>(K8 c a).bind fun d=>cond (d !=0) (some (true)) ((Fb c a).bind fun e=>some (decide (e≤150)))) z)))
def IM(b:Nat)(a:AN):Option (AN):=
 some (a)
def IL(c:Aj):Nat→Int→(List Ez)→Option ((List Ez))
 |0,_,_=>none
 |f+1,b,a=>cond (decide (b<(c.AH.length:Int))) ((idx c.AH b).bind fun d=>(idx c.AH b).bind fun e=>(EG (((a.length+[(⟨d.BU,e.DT⟩:Ez)].length:Nat):Int)≤140737488355328/16)).bind fun _=>(i64 (b+1)).bind fun _=>IL c f (b+1) (a++[(⟨d.BU,e.DT⟩:Ez)])) (some (a))
def Il(c:Aj):Nat→Int→(List CU)→Option ((List CU))
 |0,_,_=>none
 |f+1,b,a=>cond (decide (b<(c.Aw.length:Int))) ((idx c.Aw b).bind fun d=>(idx c.Aw b).bind fun e=>(EG (((a.length+[(⟨d.En,e.Ey⟩:CU)].length:Nat):Int)≤140737488355328/16)).bind fun _=>(i64 (b+1)).bind fun _=>Il c f (b+1) (a++[(⟨d.En,e.Ey⟩:CU)])) (some (a))
def Im(g:Nat)(d:Aj):Nat→Int→(List Ct)→Option ((List Ct))
 |0,_,_=>none
 |h+1,b,a=>cond (decide (b<(d.Ao.length:Int))) ((idx d.Ao b).bind fun e=>(idx d.Ao b).bind fun f=>(IM g (⟨f.Db,f.Dc⟩:AN)).bind fun c=>(EG (((a.length+[(⟨e.C0,c.Lo,c.Hi⟩:Ct)].length:Nat):Int)≤140737488355328/24)).bind fun _=>(i64 (b+1)).bind fun _=>Im g d h (b+1) (a++[(⟨e.C0,c.Lo,c.Hi⟩:Ct)])) (some (a))
def Co(b:Nat)(a:Aj):Option (Aj):=
 (KG b (⟨a.Al,a.Ac,a.Ap⟩:AV)).bind fun c=>(IL a b (0:Int) ([]:List Ez)).bind fun e=>(Il a b (0:Int) ([]:List CU)).bind fun d=>(Im b a b (0:Int) ([]:List Ct)).bind fun z26=>some ((⟨c.AF,c.BW,c.Bt,a.Flat,e,d,z26⟩:Aj))
def Eo(b:List Int)(c:List Int):Nat→Int→Option ((Bool)⊕(Unit))
 |0,_=>none
 |d+1,a=>cond (decide (a<(b.length:Int))) ((idx b a).bind fun e=>(idx c a).bind fun f=>cond (e !=f) (some (.inl false)) ((i64 (a+1)).bind fun _=>Eo b c d (a+1))) (some (.inr ()))
def E2(d:Nat)(b:List Int)(c:List Int):Option (Bool):=
 cond ((b.length:Int) !=(c.length:Int)) (some (false)) ((Eo b c d (0:Int)).bind fun z=>Sum.elim (fun a=>some (a)) (fun a=>some (true)) z)
def Gf(b:Nat)(a:Aj):Option (Bool):=
 (Nl b (⟨a.Al,a.Ac,a.Ap⟩:AV)).bind fun c=>cond (c) (cond (decide ((a.AH.length:Int)≤5)) (cond (decide ((a.Aw.length:Int)≤5)) (some (decide ((a.Ao.length:Int)≤7))) (some (false))) (some (false))) (some (false))
def Hq(c:Nat)(a:Int)(b:Int):Option (AN):=
 some ((⟨a,b⟩:AN))
def GK(c:Nat)(d:Int):Option (Aj):=
 (Hq c 80 80).bind fun b=>(Hq c 40 40).bind fun a=>(Ov [(⟨0,b.Lo,b.Hi⟩:Ct),(⟨0,a.Lo,a.Hi⟩:Ct)].length (0:Int) d).bind fun _=>some ((⟨[(⟨40,42⟩:AN),(⟨60,63⟩:AN)],[[10,10],[5,15]],([]:List FD),3,[(⟨55,6⟩:Ez),(⟨51,4⟩:Ez),(⟨40,2⟩:Ez)],[(⟨0,20⟩:CU),(⟨1,10⟩:CU)],Gv [(⟨0,b.Lo,b.Hi⟩:Ct),(⟨0,a.Lo,a.Hi⟩:Ct)] (0:Int) d⟩:Aj))
def Bx(a:Nat):Option (Bool):=
 (GK a 0).bind fun z=>(Mk a z [41,62]).bind fun n=>(GK a 0).bind fun aA=>(F9 a aA).bind fun d=>(GK a 0).bind fun o=>(Gn a o [0,1]).bind fun b=>(GK a 0).bind fun p=>(KE a p).bind fun c=>(GK a 1).bind fun q=>(JI a q).bind fun e=>(GK a 0).bind fun r=>(J1 a r).bind fun f=>(GK a 2).bind fun s=>(Kx a s).bind fun g=>(GK a 2).bind fun t=>(IY a t).bind fun h=>cond (n.2==0) ((E2 a n.1 [80,120]).bind fun u=>cond (u) (cond (d.2==0) (cond ((d.1.length:Int)==2) ((idx d.1 (0:Int)).bind fun i=>(Hq a 40 80).bind fun j=>cond ([i.Lo,i.Hi]==[j.Lo,j.Hi]) ((idx d.1 (1:Int)).bind fun k=>(Hq a 120 120).bind fun l=>cond ([k.Lo,k.Hi]==[l.Lo,l.Hi]) (cond (b.2==0) ((Hq a 160 200).bind fun m=>cond ([b.1.Lo,b.1.Hi]==[m.Lo,m.Hi]) (cond (c.2.2==0) ((E2 a c.1 [1]).bind fun v=>cond (v) (cond (c.2.1==180) (cond (e.2==0) ((E2 a e.1 [1,0]).bind fun w=>cond (w) (cond (f.2==0) ((E2 a f.1 [0,1]).bind fun x=>cond (x) (cond (g.2==0) (cond (g.1==1) (cond (h.2==0) ((E2 a h.1 [0]).bind fun y=>some (y)) (some (false))) (some (false))) (some (false))) (some (false))) (some (false))) (some (false))) (some (false))) (some (false))) (some (false))) (some (false))) (some (false))) (some (false))) (some (false))) (some (false))) (some (false))) (some (false))) (some (false))) (some (false))
end Go.Proofs.YtbhofkcbfblijaaGreat
end
section
namespace Go.Proofs.YtbhofkcbfblijaaGreat
theorem bd{α β:Type}{x:Option α}{a:α}{f:α→Option β}(h:x=some a):x.bind f=f a:=by rw[h];rfl
theorem AZ{β:Type}{x:Int}{f:Int→Option β}(h0:-9223372036854775808≤x)(h1:x≤9223372036854775807):(i64 x).bind f=f x:=bd (Age h0 h1)
theorem BS{α β:Type}{xs:List α}{k:Nat}{f:α→Option β}(h:k<xs.length):(idx xs (k:Int)).bind f=f xs[k]:=bd (idx_eq h)
theorem Dt{β:Type}{p:Prop}[Decidable p]{f:Unit→Option β}(h:p):(EG p).bind f=f ():=bd (if_pos h)
theorem Pu{β:Type}{a b:Int}{f:Int→Option β}(h0:0≤a)(h1:1≤b):(quo a b).bind f=f (a/b):=bd (if_pos ⟨h0,h1⟩)
theorem ct{α:Type}{b:Bool}{x y:α}(h:b=true):cond b x y=x:=by rw[h];rfl
theorem cf{α:Type}{b:Bool}{x y:α}(h:b=false):cond b x y=y:=by rw[h];rfl
theorem nt{α:Type}{x y:α}:cond (!true) x y=y:=rfl
theorem nf{α:Type}{x y:α}:cond (!false) x y=x:=rfl
theorem dt{p:Prop}[Decidable p](h:p):decide p=true:=decide_eq_true h
theorem df{p:Prop}[Decidable p](h:¬p):decide p=false:=decide_eq_false h
theorem CZ(i:Nat):(i:Int)+1=((i+1:Nat):Int):=by omega
def EB(n a b:Int):Bool:=decide (a≤n)&&decide (n≤b)
theorem Dv{n a b:Int}:EB n a b=true↔a≤n∧n≤b:=by simp[EB]
theorem LP{n a b:Int}:EB n a b=false↔¬(a≤n∧n≤b):=by rw[←Dv];simp
theorem Ad6{σ β:Type}(F:Nat→σ→Nat→Option β)(n:Nat)(g:σ→Nat→σ)(I:Nat→σ→Prop)(a:∀i s,i<n→I i s→I (i+1) (g s i))(h:∀m i s,i<n→I i s→F (m+1) s i=F m (g s i) (i+1)):
  ∀(d i k:Nat) (s:σ),n=i+d→d≤k→I i s→F k s i=F (k-d) ((List.range' i d).foldl g s) n∧I n ((List.range' i d).foldl g s)
 |0,i,k,s,hn,_,hs=>by
  obtain rfl:n=i:=by omega
  exact⟨rfl,hs⟩
 |d+1,i,0,s,_,hk,_=>by omega
 |d+1,i,k+1,s,hn,hk,hs=>by
  have:=Ad6 F n g I a h d (i+1) k (g s i) (by omega) (by omega) (a i s (by omega) hs);rw[h k i s (by omega) hs,List.range'_succ,List.foldl_cons,show k+1-(d+1)=k-d by omega];exact this
theorem Vm{α σ:Type}(g:σ→α→σ)(xs:List α)(f:σ→Nat→σ)(a:∀s i (hi:i<xs.length),f s i=g s xs[i]):∀(d i:Nat) (s:σ),xs.length=i+d→(List.range' i d).foldl f s=(xs.drop i).foldl g s
 |0,i,s,h=>by rw[List.drop_eq_nil_of_le (by omega)];rfl
 |d+1,i,s,h=>by
  have hi:i<xs.length:=by omega
  rw[List.range'_succ,List.foldl_cons,List.drop_eq_getElem_cons hi,List.foldl_cons,a s i hi];exact Vm g xs f a d (i+1) _ (by omega)
theorem AgY {α σ β:Type} (xs:List α) (F:Nat→σ→Nat→Option β) (g:σ→α→σ) (I:Nat→σ→Prop) (b:∀i s (hi:i<xs.length),I i s→I (i+1) (g s xs[i])) (h:∀m i s (hi:i<xs.length),I i s→F (m+1) s i=F m (g s xs[i]) (i+1))
  {k:Nat} {s0:σ} (hk:xs.length≤k) (h0:I 0 s0):F k s0 0=F (k-xs.length) (xs.foldl g s0) xs.length∧I xs.length (xs.foldl g s0):=by
 by_cases a:xs.length=0
 ·obtain rfl:=List.eq_nil_of_length_eq_zero a;exact⟨rfl,h0⟩
 ·have a0:α:=xs[0]'(by omega);have e:=Vm g xs (fun s i=>g s (xs.getD i a0)) (fun s i hi=>by simp[List.getElem?_eq_getElem hi]) xs.length 0 s0 (by omega);rw[List.drop_zero] at e;rw[←e];refine Ad6 F xs.length (fun s i=>g s (xs.getD i a0)) I (fun i s hi hs=>?_) (fun m i s hi hs=>?_) xs.length 0 k s0 (by omega) hk h0
  ·have:=b i s hi hs;simpa[List.getElem?_eq_getElem hi] using this
  ·have:=h m i s hi hs;simpa[List.getElem?_eq_getElem hi] using this
theorem Xt{α σ β:Type}(xs:List α)(F:Nat→σ→Nat→Option β)(g:σ→α→σ)(I:Nat→σ→Prop)(fin:σ→β)(a:∀i s (hi:i<xs.length),I i s→I (i+1) (g s xs[i]))(h:∀m i s (hi:i<xs.length),I i s→F (m+1) s i=F m (g s xs[i]) (i+1))
  (hn:∀m s,I xs.length s→F (m+1) s xs.length=some (fin s)){k:Nat}{s0:σ}(hk:xs.length<k)(h0:I 0 s0):F k s0 0=some (fin (xs.foldl g s0)):=by
 obtain⟨h1,h2⟩:=AgY xs F g I a h (k:=k) (s0:=s0) (by omega) h0;obtain⟨j,hj⟩:∃j,k-xs.length=j+1:=⟨k-xs.length-1,by omega⟩;rw[h1,hj,hn _ _ h2]
theorem Ad7 {β:Type} (F:Nat→Nat→Option (β⊕Unit)) (n:Nat) (ok:Nat→Bool) (b:β) (h:∀m i,i<n→F (m+1) i=cond (ok i) (F m (i+1)) (some (.inl b))) (hn:∀m,F (m+1) n=some (.inr ())):
  ∀(d i k:Nat),n=i+d→d<k→F k i=some (cond ((List.range' i d).all ok) (.inr ()) (.inl b))
 |0,i,0,_,hk=>by omega
 |0,i,k+1,hi,_=>by
  obtain rfl:n=i:=by omega
  exact hn k
 |d+1,i,0,_,hk=>by omega
 |d+1,i,k+1,hi,hk=>by
  rw[h k i (by omega),List.range'_succ,List.all_cons];cases ok i with
  |false=>rfl
  |true=>rw[Bool.true_and];exact Ad7 F n ok b h hn d (i+1) k (by omega) (by omega)
theorem Xu{α:Type}(p:α→Bool)(xs:List α)(ok:Nat→Bool)(a:∀i (hi:i<xs.length),ok i=p xs[i]):∀(d i:Nat),xs.length=i+d→(List.range' i d).all ok=(xs.drop i).all p
 |0,i,h=>by rw[List.drop_eq_nil_of_le (by omega)];rfl
 |d+1,i,h=>by
  have hi:i<xs.length:=by omega
  rw[List.range'_succ,List.all_cons,List.drop_eq_getElem_cons hi,List.all_cons,a i hi];rw[Xu p xs ok a d (i+1) (by omega)]
theorem Me{α β:Type}(xs:List α)(F:Nat→Nat→Option (β⊕Unit))(ok:α→Bool)(b:β)(h:∀m i (hi:i<xs.length),F (m+1) i=cond (ok xs[i]) (F m (i+1)) (some (.inl b)))(hn:∀m,F (m+1) xs.length=some (.inr ()))
  {k:Nat}(hk:xs.length<k):F k 0=some (cond (xs.all ok) (.inr ()) (.inl b)):=by
 by_cases a:xs.length=0
 ·obtain rfl:=List.eq_nil_of_length_eq_zero a;obtain⟨k,rfl⟩:∃k',k=k'+1:=⟨k-1,by omega⟩;exact hn k
 ·have a0:α:=xs[0]'(by omega);have e:=Xu ok xs (fun i=>ok (xs.getD i a0)) (fun i hi=>by simp[List.getElem?_eq_getElem hi]) xs.length 0 (by omega);rw[List.drop_zero] at e;rw[←e];refine Ad7 F xs.length (fun i=>ok (xs.getD i a0)) b (fun m i hi=>?_) hn xs.length 0 k (by omega) hk;have:=h m i hi;simpa[List.getElem?_eq_getElem hi] using this
theorem TX:∀(l:List Int) (s:Int),l.foldl (· +·) s=s+l.sum
 |[],s=>by simp
 |x::l,s=>by rw[List.foldl_cons,TX l,List.sum_cons];omega
theorem Pv{a b:Int}(ha:a≤0)(hb:0≤b):∀l:List Int,(∀x∈l,a≤x∧x≤b)→a*l.length≤l.sum∧l.sum≤b*l.length
 |[],_=>by simp
 |x::l,h=>by
  have h1:=h x (List.mem_cons_self ..);have h2:=Pv ha hb l fun y c=>h y (List.mem_cons_of_mem _ c);rw[List.sum_cons,List.length_cons];have d:a*((l.length+1:Nat):Int)=a*l.length+a:=by rw[Int.natCast_add,Int.mul_add];simp
  have e:b*((l.length+1:Nat):Int)=b*l.length+b:=by rw[Int.natCast_add,Int.mul_add];simp
  omega
def run {σ α:Type} (cb:σ→α→Option (Bool×σ)):List α→σ→Option (Bool×σ)
 |[],s=>some (true,s)
 |x::l,s=>(cb s x).bind fun r=>cond r.1 (run cb l r.2) (some (false,r.2))
theorem run_pure{σ α:Type}{cb:σ→α→Option (Bool×σ)}{ok:α→Bool}:∀(l:List α) (s:σ),(∀x∈l,∀s,cb s x=some (ok x,s))→run cb l s=some (l.all ok,s)
 |[],s,_=>rfl
 |x::l,s,h=>by
  rw[run,bd (h x (List.mem_cons_self ..) s),List.all_cons];cases ok x with
  |false=>rfl
  |true=>exact run_pure l s fun y a=>h y (List.mem_cons_of_mem _ a)
theorem Aa5{σ α:Type}(F:Nat→Int→σ→Option ((Int×σ)⊕σ))(cb:σ→α→Option (Bool×σ))(p:List α)
  (a:∀m i s,F (m+1) i s=cond (decide (i<(p.length:Int))) ((idx p i).bind fun x=>(((cb s x).bind fun r=>some (!r.1,r.2)).bind fun r=>some (r.1,r.2)).bind fun r=>cond r.1 (some (.inl (i,r.2))) ((i64 (i+1)).bind fun _=>F m (i+1) r.2)) (some (.inr s)))
  (c:p.length≤5000):∀(n m i:Nat) (s:σ),p.length=i+n→n<m→
  (((F m (i:Int) s).bind fun z=>Sum.elim (fun q=>some (q.1,q.2)) (fun q=>some (((-1:Int)),q)) z).bind fun r=>some (decide ((0:Int)≤r.1),r.2)).bind (fun r=>some (!r.1,r.2))=run cb (p.drop i) s
 |n,0,i,s,h,hm=>by omega
 |0,m+1,i,s,h,hm=>by
  rw[a,cf (df (by omega)),List.drop_eq_nil_of_le (by omega)];rfl
 |n+1,m+1,i,s,h,hm=>by
  have hi:i<p.length:=by omega
  rw[a,ct (dt (by omega)),BS hi,List.drop_eq_getElem_cons hi,run];cases cb s p[i] with
  |none=>rfl
  |some r=>
   obtain⟨b,s2⟩:=r;simp only[Option.bind_some];cases b with
   |false=>
    rw[nf];show some (!decide ((0:Int)≤(i:Int)),s2)=some (false,s2);rw[dt (by omega)];rfl
   |true=>
    rw[nt,AZ (by omega) (by omega),CZ i,ct rfl];exact Aa5 F cb p a c n m (i+1) s2 (by omega) (by omega)
theorem MR{σ α:Type}{F:Nat→Int→σ→Option ((Int×σ)⊕σ)}{cb:σ→α→Option (Bool×σ)}{p:List α}
  (a:∀m i s,F (m+1) i s=cond (decide (i<(p.length:Int))) ((idx p i).bind fun x=>(((cb s x).bind fun r=>some (!r.1,r.2)).bind fun r=>some (r.1,r.2)).bind fun r=>cond r.1 (some (.inl (i,r.2))) ((i64 (i+1)).bind fun _=>F m (i+1) r.2)) (some (.inr s)))
  (b:p.length≤900){K:Nat}(hK:1000≤K)(s:σ):
  (((F K (0:Int) s).bind fun z=>Sum.elim (fun q=>some (q.1,q.2)) (fun q=>some (((-1:Int)),q)) z).bind fun r=>some (decide ((0:Int)≤r.1),r.2)).bind (fun r=>some (!r.1,r.2))=run cb p s:=
 Aa5 F cb p a (by omega) p.length K 0 s (by omega) (by omega)
section
variable{K:Nat}(hK:1000≤K)
include hK
theorem AaP{σ:Type}(cb:σ→AN→Option (Bool×σ))(p:List AN)(a:p.length≤900)(s:σ):Ql K cb p s=run cb p s:=
 MR (F:=Ls (fun(st:σ) (x:AN)=>(Oy K cb x st).bind fun r=>some (r.1,r.2)) p) (fun _ _ _=>rfl) a hK s
theorem AbN{σ:Type}(cb:σ→List Int→Option (Bool×σ))(p:List (List Int))(a:p.length≤900)(s:σ):QO K cb p s=run cb p s:=
 MR (F:=LJ (fun(st:σ) (x:List Int)=>(O4 K cb x st).bind fun r=>some (r.1,r.2)) p) (fun _ _ _=>rfl) a hK s
theorem AaQ{σ:Type}(cb:σ→FD→Option (Bool×σ))(p:List FD)(a:p.length≤900)(s:σ):Qm K cb p s=run cb p s:=
 MR (F:=Lt (fun(st:σ) (x:FD)=>(OA K cb x st).bind fun r=>some (r.1,r.2)) p) (fun _ _ _=>rfl) a hK s
theorem Ack{σ:Type}(cb:σ→Int→Option (Bool×σ))(p:List Int)(a:p.length≤900)(s:σ):Rl K cb p s=run cb p s:=
 MR (F:=Gh (fun(st:σ) (x:Int)=>(Pq K cb x st).bind fun r=>some (r.1,r.2)) p) (fun _ _ _=>rfl) a hK s
theorem ZW{σ:Type}(cb:σ→Ez→Option (Bool×σ))(p:List Ez)(a:p.length≤900)(s:σ):P3 K cb p s=run cb p s:=
 MR (F:=Lu (fun(st:σ) (x:Ez)=>(N7 K cb x st).bind fun r=>some (r.1,r.2)) p) (fun _ _ _=>rfl) a hK s
theorem ZX{σ:Type}(cb:σ→CU→Option (Bool×σ))(p:List CU)(a:p.length≤900)(s:σ):P4 K cb p s=run cb p s:=
 MR (F:=Lv (fun(st:σ) (x:CU)=>(N8 K cb x st).bind fun r=>some (r.1,r.2)) p) (fun _ _ _=>rfl) a hK s
theorem AaR{σ:Type}(cb:σ→Ct→Option (Bool×σ))(p:List Ct)(a:p.length≤900)(s:σ):Qo K cb p s=run cb p s:=
 MR (F:=LK (fun(st:σ) (x:Ct)=>(OE K cb x st).bind fun r=>some (r.1,r.2)) p) (fun _ _ _=>rfl) a hK s
end
theorem Jk(K:Nat)(n a b:Int):Dh K n a b=some (EB n a b):=by unfold Dh EB;cases decide (a≤n)<;>rfl
theorem SP(K:Nat)(n a b:Int):N2 K n a b=some (EB n a b):=by unfold N2 EB;cases decide (a≤n)<;>rfl
theorem JE(K:Nat)(n a b:Int):Kw K n a b=some (EB n a b):=by unfold Kw EB;cases decide (a≤n)<;>rfl
def RW (lo hi a b:Int):Bool:=decide (a≤lo)&&(decide (lo≤hi)&&decide (hi≤b))
theorem Yg{lo hi a b:Int}:RW lo hi a b=true↔a≤lo∧lo≤hi∧hi≤b:=by simp[RW]
theorem Sy(K:Nat)(r:AN)(a b:Int):KF K r a b=some (RW r.Lo r.Hi a b):=by
 unfold KF RW;cases decide (a≤r.Lo)
 ·rfl
 ·cases decide (r.Lo≤r.Hi)<;>rfl
theorem WG(K:Nat)(r:AN):LW K r=some (RW r.Lo r.Hi 0 100):=Sy K r 0 100
theorem AgZ(K:Nat)(r:AN)(b:Int):Qn K r b=some (RW r.Lo r.Hi 0 b):=Sy K r 0 b
theorem MO{K:Nat}(hK:1000≤K)(l:List Int)(hl:l.length≤100)(hb:∀x∈l,0≤x∧x≤10000):Ft K l=some l.sum:=by
 unfold Ft;have h:Je l K 0 0=some (l.foldl (· +·) 0):=Xt l (fun m s i=>Je l m s (i:Int)) (· +·) (fun i s=>0≤s∧s≤10000*(i:Int)) id (fun i s hi hs=>by have:=hb _ (List.getElem_mem hi);omega)
  (fun m i s hi hs=>by
   have hx:=hb _ (List.getElem_mem hi);show Je l (m+1) s (i:Int)=_;rw[Je.eq_2,ct (dt (by omega)),BS hi,AZ (by omega) (by omega),AZ (by omega) (by omega),CZ i])
  (fun m s _=>by
   show Je l (m+1) s (l.length:Int)=_;rw[Je.eq_2,cf (df (by omega))];rfl) (by omega) (by omega)
 rw[bd h,TX,Int.zero_add]
theorem Acl{K:Nat}(hK:1000≤K)(l:List Int)(hl:l.length≤100)(hb:∀x∈l,0≤x∧x≤10000):Rk K l=some l.sum:=by
 unfold Rk;have h:Mx l K 0 0=some (l.foldl (· +·) 0):=Xt l (fun m s i=>Mx l m s (i:Int)) (· +·) (fun i s=>0≤s∧s≤10000*(i:Int)) id (fun i s hi hs=>by have:=hb _ (List.getElem_mem hi);omega)
  (fun m i s hi hs=>by
   have hx:=hb _ (List.getElem_mem hi);show Mx l (m+1) s (i:Int)=_;rw[Mx.eq_2,ct (dt (by omega)),BS hi,AZ (by omega) (by omega),AZ (by omega) (by omega),CZ i])
  (fun m s _=>by
   show Mx l (m+1) s (l.length:Int)=_;rw[Mx.eq_2,cf (df (by omega))];rfl) (by omega) (by omega)
 rw[bd h,TX,Int.zero_add]
def Sa(c:AV)(l:List Int):Bool:=l.all (fun x=>EB x 0 30)&&(l.length==c.AF.length)
def Sb(c:AV)(l:List Int):Bool:=Sa c l&&decide (0<l.sum)
def QY(c:AV)(t:FD):Bool:=EB t.Number 0 ((cond t.C0 c.BW.length c.AF.length:Nat)-1)&&RW t.Bq t.Br 0 100
def BI(r:AN):Int:=r.Hi-r.Lo+1
def Dm(l:List AN):Int:=l.foldl (fun n r=>n*BI r) 1
def NO(c:AV):Int:=
 if 3<c.AF.length∨3<c.BW.length∨5<c.Bt.length then 3
 else if c.AF.length=0 then 1
 else if !(c.AF.all fun r=>RW r.Lo r.Hi 0 100) then 1
 else if !(c.BW.all (Sb c)) then 1
 else if !(c.Bt.all (QY c)) then 1
 else if 2000<Dm c.AF then 3 else 0
theorem Vn{c:AV}{l:List Int}(h:Sa c l=true):l.length=c.AF.length∧∀x∈l,0≤x∧x≤30:=by
 unfold Sa at h;rw[Bool.and_eq_true,List.all_eq_true,beq_iff_eq] at h;exact⟨h.2,fun x hx=>Dv.1 (h.1 x hx)⟩
theorem Adb(a b:Nat):((a:Int)==(b:Int))=(a==b):=by rw[Bool.eq_iff_iff,beq_iff_eq,beq_iff_eq];omega
theorem Acm{K:Nat}(hK:1000≤K)(c:AV)(l:List Int)(hl:l.length≤100):Nk K c l=some (Sa c l):=by
 unfold Nk;have h:H8 K l K 0=_:=Me l (fun m i=>H8 K l m (i:Int)) (fun x=>EB x 0 30) false (fun m i hi=>by
   show H8 K l (m+1) (i:Int)=_;rw[H8.eq_2,ct (dt (by omega)),BS hi,bd (Jk ..)];cases EB l[i] 0 30 with
   |false=>rw[nf,cf rfl]
   |true=>rw[nt,AZ (by omega) (by omega),CZ i,ct rfl])
  (fun m=>by
   show H8 K l (m+1) (l.length:Int)=_;rw[H8.eq_2,cf (df (by omega))]) (k:=K) (by omega)
 rw[bd h];unfold Sa;cases l.all (fun x=>EB x 0 30) with
 |false=>rw[cf rfl,Bool.false_and];rfl
 |true=>
  rw[ct rfl,Bool.true_and,←Adb];rfl
def EU(r:AN):Prop:=0≤r.Lo∧r.Lo≤r.Hi∧r.Hi≤100
theorem Aev{r:AN}:RW r.Lo r.Hi 0 100=true↔EU r:=Yg
theorem Jl(K:Nat){r:AN}(h:EU r):FM K r=some (BI r):=by
 unfold EU at h;unfold FM BI;rw[AZ (by omega) (by omega),AZ (by omega) (by omega)]
theorem Aew(K:Nat){r:AN}(h:EU r):P2 K r=some (BI r):=Jl K h
theorem D0{r:AN}(h:EU r):1≤BI r∧BI r≤101:=by unfold EU at h;unfold BI;omega
theorem Jw{a b x y:Int}(ha:0≤a)(hx:a≤x)(hb:0≤b)(c:b≤y):0≤a*b∧a*b≤x*y:=
 ⟨Int.mul_nonneg ha hb,Int.mul_le_mul hx c hb (by omega)⟩
theorem foldl_min{C:Int}(b:0≤C):∀(l:List AN) (s:Int),(∀r∈l,EU r)→0≤s→l.foldl (fun n r=>min C (n*BI r)) (min C s)=min C (l.foldl (fun n r=>n*BI r) s)
 |[],s,_,_=>rfl
 |r::l,s,h,hs=>by
  have hr:=D0 (h r (List.mem_cons_self ..));rw[List.foldl_cons,List.foldl_cons];have e:min C (min C s*BI r)=min C (s*BI r):=by
   rcases Int.le_total C s with a|a
   ·rw[Int.min_eq_left a];have h1:C*1≤C*BI r:=Int.mul_le_mul_of_nonneg_left hr.1 b;have h2:s*1≤s*BI r:=Int.mul_le_mul_of_nonneg_left hr.1 hs;rw[Int.min_eq_left (by omega),Int.min_eq_left (by omega)]
   ·rw[Int.min_eq_right a]
  rw[e];exact foldl_min b l (s*BI r) (fun y c=>h y (List.mem_cons_of_mem _ c)) (Int.mul_nonneg hs (by omega))
theorem WH{l:List AN}(h:(l.all fun r=>RW r.Lo r.Hi 0 100)=true):∀r∈l,EU r:=fun r hr=>Aev.1 (List.all_eq_true.1 h r hr)
theorem Gw{a b:Int}(h:a≠b):(a==b)=false:=by rw[Bool.eq_false_iff];intro g;exact h (beq_iff_eq.1 g)
theorem EO{a b:Int}(h:a=b):(a==b)=true:=beq_iff_eq.2 h
theorem E6{a b:Int}(h:a=b):(a !=b)=false:=by rw[h];simp
theorem Fy{a b:Int}(h:a≠b):(a !=b)=true:=by simpa using h
section
variable{K:Nat}(hK:1000≤K)
include hK
theorem QZ(c:AV)(hl:c.AF.length≤100)(h:∀r∈c.AF,EU r):Fb K c=some (min 3000 (Dm c.AF)):=by
 unfold Fb;have a:I2 K c K 1 0=some (c.AF.foldl (fun n r=>min 3000 (n*BI r)) 1):=Xt c.AF (fun m s i=>I2 K c m s (i:Int)) (fun n r=>min 3000 (n*BI r)) (fun _ s=>0≤s∧s≤3000) id
  (fun i s hi hs=>by
   have hr:=D0 (h _ (List.getElem_mem hi));have:=Jw hs.1 hs.2 (by omega:0≤BI c.AF[i]) hr.2;omega)
  (fun m i s hi hs=>by
   show I2 K c (m+1) s (i:Int)=_;have hr:=D0 (h _ (List.getElem_mem hi));have:=Jw hs.1 hs.2 (by omega:0≤BI c.AF[i]) hr.2;rw[I2.eq_2,ct (dt (by omega)),BS hi,bd (Jl K (h _ (List.getElem_mem hi))),AZ (by omega) (by omega),AZ (by omega) (by omega),CZ i])
  (fun m s _=>by
   show I2 K c (m+1) s (c.AF.length:Int)=_;rw[I2.eq_2,cf (df (by omega))];rfl) (by omega) (by omega)
 rw[bd a];have:=foldl_min (C:=3000) (by omega) c.AF 1 h (by omega);rw[Int.min_eq_right (by omega)] at this;rw[this];rfl
theorem RG(a b:Int):Od K [a,b]=some (min a b):=by
 obtain⟨k,rfl⟩:∃k,K=k+3:=⟨K-3,by omega⟩;unfold Od;have c:idx [a,b] (0:Int)=some a:=rfl;have d:idx [a,b] (1:Int)=some b:=rfl;rw[cf (df (by simp)),bd c,MY.eq_2,ct (dt (by simp)),bd d,AZ (by omega) (by omega),MY.eq_2,cf (df (by simp))];rfl
theorem Agn(a b:Int):P8 K [a,b]=some (min a b):=by
 unfold P8;rw[bd (RG hK a b)]
theorem Acn(c:AV)(hl:c.AF.length≤100)(h:∀r∈c.AF,EU r):H6 K c K 1 0=some (min 2001 (Dm c.AF)):=by
 have a:H6 K c K 1 0=some (c.AF.foldl (fun n r=>min 2001 (n*BI r)) 1):=Xt c.AF (fun m s i=>H6 K c m s (i:Int)) (fun n r=>min 2001 (n*BI r)) (fun _ s=>0≤s∧s≤2001) id
  (fun i s hi hs=>by
   have hr:=D0 (h _ (List.getElem_mem hi));have:=Jw hs.1 hs.2 (by omega:0≤BI c.AF[i]) hr.2;omega)
  (fun m i s hi hs=>by
   show H6 K c (m+1) s (i:Int)=_;have hr:=D0 (h _ (List.getElem_mem hi));have:=Jw hs.1 hs.2 (by omega:0≤BI c.AF[i]) hr.2;rw[H6.eq_2,ct (dt (by omega)),BS hi,bd (Aew K (h _ (List.getElem_mem hi))),AZ (by omega) (by omega),bd (Agn hK _ _),AZ (by omega) (by omega),CZ i,Int.min_comm])
  (fun m s _=>by
   show H6 K c (m+1) s (c.AF.length:Int)=_;rw[H6.eq_2,cf (df (by omega))];rfl) (by omega) (by omega)
 rw[a];have:=foldl_min (C:=2001) (by omega) c.AF 1 h (by omega);rw[Int.min_eq_right (by omega)] at this;rw[this];rfl
theorem Adc(c:AV)(hl:c.AF.length≤100):IK K c K 0=some (cond (c.AF.all fun r=>RW r.Lo r.Hi 0 100) (.inr ()) (.inl 1)):=
 Me c.AF (fun m i=>IK K c m (i:Int)) (fun r=>RW r.Lo r.Hi 0 100) 1
  (fun m i hi=>by
   show IK K c (m+1) (i:Int)=_;rw[IK.eq_2,ct (dt (by omega)),BS hi,bd (Sy ..)];cases RW c.AF[i].Lo c.AF[i].Hi 0 100 with
   |false=>rw[nf,cf rfl]
   |true=>rw[nt,AZ (by omega) (by omega),CZ i,ct rfl])
  (fun m=>by
   show IK K c (m+1) (c.AF.length:Int)=_;rw[IK.eq_2,cf (df (by omega))]) (by omega)
theorem Aco(c:AV)(hl:c.BW.length≤100)(d:∀l∈c.BW,l.length≤100):HP K c K 0=some (cond (c.BW.all (Sb c)) (.inr ()) (.inl 1)):=
 Me c.BW (fun m i=>HP K c m (i:Int)) (Sb c) 1
  (fun m i hi=>by
   show HP K c (m+1) (i:Int)=_;have hx:=d _ (List.getElem_mem hi);rw[HP.eq_2,ct (dt (by omega)),BS hi,bd (Acm hK c _ hx)];unfold Sb;cases hs:Sa c c.BW[i] with
   |false=>rw[nf,Bool.false_and,cf rfl]
   |true=>
    obtain⟨h1,h2⟩:=Vn hs;have e:=Pv (a:=0) (b:=30) (by omega) (by omega) _ h2;rw[nt,BS hi,bd (MO hK _ hx (fun x hx=>by have:=h2 x hx;omega)),Bool.true_and]
    by_cases h0:c.BW[i].sum=0
    ·rw[ct (by simp[h0]),cf (df (by omega))]
    ·rw[cf (by simp[h0]),ct (dt (by omega)),AZ (by omega) (by omega),CZ i])
  (fun m=>by
   show HP K c (m+1) (c.BW.length:Int)=_;rw[HP.eq_2,cf (df (by omega))]) (by omega)
theorem Acp(c:AV)(hl:c.Bt.length≤100)(hh:c.AF.length≤100)(a:c.BW.length≤100):Ho K c K 0=some (cond (c.Bt.all (QY c)) (.inr ()) (.inl 1)):=
 Me c.Bt (fun m i=>Ho K c m (i:Int)) (QY c) 1
  (fun m i hi=>by
   show Ho K c (m+1) (i:Int)=_;rw[Ho.eq_2,ct (dt (by omega)),BS hi];unfold QY;cases c.Bt[i].C0 with
   |true=>
    rw[ct rfl,AZ (by omega) (by omega),bd (Jk ..),ct rfl];cases EB c.Bt[i].Number 0 ((c.BW.length:Nat)-1) with
    |false=>rw[nf,Bool.false_and,cf rfl]
    |true=>
     rw[nt,bd (Sy ..),Bool.true_and];cases RW c.Bt[i].Bq c.Bt[i].Br 0 100 with
     |false=>rw[nf,cf rfl]
     |true=>rw[nt,AZ (by omega) (by omega),CZ i,ct rfl]
   |false=>
    rw[cf rfl,AZ (by omega) (by omega),bd (Jk ..),cf rfl];cases EB c.Bt[i].Number 0 ((c.AF.length:Nat)-1) with
    |false=>rw[nf,Bool.false_and,cf rfl]
    |true=>
     rw[nt,bd (Sy ..),Bool.true_and];cases RW c.Bt[i].Bq c.Bt[i].Br 0 100 with
     |false=>rw[nf,cf rfl]
     |true=>rw[nt,AZ (by omega) (by omega),CZ i,ct rfl])
  (fun m=>by
   show Ho K c (m+1) (c.Bt.length:Int)=_;rw[Ho.eq_2,cf (df (by omega))]) (by omega)
theorem ZY(c:AV)(hh:c.AF.length≤100)(a:c.BW.length≤100)(e:c.Bt.length≤100)(f:∀l∈c.BW,l.length≤100):K8 K c=some (NO c):=by
 unfold K8 NO
 by_cases h1:3<c.AF.length
 ·rw[ct (dt (by omega)),if_pos (.inl h1)]
 rw[cf (df (by omega))]
 by_cases h2:3<c.BW.length
 ·rw[ct (dt (by omega)),if_pos (.inr (.inl h2))]
 rw[cf (df (by omega))]
 by_cases g:5<c.Bt.length
 ·rw[ct (dt (by omega)),if_pos (.inr (.inr g))]
 rw[cf (df (by omega)),if_neg (by omega)]
 by_cases b:c.AF.length=0
 ·rw[ct (EO (by omega)),if_pos b]
 rw[cf (Gw (by omega)),if_neg b,bd (Adc hK c hh)];cases h5:c.AF.all fun r=>RW r.Lo r.Hi 0 100 with
 |false=>rw[cf rfl,if_pos (by rfl)];rfl
 |true=>
  rw[ct rfl,if_neg (by simp)];show Option.bind (HP K c K 0) _=_;rw[bd (Aco hK c a f)];cases c.BW.all (Sb c) with
  |false=>rw[cf rfl,if_pos (by rfl)];rfl
  |true=>
   rw[ct rfl,if_neg (by simp)];show Option.bind (Ho K c K 0) _=_;rw[bd (Acp hK c e hh a)];cases c.Bt.all (QY c) with
   |false=>rw[cf rfl,if_pos (by rfl)];rfl
   |true=>
    rw[ct rfl,if_neg (by simp)];show Option.bind (Fb K c) _=_;rw[bd (QZ hK c hh (WH h5))]
    by_cases d:2000<Dm c.AF
    ·rw[ct (dt (by omega)),if_pos d]
    ·rw[cf (df (by omega)),if_neg d]
theorem Acq(c:AV)(l:List Int)(hl:l.length≤100):Ni K c l=some (Sa c l):=by
 unfold Ni Sa;rw[Adb,Ack hK _ _ (by omega),run_pure (ok:=fun x=>EB x 0 30) l () (fun x _ s=>by unfold Qu;rw[bd (SP ..)];rfl)];cases l.length==c.AF.length with
 |false=>rw[cf rfl,Bool.and_false]
 |true=>rw[ct rfl,Bool.and_true];rfl
theorem Ade(c:AV)(l:List Int)(hl:l.length≤100):MA K c l=some (Sb c l):=by
 unfold MA Sb;rw[bd (Acq hK c l hl)];cases hs:Sa c l with
 |false=>rw[cf rfl,Bool.false_and]
 |true=>
  have h2:=(Vn hs).2;rw[ct rfl,bd (Acl hK l hl (fun x hx=>by have:=h2 x hx;omega)),Bool.true_and]
theorem Aex(c:AV)(t:FD)(hh:c.AF.length≤100)(a:c.BW.length≤100):MZ K c t=some (QY c t):=by
 unfold MZ QY;cases t.C0 with
 |true=>
  rw[ct rfl,AZ (by omega) (by omega),bd (SP ..),ct rfl];cases EB t.Number 0 ((c.BW.length:Nat)-1) with
  |false=>rw[cf rfl,Bool.false_and]
  |true=>rw[ct rfl,bd (WG ..),Bool.true_and]
 |false=>
  rw[cf rfl,AZ (by omega) (by omega),bd (SP ..),cf rfl];cases EB t.Number 0 ((c.AF.length:Nat)-1) with
  |false=>rw[cf rfl,Bool.false_and]
  |true=>rw[ct rfl,bd (WG ..),Bool.true_and]
theorem UY(c:AV)(hh:c.AF.length≤100)(d:c.BW.length≤100)(g:c.Bt.length≤100)(e:∀l∈c.BW,l.length≤100):KB K c=some (NO c):=by
 unfold KB NO
 by_cases h1:3<c.AF.length
 ·rw[ct (dt (by omega)),if_pos (.inl h1)]
 rw[cf (df (by omega))]
 by_cases h2:3<c.BW.length
 ·rw[ct (dt (by omega)),if_pos (.inr (.inl h2))]
 rw[cf (df (by omega))]
 by_cases f:5<c.Bt.length
 ·rw[ct (dt (by omega)),if_pos (.inr (.inr f))]
 rw[cf (df (by omega)),if_neg (by omega)]
 by_cases a:c.AF.length=0
 ·rw[ct (EO (by omega)),if_pos a]
 rw[cf (Gw (by omega)),if_neg a,AaP hK _ _ (by omega),run_pure (ok:=fun r=>RW r.Lo r.Hi 0 100) c.AF () (fun x _ s=>by rw[bd (WG ..)]),Option.bind_some];cases h5:c.AF.all fun r=>RW r.Lo r.Hi 0 100 with
 |false=>rw[nf,if_pos (by rfl)]
 |true=>
  rw[nt,if_neg (by simp),AbN hK _ _ (by omega),run_pure (ok:=Sb c) c.BW () (fun x hx s=>by rw[bd (Ade hK c x (e x hx))]),Option.bind_some];cases c.BW.all (Sb c) with
  |false=>rw[nf,if_pos (by rfl)]
  |true=>
   rw[nt,if_neg (by simp),AaQ hK _ _ (by omega),run_pure (ok:=QY c) c.Bt () (fun x hx s=>by rw[bd (Aex hK c x hh d)]),Option.bind_some];cases c.Bt.all (QY c) with
   |false=>rw[nf,if_pos (by rfl)]
   |true=>
    rw[nt,if_neg (by simp),bd (Acn hK c hh (WH h5))]
    by_cases b:2000<Dm c.AF
    ·rw[ct (dt (by omega)),if_pos b]
    ·rw[cf (df (by omega)),if_neg b]
end
def Aj.C(t:Aj):AV:=⟨t.Al,t.Ac,t.Ap⟩
def Pj:Int→Int→List Ez→Bool
 |_,_,[]=>true
 |s,p,g::l=>EB g.BU 0 (s-1)&&(EB g.DT 0 p&&Pj g.BU g.DT l)
def LL(t:Aj)(o:CU):Bool:=EB o.En 0 ((t.AH.length:Nat)-1)&&EB o.Ey 1 90
def Kr(t:Aj)(n:Ct):Bool:=EB n.C0 0 ((t.Ac.length:Nat)-1)&&RW n.Db n.Dc 0 9000
def CP(t:Aj):Int:=
 if NO t.C≠0 then NO t.C
 else if 3<t.AH.length∨3<t.Aw.length∨5<t.Ao.length then 3
 else if !(EB t.Flat 0 100) then 1
 else if t.AH.length=0 then 1
 else if !(Pj 101 100 t.AH) then 1
 else if !(t.Aw.all (LL t)) then 1
 else if !(t.Ao.all (Kr t)) then 1 else 0
def Adf (c:AV):Prop:=c.AF.length≤100∧c.BW.length≤100∧c.Bt.length≤100∧∀l∈c.BW,l.length≤100
def Tx(t:Aj):Prop:=Adf t.C∧t.AH.length≤100∧t.Aw.length≤100∧t.Ao.length≤100
section
variable{K:Nat}(hK:1000≤K)
include hK
theorem Vo(t:Aj)(hl:t.AH.length≤100):∀(n m i:Nat) (s p:Int),t.AH.length=i+n→n<m→(i=0→s=101∧p=100)→
  (∀h:0<i,∃h2:i-1<t.AH.length,s=t.AH[i-1].BU∧p=t.AH[i-1].DT∧s≤100∧p≤100)→
  JD K t m (i:Int)=some (cond (Pj s p (t.AH.drop i)) (.inr ()) (.inl 1))
 |n,0,i,s,p,h,hm,_,_=>by omega
 |0,m+1,i,s,p,h,hm,_,_=>by
  rw[JD.eq_2,cf (df (by omega)),List.drop_eq_nil_of_le (by omega)];rfl
 |n+1,m+1,i,s,p,h,hm,h0,h1=>by
  have hi:i<t.AH.length:=by omega
  rw[JD.eq_2,ct (dt (by omega)),BS hi,bd (Jk ..),List.drop_eq_getElem_cons hi,Pj];have sp:s≤101∧p≤100:=by
   by_cases e:i=0
   ·have:=h0 e;omega
   ·obtain⟨_,_,_,b⟩:=h1 (by omega);omega
  by_cases hs:0≤t.AH[i].BU∧t.AH[i].BU≤100
  ·rw[Dv.2 hs,nt,bd (Jk ..)]
   by_cases a:0≤t.AH[i].DT∧t.AH[i].DT≤100
   ·rw[Dv.2 a,nt]
    by_cases e:i=0
    ·obtain⟨rfl,rfl⟩:=h0 e;rw[cf (df (by omega)),AZ (by omega) (by omega),CZ i,Vo t hl n m (i+1) _ _ (by omega) (by omega) (by omega) (fun _=>⟨by simpa using hi,rfl,rfl,hs.2,a.2⟩),
      Dv.2 ⟨hs.1,by omega⟩,Dv.2 a,Bool.true_and,Bool.true_and]
    ·obtain⟨h2,rfl,rfl,b⟩:=h1 (by omega);have c:(i:Int)-1=((i-1:Nat):Int):=by omega
     rw[ct (dt (by omega)),AZ (by omega) (by omega),c,BS h2]
     by_cases g1:t.AH[i-1].BU≤t.AH[i].BU
     ·rw[ct (dt g1),LP.2 (by omega),Bool.false_and,cf rfl]
     ·rw[cf (df g1),AZ (by omega) (by omega),BS h2]
      by_cases g2:t.AH[i-1].DT<t.AH[i].DT
      ·rw[ct (dt g2),Dv.2 ⟨hs.1,by omega⟩,LP.2 (by omega),Bool.false_and,Bool.true_and,cf rfl]
      ·rw[cf (df g2),AZ (by omega) (by omega),CZ i,Vo t hl n m (i+1) _ _ (by omega) (by omega) (by omega) (fun _=>⟨by simpa using hi,rfl,rfl,hs.2,a.2⟩),
        Dv.2 ⟨hs.1,by omega⟩,Dv.2 ⟨a.1,by omega⟩,Bool.true_and,Bool.true_and]
   ·rw[LP.2 a,nf];have:EB t.AH[i].DT 0 p=false:=LP.2 (by omega);rw[this,Bool.false_and,Bool.and_false,cf rfl]
  ·rw[LP.2 hs,nf,LP.2 (by omega),Bool.false_and,cf rfl]
theorem Xv:∀(l:List Ez) (g:Ez),0≤g.BU∧g.BU≤101→(run (fun(st:Ez) (x:Ez)=>(LN K x st).bind fun r=>some (r.1,r.2)) l g).map (·.1)=some (Pj g.BU g.DT l)
 |[],g,_=>rfl
 |x::l,g,h=>by
  rw[run,Pj];unfold LN;rw[AZ (by omega) (by omega),bd (JE ..)];cases hs:EB x.BU 0 (g.BU-1) with
  |false=>rw[cf rfl,Bool.false_and];rfl
  |true=>
   rw[ct rfl,bd (JE ..),Bool.true_and];cases EB x.DT 0 g.DT with
   |false=>rw[Bool.false_and];rfl
   |true=>
    have h1:=Dv.1 hs;rw[Bool.true_and];exact Xv l x (by omega)
theorem Z0{α β b:Type}{x:Option (α×β)}{a:α}{f:α→Option b}(h:x.map (·.1)=some a):x.bind (fun r=>f r.1)=f a:=by
 cases x with
 |none=>cases h
 |some r=>exact congrArg f (Option.some.inj h)
theorem Adg(t:Aj)(hl:t.AH.length≤100):NN K t=some (decide (0<t.AH.length)&&Pj 101 100 t.AH):=by
 unfold NN
 by_cases h:0<t.AH.length
 ·rw[ct (dt (by omega)),ZW hK _ _ (by omega),dt h,Bool.true_and];exact Z0 hK (f:=some) (Xv hK t.AH ⟨101,100⟩ (by simp))
 ·rw[cf (df (by omega)),df h,Bool.false_and]
theorem Acr(t:Aj)(a:t.AH.length≤100)(hl:t.Aw.length≤100):HQ K t K 0=some (cond (t.Aw.all (LL t)) (.inr ()) (.inl 1)):=
 Me t.Aw (fun m i=>HQ K t m (i:Int)) (LL t) 1
  (fun m i hi=>by
   show HQ K t (m+1) (i:Int)=_;rw[HQ.eq_2,ct (dt (by omega)),BS hi,AZ (by omega) (by omega),bd (Jk ..)];unfold LL;cases EB t.Aw[i].En 0 ((t.AH.length:Nat)-1) with
   |false=>rw[nf,Bool.false_and,cf rfl]
   |true=>
    rw[nt,BS hi,bd (Jk ..),Bool.true_and];cases EB t.Aw[i].Ey 1 90 with
    |false=>rw[nf,cf rfl]
    |true=>rw[nt,AZ (by omega) (by omega),CZ i,ct rfl])
  (fun m=>by
   show HQ K t (m+1) (t.Aw.length:Int)=_;rw[HQ.eq_2,cf (df (by omega))]) (by omega)
theorem Acs(t:Aj)(a:t.Ac.length≤100)(hl:t.Ao.length≤100):HR K t K 0=some (cond (t.Ao.all (Kr t)) (.inr ()) (.inl 1)):=
 Me t.Ao (fun m i=>HR K t m (i:Int)) (Kr t) 1
  (fun m i hi=>by
   show HR K t (m+1) (i:Int)=_;rw[HR.eq_2,ct (dt (by omega)),BS hi,AZ (by omega) (by omega),bd (Jk ..)];unfold Kr;cases EB t.Ao[i].C0 0 ((t.Ac.length:Nat)-1) with
   |false=>rw[nf,Bool.false_and,cf rfl]
   |true=>
    rw[nt,BS hi,bd (Sy ..),Bool.true_and];cases RW t.Ao[i].Db t.Ao[i].Dc 0 9000 with
    |false=>rw[nf,cf rfl]
    |true=>rw[nt,AZ (by omega) (by omega),CZ i,ct rfl])
  (fun m=>by
   show HR K t (m+1) (t.Ao.length:Int)=_;rw[HR.eq_2,cf (df (by omega))]) (by omega)
theorem LQ(t:Aj)(hl:Tx t):F6 K t=some (CP t):=by
 obtain⟨⟨hh,a,e,f⟩,b,g,hn⟩:=hl;unfold F6 CP;have h5:K8 K ⟨t.Al,t.Ac,t.Ap⟩=some (NO t.C):=ZY hK t.C hh a e f;rw[bd h5]
 by_cases h0:NO t.C=0
 ·rw[cf (E6 h0),if_neg (by simp[h0])]
  by_cases h1:3<t.AH.length
  ·rw[ct (dt (by omega)),if_pos (.inl h1)]
  rw[cf (df (by omega))]
  by_cases h2:3<t.Aw.length
  ·rw[ct (dt (by omega)),if_pos (.inr (.inl h2))]
  rw[cf (df (by omega))]
  by_cases i:5<t.Ao.length
  ·rw[ct (dt (by omega)),if_pos (.inr (.inr i))]
  rw[cf (df (by omega)),if_neg (by omega),bd (Jk ..)];cases EB t.Flat 0 100 with
  |false=>rw[nf,if_pos (by rfl)]
  |true=>
   rw[nt,if_neg (by simp)]
   by_cases c:t.AH.length=0
   ·rw[ct (EO (by omega)),if_pos c]
   have d:=Vo hK t b t.AH.length K 0 101 100 (by omega) (by omega) (fun _=>⟨rfl,rfl⟩) (fun h=>by omega);rw[Int.natCast_zero,List.drop_zero] at d;rw[cf (Gw (by omega)),if_neg c,bd d];cases Pj 101 100 t.AH with
   |false=>rw[cf rfl,if_pos (by rfl)];rfl
   |true=>
    rw[ct rfl,if_neg (by simp)];show Option.bind (HQ K t K 0) _=_;rw[bd (Acr hK t b g)];cases t.Aw.all (LL t) with
    |false=>rw[cf rfl,if_pos (by rfl)];rfl
    |true=>
     rw[ct rfl,if_neg (by simp)];show Option.bind (HR K t K 0) _=_;rw[bd (Acs hK t a hn)];cases t.Ao.all (Kr t) with
     |false=>rw[cf rfl,if_pos (by rfl)];rfl
     |true=>rw[ct rfl,if_neg (by simp)];rfl
 ·rw[ct (Fy h0),if_pos h0]
theorem Aey(t:Aj)(n:Int)(a:t.Ac.length≤100):G2 K t n=some (EB n 0 ((t.Ac.length:Nat)-1)):=by
 unfold G2;rw[AZ (by omega) (by omega),bd (JE ..)]
theorem Aez(t:Aj)(o:CU)(a:t.AH.length≤100):M0 K t o=some (LL t o):=by
 unfold M0 LL;rw[AZ (by omega) (by omega),bd (JE ..)];cases EB o.En 0 ((t.AH.length:Nat)-1) with
 |false=>rw[cf rfl,Bool.false_and]
 |true=>rw[ct rfl,bd (JE ..),Bool.true_and]
theorem Ago(t:Aj)(o:Ct)(a:t.Ac.length≤100):Nj K t o=some (Kr t o):=by
 unfold Nj Kr;rw[bd (Aey hK t _ a)];cases EB o.C0 0 ((t.Ac.length:Nat)-1) with
 |false=>rw[cf rfl,Bool.false_and]
 |true=>rw[ct rfl,bd (AgZ ..),Bool.true_and]
theorem Iq(t:Aj)(hl:Tx t):KC K t=some (CP t):=by
 obtain⟨⟨hh,a,d,e⟩,b,h,hn⟩:=hl;unfold KC CP;have h5:KB K ⟨t.Al,t.Ac,t.Ap⟩=some (NO t.C):=UY hK t.C hh a d e;rw[bd h5]
 by_cases h0:NO t.C=0
 ·rw[cf (E6 h0),if_neg (by simp[h0])]
  by_cases h1:3<t.AH.length
  ·rw[ct (dt (by omega)),if_pos (.inl h1)]
  rw[cf (df (by omega))]
  by_cases h2:3<t.Aw.length
  ·rw[ct (dt (by omega)),if_pos (.inr (.inl h2))]
  rw[cf (df (by omega))]
  by_cases f:5<t.Ao.length
  ·rw[ct (dt (by omega)),if_pos (.inr (.inr f))]
  have g:Qv K t.Flat=some (EB t.Flat 0 100):=by unfold Qv;rw[bd (JE ..)]
  rw[cf (df (by omega)),if_neg (by omega),bd g];cases EB t.Flat 0 100 with
  |false=>rw[nf,if_pos (by rfl)]
  |true=>
   rw[nt,if_neg (by simp),bd (Adg hK t b)]
   by_cases c:t.AH.length=0
   ·rw[df (by omega),Bool.false_and,nf,if_pos c]
   rw[if_neg c,dt (by omega),Bool.true_and];cases Pj 101 100 t.AH with
   |false=>rw[nf,if_pos (by rfl)]
   |true=>
    rw[nt,if_neg (by simp),ZX hK _ _ (by omega),run_pure (ok:=LL t) t.Aw () (fun x hx s=>by rw[bd (Aez hK t x b)]),Option.bind_some];cases t.Aw.all (LL t) with
    |false=>rw[nf,if_pos (by rfl)]
    |true=>
     rw[nt,if_neg (by simp),AaR hK _ _ (by omega),run_pure (ok:=Kr t) t.Ao () (fun x hx s=>by rw[bd (Ago hK t x a)]),Option.bind_some];cases t.Ao.all (Kr t) with
     |false=>rw[nf,if_pos (by rfl)]
     |true=>rw[nt,if_neg (by simp)]
 ·rw[ct (Fy h0),if_pos h0]
end
def DE:List AN→List Int→Bool
 |[],[]=>true
 |r::rs,x::xs=>EB x r.Lo r.Hi&&DE rs xs
 |_,_=>false
theorem Qw:DE [] []=true:=rfl
theorem HA:∀{rs:List AN} {l:List Int},DE rs l=true→l.length=rs.length
 |[],[],_=>rfl
 |[],_::_,h=>by cases h
 |_::_,[],h=>by cases h
 |r::rs,x::xs,h=>by
  rw[DE,Bool.and_eq_true] at h;rw[List.length_cons,List.length_cons,HA h.2]
theorem Qx:∀{rs:List AN} {l:List Int},(∀r∈rs,EU r)→DE rs l=true→∀x∈l,0≤x∧x≤100
 |[],[],_,_,x,hx=>by cases hx
 |[],_::_,_,h,_,_=>by cases h
 |_::_,[],_,h,_,_=>by cases h
 |r::rs,y::xs,hr,h,x,hx=>by
  rw[DE,Bool.and_eq_true] at h;rcases List.mem_cons.1 hx with rfl|hx
  ·have h1:=Dv.1 h.1;have h2:EU r:=hr r (List.mem_cons_self ..);unfold EU at h2;omega
  ·exact Qx (fun r a=>hr r (List.mem_cons_of_mem _ a)) h.2 x hx
def dot:List Int→List Int→Int
 |w::ws,x::xs=>w*x+dot ws xs
 |_,_=>0
def CI(l w:List Int):Int:=dot w l/w.sum
theorem P9:∀(w l:List Int),(∀x∈w,0≤x∧x≤30)→(∀x∈l,0≤x∧x≤100)→0≤dot w l∧dot w l≤100*w.sum
 |[],l,_,_=>by simp[dot]
 |w::ws,[],hw,_=>by
  have:=(Pv (a:=0) (b:=30) (by omega) (by omega) (w::ws) hw).1;simp only[dot];omega
 |w::ws,x::xs,hw,hx=>by
  have h1:=hw w (List.mem_cons_self ..);have h2:=hx x (List.mem_cons_self ..);have d:=P9 ws xs (fun y c=>hw y (List.mem_cons_of_mem _ c)) (fun y c=>hx y (List.mem_cons_of_mem _ c));have e:w*x≤w*100:=Int.mul_le_mul_of_nonneg_left h2.2 h1.1;have h5:=Int.mul_nonneg h1.1 h2.1;rw[dot,List.sum_cons];omega
theorem Qa{w l:List Int}(hw:∀x∈w,0≤x∧x≤30)(hl:∀x∈l,0≤x∧x≤100)(hs:0<w.sum):0≤CI l w∧CI l w≤100:=by
 have h:=P9 w l hw hl;unfold CI;refine⟨Int.ediv_nonneg h.1 (by omega),?_⟩;have:=Int.ediv_le_ediv hs h.2
 rwa[Int.mul_ediv_cancel _ (by omega)] at this
def Ge (c:AV) (l:List Int) (t:FD):Int:=cond t.C0 (CI l (c.BW.getD t.Number.toNat [])) (l.getD t.Number.toNat 0)
def Qy(c:AV)(l:List Int):Bool:=c.Bt.all fun t=>EB (Ge c l t) t.Bq t.Br
def BJ(c:AV)(l:List Int):Bool:=DE c.AF l&&Qy c l
structure OkC (c:AV):Prop where
 len:Adf c
 fault:NO c=0
 many:Dm c.AF≤150
theorem PO{c:AV}(h:NO c=0):c.AF.length≤3∧c.BW.length≤3∧c.Bt.length≤5∧0<c.AF.length∧(∀r∈c.AF,EU r)∧(∀l∈c.BW,Sb c l=true)∧(∀t∈c.Bt,QY c t=true)∧Dm c.AF≤2000:=by
 unfold NO at h;split at h
 ·omega
 rename_i h1
 split at h
 ·omega
 rename_i h2
 split at h
 ·omega
 rename_i a
 split at h
 ·omega
 rename_i b
 split at h
 ·omega
 rename_i h5
 split at h
 ·omega
 rename_i d
 refine⟨by omega,by omega,by omega,by omega,WH (by simpa using a),?_,?_,by omega⟩
 ·exact List.all_eq_true.1 (by simpa using b)
 ·exact List.all_eq_true.1 (by simpa using h5)
namespace OkC
variable{c:AV}(h:OkC c)
include h
theorem hl:c.AF.length≤3:=(PO h.fault).1
theorem cl:c.BW.length≤3:=(PO h.fault).2.1
theorem tl:c.Bt.length≤5:=(PO h.fault).2.2.1
theorem h0:0<c.AF.length:=(PO h.fault).2.2.2.1
theorem ok:∀r∈c.AF,EU r:=(PO h.fault).2.2.2.2.1
theorem Hc:∀l∈c.BW,l.length=c.AF.length∧(∀x∈l,0≤x∧x≤30)∧0<l.sum∧l.sum≤90:=fun l hl=>by
 have h1:=(PO h.fault).2.2.2.2.2.1 l hl;unfold Sb at h1;rw[Bool.and_eq_true,decide_eq_true_eq] at h1;have h2:=Vn h1.1;have d:=Pv (a:=0) (b:=30) (by omega) (by omega) l h2.2;have e:=h.hl;exact⟨h2.1,h2.2,h1.2,by omega⟩
theorem SI:∀t∈c.Bt,0≤t.Number∧(t.C0=true→t.Number<c.BW.length)∧(t.C0=false→t.Number<c.AF.length):=fun t a=>by
 have h1:=(PO h.fault).2.2.2.2.2.2.1 t a;unfold QY at h1;rw[Bool.and_eq_true] at h1;have h2:=Dv.1 h1.1;refine⟨h2.1,fun e=>?_,fun e=>?_⟩
 ·rw[e,cond_true] at h2;omega
 ·rw[e,cond_false] at h2;omega
end OkC
theorem HW{c:AV}{l:List Int}(h:BJ c l=true):DE c.AF l=true:=by
 unfold BJ at h;rw[Bool.and_eq_true] at h;exact h.1
section
variable{K:Nat}(hK:1000≤K)
include hK
end
theorem Cx{α:Type}{l:List α}{i:Nat}(d:α)(h:i<l.length):l.getD i d=l[i]:=by simp[List.getElem?_eq_getElem h]
section
variable{K:Nat}(hK:1000≤K)
include hK
theorem KH(p:List Int)(x:Int)(b:p.length≤900):Ip K p x=some (p.contains x):=by
 have h:∀(n m i:Nat),p.length=i+n→n<m→((Lf p x m (i:Int)).bind fun z=>Sum.elim (fun q=>some q) (fun _=>some (-1)) z).bind (fun r=>some (decide ((0:Int)≤r)))=some ((p.drop i).contains x):=by
  intro n
  induction n with
  |zero=>
   intro m i h hm;obtain⟨m,rfl⟩:∃a,m=a+1:=⟨m-1,by omega⟩;rw[Lf.eq_2,cf (df (by omega)),List.drop_eq_nil_of_le (by omega)];rfl
  |succ n ih=>
   intro m i h hm;obtain⟨m,rfl⟩:∃a,m=a+1:=⟨m-1,by omega⟩;have hi:i<p.length:=by omega
   rw[Lf.eq_2,ct (dt (by omega)),BS hi,List.drop_eq_getElem_cons hi,List.contains_cons];cases e:x==p[i] with
   |true=>
    rw[ct rfl,Bool.true_or];show some (decide ((0:Int)≤(i:Int)))=some true;rw[dt (by omega)]
   |false=>rw[cf rfl,AZ (by omega) (by omega),CZ i,Bool.false_or];exact ih m (i+1) (by omega) (by omega)
 have:=h p.length K 0 (by omega) (by omega);rw[Int.natCast_zero,List.drop_zero] at this;exact this
end
def arr (l:List Int):Be:=⟨l.getD 0 0,l.getD 1 0,l.getD 2 0⟩
theorem Agp(l:List Int):(⟨0,0,0⟩:Be).cp l=arr l:=rfl
theorem AeA{w l:List Int}(a:l.length≤3)(h:w.length=l.length):dot w [(arr l).a0,(arr l).a1,(arr l).a2]=dot w l:=by
 match w,l,a,h with
 |[],[],_,_=>rfl
 |[_],[_],_,_=>rfl
 |[_,_],[_,_],_,_=>rfl
 |[_,_,_],[_,_,_],_,_=>rfl
 |_::_::_::_::_,_::_::_::_::_,a,_=>simp at a
theorem Hr{l:List Int}(a:l.length≤3){k:Nat}(hk:k<l.length):idx [(arr l).a0,(arr l).a1,(arr l).a2] (k:Int)=some l[k]:=by
 match l,k,a,hk with
 |_::_,0,_,_=>rfl
 |_::_::_,1,_,_=>rfl
 |_::_::_::_,2,_,_=>rfl
 |l,k+3,a,hk=>omega
theorem Agq{l:List Int}(b:∀x∈l,0≤x∧x≤100):∀x∈[(arr l).a0,(arr l).a1,(arr l).a2],0≤x∧x≤100:=by
 have h:∀k,0≤l.getD k 0∧l.getD k 0≤100:=fun k=>by
  by_cases hk:k<l.length
  ·rw[Cx _ hk];exact b _ (List.getElem_mem hk)
  ·rw[List.getD_eq_getElem?_getD,List.getElem?_eq_none (by omega)];simp
 intro x hx;simp only[arr,List.mem_cons,List.not_mem_nil,or_false] at hx;rcases hx with rfl|rfl|rfl<;>exact h _
theorem Aa6(s:Be)(w:List Int)(hw:w.length≤3)(bw:∀x∈w,0≤x∧x≤30)(bl:∀x∈[s.a0,s.a1,s.a2],0≤x∧x≤100):∀(n m i:Nat) (z:Int),w.length=i+n→n<m→0≤z∧z≤3000*(i:Int)→
  J6 s w m z (i:Int)=some (z+dot (w.drop i) ([s.a0,s.a1,s.a2].drop i))
 |n,0,i,z,h,hm,_=>by omega
 |0,m+1,i,z,h,hm,hs=>by
  rw[J6.eq_2,cf (df (by omega)),List.drop_eq_nil_of_le (by omega:w.length≤i)];simp[dot]
 |n+1,m+1,i,z,h,hm,hs=>by
  have h2:i<w.length:=by omega
  have h1:i<[s.a0,s.a1,s.a2].length:=by simp;omega
  have b1:=bw _ (List.getElem_mem h2);have b2:=bl _ (List.getElem_mem h1);have b3:=Jw b1.1 b1.2 b2.1 b2.2;rw[J6.eq_2,ct (dt (by omega)),BS h2,BS h1,AZ (by omega) (by omega),AZ (by omega) (by omega),AZ (by omega) (by omega),CZ i,
   Aa6 s w hw bw bl n m (i+1) _ (by omega) (by omega) (by omega),List.drop_eq_getElem_cons h1,List.drop_eq_getElem_cons h2,dot,Int.add_assoc]
section
variable{K:Nat}(hK:1000≤K)
include hK
theorem AeB{l w:List Int}(hl:l.length≤3)(hw:w.length=l.length)(bw:∀x∈w,0≤x∧x≤30)(bl:∀x∈l,0≤x∧x≤100)(hs:0<w.sum):Lg K (arr l) w=some (CI l w):=by
 unfold Lg;have h:=Aa6 (arr l) w (by omega) bw (Agq bl) w.length K 0 0 (by omega) (by omega) (by omega);rw[Int.natCast_zero,Int.zero_add,List.drop_zero,List.drop_zero,AeA hl hw] at h;have h2:=P9 w l bw bl;have d:=Pv (a:=0) (b:=30) (by omega) (by omega) w bw;have c:=Qa bw bl hs;unfold CI at c⊢;rw[bd h,bd (Acl hK w (by omega) (fun x hx=>by have:=bw x hx;omega)),Pu (by omega) (by omega),AZ (by omega) (by omega)]
theorem Xw{c:AV}(a:OkC c){l:List Int}(hl:DE c.AF l=true){k:Nat}(hk:k<c.BW.length):Lg K (arr l) c.BW[k]=some (CI l c.BW[k]):=by
 obtain⟨h1,h2,b,_⟩:=a.Hc _ (List.getElem_mem hk);have hh:=HA hl;have:=a.hl;exact AeB hK (by omega) (by omega) h2 (Qx a.ok hl) b
theorem Adh{c:AV}(b:OkC c){l:List Int}(hl:DE c.AF l=true):N6 K c (arr l) []=some (Qy c l):=by
 have hh:=HA hl;have d:=b.hl;have:=b.cl;have:=b.tl;unfold N6;have h:H7 K c (arr l) [] K 0=some (cond (c.Bt.all fun t=>EB (Ge c l t) t.Bq t.Br) (.inr ()) (.inl false)):=
  Me c.Bt (fun m i=>H7 K c (arr l) [] m (i:Int)) (fun t=>EB (Ge c l t) t.Bq t.Br) false
   (fun m i hi=>by
    show H7 K c (arr l) [] (m+1) (i:Int)=_;obtain⟨h0,h1,h2⟩:=b.SI _ (List.getElem_mem hi);have e:N5 K c c.Bt[i]=some (cond c.Bt[i].C0 ((c.AF.length:Int)+c.Bt[i].Number) c.Bt[i].Number):=by
     unfold N5;cases e:c.Bt[i].C0 with
     |true=>have:=h1 e;rw[ct rfl,AZ (by omega) (by omega),ct rfl]
     |false=>rw[cf rfl,cf rfl]
    have f:Pr K c (arr l) (cond c.Bt[i].C0 ((c.AF.length:Int)+c.Bt[i].Number) c.Bt[i].Number)=some (Ge c l c.Bt[i]):=by
     unfold Pr Ge;cases e:c.Bt[i].C0 with
     |true=>
      have d:=h1 e;obtain⟨k,hk⟩:∃k:Nat,c.Bt[i].Number=k:=⟨c.Bt[i].Number.toNat,by omega⟩;have a:k<c.BW.length:=by omega
      have g:(c.AF.length:Int)+(k:Int)-(c.AF.length:Int)=(k:Int):=by omega
      rw[ct rfl,ct rfl,hk,ct (dt (by omega)),AZ (by omega) (by omega),g,BS a,bd (Xw hK b hl a),Int.toNat_natCast,Cx _ a]
     |false=>
      have o:=h2 e;obtain⟨k,hk⟩:∃k:Nat,c.Bt[i].Number=k:=⟨c.Bt[i].Number.toNat,by omega⟩;have a:k<l.length:=by omega
      rw[cf rfl,cf rfl,hk,cf (df (by omega)),bd (Hr (by omega) a),Int.toNat_natCast,Cx _ a]
    have j:Mj K ⟨c.Bt[i].Bq,c.Bt[i].Br⟩ (Ge c l c.Bt[i])=some (EB (Ge c l c.Bt[i]) c.Bt[i].Bq c.Bt[i].Br):=by
     unfold Mj;rw[bd (SP ..)]
    have n:List.contains ([]:List Int) (i:Int)=false:=rfl;rw[H7.eq_2,ct (dt (by omega)),BS hi,bd (KH hK [] _ (by simp)),n,nf,bd e,bd f,bd j];cases EB (Ge c l c.Bt[i]) c.Bt[i].Bq c.Bt[i].Br with
    |false=>rw[nf,cf rfl]
    |true=>rw[nt,AZ (by omega) (by omega),CZ i,ct rfl])
   (fun m=>by
    show H7 K c (arr l) [] (m+1) (c.Bt.length:Int)=_;rw[H7.eq_2,cf (df (by omega))]) (by omega)
 rw[bd h];unfold Qy;cases c.Bt.all fun t=>EB (Ge c l t) t.Bq t.Br with
 |false=>rfl
 |true=>rfl
theorem YU(c:AV)(l:List Int)(hh:c.AF.length≤100)(he:l.length=c.AF.length):∀(n m i:Nat),l.length=i+n→n<m→
  Ks K c l m (i:Int)=some (cond (DE (c.AF.drop i) (l.drop i)) (.inr ()) (.inl false))
 |n,0,i,h,hm=>by omega
 |0,m+1,i,h,hm=>by
  rw[Ks.eq_2,cf (df (by omega)),List.drop_eq_nil_of_le (by omega:l.length≤i),List.drop_eq_nil_of_le (by omega:c.AF.length≤i),Qw,ct rfl]
 |n+1,m+1,i,h,hm=>by
  have h1:i<l.length:=by omega
  have h2:i<c.AF.length:=by omega
  have e:Mj K c.AF[i] l[i]=some (EB l[i] c.AF[i].Lo c.AF[i].Hi):=by unfold Mj;rw[bd (SP ..)]
  rw[Ks.eq_2,ct (dt (by omega)),BS h2,BS h1,bd e,List.drop_eq_getElem_cons h1,List.drop_eq_getElem_cons h2,DE];cases EB l[i] c.AF[i].Lo c.AF[i].Hi with
  |false=>rw[nf,Bool.false_and,cf rfl]
  |true=>rw[nt,AZ (by omega) (by omega),CZ i,Bool.true_and,YU c l hh he n m (i+1) (by omega) (by omega)]
theorem Z4{rs:List AN}{l:List Int}(h:l.length≠rs.length):DE rs l=false:=by
 rw[Bool.eq_false_iff];intro g;exact h (HA g)
theorem YV(c:AV)(l:List Int)(hh:c.AF.length≤100)(hl:l.length≤100):MB K c l=some (cond (DE c.AF l) (arr l) ⟨0,0,0⟩,DE c.AF l):=by
 unfold MB
 by_cases he:l.length=c.AF.length
 ·have:=YU hK c l hh he l.length K 0 (by omega) (by omega);rw[Int.natCast_zero,List.drop_zero,List.drop_zero] at this;rw[cf (E6 (by omega)),bd this,Agp];cases DE c.AF l<;>rfl
 ·rw[ct (Fy (by omega)),Z4 hK he,cf rfl]
theorem Z5{c:AV}(a:OkC c):KB K c=some 0:=by
 rw[UY hK c a.len.1 a.len.2.1 a.len.2.2.1 a.len.2.2.2,a.fault]
theorem IB{c:AV}(a:OkC c){l:List Int}(hl:l.length≤100):Fs K c l=some (BJ c l):=by
 have:=a.hl;unfold Fs BJ;rw[bd (Z5 hK a),cf (E6 rfl),bd (YV hK c l (by omega) hl)];cases h:DE c.AF l with
 |false=>rw[cf rfl,Bool.false_and]
 |true=>rw[ct rfl,ct rfl,bd (Adh hK a h),Bool.true_and]
theorem AeC {c:AV} (a:OkC c) {l:List Int} (hl:DE c.AF l=true):QD K c l=some (c.BW.map (CI l),0):=by
 have f:=a.hl;have g:=a.cl;have hh:=HA hl;unfold QD;rw[bd (Z5 hK a),cf (E6 rfl),bd (YV hK c l (by omega) (by omega)),hl,nt,ct rfl];have b:∀(d m i:Nat) (acc:List Int),c.BW.length=i+d→d<m→acc.length≤i→NM K c (arr l,true) m acc (i:Int)=some (acc++(c.BW.drop i).map (CI l)):=by
  intro d
  induction d with
  |zero=>
   intro m i acc h hm ha;obtain⟨m,rfl⟩:∃e,m=e+1:=⟨m-1,by omega⟩;rw[NM.eq_2,cf (df (by omega)),List.drop_eq_nil_of_le (by omega),List.map_nil,List.append_nil]
  |succ d ih=>
   intro m i acc h hm ha;obtain⟨m,rfl⟩:∃e,m=e+1:=⟨m-1,by omega⟩;have hi:i<c.BW.length:=by omega
   rw[NM.eq_2,ct (dt (by omega)),BS hi,bd (Xw hK a hl hi),Dt (by simp;omega),AZ (by omega) (by omega),CZ i,ih m (i+1) _ (by omega) (by omega) (by simp;omega),List.drop_eq_getElem_cons hi,List.map_cons,List.append_assoc];rfl
 have:=b c.BW.length K 0 [] (by omega) (by omega) (by simp);rw[Int.natCast_zero,List.drop_zero,List.nil_append] at this;rw[bd this]
end
def F7(g:List Ez)(s:Int):Int:=match g.find? (fun x=>decide (x.BU≤s)) with|some x=>x.DT|none=>0
def As (t:Aj) (l:List Int):List Int:=t.Ac.map fun w=>F7 t.AH (CI l w)*w.sum
structure OkT(t:Aj):Prop where
 len:Tx t
 fault:CP t=0
 many:Dm t.Al≤150
theorem HC{t:Aj}(h:CP t=0):NO t.C=0∧t.AH.length≤3∧t.Aw.length≤3∧t.Ao.length≤5∧(0≤t.Flat∧t.Flat≤100)∧0<t.AH.length∧Pj 101 100 t.AH=true∧(∀o∈t.Aw,LL t o=true)∧∀n∈t.Ao,Kr t n=true:=by
 unfold CP at h;split at h
 ·rename_i h0;exact absurd h h0
 rename_i h0
 split at h
 ·omega
 rename_i h1
 split at h
 ·omega
 rename_i h2
 split at h
 ·omega
 rename_i c
 split at h
 ·omega
 rename_i a
 split at h
 ·omega
 rename_i h5
 split at h
 ·omega
 rename_i b
 refine⟨Decidable.byContradiction h0,by omega,by omega,by omega,Dv.1 (by simpa using h2),by omega,by simpa using a,?_,?_⟩
 ·exact List.all_eq_true.1 (by simpa using h5)
 ·exact List.all_eq_true.1 (by simpa using b)
theorem YW:∀{l:List Ez} {s p:Int},Pj s p l=true→∀g∈l,(0≤g.BU∧g.BU<s)∧0≤g.DT∧g.DT≤p
 |[],_,_,_,g,a=>by cases a
 |x::l,s,p,h,g,a=>by
  rw[Pj,Bool.and_eq_true,Bool.and_eq_true] at h;have h1:=Dv.1 h.1;have h2:=Dv.1 h.2.1;rcases List.mem_cons.1 a with rfl|a
  ·exact⟨by omega,h2⟩
  ·have:=YW h.2.2 g a;omega
namespace OkT
variable{t:Aj}(h:OkT t)
include h
theorem c:OkC t.C:=⟨h.len.1,(HC h.fault).1,h.many⟩
theorem gl:t.AH.length≤3:=(HC h.fault).2.1
theorem nl:t.Ao.length≤5:=(HC h.fault).2.2.2.1
theorem flat:0≤t.Flat∧t.Flat≤100:=(HC h.fault).2.2.2.2.1
theorem gr:Pj 101 100 t.AH=true:=(HC h.fault).2.2.2.2.2.2.1
theorem Ad8:∀g∈t.AH,(0≤g.BU∧g.BU≤100)∧0≤g.DT∧g.DT≤100:=fun g a=>by have:=YW h.gr g a;omega
theorem order:∀o∈t.Aw,(0≤o.En∧o.En<t.AH.length)∧1≤o.Ey∧o.Ey≤90:=fun o a=>by
 have h1:=(HC h.fault).2.2.2.2.2.2.2.1 o a;unfold LL at h1;rw[Bool.and_eq_true] at h1;have h2:=Dv.1 h1.1;exact⟨by omega,Dv.1 h1.2⟩
theorem note:∀n∈t.Ao,(0≤n.C0∧n.C0<t.Ac.length)∧0≤n.Db∧n.Db≤n.Dc∧n.Dc≤9000:=fun n hn=>by
 have h1:=(HC h.fault).2.2.2.2.2.2.2.2 n hn;unfold Kr at h1;rw[Bool.and_eq_true] at h1;have h2:=Dv.1 h1.1;exact⟨by omega,Yg.1 h1.2⟩
theorem Hc:∀w∈t.Ac,w.length=t.Al.length∧(∀x∈w,0≤x∧x≤30)∧0<w.sum∧w.sum≤90:=h.c.Hc
theorem kl:t.Ac.length≤3:=h.c.cl
theorem hl:t.Al.length≤3:=h.c.hl
theorem Sc(s:Int):0≤F7 t.AH s∧F7 t.AH s≤100:=by
 unfold F7;split
 ·rename_i x hx
  exact(h.Ad8 x (List.mem_of_find?_eq_some hx)).2
 ·omega
theorem Th(l:List Int):∀x∈As t l,0≤x∧x≤9000:=fun x hx=>by
 unfold As at hx;obtain⟨w,hw,rfl⟩:=List.mem_map.1 hx;have h1:=h.Sc (CI l w);have h2:=h.Hc w hw;have:=Jw h1.1 h1.2 (by omega:0≤w.sum) h2.2.2.2;omega
end OkT
theorem Df(t:Aj)(l:List Int):(As t l).length=t.Ac.length:=List.length_map ..
section
variable{K:Nat}(hK:1000≤K)
include hK
end
def Dr (t:Aj) (m:List (List Int×Int)):Prop:=∀(i:Nat) (s v:Int),KZ m [(i:Int),s]=some v→v=F7 t.AH s*(t.Ac.getD i []).sum
theorem Ky(t:Aj):Dr t []:=fun i s v h=>by cases h
def wk (t:Aj) (a:List Be) (m:List (List Int×Int)):DO:=⟨t.Al,t.Ac,t.Ap,t.Flat,t.AH,t.Aw,t.Ao,t.Ac.map List.sum,a,m⟩
def Av(t:Aj)(l:List Int):Be:=arr (t.Ac.map (CI l))
theorem AeD:∀{l:List Int} {i:Nat} (x:Int),l.length=i→i<3→(arr l).set i x=arr (l++[x])
 |[],_,x,rfl,_=>rfl
 |[_],_,x,rfl,_=>rfl
 |[_,_],_,x,rfl,_=>rfl
 |_::_::_::_,_,x,rfl,h=>by simp at h;omega
section
variable{K:Nat}(hK:1000≤K)
include hK
theorem Z6{t:Aj}(b:OkT t)(a:List Be)(m:List (List Int×Int)){k:Nat}(hk:k<t.Ac.length)(s:Int):∀(d n i:Nat),t.AH.length=i+d→d<n→
  JR (wk t a m) ⟨(k:Int),s⟩ n 0 (i:Int)=some (F7 (t.AH.drop i) s*t.Ac[k].sum)
 |d,0,i,h,hn=>by omega
 |0,n+1,i,h,hn=>by
  have e:((wk t a m).Ce.length:Int)=t.AH.length:=rfl;rw[JR.eq_2,cf (df (by omega)),List.drop_eq_nil_of_le (by omega)];simp[F7]
 |d+1,n+1,i,h,hn=>by
  have h1:i<t.AH.length:=by omega
  have g:=b.gl;have c:k<(wk t a m).weights.length:=by show k<(List.map _ _).length;simpa using hk
  have f:(wk t a m).weights[k]'c=t.Ac[k].sum:=by simp[wk]
  rw[JR.eq_2,ct (dt (show(i:Int)<((wk t a m).Ce.length:Int) by show(i:Int)<(t.AH.length:Int);omega)),BS (xs:=(wk t a m).Ce) h1,List.drop_eq_getElem_cons h1];show cond (decide (t.AH[i].BU≤s)) _ _=_
  by_cases h2:t.AH[i].BU≤s
  ·have b1:=(b.Ad8 _ (List.getElem_mem h1)).2;have b2:=b.Hc _ (List.getElem_mem hk);have b3:=Jw b1.1 b1.2 (by omega:0≤t.Ac[k].sum) b2.2.2.2;rw[ct (dt h2),BS c,f];show(i64 (t.AH[i].DT*_)).bind _=_;rw[AZ (by omega) (by omega)];unfold F7;rw[List.find?_cons,dt h2];rfl
  ·rw[cf (df h2),AZ (by omega) (by omega),CZ i,Z6 b a m hk s d n (i+1) (by omega) (by omega)]
   congr 2
   unfold F7;rw[List.find?_cons,df h2]
theorem Adi{t:Aj}(d:OkT t)(c:List Be){m:List (List Int×Int)}(hm:Dr t m){k:Nat}(hk:k<t.Ac.length)(s:Int):
  ∃a,Dr t a∧M4 K (wk t c m) ⟨(k:Int),s⟩=some (F7 t.AH s*t.Ac[k].sum,a):=by
 have f:=d.gl;unfold M4;show∃a,Dr t a∧cond (!((KZ m [(k:Int),s]).isSome)) _ _=_;cases e:KZ m [(k:Int),s] with
 |some v=>
  have h1:=hm k s v e;rw[Cx _ hk] at h1;refine⟨m,hm,?_⟩;show cond (!true) _ (some ((KZ m [(k:Int),s]).getD 0,m))=_;rw[nt,e,←h1];rfl
 |none=>
  have h:=Z6 hK d c m hk s t.AH.length K 0 (by omega) (by omega);rw[Int.natCast_zero,List.drop_zero] at h;refine⟨SH m [(k:Int),s] (F7 t.AH s*t.Ac[k].sum),fun i s' v b=>?_,?_⟩
  ·rw[AaO] at b;split at b
   ·rename_i he
    simp only[List.cons.injEq,and_true] at he;obtain⟨g,rfl⟩:=he;obtain rfl:i=k:=by omega
    rw[Cx _ hk];exact(Option.some.inj b).symm
   ·exact hm i s' v b
  ·show cond (!false) ((JR (wk t c m) ⟨(k:Int),s⟩ K ((KZ m [(k:Int),s]).getD 0) 0).bind _) _=_;rw[nf,e,Option.getD_none,bd h];rfl
theorem Aa7{t:Aj}(c:OkT t)(a:List Be)(b:List (List Int×Int))(l:List Int):∀(d n i:Nat) (m:List (List Int×Int)),t.Ac.length=i+d→d<n→Dr t m→
  ∃f,Dr t f∧Jv K (wk t a b) (Av t l) n (i:Int) (arr ((As t l).take i)).a0 (arr ((As t l).take i)).a1 (arr ((As t l).take i)).a2 m=some ((arr (As t l)).a0,(arr (As t l)).a1,(arr (As t l)).a2,f)
 |d,0,i,m,h,hn,_=>by omega
 |0,n+1,i,m,h,hn,hm=>by
  have e:((wk t a b).weights.length:Int)=t.Ac.length:=by show((List.map _ _).length:Int)=_;simp
  refine⟨m,hm,?_⟩;rw[Jv.eq_2,cf (df (by omega)),List.take_of_length_le (by rw[Df];omega)]
 |d+1,n+1,i,m,h,hn,hm=>by
  have g:=c.kl;have e:((wk t a b).weights.length:Int)=t.Ac.length:=by show((List.map _ _).length:Int)=_;simp
  have hi:i<t.Ac.length:=by omega
  have j:i<(As t l).length:=by rw[Df];exact hi
  have g1:idx [(Av t l).a0,(Av t l).a1,(Av t l).a2] (i:Int)=some (CI l t.Ac[i]):=by
   have:=Hr (l:=t.Ac.map (CI l)) (by simpa using g) (k:=i) (by simpa using hi);rw[List.getElem_map] at this;exact this
  obtain⟨o,p,g2⟩:=Adi hK c a hm hi (CI l t.Ac[i]);have g3:idx ([(arr ((As t l).take i)).a0,(arr ((As t l).take i)).a1,(arr ((As t l).take i)).a2]:List Int) (i:Int)=some (([(arr ((As t l).take i)).a0,(arr ((As t l).take i)).a1,(arr ((As t l).take i)).a2]:List Int)[i]'(by simp;omega)):=idx_eq _;have g4:(arr ((As t l).take i)).set i (F7 t.AH (CI l t.Ac[i])*t.Ac[i].sum)=arr ((As t l).take (i+1)):=by
   rw[AeD _ (by rw[List.length_take];omega) (by omega),List.take_succ_eq_append_getElem j];simp[As]
  obtain⟨r,q,g5⟩:=Aa7 c a b l d n (i+1) o (by omega) (by omega) p;refine⟨r,q,?_⟩;rw[Jv.eq_2,ct (dt (by omega)),bd g1];show(M4 K (wk t a m) ⟨(i:Int),CI l t.Ac[i]⟩).bind _=_;rw[bd g2,bd g3,AZ (by omega) (by omega),CZ i,Int.toNat_natCast];show Jv K (wk t a b) (Av t l) n ((i+1:Nat):Int) ((arr ((As t l).take i)).set i (F7 t.AH (CI l t.Ac[i])*t.Ac[i].sum)).a0 ((arr ((As t l).take i)).set i (F7 t.AH (CI l t.Ac[i])*t.Ac[i].sum)).a1 ((arr ((As t l).take i)).set i (F7 t.AH (CI l t.Ac[i])*t.Ac[i].sum)).a2 o=_;rw[g4];exact g5
theorem MC{t:Aj}(c:OkT t)(b:List Be){m:List (List Int×Int)}(hm:Dr t m)(l:List Int):
  ∃a,Dr t a∧FK K (wk t b m) (Av t l)=some (arr (As t l),a):=by
 have:=c.kl;obtain⟨a,h1,h2⟩:=Aa7 hK c b m l t.Ac.length K 0 m (by omega) (by omega) hm;refine⟨a,h1,?_⟩;unfold FK;have d:Jv K (wk t b m) (Av t l) K 0 0 0 0 (wk t b m).known=some ((arr (As t l)).a0,(arr (As t l)).a1,(arr (As t l)).a2,a):=h2;rw[bd d]
end
section
variable{K:Nat}(hK:1000≤K)
include hK
theorem Nn(t:Aj)(hl:t.Al.length≤100):M3 K t=some t.Al:=by
 have a:∀(d m i:Nat) (acc:List AN),t.Al.length=i+d→d<m→acc.length≤i→KV t m acc (i:Int)=some (acc++t.Al.drop i):=by
  intro d
  induction d with
  |zero=>
   intro m i acc h hm ha;obtain⟨m,rfl⟩:∃b,m=b+1:=⟨m-1,by omega⟩;rw[KV.eq_2,cf (df (by omega)),List.drop_eq_nil_of_le (by omega),List.append_nil]
  |succ d ih=>
   intro m i acc h hm ha;obtain⟨m,rfl⟩:∃b,m=b+1:=⟨m-1,by omega⟩;have hi:i<t.Al.length:=by omega
   rw[KV.eq_2,ct (dt (by omega)),BS hi,Dt (by simp;omega),AZ (by omega) (by omega),CZ i,ih m (i+1) _ (by omega) (by omega) (by simp;omega),List.drop_eq_getElem_cons hi,List.append_assoc];rfl
 have:=a t.Al.length K 0 [] (by omega) (by omega) (by simp);rw[Int.natCast_zero,List.drop_zero,List.nil_append] at this;unfold M3;rw[bd this]
theorem NP{t:Aj}(b:OkT t):JQ K t=some (wk t [] []):=by
 have e:=b.kl;have f:=b.hl;have a:∀(d m i:Nat) (acc:List Int),t.Ac.length=i+d→d<m→acc.length≤i→Ju K t m (i:Int) acc=some (acc++(t.Ac.drop i).map List.sum):=by
  intro d
  induction d with
  |zero=>
   intro m i acc h hm ha;obtain⟨m,rfl⟩:∃c,m=c+1:=⟨m-1,by omega⟩;rw[Ju.eq_2,cf (df (by omega)),List.drop_eq_nil_of_le (by omega),List.map_nil,List.append_nil]
  |succ d ih=>
   intro m i acc h hm ha;obtain⟨m,rfl⟩:∃c,m=c+1:=⟨m-1,by omega⟩;have hi:i<t.Ac.length:=by omega
   have hw:=b.Hc _ (List.getElem_mem hi);have hs:HT t.Ac[i] K 0 0=some t.Ac[i].sum:=by
    have:=Xt t.Ac[i] (fun m s j=>HT t.Ac[i] m s (j:Int)) (· +·) (fun j s=>0≤s∧s≤30*(j:Int)) id (fun j s hj hs=>by have:=hw.2.1 _ (List.getElem_mem hj);omega)
     (fun m j s hj hs=>by
      have hx:=hw.2.1 _ (List.getElem_mem hj);show HT t.Ac[i] (m+1) s (j:Int)=_;rw[HT.eq_2,ct (dt (by omega)),BS hj,AZ (by omega) (by omega),AZ (by omega) (by omega),CZ j])
     (fun m s _=>by
      show HT t.Ac[i] (m+1) s (t.Ac[i].length:Int)=_;rw[HT.eq_2,cf (df (by omega))];rfl) (k:=K) (s0:=0) (by omega) (by omega)
    rw[TX,Int.zero_add] at this;exact this
   rw[Ju.eq_2,ct (dt (by omega)),BS hi,bd hs,Dt (by simp;omega),AZ (by omega) (by omega),CZ i,ih m (i+1) _ (by omega) (by omega) (by simp;omega),List.drop_eq_getElem_cons hi,List.map_cons,List.append_assoc];rfl
 have:=a t.Ac.length K 0 [] (by omega) (by omega) (by simp);rw[Int.natCast_zero,List.drop_zero,List.nil_append] at this;unfold JQ;rw[bd this];rfl
theorem KI{t:Aj}(a:OkT t){l:List Int}(hl:DE t.Al l=true):KD K t l=some (Av t l):=by
 unfold KD;have h:QD K ⟨t.Al,t.Ac,t.Ap⟩ l=some (t.Ac.map (CI l),0):=AeC hK (c:=t.C) a.c hl;rw[bd h];rfl
end
def FT(M:List Int)(n:Ct):Bool:=EB (M.getD n.C0.toNat 0) n.Db n.Dc
def BB(M out:List Int):Nat→List Ct→Bool
 |_,[]=>true
 |i,n::ns=>(out.contains (i:Int)||FT M n)&&BB M out (i+1) ns
section
variable{K:Nat}(hK:1000≤K)
include hK
theorem No(t:Aj){M out:List Int}(f:M.length≤3)(hn:∀n∈t.Ao,0≤n.C0∧n.C0<M.length)(hl:t.Ao.length≤100)(g:out.length≤900):DV K t (arr M) out=some (BB M out 0 t.Ao):=by
 have a:∀(d m i:Nat),t.Ao.length=i+d→d<m→JS K t (arr M) out m (i:Int)=some (cond (BB M out i (t.Ao.drop i)) (.inr ()) (.inl false)):=by
  intro d
  induction d with
  |zero=>
   intro m i h hm;obtain⟨m,rfl⟩:∃c,m=c+1:=⟨m-1,by omega⟩;rw[JS.eq_2,cf (df (by omega)),List.drop_eq_nil_of_le (by omega),BB,ct rfl]
  |succ d ih=>
   intro m i h hm;obtain⟨m,rfl⟩:∃c,m=c+1:=⟨m-1,by omega⟩;have hi:i<t.Ao.length:=by omega
   rw[JS.eq_2,ct (dt (by omega)),BS hi,bd (KH hK out _ g),List.drop_eq_getElem_cons hi,BB];cases out.contains (i:Int) with
   |true=>rw[Bool.true_or,Bool.true_and,nt,AZ (by omega) (by omega),CZ i,ih m (i+1) (by omega) (by omega)]
   |false=>
    obtain⟨h1,h2⟩:=hn _ (List.getElem_mem hi);obtain⟨k,hk⟩:∃k:Nat,t.Ao[i].C0=k:=⟨t.Ao[i].C0.toNat,by omega⟩;have b:k<M.length:=by omega
    have e:Km K ⟨t.Ao[i].Db,t.Ao[i].Dc⟩ M[k]=some (FT M t.Ao[i]):=by
     unfold Km FT;rw[bd (JE ..),hk,Int.toNat_natCast,Cx _ b]
    rw[nf,hk,bd (Hr f b),bd e,Bool.false_or];cases FT M t.Ao[i] with
    |false=>rw[nf,Bool.false_and,cf rfl]
    |true=>rw[nt,AZ (by omega) (by omega),CZ i,Bool.true_and,ih m (i+1) (by omega) (by omega)]
 have:=a t.Ao.length K 0 (by omega) (by omega);rw[Int.natCast_zero,List.drop_zero] at this;unfold DV;rw[bd this];cases BB M out 0 t.Ao<;>rfl
end
theorem Hm(M out:List Int):∀(ns:List Ct) (i:Nat),BB M out i ns=true↔∀j (hj:j<ns.length),out.contains ((i+j:Nat):Int)=true∨FT M ns[j]=true
 |[],i=>by simp[BB]
 |n::ns,i=>by
  rw[BB,Bool.and_eq_true,Bool.or_eq_true,Hm M out ns (i+1)];constructor
  ·rintro⟨h1,h2⟩ j hj;cases j with
   |zero=>simpa using h1
   |succ j=>
    have:=h2 j (by simpa using hj);rw[show i+(j+1)=i+1+j by omega];simpa using this
  ·intro h;refine⟨(show out.contains ((i+0:Nat):Int)=true∨FT M n=true from h 0 (by simp)),fun j hj=>?_⟩;have:=h (j+1) (by simpa using hj);rw[show i+1+j=i+(j+1) by omega];simpa using this
section
variable{K:Nat}(hK:1000≤K)
include hK
end
def SJ(c:AV):Bool:=decide (c.AF.length≤5)&&(decide (c.BW.length≤5)&&(decide (c.Bt.length≤7)&&((c.BW.all fun l=>decide (l.length≤6))&&(decide (NO c≠0)||decide (Dm c.AF≤150)))))
def DP(t:Aj):Bool:=SJ t.C&&(decide (t.AH.length≤5)&&(decide (t.Aw.length≤5)&&decide (t.Ao.length≤7)))
theorem YX{c:AV}:SJ c=true↔c.AF.length≤5∧c.BW.length≤5∧c.Bt.length≤7∧(∀l∈c.BW,l.length≤6)∧(NO c≠0∨Dm c.AF≤150):=by
 simp[SJ]
theorem E9{t:Aj}(h:DP t=true):Tx t:=by
 unfold DP at h;rw[Bool.and_eq_true,Bool.and_eq_true,Bool.and_eq_true,decide_eq_true_eq,decide_eq_true_eq,decide_eq_true_eq,YX] at h;obtain⟨⟨h1,h2,b,a,_⟩,h5,c,d⟩:=h;exact⟨⟨by omega,by omega,by omega,fun l hl=>by have:=a l hl;omega⟩,by omega,by omega,by omega⟩
theorem D6{t:Aj}(h:DP t=true)(h0:CP t=0):OkT t:=by
 have hl:=E9 h;unfold DP at h;rw[Bool.and_eq_true,YX] at h;have a:=(HC h0).1;exact⟨hl,h0,by
  rcases h.1.2.2.2.2 with h1|h1
  ·exact absurd a h1
  ·exact h1⟩
section
variable{K:Nat}(hK:1000≤K)
include hK
theorem Pw(l:List Int)(hl:l.length≤1000):OF K l=some l:=by
 unfold OF;rw[Dt (by simp;omega),List.nil_append]
theorem VV {α:Type} (xs:List α) (F:Nat→Int→List α→Option (List α)) (c:∀m (i:Nat) acc (hi:i<xs.length),acc.length≤i→F (m+1) (i:Int) acc=F m ((i+1:Nat):Int) (acc++[xs[i]]))
  (hn:∀m acc,F (m+1) (xs.length:Int) acc=some acc) (hl:xs.length≤900):F K 0 []=some xs:=by
 have a:∀(d m i:Nat) (acc:List α),xs.length=i+d→d<m→acc.length≤i→F m (i:Int) acc=some (acc++xs.drop i):=by
  intro d
  induction d with
  |zero=>
   intro m i acc h hm ha;obtain⟨m,rfl⟩:∃b,m=b+1:=⟨m-1,by omega⟩;obtain rfl:i=xs.length:=by omega
   rw[hn,List.drop_eq_nil_of_le (by omega),List.append_nil]
  |succ d ih=>
   intro m i acc h hm ha;obtain⟨m,rfl⟩:∃b,m=b+1:=⟨m-1,by omega⟩;have hi:i<xs.length:=by omega
   rw[c m i acc hi ha,ih m (i+1) _ (by omega) (by omega) (by simp;omega),List.drop_eq_getElem_cons hi,List.append_assoc];rfl
 have:=a xs.length K 0 [] (by omega) (by omega) (by simp);rw[Int.natCast_zero,List.drop_zero,List.nil_append] at this;exact this
theorem Z7(c:AV)(hl:Adf c):KG K c=some c:=by
 obtain⟨h1,h2,f,a⟩:=hl;unfold KG;have b:Ik K c K 0 []=some c.AF:=VV hK c.AF (fun m i acc=>Ik K c m i acc) (fun m i acc hi ha=>by
   show Ik K c (m+1) (i:Int) acc=_;rw[Ik.eq_2,ct (dt (by omega)),BS hi];unfold Oe;rw[Option.bind_some,Dt (by simp;omega),AZ (by omega) (by omega),CZ i];try rfl) (fun m acc=>by
   show Ik K c (m+1) (c.AF.length:Int) acc=_;rw[Ik.eq_2,cf (df (by omega))]) (by omega)
 have d:H9 K c K 0 []=some c.BW:=VV hK c.BW (fun m i acc=>H9 K c m i acc) (fun m i acc hi ha=>by
   show H9 K c (m+1) (i:Int) acc=_;rw[H9.eq_2,ct (dt (by omega)),BS hi,bd (Pw hK _ (by have:=a _ (List.getElem_mem hi);omega)),Dt (by simp;omega),AZ (by omega) (by omega),CZ i];try rfl) (fun m acc=>by
   show H9 K c (m+1) (c.BW.length:Int) acc=_;rw[H9.eq_2,cf (df (by omega))]) (by omega)
 have e:Ia K c K 0 []=some c.Bt:=VV hK c.Bt (fun m i acc=>Ia K c m i acc) (fun m i acc hi ha=>by
   show Ia K c (m+1) (i:Int) acc=_;rw[Ia.eq_2,ct (dt (by omega)),BS hi];unfold Oe;rw[Option.bind_some,Dt (by simp;omega),AZ (by omega) (by omega),CZ i];try rfl) (fun m acc=>by
   show Ia K c (m+1) (c.Bt.length:Int) acc=_;rw[Ia.eq_2,cf (df (by omega))]) (by omega)
 rw[bd b,bd d,bd e]
theorem GI(t:Aj)(hl:Tx t):Co K t=some t:=by
 obtain⟨a,h1,h2,f⟩:=hl;unfold Co;have b:KG K ⟨t.Al,t.Ac,t.Ap⟩=some t.C:=Z7 hK t.C a;have c:IL t K 0 []=some t.AH:=VV hK t.AH (fun m i acc=>IL t m i acc) (fun m i acc hi ha=>by
   show IL t (m+1) (i:Int) acc=_;rw[IL.eq_2,ct (dt (by omega)),BS hi,BS hi,Dt (by simp;omega),AZ (by omega) (by omega),CZ i];try rfl) (fun m acc=>by
   show IL t (m+1) (t.AH.length:Int) acc=_;rw[IL.eq_2,cf (df (by omega))]) (by omega)
 have d:Il t K 0 []=some t.Aw:=VV hK t.Aw (fun m i acc=>Il t m i acc) (fun m i acc hi ha=>by
   show Il t (m+1) (i:Int) acc=_;rw[Il.eq_2,ct (dt (by omega)),BS hi,BS hi,Dt (by simp;omega),AZ (by omega) (by omega),CZ i];try rfl) (fun m acc=>by
   show Il t (m+1) (t.Aw.length:Int) acc=_;rw[Il.eq_2,cf (df (by omega))]) (by omega)
 have e:Im K t K 0 []=some t.Ao:=VV hK t.Ao (fun m i acc=>Im K t m i acc) (fun m i acc hi ha=>by
   show Im K t (m+1) (i:Int) acc=_;rw[Im.eq_2,ct (dt (by omega)),BS hi,BS hi];unfold IM;rw[Option.bind_some,Dt (by simp;omega),AZ (by omega) (by omega),CZ i];try rfl) (fun m acc=>by
   show Im K t (m+1) (t.Ao.length:Int) acc=_;rw[Im.eq_2,cf (df (by omega))]) (by omega)
 rw[bd b,bd c,bd d,bd e];rfl
theorem AbO(c:AV):NO c=0→∀r∈c.AF,EU r:=fun h=>(PO h).2.2.2.2.1
theorem AeE(c:AV):Nl K c=some (SJ c):=by
 unfold Nl
 by_cases h1:c.AF.length≤5
 case neg=>rw[ct (dt (by omega))];unfold SJ;rw[df h1,Bool.false_and]
 rw[cf (df (by omega))]
 by_cases h2:c.BW.length≤5
 case neg=>rw[ct (dt (by omega))];unfold SJ;rw[df h2,Bool.false_and,Bool.and_false]
 rw[cf (df (by omega))]
 by_cases a:c.Bt.length≤7
 case neg=>rw[ct (dt (by omega))];unfold SJ;rw[df a,Bool.false_and,Bool.and_false,Bool.and_false]
 rw[cf (df (by omega))];have h5:I3 c K 0=some (cond (c.BW.all fun l=>decide (l.length≤6)) (.inr ()) (.inl false)):=
  Me c.BW (fun m i=>I3 c m (i:Int)) (fun l=>decide (l.length≤6)) false
   (fun m i hi=>by
    show I3 c (m+1) (i:Int)=_;rw[I3.eq_2,ct (dt (by omega)),BS hi]
    by_cases h:c.BW[i].length≤6
    ·rw[cf (df (by omega)),AZ (by omega) (by omega),CZ i,dt h,ct rfl]
    ·rw[ct (dt (by omega)),df h,cf rfl])
   (fun m=>by
    show I3 c (m+1) (c.BW.length:Int)=_;rw[I3.eq_2,cf (df (by omega))]) (by omega)
 unfold SJ;rw[bd h5,dt h1,dt h2,dt a,Bool.true_and,Bool.true_and,Bool.true_and];cases b:c.BW.all fun l=>decide (l.length≤6) with
 |false=>rw[cf rfl,Bool.false_and];rfl
 |true=>
  have d:∀l∈c.BW,l.length≤100:=fun l hl=>by have:=of_decide_eq_true (List.all_eq_true.1 b l hl);omega
  rw[ct rfl,Bool.true_and];show Option.bind (K8 K c) _=_;rw[bd (ZY hK c (by omega) (by omega) (by omega) d)]
  by_cases h0:NO c=0
  ·rw[cf (E6 h0),bd (QZ hK c (by omega) (AbO hK c h0)),df (show¬(NO c≠0) by simp[h0]),Bool.false_or]
   congr 1
   rw[Bool.eq_iff_iff,decide_eq_true_eq,decide_eq_true_eq];omega
  ·rw[ct (Fy h0),dt h0,Bool.true_or]
theorem O5(t:Aj):Gf K t=some (DP t):=by
 unfold Gf DP;have h:Nl K ⟨t.Al,t.Ac,t.Ap⟩=some (SJ t.C):=AeE hK t.C;rw[bd h];cases SJ t.C with
 |false=>rw[cf rfl,Bool.false_and]
 |true=>
  rw[ct rfl,Bool.true_and]
  by_cases h1:t.AH.length≤5
  case neg=>rw[cf (df (by omega)),df h1,Bool.false_and]
  rw[ct (dt (by omega)),dt h1,Bool.true_and]
  by_cases h2:t.Aw.length≤5
  case neg=>rw[cf (df (by omega)),df h2,Bool.false_and]
  rw[ct (dt (by omega)),dt h2,Bool.true_and]
  congr 1
  rw[Bool.eq_iff_iff,decide_eq_true_eq,decide_eq_true_eq];omega
end
section
variable{K:Nat}(hK:1000≤K)
include hK
end
def T5(x:Int):List Int→List Int
 |[]=>[x]
 |y::l=>cond (decide (x≤y)) (x::y::l) (y::T5 x l)
def Ue:List Int→List Int
 |[]=>[]
 |x::l=>T5 x (Ue l)
theorem Z8(x z:Int):∀l,z∈T5 x l↔z=x∨z∈l
 |[]=>by simp[T5]
 |y::l=>by
  unfold T5;cases h:decide (x≤y)
  ·simp[Z8 x z l];constructor<;>(rintro(h|h|h)<;>simp[h])
  ·simp
theorem YY(x:Int):∀l,(T5 x l).Perm (x::l)
 |[]=>.refl _
 |y::l=>by
  unfold T5;cases h:decide (x≤y)
  ·exact((YY x l).cons y).trans (.swap x y l)
  ·exact .refl _
theorem Pg:∀l,(Ue l).Perm l
 |[]=>.refl _
 |x::l=>(YY x _).trans ((Pg l).cons x)
theorem WB(x:Int):∀l,l.Pairwise (· ≤·)→(T5 x l).Pairwise (· ≤·)
 |[],_=>by simp[T5]
 |y::l,h=>by
  unfold T5;cases b:decide (x≤y)
  ·have h1:¬x≤y:=by simpa using b
   rw[List.pairwise_cons] at h;refine List.pairwise_cons.2 ⟨fun z a=>?_,WB x l h.2⟩;rcases(Z8 x z l).1 a with rfl|a
   ·omega
   ·exact h.1 z a
  ·have h1:x≤y:=by simpa using b
   refine List.pairwise_cons.2 ⟨fun z a=>?_,h⟩;rcases List.mem_cons.1 a with rfl|a
   ·exact h1
   ·exact Int.le_trans h1 ((List.pairwise_cons.1 h).1 z a)
theorem Qz:∀l,(Ue l).Pairwise (· ≤·)
 |[]=>.nil
 |x::l=>WB x _ (Qz l)
theorem PW(l:List Int):JO l=Ue l:=by
 have hs:(JO l).Pairwise (· ≤·):=by
  have:=List.pairwise_mergeSort (le:=fun(x y:Int)=>decide (x≤y)) (by intro a b c;simp;omega) (by intro a b;simp;omega) l;exact this.imp (fun h=>by simpa using h)
 refine List.Perm.eq_of_pairwise (le:=(· ≤·)) (fun a b _ _ h1 h2=>Int.le_antisymm h1 h2) hs (Qz l) ?_;exact(List.mergeSort_perm l _).trans (Pg l).symm
def Yh(a:Nat)(d:DO)(b:List Int):Option (Bool×(List (List Int×Int))):=
 (Fp a d).bind fun c=>(G7 b c a ([]:List Int) (0:Int)).bind fun z3=>(EG ((z3.length:Int)≤100000)).bind fun _=>(EG (((Ue z3).length:Int)≤100000)).bind fun _=>some ((decide (((Lib.compact (Ue z3)).length:Int)<(b.length:Int)),c.2))
theorem Adj:HZ=Yh:=by
 funext K a b;unfold HZ Yh;simp only[PW]
def Vp(b:Nat)(c:List Int)(d:DO):Option (Bool×(List (List Int×Int))):=
 (Yh b d c).bind fun a=>some ((a.1,a.2))
theorem AbP:HE=Vp:=by
 funext K a b;unfold HE Vp;rw[Adj]
def Yi(d:Nat)(e:Aj):Option ((List Int)×Int):=
 (CD d e true).bind fun b=>Option.elim b.1 (cond (b.2 !=0) (some ((([]:List Int),b.2))) (none)) (fun a=>cond (b.2 !=0) (some ((([]:List Int),b.2))) ((FL d (fun(st:(List (List Int×Int))) (x:(List Int))=>(Vp d x (⟨a.BD,a.BE,a.By,a.DZ,a.Ce,a.Ca,a.CH,a.weights,a.Dq,st⟩:DO)).bind fun r=>some (r.1,r.2)) (e.Aw.length:Int) a.known).bind fun c=>cond (!c.2.1) (some ((([]:List Int),7))) (some ((c.1,0)))))
theorem Adk:J1=Yi:=by
 funext K a;unfold J1 Yi;rw[AbP]
def Yj(a:Nat):Option (Bool):=
 (GK a 0).bind fun z=>(Mk a z [41,62]).bind fun n=>(GK a 0).bind fun aA=>(F9 a aA).bind fun d=>(GK a 0).bind fun o=>(Gn a o [0,1]).bind fun b=>(GK a 0).bind fun p=>(KE a p).bind fun c=>(GK a 1).bind fun q=>(JI a q).bind fun e=>(GK a 0).bind fun r=>(Yi a r).bind fun f=>(GK a 2).bind fun s=>(Kx a s).bind fun g=>(GK a 2).bind fun t=>(IY a t).bind fun h=>cond (n.2==0) ((E2 a n.1 [80,120]).bind fun u=>cond (u) (cond (d.2==0) (cond ((d.1.length:Int)==2) ((idx d.1 (0:Int)).bind fun i=>(Hq a 40 80).bind fun j=>cond ([i.Lo,i.Hi]==[j.Lo,j.Hi]) ((idx d.1 (1:Int)).bind fun k=>(Hq a 120 120).bind fun l=>cond ([k.Lo,k.Hi]==[l.Lo,l.Hi]) (cond (b.2==0) ((Hq a 160 200).bind fun m=>cond ([b.1.Lo,b.1.Hi]==[m.Lo,m.Hi]) (cond (c.2.2==0) ((E2 a c.1 [1]).bind fun v=>cond (v) (cond (c.2.1==180) (cond (e.2==0) ((E2 a e.1 [1,0]).bind fun w=>cond (w) (cond (f.2==0) ((E2 a f.1 [0,1]).bind fun x=>cond (x) (cond (g.2==0) (cond (g.1==1) (cond (h.2==0) ((E2 a h.1 [0]).bind fun y=>some (y)) (some (false))) (some (false))) (some (false))) (some (false))) (some (false))) (some (false))) (some (false))) (some (false))) (some (false))) (some (false))) (some (false))) (some (false))) (some (false))) (some (false))) (some (false))) (some (false))) (some (false))) (some (false))
theorem Adl:Bx=Yj:=by
 funext K;unfold Bx Yj;rw[Adk]
set_option maxRecDepth 100000 in
theorem AaS:Yj 1000=some true:=by kernel_rfl
theorem Lc:Bx 1000=some true:=by rw[Adl];exact AaS
end Go.Proofs.YtbhofkcbfblijaaGreat
end
section
namespace Go.Proofs.YtbhofkcbfblijaaGreat
namespace HF
theorem mixed:Tryz.prog.follows .mixedOrders=true:=by kernel_rfl
theorem UH(b:Nat)(w:World):(Instr.fieldAt 131 (.pointer (some ⟨b,0,none⟩)) 0).run Tryz.prog w=.ok (.pointer (some ⟨b,0,none⟩)) w:=by kernel_rfl
theorem Bz:One Tryz.prog 3:=by unfold One;exact⟨by kernel_rfl,by kernel_rfl⟩
theorem UI(b:Nat)(w:World):(Instr.fieldAt 131 (.pointer (some ⟨b,0,none⟩)) 1).run Tryz.prog w=.ok (.pointer (some ⟨b,1,none⟩)) w:=by kernel_rfl
theorem VW:Bv Tryz.prog 140:=by unfold Bv;kernel_rfl
theorem DR:(Tryz.prog.info? 3).map (·.size)=some 1:=by kernel_rfl
theorem Z9(b:Nat)(w:World):(Instr.fieldAt 133 (.pointer (some ⟨b,0,none⟩)) 0).run Tryz.prog w=.ok (.pointer (some ⟨b,0,none⟩)) w:=by kernel_rfl
theorem OP:One Tryz.prog 4:=by unfold One;exact⟨by kernel_rfl,by kernel_rfl⟩
theorem OQ(b:Nat)(w:World):(Instr.fieldAt 38 (.pointer (some ⟨b,0,none⟩)) 0).run Tryz.prog w=.ok (.pointer (some ⟨b,0,none⟩)) w:=by kernel_rfl
theorem Qb:One Tryz.prog 35:=by unfold One;exact⟨by kernel_rfl,by kernel_rfl⟩
theorem UJ(b:Nat)(w:World):(Instr.fieldAt 133 (.pointer (some ⟨b,0,none⟩)) 1).run Tryz.prog w=.ok (.pointer (some ⟨b,1,none⟩)) w:=by kernel_rfl
theorem Aa8:Bv Tryz.prog 199:=by unfold Bv;kernel_rfl
theorem UK:(Tryz.prog.info? 131).bind (·.zero)=some (.agg #[I 0,I 0]):=by kernel_rfl
theorem AeF:Bv Tryz.prog 168:=by unfold Bv;kernel_rfl
theorem SQ:(Tryz.prog.info? 131).map (·.size)=some 2:=by kernel_rfl
theorem PG:HO Tryz.prog 131 2:=by unfold HO;exact⟨by kernel_rfl,by kernel_rfl⟩
theorem AeG:One Tryz.prog 214:=by unfold One;exact⟨by kernel_rfl,by kernel_rfl⟩
theorem AeH:Bv Tryz.prog 221:=by unfold Bv;kernel_rfl
theorem AeI:Bv Tryz.prog 194:=by unfold Bv;kernel_rfl
theorem AeJ:Bv Tryz.prog 193:=by unfold Bv;kernel_rfl
theorem Yk:One Tryz.prog 148:=by unfold One;exact⟨by kernel_rfl,by kernel_rfl⟩
theorem FX:(Tryz.prog.info? 31).map (·.size)=some 1:=by kernel_rfl
theorem Eu:One Tryz.prog 31:=by unfold One;exact⟨by kernel_rfl,by kernel_rfl⟩
theorem AeK:Bv Tryz.prog 222:=by unfold Bv;kernel_rfl
theorem AeL:Bv Tryz.prog 196:=by unfold Bv;kernel_rfl
theorem AeM:Bv Tryz.prog 195:=by unfold Bv;kernel_rfl
theorem AeN:One Tryz.prog 212:=by unfold One;exact⟨by kernel_rfl,by kernel_rfl⟩
theorem VX:HO Tryz.prog 133 4:=by unfold HO;exact⟨by kernel_rfl,by kernel_rfl⟩
theorem Aaa:(Tryz.prog.info? 133).map (·.size)=some 4:=by kernel_rfl
theorem AeO:Bv Tryz.prog 223:=by unfold Bv;kernel_rfl
theorem AeP:Bv Tryz.prog 198:=by unfold Bv;kernel_rfl
theorem AeQ:Bv Tryz.prog 197:=by unfold Bv;kernel_rfl
theorem Tk:One Tryz.prog 142:=by unfold One;exact⟨by kernel_rfl,by kernel_rfl⟩
theorem AeR:Bv Tryz.prog 207:=by unfold Bv;kernel_rfl
theorem AeS:Bv Tryz.prog 231:=by unfold Bv;kernel_rfl
theorem Aa9:Bv Tryz.prog 187:=by unfold Bv;kernel_rfl
theorem AeT:Bv Tryz.prog 220:=by unfold Bv;kernel_rfl
theorem AeU:Bv Tryz.prog 219:=by unfold Bv;kernel_rfl
theorem N9:HO Tryz.prog 38 3:=by unfold HO;exact⟨by kernel_rfl,by kernel_rfl⟩
theorem AeV:Bv Tryz.prog 191:=by unfold Bv;kernel_rfl
theorem Aba:Bv Tryz.prog 192:=by unfold Bv;kernel_rfl
theorem PH(b:Nat)(w:World):(Instr.fieldAt 38 (.pointer (some ⟨b,0,none⟩)) 1).run Tryz.prog w=.ok (.pointer (some ⟨b,1,none⟩)) w:=by kernel_rfl
theorem El:One Tryz.prog 23:=by unfold One;exact⟨by kernel_rfl,by kernel_rfl⟩
theorem WI(b:Nat)(w:World):(Instr.fieldAt 133 (.pointer (some ⟨b,0,none⟩)) 2).run Tryz.prog w=.ok (.pointer (some ⟨b,2,none⟩)) w:=by kernel_rfl
theorem Yl:Bv Tryz.prog 165:=by unfold Bv;kernel_rfl
theorem Uf(b:Nat)(w:World):(Instr.fieldAt 38 (.pointer (some ⟨b,0,none⟩)) 2).run Tryz.prog w=.ok (.pointer (some ⟨b,2,none⟩)) w:=by kernel_rfl
theorem Xx:One Tryz.prog 36:=by unfold One;exact⟨by kernel_rfl,by kernel_rfl⟩
theorem AeW:Bv Tryz.prog 164:=by unfold Bv;kernel_rfl
theorem AeX:Bv Tryz.prog 163:=by unfold Bv;kernel_rfl
theorem AeY:Bv Tryz.prog 166:=by unfold Bv;kernel_rfl
theorem AeZ:Bv Tryz.prog 162:=by unfold Bv;kernel_rfl
theorem Ae0:Bv Tryz.prog 167:=by unfold Bv;kernel_rfl
theorem Ae1:Bv Tryz.prog 169:=by unfold Bv;kernel_rfl
theorem Ae2:Bv Tryz.prog 179:=by unfold Bv;kernel_rfl
theorem QE:HO Tryz.prog 182 3:=by unfold HO;exact⟨by kernel_rfl,by kernel_rfl⟩
theorem Abb:Bv Tryz.prog 183:=by unfold Bv;kernel_rfl
theorem Adm:(Tryz.prog.info? 133).bind (·.zero)=some (.agg #[.bool false,I 0,I 0,I 0]):=by kernel_rfl
theorem QF:Bv Tryz.prog 136:=by unfold Bv;kernel_rfl
theorem Ae3:Bv Tryz.prog 178:=by unfold Bv;kernel_rfl
theorem Ae4:Bv Tryz.prog 177:=by unfold Bv;kernel_rfl
theorem Abc:Bv Tryz.prog 176:=by unfold Bv;kernel_rfl
theorem WJ:(Tryz.prog.info? 182).bind (·.zero)=some (.agg #[I 0,I 0,I 0]):=by kernel_rfl
theorem Vq:(Tryz.prog.info? 182).map (·.size)=some 3:=by kernel_rfl
theorem Ym:Bv Tryz.prog 127:=by unfold Bv;kernel_rfl
theorem Abd:Bv Tryz.prog 132:=by unfold Bv;kernel_rfl
theorem Hv:(Tryz.prog.info? 3).map (fun i=>(i.zero,i.size,i.bytes))=some (some (I 0),1,8):=by kernel_rfl
theorem Ae5:Bv Tryz.prog 133:=by unfold Bv;kernel_rfl
theorem OR(b:Nat)(w:World):(Instr.fieldAt 60 (.pointer (some ⟨b,0,none⟩)) 0).run Tryz.prog w=.ok (.pointer (some ⟨b,0,none⟩)) w:=by kernel_rfl
theorem QG(b:Nat)(w:World):(Instr.fieldAt 60 (.pointer (some ⟨b,0,none⟩)) 1).run Tryz.prog w=.ok (.pointer (some ⟨b,1,none⟩)) w:=by kernel_rfl
theorem RX:Bv Tryz.prog 158:=by unfold Bv;kernel_rfl
theorem MD:(Tryz.prog.info? 60).bind (·.zero)=some (.agg #[I 0,I 0]):=by kernel_rfl
theorem Ae6:Bv Tryz.prog 185:=by unfold Bv;kernel_rfl
theorem JG:(Tryz.prog.info? 60).map (·.size)=some 2:=by kernel_rfl
theorem Jm:HO Tryz.prog 60 2:=by unfold HO;exact⟨by kernel_rfl,by kernel_rfl⟩
theorem PI(b:Nat)(w:World):(Instr.fieldAt 53 (.pointer (some ⟨b,0,none⟩)) 0).run Tryz.prog w=.ok (.pointer (some ⟨b,0,none⟩)) w:=by kernel_rfl
theorem Aab(b:Nat)(w:World):(Instr.fieldAt 134 (.pointer (some ⟨b,0,none⟩)) 0).run Tryz.prog w=.ok (.pointer (some ⟨b,0,none⟩)) w:=by kernel_rfl
theorem Tl(b:Nat)(w:World):(Instr.fieldAt 53 (.pointer (some ⟨b,0,none⟩)) 2).run Tryz.prog w=.ok (.pointer (some ⟨b,4,none⟩)) w:=by kernel_rfl
theorem Ty:One Tryz.prog 49:=by unfold One;exact⟨by kernel_rfl,by kernel_rfl⟩
theorem Aac(b:Nat)(w:World):(Instr.fieldAt 134 (.pointer (some ⟨b,0,none⟩)) 1).run Tryz.prog w=.ok (.pointer (some ⟨b,1,none⟩)) w:=by kernel_rfl
theorem Hh:HO Tryz.prog 53 7:=by unfold HO;exact⟨by kernel_rfl,by kernel_rfl⟩
theorem Aad(b:Nat)(w:World):(Instr.fieldAt 136 (.pointer (some ⟨b,0,none⟩)) 0).run Tryz.prog w=.ok (.pointer (some ⟨b,0,none⟩)) w:=by kernel_rfl
theorem Ug:Bv Tryz.prog 137:=by unfold Bv;kernel_rfl
theorem Aae(b:Nat)(w:World):(Instr.fieldAt 136 (.pointer (some ⟨b,0,none⟩)) 1).run Tryz.prog w=.ok (.pointer (some ⟨b,1,none⟩)) w:=by kernel_rfl
theorem Ae7:Bv Tryz.prog 161:=by unfold Bv;kernel_rfl
theorem Ae8:One Tryz.prog 220:=by unfold One;exact⟨by kernel_rfl,by kernel_rfl⟩
theorem Vr:HO Tryz.prog 48 2:=by unfold HO;exact⟨by kernel_rfl,by kernel_rfl⟩
theorem UL:(Tryz.prog.info? 48).map (·.size)=some 2:=by kernel_rfl
theorem Ae9:Bv Tryz.prog 224:=by unfold Bv;kernel_rfl
theorem Afa:Bv Tryz.prog 201:=by unfold Bv;kernel_rfl
theorem Afb:Bv Tryz.prog 200:=by unfold Bv;kernel_rfl
theorem Afc:One Tryz.prog 177:=by unfold One;exact⟨by kernel_rfl,by kernel_rfl⟩
theorem RY:HO Tryz.prog 134 2:=by unfold HO;exact⟨by kernel_rfl,by kernel_rfl⟩
theorem Tz:(Tryz.prog.info? 134).map (·.size)=some 2:=by kernel_rfl
theorem Afd:Bv Tryz.prog 202:=by unfold Bv;kernel_rfl
theorem Afe:Bv Tryz.prog 173:=by unfold Bv;kernel_rfl
theorem Aff:Bv Tryz.prog 172:=by unfold Bv;kernel_rfl
theorem Afg:One Tryz.prog 178:=by unfold One;exact⟨by kernel_rfl,by kernel_rfl⟩
theorem Yn:HO Tryz.prog 136 3:=by unfold HO;exact⟨by kernel_rfl,by kernel_rfl⟩
theorem Vs:(Tryz.prog.info? 136).map (·.size)=some 3:=by kernel_rfl
theorem Afh:Bv Tryz.prog 203:=by unfold Bv;kernel_rfl
theorem Afi:Bv Tryz.prog 175:=by unfold Bv;kernel_rfl
theorem Afj:Bv Tryz.prog 174:=by unfold Bv;kernel_rfl
theorem Afk:Bv Tryz.prog 188:=by unfold Bv;kernel_rfl
theorem Yo(b:Nat)(w:World):(Instr.fieldAt 48 (.pointer (some ⟨b,0,none⟩)) 0).run Tryz.prog w=.ok (.pointer (some ⟨b,0,none⟩)) w:=by kernel_rfl
theorem Yp(b:Nat)(w:World):(Instr.fieldAt 48 (.pointer (some ⟨b,0,none⟩)) 1).run Tryz.prog w=.ok (.pointer (some ⟨b,1,none⟩)) w:=by kernel_rfl
theorem Abe:(Tryz.prog.info? 48).bind (·.zero)=some (.agg #[I 0,I 0]):=by kernel_rfl
theorem Afl:Bv Tryz.prog 171:=by unfold Bv;kernel_rfl
theorem Afm:Bv Tryz.prog 170:=by unfold Bv;kernel_rfl
theorem ME(b:Nat)(w:World):(Instr.fieldAt 53 (.pointer (some ⟨b,0,none⟩)) 3).run Tryz.prog w=.ok (.pointer (some ⟨b,5,none⟩)) w:=by kernel_rfl
theorem NQ:One Tryz.prog 50:=by unfold One;exact⟨by kernel_rfl,by kernel_rfl⟩
theorem Rm(b:Nat)(w:World):(Instr.fieldAt 53 (.pointer (some ⟨b,0,none⟩)) 4).run Tryz.prog w=.ok (.pointer (some ⟨b,6,none⟩)) w:=by kernel_rfl
theorem TA:One Tryz.prog 51:=by unfold One;exact⟨by kernel_rfl,by kernel_rfl⟩
theorem Afn(b:Nat)(w:World):(Instr.fieldAt 53 (.pointer (some ⟨b,0,none⟩)) 1).run Tryz.prog w=.ok (.pointer (some ⟨b,3,none⟩)) w:=by kernel_rfl
theorem Afo:Bv Tryz.prog 128:=by unfold Bv;kernel_rfl
theorem Afp:Bv Tryz.prog 129:=by unfold Bv;kernel_rfl
theorem Afq:Bv Tryz.prog 125:=by unfold Bv;kernel_rfl
theorem Afr:Bv Tryz.prog 130:=by unfold Bv;kernel_rfl
theorem Afs:Bv Tryz.prog 126:=by unfold Bv;kernel_rfl
theorem Aft:Bv Tryz.prog 131:=by unfold Bv;kernel_rfl
theorem Abf:(Tryz.prog.info? 60).map (fun i=>(i.zero,i.size,i.bytes))=some (some (.agg #[I 0,I 0]),2,16):=by kernel_rfl
theorem Abg:UW Tryz.prog 204 2:=Xl 2 Tryz.underlying204 (by kernel_rfl) rfl rfl Bz Tryz.underlying3
theorem Aaf:ZD Tryz.prog 204 2:=AaL 2 Tryz.underlying204 rfl rfl Bz Tryz.underlying3
theorem YZ:UC Tryz.prog 204:=by unfold UC;kernel_rfl
theorem Ahr:(Tryz.prog.info? 3).bind (·.zero)=some (I 0):=by kernel_rfl
theorem UM(b:Nat)(w:World):(Instr.fieldAt 162 (.pointer (some ⟨b,0,none⟩)) 1).run Tryz.prog w=.ok (.pointer (some ⟨b,7,none⟩)) w:=by kernel_rfl
theorem Afu(w:World):(Op.equal 31 (.slice none 0 0) (.slice none 0 0)).run Tryz.prog w=.ok true w:=by kernel_rfl
theorem Afv(ad:Addr)(n c:Nat)(w:World):(Op.equal 31 (.slice (some ad) n c) (.slice none 0 0)).run Tryz.prog w=.ok false w:=by kernel_rfl
theorem Uh:Bv Tryz.prog 105:=by unfold Bv;kernel_rfl
theorem Xy:One Tryz.prog 55:=by unfold One;exact⟨by kernel_rfl,by kernel_rfl⟩
theorem Afw:Bv Tryz.prog 206:=by unfold Bv;kernel_rfl
theorem VY(b o:Nat)(w:World):(Instr.fieldAt 60 (.pointer (some ⟨b,o,none⟩)) 0).run Tryz.prog w=.ok (.pointer (some ⟨b,o,none⟩)) w:=by kernel_rfl
theorem Abh:Bv Tryz.prog 205:=by unfold Bv;kernel_rfl
theorem VZ:(Tryz.prog.info? 31).bind (·.zero)=some (.slice none 0 0):=by kernel_rfl
theorem Aag:(Tryz.prog.info? 142).bind (·.zero)=some (.nilFunc):=by kernel_rfl
theorem Acu:(Tryz.prog.info? 142).map (·.size)=some 1:=by kernel_rfl
theorem UN:(Tryz.prog.info? 155).bind (·.zero)=some (.agg #[I 0,I 0,I 0]):=by kernel_rfl
theorem Afx:Bv Tryz.prog 150:=by unfold Bv;kernel_rfl
theorem Rn:HO Tryz.prog 155 3:=by unfold HO;exact⟨by kernel_rfl,by kernel_rfl⟩
theorem Ui:(Tryz.prog.info? 155).map (·.size)=some 3:=by kernel_rfl
theorem V0:Bv Tryz.prog 102:=by unfold Bv;kernel_rfl
theorem TB:(Tryz.prog.info? 152).bind (·.zero)=some (.pointer none):=by kernel_rfl
theorem Vt:(Tryz.prog.info? 152).map (·.size)=some 1:=by kernel_rfl
theorem Abi:Bv Tryz.prog 147:=by unfold Bv;kernel_rfl
theorem Afy:Bv Tryz.prog 186:=by unfold Bv;kernel_rfl
theorem Xz:Bv Tryz.prog 79:=by unfold Bv;kernel_rfl
theorem V1:Bv Tryz.prog 104:=by unfold Bv;kernel_rfl
theorem K0:One Tryz.prog 152:=by unfold One;exact⟨by kernel_rfl,by kernel_rfl⟩
theorem Qp(b:Nat)(w:World):(Instr.fieldAt 162 (.pointer (some ⟨b,0,none⟩)) 2).run Tryz.prog w=.ok (.pointer (some ⟨b,8,none⟩)) w:=by kernel_rfl
theorem RZ:One Tryz.prog 159:=by unfold One;exact⟨by kernel_rfl,by kernel_rfl⟩
theorem Aah:(Tryz.prog.info? 155).map (fun i=>(i.zero,i.size,i.bytes))=some (some (.agg #[I 0,I 0,I 0]),3,24):=by kernel_rfl
theorem Acv:(Tryz.prog.info? 159).map (·.size)=some 1:=by kernel_rfl
theorem Afz:Tryz.prog.eqGuardType Tryz.prog.depth 155=false:=by kernel_rfl
theorem AfA:UW Tryz.prog 155 3:=Aca Tryz.underlying155 Bz Tryz.underlying3
theorem AfB:Bv Tryz.prog 204:=by unfold Bv;kernel_rfl
theorem Aai(b o:Nat)(w:World):(Instr.fieldAt 162 (.pointer (some ⟨b,o,none⟩)) 3).run Tryz.prog w=.ok (.pointer (some ⟨b,o+9,none⟩)) w:=by kernel_rfl
theorem Abj:One Tryz.prog 160:=by unfold One;exact⟨by kernel_rfl,by kernel_rfl⟩
theorem Abk:HO Tryz.prog 204 2:=by unfold HO;exact⟨by kernel_rfl,by kernel_rfl⟩
theorem Sz(b o:Nat)(w:World):(Instr.fieldAt 162 (.pointer (some ⟨b,o,none⟩)) 0).run Tryz.prog w=.ok (.pointer (some ⟨b,o,none⟩)) w:=by kernel_rfl
theorem Abl(b o:Nat)(w:World):(Instr.fieldAt 53 (.pointer (some ⟨b,o,none⟩)) 2).run Tryz.prog w=.ok (.pointer (some ⟨b,o+4,none⟩)) w:=by kernel_rfl
theorem Adn(b:Nat)(w:World):(Instr.fieldAt 204 (.pointer (some ⟨b,0,none⟩)) 1).run Tryz.prog w=.ok (.pointer (some ⟨b,1,none⟩)) w:=by kernel_rfl
theorem Q0(b o:Nat)(w:World):(Instr.fieldAt 162 (.pointer (some ⟨b,o,none⟩)) 1).run Tryz.prog w=.ok (.pointer (some ⟨b,o+7,none⟩)) w:=by kernel_rfl
theorem Ado(b:Nat)(w:World):(Instr.fieldAt 204 (.pointer (some ⟨b,0,none⟩)) 0).run Tryz.prog w=.ok (.pointer (some ⟨b,0,none⟩)) w:=by kernel_rfl
theorem UO:(Tryz.prog.info? 151).bind (·.zero)=some (.agg #[I 0,I 0,I 0]):=by kernel_rfl
theorem AfC:Bv Tryz.prog 149:=by unfold Bv;kernel_rfl
theorem Tm:HO Tryz.prog 151 3:=by unfold HO;exact⟨by kernel_rfl,by kernel_rfl⟩
theorem XA:(Tryz.prog.info? 151).map (·.size)=some 3:=by kernel_rfl
theorem Adp:(Tryz.prog.info? 136).bind (·.zero)=some (.agg #[I 0,I 0,I 0]):=by kernel_rfl
theorem Abm:Bv Tryz.prog 148:=by unfold Bv;kernel_rfl
theorem Adq(b o:Nat)(w:World):(Instr.fieldAt 162 (.pointer (some ⟨b,o,none⟩)) 2).run Tryz.prog w=.ok (.pointer (some ⟨b,o+8,none⟩)) w:=by kernel_rfl
theorem V2:Bv Tryz.prog 103:=by unfold Bv;kernel_rfl
theorem V4:Bv Tryz.prog 124:=by unfold Bv;kernel_rfl
theorem Aaj:(Tryz.prog.info? 4).bind (·.zero)=some (.bool false):=by kernel_rfl
theorem Yq:Bv Tryz.prog 151:=by unfold Bv;kernel_rfl
theorem Vu:(Tryz.prog.info? 4).map (·.size)=some 1:=by kernel_rfl
theorem Yr:Bv Tryz.prog 184:=by unfold Bv;kernel_rfl
theorem Vv:Bv Tryz.prog 75:=by unfold Bv;kernel_rfl
theorem AfD:Bv Tryz.prog 101:=by unfold Bv;kernel_rfl
theorem AfE:Bv Tryz.prog 154:=by unfold Bv;kernel_rfl
theorem Ys:Bv Tryz.prog 111:=by unfold Bv;kernel_rfl
theorem Yt:Bv Tryz.prog 112:=by unfold Bv;kernel_rfl
theorem AfF:One Tryz.prog 164:=by unfold One;exact⟨by kernel_rfl,by kernel_rfl⟩
theorem Abn:Bv Tryz.prog 152:=by unfold Bv;kernel_rfl
theorem PJ:Bv Tryz.prog 106:=by unfold Bv;kernel_rfl
theorem Aak:(Tryz.prog.info? 3).bind (·.zero)=some (I 0):=by kernel_rfl
theorem AfG:Bv Tryz.prog 108:=by unfold Bv;kernel_rfl
theorem Abo:Bv Tryz.prog 107:=by unfold Bv;kernel_rfl
theorem AfH:Bv Tryz.prog 157:=by unfold Bv;kernel_rfl
theorem AfI:Bv Tryz.prog 156:=by unfold Bv;kernel_rfl
theorem AfJ(b o:Nat)(w:World):(Instr.fieldAt 53 (.pointer (some ⟨b,o,none⟩)) 1).run Tryz.prog w=.ok (.pointer (some ⟨b,o+3,none⟩)) w:=by kernel_rfl
theorem AfK:Bv Tryz.prog 153:=by unfold Bv;kernel_rfl
theorem SA:Bv Tryz.prog 117:=by unfold Bv;kernel_rfl
theorem Yu:Bv Tryz.prog 109:=by unfold Bv;kernel_rfl
theorem QA:Bv Tryz.prog 50:=by unfold Bv;kernel_rfl
theorem Abp(a:Value)(x1:Value)(w:World):(Instr.field 60 (.agg #[a,x1]) 0).run Tryz.prog w=.ok (a) w:=by kernel_rfl
theorem Yv:One Tryz.prog 166:=by unfold One;exact⟨by kernel_rfl,by kernel_rfl⟩
theorem Yw:Bv Tryz.prog 110:=by unfold Bv;kernel_rfl
theorem Adr:(Tryz.prog.info? 166).bind (·.zero)=some (.nilFunc):=by kernel_rfl
theorem Agr:(Tryz.prog.info? 166).map (·.size)=some 1:=by kernel_rfl
theorem AfL:Bv Tryz.prog 159:=by unfold Bv;kernel_rfl
theorem AfM:Bv Tryz.prog 160:=by unfold Bv;kernel_rfl
theorem AfN(b o:Nat)(w:World):(Instr.fieldAt 48 (.pointer (some ⟨b,o,none⟩)) 0).run Tryz.prog w=.ok (.pointer (some ⟨b,o,none⟩)) w:=by kernel_rfl
theorem AfO(b o:Nat)(w:World):(Instr.fieldAt 53 (.pointer (some ⟨b,o,none⟩)) 3).run Tryz.prog w=.ok (.pointer (some ⟨b,o+5,none⟩)) w:=by kernel_rfl
theorem Ads:(Tryz.prog.info? 134).bind (·.zero)=some (.agg #[I 0,I 0]):=by kernel_rfl
theorem Uj:Bv Tryz.prog 138:=by unfold Bv;kernel_rfl
theorem Np:(Tryz.prog.info? 31).map (fun i=>(i.zero,i.size,i.bytes))=some (some (.slice none 0 0),1,24):=by kernel_rfl
theorem Abq:Bv Tryz.prog 135:=by unfold Bv;kernel_rfl
theorem Abr:Bv Tryz.prog 134:=by unfold Bv;kernel_rfl
theorem AfP:(Tryz.prog.info? 23).bind (·.zero)=some (.slice none 0 0):=by kernel_rfl
theorem Ad9:(Tryz.prog.info? 23).map (·.size)=some 1:=by kernel_rfl
theorem Abs:One Tryz.prog 199:=by unfold One;exact⟨by kernel_rfl,by kernel_rfl⟩
theorem Abt:Bv Tryz.prog 155:=by unfold Bv;kernel_rfl
theorem Adt:(Tryz.prog.info? 199).bind (·.zero)=some (.nilFunc):=by kernel_rfl
theorem Ags:(Tryz.prog.info? 199).map (·.size)=some 1:=by kernel_rfl
theorem Adu(b:Nat)(w:World):(Instr.fieldAt 174 (.pointer (some ⟨b,0,none⟩)) 0).run Tryz.prog w=.ok (.pointer (some ⟨b,0,none⟩)) w:=by kernel_rfl
theorem AfQ:One Tryz.prog 172:=by unfold One;exact⟨by kernel_rfl,by kernel_rfl⟩
theorem V6:Bv Tryz.prog 121:=by unfold Bv;kernel_rfl
theorem Adv:(Tryz.prog.info? 174).bind (·.zero)=some (.agg #[.nilFunc]):=by kernel_rfl
theorem Agt:(Tryz.prog.info? 174).map (·.size)=some 1:=by kernel_rfl
theorem AfR:Bv Tryz.prog 122:=by unfold Bv;kernel_rfl
theorem Abu:Bv Tryz.prog 113:=by unfold Bv;kernel_rfl
theorem Adw(b:Nat)(w:World):(Instr.fieldAt 162 (.pointer (some ⟨b,0,none⟩)) 0).run Tryz.prog w=.ok (.pointer (some ⟨b,0,none⟩)) w:=by kernel_rfl
theorem Aea:(Tryz.prog.info? 51).map (·.size)=some 1:=by kernel_rfl
theorem JL(b:Nat)(w:World):(Instr.fieldAt 44 (.pointer (some ⟨b,0,none⟩)) 0).run Tryz.prog w=.ok (.pointer (some ⟨b,0,none⟩)) w:=by kernel_rfl
theorem NU(b:Nat)(w:World):(Instr.fieldAt 44 (.pointer (some ⟨b,0,none⟩)) 1).run Tryz.prog w=.ok (.pointer (some ⟨b,1,none⟩)) w:=by kernel_rfl
theorem Fk:Bv Tryz.prog 29:=by unfold Bv;kernel_rfl
theorem ES(b:Nat)(w:World):(Instr.fieldAt 26 (.pointer (some ⟨b,0,none⟩)) 0).run Tryz.prog w=.ok (.pointer (some ⟨b,0,none⟩)) w:=by kernel_rfl
theorem Fz:One Tryz.prog 22:=by unfold One;exact⟨by kernel_rfl,by kernel_rfl⟩
theorem G0:(Tryz.prog.info? 44).map (·.size)=some 2:=by kernel_rfl
theorem Gk:HO Tryz.prog 44 2:=by unfold HO;exact⟨by kernel_rfl,by kernel_rfl⟩
theorem MF:Bv Tryz.prog 118:=by unfold Bv;kernel_rfl
theorem Ei(b:Nat)(w:World):(Instr.fieldAt 26 (.pointer (some ⟨b,0,none⟩)) 1).run Tryz.prog w=.ok (.pointer (some ⟨b,1,none⟩)) w:=by kernel_rfl
theorem K1(b:Nat)(w:World):(Instr.fieldAt 26 (.pointer (some ⟨b,0,none⟩)) 2).run Tryz.prog w=.ok (.pointer (some ⟨b,2,none⟩)) w:=by kernel_rfl
theorem LZ:One Tryz.prog 24:=by unfold One;exact⟨by kernel_rfl,by kernel_rfl⟩
theorem XB:Bv Tryz.prog 90:=by unfold Bv;kernel_rfl
theorem EP:HO Tryz.prog 26 3:=by unfold HO;exact⟨by kernel_rfl,by kernel_rfl⟩
theorem Acw:Bv Tryz.prog 91:=by unfold Bv;kernel_rfl
theorem MP:Bv Tryz.prog 35:=by unfold Bv;kernel_rfl
theorem Ro:(Tryz.prog.info? 46).map (·.size)=some 4:=by kernel_rfl
theorem Q1:HO Tryz.prog 46 4:=by unfold HO;exact⟨by kernel_rfl,by kernel_rfl⟩
theorem Abv:(Tryz.prog.info? 46).bind (·.zero)=some (.agg #[.bool false,I 0,I 0,I 0]):=by kernel_rfl
theorem Qc(b:Nat)(w:World):(Instr.fieldAt 46 (.pointer (some ⟨b,0,none⟩)) 0).run Tryz.prog w=.ok (.pointer (some ⟨b,0,none⟩)) w:=by kernel_rfl
theorem PK(b:Nat)(w:World):(Instr.fieldAt 46 (.pointer (some ⟨b,0,none⟩)) 1).run Tryz.prog w=.ok (.pointer (some ⟨b,1,none⟩)) w:=by kernel_rfl
theorem HK(b:Nat)(w:World):(Instr.fieldAt 46 (.pointer (some ⟨b,0,none⟩)) 2).run Tryz.prog w=.ok (.pointer (some ⟨b,2,none⟩)) w:=by kernel_rfl
theorem Q2:Bv Tryz.prog 59:=by unfold Bv;kernel_rfl
theorem Ee(b:Nat)(w:World):(Instr.fieldAt 67 (.pointer (some ⟨b,0,none⟩)) 0).run Tryz.prog w=.ok (.pointer (some ⟨b,0,none⟩)) w:=by kernel_rfl
theorem GQ(b:Nat)(w:World):(Instr.fieldAt 67 (.pointer (some ⟨b,0,none⟩)) 2).run Tryz.prog w=.ok (.pointer (some ⟨b,4,none⟩)) w:=by kernel_rfl
theorem Hw:One Tryz.prog 63:=by unfold One;exact⟨by kernel_rfl,by kernel_rfl⟩
theorem J7:(Tryz.prog.info? 128).map (·.size)=some 2:=by kernel_rfl
theorem Ml(b o:Nat)(w:World):(Instr.fieldAt 128 (.pointer (some ⟨b,o,none⟩)) 0).run Tryz.prog w=.ok (.pointer (some ⟨b,o,none⟩)) w:=by kernel_rfl
theorem O0(b o:Nat)(w:World):(Instr.fieldAt 128 (.pointer (some ⟨b,o,none⟩)) 1).run Tryz.prog w=.ok (.pointer (some ⟨b,o+1,none⟩)) w:=by kernel_rfl
theorem Cj:HO Tryz.prog 67 7:=by unfold HO;exact⟨by kernel_rfl,by kernel_rfl⟩
theorem Fx(b:Nat)(w:World):(Instr.fieldAt 67 (.pointer (some ⟨b,0,none⟩)) 4).run Tryz.prog w=.ok (.pointer (some ⟨b,6,none⟩)) w:=by kernel_rfl
theorem GF:One Tryz.prog 65:=by unfold One;exact⟨by kernel_rfl,by kernel_rfl⟩
theorem LM:(Tryz.prog.info? 121).map (·.size)=some 3:=by kernel_rfl
theorem Px(b o:Nat)(w:World):(Instr.fieldAt 121 (.pointer (some ⟨b,o,none⟩)) 1).run Tryz.prog w=.ok (.pointer (some ⟨b,o+1,none⟩)) w:=by kernel_rfl
theorem O1(b o:Nat)(w:World):(Instr.fieldAt 121 (.pointer (some ⟨b,o,none⟩)) 0).run Tryz.prog w=.ok (.pointer (some ⟨b,o,none⟩)) w:=by kernel_rfl
theorem QH(b:Nat)(w:World):(Instr.fieldAt 67 (.pointer (some ⟨b,0,none⟩)) 1).run Tryz.prog w=.ok (.pointer (some ⟨b,3,none⟩)) w:=by kernel_rfl
theorem IV(b:Nat)(w:World):(Instr.fieldAt 67 (.pointer (some ⟨b,0,none⟩)) 3).run Tryz.prog w=.ok (.pointer (some ⟨b,5,none⟩)) w:=by kernel_rfl
theorem JU:One Tryz.prog 64:=by unfold One;exact⟨by kernel_rfl,by kernel_rfl⟩
theorem OG:(Tryz.prog.info? 126).map (·.size)=some 2:=by kernel_rfl
theorem Acx:Bv Tryz.prog 24:=by unfold Bv;kernel_rfl
theorem AfS:HO Tryz.prog 128 2:=by unfold HO;exact⟨by kernel_rfl,by kernel_rfl⟩
theorem Adx:(Tryz.prog.info? 128).bind (·.zero)=some (.agg #[I 0,I 0]):=by kernel_rfl
theorem RS(b:Nat)(w:World):(Instr.fieldAt 128 (.pointer (some ⟨b,0,none⟩)) 0).run Tryz.prog w=.ok (.pointer (some ⟨b,0,none⟩)) w:=by kernel_rfl
theorem TD(b:Nat)(w:World):(Instr.fieldAt 128 (.pointer (some ⟨b,0,none⟩)) 1).run Tryz.prog w=.ok (.pointer (some ⟨b,1,none⟩)) w:=by kernel_rfl
theorem TE(b o:Nat)(w:World):(Instr.fieldAt 126 (.pointer (some ⟨b,o,none⟩)) 0).run Tryz.prog w=.ok (.pointer (some ⟨b,o,none⟩)) w:=by kernel_rfl
theorem SC(b o:Nat)(w:World):(Instr.fieldAt 126 (.pointer (some ⟨b,o,none⟩)) 1).run Tryz.prog w=.ok (.pointer (some ⟨b,o+1,none⟩)) w:=by kernel_rfl
theorem Yx:(Tryz.prog.info? 38).bind (·.zero)=some (.agg #[.slice none 0 0,.slice none 0 0,.slice none 0 0]):=by kernel_rfl
theorem Acy:Bv Tryz.prog 98:=by unfold Bv;kernel_rfl
theorem Ady:(Tryz.prog.info? 131).map (fun i=>(i.zero,i.size,i.bytes))=some (some (.agg #[I 0,I 0]),2,16):=by kernel_rfl
theorem Ag0:(Tryz.prog.info? 35).map (·.size)=some 1:=by kernel_rfl
theorem Agu:Bv Tryz.prog 99:=by unfold Bv;kernel_rfl
theorem Adz:(Tryz.prog.info? 133).map (fun i=>(i.zero,i.size,i.bytes))=some (some (.agg #[.bool false,I 0,I 0,I 0]),4,32):=by kernel_rfl
theorem Ag1:(Tryz.prog.info? 36).map (·.size)=some 1:=by kernel_rfl
theorem Aeb:(Tryz.prog.info? 38).map (·.size)=some 3:=by kernel_rfl
theorem Yy:(Tryz.prog.info? 53).bind (·.zero)=some (.agg #[.slice none 0 0,.slice none 0 0,.slice none 0 0,I 0,.slice none 0 0,.slice none 0 0,.slice none 0 0]):=by kernel_rfl
theorem Acz:Bv Tryz.prog 27:=by unfold Bv;kernel_rfl
theorem AbQ:(Tryz.prog.info? 53).map (·.size)=some 7:=by kernel_rfl
theorem AfT:(Tryz.prog.info? 48).map (fun i=>(i.zero,i.size,i.bytes))=some (some (.agg #[I 0,I 0]),2,16):=by kernel_rfl
theorem Ag2:(Tryz.prog.info? 49).map (·.size)=some 1:=by kernel_rfl
theorem AdA:(Tryz.prog.info? 134).map (fun i=>(i.zero,i.size,i.bytes))=some (some (.agg #[I 0,I 0]),2,16):=by kernel_rfl
theorem Ag3:(Tryz.prog.info? 50).map (·.size)=some 1:=by kernel_rfl
theorem SR:Bv Tryz.prog 66:=by unfold Bv;kernel_rfl
theorem AdB:(Tryz.prog.info? 136).map (fun i=>(i.zero,i.size,i.bytes))=some (some (.agg #[I 0,I 0,I 0]),3,24):=by kernel_rfl
theorem Agv:Bv Tryz.prog 23:=by unfold Bv;kernel_rfl
theorem NV:Bv Tryz.prog 116:=by unfold Bv;kernel_rfl
theorem TF:Bv Tryz.prog 57:=by unfold Bv;kernel_rfl
theorem O6:Bv Tryz.prog 36:=by unfold Bv;kernel_rfl
theorem SS:Bv Tryz.prog 88:=by unfold Bv;kernel_rfl
theorem Aal:Bv Tryz.prog 32:=by unfold Bv;kernel_rfl
theorem RH:Bv Tryz.prog 33:=by unfold Bv;kernel_rfl
theorem Vw:Bv Tryz.prog 34:=by unfold Bv;kernel_rfl
theorem Vx:Bv Tryz.prog 81:=by unfold Bv;kernel_rfl
theorem XC:Bv Tryz.prog 69:=by unfold Bv;kernel_rfl
theorem XD:Bv Tryz.prog 42:=by unfold Bv;kernel_rfl
theorem Uk:Bv Tryz.prog 43:=by unfold Bv;kernel_rfl
theorem Q3:Bv Tryz.prog 41:=by unfold Bv;kernel_rfl
theorem Py:Tryz.prog.eqGuardType Tryz.prog.depth 60=false:=by kernel_rfl
theorem Pz:UW Tryz.prog 60 2:=Xl 2 Tryz.underlying60 (by kernel_rfl) rfl rfl Bz Tryz.underlying3
theorem EI:Bv Tryz.prog 37:=by unfold Bv;kernel_rfl
theorem GR:Bv Tryz.prog 38:=by unfold Bv;kernel_rfl
end HF
end Go.Proofs.YtbhofkcbfblijaaGreat
end
section
namespace Go.Proofs.YtbhofkcbfblijaaGreat
open Go.RowKit Go.WideShapes
set_option maxRecDepth 20000
open HF
attribute [local irreducible] Eb WL CC CW LV Cw JC HO One Bv
theorem AbR l b e f(Z:Nat→Prop) w k(d:N2 l b e f=some k):
 Cw Tryz.prog 140 #[I b,I e,I f] w (fun v w'=>Ext w w'∧Dg.R w' (zf Z w []) v k):=by
 unfold N2 at d;refine AS (N:=15) Tryz.func140 rfl rfl (by simp) ?_;intro m ha n;have g:=sA 0 ha;have i:=sA 1 ha;have j:=sA 2 ha;clear ha;have h:Hp FN [] w [] w:=Hp.start (Cc.none w);refine Af<|Ad<|wA (v:=.bool false) rfl<|Ag<|Ab<|Af<|Ad<|wM (v:=I e) i<|wM (v:=I b) g<|wD (fun st=>LX (eR st) (eR st))<|wM (v:=.bool (decide (e≤b))) rfl ?_;rcases Ak (decide (e≤b)) with a|a
 ·replace d:=Az d a;refine An rfl rfl (Ae rfl a) rfl (by decide) (fun st=>Aq (v:=I b) (ee st g))<|An rfl rfl (Ae rfl a) rfl (by decide) (fun st=>Aq (v:=I f) (ee st j))<|An rfl rfl (Ae rfl a) rfl (by decide) (fun st=>LX (eR st) (eR st))<|wD (fun st=>AY (v:=.bool (decide (b≤f))) (eR st) a (eR st))<|wA (v:=.bool (decide (b≤f))) rfl<|Ag<|Ab<|AI ?_;obtain rfl:=oi d;refine AJ rfl rfl ?_;exact⟨h.Bc,rfl⟩
 ·replace d:=AA d a;refine Au (c:=false) rfl rfl (Ae rfl a) (by decide) rfl (by decide)<|Au (c:=false) rfl rfl (Ae rfl a) (by decide) rfl (by decide)<|Au (c:=false) rfl rfl (Ae rfl a) (by decide) rfl (by decide)<|wD (fun st=>BC (v:=.bool false) (eR st) a (eR st))<|wA (v:=.bool false) rfl<|Ag<|Ab<|AI ?_;obtain rfl:=oi d;refine AJ rfl rfl ?_;exact⟨h.Bc,rfl⟩
theorem AdC l b(Z:Nat→Prop) w j(e:LW l b=some j):
 Cw Tryz.prog 165 #[.agg #[I b.Lo,I b.Hi]] w (fun v w'=>Ext w w'∧Dg.R w' (zf Z w []) v j):=by
 unfold LW at e;refine AS (N:=18) Tryz.func165 rfl rfl (by simp) ?_;intro m ha n;have i:=sA 0 ha;clear ha;have h:Hp FN [] w [] w:=Hp.start (Cc.none w);refine Af<|Ad<|wE (fun st=>Ci (v:=.agg #[I b.Lo,I b.Hi]) (cs:= #[I b.Lo,I b.Hi]) (ee st i) rfl) ?_;rintro _ w1 ⟨b1,rfl,f⟩;have g:=h.nb f;have k:=h.Cr f;refine wA (v:=.bool false) rfl<|Ag<|Ab<|Af<|Ad<|wD (fun st=>Ai (eR st) (UH _ _))<|wD (fun st=>AG (v:=I b.Lo) Bz (eR st) f.bk rfl)<|wD (fun st=>LX (eR st) (eR st))<|wM (v:=.bool (decide ((0:Int)≤b.Lo))) rfl ?_;rcases Ak (decide ((0:Int)≤b.Lo)) with a|a
 ·replace e:=Az e a;refine An rfl rfl (Ae rfl a) rfl (by decide) (fun st=>Ai (eR st) (UH _ _))<|An rfl rfl (Ae rfl a) rfl (by decide) (fun st=>AG (v:=I b.Lo) Bz (eR st) f.bk rfl)<|An rfl rfl (Ae rfl a) rfl (by decide) (fun st=>Ai (eR st) (UI _ _))<|An rfl rfl (Ae rfl a) rfl (by decide) (fun st=>AG (v:=I b.Hi) Bz (eR st) f.bk rfl)<|An rfl rfl (Ae rfl a) rfl (by decide) (fun st=>LX (eR st) (eR st))<|wD (fun st=>AY (v:=.bool (decide (b.Lo≤b.Hi))) (eR st) a (eR st))<|wM (v:=.bool (decide (b.Lo≤b.Hi))) rfl ?_;rcases Ak (decide (b.Lo≤b.Hi)) with d|d
  ·replace e:=Az e d;refine An rfl rfl (Ae rfl d) rfl (by decide) (fun st=>Ai (eR st) (UI _ _))<|An rfl rfl (Ae rfl d) rfl (by decide) (fun st=>AG (v:=I b.Hi) Bz (eR st) f.bk rfl)<|An rfl rfl (Ae rfl d) rfl (by decide) (fun st=>LX (eR st) (eR st))<|wD (fun st=>AY (v:=.bool (decide (b.Hi≤100))) (eR st) d (eR st))<|wA (v:=.bool (decide (b.Hi≤100))) rfl<|Ag<|Ab<|AI ?_;obtain rfl:=oi e;refine AJ rfl rfl ?_;exact⟨g.Bc,rfl⟩
  ·replace e:=AA e d;refine Au (c:=false) rfl rfl (Ae rfl d) (by decide) rfl (by decide)<|Au (c:=false) rfl rfl (Ae rfl d) (by decide) rfl (by decide)<|Au (c:=false) rfl rfl (Ae rfl d) (by decide) rfl (by decide)<|wD (fun st=>BC (v:=.bool false) (eR st) d (eR st))<|wA (v:=.bool false) rfl<|Ag<|Ab<|AI ?_;obtain rfl:=oi e;refine AJ rfl rfl ?_;exact⟨g.Bc,rfl⟩
 ·replace e:=AA e a;refine Au (c:=false) rfl rfl (Ae rfl a) (by decide) rfl (by decide)<|Au (c:=false) rfl rfl (Ae rfl a) (by decide) rfl (by decide)<|Au (c:=false) rfl rfl (Ae rfl a) (by decide) rfl (by decide)<|Au (c:=false) rfl rfl (Ae rfl a) (by decide) rfl (by decide)<|Au (c:=false) rfl rfl (Ae rfl a) (by decide) rfl (by decide)<|wD (fun st=>BC (v:=.bool false) (eR st) a (eR st))<|wM (v:=.bool false) rfl<|Au rfl rfl rfl (by decide) rfl (by decide)<|Au rfl rfl rfl (by decide) rfl (by decide)<|Au rfl rfl rfl (by decide) rfl (by decide)<|wD (fun st=>BC (v:=.bool false) (eR st) rfl (eR st))<|wA (v:=.bool false) rfl<|Ag<|Ab<|AI ?_;obtain rfl:=oi e;refine AJ rfl rfl ?_;exact⟨g.Bc,rfl⟩
theorem Ahs k a(Z:Nat→Prop) w f(b:P2 k a=some f):
 Cw Tryz.prog 169 #[.agg #[I a.Lo,I a.Hi]] w (fun v w'=>Ext w w'∧(Ev .i64).R w' (zf Z w []) v f):=by
 unfold P2 at b;refine AS (N:=9) Tryz.func169 rfl rfl (by simp) ?_;intro l ha m;have e:=sA 0 ha;clear ha;have d:Hp FN [] w [] w:=Hp.start (Cc.none w);refine Af<|Ad<|wE (fun st=>Ci (v:=.agg #[I a.Lo,I a.Hi]) (cs:= #[I a.Lo,I a.Hi]) (ee st e) rfl) ?_;rintro _ w1 ⟨b1,rfl,c⟩;have g:=d.nb c;have j:=d.Cr c;refine wA (v:=I 0) rfl<|Ag<|Ab<|Af<|Ad<|wD (fun st=>Ai (eR st) (UI _ _))<|wD (fun st=>AG (v:=I a.Hi) Bz (eR st) c.bk rfl)<|wD (fun st=>Ai (eR st) (UH _ _))<|wD (fun st=>AG (v:=I a.Lo) Bz (eR st) c.bk rfl) ?_;replace b:=AK b;obtain⟨h,b⟩:=b;refine wD (fun st=>Ex (eR st) (eR st) h) ?_;replace b:=AK b;obtain⟨i,b⟩:=b;refine wD (fun st=>B0 (eR st) (eR st) i)<|wA (v:=I ((a.Hi-a.Lo)+1)) rfl<|Ag<|Ab<|AI ?_;obtain rfl:=oi b;refine AJ rfl rfl ?_;exact⟨g.Bc,rfl⟩
theorem Agw h a d(Z:Nat→Prop) w i(c:Mj h a d=some i):
 Cw Tryz.prog 176 #[.agg #[I a.Lo,I a.Hi],I d] w (fun v w'=>Ext w w'∧Dg.R w' (zf Z w []) v i):=by
 unfold Mj at c;refine AS (N:=11) Tryz.func176 rfl rfl (by simp) ?_;intro p ha q;have f:=sA 0 ha;have g:=sA 1 ha;clear ha;have e:Hp FN [] w [] w:=Hp.start (Cc.none w);refine Af<|Ad<|wE (fun st=>Ci (v:=.agg #[I a.Lo,I a.Hi]) (cs:= #[I a.Lo,I a.Hi]) (ee st f) rfl) ?_;rintro _ w1 ⟨b1,rfl,b⟩;have j:=e.nb b;have o:=e.Cr b;refine wA (v:=.bool false) rfl<|Ag<|Ab<|Af<|Ad<|wM (v:=I d) g<|wD (fun st=>Ai (eR st) (UH _ _))<|wD (fun st=>AG (v:=I a.Lo) Bz (eR st) b.bk rfl)<|wD (fun st=>Ai (eR st) (UI _ _))<|wD (fun st=>AG (v:=I a.Hi) Bz (eR st) b.bk rfl) ?_;replace c:=bind_some c;obtain⟨k,l,c⟩:=c;refine wE (fun st=>Ar VW (eR st) (EN (eR st) (eR st) (eR st)) (AbR h d a.Lo a.Hi ZA _ k l)) ?_;rintro _ r ⟨m,rfl⟩;have n:=j.ext m;refine wA (v:=.bool k) rfl<|Ag<|Ab<|AI ?_;obtain rfl:=oi c;refine AJ rfl rfl ?_;exact⟨n.Bc,rfl⟩
theorem Aht d b(Z:Nat→Prop) w e(a:Qu d b=some e):
 Cw Tryz.prog 220 #[I b] w (fun v w'=>Ext w w'∧Dg.R w' (zf Z w []) v e):=by
 unfold Qu at a;refine AS (N:=5) Tryz.func220 rfl rfl (by simp) ?_;intro k ha l;have c:=sA 0 ha;clear ha;have f:Hp FN [] w [] w:=Hp.start (Cc.none w);refine Af<|Ad<|wA (v:=.bool false) rfl<|Ag<|Ab<|Af<|Ad<|wM (v:=I b) c ?_;replace a:=bind_some a;obtain⟨g,h,a⟩:=a;refine wE (fun st=>Ar VW (eR st) (EN (eR st) (eR st) (eR st)) (AbR d b 0 30 ZA _ g h)) ?_;rintro _ w2 ⟨i,rfl⟩;have j:=f.ext i;refine wA (v:=.bool g) rfl<|Ag<|Ab<|AI ?_;obtain rfl:=oi a;refine AJ rfl rfl ?_;exact⟨j.Bc,rfl⟩
theorem Agx aC i f g(Z:Nat→Prop) w(r:Sl (Ay .i64) w Z f g i) aD(a:Rk aC i=some aD):
 Cw Tryz.prog 192 #[.slice f i.length g] w (fun v w'=>Ext w w'∧(Ev .i64).R w' (zf Z w []) v aD):=by
 unfold Rk at a;refine AS (N:=16) Tryz.func192 rfl rfl (by simp) ?_;intro aS ha aT;have x:=sA 0 ha;clear ha;have aE:Hp FN [] w [] w:=Hp.start (Cc.none w);have o:=r.mv (Bh (Z:=Z) (L:=[]) w);refine Af<|Ad<|wA (v:=I 0) rfl<|Ag<|Ab<|Af<|Af<|Ad<|wM (v:=.slice f i.length g) x<|wD (fun st=>Bu Tryz.underlying31 (eR st))<|wM (v:=I 0) rfl<|Ag<|Ab<|AT ?_;replace a:=bind_some a;obtain⟨s,e,a⟩:=a;refine Cm (fun aF b y=>(aF=.exit 0∧b.tmps.size=16∧b.defers=(X0).ds∧sl b 2=I s∧w=y)) ?aG ?aH
 case aG=>
  clear a;refine Cl (fun(z:Nat) (b:Act) (y:World)=>∃c,∃d,Mx i z c d=some s∧b.tmps.size=16∧b.defers=(X0).ds∧sl b 2=I c∧sl b 5=.slice f i.length g∧sl b 6=I (i.length:Int)∧sl b 7=I d∧w=y) aC ?aI ?aJ
  case aI=>
   intro st;exact⟨(0:Int),(0:Int),e,qz st,qd st,sp st 2 rfl,sp st 5 rfl,sp st 6 rfl,sp st 7 rfl,rfl⟩
  case aJ=>
   rintro(_|z) aU _ ⟨c,d,e,aA,aB,l,m,n,h,rfl⟩
   ·exact absurd (show none=some _ from e) (by simp)
   rw[Mx.eq_2] at e;have a:=e;clear e;refine B7 (N:=16) aA aB<|Af<|Ad<|wD (fun st=>CO (ee st h) (ee st n))<|Ag<|Ab<|Af ?_;rcases Ak (decide (d<(i.length:Int))) with j|j
   ·replace a:=Az a j;refine AD rfl j<|AL<|Ab<|Af<|AT<|Af<|Ad ?_;replace a:=AW a;obtain⟨i3,p,aK,aL,aM,a⟩:=a;obtain⟨b3,aV,_,aN,rfl,aO⟩:=Sl.C1 o rfl aL;refine wD (fun st=>AX (k:=i3) Tryz.underlying31 DR (ee st m) aN (ee st h) aK aM)<|wD (fun st=>Bg (v:=I p) Bz (eR st) aO rfl)<|wA (v:=I p) rfl<|Ag<|Ab<|Ad<|wM (v:=I c) l<|wM (v:=I p) rfl ?_;replace a:=AK a;obtain⟨aP,a⟩:=a;refine wD (fun st=>B0 (eR st) (eR st) aP)<|wA (v:=I (c+p)) rfl<|Ag<|Bs<|Ab<|Ad ?_;replace a:=AK a;obtain⟨aQ,a⟩:=a;refine wD (fun st=>B0 (ee st h) (eR st) aQ)<|wM (v:=I (d+1)) rfl<|Ag ?_;refine Bw z (Nat.lt_succ_self _) (fun st=>?_);exact⟨(c+p),(d+1),a,qz st,qd st,sp st 2 rfl,sp st 5 m,sp st 6 n,sp st 7 rfl,rfl⟩
   ·replace a:=AA a j;refine AE rfl j<|Cd<|AB<|AB ?_;obtain rfl:=oi a;refine B4 (fun st=>?_);exact⟨rfl,qz st,qd st,sp st 2 l,rfl⟩
 case aH=>
  rintro aF aR _ (⟨rfl,t,u,q,rfl⟩);refine Cn (X:=X0) (N:=16) t u<|Bn<|Ab<|Af<|Ad<|wM (v:=I s) q<|wA (v:=I s) rfl<|Ag<|Ab<|AI ?_;obtain rfl:=oi a;refine AJ rfl rfl ?_;exact⟨aE.Bc,rfl⟩
theorem Ahu aE f a b c g h i j(Z:Nat→Prop) w(m:Sl AM w Z b c f.AF)(n:Sl (BO (Ay .i64)) w Z g h f.BW)(o:Sl AQ w Z i j f.Bt) aA(d:N5 aE f a=some aA):
 Cw Tryz.prog 178 #[.agg (AU b c g h i j f).toArray,.agg #[.bool a.C0,I a.Number,I a.Bq,I a.Br]] w (fun v w'=>Ext w w'∧(Ev .i64).R w' (zf Z w []) v aA):=by
 unfold N5 at d;refine AS (N:=15) Tryz.func178 rfl rfl (by simp) ?_;intro aF ha aG;have t:=sA 0 ha;have u:=sA 1 ha;clear ha;have q:Hp FN [] w [] w:=Hp.start (Cc.none w);have ⟨x,y,z⟩:=EW m n o (Bh (Z:=Z) (L:=[]) w);refine Af<|Ad<|wE (fun st=>Ci (v:=.agg (AU b c g h i j f).toArray) (cs:=(AU b c g h i j f).toArray) (ee st t) rfl) ?_;rintro _ w1 ⟨b1,rfl,l⟩;have r:=q.nb l;have aC:=q.Cr l;refine wE (fun st=>Ci (v:=.agg #[.bool a.C0,I a.Number,I a.Bq,I a.Br]) (cs:= #[.bool a.C0,I a.Number,I a.Bq,I a.Br]) (ee st u) rfl) ?_;rintro _ w2 ⟨b2,rfl,e⟩;have s:=r.nb e;have aD:=r.Cr e;refine wA (v:=I 0) rfl<|Ag<|Ab<|Af<|Af<|Ad<|wD (fun st=>Ai (eR st) (Z9 _ _))<|wD (fun st=>AG (v:=.bool a.C0) OP (eR st) e.bk rfl)<|Ag<|Ab ?_;rcases Ak (a.C0) with k|k
 ·replace d:=Az d k;refine AD rfl k<|Af<|Ad<|wD (fun st=>Ai (eR st) (OQ _ _)) ?_;have p:=(l.bk.ext e.gr);refine wD (fun st=>AG (v:=.slice b f.AF.length c) Qb (eR st) p rfl)<|wD (fun st=>Bu Tryz.underlying35 (eR st))<|wD (fun st=>Ai (eR st) (UJ _ _))<|wD (fun st=>AG (v:=I a.Number) Bz (eR st) e.bk rfl) ?_;replace d:=AK d;obtain⟨aB,d⟩:=d;refine wD (fun st=>B0 (eR st) (eR st) aB)<|wA (v:=I ((f.AF.length:Int)+a.Number)) rfl<|Ag<|Ab<|AI<|Ax ?_;obtain rfl:=oi d;refine AJ rfl rfl ?_;exact⟨s.Bc,rfl⟩
 ·replace d:=AA d k;refine AE rfl k<|AL<|Ab<|Af<|Ad<|wD (fun st=>Ai (eR st) (UJ _ _))<|wD (fun st=>AG (v:=I a.Number) Bz (eR st) e.bk rfl)<|wA (v:=I a.Number) rfl<|Ag<|Ab<|AI ?_;obtain rfl:=oi d;refine AJ rfl rfl ?_;exact⟨s.Bc,rfl⟩
theorem Agy aB g c d(Z:Nat→Prop) w(r:Sl (Ay .i64) w Z c d g) aC(a:Od aB g=some aC):
 Cw Tryz.prog 199 #[.slice c g.length d] w (fun v w'=>Ext w w'∧(Ev .i64).R w' (zf Z w []) v aC):=by
 unfold Od at a;refine AS (N:=25) Tryz.func199 rfl rfl (by simp) ?_;intro aV ha aW;have o:=sA 0 ha;clear ha;have aD:Hp FN [] w [] w:=Hp.start (Cc.none w);have h:=r.mv (Bh (Z:=Z) (L:=[]) w);refine Af<|Ad<|wA (v:=I 0) rfl<|Ag<|Ab<|Af<|Af<|Ad<|wM (v:=.slice c g.length d) o<|wD (fun st=>Bu Tryz.underlying31 (eR st))<|wD (fun st=>CO (eR st) (eR st))<|Ag<|Ab ?_;rcases Ak (decide ((g.length:Int)<1)) with m|m
 ·replace a:=Az a m;refine AD rfl m ?_;exact absurd a (by simp)
 ·replace a:=AA a m;refine AE rfl m<|AL<|Ab<|Af<|Ad<|wM (v:=.slice c g.length d) o ?_;replace a:=AW a;obtain⟨i2,x2,aE,aF,aG,a⟩:=a;obtain⟨b2,aY,_,aH,rfl,aI⟩:=Sl.C1 h rfl aF;refine wD (fun st=>AX (k:=i2) Tryz.underlying31 DR (eR st) aH (eR st) aE aG)<|wD (fun st=>Bg (v:=I x2) Bz (eR st) aI rfl)<|wA (v:=I x2) rfl<|Ag<|Ab<|Af<|Af<|Ad<|wA (v:=I 1) rfl<|Ag<|Ab<|AT ?_;replace a:=bind_some a;obtain⟨z3,i,a⟩:=a;refine Cm (fun aJ e u=>(aJ=.exit 0∧e.tmps.size=25∧e.defers=(X0).ds∧sl e 3=I z3∧w=u)) ?aK ?aL
  case aK=>
   clear a;refine Cl (fun(x:Nat) (e:Act) (u:World)=>∃f,∃b,MY g x f b=some z3∧e.tmps.size=25∧e.defers=(X0).ds∧sl e 0=.slice c g.length d∧sl e 3=I f∧sl e 4=I b∧w=u) aB ?aM ?aN
   case aM=>
    intro st;exact⟨x2,(1:Int),i,qz st,qd st,sp st 0 o,sp st 3 rfl,sp st 4 rfl,rfl⟩
   case aN=>
    rintro(_|x) aX _ ⟨f,b,i,y,z,j,p,l,rfl⟩
    ·exact absurd (show none=some _ from i) (by simp)
    rw[MY.eq_2] at i;have a:=i;clear i;refine B7 (N:=25) y z<|Af<|Af<|Ad<|wM (v:=I b) l<|wM (v:=.slice c g.length d) j<|wD (fun st=>Bu Tryz.underlying31 (eR st))<|wD (fun st=>CO (eR st) (eR st))<|Ag<|Ab ?_;rcases Ak (decide (b<(g.length:Int))) with n|n
    ·replace a:=Az a n;refine AD rfl n<|AL<|Ab<|Af<|AT<|Ad<|wM (v:=I f) p<|wM (v:=.slice c g.length d) j<|wM (v:=I b) l ?_;replace a:=AW a;obtain⟨i5,aA,aO,aP,aQ,a⟩:=a;obtain⟨aZ,a0,_,aR,rfl,aS⟩:=Sl.C1 h rfl aP;refine wD (fun st=>AX (k:=i5) Tryz.underlying31 DR (eR st) aR (eR st) aO aQ)<|wD (fun st=>Bg (v:=I aA) Bz (eR st) aS rfl)<|wD (fun st=>Xg (eR st) (eR st))<|wA (v:=I (min f aA)) rfl<|Ag<|Bs<|Ab<|Ad<|wM (v:=I b) l ?_;replace a:=AK a;obtain⟨aT,a⟩:=a;refine wD (fun st=>B0 (eR st) (eR st) aT)<|wA (v:=I (b+1)) rfl<|Ag ?_;refine Bw x (Nat.lt_succ_self _) (fun st=>?_);exact⟨(min f aA),(b+1),a,qz st,qd st,sp st 0 j,sp st 3 rfl,sp st 4 rfl,rfl⟩
    ·replace a:=AA a n;refine AE rfl n<|Cd<|AB<|AB ?_;obtain rfl:=oi a;refine B4 (fun st=>?_);exact⟨rfl,qz st,qd st,sp st 3 p,rfl⟩
  case aL=>
   rintro aJ aU _ (⟨rfl,s,t,q,rfl⟩);refine Cn (X:=X0) (N:=25) s t<|Bn<|Ab<|Af<|Ad<|wM (v:=I z3) q<|wA (v:=I z3) rfl<|Ag<|Ab<|AI ?_;obtain rfl:=oi a;refine AJ rfl rfl ?_;exact⟨aD.Bc,rfl⟩
theorem a168 h e a b(Z:Nat→Prop) w(f:Sl (Ay .i64) w Z a b e) i(c:P8 h e=some i):
 Cw Tryz.prog 168 #[.slice a e.length b] w (fun v w'=>Ext w w'∧(Ev .i64).R w' (zf Z w []) v i):=by
 unfold P8 at c;refine AS (N:=5) Tryz.func168 rfl rfl (by simp) ?_;intro o ha p;have g:=sA 0 ha;clear ha;have j:Hp FN [] w [] w:=Hp.start (Cc.none w);have d:=f.mv (Bh (Z:=Z) (L:=[]) w);refine Af<|Ad<|wA (v:=I 0) rfl<|Ag<|Ab<|Af<|Ad<|wM (v:=.slice a e.length b) g ?_;replace c:=bind_some c;obtain⟨k,l,c⟩:=c;refine wE (fun st=>Ar Aa8 (eR st) (CR (eR st)) (Agy h e a b ZA _ d.all k l)) ?_;rintro _ w2 ⟨m,rfl⟩;have n:=j.ext m;refine wA (v:=I k) rfl<|Ag<|Ab<|AI ?_;obtain rfl:=oi c;refine AJ rfl rfl ?_;exact⟨n.Bc,rfl⟩
theorem a194{x:Type}{c:Nat→Prop}{aN:Nat}{r:x→World→(Nat→Prop)→Option Nat→Prop}{aB:x→AN→Option (Bool×x)} aX d(z:x) q1(o:Value) a(Z Za:Nat→Prop) w(f:Cb Tryz.prog o c aN r (v1 (Hd AM)) Dg aB)(aO:aN≤w.heap.size)(aP:Cc c [some q1,a] w)(aQ:∀b,Z b→¬c b∧some b∉[some q1,a])(aY:∀b,Z b→Za b)(aE:∀b,Za b→¬c b∧some b∉[some q1,a])(aR:Bk w q1 214 #[o])(aZ:r z w Z a) aF(q:Oy aX aB d z=some aF):
 Cw Tryz.prog 194 #[.agg #[I d.Lo,I d.Hi],pt q1 0] w (fun v w'=>∃o',DM (FU c [some q1,a]) w w'∧Dg.R w' (zf Z w [some q1,o']) v aF.1∧Bk w' q1 214 #[o]∧(∀k,o'=some k→(a=some k∨w.heap.size≤k)∧k<w'.heap.size)∧r aF.2 w' (zf Z w [some q1,o']) o'):=by
 unfold Oy at q;refine AS (N:=8) Tryz.func194 rfl rfl (by simp) ?_;intro a3 ha a4;have aG:=sA 0 ha;have aH:=sA 1 ha;clear ha;obtain⟨j,m⟩:∃j,j=[some q1,a]:=⟨_,rfl⟩;have s:Hp c j w [some q1,a] w:=by rw[m];exact Hp.start aP
 have aS:∀b,Z b→¬c b∧some b∉j:=by rw[m];exact aQ
 have a0:∀b,Za b→¬c b∧some b∉j:=by rw[m];exact aE
 have aI:∀w',DM (FU c j) w w'→DM (FU c [some q1,a]) w w':=by rw[m];exact fun _ h=>h
 have aJ:=f.mz aZ (C2 (L:=[some q1,a]) aS w);refine Af<|Ad<|wE (fun st=>Ci (v:=.agg #[I d.Lo,I d.Hi]) (cs:= #[I d.Lo,I d.Hi]) (ee st aG) rfl) ?_;rintro _ w1 ⟨b1,rfl,g⟩;have n:=s.nb g;have aW:=s.Cr g;refine wA (v:=.bool false) rfl<|Ag<|Ab<|Af<|Ad ?_;have p:=(aR.ext g.gr);refine wD (fun st=>AG (v:=o) AeG (ee st aH) p rfl)<|wD (fun st=>AR (l:=[I d.Lo,I d.Hi]) PG (eR st) g.bk rfl rfl) ?_;have aK:r z w1 (ZZ c j Z w.heap.size [some b1,some q1,a]) a:=(f.me aJ s g.gr (AP g));replace q:=bind_some q;obtain⟨aL,aT,q⟩:=q;refine wE (fun st=>Mz (f.call z d aL _ (ZZ c j Z w.heap.size [some b1,some q1,a]) (ZC c [a]) a #[.agg #[I d.Lo,I d.Hi]] (Nat.le_trans aO n.sz) (n.zz (F':=c) (M:=[a]) (C:=[]) [2] [] ⟨rfl,trivial⟩ trivial (fun _ h=>.inl h)) Qj aK ⟨_,rfl,⟨_,rfl,rfl⟩⟩ aT) (eR st) (CR (eR st))) ?_;rintro _ a2 ⟨t,aC,u,rfl,aU⟩;have aD:=n.KU aC (Cv [2] ⟨rfl,trivial⟩ (fun _ h=>h)) 2 rfl u;have aM:r aL.2 a2 (ZZ c j Z w.heap.size [some b1,some q1,t]) t:=f.mz aU (n.call (M:=[t]) (Nat.le_refl _) (Gc ⟨.inr (fun k hk=>(u k hk).1.imp (fun e=>by rw[←e];exact List.mem_of_getElem? (i:=2) rfl) id),trivial⟩) (HI (L:=[some b1,some q1,a]) (y:=t) 2 (List.mem_of_getElem? (i:=0) rfl)));refine wD (fun st=>Dz (eR st))<|wA (v:=.bool !aL.1) rfl<|Ag<|Ab<|AI ?_;obtain rfl:=oi q;refine AJ rfl rfl ?_;have aA:=(p.Fa aC (n.FZ 1 rfl [2] rfl ⟨rfl,trivial⟩ (fun _ h=>h)));exact⟨t,aI _ aD.fin,rfl,aA,aD.GD 2 rfl [1] rfl (M:=[some q1]) ⟨rfl,trivial⟩ (by rw[m];intro y aV;simp only[List.mem_cons,List.not_mem_nil,or_false] at aV⊢;rcases aV with h|h<;>simp[*]),f.mz aM (CG (DI [1,2] ⟨rfl,rfl,trivial⟩))⟩
theorem Ahv{a3:Type}{f:Nat→Prop}{bJ:Nat}{aK:a3→World→(Nat→Prop)→Option Nat→Prop}{aU:a3→AN→Option (Bool×a3)} bK z(bA:a3) p q(aM:Value) s(Z:Nat→Prop) w(t:Cb Tryz.prog aM f bJ aK (v1 (Hd AM)) Dg aU)(bL:bJ≤w.heap.size)(bM:Cc f [s] w)(bN:∀b,Z b→¬f b∧some b∉[s])(a4:Sl AM w Z p q z)(b5:aK bA w Z s) bB(a:Po bK aU z bA=some bB):
 Cw Tryz.prog 221 #[.slice p z.length q,aM] w (fun v w'=>∃o',DM (FU f [s]) w w'∧(Ev .i64).R w' (zf Z w [o']) v bB.1∧(∀k,o'=some k→(s=some k∨w.heap.size≤k)∧k<w'.heap.size)∧aK bB.2 w' (zf Z w [o']) o'):=by
 unfold Po at a;refine AS (N:=19) Tryz.func221 rfl rfl (by simp) ?_;intro b8 ha b9;have aV:=sA 0 ha;have bC:=sA 1 ha;clear ha;obtain⟨j,aG⟩:∃j,j=[s]:=⟨_,rfl⟩;have bO:Hp f j w [s] w:=by rw[aG];exact Hp.start bM
 have a5:∀b,Z b→¬f b∧some b∉j:=by rw[aG];exact bN
 have aW:∀w',DM (FU f j) w w'→DM (FU f [s]) w w':=by rw[aG];exact fun _ h=>h
 have aR:=a4.mv (C2 (L:=[s]) a5 w);have bD:=t.mz b5 (C2 (L:=[s]) a5 w);refine Af<|Ad<|wA (v:=I 0) rfl<|Ag<|Ab<|Af<|Af<|Ad<|wM (v:=.slice p z.length q) aV<|wD (fun st=>Bu Tryz.underlying35 (eR st))<|wM (v:=I 0) rfl<|Ag<|Ab<|AT ?_;replace a:=bind_some a;obtain⟨bE,aA,a⟩:=a;refine Cm (fun bF g aH=>(bF=.ret∧∃r,bE=.inl r∧∃m,g.tmps.size=19∧g.defers=(X0).ds∧sl g 4=I r.1∧Hp f j w [m] aH∧aK r.2 aH (ZZ f j Z w.heap.size [m]) m)∨(bF=.exit 0∧∃r,bE=.inr r∧∃n,g.tmps.size=19∧g.defers=(X0).ds∧Hp f j w [n] aH∧aK r aH (ZZ f j Z w.heap.size [n]) n)) ?bP ?bQ
 case bP=>
  clear a;refine Cl (fun(bG:Nat) (g:Act) (aH:World)=>∃d,∃o,∃c,Ls aU z bG d o=some bE∧g.tmps.size=19∧g.defers=(X0).ds∧sl g 0=.slice p z.length q∧sl g 1=aM∧sl g 7=I (z.length:Int)∧sl g 8=I d∧Hp f j w [c] aH∧aK o aH (ZZ f j Z w.heap.size [c]) c∧Sl AM aH (ZZ f j Z w.heap.size [c]) p q z) bK ?bR ?bS
  case bR=>
   intro st;exact⟨(0:Int),bA,s,aA,qz st,qd st,sp st 0 aV,sp st 1 bC,sp st 7 rfl,sp st 8 rfl,bO,bD,aR⟩
  case bS=>
   rintro(_|bG) cA cB ⟨d,o,c,aA,bH,bI,aN,aO,aP,aC,aB,aQ,u⟩
   ·exact absurd (show none=some _ from aA) (by simp)
   rw[Ls.eq_2] at aA;have a:=aA;clear aA;refine B7 (N:=19) bH bI<|Af<|Ad<|wD (fun st=>CO (ee st aC) (ee st aP))<|Ag<|Ab<|Af ?_;rcases Ak (decide (d<(z.length:Int))) with aI|aI
   ·replace a:=Az a aI;refine AD rfl aI<|AL<|Ab<|Af<|AT<|Af<|Ad<|wM (v:=I d) aC<|wA (v:=I d) rfl<|Ag<|Ab<|Af<|Ad<|wM (v:=aM) aO<|wM (v:=.slice p z.length q) aN<|wM (v:=I d) rfl ?_;replace a:=AW a;obtain⟨i3,aX,bT,bU,bV,a⟩:=a;obtain⟨b3,cD,_,bW,rfl,bX⟩:=Sl.elem u (by decide) bU;refine wD (fun st=>BR (k:=i3) Tryz.underlying35 SQ (eR st) bW (eR st) bT bV)<|wD (fun st=>Ew (l:=[I aX.Lo,I aX.Hi]) PG (eR st) bX rfl rfl) ?_;replace a:=bind_some a;obtain⟨aY,bY,a⟩:=a;refine wE (fun st=>Mz (t.call o aX aY _ (ZZ f j Z w.heap.size [c]) (ZC f [c]) c #[.agg #[I aX.Lo,I aX.Hi]] (Nat.le_trans bL aB.sz) (aB.zz (F':=f) (M:=[c]) (C:=[]) [0] [] ⟨rfl,trivial⟩ trivial (fun _ h=>.inl h)) Qj aQ ⟨_,rfl,⟨_,rfl,rfl⟩⟩ bY) (eR st) (CR (eR st))) ?_;rintro _ b6 ⟨aS,a8,aL,rfl,bZ⟩;have a9:=aB.KU a8 (Cv [0] ⟨rfl,trivial⟩ (fun _ h=>h)) 0 rfl aL;have aZ:aK aY.2 b6 (ZZ f j Z w.heap.size [aS]) aS:=t.mz bZ (aB.call (M:=[aS]) (Nat.le_refl _) (Gc ⟨.inr (fun k hk=>(aL k hk).1.imp (fun e=>by rw[←e];exact List.mem_of_getElem? (i:=0) rfl) id),trivial⟩) (HI (L:=[c]) (y:=aS) 0 (List.mem_of_getElem? (i:=0) rfl)));refine Ag<|Ab ?_;rcases Ak (aY.1) with aJ|aJ
    ·replace a:=Az a aJ;refine AD rfl aJ<|Af<|Ad<|wM (v:=I d) rfl<|wA (v:=I d) rfl<|Ag<|Ab<|AI<|Bi<|Ax<|Ax ?_;obtain rfl:=oi a;refine B4 (fun st=>?_);exact .inl ⟨rfl,(d,aY.2),rfl,aS,qz st,qd st,sp st 4 rfl,a9,aZ⟩
    ·replace a:=AA a aJ;refine AE rfl aJ<|AL<|Bs<|Ab<|Ad ?_;replace a:=AK a;obtain⟨b4,a⟩:=a;refine wD (fun st=>B0 (ee st aC) (eR st) b4)<|wM (v:=I (d+1)) rfl<|Ag ?_;have aT:=(u.mv (aB.OX a8 (Cv [0] ⟨rfl,trivial⟩ (fun _ h=>h)) 0 rfl (fun k hk=>(aL k hk).1)));refine Bw bG (Nat.lt_succ_self _) (fun st=>?_);exact⟨(d+1),aY.2,aS,a,qz st,qd st,sp st 0 aN,sp st 1 aO,sp st 7 aP,sp st 8 rfl,a9,aZ,aT⟩
   ·replace a:=AA a aI;refine AE rfl aI<|Cd<|AB<|AB ?_;obtain rfl:=oi a;refine B4 (fun st=>?_);exact .inr ⟨rfl,o,rfl,c,qz st,qd st,aB,aQ⟩
 case bQ=>
  rintro bF b7 cC (⟨rfl,r,rfl,m,aD,aE,a0,x,aF⟩|⟨rfl,r,rfl,n,aD,aE,x,aF⟩)
  ·skip
   replace a:=Eg a;refine Cn (X:=X0) (N:=19) aD aE<|Bi<|Ax ?_;obtain rfl:=oi a;refine AJ rfl a0 ?_;exact⟨m,aW _ x.fin,rfl,x.GD 0 rfl [] rfl (M:=[]) trivial (by rw[aG];intro y a2;simp only[List.mem_cons,List.not_mem_nil,or_false] at a2⊢;rcases a2 with h<;>simp[*]),t.mz aF (CG (DI [0] ⟨rfl,trivial⟩))⟩
  ·skip
   replace a:=Eh a;refine Cn (X:=X0) (N:=19) aD aE<|Bn<|Ab<|Af<|Ad<|wA (v:=I (-1)) rfl<|Ag<|Ab<|AI ?_;obtain rfl:=oi a;refine AJ rfl rfl ?_;exact⟨n,aW _ x.fin,rfl,x.GD 0 rfl [] rfl (M:=[]) trivial (by rw[aG];intro y a2;simp only[List.mem_cons,List.not_mem_nil,or_false] at a2⊢;rcases a2 with h<;>simp[*]),t.mz aF (CG (DI [0] ⟨rfl,trivial⟩))⟩
theorem a193{t:Type}{c:Nat→Prop}{aK:Nat}{u:t→World→(Nat→Prop)→Option Nat→Prop}{z:t→AN→Option (Bool×t)} aL q(aC:t) d f(m:Value) a(Z:Nat→Prop) w(g:Cb Tryz.prog m c aK u (v1 (Hd AM)) Dg z)(aM:aK≤w.heap.size)(aN:Cc c [a] w)(aO:∀b,Z b→¬c b∧some b∉[a])(x:Sl AM w Z d f q)(aT:u aC w Z a) aD(o:Oz aL z q aC=some aD):
 Cw Tryz.prog 193 #[.slice d q.length f,m] w (fun v w'=>∃o',DM (FU c [a]) w w'∧Dg.R w' (zf Z w [o']) v aD.1∧(∀k,o'=some k→(a=some k∨w.heap.size≤k)∧k<w'.heap.size)∧u aD.2 w' (zf Z w [o']) o'):=by
 unfold Oz at o;refine AS (N:=9) Tryz.func193 rfl rfl (by simp) ?_;intro aU ha aV;have aE:=sA 0 ha;have aF:=sA 1 ha;clear ha;obtain⟨l,n⟩:∃l,l=[a]:=⟨_,rfl⟩;have j:Hp c l w [a] w:=by rw[n];exact Hp.start aN
 have aA:∀b,Z b→¬c b∧some b∉l:=by rw[n];exact aO
 have aG:∀w',DM (FU c l) w w'→DM (FU c [a]) w w':=by rw[n];exact fun _ h=>h
 have p:=x.mv (C2 (L:=[a]) aA w);have aH:=g.mz aT (C2 (L:=[a]) aA w);refine Af<|Ad<|wA (v:=.bool false) rfl<|Ag<|Ab<|Af<|Ad<|wM (v:=.slice d q.length f) aE<|wM (v:=m) aF ?_;replace o:=bind_some o;obtain⟨aI,aP,o⟩:=o;refine wE (fun st=>Ar AeH (eR st) (Dw (eR st) (eR st)) (Ahv aL q aC d f m a (ZZ c l Z w.heap.size [a]) _ g (Nat.le_trans aM j.sz) (j.GU (F':=c) (M:=[a]) (C:=[]) [0] [] rfl ⟨rfl,trivial⟩ trivial (fun _ h=>.inl h)) (j.zz (F':=c) (M:=[a]) (C:=[]) [0] [] ⟨rfl,trivial⟩ trivial (fun _ h=>.inl h)) p aH aI aP)) ?_;rintro _ w2 ⟨r,aQ,rfl,s,aR⟩;have aB:=j.KU aQ (Cv [0] ⟨rfl,trivial⟩ (fun _ h=>h)) 0 rfl s;have aJ:u aI.2 w2 (ZZ c l Z w.heap.size [r]) r:=g.mz aR (j.call (M:=[r]) (Nat.le_refl _) (Gc ⟨.inr (fun k hk=>(s k hk).1.imp (fun e=>by rw[←e];exact List.mem_of_getElem? (i:=0) rfl) id),trivial⟩) (HI (L:=[a]) (y:=r) 0 (List.mem_of_getElem? (i:=0) rfl)));refine wD (fun st=>IX (eR st) (eR st))<|wA (v:=.bool (decide ((0:Int)≤aI.1))) rfl<|Ag<|Ab<|AI ?_;obtain rfl:=oi o;refine AJ rfl rfl ?_;exact⟨r,aG _ aB.fin,rfl,aB.GD 0 rfl [] rfl (M:=[]) trivial (by rw[n];intro y aS;simp only[List.mem_cons,List.not_mem_nil,or_false] at aS⊢;rcases aS with h<;>simp[*]),g.mz aJ (CG (DI [0] ⟨rfl,trivial⟩))⟩
theorem a164{aA:Type}{d:Nat→Prop}{a9:Nat}{aB:aA→World→(Nat→Prop)→Option Nat→Prop}{aF:aA→AN→Option (Bool×aA)} aK aG(aL:aA) m n(j:Value) a(Z:Nat→Prop) w(c:Cb Tryz.prog j d a9 aB (v1 (Hd AM)) Dg aF)(bA:a9≤w.heap.size)(bB:Cc d [a] w)(bC:∀b,Z b→¬d b∧some b∉[a])(aM:Sl AM w Z m n aG)(s:aB aL w Z a) aR(aC:Ql aK aF aG aL=some aR):
 Cw Tryz.prog 164 #[.slice m aG.length n,j] w (fun v w'=>∃o',DM (FU d [a]) w w'∧Dg.R w' (zf Z w [o']) v aR.1∧(∀k,o'=some k→(a=some k∨w.heap.size≤k)∧k<w'.heap.size)∧aB aR.2 w' (zf Z w [o']) o'):=by
 unfold Ql at aC;refine AS (N:=9) Tryz.func164 rfl rfl (by simp) ?_;intro bQ ha bR;have aS:=sA 0 ha;have aT:=sA 1 ha;clear ha;obtain⟨q,t⟩:∃q,q=[a]:=⟨_,rfl⟩;have aH:Hp d q w [a] w:=by rw[t];exact Hp.start bB
 have aN:∀b,Z b→¬d b∧some b∉q:=by rw[t];exact bC
 have aU:∀w',DM (FU d q) w w'→DM (FU d [a]) w w':=by rw[t];exact fun _ h=>h
 have aD:=aM.mv (C2 (L:=[a]) aN w);have aV:=c.mz s (C2 (L:=[a]) aN w);refine Af<|Ad<|wE (fun st=>Ci (v:=j) (cs:= #[j]) (ee st aT) c.fc) ?_;rintro _ w1 ⟨b1,rfl,l⟩;have f:=aH.nb l;have bL:=aH.Cr l;refine wA (v:=.bool false) rfl<|Ag<|Ab<|Af<|Ad<|wM (v:=.slice m aG.length n) aS<|wD (fun st=>Ix (vs:= #[]) (us:= #[pt b1 0]) Gx (CR (eR st))) ?_;have aO:=f.GU (F':=d) (M:=[some b1]) (C:=[]) [0] [] rfl ⟨rfl,trivial⟩ trivial (fun k hk=>.inl ((fun _ h=>h) k hk));have aW:Cb Tryz.prog (.func (.func 194) #[] #[pt b1 0]) (FU d [some b1]) w1.heap.size (fun(st:aA) aX bM o=>(∀k,o=some k→k<aX.heap.size∧¬(FU d [some b1]) k)∧Bk aX b1 214 #[j]∧aB st aX bM o) (v1 (Hd AM)) Dg (fun(st:aA) (x:AN)=>(Oy aK aF x st).bind fun r=>some (r.1,r.2)):=by
  refine⟨rfl,rfl,f.QN [0] ⟨rfl,trivial⟩ (fun _ h=>h),?_,?_,?_⟩
  ·intro st x r w1 aY bD o vs hn aZ u s hx bN;obtain⟨g,p,z⟩:=s;obtain⟨_,rfl,⟨_,rfl,rfl⟩⟩:=hx;obtain⟨bO,h1,h2⟩:=bind_some bN;obtain rfl:=Option.some.inj h2;refine(Le AeI rfl (a194 aK x st b1 j o aY bD w1 c (Nat.le_trans bA (Nat.le_trans f.sz hn)) ((aO.grow hn).snoc g) (fun b hb=>Jt (u b (aZ b hb)).1 (u b (aZ b hb)).2) aZ (fun b hb=>Jt (u b hb).1 (u b hb).2) p z bO h1)).mono ?_;rintro v w2 ⟨o',hx,a0,a2,aP,bE⟩;exact⟨o',hx.lf,aP,a0,⟨aO.keep hn g aP,a2,c.mz bE QW⟩⟩
  ·intro st w1 w2 aY bS o s hm hb;obtain⟨g,p,z⟩:=s;exact⟨fun k hk=>⟨Nat.lt_of_lt_of_le (g k hk).1 hm.size,(g k hk).2⟩,p.Pm (hb b1 (.inl (.inr (List.mem_of_getElem? (i:=0) rfl)))),c.S6 _ _ _ _ _ _ z hm (fun b bF=>hb b (bF.imp .inl id))⟩
  ·intro st w1 aY o s k hk;obtain⟨g,p,z⟩:=s;exact g k hk
 have aE:=(aD.mv (AP l));replace aC:=bind_some aC;obtain⟨a3,bG,aC⟩:=aC;have a4:aB aL w1 (ZZ d q Z w.heap.size [some b1,a]) a:=(c.me aV aH l.gr (AP l));refine wE (fun st=>Ar AeJ (eR st) (Dw (eR st) (eR st)) (a193 aK aG aL m n (.func (.func 194) #[] #[pt b1 0]) a (ZZ d q Z w.heap.size [some b1,a]) _ aW (Nat.le_refl _) (f.GU (F':=(FU d [some b1])) (M:=[a]) (C:=[some b1]) [1] [0] rfl ⟨rfl,trivial⟩ ⟨rfl,trivial⟩ (DS (fun _ h=>h))) (f.zz (F':=(FU d [some b1])) (M:=[a]) (C:=[some b1]) [1] [0] ⟨rfl,trivial⟩ ⟨rfl,trivial⟩ (DS (fun _ h=>h))) aE ⟨(fun k hk=>f.WA 1 (by rw[←hk];rfl) [0] rfl ⟨rfl,trivial⟩),l.bk,a4⟩ a3 bG)) ?_;rintro _ bP ⟨aI,bH,rfl,aJ,bI⟩;obtain⟨-,bJ,a5⟩:=bI;have aQ:=f.KU (DM.cl (M1:=[some b1]) (M2:=[a]) bH) (Cv [0,1] ⟨rfl,rfl,trivial⟩ (fun _ h=>h)) 1 rfl aJ;have a8:aB a3.2 bP (ZZ d q Z w.heap.size [some b1,aI]) aI:=c.mz a5 (f.call (M:=[aI]) (Nat.le_refl _) (Gc ⟨.inr (fun k hk=>(aJ k hk).1.imp (fun e=>by rw[←e];exact List.mem_of_getElem? (i:=1) rfl) id),trivial⟩) (HI (L:=[some b1,a]) (y:=aI) 1 (List.mem_of_getElem? (i:=0) rfl)));refine wD (fun st=>Dz (eR st))<|wA (v:=.bool !a3.1) rfl<|Ag<|Ab<|AI ?_;obtain rfl:=oi aC;refine AJ rfl rfl ?_;exact⟨aI,aU _ aQ.fin,rfl,aQ.GD 1 rfl [] rfl (M:=[]) trivial (by rw[t];intro y bK;simp only[List.mem_cons,List.not_mem_nil,or_false] at bK⊢;rcases bK with h<;>simp[*]),c.mz a8 (CG (DI [1] ⟨rfl,trivial⟩))⟩
theorem a196{t:Type}{c:Nat→Prop}{aO:Nat}{u:t→World→(Nat→Prop)→Option Nat→Prop}{aA:t→(List Int)→Option (Bool×t)} aW o(aE:t) f g q1(n:Value) a(Z Za:Nat→Prop) w(j:Cb Tryz.prog n c aO u (v1 (Gp (Ay .i64))) Dg aA)(aP:aO≤w.heap.size)(aQ:Cc c [some q1,a] w)(aR:∀b,Z b→¬c b∧some b∉[some q1,a])(aX:∀b,Z b→Za b)(aF:∀b,Za b→¬c b∧some b∉[some q1,a])(x:Sl (Ay .i64) w Za f g o)(aB:Bk w q1 148 #[n])(aY:u aE w Z a) aG(p:O4 aW aA o aE=some aG):
 Cw Tryz.prog 196 #[.slice f o.length g,pt q1 0] w (fun v w'=>∃o',DM (FU c [some q1,a]) w w'∧Dg.R w' (zf Z w [some q1,o']) v aG.1∧Bk w' q1 148 #[n]∧(∀k,o'=some k→(a=some k∨w.heap.size≤k)∧k<w'.heap.size)∧u aG.2 w' (zf Z w [some q1,o']) o'):=by
 unfold O4 at p;refine AS (N:=8) Tryz.func196 rfl rfl (by simp) ?_;intro aZ ha a0;have aH:=sA 0 ha;have aI:=sA 1 ha;clear ha;obtain⟨l,m⟩:∃l,l=[some q1,a]:=⟨_,rfl⟩;have d:Hp c l w [some q1,a] w:=by rw[m];exact Hp.start aQ
 have aS:∀b,Z b→¬c b∧some b∉l:=by rw[m];exact aR
 have aJ:∀b,Za b→¬c b∧some b∉l:=by rw[m];exact aF
 have aK:∀w',DM (FU c l) w w'→DM (FU c [some q1,a]) w w':=by rw[m];exact fun _ h=>h
 have q:=x.mv (C2 (L:=[some q1,a]) aJ w);have aL:=j.mz aY (C2 (L:=[some q1,a]) aS w);refine Af<|Ad<|wA (v:=.bool false) rfl<|Ag<|Ab<|Af<|Ad<|wD (fun st=>AG (v:=n) Yk (ee st aI) aB rfl)<|wM (v:=.slice f o.length g) aH ?_;replace p:=bind_some p;obtain⟨aM,aT,p⟩:=p;refine wE (fun st=>Mz (j.call aE o aM _ (ZZ c l Z w.heap.size [some q1,a]) (ZC c [a]) a #[.slice f o.length g] (Nat.le_trans aP d.sz) (d.zz (F':=c) (M:=[a]) (C:=[]) [1] [] ⟨rfl,trivial⟩ trivial (fun _ h=>.inl h)) Qj aL ⟨_,rfl,⟨_,_,rfl,(q.mv (d.mz (F':=c) (M:=[a]) (C:=[]) [1] [] ⟨rfl,trivial⟩ trivial (fun _ h=>.inl h)))⟩⟩ aT) (eR st) (CR (eR st))) ?_;rintro _ w2 ⟨r,aC,s,rfl,aU⟩;have aD:=d.KU aC (Cv [1] ⟨rfl,trivial⟩ (fun _ h=>h)) 1 rfl s;have aN:u aM.2 w2 (ZZ c l Z w.heap.size [some q1,r]) r:=j.mz aU (d.call (M:=[r]) (Nat.le_refl _) (Gc ⟨.inr (fun k hk=>(s k hk).1.imp (fun e=>by rw[←e];exact List.mem_of_getElem? (i:=1) rfl) id),trivial⟩) (HI (L:=[some q1,a]) (y:=r) 1 (List.mem_of_getElem? (i:=0) rfl)));refine wD (fun st=>Dz (eR st))<|wA (v:=.bool !aM.1) rfl<|Ag<|Ab<|AI ?_;obtain rfl:=oi p;refine AJ rfl rfl ?_;have z:=(aB.Fa aC (d.FZ 0 rfl [1] rfl ⟨rfl,trivial⟩ (fun _ h=>h)));exact⟨r,aK _ aD.fin,rfl,z,aD.GD 1 rfl [0] rfl (M:=[some q1]) ⟨rfl,trivial⟩ (by rw[m];intro y aV;simp only[List.mem_cons,List.not_mem_nil,or_false] at aV⊢;rcases aV with h|h<;>simp[*]),j.mz aN (CG (DI [0,1] ⟨rfl,rfl,trivial⟩))⟩
theorem a222{a3:Type}{f:Nat→Prop}{bL:Nat}{aJ:a3→World→(Nat→Prop)→Option Nat→Prop}{aT:a3→(List Int)→Option (Bool×a3)} bM z(bB:a3) o p(aL:Value) r(Z:Nat→Prop) w(s:Cb Tryz.prog aL f bL aJ (v1 (Gp (Ay .i64))) Dg aT)(bN:bL≤w.heap.size)(bO:Cc f [r] w)(bP:∀b,Z b→¬f b∧some b∉[r])(a4:Sl (BO (Ay .i64)) w Z o p z)(b7:aJ bB w Z r) bC(c:PE bM aT z bB=some bC):
 Cw Tryz.prog 222 #[.slice o z.length p,aL] w (fun v w'=>∃o',DM (FU f [r]) w w'∧(Ev .i64).R w' (zf Z w [o']) v bC.1∧(∀k,o'=some k→(r=some k∨w.heap.size≤k)∧k<w'.heap.size)∧aJ bC.2 w' (zf Z w [o']) o'):=by
 unfold PE at c;refine AS (N:=19) Tryz.func222 rfl rfl (by simp) ?_;intro cA ha cB;have aU:=sA 0 ha;have bD:=sA 1 ha;clear ha;obtain⟨j,aF⟩:∃j,j=[r]:=⟨_,rfl⟩;have bQ:Hp f j w [r] w:=by rw[aF];exact Hp.start bO
 have a8:∀b,Z b→¬f b∧some b∉j:=by rw[aF];exact bP
 have aV:∀w',DM (FU f j) w w'→DM (FU f [r]) w w':=by rw[aF];exact fun _ h=>h
 have aQ:=a4.mv (C2 (L:=[r]) a8 w);have bE:=s.mz b7 (C2 (L:=[r]) a8 w);refine Af<|Ad<|wA (v:=I 0) rfl<|Ag<|Ab<|Af<|Af<|Ad<|wM (v:=.slice o z.length p) aU<|wD (fun st=>Bu Tryz.underlying23 (eR st))<|wM (v:=I 0) rfl<|Ag<|Ab<|AT ?_;replace c:=bind_some c;obtain⟨bF,aA,c⟩:=c;refine Cm (fun bG g aG=>(bG=.ret∧∃q,bF=.inl q∧∃l,g.tmps.size=19∧g.defers=(X0).ds∧sl g 4=I q.1∧Hp f j w [l] aG∧aJ q.2 aG (ZZ f j Z w.heap.size [l]) l)∨(bG=.exit 0∧∃q,bF=.inr q∧∃m,g.tmps.size=19∧g.defers=(X0).ds∧Hp f j w [m] aG∧aJ q aG (ZZ f j Z w.heap.size [m]) m)) ?bR ?bS
 case bR=>
  clear c;refine Cl (fun(bH:Nat) (g:Act) (aG:World)=>∃d,∃n,∃a,LJ aT z bH d n=some bF∧g.tmps.size=19∧g.defers=(X0).ds∧sl g 0=.slice o z.length p∧sl g 1=aL∧sl g 7=I (z.length:Int)∧sl g 8=I d∧Hp f j w [a] aG∧aJ n aG (ZZ f j Z w.heap.size [a]) a∧Sl (BO (Ay .i64)) aG (ZZ f j Z w.heap.size [a]) o p z) bM ?bT ?bU
  case bT=>
   intro st;exact⟨(0:Int),bB,r,aA,qz st,qd st,sp st 0 aU,sp st 1 bD,sp st 7 rfl,sp st 8 rfl,bQ,bE,aQ⟩
  case bU=>
   rintro(_|bH) cC cD ⟨d,n,a,aA,bI,bJ,aM,aN,aO,aB,t,aP,u⟩
   ·exact absurd (show none=some _ from aA) (by simp)
   rw[LJ.eq_2] at aA;have c:=aA;clear aA;refine B7 (N:=19) bI bJ<|Af<|Ad<|wD (fun st=>CO (ee st aB) (ee st aO))<|Ag<|Ab<|Af ?_;rcases Ak (decide (d<(z.length:Int))) with aH|aH
   ·replace c:=Az c aH;refine AD rfl aH<|AL<|Ab<|Af<|AT<|Af<|Ad<|wM (v:=I d) aB<|wA (v:=I d) rfl<|Ag<|Ab<|Af<|Ad<|wM (v:=aL) aN<|wM (v:=.slice o z.length p) aM<|wM (v:=I d) rfl ?_;replace c:=AW c;obtain⟨i3,bK,bV,bW,bX,c⟩:=c;obtain⟨b3,cF,_,bY,⟨aW,aX,rfl,a5⟩,bZ⟩:=Sl.C1 u rfl bW;refine wD (fun st=>AX (k:=i3) Tryz.underlying23 FX (eR st) bY (eR st) bV bX)<|wD (fun st=>Bg (v:=.slice aW bK.length aX) Eu (eR st) bZ rfl) ?_;replace c:=bind_some c;obtain⟨aY,b4,c⟩:=c;refine wE (fun st=>Mz (s.call n bK aY _ (ZZ f j Z w.heap.size [a]) (ZC f [a]) a #[.slice aW bK.length aX] (Nat.le_trans bN t.sz) (t.zz (F':=f) (M:=[a]) (C:=[]) [0] [] ⟨rfl,trivial⟩ trivial (fun _ h=>.inl h)) Qj aP ⟨_,rfl,⟨_,_,rfl,(a5.mv (t.mz (F':=f) (M:=[a]) (C:=[]) [0] [] ⟨rfl,trivial⟩ trivial (fun _ h=>.inl h)))⟩⟩ b4) (eR st) (CR (eR st))) ?_;rintro _ b8 ⟨aR,a9,aK,rfl,b5⟩;have bA:=t.KU a9 (Cv [0] ⟨rfl,trivial⟩ (fun _ h=>h)) 0 rfl aK;have aZ:aJ aY.2 b8 (ZZ f j Z w.heap.size [aR]) aR:=s.mz b5 (t.call (M:=[aR]) (Nat.le_refl _) (Gc ⟨.inr (fun k hk=>(aK k hk).1.imp (fun e=>by rw[←e];exact List.mem_of_getElem? (i:=0) rfl) id),trivial⟩) (HI (L:=[a]) (y:=aR) 0 (List.mem_of_getElem? (i:=0) rfl)));refine Ag<|Ab ?_;rcases Ak (aY.1) with aI|aI
    ·replace c:=Az c aI;refine AD rfl aI<|Af<|Ad<|wM (v:=I d) rfl<|wA (v:=I d) rfl<|Ag<|Ab<|AI<|Bi<|Ax<|Ax ?_;obtain rfl:=oi c;refine B4 (fun st=>?_);exact .inl ⟨rfl,(d,aY.2),rfl,aR,qz st,qd st,sp st 4 rfl,bA,aZ⟩
    ·replace c:=AA c aI;refine AE rfl aI<|AL<|Bs<|Ab<|Ad ?_;replace c:=AK c;obtain⟨b6,c⟩:=c;refine wD (fun st=>B0 (ee st aB) (eR st) b6)<|wM (v:=I (d+1)) rfl<|Ag ?_;have aS:=(u.mv (t.OX a9 (Cv [0] ⟨rfl,trivial⟩ (fun _ h=>h)) 0 rfl (fun k hk=>(aK k hk).1)));refine Bw bH (Nat.lt_succ_self _) (fun st=>?_);exact⟨(d+1),aY.2,aR,c,qz st,qd st,sp st 0 aM,sp st 1 aN,sp st 7 aO,sp st 8 rfl,bA,aZ,aS⟩
   ·replace c:=AA c aH;refine AE rfl aH<|Cd<|AB<|AB ?_;obtain rfl:=oi c;refine B4 (fun st=>?_);exact .inr ⟨rfl,n,rfl,a,qz st,qd st,t,aP⟩
 case bS=>
  rintro bG b9 cE (⟨rfl,q,rfl,l,aC,aD,a0,x,aE⟩|⟨rfl,q,rfl,m,aC,aD,x,aE⟩)
  ·skip
   replace c:=Eg c;refine Cn (X:=X0) (N:=19) aC aD<|Bi<|Ax ?_;obtain rfl:=oi c;refine AJ rfl a0 ?_;exact⟨l,aV _ x.fin,rfl,x.GD 0 rfl [] rfl (M:=[]) trivial (by rw[aF];intro y a2;simp only[List.mem_cons,List.not_mem_nil,or_false] at a2⊢;rcases a2 with h<;>simp[*]),s.mz aE (CG (DI [0] ⟨rfl,trivial⟩))⟩
  ·skip
   replace c:=Eh c;refine Cn (X:=X0) (N:=19) aC aD<|Bn<|Ab<|Af<|Ad<|wA (v:=I (-1)) rfl<|Ag<|Ab<|AI ?_;obtain rfl:=oi c;refine AJ rfl rfl ?_;exact⟨m,aV _ x.fin,rfl,x.GD 0 rfl [] rfl (M:=[]) trivial (by rw[aF];intro y a2;simp only[List.mem_cons,List.not_mem_nil,or_false] at a2⊢;rcases a2 with h<;>simp[*]),s.mz aE (CG (DI [0] ⟨rfl,trivial⟩))⟩
theorem Ahw{t:Type}{c:Nat→Prop}{aK:Nat}{u:t→World→(Nat→Prop)→Option Nat→Prop}{z:t→(List Int)→Option (Bool×t)} aL q(aC:t) d f(m:Value) a(Z:Nat→Prop) w(g:Cb Tryz.prog m c aK u (v1 (Gp (Ay .i64))) Dg z)(aM:aK≤w.heap.size)(aN:Cc c [a] w)(aO:∀b,Z b→¬c b∧some b∉[a])(x:Sl (BO (Ay .i64)) w Z d f q)(aT:u aC w Z a) aD(o:OY aL z q aC=some aD):
 Cw Tryz.prog 195 #[.slice d q.length f,m] w (fun v w'=>∃o',DM (FU c [a]) w w'∧Dg.R w' (zf Z w [o']) v aD.1∧(∀k,o'=some k→(a=some k∨w.heap.size≤k)∧k<w'.heap.size)∧u aD.2 w' (zf Z w [o']) o'):=by
 unfold OY at o;refine AS (N:=9) Tryz.func195 rfl rfl (by simp) ?_;intro aU ha aV;have aE:=sA 0 ha;have aF:=sA 1 ha;clear ha;obtain⟨l,n⟩:∃l,l=[a]:=⟨_,rfl⟩;have j:Hp c l w [a] w:=by rw[n];exact Hp.start aN
 have aA:∀b,Z b→¬c b∧some b∉l:=by rw[n];exact aO
 have aG:∀w',DM (FU c l) w w'→DM (FU c [a]) w w':=by rw[n];exact fun _ h=>h
 have p:=x.mv (C2 (L:=[a]) aA w);have aH:=g.mz aT (C2 (L:=[a]) aA w);refine Af<|Ad<|wA (v:=.bool false) rfl<|Ag<|Ab<|Af<|Ad<|wM (v:=.slice d q.length f) aE<|wM (v:=m) aF ?_;replace o:=bind_some o;obtain⟨aI,aP,o⟩:=o;refine wE (fun st=>Ar AeK (eR st) (Dw (eR st) (eR st)) (a222 aL q aC d f m a (ZZ c l Z w.heap.size [a]) _ g (Nat.le_trans aM j.sz) (j.GU (F':=c) (M:=[a]) (C:=[]) [0] [] rfl ⟨rfl,trivial⟩ trivial (fun _ h=>.inl h)) (j.zz (F':=c) (M:=[a]) (C:=[]) [0] [] ⟨rfl,trivial⟩ trivial (fun _ h=>.inl h)) p aH aI aP)) ?_;rintro _ w2 ⟨r,aQ,rfl,s,aR⟩;have aB:=j.KU aQ (Cv [0] ⟨rfl,trivial⟩ (fun _ h=>h)) 0 rfl s;have aJ:u aI.2 w2 (ZZ c l Z w.heap.size [r]) r:=g.mz aR (j.call (M:=[r]) (Nat.le_refl _) (Gc ⟨.inr (fun k hk=>(s k hk).1.imp (fun e=>by rw[←e];exact List.mem_of_getElem? (i:=0) rfl) id),trivial⟩) (HI (L:=[a]) (y:=r) 0 (List.mem_of_getElem? (i:=0) rfl)));refine wD (fun st=>IX (eR st) (eR st))<|wA (v:=.bool (decide ((0:Int)≤aI.1))) rfl<|Ag<|Ab<|AI ?_;obtain rfl:=oi o;refine AJ rfl rfl ?_;exact⟨r,aG _ aB.fin,rfl,aB.GD 0 rfl [] rfl (M:=[]) trivial (by rw[n];intro y aS;simp only[List.mem_cons,List.not_mem_nil,or_false] at aS⊢;rcases aS with h<;>simp[*]),g.mz aJ (CG (DI [0] ⟨rfl,trivial⟩))⟩
theorem Ahx{aA:Type}{d:Nat→Prop}{bC:Nat}{aB:aA→World→(Nat→Prop)→Option Nat→Prop}{aF:aA→(List Int)→Option (Bool×aA)} aK aG(aL:aA) m n(j:Value) a(Z:Nat→Prop) w(c:Cb Tryz.prog j d bC aB (v1 (Gp (Ay .i64))) Dg aF)(bD:bC≤w.heap.size)(bE:Cc d [a] w)(bF:∀b,Z b→¬d b∧some b∉[a])(aM:Sl (BO (Ay .i64)) w Z m n aG)(s:aB aL w Z a) aS(aC:QO aK aF aG aL=some aS):
 Cw Tryz.prog 166 #[.slice m aG.length n,j] w (fun v w'=>∃o',DM (FU d [a]) w w'∧Dg.R w' (zf Z w [o']) v aS.1∧(∀k,o'=some k→(a=some k∨w.heap.size≤k)∧k<w'.heap.size)∧aB aS.2 w' (zf Z w [o']) o'):=by
 unfold QO at aC;refine AS (N:=9) Tryz.func166 rfl rfl (by simp) ?_;intro bT ha bU;have aT:=sA 0 ha;have aU:=sA 1 ha;clear ha;obtain⟨q,t⟩:∃q,q=[a]:=⟨_,rfl⟩;have aH:Hp d q w [a] w:=by rw[t];exact Hp.start bE
 have aO:∀b,Z b→¬d b∧some b∉q:=by rw[t];exact bF
 have aV:∀w',DM (FU d q) w w'→DM (FU d [a]) w w':=by rw[t];exact fun _ h=>h
 have aD:=aM.mv (C2 (L:=[a]) aO w);have aW:=c.mz s (C2 (L:=[a]) aO w);refine Af<|Ad<|wE (fun st=>Ci (v:=j) (cs:= #[j]) (ee st aU) c.fc) ?_;rintro _ w1 ⟨b1,rfl,l⟩;have f:=aH.nb l;have bO:=aH.Cr l;refine wA (v:=.bool false) rfl<|Ag<|Ab<|Af<|Ad<|wM (v:=.slice m aG.length n) aT<|wD (fun st=>Ix (vs:= #[]) (us:= #[pt b1 0]) Gx (CR (eR st))) ?_;have aP:=f.GU (F':=d) (M:=[some b1]) (C:=[]) [0] [] rfl ⟨rfl,trivial⟩ trivial (fun k hk=>.inl ((fun _ h=>h) k hk));have aX:Cb Tryz.prog (.func (.func 196) #[] #[pt b1 0]) (FU d [some b1]) w1.heap.size (fun(st:aA) aY bP o=>(∀k,o=some k→k<aY.heap.size∧¬(FU d [some b1]) k)∧Bk aY b1 148 #[j]∧aB st aY bP o) (v1 (Gp (Ay .i64))) Dg (fun(st:aA) (x:(List Int))=>(O4 aK aF x st).bind fun r=>some (r.1,r.2)):=by
  refine⟨rfl,rfl,f.QN [0] ⟨rfl,trivial⟩ (fun _ h=>h),?_,?_,?_⟩
  ·intro st x r w1 aZ bG o vs hn a0 u s hx bQ;obtain⟨g,p,z⟩:=s;obtain⟨_,rfl,⟨a2,a3,rfl,aN⟩⟩:=hx;obtain⟨bR,h1,h2⟩:=bind_some bQ;obtain rfl:=Option.some.inj h2;refine(Le AeL rfl (a196 aK x st a2 a3 b1 j o aZ bG w1 c (Nat.le_trans bD (Nat.le_trans f.sz hn)) ((aP.grow hn).snoc g) (fun b hb=>Jt (u b (a0 b hb)).1 (u b (a0 b hb)).2) a0 (fun b hb=>Jt (u b hb).1 (u b hb).2) aN p z bR h1)).mono ?_;rintro v w2 ⟨o',hx,a4,a5,aQ,bH⟩;exact⟨o',hx.lf,aQ,a4,⟨aP.keep hn g aQ,a5,c.mz bH QW⟩⟩
  ·intro st w1 w2 aZ bV o s hm hb;obtain⟨g,p,z⟩:=s;exact⟨fun k hk=>⟨Nat.lt_of_lt_of_le (g k hk).1 hm.size,(g k hk).2⟩,p.Pm (hb b1 (.inl (.inr (List.mem_of_getElem? (i:=0) rfl)))),c.S6 _ _ _ _ _ _ z hm (fun b bI=>hb b (bI.imp .inl id))⟩
  ·intro st w1 aZ o s k hk;obtain⟨g,p,z⟩:=s;exact g k hk
 have aE:=(aD.mv (AP l));replace aC:=bind_some aC;obtain⟨a8,bJ,aC⟩:=aC;have a9:aB aL w1 (ZZ d q Z w.heap.size [some b1,a]) a:=(c.me aW aH l.gr (AP l));refine wE (fun st=>Ar AeM (eR st) (Dw (eR st) (eR st)) (Ahw aK aG aL m n (.func (.func 196) #[] #[pt b1 0]) a (ZZ d q Z w.heap.size [some b1,a]) _ aX (Nat.le_refl _) (f.GU (F':=(FU d [some b1])) (M:=[a]) (C:=[some b1]) [1] [0] rfl ⟨rfl,trivial⟩ ⟨rfl,trivial⟩ (DS (fun _ h=>h))) (f.zz (F':=(FU d [some b1])) (M:=[a]) (C:=[some b1]) [1] [0] ⟨rfl,trivial⟩ ⟨rfl,trivial⟩ (DS (fun _ h=>h))) aE ⟨(fun k hk=>f.WA 1 (by rw[←hk];rfl) [0] rfl ⟨rfl,trivial⟩),l.bk,a9⟩ a8 bJ)) ?_;rintro _ bS ⟨aI,bK,rfl,aJ,bL⟩;obtain⟨-,bM,bA⟩:=bL;have aR:=f.KU (DM.cl (M1:=[some b1]) (M2:=[a]) bK) (Cv [0,1] ⟨rfl,rfl,trivial⟩ (fun _ h=>h)) 1 rfl aJ;have bB:aB a8.2 bS (ZZ d q Z w.heap.size [some b1,aI]) aI:=c.mz bA (f.call (M:=[aI]) (Nat.le_refl _) (Gc ⟨.inr (fun k hk=>(aJ k hk).1.imp (fun e=>by rw[←e];exact List.mem_of_getElem? (i:=1) rfl) id),trivial⟩) (HI (L:=[some b1,a]) (y:=aI) 1 (List.mem_of_getElem? (i:=0) rfl)));refine wD (fun st=>Dz (eR st))<|wA (v:=.bool !a8.1) rfl<|Ag<|Ab<|AI ?_;obtain rfl:=oi aC;refine AJ rfl rfl ?_;exact⟨aI,aV _ aR.fin,rfl,aR.GD 1 rfl [] rfl (M:=[]) trivial (by rw[t];intro y bN;simp only[List.mem_cons,List.not_mem_nil,or_false] at bN⊢;rcases bN with h<;>simp[*]),c.mz bB (CG (DI [1] ⟨rfl,trivial⟩))⟩
theorem a198{x:Type}{d:Nat→Prop}{aN:Nat}{r:x→World→(Nat→Prop)→Option Nat→Prop}{aB:x→FD→Option (Bool×x)} aX a(z:x) q1(o:Value) c(Z Za:Nat→Prop) w(f:Cb Tryz.prog o d aN r (v1 (Hd AQ)) Dg aB)(aO:aN≤w.heap.size)(aP:Cc d [some q1,c] w)(aQ:∀b,Z b→¬d b∧some b∉[some q1,c])(aY:∀b,Z b→Za b)(aE:∀b,Za b→¬d b∧some b∉[some q1,c])(aR:Bk w q1 212 #[o])(aZ:r z w Z c) aF(q:OA aX aB a z=some aF):
 Cw Tryz.prog 198 #[.agg #[.bool a.C0,I a.Number,I a.Bq,I a.Br],pt q1 0] w (fun v w'=>∃o',DM (FU d [some q1,c]) w w'∧Dg.R w' (zf Z w [some q1,o']) v aF.1∧Bk w' q1 212 #[o]∧(∀k,o'=some k→(c=some k∨w.heap.size≤k)∧k<w'.heap.size)∧r aF.2 w' (zf Z w [some q1,o']) o'):=by
 unfold OA at q;refine AS (N:=8) Tryz.func198 rfl rfl (by simp) ?_;intro a3 ha a4;have aG:=sA 0 ha;have aH:=sA 1 ha;clear ha;obtain⟨j,m⟩:∃j,j=[some q1,c]:=⟨_,rfl⟩;have s:Hp d j w [some q1,c] w:=by rw[m];exact Hp.start aP
 have aS:∀b,Z b→¬d b∧some b∉j:=by rw[m];exact aQ
 have a0:∀b,Za b→¬d b∧some b∉j:=by rw[m];exact aE
 have aI:∀w',DM (FU d j) w w'→DM (FU d [some q1,c]) w w':=by rw[m];exact fun _ h=>h
 have aJ:=f.mz aZ (C2 (L:=[some q1,c]) aS w);refine Af<|Ad<|wE (fun st=>Ci (v:=.agg #[.bool a.C0,I a.Number,I a.Bq,I a.Br]) (cs:= #[.bool a.C0,I a.Number,I a.Bq,I a.Br]) (ee st aG) rfl) ?_;rintro _ w1 ⟨b1,rfl,g⟩;have n:=s.nb g;have aW:=s.Cr g;refine wA (v:=.bool false) rfl<|Ag<|Ab<|Af<|Ad ?_;have p:=(aR.ext g.gr);refine wD (fun st=>AG (v:=o) AeN (ee st aH) p rfl)<|wD (fun st=>AR (l:=[.bool a.C0,I a.Number,I a.Bq,I a.Br]) VX (eR st) g.bk rfl rfl) ?_;have aK:r z w1 (ZZ d j Z w.heap.size [some b1,some q1,c]) c:=(f.me aJ s g.gr (AP g));replace q:=bind_some q;obtain⟨aL,aT,q⟩:=q;refine wE (fun st=>Mz (f.call z a aL _ (ZZ d j Z w.heap.size [some b1,some q1,c]) (ZC d [c]) c #[.agg #[.bool a.C0,I a.Number,I a.Bq,I a.Br]] (Nat.le_trans aO n.sz) (n.zz (F':=d) (M:=[c]) (C:=[]) [2] [] ⟨rfl,trivial⟩ trivial (fun _ h=>.inl h)) Qj aK ⟨_,rfl,⟨_,rfl,rfl⟩⟩ aT) (eR st) (CR (eR st))) ?_;rintro _ a2 ⟨t,aC,u,rfl,aU⟩;have aD:=n.KU aC (Cv [2] ⟨rfl,trivial⟩ (fun _ h=>h)) 2 rfl u;have aM:r aL.2 a2 (ZZ d j Z w.heap.size [some b1,some q1,t]) t:=f.mz aU (n.call (M:=[t]) (Nat.le_refl _) (Gc ⟨.inr (fun k hk=>(u k hk).1.imp (fun e=>by rw[←e];exact List.mem_of_getElem? (i:=2) rfl) id),trivial⟩) (HI (L:=[some b1,some q1,c]) (y:=t) 2 (List.mem_of_getElem? (i:=0) rfl)));refine wD (fun st=>Dz (eR st))<|wA (v:=.bool !aL.1) rfl<|Ag<|Ab<|AI ?_;obtain rfl:=oi q;refine AJ rfl rfl ?_;have aA:=(p.Fa aC (n.FZ 1 rfl [2] rfl ⟨rfl,trivial⟩ (fun _ h=>h)));exact⟨t,aI _ aD.fin,rfl,aA,aD.GD 2 rfl [1] rfl (M:=[some q1]) ⟨rfl,trivial⟩ (by rw[m];intro y aV;simp only[List.mem_cons,List.not_mem_nil,or_false] at aV⊢;rcases aV with h|h<;>simp[*]),f.mz aM (CG (DI [1,2] ⟨rfl,rfl,trivial⟩))⟩
theorem Ahy{a3:Type}{f:Nat→Prop}{bJ:Nat}{aL:a3→World→(Nat→Prop)→Option Nat→Prop}{aV:a3→FD→Option (Bool×a3)} bK z(bA:a3) p q(aN:Value) s(Z:Nat→Prop) w(t:Cb Tryz.prog aN f bJ aL (v1 (Hd AQ)) Dg aV)(bL:bJ≤w.heap.size)(bM:Cc f [s] w)(bN:∀b,Z b→¬f b∧some b∉[s])(a4:Sl AQ w Z p q z)(b5:aL bA w Z s) bB(a:Pp bK aV z bA=some bB):
 Cw Tryz.prog 223 #[.slice p z.length q,aN] w (fun v w'=>∃o',DM (FU f [s]) w w'∧(Ev .i64).R w' (zf Z w [o']) v bB.1∧(∀k,o'=some k→(s=some k∨w.heap.size≤k)∧k<w'.heap.size)∧aL bB.2 w' (zf Z w [o']) o'):=by
 unfold Pp at a;refine AS (N:=19) Tryz.func223 rfl rfl (by simp) ?_;intro b8 ha b9;have aW:=sA 0 ha;have bC:=sA 1 ha;clear ha;obtain⟨j,aH⟩:∃j,j=[s]:=⟨_,rfl⟩;have bO:Hp f j w [s] w:=by rw[aH];exact Hp.start bM
 have a5:∀b,Z b→¬f b∧some b∉j:=by rw[aH];exact bN
 have aX:∀w',DM (FU f j) w w'→DM (FU f [s]) w w':=by rw[aH];exact fun _ h=>h
 have aS:=a4.mv (C2 (L:=[s]) a5 w);have bD:=t.mz b5 (C2 (L:=[s]) a5 w);refine Af<|Ad<|wA (v:=I 0) rfl<|Ag<|Ab<|Af<|Af<|Ad<|wM (v:=.slice p z.length q) aW<|wD (fun st=>Bu Tryz.underlying36 (eR st))<|wM (v:=I 0) rfl<|Ag<|Ab<|AT ?_;replace a:=bind_some a;obtain⟨bE,aA,a⟩:=a;refine Cm (fun bF g aI=>(bF=.ret∧∃r,bE=.inl r∧∃m,g.tmps.size=19∧g.defers=(X0).ds∧sl g 4=I r.1∧Hp f j w [m] aI∧aL r.2 aI (ZZ f j Z w.heap.size [m]) m)∨(bF=.exit 0∧∃r,bE=.inr r∧∃n,g.tmps.size=19∧g.defers=(X0).ds∧Hp f j w [n] aI∧aL r aI (ZZ f j Z w.heap.size [n]) n)) ?bP ?bQ
 case bP=>
  clear a;refine Cl (fun(bG:Nat) (g:Act) (aI:World)=>∃d,∃o,∃c,Lt aV z bG d o=some bE∧g.tmps.size=19∧g.defers=(X0).ds∧sl g 0=.slice p z.length q∧sl g 1=aN∧sl g 7=I (z.length:Int)∧sl g 8=I d∧Hp f j w [c] aI∧aL o aI (ZZ f j Z w.heap.size [c]) c∧Sl AQ aI (ZZ f j Z w.heap.size [c]) p q z) bK ?bR ?bS
  case bR=>
   intro st;exact⟨(0:Int),bA,s,aA,qz st,qd st,sp st 0 aW,sp st 1 bC,sp st 7 rfl,sp st 8 rfl,bO,bD,aS⟩
  case bS=>
   rintro(_|bG) cA cB ⟨d,o,c,aA,bH,bI,aO,aP,aQ,aC,aB,aR,u⟩
   ·exact absurd (show none=some _ from aA) (by simp)
   rw[Lt.eq_2] at aA;have a:=aA;clear aA;refine B7 (N:=19) bH bI<|Af<|Ad<|wD (fun st=>CO (ee st aC) (ee st aQ))<|Ag<|Ab<|Af ?_;rcases Ak (decide (d<(z.length:Int))) with aJ|aJ
   ·replace a:=Az a aJ;refine AD rfl aJ<|AL<|Ab<|Af<|AT<|Af<|Ad<|wM (v:=I d) aC<|wA (v:=I d) rfl<|Ag<|Ab<|Af<|Ad<|wM (v:=aN) aP<|wM (v:=.slice p z.length q) aO<|wM (v:=I d) rfl ?_;replace a:=AW a;obtain⟨i3,aD,bT,bU,bV,a⟩:=a;obtain⟨b3,cD,_,bW,rfl,bX⟩:=Sl.elem u (by decide) bU;refine wD (fun st=>BR (k:=i3) Tryz.underlying36 Aaa (eR st) bW (eR st) bT bV)<|wD (fun st=>Ew (l:=[.bool aD.C0,I aD.Number,I aD.Bq,I aD.Br]) VX (eR st) bX rfl rfl) ?_;replace a:=bind_some a;obtain⟨aY,bY,a⟩:=a;refine wE (fun st=>Mz (t.call o aD aY _ (ZZ f j Z w.heap.size [c]) (ZC f [c]) c #[.agg #[.bool aD.C0,I aD.Number,I aD.Bq,I aD.Br]] (Nat.le_trans bL aB.sz) (aB.zz (F':=f) (M:=[c]) (C:=[]) [0] [] ⟨rfl,trivial⟩ trivial (fun _ h=>.inl h)) Qj aR ⟨_,rfl,⟨_,rfl,rfl⟩⟩ bY) (eR st) (CR (eR st))) ?_;rintro _ b6 ⟨aT,a8,aM,rfl,bZ⟩;have a9:=aB.KU a8 (Cv [0] ⟨rfl,trivial⟩ (fun _ h=>h)) 0 rfl aM;have aZ:aL aY.2 b6 (ZZ f j Z w.heap.size [aT]) aT:=t.mz bZ (aB.call (M:=[aT]) (Nat.le_refl _) (Gc ⟨.inr (fun k hk=>(aM k hk).1.imp (fun e=>by rw[←e];exact List.mem_of_getElem? (i:=0) rfl) id),trivial⟩) (HI (L:=[c]) (y:=aT) 0 (List.mem_of_getElem? (i:=0) rfl)));refine Ag<|Ab ?_;rcases Ak (aY.1) with aK|aK
    ·replace a:=Az a aK;refine AD rfl aK<|Af<|Ad<|wM (v:=I d) rfl<|wA (v:=I d) rfl<|Ag<|Ab<|AI<|Bi<|Ax<|Ax ?_;obtain rfl:=oi a;refine B4 (fun st=>?_);exact .inl ⟨rfl,(d,aY.2),rfl,aT,qz st,qd st,sp st 4 rfl,a9,aZ⟩
    ·replace a:=AA a aK;refine AE rfl aK<|AL<|Bs<|Ab<|Ad ?_;replace a:=AK a;obtain⟨b4,a⟩:=a;refine wD (fun st=>B0 (ee st aC) (eR st) b4)<|wM (v:=I (d+1)) rfl<|Ag ?_;have aU:=(u.mv (aB.OX a8 (Cv [0] ⟨rfl,trivial⟩ (fun _ h=>h)) 0 rfl (fun k hk=>(aM k hk).1)));refine Bw bG (Nat.lt_succ_self _) (fun st=>?_);exact⟨(d+1),aY.2,aT,a,qz st,qd st,sp st 0 aO,sp st 1 aP,sp st 7 aQ,sp st 8 rfl,a9,aZ,aU⟩
   ·replace a:=AA a aJ;refine AE rfl aJ<|Cd<|AB<|AB ?_;obtain rfl:=oi a;refine B4 (fun st=>?_);exact .inr ⟨rfl,o,rfl,c,qz st,qd st,aB,aR⟩
 case bQ=>
  rintro bF b7 cC (⟨rfl,r,rfl,m,aE,aF,a0,x,aG⟩|⟨rfl,r,rfl,n,aE,aF,x,aG⟩)
  ·skip
   replace a:=Eg a;refine Cn (X:=X0) (N:=19) aE aF<|Bi<|Ax ?_;obtain rfl:=oi a;refine AJ rfl a0 ?_;exact⟨m,aX _ x.fin,rfl,x.GD 0 rfl [] rfl (M:=[]) trivial (by rw[aH];intro y a2;simp only[List.mem_cons,List.not_mem_nil,or_false] at a2⊢;rcases a2 with h<;>simp[*]),t.mz aG (CG (DI [0] ⟨rfl,trivial⟩))⟩
  ·skip
   replace a:=Eh a;refine Cn (X:=X0) (N:=19) aE aF<|Bn<|Ab<|Af<|Ad<|wA (v:=I (-1)) rfl<|Ag<|Ab<|AI ?_;obtain rfl:=oi a;refine AJ rfl rfl ?_;exact⟨n,aX _ x.fin,rfl,x.GD 0 rfl [] rfl (M:=[]) trivial (by rw[aH];intro y a2;simp only[List.mem_cons,List.not_mem_nil,or_false] at a2⊢;rcases a2 with h<;>simp[*]),t.mz aG (CG (DI [0] ⟨rfl,trivial⟩))⟩
theorem Ahz{t:Type}{c:Nat→Prop}{aK:Nat}{u:t→World→(Nat→Prop)→Option Nat→Prop}{z:t→FD→Option (Bool×t)} aL q(aC:t) d f(m:Value) a(Z:Nat→Prop) w(g:Cb Tryz.prog m c aK u (v1 (Hd AQ)) Dg z)(aM:aK≤w.heap.size)(aN:Cc c [a] w)(aO:∀b,Z b→¬c b∧some b∉[a])(x:Sl AQ w Z d f q)(aT:u aC w Z a) aD(o:OB aL z q aC=some aD):
 Cw Tryz.prog 197 #[.slice d q.length f,m] w (fun v w'=>∃o',DM (FU c [a]) w w'∧Dg.R w' (zf Z w [o']) v aD.1∧(∀k,o'=some k→(a=some k∨w.heap.size≤k)∧k<w'.heap.size)∧u aD.2 w' (zf Z w [o']) o'):=by
 unfold OB at o;refine AS (N:=9) Tryz.func197 rfl rfl (by simp) ?_;intro aU ha aV;have aE:=sA 0 ha;have aF:=sA 1 ha;clear ha;obtain⟨l,n⟩:∃l,l=[a]:=⟨_,rfl⟩;have j:Hp c l w [a] w:=by rw[n];exact Hp.start aN
 have aA:∀b,Z b→¬c b∧some b∉l:=by rw[n];exact aO
 have aG:∀w',DM (FU c l) w w'→DM (FU c [a]) w w':=by rw[n];exact fun _ h=>h
 have p:=x.mv (C2 (L:=[a]) aA w);have aH:=g.mz aT (C2 (L:=[a]) aA w);refine Af<|Ad<|wA (v:=.bool false) rfl<|Ag<|Ab<|Af<|Ad<|wM (v:=.slice d q.length f) aE<|wM (v:=m) aF ?_;replace o:=bind_some o;obtain⟨aI,aP,o⟩:=o;refine wE (fun st=>Ar AeO (eR st) (Dw (eR st) (eR st)) (Ahy aL q aC d f m a (ZZ c l Z w.heap.size [a]) _ g (Nat.le_trans aM j.sz) (j.GU (F':=c) (M:=[a]) (C:=[]) [0] [] rfl ⟨rfl,trivial⟩ trivial (fun _ h=>.inl h)) (j.zz (F':=c) (M:=[a]) (C:=[]) [0] [] ⟨rfl,trivial⟩ trivial (fun _ h=>.inl h)) p aH aI aP)) ?_;rintro _ w2 ⟨r,aQ,rfl,s,aR⟩;have aB:=j.KU aQ (Cv [0] ⟨rfl,trivial⟩ (fun _ h=>h)) 0 rfl s;have aJ:u aI.2 w2 (ZZ c l Z w.heap.size [r]) r:=g.mz aR (j.call (M:=[r]) (Nat.le_refl _) (Gc ⟨.inr (fun k hk=>(s k hk).1.imp (fun e=>by rw[←e];exact List.mem_of_getElem? (i:=0) rfl) id),trivial⟩) (HI (L:=[a]) (y:=r) 0 (List.mem_of_getElem? (i:=0) rfl)));refine wD (fun st=>IX (eR st) (eR st))<|wA (v:=.bool (decide ((0:Int)≤aI.1))) rfl<|Ag<|Ab<|AI ?_;obtain rfl:=oi o;refine AJ rfl rfl ?_;exact⟨r,aG _ aB.fin,rfl,aB.GD 0 rfl [] rfl (M:=[]) trivial (by rw[n];intro y aS;simp only[List.mem_cons,List.not_mem_nil,or_false] at aS⊢;rcases aS with h<;>simp[*]),g.mz aJ (CG (DI [0] ⟨rfl,trivial⟩))⟩
theorem a167{aA:Type}{d:Nat→Prop}{a9:Nat}{aB:aA→World→(Nat→Prop)→Option Nat→Prop}{aF:aA→FD→Option (Bool×aA)} aK aG(aL:aA) m n(j:Value) a(Z:Nat→Prop) w(c:Cb Tryz.prog j d a9 aB (v1 (Hd AQ)) Dg aF)(bA:a9≤w.heap.size)(bB:Cc d [a] w)(bC:∀b,Z b→¬d b∧some b∉[a])(aM:Sl AQ w Z m n aG)(s:aB aL w Z a) aR(aC:Qm aK aF aG aL=some aR):
 Cw Tryz.prog 167 #[.slice m aG.length n,j] w (fun v w'=>∃o',DM (FU d [a]) w w'∧Dg.R w' (zf Z w [o']) v aR.1∧(∀k,o'=some k→(a=some k∨w.heap.size≤k)∧k<w'.heap.size)∧aB aR.2 w' (zf Z w [o']) o'):=by
 unfold Qm at aC;refine AS (N:=9) Tryz.func167 rfl rfl (by simp) ?_;intro bQ ha bR;have aS:=sA 0 ha;have aT:=sA 1 ha;clear ha;obtain⟨q,t⟩:∃q,q=[a]:=⟨_,rfl⟩;have aH:Hp d q w [a] w:=by rw[t];exact Hp.start bB
 have aN:∀b,Z b→¬d b∧some b∉q:=by rw[t];exact bC
 have aU:∀w',DM (FU d q) w w'→DM (FU d [a]) w w':=by rw[t];exact fun _ h=>h
 have aD:=aM.mv (C2 (L:=[a]) aN w);have aV:=c.mz s (C2 (L:=[a]) aN w);refine Af<|Ad<|wE (fun st=>Ci (v:=j) (cs:= #[j]) (ee st aT) c.fc) ?_;rintro _ w1 ⟨b1,rfl,l⟩;have f:=aH.nb l;have bL:=aH.Cr l;refine wA (v:=.bool false) rfl<|Ag<|Ab<|Af<|Ad<|wM (v:=.slice m aG.length n) aS<|wD (fun st=>Ix (vs:= #[]) (us:= #[pt b1 0]) Gx (CR (eR st))) ?_;have aO:=f.GU (F':=d) (M:=[some b1]) (C:=[]) [0] [] rfl ⟨rfl,trivial⟩ trivial (fun k hk=>.inl ((fun _ h=>h) k hk));have aW:Cb Tryz.prog (.func (.func 198) #[] #[pt b1 0]) (FU d [some b1]) w1.heap.size (fun(st:aA) aX bM o=>(∀k,o=some k→k<aX.heap.size∧¬(FU d [some b1]) k)∧Bk aX b1 212 #[j]∧aB st aX bM o) (v1 (Hd AQ)) Dg (fun(st:aA) (x:FD)=>(OA aK aF x st).bind fun r=>some (r.1,r.2)):=by
  refine⟨rfl,rfl,f.QN [0] ⟨rfl,trivial⟩ (fun _ h=>h),?_,?_,?_⟩
  ·intro st x r w1 aY bD o vs hn aZ u s hx bN;obtain⟨g,p,z⟩:=s;obtain⟨_,rfl,⟨_,rfl,rfl⟩⟩:=hx;obtain⟨bO,h1,h2⟩:=bind_some bN;obtain rfl:=Option.some.inj h2;refine(Le AeP rfl (a198 aK x st b1 j o aY bD w1 c (Nat.le_trans bA (Nat.le_trans f.sz hn)) ((aO.grow hn).snoc g) (fun b hb=>Jt (u b (aZ b hb)).1 (u b (aZ b hb)).2) aZ (fun b hb=>Jt (u b hb).1 (u b hb).2) p z bO h1)).mono ?_;rintro v w2 ⟨o',hx,a0,a2,aP,bE⟩;exact⟨o',hx.lf,aP,a0,⟨aO.keep hn g aP,a2,c.mz bE QW⟩⟩
  ·intro st w1 w2 aY bS o s hm hb;obtain⟨g,p,z⟩:=s;exact⟨fun k hk=>⟨Nat.lt_of_lt_of_le (g k hk).1 hm.size,(g k hk).2⟩,p.Pm (hb b1 (.inl (.inr (List.mem_of_getElem? (i:=0) rfl)))),c.S6 _ _ _ _ _ _ z hm (fun b bF=>hb b (bF.imp .inl id))⟩
  ·intro st w1 aY o s k hk;obtain⟨g,p,z⟩:=s;exact g k hk
 have aE:=(aD.mv (AP l));replace aC:=bind_some aC;obtain⟨a3,bG,aC⟩:=aC;have a4:aB aL w1 (ZZ d q Z w.heap.size [some b1,a]) a:=(c.me aV aH l.gr (AP l));refine wE (fun st=>Ar AeQ (eR st) (Dw (eR st) (eR st)) (Ahz aK aG aL m n (.func (.func 198) #[] #[pt b1 0]) a (ZZ d q Z w.heap.size [some b1,a]) _ aW (Nat.le_refl _) (f.GU (F':=(FU d [some b1])) (M:=[a]) (C:=[some b1]) [1] [0] rfl ⟨rfl,trivial⟩ ⟨rfl,trivial⟩ (DS (fun _ h=>h))) (f.zz (F':=(FU d [some b1])) (M:=[a]) (C:=[some b1]) [1] [0] ⟨rfl,trivial⟩ ⟨rfl,trivial⟩ (DS (fun _ h=>h))) aE ⟨(fun k hk=>f.WA 1 (by rw[←hk];rfl) [0] rfl ⟨rfl,trivial⟩),l.bk,a4⟩ a3 bG)) ?_;rintro _ bP ⟨aI,bH,rfl,aJ,bI⟩;obtain⟨-,bJ,a5⟩:=bI;have aQ:=f.KU (DM.cl (M1:=[some b1]) (M2:=[a]) bH) (Cv [0,1] ⟨rfl,rfl,trivial⟩ (fun _ h=>h)) 1 rfl aJ;have a8:aB a3.2 bP (ZZ d q Z w.heap.size [some b1,aI]) aI:=c.mz a5 (f.call (M:=[aI]) (Nat.le_refl _) (Gc ⟨.inr (fun k hk=>(aJ k hk).1.imp (fun e=>by rw[←e];exact List.mem_of_getElem? (i:=1) rfl) id),trivial⟩) (HI (L:=[some b1,a]) (y:=aI) 1 (List.mem_of_getElem? (i:=0) rfl)));refine wD (fun st=>Dz (eR st))<|wA (v:=.bool !a3.1) rfl<|Ag<|Ab<|AI ?_;obtain rfl:=oi aC;refine AJ rfl rfl ?_;exact⟨aI,aU _ aQ.fin,rfl,aQ.GD 1 rfl [] rfl (M:=[]) trivial (by rw[t];intro y bK;simp only[List.mem_cons,List.not_mem_nil,or_false] at bK⊢;rcases bK with h<;>simp[*]),c.mz a8 (CG (DI [1] ⟨rfl,trivial⟩))⟩
theorem AhA{q:Type}{c:Nat→Prop}{aJ:Nat}{r:q→World→(Nat→Prop)→Option Nat→Prop}{t:q→Int→Option (Bool×q)} aR n(aA:q) q1(l:Value) a(Z Za:Nat→Prop) w(d:Cb Tryz.prog l c aJ r (v1 (Ev .i64)) Dg t)(aK:aJ≤w.heap.size)(aL:Cc c [some q1,a] w)(aM:∀b,Z b→¬c b∧some b∉[some q1,a])(aS:∀b,Z b→Za b)(aB:∀b,Za b→¬c b∧some b∉[some q1,a])(u:Bk w q1 142 #[l])(aT:r aA w Z a) aC(m:Pq aR t n aA=some aC):
 Cw Tryz.prog 231 #[I n,pt q1 0] w (fun v w'=>∃o',DM (FU c [some q1,a]) w w'∧Dg.R w' (zf Z w [some q1,o']) v aC.1∧Bk w' q1 142 #[l]∧(∀k,o'=some k→(a=some k∨w.heap.size≤k)∧k<w'.heap.size)∧r aC.2 w' (zf Z w [some q1,o']) o'):=by
 unfold Pq at m;refine AS (N:=8) Tryz.func231 rfl rfl (by simp) ?_;intro aV ha aW;have aD:=sA 0 ha;have aE:=sA 1 ha;clear ha;obtain⟨f,g⟩:∃f,f=[some q1,a]:=⟨_,rfl⟩;have j:Hp c f w [some q1,a] w:=by rw[g];exact Hp.start aL
 have aN:∀b,Z b→¬c b∧some b∉f:=by rw[g];exact aM
 have aU:∀b,Za b→¬c b∧some b∉f:=by rw[g];exact aB
 have aF:∀w',DM (FU c f) w w'→DM (FU c [some q1,a]) w w':=by rw[g];exact fun _ h=>h
 have aG:=d.mz aT (C2 (L:=[some q1,a]) aN w);refine Af<|Ad<|wA (v:=.bool false) rfl<|Ag<|Ab<|Af<|Ad<|wD (fun st=>AG (v:=l) Tk (ee st aE) u rfl)<|wM (v:=I n) aD ?_;replace m:=bind_some m;obtain⟨aH,aO,m⟩:=m;refine wE (fun st=>Mz (d.call aA n aH _ (ZZ c f Z w.heap.size [some q1,a]) (ZC c [a]) a #[I n] (Nat.le_trans aK j.sz) (j.zz (F':=c) (M:=[a]) (C:=[]) [1] [] ⟨rfl,trivial⟩ trivial (fun _ h=>.inl h)) Qj aG ⟨_,rfl,rfl⟩ aO) (eR st) (CR (eR st))) ?_;rintro _ w2 ⟨o,x,p,rfl,aP⟩;have z:=j.KU x (Cv [1] ⟨rfl,trivial⟩ (fun _ h=>h)) 1 rfl p;have aI:r aH.2 w2 (ZZ c f Z w.heap.size [some q1,o]) o:=d.mz aP (j.call (M:=[o]) (Nat.le_refl _) (Gc ⟨.inr (fun k hk=>(p k hk).1.imp (fun e=>by rw[←e];exact List.mem_of_getElem? (i:=1) rfl) id),trivial⟩) (HI (L:=[some q1,a]) (y:=o) 1 (List.mem_of_getElem? (i:=0) rfl)));refine wD (fun st=>Dz (eR st))<|wA (v:=.bool !aH.1) rfl<|Ag<|Ab<|AI ?_;obtain rfl:=oi m;refine AJ rfl rfl ?_;have s:=(u.Fa x (j.FZ 0 rfl [1] rfl ⟨rfl,trivial⟩ (fun _ h=>h)));exact⟨o,aF _ z.fin,rfl,s,z.GD 1 rfl [0] rfl (M:=[some q1]) ⟨rfl,trivial⟩ (by rw[g];intro y aQ;simp only[List.mem_cons,List.not_mem_nil,or_false] at aQ⊢;rcases aQ with h|h<;>simp[*]),d.mz aI (CG (DI [0,1] ⟨rfl,rfl,trivial⟩))⟩
theorem AhB{a0:Type}{f:Nat→Prop}{bI:Nat}{aJ:a0→World→(Nat→Prop)→Option Nat→Prop}{aT:a0→Int→Option (Bool×a0)} bJ x(a8:a0) o p(aL:Value) r(Z:Nat→Prop) w(s:Cb Tryz.prog aL f bI aJ (v1 (Ev .i64)) Dg aT)(bK:bI≤w.heap.size)(bL:Cc f [r] w)(bM:∀b,Z b→¬f b∧some b∉[r])(a2:Sl (Ay .i64) w Z o p x)(b4:aJ a8 w Z r) a9(a:PV bJ aT x a8=some a9):
 Cw Tryz.prog 207 #[.slice o x.length p,aL] w (fun v w'=>∃o',DM (FU f [r]) w w'∧(Ev .i64).R w' (zf Z w [o']) v a9.1∧(∀k,o'=some k→(r=some k∨w.heap.size≤k)∧k<w'.heap.size)∧aJ a9.2 w' (zf Z w [o']) o'):=by
 unfold PV at a;refine AS (N:=19) Tryz.func207 rfl rfl (by simp) ?_;intro b7 ha b8;have aU:=sA 0 ha;have bA:=sA 1 ha;clear ha;obtain⟨j,aF⟩:∃j,j=[r]:=⟨_,rfl⟩;have bN:Hp f j w [r] w:=by rw[aF];exact Hp.start bL
 have a3:∀b,Z b→¬f b∧some b∉j:=by rw[aF];exact bM
 have aV:∀w',DM (FU f j) w w'→DM (FU f [r]) w w':=by rw[aF];exact fun _ h=>h
 have aQ:=a2.mv (C2 (L:=[r]) a3 w);have bB:=s.mz b4 (C2 (L:=[r]) a3 w);refine Af<|Ad<|wA (v:=I 0) rfl<|Ag<|Ab<|Af<|Af<|Ad<|wM (v:=.slice o x.length p) aU<|wD (fun st=>Bu Tryz.underlying31 (eR st))<|wM (v:=I 0) rfl<|Ag<|Ab<|AT ?_;replace a:=bind_some a;obtain⟨bC,z,a⟩:=a;refine Cm (fun bD g aG=>(bD=.ret∧∃q,bC=.inl q∧∃l,g.tmps.size=19∧g.defers=(X0).ds∧sl g 4=I q.1∧Hp f j w [l] aG∧aJ q.2 aG (ZZ f j Z w.heap.size [l]) l)∨(bD=.exit 0∧∃q,bC=.inr q∧∃m,g.tmps.size=19∧g.defers=(X0).ds∧Hp f j w [m] aG∧aJ q aG (ZZ f j Z w.heap.size [m]) m)) ?bO ?bP
 case bO=>
  clear a;refine Cl (fun(bE:Nat) (g:Act) (aG:World)=>∃d,∃n,∃c,Gh aT x bE d n=some bC∧g.tmps.size=19∧g.defers=(X0).ds∧sl g 0=.slice o x.length p∧sl g 1=aL∧sl g 7=I (x.length:Int)∧sl g 8=I d∧Hp f j w [c] aG∧aJ n aG (ZZ f j Z w.heap.size [c]) c∧Sl (Ay .i64) aG (ZZ f j Z w.heap.size [c]) o p x) bJ ?bQ ?bR
  case bQ=>
   intro st;exact⟨(0:Int),a8,r,z,qz st,qd st,sp st 0 aU,sp st 1 bA,sp st 7 rfl,sp st 8 rfl,bN,bB,aQ⟩
  case bR=>
   rintro(_|bE) b9 cA ⟨d,n,c,z,bF,bG,aM,aN,aO,aB,aA,aP,t⟩
   ·exact absurd (show none=some _ from z) (by simp)
   rw[Gh.eq_2] at z;have a:=z;clear z;refine B7 (N:=19) bF bG<|Af<|Ad<|wD (fun st=>CO (ee st aB) (ee st aO))<|Ag<|Ab<|Af ?_;rcases Ak (decide (d<(x.length:Int))) with aH|aH
   ·replace a:=Az a aH;refine AD rfl aH<|AL<|Ab<|Af<|AT<|Af<|Ad<|wM (v:=I d) aB<|wA (v:=I d) rfl<|Ag<|Ab<|Af<|Ad<|wM (v:=aL) aN<|wM (v:=.slice o x.length p) aM<|wM (v:=I d) rfl ?_;replace a:=AW a;obtain⟨i3,bH,bS,bT,bU,a⟩:=a;obtain⟨b3,cC,_,bV,rfl,bW⟩:=Sl.C1 t rfl bT;refine wD (fun st=>AX (k:=i3) Tryz.underlying31 DR (eR st) bV (eR st) bS bU)<|wD (fun st=>Bg (v:=I bH) Bz (eR st) bW rfl) ?_;replace a:=bind_some a;obtain⟨aW,bX,a⟩:=a;refine wE (fun st=>Mz (s.call n bH aW _ (ZZ f j Z w.heap.size [c]) (ZC f [c]) c #[I bH] (Nat.le_trans bK aA.sz) (aA.zz (F':=f) (M:=[c]) (C:=[]) [0] [] ⟨rfl,trivial⟩ trivial (fun _ h=>.inl h)) Qj aP ⟨_,rfl,rfl⟩ bX) (eR st) (CR (eR st))) ?_;rintro _ b5 ⟨aR,a4,aK,rfl,bY⟩;have a5:=aA.KU a4 (Cv [0] ⟨rfl,trivial⟩ (fun _ h=>h)) 0 rfl aK;have aX:aJ aW.2 b5 (ZZ f j Z w.heap.size [aR]) aR:=s.mz bY (aA.call (M:=[aR]) (Nat.le_refl _) (Gc ⟨.inr (fun k hk=>(aK k hk).1.imp (fun e=>by rw[←e];exact List.mem_of_getElem? (i:=0) rfl) id),trivial⟩) (HI (L:=[c]) (y:=aR) 0 (List.mem_of_getElem? (i:=0) rfl)));refine Ag<|Ab ?_;rcases Ak (aW.1) with aI|aI
    ·replace a:=Az a aI;refine AD rfl aI<|Af<|Ad<|wM (v:=I d) rfl<|wA (v:=I d) rfl<|Ag<|Ab<|AI<|Bi<|Ax<|Ax ?_;obtain rfl:=oi a;refine B4 (fun st=>?_);exact .inl ⟨rfl,(d,aW.2),rfl,aR,qz st,qd st,sp st 4 rfl,a5,aX⟩
    ·replace a:=AA a aI;refine AE rfl aI<|AL<|Bs<|Ab<|Ad ?_;replace a:=AK a;obtain⟨bZ,a⟩:=a;refine wD (fun st=>B0 (ee st aB) (eR st) bZ)<|wM (v:=I (d+1)) rfl<|Ag ?_;have aS:=(t.mv (aA.OX a4 (Cv [0] ⟨rfl,trivial⟩ (fun _ h=>h)) 0 rfl (fun k hk=>(aK k hk).1)));refine Bw bE (Nat.lt_succ_self _) (fun st=>?_);exact⟨(d+1),aW.2,aR,a,qz st,qd st,sp st 0 aM,sp st 1 aN,sp st 7 aO,sp st 8 rfl,a5,aX,aS⟩
   ·replace a:=AA a aH;refine AE rfl aH<|Cd<|AB<|AB ?_;obtain rfl:=oi a;refine B4 (fun st=>?_);exact .inr ⟨rfl,n,rfl,c,qz st,qd st,aA,aP⟩
 case bP=>
  rintro bD b6 cB (⟨rfl,q,rfl,l,aC,aD,aY,u,aE⟩|⟨rfl,q,rfl,m,aC,aD,u,aE⟩)
  ·skip
   replace a:=Eg a;refine Cn (X:=X0) (N:=19) aC aD<|Bi<|Ax ?_;obtain rfl:=oi a;refine AJ rfl aY ?_;exact⟨l,aV _ u.fin,rfl,u.GD 0 rfl [] rfl (M:=[]) trivial (by rw[aF];intro y aZ;simp only[List.mem_cons,List.not_mem_nil,or_false] at aZ⊢;rcases aZ with h<;>simp[*]),s.mz aE (CG (DI [0] ⟨rfl,trivial⟩))⟩
  ·skip
   replace a:=Eh a;refine Cn (X:=X0) (N:=19) aC aD<|Bn<|Ab<|Af<|Ad<|wA (v:=I (-1)) rfl<|Ag<|Ab<|AI ?_;obtain rfl:=oi a;refine AJ rfl rfl ?_;exact⟨m,aV _ u.fin,rfl,u.GD 0 rfl [] rfl (M:=[]) trivial (by rw[aF];intro y aZ;simp only[List.mem_cons,List.not_mem_nil,or_false] at aZ⊢;rcases aZ with h<;>simp[*]),s.mz aE (CG (DI [0] ⟨rfl,trivial⟩))⟩
theorem Agz{t:Type}{c:Nat→Prop}{aK:Nat}{u:t→World→(Nat→Prop)→Option Nat→Prop}{z:t→Int→Option (Bool×t)} aL q(aC:t) d f(m:Value) a(Z:Nat→Prop) w(g:Cb Tryz.prog m c aK u (v1 (Ev .i64)) Dg z)(aM:aK≤w.heap.size)(aN:Cc c [a] w)(aO:∀b,Z b→¬c b∧some b∉[a])(x:Sl (Ay .i64) w Z d f q)(aT:u aC w Z a) aD(o:ND aL z q aC=some aD):
 Cw Tryz.prog 187 #[.slice d q.length f,m] w (fun v w'=>∃o',DM (FU c [a]) w w'∧Dg.R w' (zf Z w [o']) v aD.1∧(∀k,o'=some k→(a=some k∨w.heap.size≤k)∧k<w'.heap.size)∧u aD.2 w' (zf Z w [o']) o'):=by
 unfold ND at o;refine AS (N:=9) Tryz.func187 rfl rfl (by simp) ?_;intro aU ha aV;have aE:=sA 0 ha;have aF:=sA 1 ha;clear ha;obtain⟨l,n⟩:∃l,l=[a]:=⟨_,rfl⟩;have j:Hp c l w [a] w:=by rw[n];exact Hp.start aN
 have aA:∀b,Z b→¬c b∧some b∉l:=by rw[n];exact aO
 have aG:∀w',DM (FU c l) w w'→DM (FU c [a]) w w':=by rw[n];exact fun _ h=>h
 have p:=x.mv (C2 (L:=[a]) aA w);have aH:=g.mz aT (C2 (L:=[a]) aA w);refine Af<|Ad<|wA (v:=.bool false) rfl<|Ag<|Ab<|Af<|Ad<|wM (v:=.slice d q.length f) aE<|wM (v:=m) aF ?_;replace o:=bind_some o;obtain⟨aI,aP,o⟩:=o;refine wE (fun st=>Ar AeR (eR st) (Dw (eR st) (eR st)) (AhB aL q aC d f m a (ZZ c l Z w.heap.size [a]) _ g (Nat.le_trans aM j.sz) (j.GU (F':=c) (M:=[a]) (C:=[]) [0] [] rfl ⟨rfl,trivial⟩ trivial (fun _ h=>.inl h)) (j.zz (F':=c) (M:=[a]) (C:=[]) [0] [] ⟨rfl,trivial⟩ trivial (fun _ h=>.inl h)) p aH aI aP)) ?_;rintro _ w2 ⟨r,aQ,rfl,s,aR⟩;have aB:=j.KU aQ (Cv [0] ⟨rfl,trivial⟩ (fun _ h=>h)) 0 rfl s;have aJ:u aI.2 w2 (ZZ c l Z w.heap.size [r]) r:=g.mz aR (j.call (M:=[r]) (Nat.le_refl _) (Gc ⟨.inr (fun k hk=>(s k hk).1.imp (fun e=>by rw[←e];exact List.mem_of_getElem? (i:=0) rfl) id),trivial⟩) (HI (L:=[a]) (y:=r) 0 (List.mem_of_getElem? (i:=0) rfl)));refine wD (fun st=>IX (eR st) (eR st))<|wA (v:=.bool (decide ((0:Int)≤aI.1))) rfl<|Ag<|Ab<|AI ?_;obtain rfl:=oi o;refine AJ rfl rfl ?_;exact⟨r,aG _ aB.fin,rfl,aB.GD 0 rfl [] rfl (M:=[]) trivial (by rw[n];intro y aS;simp only[List.mem_cons,List.not_mem_nil,or_false] at aS⊢;rcases aS with h<;>simp[*]),g.mz aJ (CG (DI [0] ⟨rfl,trivial⟩))⟩
theorem AhC{aA:Type}{d:Nat→Prop}{a9:Nat}{aB:aA→World→(Nat→Prop)→Option Nat→Prop}{aF:aA→Int→Option (Bool×aA)} aK aG(aL:aA) m n(j:Value) a(Z:Nat→Prop) w(c:Cb Tryz.prog j d a9 aB (v1 (Ev .i64)) Dg aF)(bA:a9≤w.heap.size)(bB:Cc d [a] w)(bC:∀b,Z b→¬d b∧some b∉[a])(aM:Sl (Ay .i64) w Z m n aG)(s:aB aL w Z a) aR(aC:Rl aK aF aG aL=some aR):
 Cw Tryz.prog 219 #[.slice m aG.length n,j] w (fun v w'=>∃o',DM (FU d [a]) w w'∧Dg.R w' (zf Z w [o']) v aR.1∧(∀k,o'=some k→(a=some k∨w.heap.size≤k)∧k<w'.heap.size)∧aB aR.2 w' (zf Z w [o']) o'):=by
 unfold Rl at aC;refine AS (N:=9) Tryz.func219 rfl rfl (by simp) ?_;intro bQ ha bR;have aS:=sA 0 ha;have aT:=sA 1 ha;clear ha;obtain⟨q,t⟩:∃q,q=[a]:=⟨_,rfl⟩;have aH:Hp d q w [a] w:=by rw[t];exact Hp.start bB
 have aN:∀b,Z b→¬d b∧some b∉q:=by rw[t];exact bC
 have aU:∀w',DM (FU d q) w w'→DM (FU d [a]) w w':=by rw[t];exact fun _ h=>h
 have aD:=aM.mv (C2 (L:=[a]) aN w);have aV:=c.mz s (C2 (L:=[a]) aN w);refine Af<|Ad<|wE (fun st=>Ci (v:=j) (cs:= #[j]) (ee st aT) c.fc) ?_;rintro _ w1 ⟨b1,rfl,l⟩;have f:=aH.nb l;have bL:=aH.Cr l;refine wA (v:=.bool false) rfl<|Ag<|Ab<|Af<|Ad<|wM (v:=.slice m aG.length n) aS<|wD (fun st=>Ix (vs:= #[]) (us:= #[pt b1 0]) Gx (CR (eR st))) ?_;have aO:=f.GU (F':=d) (M:=[some b1]) (C:=[]) [0] [] rfl ⟨rfl,trivial⟩ trivial (fun k hk=>.inl ((fun _ h=>h) k hk));have aW:Cb Tryz.prog (.func (.func 231) #[] #[pt b1 0]) (FU d [some b1]) w1.heap.size (fun(st:aA) aX bM o=>(∀k,o=some k→k<aX.heap.size∧¬(FU d [some b1]) k)∧Bk aX b1 142 #[j]∧aB st aX bM o) (v1 (Ev .i64)) Dg (fun(st:aA) (x:Int)=>(Pq aK aF x st).bind fun r=>some (r.1,r.2)):=by
  refine⟨rfl,rfl,f.QN [0] ⟨rfl,trivial⟩ (fun _ h=>h),?_,?_,?_⟩
  ·intro st x r w1 aY bD o vs hn aZ u s hx bN;obtain⟨g,p,z⟩:=s;obtain⟨_,rfl,rfl⟩:=hx;obtain⟨bO,h1,h2⟩:=bind_some bN;obtain rfl:=Option.some.inj h2;refine(Le AeS rfl (AhA aK x st b1 j o aY bD w1 c (Nat.le_trans bA (Nat.le_trans f.sz hn)) ((aO.grow hn).snoc g) (fun b hb=>Jt (u b (aZ b hb)).1 (u b (aZ b hb)).2) aZ (fun b hb=>Jt (u b hb).1 (u b hb).2) p z bO h1)).mono ?_;rintro v w2 ⟨o',hx,a0,a2,aP,bE⟩;exact⟨o',hx.lf,aP,a0,⟨aO.keep hn g aP,a2,c.mz bE QW⟩⟩
  ·intro st w1 w2 aY bS o s hm hb;obtain⟨g,p,z⟩:=s;exact⟨fun k hk=>⟨Nat.lt_of_lt_of_le (g k hk).1 hm.size,(g k hk).2⟩,p.Pm (hb b1 (.inl (.inr (List.mem_of_getElem? (i:=0) rfl)))),c.S6 _ _ _ _ _ _ z hm (fun b bF=>hb b (bF.imp .inl id))⟩
  ·intro st w1 aY o s k hk;obtain⟨g,p,z⟩:=s;exact g k hk
 have aE:=(aD.mv (AP l));replace aC:=bind_some aC;obtain⟨a3,bG,aC⟩:=aC;have a4:aB aL w1 (ZZ d q Z w.heap.size [some b1,a]) a:=(c.me aV aH l.gr (AP l));refine wE (fun st=>Ar Aa9 (eR st) (Dw (eR st) (eR st)) (Agz aK aG aL m n (.func (.func 231) #[] #[pt b1 0]) a (ZZ d q Z w.heap.size [some b1,a]) _ aW (Nat.le_refl _) (f.GU (F':=(FU d [some b1])) (M:=[a]) (C:=[some b1]) [1] [0] rfl ⟨rfl,trivial⟩ ⟨rfl,trivial⟩ (DS (fun _ h=>h))) (f.zz (F':=(FU d [some b1])) (M:=[a]) (C:=[some b1]) [1] [0] ⟨rfl,trivial⟩ ⟨rfl,trivial⟩ (DS (fun _ h=>h))) aE ⟨(fun k hk=>f.WA 1 (by rw[←hk];rfl) [0] rfl ⟨rfl,trivial⟩),l.bk,a4⟩ a3 bG)) ?_;rintro _ bP ⟨aI,bH,rfl,aJ,bI⟩;obtain⟨-,bJ,a5⟩:=bI;have aQ:=f.KU (DM.cl (M1:=[some b1]) (M2:=[a]) bH) (Cv [0,1] ⟨rfl,rfl,trivial⟩ (fun _ h=>h)) 1 rfl aJ;have a8:aB a3.2 bP (ZZ d q Z w.heap.size [some b1,aI]) aI:=c.mz a5 (f.call (M:=[aI]) (Nat.le_refl _) (Gc ⟨.inr (fun k hk=>(aJ k hk).1.imp (fun e=>by rw[←e];exact List.mem_of_getElem? (i:=1) rfl) id),trivial⟩) (HI (L:=[some b1,a]) (y:=aI) 1 (List.mem_of_getElem? (i:=0) rfl)));refine wD (fun st=>Dz (eR st))<|wA (v:=.bool !a3.1) rfl<|Ag<|Ab<|AI ?_;obtain rfl:=oi aC;refine AJ rfl rfl ?_;exact⟨aI,aU _ aQ.fin,rfl,aQ.GD 1 rfl [] rfl (M:=[]) trivial (by rw[t];intro y bK;simp only[List.mem_cons,List.not_mem_nil,or_false] at bK⊢;rcases bK with h<;>simp[*]),c.mz a8 (CG (DI [1] ⟨rfl,trivial⟩))⟩
theorem AhD aB i p b d j l m n e f(Z:Nat→Prop) w(aC:Sl AM w Z b d i.AF)(aD:Sl (BO (Ay .i64)) w Z j l i.BW)(aE:Sl AQ w Z m n i.Bt)(aF:Sl (Ay .i64) w Z e f p) aO(g:Ni aB i p=some aO):
 Cw Tryz.prog 191 #[.agg (AU b d j l m n i).toArray,.slice e p.length f] w (fun v w'=>Ext w w'∧Dg.R w' (zf Z w []) v aO):=by
 unfold Ni at g;refine AS (N:=15) Tryz.func191 rfl rfl (by simp) ?_;intro a0 ha a2;have aH:=sA 0 ha;have y:=sA 1 ha;clear ha;have aG:Hp FN [] w [] w:=Hp.start (Cc.none w);have ⟨aL,aM,aN,t⟩:=F4 aC aD aE aF (Bh (Z:=Z) (L:=[]) w);refine Af<|Ad<|wE (fun st=>Ci (v:=.agg (AU b d j l m n i).toArray) (cs:=(AU b d j l m n i).toArray) (ee st aH) rfl) ?_;rintro _ w1 ⟨b1,rfl,q⟩;have s:=aG.nb q;have aW:=aG.Cr q;refine wA (v:=.bool false) rfl<|Ag<|Ab<|Af<|Ad<|wM (v:=.slice e p.length f) y<|wD (fun st=>Bu Tryz.underlying31 (eR st))<|wD (fun st=>Ai (eR st) (OQ _ _))<|wD (fun st=>AG (v:=.slice b i.AF.length d) Qb (eR st) q.bk rfl)<|wD (fun st=>Bu Tryz.underlying35 (eR st))<|wD (fun st=>Dj (eR st) (eR st))<|wM (v:=.bool ((p.length:Int)==(i.AF.length:Int))) rfl ?_;rcases Ak ((p.length:Int)==(i.AF.length:Int)) with a|a
 ·replace g:=Az g a;refine An rfl rfl (Ae rfl a) rfl (by decide) (fun st=>Aq (v:=.slice e p.length f) (ee st y)) ?_;have a3:=s.GU (F':=FN) (M:=[]) (C:=[]) [] [] rfl trivial trivial (fun k hk=>.inl (eL k hk));have aI:Cb Tryz.prog (.func (.func 220) #[] #[]) (FU FN []) w1.heap.size (fun(st:Unit) a5 a8 o=>o=none) (v1 (Ev .i64)) Dg (fun(st:Unit) (x:Int)=>(Qu aB x).bind fun r=>some (r,())):=by
   refine⟨rfl,rfl,s.QN [] trivial eL,?_,?_,?_⟩
   ·intro st x r w1 aP aQ o vs hn a9 a4 z hx aX;obtain rfl:=z;obtain⟨_,rfl,rfl⟩:=hx;obtain⟨aY,h1,h2⟩:=bind_some aX;obtain rfl:=Option.some.inj h2;refine(Le AeT rfl (Aht aB x aQ w1 aY h1)).mono ?_;rintro v w2 ⟨hx,aJ⟩;exact⟨none,Ke hx,(fun _ h=>by cases h),aJ,rfl⟩
   ·intro st w1 w2 aP bA o z hm hb;obtain rfl:=z;exact rfl
   ·intro st w1 aP o z k hk;obtain rfl:=z;cases hk
  have aA:=s.nil;have u:=((t.mv (AP q)).mv CA);replace g:=bind_some g;obtain⟨aK,aR,g⟩:=g;refine Di rfl rfl (Ae rfl a) rfl (by decide) (fun st=>Ar AeU (eR st) (Dw (eR st) (eR st)) (AhC aB p () e f (.func (.func 220) #[] #[]) none (ZC (FU FN []) [none]) _ aI (Nat.le_refl _) (aA.GU (F':=(FU FN [])) (M:=[none]) (C:=[]) [0] [] rfl ⟨rfl,trivial⟩ trivial (DS eL)) Lb (u.mv (aA.mz (F':=(FU FN [])) (M:=[none]) (C:=[]) [0] [] ⟨rfl,trivial⟩ trivial (DS eL))) rfl aK aR)) ?_;rintro _ bB ⟨bC,aS,rfl,aZ,aT⟩;obtain rfl:=aT;have aU:=aA.Fa (DM.cl (M1:=[]) (M2:=[none]) aS) (Cv [0] ⟨rfl,trivial⟩ eL);have aV:=aU.erase 0;refine wD (fun st=>AY (v:=.bool aK.1) (eR st) a (eR st))<|wA (v:=.bool aK.1) rfl<|Ag<|Ab<|AI ?_;obtain rfl:=oi g;refine AJ rfl rfl ?_;exact⟨aV.Bc,rfl⟩
 ·replace g:=AA g a;refine Au (c:=false) rfl rfl (Ae rfl a) (by decide) rfl (by decide)<|Au (c:=false) rfl rfl (Ae rfl a) (by decide) rfl (by decide)<|wD (fun st=>BC (v:=.bool false) (eR st) a (eR st))<|wA (v:=.bool false) rfl<|Ag<|Ab<|AI ?_;obtain rfl:=oi g;refine AJ rfl rfl ?_;exact⟨s.Bc,rfl⟩
theorem AhE aI n o d e f g h i j k(Z:Nat→Prop) w(aB:Sl AM w Z d e n.AF)(aC:Sl (BO (Ay .i64)) w Z f g n.BW)(aD:Sl AQ w Z h i n.Bt)(aE:Sl (Ay .i64) w Z j k o) aM(b:MA aI n o=some aM):
 Cw Tryz.prog 163 #[.agg (AU d e f g h i n).toArray,.slice j o.length k] w (fun v w'=>Ext w w'∧Dg.R w' (zf Z w []) v aM):=by
 unfold MA at b;refine AS (N:=13) Tryz.func163 rfl rfl (by simp) ?_;intro aT ha aU;have aJ:=sA 0 ha;have aA:=sA 1 ha;clear ha;have aF:Hp FN [] w [] w:=Hp.start (Cc.none w);have ⟨q,r,s,t⟩:=F4 aB aC aD aE (Bh (Z:=Z) (L:=[]) w);refine Af<|Ad<|wE (fun st=>Ci (v:=.agg (AU d e f g h i n).toArray) (cs:=(AU d e f g h i n).toArray) (ee st aJ) rfl) ?_;rintro _ w1 ⟨b1,rfl,p⟩;have aN:=aF.nb p;have aS:=aF.Cr p;refine wA (v:=.bool false) rfl<|Ag<|Ab<|Af<|Ad<|wD (fun st=>AR (l:=(AU d e f g h i n)) N9 (eR st) p.bk rfl rfl)<|wM (v:=.slice j o.length k) aA ?_;have ⟨u,x,y,m⟩:=F4 q r s t (AP p);replace b:=bind_some b;obtain⟨aK,aO,b⟩:=b;refine wE (fun st=>Ar AeV (eR st) (Dw (eR st) (eR st)) (AhD aI n o d e f g h i j k ZA _ u.all x.all y.all m.all aK aO)) ?_;rintro _ aV ⟨aG,rfl⟩;have aH:=aN.ext aG;refine wM (v:=.bool aK) rfl ?_;rcases Ak (aK) with a|a
 ·replace b:=Az b a;refine An rfl rfl (Ae rfl a) rfl (by decide) (fun st=>Aq (v:=.slice j o.length k) (ee st aA)) ?_;have z:=(m.mv (Ah aG));replace b:=bind_some b;obtain⟨aL,aP,b⟩:=b;refine Di rfl rfl (Ae rfl a) rfl (by decide) (fun st=>Ar Aba (eR st) (CR (eR st)) (Agx aI o j k ZA _ z.all aL aP)) ?_;rintro _ aW ⟨aQ,rfl⟩;have aR:=aH.ext aQ;refine An rfl rfl (Ae rfl a) rfl (by decide) (fun st=>HJ (eR st) (eR st))<|wD (fun st=>AY (v:=.bool (decide ((0:Int)<aL))) (eR st) a (eR st))<|wA (v:=.bool (decide ((0:Int)<aL))) rfl<|Ag<|Ab<|AI ?_;obtain rfl:=oi b;refine AJ rfl rfl ?_;exact⟨aR.Bc,rfl⟩
 ·replace b:=AA b a;refine Au (c:=false) rfl rfl (Ae rfl a) (by decide) rfl (by decide)<|Au (c:=false) rfl rfl (Ae rfl a) (by decide) rfl (by decide)<|Au (c:=false) rfl rfl (Ae rfl a) (by decide) rfl (by decide)<|wD (fun st=>BC (v:=.bool false) (eR st) a (eR st))<|wA (v:=.bool false) rfl<|Ag<|Ab<|AI ?_;obtain rfl:=oi b;refine AJ rfl rfl ?_;exact⟨aH.Bc,rfl⟩
theorem a162 q f b h i j k m n(Z:Nat→Prop) w(x:Sl AM w Z h i f.AF)(y:Sl (BO (Ay .i64)) w Z j k f.BW)(z:Sl AQ w Z m n f.Bt) aT(a:MZ q f b=some aT):
 Cw Tryz.prog 162 #[.agg (AU h i j k m n f).toArray,.agg #[.bool b.C0,I b.Number,I b.Bq,I b.Br]] w (fun v w'=>Ext w w'∧Dg.R w' (zf Z w []) v aT):=by
 unfold MZ at a;refine AS (N:=24) Tryz.func162 rfl rfl (by simp) ?_;intro a3 ha a4;have aI:=sA 0 ha;have aJ:=sA 1 ha;clear ha;have aC:Hp FN [] w [] w:=Hp.start (Cc.none w);have ⟨aQ,aR,aS⟩:=EW x y z (Bh (Z:=Z) (L:=[]) w);refine Af<|Ad<|wE (fun st=>Ci (v:=.agg (AU h i j k m n f).toArray) (cs:=(AU h i j k m n f).toArray) (ee st aI) rfl) ?_;rintro _ w1 ⟨b1,rfl,r⟩;have aD:=aC.nb r;have a0:=aC.Cr r;refine wE (fun st=>Ci (v:=.agg #[.bool b.C0,I b.Number,I b.Bq,I b.Br]) (cs:= #[.bool b.C0,I b.Number,I b.Bq,I b.Br]) (ee st aJ) rfl) ?_;rintro _ w2 ⟨b2,rfl,g⟩;have aE:=aD.nb g;have a2:=aD.Cr g;refine wA (v:=.bool false) rfl<|Ag<|Ab<|Af<|Ad<|wD (fun st=>Ai (eR st) (OQ _ _)) ?_;have p:=(r.bk.ext g.gr);refine wD (fun st=>AG (v:=.slice h f.AF.length i) Qb (eR st) p rfl)<|wD (fun st=>Bu Tryz.underlying35 (eR st))<|wA (v:=I (f.AF.length:Int)) rfl<|Ag<|Ab<|Af<|Af<|Ad<|wD (fun st=>Ai (eR st) (Z9 _ _))<|wD (fun st=>AG (v:=.bool b.C0) OP (eR st) g.bk rfl)<|Ag<|Ab ?_;rcases Ak (b.C0) with o|o
 ·replace a:=Az a o;refine AD rfl o<|Ad<|wD (fun st=>Ai (eR st) (PH _ _))<|wD (fun st=>AG (v:=.slice j f.BW.length k) El (eR st) p rfl)<|wD (fun st=>Bu Tryz.underlying23 (eR st))<|wA (v:=I (f.BW.length:Int)) rfl<|Ag<|Ab<|Af<|Ad<|wD (fun st=>Ai (eR st) (UJ _ _))<|wD (fun st=>AG (v:=I b.Number) Bz (eR st) g.bk rfl)<|wM (v:=I (f.BW.length:Int)) rfl ?_;replace a:=AK a;obtain⟨aU,a⟩:=a;refine wD (fun st=>Ex (eR st) (eR st) aU) ?_;replace a:=bind_some a;obtain⟨aK,aV,a⟩:=a;refine wE (fun st=>Ar VW (eR st) (EN (eR st) (eR st) (eR st)) (AbR q b.Number 0 ((f.BW.length:Int)-1) ZA _ aK aV)) ?_;rintro _ a9 ⟨aF,rfl⟩;have aG:=aE.ext aF;refine wM (v:=.bool aK) rfl ?_;rcases Ak (aK) with e|e
  ·replace a:=Az a e;refine An rfl rfl (Ae rfl e) rfl (by decide) (fun st=>Ai (eR st) (WI _ _)) ?_;have aA:=(g.bk.ext aF);refine An rfl rfl (Ae rfl e) rfl (by decide) (fun st=>AR (l:=[I b.Bq,I b.Br]) PG (eR st) aA rfl rfl) ?_;replace a:=bind_some a;obtain⟨aL,aW,a⟩:=a;refine Di rfl rfl (Ae rfl e) rfl (by decide) (fun st=>Ar Yl (eR st) (CR (eR st)) (AdC q (⟨b.Bq,b.Br⟩:AN) ZA _ aL aW)) ?_;rintro _ bA ⟨aX,rfl⟩;have aY:=aG.ext aX;refine wD (fun st=>AY (v:=.bool aL) (eR st) e (eR st))<|wA (v:=.bool aL) rfl<|Ag<|Ab<|AI ?_;obtain rfl:=oi a;refine AJ rfl rfl ?_;exact⟨aY.Bc,rfl⟩
  ·replace a:=AA a e;refine Au (c:=false) rfl rfl (Ae rfl e) (by decide) rfl (by decide)<|Au (c:=false) rfl rfl (Ae rfl e) (by decide) rfl (by decide)<|Au (c:=false) rfl rfl (Ae rfl e) (by decide) rfl (by decide)<|wD (fun st=>BC (v:=.bool false) (eR st) e (eR st))<|wA (v:=.bool false) rfl<|Ag<|Ab<|AI ?_;obtain rfl:=oi a;refine AJ rfl rfl ?_;exact⟨aG.Bc,rfl⟩
 ·replace a:=AA a o;refine AE rfl o<|AL<|Ab<|Af<|Ad<|wD (fun st=>Ai (eR st) (UJ _ _))<|wD (fun st=>AG (v:=I b.Number) Bz (eR st) g.bk rfl)<|wM (v:=I (f.AF.length:Int)) rfl ?_;replace a:=AK a;obtain⟨aM,a⟩:=a;refine wD (fun st=>Ex (eR st) (eR st) aM) ?_;replace a:=bind_some a;obtain⟨s,aN,a⟩:=a;refine wE (fun st=>Ar VW (eR st) (EN (eR st) (eR st) (eR st)) (AbR q b.Number 0 ((f.AF.length:Int)-1) ZA _ s aN)) ?_;rintro _ a5 ⟨t,rfl⟩;have aH:=aE.ext t;refine wM (v:=.bool s) rfl ?_;rcases Ak (s) with d|d
  ·replace a:=Az a d;refine An rfl rfl (Ae rfl d) rfl (by decide) (fun st=>Ai (eR st) (WI _ _)) ?_;have aB:=(g.bk.ext t);refine An rfl rfl (Ae rfl d) rfl (by decide) (fun st=>AR (l:=[I b.Bq,I b.Br]) PG (eR st) aB rfl rfl) ?_;replace a:=bind_some a;obtain⟨u,aO,a⟩:=a;refine Di rfl rfl (Ae rfl d) rfl (by decide) (fun st=>Ar Yl (eR st) (CR (eR st)) (AdC q (⟨b.Bq,b.Br⟩:AN) ZA _ u aO)) ?_;rintro _ a8 ⟨aP,rfl⟩;have aZ:=aH.ext aP;refine wD (fun st=>AY (v:=.bool u) (eR st) d (eR st))<|wA (v:=.bool u) rfl<|Ag<|Ab<|AI ?_;obtain rfl:=oi a;refine AJ rfl rfl ?_;exact⟨aZ.Bc,rfl⟩
  ·replace a:=AA a d;refine Au (c:=false) rfl rfl (Ae rfl d) (by decide) rfl (by decide)<|Au (c:=false) rfl rfl (Ae rfl d) (by decide) rfl (by decide)<|Au (c:=false) rfl rfl (Ae rfl d) (by decide) rfl (by decide)<|wD (fun st=>BC (v:=.bool false) (eR st) d (eR st))<|wA (v:=.bool false) rfl<|Ag<|Ab<|AI ?_;obtain rfl:=oi a;refine AJ rfl rfl ?_;exact⟨aH.Bc,rfl⟩
set_option maxHeartbeats 4000000 in
theorem a127 aH f b d g i j m(Z:Nat→Prop) w(cF:Sl AM w Z b d f.AF)(cG:Sl (BO (Ay .i64)) w Z g i f.BW)(cH:Sl AQ w Z j m f.Bt) dT(a:KB aH f=some dT):
 Cw Tryz.prog 127 #[.agg (AU b d g i j m f).toArray] w (fun v w'=>Ext w w'∧(Ev .i64).R w' (zf Z w []) v dT):=by
 unfold KB at a;refine AS (N:=70) Tryz.func127 rfl rfl (by simp) ?_;intro eG ha eH;have cV:=sA 0 ha;clear ha;have cN:Hp FN [] w [] w:=Hp.start (Cc.none w);have ⟨bU,bV,bW⟩:=EW cF cG cH (Bh (Z:=Z) (L:=[]) w);refine Af<|Ad<|wE (fun st=>Ci (v:=.agg (AU b d g i j m f).toArray) (cs:=(AU b d g i j m f).toArray) (ee st cV) rfl) ?_;rintro _ w1 ⟨b1,rfl,aO⟩;have dU:=cN.nb aO;have d5:=cN.Cr aO;refine wA (v:=I 0) rfl<|Ag<|Ab<|Af ?_;refine B9 5 [Kc (.agg (AU b d g i j m f).toArray),Kc (.func (.func 162) #[.agg (AU b d g i j m f).toArray] #[]),Kc (.agg (AU b d g i j m f).toArray),Kc (.func (.func 163) #[.agg (AU b d g i j m f).toArray] #[]),Kc (.func (.func 162) #[.agg (AU b d g i j m f).toArray] #[])] mixed rfl rfl
     (Aa (oD (fun K=>AR (l:=(AU b d g i j m f)) N9 (es ((K.out 1 rfl).trans rfl)) (aO.bk.ext K.AO) rfl rfl))
     (Aa (oD (fun K=>Ix (vs:= #[.agg (AU b d g i j m f).toArray]) (us:= #[]) (CR (es (K.dq 0 8))) Gx))
     (Aa (oD (fun K=>AR (l:=(AU b d g i j m f)) N9 (es ((K.out 1 rfl).trans rfl)) (aO.bk.ext K.AO) rfl rfl))
     (Aa (oD (fun K=>Ix (vs:= #[.agg (AU b d g i j m f).toArray]) (us:= #[]) (CR (es (K.dq 2 10))) Gx))
     (Aa (oD (fun K=>LU (es (K.dq 1 9))))
     (B8 _)))))) ?_
 intro w2;rintro _ rfl _ rfl _ rfl _ rfl _ rfl bC;have aR:=dU.ext bC;refine wA (v:=.func (.func 163) #[.agg (AU b d g i j m f).toArray] #[]) rfl<|Ag<|Ab<|Af<|AT<|Af<|Ad<|wD (fun st=>Ai (eR st) (OQ _ _)) ?_;have aE:=(aO.bk.ext bC);refine wD (fun st=>AG (v:=.slice b f.AF.length d) Qb (eR st) aE rfl)<|wD (fun st=>Bu Tryz.underlying35 (eR st))<|wD (fun st=>HJ (eR st) (eR st))<|wM (v:=.bool (decide ((3:Int)<(f.AF.length:Int)))) rfl ?_;rcases Ak (decide ((3:Int)<(f.AF.length:Int))) with z|z
 ·replace a:=Az a z;refine Au (c:=true) rfl rfl (Ae rfl z) (by decide) rfl (by decide)<|Au (c:=true) rfl rfl (Ae rfl z) (by decide) rfl (by decide)<|Au (c:=true) rfl rfl (Ae rfl z) (by decide) rfl (by decide)<|Au (c:=true) rfl rfl (Ae rfl z) (by decide) rfl (by decide)<|wD (fun st=>AY (v:=.bool true) (eR st) z (eR st))<|wM (v:=.bool true) rfl<|Au rfl rfl rfl (by decide) rfl (by decide)<|Au rfl rfl rfl (by decide) rfl (by decide)<|Au rfl rfl rfl (by decide) rfl (by decide)<|Au rfl rfl rfl (by decide) rfl (by decide)<|wD (fun st=>AY (v:=.bool true) (eR st) rfl (eR st))<|wA (v:=.bool true) rfl<|Ag<|Ab<|AD rfl rfl<|Af<|Ad<|wA (v:=I 3) rfl<|Ag<|Ab<|AI<|Bi<|Ax ?_;obtain rfl:=oi a;refine AJ rfl rfl ?_;exact⟨aR.Bc,rfl⟩
 ·replace a:=AA a z;refine An rfl rfl (Ae rfl z) rfl (by decide) (fun st=>Ai (eR st) (PH _ _))<|An rfl rfl (Ae rfl z) rfl (by decide) (fun st=>AG (v:=.slice g f.BW.length i) El (eR st) aE rfl)<|An rfl rfl (Ae rfl z) rfl (by decide) (fun st=>Bu Tryz.underlying23 (eR st))<|An rfl rfl (Ae rfl z) rfl (by decide) (fun st=>HJ (eR st) (eR st))<|wD (fun st=>BC (v:=.bool (decide ((3:Int)<(f.BW.length:Int)))) (eR st) z (eR st))<|wM (v:=.bool (decide ((3:Int)<(f.BW.length:Int)))) rfl ?_;rcases Ak (decide ((3:Int)<(f.BW.length:Int))) with aA|aA
  ·replace a:=Az a aA;refine Au (c:=true) rfl rfl (Ae rfl aA) (by decide) rfl (by decide)<|Au (c:=true) rfl rfl (Ae rfl aA) (by decide) rfl (by decide)<|Au (c:=true) rfl rfl (Ae rfl aA) (by decide) rfl (by decide)<|Au (c:=true) rfl rfl (Ae rfl aA) (by decide) rfl (by decide)<|wD (fun st=>AY (v:=.bool true) (eR st) aA (eR st))<|wA (v:=.bool true) rfl<|Ag<|Ab<|AD rfl rfl<|Af<|Ad<|wA (v:=I 3) rfl<|Ag<|Ab<|AI<|Bi<|Ax ?_;obtain rfl:=oi a;refine AJ rfl rfl ?_;exact⟨aR.Bc,rfl⟩
  ·replace a:=AA a aA;refine An rfl rfl (Ae rfl aA) rfl (by decide) (fun st=>Ai (eR st) (Uf _ _))<|An rfl rfl (Ae rfl aA) rfl (by decide) (fun st=>AG (v:=.slice j f.Bt.length m) Xx (eR st) aE rfl)<|An rfl rfl (Ae rfl aA) rfl (by decide) (fun st=>Bu Tryz.underlying36 (eR st))<|An rfl rfl (Ae rfl aA) rfl (by decide) (fun st=>HJ (eR st) (eR st))<|wD (fun st=>BC (v:=.bool (decide ((5:Int)<(f.Bt.length:Int)))) (eR st) aA (eR st))<|wA (v:=.bool (decide ((5:Int)<(f.Bt.length:Int)))) rfl<|Ag<|Ab ?_;rcases Ak (decide ((5:Int)<(f.Bt.length:Int))) with bD|bD
   ·replace a:=Az a bD;refine AD rfl bD<|Af<|Ad<|wA (v:=I 3) rfl<|Ag<|Ab<|AI<|Bi<|Ax ?_;obtain rfl:=oi a;refine AJ rfl rfl ?_;exact⟨aR.Bc,rfl⟩
   ·replace a:=AA a bD;refine AE rfl bD<|Af<|Ad<|wD (fun st=>Ai (eR st) (OQ _ _))<|wD (fun st=>AG (v:=.slice b f.AF.length d) Qb (eR st) aE rfl)<|wD (fun st=>Bu Tryz.underlying35 (eR st))<|wD (fun st=>Dj (eR st) (eR st))<|wM (v:=.bool ((f.AF.length:Int)==0)) rfl ?_;rcases Ak ((f.AF.length:Int)==0) with aB|aB
    ·replace a:=Az a aB;refine Au (c:=true) rfl rfl (Ae rfl aB) (by decide) rfl (by decide)<|Au (c:=true) rfl rfl (Ae rfl aB) (by decide) rfl (by decide)<|Au (c:=true) rfl rfl (Ae rfl aB) (by decide) rfl (by decide)<|Au (c:=true) rfl rfl (Ae rfl aB) (by decide) rfl (by decide)<|wD (fun st=>AY (v:=.bool true) (eR st) aB (eR st))<|wM (v:=.bool true) rfl<|Au rfl rfl rfl (by decide) rfl (by decide)<|Au rfl rfl rfl (by decide) rfl (by decide)<|Au rfl rfl rfl (by decide) rfl (by decide)<|Au rfl rfl rfl (by decide) rfl (by decide)<|Au rfl rfl rfl (by decide) rfl (by decide)<|wD (fun st=>AY (v:=.bool true) (eR st) rfl (eR st))<|wM (v:=.bool true) rfl<|Au rfl rfl rfl (by decide) rfl (by decide)<|Au rfl rfl rfl (by decide) rfl (by decide)<|Au rfl rfl rfl (by decide) rfl (by decide)<|Au rfl rfl rfl (by decide) rfl (by decide)<|Au rfl rfl rfl (by decide) rfl (by decide)<|wD (fun st=>AY (v:=.bool true) (eR st) rfl (eR st))<|wA (v:=.bool true) rfl<|Ag<|Ab<|AD rfl rfl<|Af<|Ad<|wA (v:=I 1) rfl<|Ag<|Ab<|AI<|Bi<|Ax ?_;obtain rfl:=oi a;refine AJ rfl rfl ?_;exact⟨aR.Bc,rfl⟩
    ·replace a:=AA a aB;refine An rfl rfl (Ae rfl aB) rfl (by decide) (fun st=>Ai (eR st) (OQ _ _))<|An rfl rfl (Ae rfl aB) rfl (by decide) (fun st=>AG (v:=.slice b f.AF.length d) Qb (eR st) aE rfl) ?_;have eI:=aR.GU (F':=FN) (M:=[]) (C:=[]) [] [] rfl trivial trivial (fun k hk=>.inl (eL k hk));have cW:Cb Tryz.prog (.func (.func 165) #[] #[]) (FU FN []) w2.heap.size (fun(st:Unit) aK bE o=>o=none) (v1 (Hd AM)) Dg (fun(st:Unit) (x:AN)=>(LW aH x).bind fun r=>some (r,())):=by
      refine⟨rfl,rfl,aR.QN [] trivial eL,?_,?_,?_⟩
      ·intro st x r w1 bF bG o vs hn bH cO aD hx b4;obtain rfl:=aD;obtain⟨_,rfl,⟨_,rfl,rfl⟩⟩:=hx;obtain⟨b5,h1,h2⟩:=bind_some b4;obtain rfl:=Option.some.inj h2;refine(Le Yl rfl (AdC aH x bG w1 b5 h1)).mono ?_;rintro v w2 ⟨hx,aS⟩;exact⟨none,Ke hx,(fun _ h=>by cases h),aS,rfl⟩
      ·intro st w1 w2 bF dV o aD hm hb;obtain rfl:=aD;exact rfl
      ·intro st w1 bF o aD k hk;obtain rfl:=aD;cases hk
     have aT:=aR.nil;have aW:=(((bU.mv (AP aO)).mv (Ah bC)).mv CA);replace a:=bind_some a;obtain⟨bX,dW,a⟩:=a;refine Di rfl rfl (Ae rfl aB) rfl (by decide) (fun st=>Ar AeW (eR st) (Dw (eR st) (eR st)) (a164 aH f.AF () b d (.func (.func 165) #[] #[]) none (ZC (FU FN []) [none]) _ cW (Nat.le_refl _) (aT.GU (F':=(FU FN [])) (M:=[none]) (C:=[]) [0] [] rfl ⟨rfl,trivial⟩ trivial (DS eL)) Lb (aW.mv (aT.mz (F':=(FU FN [])) (M:=[none]) (C:=[]) [0] [] ⟨rfl,trivial⟩ trivial (DS eL))) rfl bX dW)) ?_;rintro _ d9 ⟨eW,bI,rfl,eA,dX⟩;obtain rfl:=dX;have dY:=aT.Fa (DM.cl (M1:=[]) (M2:=[none]) bI) (Cv [0] ⟨rfl,trivial⟩ eL);have bP:=dY.erase 0;refine An rfl rfl (Ae rfl aB) rfl (by decide) (fun st=>Dz (eR st))<|wD (fun st=>BC (v:=.bool !bX.1) (eR st) aB (eR st))<|wM (v:=.bool !bX.1) rfl ?_;rcases Ak (!bX.1) with p|p
     ·replace a:=Az a p;have dN:bX.1=false:=by simpa using p
      refine Au (c:=true) rfl rfl (Ae rfl p) (by decide) rfl (by decide)<|Au (c:=true) rfl rfl (Ae rfl p) (by decide) rfl (by decide)<|Au (c:=true) rfl rfl (Ae rfl p) (by decide) rfl (by decide)<|Au (c:=true) rfl rfl (Ae rfl p) (by decide) rfl (by decide)<|Au (c:=true) rfl rfl (Ae rfl p) (by decide) rfl (by decide)<|wD (fun st=>AY (v:=.bool true) (eR st) p (eR st))<|wM (v:=.bool true) rfl<|Au rfl rfl rfl (by decide) rfl (by decide)<|Au rfl rfl rfl (by decide) rfl (by decide)<|Au rfl rfl rfl (by decide) rfl (by decide)<|Au rfl rfl rfl (by decide) rfl (by decide)<|Au rfl rfl rfl (by decide) rfl (by decide)<|wD (fun st=>AY (v:=.bool true) (eR st) rfl (eR st))<|wA (v:=.bool true) rfl<|Ag<|Ab<|AD rfl rfl<|Af<|Ad<|wA (v:=I 1) rfl<|Ag<|Ab<|AI<|Bi<|Ax ?_;obtain rfl:=oi a;refine AJ rfl rfl ?_;exact⟨bP.Bc,rfl⟩
     ·replace a:=AA a p;have dO:bX.1=true:=by simpa using p
      refine An rfl rfl (Ae rfl p) rfl (by decide) (fun st=>Ai (eR st) (PH _ _)) ?_;have bQ:=(aE.Fa (DM.cl (M1:=[]) (M2:=[none]) bI) (aT.FZ 1 rfl [0] rfl ⟨rfl,trivial⟩ eL));refine An rfl rfl (Ae rfl p) rfl (by decide) (fun st=>AG (v:=.slice g f.BW.length i) El (eR st) bQ rfl)<|An rfl rfl (Ae rfl p) rfl (by decide) (fun st=>Aq (v:=.func (.func 163) #[.agg (AU b d g i j m f).toArray] #[]) (eR st)) ?_;have eB:=bP.GU (F':=FN) (M:=[]) (C:=[]) [] [] rfl trivial trivial (fun k hk=>.inl (eL k hk));have cI:Cb Tryz.prog (.func (.func 163) #[.agg (AU b d g i j m f).toArray] #[]) (FU FN []) d9.heap.size (fun(st:Unit) aK bE o=>o=none∧Sl AM aK bE b d f.AF∧Sl (BO (Ay .i64)) aK bE g i f.BW∧Sl AQ aK bE j m f.Bt) (v1 (Gp (Ay .i64))) Dg (fun(st:Unit) (x:(List Int))=>(MA aH f x).bind fun r=>some (r,())):=by
       refine⟨rfl,rfl,bP.QN [] trivial eL,?_,?_,?_⟩
       ·intro st x r w1 bF bG o vs hn bH cO aD hx b4;obtain⟨rfl,q,s,t⟩:=aD;obtain⟨_,rfl,⟨cX,cY,rfl,cJ⟩⟩:=hx;obtain⟨b5,h1,h2⟩:=bind_some b4;obtain rfl:=Option.some.inj h2;refine(Le AeX rfl (AhE aH f x b d g i j m cX cY bG w1 (q.mv (Kq bH)) (s.mv (Kq bH)) (t.mv (Kq bH)) cJ b5 h1)).mono ?_;rintro v w2 ⟨hx,aS⟩;exact⟨none,Ke hx,(fun _ h=>by cases h),aS,⟨rfl,(q.mv (HH (Ah hx))),(s.mv (HH (Ah hx))),(t.mv (HH (Ah hx)))⟩⟩
       ·intro st w1 w2 bF dV o aD hm hb;obtain⟨rfl,q,s,t⟩:=aD;exact⟨rfl,q.mv hm,s.mv hm,t.mv hm⟩
       ·intro st w1 bF o aD k hk;obtain⟨rfl,q,s,t⟩:=aD;cases hk
      have aI:=bP.nil;have aL:=((((((bV.mv (AP aO)).mv (Ah bC)).mv CA).mv (aT.If (DM.cl (M1:=[]) (M2:=[none]) bI) (Cv [0] ⟨rfl,trivial⟩ eL))).mv (Bp 0)).mv CA);replace a:=bind_some a;obtain⟨aX,cZ,a⟩:=a;have aY:=(((aW.mv (aT.If (DM.cl (M1:=[]) (M2:=[none]) bI) (Cv [0] ⟨rfl,trivial⟩ eL))).mv (Bp 0)).mv CA);have aZ:=((((((bW.mv (AP aO)).mv (Ah bC)).mv CA).mv (aT.If (DM.cl (M1:=[]) (M2:=[none]) bI) (Cv [0] ⟨rfl,trivial⟩ eL))).mv (Bp 0)).mv CA);refine Di rfl rfl (Ae rfl p) rfl (by decide) (fun st=>Ar AeY (eR st) (Dw (eR st) (eR st)) (Ahx aH f.BW () g i (.func (.func 163) #[.agg (AU b d g i j m f).toArray] #[]) none (ZC (FU FN []) [none]) _ cI (Nat.le_refl _) (aI.GU (F':=(FU FN [])) (M:=[none]) (C:=[]) [0] [] rfl ⟨rfl,trivial⟩ trivial (DS eL)) Lb (aL.mv (aI.mz (F':=(FU FN [])) (M:=[none]) (C:=[]) [0] [] ⟨rfl,trivial⟩ trivial (DS eL))) ⟨rfl,(aY.mv (aI.mz (F':=(FU FN [])) (M:=[none]) (C:=[]) [0] [] ⟨rfl,trivial⟩ trivial (DS eL))),(aL.mv (aI.mz (F':=(FU FN [])) (M:=[none]) (C:=[]) [0] [] ⟨rfl,trivial⟩ trivial (DS eL))),(aZ.mv (aI.mz (F':=(FU FN [])) (M:=[none]) (C:=[]) [0] [] ⟨rfl,trivial⟩ trivial (DS eL)))⟩ aX cZ)) ?_;rintro _ dZ ⟨eJ,a9,rfl,d6,c0⟩;obtain⟨rfl,cP,cQ,cR⟩:=c0;have d0:=aI.Fa (DM.cl (M1:=[]) (M2:=[none]) a9) (Cv [0] ⟨rfl,trivial⟩ eL);have bR:=d0.erase 0;refine An rfl rfl (Ae rfl p) rfl (by decide) (fun st=>Dz (eR st))<|wD (fun st=>BC (v:=.bool !aX.1) (eR st) p (eR st))<|wM (v:=.bool !aX.1) rfl ?_;rcases Ak (!aX.1) with u|u
      ·replace a:=Az a u;have dP:aX.1=false:=by simpa using u
       refine Au (c:=true) rfl rfl (Ae rfl u) (by decide) rfl (by decide)<|Au (c:=true) rfl rfl (Ae rfl u) (by decide) rfl (by decide)<|Au (c:=true) rfl rfl (Ae rfl u) (by decide) rfl (by decide)<|Au (c:=true) rfl rfl (Ae rfl u) (by decide) rfl (by decide)<|Au (c:=true) rfl rfl (Ae rfl u) (by decide) rfl (by decide)<|wD (fun st=>AY (v:=.bool true) (eR st) u (eR st))<|wA (v:=.bool true) rfl<|Ag<|Ab<|AD rfl rfl<|Af<|Ad<|wA (v:=I 1) rfl<|Ag<|Ab<|AI<|Bi<|Ax ?_;obtain rfl:=oi a;refine AJ rfl rfl ?_;exact⟨bR.Bc,rfl⟩
      ·replace a:=AA a u;have dQ:aX.1=true:=by simpa using u
       refine An rfl rfl (Ae rfl u) rfl (by decide) (fun st=>Ai (eR st) (Uf _ _)) ?_;have bS:=(bQ.Fa (DM.cl (M1:=[]) (M2:=[none]) a9) (aI.FZ 1 rfl [0] rfl ⟨rfl,trivial⟩ eL));refine An rfl rfl (Ae rfl u) rfl (by decide) (fun st=>AG (v:=.slice j f.Bt.length m) Xx (eR st) bS rfl)<|An rfl rfl (Ae rfl u) rfl (by decide) (fun st=>Aq (v:=.func (.func 162) #[.agg (AU b d g i j m f).toArray] #[]) (eR st)) ?_;have eC:=bR.GU (F':=FN) (M:=[]) (C:=[]) [] [] rfl trivial trivial (fun k hk=>.inl (eL k hk));have cK:Cb Tryz.prog (.func (.func 162) #[.agg (AU b d g i j m f).toArray] #[]) (FU FN []) dZ.heap.size (fun(st:Unit) aK bE o=>o=none∧Sl AM aK bE b d f.AF∧Sl (BO (Ay .i64)) aK bE g i f.BW∧Sl AQ aK bE j m f.Bt) (v1 (Hd AQ)) Dg (fun(st:Unit) (x:FD)=>(MZ aH f x).bind fun r=>some (r,())):=by
        refine⟨rfl,rfl,bR.QN [] trivial eL,?_,?_,?_⟩
        ·intro st x r w1 bF bG o vs hn bH cO aD hx b4;obtain⟨rfl,q,s,t⟩:=aD;obtain⟨_,rfl,⟨_,rfl,rfl⟩⟩:=hx;obtain⟨b5,h1,h2⟩:=bind_some b4;obtain rfl:=Option.some.inj h2;refine(Le AeZ rfl (a162 aH f x b d g i j m bG w1 (q.mv (Kq bH)) (s.mv (Kq bH)) (t.mv (Kq bH)) b5 h1)).mono ?_;rintro v w2 ⟨hx,aS⟩;exact⟨none,Ke hx,(fun _ h=>by cases h),aS,⟨rfl,(q.mv (HH (Ah hx))),(s.mv (HH (Ah hx))),(t.mv (HH (Ah hx)))⟩⟩
        ·intro st w1 w2 bF dV o aD hm hb;obtain⟨rfl,q,s,t⟩:=aD;exact⟨rfl,q.mv hm,s.mv hm,t.mv hm⟩
        ·intro st w1 bF o aD k hk;obtain⟨rfl,q,s,t⟩:=aD;cases hk
       have aP:=bR.nil;have a0:=(((aZ.mv (aI.If (DM.cl (M1:=[]) (M2:=[none]) a9) (Cv [0] ⟨rfl,trivial⟩ eL))).mv (Bp 0)).mv CA);replace a:=bind_some a;obtain⟨a2,c1,a⟩:=a;have ⟨a3,bY⟩:=LI aY aL (mt (aI.If (DM.cl (M1:=[]) (M2:=[none]) a9) (Cv [0] ⟨rfl,trivial⟩ eL)) (mt (Bp 0) CA));refine Di rfl rfl (Ae rfl u) rfl (by decide) (fun st=>Ar Ae0 (eR st) (Dw (eR st) (eR st)) (a167 aH f.Bt () j m (.func (.func 162) #[.agg (AU b d g i j m f).toArray] #[]) none (ZC (FU FN []) [none]) _ cK (Nat.le_refl _) (aP.GU (F':=(FU FN [])) (M:=[none]) (C:=[]) [0] [] rfl ⟨rfl,trivial⟩ trivial (DS eL)) Lb (a0.mv (aP.mz (F':=(FU FN [])) (M:=[none]) (C:=[]) [0] [] ⟨rfl,trivial⟩ trivial (DS eL))) ⟨rfl,(a3.mv (aP.mz (F':=(FU FN [])) (M:=[none]) (C:=[]) [0] [] ⟨rfl,trivial⟩ trivial (DS eL))),(bY.mv (aP.mz (F':=(FU FN [])) (M:=[none]) (C:=[]) [0] [] ⟨rfl,trivial⟩ trivial (DS eL))),(a0.mv (aP.mz (F':=(FU FN [])) (M:=[none]) (C:=[]) [0] [] ⟨rfl,trivial⟩ trivial (DS eL)))⟩ a2 c1)) ?_;rintro _ eK ⟨eM,bK,rfl,d7,c2⟩;obtain⟨rfl,cS,cT,cU⟩:=c2;have c3:=aP.Fa (DM.cl (M1:=[]) (M2:=[none]) bK) (Cv [0] ⟨rfl,trivial⟩ eL);have b6:=c3.erase 0;refine An rfl rfl (Ae rfl u) rfl (by decide) (fun st=>Dz (eR st))<|wD (fun st=>BC (v:=.bool !a2.1) (eR st) u (eR st))<|wA (v:=.bool !a2.1) rfl<|Ag<|Ab ?_;rcases Ak (!a2.1) with aG|aG
       ·replace a:=Az a aG;have dR:a2.1=false:=by simpa using aG
        refine AD rfl aG<|Af<|Ad<|wA (v:=I 1) rfl<|Ag<|Ab<|AI<|Bi<|Ax ?_;obtain rfl:=oi a;refine AJ rfl rfl ?_;exact⟨b6.Bc,rfl⟩
       ·replace a:=AA a aG;have dS:a2.1=true:=by simpa using aG
        refine AE rfl aG<|AL<|Bs<|Ab<|Af<|Ad<|wA (v:=I 1) rfl<|Ag<|Ab<|Af<|Af<|Ad<|wD (fun st=>Ai (eR st) (OQ _ _)) ?_;have b7:=(bS.Fa (DM.cl (M1:=[]) (M2:=[none]) bK) (aP.FZ 1 rfl [0] rfl ⟨rfl,trivial⟩ eL));refine wD (fun st=>AG (v:=.slice b f.AF.length d) Qb (eR st) b7 rfl)<|wD (fun st=>Bu Tryz.underlying35 (eR st))<|wM (v:=I 0) rfl<|Ag<|Ab<|AT ?_;replace a:=bind_some a;obtain⟨z25,aM,a⟩:=a;refine Cm (fun d1 aF aK=>(d1=.exit 1∧aF.tmps.size=70∧aF.defers=(X0).ds∧sl aF 5=I z25∧Hp FN [] w [some b1] aK)) ?c4 ?c5
        case c4=>
         clear a;refine Cl (fun(c6:Nat) (aF:Act) (aK:World)=>∃y,∃aC,H6 aH f c6 y aC=some z25∧aF.tmps.size=70∧aF.defers=(X0).ds∧sl aF 5=I y∧sl aF 55=.slice b f.AF.length d∧sl aF 56=I (f.AF.length:Int)∧sl aF 57=I aC∧Hp FN [] w [some b1] aK∧Sl AM aK (zf Z w [some b1]) b d f.AF) aH ?c7 ?c8
         case c7=>
          intro st;have bL:=((a3.mv (aP.If (DM.cl (M1:=[]) (M2:=[none]) bK) (Cv [0] ⟨rfl,trivial⟩ eL))).mv (Bp 0));exact⟨(1:Int),(0:Int),aM,qz st,qd st,sp st 5 rfl,sp st 55 rfl,sp st 56 rfl,sp st 57 rfl,b6,bL⟩
         case c8=>
          rintro(_|c6) eD eE ⟨y,aC,aM,cL,cM,bJ,a4,a5,aN,bM,aQ⟩
          ·exact absurd (show none=some _ from aM) (by simp)
          rw[H6.eq_2] at aM;have a:=aM;clear aM;refine B7 (N:=70) cL cM<|Af<|Ad<|wD (fun st=>CO (ee st aN) (ee st a5))<|Ag<|Ab<|Af ?_;rcases Ak (decide (aC<(f.AF.length:Int))) with aU|aU
          ·replace a:=Az a aU;refine AD rfl aU<|AL<|Ab<|Af<|AT<|Af<|Ad ?_;replace a:=AW a;obtain⟨i27,aJ,c9,dA,dB,a⟩:=a;obtain⟨eN,eO,_,dC,rfl,dD⟩:=Sl.elem aQ (by decide) dA;refine wD (fun st=>BR (k:=i27) Tryz.underlying35 SQ (ee st a4) dC (ee st aN) c9 dB)<|wD (fun st=>Ew (l:=[I aJ.Lo,I aJ.Hi]) PG (eR st) dD rfl rfl)<|wE (fun st=>DH (cs:= #[I 0,I 0]) UK rfl) ?_;rintro _ eP ⟨eQ,rfl,bA⟩;have b8:=bM.nb bA;have d2:=bM.Cr bA;refine Dk rfl rfl (fun st=>CS (n:=2) (l:=[I aJ.Lo,I aJ.Hi]) (EZ:= #[I aJ.Lo,I aJ.Hi]) (eR st) (eR st) SQ bA.bk rfl rfl (show 0+2≤2 by decide) (Cg rfl) rfl) ?_;rintro _ eS bN;have dE:=b8.gr bN.gr 0 rfl;refine Ag<|Ab<|Ad<|wM (v:=I y) bJ<|wD (fun st=>AR (l:=[I aJ.Lo,I aJ.Hi]) PG (eR st) bN.bk rfl rfl) ?_;replace a:=bind_some a;obtain⟨a8,dF,a⟩:=a;refine wE (fun st=>Ar Ae1 (eR st) (CR (eR st)) (Ahs aH aJ ZA _ a8 dF)) ?_;rintro _ eT ⟨b9,rfl⟩;have cA:=dE.ext b9;replace a:=AK a;obtain⟨dG,a⟩:=a;refine wD (fun st=>KY (eR st) (eR st) dG)<|wE (fun st=>De (e:=3) (vs:= #[(0,I (y*a8)),(1,I 2001)]) (cs:= #[I (y*a8),I 2001]) (NF (eR st) (eR st)) (by kernel_rfl)) ?_;rintro _ eU ⟨d3,rfl,bB⟩;have dH:=cA.nb bB;have d4:=cA.Cr bB;replace a:=bind_some a;obtain⟨cB,dI,a⟩:=a;refine wE (fun st=>Ar AeF (eR st) (CR (eR st)) (a168 aH [y*a8,2001] (some ⟨d3,0,none⟩) 2 ZA _ (LY (e:=(Ay .i64)) (xs:=[y*a8,2001]) (DQ:=[[I (y*a8)],[I 2001]]) bB.bk trivial ⟨rfl,rfl,trivial⟩ rfl (Nat.le_refl _)) cB dI)) ?_;rintro _ eV ⟨cC,rfl⟩;have dJ:=dH.ext cC;refine wA (v:=I cB) rfl<|Ag<|Bs<|Ab<|Ad ?_;replace a:=AK a;obtain⟨dK,a⟩:=a;refine wD (fun st=>B0 (ee st aN) (eR st) dK)<|wM (v:=I (aC+1)) rfl<|Ag ?_;have dL:=dJ.erase 0;have dM:=dL.erase 0;have bO:=(((((((aQ.mv (AP bA)).mv (b8.C4 bN.gr 0 rfl)).mv (Ah b9)).mv (AP bB)).mv (Ah cC)).mv (Bp 0)).mv (Bp 0));refine Bw c6 (Nat.lt_succ_self _) (fun st=>?_);exact⟨cB,(aC+1),a,qz st,qd st,sp st 5 rfl,sp st 55 a4,sp st 56 a5,sp st 57 rfl,dM,bO⟩
          ·replace a:=AA a aU;refine AE rfl aU<|Cd<|AB<|AB ?_;obtain rfl:=oi a;refine B4 (fun st=>?_);exact⟨rfl,qz st,qd st,sp st 5 bJ,bM⟩
        case c5=>
         rintro d1 d8 eF (⟨rfl,cD,cE,bZ,bT⟩);refine Cn (X:=X0) (N:=70) cD cE<|Bn<|Ab<|Af<|Af<|Ad<|wM (v:=I z25) bZ<|wD (fun st=>HJ (eR st) (eR st))<|Ag<|Ab ?_;rcases Ak (decide ((2000:Int)<z25)) with aV|aV
         ·replace a:=Az a aV;refine AD rfl aV<|Af<|Ad<|wA (v:=I 3) rfl<|Ag<|Ab<|AI<|Ax ?_;obtain rfl:=oi a;refine AJ rfl rfl ?_;exact⟨bT.Bc,rfl⟩
         ·replace a:=AA a aV;refine AE rfl aV<|AL<|Ab<|Af<|Ad<|wA (v:=I 0) rfl<|Ag<|Ab<|AI ?_;obtain rfl:=oi a;refine AJ rfl rfl ?_;exact⟨bT.Bc,rfl⟩
theorem AhF aG h r d e(Z:Nat→Prop) w(x:Sl (Ay .i64) w Z d e h) aH(a:QX aG h r=some aH):
 Cw Tryz.prog 179 #[.slice d h.length e,I r] w (fun v w'=>Ext w w'∧(Ev .i64).R w' (zf Z w []) v aH):=by
 unfold QX at a;refine AS (N:=19) Tryz.func179 rfl rfl (by simp) ?_;intro aU ha aV;have t:=sA 0 ha;have aA:=sA 1 ha;clear ha;have z:Hp FN [] w [] w:=Hp.start (Cc.none w);have s:=x.mv (Bh (Z:=Z) (L:=[]) w);refine Af<|Ad<|wA (v:=I 0) rfl<|Ag<|Ab<|Af<|Af<|Ad<|wM (v:=.slice d h.length e) t<|wD (fun st=>Bu Tryz.underlying31 (eR st))<|wM (v:=I 0) rfl<|Ag<|Ab<|AT ?_;replace a:=bind_some a;obtain⟨aB,f,a⟩:=a;refine Cm (fun aC c y=>(aC=.ret∧∃g,aB=.inl g∧c.tmps.size=19∧c.defers=(X0).ds∧sl c 4=I g∧w=y)∨(aC=.exit 0∧∃g,aB=.inr g∧c.tmps.size=19∧c.defers=(X0).ds∧w=y)) ?aI ?aJ
 case aI=>
  clear a;refine Cl (fun(aD:Nat) (c:Act) (y:World)=>∃b,Lf h r aD b=some aB∧c.tmps.size=19∧c.defers=(X0).ds∧sl c 0=.slice d h.length e∧sl c 1=I r∧sl c 7=I (h.length:Int)∧sl c 8=I b∧w=y) aG ?aK ?aL
  case aK=>
   intro st;exact⟨(0:Int),f,qz st,qd st,sp st 0 t,sp st 1 aA,sp st 7 rfl,sp st 8 rfl,rfl⟩
  case aL=>
   rintro(_|aD) aW _ ⟨b,f,aE,aF,o,p,q,i,rfl⟩
   ·exact absurd (show none=some _ from f) (by simp)
   rw[Lf.eq_2] at f;have a:=f;clear f;refine B7 (N:=19) aE aF<|Af<|Ad<|wD (fun st=>CO (ee st i) (ee st q))<|Ag<|Ab<|Af ?_;rcases Ak (decide (b<(h.length:Int))) with m|m
   ·replace a:=Az a m;refine AD rfl m<|AL<|Ab<|Af<|AT<|Af<|Ad<|wM (v:=I b) i<|wA (v:=I b) rfl<|Ag<|Ab<|Af<|Ad<|wM (v:=I r) p<|wM (v:=.slice d h.length e) o<|wM (v:=I b) rfl ?_;replace a:=AW a;obtain⟨i3,aM,aN,aO,aP,a⟩:=a;obtain⟨b3,aX,_,aQ,rfl,aR⟩:=Sl.C1 s rfl aO;refine wD (fun st=>AX (k:=i3) Tryz.underlying31 DR (eR st) aQ (eR st) aN aP)<|wD (fun st=>Bg (v:=I aM) Bz (eR st) aR rfl)<|wD (fun st=>Dj (eR st) (eR st))<|Ag<|Ab ?_;rcases Ak (r==aM) with n|n
    ·replace a:=Az a n;refine AD rfl n<|Af<|Ad<|wM (v:=I b) rfl<|wA (v:=I b) rfl<|Ag<|Ab<|AI<|Bi<|Ax<|Ax ?_;obtain rfl:=oi a;refine B4 (fun st=>?_);exact .inl ⟨rfl,b,rfl,qz st,qd st,sp st 4 rfl,rfl⟩
    ·replace a:=AA a n;refine AE rfl n<|AL<|Bs<|Ab<|Ad ?_;replace a:=AK a;obtain⟨aS,a⟩:=a;refine wD (fun st=>B0 (ee st i) (eR st) aS)<|wM (v:=I (b+1)) rfl<|Ag ?_;refine Bw aD (Nat.lt_succ_self _) (fun st=>?_);exact⟨(b+1),a,qz st,qd st,sp st 0 o,sp st 1 p,sp st 7 q,sp st 8 rfl,rfl⟩
   ·replace a:=AA a m;refine AE rfl m<|Cd<|AB<|AB ?_;obtain rfl:=oi a;refine B4 (fun st=>?_);exact .inr ⟨rfl,(),rfl,qz st,qd st,rfl⟩
 case aJ=>
  rintro aC aT _ (⟨rfl,g,rfl,j,l,u,rfl⟩|⟨rfl,g,rfl,j,l,rfl⟩)
  ·skip
   replace a:=Eg a;refine Cn (X:=X0) (N:=19) j l<|Bi<|Ax ?_;obtain rfl:=oi a;refine AJ rfl u ?_;exact⟨z.Bc,rfl⟩
  ·skip
   replace a:=Eh a;refine Cn (X:=X0) (N:=19) j l<|Bn<|Ab<|Af<|Ad<|wA (v:=I (-1)) rfl<|Ag<|Ab<|AI ?_;obtain rfl:=oi a;refine AJ rfl rfl ?_;exact⟨z.Bc,rfl⟩
theorem T6 j e f a b(Z:Nat→Prop) w(g:Sl (Ay .i64) w Z a b e) k(c:Ip j e f=some k):
 Cw Tryz.prog 136 #[.slice a e.length b,I f] w (fun v w'=>Ext w w'∧Dg.R w' (zf Z w []) v k):=by
 unfold Ip at c;refine AS (N:=9) Tryz.func136 rfl rfl (by simp) ?_;intro q ha r;have h:=sA 0 ha;have i:=sA 1 ha;clear ha;have l:Hp FN [] w [] w:=Hp.start (Cc.none w);have d:=g.mv (Bh (Z:=Z) (L:=[]) w);refine Af<|Ad<|wA (v:=.bool false) rfl<|Ag<|Ab<|Af<|Ad<|wM (v:=.slice a e.length b) h<|wM (v:=I f) i ?_;replace c:=bind_some c;obtain⟨m,n,c⟩:=c;refine wE (fun st=>Ar Ae2 (eR st) (Dw (eR st) (eR st)) (AhF j e f a b ZA _ d.all m n)) ?_;rintro _ w2 ⟨o,rfl⟩;have p:=l.ext o;refine wD (fun st=>IX (eR st) (eR st))<|wA (v:=.bool (decide ((0:Int)≤m))) rfl<|Ag<|Ab<|AI ?_;obtain rfl:=oi c;refine AJ rfl rfl ?_;exact⟨p.Bc,rfl⟩
theorem a183 aG f j d e(Z:Nat→Prop) w(aC:Sl (Ay .i64) w Z d e j) aO(a:Lg aG f j=some aO):
 Cw Tryz.prog 183 #[.agg #[I f.a0,I f.a1,I f.a2],.slice d j.length e] w (fun v w'=>Ext w w'∧(Ev .i64).R w' (zf Z w []) v aO):=by
 unfold Lg at a;refine AS (N:=27) Tryz.func183 rfl rfl (by simp) ?_;intro bH ha bI;have aH:=sA 0 ha;have x:=sA 1 ha;clear ha;have aF:Hp FN [] w [] w:=Hp.start (Cc.none w);have m:=aC.mv (Bh (Z:=Z) (L:=[]) w);refine Af<|Ad<|wE (fun st=>Ci (v:=.agg #[I f.a0,I f.a1,I f.a2]) (cs:= #[I f.a0,I f.a1,I f.a2]) (ee st aH) rfl) ?_;rintro _ w1 ⟨b1,rfl,o⟩;have aP:=aF.nb o;have bF:=aF.Cr o;refine wA (v:=I 0) rfl<|Ag<|Ab<|Af<|Ad<|wA (v:=I 0) rfl<|Ag<|Ab<|Af<|Af<|Ad<|wM (v:=.slice d j.length e) x<|wD (fun st=>Bu Tryz.underlying31 (eR st))<|wM (v:=I 0) rfl<|Ag<|Ab<|AT ?_;replace a:=bind_some a;obtain⟨z2,n,a⟩:=a;refine Cm (fun aQ c aI=>(aQ=.exit 0∧c.tmps.size=27∧c.defers=(X0).ds∧sl c 1=.slice d j.length e∧sl c 5=I z2∧w1=aI)) ?aR ?aS
 case aR=>
  clear a;refine Cl (fun(aJ:Nat) (c:Act) (aI:World)=>∃h,∃b,J6 f j aJ h b=some z2∧c.tmps.size=27∧c.defers=(X0).ds∧sl c 1=.slice d j.length e∧sl c 2=pt b1 0∧sl c 5=I h∧sl c 8=.slice d j.length e∧sl c 9=I (j.length:Int)∧sl c 10=I b∧w1=aI) aG ?aT ?aU
  case aT=>
   intro st;exact⟨(0:Int),(0:Int),n,qz st,qd st,sp st 1 x,sp st 2 rfl,sp st 5 rfl,sp st 8 rfl,sp st 9 rfl,sp st 10 rfl,rfl⟩
  case aU=>
   rintro(_|aJ) bJ _ ⟨h,b,n,aK,aL,q,r,s,t,u,g,rfl⟩
   ·exact absurd (show none=some _ from n) (by simp)
   rw[J6.eq_2] at n;have a:=n;clear n;refine B7 (N:=27) aK aL<|Af<|Ad<|wD (fun st=>CO (ee st g) (ee st u))<|Ag<|Ab<|Af ?_;rcases Ak (decide (b<(j.length:Int))) with p|p
   ·replace a:=Az a p;refine AD rfl p<|AL<|Ab<|Af<|AT<|Af<|Ad<|wM (v:=I b) g ?_;replace a:=AW a;obtain⟨i4,y,aV,aW,aX,a⟩:=a;have i:=(m.mv (AP o));obtain⟨bL,bM,_,aY,rfl,aZ⟩:=Sl.C1 i rfl aW;refine wD (fun st=>AX (k:=i4) Tryz.underlying31 DR (ee st t) aY (ee st g) aV aX)<|wD (fun st=>Bg (v:=I y) Bz (eR st) aZ rfl)<|wA (v:=I b) rfl<|wA (v:=I y) rfl<|Ag<|Ab<|Ad<|wM (v:=I h) s<|wM (v:=I y) rfl<|wM (v:=I b) rfl ?_;replace a:=AW a;obtain⟨i5,aM,a3,a4,a5,a⟩:=a;refine wD (fun st=>Na (k:=i5) Tryz.underlying182 DR (ee st r) (eR st) a3 a5)<|wD (fun st=>AG (v:=I aM) Bz (eR st) o.bk (Tu (l:=[f.a0,f.a1,f.a2]) a4)) ?_;replace a:=AK a;obtain⟨a8,a⟩:=a;refine wD (fun st=>KY (eR st) (eR st) a8) ?_;replace a:=AK a;obtain⟨a9,a⟩:=a;refine wD (fun st=>B0 (eR st) (eR st) a9)<|wA (v:=I (h+(y*aM))) rfl<|Ag<|Bs<|Ab<|Ad ?_;replace a:=AK a;obtain⟨bA,a⟩:=a;refine wD (fun st=>B0 (ee st g) (eR st) bA)<|wM (v:=I (b+1)) rfl<|Ag ?_;refine Bw aJ (Nat.lt_succ_self _) (fun st=>?_);exact⟨(h+(y*aM)),(b+1),a,qz st,qd st,sp st 1 q,sp st 2 r,sp st 5 rfl,sp st 8 t,sp st 9 u,sp st 10 rfl,rfl⟩
   ·replace a:=AA a p;refine AE rfl p<|Cd<|AB<|AB ?_;obtain rfl:=oi a;refine B4 (fun st=>?_);exact⟨rfl,qz st,qd st,sp st 1 q,sp st 5 s,rfl⟩
 case aS=>
  rintro aQ bG _ (⟨rfl,aD,aE,z,aA,rfl⟩);refine Cn (X:=X0) (N:=27) aD aE<|Bn<|Ab<|Af<|Ad<|wM (v:=I z2) aA<|wM (v:=.slice d j.length e) z ?_;have i:=(m.mv (AP o));replace a:=bind_some a;obtain⟨bB,bC,a⟩:=a;refine wE (fun st=>Ar Aba (eR st) (CR (eR st)) (Agx aG j d e ZA _ i.all bB bC)) ?_;rintro _ bK ⟨bD,rfl⟩;have bE:=aP.ext bD;replace a:=J4 a;obtain⟨aB,a⟩:=a;replace a:=AK a;obtain⟨aN,a⟩:=a;refine wD (fun st=>Mh (eR st) (eR st) aB.1 aB.2 aN)<|wA (v:=I (z2/bB)) rfl<|Ag<|Ab<|AI ?_;obtain rfl:=oi a;refine AJ rfl rfl ?_;exact⟨bE.Bc,rfl⟩
theorem AhG aK c b n d e f g i j(Z:Nat→Prop) w(y:Sl AM w Z d e c.AF)(z:Sl (BO (Ay .i64)) w Z f g c.BW)(aA:Sl AQ w Z i j c.Bt) aL(a:Pr aK c b n=some aL):
 Cw Tryz.prog 177 #[.agg (AU d e f g i j c).toArray,.agg #[I b.a0,I b.a1,I b.a2],I n] w (fun v w'=>Ext w w'∧(Ev .i64).R w' (zf Z w []) v aL):=by
 unfold Pr at a;refine AS (N:=26) Tryz.func177 rfl rfl (by simp) ?_;intro bB ha bC;have aG:=sA 0 ha;have aH:=sA 1 ha;have o:=sA 2 ha;clear ha;have aC:Hp FN [] w [] w:=Hp.start (Cc.none w);have ⟨aI,r,aJ⟩:=EW y z aA (Bh (Z:=Z) (L:=[]) w);refine Af<|Ad<|wE (fun st=>Ci (v:=.agg (AU d e f g i j c).toArray) (cs:=(AU d e f g i j c).toArray) (ee st aG) rfl) ?_;rintro _ w1 ⟨b1,rfl,p⟩;have aD:=aC.nb p;have a5:=aC.Cr p;refine wE (fun st=>Ci (v:=.agg #[I b.a0,I b.a1,I b.a2]) (cs:= #[I b.a0,I b.a1,I b.a2]) (ee st aH) rfl) ?_;rintro _ w2 ⟨b2,rfl,h⟩;have aE:=aD.nb h;have a8:=aD.Cr h;refine wA (v:=I 0) rfl<|Ag<|Ab<|Af<|Af<|Ad<|wD (fun st=>Ai (eR st) (OQ _ _)) ?_;have q:=(p.bk.ext h.gr);refine wD (fun st=>AG (v:=.slice d c.AF.length e) Qb (eR st) q rfl)<|wD (fun st=>Bu Tryz.underlying35 (eR st))<|wA (v:=I (c.AF.length:Int)) rfl<|Ag<|Ab<|Af<|Ad<|wM (v:=I n) o<|wM (v:=I (c.AF.length:Int)) rfl<|wD (fun st=>IX (eR st) (eR st))<|Ag<|Ab ?_;rcases Ak (decide ((c.AF.length:Int)≤n)) with m|m
 ·replace a:=Az a m;refine AD rfl m<|Af ?_;replace a:=AK a;obtain⟨aM,a⟩:=a;replace a:=AW a;obtain⟨i6,aN,aO,aP,aQ,a⟩:=a;have s:=((r.mv (AP p)).mv (AP h));obtain⟨a9,bA,_,aR,⟨u,x,rfl,aB⟩,aS⟩:=Sl.C1 s rfl aP;refine B9 8 [Kc (.agg #[I b.a0,I b.a1,I b.a2]),Kc (pt b1 1),Kc (.slice f c.BW.length g),Kc (I n),Kc (I (c.AF.length:Int)),Kc (I (n-(c.AF.length:Int))),Kc (pt a9 (bA+i6)),Kc (.slice u aN.length x)] mixed rfl rfl
      (Aa (oD (fun K=>AR (l:=[I b.a0,I b.a1,I b.a2]) QE (es ((K.out 4 rfl).trans rfl)) (h.bk.ext K.AO) rfl rfl))
      (Aa (oD (fun K=>Ai (es ((K.out 3 rfl).trans rfl)) (PH _ _)))
      (Aa (oD (fun K=>AG El (es (K.dq 1 15)) (q.ext K.AO) rfl))
      (Aa (oD (fun K=>Aq (es ((K.out 2 rfl).trans o))))
      (Aa (oD (fun K=>Aq (es ((K.out 7 rfl).trans rfl))))
      (Aa (oD (fun K=>Ex (es (K.dq 3 17)) (es (K.dq 4 18)) aM))
      (Aa (oD (fun K=>AX (k:=i6) Tryz.underlying23 FX (es (K.dq 2 16)) aR (es (K.dq 5 19)) aO aQ))
      (Aa (oD (fun K=>Bg Eu (es (K.dq 6 20)) (aS.mv (Ah K.AO)) rfl))
      (B8 _))))))))) ?_
  intro bD;rintro _ rfl _ rfl _ rfl _ rfl _ rfl _ rfl _ rfl _ rfl aF;have aT:=aE.ext aF;have t:=(aB.mv (Ah aF));replace a:=bind_some a;obtain⟨aU,aV,a⟩:=a;refine wE (fun st=>Ar Abb (eR st) (Dw (eR st) (eR st)) (a183 aK b aN u x ZA _ t.all aU aV)) ?_;rintro _ bE ⟨aW,rfl⟩;have aX:=aT.ext aW;refine wA (v:=I aU) rfl<|Ag<|Ab<|AI<|Ax ?_;obtain rfl:=oi a;refine AJ rfl rfl ?_;exact⟨aX.Bc,rfl⟩
 ·replace a:=AA a m;refine AE rfl m<|AL<|Ab<|Af<|Ad<|wM (v:=I n) o ?_;replace a:=AW a;obtain⟨i9,aY,aZ,a3,a4,a⟩:=a;refine wD (fun st=>Na (k:=i9) Tryz.underlying182 DR (eR st) (eR st) aZ a4)<|wD (fun st=>AG (v:=I aY) Bz (eR st) h.bk (Tu (l:=[b.a0,b.a1,b.a2]) a3))<|wA (v:=I aY) rfl<|Ag<|Ab<|AI ?_;obtain rfl:=oi a;refine AJ rfl rfl ?_;exact⟨aE.Bc,rfl⟩
theorem AhH aX p r aO i j m o e f s t(Z:Nat→Prop) w(bZ:Sl AM w Z i j p.AF)(b4:Sl (BO (Ay .i64)) w Z m o p.BW)(b5:Sl AQ w Z e f p.Bt)(b6:Sl (Ay .i64) w Z s t aO) cW(a:N6 aX p r aO=some cW):
 Cw Tryz.prog 133 #[.agg (AU i j m o e f p).toArray,.agg #[I r.a0,I r.a1,I r.a2],.slice s aO.length t] w (fun v w'=>Ext w w'∧Dg.R w' (zf Z w []) v cW):=by
 unfold N6 at a;refine AS (N:=34) Tryz.func133 rfl rfl (by simp) ?_;intro dG ha dH;have cF:=sA 0 ha;have cG:=sA 1 ha;have cH:=sA 2 ha;clear ha;have cA:Hp FN [] w [] w:=Hp.start (Cc.none w);have ⟨bH,bI,bJ,bK⟩:=F4 bZ b4 b5 b6 (Bh (Z:=Z) (L:=[]) w);refine Af<|Ad<|wE (fun st=>Ci (v:=.agg (AU i j m o e f p).toArray) (cs:=(AU i j m o e f p).toArray) (ee st cF) rfl) ?_;rintro _ w1 ⟨b1,rfl,bE⟩;have cB:=cA.nb bE;have dA:=cA.Cr bE;refine wE (fun st=>Ci (v:=.agg #[I r.a0,I r.a1,I r.a2]) (cs:= #[I r.a0,I r.a1,I r.a2]) (ee st cG) rfl) ?_;rintro _ w2 ⟨b2,rfl,aY⟩;have cX:=cB.nb aY;have dB:=cB.Cr aY;refine wA (v:=.bool false) rfl<|Ag<|Ab<|Af<|Af<|Ad<|wD (fun st=>Ai (eR st) (Uf _ _)) ?_;have bF:=(bE.bk.ext aY.gr);refine wD (fun st=>AG (v:=.slice e p.Bt.length f) Xx (eR st) bF rfl)<|wD (fun st=>Bu Tryz.underlying36 (eR st))<|wM (v:=I 0) rfl<|Ag<|Ab<|AT ?_;replace a:=bind_some a;obtain⟨z3,aQ,a⟩:=a;refine Cm (fun cI q aP=>(cI=.ret∧∃aR,z3=.inl aR∧q.tmps.size=34∧q.defers=(X0).ds∧sl q 6=.bool aR∧Hp FN [] w [some b2,some b1] aP)∨(cI=.exit 0∧∃aR,z3=.inr aR∧q.tmps.size=34∧q.defers=(X0).ds∧Hp FN [] w [some b2,some b1] aP)) ?cY ?cZ
 case cY=>
  clear a;refine Cl (fun(b7:Nat) (q:Act) (aP:World)=>∃d,H7 aX p r aO b7 d=some z3∧q.tmps.size=34∧q.defers=(X0).ds∧sl q 2=.slice s aO.length t∧sl q 3=pt b1 0∧sl q 4=pt b2 0∧sl q 10=.slice e p.Bt.length f∧sl q 11=I (p.Bt.length:Int)∧sl q 12=I d∧Hp FN [] w [some b2,some b1] aP∧Bk aP b1 38 (AU i j m o e f p).toArray∧Bk aP b2 182 #[I r.a0,I r.a1,I r.a2]∧Sl AM aP (zf Z w [some b2,some b1]) i j p.AF∧Sl (BO (Ay .i64)) aP (zf Z w [some b2,some b1]) m o p.BW∧Sl AQ aP (zf Z w [some b2,some b1]) e f p.Bt∧Sl (Ay .i64) aP (zf Z w [some b2,some b1]) s t aO) aX ?c0 ?c1
  case c0=>
   intro st;have ⟨bL,bM,bN,bO⟩:=F4 bH bI bJ bK (mt (AP bE) (AP aY));exact⟨(0:Int),aQ,qz st,qd st,sp st 2 cH,sp st 3 rfl,sp st 4 rfl,sp st 10 rfl,sp st 11 rfl,sp st 12 rfl,cX,bF,aY.bk,bL,bM,bN,bO⟩
  case c1=>
   rintro(_|b7) dI dJ ⟨d,aQ,cJ,cK,aH,aI,aS,aJ,aK,u,bT,aZ,a3,aL,aM,aB,a8⟩
   ·exact absurd (show none=some _ from aQ) (by simp)
   rw[H7.eq_2] at aQ;have a:=aQ;clear aQ;refine B7 (N:=34) cJ cK<|Af<|Ad<|wD (fun st=>CO (ee st u) (ee st aK))<|Ag<|Ab<|Af ?_;rcases Ak (decide (d<(p.Bt.length:Int))) with a4|a4
   ·replace a:=Az a a4;refine AD rfl a4<|AL<|Ab<|Af<|AT<|Af<|Ad<|wM (v:=I d) u ?_;replace a:=AW a;obtain⟨i5,g,c2,c3,c4,a⟩:=a;obtain⟨dM,dN,_,c5,rfl,c6⟩:=Sl.elem aB (by decide) c3;refine wD (fun st=>BR (k:=i5) Tryz.underlying36 Aaa (ee st aJ) c5 (ee st u) c2 c4)<|wD (fun st=>Ew (l:=[.bool g.C0,I g.Number,I g.Bq,I g.Br]) VX (eR st) c6 rfl rfl)<|wE (fun st=>DH (cs:= #[.bool false,I 0,I 0,I 0]) Adm rfl) ?_;rintro _ dO ⟨dD,rfl,y⟩;have aG:=bT.nb y;have dC:=bT.Cr y;refine wA (v:=I d) rfl<|Dk rfl rfl (fun st=>CS (n:=4) (l:=[.bool g.C0,I g.Number,I g.Bq,I g.Br]) (EZ:= #[.bool g.C0,I g.Number,I g.Bq,I g.Br]) (eR st) (eR st) Aaa y.bk rfl rfl (show 0+4≤4 by decide) (Cg rfl) rfl) ?_;rintro _ dP z;have cC:=aG.gr z.gr 0 rfl;refine Ag<|Ab<|Af ?_;have x:=((a8.mv (AP y)).mv (aG.C4 z.gr 0 rfl));replace a:=bind_some a;obtain⟨aN,cD,a⟩:=a;rcases Ak (!aN) with b|b
    ·replace a:=Az a b;have cS:aN=false:=by simpa using b
     have aT:=((aZ.ext y.gr).gr z.gr (aG.nq 2 0));have bG:=((a3.ext y.gr).gr z.gr (aG.nq 1 0));have ⟨aD,aE,aF⟩:=EW aL aM aB (mt (AP y) (aG.C4 z.gr 0 rfl));replace a:=bind_some a;obtain⟨bU,cL,a⟩:=a;replace a:=bind_some a;obtain⟨bV,cM,a⟩:=a;refine B9 13 [Kc (.slice s aO.length t),Kc (I d),Kc (.bool aN),Kc (.bool !aN),Kc (.bool !aN),Kc (pt dD 2),Kc (.agg #[I g.Bq,I g.Br]),Kc (.agg (AU i j m o e f p).toArray),Kc (.agg #[I r.a0,I r.a1,I r.a2]),Kc (.agg (AU i j m o e f p).toArray),Kc (.agg #[.bool g.C0,I g.Number,I g.Bq,I g.Br]),Kc (I bU),Kc (I bV)] mixed rfl rfl
         (Aa (oD (fun K=>Aq (es ((K.out 2 rfl).trans aH))))
         (Aa (oD (fun K=>Aq (es ((K.out 7 rfl).trans rfl))))
         (Aa (Dl rfl rfl (fun a' w' ph K=>(Ar QF rfl (Dw (es (K.dq 0 17)) (es (K.dq 1 18))) (T6 aX aO d s t ZA _ (x.mv (Ah K.AO)).all aN cD)).mono (fun _ _ h=>⟨h.2,h.1⟩)))
         (Aa (oD (fun K=>Dz (es (K.dq 2 19))))
         (Aa (oD (fun K=>Aq (es (K.dq 3 20))))
         (Aa (Bb rfl rfl rfl (fun _=>rfl) (fun a' w' ph K=>Ae (K.dq 4 21) b) (fun a' w' ph K=>Ai (es ((K.out 8 rfl).trans rfl)) (WI _ _)))
         (Aa (Bb rfl rfl rfl (fun _=>rfl) (fun a' w' ph K=>Ae (K.dq 4 21) b) (fun a' w' ph K=>AR (l:=[I g.Bq,I g.Br]) PG (es (K.dq 5 22)) (z.bk.ext K.AO) rfl rfl))
         (Aa (Bb rfl rfl rfl (fun _=>rfl) (fun a' w' ph K=>Ae (K.dq 4 21) b) (fun a' w' ph K=>AR (l:=(AU i j m o e f p)) N9 (es ((K.out 3 rfl).trans aI)) (aT.ext K.AO) rfl rfl))
         (Aa (Bb rfl rfl rfl (fun _=>rfl) (fun a' w' ph K=>Ae (K.dq 4 21) b) (fun a' w' ph K=>AR (l:=[I r.a0,I r.a1,I r.a2]) QE (es ((K.out 4 rfl).trans aS)) (bG.ext K.AO) rfl rfl))
         (Aa (Bb rfl rfl rfl (fun _=>rfl) (fun a' w' ph K=>Ae (K.dq 4 21) b) (fun a' w' ph K=>AR (l:=(AU i j m o e f p)) N9 (es ((K.out 3 rfl).trans aI)) (aT.ext K.AO) rfl rfl))
         (Aa (Bb rfl rfl rfl (fun _=>rfl) (fun a' w' ph K=>Ae (K.dq 4 21) b) (fun a' w' ph K=>AR (l:=[.bool g.C0,I g.Number,I g.Bq,I g.Br]) VX (es ((K.out 8 rfl).trans rfl)) (z.bk.ext K.AO) rfl rfl))
         (Aa (IT rfl rfl rfl (fun a' w' ph K=>Ae (K.dq 4 21) b) (fun a' w' ph K=>(Ar Ae3 rfl (Dw (es (K.dq 9 26)) (es (K.dq 10 27))) (Ahu aX p g i j m o e f ZA _ (aD.mv (Ah K.AO)).all (aE.mv (Ah K.AO)).all (aF.mv (Ah K.AO)).all bU cL)).mono (fun _ _ h=>⟨h.2,h.1⟩)))
         (Aa (IT rfl rfl rfl (fun a' w' ph K=>Ae (K.dq 4 21) b) (fun a' w' ph K=>(Ar Ae4 rfl (EN (es (K.dq 7 24)) (es (K.dq 8 25)) (es (K.dq 11 28))) (AhG aX p r bU i j m o e f ZA _ (aD.mv (Ah K.AO)).all (aE.mv (Ah K.AO)).all (aF.mv (Ah K.AO)).all bV cM)).mono (fun _ _ h=>⟨h.2,h.1⟩)))
         (B8 _)))))))))))))) ?_
     intro dE;rintro _ rfl _ rfl _ rfl _ rfl _ rfl _ rfl _ rfl _ rfl _ rfl _ rfl _ rfl _ rfl _ rfl aA;have c7:=cC.ext aA;replace a:=bind_some a;obtain⟨a5,cN,a⟩:=a;refine Di rfl rfl (Ae rfl b) rfl (by decide) (fun st=>Ar Abc (eR st) (Dw (eR st) (eR st)) (Agw aX (⟨g.Bq,g.Br⟩:AN) bV ZA _ a5 cN)) ?_;rintro _ dK ⟨aU,rfl⟩;have cE:=c7.ext aU;refine An rfl rfl (Ae rfl b) rfl (by decide) (fun st=>Dz (eR st))<|wD (fun st=>AY (v:=.bool !a5) (eR st) b (eR st))<|Ag<|Ab ?_;rcases Ak (!a5) with aC|aC
     ·replace a:=Az a aC;have cT:a5=false:=by simpa using aC
      refine AD rfl aC<|Af<|Ad<|wA (v:=.bool false) rfl<|Ag<|Ab<|AI<|Bi<|Ax<|Ax ?_;have c8:=cE.erase 0;obtain rfl:=oi a;refine B4 (fun st=>?_);exact .inl ⟨rfl,false,rfl,qz st,qd st,sp st 6 rfl,c8⟩
     ·replace a:=AA a aC;have cU:a5=true:=by simpa using aC
      refine AE rfl aC<|AL<|Bs<|Ab<|Ad ?_;replace a:=AK a;obtain⟨cO,a⟩:=a;refine wD (fun st=>B0 (ee st u) (eR st) cO)<|wM (v:=I (d+1)) rfl<|Ag ?_;have c9:=cE.erase 0;have b8:=((aT.ext aA).ext aU);have b9:=((bG.ext aA).ext aU);have ⟨bP,bQ,bR,bS⟩:=F4 aD aE aF x (mt (Ah aA) (mt (Ah aU) (Bp 0)));refine Bw b7 (Nat.lt_succ_self _) (fun st=>?_);exact⟨(d+1),a,qz st,qd st,sp st 2 aH,sp st 3 aI,sp st 4 aS,sp st 10 aJ,sp st 11 aK,sp st 12 rfl,c9,b8,b9,bP,bQ,bR,bS⟩
    ·replace a:=AA a b;have cV:aN=true:=by simpa using b
     refine B9 13 [Kc (.slice s aO.length t),Kc (I d),Kc (.bool aN),Kc (.bool !aN),Kc (.bool !aN),Kc undef,Kc undef,Kc undef,Kc undef,Kc undef,Kc undef,Kc undef,Kc undef] mixed rfl rfl
         (Aa (oD (fun K=>Aq (es ((K.out 2 rfl).trans aH))))
         (Aa (oD (fun K=>Aq (es ((K.out 7 rfl).trans rfl))))
         (Aa (Dl rfl rfl (fun a' w' ph K=>(Ar QF rfl (Dw (es (K.dq 0 17)) (es (K.dq 1 18))) (T6 aX aO d s t ZA _ (x.mv (Ah K.AO)).all aN cD)).mono (fun _ _ h=>⟨h.2,h.1⟩)))
         (Aa (oD (fun K=>Dz (es (K.dq 2 19))))
         (Aa (oD (fun K=>Aq (es (K.dq 3 20))))
         (Aa (oS (c:=false) (fun a' w' ph K=>Ae (K.dq 4 21) b))
         (Aa (oS (c:=false) (fun a' w' ph K=>Ae (K.dq 4 21) b))
         (Aa (oS (c:=false) (fun a' w' ph K=>Ae (K.dq 4 21) b))
         (Aa (oS (c:=false) (fun a' w' ph K=>Ae (K.dq 4 21) b))
         (Aa (oS (c:=false) (fun a' w' ph K=>Ae (K.dq 4 21) b))
         (Aa (oS (c:=false) (fun a' w' ph K=>Ae (K.dq 4 21) b))
         (Aa (oS (c:=false) (fun a' w' ph K=>Ae (K.dq 4 21) b))
         (Aa (oS (c:=false) (fun a' w' ph K=>Ae (K.dq 4 21) b))
         (B8 _)))))))))))))) ?_
     intro dE;rintro _ rfl _ rfl _ rfl _ rfl _ rfl _ rfl _ rfl _ rfl _ rfl _ rfl _ rfl _ rfl _ rfl aA;have cP:=cC.ext aA;refine Au (c:=false) rfl rfl (Ae rfl b) (by decide) rfl (by decide)<|Au (c:=false) rfl rfl (Ae rfl b) (by decide) rfl (by decide)<|wD (fun st=>BC (v:=.bool false) (eR st) b (eR st))<|Ag<|Ab<|AE rfl rfl<|AL<|Bs<|Ab<|Ad ?_;replace a:=AK a;obtain⟨cQ,a⟩:=a;refine wD (fun st=>B0 (ee st u) (eR st) cQ)<|wM (v:=I (d+1)) rfl<|Ag ?_;have cR:=cP.erase 0;have bW:=(((aZ.ext y.gr).gr z.gr (aG.nq 2 0)).ext aA);have bX:=(((a3.ext y.gr).gr z.gr (aG.nq 1 0)).ext aA);have ⟨a9,bA,bB⟩:=EW aL aM aB (mt (AP y) (mt (aG.C4 z.gr 0 rfl) (mt (Ah aA) (Bp 0))));have bC:=((x.mv (Ah aA)).mv (Bp 0));refine Bw b7 (Nat.lt_succ_self _) (fun st=>?_);exact⟨(d+1),a,qz st,qd st,sp st 2 aH,sp st 3 aI,sp st 4 aS,sp st 10 aJ,sp st 11 aK,sp st 12 rfl,cR,bW,bX,a9,bA,bB,bC⟩
   ·replace a:=AA a a4;refine AE rfl a4<|Cd<|AB<|AB ?_;obtain rfl:=oi a;refine B4 (fun st=>?_);exact .inr ⟨rfl,(),rfl,qz st,qd st,bT⟩
 case cZ=>
  rintro cI dF dL (⟨rfl,aR,rfl,aV,aW,bY,bD⟩|⟨rfl,aR,rfl,aV,aW,bD⟩)
  ·skip
   replace a:=Eg a;refine Cn (X:=X0) (N:=34) aV aW<|Bi<|Ax ?_;obtain rfl:=oi a;refine AJ rfl bY ?_;exact⟨bD.Bc,rfl⟩
  ·skip
   replace a:=Eh a;refine Cn (X:=X0) (N:=34) aV aW<|Bn<|Ab<|Af<|Ad<|wA (v:=.bool true) rfl<|Ag<|Ab<|AI ?_;obtain rfl:=oi a;refine AJ rfl rfl ?_;exact⟨bD.Bc,rfl⟩
theorem AgA bJ m b i j aH aI aJ aK f g(Z:Nat→Prop) w(bK:Sl AM w Z i j m.AF)(bL:Sl (BO (Ay .i64)) w Z aH aI m.BW)(bM:Sl AQ w Z aJ aK m.Bt)(bN:Sl (Ay .i64) w Z f g b) cI(a:MB bJ m b=some cI):
 Cw Tryz.prog 132 #[.agg (AU i j aH aI aJ aK m).toArray,.slice f b.length g] w (fun v w'=>Ext w w'∧(PN (Hd Gl) Dg).R w' (zf Z w []) v cI):=by
 unfold MB at a;refine AS (N:=36) Tryz.func132 rfl rfl (by simp) ?_;intro c2 ha c3;have bU:=sA 0 ha;have bB:=sA 1 ha;clear ha;have bO:Hp FN [] w [] w:=Hp.start (Cc.none w);have ⟨a5,cE,cF,a8⟩:=F4 bK bL bM bN (Bh (Z:=Z) (L:=[]) w);refine Af<|Ad<|wE (fun st=>Ci (v:=.agg (AU i j aH aI aJ aK m).toArray) (cs:=(AU i j aH aI aJ aK m).toArray) (ee st bU) rfl) ?_;rintro _ w1 ⟨b1,rfl,aY⟩;have bP:=bO.nb aY;have cY:=bO.Cr aY;refine wE (fun st=>DH (cs:= #[I 0,I 0,I 0]) WJ rfl) ?_;rintro _ w2 ⟨b2,rfl,r⟩;have bQ:=bP.nb r;have cZ:=bP.Cr r;refine wA (v:=.bool false) rfl<|Ag<|Ab<|Af<|Af<|Ad<|wM (v:=.slice f b.length g) bB<|wD (fun st=>Bu Tryz.underlying31 (eR st))<|wD (fun st=>Ai (eR st) (OQ _ _)) ?_;have aZ:=(aY.bk.ext r.gr);refine wD (fun st=>AG (v:=.slice i m.AF.length j) Qb (eR st) aZ rfl)<|wD (fun st=>Bu Tryz.underlying35 (eR st))<|wD (fun st=>DW (eR st) (eR st))<|Ag<|Ab ?_;rcases Ak ((b.length:Int) !=(m.AF.length:Int)) with aO|aO
 ·replace a:=Az a aO;refine AD rfl aO<|Af<|Ad<|wD (fun st=>AR (l:=[I 0,I 0,I 0]) QE (eR st) r.bk rfl rfl)<|Dk rfl rfl (fun st=>CS (n:=3) (l:=[I 0,I 0,I 0]) (EZ:= #[I 0,I 0,I 0]) (eR st) (eR st) Vq r.bk rfl rfl (show 0+3≤3 by decide) (Cg rfl) rfl) ?_;rintro _ dC bR;have cJ:=bQ.gr bR.gr 0 rfl;refine wA (v:=.bool false) rfl<|Ag<|Ab<|AI<|Ax ?_;obtain rfl:=oi a;refine QV (N:=36) (v:=.agg #[I 0,I 0,I 0]) (v':=.bool false) rfl ⟨_,rfl,GP QE bR.bk rfl rfl⟩ rfl ?_;exact⟨cJ.Bc,⟨_,_,rfl,⟨_,rfl,rfl⟩,rfl⟩⟩
 ·replace a:=AA a aO;refine AE rfl aO<|AL<|Ab<|Af<|Af<|Ad<|wD (fun st=>Ai (eR st) (OQ _ _))<|wD (fun st=>AG (v:=.slice i m.AF.length j) Qb (eR st) aZ rfl)<|wD (fun st=>Bu Tryz.underlying35 (eR st))<|wM (v:=I 0) rfl<|Ag<|Ab<|AT ?_;replace a:=bind_some a;obtain⟨z5,aE,a⟩:=a;refine Cm (fun bV c aD=>(bV=.ret∧∃s,z5=.inl s∧c.tmps.size=36∧c.defers=(X0).ds∧sl c 4=pt b2 0∧sl c 5=.bool s∧Hp FN [] w [some b2,some b1] aD∧Bk aD b2 182 #[I 0,I 0,I 0])∨(bV=.exit 0∧∃s,z5=.inr s∧c.tmps.size=36∧c.defers=(X0).ds∧sl c 1=.slice f b.length g∧sl c 4=pt b2 0∧Hp FN [] w [some b2,some b1] aD∧Bk aD b2 182 #[I 0,I 0,I 0]∧Sl (Ay .i64) aD (zf Z w [some b2,some b1]) f g b)) ?cK ?cL
  case cK=>
   clear a;refine Cl (fun(bW:Nat) (c:Act) (aD:World)=>∃d,Ks bJ m b bW d=some z5∧c.tmps.size=36∧c.defers=(X0).ds∧sl c 1=.slice f b.length g∧sl c 4=pt b2 0∧sl c 16=.slice i m.AF.length j∧sl c 17=I (m.AF.length:Int)∧sl c 18=I d∧Hp FN [] w [some b2,some b1] aD∧Bk aD b2 182 #[I 0,I 0,I 0]∧Sl AM aD (zf Z w [some b2,some b1]) i j m.AF∧Sl (Ay .i64) aD (zf Z w [some b2,some b1]) f g b) bJ ?cM ?cN
   case cM=>
    intro st;have ⟨a9,bA⟩:=LI a5 a8 (mt (AP aY) (AP r));exact⟨(0:Int),aE,qz st,qd st,sp st 1 bB,sp st 4 rfl,sp st 16 rfl,sp st 17 rfl,sp st 18 rfl,bQ,r.bk,a9,bA⟩
   case cN=>
    rintro(_|bW) c4 c5 ⟨d,aE,bX,bY,aL,p,aP,aQ,q,bC,t,u,x⟩
    ·exact absurd (show none=some _ from aE) (by simp)
    rw[Ks.eq_2] at aE;have a:=aE;clear aE;refine B7 (N:=36) bX bY<|Af<|Ad<|wD (fun st=>CO (ee st q) (ee st aQ))<|Ag<|Ab<|Af ?_;rcases Ak (decide (d<(m.AF.length:Int))) with aR|aR
    ·replace a:=Az a aR;refine AD rfl aR<|AL<|Ab<|Af<|AT<|Af<|Ad<|wM (v:=I d) q ?_;replace a:=AW a;obtain⟨i7,y,cO,cP,cQ,a⟩:=a;obtain⟨dD,dE,_,cR,rfl,cS⟩:=Sl.elem u (by decide) cP;refine wD (fun st=>BR (k:=i7) Tryz.underlying35 SQ (ee st aP) cR (ee st q) cO cQ)<|wD (fun st=>Ew (l:=[I y.Lo,I y.Hi]) PG (eR st) cS rfl rfl)<|wE (fun st=>DH (cs:= #[I 0,I 0]) UK rfl) ?_;rintro _ dF ⟨dG,rfl,z⟩;have aS:=bC.nb z;have c0:=bC.Cr z;refine wA (v:=I d) rfl<|Dk rfl rfl (fun st=>CS (n:=2) (l:=[I y.Lo,I y.Hi]) (EZ:= #[I y.Lo,I y.Hi]) (eR st) (eR st) SQ z.bk rfl rfl (show 0+2≤2 by decide) (Cg rfl) rfl) ?_;rintro _ dH aF;have cT:=aS.gr aF.gr 0 rfl;refine Ag<|Ab<|Af ?_;replace a:=AW a;obtain⟨i11,bS,bZ,b4,b5,a⟩:=a;have aG:=((x.mv (AP z)).mv (aS.C4 aF.gr 0 rfl));obtain⟨cU,cV,_,b6,rfl,b7⟩:=Sl.C1 aG rfl b4;refine B9 5 [Kc (.agg #[I y.Lo,I y.Hi]),Kc (.slice f b.length g),Kc (I d),Kc (pt cU (cV+i11)),Kc (I bS)] mixed rfl rfl
         (Aa (oD (fun K=>AR (l:=[I y.Lo,I y.Hi]) PG (es ((K.out 7 rfl).trans rfl)) (aF.bk.ext K.AO) rfl rfl))
         (Aa (oD (fun K=>Aq (es ((K.out 1 rfl).trans aL))))
         (Aa (oD (fun K=>Aq (es ((K.out 6 rfl).trans rfl))))
         (Aa (oD (fun K=>AX (k:=i11) Tryz.underlying31 DR (es (K.dq 1 24)) b6 (es (K.dq 2 25)) bZ b5))
         (Aa (oD (fun K=>Bg Bz (es (K.dq 3 26)) (b7.mv (Ah K.AO)) rfl))
         (B8 _)))))) ?_
     intro c6;rintro _ rfl _ rfl _ rfl _ rfl _ rfl aA;have cW:=cT.ext aA;replace a:=bind_some a;obtain⟨a3,b8,a⟩:=a;refine wE (fun st=>Ar Abc (eR st) (Dw (eR st) (eR st)) (Agw bJ y bS ZA _ a3 b8)) ?_;rintro _ c7 ⟨aB,rfl⟩;have bT:=cW.ext aB;refine wD (fun st=>Dz (eR st))<|Ag<|Ab ?_;rcases Ak (!a3) with o|o
     ·replace a:=Az a o;have cG:a3=false:=by simpa using o
      refine AD rfl o<|Af<|Ad ?_;have a4:=((((t.ext z.gr).gr aF.gr (aS.nq 1 0)).ext aA).ext aB);refine wD (fun st=>AR (l:=[I 0,I 0,I 0]) QE (ee st p) a4 rfl rfl)<|Dk rfl rfl (fun st=>CS (n:=3) (l:=[I 0,I 0,I 0]) (EZ:= #[I 0,I 0,I 0]) (ee st p) (eR st) Vq a4 rfl rfl (show 0+3≤3 by decide) (Cg rfl) rfl) ?_;rintro _ c8 bD;have cX:=bT.gr bD.gr 1 rfl;refine wA (v:=.bool false) rfl<|Ag<|Ab<|AI<|Bi<|Ax<|Ax ?_;have b9:=cX.erase 0;obtain rfl:=oi a;have bE:=bD.bk;refine B4 (fun st=>?_);exact .inl ⟨rfl,false,rfl,qz st,qd st,sp st 4 p,sp st 5 rfl,b9,bE⟩
     ·replace a:=AA a o;have cH:a3=true:=by simpa using o
      refine AE rfl o<|AL<|Bs<|Ab<|Ad ?_;replace a:=AK a;obtain⟨cA,a⟩:=a;refine wD (fun st=>B0 (ee st q) (eR st) cA)<|wM (v:=I (d+1)) rfl<|Ag ?_;have cB:=bT.erase 0;have bF:=((((t.ext z.gr).gr aF.gr (aS.nq 1 0)).ext aA).ext aB);have aT:=(((((u.mv (AP z)).mv (aS.C4 aF.gr 0 rfl)).mv (Ah aA)).mv (Ah aB)).mv (Bp 0));have aU:=(((aG.mv (Ah aA)).mv (Ah aB)).mv (Bp 0));refine Bw bW (Nat.lt_succ_self _) (fun st=>?_);exact⟨(d+1),a,qz st,qd st,sp st 1 aL,sp st 4 p,sp st 16 aP,sp st 17 aQ,sp st 18 rfl,cB,bF,aT,aU⟩
    ·replace a:=AA a aR;refine AE rfl aR<|Cd<|AB<|AB ?_;obtain rfl:=oi a;refine B4 (fun st=>?_);exact .inr ⟨rfl,(),rfl,qz st,qd st,sp st 1 aL,sp st 4 p,bC,t,x⟩
  case cL=>
   rintro bV c1 c9 (⟨rfl,s,rfl,aM,aN,e,bG,aV,aC⟩|⟨rfl,s,rfl,aM,aN,bH,e,aV,aC,aW⟩)
   ·skip
    replace a:=Eg a;refine Cn (X:=X0) (N:=36) aM aN<|Bi<|Ax ?_;obtain rfl:=oi a;refine QV (N:=36) (v:=.agg #[I 0,I 0,I 0]) (v':=.bool s) rfl ⟨_,e,GP QE aC rfl rfl⟩ bG ?_;exact⟨aV.Bc,⟨_,_,rfl,⟨_,rfl,rfl⟩,rfl⟩⟩
   ·skip
    replace a:=Eh a;refine Cn (X:=X0) (N:=36) aM aN<|Bn<|Ab<|Af<|Ad<|wD (fun st=>ZT (h:=3) Tryz.underlying182 DR (by decide) (ee st e) S7 ⟨by decide,by decide⟩ rfl)<|wM (v:=.slice f b.length g) bH<|wE (fun st=>Aa3 (ys:=[0,0,0]) (EZ:= #[I (((⟨0,0,0⟩:Be).cp b).a0),I (((⟨0,0,0⟩:Be).cp b).a1),I (((⟨0,0,0⟩:Be).cp b).a2)]) Tryz.underlying31 DR rfl (eR st) (eR st) aC rfl aW (Be.cpc (⟨0,0,0⟩:Be) b)) ?_;rintro _ dA aX;have cC:=aV.gr aX.gr 0 rfl;refine Ag<|Ab<|Af<|Ad<|wD (fun st=>AR (l:=[I (((⟨0,0,0⟩:Be).cp b).a0),I (((⟨0,0,0⟩:Be).cp b).a1),I (((⟨0,0,0⟩:Be).cp b).a2)]) QE (ee st e) aX.bk rfl rfl)<|Dk rfl rfl (fun st=>CS (n:=3) (l:=[I (((⟨0,0,0⟩:Be).cp b).a0),I (((⟨0,0,0⟩:Be).cp b).a1),I (((⟨0,0,0⟩:Be).cp b).a2)]) (EZ:= #[I (((⟨0,0,0⟩:Be).cp b).a0),I (((⟨0,0,0⟩:Be).cp b).a1),I (((⟨0,0,0⟩:Be).cp b).a2)]) (ee st e) (eR st) Vq aX.bk rfl rfl (show 0+3≤3 by decide) (Cg rfl) rfl) ?_;rintro _ dB bI;have cD:=cC.gr bI.gr 0 rfl;refine wA (v:=.bool true) rfl<|Ag<|Ab<|AI ?_;obtain rfl:=oi a;refine QV (N:=36) (v:=.agg #[I (((⟨0,0,0⟩:Be).cp b).a0),I (((⟨0,0,0⟩:Be).cp b).a1),I (((⟨0,0,0⟩:Be).cp b).a2)]) (v':=.bool true) rfl ⟨_,e,GP QE bI.bk rfl rfl⟩ rfl ?_;exact⟨cD.Bc,⟨_,_,rfl,⟨_,rfl,rfl⟩,rfl⟩⟩
theorem AhI bD m bP o p g h q r aQ aR(Z:Nat→Prop) w(bX:Sl AM w Z o p m.AF)(bY:Sl (BO (Ay .i64)) w Z g h m.BW)(bZ:Sl AQ w Z q r m.Bt)(b4:Sl (Ay .i64) w Z aQ aR bP) c0(a:QD bD m bP=some c0):
 Cw Tryz.prog 150 #[.agg (AU o p g h q r m).toArray,.slice aQ bP.length aR] w (fun v w'=>Ext w w'∧(PN (Gp (Ay .i64)) (Ev .i64)).R w' (zf Z w []) v c0):=by
 unfold QD at a;refine AS (N:=40) Tryz.func150 rfl rfl (by simp) ?_;intro dG ha dH;have cH:=sA 0 ha;have cI:=sA 1 ha;clear ha;have b9:Hp FN [] w [] w:=Hp.start (Cc.none w);have ⟨bE,bF,bG,bH⟩:=F4 bX bY bZ b4 (Bh (Z:=Z) (L:=[]) w);refine Af<|Ad<|wE (fun st=>Ci (v:=.agg (AU o p g h q r m).toArray) (cs:=(AU o p g h q r m).toArray) (ee st cH) rfl) ?_;rintro _ w1 ⟨b1,rfl,aI⟩;have c1:=b9.nb aI;have c9:=b9.Cr aI;refine wA (v:=.slice none 0 0) rfl<|wA (v:=I 0) rfl<|Ag<|Ab<|Af<|Af<|Ad<|wD (fun st=>AR (l:=(AU o p g h q r m)) N9 (eR st) aI.bk rfl rfl) ?_;have ⟨aJ,aK,aL⟩:=EW bE bF bG (AP aI);replace a:=bind_some a;obtain⟨bI,c2,a⟩:=a;refine wE (fun st=>Ar Ym (eR st) (CR (eR st)) (a127 bD m o p g h q r ZA _ aJ.all aK.all aL.all bI c2)) ?_;rintro _ dO ⟨a8,rfl⟩;have cA:=c1.ext a8;refine wA (v:=I bI) rfl<|Ag<|Ab<|Af<|Ad<|wM (v:=I bI) rfl<|wD (fun st=>DW (eR st) (eR st))<|Ag<|Ab ?_;rcases Ak (bI !=0) with aT|aT
 ·replace a:=Az a aT;refine AD rfl aT<|Af<|Ad<|wM (v:=I bI) rfl<|wA (v:=.slice none 0 0) rfl<|wA (v:=I bI) rfl<|Ag<|Ab<|AI<|Ax ?_;obtain rfl:=oi a;refine F1 rfl rfl rfl ?_;exact⟨cA.Bc,⟨_,_,rfl,⟨_,_,rfl,Sl.nil _ _ _⟩,rfl⟩⟩
 ·replace a:=AA a aT;refine AE rfl aT<|AL<|Ab<|Af<|Ad ?_;have a9:=(aI.bk.ext a8);refine wD (fun st=>AR (l:=(AU o p g h q r m)) N9 (eR st) a9 rfl rfl)<|wM (v:=.slice aQ bP.length aR) cI ?_;have ⟨bJ,aM,bK⟩:=EW aJ aK aL (Ah a8);have bL:=((bH.mv (AP aI)).mv (Ah a8));replace a:=bind_some a;obtain⟨c,c3,a⟩:=a;refine wE (fun st=>Ar Abd (eR st) (Dw (eR st) (eR st)) (AgA bD m bP o p g h q r aQ aR ZA _ bJ.all aM.all bK.all bL.all c c3)) ?_;rintro _ dP ⟨bQ,⟨_,_,rfl,⟨_,rfl,rfl⟩,rfl⟩⟩;have cB:=cA.ext bQ;refine wM (v:=.tuple #[.agg #[I c.1.a0,I c.1.a1,I c.1.a2],.bool c.2]) rfl<|wD (fun st=>BH (v:=.agg #[I c.1.a0,I c.1.a1,I c.1.a2]) (eR st) rfl)<|wD (fun st=>BH (v:=.bool c.2) (eR st) rfl)<|wE (fun st=>DH (cs:= #[I 0,I 0,I 0]) WJ rfl) ?_;rintro _ dQ ⟨aU,rfl,aV⟩;have bR:=cB.nb aV;have dA:=cB.Cr aV;refine Dk rfl rfl (fun st=>CS (n:=3) (l:=[I c.1.a0,I c.1.a1,I c.1.a2]) (EZ:= #[I c.1.a0,I c.1.a1,I c.1.a2]) (eR st) (eR st) Vq aV.bk rfl rfl (show 0+3≤3 by decide) (Cg rfl) rfl) ?_;rintro _ dC bA;have cC:=bR.gr bA.gr 0 rfl;refine wA (v:=.bool c.2) rfl<|Ag<|Ab<|Af<|Af<|Ad<|wM (v:=.bool c.2) rfl<|wD (fun st=>Dz (eR st))<|Ag<|Ab ?_;rcases Ak (!c.2) with aE|aE
  ·replace a:=Az a aE;have c4:c.2=false:=by simpa using aE
   refine AD rfl aE<|Af<|Ad<|wA (v:=.slice none 0 0) rfl<|wA (v:=I 2) rfl<|Ag<|Ab<|AI<|Ax ?_;obtain rfl:=oi a;refine F1 rfl rfl rfl ?_;exact⟨cC.Bc,⟨_,_,rfl,⟨_,_,rfl,Sl.nil _ _ _⟩,rfl⟩⟩
  ·replace a:=AA a aE;have c5:c.2=true:=by simpa using aE
   refine AE rfl aE<|AL<|Ab<|Af<|Ad<|wA (v:=.slice none 0 0) rfl<|Ag<|Ab<|Af<|Af<|Ad<|wD (fun st=>Ai (eR st) (PH _ _)) ?_;have b5:=(((a9.ext bQ).ext aV.gr).gr bA.gr (bR.nq 1 0));refine wD (fun st=>AG (v:=.slice g m.BW.length h) El (eR st) b5 rfl)<|wD (fun st=>Bu Tryz.underlying23 (eR st))<|wM (v:=I 0) rfl<|Ag<|Ab<|AT ?_;have c6:=cC.nil;have cJ:BY (Ay .i64) 3 w.heap.size dC (zf Z w [none,some aU,some b1]) none 0 ([]:List Int):=BY.nil _ _ _ _ _;replace a:=bind_some a;obtain⟨z12,y,a⟩:=a;refine Cm (fun c7 s aZ=>(c7=.exit 0∧∃b d,s.tmps.size=40∧s.defers=(X0).ds∧sl s 9=.slice b z12.length d∧Hp FN [] w [ob b,some aU,some b1] aZ∧BY (Ay .i64) 3 w.heap.size aZ (zf Z w [ob b,some aU,some b1]) b d z12)) ?cK ?cL
   case cK=>
    clear a;refine Cl (fun(cM:Nat) (s:Act) (aZ:World)=>∃j,∃i,∃f t,NM bD m c cM j i=some z12∧s.tmps.size=40∧s.defers=(X0).ds∧sl s 7=pt aU 0∧sl s 9=.slice f j.length t∧sl s 26=.slice g m.BW.length h∧sl s 27=I (m.BW.length:Int)∧sl s 28=I i∧Hp FN [] w [ob f,some aU,some b1] aZ∧BY (Ay .i64) 3 w.heap.size aZ (zf Z w [ob f,some aU,some b1]) f t j∧Bk aZ aU 182 #[I c.1.a0,I c.1.a1,I c.1.a2]∧Sl (BO (Ay .i64)) aZ (zf Z w [ob f,some aU,some b1]) g h m.BW) bD ?cN ?cO
    case cN=>
     intro st;have b6:=bA.bk;have bM:=((((aM.mv (Ah bQ)).mv (AP aV)).mv (bR.C4 bA.gr 0 rfl)).mv CA);exact⟨([]:List Int),(0:Int),none,0,y,qz st,qd st,sp st 7 rfl,sp st 9 rfl,sp st 26 rfl,sp st 27 rfl,sp st 28 rfl,c6,cJ,b6,bM⟩
    case cO=>
     rintro(_|cM) dD dE ⟨j,i,f,t,y,b7,b8,aW,aX,aN,aO,z,cD,x,aP,aA⟩
     ·exact absurd (show none=some _ from y) (by simp)
     rw[NM.eq_2] at y;have a:=y;clear y;refine B7 (N:=40) b7 b8<|Af<|Ad<|wD (fun st=>CO (ee st z) (ee st aO))<|Ag<|Ab<|Af ?_;rcases Ak (decide (i<(m.BW.length:Int))) with aF|aF
     ·replace a:=Az a aF;refine AD rfl aF<|AL<|Ab<|Af<|AT<|Af<|Ad ?_;replace a:=AW a;obtain⟨i15,bB,cP,cQ,cR,a⟩:=a;obtain⟨dI,dJ,_,cS,⟨aC,aD,rfl,bS⟩,cT⟩:=Sl.C1 aA rfl cQ;refine wD (fun st=>AX (k:=i15) Tryz.underlying23 FX (ee st aN) cS (ee st z) cP cR)<|wD (fun st=>Bg (v:=.slice aC bB.length aD) Eu (eR st) cT rfl)<|wA (v:=.slice aC bB.length aD) rfl<|Ag<|Ab<|Ad<|wM (v:=.slice f j.length t) aX<|wD (fun st=>AR (l:=[I c.1.a0,I c.1.a1,I c.1.a2]) QE (ee st aW) aP rfl rfl)<|wM (v:=.slice aC bB.length aD) rfl ?_;replace a:=bind_some a;obtain⟨aG,cU,a⟩:=a;refine wE (fun st=>Ar Abb (eR st) (Dw (eR st) (eR st)) (a183 bD c.1 bB aC aD ZA _ bS.all aG cU)) ?_;rintro _ dK ⟨aH,rfl⟩;have cE:=cD.ext aH;refine wE (fun st=>De (e:=3) (vs:= #[(0,I aG)]) (cs:= #[I aG]) (JN (eR st)) (by kernel_rfl)) ?_;rintro _ dL ⟨dM,rfl,u⟩;have aY:=cE.nb u;have c8:=cE.Cr u;have a3:=((x.ext aH (Ah aH)).ext u.gr (AP u));replace a:=Ck a;obtain⟨bT,a⟩:=a;refine wE (fun st=>Jd (ys:=[aG]) Tryz.underlying31 Hv rfl rfl (by decide) (eR st) rfl (eR st) a3 (ID (DQ:=[[I aG]]) u.bk ⟨rfl,trivial⟩ rfl) (by have:=bT;simp only[maxLen];omega) (by have:=bT;omega) aY.sz (by simp)) ?_;rintro _ dN ⟨cF,cG,rfl,aS,a4,cV⟩;have cW:=aY.row aS 1 rfl a4;have cX:=ED cV (aY.DN aS 1 rfl (fun k hk=>(a4 k hk).1));refine wA (v:=.slice cF ((j++[aG]).length) cG) rfl<|Ag<|Bs<|Ab<|Ad ?_;replace a:=AK a;obtain⟨cY,a⟩:=a;refine wD (fun st=>B0 (ee st z) (eR st) cY)<|wM (v:=I (i+1)) rfl<|Ag ?_;have cZ:=cW.erase 0;have bN:=(cX.up (Bp 0));have bU:=(((aP.ext aH).ext u.gr).gr aS (aY.nq 2 1));have a5:=((((aA.mv (Ah aH)).mv (AP u)).mv (aY.DN aS 1 rfl (fun k hk=>(a4 k hk).1))).mv (Bp 0));refine Bw cM (Nat.lt_succ_self _) (fun st=>?_);exact⟨(j++[aG]),(i+1),cF,cG,a,qz st,qd st,sp st 7 aW,sp st 9 rfl,sp st 26 aN,sp st 27 aO,sp st 28 rfl,cZ,bN,bU,a5⟩
     ·replace a:=AA a aF;refine AE rfl aF<|Cd<|AB<|AB ?_;obtain rfl:=oi a;refine B4 (fun st=>?_);exact⟨rfl,f,t,qz st,qd st,sp st 9 aX,cD,x⟩
   case cL=>
    rintro c7 dB dF (⟨rfl,b,d,bV,bW,bO,bC,aB⟩);refine Cn (X:=X0) (N:=40) bV bW<|Bn<|Ab<|Af<|Ad<|wM (v:=.slice b z12.length d) bO<|wA (v:=.slice b z12.length d) rfl<|wA (v:=I 0) rfl<|Ag<|Ab<|AI ?_;obtain rfl:=oi a;refine F1 rfl rfl rfl ?_;exact⟨bC.Bc,⟨_,_,rfl,⟨_,_,rfl,bC.IA (M:=[]) 0 rfl [] rfl trivial aB⟩,rfl⟩⟩
theorem a79 aP k aL d e f g h i u x(Z:Nat→Prop) w(aQ:Sl AM w Z d e k.AF)(aR:Sl (BO (Ay .i64)) w Z f g k.BW)(aS:Sl AQ w Z h i k.Bt)(aT:Sl (Ay .i64) w Z u x aL) a8(a:Fs aP k aL=some a8):
 Cw Tryz.prog 79 #[.agg (AU d e f g h i k).toArray,.slice u aL.length x] w (fun v w'=>Ext w w'∧Dg.R w' (zf Z w []) v a8):=by
 unfold Fs at a;refine AS (N:=22) Tryz.func79 rfl rfl (by simp) ?_;intro bG ha bH;have aZ:=sA 0 ha;have a3:=sA 1 ha;clear ha;have aV:Hp FN [] w [] w:=Hp.start (Cc.none w);have ⟨aD,aE,aF,aG⟩:=F4 aQ aR aS aT (Bh (Z:=Z) (L:=[]) w);refine Af<|Ad<|wE (fun st=>Ci (v:=.agg (AU d e f g h i k).toArray) (cs:=(AU d e f g h i k).toArray) (ee st aZ) rfl) ?_;rintro _ w1 ⟨b1,rfl,m⟩;have a9:=aV.nb m;have bE:=aV.Cr m;refine wA (v:=.bool false) rfl<|Ag<|Ab<|Af<|Af<|Ad<|wD (fun st=>AR (l:=(AU d e f g h i k)) N9 (eR st) m.bk rfl rfl) ?_;have ⟨o,p,q⟩:=EW aD aE aF (AP m);replace a:=bind_some a;obtain⟨bA,bB,a⟩:=a;refine wE (fun st=>Ar Ym (eR st) (CR (eR st)) (a127 aP k d e f g h i ZA _ o.all p.all q.all bA bB)) ?_;rintro _ bJ ⟨aA,rfl⟩;have aW:=a9.ext aA;refine wD (fun st=>DW (eR st) (eR st))<|Ag<|Ab ?_;rcases Ak (bA !=0) with y|y
 ·replace a:=Az a y;refine AD rfl y<|Af<|Ad<|wA (v:=.bool false) rfl<|Ag<|Ab<|AI<|Ax ?_;obtain rfl:=oi a;refine AJ rfl rfl ?_;exact⟨aW.Bc,rfl⟩
 ·replace a:=AA a y;refine AE rfl y<|AL<|Ab<|Af<|Ad ?_;have aB:=(m.bk.ext aA);refine wD (fun st=>AR (l:=(AU d e f g h i k)) N9 (eR st) aB rfl rfl)<|wM (v:=.slice u aL.length x) a3 ?_;have ⟨r,s,t⟩:=EW o p q (Ah aA);have aH:=((aG.mv (AP m)).mv (Ah aA));replace a:=bind_some a;obtain⟨b,bC,a⟩:=a;refine wE (fun st=>Ar Abd (eR st) (Dw (eR st) (eR st)) (AgA aP k aL d e f g h i u x ZA _ r.all s.all t.all aH.all b bC)) ?_;rintro _ bK ⟨aM,⟨_,_,rfl,⟨_,rfl,rfl⟩,rfl⟩⟩;have aX:=aW.ext aM;refine wM (v:=.tuple #[.agg #[I b.1.a0,I b.1.a1,I b.1.a2],.bool b.2]) rfl<|wD (fun st=>BH (v:=.agg #[I b.1.a0,I b.1.a1,I b.1.a2]) (eR st) rfl)<|wD (fun st=>BH (v:=.bool b.2) (eR st) rfl)<|wE (fun st=>DH (cs:= #[I 0,I 0,I 0]) WJ rfl) ?_;rintro _ bL ⟨bM,rfl,z⟩;have aN:=aX.nb z;have bF:=aX.Cr z;refine Dk rfl rfl (fun st=>CS (n:=3) (l:=[I b.1.a0,I b.1.a1,I b.1.a2]) (EZ:= #[I b.1.a0,I b.1.a1,I b.1.a2]) (eR st) (eR st) Vq z.bk rfl rfl (show 0+3≤3 by decide) (Cg rfl) rfl) ?_;rintro _ bN aC;have aY:=aN.gr aC.gr 0 rfl;refine wA (v:=.bool b.2) rfl<|Ag<|Ab<|Af<|Ad<|wM (v:=.bool b.2) rfl<|wM (v:=.bool b.2) rfl ?_;rcases Ak (b.2) with j|j
  ·replace a:=Az a j;have aU:=(((aB.ext aM).ext z.gr).gr aC.gr (aN.nq 1 0));refine An rfl rfl (Ae rfl j) rfl (by decide) (fun st=>AR (l:=(AU d e f g h i k)) N9 (eR st) aU rfl rfl)<|An rfl rfl (Ae rfl j) rfl (by decide) (fun st=>AR (l:=[I b.1.a0,I b.1.a1,I b.1.a2]) QE (eR st) aC.bk rfl rfl) ?_;have ⟨aI,aJ,aK⟩:=EW r s t (mt (Ah aM) (mt (AP z) (aN.C4 aC.gr 0 rfl)));replace a:=bind_some a;obtain⟨aO,a4,a⟩:=a;refine Di rfl rfl (Ae rfl j) rfl (by decide) (fun st=>Ar Ae5 (eR st) (EN (eR st) (eR st) (eR st)) (AhH aP k b.1 ([]:List Int) d e f g h i none 0 ZA _ aI.all aJ.all aK.all (Sl.nil (Ay .i64) _ _) aO a4)) ?_;rintro _ bI ⟨a5,rfl⟩;have bD:=aY.ext a5;refine wD (fun st=>AY (v:=.bool aO) (eR st) j (eR st))<|wA (v:=.bool aO) rfl<|Ag<|Ab<|AI ?_;obtain rfl:=oi a;refine AJ rfl rfl ?_;exact⟨bD.Bc,rfl⟩
  ·replace a:=AA a j;refine Au (c:=false) rfl rfl (Ae rfl j) (by decide) rfl (by decide)<|Au (c:=false) rfl rfl (Ae rfl j) (by decide) rfl (by decide)<|Au (c:=false) rfl rfl (Ae rfl j) (by decide) rfl (by decide)<|wD (fun st=>BC (v:=.bool false) (eR st) j (eR st))<|wA (v:=.bool false) rfl<|Ag<|Ab<|AI ?_;obtain rfl:=oi a;refine AJ rfl rfl ?_;exact⟨aY.Bc,rfl⟩
end Go.Proofs.YtbhofkcbfblijaaGreat
end
