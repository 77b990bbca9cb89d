import Derived.Test.YtbhofkcbfblijaaGreatCK6
import Derived.Test.YtbhofkcbfblijaaGreatRows
/-
  Proved: the law TradeFilled returns true for every argument that the row hands over, and leaves every argument as it was; no condition beside the row's own.
-/
set_option linter.all false
section
namespace Go.Proofs.YtbhofkcbfblijaaGreat
open Go.RowKit Go.WideShapes
def CG(e:Nat)(c:AJ)(f:List Int):Nat→(List Int)→Int→Option ((List Int))
 |0,_,_=>none
 |g+1,b,a=>cond (decide (a<(c.AE.length:Int))) ((F9 e f a).bind fun d=>(rem d (max (1:Int) (c.Ab.length:Int))).bind fun _=>(FJ (((b.length+[d%(max (1:Int) (c.Ab.length:Int))].length:Nat):Int)≤140737488355328/8)).bind fun _=>(i64 (a+1)).bind fun _=>CG e c f g (b++[d%(max (1:Int) (c.Ab.length:Int))]) (a+1)) (some (b))
def DK(e:Nat)(c:AJ)(f:List Int):Nat→(List Int)→Int→Option ((List Int))
 |0,_,_=>none
 |g+1,b,a=>cond (decide (a<(c.AE.length:Int))) ((F9 e f a).bind fun d=>(rem d (max (1:Int) (c.Ab.length:Int))).bind fun _=>(FJ (((b.length+[d%(max (1:Int) (c.Ab.length:Int))].length:Nat):Int)≤140737488355328/8)).bind fun _=>(i64 (a+1)).bind fun _=>DK e c f g (b++[d%(max (1:Int) (c.Ab.length:Int))]) (a+1)) (some (b))
def Ez(d:Nat)(b:AJ)(c:(List Int)×Int)(e:List Int):Nat→Int→Option ((Bool)⊕(Unit))
 |0,_=>none
 |p+1,a=>cond (decide (a<(c.1.length:Int))) ((idx c.1 a).bind fun l=>(i64 ((b.Ab.length:Int)-1)).bind fun _=>(Cs d l 0 ((b.Ab.length:Int)-1)).bind fun m=>cond (!m) (some (.inl false)) ((idx c.1 a).bind fun n=>(Ej d b n).bind fun o=>(idx b.AE a).bind fun f=>cond (decide (o<f.Cc)) (some (.inl false)) ((idx c.1 a).bind fun g=>(idx b.Ab g).bind fun h=>(Di d e h).bind fun i=>(idx b.AE a).bind fun j=>(idx b.Az j.Cr).bind fun k=>cond (decide (i<k.AT)) (some (.inl false)) ((i64 (a+1)).bind fun _=>Ez d b c e p (a+1))))) (some (.inr ()))
def Ek(e:Nat)(b:AJ)(c:(List Int)×Int)(d:List Int):Nat→Int→Option ((Bool)⊕(Unit))
 |0,_=>none
 |p+1,a=>cond (decide (a<(c.1.length:Int))) ((idx c.1 a).bind fun f=>(i64 ((b.Ab.length:Int)-1)).bind fun _=>(Cs e f 0 ((b.Ab.length:Int)-1)).bind fun g=>cond (!g) (some (.inl false)) ((idx c.1 a).bind fun h=>(Ej e b h).bind fun i=>(idx b.AE a).bind fun j=>cond (decide (i<j.Cc)) (some (.inl false)) ((idx c.1 a).bind fun k=>(idx b.Ab k).bind fun l=>(Di e d l).bind fun m=>(idx b.AE a).bind fun n=>(idx b.Az n.Cr).bind fun o=>cond (decide (m<o.AT)) (some (.inl false)) ((i64 (a+1)).bind fun _=>Ek e b c d p (a+1))))) (some (.inr ()))
def Eu(a:Nat)(c:AJ)(g:Int)(j:List Int):Option (Bool):=
 (Fe a c).bind fun aA=>cond (!aA) ((FJ (Db a=some true)).bind fun _=>some (true)) ((DC a c).bind fun aB=>(HI a aB).bind fun b=>(DC a c).bind fun k=>(Gy a k).bind fun e=>cond (b.2 !=0) (cond (b.2 !=10) (cond (b.2==9) (cond (e.2==b.2) ((FJ (Db a=some true)).bind fun _=>some (true)) (some (false))) (cond (b.2==11) (cond (e.2==b.2) ((FJ (Db a=some true)).bind fun _=>some (true)) (some (false))) (some (false)))) ((CG a c j a ([]:List Int) (0:Int)).bind fun l=>(DC a c).bind fun m=>(F8 a l).bind fun n=>(FF a m n).bind fun o=>cond (e.2==0) ((DC a c).bind fun p=>(Ha a p e.1).bind fun q=>cond (q) (cond (!o) ((FJ (Db a=some true)).bind fun _=>some (true)) (some (false))) (some (false))) (some (false)))) ((DK a c j a ([]:List Int) (0:Int)).bind fun z53=>(DC a c).bind fun r=>(F8 a z53).bind fun s=>(FF a r s).bind fun t=>(Gl a c).bind fun d=>cond (e.2 !=7) (some (false)) (cond ((d.length:Int)==0) (some (false)) (cond ((b.1.length:Int) !=(c.AE.length:Int)) (some (false)) ((DC a c).bind fun u=>(F8 a b.1).bind fun v=>(FF a u v).bind fun w=>cond (!w) (some (false)) (cond (t) ((Gk a z53 b.1).bind fun x=>cond (x) (some (false)) ((MB .i64 g).bind fun _=>(rem g (d.length:Int)).bind fun _=>(idx d (g%(d.length:Int))).bind fun y=>(Ez a c b y a (0:Int)).bind fun z=>Sum.elim (fun h=>some (h)) (fun h=>(FJ (Db a=some true)).bind fun _=>some (true)) z)) ((MB .i64 g).bind fun _=>(rem g (d.length:Int)).bind fun _=>(idx d (g%(d.length:Int))).bind fun i=>(Ek a c b i a (0:Int)).bind fun z=>Sum.elim (fun f=>some (f)) (fun f=>(FJ (Db a=some true)).bind fun _=>some (true)) z)))))))
end Go.Proofs.YtbhofkcbfblijaaGreat
end
section
namespace Go.Proofs.YtbhofkcbfblijaaGreat
theorem ZP:∀a b c:Bool,(a.toNat+b.toNat+c.toNat≥1)↔(a||b||c)=true:=by decide
theorem ZQ:∀a b c d e f:Bool,((a.toNat+b.toNat+c.toNat≥1)∧(d.toNat+e.toNat+f.toNat≥1)∧(a||d).toNat+(b||e).toNat+(c||f).toNat≥2)↔(a&&e||a&&f||b&&d||b&&f||c&&d||c&&e)=true:=by decide
set_option maxRecDepth 100000 in
theorem Gs:∀a b c d e f g h i:Bool,((a.toNat+b.toNat+c.toNat≥1)∧(d.toNat+e.toNat+f.toNat≥1)∧(g.toNat+h.toNat+i.toNat≥1)∧(a||d).toNat+(b||e).toNat+(c||f).toNat≥2∧(a||g).toNat+(b||h).toNat+(c||i).toNat≥2∧(d||g).toNat+(e||h).toNat+(f||i).toNat≥2∧(a||d||g).toNat+(b||e||h).toNat+(c||f||i).toNat≥3)↔
  (a&&e&&i||a&&f&&h||b&&d&&i||b&&f&&g||c&&d&&h||c&&e&&g)=true:=by decide+kernel
theorem T4{n:Nat}(c:n≤3){l:List Int}(h:∀x∈l,0≤x∧x<(n:Int)):distinct n l=(l.contains 0).toNat+(l.contains 1).toNat+(l.contains 2).toNat:=by
 have no:∀k:Nat,n≤k→l.contains (k:Int)=false:=fun k e=>by
  rw[Bool.eq_false_iff];intro g;have:=h _ (List.contains_iff_mem.1 g);omega
 have d:=no 0;have b:=no 1;have a:=no 2;unfold distinct
 match n,c with
 |0,_=>rw[show l.contains (0:Int)=false from d (by omega),show l.contains (1:Int)=false from b (by omega),show l.contains (2:Int)=false from a (by omega)];rfl
 |1,_=>
  rw[show l.contains (1:Int)=false from b (by omega),show l.contains (2:Int)=false from a (by omega)];show(List.filter _ [0]).length=_;rw[List.filter_cons];show(if l.contains (0:Int)=true then _ else _:List Nat).length=_;cases l.contains (0:Int)<;>rfl
 |2,_=>
  rw[show l.contains (2:Int)=false from a (by omega)];show(List.filter _ [0,1]).length=_;rw[List.filter_cons,List.filter_cons];show(if l.contains (0:Int)=true then 0::(if l.contains (1:Int)=true then _ else _) else (if l.contains (1:Int)=true then _ else _):List Nat).length=_;cases l.contains (0:Int)<;>cases l.contains (1:Int)<;>rfl
 |3,_=>
  show(List.filter _ [0,1,2]).length=_;rw[List.filter_cons,List.filter_cons,List.filter_cons];show(if l.contains (0:Int)=true then 0::(if l.contains (1:Int)=true then 1::(if l.contains (2:Int)=true then _ else _) else (if l.contains (2:Int)=true then _ else _)) else (if l.contains (1:Int)=true then 1::(if l.contains (2:Int)=true then _ else _) else (if l.contains (2:Int)=true then _ else _)):List Nat).length=_;cases l.contains (0:Int)<;>cases l.contains (1:Int)<;>cases l.contains (2:Int)<;>rfl
theorem Dr(l m:List Int)(x:Int):(l++m).contains x=(l.contains x||m.contains x):=by
 rw[Bool.eq_iff_iff,Bool.or_eq_true,List.contains_iff_mem,List.contains_iff_mem,List.contains_iff_mem,List.mem_append]
def Gd (S:List (List Int)) (l:List Int):Bool:=decide ((((l.flatMap fun i=>S.getD i.toNat []).contains 0).toNat+((l.flatMap fun i=>S.getD i.toNat []).contains 1).toNat+((l.flatMap fun i=>S.getD i.toNat []).contains 2).toNat)<l.length)
theorem Lc{S:List (List Int)}(aD:S.length≤3)(aE:∀s∈S,∀x∈s,0≤x∧x<3):(∃d,C4 S [] d=true)↔∀s,s<2^S.length→Gd S (EF s)=false:=by
 have g:∀d,C4 S [] d=true→∀x∈d,x=0∨x=1∨x=2:=fun d a x e=>by
  obtain⟨i,hi,rfl⟩:=List.getElem_of_mem e;have hl:=I7 a;have:=aE _ (List.getElem_mem (show i<S.length by omega)) _ (NO a i hi (by omega));omega
 match S,aD with
 |[],_=>
  refine⟨fun _ s hs=>?_,fun _=>⟨[],rfl⟩⟩;obtain rfl:s=0:=by simp at hs;omega
  decide
 |[p],_=>
  have j:Gd [p] (EF 0)=false:=rfl;have c:Gd [p] (EF 1)=decide ((p.contains 0).toNat+(p.contains 1).toNat+(p.contains 2).toNat<1):=by
   show Gd [p] [0]=_;simp only[Gd,List.flatMap_cons,List.flatMap_nil,List.append_nil];rfl
  have f:=ZP (p.contains 0) (p.contains 1) (p.contains 2);have key:(∀s,s<2^[p].length→Gd [p] (EF s)=false)↔(p.contains 0||p.contains 1||p.contains 2)=true:=by
   rw[←f];constructor
   ·intro h;have:=h 1 (by simp);rw[c,decide_eq_false_iff_not] at this;omega
   ·intro h s hs;have:s=0∨s=1:=by simp at hs;omega
    rcases this with rfl|rfl
    ·exact j
    ·rw[c,decide_eq_false_iff_not];omega
  rw[key];constructor
  ·rintro⟨d,a⟩
   match d,a,I7 a with
   |[x],a,_=>
    have e:=g [x] a x (by simp);rw[C4,OO] at a;rcases e with rfl|rfl|rfl<;>simp only[a.1,Bool.true_and,Bool.and_true,Bool.true_or,Bool.or_true,Bool.and_self]
  ·intro h;rw[Bool.or_eq_true,Bool.or_eq_true] at h;rcases h with(h|h)|h
   ·exact⟨[0],by rw[C4,h];rfl⟩
   ·exact⟨[1],by rw[C4,h];rfl⟩
   ·exact⟨[2],by rw[C4,h];rfl⟩
 |[p,q],_=>
  have j:Gd [p,q] (EF 0)=false:=rfl;have c:Gd [p,q] (EF 1)=decide ((p.contains 0).toNat+(p.contains 1).toNat+(p.contains 2).toNat<1):=by
   show Gd [p,q] [0]=_;simp only[Gd,List.flatMap_cons,List.flatMap_nil,List.append_nil];rfl
  have k:Gd [p,q] (EF 2)=decide ((q.contains 0).toNat+(q.contains 1).toNat+(q.contains 2).toNat<1):=by
   show Gd [p,q] [1]=_;simp only[Gd,List.flatMap_cons,List.flatMap_nil,List.append_nil];rfl
  have l:Gd [p,q] (EF 3)=decide ((p.contains 0||q.contains 0).toNat+(p.contains 1||q.contains 1).toNat+(p.contains 2||q.contains 2).toNat<2):=by
   show Gd [p,q] [0,1]=_;rw[←Dr,←Dr,←Dr];simp only[Gd,List.flatMap_cons,List.flatMap_nil,List.append_nil];rfl
  have f:=ZQ (p.contains 0) (p.contains 1) (p.contains 2) (q.contains 0) (q.contains 1) (q.contains 2);constructor
  ·rintro⟨d,a⟩;have o:=f.2 (by
     match d,a,I7 a with
     |[x,y],a,_=>
      have e:=g [x,y] a x (by simp);have t:=g [x,y] a y (by simp);rw[C4,OO,C4,OO] at a;obtain⟨h1,_,h2,b,_⟩:=a;rcases e with rfl|rfl|rfl<;>rcases t with rfl|rfl|rfl<;>first|(simp only[h1,h2,Bool.true_and,Bool.and_true,Bool.true_or,Bool.or_true,Bool.and_self];done)|exact absurd b (by decide))
   obtain⟨h1,h2,b⟩:=o;intro s hs;have:s=0∨s=1∨s=2∨s=3:=by simp at hs;omega
   rcases this with rfl|rfl|rfl|rfl
   ·exact j
   ·rw[c,decide_eq_false_iff_not];omega
   ·rw[k,decide_eq_false_iff_not];omega
   ·rw[l,decide_eq_false_iff_not];omega
  ·intro h;have h1:=h 1 (by simp);have h2:=h 2 (by simp);have b:=h 3 (by simp);rw[c,decide_eq_false_iff_not] at h1;rw[k,decide_eq_false_iff_not] at h2;rw[l,decide_eq_false_iff_not] at b;have h:=f.1 ⟨by omega,by omega,by omega⟩;simp only[Bool.or_eq_true,Bool.and_eq_true] at h;rcases h with((((⟨h1,h2⟩|⟨h1,h2⟩)|⟨h1,h2⟩)|⟨h1,h2⟩)|⟨h1,h2⟩)|⟨h1,h2⟩
   ·exact⟨[0,1],by rw[C4,h1,C4,h2];rfl⟩
   ·exact⟨[0,2],by rw[C4,h1,C4,h2];rfl⟩
   ·exact⟨[1,0],by rw[C4,h1,C4,h2];rfl⟩
   ·exact⟨[1,2],by rw[C4,h1,C4,h2];rfl⟩
   ·exact⟨[2,0],by rw[C4,h1,C4,h2];rfl⟩
   ·exact⟨[2,1],by rw[C4,h1,C4,h2];rfl⟩
 |[p,q,r],_=>
  have j:Gd [p,q,r] (EF 0)=false:=rfl;have c:Gd [p,q,r] (EF 1)=decide ((p.contains 0).toNat+(p.contains 1).toNat+(p.contains 2).toNat<1):=by
   show Gd [p,q,r] [0]=_;simp only[Gd,List.flatMap_cons,List.flatMap_nil,List.append_nil];rfl
  have k:Gd [p,q,r] (EF 2)=decide ((q.contains 0).toNat+(q.contains 1).toNat+(q.contains 2).toNat<1):=by
   show Gd [p,q,r] [1]=_;simp only[Gd,List.flatMap_cons,List.flatMap_nil,List.append_nil];rfl
  have u:Gd [p,q,r] (EF 4)=decide ((r.contains 0).toNat+(r.contains 1).toNat+(r.contains 2).toNat<1):=by
   show Gd [p,q,r] [2]=_;simp only[Gd,List.flatMap_cons,List.flatMap_nil,List.append_nil];rfl
  have l:Gd [p,q,r] (EF 3)=decide ((p.contains 0||q.contains 0).toNat+(p.contains 1||q.contains 1).toNat+(p.contains 2||q.contains 2).toNat<2):=by
   show Gd [p,q,r] [0,1]=_;rw[←Dr,←Dr,←Dr];simp only[Gd,List.flatMap_cons,List.flatMap_nil,List.append_nil];rfl
  have v:Gd [p,q,r] (EF 5)=decide ((p.contains 0||r.contains 0).toNat+(p.contains 1||r.contains 1).toNat+(p.contains 2||r.contains 2).toNat<2):=by
   show Gd [p,q,r] [0,2]=_;rw[←Dr,←Dr,←Dr];simp only[Gd,List.flatMap_cons,List.flatMap_nil,List.append_nil];rfl
  have w:Gd [p,q,r] (EF 6)=decide ((q.contains 0||r.contains 0).toNat+(q.contains 1||r.contains 1).toNat+(q.contains 2||r.contains 2).toNat<2):=by
   show Gd [p,q,r] [1,2]=_;rw[←Dr,←Dr,←Dr];simp only[Gd,List.flatMap_cons,List.flatMap_nil,List.append_nil];rfl
  have aA:Gd [p,q,r] (EF 7)=decide ((p.contains 0||q.contains 0||r.contains 0).toNat+(p.contains 1||q.contains 1||r.contains 1).toNat+(p.contains 2||q.contains 2||r.contains 2).toNat<3):=by
   show Gd [p,q,r] [0,1,2]=_;rw[←Dr,←Dr,←Dr,←Dr,←Dr,←Dr];simp only[Gd,List.flatMap_cons,List.flatMap_nil,List.append_nil,List.append_assoc];rfl
  have f:=Gs (p.contains 0) (p.contains 1) (p.contains 2) (q.contains 0) (q.contains 1) (q.contains 2) (r.contains 0) (r.contains 1) (r.contains 2);constructor
  ·rintro⟨d,a⟩;have o:=f.2 (by
     match d,a,I7 a with
     |[x,y,z],a,_=>
      have e:=g [x,y,z] a x (by simp);have t:=g [x,y,z] a y (by simp);have aF:=g [x,y,z] a z (by simp);rw[C4,OO,C4,OO,C4,OO] at a;obtain⟨h1,_,h2,b,m,n,_⟩:=a;rcases e with rfl|rfl|rfl<;>rcases t with rfl|rfl|rfl<;>first|exact absurd b (by decide)|(rcases aF with rfl|rfl|rfl<;>first|exact absurd n (by decide)|(simp only[h1,h2,m,Bool.true_and,Bool.and_true,Bool.true_or,Bool.or_true,Bool.and_self];done)))
   obtain⟨h1,h2,m,b,n,aB,aC⟩:=o;intro s hs;have:s=0∨s=1∨s=2∨s=3∨s=4∨s=5∨s=6∨s=7:=by simp at hs;omega
   rcases this with rfl|rfl|rfl|rfl|rfl|rfl|rfl|rfl
   ·exact j
   ·rw[c,decide_eq_false_iff_not];omega
   ·rw[k,decide_eq_false_iff_not];omega
   ·rw[l,decide_eq_false_iff_not];omega
   ·rw[u,decide_eq_false_iff_not];omega
   ·rw[v,decide_eq_false_iff_not];omega
   ·rw[w,decide_eq_false_iff_not];omega
   ·rw[aA,decide_eq_false_iff_not];omega
  ·intro h;have h1:=h 1 (by simp);have h2:=h 2 (by simp);have b:=h 3 (by simp);have m:=h 4 (by simp);have n:=h 5 (by simp);have aB:=h 6 (by simp);have aC:=h 7 (by simp);rw[c,decide_eq_false_iff_not] at h1;rw[k,decide_eq_false_iff_not] at h2;rw[l,decide_eq_false_iff_not] at b;rw[u,decide_eq_false_iff_not] at m;rw[v,decide_eq_false_iff_not] at n;rw[w,decide_eq_false_iff_not] at aB;rw[aA,decide_eq_false_iff_not] at aC;have h:=f.1 ⟨by omega,by omega,by omega,by omega,by omega,by omega,by omega⟩;simp only[Bool.or_eq_true,Bool.and_eq_true] at h;rcases h with((((⟨⟨h1,h2⟩,b⟩|⟨⟨h1,h2⟩,b⟩)|⟨⟨h1,h2⟩,b⟩)|⟨⟨h1,h2⟩,b⟩)|⟨⟨h1,h2⟩,b⟩)|⟨⟨h1,h2⟩,b⟩
   ·exact⟨[0,1,2],by rw[C4,h1,C4,h2,C4,b];rfl⟩
   ·exact⟨[0,2,1],by rw[C4,h1,C4,h2,C4,b];rfl⟩
   ·exact⟨[1,0,2],by rw[C4,h1,C4,h2,C4,b];rfl⟩
   ·exact⟨[1,2,0],by rw[C4,h1,C4,h2,C4,b];rfl⟩
   ·exact⟨[2,0,1],by rw[C4,h1,C4,h2,C4,b];rfl⟩
   ·exact⟨[2,1,0],by rw[C4,h1,C4,h2,C4,b];rfl⟩
theorem Q1{t:AJ}(b:OkT t):(∃d,C4 (EO t) [] d=true)↔∀s,s<2^t.AE.length→Jo t (EF s)=false:=by
 have c:=b.kl;have f:=b.ol;have h:=Lc (S:=EO t) (by rw[Gz];exact f) (fun s hs x a=>by
  obtain⟨o,_,rfl⟩:=List.mem_map.1 hs;obtain⟨k,j,_,rfl⟩:=Li.1 a;omega)
 rw[h,Gz];have e:∀l,Jo t l=Gd (EO t) l:=fun l=>by
  unfold Jo Gd;rw[T4 c (fun x a=>by
   obtain⟨i,_,hi⟩:=Pp.1 a;exact NA _ x hi)]
  rfl
 constructor
 ·intro g s hs;rw[e];exact g s hs
 ·intro g s hs;rw[←e];exact g s hs
section
variable{K:Nat}(hK:1000≤K)
include hK
theorem Zs{ws:List Int}(hw:∀x∈ws,0≤x∧x<65536){i:Int}(hi:0≤i):∃x:Nat,x<65536∧F9 K ws i=some (x:Int):=by
 unfold F9
 by_cases h0:ws.length=0
 ·exact⟨0,by omega,by rw[ct (JS (by omega))];rfl⟩
 ·obtain⟨q,c⟩:∃q:Nat,i%(ws.length:Int)=(q:Int):=⟨(i%(ws.length:Int)).toNat,by have:=Int.emod_nonneg i (by omega:(ws.length:Int)≠0);omega⟩;have a:q<ws.length:=by have:=Int.emod_lt_of_pos i (by omega:(0:Int)<ws.length);omega
  have b:=hw _ (List.getElem_mem a);refine⟨ws[q].toNat,by omega,?_⟩;rw[cf (KD (by omega)),Qc hi (by omega),c,Co a,UN b.1 b.2,Int.toNat_of_nonneg b.1]
theorem Q2{t:AJ}(b:OkT t){x:List Int}(u:C4 (EO t) [] x=true){l:List Int}(hl:l∈EM t)(F:Nat→Int→Option (Bool⊕Unit))
  (v:∀m (i:Nat),F (m+1) (i:Int)=cond (decide ((i:Int)<(x.length:Int))) ((idx x (i:Int)).bind fun w=>(i64 ((t.Ab.length:Int)-1)).bind fun _=>(Cs K w 0 ((t.Ab.length:Int)-1)).bind fun y=>cond (!y) (some (.inl false)) ((idx x (i:Int)).bind fun z=>(Ej K t z).bind fun aA=>(idx t.AE (i:Int)).bind fun n=>cond (decide (aA<n.Cc)) (some (.inl false)) ((idx x (i:Int)).bind fun o=>(idx t.Ab o).bind fun p=>(Di K l p).bind fun q=>(idx t.AE (i:Int)).bind fun r=>(idx t.Az r.Cr).bind fun s=>cond (decide (q<s.AT)) (some (.inl false)) ((i64 ((i:Int)+1)).bind fun _=>F m ((i:Int)+1))))) (some (.inr ()))):
  F K 0=some (.inr ()):=by
 have aG:=b.ol;have aB:=I7 u;rw[Gz] at aB;have aH:=b.kl;have h:=Kn x (fun m i=>F m (i:Int)) (fun _=>true) false
  (fun m i hi=>by
   show F (m+1) (i:Int)=_;have a:i<t.AE.length:=by omega
   have hm:=NO u i hi (by rw[Gz];omega);rw[Lj a] at hm;obtain⟨k,d,hs,e⟩:=Li.1 hm;unfold KM at hs;rw[Bool.and_eq_true,decide_eq_true_eq,List.all_eq_true,EZ _ d] at hs;have aC:=of_decide_eq_true (hs.2 l hl);have aI:=(b.order _ (List.getElem_mem a)).1;obtain⟨g,aD⟩:∃g:Nat,t.AE[i].Cr=g:=⟨t.AE[i].Cr.toNat,by omega⟩;have j:g<t.Az.length:=by omega
   have aE:Il t t.AE[i]=t.Az[g].AT:=by unfold Il;rw[aD,Int.toNat_natCast,EZ _ j]
   rw[aE] at aC;have aF:=SU hK b hl;have f:Di K l t.Ab[k]=some (Dx l t.Ab[k]):=MN hK (c:=t.C) b.c aF d;rw[v,ct (dt (by omega)),Co hi,B4 (by omega) (by omega),bd (JO ..),e,DS.2 ⟨by omega,by omega⟩,nt,Co hi,e,bd (Qo hK b d),Co a,cf (df (by omega)),Co hi,e,Co d,bd f,Co a,aD,Co j,cf (df (by omega)),B4 (by omega) (by omega),D6 i,ct rfl])
  (fun m=>by
   show F (m+1) (x.length:Int)=_;rw[v,cf (df (by omega))]) (k:=K) (by omega)
 rw[show(x.all fun _=>true)=true from List.all_eq_true.2 fun _ _=>rfl] at h;exact h
omit hK in
theorem S0:DK=CG:=by
 funext K t ws m
 induction m with
 |zero=>rfl
 |succ m ih=>funext a i;rw[DK.eq_2,CG.eq_2,ih]
theorem Su{t:AJ}(a:OkT t){ws:List Int}(hw:∀x∈ws,0≤x∧x<65536):∀(d m i:Nat) (acc:List Int),t.AE.length=i+d→d<m→acc.length=i→∃z,CG K t ws m acc (i:Int)=some z∧z.length=t.AE.length
 |d,0,i,acc,h,hm,_=>by omega
 |0,m+1,i,acc,h,hm,ha=>⟨acc,by rw[CG.eq_2,cf (df (by omega))],by omega⟩
 |d+1,m+1,i,acc,h,hm,ha=>by
  have b:=a.ol;obtain⟨x,c,g⟩:=Zs hK hw (i:=(i:Int)) (by omega);have e:=Int.emod_nonneg (x:Int) (show max 1 (t.Ab.length:Int)≠0 by omega);obtain⟨z,g1,g2⟩:=Su a hw d m (i+1) (acc++[(x:Int)%max 1 (t.Ab.length:Int)]) (by omega) (by omega) (by simp;omega);exact⟨z,by rw[CG.eq_2,ct (dt (by omega)),bd g,Qc (by omega) (by omega),Gc (by simp;omega),B4 (by omega) (by omega),D6 i,g1],g2⟩
theorem Ni(ha:Db K=some true)(t:AJ)(n:Int)(k:0≤n)(l:n<65536)(ws:List Int)(hw:∀x∈ws,0≤x∧x<65536):Eu K t n ws=some true:=by
 unfold Eu;rcases Ri hK t with h|⟨h,a,aA⟩
 ·rw[bd h,nf,Gc ha]
 rw[bd aA,nt,S0];have hlen:=K5 h;have aD:=a.ol;obtain⟨x,e,g1,g2,g3⟩:=YC hK h;obtain⟨y,f,s1,s2,u⟩:=Wj hK h;obtain⟨z,q,z2⟩:=Su hK a hw t.AE.length K 0 [] (by omega) (by omega) rfl;rw[Int.natCast_zero] at q;rw[bd (KP hK t hlen),bd g1,bd (KP hK t hlen),bd s1]
 by_cases h0:Fh t=0
 ·rcases g3 h0 with⟨rfl,g⟩|⟨rfl,rfl,o⟩
  ·have b:=(Q1 a).1 ⟨x,g.is⟩;have v:=I7 g.is;rw[Gz] at v;have hs:f=7:=by
    rcases u h0 with⟨_,j⟩|⟨h1,_⟩
    ·obtain⟨s,hs,rfl⟩:=j.is;have:=j.ok;rw[b s hs] at this;cases this
    ·exact h1
   subst hs;have p:=(Jh h0).2;have aE:=Rg hK a;have aB:0<(EM t).length:=List.length_pos_iff.2 p;obtain⟨i,hi⟩:∃i:Nat,n%((EM t).length:Int)=(i:Int):=⟨(n%((EM t).length:Int)).toNat,by have:=Int.emod_nonneg n (by omega:((EM t).length:Int)≠0);omega⟩;have c:i<(EM t).length:=by have:=Int.emod_lt_of_pos n (by omega:(0:Int)<(EM t).length);omega
   rw[cf (JT rfl),bd q,bd (KP hK t hlen),bd (Qv hK z (by omega)),bd (Ls hK h (by omega)),bd (SO hK a),cf (JT rfl),cf (Ty p),cf (JT (show(x.length:Int)=(t.AE.length:Int) by omega)),bd (KP hK t hlen),bd (Qv hK x (by omega)),bd (Ls hK h (show x.length≤900 by omega)),dt h0,g.is,Bool.true_and,nt,Bool.true_and];cases aC:C4 (EO t) [] z with
   |true=>
    rw[ct rfl,bd (UI hK (by omega) (show x.length≤900 by omega)),g.first z aC,cf rfl,UN k l,Qc k (by omega),hi,Co c];have:=Q2 hK a g.is (List.getElem_mem c) (fun m r=>Ez K t (x,0) (EM t)[i] m r) (fun m i=>rfl);rw[bd this];exact Gc ha
   |false=>
    rw[cf rfl,UN k l,Qc k (by omega),hi,Co c];have:=Q2 hK a g.is (List.getElem_mem c) (fun m r=>Ek K t (x,0) (EM t)[i] m r) (fun m i=>rfl);rw[bd this];exact Gc ha
  ·rcases u h0 with⟨rfl,j⟩|⟨rfl,rfl,b⟩
   ·have aF:=j.len;rw[ct (Jx (by decide)),cf (JT rfl),bd q,bd (KP hK t hlen),bd (Qv hK z (by omega)),bd (Ls hK h (by omega)),ct (JS rfl),bd (KP hK t hlen),bd (QD hK h (show y.length≤100 by omega)),dt h0,j.ZW,j.ok,Bool.true_and,Bool.true_and,ct rfl,o z,Bool.and_false,nf,Gc ha]
   ·obtain⟨d,w⟩:=(Q1 a).2 b;rw[o d] at w;cases w
 ·obtain⟨rfl,rfl⟩:=g2 h0;obtain⟨rfl,rfl⟩:=s2 h0;rcases Wk a h0 with e|e
  ·rw[e,ct (Jx (by decide)),ct (Jx (by decide)),ct (JS rfl),ct (JS rfl),Gc ha]
  ·rw[e,ct (Jx (by decide)),ct (Jx (by decide)),cf (KD (by decide)),ct (JS rfl),ct (JS rfl),Gc ha]
end
theorem NX(t:AJ)(n:Int)(b:0≤n)(a:n<65536)(ws:List Int)(hw:∀x∈ws,0≤x∧x<65536):∃K,Eu K t n ws=some true:=⟨1000,Ni (Nat.le_refl _) SR t n b a ws hw⟩
end Go.Proofs.YtbhofkcbfblijaaGreat
end
section
namespace Go.Proofs.YtbhofkcbfblijaaGreat
open Go.RowKit Go.WideShapes
set_option maxRecDepth 20000
open HF
attribute [local irreducible] Ce WL CC CW LV BN Hh E8 One Bb
set_option maxHeartbeats 4000000 in
theorem a20 aM b jG eH z aA i j aB aC x y o p aD aE bO bP(Z:Nat→Prop) w(q8:Sl Ay w Z z aA b.Aj)(q9:Sl (BG (Ah .i64)) w Z i j b.Ab)(rA:Sl AH w Z aB aC b.As)(rB:Sl AY w Z x y b.Az)(rC:Sl Ba w Z o p b.AE)(rD:Sl Bm w Z aD aE b.AK)(rE:Sl (Ah .u16) w Z bO bP eH)(a:Eu aM b jG eH=some true):
 BN Tryz.prog 20 #[.agg (AB z aA i j aB aC x y o p aD aE b).toArray,.int .u16 jG,.slice bO eH.length bP] w (fun v w'=>Ext w w'∧v=.bool true):=by
 unfold Eu at a;refine rq (N:=193) Tryz.func20 fun xT ha xU=>?_;have tW:=sA 0 ha;have o5:=sA 1 ha;have o6:=sA 2 ha;clear ha;have tA:Hp FN [] w [] w:=Hp.start (By.none w);have ⟨mW,mX,mY,mZ,m0,m1,hN⟩:=I2 q8 q9 rA rB rC rD rE (BB (Z:=Z) (L:=[]) w);refine cr<|wE (fun st=>BL (v:=.agg (AB z aA i j aB aC x y o p aD aE b).toArray) (cs:=(AB z aA i j aB aC x y o p aD aE b).toArray) (ee st tW) rfl) ?_;rintro _ w1 ⟨b1,rfl,f8⟩;have wR:=tA.nb f8;have w6:=tA.BJ f8;refine wA (v:=.bool false) rfl<|wn<|Af<|cr<|wD (fun st=>Bd (l:=(AB z aA i j aB aC x y o p aD aE b)) GP (eR st) f8.bk rfl rfl) ?_;have ⟨hO,hP,hQ,hR,hS,hT⟩:=CF mW mX mY mZ m0 m1 (Ax f8);replace a:=bind_some a;obtain⟨rF,wS,a⟩:=a;refine wE (fun st=>Al Y3 (eR st) (Cj (eR st)) (a48 aM b z aA i j aB aC x y o p aD aE ZA _ hO.all hP.all hQ.all hR.all hS.all hT.all rF wS)) ?_;rintro _ yJ ⟨jH,rfl⟩;have o7:=wR.ext jH;refine wD (fun st=>B7 (eR st))<|wn ?_;rcases Ae (!rF) with f9|f9
 ·replace a:=Aq a f9;have w7:rF=false:=by simpa using f9
  refine Ai rfl f9<|Af<|An ?_;replace a:=Cu a;obtain⟨wT,a⟩:=a;refine wE (fun st=>Al LJ (eR st) HO (a37 aM ZA _ wT)) ?_;rintro _ yK ⟨wU,rfl⟩;have wV:=o7.ext wU;refine wA (v:=.bool true) rfl<|wn<|Ak<|AI ?_;have bE:=oi a;refine Aw rfl rfl ?_;exact⟨wV.Bf,congrArg Value.bool bE⟩
 ·replace a:=Ar a f9;have w8:rF=true:=by simpa using f9
  refine Au rfl f9<|cn<|Af<|An ?_;have mB:=(f8.bk.ext jH);refine wD (fun st=>Bd (l:=(AB z aA i j aB aC x y o p aD aE b)) GP (eR st) mB rfl rfl) ?_;have ⟨hU,hV,hW,hX,hY,hZ⟩:=CF hO hP hQ hR hS hT (Ac jH);replace a:=bind_some a;obtain⟨wW,wY,a⟩:=a;refine wE (fun st=>Al LK (eR st) (Cj (eR st)) (Sr aM b z aA i j aB aC x y o p aD aE (zf Z w [some b1]) _ hU hV hW hX hY hZ wW wY)) ?_;rintro _ xV ⟨jI,⟨_,rfl,⟨o8,o9,pA,pB,pC,pD,pE,pF,pG,pH,pI,pJ,rfl,eI,eJ,eK,eM,eN,eO⟩⟩⟩;have tB:=o7.ext jI;have ⟨eI,eJ,eK,eM,eN,eO⟩:=CF eI eJ eK eM eN eO (o7.Ed (Nat.le_refl _));replace a:=bind_some a;obtain⟨m,tX,a⟩:=a;refine wE (fun st=>Al TU (eR st) (Cj (eR st)) (ZX aM wW o8 o9 pA pB pC pD pE pF pG pH pI pJ (zf Z w [some b1]) _ eI eJ eK eM eN eO m tX)) ?_;rintro _ xW ⟨gA,⟨_,_,rfl,⟨q,r,rfl,cN⟩,rfl⟩⟩;have tC:=tB.ext gA;have cN:=cN.mv (tB.Ed (Nat.le_refl _));refine wM (v:=.tuple #[.slice q m.1.length r,I m.2]) rfl<|wD (fun st=>BA (v:=.slice q m.1.length r) (eR st) rfl)<|wD (fun st=>BA (v:=I m.2) (eR st) rfl)<|wA (v:=.slice q m.1.length r) rfl<|wA (v:=I m.2) rfl<|wn<|Af<|An ?_;have iD:=((mB.ext jI).ext gA);refine wD (fun st=>Bd (l:=(AB z aA i j aB aC x y o p aD aE b)) GP (eR st) iD rfl rfl) ?_;have ⟨eP,eQ,eS,eT,eU,eV⟩:=CF hU hV hW hX hY hZ (mt (Ac jI) (Ac gA));replace a:=bind_some a;obtain⟨tD,tY,a⟩:=a;refine wE (fun st=>Al LK (eR st) (Cj (eR st)) (Sr aM b z aA i j aB aC x y o p aD aE (zf Z w [some b1]) _ eP eQ eS eT eU eV tD tY)) ?_;rintro _ xX ⟨c3,⟨_,rfl,⟨m2,m3,m4,m5,m6,m7,m8,m9,nA,nB,nC,nD,rfl,c4,c5,c6,c7,c8,c9⟩⟩⟩;have tE:=tC.ext c3;have ⟨c4,c5,c6,c7,c8,c9⟩:=CF c4 c5 c6 c7 c8 c9 (tC.Ed (Nat.le_refl _));replace a:=bind_some a;obtain⟨aK,tZ,a⟩:=a;refine wE (fun st=>Al TV (eR st) (Cj (eR st)) (ZY aM tD m2 m3 m4 m5 m6 m7 m8 m9 nA nB nC nD (zf Z w [some b1]) _ c4 c5 c6 c7 c8 c9 aK tZ)) ?_;rintro _ tF ⟨dA,⟨_,_,rfl,⟨aR,aS,rfl,cO⟩,rfl⟩⟩;have mC:=tE.ext dA;have cO:=cO.mv (tE.Ed (Nat.le_refl _));refine wM (v:=.tuple #[.slice aR aK.1.length aS,I aK.2]) rfl<|wD (fun st=>BA (v:=.slice aR aK.1.length aS) (eR st) rfl)<|wD (fun st=>BA (v:=I aK.2) (eR st) rfl)<|wA (v:=.slice aR aK.1.length aS) rfl<|wA (v:=I aK.2) rfl<|wn<|Af<|cr<|wM (v:=I m.2) rfl<|wD (fun st=>DU (eR st) (eR st))<|wM (v:=.bool (m.2 !=0)) rfl ?_;rcases Ae (m.2 !=0) with bF|bF
  ·replace a:=Aq a bF;refine wN bF (v:=I m.2) rfl<|wG bF (fun st=>DU (eR st) (eR st))<|wD (fun st=>Bc (v:=.bool (m.2 !=10)) (eR st) bF (eR st))<|wn ?_;rcases Ae (m.2 !=10) with gB|gB
   ·replace a:=Aq a gB;refine Ai rfl gB<|cr<|wM (v:=I m.2) rfl<|wD (fun st=>D0 (eR st) (eR st))<|wM (v:=.bool (m.2==9)) rfl ?_;rcases Ae (m.2==9) with b7|b7
    ·replace a:=Aq a b7;refine wF b7<|wF b7<|wD (fun st=>Bc (v:=.bool true) (eR st) b7 (eR st))<|wM (v:=.bool true) rfl<|M5 rfl rfl rfl rfl (by decide) (fun st=>AA (v:=I aK.2) (eR st))<|M5 rfl rfl rfl rfl (by decide) (fun st=>AA (v:=I m.2) (eR st))<|M5 rfl rfl rfl rfl (by decide) (fun st=>D0 (eR st) (eR st))<|wD (fun st=>Bc (v:=.bool (aK.2==m.2)) (eR st) rfl (eR st))<|wM (v:=.bool (aK.2==m.2)) rfl ?_;rcases Ae (aK.2==m.2) with gC|gC
     ·replace a:=Aq a gC;replace a:=Cu a;obtain⟨t0,a⟩:=a;refine wX gC (fun st=>Al LJ (eR st) HO (a37 aM ZA _ t0)) ?_;rintro _ xY ⟨t1,rfl⟩;have wZ:=mC.ext t1;refine wD (fun st=>Bc (v:=.bool true) (eR st) gC (eR st))<|wA (v:=.bool true) rfl<|wn<|Ak<|AI ?_;have bE:=oi a;refine Aw rfl rfl ?_;exact⟨wZ.Bf,congrArg Value.bool bE⟩
     ·replace a:=Ar a gC;exact absurd (oi a) (by decide)
    ·replace a:=Ar a b7;refine wN b7 (v:=I m.2) rfl<|wG b7 (fun st=>D0 (eR st) (eR st))<|wD (fun st=>Bt (v:=.bool (m.2==11)) (eR st) b7 (eR st))<|wM (v:=.bool (m.2==11)) rfl ?_;rcases Ae (m.2==11) with dB|dB
     ·replace a:=Aq a dB;refine wN dB (v:=I aK.2) rfl<|wN dB (v:=I m.2) rfl<|wG dB (fun st=>D0 (eR st) (eR st))<|wD (fun st=>Bc (v:=.bool (aK.2==m.2)) (eR st) dB (eR st))<|wM (v:=.bool (aK.2==m.2)) rfl ?_;rcases Ae (aK.2==m.2) with gD|gD
      ·replace a:=Aq a gD;replace a:=Cu a;obtain⟨t2,a⟩:=a;refine wX gD (fun st=>Al LJ (eR st) HO (a37 aM ZA _ t2)) ?_;rintro _ xZ ⟨t3,rfl⟩;have w3:=mC.ext t3;refine wD (fun st=>Bc (v:=.bool true) (eR st) gD (eR st))<|wA (v:=.bool true) rfl<|wn<|Ak<|AI ?_;have bE:=oi a;refine Aw rfl rfl ?_;exact⟨w3.Bf,congrArg Value.bool bE⟩
      ·replace a:=Ar a gD;exact absurd (oi a) (by decide)
     ·replace a:=Ar a dB;exact absurd (oi a) (by decide)
   ·replace a:=Ar a gB;refine Au rfl gB<|cn<|cr<|wA (v:=.slice none 0 0) rfl<|wn<|Af<|cr<|wA (v:=I 0) rfl<|wn<|AL ?_;have t4:=mC.nil;have t5:Bj (Ah .i64) 3 w.heap.size tF (zf Z w [none,some b1]) none 0 ([]:List Int):=Bj.nil _ _ _ _ _;replace a:=bind_some a;obtain⟨jJ,eW,a⟩:=a;refine BX (fun eX aF aG=>(eX=.exit 0∧∃aP a4,Fo X0 193 aF∧sl aF 1=.int .u16 jG∧sl aF 3=pt b1 0∧sl aF 7=.slice q m.1.length r∧sl aF 8=I m.2∧sl aF 9=.slice aR aK.1.length aS∧sl aF 10=I aK.2∧sl aF 11=.slice aP jJ.length a4∧Hp FN [] w [ob aP,some b1] aG∧(fun aI=>Bj (Ah .i64) 3 w.heap.size aG aI aP a4 jJ∧Bk aG b1 67 (AB z aA i j aB aC x y o p aD aE b).toArray∧Sl Ay aG aI z aA b.Aj∧Sl (BG (Ah .i64)) aG aI i j b.Ab∧Sl AH aG aI aB aC b.As∧Sl AY aG aI x y b.Az∧Sl Ba aG aI o p b.AE∧Sl Bm aG aI aD aE b.AK∧Sl (Ah .i64) aG aI q r m.1∧Sl (Ah .i64) aG aI aR aS aK.1) (zf Z w [ob aP,some b1]))) ?t6 ?t7
    case t6=>
     clear a;refine BW (fun dC aF aG=>∃bG,∃aZ,∃aX bU,CG aM b eH dC bG aZ=some jJ∧Fo X0 193 aF∧sl aF 1=.int .u16 jG∧sl aF 2=.slice bO eH.length bP∧sl aF 3=pt b1 0∧sl aF 7=.slice q m.1.length r∧sl aF 8=I m.2∧sl aF 9=.slice aR aK.1.length aS∧sl aF 10=I aK.2∧sl aF 11=.slice aX bG.length bU∧sl aF 12=I aZ∧Hp FN [] w [ob aX,some b1] aG∧(fun aI=>Bj (Ah .i64) 3 w.heap.size aG aI aX bU bG∧Bk aG b1 67 (AB z aA i j aB aC x y o p aD aE b).toArray∧Sl Ay aG aI z aA b.Aj∧Sl (BG (Ah .i64)) aG aI i j b.Ab∧Sl AH aG aI aB aC b.As∧Sl AY aG aI x y b.Az∧Sl Ba aG aI o p b.AE∧Sl Bm aG aI aD aE b.AK∧Sl (Ah .i64) aG aI q r m.1∧Sl (Ah .i64) aG aI aR aS aK.1∧Sl (Ah .u16) aG aI bO bP eH) (zf Z w [ob aX,some b1])) aM ?t8 ?t9
     case t8=>
      intro st;have pK:=((iD.ext c3).ext dA);have ⟨j2,j3,j4,j5,j6,j7,iE⟩:=I2 eP eQ eS eT eU eV cN (mt (Ac c3) (mt (Ac dA) Bq));have iF:=(cO.mv Bq);have j8:=(((((((hN.mv (Ax f8)).mv (Ac jH)).mv (Ac jI)).mv (Ac gA)).mv (Ac c3)).mv (Ac dA)).mv Bq);exact⟨([]:List Int),(0:Int),none,0,eW,qo st,sp st 1 o5,sp st 2 o6,sp st 3 rfl,sp st 7 rfl,sp st 8 rfl,sp st 9 rfl,sp st 10 rfl,sp st 11 rfl,sp st 12 rfl,t4,t5,pK,j2,j3,j4,j5,j6,j7,iE,iF,j8⟩
     case t9=>
      rintro(_|dC) xF xG ⟨bG,aZ,aX,bU,eW,rG,jK,jL,eA,jM,jN,jO,h3,h4,eY,j9,cW,cP,fF,fG,fH,fI,fJ,fK,cX,cY,fL⟩
      ·exact absurd (show none=some _ from eW) (by simp)
      rw[CG.eq_2] at eW;have a:=eW;clear eW;refine ro rG<|Af<|cr<|wM (v:=I aZ) eY<|wD (fun st=>Ad (ee st eA) (FX _ _))<|wD (fun st=>Ag (v:=.slice o b.AE.length p) GQ (eR st) cP rfl)<|wD (fun st=>Bo Tryz.underlying64 (eR st))<|wD (fun st=>B6 (eR st) (eR st))<|wn ?_;rcases Ae (decide (aZ<(b.AE.length:Int))) with gE|gE
      ·replace a:=Aq a gE;refine Ai rfl gE<|cn<|Af<|AL ?_;replace a:=bind_some a;obtain⟨bV,uA,a⟩:=a;replace a:=J5 a;obtain⟨pL,a⟩:=a;refine BZ 11 [Kc (.slice aX bG.length bU),Kc (.slice bO eH.length bP),Kc (I aZ),Kc (I bV),Kc (pt b1 0),Kc (pt b1 1),Kc (.slice i b.Ab.length j),Kc (I (b.Ab.length:Int)),Kc (I (max (1:Int) (b.Ab.length:Int))),Kc (I (bV%(max (1:Int) (b.Ab.length:Int)))),Kv (Fk (Ah .i64)) (zf Z w [ob aX,some b1]) [bV%(max (1:Int) (b.Ab.length:Int))]] mixed rfl rfl
           (Aa (oD (fun K=>AA (es (t:=11) ((K.later 12 11 _ rfl rfl rfl).trans h4))))
           (Aa (oD (fun K=>AA (es ((K.out 2 rfl).trans jL))))
           (Aa (oD (fun K=>AA (es ((K.out 12 rfl).trans eY))))
           (Aa (oE (fun K=>(Al TS rfl (Cf (es (K.dq 1 61)) (es (K.dq 2 62))) (Z4 aM eH aZ bO bP ZA _ (fL.mv (Ac K.AV)).all bV uA)).mono (fun _ _ h=>⟨h.2,h.1⟩)))
           (Aa (oD (fun K=>Ad (es ((K.out 3 rfl).trans eA)) (FV _ _)))
           (Aa (oD (fun K=>Ad (es (K.dq 4 64)) (DZ _ _)))
           (Aa (oD (fun K=>Ag Dg (es (K.dq 5 65)) (cP.ext K.AV) rfl))
           (Aa (oD (fun K=>Bo Tryz.underlying23 (es (K.dq 6 66))))
           (Aa (oD (fun K=>Sv (ec (v:=I 1)) (es (K.dq 7 67))))
           (Aa (oD (fun K=>M6 (es (K.dq 3 63)) (es (K.dq 8 68)) pL.1 pL.2))
           (Aa (Ij rfl rfl (fun a' w' ph K=>(BQ (e:=3) (vs:= #[(0,I (bV%(max (1:Int) (b.Ab.length:Int))))]) (cs:= #[I (bV%(max (1:Int) (b.Ab.length:Int)))]) (HW (es (K.dq 9 69))) (by kernel_rfl)).mono (fun u BD ⟨xH,hu,iG⟩=>⟨⟨_,_,hu,FZ (xs:=[bV%(max (1:Int) (b.Ab.length:Int))]) (BE:=[[I (bV%(max (1:Int) (b.Ab.length:Int)))]]) iG.bk ((j9.ext K.AV).kn (Nat.le_of_eq iG.E9.symm)) (R2.mv (Ac iG.gr) (show R2 (Ah .i64) w' (zf Z w [ob aX,some b1]) [[I (bV%(max (1:Int) (b.Ab.length:Int)))]] [bV%(max (1:Int) (b.Ab.length:Int))] from⟨rfl,trivial⟩)) rfl (Nat.le_refl _)⟩,iG.gr⟩)))
           (BY _)))))))))))) ?_
       intro x0;rintro _ rfl _ rfl _ rfl _ rfl _ rfl _ rfl _ rfl _ rfl _ rfl _ rfl _ ⟨v8,v9,rfl,kA⟩ gF;have gG:=j9.ext gF;have iH:=(cW.ext gF (Ac gF));replace a:=Cu a;obtain⟨pM,a⟩:=a;refine wE (fun st=>GD (ys:=[bV%(max (1:Int) (b.Ab.length:Int))]) Tryz.underlying31 Ht rfl rfl (by decide) (eR st) rfl (eR st) iH kA.n (by have:=pM;simp only[maxLen];omega) (by have:=pM;omega) gG.sz) ?_;rintro _ x1 ⟨tG,tH,rfl,iI,kB,uB⟩;have uC:=gG.row iI 0 rfl kB;have uD:=DJ uB (gG.CA iI 0 rfl (fun k kC=>(kB k kC).1));refine wA (v:=.slice tG ((bG++[bV%(max (1:Int) (b.Ab.length:Int))]).length) tH) rfl<|Bn<|C5<|An<|wM (v:=I aZ) eY ?_;replace a:=AN a;obtain⟨uE,a⟩:=a;refine wD (fun st=>BR (eR st) (eR st) uE)<|wA (v:=I (aZ+1)) rfl<|Bn ?_;have pN:=((cP.ext gF).gr iI (gG.nq 1 0));have ⟨kD,kE,kF,kG,kH,kI,iJ,iK,kJ⟩:=MH fF fG fH fI fJ fK cX cY fL (mt (Ac gF) (gG.CA iI 0 rfl (fun k kC=>(kB k kC).1)));refine Bz dC (Nat.lt_succ_self _) (fun st=>?_);exact⟨(bG++[bV%(max (1:Int) (b.Ab.length:Int))]),(aZ+1),tG,tH,a,qo st,sp st 1 jK,sp st 2 jL,sp st 3 eA,sp st 7 jM,sp st 8 jN,sp st 9 jO,sp st 10 h3,sp st 11 rfl,sp st 12 rfl,uC,uD,pN,kD,kE,kF,kG,kH,kI,iJ,iK,kJ⟩
      ·replace a:=Ar a gE;refine Au rfl gE<|Dy ?_;obtain rfl:=oi a;refine BF (fun st=>?_);exact⟨rfl,aX,bU,qo st,sp st 1 jK,sp st 3 eA,sp st 7 jM,sp st 8 jN,sp st 9 jO,sp st 10 h3,sp st 11 h4,j9,cW,cP,fF,fG,fH,fI,fJ,fK,cX,cY⟩
    case t7=>
     rintro eX w9 xI (⟨rfl,aP,a4,pO,wB,h5,wC,nE,nF,kK,kL,mD,eZ,h6,fM,fN,fO,fP,fQ,fR,q6,g2⟩);refine lf pO<|Bi<|BM<|cr<|wD (fun st=>Bd (l:=(AB z aA i j aB aC x y o p aD aE b)) GP (ee st h5) h6 rfl rfl) ?_;replace a:=bind_some a;obtain⟨tI,uF,a⟩:=a;refine wE (fun st=>Al LK (eR st) (Cj (eR st)) (Sr aM b z aA i j aB aC x y o p aD aE (zf Z w [ob aP,some b1]) _ fM fN fO fP fQ fR tI uF)) ?_;rintro _ x2 ⟨e0,⟨_,rfl,⟨nG,nH,nI,nJ,nK,nL,nM,nN,nO,nP,nQ,nR,rfl,dD,dE,dF,dG,dH,dI⟩⟩⟩;have pP:=mD.ext e0;have ⟨dD,dE,dF,dG,dH,dI⟩:=CF dD dE dF dG dH dI (mD.Ed (Nat.le_refl _));refine wM (v:=.slice aP jJ.length a4) kL ?_;have f5:=(eZ.ext e0 (Ac e0));have pQ:=pP.erase 0;have gH:=pP.Nu 0 rfl f5;replace a:=bind_some a;obtain⟨tJ,uG,a⟩:=a;refine wE (fun st=>Al QW (eR st) (Cj (eR st)) (a51 aM jJ aP a4 (zf Z w [some b1]) _ gH tJ uG)) ?_;rintro _ x3 ⟨gI,⟨pR,pS,rfl,e1⟩⟩;have uH:=pQ.ext gI;have e1:=e1.mv (pQ.Ed (Nat.le_refl _));have ⟨g3,g4,g5,g6,g7,g8⟩:=CF dD dE dF dG dH dI (mt (AD 0) (Ac gI));replace a:=bind_some a;obtain⟨gJ,uI,a⟩:=a;refine wE (fun st=>Al QX (eR st) (Cf (eR st) (eR st)) (Zh aM tI tJ nG nH nI nJ nK nL nM nN nO nP nQ nR pR pS ZA _ g3.all g4.all g5.all g6.all g7.all g8.all e1.all gJ uI)) ?_;rintro _ x4 ⟨iL,rfl⟩;have pT:=uH.ext iL;refine wA (v:=.bool gJ) rfl<|wn<|Af<|cr<|wM (v:=I m.2) nE<|wD (fun st=>DU (eR st) (eR st))<|wn<|Ai rfl bF<|cr<|wM (v:=I aK.2) kK<|wD (fun st=>D0 (eR st) (eR st))<|wM (v:=.bool (aK.2==0)) rfl ?_;rcases Ae (aK.2==0) with cG|cG
     ·replace a:=Aq a cG;have pU:=(((h6.ext e0).ext gI).ext iL);refine wG cG (fun st=>Bd (l:=(AB z aA i j aB aC x y o p aD aE b)) GP (ee st h5) pU rfl rfl) ?_;have ⟨kM,kN,kP,kQ,kR,kS⟩:=CF fM fN fO fP fQ fR (mt (Ac e0) (mt (AD 0) (mt (Ac gI) (Ac iL))));replace a:=bind_some a;obtain⟨tK,uJ,a⟩:=a;refine wX cG (fun st=>Al LK (eR st) (Cj (eR st)) (Sr aM b z aA i j aB aC x y o p aD aE (zf Z w [some b1]) _ kM kN kP kQ kR kS tK uJ)) ?_;rintro _ x5 ⟨pV,⟨_,rfl,⟨nS,nT,nU,nV,nW,nX,nY,nZ,n0,n1,n2,n3,rfl,dJ,dK,dL,dM,dN,dO⟩⟩⟩;have uK:=pT.ext pV;have ⟨dJ,dK,dL,dM,dN,dO⟩:=CF dJ dK dL dM dN dO (pT.Ed (Nat.le_refl _));refine wG cG (fun st=>AA (v:=.slice aR aK.1.length aS) (ee st nF)) ?_;have iM:=(((((g2.mv (Ac e0)).mv (AD 0)).mv (Ac gI)).mv (Ac iL)).mv (Ac pV));replace a:=bind_some a;obtain⟨mE,uL,a⟩:=a;refine wX cG (fun st=>Al Y1 (eR st) (Cf (eR st) (eR st)) (a70 aM tK aK.1 nS nT nU nV nW nX nY nZ n0 n1 n2 n3 aR aS ZA _ dJ.all dK.all dL.all dM.all dN.all dO.all iM.all mE uL)) ?_;rintro _ x6 ⟨uM,rfl⟩;have uN:=uK.ext uM;refine wD (fun st=>Bc (v:=.bool mE) (eR st) cG (eR st))<|wM (v:=.bool mE) rfl ?_;rcases Ae (mE) with e2|e2
      ·replace a:=Aq a e2;refine wN e2 (v:=.bool gJ) rfl<|wG e2 (fun st=>B7 (eR st))<|wD (fun st=>Bc (v:=.bool !gJ) (eR st) e2 (eR st))<|wM (v:=.bool !gJ) rfl ?_;rcases Ae (!gJ) with e3|e3
       ·replace a:=Aq a e3;have wI:gJ=false:=by simpa using e3
        replace a:=Cu a;obtain⟨uO,a⟩:=a;refine wX e3 (fun st=>Al LJ (eR st) HO (a37 aM ZA _ uO)) ?_;rintro _ x7 ⟨uP,rfl⟩;have uQ:=uN.ext uP;refine wD (fun st=>Bc (v:=.bool true) (eR st) e3 (eR st))<|wA (v:=.bool true) rfl<|wn<|Ak<|AI ?_;have bE:=oi a;refine Aw rfl rfl ?_;exact⟨uQ.Bf,congrArg Value.bool bE⟩
       ·replace a:=Ar a e3;exact absurd (oi a) (by decide)
      ·replace a:=Ar a e2;exact absurd (oi a) (by decide)
     ·replace a:=Ar a cG;exact absurd (oi a) (by decide)
  ·replace a:=Ar a bF;refine wF bF<|wF bF<|wD (fun st=>Bt (v:=.bool false) (eR st) bF (eR st))<|wn<|Au rfl rfl<|cn<|cr<|wA (v:=.slice none 0 0) rfl<|wn<|Af<|cr<|wA (v:=I 0) rfl<|wn<|AL ?_;have uR:=mC.nil;have uS:Bj (Ah .i64) 3 w.heap.size tF (zf Z w [none,some b1]) none 0 ([]:List Int):=Bj.nil _ _ _ _ _;replace a:=bind_some a;obtain⟨z53,e4,a⟩:=a;refine BX (fun eX aF aG=>(eX=.exit 0∧∃aJ aQ,Fo X0 193 aF∧sl aF 1=.int .u16 jG∧sl aF 3=pt b1 0∧sl aF 7=.slice q m.1.length r∧sl aF 8=I m.2∧sl aF 9=.slice aR aK.1.length aS∧sl aF 10=I aK.2∧sl aF 11=.slice aJ z53.length aQ∧Hp FN [] w [ob aJ,some b1] aG∧(fun aI=>Bj (Ah .i64) 3 w.heap.size aG aI aJ aQ z53∧Bk aG b1 67 (AB z aA i j aB aC x y o p aD aE b).toArray∧Sl Ay aG aI z aA b.Aj∧Sl (BG (Ah .i64)) aG aI i j b.Ab∧Sl AH aG aI aB aC b.As∧Sl AY aG aI x y b.Az∧Sl Ba aG aI o p b.AE∧Sl Bm aG aI aD aE b.AK∧Sl (Ah .i64) aG aI q r m.1∧Sl (Ah .i64) aG aI aR aS aK.1) (zf Z w [ob aJ,some b1]))) ?uT ?uU
   case uT=>
    clear a;refine BW (fun dC aF aG=>∃bH,∃a0,∃aY bW,DK aM b eH dC bH a0=some z53∧Fo X0 193 aF∧sl aF 1=.int .u16 jG∧sl aF 2=.slice bO eH.length bP∧sl aF 3=pt b1 0∧sl aF 7=.slice q m.1.length r∧sl aF 8=I m.2∧sl aF 9=.slice aR aK.1.length aS∧sl aF 10=I aK.2∧sl aF 11=.slice aY bH.length bW∧sl aF 12=I a0∧Hp FN [] w [ob aY,some b1] aG∧(fun aI=>Bj (Ah .i64) 3 w.heap.size aG aI aY bW bH∧Bk aG b1 67 (AB z aA i j aB aC x y o p aD aE b).toArray∧Sl Ay aG aI z aA b.Aj∧Sl (BG (Ah .i64)) aG aI i j b.Ab∧Sl AH aG aI aB aC b.As∧Sl AY aG aI x y b.Az∧Sl Ba aG aI o p b.AE∧Sl Bm aG aI aD aE b.AK∧Sl (Ah .i64) aG aI q r m.1∧Sl (Ah .i64) aG aI aR aS aK.1∧Sl (Ah .u16) aG aI bO bP eH) (zf Z w [ob aY,some b1])) aM ?uV ?uW
    case uV=>
     intro st;have pW:=((iD.ext c3).ext dA);have ⟨kT,kU,kV,kW,kX,kY,iN⟩:=I2 eP eQ eS eT eU eV cN (mt (Ac c3) (mt (Ac dA) Bq));have iO:=(cO.mv Bq);have kZ:=(((((((hN.mv (Ax f8)).mv (Ac jH)).mv (Ac jI)).mv (Ac gA)).mv (Ac c3)).mv (Ac dA)).mv Bq);exact⟨([]:List Int),(0:Int),none,0,e4,qo st,sp st 1 o5,sp st 2 o6,sp st 3 rfl,sp st 7 rfl,sp st 8 rfl,sp st 9 rfl,sp st 10 rfl,sp st 11 rfl,sp st 12 rfl,uR,uS,pW,kT,kU,kV,kW,kX,kY,iN,iO,kZ⟩
    case uW=>
     rintro(_|dC) xJ xK ⟨bH,a0,aY,bW,e4,rH,jP,jQ,eB,jR,jS,jT,h7,h8,e5,k0,cZ,cQ,fS,fT,fU,fV,fW,fX,c0,c1,fY⟩
     ·exact absurd (show none=some _ from e4) (by simp)
     rw[DK.eq_2] at e4;have a:=e4;clear e4;refine ro rH<|Af<|cr<|wM (v:=I a0) e5<|wD (fun st=>Ad (ee st eB) (FX _ _))<|wD (fun st=>Ag (v:=.slice o b.AE.length p) GQ (eR st) cQ rfl)<|wD (fun st=>Bo Tryz.underlying64 (eR st))<|wD (fun st=>B6 (eR st) (eR st))<|wn ?_;rcases Ae (decide (a0<(b.AE.length:Int))) with gK|gK
     ·replace a:=Aq a gK;refine Ai rfl gK<|cn<|Af<|AL ?_;replace a:=bind_some a;obtain⟨bX,uX,a⟩:=a;replace a:=J5 a;obtain⟨pX,a⟩:=a;refine BZ 11 [Kc (.slice aY bH.length bW),Kc (.slice bO eH.length bP),Kc (I a0),Kc (I bX),Kc (pt b1 0),Kc (pt b1 1),Kc (.slice i b.Ab.length j),Kc (I (b.Ab.length:Int)),Kc (I (max (1:Int) (b.Ab.length:Int))),Kc (I (bX%(max (1:Int) (b.Ab.length:Int)))),Kv (Fk (Ah .i64)) (zf Z w [ob aY,some b1]) [bX%(max (1:Int) (b.Ab.length:Int))]] mixed rfl rfl
          (Aa (oD (fun K=>AA (es (t:=11) ((K.later 12 11 _ rfl rfl rfl).trans h8))))
          (Aa (oD (fun K=>AA (es ((K.out 2 rfl).trans jQ))))
          (Aa (oD (fun K=>AA (es ((K.out 12 rfl).trans e5))))
          (Aa (oE (fun K=>(Al TS rfl (Cf (es (K.dq 1 61)) (es (K.dq 2 62))) (Z4 aM eH a0 bO bP ZA _ (fY.mv (Ac K.AV)).all bX uX)).mono (fun _ _ h=>⟨h.2,h.1⟩)))
          (Aa (oD (fun K=>Ad (es ((K.out 3 rfl).trans eB)) (FV _ _)))
          (Aa (oD (fun K=>Ad (es (K.dq 4 64)) (DZ _ _)))
          (Aa (oD (fun K=>Ag Dg (es (K.dq 5 65)) (cQ.ext K.AV) rfl))
          (Aa (oD (fun K=>Bo Tryz.underlying23 (es (K.dq 6 66))))
          (Aa (oD (fun K=>Sv (ec (v:=I 1)) (es (K.dq 7 67))))
          (Aa (oD (fun K=>M6 (es (K.dq 3 63)) (es (K.dq 8 68)) pX.1 pX.2))
          (Aa (Ij rfl rfl (fun a' w' ph K=>(BQ (e:=3) (vs:= #[(0,I (bX%(max (1:Int) (b.Ab.length:Int))))]) (cs:= #[I (bX%(max (1:Int) (b.Ab.length:Int)))]) (HW (es (K.dq 9 69))) (by kernel_rfl)).mono (fun u BD ⟨xH,hu,iG⟩=>⟨⟨_,_,hu,FZ (xs:=[bX%(max (1:Int) (b.Ab.length:Int))]) (BE:=[[I (bX%(max (1:Int) (b.Ab.length:Int)))]]) iG.bk ((k0.ext K.AV).kn (Nat.le_of_eq iG.E9.symm)) (R2.mv (Ac iG.gr) (show R2 (Ah .i64) w' (zf Z w [ob aY,some b1]) [[I (bX%(max (1:Int) (b.Ab.length:Int)))]] [bX%(max (1:Int) (b.Ab.length:Int))] from⟨rfl,trivial⟩)) rfl (Nat.le_refl _)⟩,iG.gr⟩)))
          (BY _)))))))))))) ?_
      intro x8;rintro _ rfl _ rfl _ rfl _ rfl _ rfl _ rfl _ rfl _ rfl _ rfl _ rfl _ ⟨wJ,wK,rfl,k1⟩ gL;have gM:=k0.ext gL;have iP:=(cZ.ext gL (Ac gL));replace a:=Cu a;obtain⟨pY,a⟩:=a;refine wE (fun st=>GD (ys:=[bX%(max (1:Int) (b.Ab.length:Int))]) Tryz.underlying31 Ht rfl rfl (by decide) (eR st) rfl (eR st) iP k1.n (by have:=pY;simp only[maxLen];omega) (by have:=pY;omega) gM.sz) ?_;rintro _ x9 ⟨tL,tM,rfl,iQ,k2,uY⟩;have uZ:=gM.row iQ 0 rfl k2;have u0:=DJ uY (gM.CA iQ 0 rfl (fun k kC=>(k2 k kC).1));refine wA (v:=.slice tL ((bH++[bX%(max (1:Int) (b.Ab.length:Int))]).length) tM) rfl<|Bn<|C5<|An<|wM (v:=I a0) e5 ?_;replace a:=AN a;obtain⟨u1,a⟩:=a;refine wD (fun st=>BR (eR st) (eR st) u1)<|wA (v:=I (a0+1)) rfl<|Bn ?_;have pZ:=((cQ.ext gL).gr iQ (gM.nq 1 0));have ⟨k3,k4,k5,k6,k7,k8,iR,iS,k9⟩:=MH fS fT fU fV fW fX c0 c1 fY (mt (Ac gL) (gM.CA iQ 0 rfl (fun k kC=>(k2 k kC).1)));refine Bz dC (Nat.lt_succ_self _) (fun st=>?_);exact⟨(bH++[bX%(max (1:Int) (b.Ab.length:Int))]),(a0+1),tL,tM,a,qo st,sp st 1 jP,sp st 2 jQ,sp st 3 eB,sp st 7 jR,sp st 8 jS,sp st 9 jT,sp st 10 h7,sp st 11 rfl,sp st 12 rfl,uZ,u0,pZ,k3,k4,k5,k6,k7,k8,iR,iS,k9⟩
     ·replace a:=Ar a gK;refine Au rfl gK<|Dy ?_;obtain rfl:=oi a;refine BF (fun st=>?_);exact⟨rfl,aY,bW,qo st,sp st 1 jP,sp st 3 eB,sp st 7 jR,sp st 8 jS,sp st 9 jT,sp st 10 h7,sp st 11 h8,k0,cZ,cQ,fS,fT,fU,fV,fW,fX,c0,c1⟩
   case uU=>
    rintro eX xA xL (⟨rfl,aJ,aQ,p0,h9,bD,bY,n4,wL,lA,gN,mF,e6,iA,fZ,f0,f1,f2,f3,f4,g9,q7⟩);refine lf p0<|Bi<|BM<|cr<|wD (fun st=>Bd (l:=(AB z aA i j aB aC x y o p aD aE b)) GP (ee st bD) iA rfl rfl) ?_;replace a:=bind_some a;obtain⟨tN,u2,a⟩:=a;refine wE (fun st=>Al LK (eR st) (Cj (eR st)) (Sr aM b z aA i j aB aC x y o p aD aE (zf Z w [ob aJ,some b1]) _ fZ f0 f1 f2 f3 f4 tN u2)) ?_;rintro _ yA ⟨e7,⟨_,rfl,⟨n5,n6,n7,n8,n9,oA,oB,oC,oF,oH,oI,oJ,rfl,dP,dQ,dR,dS,dT,dU⟩⟩⟩;have p1:=mF.ext e7;have ⟨dP,dQ,dR,dS,dT,dU⟩:=CF dP dQ dR dS dT dU (mF.Ed (Nat.le_refl _));refine wM (v:=.slice aJ z53.length aQ) gN ?_;have f6:=(e6.ext e7 (Ac e7));have p2:=p1.erase 0;have cH:=p1.Nu 0 rfl f6;replace a:=bind_some a;obtain⟨tO,u3,a⟩:=a;refine wE (fun st=>Al QW (eR st) (Cj (eR st)) (a51 aM z53 aJ aQ (zf Z w [some b1]) _ cH tO u3)) ?_;rintro _ yB ⟨e8,⟨p3,p4,rfl,e9⟩⟩;have u4:=p2.ext e8;have e9:=e9.mv (p2.Ed (Nat.le_refl _));have ⟨hA,hB,hC,hD,hE,hF⟩:=CF dP dQ dR dS dT dU (mt (AD 0) (Ac e8));replace a:=bind_some a;obtain⟨jU,u5,a⟩:=a;refine wE (fun st=>Al QX (eR st) (Cf (eR st) (eR st)) (Zh aM tN tO n5 n6 n7 n8 n9 oA oB oC oF oH oI oJ p3 p4 ZA _ hA.all hB.all hC.all hD.all hE.all hF.all e9.all jU u5)) ?_;rintro _ yC ⟨gO,rfl⟩;have p5:=u4.ext gO;refine wA (v:=.bool jU) rfl<|wn<|Af<|cr<|wM (v:=I m.2) n4<|wD (fun st=>DU (eR st) (eR st))<|wn<|Au rfl bF<|cn<|Af<|An ?_;have jV:=(((iA.ext e7).ext e8).ext gO);refine wD (fun st=>Bd (l:=(AB z aA i j aB aC x y o p aD aE b)) GP (ee st bD) jV rfl rfl) ?_;have ⟨gP,gQ,gR,gS,gT,gU⟩:=CF fZ f0 f1 f2 f3 f4 (mt (Ac e7) (mt (AD 0) (mt (Ac e8) (Ac gO))));replace a:=bind_some a;obtain⟨c2,u6,a⟩:=a;refine wE (fun st=>Al YT (eR st) (Cj (eR st)) (a53 aM b z aA i j aB aC x y o p aD aE (zf Z w [some b1]) _ gP gQ gR gS gT gU c2 u6)) ?_;rintro _ yD ⟨gV,⟨bZ,b4,rfl,cR⟩⟩;have p6:=p5.ext gV;have cR:=cR.mv (p5.Ed (Nat.le_refl _));refine wA (v:=.slice bZ c2.length b4) rfl<|wn<|Af<|cr<|wM (v:=I aK.2) lA<|wD (fun st=>DU (eR st) (eR st))<|wM (v:=.bool (aK.2 !=7)) rfl ?_;rcases Ae (aK.2 !=7) with dV|dV
    ·replace a:=Aq a dV;exact absurd (oi a) (by decide)
    ·replace a:=Ar a dV;refine wN dV (v:=.slice bZ c2.length b4) rfl<|wG dV (fun st=>Bo Tryz.underlying23 (eR st))<|wG dV (fun st=>D0 (eR st) (eR st))<|wD (fun st=>Bt (v:=.bool ((c2.length:Int)==0)) (eR st) dV (eR st))<|wM (v:=.bool ((c2.length:Int)==0)) rfl ?_;rcases Ae ((c2.length:Int)==0) with bQ|bQ
     ·replace a:=Aq a bQ;exact absurd (oi a) (by decide)
     ·replace a:=Ar a bQ;refine wN bQ (v:=.slice q m.1.length r) bY<|wG bQ (fun st=>Bo Tryz.underlying31 (eR st))<|wG bQ (fun st=>Ad (ee st bD) (FX _ _)) ?_;have eC:=(jV.ext gV);refine wG bQ (fun st=>Ag (v:=.slice o b.AE.length p) GQ (eR st) eC rfl)<|wG bQ (fun st=>Bo Tryz.underlying64 (eR st))<|wG bQ (fun st=>DU (eR st) (eR st))<|wD (fun st=>Bt (v:=.bool ((m.1.length:Int) !=(b.AE.length:Int))) (eR st) bQ (eR st))<|wM (v:=.bool ((m.1.length:Int) !=(b.AE.length:Int))) rfl ?_;rcases Ae ((m.1.length:Int) !=(b.AE.length:Int)) with bR|bR
      ·replace a:=Aq a bR;exact absurd (oi a) (by decide)
      ·replace a:=Ar a bR;refine wG bR (fun st=>Bd (l:=(AB z aA i j aB aC x y o p aD aE b)) GP (ee st bD) eC rfl rfl) ?_;have ⟨dW,dX,dY,dZ,d0,d1⟩:=CF gP gQ gR gS gT gU (Ac gV);replace a:=bind_some a;obtain⟨tP,u7,a⟩:=a;refine wX bR (fun st=>Al LK (eR st) (Cj (eR st)) (Sr aM b z aA i j aB aC x y o p aD aE (zf Z w [some b1]) _ dW dX dY dZ d0 d1 tP u7)) ?_;rintro _ yE ⟨b8,⟨_,rfl,⟨oK,oL,oM,oN,oO,oP,oQ,oR,oW,oY,oZ,o0,rfl,d2,d3,d4,d5,d6,d7⟩⟩⟩;have p7:=p6.ext b8;have ⟨d2,d3,d4,d5,d6,d7⟩:=CF d2 d3 d4 d5 d6 d7 (p6.Ed (Nat.le_refl _));refine wG bR (fun st=>AA (v:=.slice q m.1.length r) (ee st bY)) ?_;have b9:=((((((g9.mv (Ac e7)).mv (AD 0)).mv (Ac e8)).mv (Ac gO)).mv (Ac gV)).mv (Ac b8));replace a:=bind_some a;obtain⟨tQ,u8,a⟩:=a;refine wX bR (fun st=>Al QW (eR st) (Cj (eR st)) (a51 aM m.1 q r (zf Z w [some b1]) _ b9 tQ u8)) ?_;rintro _ yF ⟨bI,⟨p8,p9,rfl,fA⟩⟩;have u9:=p7.ext bI;have fA:=fA.mv (p7.Ed (Nat.le_refl _));have ⟨hG,hH,hI,hJ,hL,hM⟩:=CF d2 d3 d4 d5 d6 d7 (Ac bI);replace a:=bind_some a;obtain⟨jW,vA,a⟩:=a;refine wX bR (fun st=>Al QX (eR st) (Cf (eR st) (eR st)) (Zh aM tP tQ oK oL oM oN oO oP oQ oR oW oY oZ o0 p8 p9 ZA _ hG.all hH.all hI.all hJ.all hL.all hM.all fA.all jW vA)) ?_;rintro _ w4 ⟨bS,rfl⟩;have qA:=u9.ext bS;refine wG bR (fun st=>B7 (eR st))<|wD (fun st=>Bt (v:=.bool !jW) (eR st) bR (eR st))<|wM (v:=.bool !jW) rfl ?_;rcases Ae (!jW) with bT|bT
       ·replace a:=Aq a bT;exact absurd (oi a) (by decide)
       ·replace a:=Ar a bT;have wO:jW=true:=by simpa using bT
        refine wN bT (v:=.bool jU) rfl<|wG bT (fun st=>AA (v:=.bool jU) (eR st)) ?_;rcases Ae (jU) with bJ|bJ
        ·replace a:=Aq a bJ;refine wN bJ (v:=.slice aJ z53.length aQ) gN<|wG bJ (fun st=>AA (v:=.slice q m.1.length r) (ee st bY)) ?_;have f7:Sl (Ah .i64) w4 (zf Z w [some b1]) aJ aQ z53:=((((((cH.mv (Ac e8)).mv (Ac gO)).mv (Ac gV)).mv (Ac b8)).mv (Ac bI)).mv (Ac bS));have bA:=((b9.mv (Ac bI)).mv (Ac bS));replace a:=bind_some a;obtain⟨mG,vB,a⟩:=a;refine wX bJ (fun st=>Al YL (eR st) (Cf (eR st) (eR st)) (a73 aM z53 m.1 aJ aQ q r ZA _ f7.all bA.all mG vB)) ?_;rintro _ yG ⟨gW,rfl⟩;have vC:=qA.ext gW;refine wG bT (fun st=>Bc (v:=.bool mG) (eR st) bJ (eR st))<|wD (fun st=>Bt (v:=.bool mG) (eR st) bT (eR st))<|wn ?_;rcases Ae (mG) with iT|iT
         ·replace a:=Aq a iT;exact absurd (oi a) (by decide)
         ·replace a:=Ar a iT;refine Au rfl iT<|cn<|cr<|wM (v:=.slice bZ c2.length b4) rfl<|wM (v:=.int .u16 jG) h9 ?_;replace a:=KZ a;obtain⟨vD,a⟩:=a;refine wD (fun st=>Mn (k:=.i64) SW Tryz.underlying3 (eR st) vD)<|wM (v:=.slice bZ c2.length b4) rfl<|wD (fun st=>Bo Tryz.underlying23 (eR st)) ?_;replace a:=J5 a;obtain⟨qB,a⟩:=a;refine wD (fun st=>M6 (eR st) (eR st) qB.1 qB.2) ?_;replace a:=AX a;obtain⟨i88,gX,vE,vF,vG,a⟩:=a;have iU:=((((cR.mv (Ac b8)).mv (Ac bI)).mv (Ac bS)).mv (Ac gW));obtain⟨yH,yI,_,vH,⟨cS,cT,rfl,qC⟩,vJ⟩:=Sl.CB iU rfl vF;refine wD (fun st=>Bp (k:=i88) Tryz.underlying23 EP (eR st) vH (eR st) vE vG)<|wD (fun st=>Bs (v:=.slice cS gX.length cT) CK (eR st) vJ rfl)<|wA (v:=.slice cS gX.length cT) rfl<|wn<|Af<|cr<|wA (v:=I 0) rfl<|wn<|AL ?_;replace a:=bind_some a;obtain⟨qD,fB,a⟩:=a;refine BX (fun eX aF aG=>(eX=.ret∧∃fC,qD=.inl fC∧Fo X0 193 aF∧sl aF 6=.bool fC∧Hp FN [] w [some b1] aG)∨(eX=.exit 2∧∃fC,qD=.inr fC∧Fo X0 193 aF∧Hp FN [] w [some b1] aG)) ?vK ?vL
          case vK=>
           clear a;refine BW (fun dC aF aG=>∃aL,Ez aM b m gX dC aL=some qD∧Fo X0 193 aF∧sl aF 3=pt b1 0∧sl aF 7=.slice q m.1.length r∧sl aF 15=.slice cS gX.length cT∧sl aF 16=I aL∧Hp FN [] w [some b1] aG∧Bk aG b1 67 (AB z aA i j aB aC x y o p aD aE b).toArray∧(fun aI=>Sl Ay aG aI z aA b.Aj∧Sl (BG (Ah .i64)) aG aI i j b.Ab∧Sl AH aG aI aB aC b.As∧Sl AY aG aI x y b.Az∧Sl Ba aG aI o p b.AE∧Sl Bm aG aI aD aE b.AK∧Sl (Ah .i64) aG aI q r m.1∧Sl (Ah .i64) aG aI cS cT gX) (zf Z w [some b1])) aM ?vM ?vN
           case vM=>
            intro st;have qE:=((((eC.ext b8).ext bI).ext bS).ext gW);have ⟨lB,lC,lD,lE,lF,lG⟩:=CF dW dX dY dZ d0 d1 (mt (Ac b8) (mt (Ac bI) (mt (Ac bS) (Ac gW))));have iV:=(bA.mv (Ac gW));exact⟨(0:Int),fB,qo st,sp st 3 bD,sp st 7 bY,sp st 15 rfl,sp st 16 rfl,vC,qE,lB,lC,lD,lE,lF,lG,iV,qC⟩
           case vN=>
            rintro(_|dC) xM xN ⟨aL,fB,rI,aW,a8,iB,aT,iW,aU,cI,bM,cJ,bN,a9,cK,a7,eD⟩
            ·exact absurd (show none=some _ from fB) (by simp)
            rw[Ez.eq_2] at fB;have a:=fB;clear fB;refine ro rI<|Af<|cr<|wM (v:=I aL) aT<|wM (v:=.slice q m.1.length r) a8<|wD (fun st=>Bo Tryz.underlying31 (eR st))<|wD (fun st=>B6 (eR st) (eR st))<|wn ?_;rcases Ae (decide (aL<(m.1.length:Int))) with gY|gY
            ·replace a:=Aq a gY;refine Ai rfl gY<|cn<|Af<|AL<|Af ?_;replace a:=AX a;obtain⟨i92,iC,lH,vO,lI,a⟩:=a;obtain⟨qF,qG,_,lJ,rfl,lK⟩:=Sl.CB a7 rfl vO;replace a:=AN a;obtain⟨lL,a⟩:=a;replace a:=bind_some a;obtain⟨bK,lM,a⟩:=a;rcases Ae (!bK) with s|s
             ·replace a:=Aq a s;have wP:bK=false:=by simpa using s
              refine BZ 49 [Kc (.slice q m.1.length r),Kc (I aL),Kc (pt qF (qG+i92)),Kc (I iC),Kc (pt b1 0),Kc (pt b1 1),Kc (.slice i b.Ab.length j),Kc (I (b.Ab.length:Int)),Kc (I ((b.Ab.length:Int)-1)),Kc (.bool bK),Kc (.bool !bK),Kc (.bool !bK),Kc undef,Kc undef,Kc undef,Kc undef,Kc undef,Kc undef,Kc undef,Kc undef,Kc undef,Kc undef,Kc undef,Kc undef,Kc undef,Kc (.bool true),Kc (.bool true),Kc undef,Kc undef,Kc undef,Kc undef,Kc undef,Kc undef,Kc undef,Kc undef,Kc undef,Kc undef,Kc undef,Kc undef,Kc undef,Kc undef,Kc undef,Kc undef,Kc undef,Kc undef,Kc undef,Kc undef,Kc undef,Kc undef] mixed rfl rfl
                  (Aa (oD (fun K=>AA (es ((K.out 7 rfl).trans a8))))
                  (Aa (oD (fun K=>AA (es ((K.out 16 rfl).trans aT))))
                  (Aa (oD (fun K=>Bp (k:=i92) Tryz.underlying31 CR (es (K.dq 0 141)) lJ (es (K.dq 1 142)) lH lI))
                  (Aa (oD (fun K=>Bs Bl (es (K.dq 2 143)) (lK.mv (Ac K.AV)) rfl))
                  (Aa (oD (fun K=>Ad (es ((K.out 3 rfl).trans aW)) (FV _ _)))
                  (Aa (oD (fun K=>Ad (es (K.dq 4 145)) (DZ _ _)))
                  (Aa (oD (fun K=>Ag Dg (es (K.dq 5 146)) (aU.ext K.AV) rfl))
                  (Aa (oD (fun K=>Bo Tryz.underlying23 (es (K.dq 6 147))))
                  (Aa (oD (fun K=>EC (es (K.dq 7 148)) (ec (v:=I 1)) lL))
                  (Aa (oE (fun K=>(Al Ey rfl (Ev (es (K.dq 3 144)) (ec (v:=I 0)) (es (K.dq 8 149))) (Ia aM iC 0 ((b.Ab.length:Int)-1) ZA _ bK lM)).mono (fun _ _ h=>⟨h.2,h.1⟩)))
                  (Aa (oD (fun K=>B7 (es (K.dq 9 150))))
                  (Aa (oD (fun K=>AA (es (K.dq 10 151))))
                  (Aa (oT s)
                  (Aa (oT s)
                  (Aa (oT s)
                  (Aa (oT s)
                  (Aa (oT s)
                  (Aa (oT s)
                  (Aa (oT s)
                  (Aa (oT s)
                  (Aa (oT s)
                  (Aa (oT s)
                  (Aa (oT s)
                  (Aa (oT s)
                  (Aa (oT s)
                  (Aa (oD (fun K=>Bc (es (K.dq 11 152)) s (ec (v:=.bool true))))
                  (Aa (oD (fun K=>AA (es (K.dq 25 166))))
                  (Aa (oS (c:=true) (fun a' w' ph K=>(show sl a' 167=.bool true from K.dq 26 167)))
                  (Aa (oS (c:=true) (fun a' w' ph K=>(show sl a' 167=.bool true from K.dq 26 167)))
                  (Aa (oS (c:=true) (fun a' w' ph K=>(show sl a' 167=.bool true from K.dq 26 167)))
                  (Aa (oS (c:=true) (fun a' w' ph K=>(show sl a' 167=.bool true from K.dq 26 167)))
                  (Aa (oS (c:=true) (fun a' w' ph K=>(show sl a' 167=.bool true from K.dq 26 167)))
                  (Aa (oS (c:=true) (fun a' w' ph K=>(show sl a' 167=.bool true from K.dq 26 167)))
                  (Aa (oS (c:=true) (fun a' w' ph K=>(show sl a' 167=.bool true from K.dq 26 167)))
                  (Aa (oS (c:=true) (fun a' w' ph K=>(show sl a' 167=.bool true from K.dq 26 167)))
                  (Aa (oS (c:=true) (fun a' w' ph K=>(show sl a' 167=.bool true from K.dq 26 167)))
                  (Aa (oS (c:=true) (fun a' w' ph K=>(show sl a' 167=.bool true from K.dq 26 167)))
                  (Aa (oS (c:=true) (fun a' w' ph K=>(show sl a' 167=.bool true from K.dq 26 167)))
                  (Aa (oS (c:=true) (fun a' w' ph K=>(show sl a' 167=.bool true from K.dq 26 167)))
                  (Aa (oS (c:=true) (fun a' w' ph K=>(show sl a' 167=.bool true from K.dq 26 167)))
                  (Aa (oS (c:=true) (fun a' w' ph K=>(show sl a' 167=.bool true from K.dq 26 167)))
                  (Aa (oS (c:=true) (fun a' w' ph K=>(show sl a' 167=.bool true from K.dq 26 167)))
                  (Aa (oS (c:=true) (fun a' w' ph K=>(show sl a' 167=.bool true from K.dq 26 167)))
                  (Aa (oS (c:=true) (fun a' w' ph K=>(show sl a' 167=.bool true from K.dq 26 167)))
                  (Aa (oS (c:=true) (fun a' w' ph K=>(show sl a' 167=.bool true from K.dq 26 167)))
                  (Aa (oS (c:=true) (fun a' w' ph K=>(show sl a' 167=.bool true from K.dq 26 167)))
                  (Aa (oS (c:=true) (fun a' w' ph K=>(show sl a' 167=.bool true from K.dq 26 167)))
                  (Aa (oS (c:=true) (fun a' w' ph K=>(show sl a' 167=.bool true from K.dq 26 167)))
                  (Aa (oS (c:=true) (fun a' w' ph K=>(show sl a' 167=.bool true from K.dq 26 167)))
                  (BY _)))))))))))))))))))))))))))))))))))))))))))))))))) ?_
              intro tR;rintro _ rfl _ rfl _ rfl _ rfl _ rfl _ rfl _ rfl _ rfl _ rfl _ rfl _ rfl _ rfl _ rfl _ rfl _ rfl _ rfl _ rfl _ rfl _ rfl _ rfl _ rfl _ rfl _ rfl _ rfl _ rfl _ rfl _ rfl _ rfl _ rfl _ rfl _ rfl _ rfl _ rfl _ rfl _ rfl _ rfl _ rfl _ rfl _ rfl _ rfl _ rfl _ rfl _ rfl _ rfl _ rfl _ rfl _ rfl _ rfl _ rfl d8;have vP:=iW.ext d8;refine wH<|wD (fun st=>Bc (v:=.bool true) (eR st) rfl (eR st))<|wn<|Ai rfl rfl<|cr<|wA (v:=.bool false) rfl<|wn<|Ak<|CH<|AI ?_;obtain rfl:=oi a;refine BF (fun st=>?_);exact .inl ⟨rfl,false,rfl,qo st,sp st 6 rfl,vP⟩
             ·replace a:=Ar a s;have wQ:bK=true:=by simpa using s
              replace a:=AX a;obtain⟨i98,mH,qH,vQ,qI,a⟩:=a;obtain⟨tS,tT,_,qJ,rfl,qK⟩:=Sl.CB a7 rfl vQ;replace a:=bind_some a;obtain⟨cL,qL,a⟩:=a;replace a:=AX a;obtain⟨i100,cA,mI,rJ,mJ,a⟩:=a;obtain⟨iX,iY,_,mK,rfl,mL⟩:=Sl.elem a9 (by decide) rJ;rcases Ae (decide (cL<cA.Cc)) with d|d
              ·replace a:=Aq a d;refine BZ 49 [Kc (.slice q m.1.length r),Kc (I aL),Kc (pt qF (qG+i92)),Kc (I iC),Kc (pt b1 0),Kc (pt b1 1),Kc (.slice i b.Ab.length j),Kc (I (b.Ab.length:Int)),Kc (I ((b.Ab.length:Int)-1)),Kc (.bool bK),Kc (.bool !bK),Kc (.bool !bK),Kc (.agg (AB z aA i j aB aC x y o p aD aE b).toArray),Kc (.slice q m.1.length r),Kc (I aL),Kc (pt tS (tT+i98)),Kc (I mH),Kc (I cL),Kc (pt b1 5),Kc (.slice o b.AE.length p),Kc (I aL),Kc (pt iX (iY+i100*2)),Kc (pt iX (iY+i100*2+1)),Kc (I cA.Cc),Kc (.bool (decide (cL<cA.Cc))),Kc (.bool (decide (cL<cA.Cc))),Kc (.bool (decide (cL<cA.Cc))),Kc undef,Kc undef,Kc undef,Kc undef,Kc undef,Kc undef,Kc undef,Kc undef,Kc undef,Kc undef,Kc undef,Kc undef,Kc undef,Kc undef,Kc undef,Kc undef,Kc undef,Kc undef,Kc undef,Kc undef,Kc undef,Kc undef] mixed rfl rfl
                   (Aa (oD (fun K=>AA (es ((K.out 7 rfl).trans a8))))
                   (Aa (oD (fun K=>AA (es ((K.out 16 rfl).trans aT))))
                   (Aa (oD (fun K=>Bp (k:=i92) Tryz.underlying31 CR (es (K.dq 0 141)) lJ (es (K.dq 1 142)) lH lI))
                   (Aa (oD (fun K=>Bs Bl (es (K.dq 2 143)) (lK.mv (Ac K.AV)) rfl))
                   (Aa (oD (fun K=>Ad (es ((K.out 3 rfl).trans aW)) (FV _ _)))
                   (Aa (oD (fun K=>Ad (es (K.dq 4 145)) (DZ _ _)))
                   (Aa (oD (fun K=>Ag Dg (es (K.dq 5 146)) (aU.ext K.AV) rfl))
                   (Aa (oD (fun K=>Bo Tryz.underlying23 (es (K.dq 6 147))))
                   (Aa (oD (fun K=>EC (es (K.dq 7 148)) (ec (v:=I 1)) lL))
                   (Aa (oE (fun K=>(Al Ey rfl (Ev (es (K.dq 3 144)) (ec (v:=I 0)) (es (K.dq 8 149))) (Ia aM iC 0 ((b.Ab.length:Int)-1) ZA _ bK lM)).mono (fun _ _ h=>⟨h.2,h.1⟩)))
                   (Aa (oD (fun K=>B7 (es (K.dq 9 150))))
                   (Aa (oD (fun K=>AA (es (K.dq 10 151))))
                   (Aa (oG s (fun K=>Bd (l:=(AB z aA i j aB aC x y o p aD aE b)) GP (es ((K.out 3 rfl).trans aW)) (aU.ext K.AV) rfl rfl))
                   (Aa (oG s (fun K=>AA (es ((K.out 7 rfl).trans a8))))
                   (Aa (oG s (fun K=>AA (es ((K.out 16 rfl).trans aT))))
                   (Aa (oG s (fun K=>Bp (k:=i98) Tryz.underlying31 CR (es (K.dq 13 154)) qJ (es (K.dq 14 155)) qH qI))
                   (Aa (oG s (fun K=>Bs Bl (es (K.dq 15 156)) (qK.mv (Ac K.AV)) rfl))
                   (Aa (oX s (fun K=>(Al MY rfl (Cf (es (K.dq 12 153)) (es (K.dq 16 157))) (TW aM b mH z aA i j aB aC x y o p aD aE ZA _ (cI.mv (Ac K.AV)).all (bM.mv (Ac K.AV)).all (cJ.mv (Ac K.AV)).all (bN.mv (Ac K.AV)).all (a9.mv (Ac K.AV)).all (cK.mv (Ac K.AV)).all cL qL)).mono (fun _ _ h=>⟨h.2,h.1⟩)))
                   (Aa (oG s (fun K=>Ad (es ((K.out 3 rfl).trans aW)) (FX _ _)))
                   (Aa (oG s (fun K=>Ag GQ (es (K.dq 18 159)) (aU.ext K.AV) rfl))
                   (Aa (oG s (fun K=>AA (es ((K.out 16 rfl).trans aT))))
                   (Aa (oG s (fun K=>Bu (k:=i100) Tryz.underlying64 Ja (es (K.dq 19 160)) mK (es (K.dq 20 161)) mI mJ))
                   (Aa (oG s (fun K=>Ad (es (K.dq 21 162)) (Ki _ _ _)))
                   (Aa (oG s (fun K=>DD Bl (es (K.dq 22 163)) (mL.mv (Ac K.AV)) rfl))
                   (Aa (oG s (fun K=>B6 (es (K.dq 17 158)) (es (K.dq 23 164))))
                   (Aa (oD (fun K=>Bt (es (K.dq 11 152)) s (es (K.dq 24 165))))
                   (Aa (oD (fun K=>AA (es (K.dq 25 166))))
                   (Aa (oT d)
                   (Aa (oT d)
                   (Aa (oT d)
                   (Aa (oT d)
                   (Aa (oT d)
                   (Aa (oT d)
                   (Aa (oT d)
                   (Aa (oT d)
                   (Aa (oT d)
                   (Aa (oT d)
                   (Aa (oT d)
                   (Aa (oT d)
                   (Aa (oT d)
                   (Aa (oT d)
                   (Aa (oT d)
                   (Aa (oT d)
                   (Aa (oT d)
                   (Aa (oT d)
                   (Aa (oT d)
                   (Aa (oT d)
                   (Aa (oT d)
                   (Aa (oT d)
                   (BY _)))))))))))))))))))))))))))))))))))))))))))))))))) ?_
               intro tR;rintro _ rfl _ rfl _ rfl _ rfl _ rfl _ rfl _ rfl _ rfl _ rfl _ rfl _ rfl _ rfl _ rfl _ rfl _ rfl _ rfl _ rfl _ rfl _ rfl _ rfl _ rfl _ rfl _ rfl _ rfl _ rfl _ rfl _ rfl _ rfl _ rfl _ rfl _ rfl _ rfl _ rfl _ rfl _ rfl _ rfl _ rfl _ rfl _ rfl _ rfl _ rfl _ rfl _ rfl _ rfl _ rfl _ rfl _ rfl _ rfl _ rfl d8;have vR:=iW.ext d8;refine wF d<|wD (fun st=>Bc (v:=.bool true) (eR st) d (eR st))<|wn<|Ai rfl rfl<|cr<|wA (v:=.bool false) rfl<|wn<|Ak<|CH<|AI ?_;obtain rfl:=oi a;refine BF (fun st=>?_);exact .inl ⟨rfl,false,rfl,qo st,sp st 6 rfl,vR⟩
              ·replace a:=Ar a d;replace a:=AX a;obtain⟨i102,vS,rK,rL,rM,a⟩:=a;obtain⟨vT,vU,_,rN,rfl,rO⟩:=Sl.CB a7 rfl rL;replace a:=AX a;obtain⟨i103,qM,rP,rQ,rR,a⟩:=a;obtain⟨vV,vW,_,rS,⟨jX,jY,rfl,o1⟩,rT⟩:=Sl.CB bM rfl rQ;replace a:=bind_some a;obtain⟨iZ,rU,a⟩:=a;replace a:=AX a;obtain⟨i105,vX,rV,rW,rX,a⟩:=a;obtain⟨qN,qO,_,rY,rfl,rZ⟩:=Sl.elem a9 (by decide) rW;replace a:=AX a;obtain⟨i106,lN,r0,r1,r2,a⟩:=a;obtain⟨qP,qQ,_,r3,rfl,r4⟩:=Sl.elem bN (by decide) r1;refine BZ 49 [Kc (.slice q m.1.length r),Kc (I aL),Kc (pt qF (qG+i92)),Kc (I iC),Kc (pt b1 0),Kc (pt b1 1),Kc (.slice i b.Ab.length j),Kc (I (b.Ab.length:Int)),Kc (I ((b.Ab.length:Int)-1)),Kc (.bool bK),Kc (.bool !bK),Kc (.bool !bK),Kc (.agg (AB z aA i j aB aC x y o p aD aE b).toArray),Kc (.slice q m.1.length r),Kc (I aL),Kc (pt tS (tT+i98)),Kc (I mH),Kc (I cL),Kc (pt b1 5),Kc (.slice o b.AE.length p),Kc (I aL),Kc (pt iX (iY+i100*2)),Kc (pt iX (iY+i100*2+1)),Kc (I cA.Cc),Kc (.bool (decide (cL<cA.Cc))),Kc (.bool (decide (cL<cA.Cc))),Kc (.bool (decide (cL<cA.Cc))),Kc (.slice cS gX.length cT),Kc (pt b1 0),Kc (pt b1 1),Kc (.slice i b.Ab.length j),Kc (.slice q m.1.length r),Kc (I aL),Kc (pt vT (vU+i102)),Kc (I vS),Kc (pt vV (vW+i103)),Kc (.slice jX qM.length jY),Kc (I iZ),Kc (pt b1 4),Kc (.slice x b.Az.length y),Kc (pt b1 5),Kc (.slice o b.AE.length p),Kc (I aL),Kc (pt qN (qO+i105*2)),Kc (pt qN (qO+i105*2)),Kc (I vX.Cr),Kc (pt qP (qQ+i106*2)),Kc (pt qP (qQ+i106*2)),Kc (I lN.AT)] mixed rfl rfl
                   (Aa (oD (fun K=>AA (es ((K.out 7 rfl).trans a8))))
                   (Aa (oD (fun K=>AA (es ((K.out 16 rfl).trans aT))))
                   (Aa (oD (fun K=>Bp (k:=i92) Tryz.underlying31 CR (es (K.dq 0 141)) lJ (es (K.dq 1 142)) lH lI))
                   (Aa (oD (fun K=>Bs Bl (es (K.dq 2 143)) (lK.mv (Ac K.AV)) rfl))
                   (Aa (oD (fun K=>Ad (es ((K.out 3 rfl).trans aW)) (FV _ _)))
                   (Aa (oD (fun K=>Ad (es (K.dq 4 145)) (DZ _ _)))
                   (Aa (oD (fun K=>Ag Dg (es (K.dq 5 146)) (aU.ext K.AV) rfl))
                   (Aa (oD (fun K=>Bo Tryz.underlying23 (es (K.dq 6 147))))
                   (Aa (oD (fun K=>EC (es (K.dq 7 148)) (ec (v:=I 1)) lL))
                   (Aa (oE (fun K=>(Al Ey rfl (Ev (es (K.dq 3 144)) (ec (v:=I 0)) (es (K.dq 8 149))) (Ia aM iC 0 ((b.Ab.length:Int)-1) ZA _ bK lM)).mono (fun _ _ h=>⟨h.2,h.1⟩)))
                   (Aa (oD (fun K=>B7 (es (K.dq 9 150))))
                   (Aa (oD (fun K=>AA (es (K.dq 10 151))))
                   (Aa (oG s (fun K=>Bd (l:=(AB z aA i j aB aC x y o p aD aE b)) GP (es ((K.out 3 rfl).trans aW)) (aU.ext K.AV) rfl rfl))
                   (Aa (oG s (fun K=>AA (es ((K.out 7 rfl).trans a8))))
                   (Aa (oG s (fun K=>AA (es ((K.out 16 rfl).trans aT))))
                   (Aa (oG s (fun K=>Bp (k:=i98) Tryz.underlying31 CR (es (K.dq 13 154)) qJ (es (K.dq 14 155)) qH qI))
                   (Aa (oG s (fun K=>Bs Bl (es (K.dq 15 156)) (qK.mv (Ac K.AV)) rfl))
                   (Aa (oX s (fun K=>(Al MY rfl (Cf (es (K.dq 12 153)) (es (K.dq 16 157))) (TW aM b mH z aA i j aB aC x y o p aD aE ZA _ (cI.mv (Ac K.AV)).all (bM.mv (Ac K.AV)).all (cJ.mv (Ac K.AV)).all (bN.mv (Ac K.AV)).all (a9.mv (Ac K.AV)).all (cK.mv (Ac K.AV)).all cL qL)).mono (fun _ _ h=>⟨h.2,h.1⟩)))
                   (Aa (oG s (fun K=>Ad (es ((K.out 3 rfl).trans aW)) (FX _ _)))
                   (Aa (oG s (fun K=>Ag GQ (es (K.dq 18 159)) (aU.ext K.AV) rfl))
                   (Aa (oG s (fun K=>AA (es ((K.out 16 rfl).trans aT))))
                   (Aa (oG s (fun K=>Bu (k:=i100) Tryz.underlying64 Ja (es (K.dq 19 160)) mK (es (K.dq 20 161)) mI mJ))
                   (Aa (oG s (fun K=>Ad (es (K.dq 21 162)) (Ki _ _ _)))
                   (Aa (oG s (fun K=>DD Bl (es (K.dq 22 163)) (mL.mv (Ac K.AV)) rfl))
                   (Aa (oG s (fun K=>B6 (es (K.dq 17 158)) (es (K.dq 23 164))))
                   (Aa (oD (fun K=>Bt (es (K.dq 11 152)) s (es (K.dq 24 165))))
                   (Aa (oD (fun K=>AA (es (K.dq 25 166))))
                   (Aa (oG d (fun K=>AA (es ((K.out 15 rfl).trans iB))))
                   (Aa (oG d (fun K=>Ad (es ((K.out 3 rfl).trans aW)) (FV _ _)))
                   (Aa (oG d (fun K=>Ad (es (K.dq 28 169)) (DZ _ _)))
                   (Aa (oG d (fun K=>Ag Dg (es (K.dq 29 170)) (aU.ext K.AV) rfl))
                   (Aa (oG d (fun K=>AA (es ((K.out 7 rfl).trans a8))))
                   (Aa (oG d (fun K=>AA (es ((K.out 16 rfl).trans aT))))
                   (Aa (oG d (fun K=>Bp (k:=i102) Tryz.underlying31 CR (es (K.dq 31 172)) rN (es (K.dq 32 173)) rK rM))
                   (Aa (oG d (fun K=>Bs Bl (es (K.dq 33 174)) (rO.mv (Ac K.AV)) rfl))
                   (Aa (oG d (fun K=>Bp (k:=i103) Tryz.underlying23 EP (es (K.dq 30 171)) rS (es (K.dq 34 175)) rP rR))
                   (Aa (oG d (fun K=>Bs CK (es (K.dq 35 176)) (rT.mv (Ac K.AV)) rfl))
                   (Aa (oX d (fun K=>(Al OB rfl (Cf (es (K.dq 27 168)) (es (K.dq 36 177))) (a87 aM gX qM cS cT jX jY ZA _ (eD.mv (Ac K.AV)).all (o1.mv (Ac K.AV)).all iZ rU)).mono (fun _ _ h=>⟨h.2,h.1⟩)))
                   (Aa (oG d (fun K=>Ad (es ((K.out 3 rfl).trans aW)) (FW _ _)))
                   (Aa (oG d (fun K=>Ag GO (es (K.dq 38 179)) (aU.ext K.AV) rfl))
                   (Aa (oG d (fun K=>Ad (es ((K.out 3 rfl).trans aW)) (FX _ _)))
                   (Aa (oG d (fun K=>Ag GQ (es (K.dq 40 181)) (aU.ext K.AV) rfl))
                   (Aa (oG d (fun K=>AA (es ((K.out 16 rfl).trans aT))))
                   (Aa (oG d (fun K=>Bu (k:=i105) Tryz.underlying64 Ja (es (K.dq 41 182)) rY (es (K.dq 42 183)) rV rX))
                   (Aa (oG d (fun K=>Ad (es (K.dq 43 184)) (Lb _ _ _)))
                   (Aa (oG d (fun K=>Bs Bl (es (K.dq 44 185)) (rZ.mv (Ac K.AV)) rfl))
                   (Aa (oG d (fun K=>Bu (k:=i106) Tryz.underlying63 I9 (es (K.dq 39 180)) r3 (es (K.dq 45 186)) r0 r2))
                   (Aa (oG d (fun K=>Ad (es (K.dq 46 187)) (Kh _ _ _)))
                   (Aa (oG d (fun K=>Bs Bl (es (K.dq 47 188)) (r4.mv (Ac K.AV)) rfl))
                   (BY _)))))))))))))))))))))))))))))))))))))))))))))))))) ?_
               intro tR;rintro _ rfl _ rfl _ rfl _ rfl _ rfl _ rfl _ rfl _ rfl _ rfl _ rfl _ rfl _ rfl _ rfl _ rfl _ rfl _ rfl _ rfl _ rfl _ rfl _ rfl _ rfl _ rfl _ rfl _ rfl _ rfl _ rfl _ rfl _ rfl _ rfl _ rfl _ rfl _ rfl _ rfl _ rfl _ rfl _ rfl _ rfl _ rfl _ rfl _ rfl _ rfl _ rfl _ rfl _ rfl _ rfl _ rfl _ rfl _ rfl _ rfl d8;have qR:=iW.ext d8;refine wG d (fun st=>B6 (eR st) (eR st))<|wD (fun st=>Bt (v:=.bool (decide (iZ<lN.AT))) (eR st) d (eR st))<|wn ?_;rcases Ae (decide (iZ<lN.AT)) with eE|eE
               ·replace a:=Aq a eE;refine Ai rfl eE<|cr<|wA (v:=.bool false) rfl<|wn<|Ak<|CH<|AI ?_;obtain rfl:=oi a;refine BF (fun st=>?_);exact .inl ⟨rfl,false,rfl,qo st,sp st 6 rfl,qR⟩
               ·replace a:=Ar a eE;refine Au rfl eE<|Cm<|C5<|An<|wM (v:=I aL) aT ?_;replace a:=AN a;obtain⟨r5,a⟩:=a;refine wD (fun st=>BR (eR st) (eR st) r5)<|wA (v:=I (aL+1)) rfl<|Bn ?_;have qS:=(aU.ext d8);have ⟨lO,lP,lQ,lR,lS,lT,i0,jZ⟩:=Ex cI bM cJ bN a9 cK a7 eD (Ac d8);refine Bz dC (Nat.lt_succ_self _) (fun st=>?_);exact⟨(aL+1),a,qo st,sp st 3 aW,sp st 7 a8,sp st 15 iB,sp st 16 rfl,qR,qS,lO,lP,lQ,lR,lS,lT,i0,jZ⟩
            ·replace a:=Ar a gY;refine Au rfl gY<|Dy ?_;obtain rfl:=oi a;refine BF (fun st=>?_);exact .inr ⟨rfl,(),rfl,qo st,iW⟩
          case vL=>
           rintro eX xB xO (⟨rfl,fC,rfl,gZ,o2,i1⟩|⟨rfl,fC,rfl,gZ,i1⟩)
           ·skip
            replace a:=CU a;refine lf gZ<|CH ?_;have bE:=oi a;refine Aw rfl o2 ?_;exact⟨i1.Bf,congrArg Value.bool bE⟩
           ·skip
            replace a:=CV a;refine lf gZ<|Bi<|BM<|Af<|An ?_;replace a:=Cu a;obtain⟨r6,a⟩:=a;refine wE (fun st=>Al LJ (eR st) HO (a37 aM ZA _ r6)) ?_;rintro _ xP ⟨r7,rfl⟩;have vY:=i1.ext r7;refine wA (v:=.bool true) rfl<|wn<|Ak ?_;have bE:=oi a;refine Aw rfl rfl ?_;exact⟨vY.Bf,congrArg Value.bool bE⟩
        ·replace a:=Ar a bJ;refine wF bJ<|wF bJ<|wF bJ<|wG bT (fun st=>Bt (v:=.bool false) (eR st) bJ (eR st))<|wD (fun st=>Bt (v:=.bool false) (eR st) bT (eR st))<|wn<|Au rfl rfl<|cn<|cr<|wM (v:=.slice bZ c2.length b4) rfl<|wM (v:=.int .u16 jG) h9 ?_;replace a:=KZ a;obtain⟨r8,a⟩:=a;refine wD (fun st=>Mn (k:=.i64) SW Tryz.underlying3 (eR st) r8)<|wM (v:=.slice bZ c2.length b4) rfl<|wD (fun st=>Bo Tryz.underlying23 (eR st)) ?_;replace a:=J5 a;obtain⟨mM,a⟩:=a;refine wD (fun st=>M6 (eR st) (eR st) mM.1 mM.2) ?_;replace a:=AX a;obtain⟨i113,d9,r9,sB,sC,a⟩:=a;have i2:=(((cR.mv (Ac b8)).mv (Ac bI)).mv (Ac bS));obtain⟨xQ,xR,_,sD,⟨b5,b6,rfl,o3⟩,sE⟩:=Sl.CB i2 rfl sB;refine wD (fun st=>Bp (k:=i113) Tryz.underlying23 EP (eR st) sD (eR st) r9 sC)<|wD (fun st=>Bs (v:=.slice b5 d9.length b6) CK (eR st) sE rfl)<|wA (v:=.slice b5 d9.length b6) rfl<|wn<|Af<|cr<|wA (v:=I 0) rfl<|wn<|AL ?_;replace a:=bind_some a;obtain⟨lU,cU,a⟩:=a;refine BX (fun eX aF aG=>(eX=.ret∧∃cV,lU=.inl cV∧Fo X0 193 aF∧sl aF 6=.bool cV∧Hp FN [] w [some b1] aG)∨(eX=.exit 2∧∃cV,lU=.inr cV∧Fo X0 193 aF∧Hp FN [] w [some b1] aG)) ?sF ?sG
         case sF=>
          clear a;refine BW (fun dC aF aG=>∃aH,Ek aM b m d9 dC aH=some lU∧Fo X0 193 aF∧sl aF 3=pt b1 0∧sl aF 7=.slice q m.1.length r∧sl aF 15=.slice b5 d9.length b6∧sl aF 16=I aH∧Hp FN [] w [some b1] aG∧Bk aG b1 67 (AB z aA i j aB aC x y o p aD aE b).toArray∧(fun aI=>Sl Ay aG aI z aA b.Aj∧Sl (BG (Ah .i64)) aG aI i j b.Ab∧Sl AH aG aI aB aC b.As∧Sl AY aG aI x y b.Az∧Sl Ba aG aI o p b.AE∧Sl Bm aG aI aD aE b.AK∧Sl (Ah .i64) aG aI b5 b6 d9∧Sl (Ah .i64) aG aI q r m.1) (zf Z w [some b1])) aM ?sH ?sI
          case sH=>
           intro st;have qT:=(((eC.ext b8).ext bI).ext bS);have ⟨lV,lW,lX,lY,lZ,l0⟩:=CF dW dX dY dZ d0 d1 (mt (Ac b8) (mt (Ac bI) (Ac bS)));have bA:=((b9.mv (Ac bI)).mv (Ac bS));exact⟨(0:Int),cU,qo st,sp st 3 bD,sp st 7 bY,sp st 15 rfl,sp st 16 rfl,qA,qT,lV,lW,lX,lY,lZ,l0,o3,bA⟩
          case sI=>
           rintro(_|dC) xC xD ⟨aH,cU,qU,aV,a3,g0,aN,i3,aO,cB,bB,cC,bC,a5,cD,cM,a6⟩
           ·exact absurd (show none=some _ from cU) (by simp)
           rw[Ek.eq_2] at cU;have a:=cU;clear cU;refine ro qU<|Af<|cr<|wM (v:=I aH) aN<|wM (v:=.slice q m.1.length r) a3<|wD (fun st=>Bo Tryz.underlying31 (eR st))<|wD (fun st=>B6 (eR st) (eR st))<|wn ?_;rcases Ae (decide (aH<(m.1.length:Int))) with eF|eF
           ·replace a:=Aq a eF;refine Ai rfl eF<|cn<|Af<|AL<|Af ?_;replace a:=AX a;obtain⟨i117,fD,i4,sJ,i5,a⟩:=a;obtain⟨l1,l2,_,i6,rfl,i7⟩:=Sl.CB a6 rfl sJ;replace a:=AN a;obtain⟨i8,a⟩:=a;replace a:=bind_some a;obtain⟨a2,i9,a⟩:=a;rcases Ae (!a2) with g|g
            ·replace a:=Aq a g;have tU:a2=false:=by simpa using g
             refine BZ 49 [Kc (.slice q m.1.length r),Kc (I aH),Kc (pt l1 (l2+i117)),Kc (I fD),Kc (pt b1 0),Kc (pt b1 1),Kc (.slice i b.Ab.length j),Kc (I (b.Ab.length:Int)),Kc (I ((b.Ab.length:Int)-1)),Kc (.bool a2),Kc (.bool !a2),Kc (.bool !a2),Kc undef,Kc undef,Kc undef,Kc undef,Kc undef,Kc undef,Kc undef,Kc undef,Kc undef,Kc undef,Kc undef,Kc undef,Kc undef,Kc (.bool true),Kc (.bool true),Kc undef,Kc undef,Kc undef,Kc undef,Kc undef,Kc undef,Kc undef,Kc undef,Kc undef,Kc undef,Kc undef,Kc undef,Kc undef,Kc undef,Kc undef,Kc undef,Kc undef,Kc undef,Kc undef,Kc undef,Kc undef,Kc undef] mixed rfl rfl
                 (Aa (oD (fun K=>AA (es ((K.out 7 rfl).trans a3))))
                 (Aa (oD (fun K=>AA (es ((K.out 16 rfl).trans aN))))
                 (Aa (oD (fun K=>Bp (k:=i117) Tryz.underlying31 CR (es (K.dq 0 141)) i6 (es (K.dq 1 142)) i4 i5))
                 (Aa (oD (fun K=>Bs Bl (es (K.dq 2 143)) (i7.mv (Ac K.AV)) rfl))
                 (Aa (oD (fun K=>Ad (es ((K.out 3 rfl).trans aV)) (FV _ _)))
                 (Aa (oD (fun K=>Ad (es (K.dq 4 145)) (DZ _ _)))
                 (Aa (oD (fun K=>Ag Dg (es (K.dq 5 146)) (aO.ext K.AV) rfl))
                 (Aa (oD (fun K=>Bo Tryz.underlying23 (es (K.dq 6 147))))
                 (Aa (oD (fun K=>EC (es (K.dq 7 148)) (ec (v:=I 1)) i8))
                 (Aa (oE (fun K=>(Al Ey rfl (Ev (es (K.dq 3 144)) (ec (v:=I 0)) (es (K.dq 8 149))) (Ia aM fD 0 ((b.Ab.length:Int)-1) ZA _ a2 i9)).mono (fun _ _ h=>⟨h.2,h.1⟩)))
                 (Aa (oD (fun K=>B7 (es (K.dq 9 150))))
                 (Aa (oD (fun K=>AA (es (K.dq 10 151))))
                 (Aa (oT g)
                 (Aa (oT g)
                 (Aa (oT g)
                 (Aa (oT g)
                 (Aa (oT g)
                 (Aa (oT g)
                 (Aa (oT g)
                 (Aa (oT g)
                 (Aa (oT g)
                 (Aa (oT g)
                 (Aa (oT g)
                 (Aa (oT g)
                 (Aa (oT g)
                 (Aa (oD (fun K=>Bc (es (K.dq 11 152)) g (ec (v:=.bool true))))
                 (Aa (oD (fun K=>AA (es (K.dq 25 166))))
                 (Aa (oS (c:=true) (fun a' w' ph K=>(show sl a' 167=.bool true from K.dq 26 167)))
                 (Aa (oS (c:=true) (fun a' w' ph K=>(show sl a' 167=.bool true from K.dq 26 167)))
                 (Aa (oS (c:=true) (fun a' w' ph K=>(show sl a' 167=.bool true from K.dq 26 167)))
                 (Aa (oS (c:=true) (fun a' w' ph K=>(show sl a' 167=.bool true from K.dq 26 167)))
                 (Aa (oS (c:=true) (fun a' w' ph K=>(show sl a' 167=.bool true from K.dq 26 167)))
                 (Aa (oS (c:=true) (fun a' w' ph K=>(show sl a' 167=.bool true from K.dq 26 167)))
                 (Aa (oS (c:=true) (fun a' w' ph K=>(show sl a' 167=.bool true from K.dq 26 167)))
                 (Aa (oS (c:=true) (fun a' w' ph K=>(show sl a' 167=.bool true from K.dq 26 167)))
                 (Aa (oS (c:=true) (fun a' w' ph K=>(show sl a' 167=.bool true from K.dq 26 167)))
                 (Aa (oS (c:=true) (fun a' w' ph K=>(show sl a' 167=.bool true from K.dq 26 167)))
                 (Aa (oS (c:=true) (fun a' w' ph K=>(show sl a' 167=.bool true from K.dq 26 167)))
                 (Aa (oS (c:=true) (fun a' w' ph K=>(show sl a' 167=.bool true from K.dq 26 167)))
                 (Aa (oS (c:=true) (fun a' w' ph K=>(show sl a' 167=.bool true from K.dq 26 167)))
                 (Aa (oS (c:=true) (fun a' w' ph K=>(show sl a' 167=.bool true from K.dq 26 167)))
                 (Aa (oS (c:=true) (fun a' w' ph K=>(show sl a' 167=.bool true from K.dq 26 167)))
                 (Aa (oS (c:=true) (fun a' w' ph K=>(show sl a' 167=.bool true from K.dq 26 167)))
                 (Aa (oS (c:=true) (fun a' w' ph K=>(show sl a' 167=.bool true from K.dq 26 167)))
                 (Aa (oS (c:=true) (fun a' w' ph K=>(show sl a' 167=.bool true from K.dq 26 167)))
                 (Aa (oS (c:=true) (fun a' w' ph K=>(show sl a' 167=.bool true from K.dq 26 167)))
                 (Aa (oS (c:=true) (fun a' w' ph K=>(show sl a' 167=.bool true from K.dq 26 167)))
                 (Aa (oS (c:=true) (fun a' w' ph K=>(show sl a' 167=.bool true from K.dq 26 167)))
                 (Aa (oS (c:=true) (fun a' w' ph K=>(show sl a' 167=.bool true from K.dq 26 167)))
                 (BY _)))))))))))))))))))))))))))))))))))))))))))))))))) ?_
             intro qV;rintro _ rfl _ rfl _ rfl _ rfl _ rfl _ rfl _ rfl _ rfl _ rfl _ rfl _ rfl _ rfl _ rfl _ rfl _ rfl _ rfl _ rfl _ rfl _ rfl _ rfl _ rfl _ rfl _ rfl _ rfl _ rfl _ rfl _ rfl _ rfl _ rfl _ rfl _ rfl _ rfl _ rfl _ rfl _ rfl _ rfl _ rfl _ rfl _ rfl _ rfl _ rfl _ rfl _ rfl _ rfl _ rfl _ rfl _ rfl _ rfl _ rfl cE;have vZ:=i3.ext cE;refine wH<|wD (fun st=>Bc (v:=.bool true) (eR st) rfl (eR st))<|wn<|Ai rfl rfl<|cr<|wA (v:=.bool false) rfl<|wn<|Ak<|CH<|AI ?_;obtain rfl:=oi a;refine BF (fun st=>?_);exact .inl ⟨rfl,false,rfl,qo st,sp st 6 rfl,vZ⟩
            ·replace a:=Ar a g;have tV:a2=true:=by simpa using g
             replace a:=AX a;obtain⟨i123,jA,mN,sK,mO,a⟩:=a;obtain⟨qW,qX,_,mP,rfl,mQ⟩:=Sl.CB a6 rfl sK;replace a:=bind_some a;obtain⟨bL,mR,a⟩:=a;replace a:=AX a;obtain⟨i125,cF,mS,sL,mT,a⟩:=a;obtain⟨jB,jC,_,mU,rfl,mV⟩:=Sl.elem a5 (by decide) sL;rcases Ae (decide (bL<cF.Cc)) with f|f
             ·replace a:=Aq a f;refine BZ 49 [Kc (.slice q m.1.length r),Kc (I aH),Kc (pt l1 (l2+i117)),Kc (I fD),Kc (pt b1 0),Kc (pt b1 1),Kc (.slice i b.Ab.length j),Kc (I (b.Ab.length:Int)),Kc (I ((b.Ab.length:Int)-1)),Kc (.bool a2),Kc (.bool !a2),Kc (.bool !a2),Kc (.agg (AB z aA i j aB aC x y o p aD aE b).toArray),Kc (.slice q m.1.length r),Kc (I aH),Kc (pt qW (qX+i123)),Kc (I jA),Kc (I bL),Kc (pt b1 5),Kc (.slice o b.AE.length p),Kc (I aH),Kc (pt jB (jC+i125*2)),Kc (pt jB (jC+i125*2+1)),Kc (I cF.Cc),Kc (.bool (decide (bL<cF.Cc))),Kc (.bool (decide (bL<cF.Cc))),Kc (.bool (decide (bL<cF.Cc))),Kc undef,Kc undef,Kc undef,Kc undef,Kc undef,Kc undef,Kc undef,Kc undef,Kc undef,Kc undef,Kc undef,Kc undef,Kc undef,Kc undef,Kc undef,Kc undef,Kc undef,Kc undef,Kc undef,Kc undef,Kc undef,Kc undef] mixed rfl rfl
                  (Aa (oD (fun K=>AA (es ((K.out 7 rfl).trans a3))))
                  (Aa (oD (fun K=>AA (es ((K.out 16 rfl).trans aN))))
                  (Aa (oD (fun K=>Bp (k:=i117) Tryz.underlying31 CR (es (K.dq 0 141)) i6 (es (K.dq 1 142)) i4 i5))
                  (Aa (oD (fun K=>Bs Bl (es (K.dq 2 143)) (i7.mv (Ac K.AV)) rfl))
                  (Aa (oD (fun K=>Ad (es ((K.out 3 rfl).trans aV)) (FV _ _)))
                  (Aa (oD (fun K=>Ad (es (K.dq 4 145)) (DZ _ _)))
                  (Aa (oD (fun K=>Ag Dg (es (K.dq 5 146)) (aO.ext K.AV) rfl))
                  (Aa (oD (fun K=>Bo Tryz.underlying23 (es (K.dq 6 147))))
                  (Aa (oD (fun K=>EC (es (K.dq 7 148)) (ec (v:=I 1)) i8))
                  (Aa (oE (fun K=>(Al Ey rfl (Ev (es (K.dq 3 144)) (ec (v:=I 0)) (es (K.dq 8 149))) (Ia aM fD 0 ((b.Ab.length:Int)-1) ZA _ a2 i9)).mono (fun _ _ h=>⟨h.2,h.1⟩)))
                  (Aa (oD (fun K=>B7 (es (K.dq 9 150))))
                  (Aa (oD (fun K=>AA (es (K.dq 10 151))))
                  (Aa (oG g (fun K=>Bd (l:=(AB z aA i j aB aC x y o p aD aE b)) GP (es ((K.out 3 rfl).trans aV)) (aO.ext K.AV) rfl rfl))
                  (Aa (oG g (fun K=>AA (es ((K.out 7 rfl).trans a3))))
                  (Aa (oG g (fun K=>AA (es ((K.out 16 rfl).trans aN))))
                  (Aa (oG g (fun K=>Bp (k:=i123) Tryz.underlying31 CR (es (K.dq 13 154)) mP (es (K.dq 14 155)) mN mO))
                  (Aa (oG g (fun K=>Bs Bl (es (K.dq 15 156)) (mQ.mv (Ac K.AV)) rfl))
                  (Aa (oX g (fun K=>(Al MY rfl (Cf (es (K.dq 12 153)) (es (K.dq 16 157))) (TW aM b jA z aA i j aB aC x y o p aD aE ZA _ (cB.mv (Ac K.AV)).all (bB.mv (Ac K.AV)).all (cC.mv (Ac K.AV)).all (bC.mv (Ac K.AV)).all (a5.mv (Ac K.AV)).all (cD.mv (Ac K.AV)).all bL mR)).mono (fun _ _ h=>⟨h.2,h.1⟩)))
                  (Aa (oG g (fun K=>Ad (es ((K.out 3 rfl).trans aV)) (FX _ _)))
                  (Aa (oG g (fun K=>Ag GQ (es (K.dq 18 159)) (aO.ext K.AV) rfl))
                  (Aa (oG g (fun K=>AA (es ((K.out 16 rfl).trans aN))))
                  (Aa (oG g (fun K=>Bu (k:=i125) Tryz.underlying64 Ja (es (K.dq 19 160)) mU (es (K.dq 20 161)) mS mT))
                  (Aa (oG g (fun K=>Ad (es (K.dq 21 162)) (Ki _ _ _)))
                  (Aa (oG g (fun K=>DD Bl (es (K.dq 22 163)) (mV.mv (Ac K.AV)) rfl))
                  (Aa (oG g (fun K=>B6 (es (K.dq 17 158)) (es (K.dq 23 164))))
                  (Aa (oD (fun K=>Bt (es (K.dq 11 152)) g (es (K.dq 24 165))))
                  (Aa (oD (fun K=>AA (es (K.dq 25 166))))
                  (Aa (oT f)
                  (Aa (oT f)
                  (Aa (oT f)
                  (Aa (oT f)
                  (Aa (oT f)
                  (Aa (oT f)
                  (Aa (oT f)
                  (Aa (oT f)
                  (Aa (oT f)
                  (Aa (oT f)
                  (Aa (oT f)
                  (Aa (oT f)
                  (Aa (oT f)
                  (Aa (oT f)
                  (Aa (oT f)
                  (Aa (oT f)
                  (Aa (oT f)
                  (Aa (oT f)
                  (Aa (oT f)
                  (Aa (oT f)
                  (Aa (oT f)
                  (Aa (oT f)
                  (BY _)))))))))))))))))))))))))))))))))))))))))))))))))) ?_
              intro qV;rintro _ rfl _ rfl _ rfl _ rfl _ rfl _ rfl _ rfl _ rfl _ rfl _ rfl _ rfl _ rfl _ rfl _ rfl _ rfl _ rfl _ rfl _ rfl _ rfl _ rfl _ rfl _ rfl _ rfl _ rfl _ rfl _ rfl _ rfl _ rfl _ rfl _ rfl _ rfl _ rfl _ rfl _ rfl _ rfl _ rfl _ rfl _ rfl _ rfl _ rfl _ rfl _ rfl _ rfl _ rfl _ rfl _ rfl _ rfl _ rfl _ rfl cE;have v0:=i3.ext cE;refine wF f<|wD (fun st=>Bc (v:=.bool true) (eR st) f (eR st))<|wn<|Ai rfl rfl<|cr<|wA (v:=.bool false) rfl<|wn<|Ak<|CH<|AI ?_;obtain rfl:=oi a;refine BF (fun st=>?_);exact .inl ⟨rfl,false,rfl,qo st,sp st 6 rfl,v0⟩
             ·replace a:=Ar a f;replace a:=AX a;obtain⟨i127,v1,sM,sN,sO,a⟩:=a;obtain⟨v2,v3,_,sP,rfl,sQ⟩:=Sl.CB a6 rfl sN;replace a:=AX a;obtain⟨i128,qY,sR,sS,sT,a⟩:=a;obtain⟨v4,v5,_,sU,⟨j0,j1,rfl,o4⟩,sV⟩:=Sl.CB bB rfl sS;replace a:=bind_some a;obtain⟨jD,sW,a⟩:=a;replace a:=AX a;obtain⟨i130,v6,sX,sY,sZ,a⟩:=a;obtain⟨qZ,q0,_,s0,rfl,s1⟩:=Sl.elem a5 (by decide) sY;replace a:=AX a;obtain⟨i131,l3,s2,s3,s4,a⟩:=a;obtain⟨q2,q3,_,s5,rfl,s6⟩:=Sl.elem bC (by decide) s3;refine BZ 49 [Kc (.slice q m.1.length r),Kc (I aH),Kc (pt l1 (l2+i117)),Kc (I fD),Kc (pt b1 0),Kc (pt b1 1),Kc (.slice i b.Ab.length j),Kc (I (b.Ab.length:Int)),Kc (I ((b.Ab.length:Int)-1)),Kc (.bool a2),Kc (.bool !a2),Kc (.bool !a2),Kc (.agg (AB z aA i j aB aC x y o p aD aE b).toArray),Kc (.slice q m.1.length r),Kc (I aH),Kc (pt qW (qX+i123)),Kc (I jA),Kc (I bL),Kc (pt b1 5),Kc (.slice o b.AE.length p),Kc (I aH),Kc (pt jB (jC+i125*2)),Kc (pt jB (jC+i125*2+1)),Kc (I cF.Cc),Kc (.bool (decide (bL<cF.Cc))),Kc (.bool (decide (bL<cF.Cc))),Kc (.bool (decide (bL<cF.Cc))),Kc (.slice b5 d9.length b6),Kc (pt b1 0),Kc (pt b1 1),Kc (.slice i b.Ab.length j),Kc (.slice q m.1.length r),Kc (I aH),Kc (pt v2 (v3+i127)),Kc (I v1),Kc (pt v4 (v5+i128)),Kc (.slice j0 qY.length j1),Kc (I jD),Kc (pt b1 4),Kc (.slice x b.Az.length y),Kc (pt b1 5),Kc (.slice o b.AE.length p),Kc (I aH),Kc (pt qZ (q0+i130*2)),Kc (pt qZ (q0+i130*2)),Kc (I v6.Cr),Kc (pt q2 (q3+i131*2)),Kc (pt q2 (q3+i131*2)),Kc (I l3.AT)] mixed rfl rfl
                  (Aa (oD (fun K=>AA (es ((K.out 7 rfl).trans a3))))
                  (Aa (oD (fun K=>AA (es ((K.out 16 rfl).trans aN))))
                  (Aa (oD (fun K=>Bp (k:=i117) Tryz.underlying31 CR (es (K.dq 0 141)) i6 (es (K.dq 1 142)) i4 i5))
                  (Aa (oD (fun K=>Bs Bl (es (K.dq 2 143)) (i7.mv (Ac K.AV)) rfl))
                  (Aa (oD (fun K=>Ad (es ((K.out 3 rfl).trans aV)) (FV _ _)))
                  (Aa (oD (fun K=>Ad (es (K.dq 4 145)) (DZ _ _)))
                  (Aa (oD (fun K=>Ag Dg (es (K.dq 5 146)) (aO.ext K.AV) rfl))
                  (Aa (oD (fun K=>Bo Tryz.underlying23 (es (K.dq 6 147))))
                  (Aa (oD (fun K=>EC (es (K.dq 7 148)) (ec (v:=I 1)) i8))
                  (Aa (oE (fun K=>(Al Ey rfl (Ev (es (K.dq 3 144)) (ec (v:=I 0)) (es (K.dq 8 149))) (Ia aM fD 0 ((b.Ab.length:Int)-1) ZA _ a2 i9)).mono (fun _ _ h=>⟨h.2,h.1⟩)))
                  (Aa (oD (fun K=>B7 (es (K.dq 9 150))))
                  (Aa (oD (fun K=>AA (es (K.dq 10 151))))
                  (Aa (oG g (fun K=>Bd (l:=(AB z aA i j aB aC x y o p aD aE b)) GP (es ((K.out 3 rfl).trans aV)) (aO.ext K.AV) rfl rfl))
                  (Aa (oG g (fun K=>AA (es ((K.out 7 rfl).trans a3))))
                  (Aa (oG g (fun K=>AA (es ((K.out 16 rfl).trans aN))))
                  (Aa (oG g (fun K=>Bp (k:=i123) Tryz.underlying31 CR (es (K.dq 13 154)) mP (es (K.dq 14 155)) mN mO))
                  (Aa (oG g (fun K=>Bs Bl (es (K.dq 15 156)) (mQ.mv (Ac K.AV)) rfl))
                  (Aa (oX g (fun K=>(Al MY rfl (Cf (es (K.dq 12 153)) (es (K.dq 16 157))) (TW aM b jA z aA i j aB aC x y o p aD aE ZA _ (cB.mv (Ac K.AV)).all (bB.mv (Ac K.AV)).all (cC.mv (Ac K.AV)).all (bC.mv (Ac K.AV)).all (a5.mv (Ac K.AV)).all (cD.mv (Ac K.AV)).all bL mR)).mono (fun _ _ h=>⟨h.2,h.1⟩)))
                  (Aa (oG g (fun K=>Ad (es ((K.out 3 rfl).trans aV)) (FX _ _)))
                  (Aa (oG g (fun K=>Ag GQ (es (K.dq 18 159)) (aO.ext K.AV) rfl))
                  (Aa (oG g (fun K=>AA (es ((K.out 16 rfl).trans aN))))
                  (Aa (oG g (fun K=>Bu (k:=i125) Tryz.underlying64 Ja (es (K.dq 19 160)) mU (es (K.dq 20 161)) mS mT))
                  (Aa (oG g (fun K=>Ad (es (K.dq 21 162)) (Ki _ _ _)))
                  (Aa (oG g (fun K=>DD Bl (es (K.dq 22 163)) (mV.mv (Ac K.AV)) rfl))
                  (Aa (oG g (fun K=>B6 (es (K.dq 17 158)) (es (K.dq 23 164))))
                  (Aa (oD (fun K=>Bt (es (K.dq 11 152)) g (es (K.dq 24 165))))
                  (Aa (oD (fun K=>AA (es (K.dq 25 166))))
                  (Aa (oG f (fun K=>AA (es ((K.out 15 rfl).trans g0))))
                  (Aa (oG f (fun K=>Ad (es ((K.out 3 rfl).trans aV)) (FV _ _)))
                  (Aa (oG f (fun K=>Ad (es (K.dq 28 169)) (DZ _ _)))
                  (Aa (oG f (fun K=>Ag Dg (es (K.dq 29 170)) (aO.ext K.AV) rfl))
                  (Aa (oG f (fun K=>AA (es ((K.out 7 rfl).trans a3))))
                  (Aa (oG f (fun K=>AA (es ((K.out 16 rfl).trans aN))))
                  (Aa (oG f (fun K=>Bp (k:=i127) Tryz.underlying31 CR (es (K.dq 31 172)) sP (es (K.dq 32 173)) sM sO))
                  (Aa (oG f (fun K=>Bs Bl (es (K.dq 33 174)) (sQ.mv (Ac K.AV)) rfl))
                  (Aa (oG f (fun K=>Bp (k:=i128) Tryz.underlying23 EP (es (K.dq 30 171)) sU (es (K.dq 34 175)) sR sT))
                  (Aa (oG f (fun K=>Bs CK (es (K.dq 35 176)) (sV.mv (Ac K.AV)) rfl))
                  (Aa (oX f (fun K=>(Al OB rfl (Cf (es (K.dq 27 168)) (es (K.dq 36 177))) (a87 aM d9 qY b5 b6 j0 j1 ZA _ (cM.mv (Ac K.AV)).all (o4.mv (Ac K.AV)).all jD sW)).mono (fun _ _ h=>⟨h.2,h.1⟩)))
                  (Aa (oG f (fun K=>Ad (es ((K.out 3 rfl).trans aV)) (FW _ _)))
                  (Aa (oG f (fun K=>Ag GO (es (K.dq 38 179)) (aO.ext K.AV) rfl))
                  (Aa (oG f (fun K=>Ad (es ((K.out 3 rfl).trans aV)) (FX _ _)))
                  (Aa (oG f (fun K=>Ag GQ (es (K.dq 40 181)) (aO.ext K.AV) rfl))
                  (Aa (oG f (fun K=>AA (es ((K.out 16 rfl).trans aN))))
                  (Aa (oG f (fun K=>Bu (k:=i130) Tryz.underlying64 Ja (es (K.dq 41 182)) s0 (es (K.dq 42 183)) sX sZ))
                  (Aa (oG f (fun K=>Ad (es (K.dq 43 184)) (Lb _ _ _)))
                  (Aa (oG f (fun K=>Bs Bl (es (K.dq 44 185)) (s1.mv (Ac K.AV)) rfl))
                  (Aa (oG f (fun K=>Bu (k:=i131) Tryz.underlying63 I9 (es (K.dq 39 180)) s5 (es (K.dq 45 186)) s2 s4))
                  (Aa (oG f (fun K=>Ad (es (K.dq 46 187)) (Kh _ _ _)))
                  (Aa (oG f (fun K=>Bs Bl (es (K.dq 47 188)) (s6.mv (Ac K.AV)) rfl))
                  (BY _)))))))))))))))))))))))))))))))))))))))))))))))))) ?_
              intro qV;rintro _ rfl _ rfl _ rfl _ rfl _ rfl _ rfl _ rfl _ rfl _ rfl _ rfl _ rfl _ rfl _ rfl _ rfl _ rfl _ rfl _ rfl _ rfl _ rfl _ rfl _ rfl _ rfl _ rfl _ rfl _ rfl _ rfl _ rfl _ rfl _ rfl _ rfl _ rfl _ rfl _ rfl _ rfl _ rfl _ rfl _ rfl _ rfl _ rfl _ rfl _ rfl _ rfl _ rfl _ rfl _ rfl _ rfl _ rfl _ rfl _ rfl cE;have q4:=i3.ext cE;refine wG f (fun st=>B6 (eR st) (eR st))<|wD (fun st=>Bt (v:=.bool (decide (jD<l3.AT))) (eR st) f (eR st))<|wn ?_;rcases Ae (decide (jD<l3.AT)) with eG|eG
              ·replace a:=Aq a eG;refine Ai rfl eG<|cr<|wA (v:=.bool false) rfl<|wn<|Ak<|CH<|AI ?_;obtain rfl:=oi a;refine BF (fun st=>?_);exact .inl ⟨rfl,false,rfl,qo st,sp st 6 rfl,q4⟩
              ·replace a:=Ar a eG;refine Au rfl eG<|Cm<|C5<|An<|wM (v:=I aH) aN ?_;replace a:=AN a;obtain⟨s7,a⟩:=a;refine wD (fun st=>BR (eR st) (eR st) s7)<|wA (v:=I (aH+1)) rfl<|Bn ?_;have q5:=(aO.ext cE);have ⟨l4,l5,l6,l7,l8,l9,jE,jF⟩:=Ex cB bB cC bC a5 cD cM a6 (Ac cE);refine Bz dC (Nat.lt_succ_self _) (fun st=>?_);exact⟨(aH+1),a,qo st,sp st 3 aV,sp st 7 a3,sp st 15 g0,sp st 16 rfl,q4,q5,l4,l5,l6,l7,l8,l9,jE,jF⟩
           ·replace a:=Ar a eF;refine Au rfl eF<|Dy ?_;obtain rfl:=oi a;refine BF (fun st=>?_);exact .inr ⟨rfl,(),rfl,qo st,i3⟩
         case sG=>
          rintro eX w5 xE (⟨rfl,cV,rfl,fE,mA,g1⟩|⟨rfl,cV,rfl,fE,g1⟩)
          ·skip
           replace a:=CU a;refine lf fE<|CH ?_;have bE:=oi a;refine Aw rfl mA ?_;exact⟨g1.Bf,congrArg Value.bool bE⟩
          ·skip
           replace a:=CV a;refine lf fE<|Bi<|BM<|Af<|An ?_;replace a:=Cu a;obtain⟨s8,a⟩:=a;refine wE (fun st=>Al LJ (eR st) HO (a37 aM ZA _ s8)) ?_;rintro _ xS ⟨s9,rfl⟩;have v7:=g1.ext s9;refine wA (v:=.bool true) rfl<|wn<|Ak ?_;have bE:=oi a;refine Aw rfl rfl ?_;exact⟨v7.Bf,congrArg Value.bool bE⟩
end Go.Proofs.YtbhofkcbfblijaaGreat
end
section
namespace Go.Proofs.YtbhofkcbfblijaaGreat
open Go.RowKit Go.ChangeShapes Go.WideShapes Go.ChangeAt
theorem OD(t:AJ)(n:Int)(ws:List Int)(h1:GR .u16 n)(a:(ws.length*2≤140737488351232∧∀y∈ws,GR .u16 y)):∃K,Eu K t n ws=some true:=NX t n (by have:=Vc h1;omega) (by have:=Vc h1;omega) ws (fun x b=>by have:=Vc (a.2 x b);omega)
set_option maxRecDepth 100000 in
theorem M4(os:Os)(started:os.Started)(H:Type)(enc:TypeId×Value→H):
  ReturnsInHanded {} Tryz.checked os 20 .any (Rows.tradeFilledSpec.pre6 enc Tryz.prog Tryz.f20 Rows.tradeFilledRow.domain false) (Rows.tradeFilledSpec.post enc Tryz.prog Tryz.f20 false true false false):=by
 refine returnsInHanded_of_change_sized (C:=Tryz.checked) AaV started (by kernel_rfl) Tryz.func20
  (ChangeSpec.witness6 (enc:=enc) (C:=Tryz.checked) false ⟨#[], #[.agg #[.slice none 0 0,.slice none 0 0,.slice none 0 0,.int .i64 0,.slice none 0 0,.slice none 0 0,.slice none 0 0],.int .u16 0,.slice none 0 0],[]⟩ 8 (by kernel_rfl) (by kernel_rfl) (by kernel_rfl) (by kernel_rfl)) ?_
 intro W base args ds gs before f aG aQ aH _;have a:∀(j:Nat) t v,Tryz.f20.params[j]?=some t→args[j]?=some v→Value.okWide Tryz.prog W .any base t v:=f;have d:=aG;obtain⟨p,q,aI,aR,rfl,aZ,a0⟩:=aG;have h:DataW.TrodAll enc Tryz.prog W 0 (fun _=>true) true Tryz.f20.params.toList args.toList ds p:=aI;obtain⟨rfl,rfl⟩:=trodVars_none aR;simp only[List.append_nil] at d;have aJ:∀x∈p,x.block<W.heap.size:=fun x g=>by simpa using d.lt x g
 have aK:=h;have c:(DataW.weightsEach Tryz.prog (Tryz.f20.params.toList++[]) (ds++[])).all (· ≤reachBytes)=true:=aH;rw[Tryz.params20] at h a c;obtain⟨v0,v1,v2,d0,d1,d2,aS,aT,aU,rfl,rfl,rfl,h0,h1,h2⟩:=trodAll_three h;obtain⟨aL,a2,aM,⟨i,k,l,m,n,o,r,s,u,w,y,z,rfl,aA,aB,aC,aD,aE,aF⟩,w0⟩:=XK Tryz.underlying67 Zo (a 0 67 v0 rfl rfl) h0 (Ss (j:=0) c rfl rfl);obtain⟨x1,aN,w1⟩:=XL Tryz.underlying27 (a 1 27 v1 rfl rfl) h1;obtain⟨x2,aV,aW,aO,s2,w2⟩:=Zl Tryz.underlying113 (Iq (b:=2) Tryz.underlying113 (by kernel_rfl) (by decide) (Ip Tryz.underlying27) (by kernel_rfl)) (a 2 113 v2 rfl rfl) h2 (Ss (j:=2) c rfl rfl);subst aM;subst aN;subst aO;obtain⟨K,aX⟩:=OD aL x1 x2 w1 w2;refine(T1 (a20 K aL x1 x2 i k l m n o r s u w y z aV aW ZA W aA aB aC aD aE aF s2 aX)).mono fun e W' ⟨v,he,g,aY⟩=>?_;subst he;subst aY;exact⟨_,rfl,Rk (pa:=(aS++aT++aU)) (pv:=[]) d (fun _ _ _=>trodAll_mk1 (shut_bool Tryz.underlying4 _)) (fun sp hs=>T0 ZN ZO (by rw[Tryz.params20];decide) aK g aJ sp (fun x aP=>hs x (by simpa using aP))) (fun _ _=>rfl) (by simp) g (ok_one (by kernel_rfl) rfl (okWide_bool_mk Tryz.underlying4 _))⟩
theorem IU:((Rows.tradeFilledRow.inPlace==Tryz.checked.prog.inPlace 20)&&(Rows.tradeFilledRow.unfollowed==Tryz.checked.prog.unfollowed 20)&&(Rows.tradeFilledRow.recurses==Tryz.checked.prog.recurses 20)&&(Rows.tradeFilledRow.named==Tryz.checked.prog.varsNamed 20))=true:=by kernel_rfl
theorem Nj:joinedFacts Tryz.checked.prog 20 Tryz.f20 Rows.tradeFilledSpec Rows.tradeFilledRow=true:=by
 unfold joinedFacts;exact(E3 (E3 (E3 (E3 (E3 (E3 (E3 (E3 (E3 (E3 (E3 (E3 (E3 (E3 (E3 (E3 (E3 (E3 (E3 (E3 (E3 (E3 (E3 (E3 (E3 (E3 (E3 (E3 (E3 (E3 (E3 (by kernel_rfl) Zp) Zq) (by kernel_rfl)) (by kernel_rfl)) (by kernel_rfl)) XP) (by kernel_rfl)) XQ) (OC (OC (OC IU)))) (T3 (OC (OC IU)))) (T3 (OC IU))) (T3 IU)) (by kernel_rfl)) (by kernel_rfl)) (by kernel_rfl)) (by kernel_rfl)) (by kernel_rfl)) (by kernel_rfl)) (by kernel_rfl)) (by kernel_rfl)) (by kernel_rfl)) Zr) (by kernel_rfl)) XS) (OC (OC Q0))) (T3 (OC Q0))) (T3 Q0)) (by kernel_rfl)) (by kernel_rfl)) (by kernel_rfl)) (by kernel_rfl))
theorem tradeFilled_holds:Rows.TradeFilledSaid:=
 OpenClaim.holds_of_wide 20 Tryz.f20 rfl rfl rfl rfl rfl rfl rfl ⟨rfl,rfl,rfl,rfl,rfl⟩ rfl rfl rfl rfl rfl (by kernel_rfl) Tryz.func20 Nj
  (of_decide_eq_true (by kernel_rfl)) (by unfold Func.isWrapper;rw[if_neg (by decide+kernel)];exact⟨rfl,rfl⟩)
  (fun os started H enc _=>M4 os started H enc)
end Go.Proofs.YtbhofkcbfblijaaGreat
end
