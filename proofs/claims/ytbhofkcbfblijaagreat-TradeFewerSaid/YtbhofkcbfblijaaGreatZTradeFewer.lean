import Derived.Test.YtbhofkcbfblijaaGreatETradeFewer
import Derived.Test.YtbhofkcbfblijaaGreatRows
/-
  Proved: the law TradeFewer returns true for every argument that the row hands over, and leaves every argument as it was; no condition beside the row's own.
-/
set_option linter.all false
section
namespace Go.Proofs.YtbhofkcbfblijaaGreat
open Go.RowKit Go.WideShapes
def Lp(d:Nat)(a:Aj)(c:Int):Option (Bool):=
 (B6 d a).bind fun h=>cond (!h) ((EG (Bx d=some true)).bind fun _=>some (true)) (cond ((a.Aw.length:Int)==0) ((EG (Bx d=some true)).bind fun _=>some (true)) ((E5 .i64 c).bind fun _=>(rem c (a.Aw.length:Int)).bind fun _=>(Ov a.Aw.length (0:Int) (c%(a.Aw.length:Int))).bind fun _=>(EG (((([]:List CU).length+(Gv a.Aw (0:Int) (c%(a.Aw.length:Int))).length:Nat):Int)≤140737488355328/16)).bind fun _=>(i64 ((c%(a.Aw.length:Int))+1)).bind fun _=>(Ov a.Aw.length ((c%(a.Aw.length:Int))+1) (a.Aw.length:Int)).bind fun _=>(EG ((((([]:List CU)++(Gv a.Aw (0:Int) (c%(a.Aw.length:Int)))).length+(Gv a.Aw ((c%(a.Aw.length:Int))+1) (a.Aw.length:Int)).length:Nat):Int)≤140737488355328/16)).bind fun _=>(Co d a).bind fun e=>(JI d e).bind fun b=>cond (b.2 !=0) (cond (b.2==9) ((EG (Bx d=some true)).bind fun _=>some (true)) (cond (b.2==11) ((EG (Bx d=some true)).bind fun _=>some (true)) (cond (b.2==10) ((EG (Bx d=some true)).bind fun _=>some (true)) (some (false))))) (cond ((b.1.length:Int) !=(a.Aw.length:Int)) (some (false)) ((Co d (⟨a.Al,a.Ac,a.Ap,a.Flat,a.AH,(([]:List CU)++(Gv a.Aw (0:Int) (c%(a.Aw.length:Int))))++(Gv a.Aw ((c%(a.Aw.length:Int))+1) (a.Aw.length:Int)),a.Ao⟩:Aj)).bind fun f=>(Ov b.1.length (0:Int) (c%(a.Aw.length:Int))).bind fun _=>(EG (((0+(Gv b.1 (0:Int) (c%(a.Aw.length:Int))).length:Nat):Int)≤140737488355328/8)).bind fun _=>(i64 ((c%(a.Aw.length:Int))+1)).bind fun _=>(Ov b.1.length ((c%(a.Aw.length:Int))+1) (b.1.length:Int)).bind fun _=>(EG ((((Gv b.1 (0:Int) (c%(a.Aw.length:Int))).length+(Gv b.1 ((c%(a.Aw.length:Int))+1) (b.1.length:Int)).length:Nat):Int)≤140737488355328/8)).bind fun _=>(FF d f ((Gv b.1 (0:Int) (c%(a.Aw.length:Int)))++(Gv b.1 ((c%(a.Aw.length:Int))+1) (b.1.length:Int)))).bind fun g=>cond (g) ((EG (Bx d=some true)).bind fun _=>some (true)) (some (false))))))
end Go.Proofs.YtbhofkcbfblijaaGreat
end
section
namespace Go.Proofs.YtbhofkcbfblijaaGreat
theorem AaJ:∀{S:List (List Int)} {out d:List Int},Dp S out d=true↔d.length=S.length∧(∀i (h1:i<d.length) (h2:i<S.length),d[i]∈S[i])∧(∀x∈d,x∉out)∧d.Nodup
 |[],out,[]=>by simp[Dp]
 |[],out,_::_=>by simp[Dp]
 |_::_,out,[]=>by simp[Dp]
 |s::S,out,x::xs=>by
  rw[Dp,RC,AaJ (S:=S),List.contains_iff_mem,Bool.not_eq_true',Bool.eq_false_iff,Ne,List.contains_iff_mem];constructor
  ·rintro⟨h1,h2,e,f,h5,h⟩;refine⟨by simp[e],fun i a b=>?_,fun y c=>?_,List.nodup_cons.2 ⟨fun hx=>h5 x hx (by simp),h⟩⟩
   ·cases i with
    |zero=>exact h1
    |succ i=>exact f i (by simpa using a) (by simpa using b)
   ·rcases List.mem_cons.1 c with rfl|c
    ·exact h2
    ·exact fun g=>h5 y c (by simp[g])
  ·rintro⟨h1,h2,e,f⟩;obtain⟨h5,h⟩:=List.nodup_cons.1 f;refine⟨h2 0 (by simp) (by simp),e x (by simp),by simpa using h1,fun i a b=>?_,fun y c g=>?_,h⟩
   ·exact h2 (i+1) (by simpa using a) (by simpa using b)
   ·rcases List.mem_append.1 g with g|g
    ·exact e y (by simp[c]) g
    ·rw[List.mem_singleton.1 g] at c;exact h5 c
theorem AcR{S:List (List Int)}{d:List Int}(h:Dp S [] d=true)(k:Nat)(hk:k<S.length):Dp (S.eraseIdx k) [] (d.eraseIdx k)=true:=by
 rw[AaJ] at h⊢;obtain⟨h1,h2,_,c⟩:=h;refine⟨?_,fun i a b=>?_,by simp,c.sublist (List.eraseIdx_sublist ..)⟩
 ·rw[List.length_eraseIdx,List.length_eraseIdx,h1]
 ·rw[List.getElem_eraseIdx,List.getElem_eraseIdx];rw[List.length_eraseIdx_of_lt (by omega)] at a;split
  ·exact h2 i (by omega) (by omega)
  ·exact h2 (i+1) (by omega) (by omega)
theorem Ab1:∀a b c:Bool,(a.toNat+b.toNat+c.toNat≥1)↔(a||b||c)=true:=by decide
theorem Ab2:∀a b c d e f:Bool,((a.toNat+b.toNat+c.toNat≥1)∧(d.toNat+e.toNat+f.toNat≥1)∧(a||d).toNat+(b||e).toNat+(c||f).toNat≥2)↔(a&&e||a&&f||b&&d||b&&f||c&&d||c&&e)=true:=by decide
set_option maxRecDepth 100000 in
theorem Nd:∀a b c d e f g h i:Bool,((a.toNat+b.toNat+c.toNat≥1)∧(d.toNat+e.toNat+f.toNat≥1)∧(g.toNat+h.toNat+i.toNat≥1)∧(a||d).toNat+(b||e).toNat+(c||f).toNat≥2∧(a||g).toNat+(b||h).toNat+(c||i).toNat≥2∧(d||g).toNat+(e||h).toNat+(f||i).toNat≥2∧(a||d||g).toNat+(b||e||h).toNat+(c||f||i).toNat≥3)↔
  (a&&e&&i||a&&f&&h||b&&d&&i||b&&f&&g||c&&d&&h||c&&e&&g)=true:=by decide+kernel
theorem Fw(l m:List Int)(x:Int):(l++m).contains x=(l.contains x||m.contains x):=by
 rw[Bool.eq_iff_iff,Bool.or_eq_true,List.contains_iff_mem,List.contains_iff_mem,List.contains_iff_mem,List.mem_append]
def IS (S:List (List Int)) (l:List Int):Bool:=decide ((((l.flatMap fun i=>S.getD i.toNat []).contains 0).toNat+((l.flatMap fun i=>S.getD i.toNat []).contains 1).toNat+((l.flatMap fun i=>S.getD i.toNat []).contains 2).toNat)<l.length)
theorem Ri{S:List (List Int)}(hn:S.length≤3)(w:∀s∈S,∀x∈s,0≤x∧x<3):(∃d,Dp S [] d=true)↔∀s,s<2^S.length→IS S (Ba s)=false:=by
 have hr:∀d,Dp S [] d=true→∀x∈d,x=0∨x=1∨x=2:=fun d a x hx=>by
  obtain⟨i,hi,rfl⟩:=List.getElem_of_mem hx;have hl:=Jc a;have:=w _ (List.getElem_mem (show i<S.length by omega)) _ (Qr a i hi (by omega));omega
 match S,hn with
 |[],_=>
  refine⟨fun _ s hs=>?_,fun _=>⟨[],rfl⟩⟩;obtain rfl:s=0:=by simp at hs;omega
  decide
 |[p],_=>
  have e:IS [p] (Ba 0)=false:=rfl;have c:IS [p] (Ba 1)=decide ((p.contains 0).toNat+(p.contains 1).toNat+(p.contains 2).toNat<1):=by
   show IS [p] [0]=_;simp only[IS,List.flatMap_cons,List.flatMap_nil,List.append_nil];rfl
  have hh:=Ab1 (p.contains 0) (p.contains 1) (p.contains 2);have key:(∀s,s<2^[p].length→IS [p] (Ba s)=false)↔(p.contains 0||p.contains 1||p.contains 2)=true:=by
   rw[←hh];constructor
   ·intro h;have:=h 1 (by simp);rw[c,decide_eq_false_iff_not] at this;omega
   ·intro h s hs;have:s=0∨s=1:=by simp at hs;omega
    rcases this with rfl|rfl
    ·exact e
    ·rw[c,decide_eq_false_iff_not];omega
  rw[key];constructor
  ·rintro⟨d,a⟩
   match d,a,Jc a with
   |[x],a,_=>
    have hx:=hr [x] a x (by simp);rw[Dp,RC] at a;rcases hx with rfl|rfl|rfl<;>simp only[a.1,Bool.true_and,Bool.and_true,Bool.true_or,Bool.or_true,Bool.and_self]
  ·intro h;rw[Bool.or_eq_true,Bool.or_eq_true] at h;rcases h with(h|h)|h
   ·exact⟨[0],by rw[Dp,h];rfl⟩
   ·exact⟨[1],by rw[Dp,h];rfl⟩
   ·exact⟨[2],by rw[Dp,h];rfl⟩
 |[p,q],_=>
  have e:IS [p,q] (Ba 0)=false:=rfl;have c:IS [p,q] (Ba 1)=decide ((p.contains 0).toNat+(p.contains 1).toNat+(p.contains 2).toNat<1):=by
   show IS [p,q] [0]=_;simp only[IS,List.flatMap_cons,List.flatMap_nil,List.append_nil];rfl
  have f:IS [p,q] (Ba 2)=decide ((q.contains 0).toNat+(q.contains 1).toNat+(q.contains 2).toNat<1):=by
   show IS [p,q] [1]=_;simp only[IS,List.flatMap_cons,List.flatMap_nil,List.append_nil];rfl
  have g:IS [p,q] (Ba 3)=decide ((p.contains 0||q.contains 0).toNat+(p.contains 1||q.contains 1).toNat+(p.contains 2||q.contains 2).toNat<2):=by
   show IS [p,q] [0,1]=_;rw[←Fw,←Fw,←Fw];simp only[IS,List.flatMap_cons,List.flatMap_nil,List.append_nil];rfl
  have hh:=Ab2 (p.contains 0) (p.contains 1) (p.contains 2) (q.contains 0) (q.contains 1) (q.contains 2);constructor
  ·rintro⟨d,a⟩;have k:=hh.2 (by
     match d,a,Jc a with
     |[x,y],a,_=>
      have hx:=hr [x,y] a x (by simp);have l:=hr [x,y] a y (by simp);rw[Dp,RC,Dp,RC] at a;obtain⟨h1,_,h2,b,_⟩:=a;rcases hx with rfl|rfl|rfl<;>rcases l with rfl|rfl|rfl<;>first|(simp only[h1,h2,Bool.true_and,Bool.and_true,Bool.true_or,Bool.or_true,Bool.and_self];done)|exact absurd b (by decide))
   obtain⟨h1,h2,b⟩:=k;intro s hs;have:s=0∨s=1∨s=2∨s=3:=by simp at hs;omega
   rcases this with rfl|rfl|rfl|rfl
   ·exact e
   ·rw[c,decide_eq_false_iff_not];omega
   ·rw[f,decide_eq_false_iff_not];omega
   ·rw[g,decide_eq_false_iff_not];omega
  ·intro h;have h1:=h 1 (by simp);have h2:=h 2 (by simp);have b:=h 3 (by simp);rw[c,decide_eq_false_iff_not] at h1;rw[f,decide_eq_false_iff_not] at h2;rw[g,decide_eq_false_iff_not] at b;have h:=hh.1 ⟨by omega,by omega,by omega⟩;simp only[Bool.or_eq_true,Bool.and_eq_true] at h;rcases h with((((⟨h1,h2⟩|⟨h1,h2⟩)|⟨h1,h2⟩)|⟨h1,h2⟩)|⟨h1,h2⟩)|⟨h1,h2⟩
   ·exact⟨[0,1],by rw[Dp,h1,Dp,h2];rfl⟩
   ·exact⟨[0,2],by rw[Dp,h1,Dp,h2];rfl⟩
   ·exact⟨[1,0],by rw[Dp,h1,Dp,h2];rfl⟩
   ·exact⟨[1,2],by rw[Dp,h1,Dp,h2];rfl⟩
   ·exact⟨[2,0],by rw[Dp,h1,Dp,h2];rfl⟩
   ·exact⟨[2,1],by rw[Dp,h1,Dp,h2];rfl⟩
 |[p,q,r],_=>
  have e:IS [p,q,r] (Ba 0)=false:=rfl;have c:IS [p,q,r] (Ba 1)=decide ((p.contains 0).toNat+(p.contains 1).toNat+(p.contains 2).toNat<1):=by
   show IS [p,q,r] [0]=_;simp only[IS,List.flatMap_cons,List.flatMap_nil,List.append_nil];rfl
  have f:IS [p,q,r] (Ba 2)=decide ((q.contains 0).toNat+(q.contains 1).toNat+(q.contains 2).toNat<1):=by
   show IS [p,q,r] [1]=_;simp only[IS,List.flatMap_cons,List.flatMap_nil,List.append_nil];rfl
  have m:IS [p,q,r] (Ba 4)=decide ((r.contains 0).toNat+(r.contains 1).toNat+(r.contains 2).toNat<1):=by
   show IS [p,q,r] [2]=_;simp only[IS,List.flatMap_cons,List.flatMap_nil,List.append_nil];rfl
  have g:IS [p,q,r] (Ba 3)=decide ((p.contains 0||q.contains 0).toNat+(p.contains 1||q.contains 1).toNat+(p.contains 2||q.contains 2).toNat<2):=by
   show IS [p,q,r] [0,1]=_;rw[←Fw,←Fw,←Fw];simp only[IS,List.flatMap_cons,List.flatMap_nil,List.append_nil];rfl
  have n:IS [p,q,r] (Ba 5)=decide ((p.contains 0||r.contains 0).toNat+(p.contains 1||r.contains 1).toNat+(p.contains 2||r.contains 2).toNat<2):=by
   show IS [p,q,r] [0,2]=_;rw[←Fw,←Fw,←Fw];simp only[IS,List.flatMap_cons,List.flatMap_nil,List.append_nil];rfl
  have o:IS [p,q,r] (Ba 6)=decide ((q.contains 0||r.contains 0).toNat+(q.contains 1||r.contains 1).toNat+(q.contains 2||r.contains 2).toNat<2):=by
   show IS [p,q,r] [1,2]=_;rw[←Fw,←Fw,←Fw];simp only[IS,List.flatMap_cons,List.flatMap_nil,List.append_nil];rfl
  have t:IS [p,q,r] (Ba 7)=decide ((p.contains 0||q.contains 0||r.contains 0).toNat+(p.contains 1||q.contains 1||r.contains 1).toNat+(p.contains 2||q.contains 2||r.contains 2).toNat<3):=by
   show IS [p,q,r] [0,1,2]=_;rw[←Fw,←Fw,←Fw,←Fw,←Fw,←Fw];simp only[IS,List.flatMap_cons,List.flatMap_nil,List.append_nil,List.append_assoc];rfl
  have hh:=Nd (p.contains 0) (p.contains 1) (p.contains 2) (q.contains 0) (q.contains 1) (q.contains 2) (r.contains 0) (r.contains 1) (r.contains 2);constructor
  ·rintro⟨d,a⟩;have k:=hh.2 (by
     match d,a,Jc a with
     |[x,y,z],a,_=>
      have hx:=hr [x,y,z] a x (by simp);have l:=hr [x,y,z] a y (by simp);have aA:=hr [x,y,z] a z (by simp);rw[Dp,RC,Dp,RC,Dp,RC] at a;obtain⟨h1,_,h2,b,j,h5,_⟩:=a;rcases hx with rfl|rfl|rfl<;>rcases l with rfl|rfl|rfl<;>first|exact absurd b (by decide)|(rcases aA with rfl|rfl|rfl<;>first|exact absurd h5 (by decide)|(simp only[h1,h2,j,Bool.true_and,Bool.and_true,Bool.true_or,Bool.or_true,Bool.and_self];done)))
   obtain⟨h1,h2,j,b,h5,u,v⟩:=k;intro s hs;have:s=0∨s=1∨s=2∨s=3∨s=4∨s=5∨s=6∨s=7:=by simp at hs;omega
   rcases this with rfl|rfl|rfl|rfl|rfl|rfl|rfl|rfl
   ·exact e
   ·rw[c,decide_eq_false_iff_not];omega
   ·rw[f,decide_eq_false_iff_not];omega
   ·rw[g,decide_eq_false_iff_not];omega
   ·rw[m,decide_eq_false_iff_not];omega
   ·rw[n,decide_eq_false_iff_not];omega
   ·rw[o,decide_eq_false_iff_not];omega
   ·rw[t,decide_eq_false_iff_not];omega
  ·intro h;have h1:=h 1 (by simp);have h2:=h 2 (by simp);have b:=h 3 (by simp);have j:=h 4 (by simp);have h5:=h 5 (by simp);have u:=h 6 (by simp);have v:=h 7 (by simp);rw[c,decide_eq_false_iff_not] at h1;rw[f,decide_eq_false_iff_not] at h2;rw[g,decide_eq_false_iff_not] at b;rw[m,decide_eq_false_iff_not] at j;rw[n,decide_eq_false_iff_not] at h5;rw[o,decide_eq_false_iff_not] at u;rw[t,decide_eq_false_iff_not] at v;have h:=hh.1 ⟨by omega,by omega,by omega,by omega,by omega,by omega,by omega⟩;simp only[Bool.or_eq_true,Bool.and_eq_true] at h;rcases h with((((⟨⟨h1,h2⟩,b⟩|⟨⟨h1,h2⟩,b⟩)|⟨⟨h1,h2⟩,b⟩)|⟨⟨h1,h2⟩,b⟩)|⟨⟨h1,h2⟩,b⟩)|⟨⟨h1,h2⟩,b⟩
   ·exact⟨[0,1,2],by rw[Dp,h1,Dp,h2,Dp,b];rfl⟩
   ·exact⟨[0,2,1],by rw[Dp,h1,Dp,h2,Dp,b];rfl⟩
   ·exact⟨[1,0,2],by rw[Dp,h1,Dp,h2,Dp,b];rfl⟩
   ·exact⟨[1,2,0],by rw[Dp,h1,Dp,h2,Dp,b];rfl⟩
   ·exact⟨[2,0,1],by rw[Dp,h1,Dp,h2,Dp,b];rfl⟩
   ·exact⟨[2,1,0],by rw[Dp,h1,Dp,h2,Dp,b];rfl⟩
def PT(t:Aj)(os:List CU):Aj:=⟨t.Al,t.Ac,t.Ap,t.Flat,t.AH,os,t.Ao⟩
theorem AcS{t:Aj}(a:OkT t){os:List CU}(hl:os.length≤3)(b:∀o∈os,LL t o=true):OkT (PT t os):=by
 refine⟨?_,?_,a.many⟩
 ·obtain⟨h1,h2,j,c⟩:=a.len;exact⟨h1,h2,by show os.length≤_;omega,c⟩
 ·have h:=HC a.fault;unfold CP;have e:(PT t os).C=t.C:=rfl;have d:(PT t os).AH=t.AH:=rfl;have f:(PT t os).Aw=os:=rfl;have g:(PT t os).Ao=t.Ao:=rfl;have i:(PT t os).Flat=t.Flat:=rfl;have h1:os.all (LL (PT t os))=true:=List.all_eq_true.2 b;have h2:t.Ao.all (Kr (PT t os))=true:=List.all_eq_true.2 h.2.2.2.2.2.2.2.2;rw[e,d,f,g,i,if_neg (by simp[h.1]),if_neg (by omega),if_neg (by have:=Dv.2 h.2.2.2.2.1;simp[this]),if_neg (by omega),if_neg (by simp[h.2.2.2.2.2.2.1]),if_neg (by simp[h1]),if_neg (by simp[h2])]
section
variable{K:Nat}(hK:1000≤K)
include hK
theorem W7(ha:Bx K=some true)(t:Aj)(k:Int)(hk:0≤k)(w:k<256):Lp K t k=some true:=by
 unfold Lp;rcases I4 hK t with h|⟨h,d,hr⟩
 ·rw[bd h,nf,Dt ha]
 rw[bd hr,nt];have hlen:=E9 h;have y:=d.ol
 by_cases z:t.Aw.length=0
 ·rw[ct (EO (by omega)),Dt ha]
 obtain⟨q,hq⟩:∃q:Nat,k%(t.Aw.length:Int)=(q:Int):=⟨(k%(t.Aw.length:Int)).toNat,by have:=Int.emod_nonneg k (by omega:(t.Aw.length:Int)≠0);omega⟩;have j:q<t.Aw.length:=by have:=Int.emod_lt_of_pos k (by omega:(0:Int)<t.Aw.length);omega
 obtain⟨x,e,g1,g2,g3⟩:=TL hK h;have b:∀{α:Type} (l:List α) (a:Nat),Gv l (a:Int) (l.length:Int)=l.drop a:=fun l a=>by unfold Gv;simp
 have r:([]:List CU)++t.Aw.take q++t.Aw.drop (q+1)=t.Aw.eraseIdx q:=by rw[List.nil_append,List.eraseIdx_eq_take_drop_succ]
 have m:(t.Aw.eraseIdx q).length≤3:=by rw[List.length_eraseIdx_of_lt j];omega
 have c:OkT (PT t (t.Aw.eraseIdx q)):=AcS d m fun o s=>(HC d.fault).2.2.2.2.2.2.2.1 o ((List.eraseIdx_sublist ..).subset s);rw[cf (Gw (by omega)),QL hk (by omega),I7 hk (by omega),hq,Pc (by omega),ML,Dt (by simp;omega),AZ (by omega) (by omega),Pc (by omega),CZ q,b,Dt (by simp;omega),bd (GI hK t hlen),bd g1,r]
 by_cases h0:BQ t=0
 ·rcases g3 h0 with⟨rfl,n⟩|⟨rfl,rfl,_⟩
  ·have p:=Jc n.is;rw[Fm] at p;have f:DP (PT t (t.Aw.eraseIdx q))=true:=by
    unfold DP at h⊢;rw[Bool.and_eq_true,Bool.and_eq_true,Bool.and_eq_true] at h⊢;exact⟨h.1,h.2.1,dt (by show(t.Aw.eraseIdx q).length≤5;omega),h.2.2.2⟩
   have g:BQ (PT t (t.Aw.eraseIdx q))=0:=by
    have u:B5 (PT t (t.Aw.eraseIdx q))=0:=by
     rcases Oq c with h1|h1
     ·exact h1.1
     ·exact absurd h1.2 (Cq (Ds h0).1).2
    rw[Rr c u,if_neg (show¬Bd (PT t (t.Aw.eraseIdx q))=[] from(Ds h0).2)]
   have i:Dp (DF (PT t (t.Aw.eraseIdx q))) [] (x.take q++x.drop (q+1))=true:=by
    have:=AcR n.is q (by rw[Fm];omega);rw[List.eraseIdx_eq_take_drop_succ x] at this;have es:DF (PT t (t.Aw.eraseIdx q))=(DF t).eraseIdx q:=by
     unfold DF;show(t.Aw.eraseIdx q).map (FE (PT t (t.Aw.eraseIdx q)))=_;rw[List.eraseIdx_eq_take_drop_succ,List.eraseIdx_eq_take_drop_succ,List.map_append,List.map_take,List.map_drop];rfl
    rw[es];exact this
   have v:Co K ⟨t.Al,t.Ac,t.Ap,t.Flat,t.AH,t.Aw.eraseIdx q,t.Ao⟩=some (PT t (t.Aw.eraseIdx q)):=GI hK _ c.len;rw[cf (E6 rfl),cf (E6 (show(x.length:Int)=(t.Aw.length:Int) by omega)),bd v,Pc (show(0:Int)≤0∧0≤(q:Int)∧(q:Int)≤(x.length:Int) by omega),ML,Dt (by simp;omega),AZ (by omega) (by omega),Pc (by show(0:Int)≤((q+1:Nat):Int)∧((q+1:Nat):Int)≤(x.length:Int)∧(x.length:Int)≤(x.length:Int);omega),b,Dt (by simp;omega),bd (Ot hK f (by simp;omega)),g,dt rfl,Bool.true_and,i,ct rfl,Dt ha]
  ·rw[ct (Fy (by decide)),cf (Gw (by decide)),cf (Gw (by decide)),ct (EO rfl),Dt ha]
 ·obtain⟨rfl,rfl⟩:=g2 h0;rw[ct (Fy h0)];rcases Qh d h0 with e|e
  ·rw[e,ct (EO rfl),Dt ha]
  ·rw[e,cf (Gw (show(11:Int)≠9 by decide)),ct (EO rfl),Dt ha]
end
theorem X8(t:Aj)(k:Int)(hk:0≤k)(a:k<256):∃K,Lp K t k=some true:=⟨1000,W7 (Nat.le_refl _) Lc t k hk a⟩
end Go.Proofs.YtbhofkcbfblijaaGreat
end
section
namespace Go.Proofs.YtbhofkcbfblijaaGreat
open Go.RowKit Go.WideShapes
set_option maxRecDepth 20000
open HF
attribute [local irreducible] Eb WL CC CW LV Cw JC HO One Bv
theorem Ah8 a A c(Z:Nat→Prop) w(r:UX (Ay .i64) w Z A c a)(hb:((0+a.length:Nat):Int)≤140737488355328/8):
 Cw Tryz.prog 51 #[.slice A a.length c] w (fun v w'=>Ext w w'∧∃d h,v=.slice d a.length h∧(d=none→h=0)∧BY (Ay .i64) 3 w.heap.size w' (zf Z w [ob d]) d h a):=by
 refine AS (N:=5) Tryz.func51 rfl rfl (by simp) ?_;intro s ha t;have i:=sA 0 ha;clear ha;have j:Hp FN [] w [] w:=Hp.start (Cc.none w);refine Af<|Ad<|wA (v:=.slice none 0 0) rfl<|Ag<|Ab<|Af<|Ad<|wM (v:=.slice A a.length c) i ?_;have b:=j.nil;have l:BY (Ay .i64) 3 w.heap.size w (zf Z w [none]) none 0 ([]:List Int):=BY.nil _ _ _ _ _;have m:UX (Ay .i64) w (zf Z w [none]) A c a:=r.ext (Ext.refl _) ((Bh (L:=[]) w).trans CA);refine wE (fun st=>HY (ys:=a) Tryz.underlying31 Hv rfl rfl (by decide) (eR st) rfl (eR st) l m (by simp only[maxLen];simp only[List.length_nil];omega) (by simp only[List.length_nil];omega) b.sz) ?_;rintro _ u ⟨n,o,rfl,e,f,p⟩;have q:=b.row e 0 rfl f;have g:=ED p (b.DN e 0 rfl (fun k hk=>(f k hk).1));refine wA (v:=.slice n ((([]:List Int)++a).length) o) rfl<|Ag<|Ab<|AI<|AJ rfl rfl ?_;exact⟨q.Bc,n,o,rfl,g.Agh,g⟩
set_option maxHeartbeats 4000000 in
theorem a19 dD b bJ bV bW bX bY bZ b4 b5 b6 bQ bR b7 b8(Z:Nat→Prop) w(gJ:Sl AM w Z bV bW b.Al)(gK:Sl (BO (Ay .i64)) w Z bX bY b.Ac)(gL:Sl AQ w Z bZ b4 b.Ap)(gM:Sl Bm w Z b5 b6 b.AH)(gN:Sl Bl w Z bQ bR b.Aw)(gO:Sl BA w Z b7 b8 b.Ao)(d:Lp dD b bJ=some true):
 Cw Tryz.prog 19 #[.agg (Am bV bW bX bY bZ b4 b5 b6 bQ bR b7 b8 b).toArray,.int .u8 bJ] w (fun v w'=>Ext w w'∧v=.bool true):=by
 unfold Lp at d;refine AS (N:=81) Tryz.func19 rfl rfl (by simp) ?_;intro iK ha iL;have gS:=sA 0 ha;have gT:=sA 1 ha;clear ha;have gQ:Hp FN [] w [] w:=Hp.start (Cc.none w);have ⟨e6,e7,e8,e9,fA,fB⟩:=Cz gJ gK gL gM gN gO (Bh (Z:=Z) (L:=[]) w);refine Af<|Ad<|wE (fun st=>Ci (v:=.agg (Am bV bW bX bY bZ b4 b5 b6 bQ bR b7 b8 b).toArray) (cs:=(Am bV bW bX bY bZ b4 b5 b6 bQ bR b7 b8 b).toArray) (ee st gS) rfl) ?_;rintro _ w1 ⟨b1,rfl,d4⟩;have hV:=gQ.nb d4;have iD:=gQ.Cr d4;refine wA (v:=.bool false) rfl<|Ag<|Ab<|Af<|Af<|Ad<|wD (fun st=>AR (l:=(Am bV bW bX bY bZ b4 b5 b6 bQ bR b7 b8 b)) Cj (eR st) d4.bk rfl rfl) ?_;have ⟨dV,dW,dX,dY,c7,dZ⟩:=Cz e6 e7 e8 e9 fA fB (AP d4);replace d:=bind_some d;obtain⟨fW,hW,d⟩:=d;refine wE (fun st=>Ar NC (eR st) (CR (eR st)) (R7 dD b bV bW bX bY bZ b4 b5 b6 bQ bR b7 b8 ZA _ dV.all dW.all dX.all dY.all c7.all dZ.all fW hW)) ?_;rintro _ i3 ⟨e2,rfl⟩;have e3:=hV.ext e2;refine wD (fun st=>Dz (eR st))<|wM (v:=.bool !fW) rfl ?_;rcases Ak (!fW) with cF|cF
 ·replace d:=Az d cF;have iE:fW=false:=by simpa using cF
  refine Au (c:=true) rfl rfl (Ae rfl cF) (by decide) rfl (by decide)<|Au (c:=true) rfl rfl (Ae rfl cF) (by decide) rfl (by decide)<|Au (c:=true) rfl rfl (Ae rfl cF) (by decide) rfl (by decide)<|Au (c:=true) rfl rfl (Ae rfl cF) (by decide) rfl (by decide)<|wD (fun st=>AY (v:=.bool true) (eR st) cF (eR st))<|Ag<|Ab<|AD rfl rfl<|Af<|Ad ?_;replace d:=Ck d;obtain⟨hX,d⟩:=d;refine wE (fun st=>Ar EI (eR st) Gx (a37 dD ZA _ hX)) ?_;rintro _ i4 ⟨hY,rfl⟩;have hZ:=e3.ext hY;refine wA (v:=.bool true) rfl<|Ag<|Ab<|AI<|Ax ?_;have cK:=oi d;refine AJ rfl rfl ?_;exact⟨hZ.Bc,congrArg Value.bool cK⟩
 ·replace d:=AA d cF;have iF:fW=true:=by simpa using cF
  refine An rfl rfl (Ae rfl cF) rfl (by decide) (fun st=>Ai (eR st) (IV _ _)) ?_;have c4:=(d4.bk.ext e2);refine An rfl rfl (Ae rfl cF) rfl (by decide) (fun st=>AG (v:=.slice bQ b.Aw.length bR) JU (eR st) c4 rfl)<|An rfl rfl (Ae rfl cF) rfl (by decide) (fun st=>Bu Tryz.underlying64 (eR st))<|An rfl rfl (Ae rfl cF) rfl (by decide) (fun st=>Dj (eR st) (eR st))<|wD (fun st=>BC (v:=.bool ((b.Aw.length:Int)==0)) (eR st) cF (eR st))<|Ag<|Ab ?_;rcases Ak ((b.Aw.length:Int)==0) with d5|d5
  ·replace d:=Az d d5;refine AD rfl d5<|Af<|Ad ?_;replace d:=Ck d;obtain⟨gU,d⟩:=d;refine wE (fun st=>Ar EI (eR st) Gx (a37 dD ZA _ gU)) ?_;rintro _ iM ⟨gV,rfl⟩;have h3:=e3.ext gV;refine wA (v:=.bool true) rfl<|Ag<|Ab<|AI<|Ax ?_;have cK:=oi d;refine AJ rfl rfl ?_;exact⟨h3.Bc,congrArg Value.bool cK⟩
  ·replace d:=AA d d5;refine AE rfl d5<|AL<|Ab<|Af<|Ad<|wM (v:=.int .u8 bJ) gT ?_;replace d:=D1 d;obtain⟨gW,d⟩:=d;refine wD (fun st=>EX (k:=.i64) Rh Tryz.underlying3 (eR st) gW)<|wD (fun st=>Ai (eR st) (IV _ _))<|wD (fun st=>AG (v:=.slice bQ b.Aw.length bR) JU (eR st) c4 rfl)<|wD (fun st=>Bu Tryz.underlying64 (eR st)) ?_;replace d:=Fu d;obtain⟨fX,d⟩:=d;refine wD (fun st=>HG (eR st) (eR st) fX.1 fX.2)<|wA (v:=I (bJ%(b.Aw.length:Int))) rfl<|Ag<|Ab<|Af<|Ad<|wD (fun st=>AR (l:=(Am bV bW bX bY bZ b4 b5 b6 bQ bR b7 b8 b)) Cj (eR st) c4 rfl rfl)<|wE (fun st=>DH (cs:= #[.slice none 0 0,.slice none 0 0,.slice none 0 0,I 0,.slice none 0 0,.slice none 0 0,.slice none 0 0]) Pk rfl) ?_;rintro _ iN ⟨b9,rfl,cN⟩;have d6:=e3.nb cN;have h4:=e3.Cr cN;refine Dk rfl rfl (fun st=>CS (n:=7) (l:=(Am bV bW bX bY bZ b4 b5 b6 bQ bR b7 b8 b)) (EZ:=(Am bV bW bX bY bZ b4 b5 b6 bQ bR b7 b8 b).toArray) (eR st) (eR st) Rs cN.bk rfl rfl (show 0+7≤7 by decide) (Cg rfl) rfl) ?_;rintro _ fY c8;have h6:=d6.gr c8.gr 0 rfl;refine Ag<|Ab<|Af ?_;have h7:=h6.nil;have e4:=((c4.ext cN.gr).gr c8.gr (d6.nq 1 0));replace d:=N1 d;obtain⟨gX,d⟩:=d;have d0:=((((c7.mv (Ah e2)).mv (AP cN)).mv (d6.C4 c8.gr 0 rfl)).mv CA);replace d:=Ck d;obtain⟨fZ,d⟩:=d;replace d:=AK d;obtain⟨gY,d⟩:=d;replace d:=N1 d;obtain⟨gZ,d⟩:=d;obtain⟨h8,bK⟩:∃iI:(Nat→Bool)→(Nat→Value)→World→Prop,iI=(fun D V cG=>∃(aK:Option Nat) (aR:Option Addr) (a8:Nat) (aL:Option Addr) (aM:Nat) (aD:Option Addr) (aE:Nat),Hp FN [] w [aK,some b9,some b1] cG∧Ext fY cG∧(∀c9,Mv fY (ZZ FN [] c9 w.heap.size [none,some b9,some b1]) cG (ZZ FN [] c9 w.heap.size [aK,some b9,some b1]))∧(∀bS,aK=some bS→fY.heap.size≤bS)∧(D 0=false→aK=none)∧(D 0=true→D 5=false→V 0=.slice aR ((([]:List CU)).length) a8∧aK=ob aR∧BY Bl 126 w.heap.size cG (zf Z w [aK,some b9,some b1]) aR a8 ([]:List CU))∧(D 1=true→V 1=pt b1 5)∧(D 2=true→V 2=.slice bQ b.Aw.length bR)∧(D 3=true→V 3=I (bJ%(b.Aw.length:Int)))∧(D 4=true→V 4=.slice aL ((Gv b.Aw (0:Int) (bJ%(b.Aw.length:Int))).length) aM∧Sl Bl cG (zf Z w [aK,some b9,some b1]) aL aM (Gv b.Aw (0:Int) (bJ%(b.Aw.length:Int))))∧(D 5=true→V 5=.slice aR ((([]:List CU)++(Gv b.Aw (0:Int) (bJ%(b.Aw.length:Int)))).length) a8∧aK=ob aR∧BY Bl 126 w.heap.size cG (zf Z w [aK,some b9,some b1]) aR a8 (([]:List CU)++(Gv b.Aw (0:Int) (bJ%(b.Aw.length:Int)))))∧(D 6=true→V 6=pt b1 5)∧(D 7=true→V 7=.slice bQ b.Aw.length bR)∧(D 8=true→V 8=I (bJ%(b.Aw.length:Int)))∧(D 9=true→V 9=I ((bJ%(b.Aw.length:Int))+1))∧(D 10=true→V 10=.slice aD ((Gv b.Aw ((bJ%(b.Aw.length:Int))+1) (b.Aw.length:Int)).length) aE∧Sl Bl cG (zf Z w [aK,some b9,some b1]) aD aE (Gv b.Aw ((bJ%(b.Aw.length:Int))+1) (b.Aw.length:Int)))):=⟨_,rfl⟩;refine Ld 11 h8 mixed rfl rfl (by rw[bK];exact⟨none,none,0,none,0,none,0,(h7.ext (DX _)),DX _,fun _=>Ah (DX _),fun _ i=>(by cases i),fun _=>rfl,fun i=>absurd (show false=true from i) (by decide),fun i=>absurd (show false=true from i) (by decide),fun i=>absurd (show false=true from i) (by decide),fun i=>absurd (show false=true from i) (by decide),fun i=>absurd (show false=true from i) (by decide),fun i=>absurd (show false=true from i) (by decide),fun i=>absurd (show false=true from i) (by decide),fun i=>absurd (show false=true from i) (by decide),fun i=>absurd (show false=true from i) (by decide),fun i=>absurd (show false=true from i) (by decide),fun i=>absurd (show false=true from i) (by decide)⟩)
       ⟨sj (k:=0) rfl (fun D V a' w' K a=>by
            rw[bK] at a;refine X4 a fun _ _ _ aL a=>X3 a fun aM aD aE a=>Y8 a fun f aO aI g aF _ aS aT a=>Y4 a fun aU aN _ aV a=>Y3 a fun aW aX aY a=>?_;have aB:=a;have eS:=aF K.me;subst eS;refine(De (e:=126) (vs:= #[]) (cs:= #[]) Xh (by kernel_rfl)).mono ?_;rintro v CJ ⟨h9,rfl,d2⟩;have bT:=NL d2;have cE:=d2.gr;rw[bK];exact⟨(ob (some ⟨h9,0,none⟩)),(some ⟨h9,0,none⟩),0,aL,aM,aD,aE,(f.row cE 0 rfl bT),(Ext.trans aO cE),(fun c9=>(aI c9).trans (f.DN cE 0 rfl (fun bS bO=>(bT bS bO).1))),(JK g aO.size bT),fun i=>absurd (show true=false from i) (by decide),fun _ _=>⟨rfl,rfl,NJ (DQ:=[]) d2.bk (Nat.le_trans f.sz (Nat.le_of_eq d2.Jj.symm)) trivial rfl (by simp[maxLen])⟩,aS,aT,aU,fun i=>⟨(aN i).1,((aN i).2.mv (f.DN cE 0 rfl (fun bS bO=>(bT bS bO).1)))⟩,fun i=>(Qk K.me (K.down 5 _ rfl i 0 rfl)).elim,aV,aW,aX,aY,fun i=>⟨(aB i).1,((aB i).2.mv (f.DN cE 0 rfl (fun bS bO=>(bT bS bO).1)))⟩⟩),
        sj (k:=1) rfl (fun D V a' w' K a=>by
            rw[bK] at a;refine X4 a fun aK aR a8 aL a=>X3 a fun aM aD aE a=>Y8 a fun f aO aI g aF a9 _ aT a=>Y4 a fun aU aN bG aV a=>Y3 a fun aW aX aY a=>?_;have aB:=a;exact(Ai (es ((K.out 2 rfl).trans rfl)) (IV _ _)).mono fun v CJ ⟨bL,bM⟩=>by subst bL;subst bM;rw[bK];exact⟨aK,aR,a8,aL,aM,aD,aE,f,aO,aI,g,aF,a9,fun _=>rfl,aT,aU,aN,bG,aV,aW,aX,aY,aB⟩),
        sj (k:=2) rfl (fun D V a' w' K a=>by
            rw[bK] at a;refine X4 a fun aK aR a8 aL a=>X3 a fun aM aD aE a=>Y8 a fun f aO aI g aF a9 aS _ a=>Y4 a fun aU aN bG aV a=>Y3 a fun aW aX aY a=>?_;have aB:=a;have d7:=aS (K.dn 1 rfl);exact(AG (v:=.slice bQ b.Aw.length bR) JU (es (t:=27) (v:=pt b1 5) ((K.dq 1 27).trans d7)) (e4.ext aO) rfl).mono fun v CJ ⟨bL,bM⟩=>by subst bL;subst bM;rw[bK];exact⟨aK,aR,a8,aL,aM,aD,aE,f,aO,aI,g,aF,a9,aS,fun _=>rfl,aU,aN,bG,aV,aW,aX,aY,aB⟩),
        sj (k:=3) rfl (fun D V a' w' K a=>by
            rw[bK] at a;refine X4 a fun aK aR a8 aL a=>X3 a fun aM aD aE a=>Y8 a fun f aO aI g aF a9 aS aT a=>Y4 a fun _ aN bG aV a=>Y3 a fun aW aX aY a=>?_;have aB:=a;exact(Aq (v:=I (bJ%(b.Aw.length:Int))) (es ((K.out 5 rfl).trans rfl))).mono fun v CJ ⟨bL,bM⟩=>by subst bL;subst bM;rw[bK];exact⟨aK,aR,a8,aL,aM,aD,aE,f,aO,aI,g,aF,a9,aS,aT,fun _=>rfl,aN,bG,aV,aW,aX,aY,aB⟩),
        sj (k:=4) rfl (fun D V a' w' K a=>by
            rw[bK] at a;refine X4 a fun aK aR a8 _ a=>X3 a fun _ aD aE a=>Y8 a fun f aO aI g aF a9 aS aT a=>Y4 a fun aU _ bG aV a=>Y3 a fun aW aX aY a=>?_;have aB:=a;have d8:=aT (K.dn 2 rfl);have d9:=aU (K.dn 3 rfl);exact(RF (e:=Bl) (Z:=_) (xs:=b.Aw) Tryz.underlying64 OG rfl (es (t:=28) (v:=.slice bQ b.Aw.length bR) ((K.dq 2 28).trans d8)) S7 (Tt (es (t:=29) (v:=I (bJ%(b.Aw.length:Int))) ((K.dq 3 29).trans d9))) (d0.mv (aI _)) gX).mono fun v CJ ⟨⟨cH,cL,bL,cO⟩,bM⟩=>by subst bL;subst bM;rw[bK];exact⟨aK,aR,a8,cH,cL,aD,aE,f,aO,aI,g,aF,a9,aS,aT,aU,fun _=>⟨rfl,cO⟩,bG,aV,aW,aX,aY,aB⟩),
        sj (k:=5) rfl (fun D V a' w' K a=>by
            rw[bK] at a;refine X4 a fun _ aR a8 aL a=>X3 a fun aM aD aE a=>Y8 a fun f aO aI g _ a9 aS aT a=>Y4 a fun aU aN _ aV a=>Y3 a fun aW aX aY a=>?_;have aB:=a;obtain⟨f0,fC,f1⟩:=a9 (K.dn 0 rfl) K.me;subst fC;obtain⟨eA,eB⟩:=aN (K.dn 4 rfl);refine(HY (ys:=Gv b.Aw (0:Int) (bJ%(b.Aw.length:Int))) Tryz.underlying64 AaI rfl rfl (by decide) (es (t:=26) (v:=.slice aR ((([]:List CU)).length) a8) ((K.dq 0 26).trans f0)) rfl (es (t:=30) (v:=.slice aL ((Gv b.Aw (0:Int) (bJ%(b.Aw.length:Int))).length) aM) ((K.dq 4 30).trans eA)) f1 eB.n (by have:=fZ;simp only[maxLen];omega) (by have:=fZ;omega) f.sz).mono ?_;rintro v CJ ⟨cH,cL,rfl,cE,bT,g0⟩;rw[bK];exact⟨(ob cH),cH,cL,aL,aM,aD,aE,(f.row cE 0 rfl bT),(Sx aO cE g),(fun c9=>(aI c9).trans (f.DN cE 0 rfl (fun bS bO=>(bT bS bO).1))),(JK g aO.size bT),fun i=>absurd (K.dn 0 rfl) (by rw[show D 0=false from i];decide),fun _ i=>absurd (show true=false from i) (by decide),aS,aT,aU,fun i=>⟨(aN i).1,((aN i).2.mv (f.DN cE 0 rfl (fun bS bO=>(bT bS bO).1)))⟩,fun _=>⟨rfl,rfl,ED g0 (f.DN cE 0 rfl (fun bS bO=>(bT bS bO).1))⟩,aV,aW,aX,aY,fun i=>⟨(aB i).1,((aB i).2.mv (f.DN cE 0 rfl (fun bS bO=>(bT bS bO).1)))⟩⟩),
        sj (k:=6) rfl (fun D V a' w' K a=>by
            rw[bK] at a;refine X4 a fun aK aR a8 aL a=>X3 a fun aM aD aE a=>Y8 a fun f aO aI g aF a9 aS aT a=>Y4 a fun aU aN bG _ a=>Y3 a fun aW aX aY a=>?_;have aB:=a;exact(Ai (es ((K.out 2 rfl).trans rfl)) (IV _ _)).mono fun v CJ ⟨bL,bM⟩=>by subst bL;subst bM;rw[bK];exact⟨aK,aR,a8,aL,aM,aD,aE,f,aO,aI,g,aF,a9,aS,aT,aU,aN,bG,fun _=>rfl,aW,aX,aY,aB⟩),
        sj (k:=7) rfl (fun D V a' w' K a=>by
            rw[bK] at a;refine X4 a fun aK aR a8 aL a=>X3 a fun aM aD aE a=>Y8 a fun f aO aI g aF a9 aS aT a=>Y4 a fun aU aN bG aV a=>Y3 a fun _ aX aY a=>?_;have aB:=a;have eC:=aV (K.dn 6 rfl);exact(AG (v:=.slice bQ b.Aw.length bR) JU (es (t:=32) (v:=pt b1 5) ((K.dq 6 32).trans eC)) (e4.ext aO) rfl).mono fun v CJ ⟨bL,bM⟩=>by subst bL;subst bM;rw[bK];exact⟨aK,aR,a8,aL,aM,aD,aE,f,aO,aI,g,aF,a9,aS,aT,aU,aN,bG,aV,fun _=>rfl,aX,aY,aB⟩),
        sj (k:=8) rfl (fun D V a' w' K a=>by
            rw[bK] at a;refine X4 a fun aK aR a8 aL a=>X3 a fun aM aD aE a=>Y8 a fun f aO aI g aF a9 aS aT a=>Y4 a fun aU aN bG aV a=>Y3 a fun aW _ aY a=>?_;have aB:=a;exact(Aq (v:=I (bJ%(b.Aw.length:Int))) (es ((K.out 5 rfl).trans rfl))).mono fun v CJ ⟨bL,bM⟩=>by subst bL;subst bM;rw[bK];exact⟨aK,aR,a8,aL,aM,aD,aE,f,aO,aI,g,aF,a9,aS,aT,aU,aN,bG,aV,aW,fun _=>rfl,aY,aB⟩),
        sj (k:=9) rfl (fun D V a' w' K a=>by
            rw[bK] at a;refine X4 a fun aK aR a8 aL a=>X3 a fun aM aD aE a=>Y8 a fun f aO aI g aF a9 aS aT a=>Y4 a fun aU aN bG aV a=>Y3 a fun aW aX _ a=>?_;have aB:=a;have eD:=aX (K.dn 8 rfl);exact(B0 (es (t:=34) (v:=I (bJ%(b.Aw.length:Int))) ((K.dq 8 34).trans eD)) (ec (v:=I 1)) gY).mono fun v CJ ⟨bL,bM⟩=>by subst bL;subst bM;rw[bK];exact⟨aK,aR,a8,aL,aM,aD,aE,f,aO,aI,g,aF,a9,aS,aT,aU,aN,bG,aV,aW,aX,fun _=>rfl,aB⟩),
        sj (k:=10) rfl (fun D V a' w' K a=>by
            rw[bK] at a;refine X4 a fun aK aR a8 aL a=>X3 a fun aM _ _ a=>Y8 a fun f aO aI g aF a9 aS aT a=>Y4 a fun aU aN bG aV a=>Y3 a fun aW aX aY a=>?_;have aB:=a;have eE:=aW (K.dn 7 rfl);have eF:=aY (K.dn 9 rfl);exact(RF (e:=Bl) (Z:=_) (xs:=b.Aw) Tryz.underlying64 OG rfl (es (t:=33) (v:=.slice bQ b.Aw.length bR) ((K.dq 7 33).trans eE)) (Tt (es (t:=35) (v:=I ((bJ%(b.Aw.length:Int))+1)) ((K.dq 9 35).trans eF))) S7 (d0.mv (aI _)) gZ).mono fun v CJ ⟨⟨cH,cL,bL,cO⟩,bM⟩=>by subst bL;subst bM;rw[bK];exact⟨aK,aR,a8,aL,aM,cH,cL,f,aO,aI,g,aF,a9,aS,aT,aU,aN,bG,aV,aW,aX,aY,fun _=>⟨rfl,cO⟩⟩),trivial⟩ ?_
   intro iO iP iQ cA bU;rw[bK] at bU;clear bK;refine X4 bU fun aK aR a8 aL bU=>X3 bU fun aM aD aE bU=>Y8 bU fun cM e5 gP g aF a9 aS aT bU=>Y4 bU fun aU aN bG aV bU=>Y3 bU fun aW aX aY bU=>?_;have aB:=bU;clear bU;have d7:=aS (cA 1 (by decide));have d8:=aT (cA 2 (by decide));have d9:=aU (cA 3 (by decide));obtain⟨eA,eB⟩:=aN (cA 4 (by decide));obtain⟨f2,fD,f3⟩:=bG (cA 5 (by decide));subst fD;have eC:=aV (cA 6 (by decide));have eE:=aW (cA 7 (by decide));have eD:=aX (cA 8 (by decide));have eF:=aY (cA 9 (by decide));obtain⟨fE,fF⟩:=aB (cA 10 (by decide));replace d:=Ck d;obtain⟨f4,d⟩:=d;refine wE (fun st=>HY (ys:=Gv b.Aw ((bJ%(b.Aw.length:Int))+1) (b.Aw.length:Int)) Tryz.underlying64 AaI rfl rfl (by decide) (ee st f2) rfl (ee st fE) f3 fF.n (by have:=f4;simp only[maxLen];omega) (by have:=f4;omega) cM.sz) ?_;rintro _ iR ⟨dC,d1,rfl,dF,eT,g1⟩;have eG:=cM.row dF 0 rfl eT;have g2:=ED g1 (cM.DN dF 0 rfl (fun k hk=>(eT k hk).1));refine wD (fun st=>Ai (eR st) (IV _ _)) ?_;have f5:=((c8.bk.ext e5).gr dF (cM.nq 1 0));refine Dk rfl rfl (fun st=>CS (n:=1) (l:=[.slice dC (((([]:List CU)++(Gv b.Aw (0:Int) (bJ%(b.Aw.length:Int))))++(Gv b.Aw ((bJ%(b.Aw.length:Int))+1) (b.Aw.length:Int))).length) d1]) (EZ:= #[.slice bV b.Al.length bW,.slice bX b.Ac.length bY,.slice bZ b.Ap.length b4,I b.Flat,.slice b5 b.AH.length b6,.slice dC (((([]:List CU)++(Gv b.Aw (0:Int) (bJ%(b.Aw.length:Int))))++(Gv b.Aw ((bJ%(b.Aw.length:Int))+1) (b.Aw.length:Int))).length) d1,.slice b7 b.Ao.length b8]) (eR st) (eR st) Ahc f5 rfl rfl (show 5+1≤7 by decide) (Cg rfl) rfl) ?_;rintro _ iS dA;have f6:=eG.gr dA.gr 1 rfl;refine Ag<|Ab<|Af<|Ad ?_;have eH:=(((((c4.ext cN.gr).gr c8.gr (d6.nq 1 0)).ext e5).gr dF (cM.nq 2 0)).gr dA.gr (eG.nq 2 1));refine wD (fun st=>AR (l:=(Am bV bW bX bY bZ b4 b5 b6 bQ bR b7 b8 b)) Cj (eR st) eH rfl rfl) ?_;have ⟨dG,dH,dI,dJ,eU,dK⟩:=Cz dV dW dX dY c7 dZ (mt (Ah e2) (mt (AP cN) (mt (d6.C4 c8.gr 0 rfl) (mt CA (mt (gP _) (mt (cM.DN dF 0 rfl (fun k hk=>(eT k hk).1)) (eG.C4 dA.gr 1 rfl)))))));replace d:=bind_some d;obtain⟨gR,g3,d⟩:=d;refine wE (fun st=>Ar GR (eR st) (CR (eR st)) (Lh dD b bV bW bX bY bZ b4 b5 b6 bQ bR b7 b8 (zf Z w [ob dC,some b9,some b1]) _ dG dH dI dJ eU dK gR g3)) ?_;rintro _ iT ⟨cP,⟨_,rfl,⟨fG,fH,fI,fJ,fK,fL,fM,fN,fO,fP,fQ,fR,rfl,cQ,cR,cS,cT,cU,cV⟩⟩⟩;have f7:=f6.ext cP;have ⟨cQ,cR,cS,cT,cU,cV⟩:=Cz cQ cR cS cT cU cV (f6.Da (Nat.le_refl _));replace d:=bind_some d;obtain⟨aZ,g4,d⟩:=d;refine wE (fun st=>Ar Vx (eR st) (CR (eR st)) (a81 dD gR fG fH fI fJ fK fL fM fN fO fP fQ fR (zf Z w [ob dC,some b9,some b1]) _ cQ cR cS cT cU cV aZ g4)) ?_;rintro _ f8 ⟨cW,⟨_,_,rfl,⟨cB,cC,rfl,dB⟩,rfl⟩⟩;have dL:=f7.ext cW;have dB:=dB.mv (f7.Da (Nat.le_refl _));refine wM (v:=.tuple #[.slice cB aZ.1.length cC,I aZ.2]) rfl<|wD (fun st=>BH (v:=.slice cB aZ.1.length cC) (eR st) rfl)<|wD (fun st=>BH (v:=I aZ.2) (eR st) rfl)<|wA (v:=.slice cB aZ.1.length cC) rfl<|wA (v:=I aZ.2) rfl<|Ag<|Ab<|Af<|Af<|Ad<|wM (v:=I aZ.2) rfl<|wD (fun st=>DW (eR st) (eR st))<|Ag<|Ab ?_;rcases Ak (aZ.2 !=0) with dM|dM
   ·replace d:=Az d dM;refine AD rfl dM<|Af<|Ad<|wM (v:=I aZ.2) rfl<|wD (fun st=>Dj (eR st) (eR st))<|wM (v:=.bool (aZ.2==9)) rfl ?_;rcases Ak (aZ.2==9) with cI|cI
    ·replace d:=Az d cI;refine Au (c:=true) rfl rfl (Ae rfl cI) (by decide) rfl (by decide)<|Au (c:=true) rfl rfl (Ae rfl cI) (by decide) rfl (by decide)<|wD (fun st=>AY (v:=.bool true) (eR st) cI (eR st))<|wM (v:=.bool true) rfl<|Au rfl rfl rfl (by decide) rfl (by decide)<|Au rfl rfl rfl (by decide) rfl (by decide)<|wD (fun st=>AY (v:=.bool true) (eR st) rfl (eR st))<|wM (v:=.bool true) rfl ?_;replace d:=Ck d;obtain⟨g5,d⟩:=d;refine Di rfl rfl rfl rfl (by decide) (fun st=>Ar EI (eR st) Gx (a37 dD ZA _ g5)) ?_;rintro _ iU ⟨g6,rfl⟩;have g7:=dL.ext g6;refine wD (fun st=>AY (v:=.bool true) (eR st) rfl (eR st))<|wA (v:=.bool true) rfl<|Ag<|Ab<|AI<|Ax ?_;have cK:=oi d;refine AJ rfl rfl ?_;exact⟨g7.Bc,congrArg Value.bool cK⟩
    ·replace d:=AA d cI;refine An rfl rfl (Ae rfl cI) rfl (by decide) (fun st=>Aq (v:=I aZ.2) (eR st))<|An rfl rfl (Ae rfl cI) rfl (by decide) (fun st=>Dj (eR st) (eR st))<|wD (fun st=>BC (v:=.bool (aZ.2==11)) (eR st) cI (eR st))<|wM (v:=.bool (aZ.2==11)) rfl ?_;rcases Ak (aZ.2==11) with cJ|cJ
     ·replace d:=Az d cJ;refine Au (c:=true) rfl rfl (Ae rfl cJ) (by decide) rfl (by decide)<|Au (c:=true) rfl rfl (Ae rfl cJ) (by decide) rfl (by decide)<|wD (fun st=>AY (v:=.bool true) (eR st) cJ (eR st))<|wM (v:=.bool true) rfl ?_;replace d:=Ck d;obtain⟨g8,d⟩:=d;refine Di rfl rfl rfl rfl (by decide) (fun st=>Ar EI (eR st) Gx (a37 dD ZA _ g8)) ?_;rintro _ iV ⟨g9,rfl⟩;have hA:=dL.ext g9;refine wD (fun st=>AY (v:=.bool true) (eR st) rfl (eR st))<|wA (v:=.bool true) rfl<|Ag<|Ab<|AI<|Ax ?_;have cK:=oi d;refine AJ rfl rfl ?_;exact⟨hA.Bc,congrArg Value.bool cK⟩
     ·replace d:=AA d cJ;refine An rfl rfl (Ae rfl cJ) rfl (by decide) (fun st=>Aq (v:=I aZ.2) (eR st))<|An rfl rfl (Ae rfl cJ) rfl (by decide) (fun st=>Dj (eR st) (eR st))<|wD (fun st=>BC (v:=.bool (aZ.2==10)) (eR st) cJ (eR st))<|wM (v:=.bool (aZ.2==10)) rfl ?_;rcases Ak (aZ.2==10) with dN|dN
      ·replace d:=Az d dN;replace d:=Ck d;obtain⟨hB,d⟩:=d;refine Di rfl rfl (Ae rfl dN) rfl (by decide) (fun st=>Ar EI (eR st) Gx (a37 dD ZA _ hB)) ?_;rintro _ iW ⟨hC,rfl⟩;have hD:=dL.ext hC;refine wD (fun st=>AY (v:=.bool true) (eR st) dN (eR st))<|wA (v:=.bool true) rfl<|Ag<|Ab<|AI<|Ax ?_;have cK:=oi d;refine AJ rfl rfl ?_;exact⟨hD.Bc,congrArg Value.bool cK⟩
      ·replace d:=AA d dN;exact absurd (oi d) (by decide)
   ·replace d:=AA d dM;refine AE rfl dM<|AL<|Ab<|Af<|Af<|Ad<|wM (v:=.slice cB aZ.1.length cC) rfl<|wD (fun st=>Bu Tryz.underlying31 (eR st))<|wD (fun st=>Ai (eR st) (IV _ _)) ?_;have f9:=((eH.ext cP).ext cW);refine wD (fun st=>AG (v:=.slice bQ b.Aw.length bR) JU (eR st) f9 rfl)<|wD (fun st=>Bu Tryz.underlying64 (eR st))<|wD (fun st=>DW (eR st) (eR st))<|Ag<|Ab ?_;rcases Ak ((aZ.1.length:Int) !=(b.Aw.length:Int)) with d3|d3
    ·replace d:=Az d d3;exact absurd (oi d) (by decide)
    ·replace d:=AA d d3;refine AE rfl d3<|AL<|Ab<|Af ?_;have fS:=(((g2.gr dA.gr (fun k hk=>eG.ne 0 1 rfl (congrArg some hk) rfl) (eG.C4 dA.gr 1 rfl)).ext cP (Ah cP)).ext cW (Ah cW));have hE:=dL.erase 0;have gA:=dL.Uc 0 rfl fS;have hF:=hE.nil;have fT:=((dA.bk.ext cP).ext cW);have ⟨eV,eW,eX,eY⟩:=F4 dG dH dI dJ (mt (Ah cP) (mt (Ah cW) (mt (Bp 0) CA)));have fU:=(gA.mv CA);have eZ:=((((dK.mv (Ah cP)).mv (Ah cW)).mv (Bp 0)).mv CA);replace d:=bind_some d;obtain⟨c5,hG,d⟩:=d;replace d:=N1 d;obtain⟨hH,d⟩:=d;have c6:=((dB.mv (Bp 0)).mv CA);replace d:=Ck d;obtain⟨hI,d⟩:=d;replace d:=AK d;obtain⟨hJ,d⟩:=d;replace d:=N1 d;obtain⟨hL,d⟩:=d;obtain⟨iA,bP⟩:∃iI:(Nat→Bool)→(Nat→Value)→World→Prop,iI=(fun D V cG=>∃(aC:Option Nat) (bH:Option Addr) (bI:Nat) (j:Option Addr) (m:Nat) (o:Option Addr) (p:Nat) (q:Option Addr) (r:Nat) (s:Option Addr) (u:Nat) (x:Option Addr) (y:Nat) (z:Option Addr) (aA:Nat) (aP:Option Addr) (aQ:Nat) (a3:Option Addr) (a4:Nat),Hp FN [] w [aC,some b9,some b1] cG∧Ext f8 cG∧(∀c9,Mv f8 (ZZ FN [] c9 w.heap.size [none,some b9,some b1]) cG (ZZ FN [] c9 w.heap.size [aC,some b9,some b1]))∧(∀bS,aC=some bS→f8.heap.size≤bS)∧(D 5=false→aC=none)∧(D 0=true→V 0=.agg #[.slice bV b.Al.length bW,.slice bX b.Ac.length bY,.slice bZ b.Ap.length b4,I b.Flat,.slice b5 b.AH.length b6,.slice dC (((([]:List CU)++(Gv b.Aw (0:Int) (bJ%(b.Aw.length:Int))))++(Gv b.Aw ((bJ%(b.Aw.length:Int))+1) (b.Aw.length:Int))).length) d1,.slice b7 b.Ao.length b8])∧(D 1=true→V 1=.agg (Am j m o p q r s u x y z aA c5).toArray∧Sl AM cG (zf Z w [aC,some b9,some b1]) j m c5.Al∧Sl (BO (Ay .i64)) cG (zf Z w [aC,some b9,some b1]) o p c5.Ac∧Sl AQ cG (zf Z w [aC,some b9,some b1]) q r c5.Ap∧Sl Bm cG (zf Z w [aC,some b9,some b1]) s u c5.AH∧Sl Bl cG (zf Z w [aC,some b9,some b1]) x y c5.Aw∧Sl BA cG (zf Z w [aC,some b9,some b1]) z aA c5.Ao)∧(D 2=true→V 2=.slice cB aZ.1.length cC)∧(D 3=true→V 3=I (bJ%(b.Aw.length:Int)))∧(D 4=true→V 4=.slice aP ((Gv aZ.1 (0:Int) (bJ%(b.Aw.length:Int))).length) aQ∧Sl (Ay .i64) cG (zf Z w [aC,some b9,some b1]) aP aQ (Gv aZ.1 (0:Int) (bJ%(b.Aw.length:Int))))∧(D 5=true→V 5=.slice bH ((Gv aZ.1 (0:Int) (bJ%(b.Aw.length:Int))).length) bI∧aC=ob bH∧BY (Ay .i64) 3 w.heap.size cG (zf Z w [aC,some b9,some b1]) bH bI (Gv aZ.1 (0:Int) (bJ%(b.Aw.length:Int))))∧(D 6=true→V 6=.slice cB aZ.1.length cC)∧(D 7=true→V 7=I (bJ%(b.Aw.length:Int)))∧(D 8=true→V 8=I ((bJ%(b.Aw.length:Int))+1))∧(D 9=true→V 9=.slice a3 ((Gv aZ.1 ((bJ%(b.Aw.length:Int))+1) (aZ.1.length:Int)).length) a4∧Sl (Ay .i64) cG (zf Z w [aC,some b9,some b1]) a3 a4 (Gv aZ.1 ((bJ%(b.Aw.length:Int))+1) (aZ.1.length:Int)))):=⟨_,rfl⟩;refine Ld 10 iA mixed rfl rfl (by rw[bP];exact⟨none,none,0,none,0,none,0,none,0,none,0,none,0,none,0,none,0,none,0,(hF.ext (DX _)),DX _,fun _=>Ah (DX _),fun _ i=>(by cases i),fun _=>rfl,fun i=>absurd (show false=true from i) (by decide),fun i=>absurd (show false=true from i) (by decide),fun i=>absurd (show false=true from i) (by decide),fun i=>absurd (show false=true from i) (by decide),fun i=>absurd (show false=true from i) (by decide),fun i=>absurd (show false=true from i) (by decide),fun i=>absurd (show false=true from i) (by decide),fun i=>absurd (show false=true from i) (by decide),fun i=>absurd (show false=true from i) (by decide),fun i=>absurd (show false=true from i) (by decide)⟩)
         ⟨sj (k:=0) rfl (fun D V a' w' K a=>by
              rw[bP] at a;refine X4 a fun aC bH bI j a=>X4 a fun m o p q a=>X4 a fun r s u x a=>X4 a fun y z aA aP a=>X3 a fun aQ a3 a4 a=>Y8 a fun f aO aI aG aH _ aJ bA a=>Y4 a fun bB a0 a5 bC a=>Y2 a fun bD bE a=>?_;have a2:=a;exact(AR (l:=[.slice bV b.Al.length bW,.slice bX b.Ac.length bY,.slice bZ b.Ap.length b4,I b.Flat,.slice b5 b.AH.length b6,.slice dC (((([]:List CU)++(Gv b.Aw (0:Int) (bJ%(b.Aw.length:Int))))++(Gv b.Aw ((bJ%(b.Aw.length:Int))+1) (b.Aw.length:Int))).length) d1,.slice b7 b.Ao.length b8]) Cj (es ((K.out 6 rfl).trans rfl)) (fT.ext aO) rfl rfl).mono fun v CJ ⟨bL,bM⟩=>by subst bL;subst bM;rw[bP];exact⟨aC,bH,bI,j,m,o,p,q,r,s,u,x,y,z,aA,aP,aQ,a3,a4,f,aO,aI,aG,aH,fun _=>rfl,aJ,bA,bB,a0,a5,bC,bD,bE,a2⟩),
          sj (k:=1) rfl (fun D V a' w' K a=>by
              rw[bP] at a;refine X4 a fun aC bH bI j a=>X4 a fun m o p q a=>X4 a fun r s u x a=>X4 a fun y z aA aP a=>X3 a fun aQ a3 a4 a=>Y8 a fun f aO aI aG aH bF _ bA a=>Y4 a fun bB a0 a5 bC a=>Y2 a fun bD bE a=>?_;have a2:=a;have eI:=bF (K.dn 0 rfl);refine(Ar GR rfl (CR (es (t:=66) (v:=.agg #[.slice bV b.Al.length bW,.slice bX b.Ac.length bY,.slice bZ b.Ap.length b4,I b.Flat,.slice b5 b.AH.length b6,.slice dC (((([]:List CU)++(Gv b.Aw (0:Int) (bJ%(b.Aw.length:Int))))++(Gv b.Aw ((bJ%(b.Aw.length:Int))+1) (b.Aw.length:Int))).length) d1,.slice b7 b.Ao.length b8]) ((K.dq 0 66).trans eI))) (Lh dD (⟨b.Al,b.Ac,b.Ap,b.Flat,b.AH,(([]:List CU)++(Gv b.Aw (0:Int) (bJ%(b.Aw.length:Int))))++(Gv b.Aw ((bJ%(b.Aw.length:Int))+1) (b.Aw.length:Int)),b.Ao⟩:Aj) bV bW bX bY bZ b4 b5 b6 dC d1 b7 b8 _ _ (eV.mv (aI _)) (eW.mv (aI _)) (eX.mv (aI _)) (eY.mv (aI _)) (fU.mv (aI _)) (eZ.mv (aI _)) c5 hG)).mono ?_;rintro v CJ ⟨cX,⟨_,rfl,⟨j,m,o,p,q,r,s,u,x,y,z,aA,rfl,cY,cZ,c0,c1,c2,c3⟩⟩⟩;rw[bP];exact⟨aC,bH,bI,j,m,o,p,q,r,s,u,x,y,z,aA,aP,aQ,a3,a4,(f.ext cX),(Ext.trans aO cX),(fun c9=>(aI c9).trans (Ah cX)),aG,aH,bF,fun _=>⟨rfl,cY.mv (f.Da (Nat.le_refl _)),cZ.mv (f.Da (Nat.le_refl _)),c0.mv (f.Da (Nat.le_refl _)),c1.mv (f.Da (Nat.le_refl _)),c2.mv (f.Da (Nat.le_refl _)),c3.mv (f.Da (Nat.le_refl _))⟩,bA,bB,fun i=>⟨(a0 i).1,((a0 i).2.mv (Ah cX))⟩,fun i=>⟨(a5 i).1,(a5 i).2.1,((a5 i).2.2.ext cX (Ah cX))⟩,bC,bD,bE,fun i=>⟨(a2 i).1,((a2 i).2.mv (Ah cX))⟩⟩),
          sj (k:=2) rfl (fun D V a' w' K a=>by
              rw[bP] at a;refine X4 a fun aC bH bI j a=>X4 a fun m o p q a=>X4 a fun r s u x a=>X4 a fun y z aA aP a=>X3 a fun aQ a3 a4 a=>Y8 a fun f aO aI aG aH bF aJ _ a=>Y4 a fun bB a0 a5 bC a=>Y2 a fun bD bE a=>?_;have a2:=a;exact(Aq (v:=.slice cB aZ.1.length cC) (es ((K.out 7 rfl).trans rfl))).mono fun v CJ ⟨bL,bM⟩=>by subst bL;subst bM;rw[bP];exact⟨aC,bH,bI,j,m,o,p,q,r,s,u,x,y,z,aA,aP,aQ,a3,a4,f,aO,aI,aG,aH,bF,aJ,fun _=>rfl,bB,a0,a5,bC,bD,bE,a2⟩),
          sj (k:=3) rfl (fun D V a' w' K a=>by
              rw[bP] at a;refine X4 a fun aC bH bI j a=>X4 a fun m o p q a=>X4 a fun r s u x a=>X4 a fun y z aA aP a=>X3 a fun aQ a3 a4 a=>Y8 a fun f aO aI aG aH bF aJ bA a=>Y4 a fun _ a0 a5 bC a=>Y2 a fun bD bE a=>?_;have a2:=a;exact(Aq (v:=I (bJ%(b.Aw.length:Int))) (es ((K.out 5 rfl).trans rfl))).mono fun v CJ ⟨bL,bM⟩=>by subst bL;subst bM;rw[bP];exact⟨aC,bH,bI,j,m,o,p,q,r,s,u,x,y,z,aA,aP,aQ,a3,a4,f,aO,aI,aG,aH,bF,aJ,bA,fun _=>rfl,a0,a5,bC,bD,bE,a2⟩),
          sj (k:=4) rfl (fun D V a' w' K a=>by
              rw[bP] at a;refine X4 a fun aC bH bI j a=>X4 a fun m o p q a=>X4 a fun r s u x a=>X4 a fun y z aA _ a=>X3 a fun _ a3 a4 a=>Y8 a fun f aO aI aG aH bF aJ bA a=>Y4 a fun bB _ a5 bC a=>Y2 a fun bD bE a=>?_;have a2:=a;have eJ:=bA (K.dn 2 rfl);have eK:=bB (K.dn 3 rfl);exact(RF (e:=(Ay .i64)) (Z:=_) (xs:=aZ.1) Tryz.underlying31 DR rfl (es (t:=68) (v:=.slice cB aZ.1.length cC) ((K.dq 2 68).trans eJ)) S7 (Tt (es (t:=69) (v:=I (bJ%(b.Aw.length:Int))) ((K.dq 3 69).trans eK))) (c6.mv (aI _)) hH).mono fun v CJ ⟨⟨cH,cL,bL,cO⟩,bM⟩=>by subst bL;subst bM;rw[bP];exact⟨aC,bH,bI,j,m,o,p,q,r,s,u,x,y,z,aA,cH,cL,a3,a4,f,aO,aI,aG,aH,bF,aJ,bA,bB,fun _=>⟨rfl,cO⟩,a5,bC,bD,bE,a2⟩),
          sj (k:=5) rfl (fun D V a' w' K a=>by
              rw[bP] at a;refine X4 a fun _ _ _ j a=>X4 a fun m o p q a=>X4 a fun r s u x a=>X4 a fun y z aA aP a=>X3 a fun aQ a3 a4 a=>Y8 a fun f aO aI aG aH bF aJ bA a=>Y4 a fun bB a0 _ bC a=>Y2 a fun bD bE a=>?_;have a2:=a;obtain⟨eM,eN⟩:=a0 (K.dn 4 rfl);have eS:=aH K.me;subst eS;refine(Ar JW rfl (CR (es (t:=70) (v:=.slice aP ((Gv aZ.1 (0:Int) (bJ%(b.Aw.length:Int))).length) aQ) ((K.dq 4 70).trans eM))) (Ah8 (Gv aZ.1 (0:Int) (bJ%(b.Aw.length:Int))) aP aQ FN _ (eN.NK (fun _ _ _ _ _ _ h=>h)) hI)).mono ?_;rintro v CJ ⟨cE,cH,cL,rfl,iJ,gB⟩;have bT:=Xr gB;rw[bP];exact⟨(ob cH),cH,cL,j,m,o,p,q,r,s,u,x,y,z,aA,aP,aQ,a3,a4,(f.row cE 0 rfl bT),(Ext.trans aO cE),(fun c9=>(aI c9).trans (f.DN cE 0 rfl (fun bS bO=>(bT bS bO).1))),(JK aG aO.size bT),fun i=>absurd (show true=false from i) (by decide),bF,fun i=>⟨(aJ i).1,((aJ i).2.1.mv (f.DN cE 0 rfl (fun bS bO=>(bT bS bO).1))),((aJ i).2.2.1.mv (f.DN cE 0 rfl (fun bS bO=>(bT bS bO).1))),((aJ i).2.2.2.1.mv (f.DN cE 0 rfl (fun bS bO=>(bT bS bO).1))),((aJ i).2.2.2.2.1.mv (f.DN cE 0 rfl (fun bS bO=>(bT bS bO).1))),((aJ i).2.2.2.2.2.1.mv (f.DN cE 0 rfl (fun bS bO=>(bT bS bO).1))),((aJ i).2.2.2.2.2.2.mv (f.DN cE 0 rfl (fun bS bO=>(bT bS bO).1)))⟩,bA,bB,fun i=>⟨(a0 i).1,((a0 i).2.mv (f.DN cE 0 rfl (fun bS bO=>(bT bS bO).1)))⟩,fun _=>⟨rfl,rfl,f.VU (fun _ _ _ _ _ _ h=>h) gB⟩,bC,bD,bE,fun i=>⟨(a2 i).1,((a2 i).2.mv (f.DN cE 0 rfl (fun bS bO=>(bT bS bO).1)))⟩⟩),
          sj (k:=6) rfl (fun D V a' w' K a=>by
              rw[bP] at a;refine X4 a fun aC bH bI j a=>X4 a fun m o p q a=>X4 a fun r s u x a=>X4 a fun y z aA aP a=>X3 a fun aQ a3 a4 a=>Y8 a fun f aO aI aG aH bF aJ bA a=>Y4 a fun bB a0 a5 _ a=>Y2 a fun bD bE a=>?_;have a2:=a;exact(Aq (v:=.slice cB aZ.1.length cC) (es ((K.out 7 rfl).trans rfl))).mono fun v CJ ⟨bL,bM⟩=>by subst bL;subst bM;rw[bP];exact⟨aC,bH,bI,j,m,o,p,q,r,s,u,x,y,z,aA,aP,aQ,a3,a4,f,aO,aI,aG,aH,bF,aJ,bA,bB,a0,a5,fun _=>rfl,bD,bE,a2⟩),
          sj (k:=7) rfl (fun D V a' w' K a=>by
              rw[bP] at a;refine X4 a fun aC bH bI j a=>X4 a fun m o p q a=>X4 a fun r s u x a=>X4 a fun y z aA aP a=>X3 a fun aQ a3 a4 a=>Y8 a fun f aO aI aG aH bF aJ bA a=>Y4 a fun bB a0 a5 bC a=>Y2 a fun _ bE a=>?_;have a2:=a;exact(Aq (v:=I (bJ%(b.Aw.length:Int))) (es ((K.out 5 rfl).trans rfl))).mono fun v CJ ⟨bL,bM⟩=>by subst bL;subst bM;rw[bP];exact⟨aC,bH,bI,j,m,o,p,q,r,s,u,x,y,z,aA,aP,aQ,a3,a4,f,aO,aI,aG,aH,bF,aJ,bA,bB,a0,a5,bC,fun _=>rfl,bE,a2⟩),
          sj (k:=8) rfl (fun D V a' w' K a=>by
              rw[bP] at a;refine X4 a fun aC bH bI j a=>X4 a fun m o p q a=>X4 a fun r s u x a=>X4 a fun y z aA aP a=>X3 a fun aQ a3 a4 a=>Y8 a fun f aO aI aG aH bF aJ bA a=>Y4 a fun bB a0 a5 bC a=>Y2 a fun bD _ a=>?_;have a2:=a;have eO:=bD (K.dn 7 rfl);exact(B0 (es (t:=73) (v:=I (bJ%(b.Aw.length:Int))) ((K.dq 7 73).trans eO)) (ec (v:=I 1)) hJ).mono fun v CJ ⟨bL,bM⟩=>by subst bL;subst bM;rw[bP];exact⟨aC,bH,bI,j,m,o,p,q,r,s,u,x,y,z,aA,aP,aQ,a3,a4,f,aO,aI,aG,aH,bF,aJ,bA,bB,a0,a5,bC,bD,fun _=>rfl,a2⟩),
          sj (k:=9) rfl (fun D V a' w' K a=>by
              rw[bP] at a;refine X4 a fun aC bH bI j a=>X4 a fun m o p q a=>X4 a fun r s u x a=>X4 a fun y z aA aP a=>X3 a fun aQ _ _ a=>Y8 a fun f aO aI aG aH bF aJ bA a=>Y4 a fun bB a0 a5 bC a=>Y2 a fun bD bE a=>?_;have a2:=a;have eP:=bC (K.dn 6 rfl);have eQ:=bE (K.dn 8 rfl);exact(RF (e:=(Ay .i64)) (Z:=_) (xs:=aZ.1) Tryz.underlying31 DR rfl (es (t:=72) (v:=.slice cB aZ.1.length cC) ((K.dq 6 72).trans eP)) (Tt (es (t:=74) (v:=I ((bJ%(b.Aw.length:Int))+1)) ((K.dq 8 74).trans eQ))) S7 (c6.mv (aI _)) hL).mono fun v CJ ⟨⟨cH,cL,bL,cO⟩,bM⟩=>by subst bL;subst bM;rw[bP];exact⟨aC,bH,bI,j,m,o,p,q,r,s,u,x,y,z,aA,aP,aQ,cH,cL,f,aO,aI,aG,aH,bF,aJ,bA,bB,a0,a5,bC,bD,bE,fun _=>⟨rfl,cO⟩⟩),trivial⟩ ?_
     intro iX iY iZ cD bN;rw[bP] at bN;clear bP;refine X4 bN fun aC bH bI j bN=>X4 bN fun m o p q bN=>X4 bN fun r s u x bN=>X4 bN fun y z aA aP bN=>X3 bN fun aQ a3 a4 bN=>Y8 bN fun dE iG iH aG aH bF aJ bA bN=>Y4 bN fun bB a0 a5 bC bN=>Y2 bN fun bD bE bN=>?_;have a2:=bN;clear bN;have eI:=bF (cD 0 (by decide));obtain⟨gC,cY,cZ,c0,c1,c2,c3⟩:=aJ (cD 1 (by decide));have eJ:=bA (cD 2 (by decide));have eK:=bB (cD 3 (by decide));obtain⟨eM,eN⟩:=a0 (cD 4 (by decide));obtain⟨gD,fV,gE⟩:=a5 (cD 5 (by decide));subst fV;have eP:=bC (cD 6 (by decide));have eO:=bD (cD 7 (by decide));have eQ:=bE (cD 8 (by decide));obtain⟨gF,gG⟩:=a2 (cD 9 (by decide));replace d:=Ck d;obtain⟨gH,d⟩:=d;refine wE (fun st=>HY (ys:=Gv aZ.1 ((bJ%(b.Aw.length:Int))+1) (aZ.1.length:Int)) Tryz.underlying31 Hv rfl rfl (by decide) (ee st gD) rfl (ee st gF) gE gG.n (by have:=gH;simp only[maxLen];omega) (by have:=gH;omega) dE.sz) ?_;rintro _ i0 ⟨iB,iC,rfl,e0,e1,hM⟩;have hN:=dE.row e0 0 rfl e1;have hO:=ED hM (dE.DN e0 0 rfl (fun k hk=>(e1 k hk).1));have ⟨dP,dQ,dR,dS,dT,dU⟩:=Cz cY cZ c0 c1 c2 c3 (dE.DN e0 0 rfl (fun k hk=>(e1 k hk).1));replace d:=bind_some d;obtain⟨gI,hP,d⟩:=d;refine wE (fun st=>Ar Sk (eR st) (Dw (ee st gC) (eR st)) (XL dD c5 ((Gv aZ.1 (0:Int) (bJ%(b.Aw.length:Int)))++(Gv aZ.1 ((bJ%(b.Aw.length:Int))+1) (aZ.1.length:Int))) j m o p q r s u x y z aA iB iC ZA _ dP.all dQ.all dR.all dS.all dT.all dU.all hO.all gI hP)) ?_;rintro _ i1 ⟨hQ,rfl⟩;have hR:=hN.ext hQ;refine wM (v:=.bool gI) rfl ?_;rcases Ak (gI) with dO|dO
     ·replace d:=Az d dO;replace d:=Ck d;obtain⟨hS,d⟩:=d;refine Di rfl rfl (Ae rfl dO) rfl (by decide) (fun st=>Ar EI (eR st) Gx (a37 dD ZA _ hS)) ?_;rintro _ i2 ⟨hT,rfl⟩;have hU:=hR.ext hT;refine wD (fun st=>AY (v:=.bool true) (eR st) dO (eR st))<|wA (v:=.bool true) rfl<|Ag<|Ab<|AI ?_;have cK:=oi d;refine AJ rfl rfl ?_;exact⟨hU.Bc,congrArg Value.bool cK⟩
     ·replace d:=AA d dO;exact absurd (oi d) (by decide)
end Go.Proofs.YtbhofkcbfblijaaGreat
end
section
namespace Go.Proofs.YtbhofkcbfblijaaGreat
open Go.RowKit Go.ChangeShapes Go.WideShapes Go.ChangeAt
theorem YM(t:Aj)(k:Int)(h1:Iz .u8 k):∃K,Lp K t k=some true:=X8 t k (by have:=QC h1;omega) (by have:=QC h1;omega)
set_option maxRecDepth 100000 in
theorem Wr(os:Os)(started:os.Started)(H:Type)(enc:TypeId×Value→H):
  ReturnsInHanded {} Tryz.checked os 19 .any (Rows.tradeFewerSpec.pre6 enc Tryz.prog Tryz.f19 Rows.tradeFewerRow.domain false) (Rows.tradeFewerSpec.post enc Tryz.prog Tryz.f19 false true false false):=by
 refine returnsInHanded_of_change_sized (C:=Tryz.checked) RB started (by kernel_rfl) Tryz.func19
  (ChangeSpec.witness6 (enc:=enc) (C:=Tryz.checked) false ⟨#[], #[.agg #[.slice none 0 0,.slice none 0 0,.slice none 0 0,.int .i64 0,.slice none 0 0,.slice none 0 0,.slice none 0 0],.int .u8 0],[]⟩ 8 (by kernel_rfl) (by kernel_rfl) (by kernel_rfl) (by kernel_rfl)) ?_
 intro W base args ds gs before d aE aN aF _;have a:∀(j:Nat) t v,Tryz.f19.params[j]?=some t→args[j]?=some v→Value.okWide Tryz.prog W .any base t v:=d;have b:=aE;obtain⟨p,q,aG,aO,rfl,aT,aU⟩:=aE;have f:DataW.TrodAll enc Tryz.prog W 0 (fun _=>true) true Tryz.f19.params.toList args.toList ds p:=aG;obtain⟨rfl,rfl⟩:=trodVars_none aO;simp only[List.append_nil] at b;have aH:∀x∈p,x.block<W.heap.size:=fun x hx=>by simpa using b.lt x hx
 have aI:=f;have c:(DataW.weightsEach Tryz.prog (Tryz.f19.params.toList++[]) (ds++[])).all (· ≤reachBytes)=true:=aF;rw[Tryz.params19] at f a c;obtain⟨v0,v1,d0,d1,aP,aQ,rfl,rfl,rfl,h0,h1⟩:=trodAll_two f;obtain⟨aJ,aV,aK,⟨g,h,i,k,l,m,n,o,r,s,u,w,rfl,y,z,aA,aB,aC,aD⟩,w0⟩:=Nr Tryz.underlying67 O7 (a 0 67 v0 rfl rfl) h0 (Li (j:=0) c rfl rfl);obtain⟨x1,aL,w1⟩:=Lz Tryz.underlying5 (a 1 5 v1 rfl rfl) h1;subst aK;subst aL;obtain⟨K,aR⟩:=YM aJ x1 w1;refine(LS (a19 K aJ x1 g h i k l m n o r s u w ZA W y z aA aB aC aD aR)).mono fun e W' ⟨v,he,hx,aS⟩=>?_;subst he;subst aS;exact⟨_,rfl,Ko (pa:=(aP++aQ)) (pv:=[]) b (fun _ _ _=>trodAll_mk1 (shut_bool Tryz.underlying4 _)) (fun sp hs=>LR P5 P6 (by rw[Tryz.params19];decide) aI hx aH sp (fun x aM=>hs x (by simpa using aM))) (fun _ _=>rfl) (by simp) hx (ok_one (by kernel_rfl) rfl (okWide_bool_mk Tryz.underlying4 _))⟩
theorem Rw:((Rows.tradeFewerRow.inPlace==Tryz.checked.prog.inPlace 19)&&(Rows.tradeFewerRow.unfollowed==Tryz.checked.prog.unfollowed 19)&&(Rows.tradeFewerRow.recurses==Tryz.checked.prog.recurses 19)&&(Rows.tradeFewerRow.named==Tryz.checked.prog.varsNamed 19))=true:=by kernel_rfl
theorem W8:joinedFacts Tryz.checked.prog 19 Tryz.f19 Rows.tradeFewerSpec Rows.tradeFewerRow=true:=by
 unfold joinedFacts;exact(Bf (Bf (Bf (Bf (Bf (Bf (Bf (Bf (Bf (Bf (Bf (Bf (Bf (Bf (Bf (Bf (Bf (Bf (Bf (Bf (Bf (Bf (Bf (Bf (Bf (Bf (Bf (Bf (Bf (Bf (Bf (by kernel_rfl) O8) O9) (by kernel_rfl)) (by kernel_rfl)) (by kernel_rfl)) NX) (by kernel_rfl)) NY) (FI (FI (FI Rw)))) (IE (FI (FI Rw)))) (IE (FI Rw))) (IE Rw)) (by kernel_rfl)) (by kernel_rfl)) (by kernel_rfl)) (by kernel_rfl)) (by kernel_rfl)) (by kernel_rfl)) (by kernel_rfl)) (by kernel_rfl)) (by kernel_rfl)) Pa) (by kernel_rfl)) NZ) (FI (FI Hs))) (IE (FI Hs))) (IE Hs)) (by kernel_rfl)) (by kernel_rfl)) (by kernel_rfl)) (by kernel_rfl))
theorem tradeFewer_holds:Rows.TradeFewerSaid:=
 OpenClaim.holds_of_wide 19 Tryz.f19 rfl rfl rfl rfl rfl rfl rfl ⟨rfl,rfl,rfl,rfl,rfl⟩ rfl rfl rfl rfl rfl (by kernel_rfl) Tryz.func19 W8
  (of_decide_eq_true (by kernel_rfl)) (by unfold Func.isWrapper;rw[if_neg (by decide+kernel)];exact⟨rfl,rfl⟩)
  (fun os started H enc _=>Wr os started H enc)
end Go.Proofs.YtbhofkcbfblijaaGreat
end
