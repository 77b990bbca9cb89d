import Derived.Test.YtbhofkcbfblijaaGreatCJ6
import Derived.WalkKit
import Derived.KernelRfl
import Derived.WalkSpells
import Derived.WalkLawsBesides
import Derived.Maps.AppendAt
import Derived.OrdersIn
import Derived.RangeFuncIn
import Derived.RangeFuncLeaves
import Derived.RangeFuncRecord
import Derived.RangeFuncSeq
import Derived.Scope
import Derived.DeepKeys3
import Derived.Laws.CopyRow
import Derived.Laws.OwnMore
import Derived.Laws.MakeOwn
import Derived.Laws.IdiomCopy
import Derived.Sort.OwnSortedInts
import Derived.Lib.RowBridge
import Derived.Shelf.Sort.Plain
import Derived.Ground.Names2Prog
import Derived.Shelf.Slices.Clone
import Derived.Shelf.Slices.CompactI
import Derived.Shelf.Slices.In.SortNone
import Derived.Ground.SlgnProg
import Derived.Shelf.SlicesE.Clone
import Derived.ProofKit
import Derived.ChangeSame
import Derived.SizedLaws
import Derived.Deep.Slices
import Derived.JoinedOf
import Derived.Test.YtbhofkcbfblijaaGreatProg
import Derived.Test.YtbhofkcbfblijaaGreatRows
/-
  What the law TradeBounds needs beside the base that several claims of this seat share: contracts, and the plain law.
-/
set_option linter.all false
section
namespace Go.Proofs.YtbhofkcbfblijaaGreat
open Go.RowKit Go.WideShapes
section
variable{P:Program}{a:Act}{w:World}{dst:Option Tmp}{ty:TypeId}{pos:String}{Cc:Array Edge}{g:Option (Nat×Bool)}
theorem T8{x y:Operand}{b c:Bool}{t d:TypeId}(hb:∀b c w,(Op.equal t (.bool b) (.bool c)).run P w=.ok (b==c) w)(e:a.eval x=.bool b)(f:a.eval y=.bool c):
  Cg P ⟨dst,.binOp .eql t x y d,ty,pos,Cc,g⟩ a w (fun u w'=>u=.bool (b==c)∧w'=w):=by
 refine QC e f ?_;show(do eqGuard .eql t x y (.bool b) (.bool c);pure (Value.bool (←Op.equal t (.bool b) (.bool c))):Sem Value).run P w=_;have h:(eqGuard .eql t x y (.bool b) (.bool c)).run P w=.ok () w:=by simp[eqGuard]
 simp only[Sem.run_bind,h,Result.andThen_ok,hb,Sem.run_pure]
end
def HP(b:Nat)(c:AD)(d:List Int)(e:Int):Option (Bool):=
 (G9 b c d).bind fun a=>cond (a.2==0) (some (decide (e≤a.1.Lo))) (some (false))
def Gn(c:Nat)(a:AL)(b:Int):Option (AL):=
 some ((⟨min a.Lo b,max a.Hi b⟩:AL))
def Gp(a:Nat):Option (AL):=
 some ((⟨1099511627776,(-1099511627776)⟩:AL))
def Dj(e:Nat)(g:AD)(f:List (List Int))(h:Int):Nat→Int→Int→Int→Option (Int×Int)
 |0,_,_,_=>none
 |k+1,a,b,c=>cond (decide (a<(f.length:Int))) ((idx f a).bind fun i=>(Fz e g i h).bind fun j=>(Gn e (⟨b,c⟩:AL) j).bind fun d=>(i64 (a+1)).bind fun _=>Dj e g f h k (a+1) d.Lo d.Hi) (some ((b,c)))
def D0(a:Nat)(d:AD)(e:List (List Int))(f:Int):Option (AL):=
 (Gp a).bind fun b=>(Dj a d e f a (0:Int) b.Lo b.Hi).bind fun c=>some ((⟨c.1,c.2⟩:AL))
def Ec(f:Nat)(c:AD)(g:List Int)(d:Int):Nat→Int→Int→Option (Int)
 |0,_,_=>none
 |h+1,b,a=>cond (decide (a<(c.Ab.length:Int))) ((LD .u64 a).bind fun _=>(Oo d a).bind fun _=>(rem (J0 d a) (2:Int)).bind fun _=>cond (((J0 d a)%2)==1) ((Fz f c g a).bind fun i=>(i64 (b+i)).bind fun _=>(i64 (a+1)).bind fun _=>Ec f c g d h (b+i) (a+1)) ((EB f c a).bind fun e=>(i64 (c.Flat*e)).bind fun _=>(i64 (b+(c.Flat*e))).bind fun _=>(i64 (a+1)).bind fun _=>Ec f c g d h (b+(c.Flat*e)) (a+1))) (some (b))
def Hn(a:Nat)(b:AD)(c:List Int)(d:Int):Option (Int):=
 (Ec a b c d a (0:Int) (0:Int)).bind fun z2=>some (z2)
def Dr(e:Nat)(g:AD)(f:List (List Int))(h:Int):Nat→Int→Int→Int→Option (Int×Int)
 |0,_,_,_=>none
 |k+1,a,b,c=>cond (decide (a<(f.length:Int))) ((idx f a).bind fun i=>(Hn e g i h).bind fun j=>(Gn e (⟨b,c⟩:AL) j).bind fun d=>(i64 (a+1)).bind fun _=>Dr e g f h k (a+1) d.Lo d.Hi) (some ((b,c)))
def EU(a:Nat)(d:AD)(e:List (List Int))(f:Int):Option (AL):=
 (Gp a).bind fun b=>(Dr a d e f a (0:Int) b.Lo b.Hi).bind fun c=>some ((⟨c.1,c.2⟩:AL))
end Go.Proofs.YtbhofkcbfblijaaGreat
end
section
namespace Go.Proofs.YtbhofkcbfblijaaGreat
section
variable{K:Nat}(hK:1000≤K)
include hK
theorem AaJ(a b:Int):IF K [a,b]=some (min a b):=by
 unfold IF;rw[bd (Uv hK a b)]
theorem RY(r:AL)(n:Int):Gh K r n=some ⟨min r.Lo n,max r.Hi n⟩:=by
 unfold Gh;rw[bd (AaJ hK _ _)]
end
theorem Wv{s x:Nat}(a:x<8):(CZ s).contains (x:Int)=s.testBit x:=by
 rw[Bool.eq_iff_iff,List.contains_iff_mem,LJ];constructor
 ·rintro⟨y,b,h,e⟩;obtain rfl:x=y:=by omega
  exact h
 ·intro h;exact⟨x,a,h,rfl⟩
section
variable{K:Nat}(hK:1000≤K)
include hK
end
def If (f:Nat→Int):Nat→Int
 |0=>0
 |n+1=>If f n+f n
theorem Oj{f g:Nat→Int}:∀(n:Nat),(∀k,k<n→f k=g k)→If f n=If g n
 |0,_=>rfl
 |n+1,h=>by rw[If,If,Oj n fun k hk=>h k (by omega),h n (by omega)]
theorem MW{f:Nat→Int}{b:Int}:∀(n:Nat),(∀k,k<n→0≤f k∧f k≤b)→0≤If f n∧If f n≤b*n
 |0,_=>by simp[If]
 |n+1,h=>by
  have h1:=MW n fun k hk=>h k (by omega);have h2:=h n (by omega);rw[If,Int.natCast_add,Int.mul_add];simp;omega
def Jb(t:AD)(Cz:List Int)(l:List Int)(k:Nat):Int:=if Cz.contains (k:Int)=true then (Bz t l).getD k 0 else (t.Ab.getD k []).sum*t.Flat
def IL (t:AD) (Cz:List Int) (l:List Int):Int:=If (Jb t Cz l) t.Ab.length
theorem Tv{t:AD}(a:OkT t)(l:List Int)(k:Nat):0≤(Bz t l).getD k 0∧(Bz t l).getD k 0≤9000:=by
 by_cases hk:k<(Bz t l).length
 ·rw[Df _ hk];exact a.Aa6 l _ (List.getElem_mem hk)
 ·rw[List.getD_eq_getElem?_getD,List.getElem?_eq_none (by omega)];simp
theorem RZ{t:AD}(a:OkT t)(k:Nat)(hk:k<t.Ab.length):0≤(t.Ab.getD k []).sum*t.Flat∧(t.Ab.getD k []).sum*t.Flat≤9000:=by
 rw[Df _ hk];have h1:=a.EH _ (List.getElem_mem hk);have h2:=a.flat;have:=J5 (by omega:0≤t.Ab[k].sum) h1.2.2.2 h2.1 h2.2;omega
theorem Pn{t:AD}(a:OkT t)(Cz l:List Int)(k:Nat)(hk:k<t.Ab.length):0≤Jb t Cz l k∧Jb t Cz l k≤9000:=by
 unfold Jb;split
 ·exact Tv a l k
 ·exact RZ a k hk
theorem AaK{t:AD}(a:OkT t)(Cz l:List Int):0≤IL t Cz l∧IL t Cz l≤27000:=by
 have h1:=MW (f:=Jb t Cz l) (b:=9000) t.Ab.length fun k hk=>Pn a Cz l k hk;have h2:=a.kl;unfold IL;omega
theorem T9 {t:AD} (b:OkT t) {L:List (List Int)} (e:Tr t L) (g:Bo→Bo→Int) (f:List Int→Int) (i:∀l,G1 t l=true→g (BT t l) (arr (Bz t l))=f l) {r:AL} (h:IS (J6 t [] L) (fun x=>g x.1 x.2) r):IS (B4 t) f r:=by
 refine h.map (fun x j=>?_) (fun l hl=>?_)
 ·obtain⟨l,h1,h2,rfl⟩:=KL.1 j;have a:G1 t l=true:=by unfold G1;rw[e.UH l h1,h2];rfl
  exact⟨l,(Jv b).2 a,(i l a).symm⟩
 ·have a:=(Jv b).1 hl;have c:=a;unfold G1 at c;rw[Bool.and_eq_true] at c;obtain⟨l',k,d⟩:=e.all l c.1;refine⟨(BT t l',arr (Bz t l')),KL.2 ⟨l',k,by rw[L5 b d];exact c.2,rfl⟩,?_⟩;show g (BT t l') (arr (Bz t l'))=f l;rw[d,L5 b d];exact i l a
section
variable{K:Nat}(hK:1000≤K)
include hK
theorem Po(cb:Unit→Bo→Option (Int×Unit))(F:Bo→Int):∀(X c:List (Bo×Bo)) (lo hi:Int),(∀x∈X,cb () x.2=some (F x.2,()))→IS c (fun x=>F x.2) ⟨lo,hi⟩→
  ∃a b,run (fun(st:Int×Int×Bool×Unit) (x:Bo×Bo)=>CP cb K st.1 st.2.1 st.2.2.1 st.2.2.2 x) X (lo,hi,false,())=some (true,(a,b,false,()))∧IS (c++X) (fun x=>F x.2) ⟨a,b⟩
 |[],c,lo,hi,_,h=>⟨lo,hi,rfl,by rw[List.append_nil];exact h⟩
 |x::X,c,lo,hi,d,h=>by
  have h1:CP cb K lo hi false () x=some (true,(min lo (F x.2),max hi (F x.2),false,())):=by
   unfold CP;rw[bd (d x (List.mem_cons_self ..)),cf rfl,bd (RY hK _ _)]
  obtain⟨a,b,g1,g2⟩:=Po cb F X (c++[x]) _ _ (fun y e=>d y (List.mem_cons_of_mem _ e)) (h.snoc x);refine⟨a,b,?_,by rw[List.append_assoc] at g2;exact g2⟩;rw[run];show(CP cb K lo hi false () x).bind _=_;rw[bd h1,ct rfl];exact g1
theorem Qs{t:AD}(d:OkT t){L:List (List Int)}(g:Tr t L){m:List (List Int×Int)}(hm:HU t m)(i:B4 t≠[])(cb:Unit→Bo→Option (Int×Unit))(F:Bo→Int)(f:List Int→Int)(o:∀l,G1 t l=true→F (arr (Bz t l))=f l)
  (j:∀l,G1 t l=true→cb () (arr (Bz t l))=some (F (arr (Bz t l)),())):
  ∃h r,HU t h∧IS (B4 t) f r∧Fx K cb (wk t (L.map (BT t)) m) ()=some (r,h,()):=by
 have a:∀x∈J6 t [] L,cb () x.2=some (F x.2,()):=fun x p=>by
  obtain⟨l,h1,h2,rfl⟩:=KL.1 p;exact j l (by unfold G1;rw[g.UH l h1,h2];rfl)
 have hr:∃lo hi,run (fun(st:Int×Int×Bool×Unit) (x:Bo×Bo)=>CP cb K st.1 st.2.1 st.2.2.1 st.2.2.2 x) (J6 t [] L) (0,0,true,())=some (true,(lo,hi,false,()))∧IS (J6 t [] L) (fun x=>F x.2) ⟨lo,hi⟩:=by
  have c:J6 t [] L≠[]:=by
   obtain⟨l,hl⟩:=List.exists_mem_of_ne_nil _ i;have b:=(Jv d).1 hl;unfold G1 at b;rw[Bool.and_eq_true] at b;obtain⟨l',q,s⟩:=g.all l b.1;have:(BT t l',arr (Bz t l'))∈J6 t [] L:=KL.2 ⟨l',q,by rw[L5 d s];exact b.2,rfl⟩;intro e;rw[e] at this;cases this
  generalize J6 t [] L=X at a c;cases X with
  |nil=>exact absurd rfl c
  |cons x X=>
   have h1:CP cb K 0 0 true () x=some (true,(F x.2,F x.2,false,())):=by
    unfold CP;rw[bd (a x (List.mem_cons_self ..)),ct rfl,bd (RY hK _ _)];show some (true,min (F x.2) (F x.2),max (F x.2) (F x.2),false,())=_;rw[Int.min_self,Int.max_self]
   obtain⟨k,n,g1,g2⟩:=Po hK cb F X [x] _ _ (fun y u=>a y (List.mem_cons_of_mem _ u)) (IS.one (fun x:Bo×Bo=>F x.2) x);refine⟨k,n,?_,g2⟩;rw[run];show(CP cb K 0 0 true () x).bind _=_;rw[bd h1,ct rfl];exact g1
 obtain⟨lo,hi,h1,h2⟩:=hr;obtain⟨h,b,v⟩:=OC hK d (out:=[]) (by simp) _ g.len hm h1;refine⟨h,⟨lo,hi⟩,b,T9 d g (fun _ M=>F M) f o h2,?_⟩;unfold Fx;rw[bd v]
structure Ww (t:AD) (b:List AL):Prop where
 len:b.length=t.Ab.length
 is:∀k (hk:k<b.length),IS (B4 t) (fun l=>(Bz t l).getD k 0) b[k]
theorem Wx{t:AD}(h:IJ t=true):∃b,Hr K t=some (b,DZ t)∧(DZ t≠0→b=[])∧(DZ t=0→Ww t b):=by
 unfold Hr;rcases NQ hK h true with⟨h0,_,L,m,aB,hm,e⟩|⟨h0,e⟩
 ·have w:=Ju h (G2 (Gt h0).1).1;have aG:=w.kl;have f:∀(d n i:Nat) (acc:List AL) (c:List (List Int×Int)),t.Ab.length=i+d→d<n→acc.length=i→HU t c→(∀k (hk:k<acc.length),IS (B4 t) (fun l=>(Bz t l).getD k 0) acc[k])→
    ∃b j,Ww t b∧Fu K (wk t (L.map (BT t)) m) n acc (i:Int) c=some (b,j):=by
   intro d
   induction d with
   |zero=>
    intro n i acc c aC aD ha o a;obtain⟨n,rfl⟩:∃v,n=v+1:=⟨n-1,by omega⟩;have aE:((wk t (L.map (BT t)) m).weights.length:Int)=t.Ab.length:=by show((List.map _ _).length:Int)=_;simp
    exact⟨acc,c,⟨by omega,a⟩,by rw[Fu.eq_2,cf (df (by omega))]⟩
   |succ d ih=>
    intro n i acc c aC aD ha o a;obtain⟨n,rfl⟩:∃v,n=v+1:=⟨n-1,by omega⟩;have aE:((wk t (L.map (BT t)) m).weights.length:Int)=t.Ab.length:=by show((List.map _ _).length:Int)=_;simp
    have y:i<3:=by omega
    have p:∀l:List Int,idx [(arr (Bz t l)).a0,(arr (Bz t l)).a1,(arr (Bz t l)).a2] (i:Int)=some ((Bz t l).getD i 0):=fun l=>by
     have q:i<(Bz t l).length:=by rw[Gc];omega
     rw[JX (by rw[Gc];omega) q,Df _ q]
    obtain⟨j,r,z,hr,g⟩:=Qs hK w aB o (Gt h0).2 (fun(st:Unit) (x:Bo)=>(FQ K x (i:Int)).bind fun r=>some (r,())) (fun x=>([x.a0,x.a1,x.a2]:List Int).getD i 0) (fun l=>(Bz t l).getD i 0)
     (fun l _=>by
      have:=p l;show([(arr (Bz t l)).a0,(arr (Bz t l)).a1,(arr (Bz t l)).a2]:List Int).getD i 0=_;rw[idx_eq (by simp;omega)] at this;rw[Df _ (by simp;omega)];exact Option.some.inj this)
     (fun l _=>by
      have:=p l;show(FQ K (arr (Bz t l)) (i:Int)).bind _=_;unfold FQ;rw[bd (bd this)];have h2:=this;rw[idx_eq (by simp;omega)] at h2;show some (_,())=some (([(arr (Bz t l)).a0,(arr (Bz t l)).a1,(arr (Bz t l)).a2]:List Int).getD i 0,());rw[Df _ (show i<([(arr (Bz t l)).a0,(arr (Bz t l)).a1,(arr (Bz t l)).a2]:List Int).length from y),←Option.some.inj h2])
    obtain⟨b,aF,hb,g2⟩:=ih n (i+1) (acc++[r]) j (by omega) (by omega) (by simp;omega) z (fun k hk=>by
     by_cases s:k<acc.length
     ·rw[List.getElem_append_left s];exact a k s
     ·have aA:k=i:=by
       have aH:k<acc.length+1:=by simpa using hk
       omega
      subst aA;rw[List.getElem_append_right (by omega)];simpa[ha] using hr)
    refine⟨b,aF,hb,?_⟩;rw[Fu.eq_2,ct (dt (by omega))];show((Fx K (fun(st:Unit) (x:Bo)=>(FQ K x (i:Int)).bind fun r=>some (r,())) (wk t (L.map (BT t)) c) ()).bind _)=_;rw[bd g,FV (by simp;omega),BS (by omega) (by omega),Dw i];exact g2
  obtain⟨b,j,hb,g⟩:=f t.Ab.length K 0 [] m (by omega) (by omega) rfl hm (fun k hk=>by simp at hk);refine⟨b,?_,fun hh=>absurd h0 hh,fun _=>hb⟩;rw[bd e];show(Fu K (wk t (L.map (BT t)) m) K [] 0 m).bind _=_;rw[Int.natCast_zero] at g;rw[bd g,h0]
 ·have u:DZ t≠0:=fun g=>h0 ⟨g,rfl⟩;refine⟨[],?_,fun _=>rfl,fun g=>absurd g u⟩;rw[if_neg (by simp)] at e;rw[bd e];show cond (_ !=0) _ _=_;rw[ct (J1 u)]
def HQ (t:AD) (Cz:List Int):Int:=if Gr t=0∧F9 t.Ab.length 0 Cz=false then 2 else DZ t
omit hK in
theorem Sr {t:AD} {Cz:List Int} (h:HQ t Cz=0):DZ t=0∧F9 t.Ab.length 0 Cz=true:=by
 unfold HQ at h
 split at h
 ·omega
 ·rename_i hh
  refine⟨h,?_⟩
  cases hr:F9 t.Ab.length 0 Cz with
  |true=>rfl
  |false=>exact absurd ⟨(G2 (Gt h).1).1,hr⟩ hh
omit hK in
theorem Qt {t:AD} {Cz:List Int} (h:F9 t.Ab.length 0 Cz=true):HQ t Cz=DZ t:=by unfold HQ;rw[if_neg (by simp[h])]
theorem Wy{t:AD}(c:OkT t)(a:List Bo)(m:List (List Int×Int)){Cz:List Int}(hs:Cz.length≤900)(l:List Int):Ew K (arr (Bz t l)) (wk t a m) Cz=some (IL t Cz l):=by
 have p:=c.kl;have v:((wk t a m).weights.length:Int)=t.Ab.length:=by show((List.map _ _).length:Int)=_;simp
 have e:∀(d n i:Nat),t.Ab.length=i+d→d<n→DJ K (arr (Bz t l)) (wk t a m) Cz n (If (Jb t Cz l) i) (i:Int)=some (IL t Cz l):=by
  intro d
  induction d with
  |zero=>
   intro n i r s;obtain⟨n,rfl⟩:∃j,n=j+1:=⟨n-1,by omega⟩;obtain rfl:i=t.Ab.length:=by omega
   rw[DJ.eq_2,cf (df (by omega))];rfl
  |succ d ih=>
   intro n i r s;obtain⟨n,rfl⟩:∃j,n=j+1:=⟨n-1,by omega⟩;have hi:i<t.Ab.length:=by omega
   have g:i<(Bz t l).length:=by rw[Gc];omega
   have h:i<(wk t a m).weights.length:=by omega
   have u:(wk t a m).weights[i]'h=(t.Ab.getD i []).sum:=by rw[Df _ hi];simp[wk]
   have b1:=MW (f:=Jb t Cz l) (b:=9000) i fun k hk=>Pn c Cz l k (by omega);have b2:=Pn c Cz l i hi;have b3:=RZ c i hi;have:=ih n (i+1) (by omega) (by omega);rw[If] at this;rw[DJ.eq_2,ct (dt (by omega)),Cp h,bd (MG hK Cz _ hs),u];show cond _ _ ((i64 ((t.Ab.getD i []).sum*t.Flat)).bind fun _=>(i64 (If (Jb t Cz l) i+(t.Ab.getD i []).sum*t.Flat)).bind fun _=>(i64 ((i:Int)+1)).bind fun _=>DJ K (arr (Bz t l)) (wk t a m) Cz n (If (Jb t Cz l) i+(t.Ab.getD i []).sum*t.Flat) ((i:Int)+1))=_;cases q:Cz.contains (i:Int) with
   |true=>
    have o:Jb t Cz l i=(Bz t l)[i]:=by unfold Jb;rw[if_pos q,Df _ g]
    rw[o] at this b2;rw[ct rfl,bd (JX (by rw[Gc];exact p) g),BS (by omega) (by omega),BS (by omega) (by omega),Dw i,this]
   |false=>
    have o:Jb t Cz l i=(t.Ab.getD i []).sum*t.Flat:=by unfold Jb;rw[if_neg (by rw[q];decide)]
    rw[o] at this b2;rw[cf rfl,BS (by omega) (by omega),BS (by omega) (by omega),BS (by omega) (by omega),Dw i,this]
 have:=e t.Ab.length K 0 (by omega) (by omega);rw[Int.natCast_zero,If] at this;unfold Ew;rw[bd this]
theorem Zn{t:AD}(c:OkT t){L:List (List Int)}(g:Tr t L){m:List (List Int×Int)}(hm:HU t m)(d:B4 t≠[]){Cz:List Int}(hs:Cz.length≤900):∃a r,HU t a∧IS (B4 t) (IL t Cz) r∧Fg K (wk t (L.map (BT t)) m) Cz=some (r,a):=by
 
 have key:∃F:Bo→Int,∀l,G1 t l=true→F (arr (Bz t l))=IL t Cz l:=⟨fun x=>If (fun k=>if Cz.contains (k:Int)=true then ([x.a0,x.a1,x.a2]:List Int).getD k 0 else (t.Ab.getD k []).sum*t.Flat) t.Ab.length,fun l _=>by
  have e:=c.kl;refine Oj _ fun k hk=>?_;unfold Jb;have b:k<(Bz t l).length:=by rw[Gc];exact hk
  have h1:=JX (by rw[Gc];exact e) b;rw[idx_eq (by simp;omega)] at h1;rw[Df _ b,←Option.some.inj h1,Df _ (by simp;omega)]⟩
 obtain⟨F,f⟩:=key;obtain⟨a,r,h1,h2,h⟩:=Qs hK c g hm d (fun(st:Unit) (x:Bo)=>(Ew K x (wk t (L.map (BT t)) m) Cz).bind fun r=>some (r,())) F (IL t Cz) f (fun l hl=>by
  show(Ew K (arr (Bz t l)) (wk t (L.map (BT t)) m) Cz).bind _=_;rw[bd (Wy hK c _ m hs l),f l hl])
 refine⟨a,r,h1,h2,?_⟩;unfold Fg;rw[bd h]
theorem Tw{t:AD}(h:IJ t=true){Cz:List Int}(hs:Cz.length≤900):∃r,G9 K t Cz=some (r,HQ t Cz)∧(HQ t Cz≠0→r=⟨0,0⟩)∧(HQ t Cz=0→IS (B4 t) (IL t Cz) r):=by
 have hlen:=Ki h;have j:t.Ab.length≤100:=hlen.1.2.1;unfold G9;rw[bd (SU hK (by omega) hs)];rcases NQ hK h (F9 t.Ab.length 0 Cz) with⟨h0,hr,L,m,c,hm,e⟩|⟨h0,e⟩
 ·have d:=Ju h (G2 (Gt h0).1).1;obtain⟨k,r,_,h2,f⟩:=Zn hK d c hm (Gt h0).2 hs;have b:HQ t Cz=0:=by rw[Qt hr,h0]
  refine⟨r,?_,fun g=>absurd b g,fun _=>h2⟩;rw[bd e];rw[b];show(Fg K (wk t (L.map (BT t)) m) Cz).bind _=_;rw[bd f]
 ·have a:HQ t Cz≠0:=fun g=>h0 (Sr g);refine⟨⟨0,0⟩,?_,fun _=>rfl,fun g=>absurd g a⟩;have i:C3 K t (F9 t.Ab.length 0 Cz)=some (none,HQ t Cz):=e;rw[bd i];show cond (_ !=0) _ _=_;rw[ct (J1 a)]
theorem R0{t:AD}(h:IJ t=true){Cz:List Int}(hs:Cz.length≤900)(n:Int):∃b,HP K t Cz n=some b∧(HQ t Cz≠0→b=false)∧∀r,HQ t Cz=0→IS (B4 t) (IL t Cz) r→b=decide (n≤r.Lo):=by
 obtain⟨r,h1,h2,a⟩:=Tw hK h hs;unfold HP;rw[bd h1]
 by_cases h0:HQ t Cz=0
 ·refine⟨decide (n≤r.Lo),by rw[ct (Le h0)],fun g=>absurd h0 g,fun c _ hr=>by rw[hr.uniq (a h0)]⟩
 ·exact⟨false,by rw[cf (LI h0)],fun _=>rfl,fun _ g=>absurd g h0⟩
end
section
variable{K:Nat}(hK:1000≤K)
include hK
theorem Wz{T:List (List Int)}(k:T.length≤150)(f:List Int→Int)(c:∀l∈T,-1000000≤f l∧f l≤1000000)(F:Nat→Int→Int→Int→Option (Int×Int))
  (e:∀m (i:Nat) lo hi (h:i<T.length),F (m+1) (i:Int) lo hi=F m ((i+1:Nat):Int) (min lo (f T[i])) (max hi (f T[i])))(g:∀m lo hi,F (m+1) (T.length:Int) lo hi=some (lo,hi)):
  ∀(d m i:Nat) (lo hi:Int),T.length=i+d→d<m→(i=0∧lo=1099511627776∧hi=-1099511627776∨IS (T.take i) f ⟨lo,hi⟩)→∃b a,F m (i:Int) lo hi=some (b,a)∧(T≠[]→IS T f ⟨b,a⟩)
 |d,0,i,lo,hi,h,hm,_=>by omega
 |0,m+1,i,lo,hi,h,hm,hb=>by
  obtain rfl:i=T.length:=by omega
  refine⟨lo,hi,g ..,fun j=>?_⟩;rcases hb with⟨h0,_⟩|hb
  ·exact absurd (List.eq_nil_of_length_eq_zero h0) j
  ·rwa[List.take_length] at hb
 |d+1,m+1,i,lo,hi,h,hm,hb=>by
  have a:i<T.length:=by omega
  have n:=c _ (List.getElem_mem a);rw[e m i lo hi a];refine Wz k f c F e g d m (i+1) _ _ (by omega) (by omega) (.inr ?_);rw[List.take_succ_eq_append_getElem a];rcases hb with⟨h0,rfl,rfl⟩|hb
  ·subst h0;rw[Int.min_eq_right (by omega),Int.max_eq_right (by omega)];exact IS.one f _
  ·exact hb.snoc _
theorem Ve{t:AD}(a:OkT t){k:Nat}(hk:k<t.Ab.length):∃r,D0 K t (B4 t) (k:Int)=some r∧(B4 t≠[]→IS (B4 t) (fun l=>(Bz t l).getD k 0) r):=by
 have d:=L9 hK a;obtain⟨lo,hi,g1,g2⟩:=Wz hK d (fun l=>(Bz t l).getD k 0) (fun l _=>by have:=Tv a l k;exact⟨by omega,by omega⟩) (fun m i lo hi=>Dj K t (B4 t) (k:Int) m i lo hi)
  (fun m i lo hi h=>by
   show Dj K t (B4 t) (k:Int) (m+1) (i:Int) lo hi=_;have b:k<(Bz t (B4 t)[i]).length:=by rw[Gc];exact hk
   rw[Dj.eq_2,ct (dt (by omega)),Cp h,bd (PC hK a (ML hK a (List.getElem_mem h)) hk)];unfold Gn;rw[Option.bind_some,BS (by omega) (by omega),Dw i,Df _ b])
  (fun m lo hi=>by
   show Dj K t (B4 t) (k:Int) (m+1) ((B4 t).length:Int) lo hi=_;rw[Dj.eq_2,cf (df (by omega))]) (B4 t).length K 0 1099511627776 (-1099511627776) (by omega) (by omega) (.inl ⟨rfl,rfl,rfl⟩)
 refine⟨⟨lo,hi⟩,?_,g2⟩;unfold D0 Gp;rw[Int.natCast_zero] at g1;have c:Dj K t (B4 t) (k:Int) K 0 1099511627776 (-1099511627776)=some (lo,hi):=g1;rw[Option.bind_some,bd c]
theorem Zo{t:AD}(a:OkT t){l:List Int}(hl:GP t.Aj l=true){s:Nat}(hs:s<2^8):Hn K t l (s:Int)=some (IL t (CZ s) l):=by
 have r:=a.kl;have c:∀(d n i:Nat),t.Ab.length=i+d→d<n→Ec K t l (s:Int) n (If (Jb t (CZ s) l) i) (i:Int)=some (IL t (CZ s) l):=by
  intro d
  induction d with
  |zero=>
   intro n i o p;obtain⟨n,rfl⟩:∃g,n=g+1:=⟨n-1,by omega⟩;obtain rfl:i=t.Ab.length:=by omega
   rw[Ec.eq_2,cf (df (by omega))];rfl
  |succ d ih=>
   intro n i o p;obtain⟨n,rfl⟩:∃g,n=g+1:=⟨n-1,by omega⟩;have hi:i<t.Ab.length:=by omega
   have j:i<(Bz t l).length:=by rw[Gc];omega
   have b1:=MW (f:=Jb t (CZ s) l) (b:=9000) i fun k hk=>Pn a (CZ s) l k (by omega);have b2:=Pn a (CZ s) l i hi;have b3:=RZ a i hi;have:=ih n (i+1) (by omega) (by omega);rw[If] at this;have e:((((s/2^i:Nat):Int)%2)==1)=(CZ s).contains (i:Int):=by
    rw[Wv (by omega),←tb,Bool.eq_iff_iff,beq_iff_eq,beq_iff_eq];omega
   have q:(0:Int)≤((s/2^i:Nat):Int):=Int.natCast_nonneg _;rw[Ec.eq_2,ct (dt (by omega)),UO (by omega),Rx (by omega),NR,TQ q (by omega),e];cases m:(CZ s).contains (i:Int) with
   |true=>
    have h:Jb t (CZ s) l i=(Bz t l)[i]:=by unfold Jb;rw[if_pos m,Df _ j]
    rw[h] at this b2;rw[ct rfl,bd (PC hK a hl hi),BS (by omega) (by omega),BS (by omega) (by omega),Dw i,this]
   |false=>
    have h:Jb t (CZ s) l i=t.Flat*t.Ab[i].sum:=by unfold Jb;rw[if_neg (by rw[m];decide),Df _ hi,Int.mul_comm]
    rw[h] at this b2;rw[cf rfl,bd (Oz hK a hi),BS (by omega) (by omega),BS (by omega) (by omega),BS (by omega) (by omega),Dw i,this]
 have:=c t.Ab.length K 0 (by omega) (by omega);rw[Int.natCast_zero,If] at this;unfold Hn;rw[bd this]
theorem WA{t:AD}(a:OkT t){s:Nat}(hs:s<2^8):∃r,EU K t (B4 t) (s:Int)=some r∧(B4 t≠[]→IS (B4 t) (IL t (CZ s)) r):=by
 have c:=L9 hK a;obtain⟨lo,hi,g1,g2⟩:=Wz hK c (IL t (CZ s)) (fun l _=>by have:=AaK a (CZ s) l;omega) (fun m i lo hi=>Dr K t (B4 t) (s:Int) m i lo hi)
  (fun m i lo hi h=>by
   show Dr K t (B4 t) (s:Int) (m+1) (i:Int) lo hi=_;rw[Dr.eq_2,ct (dt (by omega)),Cp h,bd (Zo hK a (ML hK a (List.getElem_mem h)) hs)];unfold Gn;rw[Option.bind_some,BS (by omega) (by omega),Dw i])
  (fun m lo hi=>by
   show Dr K t (B4 t) (s:Int) (m+1) ((B4 t).length:Int) lo hi=_;rw[Dr.eq_2,cf (df (by omega))]) (B4 t).length K 0 1099511627776 (-1099511627776) (by omega) (by omega) (.inl ⟨rfl,rfl,rfl⟩)
 refine⟨⟨lo,hi⟩,?_,g2⟩;unfold EU Gp;rw[Int.natCast_zero] at g1;have b:Dr K t (B4 t) (s:Int) K 0 1099511627776 (-1099511627776)=some (lo,hi):=g1;rw[Option.bind_some,bd b]
end
theorem lz1{α β a:Type}{z:β}{x y:a}:cond (((([]:List α),z).1.length:Int) !=0) x y=y:=rfl
theorem el{l l':List Int}(h:l=l'):(l==l')=true:=by subst h;simp
theorem bb(b:Bool):(b==b)=true:=by cases b<;>rfl
section
variable{K:Nat}(hK:1000≤K)
include hK
theorem AaM(r:AL):Dv K r=some r:=by unfold Dv;cases r;rfl
end
end Go.Proofs.YtbhofkcbfblijaaGreat
end
section
namespace Go.Proofs.YtbhofkcbfblijaaGreat
namespace HF
theorem Tx:Ba Tryz.prog 119:=by unfold Ba;kernel_rfl
theorem Ty:Ba Tryz.prog 120:=by unfold Ba;kernel_rfl
theorem AaN:Ba Tryz.prog 55:=by unfold Ba;kernel_rfl
theorem R1:Ba Tryz.prog 68:=by unfold Ba;kernel_rfl
theorem AaO:Ba Tryz.prog 64:=by unfold Ba;kernel_rfl
theorem Pp:Ba Tryz.prog 67:=by unfold Ba;kernel_rfl
end HF
end Go.Proofs.YtbhofkcbfblijaaGreat
end
section
namespace Go.Proofs.YtbhofkcbfblijaaGreat
open Go.RowKit Go.WideShapes
set_option maxRecDepth 20000
open HF
attribute [local irreducible] Cg WL CC CW LV BN Hb EX One Ba
theorem a64 a3 q aL aM c d e f g h i j k m o p s t(Z:Nat→Prop) w(aO:Sl Ax w Z c d q.Aj)(aP:Sl (Bx (Al .i64)) w Z e f q.Ab)(aQ:Sl AF w Z g h q.Aq)(aR:Sl AT w Z i j q.AB)(aS:Sl AW w Z k m q.AE)(aT:Sl Bj w Z o p q.AK)(aU:Sl (Al .i64) w Z s t aL) a4(r:HP a3 q aL aM=some a4):
 BN Tryz.prog 64 #[.agg (Ar c d e f g h i j k m o p q).toArray,.slice s aL.length t,I aM] w (fun v w'=>Ext w w'∧BE.R w' (zf Z w []) v a4):=by
 unfold HP at r;refine rq (N:=23) Tryz.func64 fun bB ha bC=>?_;have aZ:=sA 0 ha;have a0:=sA 1 ha;have a2:=sA 2 ha;clear ha;have aV:Hp FN [] w [] w:=Hp.start (Bw.none w);have ⟨x,y,z,aA,aB,aC,aD⟩:=FF aO aP aQ aR aS aT aU (Bu (Z:=Z) (L:=[]) w);refine cr<|wE (fun st=>BL (v:=.agg (Ar c d e f g h i j k m o p q).toArray) (cs:=(Ar c d e f g h i j k m o p q).toArray) (ee st aZ) rfl) ?_;rintro _ w1 ⟨b1,rfl,u⟩;have a5:=aV.nb u;have a9:=aV.BH u;refine wA (v:=.bool false) rfl<|wr<|wD (fun st=>AO (l:=(Ar c d e f g h i j k m o p q)) Eg (eR st) u.bk rfl rfl)<|wM (v:=.slice s aL.length t) a0 ?_;have ⟨aE,aF,aG,aH,aI,aJ,aK⟩:=FF x y z aA aB aC aD (Ay u);replace r:=bind_some r;obtain⟨b,a6,r⟩:=r;refine wE (fun st=>Ak RN (eR st) (Ci (eR st) (eR st)) (a50 a3 q aL c d e f g h i j k m o p s t ZA _ aE.all aF.all aG.all aH.all aI.all aJ.all aK.all b a6)) ?_;rintro _ bD ⟨a7,⟨_,_,rfl,⟨_,rfl,rfl⟩,rfl⟩⟩;have aW:=a5.ext a7;refine wM (v:=.tuple #[.agg #[I b.1.Lo,I b.1.Hi],I b.2]) rfl<|wD (fun st=>Bs (v:=.agg #[I b.1.Lo,I b.1.Hi]) (eR st) rfl)<|wD (fun st=>Bs (v:=I b.2) (eR st) rfl)<|wE (fun st=>BZ (cs:= #[I 0,I 0]) Jx rfl) ?_;rintro _ bE ⟨bF,rfl,aN⟩;have a8:=aW.nb aN;have bA:=aW.BH aN;refine BD rfl rfl (fun st=>Bt (n:=2) (l:=[I b.1.Lo,I b.1.Hi]) (Cm:= #[I b.1.Lo,I b.1.Hi]) (eR st) (eR st) GO aN.bk rfl rfl (show 0+2≤2 by decide) (AY rfl) rfl) ?_;rintro _ bG aX;have aY:=a8.gr aX.gr 0 rfl;refine wA (v:=I b.2) rfl<|wr<|wM (v:=I b.2) rfl<|wD (fun st=>Dt (eR st) (eR st))<|wM (v:=.bool (b.2==0)) rfl ?_;rcases Ae (b.2==0) with a|a
 ·replace r:=Am r a;refine wG a (fun st=>Ad (eR st) (Ls _ _))<|wG a (fun st=>Ag (v:=I b.1.Lo) Bq (eR st) aX.bk rfl)<|wN a (v:=I aM) a2<|wG a (fun st=>HT (eR st) (eR st))<|wD (fun st=>AR (v:=.bool (decide (aM≤b.1.Lo))) (eR st) a (eR st))<|wA (v:=.bool (decide (aM≤b.1.Lo))) rfl<|wn<|Ap ?_;obtain rfl:=oi r;refine Au rfl rfl ?_;exact⟨aY.AZ,rfl⟩
 ·replace r:=An r a;refine wF a<|wF a<|wF a<|wF a<|wD (fun st=>Bg (v:=.bool false) (eR st) a (eR st))<|wA (v:=.bool false) rfl<|wn<|Ap ?_;obtain rfl:=oi r;refine Au rfl rfl ?_;exact⟨aY.AZ,rfl⟩
theorem AaP s a b(Z:Nat→Prop) w k(m:Gn s a b=some k):
 BN Tryz.prog 120 #[.agg #[I a.Lo,I a.Hi],I b] w (fun v w'=>Ext w w'∧(DB Ax).R w' (zf Z w []) v k):=by
 unfold Gn at m;refine rq (N:=14) Tryz.func120 fun t ha u=>?_;have j:=sA 0 ha;have e:=sA 1 ha;clear ha;have g:Hp FN [] w [] w:=Hp.start (Bw.none w);refine cr<|wE (fun st=>BL (v:=.agg #[I a.Lo,I a.Hi]) (cs:= #[I a.Lo,I a.Hi]) (ee st j) rfl) ?_;rintro _ w1 ⟨b1,rfl,f⟩;have h:=g.nb f;have q:=g.BH f;refine wE (fun st=>BZ (cs:= #[I 0,I 0]) I6 rfl) ?_;rintro _ w2 ⟨b2,rfl,c⟩;have o:=h.nb c;have r:=h.BH c;refine wr<|wD (fun st=>Ad (eR st) (I5 _ _)) ?_;have d:=(f.bk.ext c.gr);refine wD (fun st=>Ag (v:=I a.Lo) Bq (eR st) d rfl)<|wM (v:=I b) e<|wD (fun st=>TF (eR st) (eR st))<|wD (fun st=>Ad (eR st) (KO _ _))<|wD (fun st=>Ag (v:=I a.Hi) Bq (eR st) d rfl)<|wM (v:=I b) e<|wD (fun st=>WQ (eR st) (eR st))<|wD (fun st=>Dz (vs:= #[(0,I (min a.Lo b)),(1,I (max a.Hi b))]) (v:=.agg #[I (min a.Lo b),I (max a.Hi b)]) (Hv (eR st) (eR st)) (by kernel_rfl))<|BD rfl rfl (fun st=>Bt (n:=2) (l:=[I (min a.Lo b),I (max a.Hi b)]) (Cm:= #[I (min a.Lo b),I (max a.Hi b)]) (eR st) (eR st) Ie c.bk rfl rfl (show 0+2≤2 by decide) (AY rfl) rfl) ?_;rintro _ x i;have p:=o.gr i.gr 0 rfl;refine wn<|Ap ?_;obtain rfl:=oi m;refine FD (v:=.agg #[I (min a.Lo b),I (max a.Hi b)]) rfl rfl (C4 FW i.bk rfl rfl) ?_;exact⟨p.AZ,⟨_,rfl,rfl⟩⟩
theorem a119 i(Z:Nat→Prop) w d(e:Gp i=some d):
 BN Tryz.prog 119 #[] w (fun v w'=>Ext w w'∧(DB Ax).R w' (zf Z w []) v d):=by
 unfold Gp at e;refine rq (N:=2) Tryz.func119 fun j ha k=>?_;clear ha;have b:Hp FN [] w [] w:=Hp.start (Bw.none w);refine cr<|wE (fun st=>BZ (cs:= #[I 0,I 0]) I6 rfl) ?_;rintro _ w1 ⟨b1,rfl,a⟩;have f:=b.nb a;have h:=b.BH a;refine wr<|wD (fun st=>Dz (vs:= #[(0,I 1099511627776),(1,I (-1099511627776))]) (v:=.agg #[I 1099511627776,I (-1099511627776)]) (Hv (eR st) (eR st)) (by kernel_rfl))<|BD rfl rfl (fun st=>Bt (n:=2) (l:=[I 1099511627776,I (-1099511627776)]) (Cm:= #[I 1099511627776,I (-1099511627776)]) (eR st) (eR st) Ie a.bk rfl rfl (show 0+2≤2 by decide) (AY rfl) rfl) ?_;rintro _ w2 c;have g:=f.gr c.gr 0 rfl;refine wn<|Ap ?_;obtain rfl:=oi e;refine FD (v:=.agg #[I 1099511627776,I (-1099511627776)]) rfl rfl (C4 FW c.bk rfl rfl) ?_;exact⟨g.AZ,⟨_,rfl,rfl⟩⟩
theorem Xb bD b aQ bE e f g i j m o p q r s t z aA(Z:Nat→Prop) w(cA:Sl Ax w Z e f b.Aj)(cB:Sl (Bx (Al .i64)) w Z g i b.Ab)(cC:Sl AF w Z j m b.Aq)(cD:Sl AT w Z o p b.AB)(cE:Sl AW w Z q r b.AE)(cF:Sl Bj w Z s t b.AK)(cG:Sl (Bx (Al .i64)) w Z z aA aQ) c7(a:D0 bD b aQ bE=some c7):
 BN Tryz.prog 67 #[.agg (Ar e f g i j m o p q r s t b).toArray,.slice z aQ.length aA,I bE] w (fun v w'=>Ext w w'∧(DB Ax).R w' (zf Z w []) v c7):=by
 unfold D0 at a;refine rq (N:=26) Tryz.func67 fun dO ha dP=>?_;have cS:=sA 0 ha;have cT:=sA 1 ha;have cU:=sA 2 ha;clear ha;have cN:Hp FN [] w [] w:=Hp.start (Bw.none w);have ⟨bF,bG,bH,bI,bJ,bK,bL⟩:=FF cA cB cC cD cE cF cG (Bu (Z:=Z) (L:=[]) w);refine cr<|wE (fun st=>BL (v:=.agg (Ar e f g i j m o p q r s t b).toArray) (cs:=(Ar e f g i j m o p q r s t b).toArray) (ee st cS) rfl) ?_;rintro _ w1 ⟨b1,rfl,a4⟩;have cO:=cN.nb a4;have dK:=cN.BH a4;refine wE (fun st=>BZ (cs:= #[I 0,I 0]) I6 rfl) ?_;rintro _ w2 ⟨b2,rfl,aT⟩;have c8:=cO.nb aT;have dL:=cO.BH aT;refine wn<|Af<|Ai ?_;replace a:=bind_some a;obtain⟨a0,c9,a⟩:=a;refine wE (fun st=>Ak Tx (eR st) F6 (a119 bD ZA _ a0 c9)) ?_;rintro _ dW ⟨a5,⟨_,rfl,rfl⟩⟩;have cP:=c8.ext a5;refine wE (fun st=>BZ (cs:= #[I 0,I 0]) I6 rfl) ?_;rintro _ dX ⟨a2,rfl,aO⟩;have a6:=cP.nb aO;have dM:=cP.BH aO;refine BD rfl rfl (fun st=>Bt (n:=2) (l:=[I a0.Lo,I a0.Hi]) (Cm:= #[I a0.Lo,I a0.Hi]) (eR st) (eR st) Ie aO.bk rfl rfl (show 0+2≤2 by decide) (AY rfl) rfl) ?_;rintro _ dY aU;have dA:=a6.gr aU.gr 0 rfl;refine wn<|Af<|cr<|wA (v:=I 0) rfl<|wn<|AI ?_;replace a:=bind_some a;obtain⟨aC,aP,a⟩:=a;refine BQ (fun dB x y=>(dB=.exit 0∧Fo X0 26 x∧sl x 6=pt b2 0∧sl x 7=pt a2 0∧Hp FN [] w [some a2,some b2,some b1] y∧Bk y b2 44 #[I 0,I 0]∧Bk y a2 44 #[I aC.1,I aC.2])) ?dC ?dD
 case dC=>
  clear a;refine BP (fun cV x y=>∃u,∃c,∃d,Dj bD b aQ bE cV u c d=some aC∧Fo X0 26 x∧sl x 1=.slice z aQ.length aA∧sl x 2=I bE∧sl x 3=pt b1 0∧sl x 6=pt b2 0∧sl x 7=pt a2 0∧sl x 8=I u∧Hp FN [] w [some a2,some b2,some b1] y∧Bk y b1 67 (Ar e f g i j m o p q r s t b).toArray∧Bk y b2 44 #[I 0,I 0]∧Bk y a2 44 #[I c,I d]∧(fun a3=>Sl Ax y a3 e f b.Aj∧Sl (Bx (Al .i64)) y a3 g i b.Ab∧Sl AF y a3 j m b.Aq∧Sl AT y a3 o p b.AB∧Sl AW y a3 q r b.AE∧Sl Bj y a3 s t b.AK∧Sl (Bx (Al .i64)) y a3 z aA aQ) (zf Z w [some a2,some b2,some b1])) bD ?dE ?dF
  case dE=>
   intro st;have cH:=((((a4.bk.ext aT.gr).ext a5).ext aO.gr).gr aU.gr (a6.nq 2 0));have cI:=(((aT.bk.ext a5).ext aO.gr).gr aU.gr (a6.nq 1 0));have ⟨bM,bN,bO,bP,bQ,bR,bS⟩:=FF bF bG bH bI bJ bK bL (mt (Ay a4) (mt (Ay aT) (mt (Ac a5) (mt (Ay aO) (a6.By aU.gr 0 rfl)))));exact⟨(0:Int),a0.Lo,a0.Hi,aP,qo st,sp st 1 cT,sp st 2 cU,sp st 3 rfl,sp st 6 rfl,sp st 7 rfl,sp st 8 rfl,dA,cH,cI,aU.bk,bM,bN,bO,bP,bQ,bR,bS⟩
  case dF=>
   rintro(_|cV) dQ dR ⟨u,c,d,aP,cW,aR,a7,a8,a9,aB,aS,cQ,aV,aW,aD,aE,aF,aG,aH,aI,aJ,aK⟩
   ·exact absurd (show none=some _ from aP) (by simp)
   rw[Dj.eq_2] at aP;have a:=aP;clear aP;refine ro cW<|Af<|cr<|wM (v:=I u) aS<|wM (v:=.slice z aQ.length aA) aR<|wD (fun st=>Bn Tryz.underlying23 (eR st))<|wD (fun st=>B8 (eR st) (eR st))<|wn ?_;rcases Ae (decide (u<(aQ.length:Int))) with aX|aX
   ·replace a:=Am a aX;refine Ah rfl aX<|cn<|Af<|AI ?_;replace a:=Bi a;obtain⟨i10,cR,cX,cY,cZ,a⟩:=a;obtain⟨dG,dH,_,c0,⟨bA,bB,rfl,b4⟩,c1⟩:=Sl.CR aK rfl cY;replace a:=bind_some a;obtain⟨b5,c2,a⟩:=a;refine BW 8 [Kc (.agg #[I c,I d]),Kc (.agg (Ar e f g i j m o p q r s t b).toArray),Kc (.slice z aQ.length aA),Kc (I u),Kc (pt dG (dH+i10)),Kc (.slice bA cR.length bB),Kc (I bE),Kc (I b5)] mixed rfl rfl
        (Aa (oD (fun K=>AO (l:=[I c,I d]) FW (es ((K.out 7 rfl).trans aB)) (aD.ext K.AV) rfl rfl))
        (Aa (oD (fun K=>AO (l:=(Ar e f g i j m o p q r s t b)) DL (es ((K.out 3 rfl).trans a8)) (aV.ext K.AV) rfl rfl))
        (Aa (oD (fun K=>AA (es ((K.out 1 rfl).trans aR))))
        (Aa (oD (fun K=>AA (es ((K.out 8 rfl).trans aS))))
        (Aa (oD (fun K=>BA (k:=i10) Tryz.underlying23 E8 (es (K.dq 2 18)) c0 (es (K.dq 3 19)) cX cZ))
        (Aa (oD (fun K=>BF CU (es (K.dq 4 20)) (c1.mv (Ac K.AV)) rfl))
        (Aa (oD (fun K=>AA (es ((K.out 2 rfl).trans a7))))
        (Aa (oE (fun K=>(Ak RT rfl (DX (es (K.dq 1 17)) (es (K.dq 5 21)) (es (K.dq 6 22))) (a54 bD b cR bE e f g i j m o p q r s t bA bB ZA _ (aE.mv (Ac K.AV)).all (aF.mv (Ac K.AV)).all (aG.mv (Ac K.AV)).all (aH.mv (Ac K.AV)).all (aI.mv (Ac K.AV)).all (aJ.mv (Ac K.AV)).all (b4.mv (Ac K.AV)).all b5 c2)).mono (fun _ _ h=>⟨h.2,h.1⟩)))
        (BR _))))))))) ?_
    intro dZ;rintro _ rfl _ rfl _ rfl _ rfl _ rfl _ rfl _ rfl _ rfl aY;have dI:=cQ.ext aY;replace a:=bind_some a;obtain⟨aL,c3,a⟩:=a;refine wE (fun st=>Ak Ty (eR st) (Ci (eR st) (eR st)) (AaP bD (⟨c,d⟩:AL) b5 ZA _ aL c3)) ?_;rintro _ dS ⟨aM,⟨_,rfl,rfl⟩⟩;have bC:=dI.ext aM;have cJ:=((aD.ext aY).ext aM);refine BD rfl rfl (fun st=>Bt (n:=2) (l:=[I aL.Lo,I aL.Hi]) (Cm:= #[I aL.Lo,I aL.Hi]) (ee st aB) (eR st) Ie cJ rfl rfl (show 0+2≤2 by decide) (AY rfl) rfl) ?_;rintro _ dT aN;have dJ:=bC.gr aN.gr 0 rfl;refine Bc<|CG<|Ai<|wM (v:=I u) aS ?_;replace a:=AJ a;obtain⟨c4,a⟩:=a;refine wD (fun st=>BK (eR st) (eR st) c4)<|wA (v:=I (u+1)) rfl<|Bc ?_;have cK:=(((aV.ext aY).ext aM).gr aN.gr (bC.nq 2 0));have cL:=(((aW.ext aY).ext aM).gr aN.gr (bC.nq 1 0));have ⟨bT,bU,bV,bW,bX,bY,bZ⟩:=FF aE aF aG aH aI aJ aK (mt (Ac aY) (mt (Ac aM) (bC.By aN.gr 0 rfl)));refine Br cV (Nat.lt_succ_self _) (fun st=>?_);exact⟨(u+1),aL.Lo,aL.Hi,a,qo st,sp st 1 aR,sp st 2 a7,sp st 3 a8,sp st 6 a9,sp st 7 aB,sp st 8 rfl,dJ,cK,cL,aN.bk,bT,bU,bV,bW,bX,bY,bZ⟩
   ·replace a:=An a aX;refine Ao rfl aX<|DA ?_;obtain rfl:=oi a;refine BG (fun st=>?_);exact⟨rfl,qo st,sp st 6 a9,sp st 7 aB,cQ,aW,aD⟩
 case dD=>
  rintro dB dN dU (⟨rfl,cM,aZ,b6,c5,b7,b8⟩);refine lf cM<|Be<|BM<|cr<|wD (fun st=>AO (l:=[I aC.1,I aC.2]) FW (ee st b6) b8 rfl rfl)<|BD rfl rfl (fun st=>Bt (n:=2) (l:=[I aC.1,I aC.2]) (Cm:= #[I aC.1,I aC.2]) (ee st aZ) (eR st) Ie b7 rfl rfl (show 0+2≤2 by decide) (AY rfl) rfl) ?_;rintro _ dV b9;have c6:=c5.gr b9.gr 1 rfl;refine wn<|Ap ?_;obtain rfl:=oi a;refine FD (v:=.agg #[I aC.1,I aC.2]) rfl aZ (C4 FW b9.bk rfl rfl) ?_;exact⟨c6.AZ,⟨_,rfl,rfl⟩⟩
theorem a55 bP c aO aV f g d e i j m n o p q r aH aI(Z:Nat→Prop) w(bT:Sl Ax w Z f g c.Aj)(bU:Sl (Bx (Al .i64)) w Z d e c.Ab)(bV:Sl AF w Z i j c.Aq)(bW:Sl AT w Z m n c.AB)(bX:Sl AW w Z o p c.AE)(bY:Sl Bj w Z q r c.AK)(bZ:Sl (Al .i64) w Z aH aI aO) cM(a:Hn bP c aO aV=some cM):
 BN Tryz.prog 55 #[.agg (Ar f g d e i j m n o p q r c).toArray,.slice aH aO.length aI,I aV] w (fun v w'=>Ext w w'∧(Dk .i64).R w' (zf Z w []) v cM):=by
 unfold Hn at a;refine rq (N:=38) Tryz.func55 fun c0 ha c1=>?_;have cA:=sA 0 ha;have cB:=sA 1 ha;have cC:=sA 2 ha;clear ha;have b8:Hp FN [] w [] w:=Hp.start (Bw.none w);have ⟨aW,aX,aY,aZ,a0,a2,a3⟩:=FF bT bU bV bW bX bY bZ (Bu (Z:=Z) (L:=[]) w);refine cr<|wE (fun st=>BL (v:=.agg (Ar f g d e i j m n o p q r c).toArray) (cs:=(Ar f g d e i j m n o p q r c).toArray) (ee st cA) rfl) ?_;rintro _ w1 ⟨b1,rfl,aU⟩;have cN:=b8.nb aU;have cY:=b8.BH aU;refine wA (v:=I 0) rfl<|wr<|wA (v:=I 0) rfl<|wn<|Af<|cr<|wA (v:=I 0) rfl<|wn<|AI ?_;replace a:=bind_some a;obtain⟨z2,aK,a⟩:=a;refine BQ (fun cO aG aJ=>(cO=.exit 0∧Fo X0 38 aG∧sl aG 7=I z2∧Hp FN [] w [some b1] aJ)) ?cP ?cQ
 case cP=>
  clear a;refine BP (fun b4 aG aJ=>∃u,∃b,Ec bP c aO aV b4 u b=some z2∧Fo X0 38 aG∧sl aG 1=.slice aH aO.length aI∧sl aG 2=I aV∧sl aG 3=pt b1 0∧sl aG 7=I u∧sl aG 8=I b∧Hp FN [] w [some b1] aJ∧Bk aJ b1 67 (Ar f g d e i j m n o p q r c).toArray∧(fun aS=>Sl Ax aJ aS f g c.Aj∧Sl (Bx (Al .i64)) aJ aS d e c.Ab∧Sl AF aJ aS i j c.Aq∧Sl AT aJ aS m n c.AB∧Sl AW aJ aS o p c.AE∧Sl Bj aJ aS q r c.AK∧Sl (Al .i64) aJ aS aH aI aO) (zf Z w [some b1])) bP ?cR ?cS
  case cR=>
   intro st;have ⟨a4,a5,a6,a7,a8,a9,bA⟩:=FF aW aX aY aZ a0 a2 a3 (Ay aU);exact⟨(0:Int),(0:Int),aK,qo st,sp st 1 cB,sp st 2 cC,sp st 3 rfl,sp st 7 rfl,sp st 8 rfl,cN,aU.bk,a4,a5,a6,a7,a8,a9,bA⟩
  case cS=>
   rintro(_|b4) c2 c3 ⟨u,b,aK,cD,aL,aM,aD,aN,aE,bQ,s,x,y,z,aA,aB,aC,aF⟩
   ·exact absurd (show none=some _ from aK) (by simp)
   rw[Ec.eq_2] at aK;have a:=aK;clear aK;refine ro cD<|Af<|cr<|wM (v:=I b) aE<|wD (fun st=>Ad (ee st aD) (GJ _ _))<|wD (fun st=>Ad (eR st) (EO _ _))<|wD (fun st=>Ag (v:=.slice d c.Ab.length e) DK (eR st) s rfl)<|wD (fun st=>Bn Tryz.underlying23 (eR st))<|wD (fun st=>B8 (eR st) (eR st))<|wn ?_;rcases Ae (decide (b<(c.Ab.length:Int))) with aP|aP
   ·replace a:=Am a aP;refine Ah rfl aP<|cn<|Af<|AI<|cr<|wM (v:=I aV) aM<|wM (v:=I b) aE ?_;replace a:=Je a;obtain⟨cT,a⟩:=a;refine wD (fun st=>Kp (k:=.u64) MU Tryz.underlying91 (eR st) cT) ?_;replace a:=LX a;obtain⟨cU,a⟩:=a;refine wD (fun st=>QE (eR st) (eR st) cU) ?_;replace a:=MA a;obtain⟨b9,a⟩:=a;refine wD (fun st=>QB (eR st) (eR st) b9.1 b9.2)<|wD (fun st=>Dt (eR st) (eR st))<|wn ?_;rcases Ae (((J0 aV b)%2)==1) with aQ|aQ
    ·replace a:=Am a aQ;refine Ah rfl aQ<|Ai<|wM (v:=I u) aN<|wD (fun st=>AO (l:=(Ar f g d e i j m n o p q r c)) DL (ee st aD) s rfl rfl)<|wM (v:=.slice aH aO.length aI) aL<|wM (v:=I b) aE ?_;replace a:=bind_some a;obtain⟨cE,cV,a⟩:=a;refine wE (fun st=>Ak RT (eR st) (DX (eR st) (eR st) (eR st)) (a54 bP c aO b f g d e i j m n o p q r aH aI ZA _ x.all y.all z.all aA.all aB.all aC.all aF.all cE cV)) ?_;rintro _ c6 ⟨bR,rfl⟩;have cW:=bQ.ext bR;replace a:=AJ a;obtain⟨cF,a⟩:=a;refine wD (fun st=>BK (eR st) (eR st) cF)<|wA (v:=I (u+cE)) rfl<|Bc<|CG<|Ai<|wM (v:=I b) aE ?_;replace a:=AJ a;obtain⟨cG,a⟩:=a;refine wD (fun st=>BK (eR st) (eR st) cG)<|wA (v:=I (b+1)) rfl<|Bc ?_;have b5:=(s.ext bR);have ⟨bB,bC,bD,bE,bF,bG,bH⟩:=FF x y z aA aB aC aF (Ac bR);refine Br b4 (Nat.lt_succ_self _) (fun st=>?_);exact⟨(u+cE),(b+1),a,qo st,sp st 1 aL,sp st 2 aM,sp st 3 aD,sp st 7 rfl,sp st 8 rfl,cW,b5,bB,bC,bD,bE,bF,bG,bH⟩
    ·replace a:=An a aQ;refine Ao rfl aQ ?_;replace a:=bind_some a;obtain⟨aR,cH,a⟩:=a;replace a:=AJ a;obtain⟨cI,a⟩:=a;refine BW 7 [Kc (I u),Kc (pt b1 3),Kc (I c.Flat),Kc (.agg (Ar f g d e i j m n o p q r c).toArray),Kc (I b),Kc (I aR),Kc (I (c.Flat*aR))] mixed rfl rfl
         (Aa (oD (fun K=>AA (es (t:=7) ((K.later 8 7 _ rfl rfl rfl).trans aN))))
         (Aa (oD (fun K=>Ad (es ((K.out 3 rfl).trans aD)) (PZ _ _)))
         (Aa (oD (fun K=>Ag Bq (es (K.dq 1 30)) (s.ext K.AV) rfl))
         (Aa (oD (fun K=>AO (l:=(Ar f g d e i j m n o p q r c)) DL (es ((K.out 3 rfl).trans aD)) (s.ext K.AV) rfl rfl))
         (Aa (oD (fun K=>AA (es ((K.out 8 rfl).trans aE))))
         (Aa (oE (fun K=>(Ak RS rfl (Ci (es (K.dq 3 32)) (es (K.dq 4 33))) (a56 bP c b f g d e i j m n o p q r ZA _ (x.mv (Ac K.AV)).all (y.mv (Ac K.AV)).all (z.mv (Ac K.AV)).all (aA.mv (Ac K.AV)).all (aB.mv (Ac K.AV)).all (aC.mv (Ac K.AV)).all aR cH)).mono (fun _ _ h=>⟨h.2,h.1⟩)))
         (Aa (oD (fun K=>LU (es (K.dq 2 31)) (es (K.dq 5 34)) cI))
         (BR _)))))))) ?_
     intro c4;rintro _ rfl _ rfl _ rfl _ rfl _ rfl _ rfl _ rfl aT;have cX:=bQ.ext aT;replace a:=AJ a;obtain⟨cJ,a⟩:=a;refine wD (fun st=>BK (eR st) (eR st) cJ)<|wA (v:=I (u+(c.Flat*aR))) rfl<|Bc<|CG<|Ai<|wM (v:=I b) aE ?_;replace a:=AJ a;obtain⟨cK,a⟩:=a;refine wD (fun st=>BK (eR st) (eR st) cK)<|wA (v:=I (b+1)) rfl<|Bc ?_;have b6:=(s.ext aT);have ⟨bI,bJ,bK,bL,bM,bN,bO⟩:=FF x y z aA aB aC aF (Ac aT);refine Br b4 (Nat.lt_succ_self _) (fun st=>?_);exact⟨(u+(c.Flat*aR)),(b+1),a,qo st,sp st 1 aL,sp st 2 aM,sp st 3 aD,sp st 7 rfl,sp st 8 rfl,cX,b6,bI,bJ,bK,bL,bM,bN,bO⟩
   ·replace a:=An a aP;refine Ao rfl aP<|DA ?_;obtain rfl:=oi a;refine BG (fun st=>?_);exact⟨rfl,qo st,sp st 7 aN,bQ⟩
 case cQ=>
  rintro cO cZ c5 (⟨rfl,b7,bS,cL⟩);refine lf b7<|Be<|BM<|cr<|wM (v:=I z2) bS<|wA (v:=I z2) rfl<|wn<|Ap ?_;obtain rfl:=oi a;refine Au rfl rfl ?_;exact⟨cL.AZ,rfl⟩
theorem a68 bD b aQ bE e f g i j m o p q r s t z aA(Z:Nat→Prop) w(cA:Sl Ax w Z e f b.Aj)(cB:Sl (Bx (Al .i64)) w Z g i b.Ab)(cC:Sl AF w Z j m b.Aq)(cD:Sl AT w Z o p b.AB)(cE:Sl AW w Z q r b.AE)(cF:Sl Bj w Z s t b.AK)(cG:Sl (Bx (Al .i64)) w Z z aA aQ) c7(a:EU bD b aQ bE=some c7):
 BN Tryz.prog 68 #[.agg (Ar e f g i j m o p q r s t b).toArray,.slice z aQ.length aA,I bE] w (fun v w'=>Ext w w'∧(DB Ax).R w' (zf Z w []) v c7):=by
 unfold EU at a;refine rq (N:=26) Tryz.func68 fun dO ha dP=>?_;have cS:=sA 0 ha;have cT:=sA 1 ha;have cU:=sA 2 ha;clear ha;have cN:Hp FN [] w [] w:=Hp.start (Bw.none w);have ⟨bF,bG,bH,bI,bJ,bK,bL⟩:=FF cA cB cC cD cE cF cG (Bu (Z:=Z) (L:=[]) w);refine cr<|wE (fun st=>BL (v:=.agg (Ar e f g i j m o p q r s t b).toArray) (cs:=(Ar e f g i j m o p q r s t b).toArray) (ee st cS) rfl) ?_;rintro _ w1 ⟨b1,rfl,a4⟩;have cO:=cN.nb a4;have dK:=cN.BH a4;refine wE (fun st=>BZ (cs:= #[I 0,I 0]) I6 rfl) ?_;rintro _ w2 ⟨b2,rfl,aT⟩;have c8:=cO.nb aT;have dL:=cO.BH aT;refine wn<|Af<|Ai ?_;replace a:=bind_some a;obtain⟨a0,c9,a⟩:=a;refine wE (fun st=>Ak Tx (eR st) F6 (a119 bD ZA _ a0 c9)) ?_;rintro _ dW ⟨a5,⟨_,rfl,rfl⟩⟩;have cP:=c8.ext a5;refine wE (fun st=>BZ (cs:= #[I 0,I 0]) I6 rfl) ?_;rintro _ dX ⟨a2,rfl,aO⟩;have a6:=cP.nb aO;have dM:=cP.BH aO;refine BD rfl rfl (fun st=>Bt (n:=2) (l:=[I a0.Lo,I a0.Hi]) (Cm:= #[I a0.Lo,I a0.Hi]) (eR st) (eR st) Ie aO.bk rfl rfl (show 0+2≤2 by decide) (AY rfl) rfl) ?_;rintro _ dY aU;have dA:=a6.gr aU.gr 0 rfl;refine wn<|Af<|cr<|wA (v:=I 0) rfl<|wn<|AI ?_;replace a:=bind_some a;obtain⟨aC,aP,a⟩:=a;refine BQ (fun dB x y=>(dB=.exit 0∧Fo X0 26 x∧sl x 6=pt b2 0∧sl x 7=pt a2 0∧Hp FN [] w [some a2,some b2,some b1] y∧Bk y b2 44 #[I 0,I 0]∧Bk y a2 44 #[I aC.1,I aC.2])) ?dC ?dD
 case dC=>
  clear a;refine BP (fun cV x y=>∃u,∃c,∃d,Dr bD b aQ bE cV u c d=some aC∧Fo X0 26 x∧sl x 1=.slice z aQ.length aA∧sl x 2=I bE∧sl x 3=pt b1 0∧sl x 6=pt b2 0∧sl x 7=pt a2 0∧sl x 8=I u∧Hp FN [] w [some a2,some b2,some b1] y∧Bk y b1 67 (Ar e f g i j m o p q r s t b).toArray∧Bk y b2 44 #[I 0,I 0]∧Bk y a2 44 #[I c,I d]∧(fun a3=>Sl Ax y a3 e f b.Aj∧Sl (Bx (Al .i64)) y a3 g i b.Ab∧Sl AF y a3 j m b.Aq∧Sl AT y a3 o p b.AB∧Sl AW y a3 q r b.AE∧Sl Bj y a3 s t b.AK∧Sl (Bx (Al .i64)) y a3 z aA aQ) (zf Z w [some a2,some b2,some b1])) bD ?dE ?dF
  case dE=>
   intro st;have cH:=((((a4.bk.ext aT.gr).ext a5).ext aO.gr).gr aU.gr (a6.nq 2 0));have cI:=(((aT.bk.ext a5).ext aO.gr).gr aU.gr (a6.nq 1 0));have ⟨bM,bN,bO,bP,bQ,bR,bS⟩:=FF bF bG bH bI bJ bK bL (mt (Ay a4) (mt (Ay aT) (mt (Ac a5) (mt (Ay aO) (a6.By aU.gr 0 rfl)))));exact⟨(0:Int),a0.Lo,a0.Hi,aP,qo st,sp st 1 cT,sp st 2 cU,sp st 3 rfl,sp st 6 rfl,sp st 7 rfl,sp st 8 rfl,dA,cH,cI,aU.bk,bM,bN,bO,bP,bQ,bR,bS⟩
  case dF=>
   rintro(_|cV) dQ dR ⟨u,c,d,aP,cW,aR,a7,a8,a9,aB,aS,cQ,aV,aW,aD,aE,aF,aG,aH,aI,aJ,aK⟩
   ·exact absurd (show none=some _ from aP) (by simp)
   rw[Dr.eq_2] at aP;have a:=aP;clear aP;refine ro cW<|Af<|cr<|wM (v:=I u) aS<|wM (v:=.slice z aQ.length aA) aR<|wD (fun st=>Bn Tryz.underlying23 (eR st))<|wD (fun st=>B8 (eR st) (eR st))<|wn ?_;rcases Ae (decide (u<(aQ.length:Int))) with aX|aX
   ·replace a:=Am a aX;refine Ah rfl aX<|cn<|Af<|AI ?_;replace a:=Bi a;obtain⟨i10,cR,cX,cY,cZ,a⟩:=a;obtain⟨dG,dH,_,c0,⟨bA,bB,rfl,b4⟩,c1⟩:=Sl.CR aK rfl cY;replace a:=bind_some a;obtain⟨b5,c2,a⟩:=a;refine BW 8 [Kc (.agg #[I c,I d]),Kc (.agg (Ar e f g i j m o p q r s t b).toArray),Kc (.slice z aQ.length aA),Kc (I u),Kc (pt dG (dH+i10)),Kc (.slice bA cR.length bB),Kc (I bE),Kc (I b5)] mixed rfl rfl
        (Aa (oD (fun K=>AO (l:=[I c,I d]) FW (es ((K.out 7 rfl).trans aB)) (aD.ext K.AV) rfl rfl))
        (Aa (oD (fun K=>AO (l:=(Ar e f g i j m o p q r s t b)) DL (es ((K.out 3 rfl).trans a8)) (aV.ext K.AV) rfl rfl))
        (Aa (oD (fun K=>AA (es ((K.out 1 rfl).trans aR))))
        (Aa (oD (fun K=>AA (es ((K.out 8 rfl).trans aS))))
        (Aa (oD (fun K=>BA (k:=i10) Tryz.underlying23 E8 (es (K.dq 2 18)) c0 (es (K.dq 3 19)) cX cZ))
        (Aa (oD (fun K=>BF CU (es (K.dq 4 20)) (c1.mv (Ac K.AV)) rfl))
        (Aa (oD (fun K=>AA (es ((K.out 2 rfl).trans a7))))
        (Aa (oE (fun K=>(Ak AaN rfl (DX (es (K.dq 1 17)) (es (K.dq 5 21)) (es (K.dq 6 22))) (a55 bD b cR bE e f g i j m o p q r s t bA bB ZA _ (aE.mv (Ac K.AV)).all (aF.mv (Ac K.AV)).all (aG.mv (Ac K.AV)).all (aH.mv (Ac K.AV)).all (aI.mv (Ac K.AV)).all (aJ.mv (Ac K.AV)).all (b4.mv (Ac K.AV)).all b5 c2)).mono (fun _ _ h=>⟨h.2,h.1⟩)))
        (BR _))))))))) ?_
    intro dZ;rintro _ rfl _ rfl _ rfl _ rfl _ rfl _ rfl _ rfl _ rfl aY;have dI:=cQ.ext aY;replace a:=bind_some a;obtain⟨aL,c3,a⟩:=a;refine wE (fun st=>Ak Ty (eR st) (Ci (eR st) (eR st)) (AaP bD (⟨c,d⟩:AL) b5 ZA _ aL c3)) ?_;rintro _ dS ⟨aM,⟨_,rfl,rfl⟩⟩;have bC:=dI.ext aM;have cJ:=((aD.ext aY).ext aM);refine BD rfl rfl (fun st=>Bt (n:=2) (l:=[I aL.Lo,I aL.Hi]) (Cm:= #[I aL.Lo,I aL.Hi]) (ee st aB) (eR st) Ie cJ rfl rfl (show 0+2≤2 by decide) (AY rfl) rfl) ?_;rintro _ dT aN;have dJ:=bC.gr aN.gr 0 rfl;refine Bc<|CG<|Ai<|wM (v:=I u) aS ?_;replace a:=AJ a;obtain⟨c4,a⟩:=a;refine wD (fun st=>BK (eR st) (eR st) c4)<|wA (v:=I (u+1)) rfl<|Bc ?_;have cK:=(((aV.ext aY).ext aM).gr aN.gr (bC.nq 2 0));have cL:=(((aW.ext aY).ext aM).gr aN.gr (bC.nq 1 0));have ⟨bT,bU,bV,bW,bX,bY,bZ⟩:=FF aE aF aG aH aI aJ aK (mt (Ac aY) (mt (Ac aM) (bC.By aN.gr 0 rfl)));refine Br cV (Nat.lt_succ_self _) (fun st=>?_);exact⟨(u+1),aL.Lo,aL.Hi,a,qo st,sp st 1 aR,sp st 2 a7,sp st 3 a8,sp st 6 a9,sp st 7 aB,sp st 8 rfl,dJ,cK,cL,aN.bk,bT,bU,bV,bW,bX,bY,bZ⟩
   ·replace a:=An a aX;refine Ao rfl aX<|DA ?_;obtain rfl:=oi a;refine BG (fun st=>?_);exact⟨rfl,qo st,sp st 6 a9,sp st 7 aB,cQ,aW,aD⟩
 case dD=>
  rintro dB dN dU (⟨rfl,cM,aZ,b6,c5,b7,b8⟩);refine lf cM<|Be<|BM<|cr<|wD (fun st=>AO (l:=[I aC.1,I aC.2]) FW (ee st b6) b8 rfl rfl)<|BD rfl rfl (fun st=>Bt (n:=2) (l:=[I aC.1,I aC.2]) (Cm:= #[I aC.1,I aC.2]) (ee st aZ) (eR st) Ie b7 rfl rfl (show 0+2≤2 by decide) (AY rfl) rfl) ?_;rintro _ dV b9;have c6:=c5.gr b9.gr 1 rfl;refine wn<|Ap ?_;obtain rfl:=oi a;refine FD (v:=.agg #[I aC.1,I aC.2]) rfl aZ (C4 FW b9.bk rfl rfl) ?_;exact⟨c6.AZ,⟨_,rfl,rfl⟩⟩
end Go.Proofs.YtbhofkcbfblijaaGreat
end
section
namespace Go.Proofs.YtbhofkcbfblijaaGreat
open Go.RowKit Go.ChangeShapes Go.WideShapes
section
variable{H:Type}{enc:TypeId×Value→H}{P:Program}{W W':World}
variable{α:Type}{e:CD α}{wf:α→Prop}{t:TypeId}{b0:Nat}{v:Value}{d:DataW H}{p:List MemPlace}{sp:Nat→Bool}
theorem Zp{k:IntKind}(a:P.underlying t=some (.int k))(b:Value.okWide P W .any b0 t v)(h:DataW.Trod enc P W 0 sp true t v d p):∃n,v=.int k n∧HW k n:=by
 obtain⟨n,h1,_,_,c⟩:=open_int a b h;exact⟨n,h1,c⟩
end
end Go.Proofs.YtbhofkcbfblijaaGreat
end
