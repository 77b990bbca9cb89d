import Derived.Test.YtbhofkcbfblijaaGreatCG5
import Derived.WalkKit
import Derived.KernelRfl
import Derived.WalkSpells
import Derived.WalkLawsBesides
import Derived.Maps.AppendAt
import Derived.OrdersIn
import Derived.RangeFuncIn
import Derived.RangeFuncLeaves
import Derived.RangeFuncRecord
import Derived.RangeFuncSeq
import Derived.Scope
import Derived.DeepKeys3
import Derived.Laws.CopyRow
import Derived.Laws.OwnMore
import Derived.Laws.MakeOwn
import Derived.Laws.IdiomCopy
import Derived.Sort.OwnSortedInts
import Derived.Lib.RowBridge
import Derived.Shelf.Sort.Plain
import Derived.Ground.Names2Prog
import Derived.Shelf.Slices.Clone
import Derived.Shelf.Slices.CompactI
import Derived.Shelf.Slices.In.SortNone
import Derived.Ground.SlgnProg
import Derived.Shelf.SlicesE.Clone
import Derived.ProofKit
import Derived.ChangeSame
import Derived.SizedLaws
import Derived.Deep.Slices
import Derived.JoinedOf
import Derived.Test.YtbhofkcbfblijaaGreatProg
import Derived.Test.YtbhofkcbfblijaaGreatRows
/-
  What the law TradeLeft needs beside the base that several claims of this seat share: contracts, and the plain law.
-/
set_option linter.all false
section
namespace Go.Proofs.YtbhofkcbfblijaaGreat
open Go.RowKit
section
variable{P:Program}{a:Act}{w:World}{dst:Option Tmp}{ty:TypeId}{pos:String}{Ec:Array Edge}{g:Option (Nat×Bool)}
theorem HG{x y:Operand}{k:IntKind}{m n:Int}{t b:TypeId}(hx:a.eval x=.int k m)(c:a.eval y=.int k n)(h0:0≤m)(h1:1≤n):Eb P ⟨dst,.binOp .rem t x y b,ty,pos,Ec,g⟩ a w (fun u w'=>u=.int k (m%n)∧w'=w):=
 DJ (by
  have e:m.tmod n=m%n:=Int.tmod_eq_emod_of_nonneg h0;have hn:¬n=0:=by omega
  simp[execOp,hx,c,eqGuard,binOp,Op.intDiv,hn,e])
end
def rem(a b:Int):Option Int:=if 0≤a∧1≤b then some (a%b) else none
theorem IN{a b y:Int}(h:rem a b=some y):y=a%b∧0≤a∧1≤b:=by
 unfold rem at h;split at h
 ·exact⟨(Option.some.inj h).symm,by assumption⟩
 ·cases h
theorem Fu{α:Type}{a b:Int}{f:Int→Option α}{r:α}(h:(rem a b).bind f=some r):(0≤a∧1≤b)∧f (a%b)=some r:=by
 obtain⟨y,h1,h2⟩:=Option.bind_eq_some_iff.1 h;obtain⟨rfl,c⟩:=IN h1;exact⟨c,h2⟩
end Go.Proofs.YtbhofkcbfblijaaGreat
end
section
namespace Go.Proofs.YtbhofkcbfblijaaGreat
open Go.RowKit Go.WideShapes
def CY(a n:Int):Int:=a*2^n.toNat
def EV(a n:Int):Option Unit:=if 0≤n∧n<64∧-9223372036854775808≤a*2^n.toNat∧a*2^n.toNat≤9223372036854775807 then some () else none
theorem E3{α:Type}{a n:Int}{f:Unit→Option α}{r:α}(h:(EV a n).bind f=some r):(0≤n∧n<64∧fits (CY a n))∧f ()=some r:=by
 unfold EV at h;split at h
 ·rename_i h1;exact⟨⟨h1.1,h1.2.1,h1.2.2⟩,h⟩
 ·cases h
def ER(a n:Int):Int:=a/2^n.toNat
def Hn(a n:Int):Option Unit:=if 0≤n∧n<64 then some () else none
theorem GB{α:Type}{a n:Int}{f:Unit→Option α}{r:α}(h:(Hn a n).bind f=some r):(0≤n∧n<64)∧f ()=some r:=by
 unfold Hn at h;split at h
 ·exact⟨by assumption,h⟩
 ·cases h
def GG(a b:Int):Option Unit:=if (0≤a∧a≤9223372036854775807)∧(0≤b∧b≤9223372036854775807) then some () else none
theorem F5{α:Type}{a b:Int}{f:Unit→Option α}{r:α}(h:(GG a b).bind f=some r):((0≤a∧a≤9223372036854775807)∧(0≤b∧b≤9223372036854775807))∧f ()=some r:=by
 unfold GG at h;split at h
 ·exact⟨by assumption,h⟩
 ·cases h
def It(a b:Int):Int:=((a.toNat&&&b.toNat:Nat):Int)
def GX(a b:Int):Int:=((a.toNat|||b.toNat:Nat):Int)
def NB(a b:Int):Int:=((a.toNat^^^(a.toNat&&&b.toNat):Nat):Int)
section
variable{P:Program}{a:Act}{w:World}{dst:Option Tmp}{ty:TypeId}{pos:String}{Ec:Array Edge}{g:Option (Nat×Bool)}
theorem HL{x y:Operand}{m n:Int}{k:IntKind}{t b:TypeId}(hx:a.eval x=.int .i64 m)(c:a.eval y=.int k n)(h:0≤n∧n<64∧fits (CY m n)):Eb P ⟨dst,.binOp .shl t x y b,ty,pos,Ec,g⟩ a w (fun u w'=>u=.int .i64 (CY m n)∧w'=w):=
 DJ (by
  have hn:¬n<0:=by omega
  have hb:min n.toNat IntKind.i64.bits=n.toNat:=by
   have:IntKind.i64.bits=64:=rfl;omega
  have d:IntKind.i64.wrap (m*2^n.toNat)=m*2^n.toNat:=GO h.2.2;simp[execOp,hx,c,eqGuard,binOp,Op.shift,hn,hb,d,CY])
theorem J2{x y:Operand}{m n:Int}{k:IntKind}{t b:TypeId}(hx:a.eval x=.int .i64 m)(c:a.eval y=.int k n)(h:0≤n∧n<64):Eb P ⟨dst,.binOp .shr t x y b,ty,pos,Ec,g⟩ a w (fun u w'=>u=.int .i64 (ER m n)∧w'=w):=
 DJ (by
  have hn:¬n<0:=by omega
  have hb:min n.toNat IntKind.i64.bits=n.toNat:=by
   have:IntKind.i64.bits=64:=rfl;omega
  have d:m.fdiv (2^n.toNat)=m/2^n.toNat:=Int.fdiv_eq_ediv_of_nonneg m (Int.le_of_lt (Int.pow_pos (by decide)));simp[execOp,hx,c,eqGuard,binOp,Op.shift,hn,hb,d,ER])
theorem H0{m:Int}(h0:0≤m)(h1:m≤9223372036854775807):(BitVec.ofInt 64 m).toNat=m.toNat:=by
 rw[BitVec.toNat_ofInt];omega
theorem HX{k:Nat}(h:k≤9223372036854775807):IntKind.i64.wrap (k:Int)=k:=GO ⟨by omega,by omega⟩
theorem Qs{x y:Operand}{m n:Int}{t b:TypeId}(hx:a.eval x=.int .i64 m)(c:a.eval y=.int .i64 n)(h:(0≤m∧m≤9223372036854775807)∧(0≤n∧n≤9223372036854775807)):Eb P ⟨dst,.binOp .and t x y b,ty,pos,Ec,g⟩ a w (fun u w'=>u=.int .i64 (It m n)∧w'=w):=
 DJ (by
  have e:(BitVec.ofInt 64 m&&&BitVec.ofInt 64 n).toNat=m.toNat&&&n.toNat:=by rw[BitVec.toNat_and,H0 h.1.1 h.1.2,H0 h.2.1 h.2.2]
  have d:IntKind.i64.wrap ((m.toNat&&&n.toNat:Nat):Int)=((m.toNat&&&n.toNat:Nat):Int):=HX (Nat.le_trans Nat.and_le_left (by omega));have key:(Op.intBits .and .i64 m n).run P w=.ok (.int .i64 (It m n)) w:=by
   show(pure (Value.int .i64 (IntKind.i64.wrap ((BitVec.ofInt 64 m&&&BitVec.ofInt 64 n).toNat:Int))):Sem Value).run P w=_;rw[e,d];rfl
  simp[execOp,hx,c,eqGuard,binOp,key])
theorem NR{x y:Operand}{m n:Int}{t b:TypeId}(hx:a.eval x=.int .i64 m)(c:a.eval y=.int .i64 n)(h:(0≤m∧m≤9223372036854775807)∧(0≤n∧n≤9223372036854775807)):Eb P ⟨dst,.binOp .or t x y b,ty,pos,Ec,g⟩ a w (fun u w'=>u=.int .i64 (GX m n)∧w'=w):=
 DJ (by
  have e:(BitVec.ofInt 64 m|||BitVec.ofInt 64 n).toNat=m.toNat|||n.toNat:=by rw[BitVec.toNat_or,H0 h.1.1 h.1.2,H0 h.2.1 h.2.2]
  have f:m.toNat|||n.toNat<2^63:=Nat.or_lt_two_pow (by omega) (by omega);have d:IntKind.i64.wrap ((m.toNat|||n.toNat:Nat):Int)=((m.toNat|||n.toNat:Nat):Int):=HX (by omega);have key:(Op.intBits .or .i64 m n).run P w=.ok (.int .i64 (GX m n)) w:=by
   show(pure (Value.int .i64 (IntKind.i64.wrap ((BitVec.ofInt 64 m|||BitVec.ofInt 64 n).toNat:Int))):Sem Value).run P w=_;rw[e,d];rfl
  simp[execOp,hx,c,eqGuard,binOp,key])
theorem VH(x y:BitVec 64):(x&&&~~~y).toNat=x.toNat^^^(x.toNat&&&y.toNat):=by
 have:x&&&~~~y=x^^^(x&&&y):=by ext i hi;simp;cases x[i]<;>simp
 rw[this,BitVec.toNat_xor,BitVec.toNat_and]
theorem UQ{x y:Operand}{m n:Int}{t b:TypeId}(hx:a.eval x=.int .i64 m)(c:a.eval y=.int .i64 n)(h:(0≤m∧m≤9223372036854775807)∧(0≤n∧n≤9223372036854775807)):Eb P ⟨dst,.binOp .andNot t x y b,ty,pos,Ec,g⟩ a w (fun u w'=>u=.int .i64 (NB m n)∧w'=w):=
 DJ (by
  have e:(BitVec.ofInt 64 m&&&~~~(BitVec.ofInt 64 n)).toNat=m.toNat^^^(m.toNat&&&n.toNat):=by rw[VH,H0 h.1.1 h.1.2,H0 h.2.1 h.2.2]
  have f:m.toNat^^^(m.toNat&&&n.toNat)<2^63:=Nat.xor_lt_two_pow (by omega) (Nat.and_lt_two_pow _ (by omega));have d:IntKind.i64.wrap ((m.toNat^^^(m.toNat&&&n.toNat):Nat):Int)=((m.toNat^^^(m.toNat&&&n.toNat):Nat):Int):=HX (by omega);have key:(Op.intBits .andNot .i64 m n).run P w=.ok (.int .i64 (NB m n)) w:=by
   show(pure (Value.int .i64 (IntKind.i64.wrap ((BitVec.ofInt 64 m&&&~~~(BitVec.ofInt 64 n)).toNat:Int))):Sem Value).run P w=_;rw[e,d];rfl
  simp[execOp,hx,c,eqGuard,binOp,key])
end
def BG(c:Int):Nat→(List Int)→Int→Option ((List Int))
 |0,_,_=>none
 |d+1,b,a=>(E5 .u64 a).bind fun _=>(Hn c a).bind fun _=>cond (decide ((0:Int)<(ER c a))) ((E5 .u64 a).bind fun _=>(Hn c a).bind fun _=>(rem (ER c a) (2:Int)).bind fun _=>cond (((ER c a)%2)==1) ((EG (((b.length+[a].length:Nat):Int)≤140737488355328/8)).bind fun _=>(i64 (a+1)).bind fun _=>BG c d (b++[a]) (a+1)) ((i64 (a+1)).bind fun _=>BG c d b (a+1))) (some (b))
def CN(a:Nat)(b:Int):Option ((List Int)):=
 (BG b a ([]:List Int) (0:Int)).bind fun c=>some (c)
def Cu(b:List Int)(c:List Int):Nat→Int→Option ((Bool)⊕(Unit))
 |0,_=>none
 |e+1,a=>cond (decide (a<(b.length:Int))) (cond (decide (a<(c.length:Int))) ((idx b a).bind fun f=>(idx c a).bind fun g=>cond (f !=g) ((idx b a).bind fun h=>(idx c a).bind fun d=>some (.inl (decide (h<d)))) ((i64 (a+1)).bind fun _=>Cu b c e (a+1))) (some (.inr ()))) (some (.inr ()))
def DD(d:Nat)(b:List Int)(c:List Int):Option (Bool):=
 (Cu b c d (0:Int)).bind fun z=>Sum.elim (fun a=>some (a)) (fun a=>some (decide ((b.length:Int)<(c.length:Int)))) z
def E4(c:Nat)(a:List Int)(b:List Int):Option (Bool):=
 cond (decide ((a.length:Int)<(b.length:Int))) (some (true)) (cond ((a.length:Int)==(b.length:Int)) ((DD c a b).bind fun d=>some (d)) (some (false)))
def CL(b:Nat)(a:Aj):Option (Int):=
 (E5 .u64 (a.Ao.length:Int)).bind fun _=>(EV (1:Int) (a.Ao.length:Int)).bind fun _=>(i64 ((CY (1:Int) (a.Ao.length:Int))-1)).bind fun _=>some ((CY (1:Int) (a.Ao.length:Int))-1)
def Cy(g:Nat)(c:List Int)(f:Int):Nat→Int→Int→Option ((Int×Bool)⊕(Int))
 |0,_,_=>none
 |h+1,b,a=>cond (decide (a<(c.length:Int))) ((idx c a).bind fun k=>(i64 (f-1)).bind fun _=>(Dh g k 0 (f-1)).bind fun l=>cond (!l) (some (.inl ((0:Int),false))) (cond (decide ((0:Int)<a)) ((idx c a).bind fun i=>(i64 (a-1)).bind fun _=>(idx c (a-1)).bind fun j=>cond (decide (i≤j)) (some (.inl ((0:Int),false))) ((idx c a).bind fun d=>(E5 .u64 d).bind fun _=>(EV (1:Int) d).bind fun _=>(GG b (CY (1:Int) d)).bind fun _=>(i64 (a+1)).bind fun _=>Cy g c f h (GX b (CY (1:Int) d)) (a+1))) ((idx c a).bind fun e=>(E5 .u64 e).bind fun _=>(EV (1:Int) e).bind fun _=>(GG b (CY (1:Int) e)).bind fun _=>(i64 (a+1)).bind fun _=>Cy g c f h (GX b (CY (1:Int) e)) (a+1)))) (some (.inr b))
def EF(b:Nat)(c:List Int)(d:Int):Option (Int×Bool):=
 (Cy b c d b (0:Int) (0:Int)).bind fun z=>Sum.elim (fun a=>some ((a.1,a.2))) (fun a=>some ((a,true))) z
def B6(a:Nat)(b:Aj):Option (Bool):=
 (Gf a b).bind fun c=>cond (c) ((F6 a b).bind fun d=>some (d==0)) (some (false))
def Gg(d:Aj)(c:Int):Nat→Int→(List Ct)→Option ((List Ct))
 |0,_,_=>none
 |f+1,a,b=>cond (decide (a<(d.Ao.length:Int))) ((E5 .u64 a).bind fun _=>(Hn c a).bind fun _=>(rem (ER c a) (2:Int)).bind fun _=>cond (((ER c a)%2)==1) ((idx d.Ao a).bind fun e=>(EG (((b.length+[e].length:Nat):Int)≤140737488355328/24)).bind fun _=>(i64 (a+1)).bind fun _=>Gg d c f (a+1) (b++[e])) ((i64 (a+1)).bind fun _=>Gg d c f (a+1) b)) (some (b))
def Iw(b:Nat)(a:Aj)(c:Int):Option (Aj):=
 (Gg a c b (0:Int) ([]:List Ct)).bind fun d=>some ((⟨a.Al,a.Ac,a.Ap,a.Flat,a.AH,a.Aw,d⟩:Aj))
end Go.Proofs.YtbhofkcbfblijaaGreat
end
section
namespace Go.Proofs.YtbhofkcbfblijaaGreat
theorem I7{β:Type}{a b:Int}{f:Int→Option β}(h0:0≤a)(h1:1≤b):(rem a b).bind f=f (a%b):=bd (if_pos ⟨h0,h1⟩)
theorem PC{β:Type}{n:Int}{b:Nat}{f:Unit→Option β}(h0:0≤n)(h1:n*b≤140737488355328)(h2:n≤140737488355328):(R9 n b).bind f=f ():=bd (if_pos ⟨h0,h1,h2⟩)
theorem Jy(K:Nat){r:AN}(h:EU r):GJ K r=some (BI r):=Jl K h
section
variable{K:Nat}(hK:1000≤K)
include hK
theorem OJ(a b:Int):GW K [a,b]=some (min a b):=by
 unfold GW;rw[bd (RG hK a b)]
theorem Jp(r:AN)(n:Int):FH K r n=some ⟨min r.Lo n,max r.Hi n⟩:=by
 unfold FH;rw[bd (OJ hK _ _)]
end
def Er:List AN→Int→List Int
 |[],_=>[]
 |r::rs,n=>(r.Lo+n%BI r)::Er rs (n/BI r)
namespace OkC
variable{c:AV}(h:OkC c)
include h
end OkC
theorem FA(r:AN)(l:List AN):Dm (r::l)=BI r*Dm l:=by
 have:∀(l:List AN) (s:Int),l.foldl (fun n r=>n*BI r) s=s*l.foldl (fun n r=>n*BI r) 1:=by
  intro l
  induction l with
  |nil=>intro s;simp
  |cons r l ih=>intro s;rw[List.foldl_cons,List.foldl_cons,ih,ih (1*BI r),Int.one_mul,Int.mul_assoc]
 unfold Dm;rw[List.foldl_cons,this,Int.one_mul]
theorem G8:∀{rs:List AN} {l:List Int},(∀r∈rs,EU r)→DE rs l=true→∃n:Nat,(n:Int)<Dm rs∧Er rs (n:Int)=l
 |[],[],_,_=>⟨0,by simp[Dm],rfl⟩
 |[],_::_,_,h=>by cases h
 |_::_,[],_,h=>by cases h
 |r::rs,x::xs,hr,h=>by
  rw[DE,Bool.and_eq_true] at h;obtain⟨n,hn,e⟩:=G8 (fun r b=>hr r (List.mem_cons_of_mem _ b)) h.2;have h1:=Dv.1 h.1;have h2:=D0 (hr r (List.mem_cons_self ..));have a:0≤x-r.Lo∧x-r.Lo<BI r:=by unfold BI;omega
  have c:0≤BI r*(n:Int):=Int.mul_nonneg (by omega) (by omega);refine⟨(x-r.Lo+BI r*n).toNat,?_,?_⟩
  ·rw[FA];have:BI r*((n:Int)+1)≤BI r*Dm rs:=Int.mul_le_mul_of_nonneg_left (by omega) (by omega);rw[Int.mul_add] at this;omega
  ·rw[Int.toNat_of_nonneg (by omega),Er,Int.add_mul_emod_self_left,Int.emod_eq_of_lt a.1 a.2,Int.add_mul_ediv_left _ _ (by omega),Int.ediv_eq_zero_of_lt a.1 a.2,Int.zero_add,e]
   congr 1;omega
def Bo (c:AV):List (List Int):=((List.range (Dm c.AF).toNat).map fun n:Nat=>Er c.AF (n:Int)).filter (BJ c)
theorem CV{c:AV}(a:OkC c){l:List Int}:l∈Bo c↔BJ c l=true:=by
 unfold Bo;rw[List.mem_filter,List.mem_map];refine⟨fun h=>h.2,fun h=>⟨?_,h⟩⟩;have h1:=h;unfold BJ at h1;rw[Bool.and_eq_true] at h1;obtain⟨n,hn,e⟩:=G8 a.ok h1.1;exact⟨n,List.mem_range.2 (by omega),e⟩
section
variable{K:Nat}(hK:1000≤K)
include hK
end
theorem FB{σ α:Type}(cb:σ→α→Option (Bool×σ))(a:List α):∀(b:List α) (s:σ),run cb (b++a) s=(run cb b s).bind fun r=>cond r.1 (run cb a r.2) (some (false,r.2))
 |[],s=>rfl
 |x::l,s=>by
  simp only[List.cons_append,run];cases cb s x with
  |none=>rfl
  |some r=>
   simp only[Option.bind_some];cases h:r.1 with
   |false=>simp
   |true=>simpa using FB cb a l r.2
def CE:List AN→List (List Int)
 |[]=>[[]]
 |r::rs=>(List.range' 0 (BI r).toNat).flatMap fun n:Nat=>(CE rs).map fun x=>(r.Lo+(n:Int))::x
theorem Fh:∀{rs:List AN} {l:List Int},(∀r∈rs,EU r)→(l∈CE rs↔DE rs l=true)
 |[],[],_=>by simp[CE,DE]
 |[],_::_,_=>by simp[CE,DE]
 |r::rs,[],_=>by simp[CE,DE]
 |r::rs,x::xs,h=>by
  have h1:=h r (List.mem_cons_self ..);have h2:=D0 h1;rw[CE,List.mem_flatMap,DE,Bool.and_eq_true,←Fh (fun r hr=>h r (List.mem_cons_of_mem _ hr)),Dv];constructor
  ·rintro⟨n,hn,hx⟩;obtain⟨y,a,e⟩:=List.mem_map.1 hx;injection e with c b
   subst b;rw[List.mem_range'_1] at hn;refine⟨?_,a⟩;unfold BI at hn h2;omega
  ·rintro⟨hx,a⟩;refine⟨(x-r.Lo).toNat,?_,List.mem_map.2 ⟨xs,a,?_⟩⟩
   ·rw[List.mem_range'_1];unfold BI;omega
   ·congr 1;omega
theorem Gq:∀{rs:List AN},(∀r∈rs,EU r)→((CE rs).length:Int)=Dm rs
 |[],_=>rfl
 |r::rs,h=>by
  have h2:=D0 (h r (List.mem_cons_self ..));have a:=Gq (rs:=rs) (fun r hr=>h r (List.mem_cons_of_mem _ hr));rw[FA,←a,CE,List.length_flatMap];have:∀(n i:Nat),((List.range' i n).map fun n:Nat=>((CE rs).map fun x=>(r.Lo+(n:Int))::x).length).sum=n*(CE rs).length:=by
   intro n
   induction n with
   |zero=>intro i;simp
   |succ n ih=>intro i;rw[List.range'_succ,List.map_cons,List.sum_cons,ih,List.length_map,Nat.succ_mul,Nat.add_comm]
  rw[this,Int.natCast_mul,Int.toNat_of_nonneg (by omega)]
theorem take_set{out:List Int}{i:Nat}(v:Int)(h:i<out.length):(out.set i v).take (i+1)=out.take i++[v]:=by
 rw[List.take_succ_eq_append_getElem (by simpa using h),List.take_set_of_le (Nat.le_refl _),List.getElem_set_self]
section
variable{K:Nat}(hK:1000≤K)
include hK
theorem Gr{σ:Type}(cb:σ→List Int→Option (Bool×σ))(d:Int→List AN→List Int→σ→Option (Bool×List Int×σ))(l:List AN)(hl:l.length≤100)(i:Nat)(hi:i<l.length)(hr:EU l[i])
  (ih:∀(out:List Int) (s:σ) (b:Bool) (s':σ),out.length=l.length→run cb ((CE (l.drop (i+1))).map fun x=>out.take (i+1)++x) s=some (b,s')→∃c,c.length=l.length∧c.take (i+1)=out.take (i+1)∧d ((i+1:Nat):Int) l out s=some (b,c,s')):
  ∀(e m n:Nat) (out:List Int) (s:σ) (b:Bool) (s':σ),BI l[i]=(n:Int)+e→e<m→out.length=l.length→
   run cb ((List.range' n e).flatMap fun n:Nat=>(CE (l.drop (i+1))).map fun x=>out.take i++(l[i].Lo+(n:Int))::x) s=some (b,s')→
   ∃c,c.length=l.length∧c.take i=out.take i∧(Dd d (i:Int) l (BI l[i]) m (n:Int) out s).bind (fun z=>Sum.elim (fun q=>some (q.1,q.2.1,q.2.2)) (fun q=>some (true,q.1,q.2)) z)=some (b,c,s')
 |e,0,n,out,s,b,s',h,hm,_,_=>by omega
 |0,m+1,n,out,s,b,s',h,hm,j,a=>by
  have:(true,s)=(b,s'):=Option.some.inj a;injection this with k o
  subst k;subst o;refine⟨out,j,rfl,?_⟩;rw[Dd.eq_2,cf (df (by omega))];rfl
 |e+1,m+1,n,out,s,b,s',h,hm,j,a=>by
  have aA:=D0 hr;have t:=hr;unfold EU at t;have g:i<out.length:=by omega
  rw[List.range'_succ,List.flatMap_cons,FB] at a;have u:∀x:List Int,out.take i++(l[i].Lo+(n:Int))::x=(out.set i (l[i].Lo+(n:Int))).take (i+1)++x:=fun x=>by rw[take_set _ g,List.append_assoc];rfl
  simp only[u] at a;cases h1:run cb ((CE (l.drop (i+1))).map fun x=>(out.set i (l[i].Lo+(n:Int))).take (i+1)++x) s with
  |none=>rw[h1] at a;cases a
  |some r=>
   obtain⟨b1,s1⟩:=r;rw[h1,Option.bind_some] at a;obtain⟨f,g1,g2,g3⟩:=ih (out.set i (l[i].Lo+(n:Int))) s b1 s1 (by rw[List.length_set];exact j) h1;have gt:f.take i=out.take i:=by
    have:=congrArg (List.take i) g2;rw[List.take_take,List.take_take,Nat.min_eq_left (by omega),List.take_set_of_le (Nat.le_refl _)] at this;exact this
   rw[Dd.eq_2,ct (dt (by omega)),BS hi,AZ (by omega) (by omega),BS g,AZ (by omega) (by omega),CZ i,Int.toNat_natCast,bd g3];cases b1 with
   |false=>
    have:(false,s1)=(b,s'):=Option.some.inj a;injection this with k o
    subst k;subst o;exact⟨f,g1,gt,rfl⟩
   |true=>
    rw[nt,AZ (by omega) (by omega),CZ n];simp only[←u] at a;rw[←gt] at a;obtain⟨p,v,w,y⟩:=Gr cb d l hl i hi hr ih e m (n+1) f s1 b s' (by omega) (by omega) g1 a;exact⟨p,v,w.trans gt,y⟩
theorem G9{σ:Type}(cb:σ→List Int→Option (Bool×σ))(l:List AN)(hl:l.length≤100)(m:∀r∈l,EU r):∀(d k i:Nat) (out:List Int) (s:σ) (b:Bool) (s':σ),l.length=i+d→d<k→out.length=l.length→
  run cb ((CE (l.drop i)).map fun x=>out.take i++x) s=some (b,s')→∃c,c.length=l.length∧c.take i=out.take i∧CQ K cb k (i:Int) l out s=some (b,c,s')
 |d,0,i,out,s,b,s',h,hk,_,_=>by omega
 |0,k+1,i,out,s,b,s',h,hk,f,a=>by
  rw[List.drop_eq_nil_of_le (by omega)] at a;have e:(CE []).map (fun x=>out.take i++x)=[out]:=by
   show[out.take i++[]]=[out];rw[List.append_nil,List.take_of_length_le (by omega)]
  rw[e] at a;refine⟨out,f,rfl,?_⟩;rw[CQ.eq_2,ct (EO (by omega))];simp only[run] at a;cases h1:cb s out with
  |none=>rw[h1] at a;cases a
  |some r=>
   obtain⟨b1,s1⟩:=r;rw[h1,Option.bind_some] at a;cases b1 with
   |true=>
    have:(true,s1)=(b,s'):=Option.some.inj a;injection this with g j
    subst g;subst j;rfl
   |false=>
    have:(false,s1)=(b,s'):=Option.some.inj a;injection this with g j
    subst g;subst j;rfl
 |d+1,k+1,i,out,s,b,s',h,hk,f,a=>by
  have hi:i<l.length:=by omega
  have hr:=m _ (List.getElem_mem hi);have n:=D0 hr;rw[List.drop_eq_getElem_cons hi,CE,List.map_flatMap] at a;simp only[List.map_map] at a;rw[CQ.eq_2,cf (Gw (by omega)),BS hi,bd (Jy K hr)];have:=Gr hK cb (CQ K cb k) l hl i hi hr (fun out s b s' h1 h2=>G9 cb l hl m d k (i+1) out s b s' (by omega) (by omega) h1 h2) (BI l[i]).toNat K 0 out s b s' (by omega) (by omega) f a;rw[Int.natCast_zero] at this;exact this
theorem Jz{σ:Type}(cb:σ→List Int→Option (Bool×σ))(l:List AN)(hl:l.length≤100)(a:∀r∈l,EU r)(s:σ)(b:Bool)(s':σ)(h:run cb (CE l) s=some (b,s')):EY K cb l s=some s':=by
 unfold EY;obtain⟨c,_,_,h2⟩:=G9 hK cb l hl a l.length K 0 (List.replicate (l.length:Int).toNat 0) s b s' (by omega) (by omega) (by simp) (by simpa using h);rw[Int.natCast_zero] at h2;rw[PC (by omega) (by omega) (by omega),bd h2]
end
theorem JA:∀{a b:List Int},a.length=b.length→a.length≤3→arr a=arr b→a=b
 |[],[],_,_,_=>rfl
 |[a],[b],_,_,h=>by injection h with h1;exact congrArg (fun x=>[x]) h1
 |[a,a2],[b,b2],_,_,h=>by
  injection h with h1 h2
  rw[show a=b from h1,show a2=b2 from h2]
 |[a,a2,a3],[b,b2,b3],_,_,h=>by
  injection h with h1 h2 c
  rw[show a=b from h1,show a2=b2 from h2,show a3=b3 from c]
 |_::_::_::_::_,_,_,h,_=>by simp at h
 |[],_::_,h,_,_=>by cases h
 |[_],[],h,_,_=>by cases h
 |[_],_::_::_,h,_,_=>by simp at h
 |[_,_],[],h,_,_=>by cases h
 |[_,_],[_],h,_,_=>by simp at h
 |[_,_],_::_::_::_,h,_,_=>by simp at h
 |[_,_,_],[],h,_,_=>by cases h
 |[_,_,_],[_],h,_,_=>by simp at h
 |[_,_,_],[_,_],h,_,_=>by simp at h
 |[_,_,_],_::_::_::_::_,h,_,_=>by simp at h
theorem H2 {t:Aj} (hk:t.Ac.length≤3) {l l':List Int} (h:Av t l=Av t l'):∀w∈t.Ac,CI l w=CI l' w:=by
 have e:=JA (by simp) (by simpa using hk) h;intro w hw;obtain⟨i,hi,rfl⟩:=List.getElem_of_mem hw;have:=congrArg (fun x=>x.getD i 0) e;simpa[List.getElem?_eq_getElem hi] using this
theorem F8{t:Aj}(hk:t.Ac.length≤3){l l':List Int}(h:Av t l=Av t l'):As t l=As t l':=by
 unfold As;exact List.map_congr_left fun w hw=>by rw[H2 hk h w hw]
theorem KN{x y:Be}(h:[x.a0,x.a1,x.a2]=[y.a0,y.a1,y.a2]):x=y:=by cases x;cases y;simpa using h
structure Tr (t:Aj) (L:List (List Int)):Prop where
 Jq:∀l∈L,BJ t.C l=true
 all:∀l,BJ t.C l=true→∃l'∈L,Av t l'=Av t l
 len:L.length≤150
section
variable{K:Nat}(hK:1000≤K)
include hK
theorem Gs {t:Aj} (f:OkT t):∀(X:List (List Int)) (a:List (List Int)),(∀l∈X,DE t.Al l=true)→a.length+X.length≤5000→
  ∃L:List (List Int),run (fun(st:List Be) (x:List Int)=>CT K t st x) X (a.map (Av t))=some (true,L.map (Av t))∧(∀l∈L,l∈a∨l∈X∧BJ t.C l=true)∧(∀l∈a,l∈L)∧(∀l∈X,BJ t.C l=true→∃l'∈L,Av t l'=Av t l)∧L.length≤a.length+X.length
 |[],a,_,_=>⟨a,rfl,fun l h=>.inl h,fun l h=>h,fun l h=>(nomatch h),by simp⟩
 |x::X,a,i,hlen=>by
  have hx:=i x (List.mem_cons_self ..);have u:=f.hl;have v:=HA hx;rw[List.length_cons] at hlen;have n:Fs K ⟨t.Al,t.Ac,t.Ap⟩ x=some (BJ t.C x):=IB hK (c:=t.C) f.c (by omega)
  
  have step:∃b:List (List Int),CT K t (a.map (Av t)) x=some (true,b.map (Av t))∧(∀l∈b,l∈a∨l=x∧BJ t.C x=true)∧(∀l∈a,l∈b)∧(BJ t.C x=true→∃l'∈b,Av t l'=Av t x)∧b.length≤a.length+1:=by
   unfold CT;rw[bd n];cases g:BJ t.C x with
   |false=>exact⟨a,by rw[nf],fun l h=>.inl h,fun l h=>h,fun h=>(nomatch h),by omega⟩
   |true=>
    have d:∃b:List (List Int),(some (true,a.map (Av t)++[Av t x]):Option (Bool×List Be))=some (true,b.map (Av t))∧(∀l∈b,l∈a∨l=x∧true=true)∧(∀l∈a,l∈b)∧(true=true→∃l'∈b,Av t l'=Av t x)∧b.length≤a.length+1:=
     ⟨a++[x],by simp,fun l h=>by simpa using h,fun l h=>by simp[h],fun _=>⟨x,by simp,rfl⟩,by simp⟩
    rw[nt,bd (KI hK f hx)]
    by_cases h0:a.length=0
    ·rw[ct (EO (by simp[h0])),Dt (by simp;omega)];exact d
    ·rw[cf (Gw (by simp;simpa using h0)),AZ (by simp;omega) (by simp;omega)];have e:(((a.map (Av t)).length:Int))-1=((a.length-1:Nat):Int):=by rw[List.length_map];omega
     have j:a.length-1<(a.map (Av t)).length:=by rw[List.length_map];omega
     rw[e,BS j];cases k:([((a.map (Av t))[a.length-1]).a0,((a.map (Av t))[a.length-1]).a1,((a.map (Av t))[a.length-1]).a2] !=[(Av t x).a0,(Av t x).a1,(Av t x).a2]) with
     |true=>rw[ct rfl,Dt (by simp;omega)];exact d
     |false=>
      rw[cf rfl];refine⟨a,rfl,fun l h=>.inl h,fun l h=>h,fun _=>⟨a[a.length-1]'(by omega),List.getElem_mem _,?_⟩,by omega⟩;have h1:[((a.map (Av t))[a.length-1]).a0,((a.map (Av t))[a.length-1]).a1,((a.map (Av t))[a.length-1]).a2]=[(Av t x).a0,(Av t x).a1,(Av t x).a2]:=by simpa using k
      rw[List.getElem_map] at h1;exact KN h1
  obtain⟨b,s1,s2,o,p,w⟩:=step;obtain⟨L,q,r,m,s,y⟩:=Gs f X b (fun l hl=>i l (List.mem_cons_of_mem _ hl)) (by omega);refine⟨L,by rw[run,bd s1,ct rfl];exact q,?_,fun l hl=>m l (o l hl),?_,by rw[List.length_cons];omega⟩
  ·intro l hl;rcases r l hl with h|h
   ·rcases s2 l h with h|⟨rfl,h⟩
    ·exact .inl h
    ·exact .inr ⟨List.mem_cons_self ..,h⟩
   ·exact .inr ⟨List.mem_cons_of_mem _ h.1,h.2⟩
  ·intro l hl g;rcases List.mem_cons.1 hl with rfl|hl
   ·obtain⟨l',h1,h2⟩:=p g;exact⟨l',m l' h1,h2⟩
   ·exact s l hl g
theorem KO{t:Aj}(a:OkT t):∃L,Tr t L∧Ej K t=some (wk t (L.map (Av t)) []):=by
 have j:=a.hl;have hlen:((CE t.Al).length:Int)=Dm t.Al:=Gq a.c.ok;have b:=a.many;obtain⟨L,d,e,_,f,i⟩:=Gs hK a (CE t.Al) [] (fun l hl=>(Fh (rs:=t.Al) a.c.ok).1 hl) (by simp;omega);refine⟨L,⟨fun l hl=>?_,fun l hl=>f l ((Fh (rs:=t.Al) a.c.ok).2 (HW hl)) hl,by simp at i;omega⟩,?_⟩
 ·rcases e l hl with h|h
  ·cases h
  ·exact h.2
 ·unfold Ej;have g:=Jz hK _ t.Al (by omega) a.c.ok _ true _ d;rw[List.map_nil] at g;rw[bd (NP hK a),bd (Nn hK t (by omega)),bd g];rfl
def DU (t:Aj) (out:List Int) (L:List (List Int)):List (Be×Be):=(L.filter fun l=>BB (As t l) out 0 t.Ao).map fun l=>(Av t l,arr (As t l))
theorem Fi{σ:Type}{t:Aj}(f:OkT t){out:List Int}(o:out.length≤900)(cb:σ→(Be×Be)→Option (Bool×σ))(L:List (List Int))(u:L.length≤150)(c:List (List Int×Int)):∀(d n i:Nat) (m:List (List Int×Int)) (s:σ) (b:Bool) (s':σ),L.length=i+d→d<n→Dr t m→
  run cb (DU t out (L.drop i)) s=some (b,s')→∃g,Dr t g∧(CB cb K (wk t (L.map (Av t)) c) out n (i:Int) m s).bind (fun z=>Sum.elim (fun q=>some (q.1,q.2)) (fun q=>some (q.1,q.2)) z)=some (g,s')
 |d,0,i,m,s,b,s',h,hn,_,_=>by omega
 |0,n+1,i,m,s,b,s',h,hn,hm,a=>by
  have e:((wk t (L.map (Av t)) c).Dq.length:Int)=L.length:=by show((List.map _ _).length:Int)=_;simp
  rw[List.drop_eq_nil_of_le (by omega)] at a;have:(true,s)=(b,s'):=Option.some.inj a;injection this with x j
  subst j;refine⟨m,hm,?_⟩;rw[CB.eq_2,cf (df (by omega))];rfl
 |d+1,n+1,i,m,s,b,s',h,hn,hm,a=>by
  have e:((wk t (L.map (Av t)) c).Dq.length:Int)=L.length:=by show((List.map _ _).length:Int)=_;simp
  have v:=f.kl;have y:=f.nl;have hi:i<L.length:=by omega
  have l:i<(wk t (L.map (Av t)) c).Dq.length:=by show i<(List.map _ _).length;simpa using hi
  have j:(wk t (L.map (Av t)) c).Dq[i]'l=Av t L[i]:=by simp[wk]
  obtain⟨p,k,g1⟩:=MC hK f (L.map (Av t)) hm L[i];have g2:DV K t (arr (As t L[i])) out=some (BB (As t L[i]) out 0 t.Ao):=No hK t (by rw[Df];exact v) (fun n hn=>by rw[Df];exact(f.note n hn).1) (by omega) o;rw[CB.eq_2,ct (dt (by omega)),BS l,j];show∃g,Dr t g∧(((FK K (wk t (L.map (Av t)) m) (Av t L[i])).bind _).bind _)=_;rw[bd g1];show∃g,Dr t g∧(((DV K t (arr (As t L[i])) out).bind _).bind _)=_;rw[bd g2];unfold DU at a;rw[List.drop_eq_getElem_cons hi,List.filter_cons] at a;cases hr:BB (As t L[i]) out 0 t.Ao with
  |false=>
   rw[hr,if_neg (by simp)] at a;rw[cf rfl,AZ (by omega) (by omega),CZ i];exact Fi f o cb L u c d n (i+1) p s b s' (by omega) (by omega) k a
  |true=>
   rw[hr,if_pos rfl,List.map_cons,run] at a;rw[ct rfl];cases w:cb s (Av t L[i],arr (As t L[i])) with
   |none=>rw[w] at a;cases a
   |some r=>
    obtain⟨b1,s1⟩:=r;rw[w,Option.bind_some] at a;rw[Option.bind_some];cases b1 with
    |false=>
     have:(false,s1)=(b,s'):=Option.some.inj a;injection this with x j
     subst j;exact⟨p,k,rfl⟩
    |true=>
     rw[nt,AZ (by omega) (by omega),CZ i];exact Fi f o cb L u c d n (i+1) p s1 b s' (by omega) (by omega) k a
theorem Gt{σ:Type}{t:Aj}(c:OkT t){out:List Int}(d:out.length≤900)(cb:σ→(Be×Be)→Option (Bool×σ)){L:List (List Int)}(e:L.length≤150){m:List (List Int×Int)}(hm:Dr t m){s:σ}{b:Bool}{s':σ}
  (h:run cb (DU t out L) s=some (b,s')):∃a,Dr t a∧FG K cb (wk t (L.map (Av t)) m) out s=some (a,s'):=
 Fi hK c d cb L e m L.length K 0 m s b s' (by omega) (by omega) hm (by rw[List.drop_zero];exact h)
theorem GN{t:Aj}(c:OkT t){out:List Int}(d:out.length≤900){L:List (List Int)}(f:L.length≤150){m:List (List Int×Int)}(hm:Dr t m):
  ∃a,Dr t a∧BM K (wk t (L.map (Av t)) m) out=some (L.any fun l=>BB (As t l) out 0 t.Ao,a):=by
 have hr:∃b,run (fun(st:Bool×Bool) (x:Be×Be)=>cond st.2 none (Ff st.1 x)) (DU t out L) (false,false)=some (b,(L.any fun l=>BB (As t l) out 0 t.Ao,L.any fun l=>BB (As t l) out 0 t.Ao)):=by
  have e:(L.any fun l=>BB (As t l) out 0 t.Ao)= !(DU t out L).isEmpty:=by
   unfold DU;rw[Bool.eq_iff_iff,List.any_eq_true];simp
  rw[e];cases DU t out L with
  |nil=>exact⟨true,rfl⟩
  |cons x X=>exact⟨false,rfl⟩
 obtain⟨b,hr⟩:=hr;obtain⟨a,h1,h2⟩:=Gt hK c d _ f hm hr;refine⟨a,h1,?_⟩;unfold BM;rw[bd h2];cases L.any fun l=>BB (As t l) out 0 t.Ao<;>rfl
end
theorem Ie:∀i:Nat,i<6→E5 .u64 (i:Int)=some ()∧EV 1 (i:Int)=some ()∧CY 1 (i:Int)=((2^i:Nat):Int)∧2^i≤32∧1≤2^i∧EV 2 (i:Int)=some ()∧CY 2 (i:Int)=((2^(i+1):Nat):Int):=by decide+kernel
theorem PQ(a b:Nat):GX (a:Int) (b:Int)=((a|||b:Nat):Int):=by unfold GX;rw[Int.toNat_natCast,Int.toNat_natCast]
theorem RV(a b:Nat):It (a:Int) (b:Int)=((a&&&b:Nat):Int):=by unfold It;rw[Int.toNat_natCast,Int.toNat_natCast]
theorem KL{β:Type}{a b:Int}{f:Unit→Option β}(h0:0≤a∧a≤9223372036854775807)(h1:0≤b∧b≤9223372036854775807):(GG a b).bind f=f ():=bd (if_pos ⟨h0,h1⟩)
def CF(t:Aj)(l:List Int):Bool:=BJ t.C l&&BB (As t l) [] 0 t.Ao
def Bd(t:Aj):List (List Int):=(Bo t.C).filter fun l=>BB (As t l) [] 0 t.Ao
section
variable{K:Nat}(hK:1000≤K)
include hK
theorem L2{t:Aj}(a:OkT t):CL K t=some ((2^t.Ao.length-1:Nat):Int):=by
 have d:=a.nl;obtain⟨s1,s2,b,e,c,_⟩:=Ie t.Ao.length (by omega);unfold CL;rw[bd s1,bd s2,b,AZ (by omega) (by omega),Int.natCast_sub c];rfl
end
section
variable{K:Nat}(hK:1000≤K)
include hK
theorem MN(t:Aj):B6 K t=some (DP t&&decide (CP t=0)):=by
 unfold B6;rw[bd (O5 hK t)];cases h:DP t with
 |false=>rw[cf rfl,Bool.false_and]
 |true=>
  rw[ct rfl,bd (LQ hK t (E9 h)),Bool.true_and];try rfl
end
def B5 (t:Aj):Int:=if CP t≠0 then CP t else if Bo t.C=[] then 11 else 0
def BQ(t:Aj):Int:=if B5 t≠0 then B5 t else if Bd t=[] then 9 else 0
theorem Cq{t:Aj}(h:B5 t=0):CP t=0∧Bo t.C≠[]:=by
 unfold B5 at h;split at h
 ·rename_i h1;exact absurd h h1
 rename_i h1
 split at h
 ·cases h
 exact⟨Decidable.byContradiction h1,‹_›⟩
theorem Ds{t:Aj}(h:BQ t=0):B5 t=0∧Bd t≠[]:=by
 unfold BQ at h;split at h
 ·rename_i h1;exact absurd h h1
 rename_i h1
 split at h
 ·cases h
 exact⟨Decidable.byContradiction h1,‹_›⟩
theorem Jr{α:Type}(l:List α):((l.length:Int)==0)=true↔l=[]:=by
 rw[beq_iff_eq];constructor
 ·intro h;exact List.eq_nil_of_length_eq_zero (by omega)
 ·rintro rfl;rfl
theorem IC{α:Type}{l:List α}(h:l≠[]):((l.length:Int)==0)=false:=by
 rw[Bool.eq_false_iff];exact fun g=>h ((Jr l).1 g)
section
variable{K:Nat}(hK:1000≤K)
include hK
theorem H3{t:Aj}(a:OkT t){L:List (List Int)}(b:Tr t L):L=[]↔Bo t.C=[]:=by
 constructor
 ·rintro rfl;refine List.eq_nil_iff_forall_not_mem.2 fun l hl=>?_;obtain⟨_,h,_⟩:=b.all l ((CV a.c).1 hl);cases h
 ·intro h;refine List.eq_nil_iff_forall_not_mem.2 fun l hl=>?_;have:=(CV a.c).2 (b.Jq l hl);rw[h] at this;cases this
theorem JJ{t:Aj}(a:OkT t){L:List (List Int)}(b:Tr t L)(p:List Int→Bool)(d:∀l l',Av t l=Av t l'→p l=p l'):L.any p=(Bo t.C).any p:=by
 rw[Bool.eq_iff_iff,List.any_eq_true,List.any_eq_true];constructor
 ·rintro⟨l,hl,h⟩;exact⟨l,(CV a.c).2 (b.Jq l hl),h⟩
 ·rintro⟨l,hl,h⟩;obtain⟨l',h1,h2⟩:=b.all l ((CV a.c).1 hl);exact⟨l',h1,by rw[d l' l h2];exact h⟩
theorem G3 {t:Aj} (h:DP t=true) (a:Bool):
  (B5 t=0∧a=true∧∃L,Tr t L∧L≠[]∧CX K t a=some (some (wk t (L.map (Av t)) []),0))∨
  (¬(B5 t=0∧a=true)∧CX K t a=some (none,if CP t=0∧a=false then 2 else B5 t)):=by
 unfold CX;rw[bd (Iq hK t (E9 h))]
 by_cases h0:CP t=0
 ·have b:=D6 h h0;rw[cf (E6 h0)];cases a with
  |false=>exact .inr ⟨by simp,by rw[nf,if_pos ⟨h0,rfl⟩]⟩
  |true=>
   obtain⟨L,c,e⟩:=KO hK b;rw[nt,bd e];have d:(wk t (L.map (Av t)) []).Dq=L.map (Av t):=rfl;rw[d,List.length_map]
   by_cases h1:L=[]
   ·have h2:=(H3 hK b c).1 h1;refine .inr ⟨by rintro⟨f,_⟩;exact(Cq f).2 h2,?_⟩;rw[ct ((Jr _).2 h1),if_neg (by simp)];unfold B5;rw[if_neg (by simp[h0]),if_pos h2]
   ·have h2:Bo t.C≠[]:=fun g=>h1 ((H3 hK b c).2 g);refine .inl ⟨?_,rfl,L,c,h1,by rw[cf (IC h1)]⟩;unfold B5;rw[if_neg (by simp[h0]),if_neg h2]
 ·rw[ct (Fy h0)];refine .inr ⟨fun g=>h0 (Cq g.1).1,?_⟩;rw[if_neg (by simp[h0])];unfold B5;rw[if_pos h0]
theorem Hj{t:Aj}(a:OkT t)(out:List Int)(l l':List Int)(h:Av t l=Av t l'):BB (As t l) out 0 t.Ao=BB (As t l') out 0 t.Ao:=by
 rw[F8 a.kl h]
theorem Hl{t:Aj}(h:DP t=true)(c:Bool):
  (BQ t=0∧c=true∧∃L m,Tr t L∧Dr t m∧CD K t c=some (some (wk t (L.map (Av t)) m),0))∨
  (¬(BQ t=0∧c=true)∧CD K t c=some (none,if CP t=0∧c=false then 2 else BQ t)):=by
 unfold CD;rcases G3 hK h c with⟨h0,n,L,i,d,e⟩|⟨h0,e⟩
 ·have j:=D6 h (Cq h0).1;rw[bd e];obtain⟨m,hm,g⟩:=GN hK j (out:=[]) (by simp) i.len (Ky t);have o:(L.any fun l=>BB (As t l) [] 0 t.Ao)=(Bo t.C).any fun l=>BB (As t l) [] 0 t.Ao:=JJ hK j i _ (Hj hK j [])
  by_cases h1:Bd t=[]
  ·have f:BQ t=9:=by unfold BQ;rw[if_neg (by simp[h0]),if_pos h1]
   refine .inr ⟨by rw[f];simp,?_⟩;have k:((Bo t.C).any fun l=>BB (As t l) [] 0 t.Ao)=false:=by
    rw[Bool.eq_false_iff];intro hh;obtain⟨l,hl,hr⟩:=List.any_eq_true.1 hh;have:l∈Bd t:=List.mem_filter.2 ⟨hl,hr⟩;rw[h1] at this;cases this
   show(cond ((0:Int) !=0) (some ((none:Option DO),(0:Int))) ((BM K (wk t (L.map (Av t)) []) []).bind _)=_);rw[cf (E6 rfl),bd g,o,k,nf,f,n,if_neg (by simp)]
  ·have f:BQ t=0:=by unfold BQ;rw[if_neg (by simp[h0]),if_neg h1]
   have k:((Bo t.C).any fun l=>BB (As t l) [] 0 t.Ao)=true:=by
    obtain⟨l,hl⟩:=List.exists_mem_of_ne_nil _ h1;obtain⟨a,b⟩:=List.mem_filter.1 hl;exact List.any_eq_true.2 ⟨l,a,b⟩
   refine .inl ⟨f,n,L,m,i,hm,?_⟩;show(cond ((0:Int) !=0) (some ((none:Option DO),(0:Int))) ((BM K (wk t (L.map (Av t)) []) []).bind _)=_);rw[cf (E6 rfl),bd g,o,k,nt];rfl
 ·rw[bd e];have d:(if CP t=0∧c=false then (2:Int) else B5 t)≠0:=by
   split
   ·omega
   ·rename_i hh
    intro g;refine h0 ⟨g,?_⟩;cases c with
    |true=>rfl
    |false=>exact absurd ⟨(Cq g).1,rfl⟩ hh
  refine .inr ⟨fun g=>h0 ⟨(Ds g.1).1,g.2⟩,?_⟩;show cond (_ !=0) _ _=_;rw[ct (Fy d)]
  congr 2
  split
  ·rfl
  ·rename_i hh
   have:B5 t≠0:=by rw[if_neg hh] at d;exact d
   unfold BQ;rw[if_pos this]
end
theorem Ma{β:Type}{f:Unit→Option β}{x:Nat}(h:x<64):(E5 .u64 (x:Int)).bind f=f ():=bd (by
 have:∀x:Nat,x<64→E5 .u64 (x:Int)=some ():=by decide+kernel
 exact this x h)
theorem JZ{β:Type}{f:Unit→Option β}{a:Int}{x:Nat}(h:x<64):(Hn a (x:Int)).bind f=f ():=bd (if_pos ⟨by omega,by omega⟩)
theorem HU(s x:Nat):ER (s:Int) (x:Int)=((s/2^x:Nat):Int):=by
 unfold ER;rw[show(x:Int).toNat=x by omega];simp
theorem Wb(a b:Nat):NB (a:Int) (b:Int)=((a^^^(a&&&b):Nat):Int):=by unfold NB;rw[Int.toNat_natCast,Int.toNat_natCast]
theorem tb(s i:Nat):(s/2^i%2==1)=s.testBit i:=by rw[Nat.testBit_eq_decide_div_mod_eq];rfl
def Ba (s:Nat):List Int:=((List.range 8).filter fun x=>s.testBit x).map fun x:Nat=>(x:Int)
def lexB:List Int→List Int→Bool
 |a::c,b::d=>if a=b then lexB c d else decide (a<b)
 |[],_::_=>true
 |_,[]=>false
def sh (a b:List Int):Bool:=decide (a.length<b.length)||(a.length==b.length&&lexB a b)
theorem Hz:∀a:List Int,lexB a a=false
 |[]=>rfl
 |a::b=>by rw[lexB,if_pos rfl,Hz b]
theorem Et:∀a b:List Int,lexB a b=false→lexB b a=false→a=b
 |[],[],_,_=>rfl
 |[],b::c,h,_=>by cases h
 |a::d,[],_,h=>by cases h
 |a::d,b::c,h,g=>by
  rw[lexB] at h g
  by_cases e:a=b
  ·rw[if_pos e] at h;rw[if_pos e.symm] at g;rw[e,Et d c h g]
  ·rw[if_neg e,decide_eq_false_iff_not] at h;rw[if_neg (Ne.symm e),decide_eq_false_iff_not] at g;omega
theorem IP:∀a b c:List Int,lexB a b=true→lexB b c=true→lexB a c=true
 |[],b,[],h1,h2=>by cases b<;>cases h1;cases h2
 |[],b,c::g,h1,h2=>rfl
 |a::d,[],c,h1,h2=>by cases h1
 |a::d,b::h,[],h1,h2=>by cases h2
 |a::d,b::h,c::g,h1,h2=>by
  rw[lexB] at h1 h2⊢
  by_cases e:a=b
  ·subst e;rw[if_pos rfl] at h1
   by_cases f:a=c
   ·subst f;rw[if_pos rfl] at h2⊢;exact IP d h g h1 h2
   ·rw[if_neg f] at h2⊢;exact h2
  ·rw[if_neg e,decide_eq_true_eq] at h1
   by_cases f:b=c
   ·subst f;rw[if_neg e,decide_eq_true_eq];exact h1
   ·rw[if_neg f,decide_eq_true_eq] at h2;rw[if_neg (by omega),decide_eq_true_eq];omega
theorem EL{a b:List Int}:sh a b=true↔a.length<b.length∨(a.length=b.length∧lexB a b=true):=by simp[sh]
theorem Mu(a:List Int):sh a a=false:=by
 rw[Bool.eq_false_iff];intro h;rcases EL.1 h with h|h
 ·omega
 ·rw[Hz] at h;cases h.2
theorem KP{a b:List Int}(h:sh a b=false)(g:sh b a=false):a=b:=by
 rw[Bool.eq_false_iff] at h g;have h1:a.length=b.length:=by
  refine Decidable.byContradiction fun e=>?_;rcases Nat.lt_or_gt_of_ne e with e|e
  ·exact h (EL.2 (.inl e))
  ·exact g (EL.2 (.inl e))
 refine Et a b ?_ ?_
 ·rw[Bool.eq_false_iff];exact fun e=>h (EL.2 (.inr ⟨h1,e⟩))
 ·rw[Bool.eq_false_iff];exact fun e=>g (EL.2 (.inr ⟨h1.symm,e⟩))
theorem Nh{a b c:List Int}(h:sh a b=true)(g:sh b c=true):sh a c=true:=by
 rw[EL] at h g⊢;rcases h with h|h<;>rcases g with g|g
 ·exact .inl (by omega)
 ·exact .inl (by omega)
 ·exact .inl (by omega)
 ·exact .inr ⟨by omega,IP _ _ _ h.2 g.2⟩
theorem Ga{s:Nat}{r:Int}:r∈Ba s↔∃x:Nat,x<8∧s.testBit x=true∧r=x:=by
 unfold Ba;simp only[List.mem_map,List.mem_filter,List.mem_range];constructor
 ·rintro⟨x,⟨h1,h2⟩,rfl⟩;exact⟨x,h1,h2,rfl⟩
 ·rintro⟨x,h1,h2,rfl⟩;exact⟨x,⟨h1,h2⟩,rfl⟩
theorem JB{s x k:Nat}(hs:s<2^k)(h:s.testBit x=true):x<k:=by
 refine Decidable.byContradiction fun hx=>?_;rw[Nat.testBit_lt_two_pow (Nat.lt_of_lt_of_le hs (Nat.pow_le_pow_right (by omega) (by omega)))] at h;cases h
theorem Ka{s x:Nat}(hx:x<8):(Ba s).contains (x:Int)=s.testBit x:=by
 rw[Bool.eq_iff_iff,List.contains_iff_mem,Ga];constructor
 ·rintro⟨y,a,h,e⟩;obtain rfl:x=y:=by omega
  exact h
 ·intro h;exact⟨x,hx,h,rfl⟩
theorem I1(s:Nat):(Ba s).length≤8:=by
 unfold Ba;rw[List.length_map];exact Nat.le_trans (List.length_filter_le _ _) (by simp)
theorem GA(s:Nat):(Ba s).Pairwise (· <·):=by
 unfold Ba;rw[List.pairwise_map];have h:(List.range 8).Pairwise (fun a b:Nat=>a<b):=List.pairwise_lt_range;exact(h.sublist (List.filter_sublist)).imp fun h=>by omega
def C9(n:Int):Int→List Int→Bool
 |_,[]=>true
 |lo,x::l=>EB x lo (n-1)&&C9 n (x+1) l
def Ha:List Int→Nat
 |[]=>0
 |x::l=>2^x.toNat|||Ha l
theorem Hb{n:Int}:∀{l:List Int} {lo:Int},lo≤n→C9 n lo l=true→(l.length:Int)≤n-lo
 |[],_,h0,_=>by simp;omega
 |y::l,lo,h0,h=>by
  rw[C9,Bool.and_eq_true,Dv] at h;have:=Hb (by omega) h.2;rw[List.length_cons];omega
theorem MS:∀{l:List Int} (_:∀x∈l,0≤x) (j:Nat),(Ha l).testBit j=true↔(j:Int)∈l
 |[],_,j=>by simp[Ha]
 |x::l,h,j=>by
  have hx:=h x (List.mem_cons_self ..);rw[Ha,Nat.testBit_or,Bool.or_eq_true,MS (fun y a=>h y (List.mem_cons_of_mem _ a)) j,Nat.testBit_two_pow,decide_eq_true_eq,List.mem_cons];constructor
  ·rintro(h|h)
   ·exact .inl (by omega)
   ·exact .inr h
  ·rintro(h|h)
   ·exact .inl (by omega)
   ·exact .inr h
theorem H4{n:Nat}:∀{l:List Int} {lo:Int},l.Pairwise (· <·)→(∀x∈l,lo≤x∧x<(n:Int))→C9 n lo l=true
 |[],_,_,_=>rfl
 |x::l,lo,h,hm=>by
  have hx:=hm x (List.mem_cons_self ..);rw[List.pairwise_cons] at h;rw[C9,Bool.and_eq_true,Dv];exact⟨by omega,H4 h.2 fun y a=>⟨by have:=h.1 y a;omega,(hm y (List.mem_cons_of_mem _ a)).2⟩⟩
theorem GS{n s:Nat}(hs:s<2^n):C9 n 0 (Ba s)=true:=by
 refine H4 (GA s) fun x hx=>?_;obtain⟨y,_,hb,rfl⟩:=Ga.1 hx;have:=JB hs hb;omega
theorem S3{s:Nat}(hs:s<2^8):Ha (Ba s)=s:=by
 refine Nat.eq_of_testBit_eq fun j=>?_;rw[Bool.eq_iff_iff,MS (fun x hx=>by obtain⟨y,_,_,rfl⟩:=Ga.1 hx;omega),Ga];constructor
 ·rintro⟨x,_,hb,e⟩;obtain rfl:j=x:=by omega
  exact hb
 ·intro h;exact⟨j,JB hs h,h,rfl⟩
section
variable{K:Nat}(hK:1000≤K)
include hK
theorem IQ(s:Nat)(hs:s<2^8):∀(d m p:Nat) (acc:List Int),p+d=8→d<m→acc.length≤p→BG (s:Int) m acc (p:Int)=some (acc++((List.range' p d).filter fun x=>s.testBit x).map fun x:Nat=>(x:Int))
 |d,0,p,acc,_,h,_=>by omega
 |0,m+1,p,acc,a,_,ha=>by
  obtain rfl:p=8:=by omega
  rw[BG.eq_2,Ma (by omega),JZ (by omega),HU,Nat.div_eq_of_lt hs,cf (df (by simp))];simp
 |d+1,m+1,p,acc,a,hm,ha=>by
  rw[BG.eq_2,Ma (by omega),JZ (by omega),HU]
  by_cases h0:s/2^p=0
  ·rw[h0,cf (df (by simp))];have:(List.range' p (d+1)).filter (fun x=>s.testBit x)=[]:=by
    rw[List.filter_eq_nil_iff];intro x hx;rw[List.mem_range'_1] at hx;have h1:s<2^p:=by
     rcases Nat.div_eq_zero_iff.1 h0 with h|h
     ·have:=Nat.two_pow_pos p;omega
     ·exact h
    rw[Nat.testBit_lt_two_pow (Nat.lt_of_lt_of_le h1 (Nat.pow_le_pow_right (by omega) (by omega)))];simp
   rw[this,List.map_nil,List.append_nil]
  ·have hq:(0:Int)<((s/2^p:Nat):Int):=by generalize s/2^p=q at h0;omega
   rw[ct (dt hq),Ma (by omega),JZ (by omega),I7 (Int.le_of_lt hq) (by omega),List.range'_succ,List.filter_cons];have e:((((s/2^p:Nat):Int)%2)==1)=s.testBit p:=by
    rw[←tb,Bool.eq_iff_iff,beq_iff_eq,beq_iff_eq];omega
   rw[e];cases s.testBit p with
   |true=>
    rw[ct rfl,Dt (by simp;omega),AZ (by omega) (by omega),CZ p,IQ s hs d m (p+1) _ (by omega) (by omega) (by simp;omega),if_pos rfl,List.map_cons,List.append_assoc];rfl
   |false=>rw[cf rfl,AZ (by omega) (by omega),CZ p,IQ s hs d m (p+1) _ (by omega) (by omega) (by omega),if_neg (by simp)]
theorem M8{s:Nat}(hs:s<2^8):CN K (s:Int)=some (Ba s):=by
 unfold CN Ba;have:=IQ hK s hs 8 K 0 [] (by omega) (by omega) (by simp);rw[Int.natCast_zero,List.nil_append,←List.range_eq_range'] at this;rw[bd this]
omit hK in
theorem Lj (a b:List Int) (ha:a.length≤900) (hb:b.length≤900):∀(n m i:Nat),a.length=i+n→i≤b.length→n<m→
  (Cu a b m (i:Int)).bind (fun z=>Sum.elim (fun q1=>some q1) (fun _=>some (decide ((a.length:Int)<(b.length:Int)))) z)=some (lexB (a.drop i) (b.drop i))
 |n,0,i,h,_,hm=>by omega
 |0,m+1,i,h,Uo,hm=>by
  rw[Cu.eq_2,cf (df (by omega)),List.drop_eq_nil_of_le (by omega:a.length≤i)]
  show some _=_
  by_cases e:i<b.length
  ·rw[List.drop_eq_getElem_cons e,dt (by omega)];rfl
  ·rw[List.drop_eq_nil_of_le (by omega:b.length≤i),df (by omega)];rfl
 |n+1,m+1,i,h,Uo,hm=>by
  have hi:i<a.length:=by omega
  rw[Cu.eq_2,ct (dt (by omega)),List.drop_eq_getElem_cons hi]
  by_cases hj:i<b.length
  ·rw[ct (dt (by omega)),BS hi,BS hj,List.drop_eq_getElem_cons hj,lexB]
   by_cases he:a[i]=b[i]
   ·rw[if_pos he,cf (by simp[he]),AZ (by omega) (by omega),CZ i]
    exact Lj a b ha hb n m (i+1) (by omega) (by omega) (by omega)
   ·rw[if_neg he,ct (by simp[he]),BS hi,BS hj]
    rfl
  ·rw[cf (df (by omega)),List.drop_eq_nil_of_le (by omega:b.length≤i)]
   show some _=_
   rw[df (by omega)];rfl
theorem Oh{a b:List Int}(ha:a.length≤900)(hb:b.length≤900):DD K a b=some (lexB a b):=by
 unfold DD;have:=Lj a b ha hb a.length K 0 (by omega) (by omega) (by omega);rw[Int.natCast_zero,List.drop_zero,List.drop_zero] at this;exact this
theorem Q9{a b:List Int}(ha:a.length≤900)(hb:b.length≤900):E4 K a b=some (sh a b):=by
 unfold E4 sh
 by_cases h:a.length<b.length
 ·rw[ct (dt (by omega)),dt h];rfl
 ·rw[cf (df (by omega)),df h,Bool.false_or]
  by_cases h2:a.length=b.length
  ·rw[ct (by simp[h2]),bd (Oh hK ha hb)];simp[h2]
  ·rw[cf (by simp;omega)];simp[h2]
omit hK in
theorem L3:∀i:Nat,i<8→E5 .u64 (i:Int)=some ()∧EV 1 (i:Int)=some ()∧CY 1 (i:Int)=((2^i:Nat):Int)∧2^i≤128∧1≤2^i∧EV 2 (i:Int)=some ()∧CY 2 (i:Int)=((2^(i+1):Nat):Int):=by decide+kernel
theorem L4(n:Int)(hn:0≤n∧n≤8)(l:List Int)(hl:l.length≤900):∀(d m i:Nat) (bits:Nat) (lo:Int),l.length=i+d→d<m→bits<2^8→(i=0→lo=0)→(∀h:0<i,∃h2:i-1<l.length,lo=l[i-1]+1∧0≤lo)→
  (Cy K l n m (bits:Int) (i:Int)).bind (fun z=>Sum.elim (fun q=>some (q.1,q.2)) (fun q=>some (q,true)) z)=some (if C9 n lo (l.drop i)=true then ((bits|||Ha (l.drop i):Nat):Int) else 0,C9 n lo (l.drop i))
 |d,0,i,bits,lo,h,hm,_,_,_=>by omega
 |0,m+1,i,bits,lo,h,hm,hb,_,_=>by
  rw[Cy.eq_2,cf (df (by omega)),List.drop_eq_nil_of_le (by omega),C9,if_pos rfl,Ha,Nat.or_zero];rfl
 |d+1,m+1,i,bits,lo,h,hm,hb,h0,h1=>by
  have hi:i<l.length:=by omega
  rw[Cy.eq_2,ct (dt (by omega)),BS hi,AZ (by omega) (by omega),bd (Jk ..),List.drop_eq_getElem_cons hi,C9];have k:0≤lo:=by
   rcases Nat.eq_zero_or_pos i with e|e
   ·rw[h0 e];omega
   ·exact(h1 e).2.2
  cases hr:EB l[i] 0 (n-1) with
  |false=>
   have:EB l[i] lo (n-1)=false:=by rw[LP] at hr⊢;omega
   rw[nf,this,Bool.false_and,if_neg (by simp)];rfl
  |true=>
   rw[Dv] at hr;obtain⟨x,hx⟩:∃x:Nat,l[i]=(x:Int):=⟨l[i].toNat,by omega⟩;obtain⟨s1,s2,b,o,p,_⟩:=L3 x (by omega);have f:2^x<2^8:=Nat.pow_lt_pow_right (by omega) (by omega);have rest:∀(a:lo≤l[i]),(Cy K l n m ((bits|||2^x:Nat):Int) ((i+1:Nat):Int)).bind (fun z=>Sum.elim (fun q=>some (q.1,q.2)) (fun q=>some (q,true)) z)=
     some (if (EB l[i] lo (n-1)&&C9 n (l[i]+1) (l.drop (i+1)))=true then ((bits|||Ha (l[i]::l.drop (i+1)):Nat):Int) else 0,EB l[i] lo (n-1)&&C9 n (l[i]+1) (l.drop (i+1))):=fun a=>by
    rw[Dv.2 ⟨a,hr.2⟩,Bool.true_and,L4 n hn l hl d m (i+1) (bits|||2^x) (l[i]+1) (by omega) (by omega) (Nat.or_lt_two_pow hb f) (fun h=>by omega) (fun _=>⟨by omega,rfl,by omega⟩),Ha,hx,Int.toNat_natCast,Nat.or_assoc]
   rw[nt]
   by_cases c:0<i
   ·obtain⟨g,r,_⟩:=h1 c;have j:(i:Int)-1=((i-1:Nat):Int):=by omega
    rw[ct (dt (by omega)),BS hi,AZ (by omega) (by omega),j,BS g]
    by_cases hle:l[i]≤l[i-1]
    ·have:EB l[i] lo (n-1)=false:=by rw[LP];omega
     rw[ct (dt hle),this,Bool.false_and,if_neg (by simp)];rfl
    ·rw[cf (df hle),BS hi,hx,bd s1,bd s2,b,KL (by omega) (by omega),AZ (by omega) (by omega),CZ i,PQ,←hx];exact rest (by omega)
   ·rw[cf (df (by omega)),BS hi,hx,bd s1,bd s2,b,KL (by omega) (by omega),AZ (by omega) (by omega),CZ i,PQ,←hx];exact rest (by rw[h0 (by omega)];omega)
theorem Pe{n:Int}(hn:0≤n∧n≤8){l:List Int}(hl:l.length≤900):EF K l n=some (if C9 n 0 l=true then ((Ha l:Nat):Int) else 0,C9 n 0 l):=by
 have:=L4 hK n hn l hl l.length K 0 0 0 (by omega) (by omega) (by omega) (fun _=>rfl) (fun h=>by omega);rw[Int.natCast_zero,List.drop_zero,Nat.zero_or] at this;exact this
end
def FV (n:Nat):Nat→List Int→Nat→List (List Int)
 |0,l,_=>[l]
 |m+1,l,a=>(List.range' a (n-m-a)).flatMap fun t:Nat=>FV n m (l++[(t:Int)]) (t+1)
def FJ(n i d:Nat):List (List Int):=(List.range' i d).flatMap fun m=>FV n m [] 0
def Fq (p:List Int→Bool):List Int→List (List Int)→List Int
 |cur,[]=>cur
 |_,c::cs=>if p c=true then c else Fq p c cs
theorem Ir(p:List Int→Bool):∀(xs ys:List (List Int)) (cur:List Int),xs.any p=false→Fq p cur (xs++ys)=Fq p (Fq p cur xs) ys
 |[],ys,cur,_=>rfl
 |x::xs,ys,cur,h=>by
  rw[List.any_cons,Bool.or_eq_false_iff] at h;simp only[List.cons_append,Fq,h.1];exact Ir p xs ys x h.2
theorem Is(p:List Int→Bool):∀(xs ys:List (List Int)) (cur:List Int),xs.any p=true→Fq p cur (xs++ys)=Fq p cur xs
 |[],ys,cur,h=>by cases h
 |x::xs,ys,cur,h=>by
  simp only[List.cons_append,Fq];cases hx:p x with
  |true=>rfl
  |false=>
   rw[List.any_cons,hx,Bool.false_or] at h;exact Is p xs ys x h
theorem Kj{p:List Int→Bool}:∀{L:List (List Int)} (cur:List Int),L.any p=true→∃A x B,L=A++x::B∧p x=true∧(∀a∈A,p a=false)∧Fq p cur L=x
 |[],cur,h=>by cases h
 |c::L,cur,h=>by
  by_cases b:p c=true
  ·exact⟨[],c,L,rfl,b,by simp,by rw[Fq,if_pos b]⟩
  ·have d:p c=false:=by simpa using b
   rw[List.any_cons,d,Bool.false_or] at h;obtain⟨A,x,B,h1,h2,e,f⟩:=Kj c h;refine⟨c::A,x,B,by rw[h1];rfl,h2,?_,by rw[Fq,if_neg b];exact f⟩;intro a ha;rcases List.mem_cons.1 ha with rfl|ha
   ·exact d
   ·exact e a ha
theorem Mb:∀n:Nat,n<8→∀l∈FJ n 0 (n+1),∃s:Nat,s<2^n∧Ba s=l:=by decide+kernel
theorem Mc:∀n:Nat,n<8→∀s:Nat,s<2^n→Ba s∈FJ n 0 (n+1):=by decide+kernel
theorem LO:∀n:Nat,n<8→(FJ n 0 (n+1)).Pairwise fun a b=>sh a b=true:=by decide+kernel
structure EC (n:Nat) (p:List Int→Bool) (x:List Int):Prop where
 is:∃s,s<2^n∧Ba s=x
 ok:p x=true
 least:∀s,s<2^n→p (Ba s)=true→sh (Ba s) x=false
theorem EC.uniq{n:Nat}{p:List Int→Bool}{x y:List Int}(h:EC n p x)(g:EC n p y):x=y:=by
 obtain⟨s,hs,rfl⟩:=h.is;obtain⟨s',a,rfl⟩:=g.is;exact KP (g.least s hs h.ok) (h.least s' a g.ok)
theorem EC.PD{n:Nat}{p:List Int→Bool}{x:List Int}(h:EC n p x):C9 n 0 x=true:=by
 obtain⟨s,hs,rfl⟩:=h.is;exact GS hs
theorem EC.len{n:Nat}{p:List Int→Bool}{x:List Int}(h:EC n p x):x.length≤n:=by
 have:=Hb (by omega) h.PD;omega
theorem Om{n:Nat}(hn:n<8){p:List Int→Bool}(cur:List Int)(h:(FJ n 0 (n+1)).any p=true):EC n p (Fq p cur (FJ n 0 (n+1))):=by
 obtain⟨A,x,B,g1,g2,g3,g4⟩:=Kj cur h;rw[g4];have hs:=LO n hn;refine⟨Mb n hn x (by rw[g1];simp),g2,fun s b c=>?_⟩;have a:=Mc n hn s b;rw[g1] at a hs;rw[List.pairwise_append] at hs;rcases List.mem_append.1 a with h|h
 ·rw[g3 _ h] at c;cases c
 ·rcases List.mem_cons.1 h with h|h
  ·rw[h];exact Mu _
  ·have h1:=(List.pairwise_cons.1 hs.2.1).1 _ h;rw[Bool.eq_false_iff];intro h2;have:=Nh h1 h2;rw[Mu] at this;cases this
theorem On{n:Nat}(hn:n<8)(p:List Int→Bool):(FJ n 0 (n+1)).any p=true↔∃s,s<2^n∧p (Ba s)=true:=by
 rw[List.any_eq_true];constructor
 ·rintro⟨l,hl,a⟩;obtain⟨s,hs,rfl⟩:=Mb n hn l hl;exact⟨s,hs,a⟩
 ·rintro⟨s,hs,a⟩;exact⟨_,Mc n hn s hs,a⟩
section
variable{K:Nat}(hK:1000≤K)
include hK
theorem NA{σ:Type}{I:σ→Prop}{p:List Int→Bool}{n m:Nat}{l:List Int}(hn:n<8)(hm:l.length+(m+1)≤n)(b:(List Int)→Int→Int→(List Int)→Int→σ→Option (Bool×(List Int)×σ))
  (ih:∀(t:Nat) (q:List Int) (s:σ),t<n→I s→∃s',I s'∧b (l++[(t:Int)]) ((t+1:Nat):Int) (m:Int) q (n:Int) s=some ((FV n m (l++[(t:Int)]) (t+1)).any p,Fq p q (FV n m (l++[(t:Int)]) (t+1)),s')):
  ∀(d k i:Nat) (q:List Int) (s:σ),d=n-m-i→d<k→i≤n→I s→∃s',I s'∧
   (EH b l ((m+1:Nat):Int) (n:Int) k (i:Int) q s).bind (fun z=>Sum.elim (fun a=>some (a.1,a.2.1,a.2.2)) (fun a=>some (false,a.1,a.2)) z)=
   some (((List.range' i d).flatMap fun t:Nat=>FV n m (l++[(t:Int)]) (t+1)).any p,Fq p q ((List.range' i d).flatMap fun t:Nat=>FV n m (l++[(t:Int)]) (t+1)),s')
 |d,0,i,q,s,h,hk,_,_=>by omega
 |0,k+1,i,q,s,h,hk,hi,hs=>by
  refine⟨s,hs,?_⟩;rw[EH.eq_2,AZ (by omega) (by omega),cf (df (by omega))];rfl
 |d+1,k+1,i,q,s,h,hk,hi,hs=>by
  have f:(((m+1:Nat):Int)-1)=(m:Int):=by omega
  obtain⟨s1,c,g1⟩:=ih i q s (by omega) hs;rw[EH.eq_2,AZ (by omega) (by omega),ct (dt (by omega)),Dt (by omega),Dt (by simp;omega),AZ (by omega) (by omega),AZ (by omega) (by omega),f,CZ i,bd g1,List.range'_succ,List.flatMap_cons];cases ha:(FV n m (l++[(i:Int)]) (i+1)).any p with
  |true=>
   refine⟨s1,c,?_⟩;rw[List.any_append,ha,Is p _ _ _ ha,Bool.true_or];rfl
  |false=>
   obtain⟨s2,e,g2⟩:=NA hn hm b ih d k (i+1) (Fq p q (FV n m (l++[(i:Int)]) (i+1))) s1 (by omega) (by omega) (by omega) c;refine⟨s2,e,?_⟩;rw[List.any_append,ha,Ir p _ _ _ ha,Bool.false_or,cf rfl,AZ (by omega) (by omega)];exact g2
theorem OT{σ:Type}{I:σ→Prop}{p:List Int→Bool}{n:Nat}(hn:n<8)(cb:σ→List Int→Option (Bool×σ))(c:∀s x,I s→x.length≤n→(∀y∈x,0≤y∧y<(n:Int))→∃s',I s'∧cb s x=some (p x,s')):
  ∀(m k a:Nat) (l q:List Int) (s:σ),m<k→I s→l.length+m≤n→(∀y∈l,0≤y∧y<(n:Int))→a≤n→∃s',I s'∧Ek K cb k l (a:Int) (m:Int) q (n:Int) s=some ((FV n m l a).any p,Fq p q (FV n m l a),s')
 |m,0,a,l,q,s,h,_,_,_,_=>by omega
 |0,k+1,a,l,q,s,h,hs,hl,hb,_=>by
  obtain⟨s1,h1,g⟩:=c s l hs (by omega) hb;refine⟨s1,h1,?_⟩;rw[Ek.eq_2,ct (EO (by omega)),bd g,FV,List.any_cons,List.any_nil,Bool.or_false,Fq,Fq];cases p l<;>rfl
 |m+1,k+1,a,l,q,s,h,hs,hl,hb,d=>by
  rw[Ek.eq_2,cf (Gw (by omega)),FV];exact NA hK (p:=p) hn hl (Ek K cb k) (fun t q s e hs=>OT hn cb c m k (t+1) (l++[(t:Int)]) q s (by omega) hs (by simp;omega) (fun y b=>by
   rcases List.mem_append.1 b with b|b
   ·exact hb y b
   ·rw[List.mem_singleton.1 b];omega) (by omega)) (n-m-a) K a q s rfl (by omega) d hs
theorem Md{σ:Type}{I:σ→Prop}{p:List Int→Bool}{n:Nat}(hn:n<8)(cb:σ→List Int→Option (Bool×σ))(a:∀s x,I s→x.length≤n→(∀y∈x,0≤y∧y<(n:Int))→∃s',I s'∧cb s x=some (p x,s')):
  ∀(d k i:Nat) (q:List Int) (s:σ),n+1=i+d→d<k→I s→∃s',I s'∧E7 cb K (n:Int) k false (i:Int) q s=some ((FJ n i d).any p,Fq p q (FJ n i d),s')
 |d,0,i,q,s,h,hk,_=>by omega
 |0,k+1,i,q,s,h,hk,hs=>by
  refine⟨s,hs,?_⟩;rw[E7.eq_2,cf (df (by omega))];rfl
 |d+1,k+1,i,q,s,h,hk,hs=>by
  obtain⟨s1,b,g1⟩:=OT hK hn cb a i K 0 [] q s (by omega) hs (by simp;omega) (by simp) (by omega);rw[Int.natCast_zero] at g1;rw[E7.eq_2,ct (dt (by omega)),bd g1];unfold FJ;rw[List.range'_succ,List.flatMap_cons];cases ha:(FV n i [] 0).any p with
  |true=>
   refine⟨s1,b,?_⟩;rw[List.any_append,ha,Is p _ _ _ ha,Bool.true_or];rfl
  |false=>
   obtain⟨s2,c,g2⟩:=Md hn cb a d k (i+1) (Fq p q (FV n i [] 0)) s1 (by omega) (by omega) b;refine⟨s2,c,?_⟩;rw[List.any_append,ha,Ir p _ _ _ ha,Bool.false_or,cf rfl,AZ (by omega) (by omega),CZ i];exact g2
theorem MM{σ:Type}{I:σ→Prop}{p:List Int→Bool}{n:Nat}(hn:n<8)(cb:σ→List Int→Option (Bool×σ))(a:∀s x,I s→x.length≤n→(∀y∈x,0≤y∧y<(n:Int))→∃s',I s'∧cb s x=some (p x,s')){s:σ}(hs:I s):
  ∃s',I s'∧FL K cb (n:Int) s=some (Fq p [] (FJ n 0 (n+1)),(FJ n 0 (n+1)).any p,s'):=by
 obtain⟨s1,b,g1⟩:=Md hK hn cb a (n+1) K 0 [] s (by omega) (by omega) hs;refine⟨s1,b,?_⟩;unfold FL;rw[Int.natCast_zero] at g1;rw[AZ (by omega) (by omega),bd g1]
end
structure Dy {α:Type} (S:List α) (f:α→Int) (r:AN):Prop where
 lo:∃l∈S,f l=r.Lo
 hi:∃l∈S,f l=r.Hi
 all:∀l∈S,r.Lo≤f l∧f l≤r.Hi
theorem Ji{r s:AN}(h:r.Lo=s.Lo)(g:r.Hi=s.Hi):r=s:=by cases r;cases s;simp at h g;rw[h,g]
theorem Dy.uniq{α:Type}{S:List α}{f:α→Int}{r s:AN}(h:Dy S f r)(g:Dy S f s):r=s:=by
 obtain⟨a,ha,ea⟩:=h.lo;obtain⟨b,hb,j⟩:=g.lo;obtain⟨c,e,ec⟩:=h.hi;obtain⟨d,i,k⟩:=g.hi;have h1:=g.all a ha;have h2:=h.all b hb;have l:=g.all c e;have m:=h.all d i;exact Ji (by omega) (by omega)
theorem Dy.map{α β:Type}{X:List α}{f:α→Int}{S:List β}{g:β→Int}{r:AN}(h:Dy X f r)(h1:∀x∈X,∃l∈S,g l=f x)(h2:∀l∈S,∃x∈X,f x=g l):Dy S g r:=by
 obtain⟨a,ha,ea⟩:=h.lo;obtain⟨c,i,ec⟩:=h.hi;obtain⟨a',b,k⟩:=h1 a ha;obtain⟨j,d,m⟩:=h1 c i;refine⟨⟨a',b,by omega⟩,⟨j,d,by omega⟩,fun l hl=>?_⟩;obtain⟨x,hx,e⟩:=h2 l hl;have:=h.all x hx;omega
theorem Dy.snoc{α:Type}{S:List α}{f:α→Int}{r:AN}(h:Dy S f r)(x:α):Dy (S++[x]) f ⟨min r.Lo (f x),max r.Hi (f x)⟩:=by
 obtain⟨a,ha,ea⟩:=h.lo;obtain⟨c,b,ec⟩:=h.hi;refine⟨?_,?_,fun l hl=>?_⟩
 ·by_cases hh:r.Lo≤f x
  ·exact⟨a,by simp[ha],by simp only;omega⟩
  ·exact⟨x,by simp,by simp only;omega⟩
 ·by_cases hh:f x≤r.Hi
  ·exact⟨c,by simp[b],by simp only;omega⟩
  ·exact⟨x,by simp,by simp only;omega⟩
 ·simp only;rcases List.mem_append.1 hl with hl|hl
  ·have:=h.all l hl;omega
  ·rw[List.mem_singleton.1 hl];omega
theorem Dy.one{α:Type}(f:α→Int)(x:α):Dy [x] f ⟨f x,f x⟩:=⟨⟨x,by simp,rfl⟩,⟨x,by simp,rfl⟩,fun l hl=>by rw[List.mem_singleton.1 hl];simp⟩
theorem FR{t:Aj}(a:OkT t){l l':List Int}(h:Av t l=Av t l'):As t l=As t l':=F8 a.kl h
theorem Fj{t:Aj}{out:List Int}{L:List (List Int)}{x:Be×Be}:x∈DU t out L↔∃l∈L,BB (As t l) out 0 t.Ao=true∧x=(Av t l,arr (As t l)):=by
 unfold DU;simp only[List.mem_map,List.mem_filter];constructor
 ·rintro⟨l,⟨h1,h2⟩,rfl⟩;exact⟨l,h1,h2,rfl⟩
 ·rintro⟨l,h1,h2,rfl⟩;exact⟨l,⟨h1,h2⟩,rfl⟩
theorem D2{t:Aj}(a:OkT t){l:List Int}:l∈Bd t↔CF t l=true:=by
 unfold Bd CF;rw[List.mem_filter,CV a.c,Bool.and_eq_true]
theorem KQ {t:Aj} (b:OkT t) {L:List (List Int)} (e:Tr t L) (g:Be→Be→Int) (f:List Int→Int) (i:∀l,CF t l=true→g (Av t l) (arr (As t l))=f l) {r:AN} (h:Dy (DU t [] L) (fun x=>g x.1 x.2) r):Dy (Bd t) f r:=by
 refine h.map (fun x hx=>?_) (fun l hl=>?_)
 ·obtain⟨l,h1,h2,rfl⟩:=Fj.1 hx;have a:CF t l=true:=by unfold CF;rw[e.Jq l h1,h2];rfl
  exact⟨l,(D2 b).2 a,(i l a).symm⟩
 ·have a:=(D2 b).1 hl;have c:=a;unfold CF at c;rw[Bool.and_eq_true] at c;obtain⟨l',h5,d⟩:=e.all l c.1;refine⟨(Av t l',arr (As t l')),Fj.2 ⟨l',h5,by rw[FR b d];exact c.2,rfl⟩,?_⟩;show g (Av t l') (arr (As t l'))=f l;rw[d,FR b d];exact i l a
section
variable{K:Nat}(hK:1000≤K)
include hK
theorem H5(cb:Unit→Be→Option (Int×Unit))(F:Be→Int):∀(X c:List (Be×Be)) (lo hi:Int),(∀x∈X,cb () x.2=some (F x.2,()))→Dy c (fun x=>F x.2) ⟨lo,hi⟩→
  ∃a b,run (fun(st:Int×Int×Bool×Unit) (x:Be×Be)=>BT cb K st.1 st.2.1 st.2.2.1 st.2.2.2 x) X (lo,hi,false,())=some (true,(a,b,false,()))∧Dy (c++X) (fun x=>F x.2) ⟨a,b⟩
 |[],c,lo,hi,_,h=>⟨lo,hi,rfl,by rw[List.append_nil];exact h⟩
 |x::X,c,lo,hi,d,h=>by
  have h1:BT cb K lo hi false () x=some (true,(min lo (F x.2),max hi (F x.2),false,())):=by
   unfold BT;rw[bd (d x (List.mem_cons_self ..)),cf rfl,bd (Jp hK _ _)]
  obtain⟨a,b,g1,g2⟩:=H5 cb F X (c++[x]) _ _ (fun y e=>d y (List.mem_cons_of_mem _ e)) (h.snoc x);refine⟨a,b,?_,by rw[List.append_assoc] at g2;exact g2⟩;rw[run];show(BT cb K lo hi false () x).bind _=_;rw[bd h1,ct rfl];exact g1
theorem JX{t:Aj}(d:OkT t){L:List (List Int)}(g:Tr t L){m:List (List Int×Int)}(hm:Dr t m)(i:Bd t≠[])(cb:Unit→Be→Option (Int×Unit))(F:Be→Int)(f:List Int→Int)(o:∀l,CF t l=true→F (arr (As t l))=f l)
  (j:∀l,CF t l=true→cb () (arr (As t l))=some (F (arr (As t l)),())):
  ∃h r,Dr t h∧Dy (Bd t) f r∧EE K cb (wk t (L.map (Av t)) m) ()=some (r,h,()):=by
 have a:∀x∈DU t [] L,cb () x.2=some (F x.2,()):=fun x hx=>by
  obtain⟨l,h1,h2,rfl⟩:=Fj.1 hx;exact j l (by unfold CF;rw[g.Jq l h1,h2];rfl)
 have hr:∃lo hi,run (fun(st:Int×Int×Bool×Unit) (x:Be×Be)=>BT cb K st.1 st.2.1 st.2.2.1 st.2.2.2 x) (DU t [] L) (0,0,true,())=some (true,(lo,hi,false,()))∧Dy (DU t [] L) (fun x=>F x.2) ⟨lo,hi⟩:=by
  have c:DU t [] L≠[]:=by
   obtain⟨l,hl⟩:=List.exists_mem_of_ne_nil _ i;have b:=(D2 d).1 hl;unfold CF at b;rw[Bool.and_eq_true] at b;obtain⟨l',h5,p⟩:=g.all l b.1;have:(Av t l',arr (As t l'))∈DU t [] L:=Fj.2 ⟨l',h5,by rw[FR d p];exact b.2,rfl⟩;intro e;rw[e] at this;cases this
  generalize DU t [] L=X at a c;cases X with
  |nil=>exact absurd rfl c
  |cons x X=>
   have h1:BT cb K 0 0 true () x=some (true,(F x.2,F x.2,false,())):=by
    unfold BT;rw[bd (a x (List.mem_cons_self ..)),ct rfl,bd (Jp hK _ _)];show some (true,min (F x.2) (F x.2),max (F x.2) (F x.2),false,())=_;rw[Int.min_self,Int.max_self]
   obtain⟨k,n,g1,g2⟩:=H5 hK cb F X [x] _ _ (fun y q=>a y (List.mem_cons_of_mem _ q)) (Dy.one (fun x:Be×Be=>F x.2) x);refine⟨k,n,?_,g2⟩;rw[run];show(BT cb K 0 0 true () x).bind _=_;rw[bd h1,ct rfl];exact g1
 obtain⟨lo,hi,h1,h2⟩:=hr;obtain⟨h,b,s⟩:=Gt hK d (out:=[]) (by simp) _ g.len hm h1;refine⟨h,⟨lo,hi⟩,b,KQ d g (fun _ M=>F M) f o h2,?_⟩;unfold EE;rw[bd s]
structure QK (t:Aj) (b:List AN):Prop where
 len:b.length=t.Ac.length
 is:∀k (hk:k<b.length),Dy (Bd t) (fun l=>(As t l).getD k 0) b[k]
theorem O2{t:Aj}(h:DP t=true):∃b,F9 K t=some (b,BQ t)∧(BQ t≠0→b=[])∧(BQ t=0→QK t b):=by
 unfold F9;rcases Hl hK h true with⟨h0,_,L,m,aB,hm,e⟩|⟨h0,e⟩
 ·have w:=D6 h (Cq (Ds h0).1).1;have aF:=w.kl;have f:∀(d n i:Nat) (acc:List AN) (c:List (List Int×Int)),t.Ac.length=i+d→d<n→acc.length=i→Dr t c→(∀k (hk:k<acc.length),Dy (Bd t) (fun l=>(As t l).getD k 0) acc[k])→
    ∃b j,QK t b∧E8 K (wk t (L.map (Av t)) m) n acc (i:Int) c=some (b,j):=by
   intro d
   induction d with
   |zero=>
    intro n i acc c aC hn ha o a;obtain⟨n,rfl⟩:∃v,n=v+1:=⟨n-1,by omega⟩;have aD:((wk t (L.map (Av t)) m).weights.length:Int)=t.Ac.length:=by show((List.map _ _).length:Int)=_;simp
    exact⟨acc,c,⟨by omega,a⟩,by rw[E8.eq_2,cf (df (by omega))]⟩
   |succ d ih=>
    intro n i acc c aC hn ha o a;obtain⟨n,rfl⟩:∃v,n=v+1:=⟨n-1,by omega⟩;have aD:((wk t (L.map (Av t)) m).weights.length:Int)=t.Ac.length:=by show((List.map _ _).length:Int)=_;simp
    have y:i<3:=by omega
    have p:∀l:List Int,idx [(arr (As t l)).a0,(arr (As t l)).a1,(arr (As t l)).a2] (i:Int)=some ((As t l).getD i 0):=fun l=>by
     have q:i<(As t l).length:=by rw[Df];omega
     rw[Hr (by rw[Df];omega) q,Cx _ q]
    obtain⟨j,r,z,hr,g⟩:=JX hK w aB o (Ds h0).2 (fun(st:Unit) (x:Be)=>(Fo K x (i:Int)).bind fun r=>some (r,())) (fun x=>([x.a0,x.a1,x.a2]:List Int).getD i 0) (fun l=>(As t l).getD i 0)
     (fun l _=>by
      have:=p l;show([(arr (As t l)).a0,(arr (As t l)).a1,(arr (As t l)).a2]:List Int).getD i 0=_;rw[idx_eq (by simp;omega)] at this;rw[Cx _ (by simp;omega)];exact Option.some.inj this)
     (fun l _=>by
      have:=p l;show(Fo K (arr (As t l)) (i:Int)).bind _=_;unfold Fo;rw[bd (bd this)];have h2:=this;rw[idx_eq (by simp;omega)] at h2;show some (_,())=some (([(arr (As t l)).a0,(arr (As t l)).a1,(arr (As t l)).a2]:List Int).getD i 0,());rw[Cx _ (show i<([(arr (As t l)).a0,(arr (As t l)).a1,(arr (As t l)).a2]:List Int).length from y),←Option.some.inj h2])
    obtain⟨b,aE,hb,g2⟩:=ih n (i+1) (acc++[r]) j (by omega) (by omega) (by simp;omega) z (fun k hk=>by
     by_cases s:k<acc.length
     ·rw[List.getElem_append_left s];exact a k s
     ·have aA:k=i:=by
       have aG:k<acc.length+1:=by simpa using hk
       omega
      subst aA;rw[List.getElem_append_right (by omega)];simpa[ha] using hr)
    refine⟨b,aE,hb,?_⟩;rw[E8.eq_2,ct (dt (by omega))];show((EE K (fun(st:Unit) (x:Be)=>(Fo K x (i:Int)).bind fun r=>some (r,())) (wk t (L.map (Av t)) c) ()).bind _)=_;rw[bd g,Dt (by simp;omega),AZ (by omega) (by omega),CZ i];exact g2
  obtain⟨b,j,hb,g⟩:=f t.Ac.length K 0 [] m (by omega) (by omega) rfl hm (fun k hk=>by simp at hk);refine⟨b,?_,fun hh=>absurd h0 hh,fun _=>hb⟩;rw[bd e];show(E8 K (wk t (L.map (Av t)) m) K [] 0 m).bind _=_;rw[Int.natCast_zero] at g;rw[bd g,h0]
 ·have u:BQ t≠0:=fun g=>h0 ⟨g,rfl⟩;refine⟨[],?_,fun _=>rfl,fun g=>absurd g u⟩;rw[if_neg (by simp)] at e;rw[bd e];show cond (_ !=0) _ _=_;rw[ct (Fy u)]
end
structure FP (W:List Int→Int) (n:Nat) (s:List Int):Prop where
 is:∃b,b<2^n∧Ba b=s
 Kl:∀x,x<2^n→W (Ba x)<W s∨(W (Ba x)=W s∧lexB (Ba x) s=false)
theorem FP.uniq{W:List Int→Int}{n:Nat}{s s':List Int}(h:FP W n s)(g:FP W n s'):s=s':=by
 obtain⟨b,hb,rfl⟩:=h.is;obtain⟨b',a,rfl⟩:=g.is;have h1:=h.Kl b' a;have h2:=g.Kl b hb;rcases h1 with h1|⟨h1,c⟩<;>rcases h2 with h2|⟨h2,d⟩
 ·omega
 ·omega
 ·omega
 ·exact Et _ _ d c
section
variable{K:Nat}(hK:1000≤K)
include hK
end
theorem nl{l l':List Int}(h:l=l'):(l !=l')=false:=by subst h;simp
section
variable{K:Nat}(hK:1000≤K)
include hK
end
theorem OU(s n:Nat):s&&&(2^n-1)<2^n:=by
 have:=Nat.two_pow_pos n;exact Nat.lt_of_le_of_lt Nat.and_le_right (by omega)
def Es(t:Aj)(o:CU):Int:=(t.AH.getD o.En.toNat ⟨0,0⟩).BU
def Gu (t:Aj) (o:CU) (k:Nat):Bool:=decide (o.Ey≤(t.Ac.getD k []).sum)&&(Bd t).all fun l=>decide (Es t o≤CI l (t.Ac.getD k []))
def FE(t:Aj)(o:CU):List Int:=((List.range t.Ac.length).filter (Gu t o)).map fun k:Nat=>(k:Int)
def DF(t:Aj):List (List Int):=t.Aw.map (FE t)
def Dp:List (List Int)→List Int→List Int→Bool
 |[],_,[]=>true
 |s::S,out,x::xs=>s.contains x&&(!out.contains x&&Dp S (out++[x]) xs)
 |_,_,_=>false
structure Gz (t:Aj) (d:List Int):Prop where
 is:Dp (DF t) [] d=true
 first:∀d',Dp (DF t) [] d'=true→lexB d' d=false
theorem Gz.uniq{t:Aj}{d d':List Int}(h:Gz t d)(g:Gz t d'):d=d':=Et _ _ (g.first d h.is) (h.first d' g.is)
section
variable{K:Nat}(hK:1000≤K)
include hK
end
theorem oe{α β b:Type}{a:α}{z:b}{x:β}{f:α→β}:Option.elim (some a,z).1 x f=f a:=rfl
theorem S1{α b:Type}{a:α}{x y:b}:cond ((a,(0:Int)).2 !=0) x y=y:=rfl
section
variable{K:Nat}(hK:1000≤K)
include hK
end
def E1 (t:Aj) (out:List Int):Bool:=(Bo t.C).any fun l=>BB (As t l) out 0 t.Ao
def C8(t:Aj)(ns:List Ct):Aj:=⟨t.Al,t.Ac,t.Ap,t.Flat,t.AH,t.Aw,ns⟩
theorem Qt{t:Aj}(a:OkT t){ns:List Ct}(hl:ns.length≤5)(hn:∀n∈ns,Kr t n=true):OkT (C8 t ns):=by
 refine⟨?_,?_,a.many⟩
 ·obtain⟨h1,h2,b,i⟩:=a.len;exact⟨h1,h2,b,by show ns.length≤_;omega⟩
 ·have h:=HC a.fault;unfold CP;have e:(C8 t ns).C=t.C:=rfl;have c:(C8 t ns).AH=t.AH:=rfl;have d:(C8 t ns).Aw=t.Aw:=rfl;have f:(C8 t ns).Ao=ns:=rfl;have g:(C8 t ns).Flat=t.Flat:=rfl;have j:(fun o=>LL (C8 t ns) o)=LL t:=rfl;have k:(fun o=>Kr (C8 t ns) o)=Kr t:=rfl;have h1:t.Aw.all (LL (C8 t ns))=true:=List.all_eq_true.2 h.2.2.2.2.2.2.2.1;have h2:ns.all (Kr (C8 t ns))=true:=List.all_eq_true.2 hn;rw[e,c,d,f,g,if_neg (by simp[h.1]),if_neg (by omega),if_neg (by have:=Dv.2 h.2.2.2.2.1;simp[this]),if_neg (by omega),if_neg (by simp[h.2.2.2.2.2.2.1]),if_neg (by simp[h1]),if_neg (by simp[h2])]
theorem Re{t:Aj}(a:OkT t):∀n∈t.Ao,Kr t n=true:=(HC a.fault).2.2.2.2.2.2.2.2
theorem PR (M:List Int) {ns:List Ct} (h5:ns.length≤5):BB M (Ba (2^ns.length-1)) 0 ns=true:=by
 rw[Hm];intro j hj;left;rw[Nat.zero_add,Ka (by omega),Nat.testBit_two_pow_sub_one];simpa using hj
def FW (t:Aj) (k:Nat):Bool:=E1 (C8 t (t.Ao.take k)) []
theorem F2(M:List Int)(ns:List Ct):BB M [] 0 ns=true↔∀n∈ns,FT M n=true:=by
 rw[Hm];constructor
 ·intro h n hn;obtain⟨j,hj,rfl⟩:=List.getElem_of_mem hn;rcases h j hj with h1|h1
  ·simp at h1
  ·exact h1
 ·intro h j hj;exact .inr (h _ (List.getElem_mem hj))
theorem GC{t:Aj}{j k:Nat}(h:j≤k)(hk:FW t k=true):FW t j=true:=by
 unfold FW E1 at hk⊢;rw[List.any_eq_true] at hk⊢;obtain⟨l,hl,hr⟩:=hk;refine⟨l,hl,?_⟩;have a:As (C8 t (t.Ao.take k)) l=As t l:=rfl;have b:As (C8 t (t.Ao.take j)) l=As t l:=rfl;have c:(C8 t (t.Ao.take k)).Ao=t.Ao.take k:=rfl;have d:(C8 t (t.Ao.take j)).Ao=t.Ao.take j:=rfl;rw[a,c,F2] at hr;rw[b,d,F2];exact fun n hn=>hr n (List.take_subset_take_left _ h hn)
structure Gb (t:Aj) (i:Nat):Prop where
 lt:i<t.Ao.length
 before:FW t i=true
 not:FW t (i+1)=false
theorem Gb.uniq{t:Aj}{i j:Nat}(h:Gb t i)(g:Gb t j):i=j:=by
 rcases Nat.lt_trichotomy i j with h1|h1|h1
 ·have:=GC (show i+1≤j by omega) g.before;rw[h.not] at this;cases this
 ·exact h1
 ·have:=GC (show j+1≤i by omega) h.before;rw[g.not] at this;cases this
section
variable{K:Nat}(hK:1000≤K)
include hK
theorem Rf{t:Aj}(b:OkT t){out:List Int}(d:out.length≤900){L:List (List Int)}(c:Tr t L){m:List (List Int×Int)}(hm:Dr t m):
  ∃a,Dr t a∧BM K (wk t (L.map (Av t)) m) out=some (E1 t out,a):=by
 obtain⟨a,h1,h2⟩:=GN hK b d c.len hm;refine⟨a,h1,?_⟩;rw[h2];unfold E1;rw[JJ hK b c _ (Hj hK b out)]
theorem R5{t:Aj}(h:DP t=true):∃x,IY K t=some (x,B5 t)∧(B5 t≠0→x=[])∧(B5 t=0→EC t.Ao.length (E1 t) x):=by
 unfold IY;rcases G3 hK h true with⟨h0,_,L,i,a,e⟩|⟨h0,e⟩
 ·have b:=D6 h (Cq h0).1;have c:=b.nl;obtain⟨m,k,g1⟩:=MM hK (n:=t.Ao.length) (by omega) (I:=Dr t) (p:=E1 t) (fun(st:(List (List Int×Int))) (x:(List Int))=>(BM K (wk t (L.map (Av t)) st) x).bind fun r=>some (r.1,r.2)) (fun s x hs hx hb=>by
   obtain⟨j,d,g⟩:=Rf hK b (out:=x) (by omega) i hs;refine⟨j,d,?_⟩;show(BM K (wk t (L.map (Av t)) s) x).bind _=_;rw[bd g]) (Ky t)
  have f:FL K (fun(st:(List (List Int×Int))) (x:(List Int))=>(BM K (⟨(wk t (L.map (Av t)) []).BD,(wk t (L.map (Av t)) []).BE,(wk t (L.map (Av t)) []).By,(wk t (L.map (Av t)) []).DZ,(wk t (L.map (Av t)) []).Ce,(wk t (L.map (Av t)) []).Ca,(wk t (L.map (Av t)) []).CH,(wk t (L.map (Av t)) []).weights,(wk t (L.map (Av t)) []).Dq,st⟩:DO) x).bind fun r=>some (r.1,r.2)) (t.Ao.length:Int) (wk t (L.map (Av t)) []).known=_:=g1;rw[bd e,oe,S1,bd f,h0];refine⟨_,rfl,fun g=>absurd rfl g,fun _=>Om (by omega) [] ?_⟩;rw[On (by omega)];have o:=Nat.two_pow_pos t.Ao.length;refine⟨2^t.Ao.length-1,by omega,?_⟩;unfold E1;rw[List.any_eq_true];obtain⟨l,hl⟩:=List.exists_mem_of_ne_nil _ (Cq h0).2;exact⟨l,hl,PR _ c⟩
 ·have a:B5 t≠0:=fun g=>h0 ⟨g,rfl⟩;refine⟨[],?_,fun _=>rfl,fun g=>absurd g a⟩;rw[if_neg (by simp)] at e;rw[bd e];show cond (_ !=0) _ _=_;rw[ct (Fy a)]
omit hK in
theorem Uu (n s j:Nat):((2^n-1)^^^((2^n-1)&&&s)).testBit j=(decide (j<n)&& !s.testBit j):=by
 rw[Nat.testBit_xor,Nat.testBit_and,Nat.testBit_two_pow_sub_one]
 cases decide (j<n)<;>cases s.testBit j<;>rfl
end
theorem TP{x:Int}(h0:-9223372036854775808≤x)(h1:x≤9223372036854775807):E5 .i64 x=some ():=by
 unfold E5;have:IntKind.i64.wrap x=x:=GO ⟨by omega,by omega⟩;rw[if_pos this]
theorem QL{β:Type}{x:Int}{f:Unit→Option β}(h0:0≤x)(h1:x<65536):(E5 .i64 x).bind f=f ():=bd (TP (by omega) (by omega))
theorem Oq{t:Aj}(b:OkT t):B5 t=0∧Bo t.C≠[]∨B5 t=11∧Bo t.C=[]:=by
 unfold B5
 by_cases a:Bo t.C=[]
 ·right;rw[if_neg (show¬CP t≠0 by simp[b.fault]),if_pos a];exact⟨rfl,a⟩
 ·left;rw[if_neg (show¬CP t≠0 by simp[b.fault]),if_neg a];exact⟨rfl,a⟩
theorem Rr{t:Aj}(b:OkT t)(a:B5 t=0):BQ t=if Bd t=[] then 9 else 0:=by
 unfold BQ;rw[a,if_neg (show¬(0:Int)≠0 by simp)]
theorem NT{t:Aj}:Bd t≠[]↔E1 t []=true:=by
 unfold Bd E1;rw[List.any_eq_true];constructor
 ·intro h;obtain⟨l,hl⟩:=List.exists_mem_of_ne_nil _ h;obtain⟨h1,h2⟩:=List.mem_filter.1 hl;exact⟨l,h1,h2⟩
 ·rintro⟨l,h1,h2⟩ e;have:l∈(Bo t.C).filter fun l=>BB (As t l) [] 0 t.Ao:=List.mem_filter.2 ⟨h1,h2⟩;rw[e] at this;cases this
theorem PS{t:Aj}(a:OkT t)(b:B5 t=0):BQ t=if E1 t []=true then 0 else 9:=by
 rw[Rr a b]
 by_cases h:Bd t=[]
 ·rw[if_pos h,if_neg (fun g=>NT.2 g h)]
 ·rw[if_neg h,if_pos (NT.1 h)]
theorem Sn{t:Aj}(h:DP t=true){ns:List Ct}(hl:ns.length≤7):DP (C8 t ns)=true:=by
 unfold DP at h⊢;rw[Bool.and_eq_true,Bool.and_eq_true,Bool.and_eq_true] at h⊢;exact⟨h.1,h.2.1,h.2.2.1,dt hl⟩
theorem Sq{t:Aj}(a:OkT t){ns:List Ct}(hn:OkT (C8 t ns)):B5 (C8 t ns)=B5 t:=by
 rcases Oq a with⟨h1,h2⟩|⟨h1,h2⟩<;>rcases Oq hn with⟨g1,g2⟩|⟨g1,g2⟩
 ·rw[h1,g1]
 ·exact absurd g2 h2
 ·exact absurd h2 g2
 ·rw[h1,g1]
def Kd(s:Nat):Nat→List Ct→List Ct
 |_,[]=>[]
 |i,n::ns=>if s.testBit i=true then n::Kd s (i+1) ns else Kd s (i+1) ns
theorem PU{s:Nat}:∀{ns:List Ct} {i:Nat} {n:Ct},n∈Kd s i ns↔∃j,∃hj:j<ns.length,s.testBit (i+j)=true∧ns[j]=n
 |[],i,n=>by simp[Kd]
 |x::ns,i,n=>by
  rw[Kd];have ih:=PU (s:=s) (ns:=ns) (i:=i+1) (n:=n);constructor
  ·intro h
   by_cases hb:s.testBit i=true
   ·rw[if_pos hb] at h;rcases List.mem_cons.1 h with rfl|h
    ·exact⟨0,by simp,hb,rfl⟩
    ·obtain⟨j,hj,h1,h2⟩:=ih.1 h;exact⟨j+1,by simpa using hj,by rw[show i+(j+1)=i+1+j by omega];exact h1,by simpa using h2⟩
   ·rw[if_neg hb] at h;obtain⟨j,hj,h1,h2⟩:=ih.1 h;exact⟨j+1,by simpa using hj,by rw[show i+(j+1)=i+1+j by omega];exact h1,by simpa using h2⟩
  ·rintro⟨j,hj,h1,h2⟩;cases j with
   |zero=>rw[if_pos (show s.testBit i=true from h1)];simp at h2;rw[h2];simp
   |succ j=>
    have:n∈Kd s (i+1) ns:=ih.2 ⟨j,by simpa using hj,by rw[show i+1+j=i+(j+1) by omega];exact h1,by simpa using h2⟩;split
    ·exact List.mem_cons_of_mem _ this
    ·exact this
theorem S4(s:Nat):∀(ns:List Ct) (i:Nat),(Kd s i ns).length≤ns.length
 |[],i=>by simp[Kd]
 |x::ns,i=>by
  have:=S4 s ns (i+1);rw[Kd];split
  ·simp;omega
  ·simp;omega
theorem Ab5 (M:List Int) {ns:List Ct} (h5:ns.length≤5) (b:Nat):BB M [] 0 (Kd ((2^ns.length-1)^^^((2^ns.length-1)&&&b)) 0 ns)=BB M (Ba b) 0 ns:=by
 rw[Bool.eq_iff_iff,F2,Hm];constructor
 ·intro h j hj;cases hb:b.testBit j with
  |true=>left;rw[Nat.zero_add,Ka (by omega)];exact hb
  |false=>exact .inr (h _ (PU.2 ⟨j,hj,by rw[Nat.zero_add,Uu,hb,dt hj];rfl,rfl⟩))
 ·intro h n hn;obtain⟨j,hj,h1,rfl⟩:=PU.1 hn;rw[Nat.zero_add,Uu,Bool.and_eq_true] at h1;rcases h j hj with h2|h2
  ·rw[Nat.zero_add,Ka (by omega)] at h2;rw[h2] at h1;exact absurd h1.2 (by decide)
  ·exact h2
theorem Uw{t:Aj}(a:OkT t)(s:Nat):OkT (C8 t (Kd s 0 t.Ao)):=Qt a (by have:=S4 s t.Ao 0;have:=a.nl;omega) fun n hn=>by
 obtain⟨j,hj,_,rfl⟩:=PU.1 hn;exact Re a _ (List.getElem_mem hj)
section
variable{K:Nat}(hK:1000≤K)
include hK
theorem I4(t:Aj):(B6 K t=some false)∨(DP t=true∧OkT t∧B6 K t=some true):=by
 rw[MN hK t];cases h:DP t with
 |false=>exact .inl rfl
 |true=>
  by_cases h0:CP t=0
  ·exact .inr ⟨rfl,D6 h h0,by rw[dt h0];rfl⟩
  ·exact .inl (by rw[df h0];rfl)
theorem VN(t:Aj)(hl:t.Ao.length≤60)(s:Nat):Iw K t (s:Int)=some (C8 t (Kd s 0 t.Ao)):=by
 have a:∀(d m i:Nat) (acc:List Ct),t.Ao.length=i+d→d<m→acc.length≤i→Gg t (s:Int) m (i:Int) acc=some (acc++Kd s i (t.Ao.drop i)):=by
  intro d
  induction d with
  |zero=>
   intro m i acc h hm ha;obtain⟨m,rfl⟩:∃b,m=b+1:=⟨m-1,by omega⟩;rw[Gg.eq_2,cf (df (by omega)),List.drop_eq_nil_of_le (by omega),Kd,List.append_nil]
  |succ d ih=>
   intro m i acc h hm ha;obtain⟨m,rfl⟩:∃b,m=b+1:=⟨m-1,by omega⟩;have hi:i<t.Ao.length:=by omega
   have hq:(0:Int)≤((s/2^i:Nat):Int):=Int.natCast_nonneg _;have e:((((s/2^i:Nat):Int)%2)==1)=s.testBit i:=by
    rw[←tb,Bool.eq_iff_iff,beq_iff_eq,beq_iff_eq];omega
   rw[Gg.eq_2,ct (dt (by omega)),Ma (by omega),JZ (by omega),HU,I7 hq (by omega),e,List.drop_eq_getElem_cons hi,Kd];cases hb:s.testBit i with
   |true=>rw[ct rfl,BS hi,Dt (by simp;omega),AZ (by omega) (by omega),CZ i,ih m (i+1) _ (by omega) (by omega) (by simp;omega),if_pos rfl,List.append_assoc];rfl
   |false=>rw[cf rfl,AZ (by omega) (by omega),CZ i,ih m (i+1) _ (by omega) (by omega) (by omega),if_neg (by simp)]
 have:=a t.Ao.length K 0 [] (by omega) (by omega) (by simp);rw[Int.natCast_zero,List.drop_zero,List.nil_append] at this;unfold Iw;rw[bd this];rfl
theorem S5 {t:Aj} (h:DP t=true) (a:OkT t) (c:B5 t=0) {ns:List Ct} (hn:OkT (C8 t ns)):∃b,F9 K (C8 t ns)=some (b,if E1 (C8 t ns) []=true then 0 else 9):=by
 obtain⟨b,h1,_,_⟩:=O2 hK (Sn h (ns:=ns) (by have:=hn.nl;have e:(C8 t ns).Ao=ns:=rfl;rw[e] at this;omega));exact⟨b,by rw[h1,PS hn (by rw[Sq a hn,c])]⟩
end
end Go.Proofs.YtbhofkcbfblijaaGreat
end
section
namespace Go.Proofs.YtbhofkcbfblijaaGreat
namespace HF
theorem GV:(Tryz.prog.underlying 3).isSome=true:=by kernel_rfl
theorem Qe:Bv Tryz.prog 73:=by unfold Bv;kernel_rfl
theorem Mp:Bv Tryz.prog 61:=by unfold Bv;kernel_rfl
theorem Ms:Bv Tryz.prog 63:=by unfold Bv;kernel_rfl
theorem TN:Bv Tryz.prog 62:=by unfold Bv;kernel_rfl
theorem Pk:(Tryz.prog.info? 67).bind (·.zero)=some (.agg #[.slice none 0 0,.slice none 0 0,.slice none 0 0,I 0,.slice none 0 0,.slice none 0 0,.slice none 0 0]):=by kernel_rfl
theorem Rs:(Tryz.prog.info? 67).map (·.size)=some 7:=by kernel_rfl
theorem SL:(Tryz.prog.info? 65).map (·.size)=some 1:=by kernel_rfl
theorem Rg:(Tryz.prog.info? 121).map (fun i=>(i.zero,i.size,i.bytes))=some (some (.agg #[I 0,I 0,I 0]),3,24):=by kernel_rfl
theorem Rh:(Tryz.prog.underlying 5).isSome=true:=by kernel_rfl
theorem Uv:HO Tryz.prog 121 3:=by unfold HO;exact⟨by kernel_rfl,by kernel_rfl⟩
theorem Sg:Bv Tryz.prog 52:=by unfold Bv;kernel_rfl
theorem NC:Bv Tryz.prog 48:=by unfold Bv;kernel_rfl
theorem VO:Bv Tryz.prog 60:=by unfold Bv;kernel_rfl
end HF
end Go.Proofs.YtbhofkcbfblijaaGreat
end
section
namespace Go.Proofs.YtbhofkcbfblijaaGreat
open Go.RowKit Go.WideShapes
set_option maxRecDepth 20000
open HF
attribute [local irreducible] Eb WL CC CW LV Cw JC HO One Bv
theorem Q7 aU r(Z:Nat→Prop) w aV(a:CN aU r=some aV):
 Cw Tryz.prog 63 #[I r] w (fun v w'=>Ext w w'∧(Gp (Ay .i64)).R w' (zf Z w []) v aV):=by
 unfold CN at a;refine AS (N:=23) Tryz.func63 rfl rfl (by simp) ?_;intro bF ha bG;have aN:=sA 0 ha;clear ha;have aW:Hp FN [] w [] w:=Hp.start (Cc.none w);refine Af<|Ad<|wA (v:=.slice none 0 0) rfl<|Ag<|Ab<|Af<|Ad<|wA (v:=.slice none 0 0) rfl<|Ag<|Ab<|Af<|Af<|Ad<|wA (v:=I 0) rfl<|Ag<|Ab<|AT ?_;have aX:=aW.nil;have aY:BY (Ay .i64) 3 w.heap.size w (zf Z w [none]) none 0 ([]:List Int):=BY.nil _ _ _ _ _;replace a:=bind_some a;obtain⟨y,p,a⟩:=a;refine Cm (fun aZ j z=>(aZ=.exit 0∧∃c d,j.tmps.size=23∧j.defers=(X0).ds∧sl j 3=.slice c y.length d∧Hp FN [] w [ob c] z∧BY (Ay .i64) 3 w.heap.size z (zf Z w [ob c]) c d y)) ?a0 ?a2
 case a0=>
  clear a;refine Cl (fun(aH:Nat) (j:Act) (z:World)=>∃g,∃b,∃f h,BG r aH g b=some y∧j.tmps.size=23∧j.defers=(X0).ds∧sl j 0=I r∧sl j 3=.slice f g.length h∧sl j 4=I b∧Hp FN [] w [ob f] z∧BY (Ay .i64) 3 w.heap.size z (zf Z w [ob f]) f h g) aU ?a3 ?a4
  case a3=>
   intro st;exact⟨([]:List Int),(0:Int),none,0,p,qz st,qd st,sp st 0 aN,sp st 3 rfl,sp st 4 rfl,aX,aY⟩
  case a4=>
   rintro(_|aH) bH bI ⟨g,b,f,h,p,aO,aP,m,q,l,u,i⟩
   ·exact absurd (show none=some _ from p) (by simp)
   rw[BG.eq_2] at p;have a:=p;clear p;refine B7 (N:=23) aO aP<|Af<|Af<|Ad<|wM (v:=I r) m<|wM (v:=I b) l ?_;replace a:=D1 a;obtain⟨a5,a⟩:=a;refine wD (fun st=>EX (k:=.u64) GV Tryz.underlying91 (eR st) a5) ?_;replace a:=GB a;obtain⟨a8,a⟩:=a;refine wD (fun st=>J2 (eR st) (eR st) a8)<|wD (fun st=>HJ (eR st) (eR st))<|Ag<|Ab ?_;rcases Ak (decide ((0:Int)<(ER r b))) with s|s
   ·replace a:=Az a s;refine AD rfl s<|AL<|Ab<|Af<|AT<|Af<|Ad<|wM (v:=I r) m<|wM (v:=I b) l ?_;replace a:=D1 a;obtain⟨a9,a⟩:=a;refine wD (fun st=>EX (k:=.u64) GV Tryz.underlying91 (eR st) a9) ?_;replace a:=GB a;obtain⟨bA,a⟩:=a;refine wD (fun st=>J2 (eR st) (eR st) bA) ?_;replace a:=Fu a;obtain⟨aK,a⟩:=a;refine wD (fun st=>HG (eR st) (eR st) aK.1 aK.2)<|wD (fun st=>Dj (eR st) (eR st))<|Ag<|Ab ?_;rcases Ak (((ER r b)%2)==1) with t|t
    ·replace a:=Az a t;refine AD rfl t<|Ad<|wM (v:=.slice f g.length h) q<|wM (v:=I b) l<|wE (fun st=>De (e:=3) (vs:= #[(0,I b)]) (cs:= #[I b]) (JN (eR st)) (by kernel_rfl)) ?_;rintro _ bJ ⟨bK,rfl,n⟩;have aA:=u.nb n;have bB:=u.Cr n;have x:=(i.ext n.gr (AP n));replace a:=Ck a;obtain⟨aB,a⟩:=a;refine wE (fun st=>Jd (ys:=[b]) Tryz.underlying31 Hv rfl rfl (by decide) (eR st) rfl (eR st) x (ID (DQ:=[[I b]]) n.bk ⟨rfl,trivial⟩ rfl) (by have:=aB;simp only[maxLen];omega) (by have:=aB;omega) aA.sz (by simp)) ?_;rintro _ bL ⟨aL,aM,rfl,aC,aD,aQ⟩;have bC:=aA.row aC 1 rfl aD;have aR:=ED aQ (aA.DN aC 1 rfl (fun k hk=>(aD k hk).1));refine wA (v:=.slice aL ((g++[b]).length) aM) rfl<|Ag<|Bs<|Ab<|Ad<|wM (v:=I b) l ?_;replace a:=AK a;obtain⟨aS,a⟩:=a;refine wD (fun st=>B0 (eR st) (eR st) aS)<|wA (v:=I (b+1)) rfl<|Ag ?_;have bD:=bC.erase 0;have aE:=(aR.up (Bp 0));refine Bw aH (Nat.lt_succ_self _) (fun st=>?_);exact⟨(g++[b]),(b+1),aL,aM,a,qz st,qd st,sp st 0 m,sp st 3 rfl,sp st 4 rfl,bD,aE⟩
    ·replace a:=AA a t;refine AE rfl t<|AL<|Bs<|Ab<|Ad<|wM (v:=I b) l ?_;replace a:=AK a;obtain⟨aT,a⟩:=a;refine wD (fun st=>B0 (eR st) (eR st) aT)<|wA (v:=I (b+1)) rfl<|Ag ?_;refine Bw aH (Nat.lt_succ_self _) (fun st=>?_);exact⟨g,(b+1),f,h,a,qz st,qd st,sp st 0 m,sp st 3 q,sp st 4 rfl,u,i⟩
   ·replace a:=AA a s;refine AE rfl s<|Cd<|AB<|AB ?_;obtain rfl:=oi a;refine B4 (fun st=>?_);exact⟨rfl,f,h,qz st,qd st,sp st 3 q,u,i⟩
 case a2=>
  rintro aZ bE bM (⟨rfl,c,d,aI,aJ,aF,aG,o⟩);refine Cn (X:=X0) (N:=23) aI aJ<|Bn<|Ab<|Af<|Ad<|wM (v:=.slice c y.length d) aF<|wA (v:=.slice c y.length d) rfl<|Ag<|Ab<|AI ?_;obtain rfl:=oi a;refine AJ rfl rfl ?_;exact⟨aG.Bc,⟨_,_,rfl,aG.IA (M:=[]) 0 rfl [] rfl trivial o⟩⟩
theorem Uq a5 p q f g h i(Z:Nat→Prop) w(aL:Sl (Ay .i64) w Z f g p)(aM:Sl (Ay .i64) w Z h i q) a8(a:DD a5 p q=some a8):
 Cw Tryz.prog 73 #[.slice f p.length g,.slice h q.length i] w (fun v w'=>Ext w w'∧Dg.R w' (zf Z w []) v a8):=by
 unfold DD at a;refine AS (N:=41) Tryz.func73 rfl rfl (by simp) ?_;intro cA ha cB;have aO:=sA 0 ha;have aP:=sA 1 ha;clear ha;have a9:Hp FN [] w [] w:=Hp.start (Cc.none w);have ⟨aE,aF⟩:=LI aL aM (Bh (Z:=Z) (L:=[]) w);refine Af<|Ad<|wA (v:=.bool false) rfl<|Ag<|Ab<|Af<|Af<|Ad<|wA (v:=I 0) rfl<|Ag<|Ab<|AT ?_;replace a:=bind_some a;obtain⟨aQ,t,a⟩:=a;refine Cm (fun aR j z=>(aR=.ret∧∃u,aQ=.inl u∧j.tmps.size=41∧j.defers=(X0).ds∧sl j 4=.bool u∧Hp FN [] w [] z)∨(aR=.exit 0∧∃u,aQ=.inr u∧j.tmps.size=41∧j.defers=(X0).ds∧sl j 0=.slice f p.length g∧sl j 1=.slice h q.length i∧Hp FN [] w [] z∧Sl (Ay .i64) z (zf Z w []) f g p∧Sl (Ay .i64) z (zf Z w []) h i q)) ?bA ?bB
 case bA=>
  clear a;refine Cl (fun(aS:Nat) (j:Act) (z:World)=>∃b,Cu p q aS b=some aQ∧j.tmps.size=41∧j.defers=(X0).ds∧sl j 0=.slice f p.length g∧sl j 1=.slice h q.length i∧sl j 5=I b∧Hp FN [] w [] z∧Sl (Ay .i64) z (zf Z w []) f g p∧Sl (Ay .i64) z (zf Z w []) h i q) a5 ?bC ?bD
  case bC=>
   intro st;exact⟨(0:Int),t,qz st,qd st,sp st 0 aO,sp st 1 aP,sp st 5 rfl,a9,aE,aF⟩
  case bD=>
   rintro(_|aS) cC cD ⟨b,t,aT,aU,n,o,m,aG,d,e⟩
   ·exact absurd (show none=some _ from t) (by simp)
   rw[Cu.eq_2] at t;have a:=t;clear t;refine B7 (N:=41) aT aU<|Af<|Af<|Ad<|wM (v:=I b) m<|wM (v:=.slice f p.length g) n<|wD (fun st=>Bu Tryz.underlying31 (eR st))<|wD (fun st=>CO (eR st) (eR st))<|wM (v:=.bool (decide (b<(p.length:Int)))) rfl ?_;rcases Ak (decide (b<(p.length:Int))) with l|l
   ·replace a:=Az a l;refine An rfl rfl (Ae rfl l) rfl (by decide) (fun st=>Aq (v:=I b) (ee st m))<|An rfl rfl (Ae rfl l) rfl (by decide) (fun st=>Aq (v:=.slice h q.length i) (ee st o))<|An rfl rfl (Ae rfl l) rfl (by decide) (fun st=>Bu Tryz.underlying31 (eR st))<|An rfl rfl (Ae rfl l) rfl (by decide) (fun st=>CO (eR st) (eR st))<|wD (fun st=>AY (v:=.bool (decide (b<(q.length:Int)))) (eR st) l (eR st))<|Ag<|Ab ?_;rcases Ak (decide (b<(q.length:Int))) with aA|aA
    ·replace a:=Az a aA;refine AD rfl aA<|AL<|Ab<|Af<|AT<|Af ?_;replace a:=AW a;obtain⟨i5,bE,bF,bG,bH,a⟩:=a;obtain⟨bZ,b4,_,bI,rfl,bJ⟩:=Sl.C1 d rfl bG;replace a:=AW a;obtain⟨i6,bK,bL,bM,bN,a⟩:=a;obtain⟨b5,b6,_,bO,rfl,bP⟩:=Sl.C1 e rfl bM;refine B9 8 [Kc (.slice f p.length g),Kc (I b),Kc (pt bZ (b4+i5)),Kc (I bE),Kc (.slice h q.length i),Kc (I b),Kc (pt b5 (b6+i6)),Kc (I bK)] mixed rfl rfl
         (Aa (oD (fun K=>Aq (es ((K.out 0 rfl).trans n))))
         (Aa (oD (fun K=>Aq (es ((K.out 5 rfl).trans m))))
         (Aa (oD (fun K=>AX (k:=i5) Tryz.underlying31 DR (es (K.dq 0 18)) bI (es (K.dq 1 19)) bF bH))
         (Aa (oD (fun K=>Bg Bz (es (K.dq 2 20)) (bJ.mv (Ah K.AO)) rfl))
         (Aa (oD (fun K=>Aq (es ((K.out 1 rfl).trans o))))
         (Aa (oD (fun K=>Aq (es ((K.out 5 rfl).trans m))))
         (Aa (oD (fun K=>AX (k:=i6) Tryz.underlying31 DR (es (K.dq 4 22)) bO (es (K.dq 5 23)) bL bN))
         (Aa (oD (fun K=>Bg Bz (es (K.dq 6 24)) (bP.mv (Ah K.AO)) rfl))
         (B8 _))))))))) ?_
     intro cF;rintro _ rfl _ rfl _ rfl _ rfl _ rfl _ rfl _ rfl _ rfl aD;have aN:=aG.ext aD;refine wD (fun st=>DW (eR st) (eR st))<|Ag<|Ab ?_;rcases Ak (bE !=bK) with aB|aB
     ·replace a:=Az a aB;refine AD rfl aB<|Af ?_;replace a:=AW a;obtain⟨i9,aV,bQ,bR,bS,a⟩:=a;have r:=(d.mv (Ah aD));obtain⟨b7,b8,_,bT,rfl,bU⟩:=Sl.C1 r rfl bR;replace a:=AW a;obtain⟨i10,aH,aW,aX,aY,a⟩:=a;have s:=(e.mv (Ah aD));obtain⟨bV,bW,_,aZ,rfl,a0⟩:=Sl.C1 s rfl aX;refine B9 8 [Kc (.slice f p.length g),Kc (I b),Kc (pt b7 (b8+i9)),Kc (I aV),Kc (.slice h q.length i),Kc (I b),Kc (pt bV (bW+i10)),Kc (I aH)] mixed rfl rfl
          (Aa (oD (fun K=>Aq (es ((K.out 0 rfl).trans n))))
          (Aa (oD (fun K=>Aq (es ((K.out 5 rfl).trans m))))
          (Aa (oD (fun K=>AX (k:=i9) Tryz.underlying31 DR (es (K.dq 0 27)) bT (es (K.dq 1 28)) bQ bS))
          (Aa (oD (fun K=>Bg Bz (es (K.dq 2 29)) (bU.mv (Ah K.AO)) rfl))
          (Aa (oD (fun K=>Aq (es ((K.out 1 rfl).trans o))))
          (Aa (oD (fun K=>Aq (es ((K.out 5 rfl).trans m))))
          (Aa (oD (fun K=>AX (k:=i10) Tryz.underlying31 DR (es (K.dq 4 31)) aZ (es (K.dq 5 32)) aW aY))
          (Aa (oD (fun K=>Bg Bz (es (K.dq 6 33)) (a0.mv (Ah K.AO)) rfl))
          (B8 _))))))))) ?_
      intro cG;rintro _ rfl _ rfl _ rfl _ rfl _ rfl _ rfl _ rfl _ rfl bX;have bY:=aN.ext bX;refine wD (fun st=>CO (eR st) (eR st))<|wA (v:=.bool (decide (aV<aH))) rfl<|Ag<|Ab<|AI<|Bi<|Ax<|Ax ?_;obtain rfl:=oi a;refine B4 (fun st=>?_);exact .inl ⟨rfl,(decide (aV<aH)),rfl,qz st,qd st,sp st 4 rfl,bY⟩
     ·replace a:=AA a aB;refine AE rfl aB<|AL<|Bs<|Ab<|Ad<|wM (v:=I b) m ?_;replace a:=AK a;obtain⟨a2,a⟩:=a;refine wD (fun st=>B0 (eR st) (eR st) a2)<|wA (v:=I (b+1)) rfl<|Ag ?_;have ⟨r,s⟩:=LI d e (Ah aD);refine Bw aS (Nat.lt_succ_self _) (fun st=>?_);exact⟨(b+1),a,qz st,qd st,sp st 0 n,sp st 1 o,sp st 5 rfl,aN,r,s⟩
    ·replace a:=AA a aA;refine AE rfl aA<|Cd<|AB<|AB ?_;obtain rfl:=oi a;refine B4 (fun st=>?_);exact .inr ⟨rfl,(),rfl,qz st,qd st,sp st 0 n,sp st 1 o,aG,d,e⟩
   ·replace a:=AA a l;refine Au (c:=false) rfl rfl (Ae rfl l) (by decide) rfl (by decide)<|Au (c:=false) rfl rfl (Ae rfl l) (by decide) rfl (by decide)<|Au (c:=false) rfl rfl (Ae rfl l) (by decide) rfl (by decide)<|Au (c:=false) rfl rfl (Ae rfl l) (by decide) rfl (by decide)<|wD (fun st=>BC (v:=.bool false) (eR st) l (eR st))<|Ag<|Ab<|AE rfl rfl<|Cd<|AB<|AB ?_;obtain rfl:=oi a;refine B4 (fun st=>?_);exact .inr ⟨rfl,(),rfl,qz st,qd st,sp st 0 n,sp st 1 o,aG,d,e⟩
 case bB=>
  rintro aR b9 cE (⟨rfl,u,rfl,x,y,aI,aC⟩|⟨rfl,u,rfl,x,y,aJ,aK,aC,a3,a4⟩)
  ·skip
   replace a:=Eg a;refine Cn (X:=X0) (N:=41) x y<|Bi<|Ax ?_;obtain rfl:=oi a;refine AJ rfl aI ?_;exact⟨aC.Bc,rfl⟩
  ·skip
   replace a:=Eh a;refine Cn (X:=X0) (N:=41) x y<|Bn<|Ab<|Af<|Ad<|wM (v:=.slice f p.length g) aJ<|wD (fun st=>Bu Tryz.underlying31 (eR st))<|wM (v:=.slice h q.length i) aK<|wD (fun st=>Bu Tryz.underlying31 (eR st))<|wD (fun st=>CO (eR st) (eR st))<|wA (v:=.bool (decide ((p.length:Int)<(q.length:Int)))) rfl<|Ag<|Ab<|AI ?_;obtain rfl:=oi a;refine AJ rfl rfl ?_;exact⟨aC.Bc,rfl⟩
theorem a62 s i j e f g h(Z:Nat→Prop) w(p:Sl (Ay .i64) w Z e f i)(q:Sl (Ay .i64) w Z g h j) t(d:E4 s i j=some t):
 Cw Tryz.prog 62 #[.slice e i.length f,.slice g j.length h] w (fun v w'=>Ext w w'∧Dg.R w' (zf Z w []) v t):=by
 unfold E4 at d;refine AS (N:=22) Tryz.func62 rfl rfl (by simp) ?_;intro z ha aA;have k:=sA 0 ha;have l:=sA 1 ha;clear ha;have o:Hp FN [] w [] w:=Hp.start (Cc.none w);have ⟨m,n⟩:=LI p q (Bh (Z:=Z) (L:=[]) w);refine Af<|Ad<|wA (v:=.bool false) rfl<|Ag<|Ab<|Af<|Ad<|wM (v:=.slice e i.length f) k<|wD (fun st=>Bu Tryz.underlying31 (eR st))<|wM (v:=.slice g j.length h) l<|wD (fun st=>Bu Tryz.underlying31 (eR st))<|wD (fun st=>CO (eR st) (eR st))<|wM (v:=.bool (decide ((i.length:Int)<(j.length:Int)))) rfl ?_;rcases Ak (decide ((i.length:Int)<(j.length:Int))) with a|a
 ·replace d:=Az d a;refine Au (c:=true) rfl rfl (Ae rfl a) (by decide) rfl (by decide)<|Au (c:=true) rfl rfl (Ae rfl a) (by decide) rfl (by decide)<|Au (c:=true) rfl rfl (Ae rfl a) (by decide) rfl (by decide)<|Au (c:=true) rfl rfl (Ae rfl a) (by decide) rfl (by decide)<|Au (c:=true) rfl rfl (Ae rfl a) (by decide) rfl (by decide)<|Au (c:=true) rfl rfl (Ae rfl a) (by decide) rfl (by decide)<|FQ rfl rfl rfl rfl (by decide)<|FQ rfl rfl rfl rfl (by decide)<|FQ rfl rfl rfl rfl (by decide)<|Au (c:=true) rfl rfl (Ae rfl a) (by decide) rfl (by decide)<|wD (fun st=>AY (v:=.bool true) (eR st) a (eR st))<|wA (v:=.bool true) rfl<|Ag<|Ab<|AI ?_;obtain rfl:=oi d;refine AJ rfl rfl ?_;exact⟨o.Bc,rfl⟩
 ·replace d:=AA d a;refine An rfl rfl (Ae rfl a) rfl (by decide) (fun st=>Aq (v:=.slice e i.length f) (ee st k))<|An rfl rfl (Ae rfl a) rfl (by decide) (fun st=>Bu Tryz.underlying31 (eR st))<|An rfl rfl (Ae rfl a) rfl (by decide) (fun st=>Aq (v:=.slice g j.length h) (ee st l))<|An rfl rfl (Ae rfl a) rfl (by decide) (fun st=>Bu Tryz.underlying31 (eR st))<|An rfl rfl (Ae rfl a) rfl (by decide) (fun st=>Dj (eR st) (eR st))<|An rfl rfl (Ae rfl a) rfl (by decide) (fun st=>Aq (v:=.bool ((i.length:Int)==(j.length:Int))) (eR st)) ?_;rcases Ak ((i.length:Int)==(j.length:Int)) with b|b
  ·replace d:=Az d b;refine An rfl rfl (Ae rfl b) rfl (by decide) (fun st=>Aq (v:=.slice e i.length f) (ee st k))<|An rfl rfl (Ae rfl b) rfl (by decide) (fun st=>Aq (v:=.slice g j.length h) (ee st l)) ?_;replace d:=bind_some d;obtain⟨r,u,d⟩:=d;refine Di rfl rfl (Ae rfl b) rfl (by decide) (fun st=>Ar Qe (eR st) (Dw (eR st) (eR st)) (Uq s i j e f g h ZA _ m.all n.all r u)) ?_;rintro _ aB ⟨x,rfl⟩;have y:=o.ext x;refine An rfl rfl (Ae rfl a) rfl (by decide) (fun st=>AY (v:=.bool r) (eR st) b (eR st))<|wD (fun st=>BC (v:=.bool r) (eR st) a (eR st))<|wA (v:=.bool r) rfl<|Ag<|Ab<|AI ?_;obtain rfl:=oi d;refine AJ rfl rfl ?_;exact⟨y.Bc,rfl⟩
  ·replace d:=AA d b;refine Au (c:=false) rfl rfl (Ae rfl b) (by decide) rfl (by decide)<|Au (c:=false) rfl rfl (Ae rfl b) (by decide) rfl (by decide)<|Au (c:=false) rfl rfl (Ae rfl b) (by decide) rfl (by decide)<|An rfl rfl (Ae rfl a) rfl (by decide) (fun st=>BC (v:=.bool false) (eR st) b (eR st))<|wD (fun st=>BC (v:=.bool false) (eR st) a (eR st))<|wA (v:=.bool false) rfl<|Ag<|Ab<|AI ?_;obtain rfl:=oi d;refine AJ rfl rfl ?_;exact⟨o.Bc,rfl⟩
theorem Q5 aM b e f g h i j l m n o c d(Z:Nat→Prop) w(q:Sl AM w Z e f b.Al)(r:Sl (BO (Ay .i64)) w Z g h b.Ac)(s:Sl AQ w Z i j b.Ap)(t:Sl Bm w Z l m b.AH)(u:Sl Bl w Z n o b.Aw)(x:Sl BA w Z c d b.Ao) aG(a:CL aM b=some aG):
 Cw Tryz.prog 61 #[.agg (Am e f g h i j l m n o c d b).toArray] w (fun v w'=>Ext w w'∧(Ev .i64).R w' (zf Z w []) v aG):=by
 unfold CL at a;refine AS (N:=9) Tryz.func61 rfl rfl (by simp) ?_;intro aN ha aO;have z:=sA 0 ha;clear ha;have y:Hp FN [] w [] w:=Hp.start (Cc.none w);have ⟨aA,aB,aC,aD,aE,aF⟩:=Cz q r s t u x (Bh (Z:=Z) (L:=[]) w);refine Af<|Ad<|wE (fun st=>Ci (v:=.agg (Am e f g h i j l m n o c d b).toArray) (cs:=(Am e f g h i j l m n o c d b).toArray) (ee st z) rfl) ?_;rintro _ w1 ⟨b1,rfl,p⟩;have aH:=y.nb p;have aL:=y.Cr p;refine wA (v:=I 0) rfl<|Ag<|Ab<|Af<|Ad<|wD (fun st=>Ai (eR st) (Fx _ _))<|wD (fun st=>AG (v:=.slice c b.Ao.length d) GF (eR st) p.bk rfl)<|wD (fun st=>Bu Tryz.underlying65 (eR st)) ?_;replace a:=D1 a;obtain⟨aI,a⟩:=a;refine wD (fun st=>EX (k:=.u64) GV Tryz.underlying91 (eR st) aI) ?_;replace a:=E3 a;obtain⟨aJ,a⟩:=a;refine wD (fun st=>HL (eR st) (eR st) aJ) ?_;replace a:=AK a;obtain⟨aK,a⟩:=a;refine wD (fun st=>Ex (eR st) (eR st) aK)<|wA (v:=I ((CY (1:Int) (b.Ao.length:Int))-1)) rfl<|Ag<|Ab<|AI ?_;obtain rfl:=oi a;refine AJ rfl rfl ?_;exact⟨aH.Bc,rfl⟩
theorem XH aI p s i j(Z:Nat→Prop) w(aX:Sl (Ay .i64) w Z i j p) b8(a:EF aI p s=some b8):
 Cw Tryz.prog 52 #[.slice i p.length j,I s] w (fun v w'=>Ext w w'∧(PN (Ev .i64) Dg).R w' (zf Z w []) v b8):=by
 unfold EF at a;refine AS (N:=47) Tryz.func52 rfl rfl (by simp) ?_;intro cP ha cQ;have a0:=sA 0 ha;have a2:=sA 1 ha;clear ha;have b9:Hp FN [] w [] w:=Hp.start (Cc.none w);have aJ:=aX.mv (Bh (Z:=Z) (L:=[]) w);refine Af<|Ad<|wA (v:=I 0) rfl<|wA (v:=.bool false) rfl<|Ag<|Ab<|Af<|Ad<|wA (v:=I 0) rfl<|Ag<|Ab<|Af<|Af<|Ad<|wA (v:=I 0) rfl<|Ag<|Ab<|AT ?_;replace a:=bind_some a;obtain⟨a3,x,a⟩:=a;refine Cm (fun a4 m aL=>(a4=.ret∧∃o,a3=.inl o∧m.tmps.size=47∧m.defers=(X0).ds∧sl m 4=I o.1∧sl m 5=.bool o.2∧Hp FN [] w [] aL)∨(a4=.exit 0∧∃o,a3=.inr o∧m.tmps.size=47∧m.defers=(X0).ds∧sl m 6=I o∧Hp FN [] w [] aL)) ?cA ?cB
 case cA=>
  clear a;refine Cl (fun(aY:Nat) (m:Act) (aL:World)=>∃n,∃b,Cy aI p s aY n b=some a3∧m.tmps.size=47∧m.defers=(X0).ds∧sl m 0=.slice i p.length j∧sl m 1=I s∧sl m 6=I n∧sl m 7=I b∧Hp FN [] w [] aL∧Sl (Ay .i64) aL (zf Z w []) i j p) aI ?cC ?cD
  case cC=>
   intro st;exact⟨(0:Int),(0:Int),x,qz st,qd st,sp st 0 a0,sp st 1 a2,sp st 6 rfl,sp st 7 rfl,b9,aJ⟩
  case cD=>
   rintro(_|aY) cR cS ⟨n,b,x,a5,a8,g,r,aA,e,aF,l⟩
   ·exact absurd (show none=some _ from x) (by simp)
   rw[Cy.eq_2] at x;have a:=x;clear x;refine B7 (N:=47) a5 a8<|Af<|Af<|Ad<|wM (v:=I b) e<|wM (v:=.slice i p.length j) g<|wD (fun st=>Bu Tryz.underlying31 (eR st))<|wD (fun st=>CO (eR st) (eR st))<|Ag<|Ab ?_;rcases Ak (decide (b<(p.length:Int))) with aD|aD
   ·replace a:=Az a aD;refine AD rfl aD<|AL<|Ab<|Af<|AT<|Af<|Af ?_;replace a:=AW a;obtain⟨i4,aK,aM,cE,aN,a⟩:=a;obtain⟨a9,bA,_,aO,rfl,aP⟩:=Sl.C1 l rfl cE;replace a:=AK a;obtain⟨aQ,a⟩:=a;replace a:=bind_some a;obtain⟨q,aR,a⟩:=a;rcases Ak (!q) with f|f
    ·replace a:=Az a f;have cM:q=false:=by simpa using f
     refine B9 21 [Kc (.slice i p.length j),Kc (I b),Kc (pt a9 (bA+i4)),Kc (I aK),Kc (I s),Kc (I (s-1)),Kc (.bool q),Kc (.bool !q),Kc (.bool !q),Kc undef,Kc undef,Kc undef,Kc undef,Kc undef,Kc undef,Kc undef,Kc undef,Kc undef,Kc undef,Kc undef,Kc undef] mixed rfl rfl
         (Aa (oD (fun K=>Aq (es ((K.out 0 rfl).trans g))))
         (Aa (oD (fun K=>Aq (es ((K.out 7 rfl).trans e))))
         (Aa (oD (fun K=>AX (k:=i4) Tryz.underlying31 DR (es (K.dq 0 14)) aO (es (K.dq 1 15)) aM aN))
         (Aa (oD (fun K=>Bg Bz (es (K.dq 2 16)) (aP.mv (Ah K.AO)) rfl))
         (Aa (oD (fun K=>Aq (es ((K.out 1 rfl).trans r))))
         (Aa (oD (fun K=>Ex (es (K.dq 4 18)) (ec (v:=I 1)) aQ))
         (Aa (Dl rfl rfl (fun a' w' ph K=>(Ar Fk rfl (EN (es (K.dq 3 17)) (ec (v:=I 0)) (es (K.dq 5 19))) (IW aI aK 0 (s-1) ZA _ q aR)).mono (fun _ _ h=>⟨h.2,h.1⟩)))
         (Aa (oD (fun K=>Dz (es (K.dq 6 20))))
         (Aa (oD (fun K=>Aq (es (K.dq 7 21))))
         (Aa (oS (c:=true) (fun a' w' ph K=>Ae (K.dq 8 22) f))
         (Aa (oS (c:=true) (fun a' w' ph K=>Ae (K.dq 8 22) f))
         (Aa (oS (c:=true) (fun a' w' ph K=>Ae (K.dq 8 22) f))
         (Aa (DA rfl rfl rfl (fun a' w' ph K=>K.dq 11 25) (fun _=>rfl))
         (Aa (DA rfl rfl rfl (fun a' w' ph K=>K.dq 11 25) (fun _=>rfl))
         (Aa (DA rfl rfl rfl (fun a' w' ph K=>K.dq 11 25) (fun _=>rfl))
         (Aa (DA rfl rfl rfl (fun a' w' ph K=>K.dq 11 25) (fun _=>rfl))
         (Aa (DA rfl rfl rfl (fun a' w' ph K=>K.dq 11 25) (fun _=>rfl))
         (Aa (DA rfl rfl rfl (fun a' w' ph K=>K.dq 11 25) (fun _=>rfl))
         (Aa (DA rfl rfl rfl (fun a' w' ph K=>K.dq 11 25) (fun _=>rfl))
         (Aa (DA rfl rfl rfl (fun a' w' ph K=>K.dq 11 25) (fun _=>rfl))
         (Aa (DA rfl rfl rfl (fun a' w' ph K=>K.dq 11 25) (fun _=>rfl))
         (B8 _)))))))))))))))))))))) ?_
     intro cF;rintro _ rfl _ rfl _ rfl _ rfl _ rfl _ rfl _ rfl _ rfl _ rfl _ rfl _ rfl _ rfl _ rfl _ rfl _ rfl _ rfl _ rfl _ rfl _ rfl _ rfl _ rfl t;have cG:=aF.ext t;refine FQ rfl rfl rfl rfl (by decide)<|Au (c:=true) rfl rfl (Ae rfl f) (by decide) rfl (by decide)<|wD (fun st=>AY (v:=.bool true) (eR st) f (eR st))<|Ag<|Ab<|AD rfl rfl<|Af<|Ad<|wA (v:=I 0) rfl<|wA (v:=.bool false) rfl<|Ag<|Ab<|AI<|Ax<|Bi<|Ax<|Ax ?_;obtain rfl:=oi a;refine B4 (fun st=>?_);exact .inl ⟨rfl,((0:Int),false),rfl,qz st,qd st,sp st 4 rfl,sp st 5 rfl,cG⟩
    ·replace a:=AA a f;have cN:q=true:=by simpa using f
     rcases Ak (decide ((0:Int)<b)) with d|d
     ·replace a:=Az a d;replace a:=AW a;obtain⟨i11,aG,bB,bC,bD,a⟩:=a;obtain⟨cH,cI,_,bE,rfl,bF⟩:=Sl.C1 l rfl bC;replace a:=AK a;obtain⟨bG,a⟩:=a;replace a:=AW a;obtain⟨i13,aH,bH,bI,bJ,a⟩:=a;obtain⟨cJ,cK,_,bK,rfl,bL⟩:=Sl.C1 l rfl bI;refine B9 21 [Kc (.slice i p.length j),Kc (I b),Kc (pt a9 (bA+i4)),Kc (I aK),Kc (I s),Kc (I (s-1)),Kc (.bool q),Kc (.bool !q),Kc (.bool !q),Kc (I b),Kc (.bool (decide ((0:Int)<b))),Kc (.bool (decide ((0:Int)<b))),Kc (.slice i p.length j),Kc (I b),Kc (pt cH (cI+i11)),Kc (I aG),Kc (.slice i p.length j),Kc (I b),Kc (I (b-1)),Kc (pt cJ (cK+i13)),Kc (I aH)] mixed rfl rfl
          (Aa (oD (fun K=>Aq (es ((K.out 0 rfl).trans g))))
          (Aa (oD (fun K=>Aq (es ((K.out 7 rfl).trans e))))
          (Aa (oD (fun K=>AX (k:=i4) Tryz.underlying31 DR (es (K.dq 0 14)) aO (es (K.dq 1 15)) aM aN))
          (Aa (oD (fun K=>Bg Bz (es (K.dq 2 16)) (aP.mv (Ah K.AO)) rfl))
          (Aa (oD (fun K=>Aq (es ((K.out 1 rfl).trans r))))
          (Aa (oD (fun K=>Ex (es (K.dq 4 18)) (ec (v:=I 1)) aQ))
          (Aa (Dl rfl rfl (fun a' w' ph K=>(Ar Fk rfl (EN (es (K.dq 3 17)) (ec (v:=I 0)) (es (K.dq 5 19))) (IW aI aK 0 (s-1) ZA _ q aR)).mono (fun _ _ h=>⟨h.2,h.1⟩)))
          (Aa (oD (fun K=>Dz (es (K.dq 6 20))))
          (Aa (oD (fun K=>Aq (es (K.dq 7 21))))
          (Aa (Bb rfl rfl rfl (fun _=>rfl) (fun a' w' ph K=>Ae (K.dq 8 22) f) (fun a' w' ph K=>Aq (es ((K.out 7 rfl).trans e))))
          (Aa (Bb rfl rfl rfl (fun _=>rfl) (fun a' w' ph K=>Ae (K.dq 8 22) f) (fun a' w' ph K=>HJ (es (K.dq 9 23)) (ec (v:=I 0))))
          (Aa (Bb rfl rfl rfl (fun _=>rfl) (fun a' w' ph K=>Ae (K.dq 8 22) f) (fun a' w' ph K=>Aq (es (K.dq 10 24))))
          (Aa (Bb rfl rfl rfl (fun _=>rfl) (fun a' w' ph K=>Ae (K.dq 11 25) d) (fun a' w' ph K=>Aq (es ((K.out 0 rfl).trans g))))
          (Aa (Bb rfl rfl rfl (fun _=>rfl) (fun a' w' ph K=>Ae (K.dq 11 25) d) (fun a' w' ph K=>Aq (es ((K.out 7 rfl).trans e))))
          (Aa (Bb rfl rfl rfl (fun _=>rfl) (fun a' w' ph K=>Ae (K.dq 11 25) d) (fun a' w' ph K=>AX (k:=i11) Tryz.underlying31 DR (es (K.dq 12 26)) bE (es (K.dq 13 27)) bB bD))
          (Aa (Bb rfl rfl rfl (fun _=>rfl) (fun a' w' ph K=>Ae (K.dq 11 25) d) (fun a' w' ph K=>Bg Bz (es (K.dq 14 28)) (bF.mv (Ah K.AO)) rfl))
          (Aa (Bb rfl rfl rfl (fun _=>rfl) (fun a' w' ph K=>Ae (K.dq 11 25) d) (fun a' w' ph K=>Aq (es ((K.out 0 rfl).trans g))))
          (Aa (Bb rfl rfl rfl (fun _=>rfl) (fun a' w' ph K=>Ae (K.dq 11 25) d) (fun a' w' ph K=>Aq (es ((K.out 7 rfl).trans e))))
          (Aa (Bb rfl rfl rfl (fun _=>rfl) (fun a' w' ph K=>Ae (K.dq 11 25) d) (fun a' w' ph K=>Ex (es (K.dq 17 31)) (ec (v:=I 1)) bG))
          (Aa (Bb rfl rfl rfl (fun _=>rfl) (fun a' w' ph K=>Ae (K.dq 11 25) d) (fun a' w' ph K=>AX (k:=i13) Tryz.underlying31 DR (es (K.dq 16 30)) bK (es (K.dq 18 32)) bH bJ))
          (Aa (Bb rfl rfl rfl (fun _=>rfl) (fun a' w' ph K=>Ae (K.dq 11 25) d) (fun a' w' ph K=>Bg Bz (es (K.dq 19 33)) (bL.mv (Ah K.AO)) rfl))
          (B8 _)))))))))))))))))))))) ?_
      intro cF;rintro _ rfl _ rfl _ rfl _ rfl _ rfl _ rfl _ rfl _ rfl _ rfl _ rfl _ rfl _ rfl _ rfl _ rfl _ rfl _ rfl _ rfl _ rfl _ rfl _ rfl _ rfl t;have aZ:=aF.ext t;refine An rfl rfl (Ae rfl d) rfl (by decide) (fun st=>LX (eR st) (eR st))<|An rfl rfl (Ae rfl f) rfl (by decide) (fun st=>AY (v:=.bool (decide (aG≤aH))) (eR st) d (eR st))<|wD (fun st=>BC (v:=.bool (decide (aG≤aH))) (eR st) f (eR st))<|Ag<|Ab ?_;rcases Ak (decide (aG≤aH)) with u|u
      ·replace a:=Az a u;refine AD rfl u<|Af<|Ad<|wA (v:=I 0) rfl<|wA (v:=.bool false) rfl<|Ag<|Ab<|AI<|Ax<|Bi<|Ax<|Ax ?_;obtain rfl:=oi a;refine B4 (fun st=>?_);exact .inl ⟨rfl,((0:Int),false),rfl,qz st,qd st,sp st 4 rfl,sp st 5 rfl,aZ⟩
      ·replace a:=AA a u;refine AE rfl u<|AL<|Ab<|Ad<|wM (v:=I n) aA<|wM (v:=.slice i p.length j) g<|wM (v:=I b) e ?_;replace a:=AW a;obtain⟨i15,aS,bM,bN,bO,a⟩:=a;have y:=(l.mv (Ah t));obtain⟨cT,cU,_,bP,rfl,bQ⟩:=Sl.C1 y rfl bN;refine wD (fun st=>AX (k:=i15) Tryz.underlying31 DR (eR st) bP (eR st) bM bO)<|wD (fun st=>Bg (v:=I aS) Bz (eR st) bQ rfl) ?_;replace a:=D1 a;obtain⟨bR,a⟩:=a;refine wD (fun st=>EX (k:=.u64) GV Tryz.underlying91 (eR st) bR) ?_;replace a:=E3 a;obtain⟨bS,a⟩:=a;refine wD (fun st=>HL (eR st) (eR st) bS) ?_;replace a:=F5 a;obtain⟨bT,a⟩:=a;refine wD (fun st=>NR (eR st) (eR st) bT)<|wA (v:=I (GX n (CY (1:Int) aS))) rfl<|Ag<|Bs<|Ab<|Ad<|wM (v:=I b) e ?_;replace a:=AK a;obtain⟨bU,a⟩:=a;refine wD (fun st=>B0 (eR st) (eR st) bU)<|wA (v:=I (b+1)) rfl<|Ag ?_;refine Bw aY (Nat.lt_succ_self _) (fun st=>?_);exact⟨(GX n (CY (1:Int) aS)),(b+1),a,qz st,qd st,sp st 0 g,sp st 1 r,sp st 6 rfl,sp st 7 rfl,aZ,y⟩
     ·replace a:=AA a d;refine B9 21 [Kc (.slice i p.length j),Kc (I b),Kc (pt a9 (bA+i4)),Kc (I aK),Kc (I s),Kc (I (s-1)),Kc (.bool q),Kc (.bool !q),Kc (.bool !q),Kc (I b),Kc (.bool (decide ((0:Int)<b))),Kc (.bool (decide ((0:Int)<b))),Kc undef,Kc undef,Kc undef,Kc undef,Kc undef,Kc undef,Kc undef,Kc undef,Kc undef] mixed rfl rfl
          (Aa (oD (fun K=>Aq (es ((K.out 0 rfl).trans g))))
          (Aa (oD (fun K=>Aq (es ((K.out 7 rfl).trans e))))
          (Aa (oD (fun K=>AX (k:=i4) Tryz.underlying31 DR (es (K.dq 0 14)) aO (es (K.dq 1 15)) aM aN))
          (Aa (oD (fun K=>Bg Bz (es (K.dq 2 16)) (aP.mv (Ah K.AO)) rfl))
          (Aa (oD (fun K=>Aq (es ((K.out 1 rfl).trans r))))
          (Aa (oD (fun K=>Ex (es (K.dq 4 18)) (ec (v:=I 1)) aQ))
          (Aa (Dl rfl rfl (fun a' w' ph K=>(Ar Fk rfl (EN (es (K.dq 3 17)) (ec (v:=I 0)) (es (K.dq 5 19))) (IW aI aK 0 (s-1) ZA _ q aR)).mono (fun _ _ h=>⟨h.2,h.1⟩)))
          (Aa (oD (fun K=>Dz (es (K.dq 6 20))))
          (Aa (oD (fun K=>Aq (es (K.dq 7 21))))
          (Aa (Bb rfl rfl rfl (fun _=>rfl) (fun a' w' ph K=>Ae (K.dq 8 22) f) (fun a' w' ph K=>Aq (es ((K.out 7 rfl).trans e))))
          (Aa (Bb rfl rfl rfl (fun _=>rfl) (fun a' w' ph K=>Ae (K.dq 8 22) f) (fun a' w' ph K=>HJ (es (K.dq 9 23)) (ec (v:=I 0))))
          (Aa (Bb rfl rfl rfl (fun _=>rfl) (fun a' w' ph K=>Ae (K.dq 8 22) f) (fun a' w' ph K=>Aq (es (K.dq 10 24))))
          (Aa (oS (c:=false) (fun a' w' ph K=>Ae (K.dq 11 25) d))
          (Aa (oS (c:=false) (fun a' w' ph K=>Ae (K.dq 11 25) d))
          (Aa (oS (c:=false) (fun a' w' ph K=>Ae (K.dq 11 25) d))
          (Aa (oS (c:=false) (fun a' w' ph K=>Ae (K.dq 11 25) d))
          (Aa (oS (c:=false) (fun a' w' ph K=>Ae (K.dq 11 25) d))
          (Aa (oS (c:=false) (fun a' w' ph K=>Ae (K.dq 11 25) d))
          (Aa (oS (c:=false) (fun a' w' ph K=>Ae (K.dq 11 25) d))
          (Aa (oS (c:=false) (fun a' w' ph K=>Ae (K.dq 11 25) d))
          (Aa (oS (c:=false) (fun a' w' ph K=>Ae (K.dq 11 25) d))
          (B8 _)))))))))))))))))))))) ?_
      intro cF;rintro _ rfl _ rfl _ rfl _ rfl _ rfl _ rfl _ rfl _ rfl _ rfl _ rfl _ rfl _ rfl _ rfl _ rfl _ rfl _ rfl _ rfl _ rfl _ rfl _ rfl _ rfl t;have cL:=aF.ext t;refine Au (c:=false) rfl rfl (Ae rfl d) (by decide) rfl (by decide)<|An rfl rfl (Ae rfl f) rfl (by decide) (fun st=>BC (v:=.bool false) (eR st) d (eR st))<|wD (fun st=>BC (v:=.bool false) (eR st) f (eR st))<|Ag<|Ab<|AE rfl rfl<|AL<|Ab<|Ad<|wM (v:=I n) aA<|wM (v:=.slice i p.length j) g<|wM (v:=I b) e ?_;replace a:=AW a;obtain⟨i20,aT,bV,bW,bX,a⟩:=a;have z:=(l.mv (Ah t));obtain⟨cV,cW,_,bY,rfl,bZ⟩:=Sl.C1 z rfl bW;refine wD (fun st=>AX (k:=i20) Tryz.underlying31 DR (eR st) bY (eR st) bV bX)<|wD (fun st=>Bg (v:=I aT) Bz (eR st) bZ rfl) ?_;replace a:=D1 a;obtain⟨b4,a⟩:=a;refine wD (fun st=>EX (k:=.u64) GV Tryz.underlying91 (eR st) b4) ?_;replace a:=E3 a;obtain⟨b5,a⟩:=a;refine wD (fun st=>HL (eR st) (eR st) b5) ?_;replace a:=F5 a;obtain⟨b6,a⟩:=a;refine wD (fun st=>NR (eR st) (eR st) b6)<|wA (v:=I (GX n (CY (1:Int) aT))) rfl<|Ag<|Bs<|Ab<|Ad<|wM (v:=I b) e ?_;replace a:=AK a;obtain⟨b7,a⟩:=a;refine wD (fun st=>B0 (eR st) (eR st) b7)<|wA (v:=I (b+1)) rfl<|Ag ?_;refine Bw aY (Nat.lt_succ_self _) (fun st=>?_);exact⟨(GX n (CY (1:Int) aT)),(b+1),a,qz st,qd st,sp st 0 g,sp st 1 r,sp st 6 rfl,sp st 7 rfl,cL,z⟩
   ·replace a:=AA a aD;refine AE rfl aD<|Cd<|AB<|AB ?_;obtain rfl:=oi a;refine B4 (fun st=>?_);exact .inr ⟨rfl,n,rfl,qz st,qd st,sp st 6 aA,aF⟩
 case cB=>
  rintro a4 cO cX (⟨rfl,o,rfl,aB,aC,aU,aV,aE⟩|⟨rfl,o,rfl,aB,aC,aW,aE⟩)
  ·skip
   replace a:=Eg a;refine Cn (X:=X0) (N:=47) aB aC<|Bi<|Ax ?_;obtain rfl:=oi a;refine F1 rfl aU aV ?_;exact⟨aE.Bc,⟨_,_,rfl,rfl,rfl⟩⟩
  ·skip
   replace a:=Eh a;refine Cn (X:=X0) (N:=47) aB aC<|Bn<|Ab<|Af<|Ad<|wM (v:=I o) aW<|wA (v:=I o) rfl<|wA (v:=.bool true) rfl<|Ag<|Ab<|AI ?_;obtain rfl:=oi a;refine F1 rfl rfl rfl ?_;exact⟨aE.Bc,⟨_,_,rfl,rfl,rfl⟩⟩
theorem R7 aW q a b d e f g h i j k m n(Z:Nat→Prop) w(aN:Sl AM w Z a b q.Al)(aO:Sl (BO (Ay .i64)) w Z d e q.Ac)(aP:Sl AQ w Z f g q.Ap)(aQ:Sl Bm w Z h i q.AH)(aR:Sl Bl w Z j k q.Aw)(aS:Sl BA w Z m n q.Ao) a0(p:B6 aW q=some a0):
 Cw Tryz.prog 48 #[.agg (Am a b d e f g h i j k m n q).toArray] w (fun v w'=>Ext w w'∧Dg.R w' (zf Z w []) v a0):=by
 unfold B6 at p;refine AS (N:=10) Tryz.func48 rfl rfl (by simp) ?_;intro bA ha bB;have aX:=sA 0 ha;clear ha;have aU:Hp FN [] w [] w:=Hp.start (Cc.none w);have ⟨aA,aB,aC,aD,aE,aF⟩:=Cz aN aO aP aQ aR aS (Bh (Z:=Z) (L:=[]) w);refine Af<|Ad<|wE (fun st=>Ci (v:=.agg (Am a b d e f g h i j k m n q).toArray) (cs:=(Am a b d e f g h i j k m n q).toArray) (ee st aX) rfl) ?_;rintro _ w1 ⟨b1,rfl,z⟩;have a2:=aU.nb z;have a9:=aU.Cr z;refine wA (v:=.bool false) rfl<|Ag<|Ab<|Af<|Ad<|wD (fun st=>AR (l:=(Am a b d e f g h i j k m n q)) Cj (eR st) z.bk rfl rfl) ?_;have ⟨r,s,t,u,x,y⟩:=Cz aA aB aC aD aE aF (AP z);replace p:=bind_some p;obtain⟨aY,a3,p⟩:=p;refine wE (fun st=>Ar O6 (eR st) (CR (eR st)) (Tc aW q a b d e f g h i j k m n ZA _ r.all s.all t.all u.all x.all y.all aY a3)) ?_;rintro _ bC ⟨aM,rfl⟩;have aV:=a2.ext aM;refine wM (v:=.bool aY) rfl ?_;rcases Ak (aY) with o|o
 ·replace p:=Az p o;have aT:=(z.bk.ext aM);refine An rfl rfl (Ae rfl o) rfl (by decide) (fun st=>AR (l:=(Am a b d e f g h i j k m n q)) Cj (eR st) aT rfl rfl) ?_;have ⟨aG,aH,aI,aJ,aK,aL⟩:=Cz r s t u x y (Ah aM);replace p:=bind_some p;obtain⟨aZ,a4,p⟩:=p;refine Di rfl rfl (Ae rfl o) rfl (by decide) (fun st=>Ar NV (eR st) (CR (eR st)) (a116 aW q a b d e f g h i j k m n ZA _ aG.all aH.all aI.all aJ.all aK.all aL.all aZ a4)) ?_;rintro _ bD ⟨a5,rfl⟩;have a8:=aV.ext a5;refine An rfl rfl (Ae rfl o) rfl (by decide) (fun st=>Dj (eR st) (eR st))<|wD (fun st=>AY (v:=.bool (aZ==0)) (eR st) o (eR st))<|wA (v:=.bool (aZ==0)) rfl<|Ag<|Ab<|AI ?_;obtain rfl:=oi p;refine AJ rfl rfl ?_;exact⟨a8.Bc,rfl⟩
 ·replace p:=AA p o;refine Au (c:=false) rfl rfl (Ae rfl o) (by decide) rfl (by decide)<|Au (c:=false) rfl rfl (Ae rfl o) (by decide) rfl (by decide)<|Au (c:=false) rfl rfl (Ae rfl o) (by decide) rfl (by decide)<|wD (fun st=>BC (v:=.bool false) (eR st) o (eR st))<|wA (v:=.bool false) rfl<|Ag<|Ab<|AI ?_;obtain rfl:=oi p;refine AJ rfl rfl ?_;exact⟨aV.Bc,rfl⟩
set_option maxHeartbeats 4000000 in
theorem a60 dP a b5 g h i j m o p q r s aA aB(Z:Nat→Prop) w(cU:Sl AM w Z g h a.Al)(cV:Sl (BO (Ay .i64)) w Z i j a.Ac)(cW:Sl AQ w Z m o a.Ap)(cX:Sl Bm w Z p q a.AH)(cY:Sl Bl w Z r s a.Aw)(cZ:Sl BA w Z aA aB a.Ao) dQ(d:Iw dP a b5=some dQ):
 Cw Tryz.prog 60 #[.agg (Am g h i j m o p q r s aA aB a).toArray,I b5] w (fun v w'=>Ext w w'∧(Hd MX).R w' (zf Z w []) v dQ):=by
 unfold Iw at d;refine AS (N:=33) Tryz.func60 rfl rfl (by simp) ?_;intro d9 ha eA;have dA:=sA 0 ha;have dB:=sA 1 ha;clear ha;have c7:Hp FN [] w [] w:=Hp.start (Cc.none w);have ⟨b6,b7,b8,b9,cA,cB⟩:=Cz cU cV cW cX cY cZ (Bh (Z:=Z) (L:=[]) w);refine Af<|Ad<|wE (fun st=>Ci (v:=.agg (Am g h i j m o p q r s aA aB a).toArray) (cs:=(Am g h i j m o p q r s aA aB a).toArray) (ee st dA) rfl) ?_;rintro _ w1 ⟨b1,rfl,bW⟩;have c8:=c7.nb bW;have d4:=c7.Cr bW;refine wE (fun st=>DH (cs:= #[.slice none 0 0,.slice none 0 0,.slice none 0 0,I 0,.slice none 0 0,.slice none 0 0,.slice none 0 0]) Pk rfl) ?_;rintro _ w2 ⟨b2,rfl,a8⟩;have c9:=c8.nb a8;have d5:=c8.Cr a8;refine Ag<|Ab<|Af<|Ad ?_;have bX:=(bW.bk.ext a8.gr);refine wD (fun st=>AR (l:=(Am g h i j m o p q r s aA aB a)) Cj (eR st) bX rfl rfl)<|wE (fun st=>DH (cs:= #[.slice none 0 0,.slice none 0 0,.slice none 0 0,I 0,.slice none 0 0,.slice none 0 0,.slice none 0 0]) Pk rfl) ?_;rintro _ eI ⟨b3,rfl,aZ⟩;have bY:=c9.nb aZ;have d6:=c9.Cr aZ;refine Dk rfl rfl (fun st=>CS (n:=7) (l:=(Am g h i j m o p q r s aA aB a)) (EZ:=(Am g h i j m o p q r s aA aB a).toArray) (eR st) (eR st) Rs aZ.bk rfl rfl (show 0+7≤7 by decide) (Cg rfl) rfl) ?_;rintro _ eJ a9;have bZ:=bY.gr a9.gr 0 rfl;refine Ag<|Ab<|Af<|Ad<|wD (fun st=>Ai (eR st) (Fx _ _))<|Dk rfl rfl (fun st=>CS (n:=1) (l:=[.slice none 0 0]) (EZ:= #[.slice g a.Al.length h,.slice i a.Ac.length j,.slice m a.Ap.length o,I a.Flat,.slice p a.AH.length q,.slice r a.Aw.length s,.slice none 0 0]) (eR st) (eR st) SL a9.bk rfl rfl (show 6+1≤7 by decide) (Cg rfl) rfl) ?_;rintro _ d7 bA;have dR:=bZ.gr bA.gr 0 rfl;refine Ag<|Ab<|Af<|Af<|Ad<|wA (v:=I 0) rfl<|Ag<|Ab<|AT ?_;have dS:=dR.nil;have dT:BY BA 121 w.heap.size d7 (zf Z w [none,some b3,some b2,some b1]) none 0 ([]:List Ct):=BY.nil _ _ _ _ _;replace d:=bind_some d;obtain⟨bE,a0,d⟩:=d;refine Cm (fun dU aE aC=>(dU=.exit 0∧∃b t,aE.tmps.size=33∧aE.defers=(X0).ds∧sl aE 4=pt b2 0∧sl aE 5=pt b3 0∧Hp FN [] w [ob b,some b3,some b2,some b1] aC∧BY BA 121 w.heap.size aC (zf Z w [ob b,some b3,some b2,some b1]) b t bE∧Bk aC b2 67 #[.slice none 0 0,.slice none 0 0,.slice none 0 0,I 0,.slice none 0 0,.slice none 0 0,.slice none 0 0]∧Bk aC b3 67 #[.slice g a.Al.length h,.slice i a.Ac.length j,.slice m a.Ap.length o,I a.Flat,.slice p a.AH.length q,.slice r a.Aw.length s,.slice b bE.length t]∧Sl AM aC (zf Z w [ob b,some b3,some b2,some b1]) g h a.Al∧Sl (BO (Ay .i64)) aC (zf Z w [ob b,some b3,some b2,some b1]) i j a.Ac∧Sl AQ aC (zf Z w [ob b,some b3,some b2,some b1]) m o a.Ap∧Sl Bm aC (zf Z w [ob b,some b3,some b2,some b1]) p q a.AH∧Sl Bl aC (zf Z w [ob b,some b3,some b2,some b1]) r s a.Aw)) ?dV ?dW
 case dV=>
  clear d;refine Cl (fun(c0:Nat) (aE:Act) (aC:World)=>∃x,∃y,∃c z,Gg a b5 c0 x y=some bE∧aE.tmps.size=33∧aE.defers=(X0).ds∧sl aE 1=I b5∧sl aE 2=pt b1 0∧sl aE 4=pt b2 0∧sl aE 5=pt b3 0∧sl aE 6=I x∧Hp FN [] w [ob c,some b3,some b2,some b1] aC∧BY BA 121 w.heap.size aC (zf Z w [ob c,some b3,some b2,some b1]) c z y∧Bk aC b1 67 (Am g h i j m o p q r s aA aB a).toArray∧Bk aC b2 67 #[.slice none 0 0,.slice none 0 0,.slice none 0 0,I 0,.slice none 0 0,.slice none 0 0,.slice none 0 0]∧Bk aC b3 67 #[.slice g a.Al.length h,.slice i a.Ac.length j,.slice m a.Ap.length o,I a.Flat,.slice p a.AH.length q,.slice r a.Aw.length s,.slice c y.length z]∧Sl AM aC (zf Z w [ob c,some b3,some b2,some b1]) g h a.Al∧Sl (BO (Ay .i64)) aC (zf Z w [ob c,some b3,some b2,some b1]) i j a.Ac∧Sl AQ aC (zf Z w [ob c,some b3,some b2,some b1]) m o a.Ap∧Sl Bm aC (zf Z w [ob c,some b3,some b2,some b1]) p q a.AH∧Sl Bl aC (zf Z w [ob c,some b3,some b2,some b1]) r s a.Aw∧Sl BA aC (zf Z w [ob c,some b3,some b2,some b1]) aA aB a.Ao) dP ?dX ?dY
  case dX=>
   intro st;have c1:=(((bX.ext aZ.gr).gr a9.gr (bY.nq 2 0)).gr bA.gr (bZ.nq 2 0));have c2:=(((a8.bk.ext aZ.gr).gr a9.gr (bY.nq 1 0)).gr bA.gr (bZ.nq 1 0));have c3:=bA.bk;have ⟨cC,cD,cE,cF,cG,cH⟩:=Cz b6 b7 b8 b9 cA cB (mt (AP bW) (mt (AP a8) (mt (AP aZ) (mt (bY.C4 a9.gr 0 rfl) (mt (bZ.C4 bA.gr 0 rfl) CA)))));exact⟨(0:Int),([]:List Ct),none,0,a0,qz st,qd st,sp st 1 dB,sp st 2 rfl,sp st 4 rfl,sp st 5 rfl,sp st 6 rfl,dS,dT,c1,c2,c3,cC,cD,cE,cF,cG,cH⟩
  case dY=>
   rintro(_|c0) eB eC ⟨x,y,c,z,a0,dC,dD,a3,aS,a4,aN,aO,b4,aD,aP,aT,aQ,aF,aG,aH,aI,aJ,aK⟩
   ·exact absurd (show none=some _ from a0) (by simp)
   rw[Gg.eq_2] at a0;have d:=a0;clear a0;refine B7 (N:=33) dC dD<|Af<|Af<|Ad<|wM (v:=I x) aO<|wD (fun st=>Ai (ee st aS) (Fx _ _))<|wD (fun st=>AG (v:=.slice aA a.Ao.length aB) GF (eR st) aP rfl)<|wD (fun st=>Bu Tryz.underlying65 (eR st))<|wD (fun st=>CO (eR st) (eR st))<|Ag<|Ab ?_;rcases Ak (decide (x<(a.Ao.length:Int))) with bB|bB
   ·replace d:=Az d bB;refine AD rfl bB<|AL<|Ab<|Af<|AT<|Af<|Ad<|wM (v:=I b5) a3<|wM (v:=I x) aO ?_;replace d:=D1 d;obtain⟨dZ,d⟩:=d;refine wD (fun st=>EX (k:=.u64) GV Tryz.underlying91 (eR st) dZ) ?_;replace d:=GB d;obtain⟨dE,d⟩:=d;refine wD (fun st=>J2 (eR st) (eR st) dE) ?_;replace d:=Fu d;obtain⟨cK,d⟩:=d;refine wD (fun st=>HG (eR st) (eR st) cK.1 cK.2)<|wD (fun st=>Dj (eR st) (eR st))<|Ag<|Ab ?_;rcases Ak (((ER b5 x)%2)==1) with aU|aU
    ·replace d:=Az d aU;refine AD rfl aU ?_;replace d:=AW d;obtain⟨i14,f,dF,dG,dH,d⟩:=d;obtain⟨d0,d1,_,dI,rfl,dJ⟩:=Sl.elem aK (by decide) dG;refine B9 8 [Kc (pt b3 6),Kc (.slice c y.length z),Kc (pt b1 6),Kc (.slice aA a.Ao.length aB),Kc (I x),Kc (pt d0 (d1+i14*3)),Kc (.agg #[I f.C0,I f.Db,I f.Dc]),Kv (Gp BA) (zf Z w [ob c,some b3,some b2,some b1]) [f]] mixed rfl rfl
         (Aa (oD (fun K=>Ai (es ((K.out 5 rfl).trans aN)) (Fx _ _)))
         (Aa (oD (fun K=>AG GF (es (K.dq 0 22)) (aQ.ext K.AO) rfl))
         (Aa (oD (fun K=>Ai (es ((K.out 2 rfl).trans aS)) (Fx _ _)))
         (Aa (oD (fun K=>AG GF (es (K.dq 2 24)) (aP.ext K.AO) rfl))
         (Aa (oD (fun K=>Aq (es ((K.out 6 rfl).trans aO))))
         (Aa (oD (fun K=>BR (k:=i14) Tryz.underlying65 LM (es (K.dq 3 25)) dI (es (K.dq 4 26)) dF dH))
         (Aa (oD (fun K=>Ew (l:=[I f.C0,I f.Db,I f.Dc]) Uv (es (K.dq 5 27)) (dJ.mv (Ah K.AO)) rfl rfl))
         (Aa (Dl rfl rfl (fun a' w' ph K=>(De (e:=121) (vs:= #[(0,.agg #[I f.C0,I f.Db,I f.Dc])]) (cs:= #[I f.C0,I f.Db,I f.Dc]) (JN (es (K.dq 6 28))) (by kernel_rfl)).mono (fun u CJ ⟨eK,hu,hn⟩=>⟨⟨_,_,hu,LY (xs:=[f]) (DQ:=[[I f.C0,I f.Db,I f.Dc]]) hn.bk ((b4.ext K.AO).kn (Nat.le_of_eq hn.Jj.symm)) (R2.mv (Ah hn.gr) (show R2 BA w' (zf Z w [ob c,some b3,some b2,some b1]) [[I f.C0,I f.Db,I f.Dc]] [f] from⟨rfl,trivial⟩)) rfl (Nat.le_refl _)⟩,hn.gr⟩)))
         (B8 _))))))))) ?_
     intro eD;rintro _ rfl _ rfl _ rfl _ rfl _ rfl _ rfl _ rfl _ ⟨d2,d3,rfl,cI⟩ aL;have aV:=b4.ext aL;have bC:=(aD.ext aL (Ah aL));replace d:=Ck d;obtain⟨cL,d⟩:=d;refine wE (fun st=>HY (ys:=[f]) Tryz.underlying65 Rg rfl rfl (by decide) (eR st) rfl (eR st) bC cI.n (by have:=cL;simp only[maxLen];omega) (by have:=cL;omega) aV.sz) ?_;rintro _ eE ⟨cM,cN,rfl,aR,bF,dK⟩;have a2:=aV.row aR 0 rfl bF;have dL:=ED dK (aV.DN aR 0 rfl (fun k hk=>(bF k hk).1));refine wD (fun st=>Ai (ee st aN) (Fx _ _)) ?_;have c4:=((aQ.ext aL).gr aR (aV.nq 1 0));refine Dk rfl rfl (fun st=>CS (n:=1) (l:=[.slice cM ((y++[f]).length) cN]) (EZ:= #[.slice g a.Al.length h,.slice i a.Ac.length j,.slice m a.Ap.length o,I a.Flat,.slice p a.AH.length q,.slice r a.Aw.length s,.slice cM ((y++[f]).length) cN]) (eR st) (eR st) SL c4 rfl rfl (show 6+1≤7 by decide) (Cg rfl) rfl) ?_;rintro _ eF aM;have dM:=a2.gr aM.gr 1 rfl;refine Ag<|Bs<|Ab<|Ad<|wM (v:=I x) aO ?_;replace d:=AK d;obtain⟨dN,d⟩:=d;refine wD (fun st=>B0 (eR st) (eR st) dN)<|wA (v:=I (x+1)) rfl<|Ag ?_;have cJ:=(dL.gr aM.gr (fun k hk=>a2.ne 0 1 rfl (congrArg some hk) rfl) (a2.C4 aM.gr 1 rfl));have cO:=(((aP.ext aL).gr aR (aV.nq 3 0)).gr aM.gr (a2.nq 3 1));have cP:=(((aT.ext aL).gr aR (aV.nq 2 0)).gr aM.gr (a2.nq 2 1));have ⟨bG,bH,bI,bJ,bK,bL⟩:=Cz aF aG aH aI aJ aK (mt (Ah aL) (mt (aV.DN aR 0 rfl (fun k hk=>(bF k hk).1)) (a2.C4 aM.gr 1 rfl)));refine Bw c0 (Nat.lt_succ_self _) (fun st=>?_);exact⟨(x+1),(y++[f]),cM,cN,d,qz st,qd st,sp st 1 a3,sp st 2 aS,sp st 4 a4,sp st 5 aN,sp st 6 rfl,dM,cJ,cO,cP,aM.bk,bG,bH,bI,bJ,bK,bL⟩
    ·replace d:=AA d aU;refine AE rfl aU<|AL<|Bs<|Ab<|Ad<|wM (v:=I x) aO ?_;replace d:=AK d;obtain⟨dO,d⟩:=d;refine wD (fun st=>B0 (eR st) (eR st) dO)<|wA (v:=I (x+1)) rfl<|Ag ?_;refine Bw c0 (Nat.lt_succ_self _) (fun st=>?_);exact⟨(x+1),y,c,z,d,qz st,qd st,sp st 1 a3,sp st 2 aS,sp st 4 a4,sp st 5 aN,sp st 6 rfl,b4,aD,aP,aT,aQ,aF,aG,aH,aI,aJ,aK⟩
   ·replace d:=AA d bB;refine AE rfl bB<|Cd<|AB<|AB ?_;obtain rfl:=oi d;refine B4 (fun st=>?_);exact⟨rfl,c,z,qz st,qd st,sp st 4 a4,sp st 5 aN,b4,aD,aT,aQ,aF,aG,aH,aI,aJ⟩
 case dW=>
  rintro dU d8 eG (⟨rfl,b,t,c5,c6,bD,cQ,a5,aW,cR,cS,bM,bN,bO,bP,bQ⟩);refine Cn (X:=X0) (N:=33) c5 c6<|Bn<|Ab<|Af<|Ad<|wD (fun st=>AR (l:=[.slice g a.Al.length h,.slice i a.Ac.length j,.slice m a.Ap.length o,I a.Flat,.slice p a.AH.length q,.slice r a.Aw.length s,.slice b bE.length t]) Cj (ee st cQ) cS rfl rfl)<|Dk rfl rfl (fun st=>CS (n:=7) (l:=[.slice g a.Al.length h,.slice i a.Ac.length j,.slice m a.Ap.length o,I a.Flat,.slice p a.AH.length q,.slice r a.Aw.length s,.slice b bE.length t]) (EZ:= #[.slice g a.Al.length h,.slice i a.Ac.length j,.slice m a.Ap.length o,I a.Flat,.slice p a.AH.length q,.slice r a.Aw.length s,.slice b bE.length t]) (ee st bD) (eR st) Rs cR rfl rfl (show 0+7≤7 by decide) (Cg rfl) rfl) ?_;rintro _ eH aX;have cT:=a5.gr aX.gr 2 rfl;refine Ag<|Ab<|AI ?_;obtain rfl:=oi d;refine Ku (v:=.agg #[.slice g a.Al.length h,.slice i a.Ac.length j,.slice m a.Ap.length o,I a.Flat,.slice p a.AH.length q,.slice r a.Aw.length s,.slice b bE.length t]) rfl bD (GP Cj aX.bk rfl rfl) ?_;have ⟨bR,bS,bT,bU,bV⟩:=Tw bM bN bO bP bQ (a5.C4 aX.gr 2 rfl);have aY:=(aW.gr aX.gr (fun k hk=>a5.ne 0 2 rfl (congrArg some hk) rfl) (a5.C4 aX.gr 2 rfl));exact⟨cT.Bc,⟨_,rfl,_,_,_,_,_,_,_,_,_,_,_,_,rfl,bR.mv (CG (DI [] trivial)),bS.mv (CG (DI [] trivial)),bT.mv (CG (DI [] trivial)),bU.mv (CG (DI [] trivial)),bV.mv (CG (DI [] trivial)),cT.IA (M:=[]) 0 rfl [] rfl trivial aY⟩⟩
end Go.Proofs.YtbhofkcbfblijaaGreat
end
section
namespace Go.Proofs.YtbhofkcbfblijaaGreat
open Go.RowKit Go.ChangeShapes Go.WideShapes
section
variable{H:Type}{enc:TypeId×Value→H}{P:Program}{W W':World}
variable{α:Type}{e:Gy α}{wf:α→Prop}{t:TypeId}{b0:Nat}{v:Value}{d:DataW H}{p:List MemPlace}{sp:Nat→Bool}
theorem Lz{k:IntKind}(a:P.underlying t=some (.int k))(b:Value.okWide P W .any b0 t v)(h:DataW.Trod enc P W 0 sp true t v d p):∃n,v=.int k n∧Iz k n:=by
 obtain⟨n,h1,_,_,c⟩:=open_int a b h;exact⟨n,h1,c⟩
end
theorem QC{x:Int}(h:Iz .u8 x):0≤x∧x<256:=by
 have h2:(decide (IntKind.u8.min≤x)&&decide (x≤IntKind.u8.max))=true:=h;rw[Bool.and_eq_true,decide_eq_true_eq,decide_eq_true_eq] at h2;have a:IntKind.u8.min=0:=by decide
 have b:IntKind.u8.max=255:=by decide
 omega
end Go.Proofs.YtbhofkcbfblijaaGreat
end
