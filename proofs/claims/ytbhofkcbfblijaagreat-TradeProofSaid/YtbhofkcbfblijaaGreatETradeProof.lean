import Derived.Test.YtbhofkcbfblijaaGreatCG5
import Derived.WalkKit
import Derived.KernelRfl
import Derived.WalkSpells
import Derived.WalkLawsBesides
import Derived.Maps.AppendAt
import Derived.OrdersIn
import Derived.RangeFuncIn
import Derived.RangeFuncLeaves
import Derived.RangeFuncRecord
import Derived.RangeFuncSeq
import Derived.Scope
import Derived.DeepKeys3
import Derived.Laws.CopyRow
import Derived.Laws.OwnMore
import Derived.Laws.MakeOwn
import Derived.Laws.IdiomCopy
import Derived.Sort.OwnSortedInts
import Derived.Lib.RowBridge
import Derived.Shelf.Sort.Plain
import Derived.Ground.Names2Prog
import Derived.Shelf.Slices.Clone
import Derived.Shelf.Slices.CompactI
import Derived.Shelf.Slices.In.SortNone
import Derived.Ground.SlgnProg
import Derived.Shelf.SlicesE.Clone
import Derived.ProofKit
import Derived.ChangeSame
import Derived.SizedLaws
import Derived.Deep.Slices
import Derived.JoinedOf
import Derived.Test.YtbhofkcbfblijaaGreatProg
import Derived.Test.YtbhofkcbfblijaaGreatRows
/-
  What the law TradeProof needs beside the base that several claims of this seat share: contracts, and the plain law.
-/
set_option linter.all false
section
namespace Go.Proofs.YtbhofkcbfblijaaGreat
open Go.RowKit
section
variable{P:Program}{a:Act}{w:World}{dst:Option Tmp}{ty:TypeId}{pos:String}{Ec:Array Edge}{g:Option (Nat×Bool)}
theorem HG{x y:Operand}{k:IntKind}{m n:Int}{t b:TypeId}(hx:a.eval x=.int k m)(c:a.eval y=.int k n)(h0:0≤m)(h1:1≤n):Eb P ⟨dst,.binOp .rem t x y b,ty,pos,Ec,g⟩ a w (fun u w'=>u=.int k (m%n)∧w'=w):=
 DJ (by
  have e:m.tmod n=m%n:=Int.tmod_eq_emod_of_nonneg h0;have hn:¬n=0:=by omega
  simp[execOp,hx,c,eqGuard,binOp,Op.intDiv,hn,e])
end
def rem(a b:Int):Option Int:=if 0≤a∧1≤b then some (a%b) else none
theorem IN{a b y:Int}(h:rem a b=some y):y=a%b∧0≤a∧1≤b:=by
 unfold rem at h;split at h
 ·exact⟨(Option.some.inj h).symm,by assumption⟩
 ·cases h
theorem Fu{α:Type}{a b:Int}{f:Int→Option α}{r:α}(h:(rem a b).bind f=some r):(0≤a∧1≤b)∧f (a%b)=some r:=by
 obtain⟨y,h1,h2⟩:=Option.bind_eq_some_iff.1 h;obtain⟨rfl,c⟩:=IN h1;exact⟨c,h2⟩
end Go.Proofs.YtbhofkcbfblijaaGreat
end
section
namespace Go.Proofs.YtbhofkcbfblijaaGreat
open Go.RowKit Go.WideShapes
def CY(a n:Int):Int:=a*2^n.toNat
def EV(a n:Int):Option Unit:=if 0≤n∧n<64∧-9223372036854775808≤a*2^n.toNat∧a*2^n.toNat≤9223372036854775807 then some () else none
theorem E3{α:Type}{a n:Int}{f:Unit→Option α}{r:α}(h:(EV a n).bind f=some r):(0≤n∧n<64∧fits (CY a n))∧f ()=some r:=by
 unfold EV at h;split at h
 ·rename_i h1;exact⟨⟨h1.1,h1.2.1,h1.2.2⟩,h⟩
 ·cases h
def ER(a n:Int):Int:=a/2^n.toNat
def Hn(a n:Int):Option Unit:=if 0≤n∧n<64 then some () else none
theorem GB{α:Type}{a n:Int}{f:Unit→Option α}{r:α}(h:(Hn a n).bind f=some r):(0≤n∧n<64)∧f ()=some r:=by
 unfold Hn at h;split at h
 ·exact⟨by assumption,h⟩
 ·cases h
def GG(a b:Int):Option Unit:=if (0≤a∧a≤9223372036854775807)∧(0≤b∧b≤9223372036854775807) then some () else none
theorem F5{α:Type}{a b:Int}{f:Unit→Option α}{r:α}(h:(GG a b).bind f=some r):((0≤a∧a≤9223372036854775807)∧(0≤b∧b≤9223372036854775807))∧f ()=some r:=by
 unfold GG at h;split at h
 ·exact⟨by assumption,h⟩
 ·cases h
def It(a b:Int):Int:=((a.toNat&&&b.toNat:Nat):Int)
section
variable{P:Program}{a:Act}{w:World}{dst:Option Tmp}{ty:TypeId}{pos:String}{Ec:Array Edge}{g:Option (Nat×Bool)}
theorem HL{x y:Operand}{m n:Int}{k:IntKind}{t b:TypeId}(hx:a.eval x=.int .i64 m)(c:a.eval y=.int k n)(h:0≤n∧n<64∧fits (CY m n)):Eb P ⟨dst,.binOp .shl t x y b,ty,pos,Ec,g⟩ a w (fun u w'=>u=.int .i64 (CY m n)∧w'=w):=
 DJ (by
  have hn:¬n<0:=by omega
  have hb:min n.toNat IntKind.i64.bits=n.toNat:=by
   have:IntKind.i64.bits=64:=rfl;omega
  have d:IntKind.i64.wrap (m*2^n.toNat)=m*2^n.toNat:=GO h.2.2;simp[execOp,hx,c,eqGuard,binOp,Op.shift,hn,hb,d,CY])
theorem J2{x y:Operand}{m n:Int}{k:IntKind}{t b:TypeId}(hx:a.eval x=.int .i64 m)(c:a.eval y=.int k n)(h:0≤n∧n<64):Eb P ⟨dst,.binOp .shr t x y b,ty,pos,Ec,g⟩ a w (fun u w'=>u=.int .i64 (ER m n)∧w'=w):=
 DJ (by
  have hn:¬n<0:=by omega
  have hb:min n.toNat IntKind.i64.bits=n.toNat:=by
   have:IntKind.i64.bits=64:=rfl;omega
  have d:m.fdiv (2^n.toNat)=m/2^n.toNat:=Int.fdiv_eq_ediv_of_nonneg m (Int.le_of_lt (Int.pow_pos (by decide)));simp[execOp,hx,c,eqGuard,binOp,Op.shift,hn,hb,d,ER])
theorem H0{m:Int}(h0:0≤m)(h1:m≤9223372036854775807):(BitVec.ofInt 64 m).toNat=m.toNat:=by
 rw[BitVec.toNat_ofInt];omega
theorem HX{k:Nat}(h:k≤9223372036854775807):IntKind.i64.wrap (k:Int)=k:=GO ⟨by omega,by omega⟩
theorem Qs{x y:Operand}{m n:Int}{t b:TypeId}(hx:a.eval x=.int .i64 m)(c:a.eval y=.int .i64 n)(h:(0≤m∧m≤9223372036854775807)∧(0≤n∧n≤9223372036854775807)):Eb P ⟨dst,.binOp .and t x y b,ty,pos,Ec,g⟩ a w (fun u w'=>u=.int .i64 (It m n)∧w'=w):=
 DJ (by
  have e:(BitVec.ofInt 64 m&&&BitVec.ofInt 64 n).toNat=m.toNat&&&n.toNat:=by rw[BitVec.toNat_and,H0 h.1.1 h.1.2,H0 h.2.1 h.2.2]
  have d:IntKind.i64.wrap ((m.toNat&&&n.toNat:Nat):Int)=((m.toNat&&&n.toNat:Nat):Int):=HX (Nat.le_trans Nat.and_le_left (by omega));have key:(Op.intBits .and .i64 m n).run P w=.ok (.int .i64 (It m n)) w:=by
   show(pure (Value.int .i64 (IntKind.i64.wrap ((BitVec.ofInt 64 m&&&BitVec.ofInt 64 n).toNat:Int))):Sem Value).run P w=_;rw[e,d];rfl
  simp[execOp,hx,c,eqGuard,binOp,key])
end
def GM(a:Nat)(b:Aj)(c:List Int):Option (Bool):=
 (CD a b true).bind fun d=>Option.elim d.1 (cond (d.2==0) ((Gm a c (b.Aw.length:Int)).bind fun g=>cond (g) (none) (some (false))) (some (false))) (fun h=>cond (d.2==0) ((Gm a c (b.Aw.length:Int)).bind fun e=>cond (e) ((HZ a h c).bind fun f=>some (f.1)) (some (false))) (some (false)))
def BG(c:Int):Nat→(List Int)→Int→Option ((List Int))
 |0,_,_=>none
 |d+1,b,a=>(E5 .u64 a).bind fun _=>(Hn c a).bind fun _=>cond (decide ((0:Int)<(ER c a))) ((E5 .u64 a).bind fun _=>(Hn c a).bind fun _=>(rem (ER c a) (2:Int)).bind fun _=>cond (((ER c a)%2)==1) ((EG (((b.length+[a].length:Nat):Int)≤140737488355328/8)).bind fun _=>(i64 (a+1)).bind fun _=>BG c d (b++[a]) (a+1)) ((i64 (a+1)).bind fun _=>BG c d b (a+1))) (some (b))
def CN(a:Nat)(b:Int):Option ((List Int)):=
 (BG b a ([]:List Int) (0:Int)).bind fun c=>some (c)
def Cu(b:List Int)(c:List Int):Nat→Int→Option ((Bool)⊕(Unit))
 |0,_=>none
 |e+1,a=>cond (decide (a<(b.length:Int))) (cond (decide (a<(c.length:Int))) ((idx b a).bind fun f=>(idx c a).bind fun g=>cond (f !=g) ((idx b a).bind fun h=>(idx c a).bind fun d=>some (.inl (decide (h<d)))) ((i64 (a+1)).bind fun _=>Cu b c e (a+1))) (some (.inr ()))) (some (.inr ()))
def DD(d:Nat)(b:List Int)(c:List Int):Option (Bool):=
 (Cu b c d (0:Int)).bind fun z=>Sum.elim (fun a=>some (a)) (fun a=>some (decide ((b.length:Int)<(c.length:Int)))) z
def E4(c:Nat)(a:List Int)(b:List Int):Option (Bool):=
 cond (decide ((a.length:Int)<(b.length:Int))) (some (true)) (cond ((a.length:Int)==(b.length:Int)) ((DD c a b).bind fun d=>some (d)) (some (false)))
def CM(b:Nat)(a:List Int):Option ((List Int)):=
 (EG (((([]:List Int).length+a.length:Nat):Int)≤140737488355328/8)).bind fun _=>some (([]:List Int)++a)
def B6(a:Nat)(b:Aj):Option (Bool):=
 (Gf a b).bind fun c=>cond (c) ((F6 a b).bind fun d=>some (d==0)) (some (false))
end Go.Proofs.YtbhofkcbfblijaaGreat
end
section
namespace Go.Proofs.YtbhofkcbfblijaaGreat
theorem I7{β:Type}{a b:Int}{f:Int→Option β}(h0:0≤a)(h1:1≤b):(rem a b).bind f=f (a%b):=bd (if_pos ⟨h0,h1⟩)
theorem PC{β:Type}{n:Int}{b:Nat}{f:Unit→Option β}(h0:0≤n)(h1:n*b≤140737488355328)(h2:n≤140737488355328):(R9 n b).bind f=f ():=bd (if_pos ⟨h0,h1,h2⟩)
section
variable{K:Nat}(hK:1000≤K)
include hK
theorem KM{σ:Type}(cb:σ→Int→Option (Bool×σ))(p:List Int)(a:p.length≤900)(s:σ):J0 K cb p s=run cb p s:=
 MR (F:=Gh (fun(st:σ) (x:Int)=>(IU K cb x st).bind fun r=>some (r.1,r.2)) p) (fun _ _ _=>rfl) a hK s
end
theorem Jy(K:Nat){r:AN}(h:EU r):GJ K r=some (BI r):=Jl K h
section
variable{K:Nat}(hK:1000≤K)
include hK
end
def Er:List AN→Int→List Int
 |[],_=>[]
 |r::rs,n=>(r.Lo+n%BI r)::Er rs (n/BI r)
namespace OkC
variable{c:AV}(h:OkC c)
include h
end OkC
theorem FA(r:AN)(l:List AN):Dm (r::l)=BI r*Dm l:=by
 have:∀(l:List AN) (s:Int),l.foldl (fun n r=>n*BI r) s=s*l.foldl (fun n r=>n*BI r) 1:=by
  intro l
  induction l with
  |nil=>intro s;simp
  |cons r l ih=>intro s;rw[List.foldl_cons,List.foldl_cons,ih,ih (1*BI r),Int.one_mul,Int.mul_assoc]
 unfold Dm;rw[List.foldl_cons,this,Int.one_mul]
theorem G8:∀{rs:List AN} {l:List Int},(∀r∈rs,EU r)→DE rs l=true→∃n:Nat,(n:Int)<Dm rs∧Er rs (n:Int)=l
 |[],[],_,_=>⟨0,by simp[Dm],rfl⟩
 |[],_::_,_,h=>by cases h
 |_::_,[],_,h=>by cases h
 |r::rs,x::xs,hr,h=>by
  rw[DE,Bool.and_eq_true] at h;obtain⟨n,hn,e⟩:=G8 (fun r b=>hr r (List.mem_cons_of_mem _ b)) h.2;have h1:=Dv.1 h.1;have h2:=D0 (hr r (List.mem_cons_self ..));have a:0≤x-r.Lo∧x-r.Lo<BI r:=by unfold BI;omega
  have c:0≤BI r*(n:Int):=Int.mul_nonneg (by omega) (by omega);refine⟨(x-r.Lo+BI r*n).toNat,?_,?_⟩
  ·rw[FA];have:BI r*((n:Int)+1)≤BI r*Dm rs:=Int.mul_le_mul_of_nonneg_left (by omega) (by omega);rw[Int.mul_add] at this;omega
  ·rw[Int.toNat_of_nonneg (by omega),Er,Int.add_mul_emod_self_left,Int.emod_eq_of_lt a.1 a.2,Int.add_mul_ediv_left _ _ (by omega),Int.ediv_eq_zero_of_lt a.1 a.2,Int.zero_add,e]
   congr 1;omega
def Bo (c:AV):List (List Int):=((List.range (Dm c.AF).toNat).map fun n:Nat=>Er c.AF (n:Int)).filter (BJ c)
theorem CV{c:AV}(a:OkC c){l:List Int}:l∈Bo c↔BJ c l=true:=by
 unfold Bo;rw[List.mem_filter,List.mem_map];refine⟨fun h=>h.2,fun h=>⟨?_,h⟩⟩;have h1:=h;unfold BJ at h1;rw[Bool.and_eq_true] at h1;obtain⟨n,hn,e⟩:=G8 a.ok h1.1;exact⟨n,List.mem_range.2 (by omega),e⟩
section
variable{K:Nat}(hK:1000≤K)
include hK
end
end Go.Proofs.YtbhofkcbfblijaaGreat
end
section
namespace Go.Proofs.YtbhofkcbfblijaaGreat
namespace OkT
variable{t:Aj}(h:OkT t)
include h
theorem ol:t.Aw.length≤3:=(HC h.fault).2.2.1
end OkT
section
variable{K:Nat}(hK:1000≤K)
include hK
end
section
variable{K:Nat}(hK:1000≤K)
include hK
end
end Go.Proofs.YtbhofkcbfblijaaGreat
end
section
namespace Go.Proofs.YtbhofkcbfblijaaGreat
theorem FB{σ α:Type}(cb:σ→α→Option (Bool×σ))(a:List α):∀(b:List α) (s:σ),run cb (b++a) s=(run cb b s).bind fun r=>cond r.1 (run cb a r.2) (some (false,r.2))
 |[],s=>rfl
 |x::l,s=>by
  simp only[List.cons_append,run];cases cb s x with
  |none=>rfl
  |some r=>
   simp only[Option.bind_some];cases h:r.1 with
   |false=>simp
   |true=>simpa using FB cb a l r.2
def CE:List AN→List (List Int)
 |[]=>[[]]
 |r::rs=>(List.range' 0 (BI r).toNat).flatMap fun n:Nat=>(CE rs).map fun x=>(r.Lo+(n:Int))::x
theorem Fh:∀{rs:List AN} {l:List Int},(∀r∈rs,EU r)→(l∈CE rs↔DE rs l=true)
 |[],[],_=>by simp[CE,DE]
 |[],_::_,_=>by simp[CE,DE]
 |r::rs,[],_=>by simp[CE,DE]
 |r::rs,x::xs,h=>by
  have h1:=h r (List.mem_cons_self ..);have h2:=D0 h1;rw[CE,List.mem_flatMap,DE,Bool.and_eq_true,←Fh (fun r hr=>h r (List.mem_cons_of_mem _ hr)),Dv];constructor
  ·rintro⟨n,hn,hx⟩;obtain⟨y,a,e⟩:=List.mem_map.1 hx;injection e with c b
   subst b;rw[List.mem_range'_1] at hn;refine⟨?_,a⟩;unfold BI at hn h2;omega
  ·rintro⟨hx,a⟩;refine⟨(x-r.Lo).toNat,?_,List.mem_map.2 ⟨xs,a,?_⟩⟩
   ·rw[List.mem_range'_1];unfold BI;omega
   ·congr 1;omega
theorem Gq:∀{rs:List AN},(∀r∈rs,EU r)→((CE rs).length:Int)=Dm rs
 |[],_=>rfl
 |r::rs,h=>by
  have h2:=D0 (h r (List.mem_cons_self ..));have a:=Gq (rs:=rs) (fun r hr=>h r (List.mem_cons_of_mem _ hr));rw[FA,←a,CE,List.length_flatMap];have:∀(n i:Nat),((List.range' i n).map fun n:Nat=>((CE rs).map fun x=>(r.Lo+(n:Int))::x).length).sum=n*(CE rs).length:=by
   intro n
   induction n with
   |zero=>intro i;simp
   |succ n ih=>intro i;rw[List.range'_succ,List.map_cons,List.sum_cons,ih,List.length_map,Nat.succ_mul,Nat.add_comm]
  rw[this,Int.natCast_mul,Int.toNat_of_nonneg (by omega)]
theorem take_set{out:List Int}{i:Nat}(v:Int)(h:i<out.length):(out.set i v).take (i+1)=out.take i++[v]:=by
 rw[List.take_succ_eq_append_getElem (by simpa using h),List.take_set_of_le (Nat.le_refl _),List.getElem_set_self]
section
variable{K:Nat}(hK:1000≤K)
include hK
theorem Gr{σ:Type}(cb:σ→List Int→Option (Bool×σ))(d:Int→List AN→List Int→σ→Option (Bool×List Int×σ))(l:List AN)(hl:l.length≤100)(i:Nat)(hi:i<l.length)(hr:EU l[i])
  (ih:∀(out:List Int) (s:σ) (b:Bool) (s':σ),out.length=l.length→run cb ((CE (l.drop (i+1))).map fun x=>out.take (i+1)++x) s=some (b,s')→∃c,c.length=l.length∧c.take (i+1)=out.take (i+1)∧d ((i+1:Nat):Int) l out s=some (b,c,s')):
  ∀(e m n:Nat) (out:List Int) (s:σ) (b:Bool) (s':σ),BI l[i]=(n:Int)+e→e<m→out.length=l.length→
   run cb ((List.range' n e).flatMap fun n:Nat=>(CE (l.drop (i+1))).map fun x=>out.take i++(l[i].Lo+(n:Int))::x) s=some (b,s')→
   ∃c,c.length=l.length∧c.take i=out.take i∧(Dd d (i:Int) l (BI l[i]) m (n:Int) out s).bind (fun z=>Sum.elim (fun q=>some (q.1,q.2.1,q.2.2)) (fun q=>some (true,q.1,q.2)) z)=some (b,c,s')
 |e,0,n,out,s,b,s',h,hm,_,_=>by omega
 |0,m+1,n,out,s,b,s',h,hm,j,a=>by
  have:(true,s)=(b,s'):=Option.some.inj a;injection this with k o
  subst k;subst o;refine⟨out,j,rfl,?_⟩;rw[Dd.eq_2,cf (df (by omega))];rfl
 |e+1,m+1,n,out,s,b,s',h,hm,j,a=>by
  have aA:=D0 hr;have t:=hr;unfold EU at t;have g:i<out.length:=by omega
  rw[List.range'_succ,List.flatMap_cons,FB] at a;have u:∀x:List Int,out.take i++(l[i].Lo+(n:Int))::x=(out.set i (l[i].Lo+(n:Int))).take (i+1)++x:=fun x=>by rw[take_set _ g,List.append_assoc];rfl
  simp only[u] at a;cases h1:run cb ((CE (l.drop (i+1))).map fun x=>(out.set i (l[i].Lo+(n:Int))).take (i+1)++x) s with
  |none=>rw[h1] at a;cases a
  |some r=>
   obtain⟨b1,s1⟩:=r;rw[h1,Option.bind_some] at a;obtain⟨f,g1,g2,g3⟩:=ih (out.set i (l[i].Lo+(n:Int))) s b1 s1 (by rw[List.length_set];exact j) h1;have gt:f.take i=out.take i:=by
    have:=congrArg (List.take i) g2;rw[List.take_take,List.take_take,Nat.min_eq_left (by omega),List.take_set_of_le (Nat.le_refl _)] at this;exact this
   rw[Dd.eq_2,ct (dt (by omega)),BS hi,AZ (by omega) (by omega),BS g,AZ (by omega) (by omega),CZ i,Int.toNat_natCast,bd g3];cases b1 with
   |false=>
    have:(false,s1)=(b,s'):=Option.some.inj a;injection this with k o
    subst k;subst o;exact⟨f,g1,gt,rfl⟩
   |true=>
    rw[nt,AZ (by omega) (by omega),CZ n];simp only[←u] at a;rw[←gt] at a;obtain⟨p,v,w,y⟩:=Gr cb d l hl i hi hr ih e m (n+1) f s1 b s' (by omega) (by omega) g1 a;exact⟨p,v,w.trans gt,y⟩
theorem G9{σ:Type}(cb:σ→List Int→Option (Bool×σ))(l:List AN)(hl:l.length≤100)(m:∀r∈l,EU r):∀(d k i:Nat) (out:List Int) (s:σ) (b:Bool) (s':σ),l.length=i+d→d<k→out.length=l.length→
  run cb ((CE (l.drop i)).map fun x=>out.take i++x) s=some (b,s')→∃c,c.length=l.length∧c.take i=out.take i∧CQ K cb k (i:Int) l out s=some (b,c,s')
 |d,0,i,out,s,b,s',h,hk,_,_=>by omega
 |0,k+1,i,out,s,b,s',h,hk,f,a=>by
  rw[List.drop_eq_nil_of_le (by omega)] at a;have e:(CE []).map (fun x=>out.take i++x)=[out]:=by
   show[out.take i++[]]=[out];rw[List.append_nil,List.take_of_length_le (by omega)]
  rw[e] at a;refine⟨out,f,rfl,?_⟩;rw[CQ.eq_2,ct (EO (by omega))];simp only[run] at a;cases h1:cb s out with
  |none=>rw[h1] at a;cases a
  |some r=>
   obtain⟨b1,s1⟩:=r;rw[h1,Option.bind_some] at a;cases b1 with
   |true=>
    have:(true,s1)=(b,s'):=Option.some.inj a;injection this with g j
    subst g;subst j;rfl
   |false=>
    have:(false,s1)=(b,s'):=Option.some.inj a;injection this with g j
    subst g;subst j;rfl
 |d+1,k+1,i,out,s,b,s',h,hk,f,a=>by
  have hi:i<l.length:=by omega
  have hr:=m _ (List.getElem_mem hi);have n:=D0 hr;rw[List.drop_eq_getElem_cons hi,CE,List.map_flatMap] at a;simp only[List.map_map] at a;rw[CQ.eq_2,cf (Gw (by omega)),BS hi,bd (Jy K hr)];have:=Gr hK cb (CQ K cb k) l hl i hi hr (fun out s b s' h1 h2=>G9 cb l hl m d k (i+1) out s b s' (by omega) (by omega) h1 h2) (BI l[i]).toNat K 0 out s b s' (by omega) (by omega) f a;rw[Int.natCast_zero] at this;exact this
theorem Jz{σ:Type}(cb:σ→List Int→Option (Bool×σ))(l:List AN)(hl:l.length≤100)(a:∀r∈l,EU r)(s:σ)(b:Bool)(s':σ)(h:run cb (CE l) s=some (b,s')):EY K cb l s=some s':=by
 unfold EY;obtain⟨c,_,_,h2⟩:=G9 hK cb l hl a l.length K 0 (List.replicate (l.length:Int).toNat 0) s b s' (by omega) (by omega) (by simp) (by simpa using h);rw[Int.natCast_zero] at h2;rw[PC (by omega) (by omega) (by omega),bd h2]
end
theorem JA:∀{a b:List Int},a.length=b.length→a.length≤3→arr a=arr b→a=b
 |[],[],_,_,_=>rfl
 |[a],[b],_,_,h=>by injection h with h1;exact congrArg (fun x=>[x]) h1
 |[a,a2],[b,b2],_,_,h=>by
  injection h with h1 h2
  rw[show a=b from h1,show a2=b2 from h2]
 |[a,a2,a3],[b,b2,b3],_,_,h=>by
  injection h with h1 h2 c
  rw[show a=b from h1,show a2=b2 from h2,show a3=b3 from c]
 |_::_::_::_::_,_,_,h,_=>by simp at h
 |[],_::_,h,_,_=>by cases h
 |[_],[],h,_,_=>by cases h
 |[_],_::_::_,h,_,_=>by simp at h
 |[_,_],[],h,_,_=>by cases h
 |[_,_],[_],h,_,_=>by simp at h
 |[_,_],_::_::_::_,h,_,_=>by simp at h
 |[_,_,_],[],h,_,_=>by cases h
 |[_,_,_],[_],h,_,_=>by simp at h
 |[_,_,_],[_,_],h,_,_=>by simp at h
 |[_,_,_],_::_::_::_::_,h,_,_=>by simp at h
theorem H2 {t:Aj} (hk:t.Ac.length≤3) {l l':List Int} (h:Av t l=Av t l'):∀w∈t.Ac,CI l w=CI l' w:=by
 have e:=JA (by simp) (by simpa using hk) h;intro w hw;obtain⟨i,hi,rfl⟩:=List.getElem_of_mem hw;have:=congrArg (fun x=>x.getD i 0) e;simpa[List.getElem?_eq_getElem hi] using this
theorem F8{t:Aj}(hk:t.Ac.length≤3){l l':List Int}(h:Av t l=Av t l'):As t l=As t l':=by
 unfold As;exact List.map_congr_left fun w hw=>by rw[H2 hk h w hw]
theorem KN{x y:Be}(h:[x.a0,x.a1,x.a2]=[y.a0,y.a1,y.a2]):x=y:=by cases x;cases y;simpa using h
structure Tr (t:Aj) (L:List (List Int)):Prop where
 Jq:∀l∈L,BJ t.C l=true
 all:∀l,BJ t.C l=true→∃l'∈L,Av t l'=Av t l
 len:L.length≤150
section
variable{K:Nat}(hK:1000≤K)
include hK
theorem Gs {t:Aj} (f:OkT t):∀(X:List (List Int)) (a:List (List Int)),(∀l∈X,DE t.Al l=true)→a.length+X.length≤5000→
  ∃L:List (List Int),run (fun(st:List Be) (x:List Int)=>CT K t st x) X (a.map (Av t))=some (true,L.map (Av t))∧(∀l∈L,l∈a∨l∈X∧BJ t.C l=true)∧(∀l∈a,l∈L)∧(∀l∈X,BJ t.C l=true→∃l'∈L,Av t l'=Av t l)∧L.length≤a.length+X.length
 |[],a,_,_=>⟨a,rfl,fun l h=>.inl h,fun l h=>h,fun l h=>(nomatch h),by simp⟩
 |x::X,a,i,hlen=>by
  have hx:=i x (List.mem_cons_self ..);have u:=f.hl;have v:=HA hx;rw[List.length_cons] at hlen;have n:Fs K ⟨t.Al,t.Ac,t.Ap⟩ x=some (BJ t.C x):=IB hK (c:=t.C) f.c (by omega)
  
  have step:∃b:List (List Int),CT K t (a.map (Av t)) x=some (true,b.map (Av t))∧(∀l∈b,l∈a∨l=x∧BJ t.C x=true)∧(∀l∈a,l∈b)∧(BJ t.C x=true→∃l'∈b,Av t l'=Av t x)∧b.length≤a.length+1:=by
   unfold CT;rw[bd n];cases g:BJ t.C x with
   |false=>exact⟨a,by rw[nf],fun l h=>.inl h,fun l h=>h,fun h=>(nomatch h),by omega⟩
   |true=>
    have d:∃b:List (List Int),(some (true,a.map (Av t)++[Av t x]):Option (Bool×List Be))=some (true,b.map (Av t))∧(∀l∈b,l∈a∨l=x∧true=true)∧(∀l∈a,l∈b)∧(true=true→∃l'∈b,Av t l'=Av t x)∧b.length≤a.length+1:=
     ⟨a++[x],by simp,fun l h=>by simpa using h,fun l h=>by simp[h],fun _=>⟨x,by simp,rfl⟩,by simp⟩
    rw[nt,bd (KI hK f hx)]
    by_cases h0:a.length=0
    ·rw[ct (EO (by simp[h0])),Dt (by simp;omega)];exact d
    ·rw[cf (Gw (by simp;simpa using h0)),AZ (by simp;omega) (by simp;omega)];have e:(((a.map (Av t)).length:Int))-1=((a.length-1:Nat):Int):=by rw[List.length_map];omega
     have j:a.length-1<(a.map (Av t)).length:=by rw[List.length_map];omega
     rw[e,BS j];cases k:([((a.map (Av t))[a.length-1]).a0,((a.map (Av t))[a.length-1]).a1,((a.map (Av t))[a.length-1]).a2] !=[(Av t x).a0,(Av t x).a1,(Av t x).a2]) with
     |true=>rw[ct rfl,Dt (by simp;omega)];exact d
     |false=>
      rw[cf rfl];refine⟨a,rfl,fun l h=>.inl h,fun l h=>h,fun _=>⟨a[a.length-1]'(by omega),List.getElem_mem _,?_⟩,by omega⟩;have h1:[((a.map (Av t))[a.length-1]).a0,((a.map (Av t))[a.length-1]).a1,((a.map (Av t))[a.length-1]).a2]=[(Av t x).a0,(Av t x).a1,(Av t x).a2]:=by simpa using k
      rw[List.getElem_map] at h1;exact KN h1
  obtain⟨b,s1,s2,o,p,w⟩:=step;obtain⟨L,q,r,m,s,y⟩:=Gs f X b (fun l hl=>i l (List.mem_cons_of_mem _ hl)) (by omega);refine⟨L,by rw[run,bd s1,ct rfl];exact q,?_,fun l hl=>m l (o l hl),?_,by rw[List.length_cons];omega⟩
  ·intro l hl;rcases r l hl with h|h
   ·rcases s2 l h with h|⟨rfl,h⟩
    ·exact .inl h
    ·exact .inr ⟨List.mem_cons_self ..,h⟩
   ·exact .inr ⟨List.mem_cons_of_mem _ h.1,h.2⟩
  ·intro l hl g;rcases List.mem_cons.1 hl with rfl|hl
   ·obtain⟨l',h1,h2⟩:=p g;exact⟨l',m l' h1,h2⟩
   ·exact s l hl g
theorem KO{t:Aj}(a:OkT t):∃L,Tr t L∧Ej K t=some (wk t (L.map (Av t)) []):=by
 have j:=a.hl;have hlen:((CE t.Al).length:Int)=Dm t.Al:=Gq a.c.ok;have b:=a.many;obtain⟨L,d,e,_,f,i⟩:=Gs hK a (CE t.Al) [] (fun l hl=>(Fh (rs:=t.Al) a.c.ok).1 hl) (by simp;omega);refine⟨L,⟨fun l hl=>?_,fun l hl=>f l ((Fh (rs:=t.Al) a.c.ok).2 (HW hl)) hl,by simp at i;omega⟩,?_⟩
 ·rcases e l hl with h|h
  ·cases h
  ·exact h.2
 ·unfold Ej;have g:=Jz hK _ t.Al (by omega) a.c.ok _ true _ d;rw[List.map_nil] at g;rw[bd (NP hK a),bd (Nn hK t (by omega)),bd g];rfl
def DU (t:Aj) (out:List Int) (L:List (List Int)):List (Be×Be):=(L.filter fun l=>BB (As t l) out 0 t.Ao).map fun l=>(Av t l,arr (As t l))
theorem Fi{σ:Type}{t:Aj}(f:OkT t){out:List Int}(o:out.length≤900)(cb:σ→(Be×Be)→Option (Bool×σ))(L:List (List Int))(u:L.length≤150)(c:List (List Int×Int)):∀(d n i:Nat) (m:List (List Int×Int)) (s:σ) (b:Bool) (s':σ),L.length=i+d→d<n→Dr t m→
  run cb (DU t out (L.drop i)) s=some (b,s')→∃g,Dr t g∧(CB cb K (wk t (L.map (Av t)) c) out n (i:Int) m s).bind (fun z=>Sum.elim (fun q=>some (q.1,q.2)) (fun q=>some (q.1,q.2)) z)=some (g,s')
 |d,0,i,m,s,b,s',h,hn,_,_=>by omega
 |0,n+1,i,m,s,b,s',h,hn,hm,a=>by
  have e:((wk t (L.map (Av t)) c).Dq.length:Int)=L.length:=by show((List.map _ _).length:Int)=_;simp
  rw[List.drop_eq_nil_of_le (by omega)] at a;have:(true,s)=(b,s'):=Option.some.inj a;injection this with x j
  subst j;refine⟨m,hm,?_⟩;rw[CB.eq_2,cf (df (by omega))];rfl
 |d+1,n+1,i,m,s,b,s',h,hn,hm,a=>by
  have e:((wk t (L.map (Av t)) c).Dq.length:Int)=L.length:=by show((List.map _ _).length:Int)=_;simp
  have v:=f.kl;have y:=f.nl;have hi:i<L.length:=by omega
  have l:i<(wk t (L.map (Av t)) c).Dq.length:=by show i<(List.map _ _).length;simpa using hi
  have j:(wk t (L.map (Av t)) c).Dq[i]'l=Av t L[i]:=by simp[wk]
  obtain⟨p,k,g1⟩:=MC hK f (L.map (Av t)) hm L[i];have g2:DV K t (arr (As t L[i])) out=some (BB (As t L[i]) out 0 t.Ao):=No hK t (by rw[Df];exact v) (fun n hn=>by rw[Df];exact(f.note n hn).1) (by omega) o;rw[CB.eq_2,ct (dt (by omega)),BS l,j];show∃g,Dr t g∧(((FK K (wk t (L.map (Av t)) m) (Av t L[i])).bind _).bind _)=_;rw[bd g1];show∃g,Dr t g∧(((DV K t (arr (As t L[i])) out).bind _).bind _)=_;rw[bd g2];unfold DU at a;rw[List.drop_eq_getElem_cons hi,List.filter_cons] at a;cases hr:BB (As t L[i]) out 0 t.Ao with
  |false=>
   rw[hr,if_neg (by simp)] at a;rw[cf rfl,AZ (by omega) (by omega),CZ i];exact Fi f o cb L u c d n (i+1) p s b s' (by omega) (by omega) k a
  |true=>
   rw[hr,if_pos rfl,List.map_cons,run] at a;rw[ct rfl];cases w:cb s (Av t L[i],arr (As t L[i])) with
   |none=>rw[w] at a;cases a
   |some r=>
    obtain⟨b1,s1⟩:=r;rw[w,Option.bind_some] at a;rw[Option.bind_some];cases b1 with
    |false=>
     have:(false,s1)=(b,s'):=Option.some.inj a;injection this with x j
     subst j;exact⟨p,k,rfl⟩
    |true=>
     rw[nt,AZ (by omega) (by omega),CZ i];exact Fi f o cb L u c d n (i+1) p s1 b s' (by omega) (by omega) k a
theorem Gt{σ:Type}{t:Aj}(c:OkT t){out:List Int}(d:out.length≤900)(cb:σ→(Be×Be)→Option (Bool×σ)){L:List (List Int)}(e:L.length≤150){m:List (List Int×Int)}(hm:Dr t m){s:σ}{b:Bool}{s':σ}
  (h:run cb (DU t out L) s=some (b,s')):∃a,Dr t a∧FG K cb (wk t (L.map (Av t)) m) out s=some (a,s'):=
 Fi hK c d cb L e m L.length K 0 m s b s' (by omega) (by omega) hm (by rw[List.drop_zero];exact h)
theorem GN{t:Aj}(c:OkT t){out:List Int}(d:out.length≤900){L:List (List Int)}(f:L.length≤150){m:List (List Int×Int)}(hm:Dr t m):
  ∃a,Dr t a∧BM K (wk t (L.map (Av t)) m) out=some (L.any fun l=>BB (As t l) out 0 t.Ao,a):=by
 have hr:∃b,run (fun(st:Bool×Bool) (x:Be×Be)=>cond st.2 none (Ff st.1 x)) (DU t out L) (false,false)=some (b,(L.any fun l=>BB (As t l) out 0 t.Ao,L.any fun l=>BB (As t l) out 0 t.Ao)):=by
  have e:(L.any fun l=>BB (As t l) out 0 t.Ao)= !(DU t out L).isEmpty:=by
   unfold DU;rw[Bool.eq_iff_iff,List.any_eq_true];simp
  rw[e];cases DU t out L with
  |nil=>exact⟨true,rfl⟩
  |cons x X=>exact⟨false,rfl⟩
 obtain⟨b,hr⟩:=hr;obtain⟨a,h1,h2⟩:=Gt hK c d _ f hm hr;refine⟨a,h1,?_⟩;unfold BM;rw[bd h2];cases L.any fun l=>BB (As t l) out 0 t.Ao<;>rfl
end
theorem RV(a b:Nat):It (a:Int) (b:Int)=((a&&&b:Nat):Int):=by unfold It;rw[Int.toNat_natCast,Int.toNat_natCast]
theorem KL{β:Type}{a b:Int}{f:Unit→Option β}(h0:0≤a∧a≤9223372036854775807)(h1:0≤b∧b≤9223372036854775807):(GG a b).bind f=f ():=bd (if_pos ⟨h0,h1⟩)
def CF(t:Aj)(l:List Int):Bool:=BJ t.C l&&BB (As t l) [] 0 t.Ao
def Bd(t:Aj):List (List Int):=(Bo t.C).filter fun l=>BB (As t l) [] 0 t.Ao
section
variable{K:Nat}(hK:1000≤K)
include hK
end
section
variable{K:Nat}(hK:1000≤K)
include hK
theorem Kp(l:List Int)(hl:l.length≤1000):CM K l=some l:=Pw hK l hl
theorem MN(t:Aj):B6 K t=some (DP t&&decide (CP t=0)):=by
 unfold B6;rw[bd (O5 hK t)];cases h:DP t with
 |false=>rw[cf rfl,Bool.false_and]
 |true=>
  rw[ct rfl,bd (LQ hK t (E9 h)),Bool.true_and];try rfl
end
def B5 (t:Aj):Int:=if CP t≠0 then CP t else if Bo t.C=[] then 11 else 0
def BQ(t:Aj):Int:=if B5 t≠0 then B5 t else if Bd t=[] then 9 else 0
theorem Cq{t:Aj}(h:B5 t=0):CP t=0∧Bo t.C≠[]:=by
 unfold B5 at h;split at h
 ·rename_i h1;exact absurd h h1
 rename_i h1
 split at h
 ·cases h
 exact⟨Decidable.byContradiction h1,‹_›⟩
theorem Ds{t:Aj}(h:BQ t=0):B5 t=0∧Bd t≠[]:=by
 unfold BQ at h;split at h
 ·rename_i h1;exact absurd h h1
 rename_i h1
 split at h
 ·cases h
 exact⟨Decidable.byContradiction h1,‹_›⟩
theorem Jr{α:Type}(l:List α):((l.length:Int)==0)=true↔l=[]:=by
 rw[beq_iff_eq];constructor
 ·intro h;exact List.eq_nil_of_length_eq_zero (by omega)
 ·rintro rfl;rfl
theorem IC{α:Type}{l:List α}(h:l≠[]):((l.length:Int)==0)=false:=by
 rw[Bool.eq_false_iff];exact fun g=>h ((Jr l).1 g)
section
variable{K:Nat}(hK:1000≤K)
include hK
theorem H3{t:Aj}(a:OkT t){L:List (List Int)}(b:Tr t L):L=[]↔Bo t.C=[]:=by
 constructor
 ·rintro rfl;refine List.eq_nil_iff_forall_not_mem.2 fun l hl=>?_;obtain⟨_,h,_⟩:=b.all l ((CV a.c).1 hl);cases h
 ·intro h;refine List.eq_nil_iff_forall_not_mem.2 fun l hl=>?_;have:=(CV a.c).2 (b.Jq l hl);rw[h] at this;cases this
theorem JJ{t:Aj}(a:OkT t){L:List (List Int)}(b:Tr t L)(p:List Int→Bool)(d:∀l l',Av t l=Av t l'→p l=p l'):L.any p=(Bo t.C).any p:=by
 rw[Bool.eq_iff_iff,List.any_eq_true,List.any_eq_true];constructor
 ·rintro⟨l,hl,h⟩;exact⟨l,(CV a.c).2 (b.Jq l hl),h⟩
 ·rintro⟨l,hl,h⟩;obtain⟨l',h1,h2⟩:=b.all l ((CV a.c).1 hl);exact⟨l',h1,by rw[d l' l h2];exact h⟩
theorem G3 {t:Aj} (h:DP t=true) (a:Bool):
  (B5 t=0∧a=true∧∃L,Tr t L∧L≠[]∧CX K t a=some (some (wk t (L.map (Av t)) []),0))∨
  (¬(B5 t=0∧a=true)∧CX K t a=some (none,if CP t=0∧a=false then 2 else B5 t)):=by
 unfold CX;rw[bd (Iq hK t (E9 h))]
 by_cases h0:CP t=0
 ·have b:=D6 h h0;rw[cf (E6 h0)];cases a with
  |false=>exact .inr ⟨by simp,by rw[nf,if_pos ⟨h0,rfl⟩]⟩
  |true=>
   obtain⟨L,c,e⟩:=KO hK b;rw[nt,bd e];have d:(wk t (L.map (Av t)) []).Dq=L.map (Av t):=rfl;rw[d,List.length_map]
   by_cases h1:L=[]
   ·have h2:=(H3 hK b c).1 h1;refine .inr ⟨by rintro⟨f,_⟩;exact(Cq f).2 h2,?_⟩;rw[ct ((Jr _).2 h1),if_neg (by simp)];unfold B5;rw[if_neg (by simp[h0]),if_pos h2]
   ·have h2:Bo t.C≠[]:=fun g=>h1 ((H3 hK b c).2 g);refine .inl ⟨?_,rfl,L,c,h1,by rw[cf (IC h1)]⟩;unfold B5;rw[if_neg (by simp[h0]),if_neg h2]
 ·rw[ct (Fy h0)];refine .inr ⟨fun g=>h0 (Cq g.1).1,?_⟩;rw[if_neg (by simp[h0])];unfold B5;rw[if_pos h0]
theorem Hj{t:Aj}(a:OkT t)(out:List Int)(l l':List Int)(h:Av t l=Av t l'):BB (As t l) out 0 t.Ao=BB (As t l') out 0 t.Ao:=by
 rw[F8 a.kl h]
theorem Hl{t:Aj}(h:DP t=true)(c:Bool):
  (BQ t=0∧c=true∧∃L m,Tr t L∧Dr t m∧CD K t c=some (some (wk t (L.map (Av t)) m),0))∨
  (¬(BQ t=0∧c=true)∧CD K t c=some (none,if CP t=0∧c=false then 2 else BQ t)):=by
 unfold CD;rcases G3 hK h c with⟨h0,n,L,i,d,e⟩|⟨h0,e⟩
 ·have j:=D6 h (Cq h0).1;rw[bd e];obtain⟨m,hm,g⟩:=GN hK j (out:=[]) (by simp) i.len (Ky t);have o:(L.any fun l=>BB (As t l) [] 0 t.Ao)=(Bo t.C).any fun l=>BB (As t l) [] 0 t.Ao:=JJ hK j i _ (Hj hK j [])
  by_cases h1:Bd t=[]
  ·have f:BQ t=9:=by unfold BQ;rw[if_neg (by simp[h0]),if_pos h1]
   refine .inr ⟨by rw[f];simp,?_⟩;have k:((Bo t.C).any fun l=>BB (As t l) [] 0 t.Ao)=false:=by
    rw[Bool.eq_false_iff];intro hh;obtain⟨l,hl,hr⟩:=List.any_eq_true.1 hh;have:l∈Bd t:=List.mem_filter.2 ⟨hl,hr⟩;rw[h1] at this;cases this
   show(cond ((0:Int) !=0) (some ((none:Option DO),(0:Int))) ((BM K (wk t (L.map (Av t)) []) []).bind _)=_);rw[cf (E6 rfl),bd g,o,k,nf,f,n,if_neg (by simp)]
  ·have f:BQ t=0:=by unfold BQ;rw[if_neg (by simp[h0]),if_neg h1]
   have k:((Bo t.C).any fun l=>BB (As t l) [] 0 t.Ao)=true:=by
    obtain⟨l,hl⟩:=List.exists_mem_of_ne_nil _ h1;obtain⟨a,b⟩:=List.mem_filter.1 hl;exact List.any_eq_true.2 ⟨l,a,b⟩
   refine .inl ⟨f,n,L,m,i,hm,?_⟩;show(cond ((0:Int) !=0) (some ((none:Option DO),(0:Int))) ((BM K (wk t (L.map (Av t)) []) []).bind _)=_);rw[cf (E6 rfl),bd g,o,k,nt];rfl
 ·rw[bd e];have d:(if CP t=0∧c=false then (2:Int) else B5 t)≠0:=by
   split
   ·omega
   ·rename_i hh
    intro g;refine h0 ⟨g,?_⟩;cases c with
    |true=>rfl
    |false=>exact absurd ⟨(Cq g).1,rfl⟩ hh
  refine .inr ⟨fun g=>h0 ⟨(Ds g.1).1,g.2⟩,?_⟩;show cond (_ !=0) _ _=_;rw[ct (Fy d)]
  congr 2
  split
  ·rfl
  ·rename_i hh
   have:B5 t≠0:=by rw[if_neg hh] at d;exact d
   unfold BQ;rw[if_pos this]
end
theorem Ma{β:Type}{f:Unit→Option β}{x:Nat}(h:x<64):(E5 .u64 (x:Int)).bind f=f ():=bd (by
 have:∀x:Nat,x<64→E5 .u64 (x:Int)=some ():=by decide+kernel
 exact this x h)
theorem JZ{β:Type}{f:Unit→Option β}{a:Int}{x:Nat}(h:x<64):(Hn a (x:Int)).bind f=f ():=bd (if_pos ⟨by omega,by omega⟩)
theorem HU(s x:Nat):ER (s:Int) (x:Int)=((s/2^x:Nat):Int):=by
 unfold ER;rw[show(x:Int).toNat=x by omega];simp
theorem tb(s i:Nat):(s/2^i%2==1)=s.testBit i:=by rw[Nat.testBit_eq_decide_div_mod_eq];rfl
def Ba (s:Nat):List Int:=((List.range 8).filter fun x=>s.testBit x).map fun x:Nat=>(x:Int)
def lexB:List Int→List Int→Bool
 |a::c,b::d=>if a=b then lexB c d else decide (a<b)
 |[],_::_=>true
 |_,[]=>false
def sh (a b:List Int):Bool:=decide (a.length<b.length)||(a.length==b.length&&lexB a b)
theorem Hz:∀a:List Int,lexB a a=false
 |[]=>rfl
 |a::b=>by rw[lexB,if_pos rfl,Hz b]
theorem Et:∀a b:List Int,lexB a b=false→lexB b a=false→a=b
 |[],[],_,_=>rfl
 |[],b::c,h,_=>by cases h
 |a::d,[],_,h=>by cases h
 |a::d,b::c,h,g=>by
  rw[lexB] at h g
  by_cases e:a=b
  ·rw[if_pos e] at h;rw[if_pos e.symm] at g;rw[e,Et d c h g]
  ·rw[if_neg e,decide_eq_false_iff_not] at h;rw[if_neg (Ne.symm e),decide_eq_false_iff_not] at g;omega
theorem IP:∀a b c:List Int,lexB a b=true→lexB b c=true→lexB a c=true
 |[],b,[],h1,h2=>by cases b<;>cases h1;cases h2
 |[],b,c::g,h1,h2=>rfl
 |a::d,[],c,h1,h2=>by cases h1
 |a::d,b::h,[],h1,h2=>by cases h2
 |a::d,b::h,c::g,h1,h2=>by
  rw[lexB] at h1 h2⊢
  by_cases e:a=b
  ·subst e;rw[if_pos rfl] at h1
   by_cases f:a=c
   ·subst f;rw[if_pos rfl] at h2⊢;exact IP d h g h1 h2
   ·rw[if_neg f] at h2⊢;exact h2
  ·rw[if_neg e,decide_eq_true_eq] at h1
   by_cases f:b=c
   ·subst f;rw[if_neg e,decide_eq_true_eq];exact h1
   ·rw[if_neg f,decide_eq_true_eq] at h2;rw[if_neg (by omega),decide_eq_true_eq];omega
theorem EL{a b:List Int}:sh a b=true↔a.length<b.length∨(a.length=b.length∧lexB a b=true):=by simp[sh]
theorem Mu(a:List Int):sh a a=false:=by
 rw[Bool.eq_false_iff];intro h;rcases EL.1 h with h|h
 ·omega
 ·rw[Hz] at h;cases h.2
theorem KP{a b:List Int}(h:sh a b=false)(g:sh b a=false):a=b:=by
 rw[Bool.eq_false_iff] at h g;have h1:a.length=b.length:=by
  refine Decidable.byContradiction fun e=>?_;rcases Nat.lt_or_gt_of_ne e with e|e
  ·exact h (EL.2 (.inl e))
  ·exact g (EL.2 (.inl e))
 refine Et a b ?_ ?_
 ·rw[Bool.eq_false_iff];exact fun e=>h (EL.2 (.inr ⟨h1,e⟩))
 ·rw[Bool.eq_false_iff];exact fun e=>g (EL.2 (.inr ⟨h1.symm,e⟩))
theorem Nh{a b c:List Int}(h:sh a b=true)(g:sh b c=true):sh a c=true:=by
 rw[EL] at h g⊢;rcases h with h|h<;>rcases g with g|g
 ·exact .inl (by omega)
 ·exact .inl (by omega)
 ·exact .inl (by omega)
 ·exact .inr ⟨by omega,IP _ _ _ h.2 g.2⟩
theorem Ga{s:Nat}{r:Int}:r∈Ba s↔∃x:Nat,x<8∧s.testBit x=true∧r=x:=by
 unfold Ba;simp only[List.mem_map,List.mem_filter,List.mem_range];constructor
 ·rintro⟨x,⟨h1,h2⟩,rfl⟩;exact⟨x,h1,h2,rfl⟩
 ·rintro⟨x,h1,h2,rfl⟩;exact⟨x,⟨h1,h2⟩,rfl⟩
theorem JB{s x k:Nat}(hs:s<2^k)(h:s.testBit x=true):x<k:=by
 refine Decidable.byContradiction fun hx=>?_;rw[Nat.testBit_lt_two_pow (Nat.lt_of_lt_of_le hs (Nat.pow_le_pow_right (by omega) (by omega)))] at h;cases h
theorem I1(s:Nat):(Ba s).length≤8:=by
 unfold Ba;rw[List.length_map];exact Nat.le_trans (List.length_filter_le _ _) (by simp)
theorem GA(s:Nat):(Ba s).Pairwise (· <·):=by
 unfold Ba;rw[List.pairwise_map];have h:(List.range 8).Pairwise (fun a b:Nat=>a<b):=List.pairwise_lt_range;exact(h.sublist (List.filter_sublist)).imp fun h=>by omega
theorem Nb:∀{l m:List Int},l.Pairwise (· <·)→m.Pairwise (· <·)→(∀x,x∈l↔x∈m)→l=m
 |[],[],_,_,_=>rfl
 |[],b::m,_,_,h=>by have:=(h b).2 (List.mem_cons_self ..);cases this
 |a::l,[],_,_,h=>by have:=(h a).1 (List.mem_cons_self ..);cases this
 |a::l,b::m,h1,h2,h=>by
  rw[List.pairwise_cons] at h1 h2;have d:a=b:=by
   rcases List.mem_cons.1 ((h a).1 (List.mem_cons_self ..)) with e|e
   ·exact e
   ·rcases List.mem_cons.1 ((h b).2 (List.mem_cons_self ..)) with c|c
    ·exact c.symm
    ·have:=h1.1 b c;have:=h2.1 a e;omega
  subst d
  congr 1
  refine Nb h1.2 h2.2 fun x=>⟨fun hx=>?_,fun hx=>?_⟩
  ·rcases List.mem_cons.1 ((h x).1 (List.mem_cons_of_mem _ hx)) with e|e
   ·have:=h1.1 x hx;omega
   ·exact e
  ·rcases List.mem_cons.1 ((h x).2 (List.mem_cons_of_mem _ hx)) with e|e
   ·have:=h2.1 x hx;omega
   ·exact e
def C9(n:Int):Int→List Int→Bool
 |_,[]=>true
 |lo,x::l=>EB x lo (n-1)&&C9 n (x+1) l
theorem MK{n:Int}:∀{l:List Int} {lo:Int},C9 n lo l=true→∀x∈l,lo≤x∧x<n
 |[],_,_,x,hx=>by cases hx
 |y::l,lo,h,x,hx=>by
  rw[C9,Bool.and_eq_true,Dv] at h;rcases List.mem_cons.1 hx with rfl|hx
  ·omega
  ·have:=MK h.2 x hx;omega
theorem Hb{n:Int}:∀{l:List Int} {lo:Int},lo≤n→C9 n lo l=true→(l.length:Int)≤n-lo
 |[],_,h0,_=>by simp;omega
 |y::l,lo,h0,h=>by
  rw[C9,Bool.and_eq_true,Dv] at h;have:=Hb (by omega) h.2;rw[List.length_cons];omega
theorem H4{n:Nat}:∀{l:List Int} {lo:Int},l.Pairwise (· <·)→(∀x∈l,lo≤x∧x<(n:Int))→C9 n lo l=true
 |[],_,_,_=>rfl
 |x::l,lo,h,hm=>by
  have hx:=hm x (List.mem_cons_self ..);rw[List.pairwise_cons] at h;rw[C9,Bool.and_eq_true,Dv];exact⟨by omega,H4 h.2 fun y a=>⟨by have:=h.1 y a;omega,(hm y (List.mem_cons_of_mem _ a)).2⟩⟩
theorem GS{n s:Nat}(hs:s<2^n):C9 n 0 (Ba s)=true:=by
 refine H4 (GA s) fun x hx=>?_;obtain⟨y,_,hb,rfl⟩:=Ga.1 hx;have:=JB hs hb;omega
section
variable{K:Nat}(hK:1000≤K)
include hK
theorem IQ(s:Nat)(hs:s<2^8):∀(d m p:Nat) (acc:List Int),p+d=8→d<m→acc.length≤p→BG (s:Int) m acc (p:Int)=some (acc++((List.range' p d).filter fun x=>s.testBit x).map fun x:Nat=>(x:Int))
 |d,0,p,acc,_,h,_=>by omega
 |0,m+1,p,acc,a,_,ha=>by
  obtain rfl:p=8:=by omega
  rw[BG.eq_2,Ma (by omega),JZ (by omega),HU,Nat.div_eq_of_lt hs,cf (df (by simp))];simp
 |d+1,m+1,p,acc,a,hm,ha=>by
  rw[BG.eq_2,Ma (by omega),JZ (by omega),HU]
  by_cases h0:s/2^p=0
  ·rw[h0,cf (df (by simp))];have:(List.range' p (d+1)).filter (fun x=>s.testBit x)=[]:=by
    rw[List.filter_eq_nil_iff];intro x hx;rw[List.mem_range'_1] at hx;have h1:s<2^p:=by
     rcases Nat.div_eq_zero_iff.1 h0 with h|h
     ·have:=Nat.two_pow_pos p;omega
     ·exact h
    rw[Nat.testBit_lt_two_pow (Nat.lt_of_lt_of_le h1 (Nat.pow_le_pow_right (by omega) (by omega)))];simp
   rw[this,List.map_nil,List.append_nil]
  ·have hq:(0:Int)<((s/2^p:Nat):Int):=by generalize s/2^p=q at h0;omega
   rw[ct (dt hq),Ma (by omega),JZ (by omega),I7 (Int.le_of_lt hq) (by omega),List.range'_succ,List.filter_cons];have e:((((s/2^p:Nat):Int)%2)==1)=s.testBit p:=by
    rw[←tb,Bool.eq_iff_iff,beq_iff_eq,beq_iff_eq];omega
   rw[e];cases s.testBit p with
   |true=>
    rw[ct rfl,Dt (by simp;omega),AZ (by omega) (by omega),CZ p,IQ s hs d m (p+1) _ (by omega) (by omega) (by simp;omega),if_pos rfl,List.map_cons,List.append_assoc];rfl
   |false=>rw[cf rfl,AZ (by omega) (by omega),CZ p,IQ s hs d m (p+1) _ (by omega) (by omega) (by omega),if_neg (by simp)]
theorem M8{s:Nat}(hs:s<2^8):CN K (s:Int)=some (Ba s):=by
 unfold CN Ba;have:=IQ hK s hs 8 K 0 [] (by omega) (by omega) (by simp);rw[Int.natCast_zero,List.nil_append,←List.range_eq_range'] at this;rw[bd this]
omit hK in
theorem Lj (a b:List Int) (ha:a.length≤900) (hb:b.length≤900):∀(n m i:Nat),a.length=i+n→i≤b.length→n<m→
  (Cu a b m (i:Int)).bind (fun z=>Sum.elim (fun q1=>some q1) (fun _=>some (decide ((a.length:Int)<(b.length:Int)))) z)=some (lexB (a.drop i) (b.drop i))
 |n,0,i,h,_,hm=>by omega
 |0,m+1,i,h,Uo,hm=>by
  rw[Cu.eq_2,cf (df (by omega)),List.drop_eq_nil_of_le (by omega:a.length≤i)]
  show some _=_
  by_cases e:i<b.length
  ·rw[List.drop_eq_getElem_cons e,dt (by omega)];rfl
  ·rw[List.drop_eq_nil_of_le (by omega:b.length≤i),df (by omega)];rfl
 |n+1,m+1,i,h,Uo,hm=>by
  have hi:i<a.length:=by omega
  rw[Cu.eq_2,ct (dt (by omega)),List.drop_eq_getElem_cons hi]
  by_cases hj:i<b.length
  ·rw[ct (dt (by omega)),BS hi,BS hj,List.drop_eq_getElem_cons hj,lexB]
   by_cases he:a[i]=b[i]
   ·rw[if_pos he,cf (by simp[he]),AZ (by omega) (by omega),CZ i]
    exact Lj a b ha hb n m (i+1) (by omega) (by omega) (by omega)
   ·rw[if_neg he,ct (by simp[he]),BS hi,BS hj]
    rfl
  ·rw[cf (df (by omega)),List.drop_eq_nil_of_le (by omega:b.length≤i)]
   show some _=_
   rw[df (by omega)];rfl
theorem Oh{a b:List Int}(ha:a.length≤900)(hb:b.length≤900):DD K a b=some (lexB a b):=by
 unfold DD;have:=Lj a b ha hb a.length K 0 (by omega) (by omega) (by omega);rw[Int.natCast_zero,List.drop_zero,List.drop_zero] at this;exact this
theorem Q9{a b:List Int}(ha:a.length≤900)(hb:b.length≤900):E4 K a b=some (sh a b):=by
 unfold E4 sh
 by_cases h:a.length<b.length
 ·rw[ct (dt (by omega)),dt h];rfl
 ·rw[cf (df (by omega)),df h,Bool.false_or]
  by_cases h2:a.length=b.length
  ·rw[ct (by simp[h2]),bd (Oh hK ha hb)];simp[h2]
  ·rw[cf (by simp;omega)];simp[h2]
theorem Kh(n:Int)(hn:0≤n∧n≤100):∀(l:List Int) (s:Int),-1≤s→s≤100→∃s',run (fun(st:Int) (x:Int)=>(Fg K x st n).bind fun r=>some (r.1,r.2)) l s=some (C9 n (s+1) l,s')
 |[],s,_,_=>⟨s,rfl⟩
 |x::l,s,h0,h1=>by
  have e:Fg K x s n=some (EB x (s+1) (n-1),x):=by
   unfold Fg;rw[AZ (by omega) (by omega),AZ (by omega) (by omega),bd (JE ..)]
  rw[run,bd e,C9,Option.bind_some];cases h:EB x (s+1) (n-1) with
  |false=>exact⟨x,rfl⟩
  |true=>
   rw[Dv] at h;obtain⟨s',hs⟩:=Kh n hn l x (by omega) (by omega);exact⟨s',by rw[Bool.true_and];exact hs⟩
theorem Nx{n:Int}(hn:0≤n∧n≤100){l:List Int}(hl:l.length≤900):Gm K l n=some (C9 n 0 l):=by
 unfold Gm;obtain⟨s',hs⟩:=Kh hK n hn l (-1) (by omega) (by omega);rw[bd ((KM hK _ l hl (-1)).trans hs)];rfl
omit hK in
theorem L3:∀i:Nat,i<8→E5 .u64 (i:Int)=some ()∧EV 1 (i:Int)=some ()∧CY 1 (i:Int)=((2^i:Nat):Int)∧2^i≤128∧1≤2^i∧EV 2 (i:Int)=some ()∧CY 2 (i:Int)=((2^(i+1):Nat):Int):=by decide+kernel
end
def FV (n:Nat):Nat→List Int→Nat→List (List Int)
 |0,l,_=>[l]
 |m+1,l,a=>(List.range' a (n-m-a)).flatMap fun t:Nat=>FV n m (l++[(t:Int)]) (t+1)
def FJ(n i d:Nat):List (List Int):=(List.range' i d).flatMap fun m=>FV n m [] 0
def Fq (p:List Int→Bool):List Int→List (List Int)→List Int
 |cur,[]=>cur
 |_,c::cs=>if p c=true then c else Fq p c cs
theorem Ir(p:List Int→Bool):∀(xs ys:List (List Int)) (cur:List Int),xs.any p=false→Fq p cur (xs++ys)=Fq p (Fq p cur xs) ys
 |[],ys,cur,_=>rfl
 |x::xs,ys,cur,h=>by
  rw[List.any_cons,Bool.or_eq_false_iff] at h;simp only[List.cons_append,Fq,h.1];exact Ir p xs ys x h.2
theorem Is(p:List Int→Bool):∀(xs ys:List (List Int)) (cur:List Int),xs.any p=true→Fq p cur (xs++ys)=Fq p cur xs
 |[],ys,cur,h=>by cases h
 |x::xs,ys,cur,h=>by
  simp only[List.cons_append,Fq];cases hx:p x with
  |true=>rfl
  |false=>
   rw[List.any_cons,hx,Bool.false_or] at h;exact Is p xs ys x h
theorem Kj{p:List Int→Bool}:∀{L:List (List Int)} (cur:List Int),L.any p=true→∃A x B,L=A++x::B∧p x=true∧(∀a∈A,p a=false)∧Fq p cur L=x
 |[],cur,h=>by cases h
 |c::L,cur,h=>by
  by_cases b:p c=true
  ·exact⟨[],c,L,rfl,b,by simp,by rw[Fq,if_pos b]⟩
  ·have d:p c=false:=by simpa using b
   rw[List.any_cons,d,Bool.false_or] at h;obtain⟨A,x,B,h1,h2,e,f⟩:=Kj c h;refine⟨c::A,x,B,by rw[h1];rfl,h2,?_,by rw[Fq,if_neg b];exact f⟩;intro a ha;rcases List.mem_cons.1 ha with rfl|ha
   ·exact d
   ·exact e a ha
theorem Mb:∀n:Nat,n<8→∀l∈FJ n 0 (n+1),∃s:Nat,s<2^n∧Ba s=l:=by decide+kernel
theorem Mc:∀n:Nat,n<8→∀s:Nat,s<2^n→Ba s∈FJ n 0 (n+1):=by decide+kernel
theorem LO:∀n:Nat,n<8→(FJ n 0 (n+1)).Pairwise fun a b=>sh a b=true:=by decide+kernel
structure EC (n:Nat) (p:List Int→Bool) (x:List Int):Prop where
 is:∃s,s<2^n∧Ba s=x
 ok:p x=true
 least:∀s,s<2^n→p (Ba s)=true→sh (Ba s) x=false
theorem EC.uniq{n:Nat}{p:List Int→Bool}{x y:List Int}(h:EC n p x)(g:EC n p y):x=y:=by
 obtain⟨s,hs,rfl⟩:=h.is;obtain⟨s',a,rfl⟩:=g.is;exact KP (g.least s hs h.ok) (h.least s' a g.ok)
theorem EC.PD{n:Nat}{p:List Int→Bool}{x:List Int}(h:EC n p x):C9 n 0 x=true:=by
 obtain⟨s,hs,rfl⟩:=h.is;exact GS hs
theorem EC.len{n:Nat}{p:List Int→Bool}{x:List Int}(h:EC n p x):x.length≤n:=by
 have:=Hb (by omega) h.PD;omega
theorem Om{n:Nat}(hn:n<8){p:List Int→Bool}(cur:List Int)(h:(FJ n 0 (n+1)).any p=true):EC n p (Fq p cur (FJ n 0 (n+1))):=by
 obtain⟨A,x,B,g1,g2,g3,g4⟩:=Kj cur h;rw[g4];have hs:=LO n hn;refine⟨Mb n hn x (by rw[g1];simp),g2,fun s b c=>?_⟩;have a:=Mc n hn s b;rw[g1] at a hs;rw[List.pairwise_append] at hs;rcases List.mem_append.1 a with h|h
 ·rw[g3 _ h] at c;cases c
 ·rcases List.mem_cons.1 h with h|h
  ·rw[h];exact Mu _
  ·have h1:=(List.pairwise_cons.1 hs.2.1).1 _ h;rw[Bool.eq_false_iff];intro h2;have:=Nh h1 h2;rw[Mu] at this;cases this
theorem On{n:Nat}(hn:n<8)(p:List Int→Bool):(FJ n 0 (n+1)).any p=true↔∃s,s<2^n∧p (Ba s)=true:=by
 rw[List.any_eq_true];constructor
 ·rintro⟨l,hl,a⟩;obtain⟨s,hs,rfl⟩:=Mb n hn l hl;exact⟨s,hs,a⟩
 ·rintro⟨s,hs,a⟩;exact⟨_,Mc n hn s hs,a⟩
section
variable{K:Nat}(hK:1000≤K)
include hK
theorem NA{σ:Type}{I:σ→Prop}{p:List Int→Bool}{n m:Nat}{l:List Int}(hn:n<8)(hm:l.length+(m+1)≤n)(b:(List Int)→Int→Int→(List Int)→Int→σ→Option (Bool×(List Int)×σ))
  (ih:∀(t:Nat) (q:List Int) (s:σ),t<n→I s→∃s',I s'∧b (l++[(t:Int)]) ((t+1:Nat):Int) (m:Int) q (n:Int) s=some ((FV n m (l++[(t:Int)]) (t+1)).any p,Fq p q (FV n m (l++[(t:Int)]) (t+1)),s')):
  ∀(d k i:Nat) (q:List Int) (s:σ),d=n-m-i→d<k→i≤n→I s→∃s',I s'∧
   (EH b l ((m+1:Nat):Int) (n:Int) k (i:Int) q s).bind (fun z=>Sum.elim (fun a=>some (a.1,a.2.1,a.2.2)) (fun a=>some (false,a.1,a.2)) z)=
   some (((List.range' i d).flatMap fun t:Nat=>FV n m (l++[(t:Int)]) (t+1)).any p,Fq p q ((List.range' i d).flatMap fun t:Nat=>FV n m (l++[(t:Int)]) (t+1)),s')
 |d,0,i,q,s,h,hk,_,_=>by omega
 |0,k+1,i,q,s,h,hk,hi,hs=>by
  refine⟨s,hs,?_⟩;rw[EH.eq_2,AZ (by omega) (by omega),cf (df (by omega))];rfl
 |d+1,k+1,i,q,s,h,hk,hi,hs=>by
  have f:(((m+1:Nat):Int)-1)=(m:Int):=by omega
  obtain⟨s1,c,g1⟩:=ih i q s (by omega) hs;rw[EH.eq_2,AZ (by omega) (by omega),ct (dt (by omega)),Dt (by omega),Dt (by simp;omega),AZ (by omega) (by omega),AZ (by omega) (by omega),f,CZ i,bd g1,List.range'_succ,List.flatMap_cons];cases ha:(FV n m (l++[(i:Int)]) (i+1)).any p with
  |true=>
   refine⟨s1,c,?_⟩;rw[List.any_append,ha,Is p _ _ _ ha,Bool.true_or];rfl
  |false=>
   obtain⟨s2,e,g2⟩:=NA hn hm b ih d k (i+1) (Fq p q (FV n m (l++[(i:Int)]) (i+1))) s1 (by omega) (by omega) (by omega) c;refine⟨s2,e,?_⟩;rw[List.any_append,ha,Ir p _ _ _ ha,Bool.false_or,cf rfl,AZ (by omega) (by omega)];exact g2
theorem OT{σ:Type}{I:σ→Prop}{p:List Int→Bool}{n:Nat}(hn:n<8)(cb:σ→List Int→Option (Bool×σ))(c:∀s x,I s→x.length≤n→(∀y∈x,0≤y∧y<(n:Int))→∃s',I s'∧cb s x=some (p x,s')):
  ∀(m k a:Nat) (l q:List Int) (s:σ),m<k→I s→l.length+m≤n→(∀y∈l,0≤y∧y<(n:Int))→a≤n→∃s',I s'∧Ek K cb k l (a:Int) (m:Int) q (n:Int) s=some ((FV n m l a).any p,Fq p q (FV n m l a),s')
 |m,0,a,l,q,s,h,_,_,_,_=>by omega
 |0,k+1,a,l,q,s,h,hs,hl,hb,_=>by
  obtain⟨s1,h1,g⟩:=c s l hs (by omega) hb;refine⟨s1,h1,?_⟩;rw[Ek.eq_2,ct (EO (by omega)),bd g,FV,List.any_cons,List.any_nil,Bool.or_false,Fq,Fq];cases p l<;>rfl
 |m+1,k+1,a,l,q,s,h,hs,hl,hb,d=>by
  rw[Ek.eq_2,cf (Gw (by omega)),FV];exact NA hK (p:=p) hn hl (Ek K cb k) (fun t q s e hs=>OT hn cb c m k (t+1) (l++[(t:Int)]) q s (by omega) hs (by simp;omega) (fun y b=>by
   rcases List.mem_append.1 b with b|b
   ·exact hb y b
   ·rw[List.mem_singleton.1 b];omega) (by omega)) (n-m-a) K a q s rfl (by omega) d hs
theorem Md{σ:Type}{I:σ→Prop}{p:List Int→Bool}{n:Nat}(hn:n<8)(cb:σ→List Int→Option (Bool×σ))(a:∀s x,I s→x.length≤n→(∀y∈x,0≤y∧y<(n:Int))→∃s',I s'∧cb s x=some (p x,s')):
  ∀(d k i:Nat) (q:List Int) (s:σ),n+1=i+d→d<k→I s→∃s',I s'∧E7 cb K (n:Int) k false (i:Int) q s=some ((FJ n i d).any p,Fq p q (FJ n i d),s')
 |d,0,i,q,s,h,hk,_=>by omega
 |0,k+1,i,q,s,h,hk,hs=>by
  refine⟨s,hs,?_⟩;rw[E7.eq_2,cf (df (by omega))];rfl
 |d+1,k+1,i,q,s,h,hk,hs=>by
  obtain⟨s1,b,g1⟩:=OT hK hn cb a i K 0 [] q s (by omega) hs (by simp;omega) (by simp) (by omega);rw[Int.natCast_zero] at g1;rw[E7.eq_2,ct (dt (by omega)),bd g1];unfold FJ;rw[List.range'_succ,List.flatMap_cons];cases ha:(FV n i [] 0).any p with
  |true=>
   refine⟨s1,b,?_⟩;rw[List.any_append,ha,Is p _ _ _ ha,Bool.true_or];rfl
  |false=>
   obtain⟨s2,c,g2⟩:=Md hn cb a d k (i+1) (Fq p q (FV n i [] 0)) s1 (by omega) (by omega) b;refine⟨s2,c,?_⟩;rw[List.any_append,ha,Ir p _ _ _ ha,Bool.false_or,cf rfl,AZ (by omega) (by omega),CZ i];exact g2
theorem MM{σ:Type}{I:σ→Prop}{p:List Int→Bool}{n:Nat}(hn:n<8)(cb:σ→List Int→Option (Bool×σ))(a:∀s x,I s→x.length≤n→(∀y∈x,0≤y∧y<(n:Int))→∃s',I s'∧cb s x=some (p x,s')){s:σ}(hs:I s):
  ∃s',I s'∧FL K cb (n:Int) s=some (Fq p [] (FJ n 0 (n+1)),(FJ n 0 (n+1)).any p,s'):=by
 obtain⟨s1,b,g1⟩:=Md hK hn cb a (n+1) K 0 [] s (by omega) (by omega) hs;refine⟨s1,b,?_⟩;unfold FL;rw[Int.natCast_zero] at g1;rw[AZ (by omega) (by omega),bd g1]
end
structure Dy {α:Type} (S:List α) (f:α→Int) (r:AN):Prop where
 lo:∃l∈S,f l=r.Lo
 hi:∃l∈S,f l=r.Hi
 all:∀l∈S,r.Lo≤f l∧f l≤r.Hi
theorem Ji{r s:AN}(h:r.Lo=s.Lo)(g:r.Hi=s.Hi):r=s:=by cases r;cases s;simp at h g;rw[h,g]
theorem Dy.uniq{α:Type}{S:List α}{f:α→Int}{r s:AN}(h:Dy S f r)(g:Dy S f s):r=s:=by
 obtain⟨a,ha,ea⟩:=h.lo;obtain⟨b,hb,j⟩:=g.lo;obtain⟨c,e,ec⟩:=h.hi;obtain⟨d,i,k⟩:=g.hi;have h1:=g.all a ha;have h2:=h.all b hb;have l:=g.all c e;have m:=h.all d i;exact Ji (by omega) (by omega)
theorem Dy.map{α β:Type}{X:List α}{f:α→Int}{S:List β}{g:β→Int}{r:AN}(h:Dy X f r)(h1:∀x∈X,∃l∈S,g l=f x)(h2:∀l∈S,∃x∈X,f x=g l):Dy S g r:=by
 obtain⟨a,ha,ea⟩:=h.lo;obtain⟨c,i,ec⟩:=h.hi;obtain⟨a',b,k⟩:=h1 a ha;obtain⟨j,d,m⟩:=h1 c i;refine⟨⟨a',b,by omega⟩,⟨j,d,by omega⟩,fun l hl=>?_⟩;obtain⟨x,hx,e⟩:=h2 l hl;have:=h.all x hx;omega
theorem Dy.snoc{α:Type}{S:List α}{f:α→Int}{r:AN}(h:Dy S f r)(x:α):Dy (S++[x]) f ⟨min r.Lo (f x),max r.Hi (f x)⟩:=by
 obtain⟨a,ha,ea⟩:=h.lo;obtain⟨c,b,ec⟩:=h.hi;refine⟨?_,?_,fun l hl=>?_⟩
 ·by_cases hh:r.Lo≤f x
  ·exact⟨a,by simp[ha],by simp only;omega⟩
  ·exact⟨x,by simp,by simp only;omega⟩
 ·by_cases hh:f x≤r.Hi
  ·exact⟨c,by simp[b],by simp only;omega⟩
  ·exact⟨x,by simp,by simp only;omega⟩
 ·simp only;rcases List.mem_append.1 hl with hl|hl
  ·have:=h.all l hl;omega
  ·rw[List.mem_singleton.1 hl];omega
theorem Dy.one{α:Type}(f:α→Int)(x:α):Dy [x] f ⟨f x,f x⟩:=⟨⟨x,by simp,rfl⟩,⟨x,by simp,rfl⟩,fun l hl=>by rw[List.mem_singleton.1 hl];simp⟩
theorem FR{t:Aj}(a:OkT t){l l':List Int}(h:Av t l=Av t l'):As t l=As t l':=F8 a.kl h
theorem Fj{t:Aj}{out:List Int}{L:List (List Int)}{x:Be×Be}:x∈DU t out L↔∃l∈L,BB (As t l) out 0 t.Ao=true∧x=(Av t l,arr (As t l)):=by
 unfold DU;simp only[List.mem_map,List.mem_filter];constructor
 ·rintro⟨l,⟨h1,h2⟩,rfl⟩;exact⟨l,h1,h2,rfl⟩
 ·rintro⟨l,h1,h2,rfl⟩;exact⟨l,⟨h1,h2⟩,rfl⟩
theorem D2{t:Aj}(a:OkT t){l:List Int}:l∈Bd t↔CF t l=true:=by
 unfold Bd CF;rw[List.mem_filter,CV a.c,Bool.and_eq_true]
section
variable{K:Nat}(hK:1000≤K)
include hK
end
structure FP (W:List Int→Int) (n:Nat) (s:List Int):Prop where
 is:∃b,b<2^n∧Ba b=s
 Kl:∀x,x<2^n→W (Ba x)<W s∨(W (Ba x)=W s∧lexB (Ba x) s=false)
theorem FP.uniq{W:List Int→Int}{n:Nat}{s s':List Int}(h:FP W n s)(g:FP W n s'):s=s':=by
 obtain⟨b,hb,rfl⟩:=h.is;obtain⟨b',a,rfl⟩:=g.is;have h1:=h.Kl b' a;have h2:=g.Kl b hb;rcases h1 with h1|⟨h1,c⟩<;>rcases h2 with h2|⟨h2,d⟩
 ·omega
 ·omega
 ·omega
 ·exact Et _ _ d c
section
variable{K:Nat}(hK:1000≤K)
include hK
end
theorem nl{l l':List Int}(h:l=l'):(l !=l')=false:=by subst h;simp
section
variable{K:Nat}(hK:1000≤K)
include hK
end
theorem OU(s n:Nat):s&&&(2^n-1)<2^n:=by
 have:=Nat.two_pow_pos n;exact Nat.lt_of_le_of_lt Nat.and_le_right (by omega)
def Es(t:Aj)(o:CU):Int:=(t.AH.getD o.En.toNat ⟨0,0⟩).BU
def Gu (t:Aj) (o:CU) (k:Nat):Bool:=decide (o.Ey≤(t.Ac.getD k []).sum)&&(Bd t).all fun l=>decide (Es t o≤CI l (t.Ac.getD k []))
def FE(t:Aj)(o:CU):List Int:=((List.range t.Ac.length).filter (Gu t o)).map fun k:Nat=>(k:Int)
theorem K9{t:Aj}{o:CU}{x:Int}:x∈FE t o↔∃k:Nat,k<t.Ac.length∧Gu t o k=true∧x=k:=by
 unfold FE;simp only[List.mem_map,List.mem_filter,List.mem_range];constructor
 ·rintro⟨k,⟨h1,h2⟩,rfl⟩;exact⟨k,h1,h2,rfl⟩
 ·rintro⟨k,h1,h2,rfl⟩;exact⟨k,⟨h1,h2⟩,rfl⟩
theorem N3(t:Aj)(o:CU):(FE t o).length≤t.Ac.length:=by
 unfold FE;rw[List.length_map];exact Nat.le_trans (List.length_filter_le _ _) (by simp)
def DF(t:Aj):List (List Int):=t.Aw.map (FE t)
def Dp:List (List Int)→List Int→List Int→Bool
 |[],_,[]=>true
 |s::S,out,x::xs=>s.contains x&&(!out.contains x&&Dp S (out++[x]) xs)
 |_,_,_=>false
structure Gz (t:Aj) (d:List Int):Prop where
 is:Dp (DF t) [] d=true
 first:∀d',Dp (DF t) [] d'=true→lexB d' d=false
theorem Gz.uniq{t:Aj}{d d':List Int}(h:Gz t d)(g:Gz t d'):d=d':=Et _ _ (g.first d h.is) (h.first d' g.is)
section
variable{K:Nat}(hK:1000≤K)
include hK
theorem Oi{t:Aj}(c:OkT t){L:List (List Int)}(j:Tr t L){m:List (List Int×Int)}(hm:Dr t m){o:CU}(aA:0≤o.En∧o.En<t.AH.length){k:Nat}(hk:k<t.Ac.length):
  ∃e,Dr t e∧EK K (wk t (L.map (Av t)) m) o (k:Int)=some (Gu t o k,e):=by
 have d:=c.kl;have f:k<(wk t (L.map (Av t)) m).weights.length:=by show k<(List.map _ _).length;simpa using hk
 have u:(wk t (L.map (Av t)) m).weights[k]'f=(t.Ac.getD k []).sum:=by rw[Cx _ hk];simp[wk]
 unfold EK Gu;rw[BS f,u]
 by_cases hw:(t.Ac.getD k []).sum<o.Ey
 ·exact⟨m,hm,by rw[ct (dt hw),df (by omega),Bool.false_and];rfl⟩
 rw[cf (df hw),dt (by omega),Bool.true_and];obtain⟨g,p⟩:∃g:Nat,o.En=g:=⟨o.En.toNat,by omega⟩;have i:g<t.AH.length:=by omega
 have q:Es t o=t.AH[g].BU:=by unfold Es;rw[p,Int.toNat_natCast,Cx _ i]
 have r:∀l:List Int,DL (wk t (L.map (Av t)) m) o (k:Int) (Av t l,arr (As t l))=some (if Es t o≤CI l (t.Ac.getD k []) then (true,false) else (false,true)):=fun l=>by
  have h1:idx [(Av t l).a0,(Av t l).a1,(Av t l).a2] (k:Int)=some (CI l (t.Ac.getD k [])):=by
   have:=Hr (l:=t.Ac.map (CI l)) (by simpa using d) (k:=k) (by simpa using hk);rw[List.getElem_map] at this;rw[Cx _ hk];exact this
  unfold DL;rw[bd h1,p];show(idx t.AH (g:Int)).bind _=_;rw[BS i,q]
  by_cases h2:CI l (t.Ac.getD k [])<t.AH[g].BU
  ·rw[ct (dt h2),if_neg (by omega)]
  ·rw[cf (df h2),if_pos (by omega)]
 have hr:∃b,run (fun(st:Bool) (x:Be×Be)=>cond st none (DL (wk t (L.map (Av t)) m) o (k:Int) x)) (DU t [] L) false=some (b, !((DU t [] L).all fun x=>decide (Es t o≤([x.1.a0,x.1.a1,x.1.a2]:List Int).getD k 0))):=by
  have n:∀x∈DU t [] L,DL (wk t (L.map (Av t)) m) o (k:Int) x=some (if Es t o≤([x.1.a0,x.1.a1,x.1.a2]:List Int).getD k 0 then (true,false) else (false,true)):=fun x hx=>by
   obtain⟨l,_,_,rfl⟩:=Fj.1 hx;rw[r l];have h1:=Hr (l:=t.Ac.map (CI l)) (by simpa using d) (k:=k) (by simpa using hk);rw[idx_eq (show k<([(arr (t.Ac.map (CI l))).a0,(arr (t.Ac.map (CI l))).a1,(arr (t.Ac.map (CI l))).a2]:List Int).length by simp;omega),List.getElem_map] at h1;have h2:([(Av t l).a0,(Av t l).a1,(Av t l).a2]:List Int).getD k 0=CI l (t.Ac.getD k []):=by
    rw[Cx _ hk,←Option.some.inj h1,Cx _ (show k<([(Av t l).a0,(Av t l).a1,(Av t l).a2]:List Int).length by simp;omega)];rfl
   show some _=some (if Es t o≤([(Av t l).a0,(Av t l).a1,(Av t l).a2]:List Int).getD k 0 then (true,false) else (false,true));rw[h2]
  generalize DU t [] L=X at n
  induction X with
  |nil=>exact⟨true,rfl⟩
  |cons x X ih=>
   obtain⟨b,hb⟩:=ih fun y v=>n y (List.mem_cons_of_mem _ v);rw[run];show∃b,(DL (wk t (L.map (Av t)) m) o (k:Int) x).bind _=_;rw[bd (n x (List.mem_cons_self ..)),List.all_cons]
   by_cases h1:Es t o≤([x.1.a0,x.1.a1,x.1.a2]:List Int).getD k 0
   ·rw[if_pos h1,dt h1,Bool.true_and];exact⟨b,hb⟩
   ·rw[if_neg h1,df h1,Bool.false_and];exact⟨false,rfl⟩
 obtain⟨b,hr⟩:=hr;obtain⟨e,a,w⟩:=Gt hK c (out:=[]) (by simp) _ j.len hm hr;refine⟨e,a,?_⟩;rw[bd w];have z:((DU t [] L).all fun x=>decide (Es t o≤([x.1.a0,x.1.a1,x.1.a2]:List Int).getD k 0))=(Bd t).all fun l=>decide (Es t o≤CI l (t.Ac.getD k [])):=by
  have hs:∀l:List Int,([(Av t l).a0,(Av t l).a1,(Av t l).a2]:List Int).getD k 0=CI l (t.Ac.getD k []):=fun l=>by
   have h1:=Hr (l:=t.Ac.map (CI l)) (by simpa using d) (k:=k) (by simpa using hk);rw[idx_eq (show k<([(arr (t.Ac.map (CI l))).a0,(arr (t.Ac.map (CI l))).a1,(arr (t.Ac.map (CI l))).a2]:List Int).length by simp;omega),List.getElem_map] at h1;rw[Cx _ hk,←Option.some.inj h1,Cx _ (show k<([(Av t l).a0,(Av t l).a1,(Av t l).a2]:List Int).length by simp;omega)];rfl
  rw[Bool.eq_iff_iff,List.all_eq_true,List.all_eq_true];constructor
  ·intro h l hl;have a:=(D2 c).1 hl;unfold CF at a;rw[Bool.and_eq_true] at a;obtain⟨l',h5,s⟩:=j.all l a.1;have:=h (Av t l',arr (As t l')) (Fj.2 ⟨l',h5,by rw[FR c s];exact a.2,rfl⟩);rw[←hs l,←s];exact this
  ·intro h x hx;obtain⟨l,h1,h2,rfl⟩:=Fj.1 hx;have:=h l ((D2 c).2 (by unfold CF;rw[j.Jq l h1,h2];rfl));rw[←hs l] at this;exact this
 rw[z];cases (Bd t).all fun l=>decide (Es t o≤CI l (t.Ac.getD k []))<;>rfl
theorem Nc{t:Aj}(l:OkT t){L:List (List Int)}(w:Tr t L){m:List (List Int×Int)}(hm:Dr t m):∃a,Dr t a∧Fp K (wk t (L.map (Av t)) m)=some (DF t,a):=by
 have z:=l.kl;have aA:=l.ol;have aB:((wk t (L.map (Av t)) m).weights.length:Int)=t.Ac.length:=by show((List.map _ _).length:Int)=_;simp
 have r:(wk t (L.map (Av t)) m).Ca=t.Aw:=rfl;have s:∀(o:CU),o∈t.Aw→∀(d n i:Nat) (acc:List Int) (b:List (List Int×Int)),t.Ac.length=i+d→d<n→acc.length≤i→Dr t b→
   ∃c,Dr t c∧Dx K (wk t (L.map (Av t)) m) o n acc (i:Int) b=some (acc++((List.range' i d).filter (Gu t o)).map (fun k:Nat=>(k:Int)),c):=by
  intro o x d
  induction d with
  |zero=>
   intro n i acc b p hn ha e;obtain⟨n,rfl⟩:∃a,n=a+1:=⟨n-1,by omega⟩;exact⟨b,e,by rw[Dx.eq_2,cf (df (by omega))];simp⟩
  |succ d ih=>
   intro n i acc b p hn ha e;obtain⟨n,rfl⟩:∃a,n=a+1:=⟨n-1,by omega⟩;obtain⟨c,j,g⟩:=Oi hK l w e (l.order o x).1 (k:=i) (by omega);rw[Dx.eq_2,ct (dt (by omega)),List.range'_succ,List.filter_cons];show∃h,Dr t h∧(EK K (wk t (L.map (Av t)) b) o (i:Int)).bind _=_;rw[bd g];cases hs:Gu t o i with
   |true=>
    obtain⟨h,f,g3⟩:=ih n (i+1) (acc++[(i:Int)]) c (by omega) (by omega) (by simp;omega) j;refine⟨h,f,?_⟩;rw[ct rfl,Dt (by simp;omega),AZ (by omega) (by omega),CZ i];show Dx K (wk t (L.map (Av t)) m) o n (acc++[(i:Int)]) ((i+1:Nat):Int) c=_;rw[g3,if_pos rfl,List.map_cons,List.append_assoc];rfl
   |false=>
    obtain⟨h,f,g3⟩:=ih n (i+1) acc c (by omega) (by omega) (by omega) j;refine⟨h,f,?_⟩;rw[cf rfl,AZ (by omega) (by omega),CZ i];show Dx K (wk t (L.map (Av t)) m) o n acc ((i+1:Nat):Int) c=_;rw[g3,if_neg (by simp)]
 have q:∀(d n i:Nat) (acc:List (List Int)) (b:List (List Int×Int)),t.Aw.length=i+d→d<n→acc.length≤i→Dr t b→
   ∃c,Dr t c∧DB K (wk t (L.map (Av t)) m) n acc (i:Int) b=some (acc++(t.Aw.drop i).map (FE t),c):=by
  intro d
  induction d with
  |zero=>
   intro n i acc b p hn ha e;obtain⟨n,rfl⟩:∃a,n=a+1:=⟨n-1,by omega⟩;exact⟨b,e,by rw[DB.eq_2,r,cf (df (by omega)),List.drop_eq_nil_of_le (by omega)];simp⟩
  |succ d ih=>
   intro n i acc b p hn ha e;obtain⟨n,rfl⟩:∃a,n=a+1:=⟨n-1,by omega⟩;have hi:i<t.Aw.length:=by omega
   obtain⟨c,j,g2⟩:=s _ (List.getElem_mem hi) t.Ac.length K 0 [] b (by omega) (by omega) (by simp) e;obtain⟨h,f,g3⟩:=ih n (i+1) (acc++[FE t t.Aw[i]]) c (by omega) (by omega) (by simp;omega) j;refine⟨h,f,?_⟩;rw[Int.natCast_zero,List.nil_append,←List.range_eq_range'] at g2;rw[DB.eq_2,r,ct (dt (by omega)),BS hi,bd g2,Dt (by simp;omega),AZ (by omega) (by omega),CZ i];have u:DB K (wk t (L.map (Av t)) m) n (acc++[FE t t.Aw[i]]) ((i+1:Nat):Int) c=_:=g3;rw[List.drop_eq_getElem_cons hi,List.map_cons];refine u.trans ?_;rw[List.append_assoc];rfl
 obtain⟨a,v,g⟩:=q t.Aw.length K 0 [] m (by omega) (by omega) (by simp) hm;refine⟨a,v,?_⟩;unfold Fp;rw[Int.natCast_zero,List.nil_append,List.drop_zero] at g;have y:DB K (wk t (L.map (Av t)) m) K [] 0 (wk t (L.map (Av t)) m).known=some (DF t,a):=g;rw[bd y]
end
theorem Fm(t:Aj):(DF t).length=t.Aw.length:=List.length_map ..
theorem JY{t:Aj}{i:Nat}(hi:i<t.Aw.length):(DF t)[i]'(by rw[Fm];exact hi)=FE t t.Aw[i]:=by simp[DF]
section
variable{K:Nat}(hK:1000≤K)
include hK
end
theorem Ra{a:List Int}{m:Nat}(h:m<a.length):a.toArray[m]! =a[m]:=by
 rw[getElem!_pos a.toArray m (by simpa using h)];simp
theorem Ph{a:List Int}(hs:a.Pairwise (· ≤·)):∀m,m≤a.length→(Lib.compactUpTo a.toArray m).Pairwise (· <·)∧∀x,x∈Lib.compactUpTo a.toArray m↔x∈a.take m
 |0,_=>by simp[Lib.compactUpTo]
 |m+1,h=>by
  obtain⟨h1,h2⟩:=Ph hs m (by omega);have hm:m<a.length:=by omega
  rw[Lib.compactUpTo_succ,List.take_succ_eq_append_getElem hm,Ra hm];have hle:∀x∈a.take m,x≤a[m]:=fun x hx=>by
   obtain⟨i,hi,rfl⟩:=List.mem_iff_getElem.1 hx;rw[List.getElem_take];simp at hi;exact(List.pairwise_iff_getElem.1 hs) i m _ hm (by omega)
  by_cases hk:Lib.keeps a.toArray m=true
  ·rw[if_pos hk];refine⟨?_,fun x=>by rw[List.mem_append,List.mem_append,h2]⟩;rw[List.pairwise_append];refine⟨h1,by simp,fun x hx y j=>?_⟩;obtain rfl:y=a[m]:=by simpa using j
   have b:=(h2 x).1 hx;have d:=hle x b;simp only[Lib.keeps,decide_eq_true_eq] at hk;rcases hk with rfl|hk
   ·simp at b
   ·have f:0<m:=by
     rcases Nat.eq_zero_or_pos m with rfl|h0
     ·simp at b
     ·exact h0
    rw[Ra hm,Ra (by omega:m-1<a.length)] at hk;obtain⟨i,hi,rfl⟩:=List.mem_iff_getElem.1 b;rw[List.getElem_take] at d⊢;simp at hi;have h5:a[m-1]≤a[m]:=(List.pairwise_iff_getElem.1 hs) (m-1) m _ hm (by omega);have k:a[i]≤a[m-1]:=by
     by_cases e:i=m-1
     ·subst e;exact Int.le_refl _
     ·exact(List.pairwise_iff_getElem.1 hs) i (m-1) _ _ (by omega)
    have l:a[m]≠a[m-1]:=hk;show a[i]<a[m];omega
  ·rw[if_neg hk,List.append_nil];refine⟨h1,fun x=>?_⟩;rw[h2];have c:¬(m=0∨a.toArray[m]!≠a.toArray[m-1]!):=by simpa[Lib.keeps] using hk
   have f:0<m:=by
    rcases Nat.eq_zero_or_pos m with rfl|h0
    ·exact absurd (.inl rfl) c
    ·exact h0
   have he:a.toArray[m]! =a.toArray[m-1]!:=Decidable.byContradiction fun e=>c (.inr e);rw[Ra hm,Ra (by omega:m-1<a.length)] at he;have g:a[m]∈a.take m:=by
    rw[he,List.mem_iff_getElem];exact⟨m-1,by simp;omega,by simp⟩
   rw[List.mem_append];constructor
   ·exact .inl
   ·rintro(hx|hx)
    ·exact hx
    ·rw[List.mem_singleton.1 hx];exact g
theorem Rb(l:List Int):(JO l).Pairwise (· ≤·):=by rw[PW];exact Qz l
theorem SY(l:List Int)(x:Int):x∈JO l↔x∈l:=by rw[PW];exact(Pg l).mem_iff
theorem SZ(l:List Int):(JO l).length=l.length:=by rw[PW];exact(Pg l).length_eq
def distinct (n:Nat) (l:List Int):Nat:=((List.range n).filter fun k:Nat=>l.contains (k:Int)).length
theorem RJ{n:Nat}{l:List Int}(h:∀x∈l,0≤x∧x<(n:Int)):(Lib.compact (JO l)).length=distinct n l:=by
 obtain⟨h1,h2⟩:=Ph (Rb l) _ (Nat.le_refl _);have e:Lib.compact (JO l)=Lib.compactUpTo (JO l).toArray (JO l).length:=rfl;rw[←e] at h1 h2;have c:Lib.compact (JO l)=((List.range n).filter fun k:Nat=>l.contains (k:Int)).map fun k:Nat=>(k:Int):=by
  refine Nb h1 ?_ fun x=>?_
  ·rw[List.pairwise_map];have h:(List.range n).Pairwise (fun a b:Nat=>a<b):=List.pairwise_lt_range;exact(h.sublist (List.filter_sublist)).imp fun h=>by omega
  ·rw[h2,List.take_length,SY,List.mem_map];constructor
   ·intro hx;have:=h x hx;refine⟨x.toNat,List.mem_filter.2 ⟨List.mem_range.2 (by omega),?_⟩,by omega⟩;rw[List.contains_iff_mem,Int.toNat_of_nonneg (by omega)];exact hx
   ·rintro⟨k,hk,rfl⟩;exact List.contains_iff_mem.1 (List.mem_filter.1 hk).2
 rw[c,List.length_map];rfl
def union (t:Aj) (l:List Int):List Int:=l.flatMap fun i=>(DF t).getD i.toNat []
def Ig(t:Aj)(l:List Int):Bool:=decide (distinct t.Ac.length (union t l)<l.length)
theorem Rc{t:Aj}{l:List Int}{x:Int}:x∈union t l↔∃i∈l,x∈(DF t).getD i.toNat []:=by unfold union;rw[List.mem_flatMap]
theorem QI{t:Aj}(i:Nat):∀x∈(DF t).getD i [],0≤x∧x<(t.Ac.length:Int):=fun x hx=>by
 by_cases hi:i<(DF t).length
 ·rw[Cx _ hi] at hx;rw[Fm] at hi;rw[JY hi] at hx;obtain⟨k,hk,_,e⟩:=K9.1 hx;omega
 ·rw[List.getD_eq_getElem?_getD,List.getElem?_eq_none (by omega)] at hx;simp at hx
theorem TM{t:Aj}(i:Nat):((DF t).getD i []).length≤t.Ac.length:=by
 by_cases hi:i<(DF t).length
 ·rw[Cx _ hi];rw[Fm] at hi;rw[JY hi];exact N3 t _
 ·rw[List.getD_eq_getElem?_getD,List.getElem?_eq_none (by omega)];simp
theorem oe{α β b:Type}{a:α}{z:b}{x:β}{f:α→β}:Option.elim (some a,z).1 x f=f a:=rfl
theorem S1{α b:Type}{a:α}{x y:b}:cond ((a,(0:Int)).2 !=0) x y=y:=rfl
theorem pe0{α b:Type}{a:α}{x y:b}:cond ((a,(0:Int)).2==0) x y=x:=rfl
section
variable{K:Nat}(hK:1000≤K)
include hK
theorem R3{t:Aj}(b:OkT t)(m:List (List Int×Int))(l:List Int)(hl:l.length≤100)(hb:∀x∈l,0≤x∧x<(t.Aw.length:Int)):∀(d n i:Nat) (acc:List Int),l.length=i+d→d<n→acc.length≤3*i→
  ∃z,G7 l (DF t,m) n acc (i:Int)=some (acc++z)∧z=union t (l.drop i)∧(acc++z).length≤3*l.length
 |d,0,i,acc,h,hn,_=>by omega
 |0,n+1,i,acc,h,hn,ha=>by
  refine⟨[],?_,?_,by simp;omega⟩
  ·rw[G7.eq_2,cf (df (by omega)),List.append_nil]
  ·rw[List.drop_eq_nil_of_le (by omega)];rfl
 |d+1,n+1,i,acc,h,hn,ha=>by
  have e:=b.kl;have hi:i<l.length:=by omega
  have hx:=hb _ (List.getElem_mem hi);obtain⟨q,hq⟩:∃q:Nat,l[i]=(q:Int):=⟨l[i].toNat,by omega⟩;have a:q<(DF t).length:=by rw[Fm];omega
  have c:=TM (t:=t) q;rw[Cx _ a] at c;obtain⟨z,g1,g2,g3⟩:=R3 b m l hl hb d n (i+1) (acc++(DF t)[q]) (by omega) (by omega) (by simp;omega);refine⟨(DF t)[q]++z,?_,?_,by rw[←List.append_assoc];exact g3⟩
  ·rw[G7.eq_2,ct (dt (by omega)),BS hi,hq];show((idx (DF t) (q:Int)).bind _)=_;rw[BS a,Dt (by omega),AZ (by omega) (by omega),CZ i,g1,List.append_assoc]
  ·rw[List.drop_eq_getElem_cons hi];show _=List.flatMap _ (l[i]::l.drop (i+1));rw[List.flatMap_cons,hq,Int.toNat_natCast,Cx _ a,g2];rfl
theorem R4{t:Aj}(a:OkT t){L:List (List Int)}(e:Tr t L){m:List (List Int×Int)}(hm:Dr t m){l:List Int}(hl:l.length≤100)(hb:∀x∈l,0≤x∧x<(t.Aw.length:Int)):
  ∃b,Dr t b∧HZ K (wk t (L.map (Av t)) m) l=some (Ig t l,b):=by
 obtain⟨c,d,g1⟩:=Nc hK a e hm;obtain⟨z,g2,g3,g4⟩:=R3 hK a c l hl hb l.length K 0 [] (by omega) (by omega) (by simp);rw[Int.natCast_zero,List.nil_append] at g2;rw[List.nil_append] at g4;refine⟨c,d,?_⟩;unfold HZ;rw[bd g1,bd g2,Dt (by omega),SZ,Dt (by omega),RJ (n:=t.Ac.length)]
 ·rw[List.drop_zero] at g3;rw[g3];unfold Ig
  congr 2
  rw[Bool.eq_iff_iff,decide_eq_true_eq,decide_eq_true_eq];omega
 ·intro x hx;rw[g3,Rc] at hx;obtain⟨i,_,hi⟩:=hx;exact QI _ x hi
theorem Ur{t:Aj}(h:DP t=true):∃x e,J1 K t=some (x,e)∧(BQ t≠0→x=[]∧e=BQ t)∧(BQ t=0→(e=0∧EC t.Aw.length (Ig t) x∨e=7∧x=[]∧∀s,s<2^t.Aw.length→Ig t (Ba s)=false)):=by
 unfold J1;rcases Hl hK h true with⟨h0,_,L,m,f,hm,e⟩|⟨h0,e⟩
 ·have b:=D6 h (Cq (Ds h0).1).1;have k:=b.ol;obtain⟨q,o,g1⟩:=MM hK (n:=t.Aw.length) (by omega) (I:=Dr t) (p:=Ig t) (fun(st:(List (List Int×Int))) (x:(List Int))=>(HE K x (wk t (L.map (Av t)) st)).bind fun r=>some (r.1,r.2)) (fun s x hs hx hb=>by
   obtain⟨i,c,g⟩:=R4 hK b f hs (l:=x) (by omega) hb;refine⟨i,c,?_⟩;show(HE K x (wk t (L.map (Av t)) s)).bind _=_;unfold HE;rw[bd (bd g)]) hm
  have d:FL K (fun(st:(List (List Int×Int))) (x:(List Int))=>(HE K x (⟨(wk t (L.map (Av t)) m).BD,(wk t (L.map (Av t)) m).BE,(wk t (L.map (Av t)) m).By,(wk t (L.map (Av t)) m).DZ,(wk t (L.map (Av t)) m).Ce,(wk t (L.map (Av t)) m).Ca,(wk t (L.map (Av t)) m).CH,(wk t (L.map (Av t)) m).weights,(wk t (L.map (Av t)) m).Dq,st⟩:DO)).bind fun r=>some (r.1,r.2)) (t.Aw.length:Int) (wk t (L.map (Av t)) m).known=_:=g1;rw[bd e,oe,S1,bd d];cases ha:(FJ t.Aw.length 0 (t.Aw.length+1)).any (Ig t) with
  |true=>exact⟨_,0,rfl,fun g=>absurd h0 g,fun _=>.inl ⟨rfl,Om (by omega) [] ha⟩⟩
  |false=>
   refine⟨[],7,rfl,fun g=>absurd h0 g,fun _=>.inr ⟨rfl,rfl,fun s hs=>?_⟩⟩;rw[Bool.eq_false_iff];intro j;rw[(On (by omega) _).2 ⟨s,hs,j⟩] at ha;cases ha
 ·have a:BQ t≠0:=fun g=>h0 ⟨g,rfl⟩;refine⟨[],BQ t,?_,fun _=>⟨rfl,rfl⟩,fun g=>absurd g a⟩;rw[if_neg (by simp)] at e;rw[bd e];show cond (_ !=0) _ _=_;rw[ct (Fy a)]
theorem Qg{t:Aj}(h:DP t=true){l:List Int}(hl:l.length≤100):GM K t l=some (decide (BQ t=0)&&(C9 t.Aw.length 0 l&&Ig t l)):=by
 have hlen:=E9 h;have d:t.Aw.length≤100:=hlen.2.2.1;unfold GM;rcases Hl hK h true with⟨h0,_,L,m,b,hm,e⟩|⟨h0,e⟩
 ·have c:=D6 h (Cq (Ds h0).1).1;rw[bd e,dt h0,Bool.true_and,oe,pe0,bd (Nx hK (by omega) (by omega))];cases hr:C9 t.Aw.length 0 l with
  |false=>rfl
  |true=>
   obtain⟨f,_,g⟩:=R4 hK c b hm hl (MK hr);rw[ct rfl,bd g,Bool.true_and]
 ·have a:BQ t≠0:=fun g=>h0 ⟨g,rfl⟩;rw[if_neg (by simp)] at e;rw[bd e,df a,Bool.false_and];show cond (_==0) _ _=_;rw[cf (Gw a)]
end
def E1 (t:Aj) (out:List Int):Bool:=(Bo t.C).any fun l=>BB (As t l) out 0 t.Ao
def C8(t:Aj)(ns:List Ct):Aj:=⟨t.Al,t.Ac,t.Ap,t.Flat,t.AH,t.Aw,ns⟩
def FW (t:Aj) (k:Nat):Bool:=E1 (C8 t (t.Ao.take k)) []
theorem F2(M:List Int)(ns:List Ct):BB M [] 0 ns=true↔∀n∈ns,FT M n=true:=by
 rw[Hm];constructor
 ·intro h n hn;obtain⟨j,hj,rfl⟩:=List.getElem_of_mem hn;rcases h j hj with h1|h1
  ·simp at h1
  ·exact h1
 ·intro h j hj;exact .inr (h _ (List.getElem_mem hj))
theorem GC{t:Aj}{j k:Nat}(h:j≤k)(hk:FW t k=true):FW t j=true:=by
 unfold FW E1 at hk⊢;rw[List.any_eq_true] at hk⊢;obtain⟨l,hl,hr⟩:=hk;refine⟨l,hl,?_⟩;have a:As (C8 t (t.Ao.take k)) l=As t l:=rfl;have b:As (C8 t (t.Ao.take j)) l=As t l:=rfl;have c:(C8 t (t.Ao.take k)).Ao=t.Ao.take k:=rfl;have d:(C8 t (t.Ao.take j)).Ao=t.Ao.take j:=rfl;rw[a,c,F2] at hr;rw[b,d,F2];exact fun n hn=>hr n (List.take_subset_take_left _ h hn)
structure Gb (t:Aj) (i:Nat):Prop where
 lt:i<t.Ao.length
 before:FW t i=true
 not:FW t (i+1)=false
theorem Gb.uniq{t:Aj}{i j:Nat}(h:Gb t i)(g:Gb t j):i=j:=by
 rcases Nat.lt_trichotomy i j with h1|h1|h1
 ·have:=GC (show i+1≤j by omega) g.before;rw[h.not] at this;cases this
 ·exact h1
 ·have:=GC (show j+1≤i by omega) h.before;rw[g.not] at this;cases this
section
variable{K:Nat}(hK:1000≤K)
include hK
end
theorem TP{x:Int}(h0:-9223372036854775808≤x)(h1:x≤9223372036854775807):E5 .i64 x=some ():=by
 unfold E5;have:IntKind.i64.wrap x=x:=GO ⟨by omega,by omega⟩;rw[if_pos this]
theorem QL{β:Type}{x:Int}{f:Unit→Option β}(h0:0≤x)(h1:x<65536):(E5 .i64 x).bind f=f ():=bd (TP (by omega) (by omega))
theorem Qh{t:Aj}(c:OkT t)(h0:BQ t≠0):BQ t=9∨BQ t=11:=by
 have a:B5 t=0∨B5 t=11:=by
  unfold B5
  by_cases b:Bo t.C=[]
  ·right;rw[if_neg (show¬CP t≠0 by simp[c.fault]),if_pos b]
  ·left;rw[if_neg (show¬CP t≠0 by simp[c.fault]),if_neg b]
 unfold BQ at h0⊢;rcases a with a|a
 ·rw[a] at h0⊢
  by_cases b:Bd t=[]
  ·left;rw[if_neg (show¬(0:Int)≠0 by simp),if_pos b]
  ·rw[if_neg (show¬(0:Int)≠0 by simp),if_neg b] at h0;exact absurd rfl h0
 ·right;rw[a,if_pos (by decide)]
section
variable{K:Nat}(hK:1000≤K)
include hK
theorem I4(t:Aj):(B6 K t=some false)∨(DP t=true∧OkT t∧B6 K t=some true):=by
 rw[MN hK t];cases h:DP t with
 |false=>exact .inl rfl
 |true=>
  by_cases h0:CP t=0
  ·exact .inr ⟨rfl,D6 h h0,by rw[dt h0];rfl⟩
  ·exact .inl (by rw[df h0];rfl)
end
end Go.Proofs.YtbhofkcbfblijaaGreat
end
section
namespace Go.Proofs.YtbhofkcbfblijaaGreat
namespace HF
theorem GV:(Tryz.prog.underlying 3).isSome=true:=by kernel_rfl
theorem Qe:Bv Tryz.prog 73:=by unfold Bv;kernel_rfl
theorem Ms:Bv Tryz.prog 63:=by unfold Bv;kernel_rfl
theorem TN:Bv Tryz.prog 62:=by unfold Bv;kernel_rfl
theorem Rh:(Tryz.prog.underlying 5).isSome=true:=by kernel_rfl
theorem JW:Bv Tryz.prog 51:=by unfold Bv;kernel_rfl
theorem Us:Bv Tryz.prog 70:=by unfold Bv;kernel_rfl
theorem NC:Bv Tryz.prog 48:=by unfold Bv;kernel_rfl
end HF
end Go.Proofs.YtbhofkcbfblijaaGreat
end
section
namespace Go.Proofs.YtbhofkcbfblijaaGreat
open Go.RowKit Go.WideShapes
set_option maxRecDepth 20000
open HF
attribute [local irreducible] Eb WL CC CW LV Cw JC HO One Bv
theorem a70 bY m aE o p q r s t u x j k y z h i(Z:Nat→Prop) w(cE:Sl AM w Z o p m.Al)(cF:Sl (BO (Ay .i64)) w Z q r m.Ac)(cG:Sl AQ w Z s t m.Ap)(cH:Sl Bm w Z u x m.AH)(cI:Sl Bl w Z j k m.Aw)(cJ:Sl BA w Z y z m.Ao)(cK:Sl (Ay .i64) w Z h i aE) c0(a:GM bY m aE=some c0):
 Cw Tryz.prog 70 #[.agg (Am o p q r s t u x j k y z m).toArray,.slice h aE.length i] w (fun v w'=>Ext w w'∧Dg.R w' (zf Z w []) v c0):=by
 unfold GM at a;refine AS (N:=26) Tryz.func70 rfl rfl (by simp) ?_;intro dD ha dE;have cU:=sA 0 ha;have aI:=sA 1 ha;clear ha;have cQ:Hp FN [] w [] w:=Hp.start (Cc.none w);have ⟨bK,bL,bM,bN,bO,bP,aF⟩:=E0 cE cF cG cH cI cJ cK (Bh (Z:=Z) (L:=[]) w);refine Af<|Ad<|wE (fun st=>Ci (v:=.agg (Am o p q r s t u x j k y z m).toArray) (cs:=(Am o p q r s t u x j k y z m).toArray) (ee st cU) rfl) ?_;rintro _ w1 ⟨b1,rfl,aB⟩;have aJ:=cQ.nb aB;have dB:=cQ.Cr aB;refine wA (v:=.bool false) rfl<|Ag<|Ab<|Af<|Ad<|wD (fun st=>AR (l:=(Am o p q r s t u x j k y z m)) Hh (eR st) aB.bk rfl rfl) ?_;have ⟨bQ,bR,bS,bT,bU,bV⟩:=Cz bK bL bM bN bO bP (AP aB);replace a:=bind_some a;obtain⟨aA,c1,a⟩:=a;refine wE (fun st=>Ar PJ (eR st) (Dw (eR st) (eR st)) (S8 bY m true o p q r s t u x j k y z (zf Z w [some b1]) _ bQ bR bS bT bU bV aA c1)) ?_;rintro _ dC ⟨aG,⟨dH,rfl,c2⟩⟩;rcases JH.cases c2 with⟨bZ,rfl⟩|⟨c3,bZ,b3,b,a0,a2,a3,a4,a5,a8,a9,bA,bB,bC,bD,bE,bF,bG,bH,bI,rfl,aC,c4,c5,b4,b5,b6,b7,b8,b9,cA,cB⟩
 ·replace a:=RQ bZ a;have cR:=aJ.ext aG;refine wM (v:=.tuple #[.pointer none,I aA.2]) rfl<|wD (fun st=>BH (v:=.pointer none) (eR st) rfl)<|wD (fun st=>BH (v:=I aA.2) (eR st) rfl)<|wA (v:=.pointer none) rfl<|wA (v:=I aA.2) rfl<|Ag<|Ab<|Af<|Ad<|wM (v:=I aA.2) rfl<|wD (fun st=>Dj (eR st) (eR st))<|wM (v:=.bool (aA.2==0)) rfl ?_;rcases Ak (aA.2==0) with d|d
  ·replace a:=Az a d;refine An rfl rfl (Ae rfl d) rfl (by decide) (fun st=>Aq (v:=.slice h aE.length i) (ee st aI))<|An rfl rfl (Ae rfl d) rfl (by decide) (fun st=>Ai (eR st) (ME _ _)) ?_;have cL:=(aB.bk.ext aG);refine An rfl rfl (Ae rfl d) rfl (by decide) (fun st=>AG (v:=.slice j m.Aw.length k) NQ (eR st) cL rfl)<|An rfl rfl (Ae rfl d) rfl (by decide) (fun st=>Bu Tryz.underlying50 (eR st)) ?_;have bW:=((aF.mv (AP aB)).mv (Ah aG));replace a:=bind_some a;obtain⟨cM,c6,a⟩:=a;refine Di rfl rfl (Ae rfl d) rfl (by decide) (fun st=>Ar SA (eR st) (Dw (eR st) (eR st)) (a117 bY aE (m.Aw.length:Int) h i ZA _ bW.all cM c6)) ?_;rintro _ dI ⟨c7,rfl⟩;have c8:=cR.ext c7;refine wD (fun st=>AY (v:=.bool cM) (eR st) d (eR st))<|wM (v:=.bool cM) rfl ?_;rcases Ak (cM) with n|n
   ·replace a:=Az a n;refine An rfl rfl (Ae rfl n) rfl (by decide) (fun st=>Aq (v:=.pointer none) (eR st))<|An rfl rfl (Ae rfl n) rfl (by decide) (fun st=>Aq (v:=.slice h aE.length i) (ee st aI)) ?_;exact absurd a (by simp)
   ·replace a:=AA a n;refine Au (c:=false) rfl rfl (Ae rfl n) (by decide) rfl (by decide)<|Au (c:=false) rfl rfl (Ae rfl n) (by decide) rfl (by decide)<|Au (c:=false) rfl rfl (Ae rfl n) (by decide) rfl (by decide)<|wD (fun st=>BC (v:=.bool false) (eR st) n (eR st))<|wA (v:=.bool false) rfl<|Ag<|Ab<|AI ?_;obtain rfl:=oi a;refine AJ rfl rfl ?_;exact⟨c8.Bc,rfl⟩
  ·replace a:=AA a d;refine Au (c:=false) rfl rfl (Ae rfl d) (by decide) rfl (by decide)<|Au (c:=false) rfl rfl (Ae rfl d) (by decide) rfl (by decide)<|Au (c:=false) rfl rfl (Ae rfl d) (by decide) rfl (by decide)<|Au (c:=false) rfl rfl (Ae rfl d) (by decide) rfl (by decide)<|Au (c:=false) rfl rfl (Ae rfl d) (by decide) rfl (by decide)<|wD (fun st=>BC (v:=.bool false) (eR st) d (eR st))<|wM (v:=.bool false) rfl<|Au rfl rfl rfl (by decide) rfl (by decide)<|Au rfl rfl rfl (by decide) rfl (by decide)<|Au rfl rfl rfl (by decide) rfl (by decide)<|wD (fun st=>BC (v:=.bool false) (eR st) rfl (eR st))<|wA (v:=.bool false) rfl<|Ag<|Ab<|AI ?_;obtain rfl:=oi a;refine AJ rfl rfl ?_;exact⟨cR.Bc,rfl⟩
 ·replace a:=RR bZ a;have cS:=aJ.Ox aG aC;have cN:w.heap.size≤b3:=Nat.le_trans aJ.sz (aC.mem _ (by simp)).1;have cZ:w.heap.size≤b:=Nat.le_trans aJ.sz (aC.mem _ (by simp)).1;have ⟨aK,aL,aM,aN,aO,aP,aQ,aR⟩:=Ii b4 b5 b6 b7 b8 b9 cA cB (aJ.P0 aC);have cT:=cS.erase 0;have cV:Rz dC (zf Z w [some b,some b1]) (some ⟨b3,0,none⟩) (G1 a0 a2 a3 a4 a5 a8 a9 bA bB bC bD bE bF bG bH bI b c3):=P1 c4 (cS.lit 0 rfl cN) rfl;refine wM (v:=.tuple #[pt b3 0,I aA.2]) rfl<|wD (fun st=>BH (v:=pt b3 0) (eR st) rfl)<|wD (fun st=>BH (v:=I aA.2) (eR st) rfl)<|wA (v:=pt b3 0) rfl<|wA (v:=I aA.2) rfl<|Ag<|Ab<|Af<|Ad<|wM (v:=I aA.2) rfl<|wD (fun st=>Dj (eR st) (eR st))<|wM (v:=.bool (aA.2==0)) rfl ?_;rcases Ak (aA.2==0) with e|e
  ·replace a:=Az a e;refine An rfl rfl (Ae rfl e) rfl (by decide) (fun st=>Aq (v:=.slice h aE.length i) (ee st aI))<|An rfl rfl (Ae rfl e) rfl (by decide) (fun st=>Ai (eR st) (ME _ _)) ?_;have cO:=(aB.bk.ext aG);refine An rfl rfl (Ae rfl e) rfl (by decide) (fun st=>AG (v:=.slice j m.Aw.length k) NQ (eR st) cO rfl)<|An rfl rfl (Ae rfl e) rfl (by decide) (fun st=>Bu Tryz.underlying50 (eR st)) ?_;have aH:=(((aF.mv (AP aB)).mv (FC (Ah aG) aC)).mv (Bp 0));replace a:=bind_some a;obtain⟨bJ,cW,a⟩:=a;refine Di rfl rfl (Ae rfl e) rfl (by decide) (fun st=>Ar SA (eR st) (Dw (eR st) (eR st)) (a117 bY aE (m.Aw.length:Int) h i ZA _ aH.all bJ cW)) ?_;rintro _ dF ⟨aD,rfl⟩;have g:=cT.ext aD;refine wD (fun st=>AY (v:=.bool bJ) (eR st) e (eR st))<|wM (v:=.bool bJ) rfl ?_;rcases Ak (bJ) with f|f
   ·replace a:=Az a f;refine An rfl rfl (Ae rfl f) rfl (by decide) (fun st=>Aq (v:=pt b3 0) (eR st))<|An rfl rfl (Ae rfl f) rfl (by decide) (fun st=>Aq (v:=.slice h aE.length i) (ee st aI)) ?_;have ⟨aS,aT,aU,aV,aW,aX,aY,aZ⟩:=Ii aK aL aM aN aO aP aQ aR (mt (Bp 0) (Ah aD));have cP:=(c5.ext aD);have cC:=(cV.mv (Ah aD));have bX:=(aH.mv (Ah aD));replace a:=bind_some a;obtain⟨cD,cX,a⟩:=a;refine Di rfl rfl (Ae rfl f) rfl (by decide) (fun st=>Ar V6 (eR st) (Dw (eR st) (eR st)) (AbU bY c3 aE a0 a2 a3 a4 a5 a8 a9 bA bB bC bD bE bF bG bH bI h i b3 b (ZC FN [some b]) _ (g.GU (F':=FN) (M:=[some b]) (C:=[]) [0] [] rfl ⟨rfl,trivial⟩ trivial eL) Lb (aS.mv (g.mz (F':=FN) (M:=[some b]) (C:=[]) [0] [] ⟨rfl,trivial⟩ trivial eL)) (aT.mv (g.mz (F':=FN) (M:=[some b]) (C:=[]) [0] [] ⟨rfl,trivial⟩ trivial eL)) (aU.mv (g.mz (F':=FN) (M:=[some b]) (C:=[]) [0] [] ⟨rfl,trivial⟩ trivial eL)) (aV.mv (g.mz (F':=FN) (M:=[some b]) (C:=[]) [0] [] ⟨rfl,trivial⟩ trivial eL)) (aW.mv (g.mz (F':=FN) (M:=[some b]) (C:=[]) [0] [] ⟨rfl,trivial⟩ trivial eL)) (aX.mv (g.mz (F':=FN) (M:=[some b]) (C:=[]) [0] [] ⟨rfl,trivial⟩ trivial eL)) (aY.mv (g.mz (F':=FN) (M:=[some b]) (C:=[]) [0] [] ⟨rfl,trivial⟩ trivial eL)) (aZ.mv (g.mz (F':=FN) (M:=[some b]) (C:=[]) [0] [] ⟨rfl,trivial⟩ trivial eL)) (cC.mv (g.mz (F':=FN) (M:=[some b]) (C:=[]) [0] [] ⟨rfl,trivial⟩ trivial eL)) (bX.mv (g.mz (F':=FN) (M:=[some b]) (C:=[]) [0] [] ⟨rfl,trivial⟩ trivial eL)) cP cD cX)) ?_;rintro _ dG ⟨cY,rfl,c9⟩;have dA:=g.Fa cY (Cv [0] ⟨rfl,trivial⟩ eL);refine wD (fun st=>AY (v:=.bool cD.1) (eR st) f (eR st))<|wA (v:=.bool cD.1) rfl<|Ag<|Ab<|AI ?_;obtain rfl:=oi a;refine AJ rfl rfl ?_;exact⟨dA.Bc,rfl⟩
   ·replace a:=AA a f;refine Au (c:=false) rfl rfl (Ae rfl f) (by decide) rfl (by decide)<|Au (c:=false) rfl rfl (Ae rfl f) (by decide) rfl (by decide)<|Au (c:=false) rfl rfl (Ae rfl f) (by decide) rfl (by decide)<|wD (fun st=>BC (v:=.bool false) (eR st) f (eR st))<|wA (v:=.bool false) rfl<|Ag<|Ab<|AI ?_;obtain rfl:=oi a;refine AJ rfl rfl ?_;exact⟨g.Bc,rfl⟩
  ·replace a:=AA a e;refine Au (c:=false) rfl rfl (Ae rfl e) (by decide) rfl (by decide)<|Au (c:=false) rfl rfl (Ae rfl e) (by decide) rfl (by decide)<|Au (c:=false) rfl rfl (Ae rfl e) (by decide) rfl (by decide)<|Au (c:=false) rfl rfl (Ae rfl e) (by decide) rfl (by decide)<|Au (c:=false) rfl rfl (Ae rfl e) (by decide) rfl (by decide)<|wD (fun st=>BC (v:=.bool false) (eR st) e (eR st))<|wM (v:=.bool false) rfl<|Au rfl rfl rfl (by decide) rfl (by decide)<|Au rfl rfl rfl (by decide) rfl (by decide)<|Au rfl rfl rfl (by decide) rfl (by decide)<|wD (fun st=>BC (v:=.bool false) (eR st) rfl (eR st))<|wA (v:=.bool false) rfl<|Ag<|Ab<|AI ?_;obtain rfl:=oi a;refine AJ rfl rfl ?_;exact⟨cT.Bc,rfl⟩
theorem Q7 aU r(Z:Nat→Prop) w aV(a:CN aU r=some aV):
 Cw Tryz.prog 63 #[I r] w (fun v w'=>Ext w w'∧(Gp (Ay .i64)).R w' (zf Z w []) v aV):=by
 unfold CN at a;refine AS (N:=23) Tryz.func63 rfl rfl (by simp) ?_;intro bF ha bG;have aN:=sA 0 ha;clear ha;have aW:Hp FN [] w [] w:=Hp.start (Cc.none w);refine Af<|Ad<|wA (v:=.slice none 0 0) rfl<|Ag<|Ab<|Af<|Ad<|wA (v:=.slice none 0 0) rfl<|Ag<|Ab<|Af<|Af<|Ad<|wA (v:=I 0) rfl<|Ag<|Ab<|AT ?_;have aX:=aW.nil;have aY:BY (Ay .i64) 3 w.heap.size w (zf Z w [none]) none 0 ([]:List Int):=BY.nil _ _ _ _ _;replace a:=bind_some a;obtain⟨y,p,a⟩:=a;refine Cm (fun aZ j z=>(aZ=.exit 0∧∃c d,j.tmps.size=23∧j.defers=(X0).ds∧sl j 3=.slice c y.length d∧Hp FN [] w [ob c] z∧BY (Ay .i64) 3 w.heap.size z (zf Z w [ob c]) c d y)) ?a0 ?a2
 case a0=>
  clear a;refine Cl (fun(aH:Nat) (j:Act) (z:World)=>∃g,∃b,∃f h,BG r aH g b=some y∧j.tmps.size=23∧j.defers=(X0).ds∧sl j 0=I r∧sl j 3=.slice f g.length h∧sl j 4=I b∧Hp FN [] w [ob f] z∧BY (Ay .i64) 3 w.heap.size z (zf Z w [ob f]) f h g) aU ?a3 ?a4
  case a3=>
   intro st;exact⟨([]:List Int),(0:Int),none,0,p,qz st,qd st,sp st 0 aN,sp st 3 rfl,sp st 4 rfl,aX,aY⟩
  case a4=>
   rintro(_|aH) bH bI ⟨g,b,f,h,p,aO,aP,m,q,l,u,i⟩
   ·exact absurd (show none=some _ from p) (by simp)
   rw[BG.eq_2] at p;have a:=p;clear p;refine B7 (N:=23) aO aP<|Af<|Af<|Ad<|wM (v:=I r) m<|wM (v:=I b) l ?_;replace a:=D1 a;obtain⟨a5,a⟩:=a;refine wD (fun st=>EX (k:=.u64) GV Tryz.underlying91 (eR st) a5) ?_;replace a:=GB a;obtain⟨a8,a⟩:=a;refine wD (fun st=>J2 (eR st) (eR st) a8)<|wD (fun st=>HJ (eR st) (eR st))<|Ag<|Ab ?_;rcases Ak (decide ((0:Int)<(ER r b))) with s|s
   ·replace a:=Az a s;refine AD rfl s<|AL<|Ab<|Af<|AT<|Af<|Ad<|wM (v:=I r) m<|wM (v:=I b) l ?_;replace a:=D1 a;obtain⟨a9,a⟩:=a;refine wD (fun st=>EX (k:=.u64) GV Tryz.underlying91 (eR st) a9) ?_;replace a:=GB a;obtain⟨bA,a⟩:=a;refine wD (fun st=>J2 (eR st) (eR st) bA) ?_;replace a:=Fu a;obtain⟨aK,a⟩:=a;refine wD (fun st=>HG (eR st) (eR st) aK.1 aK.2)<|wD (fun st=>Dj (eR st) (eR st))<|Ag<|Ab ?_;rcases Ak (((ER r b)%2)==1) with t|t
    ·replace a:=Az a t;refine AD rfl t<|Ad<|wM (v:=.slice f g.length h) q<|wM (v:=I b) l<|wE (fun st=>De (e:=3) (vs:= #[(0,I b)]) (cs:= #[I b]) (JN (eR st)) (by kernel_rfl)) ?_;rintro _ bJ ⟨bK,rfl,n⟩;have aA:=u.nb n;have bB:=u.Cr n;have x:=(i.ext n.gr (AP n));replace a:=Ck a;obtain⟨aB,a⟩:=a;refine wE (fun st=>Jd (ys:=[b]) Tryz.underlying31 Hv rfl rfl (by decide) (eR st) rfl (eR st) x (ID (DQ:=[[I b]]) n.bk ⟨rfl,trivial⟩ rfl) (by have:=aB;simp only[maxLen];omega) (by have:=aB;omega) aA.sz (by simp)) ?_;rintro _ bL ⟨aL,aM,rfl,aC,aD,aQ⟩;have bC:=aA.row aC 1 rfl aD;have aR:=ED aQ (aA.DN aC 1 rfl (fun k hk=>(aD k hk).1));refine wA (v:=.slice aL ((g++[b]).length) aM) rfl<|Ag<|Bs<|Ab<|Ad<|wM (v:=I b) l ?_;replace a:=AK a;obtain⟨aS,a⟩:=a;refine wD (fun st=>B0 (eR st) (eR st) aS)<|wA (v:=I (b+1)) rfl<|Ag ?_;have bD:=bC.erase 0;have aE:=(aR.up (Bp 0));refine Bw aH (Nat.lt_succ_self _) (fun st=>?_);exact⟨(g++[b]),(b+1),aL,aM,a,qz st,qd st,sp st 0 m,sp st 3 rfl,sp st 4 rfl,bD,aE⟩
    ·replace a:=AA a t;refine AE rfl t<|AL<|Bs<|Ab<|Ad<|wM (v:=I b) l ?_;replace a:=AK a;obtain⟨aT,a⟩:=a;refine wD (fun st=>B0 (eR st) (eR st) aT)<|wA (v:=I (b+1)) rfl<|Ag ?_;refine Bw aH (Nat.lt_succ_self _) (fun st=>?_);exact⟨g,(b+1),f,h,a,qz st,qd st,sp st 0 m,sp st 3 q,sp st 4 rfl,u,i⟩
   ·replace a:=AA a s;refine AE rfl s<|Cd<|AB<|AB ?_;obtain rfl:=oi a;refine B4 (fun st=>?_);exact⟨rfl,f,h,qz st,qd st,sp st 3 q,u,i⟩
 case a2=>
  rintro aZ bE bM (⟨rfl,c,d,aI,aJ,aF,aG,o⟩);refine Cn (X:=X0) (N:=23) aI aJ<|Bn<|Ab<|Af<|Ad<|wM (v:=.slice c y.length d) aF<|wA (v:=.slice c y.length d) rfl<|Ag<|Ab<|AI ?_;obtain rfl:=oi a;refine AJ rfl rfl ?_;exact⟨aG.Bc,⟨_,_,rfl,aG.IA (M:=[]) 0 rfl [] rfl trivial o⟩⟩
theorem Uq a5 p q f g h i(Z:Nat→Prop) w(aL:Sl (Ay .i64) w Z f g p)(aM:Sl (Ay .i64) w Z h i q) a8(a:DD a5 p q=some a8):
 Cw Tryz.prog 73 #[.slice f p.length g,.slice h q.length i] w (fun v w'=>Ext w w'∧Dg.R w' (zf Z w []) v a8):=by
 unfold DD at a;refine AS (N:=41) Tryz.func73 rfl rfl (by simp) ?_;intro cA ha cB;have aO:=sA 0 ha;have aP:=sA 1 ha;clear ha;have a9:Hp FN [] w [] w:=Hp.start (Cc.none w);have ⟨aE,aF⟩:=LI aL aM (Bh (Z:=Z) (L:=[]) w);refine Af<|Ad<|wA (v:=.bool false) rfl<|Ag<|Ab<|Af<|Af<|Ad<|wA (v:=I 0) rfl<|Ag<|Ab<|AT ?_;replace a:=bind_some a;obtain⟨aQ,t,a⟩:=a;refine Cm (fun aR j z=>(aR=.ret∧∃u,aQ=.inl u∧j.tmps.size=41∧j.defers=(X0).ds∧sl j 4=.bool u∧Hp FN [] w [] z)∨(aR=.exit 0∧∃u,aQ=.inr u∧j.tmps.size=41∧j.defers=(X0).ds∧sl j 0=.slice f p.length g∧sl j 1=.slice h q.length i∧Hp FN [] w [] z∧Sl (Ay .i64) z (zf Z w []) f g p∧Sl (Ay .i64) z (zf Z w []) h i q)) ?bA ?bB
 case bA=>
  clear a;refine Cl (fun(aS:Nat) (j:Act) (z:World)=>∃b,Cu p q aS b=some aQ∧j.tmps.size=41∧j.defers=(X0).ds∧sl j 0=.slice f p.length g∧sl j 1=.slice h q.length i∧sl j 5=I b∧Hp FN [] w [] z∧Sl (Ay .i64) z (zf Z w []) f g p∧Sl (Ay .i64) z (zf Z w []) h i q) a5 ?bC ?bD
  case bC=>
   intro st;exact⟨(0:Int),t,qz st,qd st,sp st 0 aO,sp st 1 aP,sp st 5 rfl,a9,aE,aF⟩
  case bD=>
   rintro(_|aS) cC cD ⟨b,t,aT,aU,n,o,m,aG,d,e⟩
   ·exact absurd (show none=some _ from t) (by simp)
   rw[Cu.eq_2] at t;have a:=t;clear t;refine B7 (N:=41) aT aU<|Af<|Af<|Ad<|wM (v:=I b) m<|wM (v:=.slice f p.length g) n<|wD (fun st=>Bu Tryz.underlying31 (eR st))<|wD (fun st=>CO (eR st) (eR st))<|wM (v:=.bool (decide (b<(p.length:Int)))) rfl ?_;rcases Ak (decide (b<(p.length:Int))) with l|l
   ·replace a:=Az a l;refine An rfl rfl (Ae rfl l) rfl (by decide) (fun st=>Aq (v:=I b) (ee st m))<|An rfl rfl (Ae rfl l) rfl (by decide) (fun st=>Aq (v:=.slice h q.length i) (ee st o))<|An rfl rfl (Ae rfl l) rfl (by decide) (fun st=>Bu Tryz.underlying31 (eR st))<|An rfl rfl (Ae rfl l) rfl (by decide) (fun st=>CO (eR st) (eR st))<|wD (fun st=>AY (v:=.bool (decide (b<(q.length:Int)))) (eR st) l (eR st))<|Ag<|Ab ?_;rcases Ak (decide (b<(q.length:Int))) with aA|aA
    ·replace a:=Az a aA;refine AD rfl aA<|AL<|Ab<|Af<|AT<|Af ?_;replace a:=AW a;obtain⟨i5,bE,bF,bG,bH,a⟩:=a;obtain⟨bZ,b4,_,bI,rfl,bJ⟩:=Sl.C1 d rfl bG;replace a:=AW a;obtain⟨i6,bK,bL,bM,bN,a⟩:=a;obtain⟨b5,b6,_,bO,rfl,bP⟩:=Sl.C1 e rfl bM;refine B9 8 [Kc (.slice f p.length g),Kc (I b),Kc (pt bZ (b4+i5)),Kc (I bE),Kc (.slice h q.length i),Kc (I b),Kc (pt b5 (b6+i6)),Kc (I bK)] mixed rfl rfl
         (Aa (oD (fun K=>Aq (es ((K.out 0 rfl).trans n))))
         (Aa (oD (fun K=>Aq (es ((K.out 5 rfl).trans m))))
         (Aa (oD (fun K=>AX (k:=i5) Tryz.underlying31 DR (es (K.dq 0 18)) bI (es (K.dq 1 19)) bF bH))
         (Aa (oD (fun K=>Bg Bz (es (K.dq 2 20)) (bJ.mv (Ah K.AO)) rfl))
         (Aa (oD (fun K=>Aq (es ((K.out 1 rfl).trans o))))
         (Aa (oD (fun K=>Aq (es ((K.out 5 rfl).trans m))))
         (Aa (oD (fun K=>AX (k:=i6) Tryz.underlying31 DR (es (K.dq 4 22)) bO (es (K.dq 5 23)) bL bN))
         (Aa (oD (fun K=>Bg Bz (es (K.dq 6 24)) (bP.mv (Ah K.AO)) rfl))
         (B8 _))))))))) ?_
     intro cF;rintro _ rfl _ rfl _ rfl _ rfl _ rfl _ rfl _ rfl _ rfl aD;have aN:=aG.ext aD;refine wD (fun st=>DW (eR st) (eR st))<|Ag<|Ab ?_;rcases Ak (bE !=bK) with aB|aB
     ·replace a:=Az a aB;refine AD rfl aB<|Af ?_;replace a:=AW a;obtain⟨i9,aV,bQ,bR,bS,a⟩:=a;have r:=(d.mv (Ah aD));obtain⟨b7,b8,_,bT,rfl,bU⟩:=Sl.C1 r rfl bR;replace a:=AW a;obtain⟨i10,aH,aW,aX,aY,a⟩:=a;have s:=(e.mv (Ah aD));obtain⟨bV,bW,_,aZ,rfl,a0⟩:=Sl.C1 s rfl aX;refine B9 8 [Kc (.slice f p.length g),Kc (I b),Kc (pt b7 (b8+i9)),Kc (I aV),Kc (.slice h q.length i),Kc (I b),Kc (pt bV (bW+i10)),Kc (I aH)] mixed rfl rfl
          (Aa (oD (fun K=>Aq (es ((K.out 0 rfl).trans n))))
          (Aa (oD (fun K=>Aq (es ((K.out 5 rfl).trans m))))
          (Aa (oD (fun K=>AX (k:=i9) Tryz.underlying31 DR (es (K.dq 0 27)) bT (es (K.dq 1 28)) bQ bS))
          (Aa (oD (fun K=>Bg Bz (es (K.dq 2 29)) (bU.mv (Ah K.AO)) rfl))
          (Aa (oD (fun K=>Aq (es ((K.out 1 rfl).trans o))))
          (Aa (oD (fun K=>Aq (es ((K.out 5 rfl).trans m))))
          (Aa (oD (fun K=>AX (k:=i10) Tryz.underlying31 DR (es (K.dq 4 31)) aZ (es (K.dq 5 32)) aW aY))
          (Aa (oD (fun K=>Bg Bz (es (K.dq 6 33)) (a0.mv (Ah K.AO)) rfl))
          (B8 _))))))))) ?_
      intro cG;rintro _ rfl _ rfl _ rfl _ rfl _ rfl _ rfl _ rfl _ rfl bX;have bY:=aN.ext bX;refine wD (fun st=>CO (eR st) (eR st))<|wA (v:=.bool (decide (aV<aH))) rfl<|Ag<|Ab<|AI<|Bi<|Ax<|Ax ?_;obtain rfl:=oi a;refine B4 (fun st=>?_);exact .inl ⟨rfl,(decide (aV<aH)),rfl,qz st,qd st,sp st 4 rfl,bY⟩
     ·replace a:=AA a aB;refine AE rfl aB<|AL<|Bs<|Ab<|Ad<|wM (v:=I b) m ?_;replace a:=AK a;obtain⟨a2,a⟩:=a;refine wD (fun st=>B0 (eR st) (eR st) a2)<|wA (v:=I (b+1)) rfl<|Ag ?_;have ⟨r,s⟩:=LI d e (Ah aD);refine Bw aS (Nat.lt_succ_self _) (fun st=>?_);exact⟨(b+1),a,qz st,qd st,sp st 0 n,sp st 1 o,sp st 5 rfl,aN,r,s⟩
    ·replace a:=AA a aA;refine AE rfl aA<|Cd<|AB<|AB ?_;obtain rfl:=oi a;refine B4 (fun st=>?_);exact .inr ⟨rfl,(),rfl,qz st,qd st,sp st 0 n,sp st 1 o,aG,d,e⟩
   ·replace a:=AA a l;refine Au (c:=false) rfl rfl (Ae rfl l) (by decide) rfl (by decide)<|Au (c:=false) rfl rfl (Ae rfl l) (by decide) rfl (by decide)<|Au (c:=false) rfl rfl (Ae rfl l) (by decide) rfl (by decide)<|Au (c:=false) rfl rfl (Ae rfl l) (by decide) rfl (by decide)<|wD (fun st=>BC (v:=.bool false) (eR st) l (eR st))<|Ag<|Ab<|AE rfl rfl<|Cd<|AB<|AB ?_;obtain rfl:=oi a;refine B4 (fun st=>?_);exact .inr ⟨rfl,(),rfl,qz st,qd st,sp st 0 n,sp st 1 o,aG,d,e⟩
 case bB=>
  rintro aR b9 cE (⟨rfl,u,rfl,x,y,aI,aC⟩|⟨rfl,u,rfl,x,y,aJ,aK,aC,a3,a4⟩)
  ·skip
   replace a:=Eg a;refine Cn (X:=X0) (N:=41) x y<|Bi<|Ax ?_;obtain rfl:=oi a;refine AJ rfl aI ?_;exact⟨aC.Bc,rfl⟩
  ·skip
   replace a:=Eh a;refine Cn (X:=X0) (N:=41) x y<|Bn<|Ab<|Af<|Ad<|wM (v:=.slice f p.length g) aJ<|wD (fun st=>Bu Tryz.underlying31 (eR st))<|wM (v:=.slice h q.length i) aK<|wD (fun st=>Bu Tryz.underlying31 (eR st))<|wD (fun st=>CO (eR st) (eR st))<|wA (v:=.bool (decide ((p.length:Int)<(q.length:Int)))) rfl<|Ag<|Ab<|AI ?_;obtain rfl:=oi a;refine AJ rfl rfl ?_;exact⟨aC.Bc,rfl⟩
theorem a62 s i j e f g h(Z:Nat→Prop) w(p:Sl (Ay .i64) w Z e f i)(q:Sl (Ay .i64) w Z g h j) t(d:E4 s i j=some t):
 Cw Tryz.prog 62 #[.slice e i.length f,.slice g j.length h] w (fun v w'=>Ext w w'∧Dg.R w' (zf Z w []) v t):=by
 unfold E4 at d;refine AS (N:=22) Tryz.func62 rfl rfl (by simp) ?_;intro z ha aA;have k:=sA 0 ha;have l:=sA 1 ha;clear ha;have o:Hp FN [] w [] w:=Hp.start (Cc.none w);have ⟨m,n⟩:=LI p q (Bh (Z:=Z) (L:=[]) w);refine Af<|Ad<|wA (v:=.bool false) rfl<|Ag<|Ab<|Af<|Ad<|wM (v:=.slice e i.length f) k<|wD (fun st=>Bu Tryz.underlying31 (eR st))<|wM (v:=.slice g j.length h) l<|wD (fun st=>Bu Tryz.underlying31 (eR st))<|wD (fun st=>CO (eR st) (eR st))<|wM (v:=.bool (decide ((i.length:Int)<(j.length:Int)))) rfl ?_;rcases Ak (decide ((i.length:Int)<(j.length:Int))) with a|a
 ·replace d:=Az d a;refine Au (c:=true) rfl rfl (Ae rfl a) (by decide) rfl (by decide)<|Au (c:=true) rfl rfl (Ae rfl a) (by decide) rfl (by decide)<|Au (c:=true) rfl rfl (Ae rfl a) (by decide) rfl (by decide)<|Au (c:=true) rfl rfl (Ae rfl a) (by decide) rfl (by decide)<|Au (c:=true) rfl rfl (Ae rfl a) (by decide) rfl (by decide)<|Au (c:=true) rfl rfl (Ae rfl a) (by decide) rfl (by decide)<|FQ rfl rfl rfl rfl (by decide)<|FQ rfl rfl rfl rfl (by decide)<|FQ rfl rfl rfl rfl (by decide)<|Au (c:=true) rfl rfl (Ae rfl a) (by decide) rfl (by decide)<|wD (fun st=>AY (v:=.bool true) (eR st) a (eR st))<|wA (v:=.bool true) rfl<|Ag<|Ab<|AI ?_;obtain rfl:=oi d;refine AJ rfl rfl ?_;exact⟨o.Bc,rfl⟩
 ·replace d:=AA d a;refine An rfl rfl (Ae rfl a) rfl (by decide) (fun st=>Aq (v:=.slice e i.length f) (ee st k))<|An rfl rfl (Ae rfl a) rfl (by decide) (fun st=>Bu Tryz.underlying31 (eR st))<|An rfl rfl (Ae rfl a) rfl (by decide) (fun st=>Aq (v:=.slice g j.length h) (ee st l))<|An rfl rfl (Ae rfl a) rfl (by decide) (fun st=>Bu Tryz.underlying31 (eR st))<|An rfl rfl (Ae rfl a) rfl (by decide) (fun st=>Dj (eR st) (eR st))<|An rfl rfl (Ae rfl a) rfl (by decide) (fun st=>Aq (v:=.bool ((i.length:Int)==(j.length:Int))) (eR st)) ?_;rcases Ak ((i.length:Int)==(j.length:Int)) with b|b
  ·replace d:=Az d b;refine An rfl rfl (Ae rfl b) rfl (by decide) (fun st=>Aq (v:=.slice e i.length f) (ee st k))<|An rfl rfl (Ae rfl b) rfl (by decide) (fun st=>Aq (v:=.slice g j.length h) (ee st l)) ?_;replace d:=bind_some d;obtain⟨r,u,d⟩:=d;refine Di rfl rfl (Ae rfl b) rfl (by decide) (fun st=>Ar Qe (eR st) (Dw (eR st) (eR st)) (Uq s i j e f g h ZA _ m.all n.all r u)) ?_;rintro _ aB ⟨x,rfl⟩;have y:=o.ext x;refine An rfl rfl (Ae rfl a) rfl (by decide) (fun st=>AY (v:=.bool r) (eR st) b (eR st))<|wD (fun st=>BC (v:=.bool r) (eR st) a (eR st))<|wA (v:=.bool r) rfl<|Ag<|Ab<|AI ?_;obtain rfl:=oi d;refine AJ rfl rfl ?_;exact⟨y.Bc,rfl⟩
  ·replace d:=AA d b;refine Au (c:=false) rfl rfl (Ae rfl b) (by decide) rfl (by decide)<|Au (c:=false) rfl rfl (Ae rfl b) (by decide) rfl (by decide)<|Au (c:=false) rfl rfl (Ae rfl b) (by decide) rfl (by decide)<|An rfl rfl (Ae rfl a) rfl (by decide) (fun st=>BC (v:=.bool false) (eR st) b (eR st))<|wD (fun st=>BC (v:=.bool false) (eR st) a (eR st))<|wA (v:=.bool false) rfl<|Ag<|Ab<|AI ?_;obtain rfl:=oi d;refine AJ rfl rfl ?_;exact⟨o.Bc,rfl⟩
theorem a51 u c a b(Z:Nat→Prop) w(h:Sl (Ay .i64) w Z a b c) p(d:CM u c=some p):
 Cw Tryz.prog 51 #[.slice a c.length b] w (fun v w'=>Ext w w'∧(Gp (Ay .i64)).R w' (zf Z w []) v p):=by
 unfold CM at d;refine AS (N:=5) Tryz.func51 rfl rfl (by simp) ?_;intro z ha aA;have o:=sA 0 ha;clear ha;have q:Hp FN [] w [] w:=Hp.start (Cc.none w);have e:=h.mv (Bh (Z:=Z) (L:=[]) w);refine Af<|Ad<|wA (v:=.slice none 0 0) rfl<|Ag<|Ab<|Af<|Ad<|wM (v:=.slice a c.length b) o ?_;have g:=q.nil;have r:BY (Ay .i64) 3 w.heap.size w (zf Z w [none]) none 0 ([]:List Int):=BY.nil _ _ _ _ _;replace d:=Ck d;obtain⟨i,d⟩:=d;have f:=(e.mv CA);refine wE (fun st=>HY (ys:=c) Tryz.underlying31 Hv rfl rfl (by decide) (eR st) rfl (eR st) r f.n (by have:=i;simp only[maxLen];omega) (by have:=i;omega) g.sz) ?_;rintro _ aB ⟨x,y,rfl,j,l,s⟩;have m:=g.row j 0 rfl l;have t:=ED s (g.DN j 0 rfl (fun k hk=>(l k hk).1));refine wA (v:=.slice x ((([]:List Int)++c).length) y) rfl<|Ag<|Ab<|AI ?_;obtain rfl:=oi d;refine AJ rfl rfl ?_;exact⟨m.Bc,⟨_,_,rfl,m.IA (M:=[]) 0 rfl [] rfl trivial t⟩⟩
theorem R7 aW q a b d e f g h i j k m n(Z:Nat→Prop) w(aN:Sl AM w Z a b q.Al)(aO:Sl (BO (Ay .i64)) w Z d e q.Ac)(aP:Sl AQ w Z f g q.Ap)(aQ:Sl Bm w Z h i q.AH)(aR:Sl Bl w Z j k q.Aw)(aS:Sl BA w Z m n q.Ao) a0(p:B6 aW q=some a0):
 Cw Tryz.prog 48 #[.agg (Am a b d e f g h i j k m n q).toArray] w (fun v w'=>Ext w w'∧Dg.R w' (zf Z w []) v a0):=by
 unfold B6 at p;refine AS (N:=10) Tryz.func48 rfl rfl (by simp) ?_;intro bA ha bB;have aX:=sA 0 ha;clear ha;have aU:Hp FN [] w [] w:=Hp.start (Cc.none w);have ⟨aA,aB,aC,aD,aE,aF⟩:=Cz aN aO aP aQ aR aS (Bh (Z:=Z) (L:=[]) w);refine Af<|Ad<|wE (fun st=>Ci (v:=.agg (Am a b d e f g h i j k m n q).toArray) (cs:=(Am a b d e f g h i j k m n q).toArray) (ee st aX) rfl) ?_;rintro _ w1 ⟨b1,rfl,z⟩;have a2:=aU.nb z;have a9:=aU.Cr z;refine wA (v:=.bool false) rfl<|Ag<|Ab<|Af<|Ad<|wD (fun st=>AR (l:=(Am a b d e f g h i j k m n q)) Cj (eR st) z.bk rfl rfl) ?_;have ⟨r,s,t,u,x,y⟩:=Cz aA aB aC aD aE aF (AP z);replace p:=bind_some p;obtain⟨aY,a3,p⟩:=p;refine wE (fun st=>Ar O6 (eR st) (CR (eR st)) (Tc aW q a b d e f g h i j k m n ZA _ r.all s.all t.all u.all x.all y.all aY a3)) ?_;rintro _ bC ⟨aM,rfl⟩;have aV:=a2.ext aM;refine wM (v:=.bool aY) rfl ?_;rcases Ak (aY) with o|o
 ·replace p:=Az p o;have aT:=(z.bk.ext aM);refine An rfl rfl (Ae rfl o) rfl (by decide) (fun st=>AR (l:=(Am a b d e f g h i j k m n q)) Cj (eR st) aT rfl rfl) ?_;have ⟨aG,aH,aI,aJ,aK,aL⟩:=Cz r s t u x y (Ah aM);replace p:=bind_some p;obtain⟨aZ,a4,p⟩:=p;refine Di rfl rfl (Ae rfl o) rfl (by decide) (fun st=>Ar NV (eR st) (CR (eR st)) (a116 aW q a b d e f g h i j k m n ZA _ aG.all aH.all aI.all aJ.all aK.all aL.all aZ a4)) ?_;rintro _ bD ⟨a5,rfl⟩;have a8:=aV.ext a5;refine An rfl rfl (Ae rfl o) rfl (by decide) (fun st=>Dj (eR st) (eR st))<|wD (fun st=>AY (v:=.bool (aZ==0)) (eR st) o (eR st))<|wA (v:=.bool (aZ==0)) rfl<|Ag<|Ab<|AI ?_;obtain rfl:=oi p;refine AJ rfl rfl ?_;exact⟨a8.Bc,rfl⟩
 ·replace p:=AA p o;refine Au (c:=false) rfl rfl (Ae rfl o) (by decide) rfl (by decide)<|Au (c:=false) rfl rfl (Ae rfl o) (by decide) rfl (by decide)<|Au (c:=false) rfl rfl (Ae rfl o) (by decide) rfl (by decide)<|wD (fun st=>BC (v:=.bool false) (eR st) o (eR st))<|wA (v:=.bool false) rfl<|Ag<|Ab<|AI ?_;obtain rfl:=oi p;refine AJ rfl rfl ?_;exact⟨aV.Bc,rfl⟩
end Go.Proofs.YtbhofkcbfblijaaGreat
end
section
namespace Go.Proofs.YtbhofkcbfblijaaGreat
open Go.RowKit Go.ChangeShapes Go.WideShapes
section
variable{H:Type}{enc:TypeId×Value→H}{P:Program}{W W':World}
variable{α:Type}{e:Gy α}{wf:α→Prop}{t:TypeId}{b0:Nat}{v:Value}{d:DataW H}{p:List MemPlace}{sp:Nat→Bool}
theorem Lz{k:IntKind}(a:P.underlying t=some (.int k))(b:Value.okWide P W .any b0 t v)(h:DataW.Trod enc P W 0 sp true t v d p):∃n,v=.int k n∧Iz k n:=by
 obtain⟨n,h1,_,_,c⟩:=open_int a b h;exact⟨n,h1,c⟩
end
theorem QC{x:Int}(h:Iz .u8 x):0≤x∧x<256:=by
 have h2:(decide (IntKind.u8.min≤x)&&decide (x≤IntKind.u8.max))=true:=h;rw[Bool.and_eq_true,decide_eq_true_eq,decide_eq_true_eq] at h2;have a:IntKind.u8.min=0:=by decide
 have b:IntKind.u8.max=255:=by decide
 omega
end Go.Proofs.YtbhofkcbfblijaaGreat
end
