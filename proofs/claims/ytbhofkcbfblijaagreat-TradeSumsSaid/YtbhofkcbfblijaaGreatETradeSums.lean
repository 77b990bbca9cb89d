import Derived.Test.YtbhofkcbfblijaaGreatCG5
import Derived.WalkKit
import Derived.KernelRfl
import Derived.WalkSpells
import Derived.WalkLawsBesides
import Derived.Maps.AppendAt
import Derived.OrdersIn
import Derived.RangeFuncIn
import Derived.RangeFuncLeaves
import Derived.RangeFuncRecord
import Derived.RangeFuncSeq
import Derived.Scope
import Derived.DeepKeys3
import Derived.Laws.CopyRow
import Derived.Laws.OwnMore
import Derived.Laws.MakeOwn
import Derived.Laws.IdiomCopy
import Derived.Sort.OwnSortedInts
import Derived.Lib.RowBridge
import Derived.Shelf.Sort.Plain
import Derived.Ground.Names2Prog
import Derived.Shelf.Slices.Clone
import Derived.Shelf.Slices.CompactI
import Derived.Shelf.Slices.In.SortNone
import Derived.Ground.SlgnProg
import Derived.Shelf.SlicesE.Clone
import Derived.ProofKit
import Derived.ChangeSame
import Derived.SizedLaws
import Derived.Deep.Slices
import Derived.JoinedOf
import Derived.Test.YtbhofkcbfblijaaGreatProg
import Derived.Test.YtbhofkcbfblijaaGreatRows
/-
  What the law TradeSums needs beside the base that several claims of this seat share: contracts, and the plain law.
-/
set_option linter.all false
section
namespace Go.Proofs.YtbhofkcbfblijaaGreat
open Go.RowKit
section
variable{P:Program}{a:Act}{w:World}{dst:Option Tmp}{ty:TypeId}{pos:String}{Ec:Array Edge}{g:Option (Nat×Bool)}
theorem HG{x y:Operand}{k:IntKind}{m n:Int}{t b:TypeId}(hx:a.eval x=.int k m)(c:a.eval y=.int k n)(h0:0≤m)(h1:1≤n):Eb P ⟨dst,.binOp .rem t x y b,ty,pos,Ec,g⟩ a w (fun u w'=>u=.int k (m%n)∧w'=w):=
 DJ (by
  have e:m.tmod n=m%n:=Int.tmod_eq_emod_of_nonneg h0;have hn:¬n=0:=by omega
  simp[execOp,hx,c,eqGuard,binOp,Op.intDiv,hn,e])
end
def rem(a b:Int):Option Int:=if 0≤a∧1≤b then some (a%b) else none
theorem IN{a b y:Int}(h:rem a b=some y):y=a%b∧0≤a∧1≤b:=by
 unfold rem at h;split at h
 ·exact⟨(Option.some.inj h).symm,by assumption⟩
 ·cases h
theorem Fu{α:Type}{a b:Int}{f:Int→Option α}{r:α}(h:(rem a b).bind f=some r):(0≤a∧1≤b)∧f (a%b)=some r:=by
 obtain⟨y,h1,h2⟩:=Option.bind_eq_some_iff.1 h;obtain⟨rfl,c⟩:=IN h1;exact⟨c,h2⟩
end Go.Proofs.YtbhofkcbfblijaaGreat
end
section
namespace Go.Proofs.YtbhofkcbfblijaaGreat
open Go.RowKit Go.WideShapes
def CY(a n:Int):Int:=a*2^n.toNat
def EV(a n:Int):Option Unit:=if 0≤n∧n<64∧-9223372036854775808≤a*2^n.toNat∧a*2^n.toNat≤9223372036854775807 then some () else none
theorem E3{α:Type}{a n:Int}{f:Unit→Option α}{r:α}(h:(EV a n).bind f=some r):(0≤n∧n<64∧fits (CY a n))∧f ()=some r:=by
 unfold EV at h;split at h
 ·rename_i h1;exact⟨⟨h1.1,h1.2.1,h1.2.2⟩,h⟩
 ·cases h
def ER(a n:Int):Int:=a/2^n.toNat
def Hn(a n:Int):Option Unit:=if 0≤n∧n<64 then some () else none
theorem GB{α:Type}{a n:Int}{f:Unit→Option α}{r:α}(h:(Hn a n).bind f=some r):(0≤n∧n<64)∧f ()=some r:=by
 unfold Hn at h;split at h
 ·exact⟨by assumption,h⟩
 ·cases h
def GG(a b:Int):Option Unit:=if (0≤a∧a≤9223372036854775807)∧(0≤b∧b≤9223372036854775807) then some () else none
theorem F5{α:Type}{a b:Int}{f:Unit→Option α}{r:α}(h:(GG a b).bind f=some r):((0≤a∧a≤9223372036854775807)∧(0≤b∧b≤9223372036854775807))∧f ()=some r:=by
 unfold GG at h;split at h
 ·exact⟨by assumption,h⟩
 ·cases h
def It(a b:Int):Int:=((a.toNat&&&b.toNat:Nat):Int)
section
variable{P:Program}{a:Act}{w:World}{dst:Option Tmp}{ty:TypeId}{pos:String}{Ec:Array Edge}{g:Option (Nat×Bool)}
theorem HL{x y:Operand}{m n:Int}{k:IntKind}{t b:TypeId}(hx:a.eval x=.int .i64 m)(c:a.eval y=.int k n)(h:0≤n∧n<64∧fits (CY m n)):Eb P ⟨dst,.binOp .shl t x y b,ty,pos,Ec,g⟩ a w (fun u w'=>u=.int .i64 (CY m n)∧w'=w):=
 DJ (by
  have hn:¬n<0:=by omega
  have hb:min n.toNat IntKind.i64.bits=n.toNat:=by
   have:IntKind.i64.bits=64:=rfl;omega
  have d:IntKind.i64.wrap (m*2^n.toNat)=m*2^n.toNat:=GO h.2.2;simp[execOp,hx,c,eqGuard,binOp,Op.shift,hn,hb,d,CY])
theorem J2{x y:Operand}{m n:Int}{k:IntKind}{t b:TypeId}(hx:a.eval x=.int .i64 m)(c:a.eval y=.int k n)(h:0≤n∧n<64):Eb P ⟨dst,.binOp .shr t x y b,ty,pos,Ec,g⟩ a w (fun u w'=>u=.int .i64 (ER m n)∧w'=w):=
 DJ (by
  have hn:¬n<0:=by omega
  have hb:min n.toNat IntKind.i64.bits=n.toNat:=by
   have:IntKind.i64.bits=64:=rfl;omega
  have d:m.fdiv (2^n.toNat)=m/2^n.toNat:=Int.fdiv_eq_ediv_of_nonneg m (Int.le_of_lt (Int.pow_pos (by decide)));simp[execOp,hx,c,eqGuard,binOp,Op.shift,hn,hb,d,ER])
theorem H0{m:Int}(h0:0≤m)(h1:m≤9223372036854775807):(BitVec.ofInt 64 m).toNat=m.toNat:=by
 rw[BitVec.toNat_ofInt];omega
theorem HX{k:Nat}(h:k≤9223372036854775807):IntKind.i64.wrap (k:Int)=k:=GO ⟨by omega,by omega⟩
theorem Qs{x y:Operand}{m n:Int}{t b:TypeId}(hx:a.eval x=.int .i64 m)(c:a.eval y=.int .i64 n)(h:(0≤m∧m≤9223372036854775807)∧(0≤n∧n≤9223372036854775807)):Eb P ⟨dst,.binOp .and t x y b,ty,pos,Ec,g⟩ a w (fun u w'=>u=.int .i64 (It m n)∧w'=w):=
 DJ (by
  have e:(BitVec.ofInt 64 m&&&BitVec.ofInt 64 n).toNat=m.toNat&&&n.toNat:=by rw[BitVec.toNat_and,H0 h.1.1 h.1.2,H0 h.2.1 h.2.2]
  have d:IntKind.i64.wrap ((m.toNat&&&n.toNat:Nat):Int)=((m.toNat&&&n.toNat:Nat):Int):=HX (Nat.le_trans Nat.and_le_left (by omega));have key:(Op.intBits .and .i64 m n).run P w=.ok (.int .i64 (It m n)) w:=by
   show(pure (Value.int .i64 (IntKind.i64.wrap ((BitVec.ofInt 64 m&&&BitVec.ofInt 64 n).toNat:Int))):Sem Value).run P w=_;rw[e,d];rfl
  simp[execOp,hx,c,eqGuard,binOp,key])
end
end Go.Proofs.YtbhofkcbfblijaaGreat
end
section
namespace Go.Proofs.YtbhofkcbfblijaaGreat
open Go.RowKit
theorem Y3{a0 a1 a2 r C:Prop}(h:a0∧a1∧a2∧r)(k:a0→a1→a2→r→C):C:=h.elim fun a h=>h.elim fun x1 h=>h.elim fun x2 h=>k a x1 x2 h
end Go.Proofs.YtbhofkcbfblijaaGreat
end
section
namespace Go.Proofs.YtbhofkcbfblijaaGreat
open Go.RowKit Go.WideShapes
def BG(c:Int):Nat→(List Int)→Int→Option ((List Int))
 |0,_,_=>none
 |d+1,b,a=>(E5 .u64 a).bind fun _=>(Hn c a).bind fun _=>cond (decide ((0:Int)<(ER c a))) ((E5 .u64 a).bind fun _=>(Hn c a).bind fun _=>(rem (ER c a) (2:Int)).bind fun _=>cond (((ER c a)%2)==1) ((EG (((b.length+[a].length:Nat):Int)≤140737488355328/8)).bind fun _=>(i64 (a+1)).bind fun _=>BG c d (b++[a]) (a+1)) ((i64 (a+1)).bind fun _=>BG c d b (a+1))) (some (b))
def CN(a:Nat)(b:Int):Option ((List Int)):=
 (BG b a ([]:List Int) (0:Int)).bind fun c=>some (c)
def BZ(a:Nat)(b:Aj)(c:Int):Option (Int):=
 (idx b.Ac c).bind fun x2=>(Ft a x2).bind fun d=>some (d)
def B6(a:Nat)(b:Aj):Option (Bool):=
 (Gf a b).bind fun c=>cond (c) ((F6 a b).bind fun d=>some (d==0)) (some (false))
def Em(c:Nat)(a:Aj)(b:Int):Option ((List Int)):=
 (E5 .i64 b).bind fun _=>(E5 .u64 (a.Ac.length:Int)).bind fun _=>(EV (1:Int) (a.Ac.length:Int)).bind fun _=>(i64 ((CY (1:Int) (a.Ac.length:Int))-1)).bind fun _=>(GG b ((CY (1:Int) (a.Ac.length:Int))-1)).bind fun _=>(CN c (It b ((CY (1:Int) (a.Ac.length:Int))-1))).bind fun d=>some (d)
end Go.Proofs.YtbhofkcbfblijaaGreat
end
section
namespace Go.Proofs.YtbhofkcbfblijaaGreat
theorem I7{β:Type}{a b:Int}{f:Int→Option β}(h0:0≤a)(h1:1≤b):(rem a b).bind f=f (a%b):=bd (if_pos ⟨h0,h1⟩)
theorem PC{β:Type}{n:Int}{b:Nat}{f:Unit→Option β}(h0:0≤n)(h1:n*b≤140737488355328)(h2:n≤140737488355328):(R9 n b).bind f=f ():=bd (if_pos ⟨h0,h1,h2⟩)
section
variable{K:Nat}(hK:1000≤K)
include hK
theorem KM{σ:Type}(cb:σ→Int→Option (Bool×σ))(p:List Int)(a:p.length≤900)(s:σ):J0 K cb p s=run cb p s:=
 MR (F:=Gh (fun(st:σ) (x:Int)=>(IU K cb x st).bind fun r=>some (r.1,r.2)) p) (fun _ _ _=>rfl) a hK s
end
theorem Jy(K:Nat){r:AN}(h:EU r):GJ K r=some (BI r):=Jl K h
section
variable{K:Nat}(hK:1000≤K)
include hK
theorem OJ(a b:Int):GW K [a,b]=some (min a b):=by
 unfold GW;rw[bd (RG hK a b)]
theorem Jp(r:AN)(n:Int):FH K r n=some ⟨min r.Lo n,max r.Hi n⟩:=by
 unfold FH;rw[bd (OJ hK _ _)]
end
def Er:List AN→Int→List Int
 |[],_=>[]
 |r::rs,n=>(r.Lo+n%BI r)::Er rs (n/BI r)
namespace OkC
variable{c:AV}(h:OkC c)
include h
end OkC
theorem FA(r:AN)(l:List AN):Dm (r::l)=BI r*Dm l:=by
 have:∀(l:List AN) (s:Int),l.foldl (fun n r=>n*BI r) s=s*l.foldl (fun n r=>n*BI r) 1:=by
  intro l
  induction l with
  |nil=>intro s;simp
  |cons r l ih=>intro s;rw[List.foldl_cons,List.foldl_cons,ih,ih (1*BI r),Int.one_mul,Int.mul_assoc]
 unfold Dm;rw[List.foldl_cons,this,Int.one_mul]
theorem G8:∀{rs:List AN} {l:List Int},(∀r∈rs,EU r)→DE rs l=true→∃n:Nat,(n:Int)<Dm rs∧Er rs (n:Int)=l
 |[],[],_,_=>⟨0,by simp[Dm],rfl⟩
 |[],_::_,_,h=>by cases h
 |_::_,[],_,h=>by cases h
 |r::rs,x::xs,hr,h=>by
  rw[DE,Bool.and_eq_true] at h;obtain⟨n,hn,e⟩:=G8 (fun r b=>hr r (List.mem_cons_of_mem _ b)) h.2;have h1:=Dv.1 h.1;have h2:=D0 (hr r (List.mem_cons_self ..));have a:0≤x-r.Lo∧x-r.Lo<BI r:=by unfold BI;omega
  have c:0≤BI r*(n:Int):=Int.mul_nonneg (by omega) (by omega);refine⟨(x-r.Lo+BI r*n).toNat,?_,?_⟩
  ·rw[FA];have:BI r*((n:Int)+1)≤BI r*Dm rs:=Int.mul_le_mul_of_nonneg_left (by omega) (by omega);rw[Int.mul_add] at this;omega
  ·rw[Int.toNat_of_nonneg (by omega),Er,Int.add_mul_emod_self_left,Int.emod_eq_of_lt a.1 a.2,Int.add_mul_ediv_left _ _ (by omega),Int.ediv_eq_zero_of_lt a.1 a.2,Int.zero_add,e]
   congr 1;omega
def Bo (c:AV):List (List Int):=((List.range (Dm c.AF).toNat).map fun n:Nat=>Er c.AF (n:Int)).filter (BJ c)
theorem CV{c:AV}(a:OkC c){l:List Int}:l∈Bo c↔BJ c l=true:=by
 unfold Bo;rw[List.mem_filter,List.mem_map];refine⟨fun h=>h.2,fun h=>⟨?_,h⟩⟩;have h1:=h;unfold BJ at h1;rw[Bool.and_eq_true] at h1;obtain⟨n,hn,e⟩:=G8 a.ok h1.1;exact⟨n,List.mem_range.2 (by omega),e⟩
section
variable{K:Nat}(hK:1000≤K)
include hK
end
end Go.Proofs.YtbhofkcbfblijaaGreat
end
section
namespace Go.Proofs.YtbhofkcbfblijaaGreat
namespace OkT
variable{t:Aj}(h:OkT t)
include h
end OkT
section
variable{K:Nat}(hK:1000≤K)
include hK
theorem Ih{t:Aj}(a:OkT t){k:Nat}(hk:k<t.Ac.length):BZ K t (k:Int)=some t.Ac[k].sum:=by
 have h1:=a.Hc _ (List.getElem_mem hk);have:=a.hl;unfold BZ;rw[BS hk,bd (MO hK _ (by omega) (fun x hx=>by have:=h1.2.1 x hx;omega))]
end
section
variable{K:Nat}(hK:1000≤K)
include hK
end
end Go.Proofs.YtbhofkcbfblijaaGreat
end
section
namespace Go.Proofs.YtbhofkcbfblijaaGreat
theorem FB{σ α:Type}(cb:σ→α→Option (Bool×σ))(a:List α):∀(b:List α) (s:σ),run cb (b++a) s=(run cb b s).bind fun r=>cond r.1 (run cb a r.2) (some (false,r.2))
 |[],s=>rfl
 |x::l,s=>by
  simp only[List.cons_append,run];cases cb s x with
  |none=>rfl
  |some r=>
   simp only[Option.bind_some];cases h:r.1 with
   |false=>simp
   |true=>simpa using FB cb a l r.2
def CE:List AN→List (List Int)
 |[]=>[[]]
 |r::rs=>(List.range' 0 (BI r).toNat).flatMap fun n:Nat=>(CE rs).map fun x=>(r.Lo+(n:Int))::x
theorem Fh:∀{rs:List AN} {l:List Int},(∀r∈rs,EU r)→(l∈CE rs↔DE rs l=true)
 |[],[],_=>by simp[CE,DE]
 |[],_::_,_=>by simp[CE,DE]
 |r::rs,[],_=>by simp[CE,DE]
 |r::rs,x::xs,h=>by
  have h1:=h r (List.mem_cons_self ..);have h2:=D0 h1;rw[CE,List.mem_flatMap,DE,Bool.and_eq_true,←Fh (fun r hr=>h r (List.mem_cons_of_mem _ hr)),Dv];constructor
  ·rintro⟨n,hn,hx⟩;obtain⟨y,a,e⟩:=List.mem_map.1 hx;injection e with c b
   subst b;rw[List.mem_range'_1] at hn;refine⟨?_,a⟩;unfold BI at hn h2;omega
  ·rintro⟨hx,a⟩;refine⟨(x-r.Lo).toNat,?_,List.mem_map.2 ⟨xs,a,?_⟩⟩
   ·rw[List.mem_range'_1];unfold BI;omega
   ·congr 1;omega
theorem Gq:∀{rs:List AN},(∀r∈rs,EU r)→((CE rs).length:Int)=Dm rs
 |[],_=>rfl
 |r::rs,h=>by
  have h2:=D0 (h r (List.mem_cons_self ..));have a:=Gq (rs:=rs) (fun r hr=>h r (List.mem_cons_of_mem _ hr));rw[FA,←a,CE,List.length_flatMap];have:∀(n i:Nat),((List.range' i n).map fun n:Nat=>((CE rs).map fun x=>(r.Lo+(n:Int))::x).length).sum=n*(CE rs).length:=by
   intro n
   induction n with
   |zero=>intro i;simp
   |succ n ih=>intro i;rw[List.range'_succ,List.map_cons,List.sum_cons,ih,List.length_map,Nat.succ_mul,Nat.add_comm]
  rw[this,Int.natCast_mul,Int.toNat_of_nonneg (by omega)]
theorem take_set{out:List Int}{i:Nat}(v:Int)(h:i<out.length):(out.set i v).take (i+1)=out.take i++[v]:=by
 rw[List.take_succ_eq_append_getElem (by simpa using h),List.take_set_of_le (Nat.le_refl _),List.getElem_set_self]
section
variable{K:Nat}(hK:1000≤K)
include hK
theorem Gr{σ:Type}(cb:σ→List Int→Option (Bool×σ))(d:Int→List AN→List Int→σ→Option (Bool×List Int×σ))(l:List AN)(hl:l.length≤100)(i:Nat)(hi:i<l.length)(hr:EU l[i])
  (ih:∀(out:List Int) (s:σ) (b:Bool) (s':σ),out.length=l.length→run cb ((CE (l.drop (i+1))).map fun x=>out.take (i+1)++x) s=some (b,s')→∃c,c.length=l.length∧c.take (i+1)=out.take (i+1)∧d ((i+1:Nat):Int) l out s=some (b,c,s')):
  ∀(e m n:Nat) (out:List Int) (s:σ) (b:Bool) (s':σ),BI l[i]=(n:Int)+e→e<m→out.length=l.length→
   run cb ((List.range' n e).flatMap fun n:Nat=>(CE (l.drop (i+1))).map fun x=>out.take i++(l[i].Lo+(n:Int))::x) s=some (b,s')→
   ∃c,c.length=l.length∧c.take i=out.take i∧(Dd d (i:Int) l (BI l[i]) m (n:Int) out s).bind (fun z=>Sum.elim (fun q=>some (q.1,q.2.1,q.2.2)) (fun q=>some (true,q.1,q.2)) z)=some (b,c,s')
 |e,0,n,out,s,b,s',h,hm,_,_=>by omega
 |0,m+1,n,out,s,b,s',h,hm,j,a=>by
  have:(true,s)=(b,s'):=Option.some.inj a;injection this with k o
  subst k;subst o;refine⟨out,j,rfl,?_⟩;rw[Dd.eq_2,cf (df (by omega))];rfl
 |e+1,m+1,n,out,s,b,s',h,hm,j,a=>by
  have aA:=D0 hr;have t:=hr;unfold EU at t;have g:i<out.length:=by omega
  rw[List.range'_succ,List.flatMap_cons,FB] at a;have u:∀x:List Int,out.take i++(l[i].Lo+(n:Int))::x=(out.set i (l[i].Lo+(n:Int))).take (i+1)++x:=fun x=>by rw[take_set _ g,List.append_assoc];rfl
  simp only[u] at a;cases h1:run cb ((CE (l.drop (i+1))).map fun x=>(out.set i (l[i].Lo+(n:Int))).take (i+1)++x) s with
  |none=>rw[h1] at a;cases a
  |some r=>
   obtain⟨b1,s1⟩:=r;rw[h1,Option.bind_some] at a;obtain⟨f,g1,g2,g3⟩:=ih (out.set i (l[i].Lo+(n:Int))) s b1 s1 (by rw[List.length_set];exact j) h1;have gt:f.take i=out.take i:=by
    have:=congrArg (List.take i) g2;rw[List.take_take,List.take_take,Nat.min_eq_left (by omega),List.take_set_of_le (Nat.le_refl _)] at this;exact this
   rw[Dd.eq_2,ct (dt (by omega)),BS hi,AZ (by omega) (by omega),BS g,AZ (by omega) (by omega),CZ i,Int.toNat_natCast,bd g3];cases b1 with
   |false=>
    have:(false,s1)=(b,s'):=Option.some.inj a;injection this with k o
    subst k;subst o;exact⟨f,g1,gt,rfl⟩
   |true=>
    rw[nt,AZ (by omega) (by omega),CZ n];simp only[←u] at a;rw[←gt] at a;obtain⟨p,v,w,y⟩:=Gr cb d l hl i hi hr ih e m (n+1) f s1 b s' (by omega) (by omega) g1 a;exact⟨p,v,w.trans gt,y⟩
theorem G9{σ:Type}(cb:σ→List Int→Option (Bool×σ))(l:List AN)(hl:l.length≤100)(m:∀r∈l,EU r):∀(d k i:Nat) (out:List Int) (s:σ) (b:Bool) (s':σ),l.length=i+d→d<k→out.length=l.length→
  run cb ((CE (l.drop i)).map fun x=>out.take i++x) s=some (b,s')→∃c,c.length=l.length∧c.take i=out.take i∧CQ K cb k (i:Int) l out s=some (b,c,s')
 |d,0,i,out,s,b,s',h,hk,_,_=>by omega
 |0,k+1,i,out,s,b,s',h,hk,f,a=>by
  rw[List.drop_eq_nil_of_le (by omega)] at a;have e:(CE []).map (fun x=>out.take i++x)=[out]:=by
   show[out.take i++[]]=[out];rw[List.append_nil,List.take_of_length_le (by omega)]
  rw[e] at a;refine⟨out,f,rfl,?_⟩;rw[CQ.eq_2,ct (EO (by omega))];simp only[run] at a;cases h1:cb s out with
  |none=>rw[h1] at a;cases a
  |some r=>
   obtain⟨b1,s1⟩:=r;rw[h1,Option.bind_some] at a;cases b1 with
   |true=>
    have:(true,s1)=(b,s'):=Option.some.inj a;injection this with g j
    subst g;subst j;rfl
   |false=>
    have:(false,s1)=(b,s'):=Option.some.inj a;injection this with g j
    subst g;subst j;rfl
 |d+1,k+1,i,out,s,b,s',h,hk,f,a=>by
  have hi:i<l.length:=by omega
  have hr:=m _ (List.getElem_mem hi);have n:=D0 hr;rw[List.drop_eq_getElem_cons hi,CE,List.map_flatMap] at a;simp only[List.map_map] at a;rw[CQ.eq_2,cf (Gw (by omega)),BS hi,bd (Jy K hr)];have:=Gr hK cb (CQ K cb k) l hl i hi hr (fun out s b s' h1 h2=>G9 cb l hl m d k (i+1) out s b s' (by omega) (by omega) h1 h2) (BI l[i]).toNat K 0 out s b s' (by omega) (by omega) f a;rw[Int.natCast_zero] at this;exact this
theorem Jz{σ:Type}(cb:σ→List Int→Option (Bool×σ))(l:List AN)(hl:l.length≤100)(a:∀r∈l,EU r)(s:σ)(b:Bool)(s':σ)(h:run cb (CE l) s=some (b,s')):EY K cb l s=some s':=by
 unfold EY;obtain⟨c,_,_,h2⟩:=G9 hK cb l hl a l.length K 0 (List.replicate (l.length:Int).toNat 0) s b s' (by omega) (by omega) (by simp) (by simpa using h);rw[Int.natCast_zero] at h2;rw[PC (by omega) (by omega) (by omega),bd h2]
end
theorem JA:∀{a b:List Int},a.length=b.length→a.length≤3→arr a=arr b→a=b
 |[],[],_,_,_=>rfl
 |[a],[b],_,_,h=>by injection h with h1;exact congrArg (fun x=>[x]) h1
 |[a,a2],[b,b2],_,_,h=>by
  injection h with h1 h2
  rw[show a=b from h1,show a2=b2 from h2]
 |[a,a2,a3],[b,b2,b3],_,_,h=>by
  injection h with h1 h2 c
  rw[show a=b from h1,show a2=b2 from h2,show a3=b3 from c]
 |_::_::_::_::_,_,_,h,_=>by simp at h
 |[],_::_,h,_,_=>by cases h
 |[_],[],h,_,_=>by cases h
 |[_],_::_::_,h,_,_=>by simp at h
 |[_,_],[],h,_,_=>by cases h
 |[_,_],[_],h,_,_=>by simp at h
 |[_,_],_::_::_::_,h,_,_=>by simp at h
 |[_,_,_],[],h,_,_=>by cases h
 |[_,_,_],[_],h,_,_=>by simp at h
 |[_,_,_],[_,_],h,_,_=>by simp at h
 |[_,_,_],_::_::_::_::_,h,_,_=>by simp at h
theorem H2 {t:Aj} (hk:t.Ac.length≤3) {l l':List Int} (h:Av t l=Av t l'):∀w∈t.Ac,CI l w=CI l' w:=by
 have e:=JA (by simp) (by simpa using hk) h;intro w hw;obtain⟨i,hi,rfl⟩:=List.getElem_of_mem hw;have:=congrArg (fun x=>x.getD i 0) e;simpa[List.getElem?_eq_getElem hi] using this
theorem F8{t:Aj}(hk:t.Ac.length≤3){l l':List Int}(h:Av t l=Av t l'):As t l=As t l':=by
 unfold As;exact List.map_congr_left fun w hw=>by rw[H2 hk h w hw]
theorem KN{x y:Be}(h:[x.a0,x.a1,x.a2]=[y.a0,y.a1,y.a2]):x=y:=by cases x;cases y;simpa using h
structure Tr (t:Aj) (L:List (List Int)):Prop where
 Jq:∀l∈L,BJ t.C l=true
 all:∀l,BJ t.C l=true→∃l'∈L,Av t l'=Av t l
 len:L.length≤150
section
variable{K:Nat}(hK:1000≤K)
include hK
theorem Gs {t:Aj} (f:OkT t):∀(X:List (List Int)) (a:List (List Int)),(∀l∈X,DE t.Al l=true)→a.length+X.length≤5000→
  ∃L:List (List Int),run (fun(st:List Be) (x:List Int)=>CT K t st x) X (a.map (Av t))=some (true,L.map (Av t))∧(∀l∈L,l∈a∨l∈X∧BJ t.C l=true)∧(∀l∈a,l∈L)∧(∀l∈X,BJ t.C l=true→∃l'∈L,Av t l'=Av t l)∧L.length≤a.length+X.length
 |[],a,_,_=>⟨a,rfl,fun l h=>.inl h,fun l h=>h,fun l h=>(nomatch h),by simp⟩
 |x::X,a,i,hlen=>by
  have hx:=i x (List.mem_cons_self ..);have u:=f.hl;have v:=HA hx;rw[List.length_cons] at hlen;have n:Fs K ⟨t.Al,t.Ac,t.Ap⟩ x=some (BJ t.C x):=IB hK (c:=t.C) f.c (by omega)
  
  have step:∃b:List (List Int),CT K t (a.map (Av t)) x=some (true,b.map (Av t))∧(∀l∈b,l∈a∨l=x∧BJ t.C x=true)∧(∀l∈a,l∈b)∧(BJ t.C x=true→∃l'∈b,Av t l'=Av t x)∧b.length≤a.length+1:=by
   unfold CT;rw[bd n];cases g:BJ t.C x with
   |false=>exact⟨a,by rw[nf],fun l h=>.inl h,fun l h=>h,fun h=>(nomatch h),by omega⟩
   |true=>
    have d:∃b:List (List Int),(some (true,a.map (Av t)++[Av t x]):Option (Bool×List Be))=some (true,b.map (Av t))∧(∀l∈b,l∈a∨l=x∧true=true)∧(∀l∈a,l∈b)∧(true=true→∃l'∈b,Av t l'=Av t x)∧b.length≤a.length+1:=
     ⟨a++[x],by simp,fun l h=>by simpa using h,fun l h=>by simp[h],fun _=>⟨x,by simp,rfl⟩,by simp⟩
    rw[nt,bd (KI hK f hx)]
    by_cases h0:a.length=0
    ·rw[ct (EO (by simp[h0])),Dt (by simp;omega)];exact d
    ·rw[cf (Gw (by simp;simpa using h0)),AZ (by simp;omega) (by simp;omega)];have e:(((a.map (Av t)).length:Int))-1=((a.length-1:Nat):Int):=by rw[List.length_map];omega
     have j:a.length-1<(a.map (Av t)).length:=by rw[List.length_map];omega
     rw[e,BS j];cases k:([((a.map (Av t))[a.length-1]).a0,((a.map (Av t))[a.length-1]).a1,((a.map (Av t))[a.length-1]).a2] !=[(Av t x).a0,(Av t x).a1,(Av t x).a2]) with
     |true=>rw[ct rfl,Dt (by simp;omega)];exact d
     |false=>
      rw[cf rfl];refine⟨a,rfl,fun l h=>.inl h,fun l h=>h,fun _=>⟨a[a.length-1]'(by omega),List.getElem_mem _,?_⟩,by omega⟩;have h1:[((a.map (Av t))[a.length-1]).a0,((a.map (Av t))[a.length-1]).a1,((a.map (Av t))[a.length-1]).a2]=[(Av t x).a0,(Av t x).a1,(Av t x).a2]:=by simpa using k
      rw[List.getElem_map] at h1;exact KN h1
  obtain⟨b,s1,s2,o,p,w⟩:=step;obtain⟨L,q,r,m,s,y⟩:=Gs f X b (fun l hl=>i l (List.mem_cons_of_mem _ hl)) (by omega);refine⟨L,by rw[run,bd s1,ct rfl];exact q,?_,fun l hl=>m l (o l hl),?_,by rw[List.length_cons];omega⟩
  ·intro l hl;rcases r l hl with h|h
   ·rcases s2 l h with h|⟨rfl,h⟩
    ·exact .inl h
    ·exact .inr ⟨List.mem_cons_self ..,h⟩
   ·exact .inr ⟨List.mem_cons_of_mem _ h.1,h.2⟩
  ·intro l hl g;rcases List.mem_cons.1 hl with rfl|hl
   ·obtain⟨l',h1,h2⟩:=p g;exact⟨l',m l' h1,h2⟩
   ·exact s l hl g
theorem KO{t:Aj}(a:OkT t):∃L,Tr t L∧Ej K t=some (wk t (L.map (Av t)) []):=by
 have j:=a.hl;have hlen:((CE t.Al).length:Int)=Dm t.Al:=Gq a.c.ok;have b:=a.many;obtain⟨L,d,e,_,f,i⟩:=Gs hK a (CE t.Al) [] (fun l hl=>(Fh (rs:=t.Al) a.c.ok).1 hl) (by simp;omega);refine⟨L,⟨fun l hl=>?_,fun l hl=>f l ((Fh (rs:=t.Al) a.c.ok).2 (HW hl)) hl,by simp at i;omega⟩,?_⟩
 ·rcases e l hl with h|h
  ·cases h
  ·exact h.2
 ·unfold Ej;have g:=Jz hK _ t.Al (by omega) a.c.ok _ true _ d;rw[List.map_nil] at g;rw[bd (NP hK a),bd (Nn hK t (by omega)),bd g];rfl
def DU (t:Aj) (out:List Int) (L:List (List Int)):List (Be×Be):=(L.filter fun l=>BB (As t l) out 0 t.Ao).map fun l=>(Av t l,arr (As t l))
theorem Fi{σ:Type}{t:Aj}(f:OkT t){out:List Int}(o:out.length≤900)(cb:σ→(Be×Be)→Option (Bool×σ))(L:List (List Int))(u:L.length≤150)(c:List (List Int×Int)):∀(d n i:Nat) (m:List (List Int×Int)) (s:σ) (b:Bool) (s':σ),L.length=i+d→d<n→Dr t m→
  run cb (DU t out (L.drop i)) s=some (b,s')→∃g,Dr t g∧(CB cb K (wk t (L.map (Av t)) c) out n (i:Int) m s).bind (fun z=>Sum.elim (fun q=>some (q.1,q.2)) (fun q=>some (q.1,q.2)) z)=some (g,s')
 |d,0,i,m,s,b,s',h,hn,_,_=>by omega
 |0,n+1,i,m,s,b,s',h,hn,hm,a=>by
  have e:((wk t (L.map (Av t)) c).Dq.length:Int)=L.length:=by show((List.map _ _).length:Int)=_;simp
  rw[List.drop_eq_nil_of_le (by omega)] at a;have:(true,s)=(b,s'):=Option.some.inj a;injection this with x j
  subst j;refine⟨m,hm,?_⟩;rw[CB.eq_2,cf (df (by omega))];rfl
 |d+1,n+1,i,m,s,b,s',h,hn,hm,a=>by
  have e:((wk t (L.map (Av t)) c).Dq.length:Int)=L.length:=by show((List.map _ _).length:Int)=_;simp
  have v:=f.kl;have y:=f.nl;have hi:i<L.length:=by omega
  have l:i<(wk t (L.map (Av t)) c).Dq.length:=by show i<(List.map _ _).length;simpa using hi
  have j:(wk t (L.map (Av t)) c).Dq[i]'l=Av t L[i]:=by simp[wk]
  obtain⟨p,k,g1⟩:=MC hK f (L.map (Av t)) hm L[i];have g2:DV K t (arr (As t L[i])) out=some (BB (As t L[i]) out 0 t.Ao):=No hK t (by rw[Df];exact v) (fun n hn=>by rw[Df];exact(f.note n hn).1) (by omega) o;rw[CB.eq_2,ct (dt (by omega)),BS l,j];show∃g,Dr t g∧(((FK K (wk t (L.map (Av t)) m) (Av t L[i])).bind _).bind _)=_;rw[bd g1];show∃g,Dr t g∧(((DV K t (arr (As t L[i])) out).bind _).bind _)=_;rw[bd g2];unfold DU at a;rw[List.drop_eq_getElem_cons hi,List.filter_cons] at a;cases hr:BB (As t L[i]) out 0 t.Ao with
  |false=>
   rw[hr,if_neg (by simp)] at a;rw[cf rfl,AZ (by omega) (by omega),CZ i];exact Fi f o cb L u c d n (i+1) p s b s' (by omega) (by omega) k a
  |true=>
   rw[hr,if_pos rfl,List.map_cons,run] at a;rw[ct rfl];cases w:cb s (Av t L[i],arr (As t L[i])) with
   |none=>rw[w] at a;cases a
   |some r=>
    obtain⟨b1,s1⟩:=r;rw[w,Option.bind_some] at a;rw[Option.bind_some];cases b1 with
    |false=>
     have:(false,s1)=(b,s'):=Option.some.inj a;injection this with x j
     subst j;exact⟨p,k,rfl⟩
    |true=>
     rw[nt,AZ (by omega) (by omega),CZ i];exact Fi f o cb L u c d n (i+1) p s1 b s' (by omega) (by omega) k a
theorem Gt{σ:Type}{t:Aj}(c:OkT t){out:List Int}(d:out.length≤900)(cb:σ→(Be×Be)→Option (Bool×σ)){L:List (List Int)}(e:L.length≤150){m:List (List Int×Int)}(hm:Dr t m){s:σ}{b:Bool}{s':σ}
  (h:run cb (DU t out L) s=some (b,s')):∃a,Dr t a∧FG K cb (wk t (L.map (Av t)) m) out s=some (a,s'):=
 Fi hK c d cb L e m L.length K 0 m s b s' (by omega) (by omega) hm (by rw[List.drop_zero];exact h)
theorem GN{t:Aj}(c:OkT t){out:List Int}(d:out.length≤900){L:List (List Int)}(f:L.length≤150){m:List (List Int×Int)}(hm:Dr t m):
  ∃a,Dr t a∧BM K (wk t (L.map (Av t)) m) out=some (L.any fun l=>BB (As t l) out 0 t.Ao,a):=by
 have hr:∃b,run (fun(st:Bool×Bool) (x:Be×Be)=>cond st.2 none (Ff st.1 x)) (DU t out L) (false,false)=some (b,(L.any fun l=>BB (As t l) out 0 t.Ao,L.any fun l=>BB (As t l) out 0 t.Ao)):=by
  have e:(L.any fun l=>BB (As t l) out 0 t.Ao)= !(DU t out L).isEmpty:=by
   unfold DU;rw[Bool.eq_iff_iff,List.any_eq_true];simp
  rw[e];cases DU t out L with
  |nil=>exact⟨true,rfl⟩
  |cons x X=>exact⟨false,rfl⟩
 obtain⟨b,hr⟩:=hr;obtain⟨a,h1,h2⟩:=Gt hK c d _ f hm hr;refine⟨a,h1,?_⟩;unfold BM;rw[bd h2];cases L.any fun l=>BB (As t l) out 0 t.Ao<;>rfl
end
theorem RV(a b:Nat):It (a:Int) (b:Int)=((a&&&b:Nat):Int):=by unfold It;rw[Int.toNat_natCast,Int.toNat_natCast]
theorem KL{β:Type}{a b:Int}{f:Unit→Option β}(h0:0≤a∧a≤9223372036854775807)(h1:0≤b∧b≤9223372036854775807):(GG a b).bind f=f ():=bd (if_pos ⟨h0,h1⟩)
def CF(t:Aj)(l:List Int):Bool:=BJ t.C l&&BB (As t l) [] 0 t.Ao
def Bd(t:Aj):List (List Int):=(Bo t.C).filter fun l=>BB (As t l) [] 0 t.Ao
section
variable{K:Nat}(hK:1000≤K)
include hK
end
section
variable{K:Nat}(hK:1000≤K)
include hK
theorem MN(t:Aj):B6 K t=some (DP t&&decide (CP t=0)):=by
 unfold B6;rw[bd (O5 hK t)];cases h:DP t with
 |false=>rw[cf rfl,Bool.false_and]
 |true=>
  rw[ct rfl,bd (LQ hK t (E9 h)),Bool.true_and];try rfl
end
def B5 (t:Aj):Int:=if CP t≠0 then CP t else if Bo t.C=[] then 11 else 0
def BQ(t:Aj):Int:=if B5 t≠0 then B5 t else if Bd t=[] then 9 else 0
theorem Cq{t:Aj}(h:B5 t=0):CP t=0∧Bo t.C≠[]:=by
 unfold B5 at h;split at h
 ·rename_i h1;exact absurd h h1
 rename_i h1
 split at h
 ·cases h
 exact⟨Decidable.byContradiction h1,‹_›⟩
theorem Ds{t:Aj}(h:BQ t=0):B5 t=0∧Bd t≠[]:=by
 unfold BQ at h;split at h
 ·rename_i h1;exact absurd h h1
 rename_i h1
 split at h
 ·cases h
 exact⟨Decidable.byContradiction h1,‹_›⟩
theorem Jr{α:Type}(l:List α):((l.length:Int)==0)=true↔l=[]:=by
 rw[beq_iff_eq];constructor
 ·intro h;exact List.eq_nil_of_length_eq_zero (by omega)
 ·rintro rfl;rfl
theorem IC{α:Type}{l:List α}(h:l≠[]):((l.length:Int)==0)=false:=by
 rw[Bool.eq_false_iff];exact fun g=>h ((Jr l).1 g)
section
variable{K:Nat}(hK:1000≤K)
include hK
theorem H3{t:Aj}(a:OkT t){L:List (List Int)}(b:Tr t L):L=[]↔Bo t.C=[]:=by
 constructor
 ·rintro rfl;refine List.eq_nil_iff_forall_not_mem.2 fun l hl=>?_;obtain⟨_,h,_⟩:=b.all l ((CV a.c).1 hl);cases h
 ·intro h;refine List.eq_nil_iff_forall_not_mem.2 fun l hl=>?_;have:=(CV a.c).2 (b.Jq l hl);rw[h] at this;cases this
theorem JJ{t:Aj}(a:OkT t){L:List (List Int)}(b:Tr t L)(p:List Int→Bool)(d:∀l l',Av t l=Av t l'→p l=p l'):L.any p=(Bo t.C).any p:=by
 rw[Bool.eq_iff_iff,List.any_eq_true,List.any_eq_true];constructor
 ·rintro⟨l,hl,h⟩;exact⟨l,(CV a.c).2 (b.Jq l hl),h⟩
 ·rintro⟨l,hl,h⟩;obtain⟨l',h1,h2⟩:=b.all l ((CV a.c).1 hl);exact⟨l',h1,by rw[d l' l h2];exact h⟩
theorem G3 {t:Aj} (h:DP t=true) (a:Bool):
  (B5 t=0∧a=true∧∃L,Tr t L∧L≠[]∧CX K t a=some (some (wk t (L.map (Av t)) []),0))∨
  (¬(B5 t=0∧a=true)∧CX K t a=some (none,if CP t=0∧a=false then 2 else B5 t)):=by
 unfold CX;rw[bd (Iq hK t (E9 h))]
 by_cases h0:CP t=0
 ·have b:=D6 h h0;rw[cf (E6 h0)];cases a with
  |false=>exact .inr ⟨by simp,by rw[nf,if_pos ⟨h0,rfl⟩]⟩
  |true=>
   obtain⟨L,c,e⟩:=KO hK b;rw[nt,bd e];have d:(wk t (L.map (Av t)) []).Dq=L.map (Av t):=rfl;rw[d,List.length_map]
   by_cases h1:L=[]
   ·have h2:=(H3 hK b c).1 h1;refine .inr ⟨by rintro⟨f,_⟩;exact(Cq f).2 h2,?_⟩;rw[ct ((Jr _).2 h1),if_neg (by simp)];unfold B5;rw[if_neg (by simp[h0]),if_pos h2]
   ·have h2:Bo t.C≠[]:=fun g=>h1 ((H3 hK b c).2 g);refine .inl ⟨?_,rfl,L,c,h1,by rw[cf (IC h1)]⟩;unfold B5;rw[if_neg (by simp[h0]),if_neg h2]
 ·rw[ct (Fy h0)];refine .inr ⟨fun g=>h0 (Cq g.1).1,?_⟩;rw[if_neg (by simp[h0])];unfold B5;rw[if_pos h0]
theorem Hj{t:Aj}(a:OkT t)(out:List Int)(l l':List Int)(h:Av t l=Av t l'):BB (As t l) out 0 t.Ao=BB (As t l') out 0 t.Ao:=by
 rw[F8 a.kl h]
theorem Hl{t:Aj}(h:DP t=true)(c:Bool):
  (BQ t=0∧c=true∧∃L m,Tr t L∧Dr t m∧CD K t c=some (some (wk t (L.map (Av t)) m),0))∨
  (¬(BQ t=0∧c=true)∧CD K t c=some (none,if CP t=0∧c=false then 2 else BQ t)):=by
 unfold CD;rcases G3 hK h c with⟨h0,n,L,i,d,e⟩|⟨h0,e⟩
 ·have j:=D6 h (Cq h0).1;rw[bd e];obtain⟨m,hm,g⟩:=GN hK j (out:=[]) (by simp) i.len (Ky t);have o:(L.any fun l=>BB (As t l) [] 0 t.Ao)=(Bo t.C).any fun l=>BB (As t l) [] 0 t.Ao:=JJ hK j i _ (Hj hK j [])
  by_cases h1:Bd t=[]
  ·have f:BQ t=9:=by unfold BQ;rw[if_neg (by simp[h0]),if_pos h1]
   refine .inr ⟨by rw[f];simp,?_⟩;have k:((Bo t.C).any fun l=>BB (As t l) [] 0 t.Ao)=false:=by
    rw[Bool.eq_false_iff];intro hh;obtain⟨l,hl,hr⟩:=List.any_eq_true.1 hh;have:l∈Bd t:=List.mem_filter.2 ⟨hl,hr⟩;rw[h1] at this;cases this
   show(cond ((0:Int) !=0) (some ((none:Option DO),(0:Int))) ((BM K (wk t (L.map (Av t)) []) []).bind _)=_);rw[cf (E6 rfl),bd g,o,k,nf,f,n,if_neg (by simp)]
  ·have f:BQ t=0:=by unfold BQ;rw[if_neg (by simp[h0]),if_neg h1]
   have k:((Bo t.C).any fun l=>BB (As t l) [] 0 t.Ao)=true:=by
    obtain⟨l,hl⟩:=List.exists_mem_of_ne_nil _ h1;obtain⟨a,b⟩:=List.mem_filter.1 hl;exact List.any_eq_true.2 ⟨l,a,b⟩
   refine .inl ⟨f,n,L,m,i,hm,?_⟩;show(cond ((0:Int) !=0) (some ((none:Option DO),(0:Int))) ((BM K (wk t (L.map (Av t)) []) []).bind _)=_);rw[cf (E6 rfl),bd g,o,k,nt];rfl
 ·rw[bd e];have d:(if CP t=0∧c=false then (2:Int) else B5 t)≠0:=by
   split
   ·omega
   ·rename_i hh
    intro g;refine h0 ⟨g,?_⟩;cases c with
    |true=>rfl
    |false=>exact absurd ⟨(Cq g).1,rfl⟩ hh
  refine .inr ⟨fun g=>h0 ⟨(Ds g.1).1,g.2⟩,?_⟩;show cond (_ !=0) _ _=_;rw[ct (Fy d)]
  congr 2
  split
  ·rfl
  ·rename_i hh
   have:B5 t≠0:=by rw[if_neg hh] at d;exact d
   unfold BQ;rw[if_pos this]
end
theorem Ma{β:Type}{f:Unit→Option β}{x:Nat}(h:x<64):(E5 .u64 (x:Int)).bind f=f ():=bd (by
 have:∀x:Nat,x<64→E5 .u64 (x:Int)=some ():=by decide+kernel
 exact this x h)
theorem JZ{β:Type}{f:Unit→Option β}{a:Int}{x:Nat}(h:x<64):(Hn a (x:Int)).bind f=f ():=bd (if_pos ⟨by omega,by omega⟩)
theorem HU(s x:Nat):ER (s:Int) (x:Int)=((s/2^x:Nat):Int):=by
 unfold ER;rw[show(x:Int).toNat=x by omega];simp
theorem tb(s i:Nat):(s/2^i%2==1)=s.testBit i:=by rw[Nat.testBit_eq_decide_div_mod_eq];rfl
def Ba (s:Nat):List Int:=((List.range 8).filter fun x=>s.testBit x).map fun x:Nat=>(x:Int)
def lexB:List Int→List Int→Bool
 |a::c,b::d=>if a=b then lexB c d else decide (a<b)
 |[],_::_=>true
 |_,[]=>false
def sh (a b:List Int):Bool:=decide (a.length<b.length)||(a.length==b.length&&lexB a b)
theorem Et:∀a b:List Int,lexB a b=false→lexB b a=false→a=b
 |[],[],_,_=>rfl
 |[],b::c,h,_=>by cases h
 |a::d,[],_,h=>by cases h
 |a::d,b::c,h,g=>by
  rw[lexB] at h g
  by_cases e:a=b
  ·rw[if_pos e] at h;rw[if_pos e.symm] at g;rw[e,Et d c h g]
  ·rw[if_neg e,decide_eq_false_iff_not] at h;rw[if_neg (Ne.symm e),decide_eq_false_iff_not] at g;omega
theorem EL{a b:List Int}:sh a b=true↔a.length<b.length∨(a.length=b.length∧lexB a b=true):=by simp[sh]
theorem KP{a b:List Int}(h:sh a b=false)(g:sh b a=false):a=b:=by
 rw[Bool.eq_false_iff] at h g;have h1:a.length=b.length:=by
  refine Decidable.byContradiction fun e=>?_;rcases Nat.lt_or_gt_of_ne e with e|e
  ·exact h (EL.2 (.inl e))
  ·exact g (EL.2 (.inl e))
 refine Et a b ?_ ?_
 ·rw[Bool.eq_false_iff];exact fun e=>h (EL.2 (.inr ⟨h1,e⟩))
 ·rw[Bool.eq_false_iff];exact fun e=>g (EL.2 (.inr ⟨h1.symm,e⟩))
theorem Ga{s:Nat}{r:Int}:r∈Ba s↔∃x:Nat,x<8∧s.testBit x=true∧r=x:=by
 unfold Ba;simp only[List.mem_map,List.mem_filter,List.mem_range];constructor
 ·rintro⟨x,⟨h1,h2⟩,rfl⟩;exact⟨x,h1,h2,rfl⟩
 ·rintro⟨x,h1,h2,rfl⟩;exact⟨x,⟨h1,h2⟩,rfl⟩
theorem JB{s x k:Nat}(hs:s<2^k)(h:s.testBit x=true):x<k:=by
 refine Decidable.byContradiction fun hx=>?_;rw[Nat.testBit_lt_two_pow (Nat.lt_of_lt_of_le hs (Nat.pow_le_pow_right (by omega) (by omega)))] at h;cases h
theorem Ka{s x:Nat}(hx:x<8):(Ba s).contains (x:Int)=s.testBit x:=by
 rw[Bool.eq_iff_iff,List.contains_iff_mem,Ga];constructor
 ·rintro⟨y,a,h,e⟩;obtain rfl:x=y:=by omega
  exact h
 ·intro h;exact⟨x,hx,h,rfl⟩
theorem I1(s:Nat):(Ba s).length≤8:=by
 unfold Ba;rw[List.length_map];exact Nat.le_trans (List.length_filter_le _ _) (by simp)
theorem GA(s:Nat):(Ba s).Pairwise (· <·):=by
 unfold Ba;rw[List.pairwise_map];have h:(List.range 8).Pairwise (fun a b:Nat=>a<b):=List.pairwise_lt_range;exact(h.sublist (List.filter_sublist)).imp fun h=>by omega
def C9(n:Int):Int→List Int→Bool
 |_,[]=>true
 |lo,x::l=>EB x lo (n-1)&&C9 n (x+1) l
theorem Hb{n:Int}:∀{l:List Int} {lo:Int},lo≤n→C9 n lo l=true→(l.length:Int)≤n-lo
 |[],_,h0,_=>by simp;omega
 |y::l,lo,h0,h=>by
  rw[C9,Bool.and_eq_true,Dv] at h;have:=Hb (by omega) h.2;rw[List.length_cons];omega
theorem H4{n:Nat}:∀{l:List Int} {lo:Int},l.Pairwise (· <·)→(∀x∈l,lo≤x∧x<(n:Int))→C9 n lo l=true
 |[],_,_,_=>rfl
 |x::l,lo,h,hm=>by
  have hx:=hm x (List.mem_cons_self ..);rw[List.pairwise_cons] at h;rw[C9,Bool.and_eq_true,Dv];exact⟨by omega,H4 h.2 fun y a=>⟨by have:=h.1 y a;omega,(hm y (List.mem_cons_of_mem _ a)).2⟩⟩
theorem GS{n s:Nat}(hs:s<2^n):C9 n 0 (Ba s)=true:=by
 refine H4 (GA s) fun x hx=>?_;obtain⟨y,_,hb,rfl⟩:=Ga.1 hx;have:=JB hs hb;omega
section
variable{K:Nat}(hK:1000≤K)
include hK
theorem IQ(s:Nat)(hs:s<2^8):∀(d m p:Nat) (acc:List Int),p+d=8→d<m→acc.length≤p→BG (s:Int) m acc (p:Int)=some (acc++((List.range' p d).filter fun x=>s.testBit x).map fun x:Nat=>(x:Int))
 |d,0,p,acc,_,h,_=>by omega
 |0,m+1,p,acc,a,_,ha=>by
  obtain rfl:p=8:=by omega
  rw[BG.eq_2,Ma (by omega),JZ (by omega),HU,Nat.div_eq_of_lt hs,cf (df (by simp))];simp
 |d+1,m+1,p,acc,a,hm,ha=>by
  rw[BG.eq_2,Ma (by omega),JZ (by omega),HU]
  by_cases h0:s/2^p=0
  ·rw[h0,cf (df (by simp))];have:(List.range' p (d+1)).filter (fun x=>s.testBit x)=[]:=by
    rw[List.filter_eq_nil_iff];intro x hx;rw[List.mem_range'_1] at hx;have h1:s<2^p:=by
     rcases Nat.div_eq_zero_iff.1 h0 with h|h
     ·have:=Nat.two_pow_pos p;omega
     ·exact h
    rw[Nat.testBit_lt_two_pow (Nat.lt_of_lt_of_le h1 (Nat.pow_le_pow_right (by omega) (by omega)))];simp
   rw[this,List.map_nil,List.append_nil]
  ·have hq:(0:Int)<((s/2^p:Nat):Int):=by generalize s/2^p=q at h0;omega
   rw[ct (dt hq),Ma (by omega),JZ (by omega),I7 (Int.le_of_lt hq) (by omega),List.range'_succ,List.filter_cons];have e:((((s/2^p:Nat):Int)%2)==1)=s.testBit p:=by
    rw[←tb,Bool.eq_iff_iff,beq_iff_eq,beq_iff_eq];omega
   rw[e];cases s.testBit p with
   |true=>
    rw[ct rfl,Dt (by simp;omega),AZ (by omega) (by omega),CZ p,IQ s hs d m (p+1) _ (by omega) (by omega) (by simp;omega),if_pos rfl,List.map_cons,List.append_assoc];rfl
   |false=>rw[cf rfl,AZ (by omega) (by omega),CZ p,IQ s hs d m (p+1) _ (by omega) (by omega) (by omega),if_neg (by simp)]
theorem M8{s:Nat}(hs:s<2^8):CN K (s:Int)=some (Ba s):=by
 unfold CN Ba;have:=IQ hK s hs 8 K 0 [] (by omega) (by omega) (by simp);rw[Int.natCast_zero,List.nil_append,←List.range_eq_range'] at this;rw[bd this]
theorem Kh(n:Int)(hn:0≤n∧n≤100):∀(l:List Int) (s:Int),-1≤s→s≤100→∃s',run (fun(st:Int) (x:Int)=>(Fg K x st n).bind fun r=>some (r.1,r.2)) l s=some (C9 n (s+1) l,s')
 |[],s,_,_=>⟨s,rfl⟩
 |x::l,s,h0,h1=>by
  have e:Fg K x s n=some (EB x (s+1) (n-1),x):=by
   unfold Fg;rw[AZ (by omega) (by omega),AZ (by omega) (by omega),bd (JE ..)]
  rw[run,bd e,C9,Option.bind_some];cases h:EB x (s+1) (n-1) with
  |false=>exact⟨x,rfl⟩
  |true=>
   rw[Dv] at h;obtain⟨s',hs⟩:=Kh n hn l x (by omega) (by omega);exact⟨s',by rw[Bool.true_and];exact hs⟩
theorem Nx{n:Int}(hn:0≤n∧n≤100){l:List Int}(hl:l.length≤900):Gm K l n=some (C9 n 0 l):=by
 unfold Gm;obtain⟨s',hs⟩:=Kh hK n hn l (-1) (by omega) (by omega);rw[bd ((KM hK _ l hl (-1)).trans hs)];rfl
omit hK in
theorem L3:∀i:Nat,i<8→E5 .u64 (i:Int)=some ()∧EV 1 (i:Int)=some ()∧CY 1 (i:Int)=((2^i:Nat):Int)∧2^i≤128∧1≤2^i∧EV 2 (i:Int)=some ()∧CY 2 (i:Int)=((2^(i+1):Nat):Int):=by decide+kernel
end
structure EC (n:Nat) (p:List Int→Bool) (x:List Int):Prop where
 is:∃s,s<2^n∧Ba s=x
 ok:p x=true
 least:∀s,s<2^n→p (Ba s)=true→sh (Ba s) x=false
theorem EC.uniq{n:Nat}{p:List Int→Bool}{x y:List Int}(h:EC n p x)(g:EC n p y):x=y:=by
 obtain⟨s,hs,rfl⟩:=h.is;obtain⟨s',a,rfl⟩:=g.is;exact KP (g.least s hs h.ok) (h.least s' a g.ok)
theorem EC.PD{n:Nat}{p:List Int→Bool}{x:List Int}(h:EC n p x):C9 n 0 x=true:=by
 obtain⟨s,hs,rfl⟩:=h.is;exact GS hs
theorem EC.len{n:Nat}{p:List Int→Bool}{x:List Int}(h:EC n p x):x.length≤n:=by
 have:=Hb (by omega) h.PD;omega
section
variable{K:Nat}(hK:1000≤K)
include hK
end
structure Dy {α:Type} (S:List α) (f:α→Int) (r:AN):Prop where
 lo:∃l∈S,f l=r.Lo
 hi:∃l∈S,f l=r.Hi
 all:∀l∈S,r.Lo≤f l∧f l≤r.Hi
theorem Ji{r s:AN}(h:r.Lo=s.Lo)(g:r.Hi=s.Hi):r=s:=by cases r;cases s;simp at h g;rw[h,g]
theorem Dy.uniq{α:Type}{S:List α}{f:α→Int}{r s:AN}(h:Dy S f r)(g:Dy S f s):r=s:=by
 obtain⟨a,ha,ea⟩:=h.lo;obtain⟨b,hb,j⟩:=g.lo;obtain⟨c,e,ec⟩:=h.hi;obtain⟨d,i,k⟩:=g.hi;have h1:=g.all a ha;have h2:=h.all b hb;have l:=g.all c e;have m:=h.all d i;exact Ji (by omega) (by omega)
theorem Dy.map{α β:Type}{X:List α}{f:α→Int}{S:List β}{g:β→Int}{r:AN}(h:Dy X f r)(h1:∀x∈X,∃l∈S,g l=f x)(h2:∀l∈S,∃x∈X,f x=g l):Dy S g r:=by
 obtain⟨a,ha,ea⟩:=h.lo;obtain⟨c,i,ec⟩:=h.hi;obtain⟨a',b,k⟩:=h1 a ha;obtain⟨j,d,m⟩:=h1 c i;refine⟨⟨a',b,by omega⟩,⟨j,d,by omega⟩,fun l hl=>?_⟩;obtain⟨x,hx,e⟩:=h2 l hl;have:=h.all x hx;omega
theorem Dy.snoc{α:Type}{S:List α}{f:α→Int}{r:AN}(h:Dy S f r)(x:α):Dy (S++[x]) f ⟨min r.Lo (f x),max r.Hi (f x)⟩:=by
 obtain⟨a,ha,ea⟩:=h.lo;obtain⟨c,b,ec⟩:=h.hi;refine⟨?_,?_,fun l hl=>?_⟩
 ·by_cases hh:r.Lo≤f x
  ·exact⟨a,by simp[ha],by simp only;omega⟩
  ·exact⟨x,by simp,by simp only;omega⟩
 ·by_cases hh:f x≤r.Hi
  ·exact⟨c,by simp[b],by simp only;omega⟩
  ·exact⟨x,by simp,by simp only;omega⟩
 ·simp only;rcases List.mem_append.1 hl with hl|hl
  ·have:=h.all l hl;omega
  ·rw[List.mem_singleton.1 hl];omega
theorem Dy.one{α:Type}(f:α→Int)(x:α):Dy [x] f ⟨f x,f x⟩:=⟨⟨x,by simp,rfl⟩,⟨x,by simp,rfl⟩,fun l hl=>by rw[List.mem_singleton.1 hl];simp⟩
def Du (f:Nat→Int):Nat→Int
 |0=>0
 |n+1=>Du f n+f n
theorem Ic{f g:Nat→Int}:∀(n:Nat),(∀k,k<n→f k=g k)→Du f n=Du g n
 |0,_=>rfl
 |n+1,h=>by rw[Du,Du,Ic n fun k hk=>h k (by omega),h n (by omega)]
theorem HM{f:Nat→Int}{b:Int}:∀(n:Nat),(∀k,k<n→0≤f k∧f k≤b)→0≤Du f n∧Du f n≤b*n
 |0,_=>by simp[Du]
 |n+1,h=>by
  have h1:=HM n fun k hk=>h k (by omega);have h2:=h n (by omega);rw[Du,Int.natCast_add,Int.mul_add];simp;omega
theorem W1{f g:Nat→Int}:∀(n:Nat),(∀k,k<n→f k≤g k)→Du f n≤Du g n
 |0,_=>by simp[Du]
 |n+1,h=>by
  have h1:=W1 n fun k hk=>h k (by omega);have h2:=h n (by omega);rw[Du,Du];omega
def EM(t:Aj)(BL:List Int)(l:List Int)(k:Nat):Int:=if BL.contains (k:Int)=true then (As t l).getD k 0 else (t.Ac.getD k []).sum*t.Flat
def Ep (t:Aj) (BL:List Int) (l:List Int):Int:=Du (EM t BL l) t.Ac.length
theorem N0{t:Aj}(a:OkT t)(l:List Int)(k:Nat):0≤(As t l).getD k 0∧(As t l).getD k 0≤9000:=by
 by_cases hk:k<(As t l).length
 ·rw[Cx _ hk];exact a.Th l _ (List.getElem_mem hk)
 ·rw[List.getD_eq_getElem?_getD,List.getElem?_eq_none (by omega)];simp
theorem Ly{t:Aj}(a:OkT t)(k:Nat)(hk:k<t.Ac.length):0≤(t.Ac.getD k []).sum*t.Flat∧(t.Ac.getD k []).sum*t.Flat≤9000:=by
 rw[Cx _ hk];have h1:=a.Hc _ (List.getElem_mem hk);have h2:=a.flat;have:=Jw (by omega:0≤t.Ac[k].sum) h1.2.2.2 h2.1 h2.2;omega
theorem Lq{t:Aj}(a:OkT t)(BL l:List Int)(k:Nat)(hk:k<t.Ac.length):0≤EM t BL l k∧EM t BL l k≤9000:=by
 unfold EM;split
 ·exact N0 a l k
 ·exact Ly a k hk
theorem FR{t:Aj}(a:OkT t){l l':List Int}(h:Av t l=Av t l'):As t l=As t l':=F8 a.kl h
theorem Fj{t:Aj}{out:List Int}{L:List (List Int)}{x:Be×Be}:x∈DU t out L↔∃l∈L,BB (As t l) out 0 t.Ao=true∧x=(Av t l,arr (As t l)):=by
 unfold DU;simp only[List.mem_map,List.mem_filter];constructor
 ·rintro⟨l,⟨h1,h2⟩,rfl⟩;exact⟨l,h1,h2,rfl⟩
 ·rintro⟨l,h1,h2,rfl⟩;exact⟨l,⟨h1,h2⟩,rfl⟩
theorem D2{t:Aj}(a:OkT t){l:List Int}:l∈Bd t↔CF t l=true:=by
 unfold Bd CF;rw[List.mem_filter,CV a.c,Bool.and_eq_true]
theorem KQ {t:Aj} (b:OkT t) {L:List (List Int)} (e:Tr t L) (g:Be→Be→Int) (f:List Int→Int) (i:∀l,CF t l=true→g (Av t l) (arr (As t l))=f l) {r:AN} (h:Dy (DU t [] L) (fun x=>g x.1 x.2) r):Dy (Bd t) f r:=by
 refine h.map (fun x hx=>?_) (fun l hl=>?_)
 ·obtain⟨l,h1,h2,rfl⟩:=Fj.1 hx;have a:CF t l=true:=by unfold CF;rw[e.Jq l h1,h2];rfl
  exact⟨l,(D2 b).2 a,(i l a).symm⟩
 ·have a:=(D2 b).1 hl;have c:=a;unfold CF at c;rw[Bool.and_eq_true] at c;obtain⟨l',h5,d⟩:=e.all l c.1;refine⟨(Av t l',arr (As t l')),Fj.2 ⟨l',h5,by rw[FR b d];exact c.2,rfl⟩,?_⟩;show g (Av t l') (arr (As t l'))=f l;rw[d,FR b d];exact i l a
section
variable{K:Nat}(hK:1000≤K)
include hK
theorem H5(cb:Unit→Be→Option (Int×Unit))(F:Be→Int):∀(X c:List (Be×Be)) (lo hi:Int),(∀x∈X,cb () x.2=some (F x.2,()))→Dy c (fun x=>F x.2) ⟨lo,hi⟩→
  ∃a b,run (fun(st:Int×Int×Bool×Unit) (x:Be×Be)=>BT cb K st.1 st.2.1 st.2.2.1 st.2.2.2 x) X (lo,hi,false,())=some (true,(a,b,false,()))∧Dy (c++X) (fun x=>F x.2) ⟨a,b⟩
 |[],c,lo,hi,_,h=>⟨lo,hi,rfl,by rw[List.append_nil];exact h⟩
 |x::X,c,lo,hi,d,h=>by
  have h1:BT cb K lo hi false () x=some (true,(min lo (F x.2),max hi (F x.2),false,())):=by
   unfold BT;rw[bd (d x (List.mem_cons_self ..)),cf rfl,bd (Jp hK _ _)]
  obtain⟨a,b,g1,g2⟩:=H5 cb F X (c++[x]) _ _ (fun y e=>d y (List.mem_cons_of_mem _ e)) (h.snoc x);refine⟨a,b,?_,by rw[List.append_assoc] at g2;exact g2⟩;rw[run];show(BT cb K lo hi false () x).bind _=_;rw[bd h1,ct rfl];exact g1
theorem JX{t:Aj}(d:OkT t){L:List (List Int)}(g:Tr t L){m:List (List Int×Int)}(hm:Dr t m)(i:Bd t≠[])(cb:Unit→Be→Option (Int×Unit))(F:Be→Int)(f:List Int→Int)(o:∀l,CF t l=true→F (arr (As t l))=f l)
  (j:∀l,CF t l=true→cb () (arr (As t l))=some (F (arr (As t l)),())):
  ∃h r,Dr t h∧Dy (Bd t) f r∧EE K cb (wk t (L.map (Av t)) m) ()=some (r,h,()):=by
 have a:∀x∈DU t [] L,cb () x.2=some (F x.2,()):=fun x hx=>by
  obtain⟨l,h1,h2,rfl⟩:=Fj.1 hx;exact j l (by unfold CF;rw[g.Jq l h1,h2];rfl)
 have hr:∃lo hi,run (fun(st:Int×Int×Bool×Unit) (x:Be×Be)=>BT cb K st.1 st.2.1 st.2.2.1 st.2.2.2 x) (DU t [] L) (0,0,true,())=some (true,(lo,hi,false,()))∧Dy (DU t [] L) (fun x=>F x.2) ⟨lo,hi⟩:=by
  have c:DU t [] L≠[]:=by
   obtain⟨l,hl⟩:=List.exists_mem_of_ne_nil _ i;have b:=(D2 d).1 hl;unfold CF at b;rw[Bool.and_eq_true] at b;obtain⟨l',h5,p⟩:=g.all l b.1;have:(Av t l',arr (As t l'))∈DU t [] L:=Fj.2 ⟨l',h5,by rw[FR d p];exact b.2,rfl⟩;intro e;rw[e] at this;cases this
  generalize DU t [] L=X at a c;cases X with
  |nil=>exact absurd rfl c
  |cons x X=>
   have h1:BT cb K 0 0 true () x=some (true,(F x.2,F x.2,false,())):=by
    unfold BT;rw[bd (a x (List.mem_cons_self ..)),ct rfl,bd (Jp hK _ _)];show some (true,min (F x.2) (F x.2),max (F x.2) (F x.2),false,())=_;rw[Int.min_self,Int.max_self]
   obtain⟨k,n,g1,g2⟩:=H5 hK cb F X [x] _ _ (fun y q=>a y (List.mem_cons_of_mem _ q)) (Dy.one (fun x:Be×Be=>F x.2) x);refine⟨k,n,?_,g2⟩;rw[run];show(BT cb K 0 0 true () x).bind _=_;rw[bd h1,ct rfl];exact g1
 obtain⟨lo,hi,h1,h2⟩:=hr;obtain⟨h,b,s⟩:=Gt hK d (out:=[]) (by simp) _ g.len hm h1;refine⟨h,⟨lo,hi⟩,b,KQ d g (fun _ M=>F M) f o h2,?_⟩;unfold EE;rw[bd s]
structure QK (t:Aj) (b:List AN):Prop where
 len:b.length=t.Ac.length
 is:∀k (hk:k<b.length),Dy (Bd t) (fun l=>(As t l).getD k 0) b[k]
theorem O2{t:Aj}(h:DP t=true):∃b,F9 K t=some (b,BQ t)∧(BQ t≠0→b=[])∧(BQ t=0→QK t b):=by
 unfold F9;rcases Hl hK h true with⟨h0,_,L,m,aB,hm,e⟩|⟨h0,e⟩
 ·have w:=D6 h (Cq (Ds h0).1).1;have aF:=w.kl;have f:∀(d n i:Nat) (acc:List AN) (c:List (List Int×Int)),t.Ac.length=i+d→d<n→acc.length=i→Dr t c→(∀k (hk:k<acc.length),Dy (Bd t) (fun l=>(As t l).getD k 0) acc[k])→
    ∃b j,QK t b∧E8 K (wk t (L.map (Av t)) m) n acc (i:Int) c=some (b,j):=by
   intro d
   induction d with
   |zero=>
    intro n i acc c aC hn ha o a;obtain⟨n,rfl⟩:∃v,n=v+1:=⟨n-1,by omega⟩;have aD:((wk t (L.map (Av t)) m).weights.length:Int)=t.Ac.length:=by show((List.map _ _).length:Int)=_;simp
    exact⟨acc,c,⟨by omega,a⟩,by rw[E8.eq_2,cf (df (by omega))]⟩
   |succ d ih=>
    intro n i acc c aC hn ha o a;obtain⟨n,rfl⟩:∃v,n=v+1:=⟨n-1,by omega⟩;have aD:((wk t (L.map (Av t)) m).weights.length:Int)=t.Ac.length:=by show((List.map _ _).length:Int)=_;simp
    have y:i<3:=by omega
    have p:∀l:List Int,idx [(arr (As t l)).a0,(arr (As t l)).a1,(arr (As t l)).a2] (i:Int)=some ((As t l).getD i 0):=fun l=>by
     have q:i<(As t l).length:=by rw[Df];omega
     rw[Hr (by rw[Df];omega) q,Cx _ q]
    obtain⟨j,r,z,hr,g⟩:=JX hK w aB o (Ds h0).2 (fun(st:Unit) (x:Be)=>(Fo K x (i:Int)).bind fun r=>some (r,())) (fun x=>([x.a0,x.a1,x.a2]:List Int).getD i 0) (fun l=>(As t l).getD i 0)
     (fun l _=>by
      have:=p l;show([(arr (As t l)).a0,(arr (As t l)).a1,(arr (As t l)).a2]:List Int).getD i 0=_;rw[idx_eq (by simp;omega)] at this;rw[Cx _ (by simp;omega)];exact Option.some.inj this)
     (fun l _=>by
      have:=p l;show(Fo K (arr (As t l)) (i:Int)).bind _=_;unfold Fo;rw[bd (bd this)];have h2:=this;rw[idx_eq (by simp;omega)] at h2;show some (_,())=some (([(arr (As t l)).a0,(arr (As t l)).a1,(arr (As t l)).a2]:List Int).getD i 0,());rw[Cx _ (show i<([(arr (As t l)).a0,(arr (As t l)).a1,(arr (As t l)).a2]:List Int).length from y),←Option.some.inj h2])
    obtain⟨b,aE,hb,g2⟩:=ih n (i+1) (acc++[r]) j (by omega) (by omega) (by simp;omega) z (fun k hk=>by
     by_cases s:k<acc.length
     ·rw[List.getElem_append_left s];exact a k s
     ·have aA:k=i:=by
       have aG:k<acc.length+1:=by simpa using hk
       omega
      subst aA;rw[List.getElem_append_right (by omega)];simpa[ha] using hr)
    refine⟨b,aE,hb,?_⟩;rw[E8.eq_2,ct (dt (by omega))];show((EE K (fun(st:Unit) (x:Be)=>(Fo K x (i:Int)).bind fun r=>some (r,())) (wk t (L.map (Av t)) c) ()).bind _)=_;rw[bd g,Dt (by simp;omega),AZ (by omega) (by omega),CZ i];exact g2
  obtain⟨b,j,hb,g⟩:=f t.Ac.length K 0 [] m (by omega) (by omega) rfl hm (fun k hk=>by simp at hk);refine⟨b,?_,fun hh=>absurd h0 hh,fun _=>hb⟩;rw[bd e];show(E8 K (wk t (L.map (Av t)) m) K [] 0 m).bind _=_;rw[Int.natCast_zero] at g;rw[bd g,h0]
 ·have u:BQ t≠0:=fun g=>h0 ⟨g,rfl⟩;refine⟨[],?_,fun _=>rfl,fun g=>absurd g u⟩;rw[if_neg (by simp)] at e;rw[bd e];show cond (_ !=0) _ _=_;rw[ct (Fy u)]
def Fl (t:Aj) (BL:List Int):Int:=if CP t=0∧C9 t.Ac.length 0 BL=false then 2 else BQ t
omit hK in
theorem M7 {t:Aj} {BL:List Int} (h:Fl t BL=0):BQ t=0∧C9 t.Ac.length 0 BL=true:=by
 unfold Fl at h
 split at h
 ·omega
 ·rename_i hh
  refine⟨h,?_⟩
  cases hr:C9 t.Ac.length 0 BL with
  |true=>rfl
  |false=>exact absurd ⟨(Cq (Ds h).1).1,hr⟩ hh
omit hK in
theorem I9 {t:Aj} {BL:List Int} (h:C9 t.Ac.length 0 BL=true):Fl t BL=BQ t:=by unfold Fl;rw[if_neg (by simp[h])]
theorem Og{t:Aj}(c:OkT t)(a:List Be)(m:List (List Int×Int)){BL:List Int}(hs:BL.length≤900)(l:List Int):Ea K (arr (As t l)) (wk t a m) BL=some (Ep t BL l):=by
 have p:=c.kl;have u:((wk t a m).weights.length:Int)=t.Ac.length:=by show((List.map _ _).length:Int)=_;simp
 have e:∀(d n i:Nat),t.Ac.length=i+d→d<n→DK K (arr (As t l)) (wk t a m) BL n (Du (EM t BL l) i) (i:Int)=some (Ep t BL l):=by
  intro d
  induction d with
  |zero=>
   intro n i r hn;obtain⟨n,rfl⟩:∃j,n=j+1:=⟨n-1,by omega⟩;obtain rfl:i=t.Ac.length:=by omega
   rw[DK.eq_2,cf (df (by omega))];rfl
  |succ d ih=>
   intro n i r hn;obtain⟨n,rfl⟩:∃j,n=j+1:=⟨n-1,by omega⟩;have hi:i<t.Ac.length:=by omega
   have g:i<(As t l).length:=by rw[Df];omega
   have h:i<(wk t a m).weights.length:=by omega
   have s:(wk t a m).weights[i]'h=(t.Ac.getD i []).sum:=by rw[Cx _ hi];simp[wk]
   have b1:=HM (f:=EM t BL l) (b:=9000) i fun k hk=>Lq c BL l k (by omega);have b2:=Lq c BL l i hi;have b3:=Ly c i hi;have:=ih n (i+1) (by omega) (by omega);rw[Du] at this;rw[DK.eq_2,ct (dt (by omega)),BS h,bd (KH hK BL _ hs),s];show cond _ _ ((i64 ((t.Ac.getD i []).sum*t.Flat)).bind fun _=>(i64 (Du (EM t BL l) i+(t.Ac.getD i []).sum*t.Flat)).bind fun _=>(i64 ((i:Int)+1)).bind fun _=>DK K (arr (As t l)) (wk t a m) BL n (Du (EM t BL l) i+(t.Ac.getD i []).sum*t.Flat) ((i:Int)+1))=_;cases q:BL.contains (i:Int) with
   |true=>
    have o:EM t BL l i=(As t l)[i]:=by unfold EM;rw[if_pos q,Cx _ g]
    rw[o] at this b2;rw[ct rfl,bd (Hr (by rw[Df];exact p) g),AZ (by omega) (by omega),AZ (by omega) (by omega),CZ i,this]
   |false=>
    have o:EM t BL l i=(t.Ac.getD i []).sum*t.Flat:=by unfold EM;rw[if_neg (by rw[q];decide)]
    rw[o] at this b2;rw[cf rfl,AZ (by omega) (by omega),AZ (by omega) (by omega),AZ (by omega) (by omega),CZ i,this]
 have:=e t.Ac.length K 0 (by omega) (by omega);rw[Int.natCast_zero,Du] at this;unfold Ea;rw[bd this]
theorem M6{t:Aj}(c:OkT t){L:List (List Int)}(g:Tr t L){m:List (List Int×Int)}(hm:Dr t m)(d:Bd t≠[]){BL:List Int}(hs:BL.length≤900):∃a r,Dr t a∧Dy (Bd t) (Ep t BL) r∧ET K (wk t (L.map (Av t)) m) BL=some (r,a):=by
 
 have key:∃F:Be→Int,∀l,CF t l=true→F (arr (As t l))=Ep t BL l:=⟨fun x=>Du (fun k=>if BL.contains (k:Int)=true then ([x.a0,x.a1,x.a2]:List Int).getD k 0 else (t.Ac.getD k []).sum*t.Flat) t.Ac.length,fun l _=>by
  have e:=c.kl;refine Ic _ fun k hk=>?_;unfold EM;have b:k<(As t l).length:=by rw[Df];exact hk
  have h1:=Hr (by rw[Df];exact e) b;rw[idx_eq (by simp;omega)] at h1;rw[Cx _ b,←Option.some.inj h1,Cx _ (by simp;omega)]⟩
 obtain⟨F,f⟩:=key;obtain⟨a,r,h1,h2,h⟩:=JX hK c g hm d (fun(st:Unit) (x:Be)=>(Ea K x (wk t (L.map (Av t)) m) BL).bind fun r=>some (r,())) F (Ep t BL) f (fun l hl=>by
  show(Ea K (arr (As t l)) (wk t (L.map (Av t)) m) BL).bind _=_;rw[bd (Og hK c _ m hs l),f l hl])
 refine⟨a,r,h1,h2,?_⟩;unfold ET;rw[bd h]
theorem Ny{t:Aj}(h:DP t=true){BL:List Int}(hs:BL.length≤900):∃r,Gn K t BL=some (r,Fl t BL)∧(Fl t BL≠0→r=⟨0,0⟩)∧(Fl t BL=0→Dy (Bd t) (Ep t BL) r):=by
 have hlen:=E9 h;have j:t.Ac.length≤100:=hlen.1.2.1;unfold Gn;rw[bd (Nx hK (by omega) hs)];rcases Hl hK h (C9 t.Ac.length 0 BL) with⟨h0,hr,L,m,c,hm,e⟩|⟨h0,e⟩
 ·have d:=D6 h (Cq (Ds h0).1).1;obtain⟨k,r,_,h2,f⟩:=M6 hK d c hm (Ds h0).2 hs;have b:Fl t BL=0:=by rw[I9 hr,h0]
  refine⟨r,?_,fun g=>absurd b g,fun _=>h2⟩;rw[bd e];rw[b];show(ET K (wk t (L.map (Av t)) m) BL).bind _=_;rw[bd f]
 ·have a:Fl t BL≠0:=fun g=>h0 (M7 g);refine⟨⟨0,0⟩,?_,fun _=>rfl,fun g=>absurd g a⟩;have i:CD K t (C9 t.Ac.length 0 BL)=some (none,Fl t BL):=e;rw[bd i];show cond (_ !=0) _ _=_;rw[ct (Fy a)]
end
structure FP (W:List Int→Int) (n:Nat) (s:List Int):Prop where
 is:∃b,b<2^n∧Ba b=s
 Kl:∀x,x<2^n→W (Ba x)<W s∨(W (Ba x)=W s∧lexB (Ba x) s=false)
theorem FP.uniq{W:List Int→Int}{n:Nat}{s s':List Int}(h:FP W n s)(g:FP W n s'):s=s':=by
 obtain⟨b,hb,rfl⟩:=h.is;obtain⟨b',a,rfl⟩:=g.is;have h1:=h.Kl b' a;have h2:=g.Kl b hb;rcases h1 with h1|⟨h1,c⟩<;>rcases h2 with h2|⟨h2,d⟩
 ·omega
 ·omega
 ·omega
 ·exact Et _ _ d c
section
variable{K:Nat}(hK:1000≤K)
include hK
end
theorem nl{l l':List Int}(h:l=l'):(l !=l')=false:=by subst h;simp
theorem el{l l':List Int}(h:l=l'):(l==l')=true:=by subst h;simp
section
variable{K:Nat}(hK:1000≤K)
include hK
theorem Sm{t:Aj}(b:OkT t){s:Nat}(hs:s<256):Em K t (s:Int)=some (Ba (s&&&(2^t.Ac.length-1))):=by
 have f:=b.kl;obtain⟨s1,s2,c,g,h,_⟩:=L3 t.Ac.length (by omega);have e:((2^t.Ac.length:Nat):Int)-1=((2^t.Ac.length-1:Nat):Int):=by omega
 have d:E5 .i64 (s:Int)=some ():=by
  have:∀x:Nat,x<256→E5 .i64 (x:Int)=some ():=by decide+kernel
  exact this s hs
 have a:s&&&(2^t.Ac.length-1)<2^8:=Nat.lt_of_le_of_lt Nat.and_le_left (by omega);unfold Em;rw[bd d,bd s1,bd s2,c,e,AZ (by omega) (by omega),KL (by omega) (by omega),RV,bd (M8 hK a)]
end
theorem OU(s n:Nat):s&&&(2^n-1)<2^n:=by
 have:=Nat.two_pow_pos n;exact Nat.lt_of_le_of_lt Nat.and_le_right (by omega)
def Es(t:Aj)(o:CU):Int:=(t.AH.getD o.En.toNat ⟨0,0⟩).BU
def Gu (t:Aj) (o:CU) (k:Nat):Bool:=decide (o.Ey≤(t.Ac.getD k []).sum)&&(Bd t).all fun l=>decide (Es t o≤CI l (t.Ac.getD k []))
def FE(t:Aj)(o:CU):List Int:=((List.range t.Ac.length).filter (Gu t o)).map fun k:Nat=>(k:Int)
def DF(t:Aj):List (List Int):=t.Aw.map (FE t)
def Dp:List (List Int)→List Int→List Int→Bool
 |[],_,[]=>true
 |s::S,out,x::xs=>s.contains x&&(!out.contains x&&Dp S (out++[x]) xs)
 |_,_,_=>false
structure Gz (t:Aj) (d:List Int):Prop where
 is:Dp (DF t) [] d=true
 first:∀d',Dp (DF t) [] d'=true→lexB d' d=false
theorem Gz.uniq{t:Aj}{d d':List Int}(h:Gz t d)(g:Gz t d'):d=d':=Et _ _ (g.first d h.is) (h.first d' g.is)
section
variable{K:Nat}(hK:1000≤K)
include hK
end
def E1 (t:Aj) (out:List Int):Bool:=(Bo t.C).any fun l=>BB (As t l) out 0 t.Ao
def C8(t:Aj)(ns:List Ct):Aj:=⟨t.Al,t.Ac,t.Ap,t.Flat,t.AH,t.Aw,ns⟩
def FW (t:Aj) (k:Nat):Bool:=E1 (C8 t (t.Ao.take k)) []
theorem F2(M:List Int)(ns:List Ct):BB M [] 0 ns=true↔∀n∈ns,FT M n=true:=by
 rw[Hm];constructor
 ·intro h n hn;obtain⟨j,hj,rfl⟩:=List.getElem_of_mem hn;rcases h j hj with h1|h1
  ·simp at h1
  ·exact h1
 ·intro h j hj;exact .inr (h _ (List.getElem_mem hj))
theorem GC{t:Aj}{j k:Nat}(h:j≤k)(hk:FW t k=true):FW t j=true:=by
 unfold FW E1 at hk⊢;rw[List.any_eq_true] at hk⊢;obtain⟨l,hl,hr⟩:=hk;refine⟨l,hl,?_⟩;have a:As (C8 t (t.Ao.take k)) l=As t l:=rfl;have b:As (C8 t (t.Ao.take j)) l=As t l:=rfl;have c:(C8 t (t.Ao.take k)).Ao=t.Ao.take k:=rfl;have d:(C8 t (t.Ao.take j)).Ao=t.Ao.take j:=rfl;rw[a,c,F2] at hr;rw[b,d,F2];exact fun n hn=>hr n (List.take_subset_take_left _ h hn)
structure Gb (t:Aj) (i:Nat):Prop where
 lt:i<t.Ao.length
 before:FW t i=true
 not:FW t (i+1)=false
theorem Gb.uniq{t:Aj}{i j:Nat}(h:Gb t i)(g:Gb t j):i=j:=by
 rcases Nat.lt_trichotomy i j with h1|h1|h1
 ·have:=GC (show i+1≤j by omega) g.before;rw[h.not] at this;cases this
 ·exact h1
 ·have:=GC (show j+1≤i by omega) h.before;rw[g.not] at this;cases this
section
variable{K:Nat}(hK:1000≤K)
include hK
end
theorem TP{x:Int}(h0:-9223372036854775808≤x)(h1:x≤9223372036854775807):E5 .i64 x=some ():=by
 unfold E5;have:IntKind.i64.wrap x=x:=GO ⟨by omega,by omega⟩;rw[if_pos this]
theorem QL{β:Type}{x:Int}{f:Unit→Option β}(h0:0≤x)(h1:x<65536):(E5 .i64 x).bind f=f ():=bd (TP (by omega) (by omega))
theorem Qh{t:Aj}(c:OkT t)(h0:BQ t≠0):BQ t=9∨BQ t=11:=by
 have a:B5 t=0∨B5 t=11:=by
  unfold B5
  by_cases b:Bo t.C=[]
  ·right;rw[if_neg (show¬CP t≠0 by simp[c.fault]),if_pos b]
  ·left;rw[if_neg (show¬CP t≠0 by simp[c.fault]),if_neg b]
 unfold BQ at h0⊢;rcases a with a|a
 ·rw[a] at h0⊢
  by_cases b:Bd t=[]
  ·left;rw[if_neg (show¬(0:Int)≠0 by simp),if_pos b]
  ·rw[if_neg (show¬(0:Int)≠0 by simp),if_neg b] at h0;exact absurd rfl h0
 ·right;rw[a,if_pos (by decide)]
section
variable{K:Nat}(hK:1000≤K)
include hK
theorem I4(t:Aj):(B6 K t=some false)∨(DP t=true∧OkT t∧B6 K t=some true):=by
 rw[MN hK t];cases h:DP t with
 |false=>exact .inl rfl
 |true=>
  by_cases h0:CP t=0
  ·exact .inr ⟨rfl,D6 h h0,by rw[dt h0];rfl⟩
  ·exact .inl (by rw[df h0];rfl)
end
end Go.Proofs.YtbhofkcbfblijaaGreat
end
section
namespace Go.Proofs.YtbhofkcbfblijaaGreat
namespace HF
theorem GV:(Tryz.prog.underlying 3).isSome=true:=by kernel_rfl
theorem Jx:Bv Tryz.prog 56:=by unfold Bv;kernel_rfl
theorem Ms:Bv Tryz.prog 63:=by unfold Bv;kernel_rfl
theorem Rh:(Tryz.prog.underlying 5).isSome=true:=by kernel_rfl
theorem NC:Bv Tryz.prog 48:=by unfold Bv;kernel_rfl
theorem Sp:Bv Tryz.prog 49:=by unfold Bv;kernel_rfl
theorem Wc(b o:Nat)(w:World):(Instr.fieldAt 60 (.pointer (some ⟨b,o,none⟩)) 1).run Tryz.prog w=.ok (.pointer (some ⟨b,o+1,none⟩)) w:=by kernel_rfl
end HF
end Go.Proofs.YtbhofkcbfblijaaGreat
end
section
namespace Go.Proofs.YtbhofkcbfblijaaGreat
open Go.RowKit Go.WideShapes
set_option maxRecDepth 20000
open HF
attribute [local irreducible] Eb WL CC CW LV Cw JC HO One Bv
theorem Q7 aU r(Z:Nat→Prop) w aV(a:CN aU r=some aV):
 Cw Tryz.prog 63 #[I r] w (fun v w'=>Ext w w'∧(Gp (Ay .i64)).R w' (zf Z w []) v aV):=by
 unfold CN at a;refine AS (N:=23) Tryz.func63 rfl rfl (by simp) ?_;intro bF ha bG;have aN:=sA 0 ha;clear ha;have aW:Hp FN [] w [] w:=Hp.start (Cc.none w);refine Af<|Ad<|wA (v:=.slice none 0 0) rfl<|Ag<|Ab<|Af<|Ad<|wA (v:=.slice none 0 0) rfl<|Ag<|Ab<|Af<|Af<|Ad<|wA (v:=I 0) rfl<|Ag<|Ab<|AT ?_;have aX:=aW.nil;have aY:BY (Ay .i64) 3 w.heap.size w (zf Z w [none]) none 0 ([]:List Int):=BY.nil _ _ _ _ _;replace a:=bind_some a;obtain⟨y,p,a⟩:=a;refine Cm (fun aZ j z=>(aZ=.exit 0∧∃c d,j.tmps.size=23∧j.defers=(X0).ds∧sl j 3=.slice c y.length d∧Hp FN [] w [ob c] z∧BY (Ay .i64) 3 w.heap.size z (zf Z w [ob c]) c d y)) ?a0 ?a2
 case a0=>
  clear a;refine Cl (fun(aH:Nat) (j:Act) (z:World)=>∃g,∃b,∃f h,BG r aH g b=some y∧j.tmps.size=23∧j.defers=(X0).ds∧sl j 0=I r∧sl j 3=.slice f g.length h∧sl j 4=I b∧Hp FN [] w [ob f] z∧BY (Ay .i64) 3 w.heap.size z (zf Z w [ob f]) f h g) aU ?a3 ?a4
  case a3=>
   intro st;exact⟨([]:List Int),(0:Int),none,0,p,qz st,qd st,sp st 0 aN,sp st 3 rfl,sp st 4 rfl,aX,aY⟩
  case a4=>
   rintro(_|aH) bH bI ⟨g,b,f,h,p,aO,aP,m,q,l,u,i⟩
   ·exact absurd (show none=some _ from p) (by simp)
   rw[BG.eq_2] at p;have a:=p;clear p;refine B7 (N:=23) aO aP<|Af<|Af<|Ad<|wM (v:=I r) m<|wM (v:=I b) l ?_;replace a:=D1 a;obtain⟨a5,a⟩:=a;refine wD (fun st=>EX (k:=.u64) GV Tryz.underlying91 (eR st) a5) ?_;replace a:=GB a;obtain⟨a8,a⟩:=a;refine wD (fun st=>J2 (eR st) (eR st) a8)<|wD (fun st=>HJ (eR st) (eR st))<|Ag<|Ab ?_;rcases Ak (decide ((0:Int)<(ER r b))) with s|s
   ·replace a:=Az a s;refine AD rfl s<|AL<|Ab<|Af<|AT<|Af<|Ad<|wM (v:=I r) m<|wM (v:=I b) l ?_;replace a:=D1 a;obtain⟨a9,a⟩:=a;refine wD (fun st=>EX (k:=.u64) GV Tryz.underlying91 (eR st) a9) ?_;replace a:=GB a;obtain⟨bA,a⟩:=a;refine wD (fun st=>J2 (eR st) (eR st) bA) ?_;replace a:=Fu a;obtain⟨aK,a⟩:=a;refine wD (fun st=>HG (eR st) (eR st) aK.1 aK.2)<|wD (fun st=>Dj (eR st) (eR st))<|Ag<|Ab ?_;rcases Ak (((ER r b)%2)==1) with t|t
    ·replace a:=Az a t;refine AD rfl t<|Ad<|wM (v:=.slice f g.length h) q<|wM (v:=I b) l<|wE (fun st=>De (e:=3) (vs:= #[(0,I b)]) (cs:= #[I b]) (JN (eR st)) (by kernel_rfl)) ?_;rintro _ bJ ⟨bK,rfl,n⟩;have aA:=u.nb n;have bB:=u.Cr n;have x:=(i.ext n.gr (AP n));replace a:=Ck a;obtain⟨aB,a⟩:=a;refine wE (fun st=>Jd (ys:=[b]) Tryz.underlying31 Hv rfl rfl (by decide) (eR st) rfl (eR st) x (ID (DQ:=[[I b]]) n.bk ⟨rfl,trivial⟩ rfl) (by have:=aB;simp only[maxLen];omega) (by have:=aB;omega) aA.sz (by simp)) ?_;rintro _ bL ⟨aL,aM,rfl,aC,aD,aQ⟩;have bC:=aA.row aC 1 rfl aD;have aR:=ED aQ (aA.DN aC 1 rfl (fun k hk=>(aD k hk).1));refine wA (v:=.slice aL ((g++[b]).length) aM) rfl<|Ag<|Bs<|Ab<|Ad<|wM (v:=I b) l ?_;replace a:=AK a;obtain⟨aS,a⟩:=a;refine wD (fun st=>B0 (eR st) (eR st) aS)<|wA (v:=I (b+1)) rfl<|Ag ?_;have bD:=bC.erase 0;have aE:=(aR.up (Bp 0));refine Bw aH (Nat.lt_succ_self _) (fun st=>?_);exact⟨(g++[b]),(b+1),aL,aM,a,qz st,qd st,sp st 0 m,sp st 3 rfl,sp st 4 rfl,bD,aE⟩
    ·replace a:=AA a t;refine AE rfl t<|AL<|Bs<|Ab<|Ad<|wM (v:=I b) l ?_;replace a:=AK a;obtain⟨aT,a⟩:=a;refine wD (fun st=>B0 (eR st) (eR st) aT)<|wA (v:=I (b+1)) rfl<|Ag ?_;refine Bw aH (Nat.lt_succ_self _) (fun st=>?_);exact⟨g,(b+1),f,h,a,qz st,qd st,sp st 0 m,sp st 3 q,sp st 4 rfl,u,i⟩
   ·replace a:=AA a s;refine AE rfl s<|Cd<|AB<|AB ?_;obtain rfl:=oi a;refine B4 (fun st=>?_);exact⟨rfl,f,h,qz st,qd st,sp st 3 q,u,i⟩
 case a2=>
  rintro aZ bE bM (⟨rfl,c,d,aI,aJ,aF,aG,o⟩);refine Cn (X:=X0) (N:=23) aI aJ<|Bn<|Ab<|Af<|Ad<|wM (v:=.slice c y.length d) aF<|wA (v:=.slice c y.length d) rfl<|Ag<|Ab<|AI ?_;obtain rfl:=oi a;refine AJ rfl rfl ?_;exact⟨aG.Bc,⟨_,_,rfl,aG.IA (M:=[]) 0 rfl [] rfl trivial o⟩⟩
theorem OS aM a aE e f b c g h i j l m n o(Z:Nat→Prop) w(u:Sl AM w Z e f a.Al)(x:Sl (BO (Ay .i64)) w Z b c a.Ac)(y:Sl AQ w Z g h a.Ap)(z:Sl Bm w Z i j a.AH)(aA:Sl Bl w Z l m a.Aw)(aB:Sl BA w Z n o a.Ao) aN(d:BZ aM a aE=some aN):
 Cw Tryz.prog 56 #[.agg (Am e f b c g h i j l m n o a).toArray,I aE] w (fun v w'=>Ext w w'∧(Ev .i64).R w' (zf Z w []) v aN):=by
 unfold BZ at d;refine AS (N:=12) Tryz.func56 rfl rfl (by simp) ?_;intro aZ ha a0;have aF:=sA 0 ha;have aG:=sA 1 ha;clear ha;have aD:Hp FN [] w [] w:=Hp.start (Cc.none w);have ⟨aH,q,aI,aJ,aK,aL⟩:=Cz u x y z aA aB (Bh (Z:=Z) (L:=[]) w);refine Af<|Ad<|wE (fun st=>Ci (v:=.agg (Am e f b c g h i j l m n o a).toArray) (cs:=(Am e f b c g h i j l m n o a).toArray) (ee st aF) rfl) ?_;rintro _ w1 ⟨b1,rfl,p⟩;have aO:=aD.nb p;have aY:=aD.Cr p;refine wA (v:=I 0) rfl<|Ag<|Ab<|Af<|Ad<|wD (fun st=>Ai (eR st) (Ee _ _))<|wD (fun st=>Ai (eR st) (Ei _ _))<|wD (fun st=>AG (v:=.slice b a.Ac.length c) El (eR st) p.bk rfl)<|wM (v:=I aE) aG ?_;replace d:=AW d;obtain⟨i2,x2,aP,aQ,aR,d⟩:=d;have r:=(q.mv (AP p));obtain⟨b2,a2,_,aS,⟨s,t,rfl,aC⟩,aT⟩:=Sl.C1 r rfl aQ;refine wD (fun st=>AX (k:=i2) Tryz.underlying23 FX (eR st) aS (eR st) aP aR)<|wD (fun st=>Bg (v:=.slice s x2.length t) Eu (eR st) aT rfl) ?_;replace d:=bind_some d;obtain⟨aU,aV,d⟩:=d;refine wE (fun st=>Ar MP (eR st) (CR (eR st)) (Ry aM x2 s t ZA _ aC.all aU aV)) ?_;rintro _ a3 ⟨aW,rfl⟩;have aX:=aO.ext aW;refine wA (v:=I aU) rfl<|Ag<|Ab<|AI ?_;obtain rfl:=oi d;refine AJ rfl rfl ?_;exact⟨aX.Bc,rfl⟩
theorem R7 aW q a b d e f g h i j k m n(Z:Nat→Prop) w(aN:Sl AM w Z a b q.Al)(aO:Sl (BO (Ay .i64)) w Z d e q.Ac)(aP:Sl AQ w Z f g q.Ap)(aQ:Sl Bm w Z h i q.AH)(aR:Sl Bl w Z j k q.Aw)(aS:Sl BA w Z m n q.Ao) a0(p:B6 aW q=some a0):
 Cw Tryz.prog 48 #[.agg (Am a b d e f g h i j k m n q).toArray] w (fun v w'=>Ext w w'∧Dg.R w' (zf Z w []) v a0):=by
 unfold B6 at p;refine AS (N:=10) Tryz.func48 rfl rfl (by simp) ?_;intro bA ha bB;have aX:=sA 0 ha;clear ha;have aU:Hp FN [] w [] w:=Hp.start (Cc.none w);have ⟨aA,aB,aC,aD,aE,aF⟩:=Cz aN aO aP aQ aR aS (Bh (Z:=Z) (L:=[]) w);refine Af<|Ad<|wE (fun st=>Ci (v:=.agg (Am a b d e f g h i j k m n q).toArray) (cs:=(Am a b d e f g h i j k m n q).toArray) (ee st aX) rfl) ?_;rintro _ w1 ⟨b1,rfl,z⟩;have a2:=aU.nb z;have a9:=aU.Cr z;refine wA (v:=.bool false) rfl<|Ag<|Ab<|Af<|Ad<|wD (fun st=>AR (l:=(Am a b d e f g h i j k m n q)) Cj (eR st) z.bk rfl rfl) ?_;have ⟨r,s,t,u,x,y⟩:=Cz aA aB aC aD aE aF (AP z);replace p:=bind_some p;obtain⟨aY,a3,p⟩:=p;refine wE (fun st=>Ar O6 (eR st) (CR (eR st)) (Tc aW q a b d e f g h i j k m n ZA _ r.all s.all t.all u.all x.all y.all aY a3)) ?_;rintro _ bC ⟨aM,rfl⟩;have aV:=a2.ext aM;refine wM (v:=.bool aY) rfl ?_;rcases Ak (aY) with o|o
 ·replace p:=Az p o;have aT:=(z.bk.ext aM);refine An rfl rfl (Ae rfl o) rfl (by decide) (fun st=>AR (l:=(Am a b d e f g h i j k m n q)) Cj (eR st) aT rfl rfl) ?_;have ⟨aG,aH,aI,aJ,aK,aL⟩:=Cz r s t u x y (Ah aM);replace p:=bind_some p;obtain⟨aZ,a4,p⟩:=p;refine Di rfl rfl (Ae rfl o) rfl (by decide) (fun st=>Ar NV (eR st) (CR (eR st)) (a116 aW q a b d e f g h i j k m n ZA _ aG.all aH.all aI.all aJ.all aK.all aL.all aZ a4)) ?_;rintro _ bD ⟨a5,rfl⟩;have a8:=aV.ext a5;refine An rfl rfl (Ae rfl o) rfl (by decide) (fun st=>Dj (eR st) (eR st))<|wD (fun st=>AY (v:=.bool (aZ==0)) (eR st) o (eR st))<|wA (v:=.bool (aZ==0)) rfl<|Ag<|Ab<|AI ?_;obtain rfl:=oi p;refine AJ rfl rfl ?_;exact⟨a8.Bc,rfl⟩
 ·replace p:=AA p o;refine Au (c:=false) rfl rfl (Ae rfl o) (by decide) rfl (by decide)<|Au (c:=false) rfl rfl (Ae rfl o) (by decide) rfl (by decide)<|Au (c:=false) rfl rfl (Ae rfl o) (by decide) rfl (by decide)<|wD (fun st=>BC (v:=.bool false) (eR st) o (eR st))<|wA (v:=.bool false) rfl<|Ag<|Ab<|AI ?_;obtain rfl:=oi p;refine AJ rfl rfl ?_;exact⟨aV.Bc,rfl⟩
theorem a49 aM b r f g c d h i j l m n o p(Z:Nat→Prop) w(s:Sl AM w Z f g b.Al)(t:Sl (BO (Ay .i64)) w Z c d b.Ac)(u:Sl AQ w Z h i b.Ap)(x:Sl Bm w Z j l b.AH)(y:Sl Bl w Z m n b.Aw)(z:Sl BA w Z o p b.Ao) aN(a:Em aM b r=some aN):
 Cw Tryz.prog 49 #[.agg (Am f g c d h i j l m n o p b).toArray,.int .u8 r] w (fun v w'=>Ext w w'∧(Gp (Ay .i64)).R w' (zf Z w []) v aN):=by
 unfold Em at a;refine AS (N:=16) Tryz.func49 rfl rfl (by simp) ?_;intro aY ha aZ;have aE:=sA 0 ha;have aF:=sA 1 ha;clear ha;have aC:Hp FN [] w [] w:=Hp.start (Cc.none w);have ⟨aG,aH,aI,aJ,aK,aL⟩:=Cz s t u x y z (Bh (Z:=Z) (L:=[]) w);refine Af<|Ad<|wE (fun st=>Ci (v:=.agg (Am f g c d h i j l m n o p b).toArray) (cs:=(Am f g c d h i j l m n o p b).toArray) (ee st aE) rfl) ?_;rintro _ w1 ⟨b1,rfl,q⟩;have aD:=aC.nb q;have aX:=aC.Cr q;refine wA (v:=.slice none 0 0) rfl<|Ag<|Ab<|Af<|Ad<|wM (v:=.int .u8 r) aF ?_;replace a:=D1 a;obtain⟨aO,a⟩:=a;refine wD (fun st=>EX (k:=.i64) Rh Tryz.underlying3 (eR st) aO)<|wD (fun st=>Ai (eR st) (Ee _ _))<|wD (fun st=>Ai (eR st) (Ei _ _))<|wD (fun st=>AG (v:=.slice c b.Ac.length d) El (eR st) q.bk rfl)<|wD (fun st=>Bu Tryz.underlying23 (eR st)) ?_;replace a:=D1 a;obtain⟨aP,a⟩:=a;refine wD (fun st=>EX (k:=.u64) GV Tryz.underlying91 (eR st) aP) ?_;replace a:=E3 a;obtain⟨aQ,a⟩:=a;refine wD (fun st=>HL (eR st) (eR st) aQ) ?_;replace a:=AK a;obtain⟨aR,a⟩:=a;refine wD (fun st=>Ex (eR st) (eR st) aR) ?_;replace a:=F5 a;obtain⟨aS,a⟩:=a;refine wD (fun st=>Qs (eR st) (eR st) aS) ?_;replace a:=bind_some a;obtain⟨aT,aU,a⟩:=a;refine wE (fun st=>Ar Ms (eR st) (CR (eR st)) (Q7 aM (It r ((CY (1:Int) (b.Ac.length:Int))-1)) (zf Z w [some b1]) _ aT aU)) ?_;rintro _ a0 ⟨aV,⟨aA,aB,rfl,e⟩⟩;have aW:=aD.ext aV;have e:=e.mv (aD.Da (Nat.le_refl _));refine wA (v:=.slice aA aT.length aB) rfl<|Ag<|Ab<|AI ?_;obtain rfl:=oi a;refine AJ rfl rfl ?_;exact⟨aW.Bc,⟨_,_,rfl,e.mv (CG (DI [] trivial))⟩⟩
end Go.Proofs.YtbhofkcbfblijaaGreat
end
section
namespace Go.Proofs.YtbhofkcbfblijaaGreat
open Go.RowKit Go.ChangeShapes Go.WideShapes
section
variable{H:Type}{enc:TypeId×Value→H}{P:Program}{W W':World}
variable{α:Type}{e:Gy α}{wf:α→Prop}{t:TypeId}{b0:Nat}{v:Value}{d:DataW H}{p:List MemPlace}{sp:Nat→Bool}
theorem Lz{k:IntKind}(a:P.underlying t=some (.int k))(b:Value.okWide P W .any b0 t v)(h:DataW.Trod enc P W 0 sp true t v d p):∃n,v=.int k n∧Iz k n:=by
 obtain⟨n,h1,_,_,c⟩:=open_int a b h;exact⟨n,h1,c⟩
end
theorem QC{x:Int}(h:Iz .u8 x):0≤x∧x<256:=by
 have h2:(decide (IntKind.u8.min≤x)&&decide (x≤IntKind.u8.max))=true:=h;rw[Bool.and_eq_true,decide_eq_true_eq,decide_eq_true_eq] at h2;have a:IntKind.u8.min=0:=by decide
 have b:IntKind.u8.max=255:=by decide
 omega
end Go.Proofs.YtbhofkcbfblijaaGreat
end
