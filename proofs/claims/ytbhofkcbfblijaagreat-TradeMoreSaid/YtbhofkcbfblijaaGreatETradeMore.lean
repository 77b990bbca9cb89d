import Derived.Test.YtbhofkcbfblijaaGreatCG5
import Derived.WalkKit
import Derived.KernelRfl
import Derived.WalkSpells
import Derived.WalkLawsBesides
import Derived.Maps.AppendAt
import Derived.OrdersIn
import Derived.RangeFuncIn
import Derived.RangeFuncLeaves
import Derived.RangeFuncRecord
import Derived.RangeFuncSeq
import Derived.Scope
import Derived.DeepKeys3
import Derived.Laws.CopyRow
import Derived.Laws.OwnMore
import Derived.Laws.MakeOwn
import Derived.Laws.IdiomCopy
import Derived.Sort.OwnSortedInts
import Derived.Lib.RowBridge
import Derived.Shelf.Sort.Plain
import Derived.Ground.Names2Prog
import Derived.Shelf.Slices.Clone
import Derived.Shelf.Slices.CompactI
import Derived.Shelf.Slices.In.SortNone
import Derived.Ground.SlgnProg
import Derived.Shelf.SlicesE.Clone
import Derived.ProofKit
import Derived.ChangeSame
import Derived.SizedLaws
import Derived.Deep.Slices
import Derived.JoinedOf
import Derived.Test.YtbhofkcbfblijaaGreatProg
import Derived.Test.YtbhofkcbfblijaaGreatRows
/-
  What the law TradeMore needs beside the base that several claims of this seat share: contracts, and the plain law.
-/
set_option linter.all false
section
namespace Go.Proofs.YtbhofkcbfblijaaGreat
open Go.RowKit
section
variable{P:Program}{a:Act}{w:World}{dst:Option Tmp}{ty:TypeId}{pos:String}{Ec:Array Edge}{g:Option (Nat×Bool)}
theorem HG{x y:Operand}{k:IntKind}{m n:Int}{t b:TypeId}(hx:a.eval x=.int k m)(c:a.eval y=.int k n)(h0:0≤m)(h1:1≤n):Eb P ⟨dst,.binOp .rem t x y b,ty,pos,Ec,g⟩ a w (fun u w'=>u=.int k (m%n)∧w'=w):=
 DJ (by
  have e:m.tmod n=m%n:=Int.tmod_eq_emod_of_nonneg h0;have hn:¬n=0:=by omega
  simp[execOp,hx,c,eqGuard,binOp,Op.intDiv,hn,e])
end
section
variable{w w':World}{base:Nat}{e:TypeId}{sz:Nat}{A:Option Addr}{n c:Nat}{xs:List Value}
theorem Rd.pre{α:Type}{enc:α→List Value}{lo hi:Nat}{A:Option Addr}{xs:List α}(h:Rd w lo hi A (flat enc xs))(k:Nat):Rd w lo hi A (flat enc (xs.take k)):=by
 refine⟨h.1,?_⟩;have e:flat enc xs=flat enc (xs.take k)++flat enc (xs.drop k):=by unfold flat;rw[←List.flatMap_append,List.take_append_drop]
 rcases h.2 with h0|⟨b,o,a,hl,hh,c⟩
 ·refine .inl ?_;rw[e] at h0;exact(List.append_eq_nil_iff.1 h0).1
 ·refine .inr ⟨b,o,a,hl,hh,fun j u hu=>c j u ?_⟩;rw[e,List.getElem?_append_left (List.getElem?_eq_some_iff.1 hu).1];exact hu
end
def rem(a b:Int):Option Int:=if 0≤a∧1≤b then some (a%b) else none
theorem IN{a b y:Int}(h:rem a b=some y):y=a%b∧0≤a∧1≤b:=by
 unfold rem at h;split at h
 ·exact⟨(Option.some.inj h).symm,by assumption⟩
 ·cases h
theorem Fu{α:Type}{a b:Int}{f:Int→Option α}{r:α}(h:(rem a b).bind f=some r):(0≤a∧1≤b)∧f (a%b)=some r:=by
 obtain⟨y,h1,h2⟩:=Option.bind_eq_some_iff.1 h;obtain⟨rfl,c⟩:=IN h1;exact⟨c,h2⟩
end Go.Proofs.YtbhofkcbfblijaaGreat
end
section
namespace Go.Proofs.YtbhofkcbfblijaaGreat
open Go.RowKit Go.WideShapes
def CY(a n:Int):Int:=a*2^n.toNat
def EV(a n:Int):Option Unit:=if 0≤n∧n<64∧-9223372036854775808≤a*2^n.toNat∧a*2^n.toNat≤9223372036854775807 then some () else none
theorem E3{α:Type}{a n:Int}{f:Unit→Option α}{r:α}(h:(EV a n).bind f=some r):(0≤n∧n<64∧fits (CY a n))∧f ()=some r:=by
 unfold EV at h;split at h
 ·rename_i h1;exact⟨⟨h1.1,h1.2.1,h1.2.2⟩,h⟩
 ·cases h
def ER(a n:Int):Int:=a/2^n.toNat
def Hn(a n:Int):Option Unit:=if 0≤n∧n<64 then some () else none
theorem GB{α:Type}{a n:Int}{f:Unit→Option α}{r:α}(h:(Hn a n).bind f=some r):(0≤n∧n<64)∧f ()=some r:=by
 unfold Hn at h;split at h
 ·exact⟨by assumption,h⟩
 ·cases h
def GG(a b:Int):Option Unit:=if (0≤a∧a≤9223372036854775807)∧(0≤b∧b≤9223372036854775807) then some () else none
theorem F5{α:Type}{a b:Int}{f:Unit→Option α}{r:α}(h:(GG a b).bind f=some r):((0≤a∧a≤9223372036854775807)∧(0≤b∧b≤9223372036854775807))∧f ()=some r:=by
 unfold GG at h;split at h
 ·exact⟨by assumption,h⟩
 ·cases h
def It(a b:Int):Int:=((a.toNat&&&b.toNat:Nat):Int)
section
variable{P:Program}{a:Act}{w:World}{dst:Option Tmp}{ty:TypeId}{pos:String}{Ec:Array Edge}{g:Option (Nat×Bool)}
theorem HL{x y:Operand}{m n:Int}{k:IntKind}{t b:TypeId}(hx:a.eval x=.int .i64 m)(c:a.eval y=.int k n)(h:0≤n∧n<64∧fits (CY m n)):Eb P ⟨dst,.binOp .shl t x y b,ty,pos,Ec,g⟩ a w (fun u w'=>u=.int .i64 (CY m n)∧w'=w):=
 DJ (by
  have hn:¬n<0:=by omega
  have hb:min n.toNat IntKind.i64.bits=n.toNat:=by
   have:IntKind.i64.bits=64:=rfl;omega
  have d:IntKind.i64.wrap (m*2^n.toNat)=m*2^n.toNat:=GO h.2.2;simp[execOp,hx,c,eqGuard,binOp,Op.shift,hn,hb,d,CY])
theorem J2{x y:Operand}{m n:Int}{k:IntKind}{t b:TypeId}(hx:a.eval x=.int .i64 m)(c:a.eval y=.int k n)(h:0≤n∧n<64):Eb P ⟨dst,.binOp .shr t x y b,ty,pos,Ec,g⟩ a w (fun u w'=>u=.int .i64 (ER m n)∧w'=w):=
 DJ (by
  have hn:¬n<0:=by omega
  have hb:min n.toNat IntKind.i64.bits=n.toNat:=by
   have:IntKind.i64.bits=64:=rfl;omega
  have d:m.fdiv (2^n.toNat)=m/2^n.toNat:=Int.fdiv_eq_ediv_of_nonneg m (Int.le_of_lt (Int.pow_pos (by decide)));simp[execOp,hx,c,eqGuard,binOp,Op.shift,hn,hb,d,ER])
theorem H0{m:Int}(h0:0≤m)(h1:m≤9223372036854775807):(BitVec.ofInt 64 m).toNat=m.toNat:=by
 rw[BitVec.toNat_ofInt];omega
theorem HX{k:Nat}(h:k≤9223372036854775807):IntKind.i64.wrap (k:Int)=k:=GO ⟨by omega,by omega⟩
theorem Qs{x y:Operand}{m n:Int}{t b:TypeId}(hx:a.eval x=.int .i64 m)(c:a.eval y=.int .i64 n)(h:(0≤m∧m≤9223372036854775807)∧(0≤n∧n≤9223372036854775807)):Eb P ⟨dst,.binOp .and t x y b,ty,pos,Ec,g⟩ a w (fun u w'=>u=.int .i64 (It m n)∧w'=w):=
 DJ (by
  have e:(BitVec.ofInt 64 m&&&BitVec.ofInt 64 n).toNat=m.toNat&&&n.toNat:=by rw[BitVec.toNat_and,H0 h.1.1 h.1.2,H0 h.2.1 h.2.2]
  have d:IntKind.i64.wrap ((m.toNat&&&n.toNat:Nat):Int)=((m.toNat&&&n.toNat:Nat):Int):=HX (Nat.le_trans Nat.and_le_left (by omega));have key:(Op.intBits .and .i64 m n).run P w=.ok (.int .i64 (It m n)) w:=by
   show(pure (Value.int .i64 (IntKind.i64.wrap ((BitVec.ofInt 64 m&&&BitVec.ofInt 64 n).toNat:Int))):Sem Value).run P w=_;rw[e,d];rfl
  simp[execOp,hx,c,eqGuard,binOp,key])
end
def Ed(g:Nat)(h:Aj)(d:List Int)(c:DO):Nat→Int→(List (List Int×Int))→Option ((Bool×(List (List Int×Int)))⊕((List (List Int×Int))))
 |0,_,_=>none
 |l+1,a,b=>cond (decide (a<(d.length:Int))) ((idx d a).bind fun e=>(G2 g h e).bind fun i=>cond (!i) (some (.inl (false,b))) ((Ov d.length (0:Int) a).bind fun _=>(Ip g (Gv d (0:Int) a) e).bind fun j=>cond (j) (some (.inl (false,b))) ((idx h.Aw a).bind fun k=>(EK g (⟨c.BD,c.BE,c.By,c.DZ,c.Ce,c.Ca,c.CH,c.weights,c.Dq,b⟩:DO) k e).bind fun f=>cond (!f.1) (some (.inl (false,f.2))) ((i64 (a+1)).bind fun _=>Ed g h d c l (a+1) f.2)))) (some (.inr b))
def FF(b:Nat)(c:Aj)(e:List Int):Option (Bool):=
 (CD b c true).bind fun d=>Option.elim d.1 (cond (d.2 !=0) (some (false)) (none)) (fun f=>cond (d.2 !=0) (some (false)) (cond ((e.length:Int) !=(c.Aw.length:Int)) (some (false)) ((Ed b c e f b (0:Int) f.known).bind fun z=>Sum.elim (fun a=>some (a.1)) (fun a=>some (true)) z)))
def BG(c:Int):Nat→(List Int)→Int→Option ((List Int))
 |0,_,_=>none
 |d+1,b,a=>(E5 .u64 a).bind fun _=>(Hn c a).bind fun _=>cond (decide ((0:Int)<(ER c a))) ((E5 .u64 a).bind fun _=>(Hn c a).bind fun _=>(rem (ER c a) (2:Int)).bind fun _=>cond (((ER c a)%2)==1) ((EG (((b.length+[a].length:Nat):Int)≤140737488355328/8)).bind fun _=>(i64 (a+1)).bind fun _=>BG c d (b++[a]) (a+1)) ((i64 (a+1)).bind fun _=>BG c d b (a+1))) (some (b))
def CN(a:Nat)(b:Int):Option ((List Int)):=
 (BG b a ([]:List Int) (0:Int)).bind fun c=>some (c)
def CM(b:Nat)(a:List Int):Option ((List Int)):=
 (EG (((([]:List Int).length+a.length:Nat):Int)≤140737488355328/8)).bind fun _=>some (([]:List Int)++a)
def B6(a:Nat)(b:Aj):Option (Bool):=
 (Gf a b).bind fun c=>cond (c) ((F6 a b).bind fun d=>some (d==0)) (some (false))
def Em(c:Nat)(a:Aj)(b:Int):Option ((List Int)):=
 (E5 .i64 b).bind fun _=>(E5 .u64 (a.Ac.length:Int)).bind fun _=>(EV (1:Int) (a.Ac.length:Int)).bind fun _=>(i64 ((CY (1:Int) (a.Ac.length:Int))-1)).bind fun _=>(GG b ((CY (1:Int) (a.Ac.length:Int))-1)).bind fun _=>(CN c (It b ((CY (1:Int) (a.Ac.length:Int))-1))).bind fun d=>some (d)
def Pf(c:Nat)(a:AN)(b:AN):Option (Bool):=
 cond (decide (b.Lo≤a.Lo)) (some (decide (a.Hi≤b.Hi))) (some (false))
end Go.Proofs.YtbhofkcbfblijaaGreat
end
section
namespace Go.Proofs.YtbhofkcbfblijaaGreat
theorem I7{β:Type}{a b:Int}{f:Int→Option β}(h0:0≤a)(h1:1≤b):(rem a b).bind f=f (a%b):=bd (if_pos ⟨h0,h1⟩)
theorem PC{β:Type}{n:Int}{b:Nat}{f:Unit→Option β}(h0:0≤n)(h1:n*b≤140737488355328)(h2:n≤140737488355328):(R9 n b).bind f=f ():=bd (if_pos ⟨h0,h1,h2⟩)
theorem Pc{β:Type}{n:Nat}{a b:Int}{f:Unit→Option β}(h:0≤a∧a≤b∧b≤(n:Int)):(Ov n a b).bind f=f ():=bd (if_pos h)
section
variable{K:Nat}(hK:1000≤K)
include hK
theorem KM{σ:Type}(cb:σ→Int→Option (Bool×σ))(p:List Int)(a:p.length≤900)(s:σ):J0 K cb p s=run cb p s:=
 MR (F:=Gh (fun(st:σ) (x:Int)=>(IU K cb x st).bind fun r=>some (r.1,r.2)) p) (fun _ _ _=>rfl) a hK s
end
theorem Jy(K:Nat){r:AN}(h:EU r):GJ K r=some (BI r):=Jl K h
section
variable{K:Nat}(hK:1000≤K)
include hK
theorem OJ(a b:Int):GW K [a,b]=some (min a b):=by
 unfold GW;rw[bd (RG hK a b)]
theorem Jp(r:AN)(n:Int):FH K r n=some ⟨min r.Lo n,max r.Hi n⟩:=by
 unfold FH;rw[bd (OJ hK _ _)]
end
def Er:List AN→Int→List Int
 |[],_=>[]
 |r::rs,n=>(r.Lo+n%BI r)::Er rs (n/BI r)
namespace OkC
variable{c:AV}(h:OkC c)
include h
end OkC
theorem FA(r:AN)(l:List AN):Dm (r::l)=BI r*Dm l:=by
 have:∀(l:List AN) (s:Int),l.foldl (fun n r=>n*BI r) s=s*l.foldl (fun n r=>n*BI r) 1:=by
  intro l
  induction l with
  |nil=>intro s;simp
  |cons r l ih=>intro s;rw[List.foldl_cons,List.foldl_cons,ih,ih (1*BI r),Int.one_mul,Int.mul_assoc]
 unfold Dm;rw[List.foldl_cons,this,Int.one_mul]
theorem G8:∀{rs:List AN} {l:List Int},(∀r∈rs,EU r)→DE rs l=true→∃n:Nat,(n:Int)<Dm rs∧Er rs (n:Int)=l
 |[],[],_,_=>⟨0,by simp[Dm],rfl⟩
 |[],_::_,_,h=>by cases h
 |_::_,[],_,h=>by cases h
 |r::rs,x::xs,hr,h=>by
  rw[DE,Bool.and_eq_true] at h;obtain⟨n,hn,e⟩:=G8 (fun r b=>hr r (List.mem_cons_of_mem _ b)) h.2;have h1:=Dv.1 h.1;have h2:=D0 (hr r (List.mem_cons_self ..));have a:0≤x-r.Lo∧x-r.Lo<BI r:=by unfold BI;omega
  have c:0≤BI r*(n:Int):=Int.mul_nonneg (by omega) (by omega);refine⟨(x-r.Lo+BI r*n).toNat,?_,?_⟩
  ·rw[FA];have:BI r*((n:Int)+1)≤BI r*Dm rs:=Int.mul_le_mul_of_nonneg_left (by omega) (by omega);rw[Int.mul_add] at this;omega
  ·rw[Int.toNat_of_nonneg (by omega),Er,Int.add_mul_emod_self_left,Int.emod_eq_of_lt a.1 a.2,Int.add_mul_ediv_left _ _ (by omega),Int.ediv_eq_zero_of_lt a.1 a.2,Int.zero_add,e]
   congr 1;omega
def Bo (c:AV):List (List Int):=((List.range (Dm c.AF).toNat).map fun n:Nat=>Er c.AF (n:Int)).filter (BJ c)
theorem CV{c:AV}(a:OkC c){l:List Int}:l∈Bo c↔BJ c l=true:=by
 unfold Bo;rw[List.mem_filter,List.mem_map];refine⟨fun h=>h.2,fun h=>⟨?_,h⟩⟩;have h1:=h;unfold BJ at h1;rw[Bool.and_eq_true] at h1;obtain⟨n,hn,e⟩:=G8 a.ok h1.1;exact⟨n,List.mem_range.2 (by omega),e⟩
section
variable{K:Nat}(hK:1000≤K)
include hK
end
end Go.Proofs.YtbhofkcbfblijaaGreat
end
section
namespace Go.Proofs.YtbhofkcbfblijaaGreat
namespace OkT
variable{t:Aj}(h:OkT t)
include h
theorem ol:t.Aw.length≤3:=(HC h.fault).2.2.1
end OkT
section
variable{K:Nat}(hK:1000≤K)
include hK
end
section
variable{K:Nat}(hK:1000≤K)
include hK
end
end Go.Proofs.YtbhofkcbfblijaaGreat
end
section
namespace Go.Proofs.YtbhofkcbfblijaaGreat
theorem FB{σ α:Type}(cb:σ→α→Option (Bool×σ))(a:List α):∀(b:List α) (s:σ),run cb (b++a) s=(run cb b s).bind fun r=>cond r.1 (run cb a r.2) (some (false,r.2))
 |[],s=>rfl
 |x::l,s=>by
  simp only[List.cons_append,run];cases cb s x with
  |none=>rfl
  |some r=>
   simp only[Option.bind_some];cases h:r.1 with
   |false=>simp
   |true=>simpa using FB cb a l r.2
def CE:List AN→List (List Int)
 |[]=>[[]]
 |r::rs=>(List.range' 0 (BI r).toNat).flatMap fun n:Nat=>(CE rs).map fun x=>(r.Lo+(n:Int))::x
theorem Fh:∀{rs:List AN} {l:List Int},(∀r∈rs,EU r)→(l∈CE rs↔DE rs l=true)
 |[],[],_=>by simp[CE,DE]
 |[],_::_,_=>by simp[CE,DE]
 |r::rs,[],_=>by simp[CE,DE]
 |r::rs,x::xs,h=>by
  have h1:=h r (List.mem_cons_self ..);have h2:=D0 h1;rw[CE,List.mem_flatMap,DE,Bool.and_eq_true,←Fh (fun r hr=>h r (List.mem_cons_of_mem _ hr)),Dv];constructor
  ·rintro⟨n,hn,hx⟩;obtain⟨y,a,e⟩:=List.mem_map.1 hx;injection e with c b
   subst b;rw[List.mem_range'_1] at hn;refine⟨?_,a⟩;unfold BI at hn h2;omega
  ·rintro⟨hx,a⟩;refine⟨(x-r.Lo).toNat,?_,List.mem_map.2 ⟨xs,a,?_⟩⟩
   ·rw[List.mem_range'_1];unfold BI;omega
   ·congr 1;omega
theorem Gq:∀{rs:List AN},(∀r∈rs,EU r)→((CE rs).length:Int)=Dm rs
 |[],_=>rfl
 |r::rs,h=>by
  have h2:=D0 (h r (List.mem_cons_self ..));have a:=Gq (rs:=rs) (fun r hr=>h r (List.mem_cons_of_mem _ hr));rw[FA,←a,CE,List.length_flatMap];have:∀(n i:Nat),((List.range' i n).map fun n:Nat=>((CE rs).map fun x=>(r.Lo+(n:Int))::x).length).sum=n*(CE rs).length:=by
   intro n
   induction n with
   |zero=>intro i;simp
   |succ n ih=>intro i;rw[List.range'_succ,List.map_cons,List.sum_cons,ih,List.length_map,Nat.succ_mul,Nat.add_comm]
  rw[this,Int.natCast_mul,Int.toNat_of_nonneg (by omega)]
theorem take_set{out:List Int}{i:Nat}(v:Int)(h:i<out.length):(out.set i v).take (i+1)=out.take i++[v]:=by
 rw[List.take_succ_eq_append_getElem (by simpa using h),List.take_set_of_le (Nat.le_refl _),List.getElem_set_self]
section
variable{K:Nat}(hK:1000≤K)
include hK
theorem Gr{σ:Type}(cb:σ→List Int→Option (Bool×σ))(d:Int→List AN→List Int→σ→Option (Bool×List Int×σ))(l:List AN)(hl:l.length≤100)(i:Nat)(hi:i<l.length)(hr:EU l[i])
  (ih:∀(out:List Int) (s:σ) (b:Bool) (s':σ),out.length=l.length→run cb ((CE (l.drop (i+1))).map fun x=>out.take (i+1)++x) s=some (b,s')→∃c,c.length=l.length∧c.take (i+1)=out.take (i+1)∧d ((i+1:Nat):Int) l out s=some (b,c,s')):
  ∀(e m n:Nat) (out:List Int) (s:σ) (b:Bool) (s':σ),BI l[i]=(n:Int)+e→e<m→out.length=l.length→
   run cb ((List.range' n e).flatMap fun n:Nat=>(CE (l.drop (i+1))).map fun x=>out.take i++(l[i].Lo+(n:Int))::x) s=some (b,s')→
   ∃c,c.length=l.length∧c.take i=out.take i∧(Dd d (i:Int) l (BI l[i]) m (n:Int) out s).bind (fun z=>Sum.elim (fun q=>some (q.1,q.2.1,q.2.2)) (fun q=>some (true,q.1,q.2)) z)=some (b,c,s')
 |e,0,n,out,s,b,s',h,hm,_,_=>by omega
 |0,m+1,n,out,s,b,s',h,hm,j,a=>by
  have:(true,s)=(b,s'):=Option.some.inj a;injection this with k o
  subst k;subst o;refine⟨out,j,rfl,?_⟩;rw[Dd.eq_2,cf (df (by omega))];rfl
 |e+1,m+1,n,out,s,b,s',h,hm,j,a=>by
  have aA:=D0 hr;have t:=hr;unfold EU at t;have g:i<out.length:=by omega
  rw[List.range'_succ,List.flatMap_cons,FB] at a;have u:∀x:List Int,out.take i++(l[i].Lo+(n:Int))::x=(out.set i (l[i].Lo+(n:Int))).take (i+1)++x:=fun x=>by rw[take_set _ g,List.append_assoc];rfl
  simp only[u] at a;cases h1:run cb ((CE (l.drop (i+1))).map fun x=>(out.set i (l[i].Lo+(n:Int))).take (i+1)++x) s with
  |none=>rw[h1] at a;cases a
  |some r=>
   obtain⟨b1,s1⟩:=r;rw[h1,Option.bind_some] at a;obtain⟨f,g1,g2,g3⟩:=ih (out.set i (l[i].Lo+(n:Int))) s b1 s1 (by rw[List.length_set];exact j) h1;have gt:f.take i=out.take i:=by
    have:=congrArg (List.take i) g2;rw[List.take_take,List.take_take,Nat.min_eq_left (by omega),List.take_set_of_le (Nat.le_refl _)] at this;exact this
   rw[Dd.eq_2,ct (dt (by omega)),BS hi,AZ (by omega) (by omega),BS g,AZ (by omega) (by omega),CZ i,Int.toNat_natCast,bd g3];cases b1 with
   |false=>
    have:(false,s1)=(b,s'):=Option.some.inj a;injection this with k o
    subst k;subst o;exact⟨f,g1,gt,rfl⟩
   |true=>
    rw[nt,AZ (by omega) (by omega),CZ n];simp only[←u] at a;rw[←gt] at a;obtain⟨p,v,w,y⟩:=Gr cb d l hl i hi hr ih e m (n+1) f s1 b s' (by omega) (by omega) g1 a;exact⟨p,v,w.trans gt,y⟩
theorem G9{σ:Type}(cb:σ→List Int→Option (Bool×σ))(l:List AN)(hl:l.length≤100)(m:∀r∈l,EU r):∀(d k i:Nat) (out:List Int) (s:σ) (b:Bool) (s':σ),l.length=i+d→d<k→out.length=l.length→
  run cb ((CE (l.drop i)).map fun x=>out.take i++x) s=some (b,s')→∃c,c.length=l.length∧c.take i=out.take i∧CQ K cb k (i:Int) l out s=some (b,c,s')
 |d,0,i,out,s,b,s',h,hk,_,_=>by omega
 |0,k+1,i,out,s,b,s',h,hk,f,a=>by
  rw[List.drop_eq_nil_of_le (by omega)] at a;have e:(CE []).map (fun x=>out.take i++x)=[out]:=by
   show[out.take i++[]]=[out];rw[List.append_nil,List.take_of_length_le (by omega)]
  rw[e] at a;refine⟨out,f,rfl,?_⟩;rw[CQ.eq_2,ct (EO (by omega))];simp only[run] at a;cases h1:cb s out with
  |none=>rw[h1] at a;cases a
  |some r=>
   obtain⟨b1,s1⟩:=r;rw[h1,Option.bind_some] at a;cases b1 with
   |true=>
    have:(true,s1)=(b,s'):=Option.some.inj a;injection this with g j
    subst g;subst j;rfl
   |false=>
    have:(false,s1)=(b,s'):=Option.some.inj a;injection this with g j
    subst g;subst j;rfl
 |d+1,k+1,i,out,s,b,s',h,hk,f,a=>by
  have hi:i<l.length:=by omega
  have hr:=m _ (List.getElem_mem hi);have n:=D0 hr;rw[List.drop_eq_getElem_cons hi,CE,List.map_flatMap] at a;simp only[List.map_map] at a;rw[CQ.eq_2,cf (Gw (by omega)),BS hi,bd (Jy K hr)];have:=Gr hK cb (CQ K cb k) l hl i hi hr (fun out s b s' h1 h2=>G9 cb l hl m d k (i+1) out s b s' (by omega) (by omega) h1 h2) (BI l[i]).toNat K 0 out s b s' (by omega) (by omega) f a;rw[Int.natCast_zero] at this;exact this
theorem Jz{σ:Type}(cb:σ→List Int→Option (Bool×σ))(l:List AN)(hl:l.length≤100)(a:∀r∈l,EU r)(s:σ)(b:Bool)(s':σ)(h:run cb (CE l) s=some (b,s')):EY K cb l s=some s':=by
 unfold EY;obtain⟨c,_,_,h2⟩:=G9 hK cb l hl a l.length K 0 (List.replicate (l.length:Int).toNat 0) s b s' (by omega) (by omega) (by simp) (by simpa using h);rw[Int.natCast_zero] at h2;rw[PC (by omega) (by omega) (by omega),bd h2]
end
theorem JA:∀{a b:List Int},a.length=b.length→a.length≤3→arr a=arr b→a=b
 |[],[],_,_,_=>rfl
 |[a],[b],_,_,h=>by injection h with h1;exact congrArg (fun x=>[x]) h1
 |[a,a2],[b,b2],_,_,h=>by
  injection h with h1 h2
  rw[show a=b from h1,show a2=b2 from h2]
 |[a,a2,a3],[b,b2,b3],_,_,h=>by
  injection h with h1 h2 c
  rw[show a=b from h1,show a2=b2 from h2,show a3=b3 from c]
 |_::_::_::_::_,_,_,h,_=>by simp at h
 |[],_::_,h,_,_=>by cases h
 |[_],[],h,_,_=>by cases h
 |[_],_::_::_,h,_,_=>by simp at h
 |[_,_],[],h,_,_=>by cases h
 |[_,_],[_],h,_,_=>by simp at h
 |[_,_],_::_::_::_,h,_,_=>by simp at h
 |[_,_,_],[],h,_,_=>by cases h
 |[_,_,_],[_],h,_,_=>by simp at h
 |[_,_,_],[_,_],h,_,_=>by simp at h
 |[_,_,_],_::_::_::_::_,h,_,_=>by simp at h
theorem H2 {t:Aj} (hk:t.Ac.length≤3) {l l':List Int} (h:Av t l=Av t l'):∀w∈t.Ac,CI l w=CI l' w:=by
 have e:=JA (by simp) (by simpa using hk) h;intro w hw;obtain⟨i,hi,rfl⟩:=List.getElem_of_mem hw;have:=congrArg (fun x=>x.getD i 0) e;simpa[List.getElem?_eq_getElem hi] using this
theorem F8{t:Aj}(hk:t.Ac.length≤3){l l':List Int}(h:Av t l=Av t l'):As t l=As t l':=by
 unfold As;exact List.map_congr_left fun w hw=>by rw[H2 hk h w hw]
theorem KN{x y:Be}(h:[x.a0,x.a1,x.a2]=[y.a0,y.a1,y.a2]):x=y:=by cases x;cases y;simpa using h
structure Tr (t:Aj) (L:List (List Int)):Prop where
 Jq:∀l∈L,BJ t.C l=true
 all:∀l,BJ t.C l=true→∃l'∈L,Av t l'=Av t l
 len:L.length≤150
section
variable{K:Nat}(hK:1000≤K)
include hK
theorem Gs {t:Aj} (f:OkT t):∀(X:List (List Int)) (a:List (List Int)),(∀l∈X,DE t.Al l=true)→a.length+X.length≤5000→
  ∃L:List (List Int),run (fun(st:List Be) (x:List Int)=>CT K t st x) X (a.map (Av t))=some (true,L.map (Av t))∧(∀l∈L,l∈a∨l∈X∧BJ t.C l=true)∧(∀l∈a,l∈L)∧(∀l∈X,BJ t.C l=true→∃l'∈L,Av t l'=Av t l)∧L.length≤a.length+X.length
 |[],a,_,_=>⟨a,rfl,fun l h=>.inl h,fun l h=>h,fun l h=>(nomatch h),by simp⟩
 |x::X,a,i,hlen=>by
  have hx:=i x (List.mem_cons_self ..);have u:=f.hl;have v:=HA hx;rw[List.length_cons] at hlen;have n:Fs K ⟨t.Al,t.Ac,t.Ap⟩ x=some (BJ t.C x):=IB hK (c:=t.C) f.c (by omega)
  
  have step:∃b:List (List Int),CT K t (a.map (Av t)) x=some (true,b.map (Av t))∧(∀l∈b,l∈a∨l=x∧BJ t.C x=true)∧(∀l∈a,l∈b)∧(BJ t.C x=true→∃l'∈b,Av t l'=Av t x)∧b.length≤a.length+1:=by
   unfold CT;rw[bd n];cases g:BJ t.C x with
   |false=>exact⟨a,by rw[nf],fun l h=>.inl h,fun l h=>h,fun h=>(nomatch h),by omega⟩
   |true=>
    have d:∃b:List (List Int),(some (true,a.map (Av t)++[Av t x]):Option (Bool×List Be))=some (true,b.map (Av t))∧(∀l∈b,l∈a∨l=x∧true=true)∧(∀l∈a,l∈b)∧(true=true→∃l'∈b,Av t l'=Av t x)∧b.length≤a.length+1:=
     ⟨a++[x],by simp,fun l h=>by simpa using h,fun l h=>by simp[h],fun _=>⟨x,by simp,rfl⟩,by simp⟩
    rw[nt,bd (KI hK f hx)]
    by_cases h0:a.length=0
    ·rw[ct (EO (by simp[h0])),Dt (by simp;omega)];exact d
    ·rw[cf (Gw (by simp;simpa using h0)),AZ (by simp;omega) (by simp;omega)];have e:(((a.map (Av t)).length:Int))-1=((a.length-1:Nat):Int):=by rw[List.length_map];omega
     have j:a.length-1<(a.map (Av t)).length:=by rw[List.length_map];omega
     rw[e,BS j];cases k:([((a.map (Av t))[a.length-1]).a0,((a.map (Av t))[a.length-1]).a1,((a.map (Av t))[a.length-1]).a2] !=[(Av t x).a0,(Av t x).a1,(Av t x).a2]) with
     |true=>rw[ct rfl,Dt (by simp;omega)];exact d
     |false=>
      rw[cf rfl];refine⟨a,rfl,fun l h=>.inl h,fun l h=>h,fun _=>⟨a[a.length-1]'(by omega),List.getElem_mem _,?_⟩,by omega⟩;have h1:[((a.map (Av t))[a.length-1]).a0,((a.map (Av t))[a.length-1]).a1,((a.map (Av t))[a.length-1]).a2]=[(Av t x).a0,(Av t x).a1,(Av t x).a2]:=by simpa using k
      rw[List.getElem_map] at h1;exact KN h1
  obtain⟨b,s1,s2,o,p,w⟩:=step;obtain⟨L,q,r,m,s,y⟩:=Gs f X b (fun l hl=>i l (List.mem_cons_of_mem _ hl)) (by omega);refine⟨L,by rw[run,bd s1,ct rfl];exact q,?_,fun l hl=>m l (o l hl),?_,by rw[List.length_cons];omega⟩
  ·intro l hl;rcases r l hl with h|h
   ·rcases s2 l h with h|⟨rfl,h⟩
    ·exact .inl h
    ·exact .inr ⟨List.mem_cons_self ..,h⟩
   ·exact .inr ⟨List.mem_cons_of_mem _ h.1,h.2⟩
  ·intro l hl g;rcases List.mem_cons.1 hl with rfl|hl
   ·obtain⟨l',h1,h2⟩:=p g;exact⟨l',m l' h1,h2⟩
   ·exact s l hl g
theorem KO{t:Aj}(a:OkT t):∃L,Tr t L∧Ej K t=some (wk t (L.map (Av t)) []):=by
 have j:=a.hl;have hlen:((CE t.Al).length:Int)=Dm t.Al:=Gq a.c.ok;have b:=a.many;obtain⟨L,d,e,_,f,i⟩:=Gs hK a (CE t.Al) [] (fun l hl=>(Fh (rs:=t.Al) a.c.ok).1 hl) (by simp;omega);refine⟨L,⟨fun l hl=>?_,fun l hl=>f l ((Fh (rs:=t.Al) a.c.ok).2 (HW hl)) hl,by simp at i;omega⟩,?_⟩
 ·rcases e l hl with h|h
  ·cases h
  ·exact h.2
 ·unfold Ej;have g:=Jz hK _ t.Al (by omega) a.c.ok _ true _ d;rw[List.map_nil] at g;rw[bd (NP hK a),bd (Nn hK t (by omega)),bd g];rfl
def DU (t:Aj) (out:List Int) (L:List (List Int)):List (Be×Be):=(L.filter fun l=>BB (As t l) out 0 t.Ao).map fun l=>(Av t l,arr (As t l))
theorem Fi{σ:Type}{t:Aj}(f:OkT t){out:List Int}(o:out.length≤900)(cb:σ→(Be×Be)→Option (Bool×σ))(L:List (List Int))(u:L.length≤150)(c:List (List Int×Int)):∀(d n i:Nat) (m:List (List Int×Int)) (s:σ) (b:Bool) (s':σ),L.length=i+d→d<n→Dr t m→
  run cb (DU t out (L.drop i)) s=some (b,s')→∃g,Dr t g∧(CB cb K (wk t (L.map (Av t)) c) out n (i:Int) m s).bind (fun z=>Sum.elim (fun q=>some (q.1,q.2)) (fun q=>some (q.1,q.2)) z)=some (g,s')
 |d,0,i,m,s,b,s',h,hn,_,_=>by omega
 |0,n+1,i,m,s,b,s',h,hn,hm,a=>by
  have e:((wk t (L.map (Av t)) c).Dq.length:Int)=L.length:=by show((List.map _ _).length:Int)=_;simp
  rw[List.drop_eq_nil_of_le (by omega)] at a;have:(true,s)=(b,s'):=Option.some.inj a;injection this with x j
  subst j;refine⟨m,hm,?_⟩;rw[CB.eq_2,cf (df (by omega))];rfl
 |d+1,n+1,i,m,s,b,s',h,hn,hm,a=>by
  have e:((wk t (L.map (Av t)) c).Dq.length:Int)=L.length:=by show((List.map _ _).length:Int)=_;simp
  have v:=f.kl;have y:=f.nl;have hi:i<L.length:=by omega
  have l:i<(wk t (L.map (Av t)) c).Dq.length:=by show i<(List.map _ _).length;simpa using hi
  have j:(wk t (L.map (Av t)) c).Dq[i]'l=Av t L[i]:=by simp[wk]
  obtain⟨p,k,g1⟩:=MC hK f (L.map (Av t)) hm L[i];have g2:DV K t (arr (As t L[i])) out=some (BB (As t L[i]) out 0 t.Ao):=No hK t (by rw[Df];exact v) (fun n hn=>by rw[Df];exact(f.note n hn).1) (by omega) o;rw[CB.eq_2,ct (dt (by omega)),BS l,j];show∃g,Dr t g∧(((FK K (wk t (L.map (Av t)) m) (Av t L[i])).bind _).bind _)=_;rw[bd g1];show∃g,Dr t g∧(((DV K t (arr (As t L[i])) out).bind _).bind _)=_;rw[bd g2];unfold DU at a;rw[List.drop_eq_getElem_cons hi,List.filter_cons] at a;cases hr:BB (As t L[i]) out 0 t.Ao with
  |false=>
   rw[hr,if_neg (by simp)] at a;rw[cf rfl,AZ (by omega) (by omega),CZ i];exact Fi f o cb L u c d n (i+1) p s b s' (by omega) (by omega) k a
  |true=>
   rw[hr,if_pos rfl,List.map_cons,run] at a;rw[ct rfl];cases w:cb s (Av t L[i],arr (As t L[i])) with
   |none=>rw[w] at a;cases a
   |some r=>
    obtain⟨b1,s1⟩:=r;rw[w,Option.bind_some] at a;rw[Option.bind_some];cases b1 with
    |false=>
     have:(false,s1)=(b,s'):=Option.some.inj a;injection this with x j
     subst j;exact⟨p,k,rfl⟩
    |true=>
     rw[nt,AZ (by omega) (by omega),CZ i];exact Fi f o cb L u c d n (i+1) p s1 b s' (by omega) (by omega) k a
theorem Gt{σ:Type}{t:Aj}(c:OkT t){out:List Int}(d:out.length≤900)(cb:σ→(Be×Be)→Option (Bool×σ)){L:List (List Int)}(e:L.length≤150){m:List (List Int×Int)}(hm:Dr t m){s:σ}{b:Bool}{s':σ}
  (h:run cb (DU t out L) s=some (b,s')):∃a,Dr t a∧FG K cb (wk t (L.map (Av t)) m) out s=some (a,s'):=
 Fi hK c d cb L e m L.length K 0 m s b s' (by omega) (by omega) hm (by rw[List.drop_zero];exact h)
theorem GN{t:Aj}(c:OkT t){out:List Int}(d:out.length≤900){L:List (List Int)}(f:L.length≤150){m:List (List Int×Int)}(hm:Dr t m):
  ∃a,Dr t a∧BM K (wk t (L.map (Av t)) m) out=some (L.any fun l=>BB (As t l) out 0 t.Ao,a):=by
 have hr:∃b,run (fun(st:Bool×Bool) (x:Be×Be)=>cond st.2 none (Ff st.1 x)) (DU t out L) (false,false)=some (b,(L.any fun l=>BB (As t l) out 0 t.Ao,L.any fun l=>BB (As t l) out 0 t.Ao)):=by
  have e:(L.any fun l=>BB (As t l) out 0 t.Ao)= !(DU t out L).isEmpty:=by
   unfold DU;rw[Bool.eq_iff_iff,List.any_eq_true];simp
  rw[e];cases DU t out L with
  |nil=>exact⟨true,rfl⟩
  |cons x X=>exact⟨false,rfl⟩
 obtain⟨b,hr⟩:=hr;obtain⟨a,h1,h2⟩:=Gt hK c d _ f hm hr;refine⟨a,h1,?_⟩;unfold BM;rw[bd h2];cases L.any fun l=>BB (As t l) out 0 t.Ao<;>rfl
end
theorem RV(a b:Nat):It (a:Int) (b:Int)=((a&&&b:Nat):Int):=by unfold It;rw[Int.toNat_natCast,Int.toNat_natCast]
theorem KL{β:Type}{a b:Int}{f:Unit→Option β}(h0:0≤a∧a≤9223372036854775807)(h1:0≤b∧b≤9223372036854775807):(GG a b).bind f=f ():=bd (if_pos ⟨h0,h1⟩)
def CF(t:Aj)(l:List Int):Bool:=BJ t.C l&&BB (As t l) [] 0 t.Ao
def Bd(t:Aj):List (List Int):=(Bo t.C).filter fun l=>BB (As t l) [] 0 t.Ao
section
variable{K:Nat}(hK:1000≤K)
include hK
end
section
variable{K:Nat}(hK:1000≤K)
include hK
theorem Kp(l:List Int)(hl:l.length≤1000):CM K l=some l:=Pw hK l hl
theorem MN(t:Aj):B6 K t=some (DP t&&decide (CP t=0)):=by
 unfold B6;rw[bd (O5 hK t)];cases h:DP t with
 |false=>rw[cf rfl,Bool.false_and]
 |true=>
  rw[ct rfl,bd (LQ hK t (E9 h)),Bool.true_and];try rfl
end
def B5 (t:Aj):Int:=if CP t≠0 then CP t else if Bo t.C=[] then 11 else 0
def BQ(t:Aj):Int:=if B5 t≠0 then B5 t else if Bd t=[] then 9 else 0
theorem Cq{t:Aj}(h:B5 t=0):CP t=0∧Bo t.C≠[]:=by
 unfold B5 at h;split at h
 ·rename_i h1;exact absurd h h1
 rename_i h1
 split at h
 ·cases h
 exact⟨Decidable.byContradiction h1,‹_›⟩
theorem Ds{t:Aj}(h:BQ t=0):B5 t=0∧Bd t≠[]:=by
 unfold BQ at h;split at h
 ·rename_i h1;exact absurd h h1
 rename_i h1
 split at h
 ·cases h
 exact⟨Decidable.byContradiction h1,‹_›⟩
theorem Jr{α:Type}(l:List α):((l.length:Int)==0)=true↔l=[]:=by
 rw[beq_iff_eq];constructor
 ·intro h;exact List.eq_nil_of_length_eq_zero (by omega)
 ·rintro rfl;rfl
theorem IC{α:Type}{l:List α}(h:l≠[]):((l.length:Int)==0)=false:=by
 rw[Bool.eq_false_iff];exact fun g=>h ((Jr l).1 g)
section
variable{K:Nat}(hK:1000≤K)
include hK
theorem H3{t:Aj}(a:OkT t){L:List (List Int)}(b:Tr t L):L=[]↔Bo t.C=[]:=by
 constructor
 ·rintro rfl;refine List.eq_nil_iff_forall_not_mem.2 fun l hl=>?_;obtain⟨_,h,_⟩:=b.all l ((CV a.c).1 hl);cases h
 ·intro h;refine List.eq_nil_iff_forall_not_mem.2 fun l hl=>?_;have:=(CV a.c).2 (b.Jq l hl);rw[h] at this;cases this
theorem JJ{t:Aj}(a:OkT t){L:List (List Int)}(b:Tr t L)(p:List Int→Bool)(d:∀l l',Av t l=Av t l'→p l=p l'):L.any p=(Bo t.C).any p:=by
 rw[Bool.eq_iff_iff,List.any_eq_true,List.any_eq_true];constructor
 ·rintro⟨l,hl,h⟩;exact⟨l,(CV a.c).2 (b.Jq l hl),h⟩
 ·rintro⟨l,hl,h⟩;obtain⟨l',h1,h2⟩:=b.all l ((CV a.c).1 hl);exact⟨l',h1,by rw[d l' l h2];exact h⟩
theorem G3 {t:Aj} (h:DP t=true) (a:Bool):
  (B5 t=0∧a=true∧∃L,Tr t L∧L≠[]∧CX K t a=some (some (wk t (L.map (Av t)) []),0))∨
  (¬(B5 t=0∧a=true)∧CX K t a=some (none,if CP t=0∧a=false then 2 else B5 t)):=by
 unfold CX;rw[bd (Iq hK t (E9 h))]
 by_cases h0:CP t=0
 ·have b:=D6 h h0;rw[cf (E6 h0)];cases a with
  |false=>exact .inr ⟨by simp,by rw[nf,if_pos ⟨h0,rfl⟩]⟩
  |true=>
   obtain⟨L,c,e⟩:=KO hK b;rw[nt,bd e];have d:(wk t (L.map (Av t)) []).Dq=L.map (Av t):=rfl;rw[d,List.length_map]
   by_cases h1:L=[]
   ·have h2:=(H3 hK b c).1 h1;refine .inr ⟨by rintro⟨f,_⟩;exact(Cq f).2 h2,?_⟩;rw[ct ((Jr _).2 h1),if_neg (by simp)];unfold B5;rw[if_neg (by simp[h0]),if_pos h2]
   ·have h2:Bo t.C≠[]:=fun g=>h1 ((H3 hK b c).2 g);refine .inl ⟨?_,rfl,L,c,h1,by rw[cf (IC h1)]⟩;unfold B5;rw[if_neg (by simp[h0]),if_neg h2]
 ·rw[ct (Fy h0)];refine .inr ⟨fun g=>h0 (Cq g.1).1,?_⟩;rw[if_neg (by simp[h0])];unfold B5;rw[if_pos h0]
theorem Hj{t:Aj}(a:OkT t)(out:List Int)(l l':List Int)(h:Av t l=Av t l'):BB (As t l) out 0 t.Ao=BB (As t l') out 0 t.Ao:=by
 rw[F8 a.kl h]
theorem Hl{t:Aj}(h:DP t=true)(c:Bool):
  (BQ t=0∧c=true∧∃L m,Tr t L∧Dr t m∧CD K t c=some (some (wk t (L.map (Av t)) m),0))∨
  (¬(BQ t=0∧c=true)∧CD K t c=some (none,if CP t=0∧c=false then 2 else BQ t)):=by
 unfold CD;rcases G3 hK h c with⟨h0,n,L,i,d,e⟩|⟨h0,e⟩
 ·have j:=D6 h (Cq h0).1;rw[bd e];obtain⟨m,hm,g⟩:=GN hK j (out:=[]) (by simp) i.len (Ky t);have o:(L.any fun l=>BB (As t l) [] 0 t.Ao)=(Bo t.C).any fun l=>BB (As t l) [] 0 t.Ao:=JJ hK j i _ (Hj hK j [])
  by_cases h1:Bd t=[]
  ·have f:BQ t=9:=by unfold BQ;rw[if_neg (by simp[h0]),if_pos h1]
   refine .inr ⟨by rw[f];simp,?_⟩;have k:((Bo t.C).any fun l=>BB (As t l) [] 0 t.Ao)=false:=by
    rw[Bool.eq_false_iff];intro hh;obtain⟨l,hl,hr⟩:=List.any_eq_true.1 hh;have:l∈Bd t:=List.mem_filter.2 ⟨hl,hr⟩;rw[h1] at this;cases this
   show(cond ((0:Int) !=0) (some ((none:Option DO),(0:Int))) ((BM K (wk t (L.map (Av t)) []) []).bind _)=_);rw[cf (E6 rfl),bd g,o,k,nf,f,n,if_neg (by simp)]
  ·have f:BQ t=0:=by unfold BQ;rw[if_neg (by simp[h0]),if_neg h1]
   have k:((Bo t.C).any fun l=>BB (As t l) [] 0 t.Ao)=true:=by
    obtain⟨l,hl⟩:=List.exists_mem_of_ne_nil _ h1;obtain⟨a,b⟩:=List.mem_filter.1 hl;exact List.any_eq_true.2 ⟨l,a,b⟩
   refine .inl ⟨f,n,L,m,i,hm,?_⟩;show(cond ((0:Int) !=0) (some ((none:Option DO),(0:Int))) ((BM K (wk t (L.map (Av t)) []) []).bind _)=_);rw[cf (E6 rfl),bd g,o,k,nt];rfl
 ·rw[bd e];have d:(if CP t=0∧c=false then (2:Int) else B5 t)≠0:=by
   split
   ·omega
   ·rename_i hh
    intro g;refine h0 ⟨g,?_⟩;cases c with
    |true=>rfl
    |false=>exact absurd ⟨(Cq g).1,rfl⟩ hh
  refine .inr ⟨fun g=>h0 ⟨(Ds g.1).1,g.2⟩,?_⟩;show cond (_ !=0) _ _=_;rw[ct (Fy d)]
  congr 2
  split
  ·rfl
  ·rename_i hh
   have:B5 t≠0:=by rw[if_neg hh] at d;exact d
   unfold BQ;rw[if_pos this]
end
theorem Ma{β:Type}{f:Unit→Option β}{x:Nat}(h:x<64):(E5 .u64 (x:Int)).bind f=f ():=bd (by
 have:∀x:Nat,x<64→E5 .u64 (x:Int)=some ():=by decide+kernel
 exact this x h)
theorem JZ{β:Type}{f:Unit→Option β}{a:Int}{x:Nat}(h:x<64):(Hn a (x:Int)).bind f=f ():=bd (if_pos ⟨by omega,by omega⟩)
theorem HU(s x:Nat):ER (s:Int) (x:Int)=((s/2^x:Nat):Int):=by
 unfold ER;rw[show(x:Int).toNat=x by omega];simp
theorem tb(s i:Nat):(s/2^i%2==1)=s.testBit i:=by rw[Nat.testBit_eq_decide_div_mod_eq];rfl
def Ba (s:Nat):List Int:=((List.range 8).filter fun x=>s.testBit x).map fun x:Nat=>(x:Int)
def lexB:List Int→List Int→Bool
 |a::c,b::d=>if a=b then lexB c d else decide (a<b)
 |[],_::_=>true
 |_,[]=>false
def sh (a b:List Int):Bool:=decide (a.length<b.length)||(a.length==b.length&&lexB a b)
theorem Hz:∀a:List Int,lexB a a=false
 |[]=>rfl
 |a::b=>by rw[lexB,if_pos rfl,Hz b]
theorem ON:∀a b:List Int,lexB a b=true→lexB b a=false
 |[],[],h=>by cases h
 |[],b::c,_=>rfl
 |a::d,[],h=>by cases h
 |a::d,b::c,h=>by
  rw[lexB] at h⊢
  by_cases e:a=b
  ·rw[if_pos e] at h;rw[if_pos e.symm];exact ON d c h
  ·rw[if_neg e,decide_eq_true_eq] at h;rw[if_neg (Ne.symm e),decide_eq_false_iff_not];omega
theorem Et:∀a b:List Int,lexB a b=false→lexB b a=false→a=b
 |[],[],_,_=>rfl
 |[],b::c,h,_=>by cases h
 |a::d,[],_,h=>by cases h
 |a::d,b::c,h,g=>by
  rw[lexB] at h g
  by_cases e:a=b
  ·rw[if_pos e] at h;rw[if_pos e.symm] at g;rw[e,Et d c h g]
  ·rw[if_neg e,decide_eq_false_iff_not] at h;rw[if_neg (Ne.symm e),decide_eq_false_iff_not] at g;omega
theorem IP:∀a b c:List Int,lexB a b=true→lexB b c=true→lexB a c=true
 |[],b,[],h1,h2=>by cases b<;>cases h1;cases h2
 |[],b,c::g,h1,h2=>rfl
 |a::d,[],c,h1,h2=>by cases h1
 |a::d,b::h,[],h1,h2=>by cases h2
 |a::d,b::h,c::g,h1,h2=>by
  rw[lexB] at h1 h2⊢
  by_cases e:a=b
  ·subst e;rw[if_pos rfl] at h1
   by_cases f:a=c
   ·subst f;rw[if_pos rfl] at h2⊢;exact IP d h g h1 h2
   ·rw[if_neg f] at h2⊢;exact h2
  ·rw[if_neg e,decide_eq_true_eq] at h1
   by_cases f:b=c
   ·subst f;rw[if_neg e,decide_eq_true_eq];exact h1
   ·rw[if_neg f,decide_eq_true_eq] at h2;rw[if_neg (by omega),decide_eq_true_eq];omega
theorem EL{a b:List Int}:sh a b=true↔a.length<b.length∨(a.length=b.length∧lexB a b=true):=by simp[sh]
theorem Mu(a:List Int):sh a a=false:=by
 rw[Bool.eq_false_iff];intro h;rcases EL.1 h with h|h
 ·omega
 ·rw[Hz] at h;cases h.2
theorem KP{a b:List Int}(h:sh a b=false)(g:sh b a=false):a=b:=by
 rw[Bool.eq_false_iff] at h g;have h1:a.length=b.length:=by
  refine Decidable.byContradiction fun e=>?_;rcases Nat.lt_or_gt_of_ne e with e|e
  ·exact h (EL.2 (.inl e))
  ·exact g (EL.2 (.inl e))
 refine Et a b ?_ ?_
 ·rw[Bool.eq_false_iff];exact fun e=>h (EL.2 (.inr ⟨h1,e⟩))
 ·rw[Bool.eq_false_iff];exact fun e=>g (EL.2 (.inr ⟨h1.symm,e⟩))
theorem Nh{a b c:List Int}(h:sh a b=true)(g:sh b c=true):sh a c=true:=by
 rw[EL] at h g⊢;rcases h with h|h<;>rcases g with g|g
 ·exact .inl (by omega)
 ·exact .inl (by omega)
 ·exact .inl (by omega)
 ·exact .inr ⟨by omega,IP _ _ _ h.2 g.2⟩
theorem AcP{a b:List Int}(h:sh a b=false):b.length≤a.length:=by
 rw[Bool.eq_false_iff] at h;refine Decidable.byContradiction fun hh=>h (EL.2 (.inl (by omega)))
theorem Ga{s:Nat}{r:Int}:r∈Ba s↔∃x:Nat,x<8∧s.testBit x=true∧r=x:=by
 unfold Ba;simp only[List.mem_map,List.mem_filter,List.mem_range];constructor
 ·rintro⟨x,⟨h1,h2⟩,rfl⟩;exact⟨x,h1,h2,rfl⟩
 ·rintro⟨x,h1,h2,rfl⟩;exact⟨x,⟨h1,h2⟩,rfl⟩
theorem JB{s x k:Nat}(hs:s<2^k)(h:s.testBit x=true):x<k:=by
 refine Decidable.byContradiction fun hx=>?_;rw[Nat.testBit_lt_two_pow (Nat.lt_of_lt_of_le hs (Nat.pow_le_pow_right (by omega) (by omega)))] at h;cases h
theorem Ka{s x:Nat}(hx:x<8):(Ba s).contains (x:Int)=s.testBit x:=by
 rw[Bool.eq_iff_iff,List.contains_iff_mem,Ga];constructor
 ·rintro⟨y,a,h,e⟩;obtain rfl:x=y:=by omega
  exact h
 ·intro h;exact⟨x,hx,h,rfl⟩
theorem I1(s:Nat):(Ba s).length≤8:=by
 unfold Ba;rw[List.length_map];exact Nat.le_trans (List.length_filter_le _ _) (by simp)
theorem GA(s:Nat):(Ba s).Pairwise (· <·):=by
 unfold Ba;rw[List.pairwise_map];have h:(List.range 8).Pairwise (fun a b:Nat=>a<b):=List.pairwise_lt_range;exact(h.sublist (List.filter_sublist)).imp fun h=>by omega
def C9(n:Int):Int→List Int→Bool
 |_,[]=>true
 |lo,x::l=>EB x lo (n-1)&&C9 n (x+1) l
theorem Hb{n:Int}:∀{l:List Int} {lo:Int},lo≤n→C9 n lo l=true→(l.length:Int)≤n-lo
 |[],_,h0,_=>by simp;omega
 |y::l,lo,h0,h=>by
  rw[C9,Bool.and_eq_true,Dv] at h;have:=Hb (by omega) h.2;rw[List.length_cons];omega
theorem H4{n:Nat}:∀{l:List Int} {lo:Int},l.Pairwise (· <·)→(∀x∈l,lo≤x∧x<(n:Int))→C9 n lo l=true
 |[],_,_,_=>rfl
 |x::l,lo,h,hm=>by
  have hx:=hm x (List.mem_cons_self ..);rw[List.pairwise_cons] at h;rw[C9,Bool.and_eq_true,Dv];exact⟨by omega,H4 h.2 fun y a=>⟨by have:=h.1 y a;omega,(hm y (List.mem_cons_of_mem _ a)).2⟩⟩
theorem GS{n s:Nat}(hs:s<2^n):C9 n 0 (Ba s)=true:=by
 refine H4 (GA s) fun x hx=>?_;obtain⟨y,_,hb,rfl⟩:=Ga.1 hx;have:=JB hs hb;omega
section
variable{K:Nat}(hK:1000≤K)
include hK
theorem IQ(s:Nat)(hs:s<2^8):∀(d m p:Nat) (acc:List Int),p+d=8→d<m→acc.length≤p→BG (s:Int) m acc (p:Int)=some (acc++((List.range' p d).filter fun x=>s.testBit x).map fun x:Nat=>(x:Int))
 |d,0,p,acc,_,h,_=>by omega
 |0,m+1,p,acc,a,_,ha=>by
  obtain rfl:p=8:=by omega
  rw[BG.eq_2,Ma (by omega),JZ (by omega),HU,Nat.div_eq_of_lt hs,cf (df (by simp))];simp
 |d+1,m+1,p,acc,a,hm,ha=>by
  rw[BG.eq_2,Ma (by omega),JZ (by omega),HU]
  by_cases h0:s/2^p=0
  ·rw[h0,cf (df (by simp))];have:(List.range' p (d+1)).filter (fun x=>s.testBit x)=[]:=by
    rw[List.filter_eq_nil_iff];intro x hx;rw[List.mem_range'_1] at hx;have h1:s<2^p:=by
     rcases Nat.div_eq_zero_iff.1 h0 with h|h
     ·have:=Nat.two_pow_pos p;omega
     ·exact h
    rw[Nat.testBit_lt_two_pow (Nat.lt_of_lt_of_le h1 (Nat.pow_le_pow_right (by omega) (by omega)))];simp
   rw[this,List.map_nil,List.append_nil]
  ·have hq:(0:Int)<((s/2^p:Nat):Int):=by generalize s/2^p=q at h0;omega
   rw[ct (dt hq),Ma (by omega),JZ (by omega),I7 (Int.le_of_lt hq) (by omega),List.range'_succ,List.filter_cons];have e:((((s/2^p:Nat):Int)%2)==1)=s.testBit p:=by
    rw[←tb,Bool.eq_iff_iff,beq_iff_eq,beq_iff_eq];omega
   rw[e];cases s.testBit p with
   |true=>
    rw[ct rfl,Dt (by simp;omega),AZ (by omega) (by omega),CZ p,IQ s hs d m (p+1) _ (by omega) (by omega) (by simp;omega),if_pos rfl,List.map_cons,List.append_assoc];rfl
   |false=>rw[cf rfl,AZ (by omega) (by omega),CZ p,IQ s hs d m (p+1) _ (by omega) (by omega) (by omega),if_neg (by simp)]
theorem M8{s:Nat}(hs:s<2^8):CN K (s:Int)=some (Ba s):=by
 unfold CN Ba;have:=IQ hK s hs 8 K 0 [] (by omega) (by omega) (by simp);rw[Int.natCast_zero,List.nil_append,←List.range_eq_range'] at this;rw[bd this]
theorem Kh(n:Int)(hn:0≤n∧n≤100):∀(l:List Int) (s:Int),-1≤s→s≤100→∃s',run (fun(st:Int) (x:Int)=>(Fg K x st n).bind fun r=>some (r.1,r.2)) l s=some (C9 n (s+1) l,s')
 |[],s,_,_=>⟨s,rfl⟩
 |x::l,s,h0,h1=>by
  have e:Fg K x s n=some (EB x (s+1) (n-1),x):=by
   unfold Fg;rw[AZ (by omega) (by omega),AZ (by omega) (by omega),bd (JE ..)]
  rw[run,bd e,C9,Option.bind_some];cases h:EB x (s+1) (n-1) with
  |false=>exact⟨x,rfl⟩
  |true=>
   rw[Dv] at h;obtain⟨s',hs⟩:=Kh n hn l x (by omega) (by omega);exact⟨s',by rw[Bool.true_and];exact hs⟩
theorem Nx{n:Int}(hn:0≤n∧n≤100){l:List Int}(hl:l.length≤900):Gm K l n=some (C9 n 0 l):=by
 unfold Gm;obtain⟨s',hs⟩:=Kh hK n hn l (-1) (by omega) (by omega);rw[bd ((KM hK _ l hl (-1)).trans hs)];rfl
omit hK in
theorem L3:∀i:Nat,i<8→E5 .u64 (i:Int)=some ()∧EV 1 (i:Int)=some ()∧CY 1 (i:Int)=((2^i:Nat):Int)∧2^i≤128∧1≤2^i∧EV 2 (i:Int)=some ()∧CY 2 (i:Int)=((2^(i+1):Nat):Int):=by decide+kernel
end
def FV (n:Nat):Nat→List Int→Nat→List (List Int)
 |0,l,_=>[l]
 |m+1,l,a=>(List.range' a (n-m-a)).flatMap fun t:Nat=>FV n m (l++[(t:Int)]) (t+1)
def FJ(n i d:Nat):List (List Int):=(List.range' i d).flatMap fun m=>FV n m [] 0
def Fq (p:List Int→Bool):List Int→List (List Int)→List Int
 |cur,[]=>cur
 |_,c::cs=>if p c=true then c else Fq p c cs
theorem Ir(p:List Int→Bool):∀(xs ys:List (List Int)) (cur:List Int),xs.any p=false→Fq p cur (xs++ys)=Fq p (Fq p cur xs) ys
 |[],ys,cur,_=>rfl
 |x::xs,ys,cur,h=>by
  rw[List.any_cons,Bool.or_eq_false_iff] at h;simp only[List.cons_append,Fq,h.1];exact Ir p xs ys x h.2
theorem Is(p:List Int→Bool):∀(xs ys:List (List Int)) (cur:List Int),xs.any p=true→Fq p cur (xs++ys)=Fq p cur xs
 |[],ys,cur,h=>by cases h
 |x::xs,ys,cur,h=>by
  simp only[List.cons_append,Fq];cases hx:p x with
  |true=>rfl
  |false=>
   rw[List.any_cons,hx,Bool.false_or] at h;exact Is p xs ys x h
theorem Kj{p:List Int→Bool}:∀{L:List (List Int)} (cur:List Int),L.any p=true→∃A x B,L=A++x::B∧p x=true∧(∀a∈A,p a=false)∧Fq p cur L=x
 |[],cur,h=>by cases h
 |c::L,cur,h=>by
  by_cases b:p c=true
  ·exact⟨[],c,L,rfl,b,by simp,by rw[Fq,if_pos b]⟩
  ·have d:p c=false:=by simpa using b
   rw[List.any_cons,d,Bool.false_or] at h;obtain⟨A,x,B,h1,h2,e,f⟩:=Kj c h;refine⟨c::A,x,B,by rw[h1];rfl,h2,?_,by rw[Fq,if_neg b];exact f⟩;intro a ha;rcases List.mem_cons.1 ha with rfl|ha
   ·exact d
   ·exact e a ha
theorem Mb:∀n:Nat,n<8→∀l∈FJ n 0 (n+1),∃s:Nat,s<2^n∧Ba s=l:=by decide+kernel
theorem Mc:∀n:Nat,n<8→∀s:Nat,s<2^n→Ba s∈FJ n 0 (n+1):=by decide+kernel
theorem LO:∀n:Nat,n<8→(FJ n 0 (n+1)).Pairwise fun a b=>sh a b=true:=by decide+kernel
structure EC (n:Nat) (p:List Int→Bool) (x:List Int):Prop where
 is:∃s,s<2^n∧Ba s=x
 ok:p x=true
 least:∀s,s<2^n→p (Ba s)=true→sh (Ba s) x=false
theorem EC.uniq{n:Nat}{p:List Int→Bool}{x y:List Int}(h:EC n p x)(g:EC n p y):x=y:=by
 obtain⟨s,hs,rfl⟩:=h.is;obtain⟨s',a,rfl⟩:=g.is;exact KP (g.least s hs h.ok) (h.least s' a g.ok)
theorem EC.PD{n:Nat}{p:List Int→Bool}{x:List Int}(h:EC n p x):C9 n 0 x=true:=by
 obtain⟨s,hs,rfl⟩:=h.is;exact GS hs
theorem EC.len{n:Nat}{p:List Int→Bool}{x:List Int}(h:EC n p x):x.length≤n:=by
 have:=Hb (by omega) h.PD;omega
theorem Om{n:Nat}(hn:n<8){p:List Int→Bool}(cur:List Int)(h:(FJ n 0 (n+1)).any p=true):EC n p (Fq p cur (FJ n 0 (n+1))):=by
 obtain⟨A,x,B,g1,g2,g3,g4⟩:=Kj cur h;rw[g4];have hs:=LO n hn;refine⟨Mb n hn x (by rw[g1];simp),g2,fun s b c=>?_⟩;have a:=Mc n hn s b;rw[g1] at a hs;rw[List.pairwise_append] at hs;rcases List.mem_append.1 a with h|h
 ·rw[g3 _ h] at c;cases c
 ·rcases List.mem_cons.1 h with h|h
  ·rw[h];exact Mu _
  ·have h1:=(List.pairwise_cons.1 hs.2.1).1 _ h;rw[Bool.eq_false_iff];intro h2;have:=Nh h1 h2;rw[Mu] at this;cases this
theorem On{n:Nat}(hn:n<8)(p:List Int→Bool):(FJ n 0 (n+1)).any p=true↔∃s,s<2^n∧p (Ba s)=true:=by
 rw[List.any_eq_true];constructor
 ·rintro⟨l,hl,a⟩;obtain⟨s,hs,rfl⟩:=Mb n hn l hl;exact⟨s,hs,a⟩
 ·rintro⟨s,hs,a⟩;exact⟨_,Mc n hn s hs,a⟩
section
variable{K:Nat}(hK:1000≤K)
include hK
theorem NA{σ:Type}{I:σ→Prop}{p:List Int→Bool}{n m:Nat}{l:List Int}(hn:n<8)(hm:l.length+(m+1)≤n)(b:(List Int)→Int→Int→(List Int)→Int→σ→Option (Bool×(List Int)×σ))
  (ih:∀(t:Nat) (q:List Int) (s:σ),t<n→I s→∃s',I s'∧b (l++[(t:Int)]) ((t+1:Nat):Int) (m:Int) q (n:Int) s=some ((FV n m (l++[(t:Int)]) (t+1)).any p,Fq p q (FV n m (l++[(t:Int)]) (t+1)),s')):
  ∀(d k i:Nat) (q:List Int) (s:σ),d=n-m-i→d<k→i≤n→I s→∃s',I s'∧
   (EH b l ((m+1:Nat):Int) (n:Int) k (i:Int) q s).bind (fun z=>Sum.elim (fun a=>some (a.1,a.2.1,a.2.2)) (fun a=>some (false,a.1,a.2)) z)=
   some (((List.range' i d).flatMap fun t:Nat=>FV n m (l++[(t:Int)]) (t+1)).any p,Fq p q ((List.range' i d).flatMap fun t:Nat=>FV n m (l++[(t:Int)]) (t+1)),s')
 |d,0,i,q,s,h,hk,_,_=>by omega
 |0,k+1,i,q,s,h,hk,hi,hs=>by
  refine⟨s,hs,?_⟩;rw[EH.eq_2,AZ (by omega) (by omega),cf (df (by omega))];rfl
 |d+1,k+1,i,q,s,h,hk,hi,hs=>by
  have f:(((m+1:Nat):Int)-1)=(m:Int):=by omega
  obtain⟨s1,c,g1⟩:=ih i q s (by omega) hs;rw[EH.eq_2,AZ (by omega) (by omega),ct (dt (by omega)),Dt (by omega),Dt (by simp;omega),AZ (by omega) (by omega),AZ (by omega) (by omega),f,CZ i,bd g1,List.range'_succ,List.flatMap_cons];cases ha:(FV n m (l++[(i:Int)]) (i+1)).any p with
  |true=>
   refine⟨s1,c,?_⟩;rw[List.any_append,ha,Is p _ _ _ ha,Bool.true_or];rfl
  |false=>
   obtain⟨s2,e,g2⟩:=NA hn hm b ih d k (i+1) (Fq p q (FV n m (l++[(i:Int)]) (i+1))) s1 (by omega) (by omega) (by omega) c;refine⟨s2,e,?_⟩;rw[List.any_append,ha,Ir p _ _ _ ha,Bool.false_or,cf rfl,AZ (by omega) (by omega)];exact g2
theorem OT{σ:Type}{I:σ→Prop}{p:List Int→Bool}{n:Nat}(hn:n<8)(cb:σ→List Int→Option (Bool×σ))(c:∀s x,I s→x.length≤n→(∀y∈x,0≤y∧y<(n:Int))→∃s',I s'∧cb s x=some (p x,s')):
  ∀(m k a:Nat) (l q:List Int) (s:σ),m<k→I s→l.length+m≤n→(∀y∈l,0≤y∧y<(n:Int))→a≤n→∃s',I s'∧Ek K cb k l (a:Int) (m:Int) q (n:Int) s=some ((FV n m l a).any p,Fq p q (FV n m l a),s')
 |m,0,a,l,q,s,h,_,_,_,_=>by omega
 |0,k+1,a,l,q,s,h,hs,hl,hb,_=>by
  obtain⟨s1,h1,g⟩:=c s l hs (by omega) hb;refine⟨s1,h1,?_⟩;rw[Ek.eq_2,ct (EO (by omega)),bd g,FV,List.any_cons,List.any_nil,Bool.or_false,Fq,Fq];cases p l<;>rfl
 |m+1,k+1,a,l,q,s,h,hs,hl,hb,d=>by
  rw[Ek.eq_2,cf (Gw (by omega)),FV];exact NA hK (p:=p) hn hl (Ek K cb k) (fun t q s e hs=>OT hn cb c m k (t+1) (l++[(t:Int)]) q s (by omega) hs (by simp;omega) (fun y b=>by
   rcases List.mem_append.1 b with b|b
   ·exact hb y b
   ·rw[List.mem_singleton.1 b];omega) (by omega)) (n-m-a) K a q s rfl (by omega) d hs
theorem Md{σ:Type}{I:σ→Prop}{p:List Int→Bool}{n:Nat}(hn:n<8)(cb:σ→List Int→Option (Bool×σ))(a:∀s x,I s→x.length≤n→(∀y∈x,0≤y∧y<(n:Int))→∃s',I s'∧cb s x=some (p x,s')):
  ∀(d k i:Nat) (q:List Int) (s:σ),n+1=i+d→d<k→I s→∃s',I s'∧E7 cb K (n:Int) k false (i:Int) q s=some ((FJ n i d).any p,Fq p q (FJ n i d),s')
 |d,0,i,q,s,h,hk,_=>by omega
 |0,k+1,i,q,s,h,hk,hs=>by
  refine⟨s,hs,?_⟩;rw[E7.eq_2,cf (df (by omega))];rfl
 |d+1,k+1,i,q,s,h,hk,hs=>by
  obtain⟨s1,b,g1⟩:=OT hK hn cb a i K 0 [] q s (by omega) hs (by simp;omega) (by simp) (by omega);rw[Int.natCast_zero] at g1;rw[E7.eq_2,ct (dt (by omega)),bd g1];unfold FJ;rw[List.range'_succ,List.flatMap_cons];cases ha:(FV n i [] 0).any p with
  |true=>
   refine⟨s1,b,?_⟩;rw[List.any_append,ha,Is p _ _ _ ha,Bool.true_or];rfl
  |false=>
   obtain⟨s2,c,g2⟩:=Md hn cb a d k (i+1) (Fq p q (FV n i [] 0)) s1 (by omega) (by omega) b;refine⟨s2,c,?_⟩;rw[List.any_append,ha,Ir p _ _ _ ha,Bool.false_or,cf rfl,AZ (by omega) (by omega),CZ i];exact g2
theorem MM{σ:Type}{I:σ→Prop}{p:List Int→Bool}{n:Nat}(hn:n<8)(cb:σ→List Int→Option (Bool×σ))(a:∀s x,I s→x.length≤n→(∀y∈x,0≤y∧y<(n:Int))→∃s',I s'∧cb s x=some (p x,s')){s:σ}(hs:I s):
  ∃s',I s'∧FL K cb (n:Int) s=some (Fq p [] (FJ n 0 (n+1)),(FJ n 0 (n+1)).any p,s'):=by
 obtain⟨s1,b,g1⟩:=Md hK hn cb a (n+1) K 0 [] s (by omega) (by omega) hs;refine⟨s1,b,?_⟩;unfold FL;rw[Int.natCast_zero] at g1;rw[AZ (by omega) (by omega),bd g1]
end
structure Dy {α:Type} (S:List α) (f:α→Int) (r:AN):Prop where
 lo:∃l∈S,f l=r.Lo
 hi:∃l∈S,f l=r.Hi
 all:∀l∈S,r.Lo≤f l∧f l≤r.Hi
theorem Ji{r s:AN}(h:r.Lo=s.Lo)(g:r.Hi=s.Hi):r=s:=by cases r;cases s;simp at h g;rw[h,g]
theorem Dy.uniq{α:Type}{S:List α}{f:α→Int}{r s:AN}(h:Dy S f r)(g:Dy S f s):r=s:=by
 obtain⟨a,ha,ea⟩:=h.lo;obtain⟨b,hb,j⟩:=g.lo;obtain⟨c,e,ec⟩:=h.hi;obtain⟨d,i,k⟩:=g.hi;have h1:=g.all a ha;have h2:=h.all b hb;have l:=g.all c e;have m:=h.all d i;exact Ji (by omega) (by omega)
theorem Dy.map{α β:Type}{X:List α}{f:α→Int}{S:List β}{g:β→Int}{r:AN}(h:Dy X f r)(h1:∀x∈X,∃l∈S,g l=f x)(h2:∀l∈S,∃x∈X,f x=g l):Dy S g r:=by
 obtain⟨a,ha,ea⟩:=h.lo;obtain⟨c,i,ec⟩:=h.hi;obtain⟨a',b,k⟩:=h1 a ha;obtain⟨j,d,m⟩:=h1 c i;refine⟨⟨a',b,by omega⟩,⟨j,d,by omega⟩,fun l hl=>?_⟩;obtain⟨x,hx,e⟩:=h2 l hl;have:=h.all x hx;omega
theorem Dy.snoc{α:Type}{S:List α}{f:α→Int}{r:AN}(h:Dy S f r)(x:α):Dy (S++[x]) f ⟨min r.Lo (f x),max r.Hi (f x)⟩:=by
 obtain⟨a,ha,ea⟩:=h.lo;obtain⟨c,b,ec⟩:=h.hi;refine⟨?_,?_,fun l hl=>?_⟩
 ·by_cases hh:r.Lo≤f x
  ·exact⟨a,by simp[ha],by simp only;omega⟩
  ·exact⟨x,by simp,by simp only;omega⟩
 ·by_cases hh:f x≤r.Hi
  ·exact⟨c,by simp[b],by simp only;omega⟩
  ·exact⟨x,by simp,by simp only;omega⟩
 ·simp only;rcases List.mem_append.1 hl with hl|hl
  ·have:=h.all l hl;omega
  ·rw[List.mem_singleton.1 hl];omega
theorem Dy.one{α:Type}(f:α→Int)(x:α):Dy [x] f ⟨f x,f x⟩:=⟨⟨x,by simp,rfl⟩,⟨x,by simp,rfl⟩,fun l hl=>by rw[List.mem_singleton.1 hl];simp⟩
def Du (f:Nat→Int):Nat→Int
 |0=>0
 |n+1=>Du f n+f n
theorem Ic{f g:Nat→Int}:∀(n:Nat),(∀k,k<n→f k=g k)→Du f n=Du g n
 |0,_=>rfl
 |n+1,h=>by rw[Du,Du,Ic n fun k hk=>h k (by omega),h n (by omega)]
theorem HM{f:Nat→Int}{b:Int}:∀(n:Nat),(∀k,k<n→0≤f k∧f k≤b)→0≤Du f n∧Du f n≤b*n
 |0,_=>by simp[Du]
 |n+1,h=>by
  have h1:=HM n fun k hk=>h k (by omega);have h2:=h n (by omega);rw[Du,Int.natCast_add,Int.mul_add];simp;omega
def EM(t:Aj)(BL:List Int)(l:List Int)(k:Nat):Int:=if BL.contains (k:Int)=true then (As t l).getD k 0 else (t.Ac.getD k []).sum*t.Flat
def Ep (t:Aj) (BL:List Int) (l:List Int):Int:=Du (EM t BL l) t.Ac.length
theorem N0{t:Aj}(a:OkT t)(l:List Int)(k:Nat):0≤(As t l).getD k 0∧(As t l).getD k 0≤9000:=by
 by_cases hk:k<(As t l).length
 ·rw[Cx _ hk];exact a.Th l _ (List.getElem_mem hk)
 ·rw[List.getD_eq_getElem?_getD,List.getElem?_eq_none (by omega)];simp
theorem Ly{t:Aj}(a:OkT t)(k:Nat)(hk:k<t.Ac.length):0≤(t.Ac.getD k []).sum*t.Flat∧(t.Ac.getD k []).sum*t.Flat≤9000:=by
 rw[Cx _ hk];have h1:=a.Hc _ (List.getElem_mem hk);have h2:=a.flat;have:=Jw (by omega:0≤t.Ac[k].sum) h1.2.2.2 h2.1 h2.2;omega
theorem Lq{t:Aj}(a:OkT t)(BL l:List Int)(k:Nat)(hk:k<t.Ac.length):0≤EM t BL l k∧EM t BL l k≤9000:=by
 unfold EM;split
 ·exact N0 a l k
 ·exact Ly a k hk
theorem RI{t:Aj}(a:OkT t)(BL l:List Int):0≤Ep t BL l∧Ep t BL l≤27000:=by
 have h1:=HM (f:=EM t BL l) (b:=9000) t.Ac.length fun k hk=>Lq a BL l k hk;have h2:=a.kl;unfold Ep;omega
theorem FR{t:Aj}(a:OkT t){l l':List Int}(h:Av t l=Av t l'):As t l=As t l':=F8 a.kl h
theorem Fj{t:Aj}{out:List Int}{L:List (List Int)}{x:Be×Be}:x∈DU t out L↔∃l∈L,BB (As t l) out 0 t.Ao=true∧x=(Av t l,arr (As t l)):=by
 unfold DU;simp only[List.mem_map,List.mem_filter];constructor
 ·rintro⟨l,⟨h1,h2⟩,rfl⟩;exact⟨l,h1,h2,rfl⟩
 ·rintro⟨l,h1,h2,rfl⟩;exact⟨l,⟨h1,h2⟩,rfl⟩
theorem D2{t:Aj}(a:OkT t){l:List Int}:l∈Bd t↔CF t l=true:=by
 unfold Bd CF;rw[List.mem_filter,CV a.c,Bool.and_eq_true]
theorem KQ {t:Aj} (b:OkT t) {L:List (List Int)} (e:Tr t L) (g:Be→Be→Int) (f:List Int→Int) (i:∀l,CF t l=true→g (Av t l) (arr (As t l))=f l) {r:AN} (h:Dy (DU t [] L) (fun x=>g x.1 x.2) r):Dy (Bd t) f r:=by
 refine h.map (fun x hx=>?_) (fun l hl=>?_)
 ·obtain⟨l,h1,h2,rfl⟩:=Fj.1 hx;have a:CF t l=true:=by unfold CF;rw[e.Jq l h1,h2];rfl
  exact⟨l,(D2 b).2 a,(i l a).symm⟩
 ·have a:=(D2 b).1 hl;have c:=a;unfold CF at c;rw[Bool.and_eq_true] at c;obtain⟨l',h5,d⟩:=e.all l c.1;refine⟨(Av t l',arr (As t l')),Fj.2 ⟨l',h5,by rw[FR b d];exact c.2,rfl⟩,?_⟩;show g (Av t l') (arr (As t l'))=f l;rw[d,FR b d];exact i l a
section
variable{K:Nat}(hK:1000≤K)
include hK
theorem H5(cb:Unit→Be→Option (Int×Unit))(F:Be→Int):∀(X c:List (Be×Be)) (lo hi:Int),(∀x∈X,cb () x.2=some (F x.2,()))→Dy c (fun x=>F x.2) ⟨lo,hi⟩→
  ∃a b,run (fun(st:Int×Int×Bool×Unit) (x:Be×Be)=>BT cb K st.1 st.2.1 st.2.2.1 st.2.2.2 x) X (lo,hi,false,())=some (true,(a,b,false,()))∧Dy (c++X) (fun x=>F x.2) ⟨a,b⟩
 |[],c,lo,hi,_,h=>⟨lo,hi,rfl,by rw[List.append_nil];exact h⟩
 |x::X,c,lo,hi,d,h=>by
  have h1:BT cb K lo hi false () x=some (true,(min lo (F x.2),max hi (F x.2),false,())):=by
   unfold BT;rw[bd (d x (List.mem_cons_self ..)),cf rfl,bd (Jp hK _ _)]
  obtain⟨a,b,g1,g2⟩:=H5 cb F X (c++[x]) _ _ (fun y e=>d y (List.mem_cons_of_mem _ e)) (h.snoc x);refine⟨a,b,?_,by rw[List.append_assoc] at g2;exact g2⟩;rw[run];show(BT cb K lo hi false () x).bind _=_;rw[bd h1,ct rfl];exact g1
theorem JX{t:Aj}(d:OkT t){L:List (List Int)}(g:Tr t L){m:List (List Int×Int)}(hm:Dr t m)(i:Bd t≠[])(cb:Unit→Be→Option (Int×Unit))(F:Be→Int)(f:List Int→Int)(o:∀l,CF t l=true→F (arr (As t l))=f l)
  (j:∀l,CF t l=true→cb () (arr (As t l))=some (F (arr (As t l)),())):
  ∃h r,Dr t h∧Dy (Bd t) f r∧EE K cb (wk t (L.map (Av t)) m) ()=some (r,h,()):=by
 have a:∀x∈DU t [] L,cb () x.2=some (F x.2,()):=fun x hx=>by
  obtain⟨l,h1,h2,rfl⟩:=Fj.1 hx;exact j l (by unfold CF;rw[g.Jq l h1,h2];rfl)
 have hr:∃lo hi,run (fun(st:Int×Int×Bool×Unit) (x:Be×Be)=>BT cb K st.1 st.2.1 st.2.2.1 st.2.2.2 x) (DU t [] L) (0,0,true,())=some (true,(lo,hi,false,()))∧Dy (DU t [] L) (fun x=>F x.2) ⟨lo,hi⟩:=by
  have c:DU t [] L≠[]:=by
   obtain⟨l,hl⟩:=List.exists_mem_of_ne_nil _ i;have b:=(D2 d).1 hl;unfold CF at b;rw[Bool.and_eq_true] at b;obtain⟨l',h5,p⟩:=g.all l b.1;have:(Av t l',arr (As t l'))∈DU t [] L:=Fj.2 ⟨l',h5,by rw[FR d p];exact b.2,rfl⟩;intro e;rw[e] at this;cases this
  generalize DU t [] L=X at a c;cases X with
  |nil=>exact absurd rfl c
  |cons x X=>
   have h1:BT cb K 0 0 true () x=some (true,(F x.2,F x.2,false,())):=by
    unfold BT;rw[bd (a x (List.mem_cons_self ..)),ct rfl,bd (Jp hK _ _)];show some (true,min (F x.2) (F x.2),max (F x.2) (F x.2),false,())=_;rw[Int.min_self,Int.max_self]
   obtain⟨k,n,g1,g2⟩:=H5 hK cb F X [x] _ _ (fun y q=>a y (List.mem_cons_of_mem _ q)) (Dy.one (fun x:Be×Be=>F x.2) x);refine⟨k,n,?_,g2⟩;rw[run];show(BT cb K 0 0 true () x).bind _=_;rw[bd h1,ct rfl];exact g1
 obtain⟨lo,hi,h1,h2⟩:=hr;obtain⟨h,b,s⟩:=Gt hK d (out:=[]) (by simp) _ g.len hm h1;refine⟨h,⟨lo,hi⟩,b,KQ d g (fun _ M=>F M) f o h2,?_⟩;unfold EE;rw[bd s]
def Fl (t:Aj) (BL:List Int):Int:=if CP t=0∧C9 t.Ac.length 0 BL=false then 2 else BQ t
omit hK in
theorem M7 {t:Aj} {BL:List Int} (h:Fl t BL=0):BQ t=0∧C9 t.Ac.length 0 BL=true:=by
 unfold Fl at h
 split at h
 ·omega
 ·rename_i hh
  refine⟨h,?_⟩
  cases hr:C9 t.Ac.length 0 BL with
  |true=>rfl
  |false=>exact absurd ⟨(Cq (Ds h).1).1,hr⟩ hh
omit hK in
theorem I9 {t:Aj} {BL:List Int} (h:C9 t.Ac.length 0 BL=true):Fl t BL=BQ t:=by unfold Fl;rw[if_neg (by simp[h])]
theorem Og{t:Aj}(c:OkT t)(a:List Be)(m:List (List Int×Int)){BL:List Int}(hs:BL.length≤900)(l:List Int):Ea K (arr (As t l)) (wk t a m) BL=some (Ep t BL l):=by
 have p:=c.kl;have u:((wk t a m).weights.length:Int)=t.Ac.length:=by show((List.map _ _).length:Int)=_;simp
 have e:∀(d n i:Nat),t.Ac.length=i+d→d<n→DK K (arr (As t l)) (wk t a m) BL n (Du (EM t BL l) i) (i:Int)=some (Ep t BL l):=by
  intro d
  induction d with
  |zero=>
   intro n i r hn;obtain⟨n,rfl⟩:∃j,n=j+1:=⟨n-1,by omega⟩;obtain rfl:i=t.Ac.length:=by omega
   rw[DK.eq_2,cf (df (by omega))];rfl
  |succ d ih=>
   intro n i r hn;obtain⟨n,rfl⟩:∃j,n=j+1:=⟨n-1,by omega⟩;have hi:i<t.Ac.length:=by omega
   have g:i<(As t l).length:=by rw[Df];omega
   have h:i<(wk t a m).weights.length:=by omega
   have s:(wk t a m).weights[i]'h=(t.Ac.getD i []).sum:=by rw[Cx _ hi];simp[wk]
   have b1:=HM (f:=EM t BL l) (b:=9000) i fun k hk=>Lq c BL l k (by omega);have b2:=Lq c BL l i hi;have b3:=Ly c i hi;have:=ih n (i+1) (by omega) (by omega);rw[Du] at this;rw[DK.eq_2,ct (dt (by omega)),BS h,bd (KH hK BL _ hs),s];show cond _ _ ((i64 ((t.Ac.getD i []).sum*t.Flat)).bind fun _=>(i64 (Du (EM t BL l) i+(t.Ac.getD i []).sum*t.Flat)).bind fun _=>(i64 ((i:Int)+1)).bind fun _=>DK K (arr (As t l)) (wk t a m) BL n (Du (EM t BL l) i+(t.Ac.getD i []).sum*t.Flat) ((i:Int)+1))=_;cases q:BL.contains (i:Int) with
   |true=>
    have o:EM t BL l i=(As t l)[i]:=by unfold EM;rw[if_pos q,Cx _ g]
    rw[o] at this b2;rw[ct rfl,bd (Hr (by rw[Df];exact p) g),AZ (by omega) (by omega),AZ (by omega) (by omega),CZ i,this]
   |false=>
    have o:EM t BL l i=(t.Ac.getD i []).sum*t.Flat:=by unfold EM;rw[if_neg (by rw[q];decide)]
    rw[o] at this b2;rw[cf rfl,AZ (by omega) (by omega),AZ (by omega) (by omega),AZ (by omega) (by omega),CZ i,this]
 have:=e t.Ac.length K 0 (by omega) (by omega);rw[Int.natCast_zero,Du] at this;unfold Ea;rw[bd this]
theorem M6{t:Aj}(c:OkT t){L:List (List Int)}(g:Tr t L){m:List (List Int×Int)}(hm:Dr t m)(d:Bd t≠[]){BL:List Int}(hs:BL.length≤900):∃a r,Dr t a∧Dy (Bd t) (Ep t BL) r∧ET K (wk t (L.map (Av t)) m) BL=some (r,a):=by
 
 have key:∃F:Be→Int,∀l,CF t l=true→F (arr (As t l))=Ep t BL l:=⟨fun x=>Du (fun k=>if BL.contains (k:Int)=true then ([x.a0,x.a1,x.a2]:List Int).getD k 0 else (t.Ac.getD k []).sum*t.Flat) t.Ac.length,fun l _=>by
  have e:=c.kl;refine Ic _ fun k hk=>?_;unfold EM;have b:k<(As t l).length:=by rw[Df];exact hk
  have h1:=Hr (by rw[Df];exact e) b;rw[idx_eq (by simp;omega)] at h1;rw[Cx _ b,←Option.some.inj h1,Cx _ (by simp;omega)]⟩
 obtain⟨F,f⟩:=key;obtain⟨a,r,h1,h2,h⟩:=JX hK c g hm d (fun(st:Unit) (x:Be)=>(Ea K x (wk t (L.map (Av t)) m) BL).bind fun r=>some (r,())) F (Ep t BL) f (fun l hl=>by
  show(Ea K (arr (As t l)) (wk t (L.map (Av t)) m) BL).bind _=_;rw[bd (Og hK c _ m hs l),f l hl])
 refine⟨a,r,h1,h2,?_⟩;unfold ET;rw[bd h]
theorem Ny{t:Aj}(h:DP t=true){BL:List Int}(hs:BL.length≤900):∃r,Gn K t BL=some (r,Fl t BL)∧(Fl t BL≠0→r=⟨0,0⟩)∧(Fl t BL=0→Dy (Bd t) (Ep t BL) r):=by
 have hlen:=E9 h;have j:t.Ac.length≤100:=hlen.1.2.1;unfold Gn;rw[bd (Nx hK (by omega) hs)];rcases Hl hK h (C9 t.Ac.length 0 BL) with⟨h0,hr,L,m,c,hm,e⟩|⟨h0,e⟩
 ·have d:=D6 h (Cq (Ds h0).1).1;obtain⟨k,r,_,h2,f⟩:=M6 hK d c hm (Ds h0).2 hs;have b:Fl t BL=0:=by rw[I9 hr,h0]
  refine⟨r,?_,fun g=>absurd b g,fun _=>h2⟩;rw[bd e];rw[b];show(ET K (wk t (L.map (Av t)) m) BL).bind _=_;rw[bd f]
 ·have a:Fl t BL≠0:=fun g=>h0 (M7 g);refine⟨⟨0,0⟩,?_,fun _=>rfl,fun g=>absurd g a⟩;have i:CD K t (C9 t.Ac.length 0 BL)=some (none,Fl t BL):=e;rw[bd i];show cond (_ !=0) _ _=_;rw[ct (Fy a)]
end
def R0 {α:Type} (S:List α) (f:α→Int):Int:=S.foldl (fun m l=>min m (f l)) 1099511627776
theorem M9{α:Type}(f:α→Int):∀(S:List α) (m:Int),S.foldl (fun m l=>min m (f l)) m≤m∧(∀l∈S,S.foldl (fun m l=>min m (f l)) m≤f l)∧(S.foldl (fun m l=>min m (f l)) m=m∨∃l∈S,S.foldl (fun m l=>min m (f l)) m=f l)
 |[],m=>⟨Int.le_refl _,fun l h=>(nomatch h),.inl rfl⟩
 |x::S,m=>by
  obtain⟨h1,h2,a⟩:=M9 f S (min m (f x));rw[List.foldl_cons];refine⟨by omega,fun l hl=>?_,?_⟩
  ·rcases List.mem_cons.1 hl with rfl|hl
   ·omega
   ·exact h2 l hl
  ·rcases a with a|⟨l,hl,a⟩
   ·by_cases hh:m≤f x
    ·exact .inl (by rw[a];omega)
    ·exact .inr ⟨x,List.mem_cons_self ..,by rw[a];omega⟩
   ·exact .inr ⟨l,List.mem_cons_of_mem _ hl,a⟩
theorem Dy.R0{α:Type}{S:List α}{f:α→Int}{r:AN}(h:Dy S f r)(hb:∀l∈S,f l≤1000000):R0 S f=r.Lo:=by
 obtain⟨h1,h2,b⟩:=M9 f S 1099511627776;obtain⟨a,ha,ea⟩:=h.lo;unfold Go.Proofs.YtbhofkcbfblijaaGreat.R0;have c:=h2 a ha;have h5:=hb a ha;rcases b with b|⟨l,hl,b⟩
 ·omega
 ·have:=(h.all l hl).1;omega
def FY (t:Aj) (BL:List Int):Int:=R0 (Bd t) (Ep t BL)
theorem O3{t:Aj}(a:OkT t){BL:List Int}{r:AN}(h:Dy (Bd t) (Ep t BL) r):r.Lo=FY t BL:=(h.R0 fun l _=>by have:=RI a BL l;omega).symm
structure FP (W:List Int→Int) (n:Nat) (s:List Int):Prop where
 is:∃b,b<2^n∧Ba b=s
 Kl:∀x,x<2^n→W (Ba x)<W s∨(W (Ba x)=W s∧lexB (Ba x) s=false)
theorem FP.uniq{W:List Int→Int}{n:Nat}{s s':List Int}(h:FP W n s)(g:FP W n s'):s=s':=by
 obtain⟨b,hb,rfl⟩:=h.is;obtain⟨b',a,rfl⟩:=g.is;have h1:=h.Kl b' a;have h2:=g.Kl b hb;rcases h1 with h1|⟨h1,c⟩<;>rcases h2 with h2|⟨h2,d⟩
 ·omega
 ·omega
 ·omega
 ·exact Et _ _ d c
def pre (n:Nat):Nat→List Int→Nat→List (List Int)
 |0,l,_=>[l]
 |d+1,l,a=>l::(List.range' a (n-a)).flatMap fun t:Nat=>pre n d (l++[(t:Int)]) (t+1)
theorem Sh:∀n:Nat,n<4→(pre n n [] 0).Pairwise fun a b=>lexB a b=true:=by decide+kernel
theorem VC:∀n:Nat,n<4→∀s:Nat,s<2^n→Ba s∈pre n n [] 0:=by decide+kernel
theorem VD:∀n:Nat,n<4→∀l∈pre n n [] 0,∃s:Nat,s<2^n∧Ba s=l:=by decide+kernel
theorem TJ(n:Nat):∃B,pre n n [] 0=[]::B:=by cases n<;>exact⟨_,rfl⟩
def KR(W:List Int→Int)(q:Int×List Int)(l:List Int):Int×List Int:=if q.1<W l then (W l,l) else q
theorem Si(W:List Int→Int):∀(B A:List (List Int)) (s:List Int),(A++B).Pairwise (fun a b=>lexB a b=true)→s∈A→(∀x∈A,W x<W s∨(W x=W s∧lexB x s=false))→
  ∃s',B.foldl (KR W) (W s,s)=(W s',s')∧s'∈A++B∧∀x∈A++B,W x<W s'∨(W x=W s'∧lexB x s'=false)
 |[],A,s,_,hs,h=>⟨s,rfl,by simpa using hs,by simpa using h⟩
 |y::B,A,s,c,hs,h=>by
  have d:=List.pairwise_append.1 c;rw[List.foldl_cons];have e:A++y::B=(A++[y])++B:=by simp
  rw[e] at c⊢;unfold KR
  by_cases f:W s<W y
  ·rw[if_pos f];refine Si W B (A++[y]) y c (by simp) fun x hx=>?_;rcases List.mem_append.1 hx with hx|hx
   ·rcases h x hx with h|h
    ·exact .inl (by omega)
    ·exact .inl (by omega)
   ·rw[List.mem_singleton.1 hx];exact .inr ⟨rfl,Hz y⟩
  ·rw[if_neg f];refine Si W B (A++[y]) s c (by simp[hs]) fun x hx=>?_;rcases List.mem_append.1 hx with hx|hx
   ·exact h x hx
   ·rw[List.mem_singleton.1 hx]
    by_cases e:W y=W s
    ·exact .inr ⟨e,ON _ _ (d.2.2 s hs y (List.mem_cons_self ..))⟩
    ·exact .inl (by omega)
theorem SW(W:List Int→Int){n:Nat}(hn:n<4):∃s,(pre n n [] 0).foldl (KR W) (W [],[])=(W s,s)∧FP W n s:=by
 obtain⟨B,a⟩:=TJ n;have h1:=Sh n hn;rw[a] at h1;obtain⟨s,g1,g2,g3⟩:=Si W B [[]] [] h1 (by simp) (by simp[Hz]);refine⟨s,?_,VD n hn s (by rw[a];exact g2),fun x hx=>g3 _ (by rw[←List.singleton_append] at a;rw[←a];exact VC n hn x hx)⟩;rw[a,List.foldl_cons];unfold KR at g1⊢;rw[if_neg (by simp)];exact g1
section
variable{K:Nat}(hK:1000≤K)
include hK
omit hK in
theorem Sj:JT=EJ:=by
 funext r l w m
 induction m with
 |zero=>rfl
 |succ m ih=>funext i q s mm;rw[JT.eq_2,EJ.eq_2,ih]
theorem R1{t:Aj}(n:OkT t)(b:List Be)(g:List (List Int×Int))(W:List Int→Int)(e:Nat)(l:List Int)(hl:l.length≤100)(j:Nat)(a:(List Int)→Int→DO→Int→(List Int)→Option ((List (List Int×Int))×Int×(List Int)))
  (ih:∀(i:Nat) (q:Int×List Int) (m:List (List Int×Int)),j≤i→i<t.Ac.length→Dr t m→∃c,Dr t c∧a (l++[(i:Int)]) ((i+1:Nat):Int) (wk t b m) q.1 q.2=some (c,(pre t.Ac.length e (l++[(i:Int)]) (i+1)).foldl (KR W) q)):
  ∀(d k i:Nat) (q:Int×List Int) (m:List (List Int×Int)),d=t.Ac.length-i→d<k→j≤i→i≤t.Ac.length→Dr t m→∃c,Dr t c∧∃f,f=((List.range' i d).flatMap fun i:Nat=>pre t.Ac.length e (l++[(i:Int)]) (i+1)).foldl (KR W) q∧
   EJ a l (wk t b g) k (i:Int) q.1 q.2 m=some (f.1,f.2,c)
 |d,0,i,q,m,_,h,_,_,_=>by omega
 |0,k+1,i,q,m,h,hk,o,hi,hm=>by
  have s:((wk t b g).weights.length:Int)=t.Ac.length:=by show((List.map _ _).length:Int)=_;simp
  exact⟨m,hm,q,rfl,by rw[EJ.eq_2,cf (df (by omega))]⟩
 |d+1,k+1,i,q,m,h,hk,o,hi,hm=>by
  have w:=n.kl;have s:((wk t b g).weights.length:Int)=t.Ac.length:=by show((List.map _ _).length:Int)=_;simp
  obtain⟨u,p,g1⟩:=ih i q m o (by omega) hm;obtain⟨v,r,f,hq,g2⟩:=R1 n b g W e l hl j a ih d k (i+1) ((pre t.Ac.length e (l++[(i:Int)]) (i+1)).foldl (KR W) q) u (by omega) (by omega) (by omega) (by omega) p;refine⟨v,r,f,by rw[hq,List.range'_succ,List.flatMap_cons,List.foldl_append],?_⟩;rw[EJ.eq_2,ct (dt (by omega)),Dt (by omega),Dt (by simp;omega),AZ (by omega) (by omega),CZ i];show(a (l++[(i:Int)]) ((i+1:Nat):Int) (wk t b m) q.1 q.2).bind _=_;rw[bd g1,AZ (by omega) (by omega)];exact g2
theorem SX{t:Aj}(d:OkT t){L:List (List Int)}(u:Tr t L)(o:Bd t≠[]):∀(e k a:Nat) (l:List Int) (q:Int×List Int) (m:List (List Int×Int)),e<k→t.Ac.length≤a+e→a≤t.Ac.length→l.length≤a→Dr t m→
  ∃b,Dr t b∧F3 K k l (a:Int) (wk t (L.map (Av t)) m) q.1 q.2=some (b,(pre t.Ac.length e l a).foldl (KR (FY t)) q)
 |e,0,a,l,q,m,h,_,_,_,_=>by omega
 |e,k+1,a,l,q,m,h,aB,v,hl,hm=>by
  have z:=d.kl;obtain⟨f,r,p,hr,g1⟩:=M6 hK d u hm o (BL:=l) (by omega);have y:=O3 d hr
  
  have c:∀q:Int×List Int,∃b,Dr t b∧∃g,g=(pre t.Ac.length e l a).tail.foldl (KR (FY t)) q∧EJ (F3 K k) l (wk t (L.map (Av t)) m) K (a:Int) q.1 q.2 f=some (g.1,g.2,b):=fun q=>by
   cases e with
   |zero=>
    obtain⟨w,rfl⟩:∃w,K=w+1:=⟨K-1,by omega⟩;have aC:((wk t (L.map (Av t)) m).weights.length:Int)=t.Ac.length:=by show((List.map _ _).length:Int)=_;simp
    exact⟨f,p,q,rfl,by rw[EJ.eq_2,cf (df (by omega))]⟩
   |succ e=>
    exact R1 hK d (L.map (Av t)) m (FY t) e l (by omega) a (F3 K k) (fun i q m aA hi hm=>SX d u o e k (i+1) (l++[(i:Int)]) q m (by omega) (by omega) (by omega) (by simp;omega) hm) (t.Ac.length-a) K a q f rfl (by omega) (Nat.le_refl _) v p
  have x:pre t.Ac.length e l a=l::(pre t.Ac.length e l a).tail:=by cases e<;>rfl
  rw[F3.eq_2,bd g1];show∃b,Dr t b∧cond (decide (q.1<r.Lo)) _ _=_;rw[y]
  by_cases hq:q.1<FY t l
  ·obtain⟨s,j,g,n,g2⟩:=c (FY t l,l);refine⟨s,j,?_⟩;rw[ct (dt hq),Dt (by omega)];show(EJ (F3 K k) l (wk t (L.map (Av t)) m) K (a:Int) (FY t l) l f).bind _=_;rw[bd g2,x,List.foldl_cons,n];unfold KR;rw[if_pos hq]
  ·obtain⟨s,j,g,n,g2⟩:=c q;refine⟨s,j,?_⟩;rw[cf (df hq),Sj];show(EJ (F3 K k) l (wk t (L.map (Av t)) m) K (a:Int) q.1 q.2 f).bind _=_;rw[bd g2,x,List.foldl_cons,n];unfold KR;rw[if_neg hq]
theorem Up{t:Aj}(h:DP t=true):∃s n,KE K t=some (s,n,BQ t)∧(BQ t≠0→s=[]∧n=0)∧(BQ t=0→FP (FY t) t.Ac.length s∧n=FY t s):=by
 unfold KE;rcases Hl hK h true with⟨h0,_,L,m,c,hm,e⟩|⟨h0,e⟩
 ·have b:=D6 h (Cq (Ds h0).1).1;have i:=b.kl;have a:=(Ds h0).2;obtain⟨d,r,f,hr,g1⟩:=M6 hK b c hm a (BL:=[]) (by simp);obtain⟨j,_,g2⟩:=SX hK b c a t.Ac.length K 0 [] (FY t [],[]) d (by omega) (by omega) (by omega) (by simp) f;obtain⟨s,hs,hb⟩:=SW (FY t) (n:=t.Ac.length) (by omega);refine⟨s,FY t s,?_,fun g=>absurd h0 g,fun _=>⟨hb,rfl⟩⟩;rw[bd e,h0];show(ET K (wk t (L.map (Av t)) m) []).bind _=_;rw[bd g1];show(F3 K K [] 0 (wk t (L.map (Av t)) d) r.Lo []).bind _=_;rw[O3 b hr];rw[Int.natCast_zero] at g2;rw[bd g2,hs]
 ·have a:BQ t≠0:=fun g=>h0 ⟨g,rfl⟩;refine⟨[],0,?_,fun _=>⟨rfl,rfl⟩,fun g=>absurd g a⟩;rw[if_neg (by simp)] at e;rw[bd e];show cond (_ !=0) _ _=_;rw[ct (Fy a)]
end
theorem nl{l l':List Int}(h:l=l'):(l !=l')=false:=by subst h;simp
section
variable{K:Nat}(hK:1000≤K)
include hK
theorem Sm{t:Aj}(b:OkT t){s:Nat}(hs:s<256):Em K t (s:Int)=some (Ba (s&&&(2^t.Ac.length-1))):=by
 have f:=b.kl;obtain⟨s1,s2,c,g,h,_⟩:=L3 t.Ac.length (by omega);have e:((2^t.Ac.length:Nat):Int)-1=((2^t.Ac.length-1:Nat):Int):=by omega
 have d:E5 .i64 (s:Int)=some ():=by
  have:∀x:Nat,x<256→E5 .i64 (x:Int)=some ():=by decide+kernel
  exact this s hs
 have a:s&&&(2^t.Ac.length-1)<2^8:=Nat.lt_of_le_of_lt Nat.and_le_left (by omega);unfold Em;rw[bd d,bd s1,bd s2,c,e,AZ (by omega) (by omega),KL (by omega) (by omega),RV,bd (M8 hK a)]
end
theorem OU(s n:Nat):s&&&(2^n-1)<2^n:=by
 have:=Nat.two_pow_pos n;exact Nat.lt_of_le_of_lt Nat.and_le_right (by omega)
theorem ML{α:Type}(x:List α)(a:Nat):Gv x (0:Int) (a:Int)=x.take a:=by unfold Gv;simp
def Es(t:Aj)(o:CU):Int:=(t.AH.getD o.En.toNat ⟨0,0⟩).BU
def Gu (t:Aj) (o:CU) (k:Nat):Bool:=decide (o.Ey≤(t.Ac.getD k []).sum)&&(Bd t).all fun l=>decide (Es t o≤CI l (t.Ac.getD k []))
def FE(t:Aj)(o:CU):List Int:=((List.range t.Ac.length).filter (Gu t o)).map fun k:Nat=>(k:Int)
theorem K9{t:Aj}{o:CU}{x:Int}:x∈FE t o↔∃k:Nat,k<t.Ac.length∧Gu t o k=true∧x=k:=by
 unfold FE;simp only[List.mem_map,List.mem_filter,List.mem_range];constructor
 ·rintro⟨k,⟨h1,h2⟩,rfl⟩;exact⟨k,h1,h2,rfl⟩
 ·rintro⟨k,h1,h2,rfl⟩;exact⟨k,⟨h1,h2⟩,rfl⟩
theorem PA(t:Aj)(o:CU):(FE t o).Pairwise (· <·):=by
 unfold FE;rw[List.pairwise_map];have h:(List.range t.Ac.length).Pairwise (fun a b:Nat=>a<b):=List.pairwise_lt_range;exact(h.sublist (List.filter_sublist)).imp fun h=>by omega
theorem N3(t:Aj)(o:CU):(FE t o).length≤t.Ac.length:=by
 unfold FE;rw[List.length_map];exact Nat.le_trans (List.length_filter_le _ _) (by simp)
def DF(t:Aj):List (List Int):=t.Aw.map (FE t)
def Dp:List (List Int)→List Int→List Int→Bool
 |[],_,[]=>true
 |s::S,out,x::xs=>s.contains x&&(!out.contains x&&Dp S (out++[x]) xs)
 |_,_,_=>false
theorem Jc:∀{S:List (List Int)} {out d:List Int},Dp S out d=true→d.length=S.length
 |[],_,[],_=>rfl
 |[],_,_::_,h=>by cases h
 |_::_,_,[],h=>by cases h
 |s::S,out,x::xs,h=>by
  rw[Dp,Bool.and_eq_true,Bool.and_eq_true] at h;rw[List.length_cons,List.length_cons,Jc h.2.2]
structure Gz (t:Aj) (d:List Int):Prop where
 is:Dp (DF t) [] d=true
 first:∀d',Dp (DF t) [] d'=true→lexB d' d=false
theorem Gz.uniq{t:Aj}{d d':List Int}(h:Gz t d)(g:Gz t d'):d=d':=Et _ _ (g.first d h.is) (h.first d' g.is)
section
variable{K:Nat}(hK:1000≤K)
include hK
theorem Oi{t:Aj}(c:OkT t){L:List (List Int)}(j:Tr t L){m:List (List Int×Int)}(hm:Dr t m){o:CU}(aA:0≤o.En∧o.En<t.AH.length){k:Nat}(hk:k<t.Ac.length):
  ∃e,Dr t e∧EK K (wk t (L.map (Av t)) m) o (k:Int)=some (Gu t o k,e):=by
 have d:=c.kl;have f:k<(wk t (L.map (Av t)) m).weights.length:=by show k<(List.map _ _).length;simpa using hk
 have u:(wk t (L.map (Av t)) m).weights[k]'f=(t.Ac.getD k []).sum:=by rw[Cx _ hk];simp[wk]
 unfold EK Gu;rw[BS f,u]
 by_cases hw:(t.Ac.getD k []).sum<o.Ey
 ·exact⟨m,hm,by rw[ct (dt hw),df (by omega),Bool.false_and];rfl⟩
 rw[cf (df hw),dt (by omega),Bool.true_and];obtain⟨g,p⟩:∃g:Nat,o.En=g:=⟨o.En.toNat,by omega⟩;have i:g<t.AH.length:=by omega
 have q:Es t o=t.AH[g].BU:=by unfold Es;rw[p,Int.toNat_natCast,Cx _ i]
 have r:∀l:List Int,DL (wk t (L.map (Av t)) m) o (k:Int) (Av t l,arr (As t l))=some (if Es t o≤CI l (t.Ac.getD k []) then (true,false) else (false,true)):=fun l=>by
  have h1:idx [(Av t l).a0,(Av t l).a1,(Av t l).a2] (k:Int)=some (CI l (t.Ac.getD k [])):=by
   have:=Hr (l:=t.Ac.map (CI l)) (by simpa using d) (k:=k) (by simpa using hk);rw[List.getElem_map] at this;rw[Cx _ hk];exact this
  unfold DL;rw[bd h1,p];show(idx t.AH (g:Int)).bind _=_;rw[BS i,q]
  by_cases h2:CI l (t.Ac.getD k [])<t.AH[g].BU
  ·rw[ct (dt h2),if_neg (by omega)]
  ·rw[cf (df h2),if_pos (by omega)]
 have hr:∃b,run (fun(st:Bool) (x:Be×Be)=>cond st none (DL (wk t (L.map (Av t)) m) o (k:Int) x)) (DU t [] L) false=some (b, !((DU t [] L).all fun x=>decide (Es t o≤([x.1.a0,x.1.a1,x.1.a2]:List Int).getD k 0))):=by
  have n:∀x∈DU t [] L,DL (wk t (L.map (Av t)) m) o (k:Int) x=some (if Es t o≤([x.1.a0,x.1.a1,x.1.a2]:List Int).getD k 0 then (true,false) else (false,true)):=fun x hx=>by
   obtain⟨l,_,_,rfl⟩:=Fj.1 hx;rw[r l];have h1:=Hr (l:=t.Ac.map (CI l)) (by simpa using d) (k:=k) (by simpa using hk);rw[idx_eq (show k<([(arr (t.Ac.map (CI l))).a0,(arr (t.Ac.map (CI l))).a1,(arr (t.Ac.map (CI l))).a2]:List Int).length by simp;omega),List.getElem_map] at h1;have h2:([(Av t l).a0,(Av t l).a1,(Av t l).a2]:List Int).getD k 0=CI l (t.Ac.getD k []):=by
    rw[Cx _ hk,←Option.some.inj h1,Cx _ (show k<([(Av t l).a0,(Av t l).a1,(Av t l).a2]:List Int).length by simp;omega)];rfl
   show some _=some (if Es t o≤([(Av t l).a0,(Av t l).a1,(Av t l).a2]:List Int).getD k 0 then (true,false) else (false,true));rw[h2]
  generalize DU t [] L=X at n
  induction X with
  |nil=>exact⟨true,rfl⟩
  |cons x X ih=>
   obtain⟨b,hb⟩:=ih fun y v=>n y (List.mem_cons_of_mem _ v);rw[run];show∃b,(DL (wk t (L.map (Av t)) m) o (k:Int) x).bind _=_;rw[bd (n x (List.mem_cons_self ..)),List.all_cons]
   by_cases h1:Es t o≤([x.1.a0,x.1.a1,x.1.a2]:List Int).getD k 0
   ·rw[if_pos h1,dt h1,Bool.true_and];exact⟨b,hb⟩
   ·rw[if_neg h1,df h1,Bool.false_and];exact⟨false,rfl⟩
 obtain⟨b,hr⟩:=hr;obtain⟨e,a,w⟩:=Gt hK c (out:=[]) (by simp) _ j.len hm hr;refine⟨e,a,?_⟩;rw[bd w];have z:((DU t [] L).all fun x=>decide (Es t o≤([x.1.a0,x.1.a1,x.1.a2]:List Int).getD k 0))=(Bd t).all fun l=>decide (Es t o≤CI l (t.Ac.getD k [])):=by
  have hs:∀l:List Int,([(Av t l).a0,(Av t l).a1,(Av t l).a2]:List Int).getD k 0=CI l (t.Ac.getD k []):=fun l=>by
   have h1:=Hr (l:=t.Ac.map (CI l)) (by simpa using d) (k:=k) (by simpa using hk);rw[idx_eq (show k<([(arr (t.Ac.map (CI l))).a0,(arr (t.Ac.map (CI l))).a1,(arr (t.Ac.map (CI l))).a2]:List Int).length by simp;omega),List.getElem_map] at h1;rw[Cx _ hk,←Option.some.inj h1,Cx _ (show k<([(Av t l).a0,(Av t l).a1,(Av t l).a2]:List Int).length by simp;omega)];rfl
  rw[Bool.eq_iff_iff,List.all_eq_true,List.all_eq_true];constructor
  ·intro h l hl;have a:=(D2 c).1 hl;unfold CF at a;rw[Bool.and_eq_true] at a;obtain⟨l',h5,s⟩:=j.all l a.1;have:=h (Av t l',arr (As t l')) (Fj.2 ⟨l',h5,by rw[FR c s];exact a.2,rfl⟩);rw[←hs l,←s];exact this
  ·intro h x hx;obtain⟨l,h1,h2,rfl⟩:=Fj.1 hx;have:=h l ((D2 c).2 (by unfold CF;rw[j.Jq l h1,h2];rfl));rw[←hs l] at this;exact this
 rw[z];cases (Bd t).all fun l=>decide (Es t o≤CI l (t.Ac.getD k []))<;>rfl
theorem Nc{t:Aj}(l:OkT t){L:List (List Int)}(w:Tr t L){m:List (List Int×Int)}(hm:Dr t m):∃a,Dr t a∧Fp K (wk t (L.map (Av t)) m)=some (DF t,a):=by
 have z:=l.kl;have aA:=l.ol;have aB:((wk t (L.map (Av t)) m).weights.length:Int)=t.Ac.length:=by show((List.map _ _).length:Int)=_;simp
 have r:(wk t (L.map (Av t)) m).Ca=t.Aw:=rfl;have s:∀(o:CU),o∈t.Aw→∀(d n i:Nat) (acc:List Int) (b:List (List Int×Int)),t.Ac.length=i+d→d<n→acc.length≤i→Dr t b→
   ∃c,Dr t c∧Dx K (wk t (L.map (Av t)) m) o n acc (i:Int) b=some (acc++((List.range' i d).filter (Gu t o)).map (fun k:Nat=>(k:Int)),c):=by
  intro o x d
  induction d with
  |zero=>
   intro n i acc b p hn ha e;obtain⟨n,rfl⟩:∃a,n=a+1:=⟨n-1,by omega⟩;exact⟨b,e,by rw[Dx.eq_2,cf (df (by omega))];simp⟩
  |succ d ih=>
   intro n i acc b p hn ha e;obtain⟨n,rfl⟩:∃a,n=a+1:=⟨n-1,by omega⟩;obtain⟨c,j,g⟩:=Oi hK l w e (l.order o x).1 (k:=i) (by omega);rw[Dx.eq_2,ct (dt (by omega)),List.range'_succ,List.filter_cons];show∃h,Dr t h∧(EK K (wk t (L.map (Av t)) b) o (i:Int)).bind _=_;rw[bd g];cases hs:Gu t o i with
   |true=>
    obtain⟨h,f,g3⟩:=ih n (i+1) (acc++[(i:Int)]) c (by omega) (by omega) (by simp;omega) j;refine⟨h,f,?_⟩;rw[ct rfl,Dt (by simp;omega),AZ (by omega) (by omega),CZ i];show Dx K (wk t (L.map (Av t)) m) o n (acc++[(i:Int)]) ((i+1:Nat):Int) c=_;rw[g3,if_pos rfl,List.map_cons,List.append_assoc];rfl
   |false=>
    obtain⟨h,f,g3⟩:=ih n (i+1) acc c (by omega) (by omega) (by omega) j;refine⟨h,f,?_⟩;rw[cf rfl,AZ (by omega) (by omega),CZ i];show Dx K (wk t (L.map (Av t)) m) o n acc ((i+1:Nat):Int) c=_;rw[g3,if_neg (by simp)]
 have q:∀(d n i:Nat) (acc:List (List Int)) (b:List (List Int×Int)),t.Aw.length=i+d→d<n→acc.length≤i→Dr t b→
   ∃c,Dr t c∧DB K (wk t (L.map (Av t)) m) n acc (i:Int) b=some (acc++(t.Aw.drop i).map (FE t),c):=by
  intro d
  induction d with
  |zero=>
   intro n i acc b p hn ha e;obtain⟨n,rfl⟩:∃a,n=a+1:=⟨n-1,by omega⟩;exact⟨b,e,by rw[DB.eq_2,r,cf (df (by omega)),List.drop_eq_nil_of_le (by omega)];simp⟩
  |succ d ih=>
   intro n i acc b p hn ha e;obtain⟨n,rfl⟩:∃a,n=a+1:=⟨n-1,by omega⟩;have hi:i<t.Aw.length:=by omega
   obtain⟨c,j,g2⟩:=s _ (List.getElem_mem hi) t.Ac.length K 0 [] b (by omega) (by omega) (by simp) e;obtain⟨h,f,g3⟩:=ih n (i+1) (acc++[FE t t.Aw[i]]) c (by omega) (by omega) (by simp;omega) j;refine⟨h,f,?_⟩;rw[Int.natCast_zero,List.nil_append,←List.range_eq_range'] at g2;rw[DB.eq_2,r,ct (dt (by omega)),BS hi,bd g2,Dt (by simp;omega),AZ (by omega) (by omega),CZ i];have u:DB K (wk t (L.map (Av t)) m) n (acc++[FE t t.Aw[i]]) ((i+1:Nat):Int) c=_:=g3;rw[List.drop_eq_getElem_cons hi,List.map_cons];refine u.trans ?_;rw[List.append_assoc];rfl
 obtain⟨a,v,g⟩:=q t.Aw.length K 0 [] m (by omega) (by omega) (by simp) hm;refine⟨a,v,?_⟩;unfold Fp;rw[Int.natCast_zero,List.nil_append,List.drop_zero] at g;have y:DB K (wk t (L.map (Av t)) m) K [] 0 (wk t (L.map (Av t)) m).known=some (DF t,a):=g;rw[bd y]
def Oj (S:List (List Int)) (out:List Int) (r:Bool×List Int):Prop:=
 (r.1=true∧∃e,r.2=out++e∧Dp S out e=true∧∀a,Dp S out a=true→lexB a e=false)∨(r.1=false∧r.2=out∧∀a,Dp S out a=false)
theorem Ol(S:List (List Int))(s:S.length≤100)(i:Nat)(hi:i<S.length)(hs:S[i].Pairwise (· <·))(hl:S[i].length≤100)(out:List Int)(t:out.length=i)(c:Int→List (List Int)→List Int→Option (Bool×List Int))
  (ih:∀x,∃r,c ((i+1:Nat):Int) S (out++[x])=some r∧Oj (S.drop (i+1)) (out++[x]) r):
  ∀(d m j:Nat),S[i].length=j+d→d<m→(∀x∈S[i].take j,∀a,out.contains x=true∨Dp (S.drop (i+1)) (out++[x]) a=false)→
   ∃r,(Gi c K (i:Int) S S[i] m (j:Int) out).bind (fun z=>Sum.elim (fun q=>some (q.1,q.2)) (fun q=>some (false,q)) z)=some r∧Oj (S.drop i) out r
 |d,0,j,h,hm,_=>by omega
 |0,m+1,j,h,hm,k=>by
  rw[Gi.eq_2,cf (df (by omega))];refine⟨(false,out),rfl,.inr ⟨rfl,rfl,fun a=>?_⟩⟩;rw[List.drop_eq_getElem_cons hi];cases a with
  |nil=>rfl
  |cons x xs=>
   rw[Dp,Bool.eq_false_iff];intro hh;rw[Bool.and_eq_true,Bool.and_eq_true] at hh;rw[List.take_of_length_le (by omega)] at k;rcases k x (by simpa using hh.1) xs with h1|h1
   ·rw[h1] at hh;exact absurd hh.2.1 (by decide)
   ·rw[h1] at hh;exact absurd hh.2.2 (by decide)
 |d+1,m+1,j,h,hm,k=>by
  have hj:j<S[i].length:=by omega
  have next:(∀a,out.contains S[i][j]=true∨Dp (S.drop (i+1)) (out++[S[i][j]]) a=false)→∀x∈S[i].take (j+1),∀a,out.contains x=true∨Dp (S.drop (i+1)) (out++[x]) a=false:=fun hn x hx a=>by
   rw[List.take_succ_eq_append_getElem hj] at hx;rcases List.mem_append.1 hx with hx|hx
   ·exact k x hx a
   ·rw[List.mem_singleton.1 hx];exact hn a
  rw[Gi.eq_2,ct (dt (by omega)),BS hj,bd (KH hK out _ (by omega))];cases u:out.contains S[i][j] with
  |true=>
   rw[ct rfl,AZ (by omega) (by omega),CZ j];exact Ol S s i hi hs hl out t c ih d m (j+1) (by omega) (by omega) (next fun _=>.inl u)
  |false=>
   obtain⟨r,hr,v⟩:=ih S[i][j];rw[cf rfl,Dt (by simp;omega),AZ (by omega) (by omega),CZ i,bd hr];rcases v with⟨h1,e,h2,n,w⟩|⟨h1,h2,n⟩
   ·obtain⟨o,p⟩:=r;obtain rfl:o=true:=h1;obtain rfl:p=out++[S[i][j]]++e:=h2;refine⟨(true,out++[S[i][j]]++e),rfl,.inl ⟨rfl,S[i][j]::e,by simp,?_,fun a b=>?_⟩⟩
    ·rw[List.drop_eq_getElem_cons hi,Dp,n,u];simp
    ·rw[List.drop_eq_getElem_cons hi] at b;cases a with
     |nil=>cases b
     |cons x xs=>
      rw[Dp,Bool.and_eq_true,Bool.and_eq_true] at b;have hx:x∈S[i]:=by simpa using b.1
      rw[lexB]
      by_cases l:x=S[i][j]
      ·subst l;rw[if_pos rfl];exact w xs b.2.2
      ·rw[if_neg l];refine df fun y=>?_;obtain⟨q,hq,rfl⟩:=List.getElem_of_mem hx;rcases Nat.lt_or_ge q j with f|f
       ·rcases k S[i][q] (List.mem_take_iff_getElem.2 ⟨q,by omega,rfl⟩) xs with g|g
        ·rw[g] at b;exact absurd b.2.1 (by decide)
        ·rw[g] at b;exact absurd b.2.2 (by decide)
       ·rcases Nat.lt_or_eq_of_le f with f|f
        ·have:=(List.pairwise_iff_getElem.1 hs) j q hj hq f;omega
        ·subst f;exact l rfl
   ·obtain⟨o,p⟩:=r;obtain rfl:o=false:=h1;obtain rfl:p=out++[S[i][j]]:=h2;rw[cf rfl];show∃r,((Ov (out++[S[i][j]]).length (0:Int) (i:Int)).bind fun _=>(i64 ((j:Int)+1)).bind fun _=>Gi c K (i:Int) S S[i] m ((j:Int)+1) (Gv (out++[S[i][j]]) (0:Int) (i:Int))).bind _=some r∧_;rw[Pc (by simp;omega),AZ (by omega) (by omega),CZ j,ML,List.take_append_of_le_length (by omega),List.take_of_length_le (by omega)];exact Ol S s i hi hs hl out t c ih d m (j+1) (by omega) (by omega) (next fun a=>.inr (n a))
theorem Q8(S:List (List Int))(b:S.length≤100)(hs:∀s∈S,s.Pairwise (· <·)∧s.length≤100):∀(d k i:Nat) (out:List Int),S.length=i+d→d<k→out.length=i→∃r,He K k (i:Int) S out=some r∧Oj (S.drop i) out r
 |d,0,i,out,h,hk,_=>by omega
 |0,k+1,i,out,h,hk,c=>by
  rw[He.eq_2,ct (EO (by omega)),List.drop_eq_nil_of_le (by omega)];refine⟨_,rfl,.inl ⟨rfl,[],by simp,rfl,fun f e=>?_⟩⟩;cases f with
  |nil=>rfl
  |cons x xs=>cases e
 |d+1,k+1,i,out,h,hk,c=>by
  have hi:i<S.length:=by omega
  have a:=hs _ (List.getElem_mem hi);rw[He.eq_2,cf (Gw (by omega)),BS hi];have:=Ol hK S b i hi a.1 a.2 out c (He K k) (fun x=>Q8 S b hs d k (i+1) (out++[x]) (by omega) (by omega) (by simp;omega)) S[i].length K 0 (by omega) (by omega) (by simp);rw[Int.natCast_zero] at this;exact this
theorem TL{t:Aj}(h:DP t=true):∃x e,JI K t=some (x,e)∧(BQ t≠0→x=[]∧e=BQ t)∧(BQ t=0→(e=0∧Gz t x∨e=10∧x=[]∧∀d,Dp (DF t) [] d=false)):=by
 unfold JI;rcases Hl hK h true with⟨h0,_,L,m,f,hm,e⟩|⟨h0,e⟩
 ·have b:=D6 h (Cq (Ds h0).1).1;have j:=b.kl;have k:=b.ol;obtain⟨n,l,g1⟩:=Nc hK b f hm;obtain⟨r,g2,g3⟩:=Q8 hK (DF t) (by unfold DF;simp;omega) (fun s hs=>by
   obtain⟨o,_,rfl⟩:=List.mem_map.1 hs;have:=N3 t o;exact⟨PA t o,by omega⟩) (DF t).length K 0 [] (by omega) (by unfold DF;simp;omega) rfl
  rw[Int.natCast_zero] at g2;rw[bd e];show∃x e,(Fp K (wk t (L.map (Av t)) m)).bind _=_∧_;rw[bd g1,bd g2];rcases g3 with⟨h1,x,h2,c,i⟩|⟨h1,h2,c⟩
  ·refine⟨x,0,?_,fun g=>absurd h0 g,fun _=>.inl ⟨rfl,c,i⟩⟩;rw[h1,nt,h2];rfl
  ·refine⟨[],10,?_,fun g=>absurd h0 g,fun _=>.inr ⟨rfl,rfl,c⟩⟩;rw[h1,nf]
 ·have a:BQ t≠0:=fun g=>h0 ⟨g,rfl⟩;refine⟨[],BQ t,?_,fun _=>⟨rfl,rfl⟩,fun g=>absurd g a⟩;rw[if_neg (by simp)] at e;rw[bd e];show cond (_ !=0) _ _=_;rw[ct (Fy a)]
end
theorem RC{a b c:Bool}:(a&&(b&&c))=true↔a=true∧b=true∧c=true:=by rw[Bool.and_eq_true,Bool.and_eq_true]
theorem Fm(t:Aj):(DF t).length=t.Aw.length:=List.length_map ..
theorem JY{t:Aj}{i:Nat}(hi:i<t.Aw.length):(DF t)[i]'(by rw[Fm];exact hi)=FE t t.Aw[i]:=by simp[DF]
theorem Qi{t:Aj}{o:CU}{x:Int}:(FE t o).contains x=(EB x 0 ((t.Ac.length:Int)-1)&&Gu t o x.toNat):=by
 rw[Bool.eq_iff_iff,List.contains_iff_mem,K9,Bool.and_eq_true,Dv];constructor
 ·rintro⟨k,h1,h2,rfl⟩;exact⟨by omega,by rw[Int.toNat_natCast];exact h2⟩
 ·rintro⟨h1,h2⟩;exact⟨x.toNat,by omega,h2,by omega⟩
section
variable{K:Nat}(hK:1000≤K)
include hK
theorem RU(t:Aj)(hl:t.Ac.length≤100)(x:Int):G2 K t x=some (EB x 0 ((t.Ac.length:Int)-1)):=by
 unfold G2;rw[AZ (by omega) (by omega),bd (JE ..)]
theorem Qf{t:Aj}(a:OkT t){L:List (List Int)}(f:Tr t L)(j:List (List Int×Int))(d:List Int)(s:d.length=t.Aw.length):∀(e n i:Nat) (m:List (List Int×Int)),d.length=i+e→e<n→Dr t m→
  ∃l,(Ed K t d (wk t (L.map (Av t)) j) n (i:Int) m).bind (fun z=>Sum.elim (fun q=>some q.1) (fun _=>some true) z)=some (Dp ((DF t).drop i) (d.take i) (d.drop i))∧Dr t l
 |e,0,i,m,h,hn,_=>by omega
 |0,n+1,i,m,h,hn,hm=>by
  refine⟨m,?_,hm⟩;rw[Ed.eq_2,cf (df (by omega)),List.drop_eq_nil_of_le (by rw[Fm];omega),List.drop_eq_nil_of_le (by omega)];rfl
 |e+1,n+1,i,m,h,hn,hm=>by
  have hi:i<d.length:=by omega
  have b:i<t.Aw.length:=by omega
  have o:i<(DF t).length:=by rw[Fm];omega
  have v:=a.kl;have w:=a.ol;rw[Ed.eq_2,ct (dt (by omega)),BS hi,bd (RU hK t (by omega) _),List.drop_eq_getElem_cons o,List.drop_eq_getElem_cons hi,JY b,Dp,Qi];cases hr:EB d[i] 0 ((t.Ac.length:Int)-1) with
  |false=>exact⟨m,by rw[nf];rfl,hm⟩
  |true=>
   have y:=Dv.1 hr;obtain⟨x,hx⟩:∃x:Nat,d[i]=(x:Int):=⟨d[i].toNat,by omega⟩;rw[nt,Pc (by omega),ML,bd (KH hK _ _ (by simp;omega))];cases aA:(d.take i).contains d[i] with
   |true=>exact⟨m,by rw[ct rfl,Bool.not_true,Bool.false_and,Bool.and_false];rfl,hm⟩
   |false=>
    obtain⟨p,c,g⟩:=Oi hK a f hm (a.order _ (List.getElem_mem b)).1 (k:=x) (by omega);rw[cf rfl,BS b];show∃l,((EK K (wk t (L.map (Av t)) m) t.Aw[i] d[i]).bind _).bind _=_∧_;rw[hx,bd g,Int.toNat_natCast];cases Gu t t.Aw[i] x with
    |false=>exact⟨p,by rw[nf,Bool.and_false,Bool.false_and];rfl,c⟩
    |true=>
     obtain⟨u,g2,r⟩:=Qf a f j d s e n (i+1) p (by omega) (by omega) c;refine⟨u,?_,r⟩;rw[nt,AZ (by omega) (by omega),CZ i,g2,List.take_succ_eq_append_getElem hi,hx];simp
theorem Ot{t:Aj}(h:DP t=true){d:List Int}(i:d.length≤900):FF K t d=some (decide (BQ t=0)&&Dp (DF t) [] d):=by
 unfold FF;rcases Hl hK h true with⟨h0,_,L,m,c,hm,e⟩|⟨h0,e⟩
 ·have b:=D6 h (Cq (Ds h0).1).1;rw[bd e,dt h0,Bool.true_and];show cond ((d.length:Int) !=(t.Aw.length:Int)) _ _=_
  by_cases hl:d.length=t.Aw.length
  ·have f:=b.ol;obtain⟨j,g,_⟩:=Qf hK b c m d hl d.length K 0 m (by omega) (by omega) hm;rw[Int.natCast_zero,List.drop_zero,List.drop_zero,List.take_zero] at g;rw[cf (E6 (by omega))];exact g
  ·rw[ct (Fy (by omega))]
   congr 1
   cases hb:Dp (DF t) [] d with
   |false=>rfl
   |true=>have:=Jc hb;rw[Fm] at this;exact absurd this hl
 ·have a:BQ t≠0:=fun g=>h0 ⟨g,rfl⟩;rw[if_neg (by simp)] at e;rw[bd e,df a,Bool.false_and];show cond (_ !=0) _ _=_;rw[ct (Fy a)]
end
theorem oe{α β b:Type}{a:α}{z:b}{x:β}{f:α→β}:Option.elim (some a,z).1 x f=f a:=rfl
theorem S1{α b:Type}{a:α}{x y:b}:cond ((a,(0:Int)).2 !=0) x y=y:=rfl
section
variable{K:Nat}(hK:1000≤K)
include hK
end
def E1 (t:Aj) (out:List Int):Bool:=(Bo t.C).any fun l=>BB (As t l) out 0 t.Ao
def C8(t:Aj)(ns:List Ct):Aj:=⟨t.Al,t.Ac,t.Ap,t.Flat,t.AH,t.Aw,ns⟩
theorem Ab4{M:List Int}{a b:List Int}{ns:List Ct}{i:Nat}(h:∀x∈a,x∈b)(hr:BB M a i ns=true):BB M b i ns=true:=by
 rw[Hm] at hr⊢;intro j hj;rcases hr j hj with h1|h1
 ·exact .inl (List.contains_iff_mem.2 (h _ (List.contains_iff_mem.1 h1)))
 ·exact .inr h1
theorem PR (M:List Int) {ns:List Ct} (h5:ns.length≤5):BB M (Ba (2^ns.length-1)) 0 ns=true:=by
 rw[Hm];intro j hj;left;rw[Nat.zero_add,Ka (by omega),Nat.testBit_two_pow_sub_one];simpa using hj
def FW (t:Aj) (k:Nat):Bool:=E1 (C8 t (t.Ao.take k)) []
theorem F2(M:List Int)(ns:List Ct):BB M [] 0 ns=true↔∀n∈ns,FT M n=true:=by
 rw[Hm];constructor
 ·intro h n hn;obtain⟨j,hj,rfl⟩:=List.getElem_of_mem hn;rcases h j hj with h1|h1
  ·simp at h1
  ·exact h1
 ·intro h j hj;exact .inr (h _ (List.getElem_mem hj))
theorem GC{t:Aj}{j k:Nat}(h:j≤k)(hk:FW t k=true):FW t j=true:=by
 unfold FW E1 at hk⊢;rw[List.any_eq_true] at hk⊢;obtain⟨l,hl,hr⟩:=hk;refine⟨l,hl,?_⟩;have a:As (C8 t (t.Ao.take k)) l=As t l:=rfl;have b:As (C8 t (t.Ao.take j)) l=As t l:=rfl;have c:(C8 t (t.Ao.take k)).Ao=t.Ao.take k:=rfl;have d:(C8 t (t.Ao.take j)).Ao=t.Ao.take j:=rfl;rw[a,c,F2] at hr;rw[b,d,F2];exact fun n hn=>hr n (List.take_subset_take_left _ h hn)
structure Gb (t:Aj) (i:Nat):Prop where
 lt:i<t.Ao.length
 before:FW t i=true
 not:FW t (i+1)=false
theorem Gb.uniq{t:Aj}{i j:Nat}(h:Gb t i)(g:Gb t j):i=j:=by
 rcases Nat.lt_trichotomy i j with h1|h1|h1
 ·have:=GC (show i+1≤j by omega) g.before;rw[h.not] at this;cases this
 ·exact h1
 ·have:=GC (show j+1≤i by omega) h.before;rw[g.not] at this;cases this
section
variable{K:Nat}(hK:1000≤K)
include hK
theorem Rf{t:Aj}(b:OkT t){out:List Int}(d:out.length≤900){L:List (List Int)}(c:Tr t L){m:List (List Int×Int)}(hm:Dr t m):
  ∃a,Dr t a∧BM K (wk t (L.map (Av t)) m) out=some (E1 t out,a):=by
 obtain⟨a,h1,h2⟩:=GN hK b d c.len hm;refine⟨a,h1,?_⟩;rw[h2];unfold E1;rw[JJ hK b c _ (Hj hK b out)]
theorem R5{t:Aj}(h:DP t=true):∃x,IY K t=some (x,B5 t)∧(B5 t≠0→x=[])∧(B5 t=0→EC t.Ao.length (E1 t) x):=by
 unfold IY;rcases G3 hK h true with⟨h0,_,L,i,a,e⟩|⟨h0,e⟩
 ·have b:=D6 h (Cq h0).1;have c:=b.nl;obtain⟨m,k,g1⟩:=MM hK (n:=t.Ao.length) (by omega) (I:=Dr t) (p:=E1 t) (fun(st:(List (List Int×Int))) (x:(List Int))=>(BM K (wk t (L.map (Av t)) st) x).bind fun r=>some (r.1,r.2)) (fun s x hs hx hb=>by
   obtain⟨j,d,g⟩:=Rf hK b (out:=x) (by omega) i hs;refine⟨j,d,?_⟩;show(BM K (wk t (L.map (Av t)) s) x).bind _=_;rw[bd g]) (Ky t)
  have f:FL K (fun(st:(List (List Int×Int))) (x:(List Int))=>(BM K (⟨(wk t (L.map (Av t)) []).BD,(wk t (L.map (Av t)) []).BE,(wk t (L.map (Av t)) []).By,(wk t (L.map (Av t)) []).DZ,(wk t (L.map (Av t)) []).Ce,(wk t (L.map (Av t)) []).Ca,(wk t (L.map (Av t)) []).CH,(wk t (L.map (Av t)) []).weights,(wk t (L.map (Av t)) []).Dq,st⟩:DO) x).bind fun r=>some (r.1,r.2)) (t.Ao.length:Int) (wk t (L.map (Av t)) []).known=_:=g1;rw[bd e,oe,S1,bd f,h0];refine⟨_,rfl,fun g=>absurd rfl g,fun _=>Om (by omega) [] ?_⟩;rw[On (by omega)];have o:=Nat.two_pow_pos t.Ao.length;refine⟨2^t.Ao.length-1,by omega,?_⟩;unfold E1;rw[List.any_eq_true];obtain⟨l,hl⟩:=List.exists_mem_of_ne_nil _ (Cq h0).2;exact⟨l,hl,PR _ c⟩
 ·have a:B5 t≠0:=fun g=>h0 ⟨g,rfl⟩;refine⟨[],?_,fun _=>rfl,fun g=>absurd g a⟩;rw[if_neg (by simp)] at e;rw[bd e];show cond (_ !=0) _ _=_;rw[ct (Fy a)]
end
theorem Oq{t:Aj}(b:OkT t):B5 t=0∧Bo t.C≠[]∨B5 t=11∧Bo t.C=[]:=by
 unfold B5
 by_cases a:Bo t.C=[]
 ·right;rw[if_neg (show¬CP t≠0 by simp[b.fault]),if_pos a];exact⟨rfl,a⟩
 ·left;rw[if_neg (show¬CP t≠0 by simp[b.fault]),if_neg a];exact⟨rfl,a⟩
theorem Rr{t:Aj}(b:OkT t)(a:B5 t=0):BQ t=if Bd t=[] then 9 else 0:=by
 unfold BQ;rw[a,if_neg (show¬(0:Int)≠0 by simp)]
theorem NT{t:Aj}:Bd t≠[]↔E1 t []=true:=by
 unfold Bd E1;rw[List.any_eq_true];constructor
 ·intro h;obtain⟨l,hl⟩:=List.exists_mem_of_ne_nil _ h;obtain⟨h1,h2⟩:=List.mem_filter.1 hl;exact⟨l,h1,h2⟩
 ·rintro⟨l,h1,h2⟩ e;have:l∈(Bo t.C).filter fun l=>BB (As t l) [] 0 t.Ao:=List.mem_filter.2 ⟨h1,h2⟩;rw[e] at this;cases this
theorem PS{t:Aj}(a:OkT t)(b:B5 t=0):BQ t=if E1 t []=true then 0 else 9:=by
 rw[Rr a b]
 by_cases h:Bd t=[]
 ·rw[if_pos h,if_neg (fun g=>NT.2 g h)]
 ·rw[if_neg h,if_pos (NT.1 h)]
theorem Sq{t:Aj}(a:OkT t){ns:List Ct}(hn:OkT (C8 t ns)):B5 (C8 t ns)=B5 t:=by
 rcases Oq a with⟨h1,h2⟩|⟨h1,h2⟩<;>rcases Oq hn with⟨g1,g2⟩|⟨g1,g2⟩
 ·rw[h1,g1]
 ·exact absurd g2 h2
 ·exact absurd h2 g2
 ·rw[h1,g1]
section
variable{K:Nat}(hK:1000≤K)
include hK
theorem I4(t:Aj):(B6 K t=some false)∨(DP t=true∧OkT t∧B6 K t=some true):=by
 rw[MN hK t];cases h:DP t with
 |false=>exact .inl rfl
 |true=>
  by_cases h0:CP t=0
  ·exact .inr ⟨rfl,D6 h h0,by rw[dt h0];rfl⟩
  ·exact .inl (by rw[df h0];rfl)
end
end Go.Proofs.YtbhofkcbfblijaaGreat
end
section
namespace Go.Proofs.YtbhofkcbfblijaaGreat
namespace HF
theorem GV:(Tryz.prog.underlying 3).isSome=true:=by kernel_rfl
theorem Ms:Bv Tryz.prog 63:=by unfold Bv;kernel_rfl
theorem Pk:(Tryz.prog.info? 67).bind (·.zero)=some (.agg #[.slice none 0 0,.slice none 0 0,.slice none 0 0,I 0,.slice none 0 0,.slice none 0 0,.slice none 0 0]):=by kernel_rfl
theorem Rs:(Tryz.prog.info? 67).map (·.size)=some 7:=by kernel_rfl
theorem SL:(Tryz.prog.info? 65).map (·.size)=some 1:=by kernel_rfl
theorem Rg:(Tryz.prog.info? 121).map (fun i=>(i.zero,i.size,i.bytes))=some (some (.agg #[I 0,I 0,I 0]),3,24):=by kernel_rfl
theorem Rh:(Tryz.prog.underlying 5).isSome=true:=by kernel_rfl
theorem Uv:HO Tryz.prog 121 3:=by unfold HO;exact⟨by kernel_rfl,by kernel_rfl⟩
theorem JW:Bv Tryz.prog 51:=by unfold Bv;kernel_rfl
theorem Sk:Bv Tryz.prog 82:=by unfold Bv;kernel_rfl
theorem NC:Bv Tryz.prog 48:=by unfold Bv;kernel_rfl
theorem Sp:Bv Tryz.prog 49:=by unfold Bv;kernel_rfl
theorem AgS:Bv Tryz.prog 85:=by unfold Bv;kernel_rfl
end HF
end Go.Proofs.YtbhofkcbfblijaaGreat
end
section
namespace Go.Proofs.YtbhofkcbfblijaaGreat
open Go.RowKit Go.WideShapes
set_option maxRecDepth 20000
open HF
attribute [local irreducible] Eb WL CC CW LV Cw JC HO One Bv
set_option maxHeartbeats 4000000 in
theorem XL cP j aK r s t u y z aA aB n o aC aD aH aI(Z:Nat→Prop) w(eN:Sl AM w Z r s j.Al)(eO:Sl (BO (Ay .i64)) w Z t u j.Ac)(eP:Sl AQ w Z y z j.Ap)(eQ:Sl Bm w Z aA aB j.AH)(eS:Sl Bl w Z n o j.Aw)(eT:Sl BA w Z aC aD j.Ao)(eU:Sl (Ay .i64) w Z aH aI aK) fW(a:FF cP j aK=some fW):
 Cw Tryz.prog 82 #[.agg (Am r s t u y z aA aB n o aC aD j).toArray,.slice aH aK.length aI] w (fun v w'=>Ext w w'∧Dg.R w' (zf Z w []) v fW):=by
 unfold FF at a;refine AS (N:=54) Tryz.func82 rfl rfl (by simp) ?_;intro gC ha gD;have e4:=sA 0 ha;have cQ:=sA 1 ha;clear ha;have eZ:Hp FN [] w [] w:=Hp.start (Cc.none w);have ⟨dL,dM,dN,dO,dP,dQ,dR⟩:=E0 eN eO eP eQ eS eT eU (Bh (Z:=Z) (L:=[]) w);refine Af<|Ad<|wE (fun st=>Ci (v:=.agg (Am r s t u y z aA aB n o aC aD j).toArray) (cs:=(Am r s t u y z aA aB n o aC aD j).toArray) (ee st e4) rfl) ?_;rintro _ w1 ⟨b1,rfl,bQ⟩;have b8:=eZ.nb bQ;have f9:=eZ.Cr bQ;refine wA (v:=.bool false) rfl<|Ag<|Ab<|Af<|Ad<|wD (fun st=>AR (l:=(Am r s t u y z aA aB n o aC aD j)) Hh (eR st) bQ.bk rfl rfl) ?_;have ⟨bR,bS,bT,bU,bV,bW⟩:=Cz dL dM dN dO dP dQ (AP bQ);replace a:=bind_some a;obtain⟨aO,fX,a⟩:=a;refine wE (fun st=>Ar PJ (eR st) (Dw (eR st) (eR st)) (S8 cP j true r s t u y z aA aB n o aC aD (zf Z w [some b1]) _ bR bS bT bU bV bW aO fX)) ?_;rintro _ gA ⟨b9,⟨gN,rfl,fY⟩⟩;rcases JH.cases fY with⟨d7,rfl⟩|⟨aE,d7,b3,b,aR,aS,aT,aU,aV,aW,aX,aY,aZ,a0,a2,a3,a4,a5,a8,a9,rfl,aP,fZ,f0,d8,d9,eA,eB,eC,eD,eE,eF⟩
 ·replace a:=RQ d7 a;have f1:=b8.ext b9;refine wM (v:=.tuple #[.pointer none,I aO.2]) rfl<|wD (fun st=>BH (v:=.pointer none) (eR st) rfl)<|wD (fun st=>BH (v:=I aO.2) (eR st) rfl)<|wA (v:=.pointer none) rfl<|wA (v:=I aO.2) rfl<|Ag<|Ab<|Af<|Af<|Ad<|wM (v:=I aO.2) rfl<|wD (fun st=>DW (eR st) (eR st))<|wM (v:=.bool (aO.2 !=0)) rfl ?_;rcases Ak (aO.2 !=0) with aL|aL
  ·replace a:=Az a aL;refine Au (c:=true) rfl rfl (Ae rfl aL) (by decide) rfl (by decide)<|Au (c:=true) rfl rfl (Ae rfl aL) (by decide) rfl (by decide)<|Au (c:=true) rfl rfl (Ae rfl aL) (by decide) rfl (by decide)<|Au (c:=true) rfl rfl (Ae rfl aL) (by decide) rfl (by decide)<|Au (c:=true) rfl rfl (Ae rfl aL) (by decide) rfl (by decide)<|Au (c:=true) rfl rfl (Ae rfl aL) (by decide) rfl (by decide)<|wD (fun st=>AY (v:=.bool true) (eR st) aL (eR st))<|Ag<|Ab<|AD rfl rfl<|Af<|Ad<|wA (v:=.bool false) rfl<|Ag<|Ab<|AI<|Ax ?_;obtain rfl:=oi a;refine AJ rfl rfl ?_;exact⟨f1.Bc,rfl⟩
  ·replace a:=AA a aL;exact absurd a (by simp)
 ·replace a:=RR d7 a;have e0:=b8.Ox b9 aP;have eV:w.heap.size≤b3:=Nat.le_trans b8.sz (aP.mem _ (by simp)).1;have fR:w.heap.size≤b:=Nat.le_trans b8.sz (aP.mem _ (by simp)).1;have ⟨cR,cS,cT,cU,cV,cW,cX,cY⟩:=Ii d8 d9 eA eB eC eD eE eF (b8.P0 aP);have eG:=e0.erase 0;have e5:Rz gA (zf Z w [some b,some b1]) (some ⟨b3,0,none⟩) (G1 aR aS aT aU aV aW aX aY aZ a0 a2 a3 a4 a5 a8 a9 b aE):=P1 fZ (e0.lit 0 rfl eV) rfl;refine wM (v:=.tuple #[pt b3 0,I aO.2]) rfl<|wD (fun st=>BH (v:=pt b3 0) (eR st) rfl)<|wD (fun st=>BH (v:=I aO.2) (eR st) rfl)<|wA (v:=pt b3 0) rfl<|wA (v:=I aO.2) rfl<|Ag<|Ab<|Af<|Af<|Ad<|wM (v:=I aO.2) rfl<|wD (fun st=>DW (eR st) (eR st))<|wM (v:=.bool (aO.2 !=0)) rfl ?_;rcases Ak (aO.2 !=0) with m|m
  ·replace a:=Az a m;refine Au (c:=true) rfl rfl (Ae rfl m) (by decide) rfl (by decide)<|Au (c:=true) rfl rfl (Ae rfl m) (by decide) rfl (by decide)<|Au (c:=true) rfl rfl (Ae rfl m) (by decide) rfl (by decide)<|Au (c:=true) rfl rfl (Ae rfl m) (by decide) rfl (by decide)<|Au (c:=true) rfl rfl (Ae rfl m) (by decide) rfl (by decide)<|Au (c:=true) rfl rfl (Ae rfl m) (by decide) rfl (by decide)<|wD (fun st=>AY (v:=.bool true) (eR st) m (eR st))<|Ag<|Ab<|AD rfl rfl<|Af<|Ad<|wA (v:=.bool false) rfl<|Ag<|Ab<|AI<|Ax ?_;obtain rfl:=oi a;refine AJ rfl rfl ?_;exact⟨eG.Bc,rfl⟩
  ·replace a:=AA a m;refine An rfl rfl (Ae rfl m) rfl (by decide) (fun st=>Aq (v:=.slice aH aK.length aI) (ee st cQ))<|An rfl rfl (Ae rfl m) rfl (by decide) (fun st=>Bu Tryz.underlying31 (eR st))<|An rfl rfl (Ae rfl m) rfl (by decide) (fun st=>Ai (eR st) (ME _ _)) ?_;have dG:=(bQ.bk.ext b9);refine An rfl rfl (Ae rfl m) rfl (by decide) (fun st=>AG (v:=.slice n j.Aw.length o) NQ (eR st) dG rfl)<|An rfl rfl (Ae rfl m) rfl (by decide) (fun st=>Bu Tryz.underlying50 (eR st))<|An rfl rfl (Ae rfl m) rfl (by decide) (fun st=>DW (eR st) (eR st))<|wD (fun st=>BC (v:=.bool ((aK.length:Int) !=(j.Aw.length:Int))) (eR st) m (eR st))<|Ag<|Ab ?_;rcases Ak ((aK.length:Int) !=(j.Aw.length:Int)) with cA|cA
   ·replace a:=Az a cA;refine AD rfl cA<|Af<|Ad<|wA (v:=.bool false) rfl<|Ag<|Ab<|AI<|Ax ?_;obtain rfl:=oi a;refine AJ rfl rfl ?_;exact⟨eG.Bc,rfl⟩
   ·replace a:=AA a cA;refine AE rfl cA<|AL<|Ab<|Af<|Af<|Ad<|wM (v:=.slice aH aK.length aI) cQ<|wD (fun st=>Bu Tryz.underlying31 (eR st))<|wM (v:=I 0) rfl<|Ag<|Ab<|AT ?_;replace a:=bind_some a;obtain⟨e6,bX,a⟩:=a;refine Cm (fun e7 q p=>(e7=.ret∧∃bY,e6=.inl bY∧q.tmps.size=54∧q.defers=(X0).ds∧sl q 4=.bool bY.1∧Hp FN [] w [some b,some b1] p)∨(e7=.exit 0∧∃bY,e6=.inr bY∧q.tmps.size=54∧q.defers=(X0).ds∧Hp FN [] w [some b,some b1] p)) ?f2 ?f3
    case f2=>
     clear a;refine Cl (fun(e8:Nat) (q:Act) (p:World)=>∃h,∃g,Ed cP j aK aE e8 h g=some e6∧q.tmps.size=54∧q.defers=(X0).ds∧sl q 1=.slice aH aK.length aI∧sl q 2=pt b1 0∧sl q 5=pt b3 0∧sl q 24=.slice aH aK.length aI∧sl q 25=I (aK.length:Int)∧sl q 26=I h∧Hp FN [] w [some b,some b1] p∧Bk p b1 53 (Am r s t u y z aA aB n o aC aD j).toArray∧Sl AM p (zf Z w [some b,some b1]) r s j.Al∧Sl (BO (Ay .i64)) p (zf Z w [some b,some b1]) t u j.Ac∧Sl AQ p (zf Z w [some b,some b1]) y z j.Ap∧Sl Bm p (zf Z w [some b,some b1]) aA aB j.AH∧Sl Bl p (zf Z w [some b,some b1]) n o j.Aw∧Sl BA p (zf Z w [some b,some b1]) aC aD j.Ao∧Sl (Ay .i64) p (zf Z w [some b,some b1]) aH aI aK∧Sl AM p (zf Z w [some b,some b1]) aR aS aE.BD∧Sl (BO (Ay .i64)) p (zf Z w [some b,some b1]) aT aU aE.BE∧Sl AQ p (zf Z w [some b,some b1]) aV aW aE.By∧Sl Bm p (zf Z w [some b,some b1]) aX aY aE.Ce∧Sl Bl p (zf Z w [some b,some b1]) aZ a0 aE.Ca∧Sl BA p (zf Z w [some b,some b1]) a2 a3 aE.CH∧Sl (Ay .i64) p (zf Z w [some b,some b1]) a4 a5 aE.weights∧Sl Gl p (zf Z w [some b,some b1]) a8 a9 aE.Dq∧GH (fun x:Int=>I x) p b 2 g∧Rz p (zf Z w [some b,some b1]) (some ⟨b3,0,none⟩) (G1 aR aS aT aU aV aW aX aY aZ a0 a2 a3 a4 a5 a8 a9 b aE)) cP ?f4 ?f5
     case f4=>
      intro st;have ⟨dS,dT,dU,dV,dW,dX⟩:=Cz bR bS bT bU bV bW (mt (FC (Ah b9) aP) (Bp 0));have dY:=(((dR.mv (AP bQ)).mv (FC (Ah b9) aP)).mv (Bp 0));have ⟨cZ,c0,c1,c2,c3,c4,c5,c6⟩:=Ii cR cS cT cU cV cW cX cY (Bp 0);have eW:=f0;exact⟨(0:Int),aE.known,bX,qz st,qd st,sp st 1 cQ,sp st 2 rfl,sp st 5 rfl,sp st 24 rfl,sp st 25 rfl,sp st 26 rfl,eG,dG,dS,dT,dU,dV,dW,dX,dY,cZ,c0,c1,c2,c3,c4,c5,c6,eW,e5⟩
     case f5=>
      rintro(_|e8) gE gF ⟨h,g,bX,e9,fA,dH,b5,dI,cB,cC,aN,e1,cD,bA,bB,bC,bD,bE,bF,bG,cE,cF,cG,cH,cI,cJ,cK,cL,eH,dZ⟩
      ·exact absurd (show none=some _ from bX) (by simp)
      rw[Ed.eq_2] at bX;have a:=bX;clear bX;refine B7 (N:=54) e9 fA<|Af<|Ad<|wD (fun st=>CO (ee st aN) (ee st cC))<|Ag<|Ab<|Af ?_;rcases Ak (decide (h<(aK.length:Int))) with cM|cM
      ·replace a:=Az a cM;refine AD rfl cM<|AL<|Ab<|Af<|AT<|Af<|Ad<|wM (v:=I h) aN ?_;replace a:=AW a;obtain⟨i10,aQ,fB,fC,fD,a⟩:=a;obtain⟨gG,gH,_,fE,rfl,fF⟩:=Sl.C1 bG rfl fC;refine wD (fun st=>AX (k:=i10) Tryz.underlying31 DR (ee st cB) fE (ee st aN) fB fD)<|wD (fun st=>Bg (v:=I aQ) Bz (eR st) fF rfl)<|wA (v:=I h) rfl<|wA (v:=I aQ) rfl<|Ag<|Ab<|Af<|Ad<|wD (fun st=>AR (l:=(Am r s t u y z aA aB n o aC aD j)) Hh (ee st b5) cD rfl rfl)<|wM (v:=I aQ) rfl ?_;replace a:=bind_some a;obtain⟨cN,fG,a⟩:=a;refine wE (fun st=>Ar Ug (eR st) (Dw (eR st) (eR st)) (Aam cP j aQ r s t u y z aA aB n o aC aD ZA _ bA.all bB.all bC.all bD.all bE.all bF.all cN fG)) ?_;rintro _ f6 ⟨aF,rfl⟩;have e2:=e1.ext aF;refine wD (fun st=>Dz (eR st))<|wM (v:=.bool !cN) rfl ?_;rcases Ak (!cN) with f|f
       ·replace a:=Az a f;have fS:cN=false:=by simpa using f
        refine Au (c:=true) rfl rfl (Ae rfl f) (by decide) rfl (by decide)<|Au (c:=true) rfl rfl (Ae rfl f) (by decide) rfl (by decide)<|Au (c:=true) rfl rfl (Ae rfl f) (by decide) rfl (by decide)<|Au (c:=true) rfl rfl (Ae rfl f) (by decide) rfl (by decide)<|Au (c:=true) rfl rfl (Ae rfl f) (by decide) rfl (by decide)<|wD (fun st=>AY (v:=.bool true) (eR st) f (eR st))<|wM (v:=.bool true) rfl<|Au rfl rfl rfl (by decide) rfl (by decide)<|Au rfl rfl rfl (by decide) rfl (by decide)<|Au rfl rfl rfl (by decide) rfl (by decide)<|Au rfl rfl rfl (by decide) rfl (by decide)<|Au rfl rfl rfl (by decide) rfl (by decide)<|Au rfl rfl rfl (by decide) rfl (by decide)<|Au rfl rfl rfl (by decide) rfl (by decide)<|Au rfl rfl rfl (by decide) rfl (by decide)<|Au rfl rfl rfl (by decide) rfl (by decide)<|wD (fun st=>AY (v:=.bool true) (eR st) rfl (eR st))<|Ag<|Ab<|AD rfl rfl<|Af<|Ad<|wA (v:=.bool false) rfl<|Ag<|Ab<|AI<|Bi<|Ax<|Ax ?_;obtain rfl:=oi a;refine B4 (fun st=>?_);exact .inl ⟨rfl,(false,g),rfl,qz st,qd st,sp st 4 rfl,e2⟩
       ·replace a:=AA a f;have fT:cN=true:=by simpa using f
        refine An rfl rfl (Ae rfl f) rfl (by decide) (fun st=>Aq (v:=.slice aH aK.length aI) (ee st dH))<|An rfl rfl (Ae rfl f) rfl (by decide) (fun st=>Aq (v:=I h) (eR st)) ?_;replace a:=N1 a;obtain⟨fH,a⟩:=a;have bZ:=(bG.mv (Ah aF));refine Di rfl rfl (Ae rfl f) rfl (by decide) (fun st=>RF (e:=(Ay .i64)) (Z:=_) (xs:=aK) Tryz.underlying31 DR rfl (eR st) S7 (Tt (eR st)) bZ fH) ?_;rintro _ f6 ⟨⟨f7,f8,rfl,fI⟩,rfl⟩;refine An rfl rfl (Ae rfl f) rfl (by decide) (fun st=>Aq (v:=I aQ) (eR st)) ?_;replace a:=bind_some a;obtain⟨dJ,fJ,a⟩:=a;refine Di rfl rfl (Ae rfl f) rfl (by decide) (fun st=>Ar QF (eR st) (Dw (eR st) (eR st)) (T6 cP (Gv aK (0:Int) h) aQ f7 f8 ZA _ fI.all dJ fJ)) ?_;rintro _ gI ⟨aG,rfl⟩;have i:=e2.ext aG;refine wD (fun st=>BC (v:=.bool dJ) (eR st) f (eR st))<|wM (v:=.bool dJ) rfl ?_;rcases Ak (dJ) with d|d
        ·replace a:=Az a d;refine Au (c:=true) rfl rfl (Ae rfl d) (by decide) rfl (by decide)<|Au (c:=true) rfl rfl (Ae rfl d) (by decide) rfl (by decide)<|Au (c:=true) rfl rfl (Ae rfl d) (by decide) rfl (by decide)<|Au (c:=true) rfl rfl (Ae rfl d) (by decide) rfl (by decide)<|Au (c:=true) rfl rfl (Ae rfl d) (by decide) rfl (by decide)<|Au (c:=true) rfl rfl (Ae rfl d) (by decide) rfl (by decide)<|Au (c:=true) rfl rfl (Ae rfl d) (by decide) rfl (by decide)<|Au (c:=true) rfl rfl (Ae rfl d) (by decide) rfl (by decide)<|Au (c:=true) rfl rfl (Ae rfl d) (by decide) rfl (by decide)<|wD (fun st=>AY (v:=.bool true) (eR st) d (eR st))<|Ag<|Ab<|AD rfl rfl<|Af<|Ad<|wA (v:=.bool false) rfl<|Ag<|Ab<|AI<|Bi<|Ax<|Ax ?_;obtain rfl:=oi a;refine B4 (fun st=>?_);exact .inl ⟨rfl,(false,g),rfl,qz st,qd st,sp st 4 rfl,i⟩
        ·replace a:=AA a d;refine An rfl rfl (Ae rfl d) rfl (by decide) (fun st=>Aq (v:=pt b3 0) (ee st dI))<|An rfl rfl (Ae rfl d) rfl (by decide) (fun st=>Ai (ee st b5) (ME _ _)) ?_;have dK:=((cD.ext aF).ext aG);refine An rfl rfl (Ae rfl d) rfl (by decide) (fun st=>AG (v:=.slice n j.Aw.length o) NQ (eR st) dK rfl)<|An rfl rfl (Ae rfl d) rfl (by decide) (fun st=>Aq (v:=I h) (eR st)) ?_;replace a:=AW a;obtain⟨i21,eI,fK,fL,fM,a⟩:=a;have b4:=((bE.mv (Ah aF)).mv (Ah aG));obtain⟨gJ,gK,_,fN,rfl,fO⟩:=Sl.elem b4 (by decide) fL;refine An rfl rfl (Ae rfl d) rfl (by decide) (fun st=>BR (k:=i21) Tryz.underlying50 Tz (eR st) fN (eR st) fK fM)<|An rfl rfl (Ae rfl d) rfl (by decide) (fun st=>Ew (l:=[I eI.En,I eI.Ey]) RY (eR st) fO rfl rfl)<|An rfl rfl (Ae rfl d) rfl (by decide) (fun st=>Aq (v:=I aQ) (eR st)) ?_;have ⟨bH,bI,bJ,bK,bL,bM,bN,bO⟩:=Ii cE cF cG cH cI cJ cK cL (mt (Ah aF) (Ah aG));have eX:=((eH.ext aF).ext aG);have cO:=((dZ.mv (Ah aF)).mv (Ah aG));replace a:=bind_some a;obtain⟨bP,fP,a⟩:=a;refine Di rfl rfl (Ae rfl d) rfl (by decide) (fun st=>Ar Uj (eR st) (EN (eR st) (eR st) (eR st)) (a138 cP (⟨aE.BD,aE.BE,aE.By,aE.DZ,aE.Ce,aE.Ca,aE.CH,aE.weights,aE.Dq,g⟩:DO) eI aQ aR aS aT aU aV aW aX aY aZ a0 a2 a3 a4 a5 a8 a9 b3 b (ZC FN [some b]) _ (i.GU (F':=FN) (M:=[some b]) (C:=[]) [0] [] rfl ⟨rfl,trivial⟩ trivial eL) Lb (bH.mv (i.mz (F':=FN) (M:=[some b]) (C:=[]) [0] [] ⟨rfl,trivial⟩ trivial eL)) (bI.mv (i.mz (F':=FN) (M:=[some b]) (C:=[]) [0] [] ⟨rfl,trivial⟩ trivial eL)) (bJ.mv (i.mz (F':=FN) (M:=[some b]) (C:=[]) [0] [] ⟨rfl,trivial⟩ trivial eL)) (bK.mv (i.mz (F':=FN) (M:=[some b]) (C:=[]) [0] [] ⟨rfl,trivial⟩ trivial eL)) (bL.mv (i.mz (F':=FN) (M:=[some b]) (C:=[]) [0] [] ⟨rfl,trivial⟩ trivial eL)) (bM.mv (i.mz (F':=FN) (M:=[some b]) (C:=[]) [0] [] ⟨rfl,trivial⟩ trivial eL)) (bN.mv (i.mz (F':=FN) (M:=[some b]) (C:=[]) [0] [] ⟨rfl,trivial⟩ trivial eL)) (bO.mv (i.mz (F':=FN) (M:=[some b]) (C:=[]) [0] [] ⟨rfl,trivial⟩ trivial eL)) (cO.mv (i.mz (F':=FN) (M:=[some b]) (C:=[]) [0] [] ⟨rfl,trivial⟩ trivial eL)) eX bP fP)) ?_;rintro _ gL ⟨aJ,rfl,eJ⟩;have e3:=i.Fa aJ (Cv [0] ⟨rfl,trivial⟩ eL);refine An rfl rfl (Ae rfl d) rfl (by decide) (fun st=>Dz (eR st))<|wD (fun st=>BC (v:=.bool !bP.1) (eR st) d (eR st))<|Ag<|Ab ?_;rcases Ak (!bP.1) with aM|aM
         ·replace a:=Az a aM;have fU:bP.1=false:=by simpa using aM
          refine AD rfl aM<|Af<|Ad<|wA (v:=.bool false) rfl<|Ag<|Ab<|AI<|Bi<|Ax<|Ax ?_;obtain rfl:=oi a;refine B4 (fun st=>?_);exact .inl ⟨rfl,(false,bP.2),rfl,qz st,qd st,sp st 4 rfl,e3⟩
         ·replace a:=AA a aM;have fV:bP.1=true:=by simpa using aM
          refine AE rfl aM<|AL<|Bs<|Ab<|Ad ?_;replace a:=AK a;obtain⟨fQ,a⟩:=a;refine wD (fun st=>B0 (ee st aN) (eR st) fQ)<|wM (v:=I (h+1)) rfl<|Ag ?_;have eY:=(dK.Fa aJ (i.FZ 1 rfl [0] rfl ⟨rfl,trivial⟩ eL));have ⟨d0,d1,d2,d3⟩:=F4 bA bB bC bD (mt (Ah aF) (mt (Ah aG) (i.If aJ (Cv [0] ⟨rfl,trivial⟩ eL))));have d4:=(b4.mv (i.If aJ (Cv [0] ⟨rfl,trivial⟩ eL)));have d5:=(((bF.mv (Ah aF)).mv (Ah aG)).mv (i.If aJ (Cv [0] ⟨rfl,trivial⟩ eL)));have d6:=((bZ.mv (Ah aG)).mv (i.If aJ (Cv [0] ⟨rfl,trivial⟩ eL)));have ⟨c7,c8,c9,dA,dB,dC,dD,dE⟩:=Ii bH bI bJ bK bL bM bN bO (i.If aJ (Cv [0] ⟨rfl,trivial⟩ eL));have eK:=(cO.mv (i.If aJ (Cv [0] ⟨rfl,trivial⟩ eL)));refine Bw e8 (Nat.lt_succ_self _) (fun st=>?_);exact⟨(h+1),bP.2,a,qz st,qd st,sp st 1 dH,sp st 2 b5,sp st 5 dI,sp st 24 cB,sp st 25 cC,sp st 26 rfl,e3,eY,d0,d1,d2,d3,d4,d5,d6,c7,c8,c9,dA,dB,dC,dD,dE,eJ,eK⟩
      ·replace a:=AA a cM;refine AE rfl cM<|Cd<|AB<|AB ?_;obtain rfl:=oi a;refine B4 (fun st=>?_);exact .inr ⟨rfl,g,rfl,qz st,qd st,e1⟩
    case f3=>
     rintro e7 gB gM (⟨rfl,bY,rfl,b6,b7,eM,dF⟩|⟨rfl,bY,rfl,b6,b7,dF⟩)
     ·skip
      replace a:=Eg a;refine Cn (X:=X0) (N:=54) b6 b7<|Bi<|Ax ?_;obtain rfl:=oi a;refine AJ rfl eM ?_;exact⟨dF.Bc,rfl⟩
     ·skip
      replace a:=Eh a;refine Cn (X:=X0) (N:=54) b6 b7<|Bn<|Ab<|Af<|Ad<|wA (v:=.bool true) rfl<|Ag<|Ab<|AI ?_;obtain rfl:=oi a;refine AJ rfl rfl ?_;exact⟨dF.Bc,rfl⟩
theorem Q7 aU r(Z:Nat→Prop) w aV(a:CN aU r=some aV):
 Cw Tryz.prog 63 #[I r] w (fun v w'=>Ext w w'∧(Gp (Ay .i64)).R w' (zf Z w []) v aV):=by
 unfold CN at a;refine AS (N:=23) Tryz.func63 rfl rfl (by simp) ?_;intro bF ha bG;have aN:=sA 0 ha;clear ha;have aW:Hp FN [] w [] w:=Hp.start (Cc.none w);refine Af<|Ad<|wA (v:=.slice none 0 0) rfl<|Ag<|Ab<|Af<|Ad<|wA (v:=.slice none 0 0) rfl<|Ag<|Ab<|Af<|Af<|Ad<|wA (v:=I 0) rfl<|Ag<|Ab<|AT ?_;have aX:=aW.nil;have aY:BY (Ay .i64) 3 w.heap.size w (zf Z w [none]) none 0 ([]:List Int):=BY.nil _ _ _ _ _;replace a:=bind_some a;obtain⟨y,p,a⟩:=a;refine Cm (fun aZ j z=>(aZ=.exit 0∧∃c d,j.tmps.size=23∧j.defers=(X0).ds∧sl j 3=.slice c y.length d∧Hp FN [] w [ob c] z∧BY (Ay .i64) 3 w.heap.size z (zf Z w [ob c]) c d y)) ?a0 ?a2
 case a0=>
  clear a;refine Cl (fun(aH:Nat) (j:Act) (z:World)=>∃g,∃b,∃f h,BG r aH g b=some y∧j.tmps.size=23∧j.defers=(X0).ds∧sl j 0=I r∧sl j 3=.slice f g.length h∧sl j 4=I b∧Hp FN [] w [ob f] z∧BY (Ay .i64) 3 w.heap.size z (zf Z w [ob f]) f h g) aU ?a3 ?a4
  case a3=>
   intro st;exact⟨([]:List Int),(0:Int),none,0,p,qz st,qd st,sp st 0 aN,sp st 3 rfl,sp st 4 rfl,aX,aY⟩
  case a4=>
   rintro(_|aH) bH bI ⟨g,b,f,h,p,aO,aP,m,q,l,u,i⟩
   ·exact absurd (show none=some _ from p) (by simp)
   rw[BG.eq_2] at p;have a:=p;clear p;refine B7 (N:=23) aO aP<|Af<|Af<|Ad<|wM (v:=I r) m<|wM (v:=I b) l ?_;replace a:=D1 a;obtain⟨a5,a⟩:=a;refine wD (fun st=>EX (k:=.u64) GV Tryz.underlying91 (eR st) a5) ?_;replace a:=GB a;obtain⟨a8,a⟩:=a;refine wD (fun st=>J2 (eR st) (eR st) a8)<|wD (fun st=>HJ (eR st) (eR st))<|Ag<|Ab ?_;rcases Ak (decide ((0:Int)<(ER r b))) with s|s
   ·replace a:=Az a s;refine AD rfl s<|AL<|Ab<|Af<|AT<|Af<|Ad<|wM (v:=I r) m<|wM (v:=I b) l ?_;replace a:=D1 a;obtain⟨a9,a⟩:=a;refine wD (fun st=>EX (k:=.u64) GV Tryz.underlying91 (eR st) a9) ?_;replace a:=GB a;obtain⟨bA,a⟩:=a;refine wD (fun st=>J2 (eR st) (eR st) bA) ?_;replace a:=Fu a;obtain⟨aK,a⟩:=a;refine wD (fun st=>HG (eR st) (eR st) aK.1 aK.2)<|wD (fun st=>Dj (eR st) (eR st))<|Ag<|Ab ?_;rcases Ak (((ER r b)%2)==1) with t|t
    ·replace a:=Az a t;refine AD rfl t<|Ad<|wM (v:=.slice f g.length h) q<|wM (v:=I b) l<|wE (fun st=>De (e:=3) (vs:= #[(0,I b)]) (cs:= #[I b]) (JN (eR st)) (by kernel_rfl)) ?_;rintro _ bJ ⟨bK,rfl,n⟩;have aA:=u.nb n;have bB:=u.Cr n;have x:=(i.ext n.gr (AP n));replace a:=Ck a;obtain⟨aB,a⟩:=a;refine wE (fun st=>Jd (ys:=[b]) Tryz.underlying31 Hv rfl rfl (by decide) (eR st) rfl (eR st) x (ID (DQ:=[[I b]]) n.bk ⟨rfl,trivial⟩ rfl) (by have:=aB;simp only[maxLen];omega) (by have:=aB;omega) aA.sz (by simp)) ?_;rintro _ bL ⟨aL,aM,rfl,aC,aD,aQ⟩;have bC:=aA.row aC 1 rfl aD;have aR:=ED aQ (aA.DN aC 1 rfl (fun k hk=>(aD k hk).1));refine wA (v:=.slice aL ((g++[b]).length) aM) rfl<|Ag<|Bs<|Ab<|Ad<|wM (v:=I b) l ?_;replace a:=AK a;obtain⟨aS,a⟩:=a;refine wD (fun st=>B0 (eR st) (eR st) aS)<|wA (v:=I (b+1)) rfl<|Ag ?_;have bD:=bC.erase 0;have aE:=(aR.up (Bp 0));refine Bw aH (Nat.lt_succ_self _) (fun st=>?_);exact⟨(g++[b]),(b+1),aL,aM,a,qz st,qd st,sp st 0 m,sp st 3 rfl,sp st 4 rfl,bD,aE⟩
    ·replace a:=AA a t;refine AE rfl t<|AL<|Bs<|Ab<|Ad<|wM (v:=I b) l ?_;replace a:=AK a;obtain⟨aT,a⟩:=a;refine wD (fun st=>B0 (eR st) (eR st) aT)<|wA (v:=I (b+1)) rfl<|Ag ?_;refine Bw aH (Nat.lt_succ_self _) (fun st=>?_);exact⟨g,(b+1),f,h,a,qz st,qd st,sp st 0 m,sp st 3 q,sp st 4 rfl,u,i⟩
   ·replace a:=AA a s;refine AE rfl s<|Cd<|AB<|AB ?_;obtain rfl:=oi a;refine B4 (fun st=>?_);exact⟨rfl,f,h,qz st,qd st,sp st 3 q,u,i⟩
 case a2=>
  rintro aZ bE bM (⟨rfl,c,d,aI,aJ,aF,aG,o⟩);refine Cn (X:=X0) (N:=23) aI aJ<|Bn<|Ab<|Af<|Ad<|wM (v:=.slice c y.length d) aF<|wA (v:=.slice c y.length d) rfl<|Ag<|Ab<|AI ?_;obtain rfl:=oi a;refine AJ rfl rfl ?_;exact⟨aG.Bc,⟨_,_,rfl,aG.IA (M:=[]) 0 rfl [] rfl trivial o⟩⟩
theorem a51 u c a b(Z:Nat→Prop) w(h:Sl (Ay .i64) w Z a b c) p(d:CM u c=some p):
 Cw Tryz.prog 51 #[.slice a c.length b] w (fun v w'=>Ext w w'∧(Gp (Ay .i64)).R w' (zf Z w []) v p):=by
 unfold CM at d;refine AS (N:=5) Tryz.func51 rfl rfl (by simp) ?_;intro z ha aA;have o:=sA 0 ha;clear ha;have q:Hp FN [] w [] w:=Hp.start (Cc.none w);have e:=h.mv (Bh (Z:=Z) (L:=[]) w);refine Af<|Ad<|wA (v:=.slice none 0 0) rfl<|Ag<|Ab<|Af<|Ad<|wM (v:=.slice a c.length b) o ?_;have g:=q.nil;have r:BY (Ay .i64) 3 w.heap.size w (zf Z w [none]) none 0 ([]:List Int):=BY.nil _ _ _ _ _;replace d:=Ck d;obtain⟨i,d⟩:=d;have f:=(e.mv CA);refine wE (fun st=>HY (ys:=c) Tryz.underlying31 Hv rfl rfl (by decide) (eR st) rfl (eR st) r f.n (by have:=i;simp only[maxLen];omega) (by have:=i;omega) g.sz) ?_;rintro _ aB ⟨x,y,rfl,j,l,s⟩;have m:=g.row j 0 rfl l;have t:=ED s (g.DN j 0 rfl (fun k hk=>(l k hk).1));refine wA (v:=.slice x ((([]:List Int)++c).length) y) rfl<|Ag<|Ab<|AI ?_;obtain rfl:=oi d;refine AJ rfl rfl ?_;exact⟨m.Bc,⟨_,_,rfl,m.IA (M:=[]) 0 rfl [] rfl trivial t⟩⟩
theorem R7 aW q a b d e f g h i j k m n(Z:Nat→Prop) w(aN:Sl AM w Z a b q.Al)(aO:Sl (BO (Ay .i64)) w Z d e q.Ac)(aP:Sl AQ w Z f g q.Ap)(aQ:Sl Bm w Z h i q.AH)(aR:Sl Bl w Z j k q.Aw)(aS:Sl BA w Z m n q.Ao) a0(p:B6 aW q=some a0):
 Cw Tryz.prog 48 #[.agg (Am a b d e f g h i j k m n q).toArray] w (fun v w'=>Ext w w'∧Dg.R w' (zf Z w []) v a0):=by
 unfold B6 at p;refine AS (N:=10) Tryz.func48 rfl rfl (by simp) ?_;intro bA ha bB;have aX:=sA 0 ha;clear ha;have aU:Hp FN [] w [] w:=Hp.start (Cc.none w);have ⟨aA,aB,aC,aD,aE,aF⟩:=Cz aN aO aP aQ aR aS (Bh (Z:=Z) (L:=[]) w);refine Af<|Ad<|wE (fun st=>Ci (v:=.agg (Am a b d e f g h i j k m n q).toArray) (cs:=(Am a b d e f g h i j k m n q).toArray) (ee st aX) rfl) ?_;rintro _ w1 ⟨b1,rfl,z⟩;have a2:=aU.nb z;have a9:=aU.Cr z;refine wA (v:=.bool false) rfl<|Ag<|Ab<|Af<|Ad<|wD (fun st=>AR (l:=(Am a b d e f g h i j k m n q)) Cj (eR st) z.bk rfl rfl) ?_;have ⟨r,s,t,u,x,y⟩:=Cz aA aB aC aD aE aF (AP z);replace p:=bind_some p;obtain⟨aY,a3,p⟩:=p;refine wE (fun st=>Ar O6 (eR st) (CR (eR st)) (Tc aW q a b d e f g h i j k m n ZA _ r.all s.all t.all u.all x.all y.all aY a3)) ?_;rintro _ bC ⟨aM,rfl⟩;have aV:=a2.ext aM;refine wM (v:=.bool aY) rfl ?_;rcases Ak (aY) with o|o
 ·replace p:=Az p o;have aT:=(z.bk.ext aM);refine An rfl rfl (Ae rfl o) rfl (by decide) (fun st=>AR (l:=(Am a b d e f g h i j k m n q)) Cj (eR st) aT rfl rfl) ?_;have ⟨aG,aH,aI,aJ,aK,aL⟩:=Cz r s t u x y (Ah aM);replace p:=bind_some p;obtain⟨aZ,a4,p⟩:=p;refine Di rfl rfl (Ae rfl o) rfl (by decide) (fun st=>Ar NV (eR st) (CR (eR st)) (a116 aW q a b d e f g h i j k m n ZA _ aG.all aH.all aI.all aJ.all aK.all aL.all aZ a4)) ?_;rintro _ bD ⟨a5,rfl⟩;have a8:=aV.ext a5;refine An rfl rfl (Ae rfl o) rfl (by decide) (fun st=>Dj (eR st) (eR st))<|wD (fun st=>AY (v:=.bool (aZ==0)) (eR st) o (eR st))<|wA (v:=.bool (aZ==0)) rfl<|Ag<|Ab<|AI ?_;obtain rfl:=oi p;refine AJ rfl rfl ?_;exact⟨a8.Bc,rfl⟩
 ·replace p:=AA p o;refine Au (c:=false) rfl rfl (Ae rfl o) (by decide) rfl (by decide)<|Au (c:=false) rfl rfl (Ae rfl o) (by decide) rfl (by decide)<|Au (c:=false) rfl rfl (Ae rfl o) (by decide) rfl (by decide)<|wD (fun st=>BC (v:=.bool false) (eR st) o (eR st))<|wA (v:=.bool false) rfl<|Ag<|Ab<|AI ?_;obtain rfl:=oi p;refine AJ rfl rfl ?_;exact⟨aV.Bc,rfl⟩
theorem a49 aM b r f g c d h i j l m n o p(Z:Nat→Prop) w(s:Sl AM w Z f g b.Al)(t:Sl (BO (Ay .i64)) w Z c d b.Ac)(u:Sl AQ w Z h i b.Ap)(x:Sl Bm w Z j l b.AH)(y:Sl Bl w Z m n b.Aw)(z:Sl BA w Z o p b.Ao) aN(a:Em aM b r=some aN):
 Cw Tryz.prog 49 #[.agg (Am f g c d h i j l m n o p b).toArray,.int .u8 r] w (fun v w'=>Ext w w'∧(Gp (Ay .i64)).R w' (zf Z w []) v aN):=by
 unfold Em at a;refine AS (N:=16) Tryz.func49 rfl rfl (by simp) ?_;intro aY ha aZ;have aE:=sA 0 ha;have aF:=sA 1 ha;clear ha;have aC:Hp FN [] w [] w:=Hp.start (Cc.none w);have ⟨aG,aH,aI,aJ,aK,aL⟩:=Cz s t u x y z (Bh (Z:=Z) (L:=[]) w);refine Af<|Ad<|wE (fun st=>Ci (v:=.agg (Am f g c d h i j l m n o p b).toArray) (cs:=(Am f g c d h i j l m n o p b).toArray) (ee st aE) rfl) ?_;rintro _ w1 ⟨b1,rfl,q⟩;have aD:=aC.nb q;have aX:=aC.Cr q;refine wA (v:=.slice none 0 0) rfl<|Ag<|Ab<|Af<|Ad<|wM (v:=.int .u8 r) aF ?_;replace a:=D1 a;obtain⟨aO,a⟩:=a;refine wD (fun st=>EX (k:=.i64) Rh Tryz.underlying3 (eR st) aO)<|wD (fun st=>Ai (eR st) (Ee _ _))<|wD (fun st=>Ai (eR st) (Ei _ _))<|wD (fun st=>AG (v:=.slice c b.Ac.length d) El (eR st) q.bk rfl)<|wD (fun st=>Bu Tryz.underlying23 (eR st)) ?_;replace a:=D1 a;obtain⟨aP,a⟩:=a;refine wD (fun st=>EX (k:=.u64) GV Tryz.underlying91 (eR st) aP) ?_;replace a:=E3 a;obtain⟨aQ,a⟩:=a;refine wD (fun st=>HL (eR st) (eR st) aQ) ?_;replace a:=AK a;obtain⟨aR,a⟩:=a;refine wD (fun st=>Ex (eR st) (eR st) aR) ?_;replace a:=F5 a;obtain⟨aS,a⟩:=a;refine wD (fun st=>Qs (eR st) (eR st) aS) ?_;replace a:=bind_some a;obtain⟨aT,aU,a⟩:=a;refine wE (fun st=>Ar Ms (eR st) (CR (eR st)) (Q7 aM (It r ((CY (1:Int) (b.Ac.length:Int))-1)) (zf Z w [some b1]) _ aT aU)) ?_;rintro _ a0 ⟨aV,⟨aA,aB,rfl,e⟩⟩;have aW:=aD.ext aV;have e:=e.mv (aD.Da (Nat.le_refl _));refine wA (v:=.slice aA aT.length aB) rfl<|Ag<|Ab<|AI ?_;obtain rfl:=oi a;refine AJ rfl rfl ?_;exact⟨aW.Bc,⟨_,_,rfl,e.mv (CG (DI [] trivial))⟩⟩
theorem a85 q b d(Z:Nat→Prop) w n(f:Pf q b d=some n):
 Cw Tryz.prog 85 #[.agg #[I b.Lo,I b.Hi],.agg #[I d.Lo,I d.Hi]] w (fun v w'=>Ext w w'∧Dg.R w' (zf Z w []) v n):=by
 unfold Pf at f;refine AS (N:=17) Tryz.func85 rfl rfl (by simp) ?_;intro r ha s;have l:=sA 0 ha;have m:=sA 1 ha;clear ha;have i:Hp FN [] w [] w:=Hp.start (Cc.none w);refine Af<|Ad<|wE (fun st=>Ci (v:=.agg #[I b.Lo,I b.Hi]) (cs:= #[I b.Lo,I b.Hi]) (ee st l) rfl) ?_;rintro _ w1 ⟨b1,rfl,h⟩;have j:=i.nb h;have o:=i.Cr h;refine wE (fun st=>Ci (v:=.agg #[I d.Lo,I d.Hi]) (cs:= #[I d.Lo,I d.Hi]) (ee st m) rfl) ?_;rintro _ w2 ⟨b2,rfl,e⟩;have k:=j.nb e;have p:=j.Cr e;refine wA (v:=.bool false) rfl<|Ag<|Ab<|Af<|Ad<|wD (fun st=>Ai (eR st) (OR _ _)) ?_;have g:=(h.bk.ext e.gr);refine wD (fun st=>AG (v:=I b.Lo) Bz (eR st) g rfl)<|wD (fun st=>Ai (eR st) (OR _ _))<|wD (fun st=>AG (v:=I d.Lo) Bz (eR st) e.bk rfl)<|wD (fun st=>IX (eR st) (eR st))<|wM (v:=.bool (decide (d.Lo≤b.Lo))) rfl ?_;rcases Ak (decide (d.Lo≤b.Lo)) with a|a
 ·replace f:=Az f a;refine An rfl rfl (Ae rfl a) rfl (by decide) (fun st=>Ai (eR st) (QG _ _))<|An rfl rfl (Ae rfl a) rfl (by decide) (fun st=>AG (v:=I b.Hi) Bz (eR st) g rfl)<|An rfl rfl (Ae rfl a) rfl (by decide) (fun st=>Ai (eR st) (QG _ _))<|An rfl rfl (Ae rfl a) rfl (by decide) (fun st=>AG (v:=I d.Hi) Bz (eR st) e.bk rfl)<|An rfl rfl (Ae rfl a) rfl (by decide) (fun st=>LX (eR st) (eR st))<|wD (fun st=>AY (v:=.bool (decide (b.Hi≤d.Hi))) (eR st) a (eR st))<|wA (v:=.bool (decide (b.Hi≤d.Hi))) rfl<|Ag<|Ab<|AI ?_;obtain rfl:=oi f;refine AJ rfl rfl ?_;exact⟨k.Bc,rfl⟩
 ·replace f:=AA f a;refine Au (c:=false) rfl rfl (Ae rfl a) (by decide) rfl (by decide)<|Au (c:=false) rfl rfl (Ae rfl a) (by decide) rfl (by decide)<|Au (c:=false) rfl rfl (Ae rfl a) (by decide) rfl (by decide)<|Au (c:=false) rfl rfl (Ae rfl a) (by decide) rfl (by decide)<|Au (c:=false) rfl rfl (Ae rfl a) (by decide) rfl (by decide)<|wD (fun st=>BC (v:=.bool false) (eR st) a (eR st))<|wA (v:=.bool false) rfl<|Ag<|Ab<|AI ?_;obtain rfl:=oi f;refine AJ rfl rfl ?_;exact⟨k.Bc,rfl⟩
end Go.Proofs.YtbhofkcbfblijaaGreat
end
section
namespace Go.Proofs.YtbhofkcbfblijaaGreat
open Go.RowKit Go.ChangeShapes Go.WideShapes
section
variable{H:Type}{enc:TypeId×Value→H}{P:Program}{W W':World}
variable{α:Type}{e:Gy α}{wf:α→Prop}{t:TypeId}{b0:Nat}{v:Value}{d:DataW H}{p:List MemPlace}{sp:Nat→Bool}
theorem Lz{k:IntKind}(a:P.underlying t=some (.int k))(b:Value.okWide P W .any b0 t v)(h:DataW.Trod enc P W 0 sp true t v d p):∃n,v=.int k n∧Iz k n:=by
 obtain⟨n,h1,_,_,c⟩:=open_int a b h;exact⟨n,h1,c⟩
end
theorem QC{x:Int}(h:Iz .u8 x):0≤x∧x<256:=by
 have h2:(decide (IntKind.u8.min≤x)&&decide (x≤IntKind.u8.max))=true:=h;rw[Bool.and_eq_true,decide_eq_true_eq,decide_eq_true_eq] at h2;have a:IntKind.u8.min=0:=by decide
 have b:IntKind.u8.max=255:=by decide
 omega
end Go.Proofs.YtbhofkcbfblijaaGreat
end
