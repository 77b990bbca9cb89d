import Derived.Test.YtbhofkcbfblijaaGreatCI6
import Derived.WalkKit
import Derived.KernelRfl
import Derived.WalkSpells
import Derived.WalkLawsBesides
import Derived.Maps.AppendAt
import Derived.OrdersIn
import Derived.RangeFuncIn
import Derived.RangeFuncLeaves
import Derived.RangeFuncRecord
import Derived.RangeFuncSeq
import Derived.Scope
import Derived.DeepKeys3
import Derived.Laws.CopyRow
import Derived.Laws.OwnMore
import Derived.Laws.MakeOwn
import Derived.Laws.IdiomCopy
import Derived.Sort.OwnSortedInts
import Derived.Lib.RowBridge
import Derived.Shelf.Sort.Plain
import Derived.Ground.Names2Prog
import Derived.Shelf.Slices.Clone
import Derived.Shelf.Slices.CompactI
import Derived.Shelf.Slices.In.SortNone
import Derived.Ground.SlgnProg
import Derived.Shelf.SlicesE.Clone
import Derived.ProofKit
import Derived.ChangeSame
import Derived.SizedLaws
import Derived.Deep.Slices
import Derived.JoinedOf
import Derived.Test.YtbhofkcbfblijaaGreatProg
import Derived.Test.YtbhofkcbfblijaaGreatRows
/-
  What the law TradeEnds needs beside the base that several claims of this seat share: contracts, and the plain law.
-/
set_option linter.all false
section
namespace Go.Proofs.YtbhofkcbfblijaaGreat
open Go.RowKit
section
variable{P:Program}{a:Act}{w:World}{dst:Option Tmp}{ty:TypeId}{pos:String}{Cc:Array Edge}{g:Option (Nat×Bool)}
theorem pm4{f:Operand→Value}{i0 i1 i2 i3:Nat}{a x1 x2 b:Operand}{v0 v1 v2 v3:Value}(h0:f a=v0)(h1:f x1=v1)(h2:f x2=v2)(c:f b=v3): #[(i0,a),(i1,x1),(i2,x2),(i3,b)].map (fun(i,x)=>(i,f x))= #[(i0,v0),(i1,v1),(i2,v2),(i3,v3)]:=by simp[h0,h1,h2,c]
end
section
variable{P:Program}{X:Ctx}{N:Nat}{L:List Oper}{a:Act}{l:Env}{S:Nat→World→World→Prop}{T:Nat→Act→World→Prop}{Φ:Nat→Value→World→Prop}{sp:List Nat}{Q:Exit→Act→World→Prop}{w:World}{k:Nat}{o:Oper}{R:List Oper}
def Kn (B:Nat) (mk:Nat→Value) (t:TypeId) (cs:Array Value):Nb Ext:=⟨fun v w=>∃b,v=mk b∧B≤b∧Bk w b t cs,fun _ _ _ ⟨b,h1,h2,a⟩ h=>⟨b,h1,h2,a.ext h⟩⟩
theorem Abh{w w' BD:World}{mk:Nat→Value}{t:TypeId}{cs:Array Value}{u:Value}(h0:w.heap.size≤w'.heap.size)(h:∃b,u=mk b∧L9 w' BD b t cs):(Kn w.heap.size mk t cs).p u BD∧Ext w' BD:=by
 obtain⟨b,hu,a⟩:=h;exact⟨⟨b,hu,by rw[a.Fq];exact h0,a.bk⟩,a.gr⟩
end
end Go.Proofs.YtbhofkcbfblijaaGreat
end
section
namespace Go.Proofs.YtbhofkcbfblijaaGreat
open Go.RowKit Go.WideShapes
def Lm(a n:Int):Int:=a/2^n.toNat
def P7(a n:Int):Option Unit:=if 0≤n∧n<64 then some () else none
theorem NN{α:Type}{a n:Int}{f:Unit→Option α}{r:α}(h:(P7 a n).bind f=some r):(0≤n∧n<64)∧f ()=some r:=by
 unfold P7 at h;split at h
 ·exact⟨by assumption,h⟩
 ·cases h
def P8(a b:Int):Int:=((a.toNat&&&b.toNat:Nat):Int)
section
variable{P:Program}{a:Act}{w:World}{dst:Option Tmp}{ty:TypeId}{pos:String}{Cc:Array Edge}{g:Option (Nat×Bool)}
theorem Ue{x y:Operand}{m n:Int}{k:IntKind}{t b:TypeId}(c:a.eval x=.int .i64 m)(d:a.eval y=.int k n)(h:0≤n∧n<64):Ce P ⟨dst,.binOp .shr t x y b,ty,pos,Cc,g⟩ a w (fun u w'=>u=.int .i64 (Lm m n)∧w'=w):=
 C7 (by
  have e:¬n<0:=by omega
  have hb:min n.toNat IntKind.i64.bits=n.toNat:=by
   have:IntKind.i64.bits=64:=rfl;omega
  have f:m.fdiv (2^n.toNat)=m/2^n.toNat:=Int.fdiv_eq_ediv_of_nonneg m (Int.le_of_lt (Int.pow_pos (by decide)));simp[execOp,c,d,eqGuard,binOp,Op.shift,e,hb,f,Lm])
theorem Abi{x y:Operand}{m n:Int}{t b:TypeId}(c:a.eval x=.int .i64 m)(d:a.eval y=.int .i64 n)(h:(0≤m∧m≤9223372036854775807)∧(0≤n∧n≤9223372036854775807)):Ce P ⟨dst,.binOp .and t x y b,ty,pos,Cc,g⟩ a w (fun u w'=>u=.int .i64 (P8 m n)∧w'=w):=
 C7 (by
  have e:(BitVec.ofInt 64 m&&&BitVec.ofInt 64 n).toNat=m.toNat&&&n.toNat:=by rw[BitVec.toNat_and,QH h.1.1 h.1.2,QH h.2.1 h.2.2]
  have f:IntKind.i64.wrap ((m.toNat&&&n.toNat:Nat):Int)=((m.toNat&&&n.toNat:Nat):Int):=Q8 (Nat.le_trans Nat.and_le_left (by omega));have key:(Op.intBits .and .i64 m n).run P w=.ok (.int .i64 (P8 m n)) w:=by
   show(pure (Value.int .i64 (IntKind.i64.wrap ((BitVec.ofInt 64 m&&&BitVec.ofInt 64 n).toNat:Int))):Sem Value).run P w=_;rw[e,f];rfl
  simp[execOp,c,d,eqGuard,binOp,key])
end
theorem Zg{l:List Bool}{i:Nat}{x:Bool}(h:l[i]?=some x):(l.map fun n=>Value.bool n)[i]?=some (.bool x):=by rw[List.getElem?_map,h];rfl
section
variable{F F':Nat→Prop}{B:List (Option Nat)}{w0 w w':World}{L M:List (Option Nat)}
theorem Hp.Zh (h:Hp F B w0 L w) (c:Hp F B w0 L w') {b:Nat} (hb:w.heap.size≤b) (hs:b<w'.heap.size):Hp F B w0 (some b::L) w':=by
 refine⟨c.ch,fun k hk=>?_,?_,h.ff⟩
 ·rcases List.mem_cons.1 hk with e|hk
  ·cases e;exact⟨hs,fun f=>absurd (h.ff _ f) (by have:=h.sz;omega),fun hl=>absurd hl (by have:=h.sz;omega)⟩
  ·exact c.lo k hk
 ·have key:∀(j:Nat) (x:Nat),L[j]?=some (some x)→x≠b:=fun j x g e=>by
   have:=(h.lo x (List.mem_of_getElem? g)).1;omega
  intro i j x d hi hj;cases i with
  |zero=>
   cases j with
   |zero=>exact d rfl
   |succ j=>
    have a:b=x:=by simpa using hi
    exact key j x (by simpa using hj) a.symm
  |succ i=>
   cases j with
   |zero=>
    have a:b=x:=by simpa using hj
    exact key i x (by simpa using hi) a.symm
   |succ j=>exact h.ap i j x (by omega) (by simpa using hi) (by simpa using hj)
theorem P9{Z:Nat→Prop}{n0:Nat}{b:Nat}(hm:Mv w (ZZ F B Z n0 L) w' (ZZ F B Z n0 L))(hb:w.heap.size≤b):Mv w (ZZ F B Z n0 L) w' (ZZ F B Z n0 (some b::L)):=
 ⟨hm.size,fun k hk hl=>⟨(hm.stay k hk hl).1.imp id fun⟨h1,h2⟩=>⟨h1,fun a=>by
  rcases List.mem_cons.1 a with e|a
  ·cases e;omega
  ·exact h2 a⟩,(hm.stay k hk hl).2⟩⟩
end
def Et(c:Int):Nat→(List Int)→Int→Option ((List Int))
 |0,_,_=>none
 |d+1,b,a=>(Jc .u64 a).bind fun _=>(P7 c a).bind fun _=>cond (decide ((0:Int)<(Lm c a))) ((Jc .u64 a).bind fun _=>(P7 c a).bind fun _=>(rem (Lm c a) (2:Int)).bind fun _=>cond (((Lm c a)%2)==1) ((Fw (((b.length+[a].length:Nat):Int)≤140737488355328/8)).bind fun _=>(i64 (a+1)).bind fun _=>Et c d (b++[a]) (a+1)) ((i64 (a+1)).bind fun _=>Et c d b (a+1))) (some (b))
def HL(a:Nat)(b:Int):Option ((List Int)):=
 (Et b a ([]:List Int) (0:Int)).bind fun c=>some (c)
def Dm(g:Nat)(c:List Int)(f:Int):Nat→Int→Int→Option ((Int×Bool)⊕(Int))
 |0,_,_=>none
 |h+1,b,a=>cond (decide (a<(c.length:Int))) ((idx c a).bind fun k=>(i64 (f-1)).bind fun _=>(Cs g k 0 (f-1)).bind fun l=>cond (!l) (some (.inl ((0:Int),false))) (cond (decide ((0:Int)<a)) ((idx c a).bind fun i=>(i64 (a-1)).bind fun _=>(idx c (a-1)).bind fun j=>cond (decide (i≤j)) (some (.inl ((0:Int),false))) ((idx c a).bind fun d=>(Jc .u64 d).bind fun _=>(Li (1:Int) d).bind fun _=>(Nk b (Gr (1:Int) d)).bind fun _=>(i64 (a+1)).bind fun _=>Dm g c f h (Lp b (Gr (1:Int) d)) (a+1))) ((idx c a).bind fun e=>(Jc .u64 e).bind fun _=>(Li (1:Int) e).bind fun _=>(Nk b (Gr (1:Int) e)).bind fun _=>(i64 (a+1)).bind fun _=>Dm g c f h (Lp b (Gr (1:Int) e)) (a+1)))) (some (.inr b))
def Ht(b:Nat)(c:List Int)(d:Int):Option (Int×Bool):=
 (Dm b c d b (0:Int) (0:Int)).bind fun z=>Sum.elim (fun a=>some ((a.1,a.2))) (fun a=>some ((a,true))) z
def Ei(f:Nat)(c:AE)(g:List Int)(d:Int):Nat→Int→Int→Option (Int)
 |0,_,_=>none
 |h+1,b,a=>cond (decide (a<(c.Ab.length:Int))) ((Jc .u64 a).bind fun _=>(P7 d a).bind fun _=>(rem (Lm d a) (2:Int)).bind fun _=>cond (((Lm d a)%2)==1) ((FC f c g a).bind fun i=>(i64 (b+i)).bind fun _=>(i64 (a+1)).bind fun _=>Ei f c g d h (b+i) (a+1)) ((Ea f c a).bind fun e=>(i64 (c.Flat*e)).bind fun _=>(i64 (b+(c.Flat*e))).bind fun _=>(i64 (a+1)).bind fun _=>Ei f c g d h (b+(c.Flat*e)) (a+1))) (some (b))
def Hh(a:Nat)(b:AE)(c:List Int)(d:Int):Option (Int):=
 (Ei a b c d a (0:Int) (0:Int)).bind fun z2=>some (z2)
def HM(c:Nat)(a:AE)(b:Int):Option ((List Int)):=
 (Jc .i64 b).bind fun _=>(Jc .u64 (a.Ab.length:Int)).bind fun _=>(Li (1:Int) (a.Ab.length:Int)).bind fun _=>(i64 ((Gr (1:Int) (a.Ab.length:Int))-1)).bind fun _=>(Nk b ((Gr (1:Int) (a.Ab.length:Int))-1)).bind fun _=>(HL c (P8 b ((Gr (1:Int) (a.Ab.length:Int))-1))).bind fun d=>some (d)
end Go.Proofs.YtbhofkcbfblijaaGreat
end
section
namespace Go.Proofs.YtbhofkcbfblijaaGreat
section
variable{K:Nat}(hK:1000≤K)
include hK
theorem AaM(a b:Int):Ix K [a,b]=some (min a b):=by
 unfold Ix;rw[bd (UB hK a b)]
theorem R9(r:AN)(n:Int):Gg K r n=some ⟨min r.Lo n,max r.Hi n⟩:=by
 unfold Gg;rw[bd (AaM hK _ _)]
end
theorem Acn(a b:Nat):P8 (a:Int) (b:Int)=((a&&&b:Nat):Int):=by unfold P8;rw[Int.toNat_natCast,Int.toNat_natCast]
section
variable{K:Nat}(hK:1000≤K)
include hK
end
theorem W6{β:Type}{f:Unit→Option β}{x:Nat}(h:x<64):(Jc .u64 (x:Int)).bind f=f ():=bd (by
 have:∀x:Nat,x<64→Jc .u64 (x:Int)=some ():=by decide+kernel
 exact this x h)
theorem Uf{β:Type}{f:Unit→Option β}{a:Int}{x:Nat}(h:x<64):(P7 a (x:Int)).bind f=f ():=bd (if_pos ⟨by omega,by omega⟩)
theorem Qa(s x:Nat):Lm (s:Int) (x:Int)=((s/2^x:Nat):Int):=by
 unfold Lm;rw[show(x:Int).toNat=x by omega];simp
theorem tb(s i:Nat):(s/2^i%2==1)=s.testBit i:=by rw[Nat.testBit_eq_decide_div_mod_eq];rfl
theorem Wz{s x:Nat}(a:x<8):(CX s).contains (x:Int)=s.testBit x:=by
 rw[Bool.eq_iff_iff,List.contains_iff_mem,MK];constructor
 ·rintro⟨y,b,h,e⟩;obtain rfl:x=y:=by omega
  exact h
 ·intro h;exact⟨x,a,h,rfl⟩
theorem WA(s:Nat):(CX s).length≤8:=by
 unfold CX;rw[List.length_map];exact Nat.le_trans (List.length_filter_le _ _) (by simp)
def K6:List Int→Nat
 |[]=>0
 |x::l=>2^x.toNat|||K6 l
theorem Sa:∀{l:List Int} (_:∀x∈l,0≤x) (j:Nat),(K6 l).testBit j=true↔(j:Int)∈l
 |[],_,j=>by simp[K6]
 |x::l,h,j=>by
  have b:=h x (List.mem_cons_self ..);rw[K6,Nat.testBit_or,Bool.or_eq_true,Sa (fun y a=>h y (List.mem_cons_of_mem _ a)) j,Nat.testBit_two_pow,decide_eq_true_eq,List.mem_cons];constructor
  ·rintro(h|h)
   ·exact .inl (by omega)
   ·exact .inr h
  ·rintro(h|h)
   ·exact .inl (by omega)
   ·exact .inr h
theorem Vp{s:Nat}(hs:s<2^8):K6 (CX s)=s:=by
 refine Nat.eq_of_testBit_eq fun j=>?_;rw[Bool.eq_iff_iff,Sa (fun x a=>by obtain⟨y,_,_,rfl⟩:=MK.1 a;omega),MK];constructor
 ·rintro⟨x,_,hb,e⟩;obtain rfl:j=x:=by omega
  exact hb
 ·intro h;exact⟨j,UU hs h,h,rfl⟩
section
variable{K:Nat}(hK:1000≤K)
include hK
theorem Sb(s:Nat)(hs:s<2^8):∀(d m p:Nat) (acc:List Int),p+d=8→d<m→acc.length≤p→Et (s:Int) m acc (p:Int)=some (acc++((List.range' p d).filter fun x=>s.testBit x).map fun x:Nat=>(x:Int))
 |d,0,p,acc,_,h,_=>by omega
 |0,m+1,p,acc,b,_,ha=>by
  obtain rfl:p=8:=by omega
  rw[Et.eq_2,W6 (by omega),Uf (by omega),Qa,Nat.div_eq_of_lt hs,cf (df (by simp))];simp
 |d+1,m+1,p,acc,b,hm,ha=>by
  rw[Et.eq_2,W6 (by omega),Uf (by omega),Qa]
  by_cases h0:s/2^p=0
  ·rw[h0,cf (df (by simp))];have:(List.range' p (d+1)).filter (fun x=>s.testBit x)=[]:=by
    rw[List.filter_eq_nil_iff];intro x c;rw[List.mem_range'_1] at c;have h1:s<2^p:=by
     rcases Nat.div_eq_zero_iff.1 h0 with h|h
     ·have:=Nat.two_pow_pos p;omega
     ·exact h
    rw[Nat.testBit_lt_two_pow (Nat.lt_of_lt_of_le h1 (Nat.pow_le_pow_right (by omega) (by omega)))];simp
   rw[this,List.map_nil,List.append_nil]
  ·have a:(0:Int)<((s/2^p:Nat):Int):=by generalize s/2^p=q at h0;omega
   rw[ct (dt a),W6 (by omega),Uf (by omega),Ns (Int.le_of_lt a) (by omega),List.range'_succ,List.filter_cons];have e:((((s/2^p:Nat):Int)%2)==1)=s.testBit p:=by
    rw[←tb,Bool.eq_iff_iff,beq_iff_eq,beq_iff_eq];omega
   rw[e];cases s.testBit p with
   |true=>
    rw[ct rfl,FD (by simp;omega),BW (by omega) (by omega),DM p,Sb s hs d m (p+1) _ (by omega) (by omega) (by simp;omega),if_pos rfl,List.map_cons,List.append_assoc];rfl
   |false=>rw[cf rfl,BW (by omega) (by omega),DM p,Sb s hs d m (p+1) _ (by omega) (by omega) (by omega),if_neg (by simp)]
theorem AaN{s:Nat}(hs:s<2^8):HL K (s:Int)=some (CX s):=by
 unfold HL CX;have:=Sb hK s hs 8 K 0 [] (by omega) (by omega) (by simp);rw[Int.natCast_zero,List.nil_append,←List.range_eq_range'] at this;rw[bd this]
omit hK in
theorem Ug:∀i:Nat,i<8→Jc .u64 (i:Int)=some ()∧Li 1 (i:Int)=some ()∧Gr 1 (i:Int)=((2^i:Nat):Int)∧2^i≤128∧1≤2^i∧Li 2 (i:Int)=some ()∧Gr 2 (i:Int)=((2^(i+1):Nat):Int):=by decide+kernel
theorem Pu(n:Int)(g:0≤n∧n≤8)(l:List Int)(hl:l.length≤900):∀(d m i:Nat) (bits:Nat) (lo:Int),l.length=i+d→d<m→bits<2^8→(i=0→lo=0)→(∀h:0<i,∃h2:i-1<l.length,lo=l[i-1]+1∧0≤lo)→
  (Dm K l n m (bits:Int) (i:Int)).bind (fun z=>Sum.elim (fun q=>some (q.1,q.2)) (fun q=>some (q,true)) z)=some (if G3 n lo (l.drop i)=true then ((bits|||K6 (l.drop i):Nat):Int) else 0,G3 n lo (l.drop i))
 |d,0,i,bits,lo,h,hm,_,_,_=>by omega
 |0,m+1,i,bits,lo,h,hm,hb,_,_=>by
  rw[Dm.eq_2,cf (df (by omega)),List.drop_eq_nil_of_le (by omega),G3,if_pos rfl,K6,Nat.or_zero];rfl
 |d+1,m+1,i,bits,lo,h,hm,hb,h0,h1=>by
  have hi:i<l.length:=by omega
  rw[Dm.eq_2,ct (dt (by omega)),Cf hi,BW (by omega) (by omega),bd (Kh ..),List.drop_eq_getElem_cons hi,G3];have p:0≤lo:=by
   rcases Nat.eq_zero_or_pos i with e|e
   ·rw[h0 e];omega
   ·exact(h1 e).2.2
  cases hr:Ef l[i] 0 (n-1) with
  |false=>
   have:Ef l[i] lo (n-1)=false:=by rw[IX] at hr⊢;omega
   rw[nf,this,Bool.false_and,if_neg (by simp)];rfl
  |true=>
   rw[DX] at hr;obtain⟨x,a⟩:∃x:Nat,l[i]=(x:Int):=⟨l[i].toNat,by omega⟩;obtain⟨s1,s2,c,r,s,_⟩:=Ug x (by omega);have j:2^x<2^8:=Nat.pow_lt_pow_right (by omega) (by omega);have rest:∀(b:lo≤l[i]),(Dm K l n m ((bits|||2^x:Nat):Int) ((i+1:Nat):Int)).bind (fun z=>Sum.elim (fun q=>some (q.1,q.2)) (fun q=>some (q,true)) z)=
     some (if (Ef l[i] lo (n-1)&&G3 n (l[i]+1) (l.drop (i+1)))=true then ((bits|||K6 (l[i]::l.drop (i+1)):Nat):Int) else 0,Ef l[i] lo (n-1)&&G3 n (l[i]+1) (l.drop (i+1))):=fun b=>by
    rw[DX.2 ⟨b,hr.2⟩,Bool.true_and,Pu n g l hl d m (i+1) (bits|||2^x) (l[i]+1) (by omega) (by omega) (Nat.or_lt_two_pow hb j) (fun h=>by omega) (fun _=>⟨by omega,rfl,by omega⟩),K6,a,Int.toNat_natCast,Nat.or_assoc]
   rw[nt]
   by_cases f:0<i
   ·obtain⟨k,t,_⟩:=h1 f;have o:(i:Int)-1=((i-1:Nat):Int):=by omega
    rw[ct (dt (by omega)),Cf hi,BW (by omega) (by omega),o,Cf k]
    by_cases hle:l[i]≤l[i-1]
    ·have:Ef l[i] lo (n-1)=false:=by rw[IX];omega
     rw[ct (dt hle),this,Bool.false_and,if_neg (by simp)];rfl
    ·rw[cf (df hle),Cf hi,a,bd s1,bd s2,c,RA (by omega) (by omega),BW (by omega) (by omega),DM i,WW,←a];exact rest (by omega)
   ·rw[cf (df (by omega)),Cf hi,a,bd s1,bd s2,c,RA (by omega) (by omega),BW (by omega) (by omega),DM i,WW,←a];exact rest (by rw[h0 (by omega)];omega)
theorem Uh{n:Int}(a:0≤n∧n≤8){l:List Int}(hl:l.length≤900):Ht K l n=some (if G3 n 0 l=true then ((K6 l:Nat):Int) else 0,G3 n 0 l):=by
 have:=Pu hK n a l hl l.length K 0 0 0 (by omega) (by omega) (by omega) (fun _=>rfl) (fun h=>by omega);rw[Int.natCast_zero,List.drop_zero,Nat.zero_or] at this;exact this
end
def H4 (f:Nat→Int):Nat→Int
 |0=>0
 |n+1=>H4 f n+f n
theorem Oi{f g:Nat→Int}:∀(n:Nat),(∀k,k<n→f k=g k)→H4 f n=H4 g n
 |0,_=>rfl
 |n+1,h=>by rw[H4,H4,Oi n fun k hk=>h k (by omega),h n (by omega)]
theorem OK{f:Nat→Int}{b:Int}:∀(n:Nat),(∀k,k<n→0≤f k∧f k≤b)→0≤H4 f n∧H4 f n≤b*n
 |0,_=>by simp[H4]
 |n+1,h=>by
  have h1:=OK n fun k hk=>h k (by omega);have h2:=h n (by omega);rw[H4,Int.natCast_add,Int.mul_add];simp;omega
def Jb(t:AE)(DI:List Int)(l:List Int)(k:Nat):Int:=if DI.contains (k:Int)=true then (Bx t l).getD k 0 else (t.Ab.getD k []).sum*t.Flat
def Jh (t:AE) (DI:List Int) (l:List Int):Int:=H4 (Jb t DI l) t.Ab.length
theorem Zi{t:AE}(a:OkT t)(l:List Int)(k:Nat):0≤(Bx t l).getD k 0∧(Bx t l).getD k 0≤9000:=by
 by_cases hk:k<(Bx t l).length
 ·rw[Dk _ hk];exact a.Aa6 l _ (List.getElem_mem hk)
 ·rw[List.getD_eq_getElem?_getD,List.getElem?_eq_none (by omega)];simp
theorem Sc{t:AE}(a:OkT t)(k:Nat)(hk:k<t.Ab.length):0≤(t.Ab.getD k []).sum*t.Flat∧(t.Ab.getD k []).sum*t.Flat≤9000:=by
 rw[Dk _ hk];have h1:=a.EI _ (List.getElem_mem hk);have h2:=a.flat;have:=JZ (by omega:0≤t.Ab[k].sum) h1.2.2.2 h2.1 h2.2;omega
theorem QL{t:AE}(a:OkT t)(DI l:List Int)(k:Nat)(hk:k<t.Ab.length):0≤Jb t DI l k∧Jb t DI l k≤9000:=by
 unfold Jb;split
 ·exact Zi a l k
 ·exact Sc a k hk
theorem Ui {t:AE} (b:OkT t) {L:List (List Int)} (e:Tr t L) (g:Bo→Bo→Int) (f:List Int→Int) (i:∀l,GP t l=true→g (BQ t l) (arr (Bx t l))=f l) {r:AN} (h:JW (J0 t [] L) (fun x=>g x.1 x.2) r):JW (CV t) f r:=by
 refine h.map (fun x j=>?_) (fun l hl=>?_)
 ·obtain⟨l,h1,h2,rfl⟩:=KQ.1 j;have a:GP t l=true:=by unfold GP;rw[e.UO l h1,h2];rfl
  exact⟨l,(Jk b).2 a,(i l a).symm⟩
 ·have a:=(Jk b).1 hl;have c:=a;unfold GP at c;rw[Bool.and_eq_true] at c;obtain⟨l',k,d⟩:=e.all l c.1;refine⟨(BQ t l',arr (Bx t l')),KQ.2 ⟨l',k,by rw[L5 b d];exact c.2,rfl⟩,?_⟩;show g (BQ t l') (arr (Bx t l'))=f l;rw[d,L5 b d];exact i l a
section
variable{K:Nat}(hK:1000≤K)
include hK
theorem Pv(cb:Unit→Bo→Option (Int×Unit))(F:Bo→Int):∀(X c:List (Bo×Bo)) (lo hi:Int),(∀x∈X,cb () x.2=some (F x.2,()))→JW c (fun x=>F x.2) ⟨lo,hi⟩→
  ∃a b,run (fun(st:Int×Int×Bool×Unit) (x:Bo×Bo)=>CQ cb K st.1 st.2.1 st.2.2.1 st.2.2.2 x) X (lo,hi,false,())=some (true,(a,b,false,()))∧JW (c++X) (fun x=>F x.2) ⟨a,b⟩
 |[],c,lo,hi,_,h=>⟨lo,hi,rfl,by rw[List.append_nil];exact h⟩
 |x::X,c,lo,hi,d,h=>by
  have h1:CQ cb K lo hi false () x=some (true,(min lo (F x.2),max hi (F x.2),false,())):=by
   unfold CQ;rw[bd (d x (List.mem_cons_self ..)),cf rfl,bd (R9 hK _ _)]
  obtain⟨a,b,g1,g2⟩:=Pv cb F X (c++[x]) _ _ (fun y e=>d y (List.mem_cons_of_mem _ e)) (h.snoc x);refine⟨a,b,?_,by rw[List.append_assoc] at g2;exact g2⟩;rw[run];show(CQ cb K lo hi false () x).bind _=_;rw[bd h1,ct rfl];exact g1
theorem QA{t:AE}(d:OkT t){L:List (List Int)}(g:Tr t L){m:List (List Int×Int)}(hm:Ho t m)(i:CV t≠[])(cb:Unit→Bo→Option (Int×Unit))(F:Bo→Int)(f:List Int→Int)(o:∀l,GP t l=true→F (arr (Bx t l))=f l)
  (j:∀l,GP t l=true→cb () (arr (Bx t l))=some (F (arr (Bx t l)),())):
  ∃h r,Ho t h∧JW (CV t) f r∧FA K cb (wk t (L.map (BQ t)) m) ()=some (r,h,()):=by
 have a:∀x∈J0 t [] L,cb () x.2=some (F x.2,()):=fun x p=>by
  obtain⟨l,h1,h2,rfl⟩:=KQ.1 p;exact j l (by unfold GP;rw[g.UO l h1,h2];rfl)
 have hr:∃lo hi,run (fun(st:Int×Int×Bool×Unit) (x:Bo×Bo)=>CQ cb K st.1 st.2.1 st.2.2.1 st.2.2.2 x) (J0 t [] L) (0,0,true,())=some (true,(lo,hi,false,()))∧JW (J0 t [] L) (fun x=>F x.2) ⟨lo,hi⟩:=by
  have c:J0 t [] L≠[]:=by
   obtain⟨l,hl⟩:=List.exists_mem_of_ne_nil _ i;have b:=(Jk d).1 hl;unfold GP at b;rw[Bool.and_eq_true] at b;obtain⟨l',q,s⟩:=g.all l b.1;have:(BQ t l',arr (Bx t l'))∈J0 t [] L:=KQ.2 ⟨l',q,by rw[L5 d s];exact b.2,rfl⟩;intro e;rw[e] at this;cases this
  generalize J0 t [] L=X at a c;cases X with
  |nil=>exact absurd rfl c
  |cons x X=>
   have h1:CQ cb K 0 0 true () x=some (true,(F x.2,F x.2,false,())):=by
    unfold CQ;rw[bd (a x (List.mem_cons_self ..)),ct rfl,bd (R9 hK _ _)];show some (true,min (F x.2) (F x.2),max (F x.2) (F x.2),false,())=_;rw[Int.min_self,Int.max_self]
   obtain⟨k,n,g1,g2⟩:=Pv hK cb F X [x] _ _ (fun y u=>a y (List.mem_cons_of_mem _ u)) (JW.one (fun x:Bo×Bo=>F x.2) x);refine⟨k,n,?_,g2⟩;rw[run];show(CQ cb K 0 0 true () x).bind _=_;rw[bd h1,ct rfl];exact g1
 obtain⟨lo,hi,h1,h2⟩:=hr;obtain⟨h,b,v⟩:=Oz hK d (out:=[]) (by simp) _ g.len hm h1;refine⟨h,⟨lo,hi⟩,b,Ui d g (fun _ M=>F M) f o h2,?_⟩;unfold FA;rw[bd v]
structure AaO (t:AE) (b:List AN):Prop where
 len:b.length=t.Ab.length
 is:∀k (hk:k<b.length),JW (CV t) (fun l=>(Bx t l).getD k 0) b[k]
theorem WB{t:AE}(h:Ij t=true):∃b,Hk K t=some (b,En t)∧(En t≠0→b=[])∧(En t=0→AaO t b):=by
 unfold Hk;rcases Ly hK h true with⟨h0,_,L,m,aB,hm,e⟩|⟨h0,e⟩
 ·have w:=JQ h (GQ (GR h0).1).1;have aG:=w.kl;have f:∀(d n i:Nat) (acc:List AN) (c:List (List Int×Int)),t.Ab.length=i+d→d<n→acc.length=i→Ho t c→(∀k (hk:k<acc.length),JW (CV t) (fun l=>(Bx t l).getD k 0) acc[k])→
    ∃b j,AaO t b∧Fx K (wk t (L.map (BQ t)) m) n acc (i:Int) c=some (b,j):=by
   intro d
   induction d with
   |zero=>
    intro n i acc c aC aD ha o a;obtain⟨n,rfl⟩:∃v,n=v+1:=⟨n-1,by omega⟩;have aE:((wk t (L.map (BQ t)) m).weights.length:Int)=t.Ab.length:=by show((List.map _ _).length:Int)=_;simp
    exact⟨acc,c,⟨by omega,a⟩,by rw[Fx.eq_2,cf (df (by omega))]⟩
   |succ d ih=>
    intro n i acc c aC aD ha o a;obtain⟨n,rfl⟩:∃v,n=v+1:=⟨n-1,by omega⟩;have aE:((wk t (L.map (BQ t)) m).weights.length:Int)=t.Ab.length:=by show((List.map _ _).length:Int)=_;simp
    have y:i<3:=by omega
    have p:∀l:List Int,idx [(arr (Bx t l)).a0,(arr (Bx t l)).a1,(arr (Bx t l)).a2] (i:Int)=some ((Bx t l).getD i 0):=fun l=>by
     have q:i<(Bx t l).length:=by rw[Gb];omega
     rw[JP (by rw[Gb];omega) q,Dk _ q]
    obtain⟨j,r,z,hr,g⟩:=QA hK w aB o (GR h0).2 (fun(st:Unit) (x:Bo)=>(FP K x (i:Int)).bind fun r=>some (r,())) (fun x=>([x.a0,x.a1,x.a2]:List Int).getD i 0) (fun l=>(Bx t l).getD i 0)
     (fun l _=>by
      have:=p l;show([(arr (Bx t l)).a0,(arr (Bx t l)).a1,(arr (Bx t l)).a2]:List Int).getD i 0=_;rw[idx_eq (by simp;omega)] at this;rw[Dk _ (by simp;omega)];exact Option.some.inj this)
     (fun l _=>by
      have:=p l;show(FP K (arr (Bx t l)) (i:Int)).bind _=_;unfold FP;rw[bd (bd this)];have h2:=this;rw[idx_eq (by simp;omega)] at h2;show some (_,())=some (([(arr (Bx t l)).a0,(arr (Bx t l)).a1,(arr (Bx t l)).a2]:List Int).getD i 0,());rw[Dk _ (show i<([(arr (Bx t l)).a0,(arr (Bx t l)).a1,(arr (Bx t l)).a2]:List Int).length from y),←Option.some.inj h2])
    obtain⟨b,aF,hb,g2⟩:=ih n (i+1) (acc++[r]) j (by omega) (by omega) (by simp;omega) z (fun k hk=>by
     by_cases s:k<acc.length
     ·rw[List.getElem_append_left s];exact a k s
     ·have aA:k=i:=by
       have aH:k<acc.length+1:=by simpa using hk
       omega
      subst aA;rw[List.getElem_append_right (by omega)];simpa[ha] using hr)
    refine⟨b,aF,hb,?_⟩;rw[Fx.eq_2,ct (dt (by omega))];show((FA K (fun(st:Unit) (x:Bo)=>(FP K x (i:Int)).bind fun r=>some (r,())) (wk t (L.map (BQ t)) c) ()).bind _)=_;rw[bd g,FD (by simp;omega),BW (by omega) (by omega),DM i];exact g2
  obtain⟨b,j,hb,g⟩:=f t.Ab.length K 0 [] m (by omega) (by omega) rfl hm (fun k hk=>by simp at hk);refine⟨b,?_,fun hh=>absurd h0 hh,fun _=>hb⟩;rw[bd e];show(Fx K (wk t (L.map (BQ t)) m) K [] 0 m).bind _=_;rw[Int.natCast_zero] at g;rw[bd g,h0]
 ·have u:En t≠0:=fun g=>h0 ⟨g,rfl⟩;refine⟨[],?_,fun _=>rfl,fun g=>absurd g u⟩;rw[if_neg (by simp)] at e;rw[bd e];show cond (_ !=0) _ _=_;rw[ct (Jo u)]
def J4 (t:AE) (DI:List Int):Int:=if Gy t=0∧G3 t.Ab.length 0 DI=false then 2 else En t
omit hK in
theorem Su {t:AE} {DI:List Int} (h:J4 t DI=0):En t=0∧G3 t.Ab.length 0 DI=true:=by
 unfold J4 at h
 split at h
 ·omega
 ·rename_i hh
  refine⟨h,?_⟩
  cases hr:G3 t.Ab.length 0 DI with
  |true=>rfl
  |false=>exact absurd ⟨(GQ (GR h).1).1,hr⟩ hh
omit hK in
theorem QB {t:AE} {DI:List Int} (h:G3 t.Ab.length 0 DI=true):J4 t DI=En t:=by unfold J4;rw[if_neg (by simp[h])]
theorem WC{t:AE}(c:OkT t)(a:List Bo)(m:List (List Int×Int)){DI:List Int}(hs:DI.length≤900)(l:List Int):EB K (arr (Bx t l)) (wk t a m) DI=some (Jh t DI l):=by
 have p:=c.kl;have v:((wk t a m).weights.length:Int)=t.Ab.length:=by show((List.map _ _).length:Int)=_;simp
 have e:∀(d n i:Nat),t.Ab.length=i+d→d<n→DF K (arr (Bx t l)) (wk t a m) DI n (H4 (Jb t DI l) i) (i:Int)=some (Jh t DI l):=by
  intro d
  induction d with
  |zero=>
   intro n i r s;obtain⟨n,rfl⟩:∃j,n=j+1:=⟨n-1,by omega⟩;obtain rfl:i=t.Ab.length:=by omega
   rw[DF.eq_2,cf (df (by omega))];rfl
  |succ d ih=>
   intro n i r s;obtain⟨n,rfl⟩:∃j,n=j+1:=⟨n-1,by omega⟩;have hi:i<t.Ab.length:=by omega
   have g:i<(Bx t l).length:=by rw[Gb];omega
   have h:i<(wk t a m).weights.length:=by omega
   have u:(wk t a m).weights[i]'h=(t.Ab.getD i []).sum:=by rw[Dk _ hi];simp[wk]
   have b1:=OK (f:=Jb t DI l) (b:=9000) i fun k hk=>QL c DI l k (by omega);have b2:=QL c DI l i hi;have b3:=Sc c i hi;have:=ih n (i+1) (by omega) (by omega);rw[H4] at this;rw[DF.eq_2,ct (dt (by omega)),Cf h,bd (KF hK DI _ hs),u];show cond _ _ ((i64 ((t.Ab.getD i []).sum*t.Flat)).bind fun _=>(i64 (H4 (Jb t DI l) i+(t.Ab.getD i []).sum*t.Flat)).bind fun _=>(i64 ((i:Int)+1)).bind fun _=>DF K (arr (Bx t l)) (wk t a m) DI n (H4 (Jb t DI l) i+(t.Ab.getD i []).sum*t.Flat) ((i:Int)+1))=_;cases q:DI.contains (i:Int) with
   |true=>
    have o:Jb t DI l i=(Bx t l)[i]:=by unfold Jb;rw[if_pos q,Dk _ g]
    rw[o] at this b2;rw[ct rfl,bd (JP (by rw[Gb];exact p) g),BW (by omega) (by omega),BW (by omega) (by omega),DM i,this]
   |false=>
    have o:Jb t DI l i=(t.Ab.getD i []).sum*t.Flat:=by unfold Jb;rw[if_neg (by rw[q];decide)]
    rw[o] at this b2;rw[cf rfl,BW (by omega) (by omega),BW (by omega) (by omega),BW (by omega) (by omega),DM i,this]
 have:=e t.Ab.length K 0 (by omega) (by omega);rw[Int.natCast_zero,H4] at this;unfold EB;rw[bd this]
theorem Zj{t:AE}(c:OkT t){L:List (List Int)}(g:Tr t L){m:List (List Int×Int)}(hm:Ho t m)(d:CV t≠[]){DI:List Int}(hs:DI.length≤900):∃a r,Ho t a∧JW (CV t) (Jh t DI) r∧Fh K (wk t (L.map (BQ t)) m) DI=some (r,a):=by
 
 have key:∃F:Bo→Int,∀l,GP t l=true→F (arr (Bx t l))=Jh t DI l:=⟨fun x=>H4 (fun k=>if DI.contains (k:Int)=true then ([x.a0,x.a1,x.a2]:List Int).getD k 0 else (t.Ab.getD k []).sum*t.Flat) t.Ab.length,fun l _=>by
  have e:=c.kl;refine Oi _ fun k hk=>?_;unfold Jb;have b:k<(Bx t l).length:=by rw[Gb];exact hk
  have h1:=JP (by rw[Gb];exact e) b;rw[idx_eq (by simp;omega)] at h1;rw[Dk _ b,←Option.some.inj h1,Dk _ (by simp;omega)]⟩
 obtain⟨F,f⟩:=key;obtain⟨a,r,h1,h2,h⟩:=QA hK c g hm d (fun(st:Unit) (x:Bo)=>(EB K x (wk t (L.map (BQ t)) m) DI).bind fun r=>some (r,())) F (Jh t DI) f (fun l hl=>by
  show(EB K (arr (Bx t l)) (wk t (L.map (BQ t)) m) DI).bind _=_;rw[bd (WC hK c _ m hs l),f l hl])
 refine⟨a,r,h1,h2,?_⟩;unfold Fh;rw[bd h]
theorem Zk{t:AE}(h:Ij t=true){DI:List Int}(hs:DI.length≤900):∃r,HW K t DI=some (r,J4 t DI)∧(J4 t DI≠0→r=⟨0,0⟩)∧(J4 t DI=0→JW (CV t) (Jh t DI) r):=by
 have hlen:=Ki h;have j:t.Ab.length≤100:=hlen.1.2.1;unfold HW;rw[bd (SR hK (by omega) hs)];rcases Ly hK h (G3 t.Ab.length 0 DI) with⟨h0,hr,L,m,c,hm,e⟩|⟨h0,e⟩
 ·have d:=JQ h (GQ (GR h0).1).1;obtain⟨k,r,_,h2,f⟩:=Zj hK d c hm (GR h0).2 hs;have b:J4 t DI=0:=by rw[QB hr,h0]
  refine⟨r,?_,fun g=>absurd b g,fun _=>h2⟩;rw[bd e];rw[b];show(Fh K (wk t (L.map (BQ t)) m) DI).bind _=_;rw[bd f]
 ·have a:J4 t DI≠0:=fun g=>h0 (Su g);refine⟨⟨0,0⟩,?_,fun _=>rfl,fun g=>absurd g a⟩;have i:CR K t (G3 t.Ab.length 0 DI)=some (none,J4 t DI):=e;rw[bd i];show cond (_ !=0) _ _=_;rw[ct (Jo a)]
end
section
variable{K:Nat}(hK:1000≤K)
include hK
theorem Zl{t:AE}(a:OkT t){l:List Int}(hl:GC t.Ak l=true){s:Nat}(hs:s<2^8):Hh K t l (s:Int)=some (Jh t (CX s) l):=by
 have r:=a.kl;have c:∀(d n i:Nat),t.Ab.length=i+d→d<n→Ei K t l (s:Int) n (H4 (Jb t (CX s) l) i) (i:Int)=some (Jh t (CX s) l):=by
  intro d
  induction d with
  |zero=>
   intro n i o p;obtain⟨n,rfl⟩:∃g,n=g+1:=⟨n-1,by omega⟩;obtain rfl:i=t.Ab.length:=by omega
   rw[Ei.eq_2,cf (df (by omega))];rfl
  |succ d ih=>
   intro n i o p;obtain⟨n,rfl⟩:∃g,n=g+1:=⟨n-1,by omega⟩;have hi:i<t.Ab.length:=by omega
   have j:i<(Bx t l).length:=by rw[Gb];omega
   have b1:=OK (f:=Jb t (CX s) l) (b:=9000) i fun k hk=>QL a (CX s) l k (by omega);have b2:=QL a (CX s) l i hi;have b3:=Sc a i hi;have:=ih n (i+1) (by omega) (by omega);rw[H4] at this;have e:((((s/2^i:Nat):Int)%2)==1)=(CX s).contains (i:Int):=by
    rw[Wz (by omega),←tb,Bool.eq_iff_iff,beq_iff_eq,beq_iff_eq];omega
   have q:(0:Int)≤((s/2^i:Nat):Int):=Int.natCast_nonneg _;rw[Ei.eq_2,ct (dt (by omega)),W6 (by omega),Uf (by omega),Qa,Ns q (by omega),e];cases m:(CX s).contains (i:Int) with
   |true=>
    have h:Jb t (CX s) l i=(Bx t l)[i]:=by unfold Jb;rw[if_pos m,Dk _ j]
    rw[h] at this b2;rw[ct rfl,bd (PC hK a hl hi),BW (by omega) (by omega),BW (by omega) (by omega),DM i,this]
   |false=>
    have h:Jb t (CX s) l i=t.Flat*t.Ab[i].sum:=by unfold Jb;rw[if_neg (by rw[m];decide),Dk _ hi,Int.mul_comm]
    rw[h] at this b2;rw[cf rfl,bd (Ow hK a hi),BW (by omega) (by omega),BW (by omega) (by omega),BW (by omega) (by omega),DM i,this]
 have:=c t.Ab.length K 0 (by omega) (by omega);rw[Int.natCast_zero,H4] at this;unfold Hh;rw[bd this]
end
section
variable{K:Nat}(hK:1000≤K)
include hK
theorem AaP{t:AE}(b:OkT t){s:Nat}(hs:s<256):HM K t (s:Int)=some (CX (s&&&(2^t.Ab.length-1))):=by
 have f:=b.kl;obtain⟨s1,s2,c,g,h,_⟩:=Ug t.Ab.length (by omega);have e:((2^t.Ab.length:Nat):Int)-1=((2^t.Ab.length-1:Nat):Int):=by omega
 have d:Jc .i64 (s:Int)=some ():=by
  have:∀x:Nat,x<256→Jc .i64 (x:Int)=some ():=by decide+kernel
  exact this s hs
 have a:s&&&(2^t.Ab.length-1)<2^8:=Nat.lt_of_le_of_lt Nat.and_le_left (by omega);unfold HM;rw[bd d,bd s1,bd s2,c,e,BW (by omega) (by omega),RA (by omega) (by omega),Acn,bd (AaN hK a)]
end
theorem Zm(s n:Nat):s&&&(2^n-1)<2^n:=by
 have:=Nat.two_pow_pos n;exact Nat.lt_of_le_of_lt Nat.and_le_right (by omega)
end Go.Proofs.YtbhofkcbfblijaaGreat
end
section
namespace Go.Proofs.YtbhofkcbfblijaaGreat
namespace HF
theorem AaQ:Bc Tryz.prog 55:=by unfold Bc;kernel_rfl
theorem AaR:Bc Tryz.prog 63:=by unfold Bc;kernel_rfl
theorem AaS:(Tryz.prog.underlying 5).isSome=true:=by kernel_rfl
theorem AaT:Bc Tryz.prog 52:=by unfold Bc;kernel_rfl
theorem AaU:Bc Tryz.prog 49:=by unfold Bc;kernel_rfl
theorem Zn(b o:Nat)(w:World):(Instr.fieldAt 60 (.pointer (some ⟨b,o,none⟩)) 1).run Tryz.prog w=.ok (.pointer (some ⟨b,o+1,none⟩)) w:=by kernel_rfl
theorem Zo:(Tryz.prog.info? 90).bind (·.zero)=some (.agg #[.bool false,.bool false,.bool false,.bool false]):=by kernel_rfl
theorem Abj:(Tryz.prog.info? 90).map (·.size)=some 4:=by kernel_rfl
end HF
end Go.Proofs.YtbhofkcbfblijaaGreat
end
section
namespace Go.Proofs.YtbhofkcbfblijaaGreat
open Go.RowKit Go.WideShapes
set_option maxRecDepth 20000
open HF
attribute [local irreducible] Ce WL CC CW LV BO G2 E9 One Bc
theorem a63 aS r(Z:Nat→Prop) w aT(a:HL aS r=some aT):
 BO Tryz.prog 63 #[I r] w (fun v w'=>Ext w w'∧(FE (Ai .i64)).R w' (zf Z w []) v aT):=by
 unfold HL at a;refine rq (N:=23) Tryz.func63 fun bC ha bD=>?_;have aM:=sA 0 ha;clear ha;have aU:Hp FN [] w [] w:=Hp.start (BC.none w);refine cr<|wA (v:=.slice none 0 0) rfl<|wr<|wA (v:=.slice none 0 0) rfl<|wn<|Af<|cr<|wA (v:=I 0) rfl<|wn<|AI ?_;have aV:=aU.nil;have aW:Bl (Ai .i64) 3 w.heap.size w (zf Z w [none]) none 0 ([]:List Int):=Bl.nil _ _ _ _ _;replace a:=bind_some a;obtain⟨y,p,a⟩:=a;refine BY (fun aX m z=>(aX=.exit 0∧∃c d,Fo X0 23 m∧sl m 3=.slice c y.length d∧Hp FN [] w [ob c] z∧Bl (Ai .i64) 3 w.heap.size z (zf Z w [ob c]) c d y)) ?aY ?aZ
 case aY=>
  clear a;refine BX (fun aH m z=>∃g,∃b,∃f h,Et r aH g b=some y∧Fo X0 23 m∧sl m 0=I r∧sl m 3=.slice f g.length h∧sl m 4=I b∧Hp FN [] w [ob f] z∧Bl (Ai .i64) 3 w.heap.size z (zf Z w [ob f]) f h g) aS ?a0 ?a2
  case a0=>
   intro st;exact⟨([]:List Int),(0:Int),none,0,p,qo st,sp st 0 aM,sp st 3 rfl,sp st 4 rfl,aV,aW⟩
  case a2=>
   rintro(_|aH) bE bF ⟨g,b,f,h,p,aN,l,q,j,u,i⟩
   ·exact absurd (show none=some _ from p) (by simp)
   rw[Et.eq_2] at p;have a:=p;clear p;refine ro aN<|Af<|cr<|wM (v:=I r) l<|wM (v:=I b) j ?_;replace a:=GI a;obtain⟨a3,a⟩:=a;refine wD (fun st=>It (k:=.u64) MU Tryz.underlying91 (eR st) a3) ?_;replace a:=NN a;obtain⟨a4,a⟩:=a;refine wD (fun st=>Ue (eR st) (eR st) a4)<|wD (fun st=>FI (eR st) (eR st))<|wn ?_;rcases Ae (decide ((0:Int)<(Lm r b))) with s|s
   ·replace a:=An a s;refine Ah rfl s<|cn<|Af<|AI<|cr<|wM (v:=I r) l<|wM (v:=I b) j ?_;replace a:=GI a;obtain⟨a5,a⟩:=a;refine wD (fun st=>It (k:=.u64) MU Tryz.underlying91 (eR st) a5) ?_;replace a:=NN a;obtain⟨a7,a⟩:=a;refine wD (fun st=>Ue (eR st) (eR st) a7) ?_;replace a:=I0 a;obtain⟨aJ,a⟩:=a;refine wD (fun st=>Ls (eR st) (eR st) aJ.1 aJ.2)<|wD (fun st=>Dp (eR st) (eR st))<|wn ?_;rcases Ae (((Lm r b)%2)==1) with t|t
    ·replace a:=An a t;refine Ah rfl t<|Al<|wM (v:=.slice f g.length h) q<|wM (v:=I b) j<|wE (fun st=>BR (e:=3) (vs:= #[(0,I b)]) (cs:= #[I b]) (Ik (eR st)) (by kernel_rfl)) ?_;rintro _ bG ⟨bH,rfl,n⟩;have aA:=u.nb n;have a8:=u.BJ n;have x:=(i.ext n.gr (Az n));replace a:=Cl a;obtain⟨aB,a⟩:=a;refine wE (fun st=>IN (ys:=[b]) Tryz.underlying31 HJ rfl rfl (by decide) (eR st) rfl (eR st) x (IP (BG:=[[I b]]) n.bk ⟨rfl,trivial⟩ rfl) (by have:=aB;simp only[maxLen];omega) (by have:=aB;omega) aA.sz (by simp)) ?_;rintro _ bI ⟨aK,aL,rfl,aC,aD,aO⟩;have a9:=aA.row aC 1 rfl aD;have aP:=DT aO (aA.CJ aC 1 rfl (fun k hk=>(aD k hk).1));refine wA (v:=.slice aK ((g++[b]).length) aL) rfl<|Bj<|CU<|Al<|wM (v:=I b) j ?_;replace a:=AL a;obtain⟨aQ,a⟩:=a;refine wD (fun st=>BL (eR st) (eR st) aQ)<|wA (v:=I (b+1)) rfl<|Bj ?_;have bA:=a9.erase 0;have aE:=(aP.up (AD 0));refine Bv aH (Nat.lt_succ_self _) (fun st=>?_);exact⟨(g++[b]),(b+1),aK,aL,a,qo st,sp st 0 l,sp st 3 rfl,sp st 4 rfl,bA,aE⟩
    ·replace a:=Ao a t;refine Aq rfl t<|Cp<|CU<|Al<|wM (v:=I b) j ?_;replace a:=AL a;obtain⟨aR,a⟩:=a;refine wD (fun st=>BL (eR st) (eR st) aR)<|wA (v:=I (b+1)) rfl<|Bj ?_;refine Bv aH (Nat.lt_succ_self _) (fun st=>?_);exact⟨g,(b+1),f,h,a,qo st,sp st 0 l,sp st 3 q,sp st 4 rfl,u,i⟩
   ·replace a:=Ao a s;refine Aq rfl s<|DG ?_;obtain rfl:=oi a;refine BF (fun st=>?_);exact⟨rfl,f,h,qo st,sp st 3 q,u,i⟩
 case aZ=>
  rintro aX bB bJ (⟨rfl,c,d,aI,aF,aG,o⟩);refine lf aI<|Bd<|BM<|cr<|wM (v:=.slice c y.length d) aF<|wA (v:=.slice c y.length d) rfl<|wn<|Am ?_;obtain rfl:=oi a;refine Av rfl rfl ?_;exact⟨aG.Bf,⟨_,_,rfl,aG.Jn (M:=[]) 0 rfl [] rfl trivial o⟩⟩
theorem a52 aG o r g i(Z:Nat→Prop) w(aV:Sl (Ai .i64) w Z g i o) b4(a:Ht aG o r=some b4):
 BO Tryz.prog 52 #[.slice g o.length i,I r] w (fun v w'=>Ext w w'∧(Nh (Dr .i64) BE).R w' (zf Z w []) v b4):=by
 unfold Ht at a;refine rq (N:=47) Tryz.func52 fun cL ha cM=>?_;have aY:=sA 0 ha;have aZ:=sA 1 ha;clear ha;have b5:Hp FN [] w [] w:=Hp.start (BC.none w);have aH:=aV.mv (Bz (Z:=Z) (L:=[]) w);refine cr<|wA (v:=I 0) rfl<|wA (v:=.bool false) rfl<|wr<|wA (v:=I 0) rfl<|wn<|Af<|cr<|wA (v:=I 0) rfl<|wn<|AI ?_;replace a:=bind_some a;obtain⟨a0,u,a⟩:=a;refine BY (fun a2 m aJ=>(a2=.ret∧∃n,a0=.inl n∧Fo X0 47 m∧sl m 4=I n.1∧sl m 5=.bool n.2∧Hp FN [] w [] aJ)∨(a2=.exit 0∧∃n,a0=.inr n∧Fo X0 47 m∧sl m 6=I n∧Hp FN [] w [] aJ)) ?b6 ?b7
 case b6=>
  clear a;refine BX (fun aW m aJ=>∃l,∃b,Dm aG o r aW l b=some a0∧Fo X0 47 m∧sl m 0=.slice g o.length i∧sl m 1=I r∧sl m 6=I l∧sl m 7=I b∧Hp FN [] w [] aJ∧Sl (Ai .i64) aJ (zf Z w []) g i o) aG ?b8 ?b9
  case b8=>
   intro st;exact⟨(0:Int),(0:Int),u,qo st,sp st 0 aY,sp st 1 aZ,sp st 6 rfl,sp st 7 rfl,b5,aH⟩
  case b9=>
   rintro(_|aW) cN cO ⟨l,b,u,a3,f,q,z,d,aD,j⟩
   ·exact absurd (show none=some _ from u) (by simp)
   rw[Dm.eq_2] at u;have a:=u;clear u;refine ro a3<|Af<|cr<|wM (v:=I b) d<|wM (v:=.slice g o.length i) f<|wD (fun st=>Br Tryz.underlying31 (eR st))<|wD (fun st=>B9 (eR st) (eR st))<|wn ?_;rcases Ae (decide (b<(o.length:Int))) with aB|aB
   ·replace a:=An a aB;refine Ah rfl aB<|cn<|Af<|AI<|Af<|Af ?_;replace a:=AT a;obtain⟨i4,aI,aK,cA,aL,a⟩:=a;obtain⟨a4,a5,_,aM,rfl,aN⟩:=Sl.Cy j rfl cA;replace a:=AL a;obtain⟨aO,a⟩:=a;replace a:=bind_some a;obtain⟨p,aP,a⟩:=a;rcases Ae (!p) with e|e
    ·replace a:=An a e;have cI:p=false:=by simpa using e
     refine BU 21 [Kc (.slice g o.length i),Kc (I b),Kc (pt a4 (a5+i4)),Kc (I aI),Kc (I r),Kc (I (r-1)),Kc (.bool p),Kc (.bool !p),Kc (.bool !p),Kc undef,Kc undef,Kc undef,Kc undef,Kc undef,Kc undef,Kc undef,Kc undef,Kc undef,Kc undef,Kc undef,Kc undef] mixed rfl rfl
         (Aa (oD (fun K=>Au (es ((K.out 0 rfl).trans f))))
         (Aa (oD (fun K=>Au (es ((K.out 7 rfl).trans d))))
         (Aa (oD (fun K=>Bi (k:=i4) Tryz.underlying31 CM (es (K.dq 0 14)) aM (es (K.dq 1 15)) aK aL))
         (Aa (oD (fun K=>Bp Bg (es (K.dq 2 16)) (aN.mv (Ac K.AQ)) rfl))
         (Aa (oD (fun K=>Au (es ((K.out 1 rfl).trans q))))
         (Aa (oD (fun K=>Ej (es (K.dq 4 18)) (ec (v:=I 1)) aO))
         (Aa (oE (fun K=>(Aj Em rfl (Ek (es (K.dq 3 17)) (ec (v:=I 0)) (es (K.dq 5 19))) (Ii aG aI 0 (r-1) ZA _ p aP)).mono (fun _ _ h=>⟨h.2,h.1⟩)))
         (Aa (oD (fun K=>Ca (es (K.dq 6 20))))
         (Aa (oD (fun K=>Au (es (K.dq 7 21))))
         (Aa (oT e)
         (Aa (oT e)
         (Aa (oT e)
         (Aa (oU)
         (Aa (oU)
         (Aa (oU)
         (Aa (oU)
         (Aa (oU)
         (Aa (oU)
         (Aa (oU)
         (Aa (oU)
         (Aa (oU)
         (BS _)))))))))))))))))))))) ?_
     intro cB;rintro _ rfl _ rfl _ rfl _ rfl _ rfl _ rfl _ rfl _ rfl _ rfl _ rfl _ rfl _ rfl _ rfl _ rfl _ rfl _ rfl _ rfl _ rfl _ rfl _ rfl _ rfl s;have cC:=aD.ext s;refine Kk rfl rfl rfl rfl (by decide)<|wF e<|wD (fun st=>AY (v:=.bool true) (eR st) e (eR st))<|wn<|Ah rfl rfl<|cr<|wA (v:=I 0) rfl<|wA (v:=.bool false) rfl<|wn<|Am<|AG<|CN<|AG ?_;obtain rfl:=oi a;refine BF (fun st=>?_);exact .inl ⟨rfl,((0:Int),false),rfl,qo st,sp st 4 rfl,sp st 5 rfl,cC⟩
    ·replace a:=Ao a e;have cJ:p=true:=by simpa using e
     rcases Ae (decide ((0:Int)<b)) with c|c
     ·replace a:=An a c;replace a:=AT a;obtain⟨i11,aE,a7,a8,a9,a⟩:=a;obtain⟨cD,cE,_,bA,rfl,bB⟩:=Sl.Cy j rfl a8;replace a:=AL a;obtain⟨bC,a⟩:=a;replace a:=AT a;obtain⟨i13,aF,bD,bE,bF,a⟩:=a;obtain⟨cF,cG,_,bG,rfl,bH⟩:=Sl.Cy j rfl bE;refine BU 21 [Kc (.slice g o.length i),Kc (I b),Kc (pt a4 (a5+i4)),Kc (I aI),Kc (I r),Kc (I (r-1)),Kc (.bool p),Kc (.bool !p),Kc (.bool !p),Kc (I b),Kc (.bool (decide ((0:Int)<b))),Kc (.bool (decide ((0:Int)<b))),Kc (.slice g o.length i),Kc (I b),Kc (pt cD (cE+i11)),Kc (I aE),Kc (.slice g o.length i),Kc (I b),Kc (I (b-1)),Kc (pt cF (cG+i13)),Kc (I aF)] mixed rfl rfl
          (Aa (oD (fun K=>Au (es ((K.out 0 rfl).trans f))))
          (Aa (oD (fun K=>Au (es ((K.out 7 rfl).trans d))))
          (Aa (oD (fun K=>Bi (k:=i4) Tryz.underlying31 CM (es (K.dq 0 14)) aM (es (K.dq 1 15)) aK aL))
          (Aa (oD (fun K=>Bp Bg (es (K.dq 2 16)) (aN.mv (Ac K.AQ)) rfl))
          (Aa (oD (fun K=>Au (es ((K.out 1 rfl).trans q))))
          (Aa (oD (fun K=>Ej (es (K.dq 4 18)) (ec (v:=I 1)) aO))
          (Aa (oE (fun K=>(Aj Em rfl (Ek (es (K.dq 3 17)) (ec (v:=I 0)) (es (K.dq 5 19))) (Ii aG aI 0 (r-1) ZA _ p aP)).mono (fun _ _ h=>⟨h.2,h.1⟩)))
          (Aa (oD (fun K=>Ca (es (K.dq 6 20))))
          (Aa (oD (fun K=>Au (es (K.dq 7 21))))
          (Aa (oG e (fun K=>Au (es ((K.out 7 rfl).trans d))))
          (Aa (oG e (fun K=>FI (es (K.dq 9 23)) (ec (v:=I 0))))
          (Aa (oG e (fun K=>Au (es (K.dq 10 24))))
          (Aa (oG c (fun K=>Au (es ((K.out 0 rfl).trans f))))
          (Aa (oG c (fun K=>Au (es ((K.out 7 rfl).trans d))))
          (Aa (oG c (fun K=>Bi (k:=i11) Tryz.underlying31 CM (es (K.dq 12 26)) bA (es (K.dq 13 27)) a7 a9))
          (Aa (oG c (fun K=>Bp Bg (es (K.dq 14 28)) (bB.mv (Ac K.AQ)) rfl))
          (Aa (oG c (fun K=>Au (es ((K.out 0 rfl).trans f))))
          (Aa (oG c (fun K=>Au (es ((K.out 7 rfl).trans d))))
          (Aa (oG c (fun K=>Ej (es (K.dq 17 31)) (ec (v:=I 1)) bC))
          (Aa (oG c (fun K=>Bi (k:=i13) Tryz.underlying31 CM (es (K.dq 16 30)) bG (es (K.dq 18 32)) bD bF))
          (Aa (oG c (fun K=>Bp Bg (es (K.dq 19 33)) (bH.mv (Ac K.AQ)) rfl))
          (BS _)))))))))))))))))))))) ?_
      intro cB;rintro _ rfl _ rfl _ rfl _ rfl _ rfl _ rfl _ rfl _ rfl _ rfl _ rfl _ rfl _ rfl _ rfl _ rfl _ rfl _ rfl _ rfl _ rfl _ rfl _ rfl _ rfl s;have aX:=aD.ext s;refine wG c (fun st=>HN (eR st) (eR st))<|wG e (fun st=>AY (v:=.bool (decide (aE≤aF))) (eR st) c (eR st))<|wD (fun st=>Bs (v:=.bool (decide (aE≤aF))) (eR st) e (eR st))<|wn ?_;rcases Ae (decide (aE≤aF)) with t|t
      ·replace a:=An a t;refine Ah rfl t<|cr<|wA (v:=I 0) rfl<|wA (v:=.bool false) rfl<|wn<|Am<|AG<|CN<|AG ?_;obtain rfl:=oi a;refine BF (fun st=>?_);exact .inl ⟨rfl,((0:Int),false),rfl,qo st,sp st 4 rfl,sp st 5 rfl,aX⟩
      ·replace a:=Ao a t;refine Aq rfl t<|cn<|Al<|wM (v:=I l) z<|wM (v:=.slice g o.length i) f<|wM (v:=I b) d ?_;replace a:=AT a;obtain⟨i15,aQ,bI,bJ,bK,a⟩:=a;have x:=(j.mv (Ac s));obtain⟨cP,cQ,_,bL,rfl,bM⟩:=Sl.Cy x rfl bJ;refine wD (fun st=>Bi (k:=i15) Tryz.underlying31 CM (eR st) bL (eR st) bI bK)<|wD (fun st=>Bp (v:=I aQ) Bg (eR st) bM rfl) ?_;replace a:=GI a;obtain⟨bN,a⟩:=a;refine wD (fun st=>It (k:=.u64) MU Tryz.underlying91 (eR st) bN) ?_;replace a:=Kl a;obtain⟨bO,a⟩:=a;refine wD (fun st=>NR (eR st) (eR st) bO) ?_;replace a:=Lb a;obtain⟨bP,a⟩:=a;refine wD (fun st=>TQ (eR st) (eR st) bP)<|wA (v:=I (Lp l (Gr (1:Int) aQ))) rfl<|Bj<|CU<|Al<|wM (v:=I b) d ?_;replace a:=AL a;obtain⟨bQ,a⟩:=a;refine wD (fun st=>BL (eR st) (eR st) bQ)<|wA (v:=I (b+1)) rfl<|Bj ?_;refine Bv aW (Nat.lt_succ_self _) (fun st=>?_);exact⟨(Lp l (Gr (1:Int) aQ)),(b+1),a,qo st,sp st 0 f,sp st 1 q,sp st 6 rfl,sp st 7 rfl,aX,x⟩
     ·replace a:=Ao a c;refine BU 21 [Kc (.slice g o.length i),Kc (I b),Kc (pt a4 (a5+i4)),Kc (I aI),Kc (I r),Kc (I (r-1)),Kc (.bool p),Kc (.bool !p),Kc (.bool !p),Kc (I b),Kc (.bool (decide ((0:Int)<b))),Kc (.bool (decide ((0:Int)<b))),Kc undef,Kc undef,Kc undef,Kc undef,Kc undef,Kc undef,Kc undef,Kc undef,Kc undef] mixed rfl rfl
          (Aa (oD (fun K=>Au (es ((K.out 0 rfl).trans f))))
          (Aa (oD (fun K=>Au (es ((K.out 7 rfl).trans d))))
          (Aa (oD (fun K=>Bi (k:=i4) Tryz.underlying31 CM (es (K.dq 0 14)) aM (es (K.dq 1 15)) aK aL))
          (Aa (oD (fun K=>Bp Bg (es (K.dq 2 16)) (aN.mv (Ac K.AQ)) rfl))
          (Aa (oD (fun K=>Au (es ((K.out 1 rfl).trans q))))
          (Aa (oD (fun K=>Ej (es (K.dq 4 18)) (ec (v:=I 1)) aO))
          (Aa (oE (fun K=>(Aj Em rfl (Ek (es (K.dq 3 17)) (ec (v:=I 0)) (es (K.dq 5 19))) (Ii aG aI 0 (r-1) ZA _ p aP)).mono (fun _ _ h=>⟨h.2,h.1⟩)))
          (Aa (oD (fun K=>Ca (es (K.dq 6 20))))
          (Aa (oD (fun K=>Au (es (K.dq 7 21))))
          (Aa (oG e (fun K=>Au (es ((K.out 7 rfl).trans d))))
          (Aa (oG e (fun K=>FI (es (K.dq 9 23)) (ec (v:=I 0))))
          (Aa (oG e (fun K=>Au (es (K.dq 10 24))))
          (Aa (oT c)
          (Aa (oT c)
          (Aa (oT c)
          (Aa (oT c)
          (Aa (oT c)
          (Aa (oT c)
          (Aa (oT c)
          (Aa (oT c)
          (Aa (oT c)
          (BS _)))))))))))))))))))))) ?_
      intro cB;rintro _ rfl _ rfl _ rfl _ rfl _ rfl _ rfl _ rfl _ rfl _ rfl _ rfl _ rfl _ rfl _ rfl _ rfl _ rfl _ rfl _ rfl _ rfl _ rfl _ rfl _ rfl s;have cH:=aD.ext s;refine wF c<|wG e (fun st=>Bs (v:=.bool false) (eR st) c (eR st))<|wD (fun st=>Bs (v:=.bool false) (eR st) e (eR st))<|wn<|Aq rfl rfl<|cn<|Al<|wM (v:=I l) z<|wM (v:=.slice g o.length i) f<|wM (v:=I b) d ?_;replace a:=AT a;obtain⟨i20,aR,bR,bS,bT,a⟩:=a;have y:=(j.mv (Ac s));obtain⟨cR,cS,_,bU,rfl,bV⟩:=Sl.Cy y rfl bS;refine wD (fun st=>Bi (k:=i20) Tryz.underlying31 CM (eR st) bU (eR st) bR bT)<|wD (fun st=>Bp (v:=I aR) Bg (eR st) bV rfl) ?_;replace a:=GI a;obtain⟨bW,a⟩:=a;refine wD (fun st=>It (k:=.u64) MU Tryz.underlying91 (eR st) bW) ?_;replace a:=Kl a;obtain⟨bX,a⟩:=a;refine wD (fun st=>NR (eR st) (eR st) bX) ?_;replace a:=Lb a;obtain⟨bY,a⟩:=a;refine wD (fun st=>TQ (eR st) (eR st) bY)<|wA (v:=I (Lp l (Gr (1:Int) aR))) rfl<|Bj<|CU<|Al<|wM (v:=I b) d ?_;replace a:=AL a;obtain⟨bZ,a⟩:=a;refine wD (fun st=>BL (eR st) (eR st) bZ)<|wA (v:=I (b+1)) rfl<|Bj ?_;refine Bv aW (Nat.lt_succ_self _) (fun st=>?_);exact⟨(Lp l (Gr (1:Int) aR)),(b+1),a,qo st,sp st 0 f,sp st 1 q,sp st 6 rfl,sp st 7 rfl,cH,y⟩
   ·replace a:=Ao a aB;refine Aq rfl aB<|DG ?_;obtain rfl:=oi a;refine BF (fun st=>?_);exact .inr ⟨rfl,l,rfl,qo st,sp st 6 z,aD⟩
 case b7=>
  rintro a2 cK cT (⟨rfl,n,rfl,aA,aS,aT,aC⟩|⟨rfl,n,rfl,aA,aU,aC⟩)
  ·skip
   replace a:=C4 a;refine lf aA<|CN ?_;obtain rfl:=oi a;refine Dq rfl aS aT ?_;exact⟨aC.Bf,⟨_,_,rfl,rfl,rfl⟩⟩
  ·skip
   replace a:=C5 a;refine lf aA<|Bd<|BM<|cr<|wM (v:=I n) aU<|wA (v:=I n) rfl<|wA (v:=.bool true) rfl<|wn<|Am ?_;obtain rfl:=oi a;refine Dq rfl rfl rfl ?_;exact⟨aC.Bf,⟨_,_,rfl,rfl,rfl⟩⟩
theorem a55 bQ c aO aV f g d e i j m n o p q r aH aI(Z:Nat→Prop) w(bU:Sl AA w Z f g c.Ak)(bV:Sl (BH (Ai .i64)) w Z d e c.Ab)(bW:Sl AH w Z i j c.Aw)(bX:Sl AZ w Z m n c.AB)(bY:Sl Bb w Z o p c.AF)(bZ:Sl Bq w Z q r c.AM)(b4:Sl (Ai .i64) w Z aH aI aO) cN(a:Hh bQ c aO aV=some cN):
 BO Tryz.prog 55 #[.agg (Ay f g d e i j m n o p q r c).toArray,.slice aH aO.length aI,I aV] w (fun v w'=>Ext w w'∧(Dr .i64).R w' (zf Z w []) v cN):=by
 unfold Hh at a;refine rq (N:=38) Tryz.func55 fun c1 ha c2=>?_;have cB:=sA 0 ha;have cC:=sA 1 ha;have cD:=sA 2 ha;clear ha;have b9:Hp FN [] w [] w:=Hp.start (BC.none w);have ⟨aW,aX,aY,aZ,a0,a2,a3⟩:=IF bU bV bW bX bY bZ b4 (Bz (Z:=Z) (L:=[]) w);refine cr<|wE (fun st=>BN (v:=.agg (Ay f g d e i j m n o p q r c).toArray) (cs:=(Ay f g d e i j m n o p q r c).toArray) (ee st cB) rfl) ?_;rintro _ w1 ⟨b1,rfl,aU⟩;have cO:=b9.nb aU;have cZ:=b9.BJ aU;refine wA (v:=I 0) rfl<|wr<|wA (v:=I 0) rfl<|wn<|Af<|cr<|wA (v:=I 0) rfl<|wn<|AI ?_;replace a:=bind_some a;obtain⟨z2,aK,a⟩:=a;refine BY (fun cP aG aJ=>(cP=.exit 0∧Fo X0 38 aG∧sl aG 7=I z2∧Hp FN [] w [some b1] aJ)) ?cQ ?cR
 case cQ=>
  clear a;refine BX (fun b5 aG aJ=>∃u,∃b,Ei bQ c aO aV b5 u b=some z2∧Fo X0 38 aG∧sl aG 1=.slice aH aO.length aI∧sl aG 2=I aV∧sl aG 3=pt b1 0∧sl aG 7=I u∧sl aG 8=I b∧Hp FN [] w [some b1] aJ∧Bk aJ b1 67 (Ay f g d e i j m n o p q r c).toArray∧(fun aS=>Sl AA aJ aS f g c.Ak∧Sl (BH (Ai .i64)) aJ aS d e c.Ab∧Sl AH aJ aS i j c.Aw∧Sl AZ aJ aS m n c.AB∧Sl Bb aJ aS o p c.AF∧Sl Bq aJ aS q r c.AM∧Sl (Ai .i64) aJ aS aH aI aO) (zf Z w [some b1])) bQ ?cS ?cT
  case cS=>
   intro st;have ⟨a4,a5,a7,a8,a9,bA,bB⟩:=IF aW aX aY aZ a0 a2 a3 (Az aU);exact⟨(0:Int),(0:Int),aK,qo st,sp st 1 cC,sp st 2 cD,sp st 3 rfl,sp st 7 rfl,sp st 8 rfl,cO,aU.bk,a4,a5,a7,a8,a9,bA,bB⟩
  case cT=>
   rintro(_|b5) c3 c4 ⟨u,b,aK,cE,aL,aM,aD,aN,aE,bR,s,x,y,z,aA,aB,aC,aF⟩
   ·exact absurd (show none=some _ from aK) (by simp)
   rw[Ei.eq_2] at aK;have a:=aK;clear aK;refine ro cE<|Af<|cr<|wM (v:=I b) aE<|wD (fun st=>Ad (ee st aD) (ER _ _))<|wD (fun st=>Ad (eR st) (DE _ _))<|wD (fun st=>Ag (v:=.slice d c.Ab.length e) C2 (eR st) s rfl)<|wD (fun st=>Br Tryz.underlying23 (eR st))<|wD (fun st=>B9 (eR st) (eR st))<|wn ?_;rcases Ae (decide (b<(c.Ab.length:Int))) with aP|aP
   ·replace a:=An a aP;refine Ah rfl aP<|cn<|Af<|AI<|cr<|wM (v:=I aV) aM<|wM (v:=I b) aE ?_;replace a:=GI a;obtain⟨cU,a⟩:=a;refine wD (fun st=>It (k:=.u64) MU Tryz.underlying91 (eR st) cU) ?_;replace a:=NN a;obtain⟨cV,a⟩:=a;refine wD (fun st=>Ue (eR st) (eR st) cV) ?_;replace a:=I0 a;obtain⟨cA,a⟩:=a;refine wD (fun st=>Ls (eR st) (eR st) cA.1 cA.2)<|wD (fun st=>Dp (eR st) (eR st))<|wn ?_;rcases Ae (((Lm aV b)%2)==1) with aQ|aQ
    ·replace a:=An a aQ;refine Ah rfl aQ<|Al<|wM (v:=I u) aN<|wD (fun st=>Ba (l:=(Ay f g d e i j m n o p q r c)) E6 (ee st aD) s rfl rfl)<|wM (v:=.slice aH aO.length aI) aL<|wM (v:=I b) aE ?_;replace a:=bind_some a;obtain⟨cF,cW,a⟩:=a;refine wE (fun st=>Aj RU (eR st) (Ek (eR st) (eR st) (eR st)) (a54 bQ c aO b f g d e i j m n o p q r aH aI ZA _ x.all y.all z.all aA.all aB.all aC.all aF.all cF cW)) ?_;rintro _ c7 ⟨bS,rfl⟩;have cX:=bR.ext bS;replace a:=AL a;obtain⟨cG,a⟩:=a;refine wD (fun st=>BL (eR st) (eR st) cG)<|wA (v:=I (u+cF)) rfl<|Bj<|CU<|Al<|wM (v:=I b) aE ?_;replace a:=AL a;obtain⟨cH,a⟩:=a;refine wD (fun st=>BL (eR st) (eR st) cH)<|wA (v:=I (b+1)) rfl<|Bj ?_;have b6:=(s.ext bS);have ⟨bC,bD,bE,bF,bG,bH,bI⟩:=IF x y z aA aB aC aF (Ac bS);refine Bv b5 (Nat.lt_succ_self _) (fun st=>?_);exact⟨(u+cF),(b+1),a,qo st,sp st 1 aL,sp st 2 aM,sp st 3 aD,sp st 7 rfl,sp st 8 rfl,cX,b6,bC,bD,bE,bF,bG,bH,bI⟩
    ·replace a:=Ao a aQ;refine Aq rfl aQ ?_;replace a:=bind_some a;obtain⟨aR,cI,a⟩:=a;replace a:=AL a;obtain⟨cJ,a⟩:=a;refine BU 7 [Kc (I u),Kc (pt b1 3),Kc (I c.Flat),Kc (.agg (Ay f g d e i j m n o p q r c).toArray),Kc (I b),Kc (I aR),Kc (I (c.Flat*aR))] mixed rfl rfl
         (Aa (oD (fun K=>Au (es (t:=7) ((K.later 8 7 _ rfl rfl rfl).trans aN))))
         (Aa (oD (fun K=>Ad (es ((K.out 3 rfl).trans aD)) (PZ _ _)))
         (Aa (oD (fun K=>Ag Bg (es (K.dq 1 30)) (s.ext K.AQ) rfl))
         (Aa (oD (fun K=>Ba (l:=(Ay f g d e i j m n o p q r c)) E6 (es ((K.out 3 rfl).trans aD)) (s.ext K.AQ) rfl rfl))
         (Aa (oD (fun K=>Au (es ((K.out 8 rfl).trans aE))))
         (Aa (oE (fun K=>(Aj Ms rfl (Ci (es (K.dq 3 32)) (es (K.dq 4 33))) (Tu bQ c b f g d e i j m n o p q r ZA _ (x.mv (Ac K.AQ)).all (y.mv (Ac K.AQ)).all (z.mv (Ac K.AQ)).all (aA.mv (Ac K.AQ)).all (aB.mv (Ac K.AQ)).all (aC.mv (Ac K.AQ)).all aR cI)).mono (fun _ _ h=>⟨h.2,h.1⟩)))
         (Aa (oD (fun K=>LY (es (K.dq 2 31)) (es (K.dq 5 34)) cJ))
         (BS _)))))))) ?_
     intro c5;rintro _ rfl _ rfl _ rfl _ rfl _ rfl _ rfl _ rfl aT;have cY:=bR.ext aT;replace a:=AL a;obtain⟨cK,a⟩:=a;refine wD (fun st=>BL (eR st) (eR st) cK)<|wA (v:=I (u+(c.Flat*aR))) rfl<|Bj<|CU<|Al<|wM (v:=I b) aE ?_;replace a:=AL a;obtain⟨cL,a⟩:=a;refine wD (fun st=>BL (eR st) (eR st) cL)<|wA (v:=I (b+1)) rfl<|Bj ?_;have b7:=(s.ext aT);have ⟨bJ,bK,bL,bM,bN,bO,bP⟩:=IF x y z aA aB aC aF (Ac aT);refine Bv b5 (Nat.lt_succ_self _) (fun st=>?_);exact⟨(u+(c.Flat*aR)),(b+1),a,qo st,sp st 1 aL,sp st 2 aM,sp st 3 aD,sp st 7 rfl,sp st 8 rfl,cY,b7,bJ,bK,bL,bM,bN,bO,bP⟩
   ·replace a:=Ao a aP;refine Aq rfl aP<|DG ?_;obtain rfl:=oi a;refine BF (fun st=>?_);exact⟨rfl,qo st,sp st 7 aN,bR⟩
 case cR=>
  rintro cP c0 c6 (⟨rfl,b8,bT,cM⟩);refine lf b8<|Bd<|BM<|cr<|wM (v:=I z2) bT<|wA (v:=I z2) rfl<|wn<|Am ?_;obtain rfl:=oi a;refine Av rfl rfl ?_;exact⟨cM.Bf,rfl⟩
theorem a49 aM b r f g c d h i j l m n o p(Z:Nat→Prop) w(s:Sl AA w Z f g b.Ak)(t:Sl (BH (Ai .i64)) w Z c d b.Ab)(u:Sl AH w Z h i b.Aw)(x:Sl AZ w Z j l b.AB)(y:Sl Bb w Z m n b.AF)(z:Sl Bq w Z o p b.AM) aN(a:HM aM b r=some aN):
 BO Tryz.prog 49 #[.agg (Ay f g c d h i j l m n o p b).toArray,.int .u8 r] w (fun v w'=>Ext w w'∧(FE (Ai .i64)).R w' (zf Z w []) v aN):=by
 unfold HM at a;refine rq (N:=16) Tryz.func49 fun aY ha aZ=>?_;have aE:=sA 0 ha;have aF:=sA 1 ha;clear ha;have aC:Hp FN [] w [] w:=Hp.start (BC.none w);have ⟨aG,aH,aI,aJ,aK,aL⟩:=CA s t u x y z (Bz (Z:=Z) (L:=[]) w);refine cr<|wE (fun st=>BN (v:=.agg (Ay f g c d h i j l m n o p b).toArray) (cs:=(Ay f g c d h i j l m n o p b).toArray) (ee st aE) rfl) ?_;rintro _ w1 ⟨b1,rfl,q⟩;have aD:=aC.nb q;have aX:=aC.BJ q;refine wA (v:=.slice none 0 0) rfl<|wr<|wM (v:=.int .u8 r) aF ?_;replace a:=GI a;obtain⟨aO,a⟩:=a;refine wD (fun st=>It (k:=.i64) AaS Tryz.underlying3 (eR st) aO)<|wD (fun st=>Ad (eR st) (ER _ _))<|wD (fun st=>Ad (eR st) (DE _ _))<|wD (fun st=>Ag (v:=.slice c b.Ab.length d) C2 (eR st) q.bk rfl)<|wD (fun st=>Br Tryz.underlying23 (eR st)) ?_;replace a:=GI a;obtain⟨aP,a⟩:=a;refine wD (fun st=>It (k:=.u64) MU Tryz.underlying91 (eR st) aP) ?_;replace a:=Kl a;obtain⟨aQ,a⟩:=a;refine wD (fun st=>NR (eR st) (eR st) aQ) ?_;replace a:=AL a;obtain⟨aR,a⟩:=a;refine wD (fun st=>Ej (eR st) (eR st) aR) ?_;replace a:=Lb a;obtain⟨aS,a⟩:=a;refine wD (fun st=>Abi (eR st) (eR st) aS) ?_;replace a:=bind_some a;obtain⟨aT,aU,a⟩:=a;refine wE (fun st=>Aj AaR (eR st) (Ck (eR st)) (a63 aM (P8 r ((Gr (1:Int) (b.Ab.length:Int))-1)) (zf Z w [some b1]) _ aT aU)) ?_;rintro _ a0 ⟨aV,⟨aA,aB,rfl,e⟩⟩;have aW:=aD.ext aV;have e:=e.mv (aD.DR (Nat.le_refl _));refine wA (v:=.slice aA aT.length aB) rfl<|wn<|Am ?_;obtain rfl:=oi a;refine Av rfl rfl ?_;exact⟨aW.Bf,⟨_,_,rfl,e.mv (AU (BB [] trivial))⟩⟩
end Go.Proofs.YtbhofkcbfblijaaGreat
end
section
namespace Go.Proofs.YtbhofkcbfblijaaGreat
open Go.RowKit Go.ChangeShapes Go.WideShapes
theorem W7{x:Int}(h:GD .u8 x):0≤x∧x<256:=by
 have h2:(decide (IntKind.u8.min≤x)&&decide (x≤IntKind.u8.max))=true:=h;rw[Bool.and_eq_true,decide_eq_true_eq,decide_eq_true_eq] at h2;have a:IntKind.u8.min=0:=by decide
 have b:IntKind.u8.max=255:=by decide
 omega
end Go.Proofs.YtbhofkcbfblijaaGreat
end
