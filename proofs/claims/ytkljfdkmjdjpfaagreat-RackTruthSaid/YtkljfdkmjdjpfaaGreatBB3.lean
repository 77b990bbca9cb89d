import Derived.Test.YtkljfdkmjdjpfaaGreatBB2
import Derived.WalkKit
import Derived.KernelRfl
import Derived.WalkSpells
import Derived.WalkLawsBesides
import Derived.Maps.AppendAt
import Derived.OrdersIn
import Derived.RangeFuncIn
import Derived.RangeFuncLeaves
import Derived.RangeFuncRecord
import Derived.RangeFuncSeq
import Derived.Scope
import Derived.DeepKeys3
import Derived.Laws.CopyRow
import Derived.Laws.OwnMore
import Derived.Laws.MakeOwn
import Derived.Laws.IdiomCopy
import Derived.Test.YtkljfdkmjdjpfaaGreatProg
/-
  The contracts of the functions of the program and of the reference, and the logic that they are proved in: the base that several claims of this seat share.
-/
set_option linter.all false
section
namespace Go.Proofs.YtkljfdkmjdjpfaaGreat
theorem NQ(n:Nat)(h:n<64):J4 .u64 (n:Int)=some ():=by
 refine if_pos ?_;show(n:Int)%(2^64:Int)=n;rw[show(2:Int)^64=18446744073709551616 from rfl];omega
theorem L3(K b d:Nat)(h:d<64):DI K (b:Int) (d:Int)=some (b.testBit d):=by
 unfold DI;rw[bd (NQ d h),bd (P9 b d h),Kx (TX b d) (by omega),P8]
def lead:List Bool→Nat
 |true::l=>lead l+1
 |_=>0
def GU(R:Int):List Bool→Bool
 |[]=>true
 |b::l=>decide ((lead (b::l):Int)≤R)&&GU R l
def IG:List Bool→Nat
 |[]=>0
 |b::l=>(cond b 1 0)+IG l
theorem Lw(r:Nat)(l:List Bool):lead (List.replicate r true++l)=r+lead l:=by
 induction r with
 |zero=>simp
 |succ r ih=>rw[List.replicate_succ,List.cons_append,lead,ih];omega
theorem MS(R:Int)(l:List Bool):∀r:Nat,(r:Int)≤R→GU R (List.replicate r true++false::l)=(decide (0≤R)&&GU R l)
 |0,_=>rfl
 |r+1,h=>by
  rw[List.replicate_succ,List.cons_append,GU,MS R l r (by omega)];have:lead (true::(List.replicate r true++false::l))=r+1:=by
   rw[lead,Lw];rfl
  rw[this,dt (by omega),Bool.true_and]
theorem NR(W R:Int)(b:0≤R):∀(l:List Bool) (s:Int) (r:Nat),s≤W→(r:Int)≤R→okW W R l s r=(decide (s+(IG l:Int)≤W)&&GU R (List.replicate r true++l))
 |[],s,r,c,a=>by
  have:∀q:Nat,(q:Int)≤R→GU R (List.replicate q true)=true:=by
   intro q
   induction q with
   |zero=>intro _;rfl
   |succ q ih=>
    intro f;have e:=Lw (q+1) [];rw[List.append_nil,List.replicate_succ] at e;have g:lead ([]:List Bool)=0:=rfl;rw[List.replicate_succ,GU,e,ih (by omega),dt (by omega)];rfl
  rw[List.append_nil,this r a,okW,dt (by unfold IG;omega)];rfl
 |false::l,s,r,c,a=>by
  rw[okW,MS R l r a,dt b,Bool.true_and];have:=NR W R b l s 0 c (by omega);rw[Int.natCast_zero] at this;rw[this,IG];simp
 |true::l,s,r,c,a=>by
  rw[okW];have e:List.replicate r true++true::l=List.replicate (r+1) true++l:=by
   rw[List.replicate_succ'];simp
  rw[e]
  by_cases h1:s+1≤W
  ·by_cases d:(r:Int)+1≤R
   ·rw[dt h1,dt d,Bool.true_and,Bool.true_and,Dt,NR W R b l (s+1) (r+1) h1 (by omega)]
    congr 2
    rw[IG];simp;omega
   ·rw[df d,Bool.false_and,Bool.and_false];have:GU R (List.replicate (r+1) true++l)=false:=by
     rw[List.replicate_succ,List.cons_append,GU];have e:=Lw (r+1) l;rw[List.replicate_succ,List.cons_append] at e;rw[e,df (by omega)];rfl
    rw[this,Bool.and_false]
  ·rw[df h1,Bool.false_and];have:¬(s+(IG (true::l):Int)≤W):=by rw[IG];simp;omega
   rw[df this];rfl
theorem KY(n b i:Nat)(h:i<n):(wl n b).drop i=b.testBit i::(wl n b).drop (i+1):=by
 rw[List.drop_eq_getElem_cons (by rw[FG];exact h)]
 congr 1
 simp[wl]
theorem T8(K:Nat)(y:Ap)(b a:Nat)(h0:0≤y.Ak)(h9:y.Ak≤9)(d:0≤y.Aw)(f:y.Aw≤y.Ak+1)(i:a≤9):∀(k m e:Nat) (g:Bool),(a:Int)+y.Aw+1=e+k→k<m→
  Cu K y b (a:Int) m g (e:Int)=some (g&&decide (k≤lead ((wl (days y) b).drop e))):=by
 intro k
 induction k with
 |zero=>
  intro m e g h hm;cases m with
  |zero=>omega
  |succ m=>rw[Cu.eq_2,BD (by omega) (by omega),cf (df (by omega)),dt (Nat.zero_le _),Bool.and_true]
 |succ k ih=>
  intro m e g h hm;cases m with
  |zero=>omega
  |succ m=>
   rw[Cu.eq_2,BD (by omega) (by omega),ct (dt (by omega))];cases g with
   |false=>
    rw[cf rfl,BD (by omega) (by omega),Dt,ih m (e+1) false (by omega) (by omega)];rfl
   |true=>
    rw[ct rfl,Bool.true_and]
    by_cases c:(e:Int)≤y.Ak
    ·rw[ct (dt c),bd (L3 K b e (by omega)),BD (by omega) (by omega),Dt,ih m (e+1) _ (by omega) (by omega),KY (days y) b e (by unfold days;omega)];cases b.testBit e with
     |false=>
      rw[Bool.false_and,df (show¬(k+1≤lead (false::_)) by show¬(k+1≤0);omega)]
     |true=>
      rw[Bool.true_and]
      congr 1
      rw[Bool.eq_iff_iff,decide_eq_true_eq,decide_eq_true_eq];show _↔k+1≤lead _+1;omega
    ·rw[cf (df c),BD (by omega) (by omega),Dt,ih m (e+1) false (by omega) (by omega),show(wl (days y) b).drop e=[] from List.drop_eq_nil_of_le (by rw[FG];unfold days;omega)];rw[Bool.false_and,df (show¬(k+1≤lead []) by show¬(k+1≤0);omega)]
theorem Sy(K:Nat)(y:Ap)(b a:Nat)(h0:0≤y.Ak)(h9:y.Ak≤9)(d:0≤y.Aw)(f:y.Aw≤y.Ak+1)(i:a≤9):∀(k m e:Nat) (g:Bool),(a:Int)+y.Aw+1=e+k→k<m→
  Cs K y b (a:Int) m g (e:Int)=some (g&&decide (k≤lead ((wl (days y) b).drop e))):=by
 intro k
 induction k with
 |zero=>
  intro m e g h hm;cases m with
  |zero=>omega
  |succ m=>rw[Cs.eq_2,BD (by omega) (by omega),cf (df (by omega)),dt (Nat.zero_le _),Bool.and_true]
 |succ k ih=>
  intro m e g h hm;cases m with
  |zero=>omega
  |succ m=>
   rw[Cs.eq_2,BD (by omega) (by omega),ct (dt (by omega))];cases g with
   |false=>
    rw[cf rfl,BD (by omega) (by omega),Dt,ih m (e+1) false (by omega) (by omega)];rfl
   |true=>
    rw[ct rfl,Bool.true_and]
    by_cases c:(e:Int)≤y.Ak
    ·rw[ct (dt c),bd (L3 K b e (by omega)),BD (by omega) (by omega),Dt,ih m (e+1) _ (by omega) (by omega),KY (days y) b e (by unfold days;omega)];cases b.testBit e with
     |false=>
      rw[Bool.false_and,df (show¬(k+1≤lead (false::_)) by show¬(k+1≤0);omega)]
     |true=>
      rw[Bool.true_and]
      congr 1
      rw[Bool.eq_iff_iff,decide_eq_true_eq,decide_eq_true_eq];show _↔k+1≤lead _+1;omega
    ·rw[cf (df c),BD (by omega) (by omega),Dt,ih m (e+1) false (by omega) (by omega),show(wl (days y) b).drop e=[] from List.drop_eq_nil_of_le (by rw[FG];unfold days;omega)];rw[Bool.false_and,df (show¬(k+1≤lead []) by show¬(k+1≤0);omega)]
theorem PC{K:Nat}(y:Ap)(b:Nat)(h0:0≤y.Ak)(h9:y.Ak≤9)(c:0≤y.Aw)(f:y.Aw≤y.Ak+1)(hK:2000≤K):∀(k m i:Nat) (s:Int),days y=i+k→k<m→0≤s→s≤i→
  CG K y b m s (i:Int)=some (cond (GU y.Aw ((wl (days y) b).drop i)) (.inr (s+(IG ((wl (days y) b).drop i):Int))) (.inl false)):=by
 intro k
 induction k with
 |zero=>
  intro m i s h hm h1 j;cases m with
  |zero=>omega
  |succ m=>
   rw[CG.eq_2,cf (df (by unfold days at h;omega)),List.drop_eq_nil_of_le (by rw[FG];omega)];show _=some (Sum.inr (s+((0:Nat):Int)));rw[Int.natCast_zero,Int.add_zero]
 |succ k ih=>
  intro m i s h hm h1 j;cases m with
  |zero=>omega
  |succ m=>
   have o:days y≤10:=by unfold days;omega
   have hi:i<days y:=by omega
   have g:(i:Int)≤y.Ak:=by unfold days at hi;omega
   have d:=T8 K y b i h0 h9 c f (by omega) (y.Aw+1).toNat K i true (by omega) (by omega);have a:=Sy K y b i h0 h9 c f (by omega) (y.Aw+1).toNat K i true (by omega) (by omega);have l:decide ((y.Aw+1).toNat≤lead ((wl (days y) b).drop i))= !decide ((lead ((wl (days y) b).drop i):Int)≤y.Aw):=by
    rw[←decide_not];congr 1;rw[eq_iff_iff];omega
   rw[Bool.true_and,l] at d a;rw[CG.eq_2,ct (dt g),bd (L3 K b i (by omega))];have e:=KY (days y) b i hi;have n:GU y.Aw ((wl (days y) b).drop i)=(decide ((lead ((wl (days y) b).drop i):Int)≤y.Aw)&&GU y.Aw ((wl (days y) b).drop (i+1))):=by
    conv=>lhs;rw[e]
    rw[GU,←e]
   have ec:IG ((wl (days y) b).drop i)=(cond (b.testBit i) 1 0)+IG ((wl (days y) b).drop (i+1)):=by rw[e,IG]
   rw[n,ec];cases ht:b.testBit i with
   |true=>
    rw[ct rfl,BD (by omega) (by omega),bd d];cases decide ((lead ((wl (days y) b).drop i):Int)≤y.Aw) with
    |false=>rw[Bool.false_and];rfl
    |true=>
     rw[nt,BD (by omega) (by omega),Dt,ih m (i+1) (s+1) (by omega) (by omega) (by omega) (by omega),Bool.true_and]
     congr 2
     simp;omega
   |false=>
    rw[cf rfl,bd a];cases decide ((lead ((wl (days y) b).drop i):Int)≤y.Aw) with
    |false=>rw[Bool.false_and];rfl
    |true=>
     rw[nt,BD (by omega) (by omega),Dt,ih m (i+1) s (by omega) (by omega) (by omega) (by omega),Bool.true_and]
     congr 2
     simp
theorem Ot{K:Nat}(y:Ap)(b:Nat)(h0:0≤y.Ak)(h9:y.Ak≤9)(a:0≤y.Aw)(d:y.Aw≤y.Ak+1)(f:0≤y.Ao)(hK:2000≤K):Ep K y b=some (Hn y (wl (days y) b)):=by
 unfold Ep;have g:days y≤10:=by unfold days;omega
 have e:=PC (K:=K) y b h0 h9 a d hK (days y) K 0 0 (by omega) (by omega) (by omega) (by omega);rw[Int.natCast_zero,List.drop_zero] at e;rw[bd e];have c:=NR y.Ao y.Aw a (wl (days y) b) 0 0 f (by omega);rw[Int.natCast_zero] at c;unfold Hn;rw[c];show _=some (_&&GU y.Aw (wl (days y) b));cases GU y.Aw (wl (days y) b) with
 |true=>rw[Bool.and_true];rfl
 |false=>rw[Bool.and_false];rfl
def G9 (y:Ap) (k d:Nat):List Int:=((List.range' k d).filter fun b=>Hn y (wl (days y) b)).map fun b:Nat=>(b:Int)
theorem M0(y:Ap):(G9 y 0 (2^days y)).length=(Bp y).length:=by
 unfold G9 Bp;rw[List.length_map,List.range_eq_range',List.filter_map,List.length_map];rfl
theorem PD{K:Nat}(y:Ap)(h0:0≤y.Ak)(h9:y.Ak≤9)(d:0≤y.Aw)(f:y.Aw≤y.Ak+1)(g:0≤y.Ao)(hK:2000≤K):∀(k m i:Nat) (a:List Int),2^days y=i+k→k<m→a.length≤i→
  CM K y m a (i:Int)=some (a++G9 y i k):=by
 intro k;have j:days y≤10:=by unfold days;omega
 have n:=IE _ j;have b:y.Ak+1=(days y:Int):=by unfold days;omega
 have c:FQ (1:Int) (days y:Int)=((2^days y:Nat):Int):=by
  unfold FQ;rw[Int.one_mul,Int.toNat_natCast,Int.natCast_pow];rfl
 have e:JG (1:Int) (days y:Int)=some ():=by
  refine if_pos ⟨by omega,by omega,?_,?_⟩
  ·have:(0:Int)≤1*2^((days y:Nat):Int).toNat:=by rw[Int.one_mul];exact Int.le_of_lt (Int.pow_pos (by omega))
   exact Int.le_trans (by omega) this
  ·rw[Int.one_mul,Int.toNat_natCast];have:((2^days y:Nat):Int)≤1024:=by omega
   rw[Int.natCast_pow] at this;exact Int.le_trans this (by omega)
 induction k with
 |zero=>
  intro m i a h hm l;cases m with
  |zero=>omega
  |succ m=>
   rw[CM.eq_2,BD (by omega) (by omega),b,bd (NQ _ (by omega)),bd e,c,cf (df (by omega))];simp[G9]
 |succ k ih=>
  intro m i a h hm l;cases m with
  |zero=>omega
  |succ m=>
   rw[CM.eq_2,BD (by omega) (by omega),b,bd (NQ _ (by omega)),bd e,c,ct (dt (by omega)),bd (Ot y i h0 h9 d f g hK)];unfold G9;rw[List.range'_succ,List.filter_cons];cases Hn y (wl (days y) i) with
   |true=>
    rw[ct rfl,FR (by simp;omega),BD (by omega) (by omega),Dt,ih m (i+1) _ (by omega) (by omega) (by simp;omega)];simp[G9]
   |false=>
    rw[cf rfl,BD (by omega) (by omega),Dt,ih m (i+1) a (by omega) (by omega) (by omega)];simp[G9]
theorem L4{K:Nat}(y:Ap)(h0:0≤y.Ak)(h9:y.Ak≤9)(a:0≤y.Aw)(b:y.Aw≤y.Ak+1)(c:0≤y.Ao)(hK:2000≤K):D1 K y=some (G9 y 0 (2^days y)):=by
 unfold D1;have d:days y≤10:=by unfold days;omega
 have f:=IE _ d;have e:=PD (K:=K) y h0 h9 a b c hK (2^days y) K 0 [] (by omega) (by omega) (by simp);rw[Int.natCast_zero] at e;rw[bd e,List.nil_append]
theorem Ih{y:Ap}(h9:y.Ak≤9)(h:∀l∈y.Ad,Gk y l=true):∀l∈y.Ad,sized l∧0≤l.Ar∧l.AE≤9:=fun l a=>by
 have:=IZ.1 (h l a);exact⟨Ls h9 (h l a),this.1,by omega⟩
theorem Qt{K:Nat}(y:Ap)(h0:0≤y.Ak)(h9:y.Ak≤9)(a:0≤y.Aw)(b:y.Aw≤y.Ak+1)(c:0≤y.Ao)(d:y.Ad.length≤4)(f:∀l∈y.Ad,sized l∧0≤l.Ar∧l.AE≤9)(hK:2000≤K):
  Dr K y=some (I9 3000 ((Bp y).length:Int) y.Ad):=by
 unfold Dr;have g:days y≤10:=by unfold days;omega
 have hw:=KA y g;have e:=TZ y d f (K:=K) y.Ad.length K 0 ((Bp y).length:Int) (by omega) (by omega) (by omega) (by omega);rw[Int.natCast_zero,List.drop_zero] at e;rw[bd (L4 y h0 h9 a b c hK),M0,bd e]
theorem Sz(K:Nat)(y:Ap)(b:y.Ad.length≤4):∀(k m i:Nat),y.Ad.length=i+k→k<m→
  Dk K y m (i:Int)=some (cond ((y.Ad.drop i).all (Gk y)) (.inr ()) (.inl 1)):=by
 intro k
 induction k with
 |zero=>
  intro m i h hm;cases m with
  |zero=>omega
  |succ m=>rw[Dk.eq_2,cf (df (by omega)),List.drop_eq_nil_of_le (by omega)];rfl
 |succ k ih=>
  intro m i h hm;cases m with
  |zero=>omega
  |succ m=>
   have hi:i<y.Ad.length:=by omega
   rw[Dk.eq_2,ct (dt (by omega)),C2 hi,List.drop_eq_getElem_cons hi,List.all_cons];unfold Gk;generalize y.Ad[i]=l
   by_cases h1:l.Ar<0
   ·rw[ct (dt h1),df (show¬(0≤l.Ar) by omega)];rfl
   rw[cf (df h1),dt (show 0≤l.Ar by omega)]
   by_cases a:l.AE<l.Ar
   ·rw[ct (dt a),df (show¬(l.Ar≤l.AE) by omega)];rfl
   rw[cf (df a),dt (show l.Ar≤l.AE by omega)]
   by_cases h3:y.Ak<l.AE
   ·rw[ct (dt h3),df (show¬(l.AE≤y.Ak) by omega)];rfl
   rw[cf (df h3),dt (show l.AE≤y.Ak by omega),bd (Ky ..)];cases Fy l.AP 1 5 with
   |false=>rfl
   |true=>
    rw[nt,bd (Ky ..)];cases Fy l.Ce 1 5 with
    |false=>rfl
    |true=>
     rw[nt,bd (Ky ..)];cases Fy l.BZ 0 y.Ak with
     |false=>rfl
     |true=>rw[nt,BD (by omega) (by omega),Dt,ih m (i+1) (by omega) (by omega)];rfl
theorem OM{K:Nat}(hK:2000≤K)(y:Ap):Ex K y=some (check y):=by
 unfold Ex check
 by_cases h1:9<y.Ak
 ·rw[ct (dt h1),if_pos (.inl h1)]
 rw[cf (df h1)]
 by_cases g:2<y.Ai
 ·rw[ct (dt g),if_pos (.inr (.inl g))]
 rw[cf (df g)]
 by_cases h3:4<(y.Ad.length:Int)
 ·rw[ct (dt h3),if_pos (.inr (.inr h3))]
 rw[cf (df h3),if_neg (by omega)]
 by_cases a:y.Ak<0
 ·rw[ct (dt a),if_pos (.inl a)]
 rw[cf (df a)]
 by_cases b:y.Ai<1
 ·rw[ct (dt b),if_pos (.inr (.inl b))]
 rw[cf (df b),BD (by omega) (by omega),bd (Ky ..)];cases j:Fy y.Ao 0 (y.Ak+1) with
 |false=>rw[nf,if_pos (.inr (.inr (.inl rfl)))]
 |true=>
  rw[nt,BD (by omega) (by omega),bd (Ky ..)];cases k:Fy y.Aw 0 (y.Ak+1) with
  |false=>rw[nf,if_pos (.inr (.inr (.inr (.inl rfl))))]
  |true=>
   have e:=Sz K y (by omega) y.Ad.length K 0 (by omega) (by omega);rw[Int.natCast_zero,List.drop_zero] at e;rw[nt,bd e];cases m:y.Ad.all (Gk y) with
   |false=>rw[if_pos (.inr (.inr (.inr (.inr rfl))))];rfl
   |true=>
    have o:=EV.1 j;have p:=EV.1 k;have i:=Ih (y:=y) (by omega) (List.all_eq_true.1 m);rw[if_neg (by simp[a,b])];show(Dr K y).bind _=_;rw[bd (Qt y (by omega) (by omega) (by omega) (by omega) (by omega) (by omega) i hK)];have f:=Mi (c:=3000) (by omega) ((Bp y).length:Int) (by omega) fun l n=>(i l n).1;unfold Gl
    by_cases d:1000<((Bp y).length:Int)*E1 y.Ad
    ·rw[ct (dt (f.2 d)),if_pos d]
    ·rw[cf (df fun h=>d (f.1 h)),if_neg d]
end Go.Proofs.YtkljfdkmjdjpfaaGreat
end
section
namespace Go.Proofs.YtkljfdkmjdjpfaaGreat
def Ii(y:Ap):List Nat:=(List.range (2^days y)).filter fun b=>Hn y (wl (days y) b)
theorem Qu(y:Ap):G9 y 0 (2^days y)=(Ii y).map fun b:Nat=>(b:Int):=by
 unfold G9 Ii;rw[List.range_eq_range']
theorem KF(y:Ap):Bp y=(Ii y).map (wl (days y)):=by
 unfold Bp Ii;rw[List.filter_map];rfl
theorem KG(y:Ap):(Ii y).length=(Bp y).length:=by rw[KF,List.length_map]
def JU:List A3→Nat→List Int
 |[],_=>[]
 |l::r,n=>(l.Ar+((n%(B0 l).toNat:Nat):Int))::JU r (n/(B0 l).toNat)
def NS(y:Ap)(n:Nat):AX:=⟨JU y.Ad (n/(Bp y).length),(Bp y).getD (n%(Bp y).length) []⟩
theorem T9(K:Nat)(y:Ap)(w:y.Ad.length≤4)(c:∀l∈y.Ad,sized l∧0≤l.Ar∧l.AE≤9):∀(k m i:Nat) (q:Nat) (a:List Int),y.Ad.length=i+k→k<m→q≤100000→a.length≤i→
  DY K y m (q:Int) (i:Int) a=some (a++JU (y.Ad.drop i) q):=by
 intro k
 induction k with
 |zero=>
  intro m i q a h hm d e;cases m with
  |zero=>omega
  |succ m=>rw[DY.eq_2,cf (df (by omega)),List.drop_eq_nil_of_le (by omega)];simp[JU]
 |succ k ih=>
  intro m i q a h hm d e;cases m with
  |zero=>omega
  |succ m=>
   have hi:i<y.Ad.length:=by omega
   obtain⟨⟨s1,s2⟩,f,j⟩:=c y.Ad[i] (List.getElem_mem hi);have b:((B0 y.Ad[i]).toNat:Int)=B0 y.Ad[i]:=by omega
   have p:1≤(B0 y.Ad[i]).toNat:=by omega
   have g:=Qb K _ f (by unfold B0 at s1;omega) j;have n:(q:Int)%B0 y.Ad[i]=((q%(B0 y.Ad[i]).toNat:Nat):Int):=by rw[Int.natCast_emod,b]
   have o:(q:Int)/B0 y.Ad[i]=((q/(B0 y.Ad[i]).toNat:Nat):Int):=by rw[Int.natCast_ediv,b]
   have r:q%(B0 y.Ad[i]).toNat<(B0 y.Ad[i]).toNat:=Nat.mod_lt _ (by omega);have s:q/(B0 y.Ad[i]).toNat≤q:=Nat.div_le_self ..;have t:(0:Int)≤((q%(B0 y.Ad[i]).toNat:Nat):Int):=Int.natCast_nonneg _;have u:(0:Int)≤((q/(B0 y.Ad[i]).toNat:Nat):Int):=Int.natCast_nonneg _;have v:B0 y.Ad[i]=y.Ad[i].AE-y.Ad[i].Ar+1:=rfl;rw[DY.eq_2,ct (dt (by omega)),C2 hi,bd g,Kx (by omega) s1,n,BD (by omega) (by omega),FR (by simp;omega),bd g,Rl (by omega) s1,o,BD (by omega) (by omega),BD (by omega) (by omega),Dt];rw[ih m (i+1) _ _ (by omega) (by omega) (by omega) (by simp;omega),List.drop_eq_getElem_cons hi,JU];simp
theorem SA(K:Nat)(y:Ap)(b:Nat)(h0:0≤y.Ak)(h9:y.Ak≤9):∀(k m i:Nat) (a:List Bool),days y=i+k→k<m→a.length≤i→
  DO K y (b:Int) m (i:Int) a=some (a++(wl (days y) b).drop i):=by
 intro k
 induction k with
 |zero=>
  intro m i a h hm c;cases m with
  |zero=>omega
  |succ m=>rw[DO.eq_2,cf (df (by unfold days at h;omega)),List.drop_eq_nil_of_le (by rw[FG];omega)];simp
 |succ k ih=>
  intro m i a h hm c;cases m with
  |zero=>omega
  |succ m=>
   have hi:(i:Int)≤y.Ak:=by unfold days at h;omega
   have d:=KY (days y) b i (by omega);rw[DO.eq_2,ct (dt hi),bd (L3 K b i (by omega)),FR (by simp;omega),BD (by omega) (by omega),Dt,ih m (i+1) _ (by omega) (by omega) (by simp;omega),d];simp
theorem Vd{K:Nat}(y:Ap)(hy:Er y)(n:Nat)(d:(n:Int)<Gl y)(hK:2000≤K):FM K y (G9 y 0 (2^days y)) (n:Int)=some (NS y n):=by
 unfold FM;have h0:=hy.h0;have h9:=hy.h9;have g:=hy.n4;have hm:=hy.many;have i:=Ih h9 hy.Pz;have p:days y≤10:=by unfold days;omega
 have hlen:1≤(Bp y).length:=by
  rcases Nat.eq_zero_or_pos (Bp y).length with h|h
  ·unfold Gl at d;rw[h] at d;simp at d;omega
  ·exact h
 rw[Qu,List.length_map,KG];have j:(n:Int)%((Bp y).length:Int)=((n%(Bp y).length:Nat):Int):=by rw[Int.natCast_emod]
 have k:(n:Int)/((Bp y).length:Int)=((n/(Bp y).length:Nat):Int):=by rw[Int.natCast_ediv]
 have e:n%(Bp y).length<(Bp y).length:=Nat.mod_lt _ (by omega);have l:n/(Bp y).length≤n:=Nat.div_le_self ..;have m:(0:Int)≤((n%(Bp y).length:Nat):Int):=Int.natCast_nonneg _;have o:(0:Int)≤((n/(Bp y).length:Nat):Int):=Int.natCast_nonneg _;have a:n%(Bp y).length<(Ii y).length:=by rw[KG];exact e
 have hi:n%(Bp y).length<((Ii y).map fun b:Nat=>(b:Int)).length:=by rw[List.length_map];exact a
 have f:=T9 K y g i y.Ad.length K 0 (n/(Bp y).length) [] (by omega) (by omega) (by omega) (by simp);have c:=SA K y ((Ii y)[n%(Bp y).length]) h0 h9 (days y) K 0 [] (by omega) (by omega) (by simp);rw[Int.natCast_zero,List.drop_zero,List.nil_append] at f c;rw[Kx (by omega) (by omega),j,C2 hi,Rl (by omega) (by omega),k,BD (by omega) (by omega),bd f,List.getElem_map,bd c];unfold NS
 congr 2
 rw[List.getD_eq_getElem?_getD,List.getElem?_eq_getElem e];have:(Bp y)[n%(Bp y).length]'e=((Ii y).map (wl (days y)))[n%(Bp y).length]'(by rw[List.length_map];exact a):=by
  congr 1;exact KF y
 rw[this,List.getElem_map];rfl
def KH(y:Ap)(k d:Nat):List AX:=(List.range' k d).map (NS y)
theorem ON{K:Nat}(y:Ap)(hy:Er y)(hK:2000≤K):Dr K y=some (Gl y):=by
 have a:=Ih hy.h9 hy.Pz;rw[Qt y hy.h0 hy.h9 hy.u0 hy.u1 hy.w0 hy.n4 a hK];have:=hy.many;unfold Gl at this⊢;rw[OJ (by omega) _ (by omega) (fun l b=>(a l b).1) this]
def Ru(y:Ap):List AX:=KH y 0 (Gl y).toNat
theorem L5:∀{ls:List A3} (n:Nat),(∀l∈ls,sized l)→D0 ls (JU ls n)=true
 |[],_,_=>rfl
 |l::r,n,h=>by
  have h1:=h l (List.mem_cons_self ..);have a:n%(B0 l).toNat<(B0 l).toNat:=Nat.mod_lt _ (by have:=h1.1;omega);rw[JU,D0,L5 _ fun x b=>h x (List.mem_cons_of_mem _ b),Bool.and_true,EV];unfold B0 at a⊢;omega
theorem Qv:∀{ls:List A3} {c:List Int},(∀l∈ls,sized l)→D0 ls c=true→∃n:Nat,(n:Int)<E1 ls∧JU ls n=c
 |[],[],_,_=>⟨0,by simp[E1],rfl⟩
 |l::r,a::d,h,b=>by
  rw[D0,Bool.and_eq_true] at b;obtain⟨q,k,e⟩:=Qv (fun x g=>h x (List.mem_cons_of_mem _ g)) b.2;have h1:=h l (List.mem_cons_self ..);have m:=EV.1 b.1;have f:(a-l.Ar).toNat<(B0 l).toNat:=by unfold B0;omega
  have i:0<(B0 l).toNat:=by omega
  refine⟨(a-l.Ar).toNat+(B0 l).toNat*q,?_,?_⟩
  ·have j:B0 l*((q:Int)+1)≤B0 l*E1 r:=Int.mul_le_mul_of_nonneg_left (by omega) (by have:=h1.1;omega);rw[E1];rw[Int.mul_add,Int.mul_one] at j;have h3:(((a-l.Ar).toNat+(B0 l).toNat*q:Nat):Int)=((a-l.Ar).toNat:Int)+B0 l*(q:Int):=by
    rw[Int.natCast_add,Int.natCast_mul]
    congr 2;omega
   rw[h3];omega
  ·rw[JU,Nat.add_mul_mod_self_left,Nat.mod_eq_of_lt f,Nat.add_mul_div_left _ _ i,Nat.div_eq_of_lt f,Nat.zero_add,e]
   congr 1;omega
 |[],_::_,_,h=>by cases h
 |_::_,[],_,h=>by cases h
theorem Rv{y:Ap}(hy:Er y){t:AX}:t∈Ru y↔EE y t=true:=by
 have g:=Ih hy.h9 hy.Pz;have b:∀l∈y.Ad,sized l:=fun l i=>(g l i).1;rw[←FB hy.h0];unfold Ru KH;rw[List.mem_map];constructor
 ·rintro⟨n,a,rfl⟩;rw[←List.range_eq_range',List.mem_range] at a;have hlen:0<(Bp y).length:=by
   rcases Nat.eq_zero_or_pos (Bp y).length with h|h
   ·unfold Gl at a;rw[h] at a;simp at a
   ·exact h
  have f:n%(Bp y).length<(Bp y).length:=Nat.mod_lt _ hlen;unfold BT NS;rw[List.mem_flatMap];refine⟨(Bp y).getD (n%(Bp y).length) [],?_,List.mem_map.2 ⟨_,GS.2 (L5 _ b),rfl⟩⟩;rw[List.getD_eq_getElem?_getD,List.getElem?_eq_getElem f];exact List.getElem_mem f
 ·intro h;unfold BT at h;rw[List.mem_flatMap] at h;obtain⟨w,hw,ht⟩:=h;obtain⟨c,k,rfl⟩:=List.mem_map.1 ht;obtain⟨q,o,e⟩:=Qv b (GS.1 k);obtain⟨j,d,p⟩:=List.getElem_of_mem hw;have hlen:0<(Bp y).length:=by omega
  refine⟨j+(Bp y).length*q,?_,?_⟩
  ·rw[←List.range_eq_range',List.mem_range];have m:((Bp y).length:Int)*((q:Int)+1)≤((Bp y).length:Int)*E1 y.Ad:=Int.mul_le_mul_of_nonneg_left (by omega) (by omega);rw[Int.mul_add,Int.mul_one] at m;have h3:((j+(Bp y).length*q:Nat):Int)=(j:Int)+((Bp y).length:Int)*(q:Int):=by
    rw[Int.natCast_add,Int.natCast_mul]
   unfold Gl;omega
  ·unfold NS;rw[Nat.add_mul_mod_self_left,Nat.mod_eq_of_lt d,Nat.add_mul_div_left _ _ hlen,Nat.div_eq_of_lt d,Nat.zero_add,e,List.getD_eq_getElem?_getD,List.getElem?_eq_getElem d]
   congr 1
end Go.Proofs.YtkljfdkmjdjpfaaGreat
end
section
namespace Go.Proofs.YtkljfdkmjdjpfaaGreat
theorem Qw(n:Nat)(h:n<63):JG (1:Int) (n:Int)=some ():=by
 have h1:2^n≤2^62:=Nat.pow_le_pow_right (by omega) (by omega);have a:(1:Int)*2^((n:Nat):Int).toNat=((2^n:Nat):Int):=by rw[Int.one_mul,Int.toNat_natCast,Int.natCast_pow];rfl
 have h3:2^62=4611686018427387904:=rfl;rw[h3] at h1;refine if_pos ⟨by omega,by omega,?_,?_⟩
 ·rw[a];exact Int.le_trans (by decide) (Int.natCast_nonneg _)
 ·rw[a];exact Int.le_trans (Int.ofNat_le.2 h1) (by decide)
theorem OO(n:Nat):FQ (1:Int) (n:Int)=((2^n:Nat):Int):=by
 unfold FQ;rw[Int.one_mul,Int.toNat_natCast,Int.natCast_pow];rfl
theorem Ua(a b:Nat)(c:a≤9223372036854775807)(d:b≤9223372036854775807):Pn (a:Int) (b:Int)=some ():=if_pos ⟨⟨by omega,by omega⟩,by omega,by omega⟩
theorem Ub(a b:Nat):OA (a:Int) (b:Int)=((a|||b:Nat):Int):=rfl
theorem KI(n:Nat)(h:n≤62):2^n≤4611686018427387904:=by
 have h1:2^n≤2^62:=Nat.pow_le_pow_right (by omega) h;exact h1
end Go.Proofs.YtkljfdkmjdjpfaaGreat
end
section
namespace Go.Proofs.YtkljfdkmjdjpfaaGreat
def seen (n:Int):List Int→Nat→Option Nat
 |[],m=>some m
 |x::xs,m=>cond (Fy x 0 (n-1)) (cond (m.testBit x.toNat) none (seen n xs (m|||2^x.toNat))) none
theorem Lj(n:Int):∀(xs ys:List Int) (m:Nat),seen n (xs++ys) m=(seen n xs m).bind (seen n ys)
 |[],ys,m=>rfl
 |x::xs,ys,m=>by
  rw[List.cons_append,seen,seen];cases Fy x 0 (n-1) with
  |false=>rfl
  |true=>
   cases m.testBit x.toNat with
   |true=>rfl
   |false=>exact Lj n xs ys _
def Rw:Option Nat→Bool⊕Int
 |none=>.inl false
 |some m=>.inr (m:Int)
theorem Rx{m i n:Nat}(hm:m<2^n)(hi:i<n):m|||2^i<2^n:=Nat.or_lt_two_pow hm (Nat.pow_lt_pow_right (by omega) hi)
theorem Uc(K:Nat)(y:Ap)(o:List (List Int))(r:Nat)(a:r<o.length)(p:y.Ad.length≤4)(q:o[r].length≤1000):∀(k m i b:Nat),o[r].length=i+k→k<m→b<2^y.Ad.length→
  Dg K y o (r:Int) m (b:Int) (i:Int)=some (Rw (seen (y.Ad.length:Int) (o[r].drop i) b))∧∀b',seen (y.Ad.length:Int) (o[r].drop i) b=some b'→b'<2^y.Ad.length:=by
 have s:2^y.Ad.length≤4611686018427387904:=KI _ (by omega);intro k
 induction k with
 |zero=>
  intro m i b h hm c;cases m with
  |zero=>omega
  |succ m=>
   rw[Dg.eq_2,C2 a,cf (df (by omega)),List.drop_eq_nil_of_le (by omega)];exact⟨rfl,fun b' h=>by cases h;exact c⟩
 |succ k ih=>
  intro m i b h hm c;cases m with
  |zero=>omega
  |succ m=>
   have hi:i<o[r].length:=by omega
   rw[Dg.eq_2,C2 a,ct (dt (by omega)),C2 a,C2 hi,BD (by omega) (by omega),bd (Ky ..),List.drop_eq_getElem_cons hi];have d:seen (y.Ad.length:Int) (o[r][i]::o[r].drop (i+1)) b=cond (Fy o[r][i] 0 ((y.Ad.length:Int)-1)) (cond (b.testBit o[r][i].toNat) none (seen (y.Ad.length:Int) (o[r].drop (i+1)) (b|||2^o[r][i].toNat))) none:=rfl;rw[d];generalize t:o[r][i]=x;cases e:Fy x 0 ((y.Ad.length:Int)-1) with
   |false=>exact⟨rfl,fun b' h=>by cases h⟩
   |true=>
    have g:=EV.1 e;obtain⟨j,rfl⟩:∃j:Nat,x=(j:Int):=⟨x.toNat,by omega⟩;have f:j<y.Ad.length:=by omega
    rw[nt,bd (L3 K b j (by omega)),Int.toNat_natCast,ct rfl];cases l:b.testBit j with
    |true=>exact⟨rfl,fun b' h=>by cases h⟩
    |false=>
     have n:=KI j (by omega);rw[cf rfl,cf rfl,bd (NQ j (by omega)),bd (Qw j (by omega)),OO,bd (Ua _ _ (by omega) (by omega)),BD (by omega) (by omega),Dt,Ub];exact ih m (i+1) _ (by omega) (by omega) (Rx c f)
theorem Ud{K:Nat}(y:Ap)(o:List (List Int))(j:y.Ad.length≤4)(q:o.length≤1000)(n:∀l∈o,l.length≤1000)(hK:2000≤K):∀(k m i b:Nat),o.length=i+k→k<m→b<2^y.Ad.length→
  Dh K y o m (b:Int) (i:Int)=some (Rw (seen (y.Ad.length:Int) (o.drop i).flatten b))∧∀b',seen (y.Ad.length:Int) (o.drop i).flatten b=some b'→b'<2^y.Ad.length:=by
 intro k
 induction k with
 |zero=>
  intro m i b h hm d;cases m with
  |zero=>omega
  |succ m=>
   rw[Dh.eq_2,cf (df (by omega)),List.drop_eq_nil_of_le (by omega)];exact⟨rfl,fun b' h=>by cases h;exact d⟩
 |succ k ih=>
  intro m i b h hm d;cases m with
  |zero=>omega
  |succ m=>
   have hi:i<o.length:=by omega
   have e:=n o[i] (List.getElem_mem hi);obtain⟨f,g⟩:=Uc K y o i hi j e o[i].length K 0 b (by omega) (by omega) d;rw[Int.natCast_zero,List.drop_zero] at f;rw[List.drop_zero] at g;rw[Dh.eq_2,ct (dt (by omega)),bd f,List.drop_eq_getElem_cons hi,List.flatten_cons,Lj];cases p:seen (y.Ad.length:Int) o[i] b with
   |none=>exact⟨rfl,fun b' h=>by cases h⟩
   |some a=>
    have c:=ih m (i+1) a (by omega) (by omega) (g a p);refine⟨?_,c.2⟩;refine Eq.trans ?_ c.1;rw[show Rw (some a)=Sum.inr (a:Int) from rfl,Sum.elim_inr,BD (by omega) (by omega),Dt]
theorem KJ{n:Nat}:∀{xs:List Int} {m c:Nat},seen (n:Int) xs m=some c→(∀x∈xs,0≤x∧x<(n:Int)∧m.testBit x.toNat=false)∧xs.Nodup∧∀j:Nat,c.testBit j=(m.testBit j||decide ((j:Int)∈xs))
 |[],m,c,h=>by
  have d:m=c:=Option.some.inj h;subst d;refine⟨?_,List.nodup_nil,?_⟩
  ·intro x f;exact absurd f (List.not_mem_nil (a:=x))
  ·intro j;simp
 |x::xs,m,c,h=>by
  rw[seen] at h;cases g:Fy x 0 ((n:Int)-1) with
  |false=>rw[g] at h;cases h
  |true=>
   rw[g,ct rfl] at h;cases i:m.testBit x.toNat with
   |true=>rw[i] at h;cases h
   |false=>
    rw[i,cf rfl] at h;obtain⟨h1,d,h3⟩:=KJ h;have k:=EV.1 g;have key:∀z∈xs,m.testBit z.toNat=false∧z≠x:=fun z b=>by
     have:=(h1 z b).2.2;rw[Nat.testBit_or,Bool.or_eq_false_iff] at this;refine⟨this.1,fun e=>?_⟩;rw[e,Nat.testBit_two_pow_self] at this;cases this.2
    refine⟨fun z b=>?_,List.nodup_cons.2 ⟨fun f=>(key x f).2 rfl,d⟩,fun j=>?_⟩
    ·rcases List.mem_cons.1 b with rfl|b
     ·exact⟨by omega,by omega,i⟩
     ·exact⟨(h1 z b).1,(h1 z b).2.1,(key z b).1⟩
    ·rw[h3 j,Nat.testBit_or,Nat.testBit_two_pow,Bool.or_assoc]
     congr 1
     rw[Bool.eq_iff_iff,Bool.or_eq_true,decide_eq_true_eq,decide_eq_true_eq,decide_eq_true_eq,List.mem_cons];exact or_congr_left ⟨fun e=>by omega,fun e=>by omega⟩
theorem MT{n:Nat}:∀{xs:List Int} {m:Nat},(∀x∈xs,0≤x∧x<(n:Int)∧m.testBit x.toNat=false)→xs.Nodup→seen (n:Int) xs m≠none
 |[],m,_,_=>by rw[seen];simp
 |x::xs,m,h,a=>by
  obtain⟨h1,c,h3⟩:=h x (List.mem_cons_self ..);rw[seen,EV.2 ⟨h1,by omega⟩,h3,ct rfl,cf rfl];refine MT (fun z b=>?_) (List.nodup_cons.1 a).2;obtain⟨g1,g2,g3⟩:=h z (List.mem_cons_of_mem _ b);refine⟨g1,g2,?_⟩;rw[Nat.testBit_or,g3,Nat.testBit_two_pow,Bool.false_or,df];intro e;have:x=z:=by omega
  exact(List.nodup_cons.1 a).1 (this▸b)
theorem L6(n:Nat):(iota n).Nodup:=by
 unfold iota;refine List.Pairwise.map _ (fun a b h=>?_) (List.nodup_range (n:=n));intro e;exact h (by omega)
theorem Qx(n:Nat)(xs:List Int):(∃m,seen (n:Int) xs 0=some m∧m=2^n-1)↔xs.Perm (iota n):=by
 constructor
 ·rintro⟨m,h,hm⟩;obtain⟨h1,d,h3⟩:=KJ h;refine(List.perm_ext_iff_of_nodup d (L6 n)).2 fun x=>?_;rw[JO];constructor
  ·intro a;exact⟨(h1 x a).1,(h1 x a).2.1⟩
  ·intro a;have:=h3 x.toNat;rw[hm,Nat.testBit_two_pow_sub_one,dt (by omega),Nat.zero_testBit,Bool.false_or] at this;have e:=of_decide_eq_true this.symm
   rwa[show((x.toNat:Nat):Int)=x by omega] at e
 ·intro b;have f:∀x∈xs,0≤x∧x<(n:Int)∧(0:Nat).testBit x.toNat=false:=fun x a=>by
   have:=JO.1 (b.mem_iff.1 a);exact⟨this.1,this.2,Nat.zero_testBit _⟩
  have g:xs.Nodup:=b.symm.nodup (L6 n);cases c:seen (n:Int) xs 0 with
  |none=>exact absurd c (MT f g)
  |some m=>
   refine⟨m,rfl,?_⟩;obtain⟨_,_,h3⟩:=KJ c;apply Nat.eq_of_testBit_eq;intro j;rw[h3 j,Nat.testBit_two_pow_sub_one,Nat.zero_testBit,Bool.false_or]
   congr 1
   rw[eq_iff_iff,b.mem_iff,JO];omega
theorem Qy{K:Nat}(y:Ap)(o:List (List Int))(g:y.Ad.length≤4)(i:o.length≤1000)(j:∀l∈o,l.length≤1000)(hK:2000≤K):DP K y o=some (Da y o):=by
 unfold DP;have d:0<2^y.Ad.length:=Nat.pos_of_ne_zero (by simp);have k:=KI y.Ad.length (by omega);obtain⟨f,n⟩:=Ud (K:=K) y o g i j hK o.length K 0 0 (by omega) (by omega) d;rw[Int.natCast_zero,List.drop_zero] at f;have b:=Qx y.Ad.length o.flatten
 by_cases a:(o.length:Int)=y.Ai
 ·rw[cf (by rw[a];simp),bd f];cases c:seen (y.Ad.length:Int) o.flatten 0 with
  |none=>
   show some false=_
   congr 1
   symm
   rw[←Bool.not_eq_true,EW];rintro⟨_,h⟩;obtain⟨m,h,_⟩:=b.2 h;rw[c] at h;cases h
  |some m=>
   show(J4 .u64 (y.Ad.length:Int)).bind _=_;rw[bd (NQ _ (by omega)),bd (Qw _ (by omega)),OO,BD (by omega) (by omega)]
   congr 1
   rw[Bool.eq_iff_iff,EW,beq_iff_eq,←b];constructor
   ·intro h;exact⟨a,m,c,by omega⟩
   ·rintro⟨_,p,h,e⟩;rw[c] at h;cases h;omega
 ·rw[ct (by simpa using a)]
  congr 1
  symm
  rw[←Bool.not_eq_true,EW];exact fun h=>a h.1
end Go.Proofs.YtkljfdkmjdjpfaaGreat
end
section
namespace Go.Proofs.YtkljfdkmjdjpfaaGreat
theorem SC(x:List Int)(a:Nat):CL x (0:Int) (a:Int)=x.take a:=by unfold CL;simp
theorem SD(x:List Int)(a:Nat):CL x (a:Int) (x.length:Int)=x.drop a:=by unfold CL;simp
theorem Ue{β:Type}{n:Nat}{a b:Int}{f:Unit→Option β}(h0:0≤a)(h1:a≤b)(c:b≤n):(NA n a b).bind f=f ():=bd (if_pos ⟨h0,h1,c⟩)
theorem SE{o:List (List Int)}{r:Nat}(a:r<o.length):o.getD r []=o[r]:=by rw[List.getD_eq_getElem?_getD,List.getElem?_eq_getElem a];rfl
end Go.Proofs.YtkljfdkmjdjpfaaGreat
end
section
namespace Go.Proofs.YtkljfdkmjdjpfaaGreat
theorem KK{W R W' R':Int}(a:W≤W')(b:R≤R'):∀(l:List Bool) (s r:Int),okW W R l s r=true→okW W' R' l s r=true
 |[],_,_,_=>rfl
 |false::l,s,r,h=>KK a b l s 0 h
 |true::l,s,r,h=>by
  rw[okW,Bool.and_eq_true,Bool.and_eq_true,decide_eq_true_eq,decide_eq_true_eq] at h⊢;exact⟨by omega,by omega,KK a b l _ _ h.2.2⟩
theorem IH{y:Ap}{t:AX}:EE y t=true↔(t.Ao.length:Int)=y.Ak+1∧Hn y t.Ao=true∧D0 y.Ad t.Comes=true:=by
 unfold EE;rw[Bool.and_eq_true,Bool.and_eq_true,decide_eq_true_eq]
end Go.Proofs.YtkljfdkmjdjpfaaGreat
end
section
namespace Go.Proofs.YtkljfdkmjdjpfaaGreat
structure Alike (y x:Ap):Prop where
 last:x.Ak=y.Ak
 len:x.Ad.length=y.Ad.length
 Fh:∀i:Nat,(Fx x i).AP=(Fx y i).AP
 V2:∀i:Nat,(Fx x i).Ce=(Fx y i).Ce
theorem JV{l b:A3}(h1:b.AP=l.AP)(a:b.Ce=l.Ce)(d0:Int):∀(ws:List Bool) (d Fh r:Int),G8 b d0 ws d Fh r=G8 l d0 ws d Fh r
 |[],_,_,_=>rfl
 |true::ws,d,Fh,r=>by rw[G8,G8,h1,a,JV h1 a d0 ws]
 |false::ws,d,Fh,r=>by rw[G8,G8,h1,a,JV h1 a d0 ws]
theorem Ou{y x:Ap}(h:x.Ak=y.Ak){l a:A3}(h1:a.AP=l.AP)(b:a.Ce=l.Ce)(w:List Bool)(d:Int):Fb x w a d=Fb y w l d:=by
 unfold Fb;rw[h,JV h1 b]
theorem Alike.at{y x:Ap}(h:Alike y x)(w:List Bool)(i d:Int):Fb x w (Gm x i) d=Fb y w (Gm y i) d:=Ou h.last (h.Fh i.toNat) (h.V2 i.toNat) w d
theorem Lk{y x:Ap}(h:Alike y x)(w:List Bool)(c:List Int):∀(l:List Int) (f:Int) (out:List As),HI x w c l f out=HI y w c l f out
 |[],_,_=>rfl
 |i::r,f,out=>by
  rw[HI,HI];show HI x w c r (cond ((Fb x w (Gm x i) (max f (F4 c i))).Bh==-1) (x.Ak+1) _) _=_;rw[h.at,h.last,Lk h w c r]
theorem Ll{y x:Ap}(h:Alike y x)(w:List Bool)(c:List Int):∀(o:List (List Int)) (out:List As),HJ x w c o out=HJ y w c o out
 |[],_=>rfl
 |l::o,out=>by rw[HJ,HJ,Lk h,Ll h w c o]
theorem Lm{y x:Ap}(h:Alike y x)(o:List (List Int))(t:AX):B1 x o t=B1 y o t:=by
 unfold B1 GR;rw[h.len,Ll h]
theorem MU{p b:A3→As→Bool}:∀(ls a:List A3) (ss:List As),ls.length=a.length→(∀i s,i<ls.length→p (ls.getD i Ho) s=true→b (a.getD i Ho) s=true)→FT p ls ss≤FT b a ss
 |[],[],ss,_,_=>Nat.le_refl _
 |[],_::_,_,h,_=>by cases h
 |_::_,[],_,h,_=>by cases h
 |l::ls,c::a,[],_,_=>by simp[FT]
 |l::ls,c::a,s::ss,d,h=>by
  have h1:=MU ls a ss (by simpa using d) fun i s hi=>h (i+1) s (by simpa using hi);have e:p l s=true→b c s=true:=h 0 s (by simp);rw[FT,FT];cases f:p l s with
  |false=>simp only[cond_false];omega
  |true=>rw[e f];simp only[cond_true];omega
theorem PE {l b:A3} (h:l.BZ≤b.BZ) {s:As} (a:Eg l s=true):Eg b s=true:=by
 unfold Eg at a⊢;rw[Bool.and_eq_true,decide_eq_true_eq] at a⊢;exact⟨a.1,by omega⟩
theorem Qz{y x:Ap}(a:x.Ad.length=y.Ad.length)(b:∀i:Nat,(Fx x i).BZ≤(Fx y i).BZ)(ss:List As):Dd y ss≤Dd x ss:=by
 unfold Dd;refine MU _ _ ss a.symm fun i s _ h=>?_;unfold B8 at h⊢;cases c:Eg (x.Ad.getD i Ho) s with
 |false=>rfl
 |true=>
  have:=PE (b i) c;unfold Fx at this;rw[this] at h;cases h
theorem SF{y x:Ap}(hy:Er y)(a:Er x){o o':List (List Int)}(h:∀t,EE y t=true→EE x t=true∧Dd y (B1 y o t)≤Dd x (B1 x o' t)):(C9 y o).1≤(C9 x o').1:=by
 obtain⟨_,b,h3⟩:=Hd hy o;obtain⟨c,_,_⟩:=Hd a o';obtain⟨d,e⟩:=h _ b;have:=c _ d;omega
theorem SG{y x:Ap}(a:x.Ad.length=y.Ad.length){o o':List (List Int)}(h:∀i:Nat,i<y.Ad.length→(∀t∈BT x,F5 x o' i t=true)→∀t∈BT y,F5 y o i t=true):Gn x o'≤Gn y o:=by
 unfold Gn;rw[a];refine List.countP_mono_left fun i hi=>?_;rw[List.mem_range] at hi;rw[List.all_eq_true,List.all_eq_true];exact h i hi
theorem Ry{y x:Ap}(hy:Er y)(a:Er x)(h:∀o,Da x o=true→∃o',Da y o'=true∧Gn x o≤Gn y o'):(E2 x).1≤(E2 y).1:=by
 obtain⟨h1,_,_⟩:=Ig hy;obtain⟨_,b,h3⟩:=Ig a;obtain⟨o',c,hle⟩:=h _ b;have:=h1 o' c;omega
theorem PF{y x:Ap}(a:x.Ai=y.Ai)(b:x.Ad.length=y.Ad.length)(o:List (List Int)):Da x o=Da y o:=by unfold Da;rw[a,b]
structure KZ(y x:Ap):Prop extends Alike y x where
 K0:x.Ai=y.Ai
 due:∀i:Nat,(Fx x i).BZ=(Fx y i).BZ
 comes:∀i:Nat,(Fx x i).Ar≤(Fx y i).Ar∧(Fx y i).AE≤(Fx x i).AE
 Dc:y.Ao≤x.Ao
 run:y.Aw≤x.Aw
theorem HL:∀{ls a:List A3} {cs:List Int},a.length=ls.length→(∀i:Nat,(a.getD i Ho).Ar≤(ls.getD i Ho).Ar∧(ls.getD i Ho).AE≤(a.getD i Ho).AE)→D0 ls cs=true→D0 a cs=true
 |[],[],cs,_,_,h=>h
 |[],_::_,_,h,_,_=>by cases h
 |_::_,[],_,h,_,_=>by cases h
 |l::ls,b::a,[],_,_,h=>by cases h
 |l::ls,b::a,c::cs,d,hw,h=>by
  rw[D0,Bool.and_eq_true] at h⊢;have h1:=EV.1 h.1;have e:b.Ar≤l.Ar∧l.AE≤b.AE:=hw 0;exact⟨EV.2 (by omega),HL (by simpa using d) (fun i=>hw (i+1)) h.2⟩
theorem KZ.PG{y x:Ap}(h:KZ y x){t:AX}(ht:EE y t=true):EE x t=true:=by
 obtain⟨h1,a,h3⟩:=IH.1 ht;exact IH.2 ⟨by rw[h.last];exact h1,KK h.Dc h.run _ _ _ a,HL h.len h.comes h3⟩
theorem QA{l a:A3}(h:a.BZ=l.BZ)(s:As):Eg a s=Eg l s:=by unfold Eg;rw[h]
theorem KZ.sv{y x:Ap}(h:KZ y x)(o:List (List Int))(i:Nat)(t:AX):F5 x o i t=F5 y o i t:=by
 unfold F5 JP;rw[Lm h.toAlike,QA (h.due i)]
theorem KZ.sure{y x:Ap}(h:KZ y x)(hy:Er y)(a:Er x):(E2 x).1≤(E2 y).1:=
 Ry hy a fun o b=>⟨o,by rw[←PF h.K0 h.len];exact b,SG h.len fun i _ c t ht=>by
  rw[←h.sv];exact c t ((FB a.h0).2 (h.PG ((FB hy.h0).1 ht)))⟩
structure M9(y z:Ap):Prop extends Alike y z where
 K0:z.Ai=y.Ai
 due:∀i:Nat,(Fx y i).BZ≤(Fx z i).BZ
 comes:∀i:Nat,(Fx z i).Ar=(Fx y i).Ar∧(Fx y i).AE=(Fx z i).AE
 Dc:y.Ao=z.Ao
 run:y.Aw=z.Aw
theorem M9.PG{y z:Ap}(h:M9 y z){t:AX}:EE z t=true↔EE y t=true:=by
 rw[IH,IH,h.last];unfold Hn;rw[h.Dc,h.run];refine and_congr_right fun _=>and_congr_right fun _=>⟨fun a=>HL h.len.symm (fun i=>?_) a,fun a=>HL h.len (fun i=>?_) a⟩
 ·have:=h.comes i;unfold Fx at this;omega
 ·have:=h.comes i;unfold Fx at this;omega
theorem M9.Wk{y z:Ap}(h:M9 y z)(hy:Er y)(a:Er z)(o:List (List Int)):(C9 z o).1≤(C9 y o).1:=
 SF a hy fun t ht=>⟨h.PG.1 ht,by rw[Lm h.toAlike];exact Qz h.len.symm h.due _⟩
end Go.Proofs.YtkljfdkmjdjpfaaGreat
end
section
namespace Go.Proofs.YtkljfdkmjdjpfaaGreat
theorem L7(p:A3→As→Bool):∀(ls:List A3) (ss:List As),ss.length=ls.length→FT p ls ss=(List.range ls.length).countP fun i=>p (ls.getD i Ho) (ss.getD i HW)
 |[],[],_=>rfl
 |[],_::_,h=>by cases h
 |_::_,[],h=>by cases h
 |l::ls,s::ss,h=>by
  rw[FT,L7 p ls ss (by simpa using h),List.length_cons,List.range_succ_eq_map,List.countP_cons,List.countP_map];show(cond (p l s) 1 0)+_=_+if p l s=true then 1 else 0
  have:(List.range ls.length).countP ((fun i=>p ((l::ls).getD i Ho) ((s::ss).getD i HW))∘Nat.succ)=(List.range ls.length).countP fun i=>p (ls.getD i Ho) (ss.getD i HW):=rfl;rw[this];cases p l s<;>simp<;>omega
theorem Ov(y:Ap)(o:List (List Int))(t:AX):Dd y (B1 y o t)=(List.range y.Ad.length).countP fun i=> !F5 y o i t:=by
 unfold Dd;rw[L7 B8 y.Ad (B1 y o t) (GK ..)];rfl
theorem Ln{α:Type}(p q:α→Bool):∀(l:List α),(∀x∈l,p x=true→q x=false)→l.countP p+l.countP q≤l.length
 |[],_=>by simp
 |x::l,h=>by
  have h1:=Ln p q l fun z a=>h z (List.mem_cons_of_mem _ a);have b:=h x (List.mem_cons_self ..);rw[List.countP_cons,List.countP_cons,List.length_cons];cases c:p x with
  |false=>cases q x<;>simp<;>omega
  |true=>rw[b c];simp;omega
theorem MV{y:Ap}(hy:Er y)(o:List (List Int)){t:AX}(ht:EE y t=true):Dd y (B1 y o t)+Gn y o≤y.Ad.length:=by
 rw[Ov];unfold Gn;have:=Ln (fun i=> !F5 y o i t) (fun i=>(BT y).all (F5 y o i)) (List.range y.Ad.length) fun i _ hi=>by
  cases b:(BT y).all (F5 y o i) with
  |false=>rfl
  |true=>
   rw[List.all_eq_true] at b;have:=b t ((FB hy.h0).2 ht);have a:(!F5 y o i t)=true:=hi;rw[this] at a;cases a
 rwa[List.length_range] at this
theorem QB {y:Ap} (hy:Er y):(F7 y).1+(E2 y).1≤y.Ad.length:=by
 obtain⟨h1,_,_⟩:=JT hy;obtain⟨_,a,h3⟩:=Ig hy;obtain⟨_,b,c⟩:=Hd hy (E2 y).2.2;have d:=h1 _ a;have e:=MV hy (E2 y).2.2 b;omega
theorem PH(y:Ap)(o:List (List Int))(i:Nat):(verdict y o i=1↔∀t∈BT y,F5 y o i t=true)∧(verdict y o i=2→∀t∈BT y,F5 y o i t=false)∧1≤verdict y o i∧verdict y o i≤3:=by
 unfold verdict;rw[←List.all_eq_true];cases h1:(BT y).all (F5 y o i) with
 |true=>simp
 |false=>
  cases a:(BT y).all fun t=> !F5 y o i t with
  |false=>simp
  |true=>
   rw[List.all_eq_true] at a;refine⟨by simp,fun _ t ht=>?_,by simp,by simp⟩;have:=a t ht;simpa using this
end Go.Proofs.YtkljfdkmjdjpfaaGreat
end
section
namespace Go.Proofs.YtkljfdkmjdjpfaaGreat
theorem Vq{x:Int}(h0:-9223372036854775808≤x)(h1:x≤9223372036854775807):J4 .i64 x=some ():=by
 unfold J4;have:IntKind.i64.wrap x=x:=Hh ⟨by omega,by omega⟩;rw[if_pos this]
theorem SH(K:Nat)(y:Ap)(h:y.Ad.length≤6):∀(k m i:Nat) (a:List A3),y.Ad.length=i+k→k<m→a=y.Ad.take i→
  DM K y m (i:Int) a=some y.Ad:=by
 intro k
 induction k with
 |zero=>
  intro m i a hi hm b;cases m with
  |zero=>omega
  |succ m=>rw[DM.eq_2,cf (df (by omega)),b,List.take_of_length_le (by omega)]
 |succ k ih=>
  intro m i a hi hm b;cases m with
  |zero=>omega
  |succ m=>
   have c:i<y.Ad.length:=by omega
   have d:a.length≤6:=by rw[b,List.length_take];omega
   rw[DM.eq_2,ct (dt (by omega)),C2 c,bd (show GP K (⟨y.Ad[i].Ar,y.Ad[i].AE⟩:CE)=some (⟨y.Ad[i].Ar,y.Ad[i].AE⟩:CE) from rfl),FR (by simp only[List.length_cons,List.length_nil];omega),BD (by omega) (by omega),Dt];refine ih m (i+1) _ (by omega) (by omega) ?_;rw[b,List.take_add_one,List.getElem?_eq_getElem c];rfl
theorem SI{K:Nat}(hK:2000≤K)(y:Ap)(h:y.Ad.length≤6):CU K y=some y:=by
 unfold CU;have:=SH K y h y.Ad.length K 0 [] (by omega) (by omega) (by simp);rw[Int.natCast_zero] at this;rw[bd this]
theorem RA(o:List (List Int))(h:o.length≤1000)(d:∀l∈o,l.length≤1000):∀(k m i:Nat) (a:List (List Int)),o.length=i+k→k<m→a=o.take i→
  Dz o m a (i:Int)=some o:=by
 intro k
 induction k with
 |zero=>
  intro m i a hi hm c;cases m with
  |zero=>omega
  |succ m=>rw[Dz.eq_2,cf (df (by omega)),c,List.take_of_length_le (by omega)]
 |succ k ih=>
  intro m i a hi hm c;cases m with
  |zero=>omega
  |succ m=>
   have b:i<o.length:=by omega
   have e:a.length≤1000:=by rw[c,List.length_take];omega
   have:=d _ (List.getElem_mem b);rw[Dz.eq_2,ct (dt (by omega)),C2 b,FR (by simp only[List.length_nil];omega),FR (by simp only[List.length_cons,List.length_nil];omega),BD (by omega) (by omega),Dt];refine ih m (i+1) _ (by omega) (by omega) ?_;rw[c,List.take_add_one,List.getElem?_eq_getElem b];rfl
theorem RB{K:Nat}(hK:2000≤K)(o:List (List Int))(h:o.length≤1000)(a:∀l∈o,l.length≤1000):Dj K o=some o:=by
 unfold Dj;have:=RA o h a o.length K 0 [] (by omega) (by omega) (by simp);rw[Int.natCast_zero] at this;rw[bd this]
theorem RC(K:Nat)(t:AX)(h1:t.Comes.length≤1000)(a:t.Ao.length≤1000):DG K t=some t:=by
 unfold DG;rw[FR (by simp only[List.length_nil];omega),FR (by simp only[List.length_nil];omega)];rfl
theorem SJ(a:List Int)(h:a.length≤1000):∀(k m i:Nat),a.length=i+k→k<m→DL a a m (i:Int)=some (.inr ()):=by
 intro k
 induction k with
 |zero=>
  intro m i hi hm;cases m with
  |zero=>omega
  |succ m=>rw[DL.eq_2,cf (df (by omega))]
 |succ k ih=>
  intro m i hi hm;cases m with
  |zero=>omega
  |succ m=>
   have b:i<a.length:=by omega
   rw[DL.eq_2,ct (dt (by omega)),C2 b,C2 b,cf (by simp),BD (by omega) (by omega),Dt];exact ih m (i+1) (by omega) (by omega)
theorem SK{K:Nat}(hK:2000≤K)(a:List Int)(h:a.length≤1000):FC K a a=some true:=by
 unfold FC;have:=SJ a h a.length K 0 (by omega) (by omega);rw[Int.natCast_zero] at this;rw[cf (by simp),bd this];rfl
theorem RD{K:Nat}(hK:2000≤K)(y:Ap):Fk K y=some (check y):=by
 unfold Fk;rw[bd (OM hK y)]
def L8 (y:Ap):Bool:=cond (decide ((y.Ad.length:Int)≤6)) (cond (check y !=0) true (decide (Gl y≤60))) false
theorem SL{K:Nat}(hK:2000≤K)(y:Ap):FD K y=some (L8 y):=by
 unfold FD L8;cases b:decide ((y.Ad.length:Int)≤6) with
 |false=>rfl
 |true=>
  rw[ct rfl,ct rfl,bd (OM hK y)];cases a:(check y !=0) with
  |true=>rfl
  |false=>
   have h0:check y=0:=by simpa[bne] using a
   rw[cf rfl,cf rfl,bd (ON y (FH h0) hK)]
def KL(y:Ap):Bool:=cond (L8 y) (check y==0) false
theorem RE{K:Nat}(hK:2000≤K)(y:Ap):Fm K y=some (KL y):=by
 unfold Fm KL;rw[bd (SL hK y)];cases L8 y with
 |false=>rfl
 |true=>rw[ct rfl,ct rfl,bd (RD hK y)]
theorem RF{y:Ap}(h:KL y=true):check y=0∧y.Ad.length≤4:=by
 unfold KL at h;cases a:L8 y with
 |false=>rw[a] at h;cases h
 |true=>
  rw[a] at h;have h0:check y=0:=by simpa using h
  exact⟨h0,(FH h0).n4⟩
def W8(ws:List Int):Prop:=∀w∈ws,0≤w∧w≤255
theorem SM(K:Nat)(ws:List Int)(h:W8 ws)(at_:Int)(h0:0≤at_):∃v:Int,FE K ws at_=some v∧0≤v∧v≤255:=by
 unfold FE
 by_cases b:ws.length=0
 ·rw[ct (by rw[b];rfl)];exact⟨0,rfl,by omega,by omega⟩
 ·rw[cf (by rw[beq_eq_false_iff_ne];omega),Kx h0 (by omega)];have h1:=Int.emod_nonneg at_ (show(ws.length:Int)≠0 by omega);have d:=Int.emod_lt_of_pos at_ (show(0:Int)<(ws.length:Int) by omega);obtain⟨k,c⟩:=Int.eq_ofNat_of_zero_le h1;have a:k<ws.length:=by omega
  rw[c,C2 a];have:=h _ (List.getElem_mem a);rw[bd (Vq (by omega) (by omega))];exact⟨_,rfl,this⟩
theorem RG{K:Nat}(y:Ap)(hy:Er y)(ws:List Int)(h:W8 ws):∀(k m i:Nat) (o:List (List Int)),y.Ad.length=i+k→k<m→(o.length:Int)=y.Ai→o.flatten.Perm (iota i)→
  ∃d,DA K y ws m (i:Int) o=some d∧(d.length:Int)=y.Ai∧d.flatten.Perm (iota y.Ad.length):=by
 have t:=hy.n4;have g:=hy.r1;have s:=hy.r2;intro k
 induction k with
 |zero=>
  intro m i o hi hm f c;cases m with
  |zero=>omega
  |succ m=>
   rw[DA.eq_2,cf (df (by omega))];exact⟨o,rfl,f,by rw[show y.Ad.length=i by omega];exact c⟩
 |succ k ih=>
  intro m i o hi hm f c;cases m with
  |zero=>omega
  |succ m=>
   obtain⟨v,ev,v0,v1⟩:=SM K ws h (i:Int) (by omega);rw[DA.eq_2,ct (dt (by omega)),bd ev,Kx v0 g,Rl v0 (by omega),BD (by omega) (by omega)];have h1:=Int.emod_nonneg v (show y.Ai≠0 by omega);have u:=Int.emod_lt_of_pos v (show 0<y.Ai by omega);obtain⟨r,p⟩:=Int.eq_ofNat_of_zero_le h1;have b:r<o.length:=by omega
   rw[p];have hlen:o[r].length≤4:=by
    have j:=c.length_eq;rw[G1] at j;have:=(List.sublist_flatten_of_mem (List.getElem_mem b)).length_le;omega
   have h3:=Int.emod_nonneg (v/4) (show((o[r].length:Int)+1)≠0 by omega);have j:=Int.emod_lt_of_pos (v/4) (show 0<(o[r].length:Int)+1 by omega);obtain⟨a,q⟩:=Int.eq_ofNat_of_zero_le h3;rw[C2 b,BD (by omega) (by omega),Kx (by omega) (by omega),C2 b,q,Ue (by omega) (by omega) (by omega)];have l:CL o[r] (0:Int) (a:Int)=o[r].take a:=SC _ _;have n:CL o[r] (a:Int) (o[r].length:Int)=o[r].drop a:=SD _ _;rw[l,FR (by simp only[List.length_nil,List.length_take];omega),FR (by simp only[List.length_append,List.length_cons,List.length_nil,List.length_take];omega),C2 b,Ue (by omega) (by omega) (by omega),n,FR (by simp only[List.length_append,List.length_cons,List.length_nil,List.length_take,List.length_drop];omega),C2 b,BD (by omega) (by omega),Dt,Int.toNat_natCast];have e:(([]:List Int)++o[r].take a++[(i:Int)])++o[r].drop a=CP (o.getD r []) (a:Int) (i:Int):=by
    unfold CP;rw[SE b,Int.toNat_natCast];simp
   rw[e];refine ih m (i+1) _ (by omega) (by omega) (by rw[List.length_set];exact f) ?_;refine(Hq (i:Int) o r (a:Int) b).trans ?_;rw[I0];exact(List.Perm.cons _ c).trans (List.perm_append_singleton _ _).symm
theorem RH{K:Nat}(hK:2000≤K)(y:Ap)(hy:Er y)(ws:List Int)(h:W8 ws):∃o,Fo K y ws=some o∧Da y o=true:=by
 have f:=hy.n4;have d:=hy.r1;have e:=hy.r2;unfold Fo;obtain⟨o,a,b,c⟩:=RG (K:=K) y hy ws h y.Ad.length K 0 (List.replicate y.Ai.toNat []) (by omega) (by omega) (by rw[List.length_replicate];omega) (by
  have:∀n:Nat,(List.replicate n ([]:List Int)).flatten=[]:=fun n=>by
   induction n with
   |zero=>rfl
   |succ n ih=>rw[List.replicate_succ,List.flatten_cons,ih];rfl
  rw[this];exact List.Perm.refl _)
 rw[Int.natCast_zero] at a;rw[OH (by omega) (by omega) (by omega),bd a];exact⟨o,rfl,EW.2 ⟨b,c⟩⟩
theorem QC{y:Ap}(hy:Er y):1≤Gl y:=by
 rw[←Jl y hy];have:=List.length_pos_iff.2 (LZ hy);omega
theorem SN{K:Nat}(hK:2000≤K)(y:Ap)(hy:Er y)(n:Int)(h0:0≤n)(h1:n≤65535):∃t,FF K y n=some t∧EE y t=true:=by
 unfold FF;have hm:=QC hy;rw[bd (L4 y hy.h0 hy.h9 hy.u0 hy.u1 hy.w0 hK),bd (Vq (by omega) (by omega)),bd (ON y hy hK),Kx h0 hm];have h3:=Int.emod_nonneg n (show Gl y≠0 by omega);have b:=Int.emod_lt_of_pos n (show 0<Gl y by omega);obtain⟨k,a⟩:=Int.eq_ofNat_of_zero_le h3;rw[a,bd (Vd y hy k (by omega) hK)];refine⟨_,rfl,(Rv hy).1 ?_⟩;unfold Ru KH;exact List.mem_map.2 ⟨k,by rw[List.mem_range'_1];omega,rfl⟩
theorem SO(y:Ap)(ss:List As)(f:y.Ad.length≤4)(g:ss.length=y.Ad.length):∀(k m i:Nat) (a:Int),ss.length=i+k→k<m→0≤a→a≤i→
  CX y ss m a (i:Int)=some (a+(FT B8 (y.Ad.drop i) (ss.drop i):Nat)):=by
 intro k
 induction k with
 |zero=>
  intro m i a h hm h0 h1;cases m with
  |zero=>omega
  |succ m=>
   rw[CX.eq_2,cf (df (by omega)),List.drop_eq_nil_of_le («as»:=y.Ad) (by omega),FT]
   ·simp
   ·intro _ _ _ _ h;cases h
 |succ k ih=>
  intro m i a h hm h0 h1;cases m with
  |zero=>omega
  |succ m=>
   have hi:i<ss.length:=by omega
   have d:i<y.Ad.length:=by omega
   rw[CX.eq_2,ct (dt (by omega)),ct (dt (by omega)),C2 hi,List.drop_eq_getElem_cons hi,List.drop_eq_getElem_cons d,FT];cases e:ss[i].AP with
   |false=>
    have c:B8 y.Ad[i] ss[i]=true:=by unfold B8 Eg;rw[e];rfl
    rw[nf,BD (by omega) (by omega),BD (by omega) (by omega),Dt,ih m (i+1) (a+1) (by omega) (by omega) (by omega) (by omega),c]
    congr 1
    show a+1+_=a+((1+FT B8 _ _:Nat):Int);omega
   |true=>
    rw[nt,C2 hi,C2 d]
    by_cases c:y.Ad[i].BZ<ss[i].Bh
    ·have b:B8 y.Ad[i] ss[i]=true:=by unfold B8 Eg;rw[e,df (by omega)];rfl
     rw[ct (dt c),BD (by omega) (by omega),BD (by omega) (by omega),Dt,ih m (i+1) (a+1) (by omega) (by omega) (by omega) (by omega),b]
     congr 1
     show a+1+_=a+((1+FT B8 _ _:Nat):Int);omega
    ·have b:B8 y.Ad[i] ss[i]=false:=by unfold B8 Eg;rw[e,dt (by omega)];rfl
     rw[cf (df c),BD (by omega) (by omega),Dt,ih m (i+1) a (by omega) (by omega) (by omega) (by omega),b]
     congr 1
     show a+_=a+((0+FT B8 _ _:Nat):Int);omega
theorem OP{K:Nat}(hK:2000≤K)(y:Ap)(ss:List As)(b:y.Ad.length≤4)(a:ss.length=y.Ad.length):EU K y ss=some ((Dd y ss:Int),true):=by
 unfold EU;have:=SO y ss b a ss.length K 0 0 (by omega) (by omega) (by omega) (by omega);rw[Int.natCast_zero,List.drop_zero,List.drop_zero] at this;rw[bd this];simp[Dd,a]
end Go.Proofs.YtkljfdkmjdjpfaaGreat
end
section
namespace Go.Proofs.YtkljfdkmjdjpfaaGreat
section
variable{K:Nat}(hK:2000≤K){y:Ap}(h:check y=0)
theorem II{o:List (List Int)}(h:check y=0)(a:Da y o=true):o.length≤1000∧(∀l∈o,l.length≤1000)∧o.flatten.length≤1000:=KE (FH h) a
include hK h
theorem L9{o:List (List Int)}(a:Da y o=true){t:AX}(ht:EE y t=true):E4 K y o t=some (B1 y o t,0):=by
 obtain⟨h1,_,h3⟩:=II h a;rw[Qk y o t hK h1 h3,if_neg (by simp[h]),if_neg (by simp[a,ht])]
theorem Mo{o:List (List Int)}(a:Da y o=true){i:Nat}(hi:i<y.Ad.length):EC K y o (i:Int)=some (verdict y o i,0):=by
 obtain⟨h1,_,h3⟩:=II h a;have b:Fy (i:Int) 0 ((y.Ad.length:Int)-1)=true:=EV.2 (by omega);rw[Sw y o i hK h1 h3,if_neg (by simp[h]),if_neg (by simp[a,b]),Int.toNat_natCast]
theorem Uf{o:List (List Int)}(a:Da y o=true):Gt K y o=some ((C9 y o).1,(C9 y o).2,0):=by
 obtain⟨h1,_,h3⟩:=II h a;rw[Qm y o hK h1 h3,if_neg (by simp[h]),if_neg (by simp[a])]
theorem QD:Gu K y=some ((F7 y).2,(F7 y).1,0):=by rw[T5 y hK,if_neg (by simp[h])]
theorem QE:Gv K y=some ((E2 y).2.2,(E2 y).1,0):=by rw[T6 y hK,if_neg (by simp[h])]
theorem PI:FJ K y=some (Gq y 0 y.Ad.length,0):=by rw[PB y hK,if_neg (by simp[h])]
theorem NT{o:List (List Int)}(a:Da y o=true)(n:Int):Fe K y o n=some (decide ((C9 y o).1≤n)):=by
 obtain⟨h1,_,h3⟩:=II h a;rw[NH y o n hK h1 h3,dt h,a];rfl
theorem Ow{o:List (List Int)}(a:Da y o=true){t:AX}(ht:EE y t=true)(n:Int):Fw K y o t n=some (decide (n≤(Dd y (B1 y o t):Int))):=by
 obtain⟨h1,_,h3⟩:=II h a;rw[Oq y o t n hK h1 h3,dt h,a,ht];rfl
end
def y1:Ap:=⟨5,1,1,1,[⟨0,0,2,2,2⟩,⟨1,1,2,1,5⟩]⟩
def t3:AX:=⟨[0,1],[false,false,false,true,false,false]⟩
theorem HY:check y1=0:=by decide+kernel
theorem R9:Da y1 [[0,1]]=true:=EW.2 ⟨rfl,by decide⟩
theorem PJ:Da y1 [[1,0]]=true:=EW.2 ⟨rfl,by decide⟩
theorem Ve:EE y1 t3=true:=by decide+kernel
theorem Vf:B1 y1 [[0,1]] t3=[⟨0,1,true⟩,⟨2,3,false⟩]:=by
 have h:∀(a b:List As),a.map (fun s=>(s.On,s.Bh,s.AP))=b.map (fun s=>(s.On,s.Bh,s.AP))→a=b:=by
  intro a
  induction a with
  |nil=>intro b h;cases b with|nil=>rfl|cons x l=>cases h
  |cons x l ih=>
   intro b h;cases b with
   |nil=>cases h
   |cons x2 c=>
    have h1:=List.cons.inj h;obtain⟨a1,a2,a3⟩:=x;obtain⟨d,e,f⟩:=x2;have g:a1=d∧a2=e∧a3=f:=by simpa using h1.1
    obtain⟨rfl,rfl,rfl⟩:=g;rw[ih c h1.2]
 exact h _ _ (by decide+kernel)
theorem PK{K:Nat}(hK:2000≤K):EB K=some true:=by
 unfold EB;have a:CH K 1=some y1:=rfl;have b:Gy K 3=some t3:=rfl;have c:EC K y1 [[0,1]] 1=some (verdict y1 [[0,1]] 1,0):=Mo hK HY R9 (i:=1) (by decide);have d:EC K y1 [[1,0]] 0=some (verdict y1 [[1,0]] 0,0):=Mo hK HY PJ (i:=0) (by decide);have hy:=FH HY;obtain⟨_,e,h⟩:=Hd hy [[1,0]];obtain⟨_,f,j⟩:=JT hy;have v1:verdict y1 [[0,1]] 1=3:=by decide+kernel
 have v2:verdict y1 [[1,0]] 0=2:=by decide+kernel
 have v3:(C9 y1 [[1,0]]).1=2:=by decide+kernel
 have v4:(F7 y1).1=1:=by decide+kernel
 have v5:(E2 y1).1=1:=by decide+kernel
 have v6:Gq y1 0 y1.Ad.length=[1]:=by decide+kernel
 rw[bd a,bd b,bd (L9 hK HY R9 Ve),bd a,bd c,bd a,bd d,bd a,bd (Uf hK HY PJ),bd a,bd (QD hK HY),bd a,bd (QE hK HY),bd a,bd (PI hK HY),Vf];rw[ct (by rfl)];have s1:ER K 0 1 true=some ⟨0,1,true⟩:=rfl;have s2:ER K 2 3 false=some ⟨2,3,false⟩:=rfl;have g:Gz K [⟨0,1,true⟩,⟨2,3,false⟩] ⟨0,1,true⟩ ⟨2,3,false⟩=some true:=rfl;rw[bd s1,bd s2,bd g,ct (by rfl),ct (by rfl),v1,ct (by rfl),ct (by rfl),v2,ct (by rfl),ct (by rfl),v3,ct (by rfl),bd a,bd (Ow hK HY PJ e 2),ct (dt (by omega)),ct (by rfl),v4,ct (by rfl),bd a,bd (NT hK HY f 1),ct (dt (by omega)),ct (by rfl),v5,ct (by rfl),ct (by rfl),v6,bd (SK hK [1] (by decide))]
end Go.Proofs.YtkljfdkmjdjpfaaGreat
end
section
namespace Go.Proofs.YtkljfdkmjdjpfaaGreat
namespace HF
theorem mixed:Tryz.prog.follows .mixedOrders=true:=by kernel_rfl
theorem JW(b:Nat)(w:World):(Instr.fieldAt 154 (.pointer (some ⟨b,0,none⟩)) 1).run Tryz.prog w=.ok (.pointer (some ⟨b,1,none⟩)) w:=by kernel_rfl
theorem AZ:One Tryz.prog 3:=by unfold One;exact⟨by kernel_rfl,by kernel_rfl⟩
theorem JX(b:Nat)(w:World):(Instr.fieldAt 154 (.pointer (some ⟨b,0,none⟩)) 0).run Tryz.prog w=.ok (.pointer (some ⟨b,0,none⟩)) w:=by kernel_rfl
theorem Jm:Bl Tryz.prog 90:=by unfold Bl;kernel_rfl
theorem JY(b:Nat)(w:World):(Instr.fieldAt 116 (.pointer (some ⟨b,0,none⟩)) 1).run Tryz.prog w=.ok (.pointer (some ⟨b,1,none⟩)) w:=by kernel_rfl
theorem IJ(b:Nat)(w:World):(Instr.fieldAt 116 (.pointer (some ⟨b,0,none⟩)) 0).run Tryz.prog w=.ok (.pointer (some ⟨b,0,none⟩)) w:=by kernel_rfl
theorem PL:(Tryz.prog.underlying 3).isSome=true:=by kernel_rfl
theorem Hr:(Tryz.prog.info? 115).bind (·.zero)=some (.agg #[I 0,I 0,.bool false]):=by kernel_rfl
theorem DQ:(Tryz.prog.info? 115).map (·.size)=some 3:=by kernel_rfl
theorem D2:DC Tryz.prog 115 3:=by unfold DC;exact⟨by kernel_rfl,by kernel_rfl⟩
theorem C7(b:Nat)(w:World):(Instr.fieldAt 75 (.pointer (some ⟨b,0,none⟩)) 4).run Tryz.prog w=.ok (.pointer (some ⟨b,4,none⟩)) w:=by kernel_rfl
theorem Ds:One Tryz.prog 73:=by unfold One;exact⟨by kernel_rfl,by kernel_rfl⟩
theorem RI(b:Nat)(w:World):(Instr.fieldAt 115 (.pointer (some ⟨b,0,none⟩)) 2).run Tryz.prog w=.ok (.pointer (some ⟨b,2,none⟩)) w:=by kernel_rfl
theorem HZ:One Tryz.prog 4:=by unfold One;exact⟨by kernel_rfl,by kernel_rfl⟩
theorem Ly(b:Nat)(w:World):(Instr.fieldAt 115 (.pointer (some ⟨b,0,none⟩)) 1).run Tryz.prog w=.ok (.pointer (some ⟨b,1,none⟩)) w:=by kernel_rfl
theorem NU(b:Nat)(w:World):(Instr.fieldAt 156 (.pointer (some ⟨b,0,none⟩)) 3).run Tryz.prog w=.ok (.pointer (some ⟨b,4,none⟩)) w:=by kernel_rfl
theorem Hw:DC Tryz.prog 156 5:=by unfold DC;exact⟨by kernel_rfl,by kernel_rfl⟩
theorem NV:Bl Tryz.prog 97:=by unfold Bl;kernel_rfl
theorem Gf(b:Nat)(w:World):(Instr.fieldAt 63 (.pointer (some ⟨b,0,none⟩)) 0).run Tryz.prog w=.ok (.pointer (some ⟨b,0,none⟩)) w:=by kernel_rfl
theorem KM:Bl Tryz.prog 54:=by unfold Bl;kernel_rfl
theorem K1(b:Nat)(w:World):(Instr.fieldAt 63 (.pointer (some ⟨b,0,none⟩)) 3).run Tryz.prog w=.ok (.pointer (some ⟨b,3,none⟩)) w:=by kernel_rfl
theorem Mp(b:Nat)(w:World):(Instr.fieldAt 63 (.pointer (some ⟨b,0,none⟩)) 2).run Tryz.prog w=.ok (.pointer (some ⟨b,2,none⟩)) w:=by kernel_rfl
theorem D9:DC Tryz.prog 63 5:=by unfold DC;exact⟨by kernel_rfl,by kernel_rfl⟩
theorem Ug:Bl Tryz.prog 95:=by unfold Bl;kernel_rfl
theorem GX:(Tryz.prog.info? 3).map (fun i=>(i.zero,i.size,i.bytes))=some (some (I 0),1,8):=by kernel_rfl
theorem OQ:Bl Tryz.prog 100:=by unfold Bl;kernel_rfl
theorem Eb(b:Nat)(w:World):(Instr.fieldAt 63 (.pointer (some ⟨b,0,none⟩)) 4).run Tryz.prog w=.ok (.pointer (some ⟨b,4,none⟩)) w:=by kernel_rfl
theorem EX:One Tryz.prog 61:=by unfold One;exact⟨by kernel_rfl,by kernel_rfl⟩
theorem H3:(Tryz.prog.info? 118).map (·.size)=some 5:=by kernel_rfl
theorem NW(b o:Nat)(w:World):(Instr.fieldAt 118 (.pointer (some ⟨b,o,none⟩)) 0).run Tryz.prog w=.ok (.pointer (some ⟨b,o,none⟩)) w:=by kernel_rfl
theorem Jn:DC Tryz.prog 116 2:=by unfold DC;exact⟨by kernel_rfl,by kernel_rfl⟩
theorem Mq:Bl Tryz.prog 136:=by unfold Bl;kernel_rfl
theorem Il(b:Nat)(w:World):(Instr.fieldAt 63 (.pointer (some ⟨b,0,none⟩)) 1).run Tryz.prog w=.ok (.pointer (some ⟨b,1,none⟩)) w:=by kernel_rfl
theorem H4:Bl Tryz.prog 46:=by unfold Bl;kernel_rfl
theorem OR:DC Tryz.prog 118 5:=by unfold DC;exact⟨by kernel_rfl,by kernel_rfl⟩
theorem NX:(Tryz.prog.info? 118).bind (·.zero)=some (.agg #[I 0,I 0,I 0,I 0,I 0]):=by kernel_rfl
theorem IK(b:Nat)(w:World):(Instr.fieldAt 118 (.pointer (some ⟨b,0,none⟩)) 0).run Tryz.prog w=.ok (.pointer (some ⟨b,0,none⟩)) w:=by kernel_rfl
theorem NY(b:Nat)(w:World):(Instr.fieldAt 118 (.pointer (some ⟨b,0,none⟩)) 1).run Tryz.prog w=.ok (.pointer (some ⟨b,2,none⟩)) w:=by kernel_rfl
theorem NZ(b:Nat)(w:World):(Instr.fieldAt 118 (.pointer (some ⟨b,0,none⟩)) 2).run Tryz.prog w=.ok (.pointer (some ⟨b,3,none⟩)) w:=by kernel_rfl
theorem N0(b:Nat)(w:World):(Instr.fieldAt 118 (.pointer (some ⟨b,0,none⟩)) 3).run Tryz.prog w=.ok (.pointer (some ⟨b,4,none⟩)) w:=by kernel_rfl
theorem N1:Bl Tryz.prog 81:=by unfold Bl;kernel_rfl
theorem JZ(b:Nat)(w:World):(Instr.fieldAt 156 (.pointer (some ⟨b,0,none⟩)) 0).run Tryz.prog w=.ok (.pointer (some ⟨b,0,none⟩)) w:=by kernel_rfl
theorem K2:DC Tryz.prog 154 2:=by unfold DC;exact⟨by kernel_rfl,by kernel_rfl⟩
theorem Hy(b:Nat)(w:World):(Instr.fieldAt 75 (.pointer (some ⟨b,0,none⟩)) 0).run Tryz.prog w=.ok (.pointer (some ⟨b,0,none⟩)) w:=by kernel_rfl
theorem SP:Bl Tryz.prog 140:=by unfold Bl;kernel_rfl
theorem Hs(b:Nat)(w:World):(Instr.fieldAt 156 (.pointer (some ⟨b,0,none⟩)) 1).run Tryz.prog w=.ok (.pointer (some ⟨b,2,none⟩)) w:=by kernel_rfl
theorem OS:Bl Tryz.prog 141:=by unfold Bl;kernel_rfl
theorem LA(b:Nat)(w:World):(Instr.fieldAt 156 (.pointer (some ⟨b,0,none⟩)) 2).run Tryz.prog w=.ok (.pointer (some ⟨b,3,none⟩)) w:=by kernel_rfl
theorem DB:(Tryz.prog.info? 3).map (·.size)=some 1:=by kernel_rfl
theorem Mr:(Tryz.prog.info? 75).bind (·.zero)=some (.agg #[I 0,I 0,I 0,I 0,.slice none 0 0]):=by kernel_rfl
theorem PN:(Tryz.prog.info? 75).map (·.size)=some 5:=by kernel_rfl
theorem CR:DC Tryz.prog 75 5:=by unfold DC;exact⟨by kernel_rfl,by kernel_rfl⟩
theorem G2:(Tryz.prog.info? 78).bind (·.zero)=some (.agg #[.slice none 0 0,.slice none 0 0]):=by kernel_rfl
theorem KN:(Tryz.prog.info? 4).map (fun i=>(i.zero,i.size,i.bytes))=some (some (.bool false),1,1):=by kernel_rfl
theorem G6:(Tryz.prog.info? 78).map (·.size)=some 2:=by kernel_rfl
theorem Hz(b:Nat)(w:World):(Instr.fieldAt 78 (.pointer (some ⟨b,0,none⟩)) 1).run Tryz.prog w=.ok (.pointer (some ⟨b,1,none⟩)) w:=by kernel_rfl
theorem GM:One Tryz.prog 65:=by unfold One;exact⟨by kernel_rfl,by kernel_rfl⟩
theorem KO:(Tryz.prog.info? 4).map (·.size)=some 1:=by kernel_rfl
theorem F6:DC Tryz.prog 78 2:=by unfold DC;exact⟨by kernel_rfl,by kernel_rfl⟩
theorem Ms:Tryz.prog.eqGuardType Tryz.prog.depth 115=false:=by kernel_rfl
theorem LB:Rg Tryz.prog 115 [true,true,false]:=Oo Tryz.underlying115 (by kernel_rfl) (by kernel_rfl) AZ Tryz.underlying3 HZ Tryz.underlying4
theorem RJ:(Tryz.prog.info? 154).bind (·.zero)=some (.agg #[I 0,I 0]):=by kernel_rfl
theorem Uh:(Tryz.prog.info? 154).map (·.size)=some 2:=by kernel_rfl
theorem Ui:Bl Tryz.prog 88:=by unfold Bl;kernel_rfl
theorem RK:(Tryz.prog.info? 156).map (fun i=>(i.zero,i.size,i.bytes))=some (some (.agg #[I 0,I 0,I 0,I 0,I 0]),5,40):=by kernel_rfl
theorem Vg:(Tryz.prog.info? 73).map (·.size)=some 1:=by kernel_rfl
theorem QF:Bl Tryz.prog 80:=by unfold Bl;kernel_rfl
theorem SQ:One Tryz.prog 168:=by unfold One;exact⟨by kernel_rfl,by kernel_rfl⟩
theorem Ha:(Tryz.prog.info? 156).map (·.size)=some 5:=by kernel_rfl
theorem SR:Bl Tryz.prog 175:=by unfold Bl;kernel_rfl
theorem SS:Bl Tryz.prog 143:=by unfold Bl;kernel_rfl
theorem SU:Bl Tryz.prog 142:=by unfold Bl;kernel_rfl
theorem SV:One Tryz.prog 237:=by unfold One;exact⟨by kernel_rfl,by kernel_rfl⟩
theorem SW:Bl Tryz.prog 210:=by unfold Bl;kernel_rfl
theorem SX:Bl Tryz.prog 198:=by unfold Bl;kernel_rfl
theorem SY:Bl Tryz.prog 197:=by unfold Bl;kernel_rfl
theorem OT(b:Nat)(w:World):(Instr.fieldAt 75 (.pointer (some ⟨b,0,none⟩)) 2).run Tryz.prog w=.ok (.pointer (some ⟨b,2,none⟩)) w:=by kernel_rfl
theorem OU(b:Nat)(w:World):(Instr.fieldAt 75 (.pointer (some ⟨b,0,none⟩)) 3).run Tryz.prog w=.ok (.pointer (some ⟨b,3,none⟩)) w:=by kernel_rfl
theorem IL:(Tryz.prog.info? 3).bind (·.zero)=some (I 0):=by kernel_rfl
theorem SZ:Bl Tryz.prog 173:=by unfold Bl;kernel_rfl
theorem S0:Bl Tryz.prog 172:=by unfold Bl;kernel_rfl
theorem S1:Bl Tryz.prog 145:=by unfold Bl;kernel_rfl
theorem OV:Bl Tryz.prog 138:=by unfold Bl;kernel_rfl
theorem Jo(b:Nat)(w:World):(Instr.fieldAt 75 (.pointer (some ⟨b,0,none⟩)) 1).run Tryz.prog w=.ok (.pointer (some ⟨b,1,none⟩)) w:=by kernel_rfl
theorem Uj:Bl Tryz.prog 89:=by unfold Bl;kernel_rfl
theorem Uk:Bl Tryz.prog 91:=by unfold Bl;kernel_rfl
theorem QG:Bl Tryz.prog 92:=by unfold Bl;kernel_rfl
theorem OW:Bl Tryz.prog 144:=by unfold Bl;kernel_rfl
theorem LC:(Tryz.prog.info? 156).bind (·.zero)=some (.agg #[I 0,I 0,I 0,I 0,I 0]):=by kernel_rfl
theorem QH:Bl Tryz.prog 94:=by unfold Bl;kernel_rfl
theorem Ul:Bl Tryz.prog 93:=by unfold Bl;kernel_rfl
theorem Ei:One Tryz.prog 23:=by unfold One;exact⟨by kernel_rfl,by kernel_rfl⟩
theorem S2:One Tryz.prog 161:=by unfold One;exact⟨by kernel_rfl,by kernel_rfl⟩
theorem N2(b o:Nat)(w:World):(Instr.fieldAt 156 (.pointer (some ⟨b,o,none⟩)) 0).run Tryz.prog w=.ok (.pointer (some ⟨b,o,none⟩)) w:=by kernel_rfl
theorem RL(b o:Nat)(w:World):(Instr.fieldAt 154 (.pointer (some ⟨b,o,none⟩)) 0).run Tryz.prog w=.ok (.pointer (some ⟨b,o,none⟩)) w:=by kernel_rfl
theorem K3:One Tryz.prog 176:=by unfold One;exact⟨by kernel_rfl,by kernel_rfl⟩
theorem OX:Bl Tryz.prog 200:=by unfold Bl;kernel_rfl
theorem S3:(Tryz.prog.info? 23).bind (·.zero)=some (.slice none 0 0):=by kernel_rfl
theorem EK:(Tryz.prog.info? 23).map (·.size)=some 1:=by kernel_rfl
theorem S4:(Tryz.prog.info? 65).bind (·.zero)=some (.slice none 0 0):=by kernel_rfl
theorem Sa:(Tryz.prog.info? 65).map (·.size)=some 1:=by kernel_rfl
theorem N3:(Tryz.prog.info? 176).bind (·.zero)=some (.nilFunc):=by kernel_rfl
theorem QI:(Tryz.prog.info? 176).map (·.size)=some 1:=by kernel_rfl
theorem S5(w:World):(Op.equal 23 (.slice none 0 0) (.slice none 0 0)).run Tryz.prog w=.ok true w:=by kernel_rfl
theorem S6(ad:Addr)(n c:Nat)(w:World):(Op.equal 23 (.slice (some ad) n c) (.slice none 0 0)).run Tryz.prog w=.ok false w:=by kernel_rfl
theorem Mt:Bl Tryz.prog 149:=by unfold Bl;kernel_rfl
theorem S7(w:World):(Op.equal 65 (.slice none 0 0) (.slice none 0 0)).run Tryz.prog w=.ok true w:=by kernel_rfl
theorem S8(ad:Addr)(n c:Nat)(w:World):(Op.equal 65 (.slice (some ad) n c) (.slice none 0 0)).run Tryz.prog w=.ok false w:=by kernel_rfl
theorem Mu:Bl Tryz.prog 150:=by unfold Bl;kernel_rfl
theorem Jp:(Tryz.prog.info? 23).map (fun i=>(i.zero,i.size,i.bytes))=some (some (.slice none 0 0),1,24):=by kernel_rfl
theorem S9(w:World):(Op.equal 64 (.slice none 0 0) (.slice none 0 0)).run Tryz.prog w=.ok true w:=by kernel_rfl
theorem Ta(ad:Addr)(n c:Nat)(w:World):(Op.equal 64 (.slice (some ad) n c) (.slice none 0 0)).run Tryz.prog w=.ok false w:=by kernel_rfl
theorem Tb:Bl Tryz.prog 153:=by unfold Bl;kernel_rfl
theorem Vh:∀(b c:Bool) (w:World),(Op.equal 4 (.bool b) (.bool c)).run Tryz.prog w=.ok (b==c) w:=by intro b c w;cases b<;>cases c<;>kernel_rfl
theorem HS(b:Nat)(w:World):(Instr.fieldAt 78 (.pointer (some ⟨b,0,none⟩)) 0).run Tryz.prog w=.ok (.pointer (some ⟨b,0,none⟩)) w:=by kernel_rfl
theorem OY:Ld Tryz.prog 220 2:=Pj 2 Tryz.underlying220 (by kernel_rfl) rfl rfl AZ Tryz.underlying3
theorem N4:Nl Tryz.prog 220 2:=Oh 2 Tryz.underlying220 rfl rfl AZ Tryz.underlying3
theorem MW:JC Tryz.prog 220:=by unfold JC;kernel_rfl
theorem Um:(Tryz.prog.info? 115).bind (·.zero)=some (.agg #[I 0,I 0,.bool false]):=by kernel_rfl
theorem Ht(b:Nat)(w:World):(Instr.fieldAt 220 (.pointer (some ⟨b,0,none⟩)) 1).run Tryz.prog w=.ok (.pointer (some ⟨b,1,none⟩)) w:=by kernel_rfl
theorem IM(b o:Nat)(w:World):(Instr.fieldAt 165 (.pointer (some ⟨b,o,none⟩)) 0).run Tryz.prog w=.ok (.pointer (some ⟨b,o,none⟩)) w:=by kernel_rfl
theorem Mw(b o:Nat)(w:World):(Instr.fieldAt 75 (.pointer (some ⟨b,o,none⟩)) 0).run Tryz.prog w=.ok (.pointer (some ⟨b,o,none⟩)) w:=by kernel_rfl
theorem OZ(b o:Nat)(w:World):(Instr.fieldAt 75 (.pointer (some ⟨b,o,none⟩)) 4).run Tryz.prog w=.ok (.pointer (some ⟨b,o+4,none⟩)) w:=by kernel_rfl
theorem RM(b:Nat)(w:World):(Instr.fieldAt 220 (.pointer (some ⟨b,0,none⟩)) 0).run Tryz.prog w=.ok (.pointer (some ⟨b,0,none⟩)) w:=by kernel_rfl
theorem N5(b o:Nat)(w:World):(Instr.fieldAt 165 (.pointer (some ⟨b,o,none⟩)) 1).run Tryz.prog w=.ok (.pointer (some ⟨b,o+5,none⟩)) w:=by kernel_rfl
theorem N6(b o:Nat)(w:World):(Instr.fieldAt 165 (.pointer (some ⟨b,o,none⟩)) 2).run Tryz.prog w=.ok (.pointer (some ⟨b,o+6,none⟩)) w:=by kernel_rfl
theorem O0:One Tryz.prog 163:=by unfold One;exact⟨by kernel_rfl,by kernel_rfl⟩
theorem Mx:DC Tryz.prog 220 2:=by unfold DC;exact⟨by kernel_rfl,by kernel_rfl⟩
theorem Tc:Bl Tryz.prog 174:=by unfold Bl;kernel_rfl
theorem RN:(Tryz.prog.info? 115).map (fun i=>(i.zero,i.size,i.bytes))=some (some (.agg #[I 0,I 0,.bool false]),3,24):=by kernel_rfl
theorem Td:Bl Tryz.prog 139:=by unfold Bl;kernel_rfl
theorem Te:Bl Tryz.prog 137:=by unfold Bl;kernel_rfl
theorem Jq:Bl Tryz.prog 35:=by unfold Bl;kernel_rfl
theorem N7:Bl Tryz.prog 85:=by unfold Bl;kernel_rfl
theorem Un:Bl Tryz.prog 86:=by unfold Bl;kernel_rfl
theorem Ma:Bl Tryz.prog 87:=by unfold Bl;kernel_rfl
theorem N8:(Tryz.prog.info? 183).bind (·.zero)=some (.agg #[.nilFunc]):=by kernel_rfl
theorem QJ:(Tryz.prog.info? 183).map (·.size)=some 1:=by kernel_rfl
theorem N9(b:Nat)(w:World):(Instr.fieldAt 183 (.pointer (some ⟨b,0,none⟩)) 0).run Tryz.prog w=.ok (.pointer (some ⟨b,0,none⟩)) w:=by kernel_rfl
theorem O1:One Tryz.prog 180:=by unfold One;exact⟨by kernel_rfl,by kernel_rfl⟩
theorem O2:Bl Tryz.prog 107:=by unfold Bl;kernel_rfl
theorem O3:Bl Tryz.prog 103:=by unfold Bl;kernel_rfl
theorem RO:(Tryz.prog.info? 162).bind (·.zero)=some (.pointer none):=by kernel_rfl
theorem Tf:Bl Tryz.prog 176:=by unfold Bl;kernel_rfl
theorem Im:One Tryz.prog 162:=by unfold One;exact⟨by kernel_rfl,by kernel_rfl⟩
theorem QK(w:World):(Op.equal 162 (.pointer none) (.pointer none)).run Tryz.prog w=.ok true w:=by kernel_rfl
theorem QL:(Tryz.prog.info? 162).map (·.size)=some 1:=by kernel_rfl
theorem My:One Tryz.prog 223:=by unfold One;exact⟨by kernel_rfl,by kernel_rfl⟩
theorem Gr:One Tryz.prog 64:=by unfold One;exact⟨by kernel_rfl,by kernel_rfl⟩
theorem QM(ad:Addr)(w:World):(Op.equal 162 (.pointer (some ad)) (.pointer none)).run Tryz.prog w=.ok false w:=by kernel_rfl
theorem Tg:Bl Tryz.prog 177:=by unfold Bl;kernel_rfl
theorem Th:Bl Tryz.prog 199:=by unfold Bl;kernel_rfl
theorem IN:(Tryz.prog.info? 178).bind (·.zero)=some (.agg #[I 0,I 0,I 0,I 0]):=by kernel_rfl
theorem Ti:Bl Tryz.prog 147:=by unfold Bl;kernel_rfl
theorem O4:Bl Tryz.prog 146:=by unfold Bl;kernel_rfl
theorem Io:DC Tryz.prog 178 4:=by unfold DC;exact⟨by kernel_rfl,by kernel_rfl⟩
theorem Jr:(Tryz.prog.info? 178).map (·.size)=some 4:=by kernel_rfl
theorem Tj:Bl Tryz.prog 148:=by unfold Bl;kernel_rfl
theorem Uo:Bl Tryz.prog 96:=by unfold Bl;kernel_rfl
theorem Oa:Bl Tryz.prog 98:=by unfold Bl;kernel_rfl
theorem QN:Bl Tryz.prog 99:=by unfold Bl;kernel_rfl
theorem QO:Bl Tryz.prog 41:=by unfold Bl;kernel_rfl
theorem KP:Bl Tryz.prog 30:=by unfold Bl;kernel_rfl
theorem Tk:Bl Tryz.prog 152:=by unfold Bl;kernel_rfl
theorem Mz:Bl Tryz.prog 106:=by unfold Bl;kernel_rfl
theorem I1:(Tryz.prog.info? 64).map (·.size)=some 1:=by kernel_rfl
theorem Tl:DC Tryz.prog 183 1:=by unfold DC;exact⟨by kernel_rfl,by kernel_rfl⟩
theorem Tm:Tryz.prog.eqGuardType Tryz.prog.depth 178=false:=by kernel_rfl
theorem Tn:Ld Tryz.prog 178 4:=PU Tryz.underlying178 AZ Tryz.underlying3
theorem Up:One Tryz.prog 69:=by unfold One;exact⟨by kernel_rfl,by kernel_rfl⟩
theorem O5:Bl Tryz.prog 151:=by unfold Bl;kernel_rfl
theorem MA:(Tryz.prog.info? 64).bind (·.zero)=some (.slice none 0 0):=by kernel_rfl
theorem To:Bl Tryz.prog 105:=by unfold Bl;kernel_rfl
theorem O6:Bl Tryz.prog 104:=by unfold Bl;kernel_rfl
theorem Tp:Bl Tryz.prog 108:=by unfold Bl;kernel_rfl
theorem K4:(Tryz.prog.info? 67).bind (·.zero)=some (.agg #[.slice none 0 0,.slice none 0 0]):=by kernel_rfl
theorem RP:(Tryz.prog.info? 116).bind (·.zero)=some (.agg #[I 0,I 0]):=by kernel_rfl
theorem Uq:(Tryz.prog.info? 116).map (·.size)=some 2:=by kernel_rfl
theorem MB(b:Nat)(w:World):(Instr.fieldAt 67 (.pointer (some ⟨b,0,none⟩)) 0).run Tryz.prog w=.ok (.pointer (some ⟨b,0,none⟩)) w:=by kernel_rfl
theorem MC(b:Nat)(w:World):(Instr.fieldAt 67 (.pointer (some ⟨b,0,none⟩)) 1).run Tryz.prog w=.ok (.pointer (some ⟨b,1,none⟩)) w:=by kernel_rfl
theorem Js:DC Tryz.prog 67 2:=by unfold DC;exact⟨by kernel_rfl,by kernel_rfl⟩
theorem PO:(Tryz.prog.info? 67).map (·.size)=some 2:=by kernel_rfl
theorem Tq:Bl Tryz.prog 101:=by unfold Bl;kernel_rfl
theorem Ur:Bl Tryz.prog 27:=by unfold Bl;kernel_rfl
theorem Us:Bl Tryz.prog 34:=by unfold Bl;kernel_rfl
theorem VG:(Tryz.prog.info? 5).map (·.size)=some 1:=by kernel_rfl
theorem Vi:One Tryz.prog 5:=by unfold One;exact⟨by kernel_rfl,by kernel_rfl⟩
theorem VH:(Tryz.prog.underlying 5).isSome=true:=by kernel_rfl
theorem Ts:Bl Tryz.prog 110:=by unfold Bl;kernel_rfl
theorem Vj:(Tryz.prog.underlying 27).isSome=true:=by kernel_rfl
theorem J0(b o:Nat)(w:World):(Instr.fieldAt 115 (.pointer (some ⟨b,o,none⟩)) 2).run Tryz.prog w=.ok (.pointer (some ⟨b,o+2,none⟩)) w:=by kernel_rfl
theorem Ob(b o:Nat)(w:World):(Instr.fieldAt 115 (.pointer (some ⟨b,o,none⟩)) 1).run Tryz.prog w=.ok (.pointer (some ⟨b,o+1,none⟩)) w:=by kernel_rfl
theorem Oc(b o:Nat)(w:World):(Instr.fieldAt 118 (.pointer (some ⟨b,o,none⟩)) 3).run Tryz.prog w=.ok (.pointer (some ⟨b,o+4,none⟩)) w:=by kernel_rfl
theorem HM:Bl Tryz.prog 82:=by unfold Bl;kernel_rfl
theorem Ut:Bl Tryz.prog 83:=by unfold Bl;kernel_rfl
theorem Od:Bl Tryz.prog 40:=by unfold Bl;kernel_rfl
theorem QP:Bl Tryz.prog 50:=by unfold Bl;kernel_rfl
theorem QQ:Bl Tryz.prog 51:=by unfold Bl;kernel_rfl
theorem Uu:Bl Tryz.prog 52:=by unfold Bl;kernel_rfl
theorem QR:Bl Tryz.prog 61:=by unfold Bl;kernel_rfl
theorem Uv:Bl Tryz.prog 84:=by unfold Bl;kernel_rfl
theorem Uw:Bl Tryz.prog 48:=by unfold Bl;kernel_rfl
theorem Ux:Bl Tryz.prog 49:=by unfold Bl;kernel_rfl
theorem Uy:Bl Tryz.prog 55:=by unfold Bl;kernel_rfl
theorem QS:Bl Tryz.prog 29:=by unfold Bl;kernel_rfl
theorem Jt:Bl Tryz.prog 31:=by unfold Bl;kernel_rfl
theorem Mb:Bl Tryz.prog 32:=by unfold Bl;kernel_rfl
theorem Oe:Bl Tryz.prog 33:=by unfold Bl;kernel_rfl
theorem QT:Bl Tryz.prog 36:=by unfold Bl;kernel_rfl
theorem Uz:Bl Tryz.prog 56:=by unfold Bl;kernel_rfl
theorem UA:Bl Tryz.prog 57:=by unfold Bl;kernel_rfl
theorem QU:Bl Tryz.prog 58:=by unfold Bl;kernel_rfl
theorem UB:Bl Tryz.prog 59:=by unfold Bl;kernel_rfl
end HF
end Go.Proofs.YtkljfdkmjdjpfaaGreat
end
section
set_option linter.unusedVariables false
set_option linter.unusedSimpArgs false
namespace Go.Proofs.YtkljfdkmjdjpfaaGreat
open Go.RowKit Go.WideShapes
set_option maxRecDepth 20000
open HF
attribute [local irreducible] BI WL CC CW LV BL El DC One Bl
theorem O7(n:Nat)(b:Int)(e:Int)(f:Int)(Z:Nat→Prop)(w:World)(m:Bool)(d:Ej n b e f=some m):
 BL Tryz.prog 90 #[I b,I e,I f] w (fun v w'=>Ext w w'∧BU.R w' (ZZ FN [] Z w.heap.size []) v m):=by
 unfold Ej at d;refine A8 (N:=15) Tryz.func90 rfl rfl (by simp) ?_;intro o h p;have g:=AL (i:=0) (v:=I b) h rfl;have k:=AL (i:=1) (v:=I e) h rfl;have l:=AL (i:=2) (v:=I f) h rfl;clear h;have j:Hp FN [] w [] w:=Hp.start (BM.none w);refine Ae<|Ab<|wa rfl (v:=.bool false) rfl<|Af<|Aa<|Ae<|Ab<|wm rfl (v:=I e) k<|wm rfl (v:=I b) g<|wd rfl (fun st=>Fz (ee st rfl) (ee st rfl))<|wm rfl (v:=.bool (decide (e≤b))) rfl ?_;rcases An (decide (e≤b)) with a|a
 ·replace d:=AB d a;refine Aq rfl rfl (Ac rfl a) rfl (by decide) (fun st=>AK (v:=I b) (ee st g))<|Aq rfl rfl (Ac rfl a) rfl (by decide) (fun st=>AK (v:=I f) (ee st l))<|Aq rfl rfl (Ac rfl a) rfl (by decide) (fun st=>Fz (ee st rfl) (ee st rfl))<|wd rfl (fun st=>AS (v:=.bool (decide (b≤f))) (ee st rfl) a (ee st rfl))<|wa rfl (v:=.bool (decide (b≤f))) rfl<|Af<|Aa<|AF ?_;obtain rfl:=Option.some.inj d;refine AR rfl rfl ?_;exact⟨j.Bu,rfl⟩
 ·replace d:=AD d a;refine Aj (c:=false) rfl rfl (Ac rfl a) (by decide) rfl (by decide)<|Aj (c:=false) rfl rfl (Ac rfl a) (by decide) rfl (by decide)<|Aj (c:=false) rfl rfl (Ac rfl a) (by decide) rfl (by decide)<|wd rfl (fun st=>Ba (v:=.bool false) (ee st rfl) a (ee st rfl))<|wa rfl (v:=.bool false) rfl<|Af<|Aa<|AF ?_;obtain rfl:=Option.some.inj d;refine AR rfl rfl ?_;exact⟨j.Bu,rfl⟩
theorem Vr(m:Nat)(a:CE)(Z:Nat→Prop)(w:World)(f:Int)(b:Fc m a=some f):
 BL Tryz.prog 94 #[.agg #[I a.Lo,I a.Hi]] w (fun v w'=>Ext w w'∧(Em .i64).R w' (ZZ FN [] Z w.heap.size []) v f):=by
 unfold Fc at b;refine A8 (N:=9) Tryz.func94 rfl rfl (by simp) ?_;intro n g o;have e:=AL (i:=0) (v:=.agg #[I a.Lo,I a.Hi]) g rfl;clear g;have d:Hp FN [] w [] w:=Hp.start (BM.none w);refine Ae<|Ab<|we rfl (fun st=>B2 (v:=.agg #[I a.Lo,I a.Hi]) (cs:= #[I a.Lo,I a.Hi]) (ee st e) rfl) ?_;rintro _ w1 ⟨p,rfl,c⟩;have h:=d.nb c;have l:=d.BK c;refine wa rfl (v:=I 0) rfl<|Af<|Aa<|Ae<|Ab<|wd rfl (fun st=>Am (ee st rfl) (JW _ _))<|wd rfl (fun st=>Au (v:=I a.Hi) AZ (ee st rfl) c.bk rfl)<|wd rfl (fun st=>Am (ee st rfl) (JX _ _))<|wd rfl (fun st=>Au (v:=I a.Lo) AZ (ee st rfl) c.bk rfl) ?_;replace b:=AU b;obtain⟨j,b⟩:=b;refine wd rfl (fun st=>KQ (ee st rfl) (ee st rfl) j) ?_;replace b:=AU b;obtain⟨k,b⟩:=b;refine wd rfl (fun st=>Bx (ee st rfl) (ee st rfl) k)<|wa rfl (v:=I ((a.Hi-a.Lo)+1)) rfl<|Af<|Aa<|AF ?_;obtain rfl:=Option.some.inj b;refine AR rfl rfl ?_;exact⟨h.Bu,rfl⟩
theorem VI(p:Nat)(a:CE)(g:Int)(Z:Nat→Prop)(w:World)(n:Bool)(e:G5 p a g=some n):
 BL Tryz.prog 140 #[.agg #[I a.Lo,I a.Hi],I g] w (fun v w'=>Ext w w'∧BU.R w' (ZZ FN [] Z w.heap.size []) v n):=by
 unfold G5 at e;refine A8 (N:=21) Tryz.func140 rfl rfl (by simp) ?_;intro q k r;have l:=AL (i:=0) (v:=.agg #[I a.Lo,I a.Hi]) k rfl;have m:=AL (i:=1) (v:=I g) k rfl;clear k;have j:Hp FN [] w [] w:=Hp.start (BM.none w);refine Ae<|Ab<|we rfl (fun st=>B2 (v:=.agg #[I a.Lo,I a.Hi]) (cs:= #[I a.Lo,I a.Hi]) (ee st l) rfl) ?_;rintro _ w1 ⟨s,rfl,f⟩;have h:=j.nb f;have o:=j.BK f;refine wa rfl (v:=.bool false) rfl<|Af<|Aa<|Ae<|Ab<|wd rfl (fun st=>Am (ee st rfl) (JX _ _))<|wd rfl (fun st=>Au (v:=I a.Lo) AZ (ee st rfl) f.bk rfl)<|wd rfl (fun st=>Fz (ee st rfl) (ee st rfl))<|wm rfl (v:=.bool (decide ((0:Int)≤a.Lo))) rfl ?_;rcases An (decide ((0:Int)≤a.Lo)) with b|b
 ·replace e:=AB e b;refine Aq rfl rfl (Ac rfl b) rfl (by decide) (fun st=>Am (ee st rfl) (JX _ _))<|Aq rfl rfl (Ac rfl b) rfl (by decide) (fun st=>Au (v:=I a.Lo) AZ (ee st rfl) f.bk rfl)<|Aq rfl rfl (Ac rfl b) rfl (by decide) (fun st=>Am (ee st rfl) (JW _ _))<|Aq rfl rfl (Ac rfl b) rfl (by decide) (fun st=>Au (v:=I a.Hi) AZ (ee st rfl) f.bk rfl)<|Aq rfl rfl (Ac rfl b) rfl (by decide) (fun st=>Fz (ee st rfl) (ee st rfl))<|wd rfl (fun st=>AS (v:=.bool (decide (a.Lo≤a.Hi))) (ee st rfl) b (ee st rfl))<|wm rfl (v:=.bool (decide (a.Lo≤a.Hi))) rfl ?_;rcases An (decide (a.Lo≤a.Hi)) with d|d
  ·replace e:=AB e d;refine Aq rfl rfl (Ac rfl d) rfl (by decide) (fun st=>Am (ee st rfl) (JW _ _))<|Aq rfl rfl (Ac rfl d) rfl (by decide) (fun st=>Au (v:=I a.Hi) AZ (ee st rfl) f.bk rfl)<|Aq rfl rfl (Ac rfl d) rfl (by decide) (fun st=>AK (v:=I g) (ee st m))<|Aq rfl rfl (Ac rfl d) rfl (by decide) (fun st=>Fz (ee st rfl) (ee st rfl))<|wd rfl (fun st=>AS (v:=.bool (decide (a.Hi≤g))) (ee st rfl) d (ee st rfl))<|wa rfl (v:=.bool (decide (a.Hi≤g))) rfl<|Af<|Aa<|AF ?_;obtain rfl:=Option.some.inj e;refine AR rfl rfl ?_;exact⟨h.Bu,rfl⟩
  ·replace e:=AD e d;refine Aj (c:=false) rfl rfl (Ac rfl d) (by decide) rfl (by decide)<|Aj (c:=false) rfl rfl (Ac rfl d) (by decide) rfl (by decide)<|Aj (c:=false) rfl rfl (Ac rfl d) (by decide) rfl (by decide)<|Aj (c:=false) rfl rfl (Ac rfl d) (by decide) rfl (by decide)<|wd rfl (fun st=>Ba (v:=.bool false) (ee st rfl) d (ee st rfl))<|wa rfl (v:=.bool false) rfl<|Af<|Aa<|AF ?_;obtain rfl:=Option.some.inj e;refine AR rfl rfl ?_;exact⟨h.Bu,rfl⟩
 ·replace e:=AD e b;refine Aj (c:=false) rfl rfl (Ac rfl b) (by decide) rfl (by decide)<|Aj (c:=false) rfl rfl (Ac rfl b) (by decide) rfl (by decide)<|Aj (c:=false) rfl rfl (Ac rfl b) (by decide) rfl (by decide)<|Aj (c:=false) rfl rfl (Ac rfl b) (by decide) rfl (by decide)<|Aj (c:=false) rfl rfl (Ac rfl b) (by decide) rfl (by decide)<|wd rfl (fun st=>Ba (v:=.bool false) (ee st rfl) b (ee st rfl))<|wm rfl (v:=.bool false) rfl<|Aj rfl rfl rfl (by decide) rfl (by decide)<|Aj rfl rfl rfl (by decide) rfl (by decide)<|Aj rfl rfl rfl (by decide) rfl (by decide)<|Aj rfl rfl rfl (by decide) rfl (by decide)<|wd rfl (fun st=>Ba (v:=.bool false) (ee st rfl) rfl (ee st rfl))<|wa rfl (v:=.bool false) rfl<|Af<|Aa<|AF ?_;obtain rfl:=Option.some.inj e;refine AR rfl rfl ?_;exact⟨h.Bu,rfl⟩
theorem a141(d:Nat)(b:Int)(Z:Nat→Prop)(w:World)(e:Bool)(a:GW d b=some e):
 BL Tryz.prog 141 #[I b] w (fun v w'=>Ext w w'∧BU.R w' (ZZ FN [] Z w.heap.size []) v e):=by
 unfold GW at a;refine A8 (N:=5) Tryz.func141 rfl rfl (by simp) ?_;intro l f m;have c:=AL (i:=0) (v:=I b) f rfl;clear f;have g:Hp FN [] w [] w:=Hp.start (BM.none w);refine Ae<|Ab<|wa rfl (v:=.bool false) rfl<|Af<|Aa<|Ae<|Ab<|wm rfl (v:=I b) c ?_;replace a:=bind_some a;obtain⟨r1,h,a⟩:=a;refine we rfl (fun st=>AI Jm (ee st rfl) (E3 (ee st rfl) (ee st rfl) (ee st rfl)) (O7 d b 1 5 ZA _ r1 h)) ?_;rintro _ w2 ⟨j,rfl⟩;have k:=g.ext j;refine wa rfl (v:=.bool r1) rfl<|Af<|Aa<|AF ?_;obtain rfl:=Option.some.inj a;refine AR rfl rfl ?_;exact⟨k.Bu,rfl⟩
theorem a46(n:Nat)(b:Int)(e:Int)(f:Int)(Z:Nat→Prop)(w:World)(m:Bool)(d:CZ n b e f=some m):
 BL Tryz.prog 46 #[I b,I e,I f] w (fun v w'=>Ext w w'∧BU.R w' (ZZ FN [] Z w.heap.size []) v m):=by
 unfold CZ at d;refine A8 (N:=15) Tryz.func46 rfl rfl (by simp) ?_;intro o h p;have g:=AL (i:=0) (v:=I b) h rfl;have k:=AL (i:=1) (v:=I e) h rfl;have l:=AL (i:=2) (v:=I f) h rfl;clear h;have j:Hp FN [] w [] w:=Hp.start (BM.none w);refine Ae<|Ab<|wa rfl (v:=.bool false) rfl<|Af<|Aa<|Ae<|Ab<|wm rfl (v:=I b) g<|wm rfl (v:=I e) k<|wd rfl (fun st=>LJ (ee st rfl) (ee st rfl))<|wm rfl (v:=.bool (decide (e≤b))) rfl ?_;rcases An (decide (e≤b)) with a|a
 ·replace d:=AB d a;refine Aq rfl rfl (Ac rfl a) rfl (by decide) (fun st=>AK (v:=I b) (ee st g))<|Aq rfl rfl (Ac rfl a) rfl (by decide) (fun st=>AK (v:=I f) (ee st l))<|Aq rfl rfl (Ac rfl a) rfl (by decide) (fun st=>Fz (ee st rfl) (ee st rfl))<|wd rfl (fun st=>AS (v:=.bool (decide (b≤f))) (ee st rfl) a (ee st rfl))<|wa rfl (v:=.bool (decide (b≤f))) rfl<|Af<|Aa<|AF ?_;obtain rfl:=Option.some.inj d;refine AR rfl rfl ?_;exact⟨j.Bu,rfl⟩
 ·replace d:=AD d a;refine Aj (c:=false) rfl rfl (Ac rfl a) (by decide) rfl (by decide)<|Aj (c:=false) rfl rfl (Ac rfl a) (by decide) rfl (by decide)<|Aj (c:=false) rfl rfl (Ac rfl a) (by decide) rfl (by decide)<|wd rfl (fun st=>Ba (v:=.bool false) (ee st rfl) a (ee st rfl))<|wa rfl (v:=.bool false) rfl<|Af<|Aa<|AF ?_;obtain rfl:=Option.some.inj d;refine AR rfl rfl ?_;exact⟨j.Bu,rfl⟩
theorem RQ(m:Nat)(a:CE)(Z:Nat→Prop)(w:World)(f:Int)(b:Ed m a=some f):
 BL Tryz.prog 136 #[.agg #[I a.Lo,I a.Hi]] w (fun v w'=>Ext w w'∧(Em .i64).R w' (ZZ FN [] Z w.heap.size []) v f):=by
 unfold Ed at b;refine A8 (N:=9) Tryz.func136 rfl rfl (by simp) ?_;intro n g o;have e:=AL (i:=0) (v:=.agg #[I a.Lo,I a.Hi]) g rfl;clear g;have d:Hp FN [] w [] w:=Hp.start (BM.none w);refine Ae<|Ab<|we rfl (fun st=>B2 (v:=.agg #[I a.Lo,I a.Hi]) (cs:= #[I a.Lo,I a.Hi]) (ee st e) rfl) ?_;rintro _ w1 ⟨p,rfl,c⟩;have h:=d.nb c;have l:=d.BK c;refine wa rfl (v:=I 0) rfl<|Af<|Aa<|Ae<|Ab<|wd rfl (fun st=>Am (ee st rfl) (JY _ _))<|wd rfl (fun st=>Au (v:=I a.Hi) AZ (ee st rfl) c.bk rfl)<|wd rfl (fun st=>Am (ee st rfl) (IJ _ _))<|wd rfl (fun st=>Au (v:=I a.Lo) AZ (ee st rfl) c.bk rfl) ?_;replace b:=AU b;obtain⟨j,b⟩:=b;refine wd rfl (fun st=>KQ (ee st rfl) (ee st rfl) j) ?_;replace b:=AU b;obtain⟨k,b⟩:=b;refine wd rfl (fun st=>Bx (ee st rfl) (ee st rfl) k)<|wa rfl (v:=I ((a.Hi-a.Lo)+1)) rfl<|Af<|Aa<|AF ?_;obtain rfl:=Option.some.inj b;refine AR rfl rfl ?_;exact⟨h.Bu,rfl⟩
theorem QV(n:Nat)(b:Int)(c:Int)(Z:Nat→Prop)(w:World)(h:Bool)(a:DI n b c=some h):
 BL Tryz.prog 54 #[I b,I c] w (fun v w'=>Ext w w'∧BU.R w' (ZZ FN [] Z w.heap.size []) v h):=by
 unfold DI at a;refine A8 (N:=11) Tryz.func54 rfl rfl (by simp) ?_;intro o e p;have f:=AL (i:=0) (v:=I b) e rfl;have g:=AL (i:=1) (v:=I c) e rfl;clear e;have j:Hp FN [] w [] w:=Hp.start (BM.none w);refine Ae<|Ab<|wa rfl (v:=.bool false) rfl<|Af<|Aa<|Ae<|Ab<|wm rfl (v:=I b) f<|wm rfl (v:=I c) g ?_;replace a:=HQ a;obtain⟨l,a⟩:=a;refine wd rfl (fun st=>Jc (k:=.u64) PL Tryz.underlying32 (ee st rfl) l) ?_;replace a:=MJ a;obtain⟨m,a⟩:=a;refine wd rfl (fun st=>R1 (ee st rfl) (ee st rfl) m) ?_;replace a:=G7 a;obtain⟨d,a⟩:=a;refine wd rfl (fun st=>IQ (ee st rfl) (ee st rfl) d.1 d.2)<|wd rfl (fun st=>CF (ee st rfl) (ee st rfl))<|wa rfl (v:=.bool (((Fs b c)%2)==1)) rfl<|Af<|Aa<|AF ?_;obtain rfl:=Option.some.inj a;refine AR rfl rfl ?_;exact⟨j.Bu,rfl⟩
theorem Vs(s:Nat)(a:Int)(b:Int)(c:Bool)(Z:Nat→Prop)(w:World)(m:As)(o:ER s a b c=some m):
 BL Tryz.prog 61 #[I a,I b,.bool c] w (fun v w'=>Ext w w'∧(CS BS).R w' (ZZ FN [] Z w.heap.size []) v m):=by
 unfold ER at o;refine A8 (N:=11) Tryz.func61 rfl rfl (by simp) ?_;intro t e u;have h:=AL (i:=0) (v:=I a) e rfl;have j:=AL (i:=1) (v:=I b) e rfl;have k:=AL (i:=2) (v:=.bool c) e rfl;clear e;have f:Hp FN [] w [] w:=Hp.start (BM.none w);refine Ae<|Ab<|we rfl (fun st=>BO (cs:= #[I 0,I 0,.bool false]) Hr rfl) ?_;rintro _ w1 ⟨x,rfl,d⟩;have p:=f.nb d;have r:=f.BK d;refine Af<|Aa<|Ae<|Ab<|wm rfl (v:=I a) h<|wm rfl (v:=I b) j<|wm rfl (v:=.bool c) k<|wd rfl (fun st=>C6 (vs:= #[(0,I a),(1,I b),(2,.bool c)]) (v:=.agg #[I a,I b,.bool c]) (J9 (ee st rfl) (ee st rfl) (ee st rfl)) (by kernel_rfl))<|Bo rfl rfl (fun st=>Bd (n:=3) (l:=[I a,I b,.bool c]) (Cf:= #[I a,I b,.bool c]) (ee st rfl) (ee st rfl) DQ d.bk rfl rfl (show 0+3≤3 by decide) (AQ rfl) rfl) ?_;rintro _ w2 g;have q:=p.gr g.gr 0 rfl;refine Af<|Aa<|AF ?_;obtain rfl:=Option.some.inj o;refine FX (v:=.agg #[I a,I b,.bool c]) rfl rfl (CJ D2 g.bk rfl rfl) ?_;exact⟨q.Bu,⟨_,rfl,rfl⟩⟩
theorem V4(n:Nat)(a:Ap)(e:Int)(b:Option Addr)(c:Nat)(Z:Nat→Prop)(w:World)(g:Sl AM w Z b c a.Ad)(o:Bool)(d:FL n a e=some o):
 BL Tryz.prog 96 #[.agg #[I a.Ak,I a.Ai,I a.Ao,I a.Aw,.slice b a.Ad.length c],I e] w (fun v w'=>Ext w w'∧BU.R w' (ZZ FN [] Z w.heap.size []) v o):=by
 unfold FL at d;refine A8 (N:=11) Tryz.func96 rfl rfl (by simp) ?_;intro y j z;have k:=AL (i:=0) (v:=.agg #[I a.Ak,I a.Ai,I a.Ao,I a.Aw,.slice b a.Ad.length c]) j rfl;have l:=AL (i:=1) (v:=I e) j rfl;clear j;have h:Hp FN [] w [] w:=Hp.start (BM.none w);have m:=g.mv (Bj (Z:=Z) (L:=[]) w);refine Ae<|Ab<|we rfl (fun st=>B2 (v:=.agg #[I a.Ak,I a.Ai,I a.Ao,I a.Aw,.slice b a.Ad.length c]) (cs:= #[I a.Ak,I a.Ai,I a.Ao,I a.Aw,.slice b a.Ad.length c]) (ee st k) rfl) ?_;rintro _ w1 ⟨aA,rfl,f⟩;have p:=h.nb f;have x:=h.BK f;refine wa rfl (v:=.bool false) rfl<|Af<|Aa<|Ae<|Ab<|wm rfl (v:=I e) l<|wd rfl (fun st=>Am (ee st rfl) (C7 _ _))<|wd rfl (fun st=>Au (v:=.slice b a.Ad.length c) Ds (ee st rfl) f.bk rfl)<|wd rfl (fun st=>BH Tryz.underlying73 (ee st rfl)) ?_;replace d:=AU d;obtain⟨q,d⟩:=d;refine wd rfl (fun st=>KQ (ee st rfl) (ee st rfl) q) ?_;replace d:=bind_some d;obtain⟨r,s,d⟩:=d;refine we rfl (fun st=>AI Jm (ee st rfl) (E3 (ee st rfl) (ee st rfl) (ee st rfl)) (O7 n e 0 ((a.Ad.length:Int)-1) ZA _ r s)) ?_;rintro _ aB ⟨t,rfl⟩;have u:=p.ext t;refine wa rfl (v:=.bool r) rfl<|Af<|Aa<|AF ?_;obtain rfl:=Option.some.inj d;refine AR rfl rfl ?_;exact⟨u.Bu,rfl⟩
theorem UC(s:Nat)(a:A3)(d:As)(Z:Nat→Prop)(w:World)(p:Bool)(f:Df s a d=some p):
 BL Tryz.prog 97 #[.agg #[I a.Ar,I a.AE,I a.AP,I a.Ce,I a.BZ],.agg #[I d.On,I d.Bh,.bool d.AP]] w (fun v w'=>Ext w w'∧BU.R w' (ZZ FN [] Z w.heap.size []) v p):=by
 unfold Df at f;refine A8 (N:=14) Tryz.func97 rfl rfl (by simp) ?_;intro t m u;have n:=AL (i:=0) (v:=.agg #[I a.Ar,I a.AE,I a.AP,I a.Ce,I a.BZ]) m rfl;have o:=AL (i:=1) (v:=.agg #[I d.On,I d.Bh,.bool d.AP]) m rfl;clear m;have j:Hp FN [] w [] w:=Hp.start (BM.none w);refine Ae<|Ab<|we rfl (fun st=>B2 (v:=.agg #[I a.Ar,I a.AE,I a.AP,I a.Ce,I a.BZ]) (cs:= #[I a.Ar,I a.AE,I a.AP,I a.Ce,I a.BZ]) (ee st n) rfl) ?_;rintro _ w1 ⟨x,rfl,g⟩;have k:=j.nb g;have q:=j.BK g;refine we rfl (fun st=>B2 (v:=.agg #[I d.On,I d.Bh,.bool d.AP]) (cs:= #[I d.On,I d.Bh,.bool d.AP]) (ee st o) rfl) ?_;rintro _ w2 ⟨y,rfl,e⟩;have l:=k.nb e;have r:=k.BK e;refine wa rfl (v:=.bool false) rfl<|Af<|Aa<|Ae<|Ab<|wd rfl (fun st=>Am (ee st rfl) (RI _ _))<|wd rfl (fun st=>Au (v:=.bool d.AP) HZ (ee st rfl) e.bk rfl)<|wm rfl (v:=.bool d.AP) rfl ?_;rcases An (d.AP) with b|b
 ·replace f:=AB f b;refine Aq rfl rfl (Ac rfl b) rfl (by decide) (fun st=>Am (ee st rfl) (Ly _ _))<|Aq rfl rfl (Ac rfl b) rfl (by decide) (fun st=>Au (v:=I d.Bh) AZ (ee st rfl) e.bk rfl)<|Aq rfl rfl (Ac rfl b) rfl (by decide) (fun st=>Am (ee st rfl) (NU _ _)) ?_;have h:=(g.bk.ext e.gr);refine Aq rfl rfl (Ac rfl b) rfl (by decide) (fun st=>Au (v:=I a.BZ) AZ (ee st rfl) h rfl)<|Aq rfl rfl (Ac rfl b) rfl (by decide) (fun st=>Fz (ee st rfl) (ee st rfl))<|wd rfl (fun st=>AS (v:=.bool (decide (d.Bh≤a.BZ))) (ee st rfl) b (ee st rfl))<|wa rfl (v:=.bool (decide (d.Bh≤a.BZ))) rfl<|Af<|Aa<|AF ?_;obtain rfl:=Option.some.inj f;refine AR rfl rfl ?_;exact⟨l.Bu,rfl⟩
 ·replace f:=AD f b;refine Aj (c:=false) rfl rfl (Ac rfl b) (by decide) rfl (by decide)<|Aj (c:=false) rfl rfl (Ac rfl b) (by decide) rfl (by decide)<|Aj (c:=false) rfl rfl (Ac rfl b) (by decide) rfl (by decide)<|Aj (c:=false) rfl rfl (Ac rfl b) (by decide) rfl (by decide)<|Aj (c:=false) rfl rfl (Ac rfl b) (by decide) rfl (by decide)<|wd rfl (fun st=>Ba (v:=.bool false) (ee st rfl) b (ee st rfl))<|wa rfl (v:=.bool false) rfl<|Af<|Aa<|AF ?_;obtain rfl:=Option.some.inj f;refine AR rfl rfl ?_;exact⟨l.Bu,rfl⟩
theorem a107(n:Nat)(a:A3)(b:As)(Z:Nat→Prop)(w:World)(o:Bool)(d:Ee n a b=some o):
 BL Tryz.prog 107 #[.agg #[I a.Ar,I a.AE,I a.AP,I a.Ce,I a.BZ],.agg #[I b.On,I b.Bh,.bool b.AP]] w (fun v w'=>Ext w w'∧BU.R w' (ZZ FN [] Z w.heap.size []) v o):=by
 unfold Ee at d;refine A8 (N:=9) Tryz.func107 rfl rfl (by simp) ?_;intro y j z;have k:=AL (i:=0) (v:=.agg #[I a.Ar,I a.AE,I a.AP,I a.Ce,I a.BZ]) j rfl;have m:=AL (i:=1) (v:=.agg #[I b.On,I b.Bh,.bool b.AP]) j rfl;clear j;have g:Hp FN [] w [] w:=Hp.start (BM.none w);refine Ae<|Ab<|we rfl (fun st=>B2 (v:=.agg #[I a.Ar,I a.AE,I a.AP,I a.Ce,I a.BZ]) (cs:= #[I a.Ar,I a.AE,I a.AP,I a.Ce,I a.BZ]) (ee st k) rfl) ?_;rintro _ w1 ⟨aA,rfl,e⟩;have h:=g.nb e;have u:=g.BK e;refine we rfl (fun st=>B2 (v:=.agg #[I b.On,I b.Bh,.bool b.AP]) (cs:= #[I b.On,I b.Bh,.bool b.AP]) (ee st m) rfl) ?_;rintro _ w2 ⟨aB,rfl,c⟩;have p:=h.nb c;have x:=h.BK c;refine wa rfl (v:=.bool false) rfl<|Af<|Aa<|Ae<|Ab ?_;have f:=(e.bk.ext c.gr);refine wd rfl (fun st=>Bb (l:=[I a.Ar,I a.AE,I a.AP,I a.Ce,I a.BZ]) Hw (ee st rfl) f rfl rfl)<|wd rfl (fun st=>Bb (l:=[I b.On,I b.Bh,.bool b.AP]) D2 (ee st rfl) c.bk rfl rfl) ?_;replace d:=bind_some d;obtain⟨q,r,d⟩:=d;refine we rfl (fun st=>AI NV (ee st rfl) (Eo (ee st rfl) (ee st rfl)) (UC n a b ZA _ q r)) ?_;rintro _ aC ⟨s,rfl⟩;have t:=p.ext s;refine wd rfl (fun st=>CV (ee st rfl))<|wa rfl (v:=.bool !q) rfl<|Af<|Aa<|AF ?_;obtain rfl:=Option.some.inj d;refine AR rfl rfl ?_;exact⟨t.Bu,rfl⟩
end Go.Proofs.YtkljfdkmjdjpfaaGreat
end
section
set_option linter.unusedVariables false
set_option linter.unusedSimpArgs false
namespace Go.Proofs.YtkljfdkmjdjpfaaGreat
open Go.RowKit Go.WideShapes
set_option maxRecDepth 20000
open HF
attribute [local irreducible] BI WL CC CW LV BL El DC One Bl
theorem V5(aW:Nat)(b:Ap)(z:Int)(h:Option Addr)(j:Nat)(Z:Nat→Prop)(w:World)(cB:Sl AM w Z h j b.Ad)(c9:Bool)(a:Ep aW b z=some c9):
 BL Tryz.prog 95 #[.agg #[I b.Ak,I b.Ai,I b.Ao,I b.Aw,.slice h b.Ad.length j],I z] w (fun v w'=>Ext w w'∧BU.R w' (ZZ FN [] Z w.heap.size []) v c9):=by
 unfold Ep at a;refine A8 (N:=46) Tryz.func95 rfl rfl (by simp) ?_;intro dW cM dX;have cN:=AL (i:=0) (v:=.agg #[I b.Ak,I b.Ai,I b.Ao,I b.Aw,.slice h b.Ad.length j]) cM rfl;have cO:=AL (i:=1) (v:=I z) cM rfl;clear cM;have cJ:Hp FN [] w [] w:=Hp.start (BM.none w);have bN:=cB.mv (Bj (Z:=Z) (L:=[]) w);refine Ae<|Ab<|we rfl (fun st=>B2 (v:=.agg #[I b.Ak,I b.Ai,I b.Ao,I b.Aw,.slice h b.Ad.length j]) (cs:= #[I b.Ak,I b.Ai,I b.Ao,I b.Aw,.slice h b.Ad.length j]) (ee st cN) rfl) ?_;rintro _ w1 ⟨m,rfl,bG⟩;have dA:=cJ.nb bG;have dP:=cJ.BK bG;refine wa rfl (v:=.bool false) rfl<|Af<|Aa<|Ae<|Ab<|wa rfl (v:=I 0) rfl<|Af<|Aa<|Ae<|Ae<|Ab<|wa rfl (v:=I 0) rfl<|Af<|Aa<|A5 ?_;replace a:=bind_some a;obtain⟨z2,aX,a⟩:=a;refine Ch (fun aZ d o=>(aZ=.ret∧∃aI,z2=.inl aI∧d.tmps.size=46∧d.defers=(X0).ds∧sl d 4=.bool aI∧Hp FN [] w [some m] o)∨(aZ=.exit 0∧∃aI,z2=.inr aI∧d.tmps.size=46∧d.defers=(X0).ds∧sl d 2=pt m 0∧sl d 5=I aI∧Hp FN [] w [some m] o∧Bk o m 63 #[I b.Ak,I b.Ai,I b.Ao,I b.Aw,.slice h b.Ad.length j]∧Sl AM o (ZZ FN [] Z w.heap.size [some m]) h j b.Ad)) ?dB ?dC
 case dB=>
  clear a;refine Cg (fun(aG:Nat) (d:Act) (o:World)=>∃n,∃e,CG aW b z aG n e=some z2∧d.tmps.size=46∧d.defers=(X0).ds∧sl d 1=I z∧sl d 2=pt m 0∧sl d 5=I n∧sl d 6=I e∧Hp FN [] w [some m] o∧Bk o m 63 #[I b.Ak,I b.Ai,I b.Ao,I b.Aw,.slice h b.Ad.length j]∧Sl AM o (ZZ FN [] Z w.heap.size [some m]) h j b.Ad) aW ?dD ?dE
  case dD=>
   intro st;have bO:=(bN.mv (Ay bG));exact⟨(0:Int),(0:Int),aX,qz st,qd st,sp st 1 cO,sp st 2 rfl,sp st 5 rfl,sp st 6 rfl,dA,bG.bk,bO⟩
  case dE=>
   rintro(_|aG) dY dZ ⟨n,e,aX,cP,cQ,a0,aQ,a2,aC,cK,aJ,aH⟩
   ·exact absurd (show none=some _ from aX) (by simp)
   rw[CG.eq_2] at aX;have a:=aX;clear aX;refine B4 (N:=46) cP cQ<|Ae<|Ae<|Ab<|wm rfl (v:=I e) aC<|wd rfl (fun st=>Am (ee st aQ) (Gf _ _))<|wd rfl (fun st=>Au (v:=I b.Ak) AZ (ee st rfl) aJ rfl)<|wd rfl (fun st=>Fz (ee st rfl) (ee st rfl))<|Af<|Aa ?_;rcases An (decide (e≤b.Ak)) with a6|a6
   ·replace a:=AB a a6;refine AA rfl a6<|AW<|Aa<|Ae<|A5<|Ae<|Ae<|Ab<|wm rfl (v:=I z) a0<|wm rfl (v:=I e) aC ?_;replace a:=bind_some a;obtain⟨dF,dG,a⟩:=a;refine we rfl (fun st=>AI KM (ee st rfl) (Eo (ee st rfl) (ee st rfl)) (QV aW z e ZA _ dF dG)) ?_;rintro _ d6 ⟨a7,rfl⟩;have cL:=cK.ext a7;refine Af<|Aa ?_;rcases An (dF) with a9|a9
    ·replace a:=AB a a9;refine AA rfl a9<|Ab<|wm rfl (v:=I n) a2 ?_;replace a:=AU a;obtain⟨dH,a⟩:=a;refine wd rfl (fun st=>Bx (ee st rfl) (ee st rfl) dH)<|wa rfl (v:=I (n+1)) rfl<|Af<|Aa<|Ae<|Ab<|wa rfl (v:=.bool true) rfl<|Af<|Aa<|Ae<|Ae<|Ab<|wm rfl (v:=I e) aC<|wa rfl (v:=I e) rfl<|Af<|Aa<|A5 ?_;replace a:=bind_some a;obtain⟨cC,aY,a⟩:=a;refine Ch (fun aZ d o=>(aZ=.exit 2∧d.tmps.size=46∧d.defers=(X0).ds∧sl d 1=I z∧sl d 2=pt m 0∧sl d 5=I (n+1)∧sl d 6=I e∧sl d 7=.bool cC∧Hp FN [] w [some m] o∧Bk o m 63 #[I b.Ak,I b.Ai,I b.Ao,I b.Aw,.slice h b.Ad.length j]∧Sl AM o (ZZ FN [] Z w.heap.size [some m]) h j b.Ad)) ?dI ?dJ
     case dI=>
      clear a;refine Cg (fun(aG:Nat) (d:Act) (o:World)=>∃aN,∃g,Cu aW b z e aG aN g=some cC∧d.tmps.size=46∧d.defers=(X0).ds∧sl d 1=I z∧sl d 2=pt m 0∧sl d 5=I (n+1)∧sl d 6=I e∧sl d 7=.bool aN∧sl d 8=I g∧Hp FN [] w [some m] o∧Bk o m 63 #[I b.Ak,I b.Ai,I b.Ao,I b.Aw,.slice h b.Ad.length j]∧Sl AM o (ZZ FN [] Z w.heap.size [some m]) h j b.Ad) aW ?dK ?dL
      case dK=>
       intro st;have a3:=(aJ.ext a7);have aO:=(aH.mv (Ah a7));exact⟨true,e,aY,qz st,qd st,sp st 1 a0,sp st 2 aQ,sp st 5 rfl,sp st 6 aC,sp st 7 rfl,sp st 8 rfl,cL,a3,aO⟩
      case dL=>
       rintro(_|aG) d0 d1 ⟨aN,g,aY,cR,cS,aK,aD,aR,aL,bH,aE,bI,t,y⟩
       ·exact absurd (show none=some _ from aY) (by simp)
       rw[Cu.eq_2] at aY;have a:=aY;clear aY;refine B4 (N:=46) cR cS<|Ae<|Ae<|Ab<|wm rfl (v:=I g) aE<|wm rfl (v:=I e) aL<|wd rfl (fun st=>Am (ee st aD) (K1 _ _))<|wd rfl (fun st=>Au (v:=I b.Aw) AZ (ee st rfl) t rfl) ?_;replace a:=AU a;obtain⟨dM,a⟩:=a;refine wd rfl (fun st=>Bx (ee st rfl) (ee st rfl) dM)<|wd rfl (fun st=>Fz (ee st rfl) (ee st rfl))<|Af<|Aa ?_;rcases An (decide (g≤(e+b.Aw))) with aS|aS
       ·replace a:=AB a aS;refine AA rfl aS<|AW<|Aa<|Ae<|A5<|Ab<|wm rfl (v:=.bool aN) bH<|wm rfl (v:=.bool aN) rfl ?_;rcases An (aN) with k|k
        ·replace a:=AB a k;refine Aq rfl rfl (Ac rfl k) rfl (by decide) (fun st=>AK (v:=I g) (ee st aE))<|Aq rfl rfl (Ac rfl k) rfl (by decide) (fun st=>Am (ee st aD) (Gf _ _))<|Aq rfl rfl (Ac rfl k) rfl (by decide) (fun st=>Au (v:=I b.Ak) AZ (ee st rfl) t rfl)<|Aq rfl rfl (Ac rfl k) rfl (by decide) (fun st=>Fz (ee st rfl) (ee st rfl))<|wd rfl (fun st=>AS (v:=.bool (decide (g≤b.Ak))) (ee st rfl) k (ee st rfl))<|wm rfl (v:=.bool (decide (g≤b.Ak))) rfl ?_;rcases An (decide (g≤b.Ak)) with q|q
         ·replace a:=AB a q;refine Aq rfl rfl (Ac rfl q) rfl (by decide) (fun st=>AK (v:=I z) (ee st aK))<|Aq rfl rfl (Ac rfl q) rfl (by decide) (fun st=>AK (v:=I g) (ee st aE)) ?_;replace a:=bind_some a;obtain⟨bJ,cT,a⟩:=a;refine Dp rfl rfl (Ac rfl q) rfl (by decide) (fun st=>AI KM (ee st rfl) (Eo (ee st rfl) (ee st rfl)) (QV aW z g ZA _ bJ cT)) ?_;rintro _ d2 ⟨bC,rfl⟩;have dN:=bI.ext bC;refine wd rfl (fun st=>AS (v:=.bool bJ) (ee st rfl) q (ee st rfl))<|wa rfl (v:=.bool bJ) rfl<|Af<|Bn<|Aa<|Ab<|wm rfl (v:=I g) aE ?_;replace a:=AU a;obtain⟨cU,a⟩:=a;refine wd rfl (fun st=>Bx (ee st rfl) (ee st rfl) cU)<|wa rfl (v:=I (g+1)) rfl<|Af ?_;have cD:=(t.ext bC);have bP:=(y.mv (Ah bC));refine Bt aG (Nat.lt_succ_self _) (fun st=>?_);exact⟨bJ,(g+1),a,qz st,qd st,sp st 1 aK,sp st 2 aD,sp st 5 aR,sp st 6 aL,sp st 7 rfl,sp st 8 rfl,dN,cD,bP⟩
         ·replace a:=AD a q;refine Aj (c:=false) rfl rfl (Ac rfl q) (by decide) rfl (by decide)<|Aj (c:=false) rfl rfl (Ac rfl q) (by decide) rfl (by decide)<|Aj (c:=false) rfl rfl (Ac rfl q) (by decide) rfl (by decide)<|wd rfl (fun st=>Ba (v:=.bool false) (ee st rfl) q (ee st rfl))<|wa rfl (v:=.bool false) rfl<|Af<|Bn<|Aa<|Ab<|wm rfl (v:=I g) aE ?_;replace a:=AU a;obtain⟨cV,a⟩:=a;refine wd rfl (fun st=>Bx (ee st rfl) (ee st rfl) cV)<|wa rfl (v:=I (g+1)) rfl<|Af ?_;refine Bt aG (Nat.lt_succ_self _) (fun st=>?_);exact⟨false,(g+1),a,qz st,qd st,sp st 1 aK,sp st 2 aD,sp st 5 aR,sp st 6 aL,sp st 7 rfl,sp st 8 rfl,bI,t,y⟩
        ·replace a:=AD a k;refine Aj (c:=false) rfl rfl (Ac rfl k) (by decide) rfl (by decide)<|Aj (c:=false) rfl rfl (Ac rfl k) (by decide) rfl (by decide)<|Aj (c:=false) rfl rfl (Ac rfl k) (by decide) rfl (by decide)<|Aj (c:=false) rfl rfl (Ac rfl k) (by decide) rfl (by decide)<|wd rfl (fun st=>Ba (v:=.bool false) (ee st rfl) k (ee st rfl))<|wm rfl (v:=.bool false) rfl<|Aj rfl rfl rfl (by decide) rfl (by decide)<|Aj rfl rfl rfl (by decide) rfl (by decide)<|Aj rfl rfl rfl (by decide) rfl (by decide)<|wd rfl (fun st=>Ba (v:=.bool false) (ee st rfl) rfl (ee st rfl))<|wa rfl (v:=.bool false) rfl<|Af<|Bn<|Aa<|Ab<|wm rfl (v:=I g) aE ?_;replace a:=AU a;obtain⟨cW,a⟩:=a;refine wd rfl (fun st=>Bx (ee st rfl) (ee st rfl) cW)<|wa rfl (v:=I (g+1)) rfl<|Af ?_;refine Bt aG (Nat.lt_succ_self _) (fun st=>?_);exact⟨false,(g+1),a,qz st,qd st,sp st 1 aK,sp st 2 aD,sp st 5 aR,sp st 6 aL,sp st 7 rfl,sp st 8 rfl,bI,t,y⟩
       ·replace a:=AD a aS;refine AH rfl aS<|Cc<|AN<|AN ?_;obtain rfl:=Option.some.inj a;refine BQ (fun st=>?_);exact⟨rfl,qz st,qd st,sp st 1 aK,sp st 2 aD,sp st 5 aR,sp st 6 aL,sp st 7 bH,bI,t,y⟩
     case dJ=>
      rintro aZ dR d3 (⟨rfl,cE,cF,bX,bY,bZ,b1,b2,b3,b4,bD⟩);refine Ci (X:=X0) (N:=46) cE cF<|Bs<|Aa<|Ae<|Ab<|wm rfl (v:=.bool cC) b2<|Af<|Aa ?_;rcases An (cC) with aT|aT
      ·replace a:=AB a aT;refine AA rfl aT<|Ae<|Ab<|wa rfl (v:=.bool false) rfl<|Af<|Aa<|AF<|AV<|Av<|Av ?_;obtain rfl:=Option.some.inj a;refine BQ (fun st=>?_);exact .inl ⟨rfl,false,rfl,qz st,qd st,sp st 4 rfl,b3⟩
      ·replace a:=AD a aT;refine AH rfl aT<|AW<|Bn<|Aa<|Ab<|wm rfl (v:=I e) b1 ?_;replace a:=AU a;obtain⟨cX,a⟩:=a;refine wd rfl (fun st=>Bx (ee st rfl) (ee st rfl) cX)<|wa rfl (v:=I (e+1)) rfl<|Af ?_;refine Bt aG (Nat.lt_succ_self _) (fun st=>?_);exact⟨(n+1),(e+1),a,qz st,qd st,sp st 1 bX,sp st 2 bY,sp st 5 bZ,sp st 6 rfl,b3,b4,bD⟩
    ·replace a:=AD a a9;refine AH rfl a9<|AW<|Aa<|Ae<|Ab<|wa rfl (v:=.bool true) rfl<|Af<|Aa<|Ae<|Ae<|Ab<|wm rfl (v:=I e) aC<|wa rfl (v:=I e) rfl<|Af<|Aa<|A5 ?_;replace a:=bind_some a;obtain⟨z20,aP,a⟩:=a;refine Ch (fun aZ d o=>(aZ=.exit 2∧d.tmps.size=46∧d.defers=(X0).ds∧sl d 1=I z∧sl d 2=pt m 0∧sl d 5=I n∧sl d 6=I e∧sl d 7=.bool z20∧Hp FN [] w [some m] o∧Bk o m 63 #[I b.Ak,I b.Ai,I b.Ao,I b.Aw,.slice h b.Ad.length j]∧Sl AM o (ZZ FN [] Z w.heap.size [some m]) h j b.Ad)) ?cY ?cZ
     case cY=>
      clear a;refine Cg (fun(aG:Nat) (d:Act) (o:World)=>∃aF,∃f,Cs aW b z e aG aF f=some z20∧d.tmps.size=46∧d.defers=(X0).ds∧sl d 1=I z∧sl d 2=pt m 0∧sl d 5=I n∧sl d 6=I e∧sl d 7=.bool aF∧sl d 8=I f∧Hp FN [] w [some m] o∧Bk o m 63 #[I b.Ak,I b.Ai,I b.Ao,I b.Aw,.slice h b.Ad.length j]∧Sl AM o (ZZ FN [] Z w.heap.size [some m]) h j b.Ad) aW ?c0 ?c1
      case c0=>
       intro st;have a3:=(aJ.ext a7);have aO:=(aH.mv (Ah a7));exact⟨true,e,aP,qz st,qd st,sp st 1 a0,sp st 2 aQ,sp st 5 a2,sp st 6 aC,sp st 7 rfl,sp st 8 rfl,cL,a3,aO⟩
      case c1=>
       rintro(_|aG) dS dT ⟨aF,f,aP,cG,cH,aA,u,aM,aB,bA,x,bK,p,s⟩
       ·exact absurd (show none=some _ from aP) (by simp)
       rw[Cs.eq_2] at aP;have a:=aP;clear aP;refine B4 (N:=46) cG cH<|Ae<|Ae<|Ab<|wm rfl (v:=I f) x<|wm rfl (v:=I e) aB<|wd rfl (fun st=>Am (ee st u) (K1 _ _))<|wd rfl (fun st=>Au (v:=I b.Aw) AZ (ee st rfl) p rfl) ?_;replace a:=AU a;obtain⟨c2,a⟩:=a;refine wd rfl (fun st=>Bx (ee st rfl) (ee st rfl) c2)<|wd rfl (fun st=>Fz (ee st rfl) (ee st rfl))<|Af<|Aa ?_;rcases An (decide (f≤(e+b.Aw))) with aU|aU
       ·replace a:=AB a aU;refine AA rfl aU<|AW<|Aa<|Ae<|A5<|Ab<|wm rfl (v:=.bool aF) bA<|wm rfl (v:=.bool aF) rfl ?_;rcases An (aF) with l|l
        ·replace a:=AB a l;refine Aq rfl rfl (Ac rfl l) rfl (by decide) (fun st=>AK (v:=I f) (ee st x))<|Aq rfl rfl (Ac rfl l) rfl (by decide) (fun st=>Am (ee st u) (Gf _ _))<|Aq rfl rfl (Ac rfl l) rfl (by decide) (fun st=>Au (v:=I b.Ak) AZ (ee st rfl) p rfl)<|Aq rfl rfl (Ac rfl l) rfl (by decide) (fun st=>Fz (ee st rfl) (ee st rfl))<|wd rfl (fun st=>AS (v:=.bool (decide (f≤b.Ak))) (ee st rfl) l (ee st rfl))<|wm rfl (v:=.bool (decide (f≤b.Ak))) rfl ?_;rcases An (decide (f≤b.Ak)) with r|r
         ·replace a:=AB a r;refine Aq rfl rfl (Ac rfl r) rfl (by decide) (fun st=>AK (v:=I z) (ee st aA))<|Aq rfl rfl (Ac rfl r) rfl (by decide) (fun st=>AK (v:=I f) (ee st x)) ?_;replace a:=bind_some a;obtain⟨bL,c3,a⟩:=a;refine Dp rfl rfl (Ac rfl r) rfl (by decide) (fun st=>AI KM (ee st rfl) (Eo (ee st rfl) (ee st rfl)) (QV aW z f ZA _ bL c3)) ?_;rintro _ d4 ⟨bE,rfl⟩;have dO:=bK.ext bE;refine wd rfl (fun st=>AS (v:=.bool bL) (ee st rfl) r (ee st rfl))<|wa rfl (v:=.bool bL) rfl<|Af<|Bn<|Aa<|Ab<|wm rfl (v:=I f) x ?_;replace a:=AU a;obtain⟨c4,a⟩:=a;refine wd rfl (fun st=>Bx (ee st rfl) (ee st rfl) c4)<|wa rfl (v:=I (f+1)) rfl<|Af ?_;have cI:=(p.ext bE);have bQ:=(s.mv (Ah bE));refine Bt aG (Nat.lt_succ_self _) (fun st=>?_);exact⟨bL,(f+1),a,qz st,qd st,sp st 1 aA,sp st 2 u,sp st 5 aM,sp st 6 aB,sp st 7 rfl,sp st 8 rfl,dO,cI,bQ⟩
         ·replace a:=AD a r;refine Aj (c:=false) rfl rfl (Ac rfl r) (by decide) rfl (by decide)<|Aj (c:=false) rfl rfl (Ac rfl r) (by decide) rfl (by decide)<|Aj (c:=false) rfl rfl (Ac rfl r) (by decide) rfl (by decide)<|wd rfl (fun st=>Ba (v:=.bool false) (ee st rfl) r (ee st rfl))<|wa rfl (v:=.bool false) rfl<|Af<|Bn<|Aa<|Ab<|wm rfl (v:=I f) x ?_;replace a:=AU a;obtain⟨c5,a⟩:=a;refine wd rfl (fun st=>Bx (ee st rfl) (ee st rfl) c5)<|wa rfl (v:=I (f+1)) rfl<|Af ?_;refine Bt aG (Nat.lt_succ_self _) (fun st=>?_);exact⟨false,(f+1),a,qz st,qd st,sp st 1 aA,sp st 2 u,sp st 5 aM,sp st 6 aB,sp st 7 rfl,sp st 8 rfl,bK,p,s⟩
        ·replace a:=AD a l;refine Aj (c:=false) rfl rfl (Ac rfl l) (by decide) rfl (by decide)<|Aj (c:=false) rfl rfl (Ac rfl l) (by decide) rfl (by decide)<|Aj (c:=false) rfl rfl (Ac rfl l) (by decide) rfl (by decide)<|Aj (c:=false) rfl rfl (Ac rfl l) (by decide) rfl (by decide)<|wd rfl (fun st=>Ba (v:=.bool false) (ee st rfl) l (ee st rfl))<|wm rfl (v:=.bool false) rfl<|Aj rfl rfl rfl (by decide) rfl (by decide)<|Aj rfl rfl rfl (by decide) rfl (by decide)<|Aj rfl rfl rfl (by decide) rfl (by decide)<|wd rfl (fun st=>Ba (v:=.bool false) (ee st rfl) rfl (ee st rfl))<|wa rfl (v:=.bool false) rfl<|Af<|Bn<|Aa<|Ab<|wm rfl (v:=I f) x ?_;replace a:=AU a;obtain⟨c6,a⟩:=a;refine wd rfl (fun st=>Bx (ee st rfl) (ee st rfl) c6)<|wa rfl (v:=I (f+1)) rfl<|Af ?_;refine Bt aG (Nat.lt_succ_self _) (fun st=>?_);exact⟨false,(f+1),a,qz st,qd st,sp st 1 aA,sp st 2 u,sp st 5 aM,sp st 6 aB,sp st 7 rfl,sp st 8 rfl,bK,p,s⟩
       ·replace a:=AD a aU;refine AH rfl aU<|Cc<|AN<|AN ?_;obtain rfl:=Option.some.inj a;refine BQ (fun st=>?_);exact⟨rfl,qz st,qd st,sp st 1 aA,sp st 2 u,sp st 5 aM,sp st 6 aB,sp st 7 bA,bK,p,s⟩
     case cZ=>
      rintro aZ dQ dU (⟨rfl,b5,b6,bR,bS,bT,bU,bV,bM,bW,bB⟩);refine Ci (X:=X0) (N:=46) b5 b6<|Bs<|Aa<|Ae<|Ab<|wm rfl (v:=.bool z20) bV<|Af<|Aa ?_;rcases An (z20) with aV|aV
      ·replace a:=AB a aV;refine AA rfl aV<|Ae<|Ab<|wa rfl (v:=.bool false) rfl<|Af<|Aa<|AF<|AV<|Av<|Av ?_;obtain rfl:=Option.some.inj a;refine BQ (fun st=>?_);exact .inl ⟨rfl,false,rfl,qz st,qd st,sp st 4 rfl,bM⟩
      ·replace a:=AD a aV;refine AH rfl aV<|AW<|Bn<|Aa<|Ab<|wm rfl (v:=I e) bU ?_;replace a:=AU a;obtain⟨c7,a⟩:=a;refine wd rfl (fun st=>Bx (ee st rfl) (ee st rfl) c7)<|wa rfl (v:=I (e+1)) rfl<|Af ?_;refine Bt aG (Nat.lt_succ_self _) (fun st=>?_);exact⟨n,(e+1),a,qz st,qd st,sp st 1 bR,sp st 2 bS,sp st 5 bT,sp st 6 rfl,bM,bW,bB⟩
   ·replace a:=AD a a6;refine AH rfl a6<|Cc<|AN<|AN ?_;obtain rfl:=Option.some.inj a;refine BQ (fun st=>?_);exact .inr ⟨rfl,n,rfl,qz st,qd st,sp st 2 aQ,sp st 5 a2,cK,aJ,aH⟩
 case dC=>
  rintro aZ dV d5 (⟨rfl,aI,rfl,a4,a5,b7,bF⟩|⟨rfl,aI,rfl,a4,a5,b8,b9,bF,cA,c8⟩)
  ·skip
   replace a:=Eu a;refine Ci (X:=X0) (N:=46) a4 a5<|AV<|Av ?_;obtain rfl:=Option.some.inj a;refine AR rfl b7 ?_;exact⟨bF.Bu,rfl⟩
  ·skip
   replace a:=Ev a;refine Ci (X:=X0) (N:=46) a4 a5<|Bs<|Aa<|Ae<|Ab<|wm rfl (v:=I aI) b9<|wd rfl (fun st=>Am (ee st b8) (Mp _ _))<|wd rfl (fun st=>Au (v:=I b.Ao) AZ (ee st rfl) cA rfl)<|wd rfl (fun st=>Fz (ee st rfl) (ee st rfl))<|wa rfl (v:=.bool (decide (aI≤b.Ao))) rfl<|Af<|Aa<|AF ?_;obtain rfl:=Option.some.inj a;refine AR rfl rfl ?_;exact⟨bF.Bu,rfl⟩
theorem UD(aY:Nat)(c:Ap)(h:Option Addr)(j:Nat)(Z:Nat→Prop)(w:World)(aZ:Sl AM w Z h j c.Ad)(bI:(List Int))(a:D1 aY c=some bI):
 BL Tryz.prog 100 #[.agg #[I c.Ak,I c.Ai,I c.Ao,I c.Aw,.slice h c.Ad.length j]] w (fun v w'=>Ext w w'∧(DT (Az .i64)).R w' (ZZ FN [] Z w.heap.size []) v bI):=by
 unfold D1 at a;refine A8 (N:=22) Tryz.func100 rfl rfl (by simp) ?_;intro b5 bJ b6;have bA:=AL (i:=0) (v:=.agg #[I c.Ak,I c.Ai,I c.Ao,I c.Aw,.slice h c.Ad.length j]) bJ rfl;clear bJ;have a7:Hp FN [] w [] w:=Hp.start (BM.none w);have aM:=aZ.mv (Bj (Z:=Z) (L:=[]) w);refine Ae<|Ab<|we rfl (fun st=>B2 (v:=.agg #[I c.Ak,I c.Ai,I c.Ao,I c.Aw,.slice h c.Ad.length j]) (cs:= #[I c.Ak,I c.Ai,I c.Ao,I c.Aw,.slice h c.Ad.length j]) (ee st bA) rfl) ?_;rintro _ w1 ⟨o,rfl,aK⟩;have bK:=a7.nb aK;have b2:=a7.BK aK;refine wa rfl (v:=.slice none 0 0) rfl<|Af<|Aa<|Ae<|Ab<|wa rfl (v:=.slice none 0 0) rfl<|Af<|Aa<|Ae<|Ae<|Ab<|wa rfl (v:=I 0) rfl<|Af<|Aa<|A5 ?_;have bL:Hp FN [] w [none,some o] w1:=bK.nil;have bM:AG (Az .i64) 3 w.heap.size w1 (ZZ FN [] Z w.heap.size [none,some o]) none 0 ([]:List Int):=AG.nil _ _ _ _ _;replace a:=bind_some a;obtain⟨z2,aC,a⟩:=a;refine Ch (fun bN s aI=>(bN=.exit 0∧∃f m,s.tmps.size=22∧s.defers=(X0).ds∧sl s 3=.slice f z2.length m∧Hp FN [] w [ob f,some o] aI∧AG (Az .i64) 3 w.heap.size aI (ZZ FN [] Z w.heap.size [ob f,some o]) f m z2)) ?bO ?bP
 case bO=>
  clear a;refine Cg (fun(a0:Nat) (s:Act) (aI:World)=>∃g,∃b,∃d n,CM aY c a0 g b=some z2∧s.tmps.size=22∧s.defers=(X0).ds∧sl s 1=pt o 0∧sl s 3=.slice d g.length n∧sl s 4=I b∧Hp FN [] w [ob d,some o] aI∧AG (Az .i64) 3 w.heap.size aI (ZZ FN [] Z w.heap.size [ob d,some o]) d n g∧Bk aI o 63 #[I c.Ak,I c.Ai,I c.Ao,I c.Aw,.slice h c.Ad.length j]∧Sl AM aI (ZZ FN [] Z w.heap.size [ob d,some o]) h j c.Ad) aY ?bQ ?bR
  case bQ=>
   intro st;have a2:=aK.bk;have aN:Sl AM w1 (ZZ FN [] Z w.heap.size [none,some o]) h j c.Ad:=((aM.mv (Ay aK)).mv BY);exact⟨([]:List Int),(0:Int),none,0,aC,qz st,qd st,sp st 1 rfl,sp st 3 rfl,sp st 4 rfl,bL,bM,a2,aN⟩
  case bR=>
   rintro(_|a0) b7 b8 ⟨g,b,d,n,aC,bB,bC,z,aD,t,a9,p,u,q⟩
   ·exact absurd (show none=some _ from aC) (by simp)
   rw[CM.eq_2] at aC;have a:=aC;clear aC;refine B4 (N:=22) bB bC<|Ae<|Ae<|Ab<|wm rfl (v:=I b) t<|wd rfl (fun st=>Am (ee st z) (Gf _ _))<|wd rfl (fun st=>Au (v:=I c.Ak) AZ (ee st rfl) u rfl) ?_;replace a:=AU a;obtain⟨bS,a⟩:=a;refine wd rfl (fun st=>Bx (ee st rfl) (ee st rfl) bS) ?_;replace a:=HQ a;obtain⟨bT,a⟩:=a;refine wd rfl (fun st=>Jc (k:=.u64) PL Tryz.underlying32 (ee st rfl) bT) ?_;replace a:=IU a;obtain⟨bU,a⟩:=a;refine wd rfl (fun st=>M6 (ee st rfl) (ee st rfl) bU)<|wd rfl (fun st=>Ct (ee st rfl) (ee st rfl))<|Af<|Aa ?_;rcases An (decide (b<(FQ (1:Int) (c.Ak+1)))) with aF|aF
   ·replace a:=AB a aF;refine AA rfl aF<|AW<|Aa<|Ae<|A5<|Ae<|Ab<|wd rfl (fun st=>Bb (l:=[I c.Ak,I c.Ai,I c.Ao,I c.Aw,.slice h c.Ad.length j]) D9 (ee st z) u rfl rfl)<|wm rfl (v:=I b) t ?_;replace a:=bind_some a;obtain⟨bV,bW,a⟩:=a;refine we rfl (fun st=>AI Ug (ee st rfl) (Eo (ee st rfl) (ee st rfl)) (V5 aY c b h j ZA _ q.all bV bW)) ?_;rintro _ b3 ⟨x,rfl⟩;have aS:=a9.ext x;refine Af<|Aa ?_;rcases An (bV) with aA|aA
    ·replace a:=AB a aA;refine AA rfl aA<|Ab<|wm rfl (v:=.slice d g.length n) aD<|wm rfl (v:=I b) t<|we rfl (fun st=>BJ (e:=3) (vs:= #[(0,I b)]) (cs:= #[I b]) (Hu (ee st rfl)) (by kernel_rfl)) ?_;rintro _ bX ⟨aT,rfl,r⟩;have aG:=aS.nb r;have bY:=aS.BK r;have aO:AG (Az .i64) 3 w.heap.size bX (ZZ FN [] Z w.heap.size [some aT,ob d,some o]) d n g:=((p.ext x (Ah x)).ext r.gr (Ay r));replace a:=CY a;obtain⟨aU,a⟩:=a;refine we rfl (fun st=>Kk (ys:=[b]) Tryz.underlying23 GX rfl rfl (by decide) (ee st rfl) rfl (ee st rfl) aO (Md (Be:=[[I b]]) r.bk ⟨rfl,trivial⟩ rfl) (by have:=aU;simp only[maxLen];omega) (by have:=aU;omega) aG.sz (by simp)) ?_;rintro _ aH ⟨y,aL,rfl,aE,aJ,bD⟩;have bZ:Hp FN [] w [some aT,ob y,some o] aH:=aG.row aE 1 rfl aJ;have bE:AG (Az .i64) 3 w.heap.size aH (ZZ FN [] Z w.heap.size [some aT,ob y,some o]) y aL (g++[b]):=EP bD (aG.CQ aE 1 rfl (fun k bF=>(aJ k bF).1));refine wa rfl (v:=.slice y ((g++[b]).length) aL) rfl<|Af<|Bn<|Aa<|Ab<|wm rfl (v:=I b) t ?_;replace a:=AU a;obtain⟨bG,a⟩:=a;refine wd rfl (fun st=>Bx (ee st rfl) (ee st rfl) bG)<|wa rfl (v:=I (b+1)) rfl<|Af ?_;have b1:Hp FN [] w [ob y,some o] aH:=bZ.erase 0;have aV:AG (Az .i64) 3 w.heap.size aH (ZZ FN [] Z w.heap.size [ob y,some o]) y aL (g++[b]):=(bE.up (AO 0));have a3:=(((u.ext x).ext r.gr).gr aE (aG.ne 2 1 rfl rfl rfl));have aP:Sl AM aH (ZZ FN [] Z w.heap.size [ob y,some o]) h j c.Ad:=((((q.mv (Ah x)).mv (Ay r)).mv (aG.CQ aE 1 rfl (fun k bF=>(aJ k bF).1))).mv (AO 0));refine Bt a0 (Nat.lt_succ_self _) (fun st=>?_);exact⟨(g++[b]),(b+1),y,aL,a,qz st,qd st,sp st 1 z,sp st 3 rfl,sp st 4 rfl,b1,aV,a3,aP⟩
    ·replace a:=AD a aA;refine AH rfl aA<|AW<|Bn<|Aa<|Ab<|wm rfl (v:=I b) t ?_;replace a:=AU a;obtain⟨bH,a⟩:=a;refine wd rfl (fun st=>Bx (ee st rfl) (ee st rfl) bH)<|wa rfl (v:=I (b+1)) rfl<|Af ?_;have aQ:AG (Az .i64) 3 w.heap.size b3 (ZZ FN [] Z w.heap.size [ob d,some o]) d n g:=(p.ext x (Ah x));have a4:=(u.ext x);have aR:=(q.mv (Ah x));refine Bt a0 (Nat.lt_succ_self _) (fun st=>?_);exact⟨g,(b+1),d,n,a,qz st,qd st,sp st 1 z,sp st 3 aD,sp st 4 rfl,aS,aQ,a4,aR⟩
   ·replace a:=AD a aF;refine AH rfl aF<|Cc<|AN<|AN ?_;obtain rfl:=Option.some.inj a;refine BQ (fun st=>?_);exact⟨rfl,d,n,qz st,qd st,sp st 3 aD,a9,p⟩
 case bP=>
  rintro bN b4 b9 (⟨rfl,f,m,a5,a6,aW,aX,aB⟩);refine Ci (X:=X0) (N:=22) a5 a6<|Bs<|Aa<|Ae<|Ab<|wm rfl (v:=.slice f z2.length m) aW<|wa rfl (v:=.slice f z2.length m) rfl<|Af<|Aa<|AF ?_;obtain rfl:=Option.some.inj a;refine AR rfl rfl ?_;exact⟨aX.Bu,⟨_,_,rfl,aX.Iz (M:=[]) 0 rfl [] rfl trivial aB⟩⟩
theorem UE(aA:Nat)(a:Ap)(c:Option Addr)(d:Nat)(Z:Nat→Prop)(w:World)(aF:Sl AM w Z c d a.Ad)(aV:Int)(b:Dr aA a=some aV):
 BL Tryz.prog 81 #[.agg #[I a.Ak,I a.Ai,I a.Ao,I a.Aw,.slice c a.Ad.length d]] w (fun v w'=>Ext w w'∧(Em .i64).R w' (ZZ FN [] Z w.heap.size []) v aV):=by
 unfold Dr at b;refine A8 (N:=26) Tryz.func81 rfl rfl (by simp) ?_;intro bI aW bJ;have aO:=AL (i:=0) (v:=.agg #[I a.Ak,I a.Ai,I a.Ao,I a.Aw,.slice c a.Ad.length d]) aW rfl;clear aW;have aL:Hp FN [] w [] w:=Hp.start (BM.none w);have u:=aF.mv (Bj (Z:=Z) (L:=[]) w);refine Ae<|Ab<|we rfl (fun st=>B2 (v:=.agg #[I a.Ak,I a.Ai,I a.Ao,I a.Aw,.slice c a.Ad.length d]) (cs:= #[I a.Ak,I a.Ai,I a.Ao,I a.Aw,.slice c a.Ad.length d]) (ee st aO) rfl) ?_;rintro _ w1 ⟨x,rfl,q⟩;have aM:=aL.nb q;have bE:=aL.BK q;refine wa rfl (v:=I 0) rfl<|Af<|Aa<|Ae<|Ab<|wd rfl (fun st=>Bb (l:=[I a.Ak,I a.Ai,I a.Ao,I a.Aw,.slice c a.Ad.length d]) D9 (ee st rfl) q.bk rfl rfl) ?_;have m:=(u.mv (Ay q));replace b:=bind_some b;obtain⟨r2,aX,b⟩:=b;refine we rfl (fun st=>AI OQ (ee st rfl) (Cw (ee st rfl)) (UD aA a c d (ZZ FN [] Z w.heap.size [some x]) _ m r2 aX)) ?_;rintro _ bN ⟨aB,⟨bF,bG,rfl,r⟩⟩;have aY:=aM.ext aB;have r:=r.mv (aM.CA (Nat.le_refl _));refine wd rfl (fun st=>BH Tryz.underlying23 (ee st rfl))<|wa rfl (v:=I (r2.length:Int)) rfl<|Af<|Aa<|Ae<|Ae<|Ab<|wa rfl (v:=I 0) rfl<|Af<|Aa<|A5 ?_;replace b:=bind_some b;obtain⟨z4,n,b⟩:=b;refine Ch (fun aZ f aC=>(aZ=.exit 0∧f.tmps.size=26∧f.defers=(X0).ds∧sl f 3=I z4∧Hp FN [] w [some x] aC)) ?a0 ?a2
 case a0=>
  clear b;refine Cg (fun(aP:Nat) (f:Act) (aC:World)=>∃g,∃e,DK aA a aP g e=some z4∧f.tmps.size=26∧f.defers=(X0).ds∧sl f 1=pt x 0∧sl f 3=I g∧sl f 4=I e∧Hp FN [] w [some x] aC∧Bk aC x 63 #[I a.Ak,I a.Ai,I a.Ao,I a.Aw,.slice c a.Ad.length d]∧Sl AM aC (ZZ FN [] Z w.heap.size [some x]) c d a.Ad) aA ?a3 ?a4
  case a3=>
   intro st;have aG:=(q.bk.ext aB);have y:=(m.mv (Ah aB));exact⟨(r2.length:Int),(0:Int),n,qz st,qd st,sp st 1 rfl,sp st 3 rfl,sp st 4 rfl,aY,aG,y⟩
  case a4=>
   rintro(_|aP) bK bL ⟨g,e,n,aQ,aR,o,t,p,aN,h,j⟩
   ·exact absurd (show none=some _ from n) (by simp)
   rw[DK.eq_2] at n;have b:=n;clear n;refine B4 (N:=26) aQ aR<|Ae<|Ae<|Ab<|wm rfl (v:=I e) p<|wd rfl (fun st=>Am (ee st o) (Eb _ _))<|wd rfl (fun st=>Au (v:=.slice c a.Ad.length d) EX (ee st rfl) h rfl)<|wd rfl (fun st=>BH Tryz.underlying61 (ee st rfl))<|wd rfl (fun st=>Ct (ee st rfl) (ee st rfl))<|Af<|Aa ?_;rcases An (decide (e<(a.Ad.length:Int))) with s|s
   ·replace b:=AB b s;refine AA rfl s<|AW<|Aa<|Ae<|A5<|Ab<|wm rfl (v:=I g) t<|wd rfl (fun st=>Am (ee st o) (Eb _ _))<|wd rfl (fun st=>Au (v:=.slice c a.Ad.length d) EX (ee st rfl) h rfl)<|wm rfl (v:=I e) p ?_;replace b:=Bq b;obtain⟨i6,aH,a5,a6,a7,b⟩:=b;obtain⟨bO,bP,_,a9,rfl,bA⟩:=Sl.elem j (by decide) a6;refine wd rfl (fun st=>B3 (k:=i6) Tryz.underlying61 H3 (ee st rfl) a9 (ee st rfl) a5 a7)<|wd rfl (fun st=>Am (ee st rfl) (NW _ _ _))<|wd rfl (fun st=>DH (l:=[I aH.Ar,I aH.AE]) Jn (ee st rfl) bA rfl rfl) ?_;replace b:=bind_some b;obtain⟨aS,bB,b⟩:=b;refine we rfl (fun st=>AI Mq (ee st rfl) (Cw (ee st rfl)) (RQ aA (⟨aH.Ar,aH.AE⟩:CE) ZA _ aS bB)) ?_;rintro _ bQ ⟨aD,rfl⟩;have bC:=aN.ext aD;replace b:=AU b;obtain⟨bD,b⟩:=b;refine wd rfl (fun st=>RV (ee st rfl) (ee st rfl) bD)<|wd rfl (fun st=>RW (ee st rfl) (ee st rfl))<|wa rfl (v:=I (min (3000:Int) (g*aS))) rfl<|Af<|Bn<|Aa<|Ab<|wm rfl (v:=I e) p ?_;replace b:=AU b;obtain⟨aT,b⟩:=b;refine wd rfl (fun st=>Bx (ee st rfl) (ee st rfl) aT)<|wa rfl (v:=I (e+1)) rfl<|Af ?_;have aI:=(h.ext aD);have z:=(j.mv (Ah aD));refine Bt aP (Nat.lt_succ_self _) (fun st=>?_);exact⟨(min (3000:Int) (g*aS)),(e+1),b,qz st,qd st,sp st 1 o,sp st 3 rfl,sp st 4 rfl,bC,aI,z⟩
   ·replace b:=AD b s;refine AH rfl s<|Cc<|AN<|AN ?_;obtain rfl:=Option.some.inj b;refine BQ (fun st=>?_);exact⟨rfl,qz st,qd st,sp st 3 t,aN⟩
 case a2=>
  rintro aZ bH bM (⟨rfl,aJ,aK,aE,aU⟩);refine Ci (X:=X0) (N:=26) aJ aK<|Bs<|Aa<|Ae<|Ab<|wm rfl (v:=I z4) aE<|wa rfl (v:=I z4) rfl<|Af<|Aa<|AF ?_;obtain rfl:=Option.some.inj b;refine AR rfl rfl ?_;exact⟨aU.Bu,rfl⟩
theorem Vt(aS:Nat)(b:Ap)(j:Option Addr)(m:Nat)(Z:Nat→Prop)(w:World)(bS:Sl AM w Z j m b.Ad)(cZ:Int)(a:Ex aS b=some cZ):
 BL Tryz.prog 80 #[.agg #[I b.Ak,I b.Ai,I b.Ao,I b.Aw,.slice j b.Ad.length m]] w (fun v w'=>Ext w w'∧(Em .i64).R w' (ZZ FN [] Z w.heap.size []) v cZ):=by
 unfold Ex at a;refine A8 (N:=101) Tryz.func80 rfl rfl (by simp) ?_;intro dE c0 dF;have b1:=AL (i:=0) (v:=.agg #[I b.Ak,I b.Ai,I b.Ao,I b.Aw,.slice j b.Ad.length m]) c0 rfl;clear c0;have bW:Hp FN [] w [] w:=Hp.start (BM.none w);have bA:=bS.mv (Bj (Z:=Z) (L:=[]) w);refine Ae<|Ab<|we rfl (fun st=>B2 (v:=.agg #[I b.Ak,I b.Ai,I b.Ao,I b.Aw,.slice j b.Ad.length m]) (cs:= #[I b.Ak,I b.Ai,I b.Ao,I b.Aw,.slice j b.Ad.length m]) (ee st b1) rfl) ?_;rintro _ w1 ⟨x,rfl,y⟩;have aO:=bW.nb y;have c9:=bW.BK y;refine wa rfl (v:=I 0) rfl<|Af<|Aa<|Ae<|Ae<|Ab<|wd rfl (fun st=>Am (ee st rfl) (Gf _ _))<|wd rfl (fun st=>Au (v:=I b.Ak) AZ (ee st rfl) y.bk rfl)<|wd rfl (fun st=>FP (ee st rfl) (ee st rfl))<|wm rfl (v:=.bool (decide ((9:Int)<b.Ak))) rfl ?_;rcases An (decide ((9:Int)<b.Ak)) with z|z
 ·replace a:=AB a z;refine Aj (c:=true) rfl rfl (Ac rfl z) (by decide) rfl (by decide)<|Aj (c:=true) rfl rfl (Ac rfl z) (by decide) rfl (by decide)<|Aj (c:=true) rfl rfl (Ac rfl z) (by decide) rfl (by decide)<|wd rfl (fun st=>AS (v:=.bool true) (ee st rfl) z (ee st rfl))<|wm rfl (v:=.bool true) rfl<|Aj rfl rfl rfl (by decide) rfl (by decide)<|Aj rfl rfl rfl (by decide) rfl (by decide)<|Aj rfl rfl rfl (by decide) rfl (by decide)<|Aj rfl rfl rfl (by decide) rfl (by decide)<|wd rfl (fun st=>AS (v:=.bool true) (ee st rfl) rfl (ee st rfl))<|Af<|Aa<|AA rfl rfl<|Ae<|Ab<|wa rfl (v:=I 3) rfl<|Af<|Aa<|AF<|Av ?_;obtain rfl:=Option.some.inj a;refine AR rfl rfl ?_;exact⟨aO.Bu,rfl⟩
 ·replace a:=AD a z;refine Aq rfl rfl (Ac rfl z) rfl (by decide) (fun st=>Am (ee st rfl) (Il _ _))<|Aq rfl rfl (Ac rfl z) rfl (by decide) (fun st=>Au (v:=I b.Ai) AZ (ee st rfl) y.bk rfl)<|Aq rfl rfl (Ac rfl z) rfl (by decide) (fun st=>FP (ee st rfl) (ee st rfl))<|wd rfl (fun st=>Ba (v:=.bool (decide ((2:Int)<b.Ai))) (ee st rfl) z (ee st rfl))<|wm rfl (v:=.bool (decide ((2:Int)<b.Ai))) rfl ?_;rcases An (decide ((2:Int)<b.Ai)) with s|s
  ·replace a:=AB a s;refine Aj (c:=true) rfl rfl (Ac rfl s) (by decide) rfl (by decide)<|Aj (c:=true) rfl rfl (Ac rfl s) (by decide) rfl (by decide)<|Aj (c:=true) rfl rfl (Ac rfl s) (by decide) rfl (by decide)<|Aj (c:=true) rfl rfl (Ac rfl s) (by decide) rfl (by decide)<|wd rfl (fun st=>AS (v:=.bool true) (ee st rfl) s (ee st rfl))<|Af<|Aa<|AA rfl rfl<|Ae<|Ab<|wa rfl (v:=I 3) rfl<|Af<|Aa<|AF<|Av ?_;obtain rfl:=Option.some.inj a;refine AR rfl rfl ?_;exact⟨aO.Bu,rfl⟩
  ·replace a:=AD a s;refine Aq rfl rfl (Ac rfl s) rfl (by decide) (fun st=>Am (ee st rfl) (Eb _ _))<|Aq rfl rfl (Ac rfl s) rfl (by decide) (fun st=>Au (v:=.slice j b.Ad.length m) EX (ee st rfl) y.bk rfl)<|Aq rfl rfl (Ac rfl s) rfl (by decide) (fun st=>BH Tryz.underlying61 (ee st rfl))<|Aq rfl rfl (Ac rfl s) rfl (by decide) (fun st=>FP (ee st rfl) (ee st rfl))<|wd rfl (fun st=>Ba (v:=.bool (decide ((4:Int)<(b.Ad.length:Int)))) (ee st rfl) s (ee st rfl))<|Af<|Aa ?_;rcases An (decide ((4:Int)<(b.Ad.length:Int))) with aX|aX
   ·replace a:=AB a aX;refine AA rfl aX<|Ae<|Ab<|wa rfl (v:=I 3) rfl<|Af<|Aa<|AF<|Av ?_;obtain rfl:=Option.some.inj a;refine AR rfl rfl ?_;exact⟨aO.Bu,rfl⟩
   ·replace a:=AD a aX;refine AH rfl aX<|AW<|Aa<|Ae<|Ae<|Ab<|wd rfl (fun st=>Am (ee st rfl) (Gf _ _))<|wd rfl (fun st=>Au (v:=I b.Ak) AZ (ee st rfl) y.bk rfl)<|wd rfl (fun st=>Ct (ee st rfl) (ee st rfl))<|wm rfl (v:=.bool (decide (b.Ak<0))) rfl ?_;rcases An (decide (b.Ak<0)) with aA|aA
    ·replace a:=AB a aA;refine Aj (c:=true) rfl rfl (Ac rfl aA) (by decide) rfl (by decide)<|Aj (c:=true) rfl rfl (Ac rfl aA) (by decide) rfl (by decide)<|Aj (c:=true) rfl rfl (Ac rfl aA) (by decide) rfl (by decide)<|wd rfl (fun st=>AS (v:=.bool true) (ee st rfl) aA (ee st rfl))<|wm rfl (v:=.bool true) rfl<|Aj rfl rfl rfl (by decide) rfl (by decide)<|Aj rfl rfl rfl (by decide) rfl (by decide)<|Aj rfl rfl rfl (by decide) rfl (by decide)<|Aj rfl rfl rfl (by decide) rfl (by decide)<|Aj rfl rfl rfl (by decide) rfl (by decide)<|Aj rfl rfl rfl (by decide) rfl (by decide)<|Aj rfl rfl rfl (by decide) rfl (by decide)<|wd rfl (fun st=>AS (v:=.bool true) (ee st rfl) rfl (ee st rfl))<|wm rfl (v:=.bool true) rfl<|Aj rfl rfl rfl (by decide) rfl (by decide)<|Aj rfl rfl rfl (by decide) rfl (by decide)<|Aj rfl rfl rfl (by decide) rfl (by decide)<|Aj rfl rfl rfl (by decide) rfl (by decide)<|Aj rfl rfl rfl (by decide) rfl (by decide)<|Aj rfl rfl rfl (by decide) rfl (by decide)<|Aj rfl rfl rfl (by decide) rfl (by decide)<|wd rfl (fun st=>AS (v:=.bool true) (ee st rfl) rfl (ee st rfl))<|Af<|Aa<|AA rfl rfl<|Ae<|Ab<|wa rfl (v:=I 1) rfl<|Af<|Aa<|AF<|Av ?_;obtain rfl:=Option.some.inj a;refine AR rfl rfl ?_;exact⟨aO.Bu,rfl⟩
    ·replace a:=AD a aA;refine Aq rfl rfl (Ac rfl aA) rfl (by decide) (fun st=>Am (ee st rfl) (Il _ _))<|Aq rfl rfl (Ac rfl aA) rfl (by decide) (fun st=>Au (v:=I b.Ai) AZ (ee st rfl) y.bk rfl)<|Aq rfl rfl (Ac rfl aA) rfl (by decide) (fun st=>Ct (ee st rfl) (ee st rfl))<|wd rfl (fun st=>Ba (v:=.bool (decide (b.Ai<1))) (ee st rfl) aA (ee st rfl))<|wm rfl (v:=.bool (decide (b.Ai<1))) rfl ?_;rcases An (decide (b.Ai<1)) with p|p
     ·replace a:=AB a p;refine Aj (c:=true) rfl rfl (Ac rfl p) (by decide) rfl (by decide)<|Aj (c:=true) rfl rfl (Ac rfl p) (by decide) rfl (by decide)<|Aj (c:=true) rfl rfl (Ac rfl p) (by decide) rfl (by decide)<|Aj (c:=true) rfl rfl (Ac rfl p) (by decide) rfl (by decide)<|Aj (c:=true) rfl rfl (Ac rfl p) (by decide) rfl (by decide)<|Aj (c:=true) rfl rfl (Ac rfl p) (by decide) rfl (by decide)<|Aj (c:=true) rfl rfl (Ac rfl p) (by decide) rfl (by decide)<|wd rfl (fun st=>AS (v:=.bool true) (ee st rfl) p (ee st rfl))<|wm rfl (v:=.bool true) rfl<|Aj rfl rfl rfl (by decide) rfl (by decide)<|Aj rfl rfl rfl (by decide) rfl (by decide)<|Aj rfl rfl rfl (by decide) rfl (by decide)<|Aj rfl rfl rfl (by decide) rfl (by decide)<|Aj rfl rfl rfl (by decide) rfl (by decide)<|Aj rfl rfl rfl (by decide) rfl (by decide)<|Aj rfl rfl rfl (by decide) rfl (by decide)<|wd rfl (fun st=>AS (v:=.bool true) (ee st rfl) rfl (ee st rfl))<|Af<|Aa<|AA rfl rfl<|Ae<|Ab<|wa rfl (v:=I 1) rfl<|Af<|Aa<|AF<|Av ?_;obtain rfl:=Option.some.inj a;refine AR rfl rfl ?_;exact⟨aO.Bu,rfl⟩
     ·replace a:=AD a p;refine Aq rfl rfl (Ac rfl p) rfl (by decide) (fun st=>Am (ee st rfl) (Mp _ _))<|Aq rfl rfl (Ac rfl p) rfl (by decide) (fun st=>Au (v:=I b.Ao) AZ (ee st rfl) y.bk rfl)<|Aq rfl rfl (Ac rfl p) rfl (by decide) (fun st=>Am (ee st rfl) (Gf _ _))<|Aq rfl rfl (Ac rfl p) rfl (by decide) (fun st=>Au (v:=I b.Ak) AZ (ee st rfl) y.bk rfl) ?_;replace a:=AU a;obtain⟨c1,a⟩:=a;refine Aq rfl rfl (Ac rfl p) rfl (by decide) (fun st=>Bx (ee st rfl) (ee st rfl) c1) ?_;replace a:=bind_some a;obtain⟨bB,c2,a⟩:=a;refine Dp rfl rfl (Ac rfl p) rfl (by decide) (fun st=>AI H4 (ee st rfl) (E3 (ee st rfl) (ee st rfl) (ee st rfl)) (a46 aS b.Ao 0 (b.Ak+1) ZA _ bB c2)) ?_;rintro _ dM ⟨bH,rfl⟩;have bX:=aO.ext bH;refine Aq rfl rfl (Ac rfl p) rfl (by decide) (fun st=>CV (ee st rfl))<|wd rfl (fun st=>Ba (v:=.bool !bB) (ee st rfl) p (ee st rfl))<|wm rfl (v:=.bool !bB) rfl ?_;rcases An (!bB) with e|e
      ·replace a:=AB a e;have cP:bB=false:=by simpa using e
       refine Aj (c:=true) rfl rfl (Ac rfl e) (by decide) rfl (by decide)<|Aj (c:=true) rfl rfl (Ac rfl e) (by decide) rfl (by decide)<|Aj (c:=true) rfl rfl (Ac rfl e) (by decide) rfl (by decide)<|Aj (c:=true) rfl rfl (Ac rfl e) (by decide) rfl (by decide)<|Aj (c:=true) rfl rfl (Ac rfl e) (by decide) rfl (by decide)<|Aj (c:=true) rfl rfl (Ac rfl e) (by decide) rfl (by decide)<|Aj (c:=true) rfl rfl (Ac rfl e) (by decide) rfl (by decide)<|wd rfl (fun st=>AS (v:=.bool true) (ee st rfl) e (ee st rfl))<|Af<|Aa<|AA rfl rfl<|Ae<|Ab<|wa rfl (v:=I 1) rfl<|Af<|Aa<|AF<|Av ?_;obtain rfl:=Option.some.inj a;refine AR rfl rfl ?_;exact⟨bX.Bu,rfl⟩
      ·replace a:=AD a e;have cQ:bB=true:=by simpa using e
       refine Aq rfl rfl (Ac rfl e) rfl (by decide) (fun st=>Am (ee st rfl) (K1 _ _)) ?_;have aT:=(y.bk.ext bH);refine Aq rfl rfl (Ac rfl e) rfl (by decide) (fun st=>Au (v:=I b.Aw) AZ (ee st rfl) aT rfl)<|Aq rfl rfl (Ac rfl e) rfl (by decide) (fun st=>Am (ee st rfl) (Gf _ _))<|Aq rfl rfl (Ac rfl e) rfl (by decide) (fun st=>Au (v:=I b.Ak) AZ (ee st rfl) aT rfl) ?_;replace a:=AU a;obtain⟨b2,a⟩:=a;refine Aq rfl rfl (Ac rfl e) rfl (by decide) (fun st=>Bx (ee st rfl) (ee st rfl) b2) ?_;replace a:=bind_some a;obtain⟨aY,b3,a⟩:=a;refine Dp rfl rfl (Ac rfl e) rfl (by decide) (fun st=>AI H4 (ee st rfl) (E3 (ee st rfl) (ee st rfl) (ee st rfl)) (a46 aS b.Aw 0 (b.Ak+1) ZA _ aY b3)) ?_;rintro _ dG ⟨a4,rfl⟩;have bY:=bX.ext a4;refine Aq rfl rfl (Ac rfl e) rfl (by decide) (fun st=>CV (ee st rfl))<|wd rfl (fun st=>Ba (v:=.bool !aY) (ee st rfl) e (ee st rfl))<|Af<|Aa ?_;rcases An (!aY) with aE|aE
       ·replace a:=AB a aE;have cR:aY=false:=by simpa using aE
        refine AA rfl aE<|Ae<|Ab<|wa rfl (v:=I 1) rfl<|Af<|Aa<|AF<|Av ?_;obtain rfl:=Option.some.inj a;refine AR rfl rfl ?_;exact⟨bY.Bu,rfl⟩
       ·replace a:=AD a aE;have cS:aY=true:=by simpa using aE
        refine AH rfl aE<|AW<|Aa<|Ae<|Ae<|Ab<|wa rfl (v:=I 0) rfl<|Af<|Aa<|A5 ?_;replace a:=bind_some a;obtain⟨bI,aG,a⟩:=a;refine Ch (fun b4 aB aZ=>(b4=.ret∧∃aH,bI=.inl aH∧aB.tmps.size=101∧aB.defers=(X0).ds∧sl aB 2=I aH∧Hp FN [] w [some x] aZ)∨(b4=.exit 0∧∃aH,bI=.inr aH∧aB.tmps.size=101∧aB.defers=(X0).ds∧sl aB 1=pt x 0∧Hp FN [] w [some x] aZ∧Bk aZ x 63 #[I b.Ak,I b.Ai,I b.Ao,I b.Aw,.slice j b.Ad.length m]∧Sl AM aZ (ZZ FN [] Z w.heap.size [some x]) j m b.Ad)) ?b5 ?b6
        case b5=>
         clear a;refine Cg (fun(b7:Nat) (aB:Act) (aZ:World)=>∃r,Dk aS b b7 r=some bI∧aB.tmps.size=101∧aB.defers=(X0).ds∧sl aB 1=pt x 0∧sl aB 3=I r∧Hp FN [] w [some x] aZ∧Bk aZ x 63 #[I b.Ak,I b.Ai,I b.Ao,I b.Aw,.slice j b.Ad.length m]∧Sl AM aZ (ZZ FN [] Z w.heap.size [some x]) j m b.Ad) aS ?b8 ?b9
         case b8=>
          intro st;have bT:=(aT.ext a4);have bC:=(((bA.mv (Ay y)).mv (Ah bH)).mv (Ah a4));exact⟨(0:Int),aG,qz st,qd st,sp st 1 rfl,sp st 3 rfl,bY,bT,bC⟩
         case b9=>
          rintro(_|b7) dB dC ⟨r,aG,bU,bV,t,aI,bJ,aD,aC⟩
          ·exact absurd (show none=some _ from aG) (by simp)
          rw[Dk.eq_2] at aG;have a:=aG;clear aG;refine B4 (N:=101) bU bV<|Ae<|Ae<|Ab<|wm rfl (v:=I r) aI<|wd rfl (fun st=>Am (ee st t) (Eb _ _))<|wd rfl (fun st=>Au (v:=.slice j b.Ad.length m) EX (ee st rfl) aD rfl)<|wd rfl (fun st=>BH Tryz.underlying61 (ee st rfl))<|wd rfl (fun st=>Ct (ee st rfl) (ee st rfl))<|Af<|Aa ?_;rcases An (decide (r<(b.Ad.length:Int))) with aJ|aJ
          ·replace a:=AB a aJ;refine AA rfl aJ<|AW<|Aa<|Ae<|A5<|Ae<|Ab<|wd rfl (fun st=>Am (ee st t) (Eb _ _))<|wd rfl (fun st=>Au (v:=.slice j b.Ad.length m) EX (ee st rfl) aD rfl)<|wm rfl (v:=I r) aI ?_;replace a:=Bq a;obtain⟨i21,d,cA,cB,cC,a⟩:=a;obtain⟨dH,dI,_,cD,rfl,cE⟩:=Sl.elem aC (by decide) cB;refine wd rfl (fun st=>B3 (k:=i21) Tryz.underlying61 H3 (ee st rfl) cD (ee st rfl) cA cC)<|wd rfl (fun st=>DH (l:=[I d.Ar,I d.AE,I d.AP,I d.Ce,I d.BZ]) OR (ee st rfl) cE rfl rfl)<|we rfl (fun st=>BO (cs:= #[I 0,I 0,I 0,I 0,I 0]) NX rfl) ?_;rintro _ dJ ⟨dK,rfl,aK⟩;have bK:=bJ.nb aK;have c3:=bJ.BK aK;refine Bo rfl rfl (fun st=>Bd (n:=5) (l:=[I d.Ar,I d.AE,I d.AP,I d.Ce,I d.BZ]) (Cf:= #[I d.Ar,I d.AE,I d.AP,I d.Ce,I d.BZ]) (ee st rfl) (ee st rfl) H3 aK.bk rfl rfl (show 0+5≤5 by decide) (AQ rfl) rfl) ?_;rintro _ bL u;have a7:=bK.gr u.gr 0 rfl;refine Af<|Aa<|Ae<|Ab<|wd rfl (fun st=>Am (ee st rfl) (IK _ _))<|wd rfl (fun st=>Am (ee st rfl) (IJ _ _))<|wd rfl (fun st=>Au (v:=I d.Ar) AZ (ee st rfl) u.bk rfl)<|wd rfl (fun st=>Ct (ee st rfl) (ee st rfl))<|wm rfl (v:=.bool (decide (d.Ar<0))) rfl ?_;rcases An (decide (d.Ar<0)) with f|f
           ·replace a:=AB a f;refine Aj (c:=true) rfl rfl (Ac rfl f) (by decide) rfl (by decide)<|Aj (c:=true) rfl rfl (Ac rfl f) (by decide) rfl (by decide)<|Aj (c:=true) rfl rfl (Ac rfl f) (by decide) rfl (by decide)<|Aj (c:=true) rfl rfl (Ac rfl f) (by decide) rfl (by decide)<|Aj (c:=true) rfl rfl (Ac rfl f) (by decide) rfl (by decide)<|Aj (c:=true) rfl rfl (Ac rfl f) (by decide) rfl (by decide)<|Aj (c:=true) rfl rfl (Ac rfl f) (by decide) rfl (by decide)<|wd rfl (fun st=>AS (v:=.bool true) (ee st rfl) f (ee st rfl))<|wm rfl (v:=.bool true) rfl<|Aj rfl rfl rfl (by decide) rfl (by decide)<|Aj rfl rfl rfl (by decide) rfl (by decide)<|Aj rfl rfl rfl (by decide) rfl (by decide)<|Aj rfl rfl rfl (by decide) rfl (by decide)<|Aj rfl rfl rfl (by decide) rfl (by decide)<|Aj rfl rfl rfl (by decide) rfl (by decide)<|wd rfl (fun st=>AS (v:=.bool true) (ee st rfl) rfl (ee st rfl))<|wm rfl (v:=.bool true) rfl<|Aj rfl rfl rfl (by decide) rfl (by decide)<|Aj rfl rfl rfl (by decide) rfl (by decide)<|Aj rfl rfl rfl (by decide) rfl (by decide)<|Aj rfl rfl rfl (by decide) rfl (by decide)<|wd rfl (fun st=>AS (v:=.bool true) (ee st rfl) rfl (ee st rfl))<|wm rfl (v:=.bool true) rfl<|Aj rfl rfl rfl (by decide) rfl (by decide)<|Aj rfl rfl rfl (by decide) rfl (by decide)<|Aj rfl rfl rfl (by decide) rfl (by decide)<|Aj rfl rfl rfl (by decide) rfl (by decide)<|wd rfl (fun st=>AS (v:=.bool true) (ee st rfl) rfl (ee st rfl))<|wm rfl (v:=.bool true) rfl<|Aj rfl rfl rfl (by decide) rfl (by decide)<|Aj rfl rfl rfl (by decide) rfl (by decide)<|Aj rfl rfl rfl (by decide) rfl (by decide)<|Aj rfl rfl rfl (by decide) rfl (by decide)<|Aj rfl rfl rfl (by decide) rfl (by decide)<|Aj rfl rfl rfl (by decide) rfl (by decide)<|wd rfl (fun st=>AS (v:=.bool true) (ee st rfl) rfl (ee st rfl))<|Af<|Aa<|AA rfl rfl<|Ae ?_;refine Ab<|wa rfl (v:=I 1) rfl<|Af<|Aa<|AF<|AV<|Av<|Av ?_;have c4:Hp FN [] w [some x] bL:=a7.erase 0;obtain rfl:=Option.some.inj a;refine BQ (fun st=>?_);exact .inl ⟨rfl,(1:Int),rfl,qz st,qd st,sp st 2 rfl,c4⟩
           ·replace a:=AD a f;refine Aq rfl rfl (Ac rfl f) rfl (by decide) (fun st=>Am (ee st rfl) (IK _ _))<|Aq rfl rfl (Ac rfl f) rfl (by decide) (fun st=>Am (ee st rfl) (IJ _ _))<|Aq rfl rfl (Ac rfl f) rfl (by decide) (fun st=>Au (v:=I d.Ar) AZ (ee st rfl) u.bk rfl)<|Aq rfl rfl (Ac rfl f) rfl (by decide) (fun st=>Am (ee st rfl) (IK _ _))<|Aq rfl rfl (Ac rfl f) rfl (by decide) (fun st=>Am (ee st rfl) (JY _ _))<|Aq rfl rfl (Ac rfl f) rfl (by decide) (fun st=>Au (v:=I d.AE) AZ (ee st rfl) u.bk rfl)<|Aq rfl rfl (Ac rfl f) rfl (by decide) (fun st=>FP (ee st rfl) (ee st rfl))<|wd rfl (fun st=>Ba (v:=.bool (decide (d.AE<d.Ar))) (ee st rfl) f (ee st rfl))<|wm rfl (v:=.bool (decide (d.AE<d.Ar))) rfl ?_;rcases An (decide (d.AE<d.Ar)) with h|h
            ·replace a:=AB a h;refine Aj (c:=true) rfl rfl (Ac rfl h) (by decide) rfl (by decide)<|Aj (c:=true) rfl rfl (Ac rfl h) (by decide) rfl (by decide)<|Aj (c:=true) rfl rfl (Ac rfl h) (by decide) rfl (by decide)<|Aj (c:=true) rfl rfl (Ac rfl h) (by decide) rfl (by decide)<|Aj (c:=true) rfl rfl (Ac rfl h) (by decide) rfl (by decide)<|Aj (c:=true) rfl rfl (Ac rfl h) (by decide) rfl (by decide)<|wd rfl (fun st=>AS (v:=.bool true) (ee st rfl) h (ee st rfl))<|wm rfl (v:=.bool true) rfl<|Aj rfl rfl rfl (by decide) rfl (by decide)<|Aj rfl rfl rfl (by decide) rfl (by decide)<|Aj rfl rfl rfl (by decide) rfl (by decide)<|Aj rfl rfl rfl (by decide) rfl (by decide)<|wd rfl (fun st=>AS (v:=.bool true) (ee st rfl) rfl (ee st rfl))<|wm rfl (v:=.bool true) rfl<|Aj rfl rfl rfl (by decide) rfl (by decide)<|Aj rfl rfl rfl (by decide) rfl (by decide)<|Aj rfl rfl rfl (by decide) rfl (by decide)<|Aj rfl rfl rfl (by decide) rfl (by decide)<|wd rfl (fun st=>AS (v:=.bool true) (ee st rfl) rfl (ee st rfl))<|wm rfl (v:=.bool true) rfl<|Aj rfl rfl rfl (by decide) rfl (by decide)<|Aj rfl rfl rfl (by decide) rfl (by decide)<|Aj rfl rfl rfl (by decide) rfl (by decide)<|Aj rfl rfl rfl (by decide) rfl (by decide)<|Aj rfl rfl rfl (by decide) rfl (by decide)<|Aj rfl rfl rfl (by decide) rfl (by decide)<|wd rfl (fun st=>AS (v:=.bool true) (ee st rfl) rfl (ee st rfl))<|Af<|Aa<|AA rfl rfl<|Ae<|Ab<|wa rfl (v:=I 1) rfl<|Af<|Aa<|AF<|AV<|Av<|Av ?_;have c5:Hp FN [] w [some x] bL:=a7.erase 0;obtain rfl:=Option.some.inj a;refine BQ (fun st=>?_);exact .inl ⟨rfl,(1:Int),rfl,qz st,qd st,sp st 2 rfl,c5⟩
            ·replace a:=AD a h;refine Aq rfl rfl (Ac rfl h) rfl (by decide) (fun st=>Am (ee st rfl) (IK _ _))<|Aq rfl rfl (Ac rfl h) rfl (by decide) (fun st=>Am (ee st rfl) (JY _ _))<|Aq rfl rfl (Ac rfl h) rfl (by decide) (fun st=>Au (v:=I d.AE) AZ (ee st rfl) u.bk rfl)<|Aq rfl rfl (Ac rfl h) rfl (by decide) (fun st=>Am (ee st t) (Gf _ _)) ?_;have a9:=((aD.ext aK.gr).gr u.gr (bK.ne 1 0 rfl rfl rfl));refine Aq rfl rfl (Ac rfl h) rfl (by decide) (fun st=>Au (v:=I b.Ak) AZ (ee st rfl) a9 rfl)<|Aq rfl rfl (Ac rfl h) rfl (by decide) (fun st=>FP (ee st rfl) (ee st rfl))<|wd rfl (fun st=>Ba (v:=.bool (decide (b.Ak<d.AE))) (ee st rfl) h (ee st rfl))<|wm rfl (v:=.bool (decide (b.Ak<d.AE))) rfl ?_;rcases An (decide (b.Ak<d.AE)) with q|q
             ·replace a:=AB a q;refine Aj (c:=true) rfl rfl (Ac rfl q) (by decide) rfl (by decide)<|Aj (c:=true) rfl rfl (Ac rfl q) (by decide) rfl (by decide)<|Aj (c:=true) rfl rfl (Ac rfl q) (by decide) rfl (by decide)<|Aj (c:=true) rfl rfl (Ac rfl q) (by decide) rfl (by decide)<|wd rfl (fun st=>AS (v:=.bool true) (ee st rfl) q (ee st rfl))<|wm rfl (v:=.bool true) rfl<|Aj rfl rfl rfl (by decide) rfl (by decide)<|Aj rfl rfl rfl (by decide) rfl (by decide)<|Aj rfl rfl rfl (by decide) rfl (by decide)<|Aj rfl rfl rfl (by decide) rfl (by decide)<|wd rfl (fun st=>AS (v:=.bool true) (ee st rfl) rfl (ee st rfl))<|wm rfl (v:=.bool true) rfl<|Aj rfl rfl rfl (by decide) rfl (by decide)<|Aj rfl rfl rfl (by decide) rfl (by decide)<|Aj rfl rfl rfl (by decide) rfl (by decide)<|Aj rfl rfl rfl (by decide) rfl (by decide)<|Aj rfl rfl rfl (by decide) rfl (by decide)<|Aj rfl rfl rfl (by decide) rfl (by decide)<|wd rfl (fun st=>AS (v:=.bool true) (ee st rfl) rfl (ee st rfl))<|Af<|Aa<|AA rfl rfl<|Ae<|Ab<|wa rfl (v:=I 1) rfl<|Af<|Aa<|AF<|AV<|Av<|Av ?_;have c6:Hp FN [] w [some x] bL:=a7.erase 0;obtain rfl:=Option.some.inj a;refine BQ (fun st=>?_);exact .inl ⟨rfl,(1:Int),rfl,qz st,qd st,sp st 2 rfl,c6⟩
             ·replace a:=AD a q;refine Aq rfl rfl (Ac rfl q) rfl (by decide) (fun st=>Am (ee st rfl) (NY _ _))<|Aq rfl rfl (Ac rfl q) rfl (by decide) (fun st=>Au (v:=I d.AP) AZ (ee st rfl) u.bk rfl) ?_;replace a:=bind_some a;obtain⟨aP,cF,a⟩:=a;refine Dp rfl rfl (Ac rfl q) rfl (by decide) (fun st=>AI H4 (ee st rfl) (E3 (ee st rfl) (ee st rfl) (ee st rfl)) (a46 aS d.AP 1 5 ZA _ aP cF)) ?_;rintro _ c7 ⟨aU,rfl⟩;have bM:=a7.ext aU;refine Aq rfl rfl (Ac rfl q) rfl (by decide) (fun st=>CV (ee st rfl))<|wd rfl (fun st=>Ba (v:=.bool !aP) (ee st rfl) q (ee st rfl))<|wm rfl (v:=.bool !aP) rfl ?_;rcases An (!aP) with o|o
              ·replace a:=AB a o;have cT:aP=false:=by simpa using o
               refine Aj (c:=true) rfl rfl (Ac rfl o) (by decide) rfl (by decide)<|Aj (c:=true) rfl rfl (Ac rfl o) (by decide) rfl (by decide)<|Aj (c:=true) rfl rfl (Ac rfl o) (by decide) rfl (by decide)<|Aj (c:=true) rfl rfl (Ac rfl o) (by decide) rfl (by decide)<|wd rfl (fun st=>AS (v:=.bool true) (ee st rfl) o (ee st rfl))<|wm rfl (v:=.bool true) rfl<|Aj rfl rfl rfl (by decide) rfl (by decide)<|Aj rfl rfl rfl (by decide) rfl (by decide)<|Aj rfl rfl rfl (by decide) rfl (by decide)<|Aj rfl rfl rfl (by decide) rfl (by decide)<|Aj rfl rfl rfl (by decide) rfl (by decide)<|Aj rfl rfl rfl (by decide) rfl (by decide)<|wd rfl (fun st=>AS (v:=.bool true) (ee st rfl) rfl (ee st rfl))<|Af<|Aa<|AA rfl rfl<|Ae<|Ab<|wa rfl (v:=I 1) rfl<|Af<|Aa<|AF<|AV<|Av<|Av ?_;have cG:Hp FN [] w [some x] c7:=bM.erase 0;obtain rfl:=Option.some.inj a;refine BQ (fun st=>?_);exact .inl ⟨rfl,(1:Int),rfl,qz st,qd st,sp st 2 rfl,cG⟩
              ·replace a:=AD a o;have cU:aP=true:=by simpa using o
               refine Aq rfl rfl (Ac rfl o) rfl (by decide) (fun st=>Am (ee st rfl) (NZ _ _)) ?_;have aQ:=(u.bk.ext aU);refine Aq rfl rfl (Ac rfl o) rfl (by decide) (fun st=>Au (v:=I d.Ce) AZ (ee st rfl) aQ rfl) ?_;replace a:=bind_some a;obtain⟨aR,cH,a⟩:=a;refine Dp rfl rfl (Ac rfl o) rfl (by decide) (fun st=>AI H4 (ee st rfl) (E3 (ee st rfl) (ee st rfl) (ee st rfl)) (a46 aS d.Ce 1 5 ZA _ aR cH)) ?_;rintro _ c8 ⟨aV,rfl⟩;have bN:=bM.ext aV;refine Aq rfl rfl (Ac rfl o) rfl (by decide) (fun st=>CV (ee st rfl))<|wd rfl (fun st=>Ba (v:=.bool !aR) (ee st rfl) o (ee st rfl))<|wm rfl (v:=.bool !aR) rfl ?_;rcases An (!aR) with g|g
               ·replace a:=AB a g;have cV:aR=false:=by simpa using g
                refine Aj (c:=true) rfl rfl (Ac rfl g) (by decide) rfl (by decide)<|Aj (c:=true) rfl rfl (Ac rfl g) (by decide) rfl (by decide)<|Aj (c:=true) rfl rfl (Ac rfl g) (by decide) rfl (by decide)<|Aj (c:=true) rfl rfl (Ac rfl g) (by decide) rfl (by decide)<|Aj (c:=true) rfl rfl (Ac rfl g) (by decide) rfl (by decide)<|Aj (c:=true) rfl rfl (Ac rfl g) (by decide) rfl (by decide)<|wd rfl (fun st=>AS (v:=.bool true) (ee st rfl) g (ee st rfl))<|Af<|Aa<|AA rfl rfl<|Ae<|Ab<|wa rfl (v:=I 1) rfl<|Af<|Aa<|AF<|AV<|Av<|Av ?_;have cI:Hp FN [] w [some x] c8:=bN.erase 0;obtain rfl:=Option.some.inj a;refine BQ (fun st=>?_);exact .inl ⟨rfl,(1:Int),rfl,qz st,qd st,sp st 2 rfl,cI⟩
               ·replace a:=AD a g;have cW:aR=true:=by simpa using g
                refine Aq rfl rfl (Ac rfl g) rfl (by decide) (fun st=>Am (ee st rfl) (N0 _ _)) ?_;have bD:=(aQ.ext aV);refine Aq rfl rfl (Ac rfl g) rfl (by decide) (fun st=>Au (v:=I d.BZ) AZ (ee st rfl) bD rfl)<|Aq rfl rfl (Ac rfl g) rfl (by decide) (fun st=>Am (ee st t) (Gf _ _)) ?_;have a0:=((a9.ext aU).ext aV);refine Aq rfl rfl (Ac rfl g) rfl (by decide) (fun st=>Au (v:=I b.Ak) AZ (ee st rfl) a0 rfl) ?_;replace a:=bind_some a;obtain⟨a2,cJ,a⟩:=a;refine Dp rfl rfl (Ac rfl g) rfl (by decide) (fun st=>AI H4 (ee st rfl) (E3 (ee st rfl) (ee st rfl) (ee st rfl)) (a46 aS d.BZ 0 b.Ak ZA _ a2 cJ)) ?_;rintro _ bO ⟨a5,rfl⟩;have bP:=bN.ext a5;refine Aq rfl rfl (Ac rfl g) rfl (by decide) (fun st=>CV (ee st rfl))<|wd rfl (fun st=>Ba (v:=.bool !a2) (ee st rfl) g (ee st rfl))<|Af<|Aa ?_;rcases An (!a2) with aF|aF
                ·replace a:=AB a aF;have cX:a2=false:=by simpa using aF
                 refine AA rfl aF<|Ae<|Ab<|wa rfl (v:=I 1) rfl<|Af<|Aa<|AF<|AV<|Av<|Av ?_;have cK:Hp FN [] w [some x] bO:=bP.erase 0;obtain rfl:=Option.some.inj a;refine BQ (fun st=>?_);exact .inl ⟨rfl,(1:Int),rfl,qz st,qd st,sp st 2 rfl,cK⟩
                ·replace a:=AD a aF;have cY:a2=true:=by simpa using aF
                 refine AH rfl aF<|AW<|Bn<|Aa<|Ab<|wm rfl (v:=I r) aI ?_;replace a:=AU a;obtain⟨cL,a⟩:=a;refine wd rfl (fun st=>Bx (ee st rfl) (ee st rfl) cL)<|wa rfl (v:=I (r+1)) rfl<|Af ?_;have cM:Hp FN [] w [some x] bO:=bP.erase 0;have bQ:=(a0.ext a5);have a6:Sl AM bO (ZZ FN [] Z w.heap.size [some x]) j m b.Ad:=((((((aC.mv (Ay aK)).mv (bK.AT u.gr 0 rfl)).mv (Ah aU)).mv (Ah aV)).mv (Ah a5)).mv (AO 0));refine Bt b7 (Nat.lt_succ_self _) (fun st=>?_);exact⟨(r+1),a,qz st,qd st,sp st 1 t,sp st 3 rfl,cM,bQ,a6⟩
          ·replace a:=AD a aJ;refine AH rfl aJ<|Cc<|AN<|AN ?_;obtain rfl:=Option.some.inj a;refine BQ (fun st=>?_);exact .inr ⟨rfl,(),rfl,qz st,qd st,sp st 1 t,bJ,aD,aC⟩
        case b6=>
         rintro b4 dA dD (⟨rfl,aH,rfl,aL,aM,bE,aW⟩|⟨rfl,aH,rfl,aL,aM,bF,aW,bG,a3⟩)
         ·skip
          replace a:=Eu a;refine Ci (X:=X0) (N:=101) aL aM<|AV<|Av ?_;obtain rfl:=Option.some.inj a;refine AR rfl bE ?_;exact⟨aW.Bu,rfl⟩
         ·skip
          replace a:=Ev a;refine Ci (X:=X0) (N:=101) aL aM<|Bs<|Aa<|Ae<|Ae<|Ab<|wd rfl (fun st=>Bb (l:=[I b.Ak,I b.Ai,I b.Ao,I b.Aw,.slice j b.Ad.length m]) D9 (ee st bF) bG rfl rfl) ?_;replace a:=bind_some a;obtain⟨bZ,cN,a⟩:=a;refine we rfl (fun st=>AI N1 (ee st rfl) (Cw (ee st rfl)) (UE aS b j m ZA _ a3.all bZ cN)) ?_;rintro _ dL ⟨cO,rfl⟩;have bR:=aW.ext cO;refine wd rfl (fun st=>FP (ee st rfl) (ee st rfl))<|Af<|Aa ?_;rcases An (decide ((1000:Int)<bZ)) with aN|aN
          ·replace a:=AB a aN;refine AA rfl aN<|Ae<|Ab<|wa rfl (v:=I 3) rfl<|Af<|Aa<|AF<|Av ?_;obtain rfl:=Option.some.inj a;refine AR rfl rfl ?_;exact⟨bR.Bu,rfl⟩
          ·replace a:=AD a aN;refine AH rfl aN<|AW<|Aa<|Ae<|Ab<|wa rfl (v:=I 0) rfl<|Af<|Aa<|AF ?_;obtain rfl:=Option.some.inj a;refine AR rfl rfl ?_;exact⟨bR.Bu,rfl⟩
theorem V6(p:Nat)(e:Ap)(b:A3)(h:Option Addr)(j:Nat)(Z:Nat→Prop)(w:World)(x:Sl AM w Z h j e.Ad)(aO:Bool)(a:E8 p e b=some aO):
 BL Tryz.prog 89 #[.agg #[I e.Ak,I e.Ai,I e.Ao,I e.Aw,.slice h e.Ad.length j],.agg #[I b.Ar,I b.AE,I b.AP,I b.Ce,I b.BZ]] w (fun v w'=>Ext w w'∧BU.R w' (ZZ FN [] Z w.heap.size []) v aO):=by
 unfold E8 at a;refine A8 (N:=27) Tryz.func89 rfl rfl (by simp) ?_;intro aW aH aX;have aI:=AL (i:=0) (v:=.agg #[I e.Ak,I e.Ai,I e.Ao,I e.Aw,.slice h e.Ad.length j]) aH rfl;have aJ:=AL (i:=1) (v:=.agg #[I b.Ar,I b.AE,I b.AP,I b.Ce,I b.BZ]) aH rfl;clear aH;have aC:Hp FN [] w [] w:=Hp.start (BM.none w);have aN:=x.mv (Bj (Z:=Z) (L:=[]) w);refine Ae<|Ab<|we rfl (fun st=>B2 (v:=.agg #[I e.Ak,I e.Ai,I e.Ao,I e.Aw,.slice h e.Ad.length j]) (cs:= #[I e.Ak,I e.Ai,I e.Ao,I e.Aw,.slice h e.Ad.length j]) (ee st aI) rfl) ?_;rintro _ w1 ⟨a0,rfl,q⟩;have aD:=aC.nb q;have aU:=aC.BK q;refine we rfl (fun st=>B2 (v:=.agg #[I b.Ar,I b.AE,I b.AP,I b.Ce,I b.BZ]) (cs:= #[I b.Ar,I b.AE,I b.AP,I b.Ce,I b.BZ]) (ee st aJ) rfl) ?_;rintro _ w2 ⟨a2,rfl,k⟩;have aP:=aD.nb k;have aV:=aD.BK k;refine wa rfl (v:=.bool false) rfl<|Af<|Aa<|Ae<|Ab<|wd rfl (fun st=>Am (ee st rfl) (JZ _ _))<|wd rfl (fun st=>Bb (l:=[I b.Ar,I b.AE]) K2 (ee st rfl) k.bk rfl rfl)<|wd rfl (fun st=>Am (ee st rfl) (Hy _ _)) ?_;have m:=(q.bk.ext k.gr);refine wd rfl (fun st=>Au (v:=I e.Ak) AZ (ee st rfl) m rfl) ?_;replace a:=bind_some a;obtain⟨aK,aQ,a⟩:=a;refine we rfl (fun st=>AI SP (ee st rfl) (Eo (ee st rfl) (ee st rfl)) (VI p (⟨b.Ar,b.AE⟩:CE) e.Ak ZA _ aK aQ)) ?_;rintro _ a3 ⟨r,rfl⟩;have aE:=aP.ext r;refine wm rfl (v:=.bool aK) rfl ?_;rcases An (aK) with f|f
 ·replace a:=AB a f;refine Aq rfl rfl (Ac rfl f) rfl (by decide) (fun st=>Am (ee st rfl) (Hs _ _)) ?_;have n:=(k.bk.ext r);refine Aq rfl rfl (Ac rfl f) rfl (by decide) (fun st=>Au (v:=I b.AP) AZ (ee st rfl) n rfl) ?_;replace a:=bind_some a;obtain⟨y,aR,a⟩:=a;refine Dp rfl rfl (Ac rfl f) rfl (by decide) (fun st=>AI OS (ee st rfl) (Cw (ee st rfl)) (a141 p b.AP ZA _ y aR)) ?_;rintro _ a4 ⟨s,rfl⟩;have aF:=aE.ext s;refine wd rfl (fun st=>AS (v:=.bool y) (ee st rfl) f (ee st rfl))<|wm rfl (v:=.bool y) rfl ?_;rcases An (y) with g|g
  ·replace a:=AB a g;refine Aq rfl rfl (Ac rfl g) rfl (by decide) (fun st=>Am (ee st rfl) (LA _ _)) ?_;have o:=(n.ext s);refine Aq rfl rfl (Ac rfl g) rfl (by decide) (fun st=>Au (v:=I b.Ce) AZ (ee st rfl) o rfl) ?_;replace a:=bind_some a;obtain⟨z,aS,a⟩:=a;refine Dp rfl rfl (Ac rfl g) rfl (by decide) (fun st=>AI OS (ee st rfl) (Cw (ee st rfl)) (a141 p b.Ce ZA _ z aS)) ?_;rintro _ aY ⟨t,rfl⟩;have aG:=aF.ext t;refine wd rfl (fun st=>AS (v:=.bool z) (ee st rfl) g (ee st rfl))<|wm rfl (v:=.bool z) rfl ?_;rcases An (z) with d|d
   ·replace a:=AB a d;refine Aq rfl rfl (Ac rfl d) rfl (by decide) (fun st=>Am (ee st rfl) (NU _ _)) ?_;have aA:=(o.ext t);refine Aq rfl rfl (Ac rfl d) rfl (by decide) (fun st=>Au (v:=I b.BZ) AZ (ee st rfl) aA rfl)<|Aq rfl rfl (Ac rfl d) rfl (by decide) (fun st=>Am (ee st rfl) (Hy _ _)) ?_;have aB:=(((m.ext r).ext s).ext t);refine Aq rfl rfl (Ac rfl d) rfl (by decide) (fun st=>Au (v:=I e.Ak) AZ (ee st rfl) aB rfl) ?_;replace a:=bind_some a;obtain⟨u,aL,a⟩:=a;refine Dp rfl rfl (Ac rfl d) rfl (by decide) (fun st=>AI Jm (ee st rfl) (E3 (ee st rfl) (ee st rfl) (ee st rfl)) (O7 p b.BZ 0 e.Ak ZA _ u aL)) ?_;rintro _ aZ ⟨aM,rfl⟩;have aT:=aG.ext aM;refine wd rfl (fun st=>AS (v:=.bool u) (ee st rfl) d (ee st rfl))<|wa rfl (v:=.bool u) rfl<|Af<|Aa<|AF ?_;obtain rfl:=Option.some.inj a;refine AR rfl rfl ?_;exact⟨aT.Bu,rfl⟩
   ·replace a:=AD a d;refine Aj (c:=false) rfl rfl (Ac rfl d) (by decide) rfl (by decide)<|Aj (c:=false) rfl rfl (Ac rfl d) (by decide) rfl (by decide)<|Aj (c:=false) rfl rfl (Ac rfl d) (by decide) rfl (by decide)<|Aj (c:=false) rfl rfl (Ac rfl d) (by decide) rfl (by decide)<|Aj (c:=false) rfl rfl (Ac rfl d) (by decide) rfl (by decide)<|wd rfl (fun st=>Ba (v:=.bool false) (ee st rfl) d (ee st rfl))<|wa rfl (v:=.bool false) rfl<|Af<|Aa<|AF ?_;obtain rfl:=Option.some.inj a;refine AR rfl rfl ?_;exact⟨aG.Bu,rfl⟩
  ·replace a:=AD a g;refine Aj (c:=false) rfl rfl (Ac rfl g) (by decide) rfl (by decide)<|Aj (c:=false) rfl rfl (Ac rfl g) (by decide) rfl (by decide)<|Aj (c:=false) rfl rfl (Ac rfl g) (by decide) rfl (by decide)<|wd rfl (fun st=>Ba (v:=.bool false) (ee st rfl) g (ee st rfl))<|wm rfl (v:=.bool false) rfl<|Aj rfl rfl rfl (by decide) rfl (by decide)<|Aj rfl rfl rfl (by decide) rfl (by decide)<|Aj rfl rfl rfl (by decide) rfl (by decide)<|Aj rfl rfl rfl (by decide) rfl (by decide)<|Aj rfl rfl rfl (by decide) rfl (by decide)<|wd rfl (fun st=>Ba (v:=.bool false) (ee st rfl) rfl (ee st rfl))<|wa rfl (v:=.bool false) rfl<|Af<|Aa<|AF ?_;obtain rfl:=Option.some.inj a;refine AR rfl rfl ?_;exact⟨aF.Bu,rfl⟩
 ·replace a:=AD a f;refine Aj (c:=false) rfl rfl (Ac rfl f) (by decide) rfl (by decide)<|Aj (c:=false) rfl rfl (Ac rfl f) (by decide) rfl (by decide)<|Aj (c:=false) rfl rfl (Ac rfl f) (by decide) rfl (by decide)<|wd rfl (fun st=>Ba (v:=.bool false) (ee st rfl) f (ee st rfl))<|wm rfl (v:=.bool false) rfl<|Aj rfl rfl rfl (by decide) rfl (by decide)<|Aj rfl rfl rfl (by decide) rfl (by decide)<|Aj rfl rfl rfl (by decide) rfl (by decide)<|wd rfl (fun st=>Ba (v:=.bool false) (ee st rfl) rfl (ee st rfl))<|wm rfl (v:=.bool false) rfl<|Aj rfl rfl rfl (by decide) rfl (by decide)<|Aj rfl rfl rfl (by decide) rfl (by decide)<|Aj rfl rfl rfl (by decide) rfl (by decide)<|Aj rfl rfl rfl (by decide) rfl (by decide)<|Aj rfl rfl rfl (by decide) rfl (by decide)<|wd rfl (fun st=>Ba (v:=.bool false) (ee st rfl) rfl (ee st rfl))<|wa rfl (v:=.bool false) rfl<|Af<|Aa<|AF ?_;obtain rfl:=Option.some.inj a;refine AR rfl rfl ?_;exact⟨aE.Bu,rfl⟩
theorem V7(aT:Nat)(h:List Int)(n:List Int)(c:Option Addr)(d:Nat)(f:Option Addr)(g:Nat)(Z:Nat→Prop)(w:World)(aJ:Sl (Az .i64) w Z c d h)(aK:Sl (Az .i64) w Z f g n)(aU:Bool)(a:FC aT h n=some aU):
 BL Tryz.prog 55 #[.slice c h.length d,.slice f n.length g] w (fun v w'=>Ext w w'∧BU.R w' (ZZ FN [] Z w.heap.size []) v aU):=by
 unfold FC at a;refine A8 (N:=26) Tryz.func55 rfl rfl (by simp) ?_;intro bJ aO bK;have aF:=AL (i:=0) (v:=.slice c h.length d) aO rfl;have aG:=AL (i:=1) (v:=.slice f n.length g) aO rfl;clear aO;have aL:Hp FN [] w [] w:=Hp.start (BM.none w);have aA:=aJ.mv (Bj (Z:=Z) (L:=[]) w);have aB:=aK.mv (Bj (Z:=Z) (L:=[]) w);refine Ae<|Ab<|wa rfl (v:=.bool false) rfl<|Af<|Aa<|Ae<|Ae<|Ab<|wm rfl (v:=.slice c h.length d) aF<|wd rfl (fun st=>BH Tryz.underlying23 (ee st rfl))<|wm rfl (v:=.slice f n.length g) aG<|wd rfl (fun st=>BH Tryz.underlying23 (ee st rfl))<|wd rfl (fun st=>EY (ee st rfl) (ee st rfl))<|Af<|Aa ?_;rcases An ((h.length:Int) !=(n.length:Int)) with t|t
 ·replace a:=AB a t;refine AA rfl t<|Ae<|Ab<|wa rfl (v:=.bool false) rfl<|Af<|Aa<|AF<|Av ?_;obtain rfl:=Option.some.inj a;refine AR rfl rfl ?_;exact⟨aL.Bu,rfl⟩
 ·replace a:=AD a t;refine AH rfl t<|AW<|Aa<|Ae<|Ae<|Ab<|wa rfl (v:=I 0) rfl<|Af<|Aa<|A5 ?_;replace a:=bind_some a;obtain⟨z2,o,a⟩:=a;refine Ch (fun aP e aC=>(aP=.ret∧∃p,z2=.inl p∧e.tmps.size=26∧e.defers=(X0).ds∧sl e 4=.bool p∧Hp FN [] w [] aC)∨(aP=.exit 0∧∃p,z2=.inr p∧e.tmps.size=26∧e.defers=(X0).ds∧Hp FN [] w [] aC)) ?aV ?aW
  case aV=>
   clear a;refine Cg (fun(aQ:Nat) (e:Act) (aC:World)=>∃b,DL h n aQ b=some z2∧e.tmps.size=26∧e.defers=(X0).ds∧sl e 0=.slice c h.length d∧sl e 1=.slice f n.length g∧sl e 5=I b∧Hp FN [] w [] aC∧Sl (Az .i64) aC (ZZ FN [] Z w.heap.size []) c d h∧Sl (Az .i64) aC (ZZ FN [] Z w.heap.size []) f g n) aT ?aX ?aY
   case aX=>
    intro st;exact⟨(0:Int),o,qz st,qd st,sp st 0 aF,sp st 1 aG,sp st 5 rfl,aL,aA,aB⟩
   case aY=>
    rintro(_|aQ) bL bM ⟨b,o,aR,aS,q,z,j,aM,l,m⟩
    ·exact absurd (show none=some _ from o) (by simp)
    rw[DL.eq_2] at o;have a:=o;clear o;refine B4 (N:=26) aR aS<|Ae<|Ae<|Ab<|wm rfl (v:=I b) j<|wm rfl (v:=.slice c h.length d) q<|wd rfl (fun st=>BH Tryz.underlying23 (ee st rfl))<|wd rfl (fun st=>Ct (ee st rfl) (ee st rfl))<|Af<|Aa ?_;rcases An (decide (b<(h.length:Int))) with u|u
    ·replace a:=AB a u;refine AA rfl u<|AW<|Aa<|Ae<|A5<|Ae ?_;replace a:=Bq a;obtain⟨i5,aZ,a0,a2,a3,a⟩:=a;obtain⟨bE,bF,_,a4,rfl,a5⟩:=Sl.EZ l rfl a2;replace a:=Bq a;obtain⟨i6,a6,a7,a9,bA,a⟩:=a;obtain⟨bG,bH,_,bB,rfl,bC⟩:=Sl.EZ m rfl a9;refine CB 8 [Kc (.slice c h.length d),Kc (I b),Kc (pt bE (bF+i5)),Kc (I aZ),Kc (.slice f n.length g),Kc (I b),Kc (pt bG (bH+i6)),Kc (I a6)] mixed rfl rfl
         (Ag (od rfl (fun _=>rfl) (fun K=>AK (es ((K.out 0 rfl).trans q))))
         (Ag (od rfl (fun _=>rfl) (fun K=>AK (es ((K.out 5 rfl).trans j))))
         (Ag (od rfl (fun _=>rfl) (fun K=>BC (k:=i5) Tryz.underlying23 DB (es (K.Ax 0 17 rfl rfl)) a4 (es (K.Ax 1 18 rfl rfl)) a0 a3))
         (Ag (od rfl (fun _=>rfl) (fun K=>Cl AZ (es (K.Ax 2 19 rfl rfl)) (a5.mv (Ah K.Bi)) rfl))
         (Ag (od rfl (fun _=>rfl) (fun K=>AK (es ((K.out 1 rfl).trans z))))
         (Ag (od rfl (fun _=>rfl) (fun K=>AK (es ((K.out 5 rfl).trans j))))
         (Ag (od rfl (fun _=>rfl) (fun K=>BC (k:=i6) Tryz.underlying23 DB (es (K.Ax 4 21 rfl rfl)) bB (es (K.Ax 5 22 rfl rfl)) a7 bA))
         (Ag (od rfl (fun _=>rfl) (fun K=>Cl AZ (es (K.Ax 6 23 rfl rfl)) (bC.mv (Ah K.Bi)) rfl))
         (B5 _))))))))) ?_
     intro bO;rintro _ rfl _ rfl _ rfl _ rfl _ rfl _ rfl _ rfl _ rfl aH;have aN:=aM.ext aH;refine wd rfl (fun st=>EY (ee st rfl) (ee st rfl))<|Af<|Aa ?_;rcases An (aZ !=a6) with x|x
     ·replace a:=AB a x;refine AA rfl x<|Ae<|Ab<|wa rfl (v:=.bool false) rfl<|Af<|Aa<|AF<|AV<|Av<|Av ?_;obtain rfl:=Option.some.inj a;refine BQ (fun st=>?_);exact .inl ⟨rfl,false,rfl,qz st,qd st,sp st 4 rfl,aN⟩
     ·replace a:=AD a x;refine AH rfl x<|AW<|Bn<|Aa<|Ab<|wm rfl (v:=I b) j ?_;replace a:=AU a;obtain⟨bD,a⟩:=a;refine wd rfl (fun st=>Bx (ee st rfl) (ee st rfl) bD)<|wa rfl (v:=I (b+1)) rfl<|Af ?_;have aD:=(l.mv (Ah aH));have aE:=(m.mv (Ah aH));refine Bt aQ (Nat.lt_succ_self _) (fun st=>?_);exact⟨(b+1),a,qz st,qd st,sp st 0 q,sp st 1 z,sp st 5 rfl,aN,aD,aE⟩
    ·replace a:=AD a u;refine AH rfl u<|Cc<|AN<|AN ?_;obtain rfl:=Option.some.inj a;refine BQ (fun st=>?_);exact .inr ⟨rfl,(),rfl,qz st,qd st,aM⟩
  case aW=>
   rintro aP bI bN (⟨rfl,p,rfl,r,s,aI,y⟩|⟨rfl,p,rfl,r,s,y⟩)
   ·skip
    replace a:=Eu a;refine Ci (X:=X0) (N:=26) r s<|AV<|Av ?_;obtain rfl:=Option.some.inj a;refine AR rfl aI ?_;exact⟨y.Bu,rfl⟩
   ·skip
    replace a:=Ev a;refine Ci (X:=X0) (N:=26) r s<|Bs<|Aa<|Ae<|Ab<|wa rfl (v:=.bool true) rfl<|Af<|Aa<|AF ?_;obtain rfl:=Option.some.inj a;refine AR rfl rfl ?_;exact⟨y.Bu,rfl⟩
theorem Mc(y:Nat)(a:Int)(Z:Nat→Prop)(w:World)(s:Ap)(t:CH y a=some s):
 BL Tryz.prog 82 #[I a] w (fun v w'=>Ext w w'∧(CS GG).R w' (ZZ FN [] Z w.heap.size []) v s):=by
 unfold CH at t;refine A8 (N:=9) Tryz.func82 rfl rfl (by simp) ?_;intro z u aA;have r:=AL (i:=0) (v:=I a) u rfl;clear u;have m:Hp FN [] w [] w:=Hp.start (BM.none w);refine Ae<|Ab<|we rfl (fun st=>BO (cs:= #[I 0,I 0,I 0,I 0,.slice none 0 0]) Mr rfl) ?_;rintro _ w1 ⟨aB,rfl,c⟩;have o:=m.nb c;have x:=m.BK c;refine Af<|Aa<|Ae<|Ab<|wm rfl (v:=I a) r<|wd rfl (fun st=>C6 (vs:= #[(1,I 2),(2,I 2),(3,I 2)]) (v:=.agg #[I 0,I 0,I 2,I 2,I 2]) (J9 (ee st rfl) (ee st rfl) (ee st rfl)) (by kernel_rfl))<|wd rfl (fun st=>C6 (vs:= #[(0,I 1),(1,I 1)]) (v:=.agg #[I 1,I 1]) (Iq (ee st rfl) (ee st rfl)) (by kernel_rfl))<|wd rfl (fun st=>C6 (vs:= #[(0,.agg #[I 1,I 1]),(1,I 2),(2,I 1),(3,I 5)]) (v:=.agg #[I 1,I 1,I 2,I 1,I 5]) (TA (ee st rfl) (ee st rfl) (ee st rfl) (ee st rfl)) (by kernel_rfl))<|we rfl (fun st=>BJ (e:=156) (vs:= #[(0,.agg #[I 0,I 0,I 2,I 2,I 2]),(1,.agg #[I 1,I 1,I 2,I 1,I 5])]) (cs:= #[I 0,I 0,I 2,I 2,I 2,I 1,I 1,I 2,I 1,I 5]) (Iq (ee st rfl) (ee st rfl)) (by kernel_rfl)) ?_;rintro _ w2 ⟨d,rfl,b⟩;have p:=o.nb b;have g:=o.BK b;refine wd rfl (fun st=>C6 (vs:= #[(0,I 5),(1,I 1),(2,I a),(3,I 1),(4,.slice (some ⟨d,0,none⟩) 2 2)]) (v:=.agg #[I 5,I 1,I a,I 1,.slice (some ⟨d,0,none⟩) 2 2]) (V1 (ee st rfl) (ee st rfl) (ee st rfl) (ee st rfl) (ee st rfl)) (by kernel_rfl)) ?_;have j:=(c.bk.ext b.gr);refine Bo rfl rfl (fun st=>Bd (n:=5) (l:=[I 5,I 1,I a,I 1,.slice (some ⟨d,0,none⟩) 2 2]) (Cf:= #[I 5,I 1,I a,I 1,.slice (some ⟨d,0,none⟩) 2 2]) (ee st rfl) (ee st rfl) PN j rfl rfl (show 0+5≤5 by decide) (AQ rfl) rfl) ?_;rintro _ aC f;have q:=p.gr f.gr 1 rfl;refine Af<|Aa<|AF ?_;obtain rfl:=Option.some.inj t;refine FX (v:=.agg #[I 5,I 1,I a,I 1,.slice (some ⟨d,0,none⟩) 2 2]) rfl rfl (CJ CR f.bk rfl rfl) ?_;have k:=(b.bk.gr f.gr (p.ne 0 1 rfl rfl rfl));exact⟨q.Bu,⟨_,rfl,_,_,rfl,Gx (e:=AM) (xs:=[(⟨0,0,2,2,2⟩:A3),(⟨1,1,2,1,5⟩:A3)]) (Be:=[[I 0,I 0,I 2,I 2,I 2],[I 1,I 1,I 2,I 1,I 5]]) k (.inr ⟨g,fun hm=>q.Bz (F':=FN) (M:=[]) 0 rfl [] rfl trivial (fun _ h=>h.elim) (.inr hm)⟩) ⟨rfl,rfl,trivial⟩ rfl (Nat.le_refl _)⟩⟩
theorem V8(bB:Nat)(b:Int)(Z:Nat→Prop)(w:World)(aX:AX)(j:Gy bB b=some aX):
 BL Tryz.prog 83 #[I b] w (fun v w'=>Ext w w'∧(CS Ea).R w' (ZZ FN [] Z w.heap.size []) v aX):=by
 unfold Gy at j;refine A8 (N:=12) Tryz.func83 rfl rfl (by simp) ?_;intro bI aY bJ;have aQ:=AL (i:=0) (v:=I b) aY rfl;clear aY;have aI:Hp FN [] w [] w:=Hp.start (BM.none w);refine Ae<|Ab<|we rfl (fun st=>BO (cs:= #[.slice none 0 0,.slice none 0 0]) G2 rfl) ?_;rintro _ w1 ⟨t,rfl,u⟩;have aJ:=aI.nb u;have a7:=aI.BK u;refine Af<|Aa<|Ae<|Ab<|we rfl (fun st=>BJ (e:=3) (vs:= #[(0,I 0),(1,I 1)]) (cs:= #[I 0,I 1]) (Iq (ee st rfl) (ee st rfl)) (by kernel_rfl)) ?_;rintro _ w2 ⟨c,rfl,q⟩;have x:=aJ.nb q;have aD:=aJ.BK q;replace j:=Hj j;obtain⟨aZ,j⟩:=j;refine we rfl (fun st=>HR (e:=Br) (z:=false) (zc:=[.bool false]) (n0:=w.heap.size) (b':=1) Tryz.underlying65 KN rfl rfl (ee st rfl) (ee st rfl) aZ (fun _ _=>rfl) x.sz (by decide)) ?_;rintro _ a0 ⟨a,rfl,aK,aR,y,aS⟩;have aL:Hp FN [] w [some a,some c,some t] a0:=x.new y aK aR;have a9:w.heap.size≤a:=Nat.le_trans x.sz aK;have a2:AG Br 4 w.heap.size a0 (ZZ FN [] Z w.heap.size [some a,some c,some t]) (some ⟨a,0,none⟩) ((6:Int).toNat) (List.replicate (6:Int).toNat false):=aS _;refine wd rfl (fun st=>C6 (vs:= #[(0,.slice (some ⟨c,0,none⟩) 2 2),(1,.slice (some ⟨a,0,none⟩) ((List.replicate (6:Int).toNat false).length) ((6:Int).toNat))]) (v:=.agg #[.slice (some ⟨c,0,none⟩) 2 2,.slice (some ⟨a,0,none⟩) ((List.replicate (6:Int).toNat false).length) ((6:Int).toNat)]) (Iq (ee st rfl) (ee st rfl)) (by kernel_rfl))<|we rfl (fun st=>BO (cs:= #[.slice none 0 0,.slice none 0 0]) G2 rfl) ?_;rintro _ bL ⟨aE,rfl,d⟩;have m:=aL.nb d;have bA:=aL.BK d;refine Bo rfl rfl (fun st=>Bd (n:=2) (l:=[.slice (some ⟨c,0,none⟩) 2 2,.slice (some ⟨a,0,none⟩) ((List.replicate (6:Int).toNat false).length) ((6:Int).toNat)]) (Cf:= #[.slice (some ⟨c,0,none⟩) 2 2,.slice (some ⟨a,0,none⟩) ((List.replicate (6:Int).toNat false).length) ((6:Int).toNat)]) (ee st rfl) (ee st rfl) G6 d.bk rfl rfl (show 0+2≤2 by decide) (AQ rfl) rfl) ?_;rintro _ bC f;have o:=m.gr f.gr 0 rfl;refine Af<|Aa<|Ae<|Ab<|wd rfl (fun st=>Am (ee st rfl) (Hz _ _))<|wd rfl (fun st=>Au (v:=.slice (some ⟨a,0,none⟩) ((List.replicate (6:Int).toNat false).length) ((6:Int).toNat)) GM (ee st rfl) f.bk rfl)<|wm rfl (v:=I b) aQ ?_;replace j:=Bq j;obtain⟨i7,bM,aM,aN,aA,j⟩:=j;have r:AG Br 4 w.heap.size bC (ZZ FN [] Z w.heap.size [some aE,some a,some c,some t]) (some ⟨a,0,none⟩) ((6:Int).toNat) (List.replicate (6:Int).toNat false):=((a2.ext d.gr (Ay d)).gr f.gr (fun k aT=>m.ne 1 0 rfl (congrArg some aT) rfl) (m.AT f.gr 0 rfl));obtain⟨bN,bO,_,aO,rfl,bK⟩:=Sl.EZ r.all rfl aN;refine wd rfl (fun st=>BC (k:=i7) Tryz.underlying65 KO (ee st rfl) aO (ee st rfl) aM aA) ?_;have aP:b.toNat=i7:=by rw[aM,Int.toNat_natCast]
 refine Bo rfl rfl (fun st=>Gi (k:=i7) (z':=true) (l:=[.bool true]) r aN aO rfl (ee st rfl) (ee st rfl) KO rfl rfl (AQ rfl) rfl) ?_;rintro _ a3 ⟨p,a4⟩;have s:=o.gr p 1 rfl;have aU:AG Br 4 w.heap.size a3 (ZZ FN [] Z w.heap.size [some aE,some a,some c,some t]) (some ⟨a,0,none⟩) ((6:Int).toNat) ((List.replicate (6:Int).toNat false).set b.toNat true):=by rw[show(List.replicate (6:Int).toNat false).set b.toNat true=(List.replicate (6:Int).toNat false).set i7 true from congrArg (fun aV=>(List.replicate (6:Int).toNat false).set aV true) aP];exact Gs a4 (o.AT p 1 rfl)
 have bD:((List.replicate (6:Int).toNat false).set b.toNat true)[i7]?=some true:=by rw[show(List.replicate (6:Int).toNat false).set b.toNat true=(List.replicate (6:Int).toNat false).set i7 true from congrArg (fun aV=>(List.replicate (6:Int).toNat false).set aV true) aP];exact List.getElem?_set_self aA
 have bE:i7<((List.replicate (6:Int).toNat false).set b.toNat true).length:=by rw[List.length_set];exact aA
 have bF:(.slice (some ⟨a,0,none⟩) ((List.replicate (6:Int).toNat false).length) ((6:Int).toNat):Value)=.slice (some ⟨a,0,none⟩) (((List.replicate (6:Int).toNat false).set b.toNat true).length) ((6:Int).toNat):=by simp only[List.length_set]
 have bG:(.agg #[.slice (some ⟨c,0,none⟩) 2 2,.slice (some ⟨a,0,none⟩) ((List.replicate (6:Int).toNat false).length) ((6:Int).toNat)]:Value)=.agg #[.slice (some ⟨c,0,none⟩) 2 2,.slice (some ⟨a,0,none⟩) (((List.replicate (6:Int).toNat false).set b.toNat true).length) ((6:Int).toNat)]:=by simp only[List.length_set]
 have bH:(.slice (some ⟨a,0,none⟩) ((List.replicate (6:Int).toNat false).length) ((6:Int).toNat):Value)=.slice (some ⟨a,0,none⟩) (((List.replicate (6:Int).toNat false).set b.toNat true).length) ((6:Int).toNat):=by simp only[List.length_set]
 have aF:=(f.bk.gr p (o.ne 0 1 rfl rfl rfl));have aW:Bk a3 aE 78 #[.slice (some ⟨c,0,none⟩) 2 2,.slice (some ⟨a,0,none⟩) (((List.replicate (6:Int).toNat false).set b.toNat true).length) ((6:Int).toNat)]:=by have a5:=aF;simp only[List.length_set] at a5⊢;exact a5
 refine Af<|Aa<|Ae<|Ab<|wd rfl (fun st=>Bb (l:=[.slice (some ⟨c,0,none⟩) 2 2,.slice (some ⟨a,0,none⟩) (((List.replicate (6:Int).toNat false).set b.toNat true).length) ((6:Int).toNat)]) F6 (ee st rfl) aW rfl rfl) ?_;have aG:=(((((u.bk.ext q.gr).ext y).ext d.gr).gr f.gr (m.ne 3 0 rfl rfl rfl)).gr p (o.ne 3 1 rfl rfl rfl));refine Bo rfl rfl (fun st=>Bd (n:=2) (l:=[.slice (some ⟨c,0,none⟩) 2 2,.slice (some ⟨a,0,none⟩) (((List.replicate (6:Int).toNat false).set b.toNat true).length) ((6:Int).toNat)]) (Cf:= #[.slice (some ⟨c,0,none⟩) 2 2,.slice (some ⟨a,0,none⟩) (((List.replicate (6:Int).toNat false).set b.toNat true).length) ((6:Int).toNat)]) (ee st rfl) (ee st rfl) G6 aG rfl rfl (show 0+2≤2 by decide) (AQ rfl) rfl) ?_;rintro _ a6 g;have aB:=s.gr g.gr 3 rfl;refine Af<|Aa<|AF ?_;obtain rfl:=Option.some.inj j;refine FX (v:=.agg #[.slice (some ⟨c,0,none⟩) 2 2,.slice (some ⟨a,0,none⟩) (((List.replicate (6:Int).toNat false).set b.toNat true).length) ((6:Int).toNat)]) rfl rfl (CJ F6 g.bk rfl rfl) ?_;have aH:=(((((q.bk.ext y).ext d.gr).gr f.gr (m.ne 2 0 rfl rfl rfl)).gr p (o.ne 2 1 rfl rfl rfl)).gr g.gr (s.ne 2 3 rfl rfl rfl));have aC:AG Br 4 w.heap.size a6 (ZZ FN [] Z w.heap.size [some aE,some a,some c,some t]) (some ⟨a,0,none⟩) ((6:Int).toNat) ((List.replicate (6:Int).toNat false).set b.toNat true):=(aU.gr g.gr (fun k aT=>s.ne 1 3 rfl (congrArg some aT) rfl) (s.AT g.gr 3 rfl));exact⟨aB.Bu,⟨_,rfl,_,_,_,_,rfl,Gx (e:=(Az .i64)) (xs:=[0,1]) (Be:=[[I 0],[I 1]]) aH (.inr ⟨aD,fun hm=>aB.Bz (F':=FN) (M:=[]) 2 rfl [] rfl trivial (fun _ h=>h.elim) (.inr hm)⟩) ⟨rfl,rfl,trivial⟩ rfl (Nat.le_refl _),aB.Iz (M:=[]) 1 rfl [] rfl trivial aC⟩⟩
theorem V9(aX:Nat)(g:List As)(a:As)(e:As)(j:Option Addr)(m:Nat)(Z:Nat→Prop)(w:World)(y:Sl BS w Z j m g)(aI:Bool)(h:Gz aX g a e=some aI):
 BL Tryz.prog 84 #[.slice j g.length m,.agg #[I a.On,I a.Bh,.bool a.AP],.agg #[I e.On,I e.Bh,.bool e.AP]] w (fun v w'=>Ext w w'∧BU.R w' (ZZ FN [] Z w.heap.size []) v aI):=by
 unfold Gz at h;refine A8 (N:=24) Tryz.func84 rfl rfl (by simp) ?_;intro a0 z a2;have o:=AL (i:=0) (v:=.slice j g.length m) z rfl;have aG:=AL (i:=1) (v:=.agg #[I a.On,I a.Bh,.bool a.AP]) z rfl;have aH:=AL (i:=2) (v:=.agg #[I e.On,I e.Bh,.bool e.AP]) z rfl;clear z;have aA:Hp FN [] w [] w:=Hp.start (BM.none w);have u:=y.mv (Bj (Z:=Z) (L:=[]) w);refine Ae<|Ab<|we rfl (fun st=>B2 (v:=.agg #[I a.On,I a.Bh,.bool a.AP]) (cs:= #[I a.On,I a.Bh,.bool a.AP]) (ee st aG) rfl) ?_;rintro _ w1 ⟨a3,rfl,s⟩;have aB:=aA.nb s;have aV:=aA.BK s;refine we rfl (fun st=>B2 (v:=.agg #[I e.On,I e.Bh,.bool e.AP]) (cs:= #[I e.On,I e.Bh,.bool e.AP]) (ee st aH) rfl) ?_;rintro _ w2 ⟨a4,rfl,q⟩;have x:=aB.nb q;have aW:=aB.BK q;refine wa rfl (v:=.bool false) rfl<|Af<|Aa<|Ae ?_;rcases An ((g.length:Int)==2) with d|d
 ·replace h:=AB h d;replace h:=Bq h;obtain⟨i5,b,aC,aJ,aD,h⟩:=h;have p:=((u.mv (Ay s)).mv (Ay q));obtain⟨aK,aL,_,aE,rfl,aF⟩:=Sl.elem p (by decide) aJ;have t:=(s.bk.ext q.gr);rcases An (HD [.inl b.On,.inl b.Bh,.inr b.AP] [.inl a.On,.inl a.Bh,.inr a.AP]) with f|f
  ·replace h:=AB h f;replace h:=Bq h;obtain⟨i7,n,aM,aN,aO,h⟩:=h;obtain⟨aY,aZ,_,aP,rfl,aQ⟩:=Sl.elem p (by decide) aN;refine CB 15 [Kc (.slice j g.length m),Kc (I (g.length:Int)),Kc (.bool ((g.length:Int)==2)),Kc (.bool ((g.length:Int)==2)),Kc (.slice j g.length m),Kc (pt aK (aL+i5*3)),Kc (.agg #[I b.On,I b.Bh,.bool b.AP]),Kc (.agg #[I a.On,I a.Bh,.bool a.AP]),Kc (.bool (HD [.inl b.On,.inl b.Bh,.inr b.AP] [.inl a.On,.inl a.Bh,.inr a.AP])),Kc (.bool (HD [.inl b.On,.inl b.Bh,.inr b.AP] [.inl a.On,.inl a.Bh,.inr a.AP])),Kc (.bool (HD [.inl b.On,.inl b.Bh,.inr b.AP] [.inl a.On,.inl a.Bh,.inr a.AP])),Kc (.slice j g.length m),Kc (pt aY (aZ+i7*3)),Kc (.agg #[I n.On,I n.Bh,.bool n.AP]),Kc (.agg #[I e.On,I e.Bh,.bool e.AP])] mixed rfl rfl
       (Ag (od rfl (fun _=>rfl) (fun K=>AK (es ((K.out 0 rfl).trans o))))
       (Ag (od rfl (fun _=>rfl) (fun K=>BH Tryz.underlying70 (es (K.Ax 0 7 rfl rfl))))
       (Ag (od rfl (fun _=>rfl) (fun K=>CF (es (K.Ax 1 8 rfl rfl)) (ec (v:=I 2))))
       (Ag (od rfl (fun _=>rfl) (fun K=>AK (es (K.Ax 2 9 rfl rfl))))
       (Ag (Bv rfl rfl rfl (fun _=>rfl) (fun a' w' ph K=>Ac (K.Ax 3 10 rfl rfl) d) (fun a' w' ph K=>AK (es ((K.out 0 rfl).trans o))))
       (Ag (Bv rfl rfl rfl (fun _=>rfl) (fun a' w' ph K=>Ac (K.Ax 3 10 rfl rfl) d) (fun a' w' ph K=>B3 (k:=i5) Tryz.underlying70 DQ (es (K.Ax 4 11 rfl rfl)) aE (ec (v:=I 0)) aC aD))
       (Ag (Bv rfl rfl rfl (fun _=>rfl) (fun a' w' ph K=>Ac (K.Ax 3 10 rfl rfl) d) (fun a' w' ph K=>DH (l:=[I b.On,I b.Bh,.bool b.AP]) D2 (es (K.Ax 5 12 rfl rfl)) (aF.mv (Ah K.Bi)) rfl rfl))
       (Ag (Bv rfl rfl rfl (fun _=>rfl) (fun a' w' ph K=>Ac (K.Ax 3 10 rfl rfl) d) (fun a' w' ph K=>Bb (l:=[I a.On,I a.Bh,.bool a.AP]) D2 (es ((K.out 4 rfl).trans rfl)) (t.ext K.Bi) rfl rfl))
       (Ag (Bv rfl rfl rfl (fun _=>rfl) (fun a' w' ph K=>Ac (K.Ax 3 10 rfl rfl) d) (fun a' w' ph K=>Pq (x1:=[.inl b.On,.inl b.Bh,.inr b.AP]) (x2:=[.inl a.On,.inl a.Bh,.inr a.AP]) LB Ms (es (K.Ax 6 13 rfl rfl)) (es (K.Ax 7 14 rfl rfl)) rfl rfl rfl rfl))
       (Ag (od rfl (fun _=>rfl) (fun K=>AS (es (K.Ax 3 10 rfl rfl)) d (es (K.Ax 8 15 rfl rfl))))
       (Ag (od rfl (fun _=>rfl) (fun K=>AK (es (K.Ax 9 16 rfl rfl))))
       (Ag (Bv rfl rfl rfl (fun _=>rfl) (fun a' w' ph K=>Ac (K.Ax 10 17 rfl rfl) f) (fun a' w' ph K=>AK (es ((K.out 0 rfl).trans o))))
       (Ag (Bv rfl rfl rfl (fun _=>rfl) (fun a' w' ph K=>Ac (K.Ax 10 17 rfl rfl) f) (fun a' w' ph K=>B3 (k:=i7) Tryz.underlying70 DQ (es (K.Ax 11 18 rfl rfl)) aP (ec (v:=I 1)) aM aO))
       (Ag (Bv rfl rfl rfl (fun _=>rfl) (fun a' w' ph K=>Ac (K.Ax 10 17 rfl rfl) f) (fun a' w' ph K=>DH (l:=[I n.On,I n.Bh,.bool n.AP]) D2 (es (K.Ax 12 19 rfl rfl)) (aQ.mv (Ah K.Bi)) rfl rfl))
       (Ag (Bv rfl rfl rfl (fun _=>rfl) (fun a' w' ph K=>Ac (K.Ax 10 17 rfl rfl) f) (fun a' w' ph K=>Bb (l:=[I e.On,I e.Bh,.bool e.AP]) D2 (es ((K.out 5 rfl).trans rfl)) (q.bk.ext K.Bi) rfl rfl))
       (B5 _)))))))))))))))) ?_
   intro aR;rintro _ rfl _ rfl _ rfl _ rfl _ rfl _ rfl _ rfl _ rfl _ rfl _ rfl _ rfl _ rfl _ rfl _ rfl _ rfl r;have aS:=x.ext r;refine Aq rfl rfl (Ac rfl f) rfl (by decide) (fun st=>Pq (x1:=[.inl n.On,.inl n.Bh,.inr n.AP]) (x2:=[.inl e.On,.inl e.Bh,.inr e.AP]) LB Ms (ee st rfl) (ee st rfl) rfl rfl rfl rfl)<|wd rfl (fun st=>AS (v:=.bool (HD [.inl n.On,.inl n.Bh,.inr n.AP] [.inl e.On,.inl e.Bh,.inr e.AP])) (ee st rfl) f (ee st rfl))<|wa rfl (v:=.bool (HD [.inl n.On,.inl n.Bh,.inr n.AP] [.inl e.On,.inl e.Bh,.inr e.AP])) rfl<|Af<|Aa<|AF ?_;obtain rfl:=Option.some.inj h;refine AR rfl rfl ?_;exact⟨aS.Bu,rfl⟩
  ·replace h:=AD h f;refine CB 15 [Kc (.slice j g.length m),Kc (I (g.length:Int)),Kc (.bool ((g.length:Int)==2)),Kc (.bool ((g.length:Int)==2)),Kc (.slice j g.length m),Kc (pt aK (aL+i5*3)),Kc (.agg #[I b.On,I b.Bh,.bool b.AP]),Kc (.agg #[I a.On,I a.Bh,.bool a.AP]),Kc (.bool (HD [.inl b.On,.inl b.Bh,.inr b.AP] [.inl a.On,.inl a.Bh,.inr a.AP])),Kc (.bool (HD [.inl b.On,.inl b.Bh,.inr b.AP] [.inl a.On,.inl a.Bh,.inr a.AP])),Kc (.bool (HD [.inl b.On,.inl b.Bh,.inr b.AP] [.inl a.On,.inl a.Bh,.inr a.AP])),Kc undef,Kc undef,Kc undef,Kc undef] mixed rfl rfl
       (Ag (od rfl (fun _=>rfl) (fun K=>AK (es ((K.out 0 rfl).trans o))))
       (Ag (od rfl (fun _=>rfl) (fun K=>BH Tryz.underlying70 (es (K.Ax 0 7 rfl rfl))))
       (Ag (od rfl (fun _=>rfl) (fun K=>CF (es (K.Ax 1 8 rfl rfl)) (ec (v:=I 2))))
       (Ag (od rfl (fun _=>rfl) (fun K=>AK (es (K.Ax 2 9 rfl rfl))))
       (Ag (Bv rfl rfl rfl (fun _=>rfl) (fun a' w' ph K=>Ac (K.Ax 3 10 rfl rfl) d) (fun a' w' ph K=>AK (es ((K.out 0 rfl).trans o))))
       (Ag (Bv rfl rfl rfl (fun _=>rfl) (fun a' w' ph K=>Ac (K.Ax 3 10 rfl rfl) d) (fun a' w' ph K=>B3 (k:=i5) Tryz.underlying70 DQ (es (K.Ax 4 11 rfl rfl)) aE (ec (v:=I 0)) aC aD))
       (Ag (Bv rfl rfl rfl (fun _=>rfl) (fun a' w' ph K=>Ac (K.Ax 3 10 rfl rfl) d) (fun a' w' ph K=>DH (l:=[I b.On,I b.Bh,.bool b.AP]) D2 (es (K.Ax 5 12 rfl rfl)) (aF.mv (Ah K.Bi)) rfl rfl))
       (Ag (Bv rfl rfl rfl (fun _=>rfl) (fun a' w' ph K=>Ac (K.Ax 3 10 rfl rfl) d) (fun a' w' ph K=>Bb (l:=[I a.On,I a.Bh,.bool a.AP]) D2 (es ((K.out 4 rfl).trans rfl)) (t.ext K.Bi) rfl rfl))
       (Ag (Bv rfl rfl rfl (fun _=>rfl) (fun a' w' ph K=>Ac (K.Ax 3 10 rfl rfl) d) (fun a' w' ph K=>Pq (x1:=[.inl b.On,.inl b.Bh,.inr b.AP]) (x2:=[.inl a.On,.inl a.Bh,.inr a.AP]) LB Ms (es (K.Ax 6 13 rfl rfl)) (es (K.Ax 7 14 rfl rfl)) rfl rfl rfl rfl))
       (Ag (od rfl (fun _=>rfl) (fun K=>AS (es (K.Ax 3 10 rfl rfl)) d (es (K.Ax 8 15 rfl rfl))))
       (Ag (od rfl (fun _=>rfl) (fun K=>AK (es (K.Ax 9 16 rfl rfl))))
       (Ag (Cd (c:=false) rfl rfl rfl (by decide) (fun a' w' ph K=>Ac (K.Ax 10 17 rfl rfl) f) (fun _=>rfl))
       (Ag (Cd (c:=false) rfl rfl rfl (by decide) (fun a' w' ph K=>Ac (K.Ax 10 17 rfl rfl) f) (fun _=>rfl))
       (Ag (Cd (c:=false) rfl rfl rfl (by decide) (fun a' w' ph K=>Ac (K.Ax 10 17 rfl rfl) f) (fun _=>rfl))
       (Ag (Cd (c:=false) rfl rfl rfl (by decide) (fun a' w' ph K=>Ac (K.Ax 10 17 rfl rfl) f) (fun _=>rfl))
       (B5 _)))))))))))))))) ?_
   intro aR;rintro _ rfl _ rfl _ rfl _ rfl _ rfl _ rfl _ rfl _ rfl _ rfl _ rfl _ rfl _ rfl _ rfl _ rfl _ rfl r;have aT:=x.ext r;refine Aj (c:=false) rfl rfl (Ac rfl f) (by decide) rfl (by decide)<|wd rfl (fun st=>Ba (v:=.bool false) (ee st rfl) f (ee st rfl))<|wa rfl (v:=.bool false) rfl<|Af<|Aa<|AF ?_;obtain rfl:=Option.some.inj h;refine AR rfl rfl ?_;exact⟨aT.Bu,rfl⟩
 ·replace h:=AD h d;refine CB 15 [Kc (.slice j g.length m),Kc (I (g.length:Int)),Kc (.bool ((g.length:Int)==2)),Kc (.bool ((g.length:Int)==2)),Kc undef,Kc undef,Kc undef,Kc undef,Kc undef,Kc (.bool false),Kc (.bool false),Kc undef,Kc undef,Kc undef,Kc undef] mixed rfl rfl
      (Ag (od rfl (fun _=>rfl) (fun K=>AK (es ((K.out 0 rfl).trans o))))
      (Ag (od rfl (fun _=>rfl) (fun K=>BH Tryz.underlying70 (es (K.Ax 0 7 rfl rfl))))
      (Ag (od rfl (fun _=>rfl) (fun K=>CF (es (K.Ax 1 8 rfl rfl)) (ec (v:=I 2))))
      (Ag (od rfl (fun _=>rfl) (fun K=>AK (es (K.Ax 2 9 rfl rfl))))
      (Ag (Cd (c:=false) rfl rfl rfl (by decide) (fun a' w' ph K=>Ac (K.Ax 3 10 rfl rfl) d) (fun _=>rfl))
      (Ag (Cd (c:=false) rfl rfl rfl (by decide) (fun a' w' ph K=>Ac (K.Ax 3 10 rfl rfl) d) (fun _=>rfl))
      (Ag (Cd (c:=false) rfl rfl rfl (by decide) (fun a' w' ph K=>Ac (K.Ax 3 10 rfl rfl) d) (fun _=>rfl))
      (Ag (Cd (c:=false) rfl rfl rfl (by decide) (fun a' w' ph K=>Ac (K.Ax 3 10 rfl rfl) d) (fun _=>rfl))
      (Ag (Cd (c:=false) rfl rfl rfl (by decide) (fun a' w' ph K=>Ac (K.Ax 3 10 rfl rfl) d) (fun _=>rfl))
      (Ag (od rfl (fun _=>rfl) (fun K=>Ba (es (K.Ax 3 10 rfl rfl)) d (ec (v:=.bool false))))
      (Ag (od rfl (fun _=>rfl) (fun K=>AK (es (K.Ax 9 16 rfl rfl))))
      (Ag (Cd (c:=false) rfl rfl rfl (by decide) (fun a' w' ph K=>(show sl a' 17=.bool false from K.Ax 10 17 rfl rfl)) (fun _=>rfl))
      (Ag (Cd (c:=false) rfl rfl rfl (by decide) (fun a' w' ph K=>(show sl a' 17=.bool false from K.Ax 10 17 rfl rfl)) (fun _=>rfl))
      (Ag (Cd (c:=false) rfl rfl rfl (by decide) (fun a' w' ph K=>(show sl a' 17=.bool false from K.Ax 10 17 rfl rfl)) (fun _=>rfl))
      (Ag (Cd (c:=false) rfl rfl rfl (by decide) (fun a' w' ph K=>(show sl a' 17=.bool false from K.Ax 10 17 rfl rfl)) (fun _=>rfl))
      (B5 _)))))))))))))))) ?_
  intro aR;rintro _ rfl _ rfl _ rfl _ rfl _ rfl _ rfl _ rfl _ rfl _ rfl _ rfl _ rfl _ rfl _ rfl _ rfl _ rfl r;have aU:=x.ext r;refine Aj rfl rfl rfl (by decide) rfl (by decide)<|wd rfl (fun st=>Ba (v:=.bool false) (ee st rfl) rfl (ee st rfl))<|wa rfl (v:=.bool false) rfl<|Af<|Aa<|AF ?_;obtain rfl:=Option.some.inj h;refine AR rfl rfl ?_;exact⟨aU.Bu,rfl⟩
theorem Wa(s:Nat)(a:CE)(Z:Nat→Prop)(w:World)(j:CE)(k:GP s a=some j):
 BL Tryz.prog 88 #[.agg #[I a.Lo,I a.Hi]] w (fun v w'=>Ext w w'∧(CS OG).R w' (ZZ FN [] Z w.heap.size []) v j):=by
 unfold GP at k;refine A8 (N:=8) Tryz.func88 rfl rfl (by simp) ?_;intro t m u;have h:=AL (i:=0) (v:=.agg #[I a.Lo,I a.Hi]) m rfl;clear m;have e:Hp FN [] w [] w:=Hp.start (BM.none w);refine Ae<|Ab<|we rfl (fun st=>B2 (v:=.agg #[I a.Lo,I a.Hi]) (cs:= #[I a.Lo,I a.Hi]) (ee st h) rfl) ?_;rintro _ w1 ⟨x,rfl,d⟩;have f:=e.nb d;have q:=e.BK d;refine we rfl (fun st=>BO (cs:= #[I 0,I 0]) RJ rfl) ?_;rintro _ w2 ⟨y,rfl,b⟩;have o:=f.nb b;have r:=f.BK b;refine Af<|Aa<|Ae<|Ab<|wd rfl (fun st=>Am (ee st rfl) (IJ _ _)) ?_;have c:=(d.bk.ext b.gr);refine wd rfl (fun st=>Au (v:=I a.Lo) AZ (ee st rfl) c rfl)<|wd rfl (fun st=>Am (ee st rfl) (JY _ _))<|wd rfl (fun st=>Au (v:=I a.Hi) AZ (ee st rfl) c rfl)<|wd rfl (fun st=>C6 (vs:= #[(0,I a.Lo),(1,I a.Hi)]) (v:=.agg #[I a.Lo,I a.Hi]) (Iq (ee st rfl) (ee st rfl)) (by kernel_rfl))<|Bo rfl rfl (fun st=>Bd (n:=2) (l:=[I a.Lo,I a.Hi]) (Cf:= #[I a.Lo,I a.Hi]) (ee st rfl) (ee st rfl) Uh b.bk rfl rfl (show 0+2≤2 by decide) (AQ rfl) rfl) ?_;rintro _ z g;have p:=o.gr g.gr 0 rfl;refine Af<|Aa<|AF ?_;obtain rfl:=Option.some.inj k;refine FX (v:=.agg #[I a.Lo,I a.Hi]) rfl rfl (CJ K2 g.bk rfl rfl) ?_;exact⟨p.Bu,⟨_,rfl,rfl⟩⟩
theorem a31(bT:Nat)(a:Ap)(p:Option Addr)(q:Nat)(Z:Nat→Prop)(w:World)(bU:Sl AM w Z p q a.Ad)(cK:Ap)(m:CU bT a=some cK):
 BL Tryz.prog 31 #[.agg #[I a.Ak,I a.Ai,I a.Ao,I a.Aw,.slice p a.Ad.length q]] w (fun v w'=>Ext w w'∧(CS GG).R w' (ZZ FN [] Z w.heap.size []) v cK):=by
 unfold CU at m;refine A8 (N:=43) Tryz.func31 rfl rfl (by simp) ?_;intro c6 cL c7;have b7:=AL (i:=0) (v:=.agg #[I a.Ak,I a.Ai,I a.Ao,I a.Aw,.slice p a.Ad.length q]) cL rfl;clear cL;have b2:Hp FN [] w [] w:=Hp.start (BM.none w);have bF:=bU.mv (Bj (Z:=Z) (L:=[]) w);refine Ae<|Ab<|we rfl (fun st=>B2 (v:=.agg #[I a.Ak,I a.Ai,I a.Ao,I a.Aw,.slice p a.Ad.length q]) (cs:= #[I a.Ak,I a.Ai,I a.Ao,I a.Aw,.slice p a.Ad.length q]) (ee st b7) rfl) ?_;rintro _ w1 ⟨x,rfl,bB⟩;have b3:=b2.nb bB;have c1:=b2.BK bB;refine we rfl (fun st=>BO (cs:= #[I 0,I 0,I 0,I 0,.slice none 0 0]) Mr rfl) ?_;rintro _ w2 ⟨t,rfl,aX⟩;have b4:=b3.nb aX;have c2:=b3.BK aX;refine Af<|Aa<|Ae<|Ab<|wd rfl (fun st=>Am (ee st rfl) (Gf _ _)) ?_;have aD:=(bB.bk.ext aX.gr);refine wd rfl (fun st=>Au (v:=I a.Ak) AZ (ee st rfl) aD rfl)<|wd rfl (fun st=>Am (ee st rfl) (Il _ _))<|wd rfl (fun st=>Au (v:=I a.Ai) AZ (ee st rfl) aD rfl)<|wd rfl (fun st=>Am (ee st rfl) (Mp _ _))<|wd rfl (fun st=>Au (v:=I a.Ao) AZ (ee st rfl) aD rfl)<|wd rfl (fun st=>Am (ee st rfl) (K1 _ _))<|wd rfl (fun st=>Au (v:=I a.Aw) AZ (ee st rfl) aD rfl)<|wd rfl (fun st=>C6 (vs:= #[(0,I a.Ak),(1,I a.Ai),(2,I a.Ao),(3,I a.Aw)]) (v:=.agg #[I a.Ak,I a.Ai,I a.Ao,I a.Aw,.slice none 0 0]) (TA (ee st rfl) (ee st rfl) (ee st rfl) (ee st rfl)) (by kernel_rfl))<|we rfl (fun st=>BO (cs:= #[I 0,I 0,I 0,I 0,.slice none 0 0]) Mr rfl) ?_;rintro _ dC ⟨s,rfl,aQ⟩;have bC:=b4.nb aQ;have c3:=b4.BK aQ;refine Bo rfl rfl (fun st=>Bd (n:=5) (l:=[I a.Ak,I a.Ai,I a.Ao,I a.Aw,.slice none 0 0]) (Cf:= #[I a.Ak,I a.Ai,I a.Ao,I a.Aw,.slice none 0 0]) (ee st rfl) (ee st rfl) PN aQ.bk rfl rfl (show 0+5≤5 by decide) (AQ rfl) rfl) ?_;rintro _ b8 aY;have cM:=bC.gr aY.gr 0 rfl;refine Af<|Aa<|Ae<|Ae<|Ab<|wa rfl (v:=I 0) rfl<|Af<|Aa<|A5 ?_;have cN:Hp FN [] w [none,some s,some t,some x] b8:=cM.nil;have cO:AG AM 156 w.heap.size b8 (ZZ FN [] Z w.heap.size [none,some s,some t,some x]) none 0 ([]:List A3):=AG.nil _ _ _ _ _;replace m:=bind_some m;obtain⟨z5,aR,m⟩:=m;refine Ch (fun cP z aJ=>(cP=.exit 0∧∃c g,z.tmps.size=43∧z.defers=(X0).ds∧sl z 2=pt t 0∧sl z 3=pt s 0∧Hp FN [] w [ob c,some s,some t,some x] aJ∧AG AM 156 w.heap.size aJ (ZZ FN [] Z w.heap.size [ob c,some s,some t,some x]) c g z5∧Bk aJ t 75 #[I 0,I 0,I 0,I 0,.slice none 0 0]∧Bk aJ s 75 #[I a.Ak,I a.Ai,I a.Ao,I a.Aw,.slice c z5.length g])) ?cQ ?cR
 case cQ=>
  clear m;refine Cg (fun(b9:Nat) (z:Act) (aJ:World)=>∃y,∃j,∃f o,DM bT a b9 y j=some z5∧z.tmps.size=43∧z.defers=(X0).ds∧sl z 1=pt x 0∧sl z 2=pt t 0∧sl z 3=pt s 0∧sl z 4=I y∧Hp FN [] w [ob f,some s,some t,some x] aJ∧AG AM 156 w.heap.size aJ (ZZ FN [] Z w.heap.size [ob f,some s,some t,some x]) f o j∧Bk aJ x 63 #[I a.Ak,I a.Ai,I a.Ao,I a.Aw,.slice p a.Ad.length q]∧Bk aJ t 75 #[I 0,I 0,I 0,I 0,.slice none 0 0]∧Bk aJ s 75 #[I a.Ak,I a.Ai,I a.Ao,I a.Aw,.slice f j.length o]∧Sl AM aJ (ZZ FN [] Z w.heap.size [ob f,some s,some t,some x]) p q a.Ad) bT ?cS ?cT
  case cS=>
   intro st;have bV:=((aD.ext aQ.gr).gr aY.gr (bC.ne 2 0 rfl rfl rfl));have bW:=((aX.bk.ext aQ.gr).gr aY.gr (bC.ne 1 0 rfl rfl rfl));have bX:=aY.bk;have bG:Sl AM b8 (ZZ FN [] Z w.heap.size [none,some s,some t,some x]) p q a.Ad:=(((((bF.mv (Ay bB)).mv (Ay aX)).mv (Ay aQ)).mv (bC.AT aY.gr 0 rfl)).mv BY);exact⟨(0:Int),([]:List A3),none,0,aR,qz st,qd st,sp st 1 rfl,sp st 2 rfl,sp st 3 rfl,sp st 4 rfl,cN,cO,bV,bW,bX,bG⟩
  case cT=>
   rintro(_|b9) c8 c9 ⟨y,j,f,o,aR,cA,cB,aS,bD,aI,aT,bI,aE,aK,aZ,a0,aL⟩
   ·exact absurd (show none=some _ from aR) (by simp)
   rw[DM.eq_2] at aR;have m:=aR;clear aR;refine B4 (N:=43) cA cB<|Ae<|Ae<|Ab<|wm rfl (v:=I y) aT<|wd rfl (fun st=>Am (ee st aS) (Eb _ _))<|wd rfl (fun st=>Au (v:=.slice p a.Ad.length q) EX (ee st rfl) aK rfl)<|wd rfl (fun st=>BH Tryz.underlying61 (ee st rfl))<|wd rfl (fun st=>Ct (ee st rfl) (ee st rfl))<|Af<|Aa ?_;rcases An (decide (y<(a.Ad.length:Int))) with a2|a2
   ·replace m:=AB m a2;refine AA rfl a2<|AW<|Aa<|Ae<|A5<|Ae<|Ab<|wd rfl (fun st=>Am (ee st aS) (Eb _ _))<|wd rfl (fun st=>Au (v:=.slice p a.Ad.length q) EX (ee st rfl) aK rfl)<|wm rfl (v:=I y) aT ?_;replace m:=Bq m;obtain⟨i8,b,cU,cV,cW,m⟩:=m;obtain⟨dD,dE,_,cX,rfl,cY⟩:=Sl.elem aL (by decide) cV;refine wd rfl (fun st=>B3 (k:=i8) Tryz.underlying61 H3 (ee st rfl) cX (ee st rfl) cU cW)<|wd rfl (fun st=>DH (l:=[I b.Ar,I b.AE,I b.AP,I b.Ce,I b.BZ]) OR (ee st rfl) cY rfl rfl)<|we rfl (fun st=>BO (cs:= #[I 0,I 0,I 0,I 0,I 0]) NX rfl) ?_;rintro _ dF ⟨aU,rfl,aF⟩;have aM:=bI.nb aF;have c4:=bI.BK aF;refine Bo rfl rfl (fun st=>Bd (n:=5) (l:=[I b.Ar,I b.AE,I b.AP,I b.Ce,I b.BZ]) (Cf:= #[I b.Ar,I b.AE,I b.AP,I b.Ce,I b.BZ]) (ee st rfl) (ee st rfl) H3 aF.bk rfl rfl (show 0+5≤5 by decide) (AQ rfl) rfl) ?_;rintro _ dA r;have b5:=aM.gr r.gr 0 rfl;refine Af<|Aa ?_;have bE:=((a0.ext aF.gr).gr r.gr (aM.ne 2 0 rfl rfl rfl));replace m:=bind_some m;obtain⟨d,cC,m⟩:=m;refine CB 13 [Kc (pt s 4),Kc (.slice f j.length o),Kc (pt aU 0),Kc (.agg #[I b.Ar,I b.AE]),Kc (.agg #[I d.Lo,I d.Hi]),Kc (pt aU 2),Kc (I b.AP),Kc (pt aU 3),Kc (I b.Ce),Kc (pt aU 4),Kc (I b.BZ),Kc (.agg #[I d.Lo,I d.Hi,I b.AP,I b.Ce,I b.BZ]),Kv (DT AM) (ZZ FN [] Z w.heap.size [some aU,ob f,some s,some t,some x]) [(⟨d.Lo,d.Hi,b.AP,b.Ce,b.BZ⟩:A3)]] mixed rfl rfl
        (Ag (od rfl (fun _=>rfl) (fun K=>Am (es ((K.out 3 rfl).trans aI)) (C7 _ _)))
        (Ag (od rfl (fun _=>rfl) (fun K=>Au Ds (es (K.Ax 0 27 rfl rfl)) (bE.ext K.Bi) rfl))
        (Ag (od rfl (fun _=>rfl) (fun K=>Am (es ((K.out 5 rfl).trans rfl)) (IK _ _)))
        (Ag (od rfl (fun _=>rfl) (fun K=>Bb (l:=[I b.Ar,I b.AE]) Jn (es (K.Ax 2 29 rfl rfl)) (r.bk.ext K.Bi) rfl rfl))
        (Ag (CK rfl rfl (fun a' w' ph K=>(AI Ui rfl (Cw (es (K.Ax 3 30 rfl rfl))) (Wa bT (⟨b.Ar,b.AE⟩:CE) ZA _ d cC)).mono (fun _ _ h=>⟨(by obtain⟨_,rfl,rfl⟩:=h.2;rfl),h.1⟩)))
        (Ag (od rfl (fun _=>rfl) (fun K=>Am (es ((K.out 5 rfl).trans rfl)) (NY _ _)))
        (Ag (od rfl (fun _=>rfl) (fun K=>Au AZ (es (K.Ax 5 32 rfl rfl)) (r.bk.ext K.Bi) rfl))
        (Ag (od rfl (fun _=>rfl) (fun K=>Am (es ((K.out 5 rfl).trans rfl)) (NZ _ _)))
        (Ag (od rfl (fun _=>rfl) (fun K=>Au AZ (es (K.Ax 7 34 rfl rfl)) (r.bk.ext K.Bi) rfl))
        (Ag (od rfl (fun _=>rfl) (fun K=>Am (es ((K.out 5 rfl).trans rfl)) (N0 _ _)))
        (Ag (od rfl (fun _=>rfl) (fun K=>Au AZ (es (K.Ax 9 36 rfl rfl)) (r.bk.ext K.Bi) rfl))
        (Ag (od rfl (fun _=>rfl) (fun K=>C6 (vs:= #[(0,.agg #[I d.Lo,I d.Hi]),(1,I b.AP),(2,I b.Ce),(3,I b.BZ)]) (v:=.agg #[I d.Lo,I d.Hi,I b.AP,I b.Ce,I b.BZ]) (TA (es (K.Ax 4 31 rfl rfl)) (es (K.Ax 6 33 rfl rfl)) (es (K.Ax 8 35 rfl rfl)) (es (K.Ax 10 37 rfl rfl))) (by kernel_rfl)))
        (Ag (CK rfl rfl (fun a' w' ph K=>(BJ (e:=156) (vs:= #[(0,.agg #[I d.Lo,I d.Hi,I b.AP,I b.Ce,I b.BZ])]) (cs:= #[I d.Lo,I d.Hi,I b.AP,I b.Ce,I b.BZ]) (Hu (es (K.Ax 11 38 rfl rfl))) (by kernel_rfl)).mono (fun u Bf ⟨dG,hu,bY⟩=>⟨⟨_,_,hu,Gx (xs:=[(⟨d.Lo,d.Hi,b.AP,b.Ce,b.BZ⟩:A3)]) (Be:=[[I d.Lo,I d.Hi,I b.AP,I b.Ce,I b.BZ]]) bY.bk ((b5.ext K.Bi).kn (Nat.le_of_eq bY.Et.symm)) (R2.mv (Ah bY.gr) (show R2 AM w' (ZZ FN [] Z w.heap.size [some aU,ob f,some s,some t,some x]) [[I d.Lo,I d.Hi,I b.AP,I b.Ce,I b.BZ]] [(⟨d.Lo,d.Hi,b.AP,b.Ce,b.BZ⟩:A3)] from⟨rfl,trivial⟩)) rfl (Nat.le_refl _)⟩,bY.gr⟩)))
        (B5 _)))))))))))))) ?_
    intro cZ;rintro _ rfl _ rfl _ rfl _ rfl _ rfl _ rfl _ rfl _ rfl _ rfl _ rfl _ rfl _ rfl _ ⟨cI,cJ,rfl,a6⟩ aB;have aN:=b5.ext aB;have a3:AG AM 156 w.heap.size cZ (ZZ FN [] Z w.heap.size [some aU,ob f,some s,some t,some x]) f o j:=(((aE.ext aF.gr (Ay aF)).gr r.gr (fun k aV=>aM.ne 1 0 rfl (congrArg some aV) rfl) (aM.AT r.gr 0 rfl)).ext aB (Ah aB));replace m:=CY m;obtain⟨bJ,m⟩:=m;refine we rfl (fun st=>Gh (ys:=[(⟨d.Lo,d.Hi,b.AP,b.Ce,b.BZ⟩:A3)]) Tryz.underlying73 RK rfl rfl (by decide) (ee st rfl) rfl (ee st rfl) a3 a6.n (by have:=bJ;simp only[maxLen];omega) (by have:=bJ;omega) aN.sz) ?_;rintro _ b6 ⟨aA,a4,rfl,aG,a7,cD⟩;have aH:Hp FN [] w [some aU,ob aA,some s,some t,some x] b6:=aN.row aG 1 rfl a7;have cE:AG AM 156 w.heap.size b6 (ZZ FN [] Z w.heap.size [some aU,ob aA,some s,some t,some x]) aA a4 (j++[(⟨d.Lo,d.Hi,b.AP,b.Ce,b.BZ⟩:A3)]):=EP cD (aN.CQ aG 1 rfl (fun k aV=>(a7 k aV).1));refine wd rfl (fun st=>Am (ee st aI) (C7 _ _)) ?_;have bK:=((bE.ext aB).gr aG (aN.ne 2 1 rfl rfl rfl));refine Bo rfl rfl (fun st=>Bd (n:=1) (l:=[.slice aA ((j++[(⟨d.Lo,d.Hi,b.AP,b.Ce,b.BZ⟩:A3)]).length) a4]) (Cf:= #[I a.Ak,I a.Ai,I a.Ao,I a.Aw,.slice aA ((j++[(⟨d.Lo,d.Hi,b.AP,b.Ce,b.BZ⟩:A3)]).length) a4]) (ee st rfl) (ee st rfl) Vg bK rfl rfl (show 4+1≤5 by decide) (AQ rfl) rfl) ?_;rintro _ bL aC;have cF:=aH.gr aC.gr 2 rfl;refine Af<|Bn<|Aa<|Ab<|wm rfl (v:=I y) aT ?_;replace m:=AU m;obtain⟨cG,m⟩:=m;refine wd rfl (fun st=>Bx (ee st rfl) (ee st rfl) cG)<|wa rfl (v:=I (y+1)) rfl<|Af ?_;have cH:Hp FN [] w [ob aA,some s,some t,some x] bL:=cF.erase 0;have bH:AG AM 156 w.heap.size bL (ZZ FN [] Z w.heap.size [ob aA,some s,some t,some x]) aA a4 (j++[(⟨d.Lo,d.Hi,b.AP,b.Ce,b.BZ⟩:A3)]):=((cE.gr aC.gr (fun k aV=>aH.ne 1 2 rfl (congrArg some aV) rfl) (aH.AT aC.gr 2 rfl)).up (AO 0));have bM:=(((((aK.ext aF.gr).gr r.gr (aM.ne 4 0 rfl rfl rfl)).ext aB).gr aG (aN.ne 4 1 rfl rfl rfl)).gr aC.gr (aH.ne 4 2 rfl rfl rfl));have bN:=(((((aZ.ext aF.gr).gr r.gr (aM.ne 3 0 rfl rfl rfl)).ext aB).gr aG (aN.ne 3 1 rfl rfl rfl)).gr aC.gr (aH.ne 3 2 rfl rfl rfl));have bO:=aC.bk;have a9:Sl AM bL (ZZ FN [] Z w.heap.size [ob aA,some s,some t,some x]) p q a.Ad:=((((((aL.mv (Ay aF)).mv (aM.AT r.gr 0 rfl)).mv (Ah aB)).mv (aN.CQ aG 1 rfl (fun k aV=>(a7 k aV).1))).mv (aH.AT aC.gr 2 rfl)).mv (AO 0));refine Bt b9 (Nat.lt_succ_self _) (fun st=>?_);exact⟨(y+1),(j++[(⟨d.Lo,d.Hi,b.AP,b.Ce,b.BZ⟩:A3)]),aA,a4,m,qz st,qd st,sp st 1 aS,sp st 2 bD,sp st 3 aI,sp st 4 rfl,cH,bH,bM,bN,bO,a9⟩
   ·replace m:=AD m a2;refine AH rfl a2<|Cc<|AN<|AN ?_;obtain rfl:=Option.some.inj m;refine BQ (fun st=>?_);exact⟨rfl,f,o,qz st,qd st,sp st 2 bD,sp st 3 aI,bI,aE,aZ,a0⟩
 case cR=>
  rintro cP c5 dB (⟨rfl,c,g,bZ,b1,a5,bP,bA,aO,bQ,bR⟩);refine Ci (X:=X0) (N:=43) bZ b1<|Bs<|Aa<|Ae<|Ab<|wd rfl (fun st=>Bb (l:=[I a.Ak,I a.Ai,I a.Ao,I a.Aw,.slice c z5.length g]) CR (ee st bP) bR rfl rfl)<|Bo rfl rfl (fun st=>Bd (n:=5) (l:=[I a.Ak,I a.Ai,I a.Ao,I a.Aw,.slice c z5.length g]) (Cf:= #[I a.Ak,I a.Ai,I a.Ao,I a.Aw,.slice c z5.length g]) (ee st a5) (ee st rfl) PN bQ rfl rfl (show 0+5≤5 by decide) (AQ rfl) rfl) ?_;rintro _ c0 aW;have bS:=bA.gr aW.gr 2 rfl;refine Af<|Aa<|AF ?_;obtain rfl:=Option.some.inj m;refine FX (v:=.agg #[I a.Ak,I a.Ai,I a.Ao,I a.Aw,.slice c z5.length g]) rfl a5 (CJ CR aW.bk rfl rfl) ?_;have aP:AG AM 156 w.heap.size c0 (ZZ FN [] Z w.heap.size [ob c,some s,some t,some x]) c g z5:=(aO.gr aW.gr (fun k aV=>bA.ne 0 2 rfl (congrArg some aV) rfl) (bA.AT aW.gr 2 rfl));exact⟨bS.Bu,⟨_,rfl,_,_,rfl,bS.Iz (M:=[]) 0 rfl [] rfl trivial aP⟩⟩
theorem Wb(m:Nat)(a:Ap)(b:Option Addr)(c:Nat)(Z:Nat→Prop)(w:World)(h:Sl AM w Z b c a.Ad)(n:Int)(e:Fk m a=some n):
 BL Tryz.prog 34 #[.agg #[I a.Ak,I a.Ai,I a.Ao,I a.Aw,.slice b a.Ad.length c]] w (fun v w'=>Ext w w'∧(Em .i64).R w' (ZZ FN [] Z w.heap.size []) v n):=by
 unfold Fk at e;refine A8 (N:=5) Tryz.func34 rfl rfl (by simp) ?_;intro u o x;have k:=AL (i:=0) (v:=.agg #[I a.Ak,I a.Ai,I a.Ao,I a.Aw,.slice b a.Ad.length c]) o rfl;clear o;have j:Hp FN [] w [] w:=Hp.start (BM.none w);have f:=h.mv (Bj (Z:=Z) (L:=[]) w);refine Ae<|Ab<|we rfl (fun st=>B2 (v:=.agg #[I a.Ak,I a.Ai,I a.Ao,I a.Aw,.slice b a.Ad.length c]) (cs:= #[I a.Ak,I a.Ai,I a.Ao,I a.Aw,.slice b a.Ad.length c]) (ee st k) rfl) ?_;rintro _ w1 ⟨y,rfl,d⟩;have p:=j.nb d;have t:=j.BK d;refine wa rfl (v:=I 0) rfl<|Af<|Aa<|Ae<|Ab<|wd rfl (fun st=>Bb (l:=[I a.Ak,I a.Ai,I a.Ao,I a.Aw,.slice b a.Ad.length c]) D9 (ee st rfl) d.bk rfl rfl) ?_;have g:=(f.mv (Ay d));replace e:=bind_some e;obtain⟨r2,q,e⟩:=e;refine we rfl (fun st=>AI QF (ee st rfl) (Cw (ee st rfl)) (Vt m a b c ZA _ g.all r2 q)) ?_;rintro _ z ⟨r,rfl⟩;have s:=p.ext r;refine wa rfl (v:=I r2) rfl<|Af<|Aa<|AF ?_;obtain rfl:=Option.some.inj e;refine AR rfl rfl ?_;exact⟨s.Bu,rfl⟩
theorem Wc(u:Nat)(a:Ap)(d:Option Addr)(e:Nat)(Z:Nat→Prop)(w:World)(o:Sl AM w Z d e a.Ad)(z:Bool)(f:FD u a=some z):
 BL Tryz.prog 27 #[.agg #[I a.Ak,I a.Ai,I a.Ao,I a.Aw,.slice d a.Ad.length e]] w (fun v w'=>Ext w w'∧BU.R w' (ZZ FN [] Z w.heap.size []) v z):=by
 unfold FD at f;refine A8 (N:=17) Tryz.func27 rfl rfl (by simp) ?_;intro aG aA aH;have x:=AL (i:=0) (v:=.agg #[I a.Ak,I a.Ai,I a.Ao,I a.Aw,.slice d a.Ad.length e]) aA rfl;clear aA;have r:Hp FN [] w [] w:=Hp.start (BM.none w);have k:=o.mv (Bj (Z:=Z) (L:=[]) w);refine Ae<|Ab<|we rfl (fun st=>B2 (v:=.agg #[I a.Ak,I a.Ai,I a.Ao,I a.Aw,.slice d a.Ad.length e]) (cs:= #[I a.Ak,I a.Ai,I a.Ao,I a.Aw,.slice d a.Ad.length e]) (ee st x) rfl) ?_;rintro _ w1 ⟨aI,rfl,h⟩;have s:=r.nb h;have aF:=r.BK h;refine wa rfl (v:=.bool false) rfl<|Af<|Aa<|Ae<|Ab<|wd rfl (fun st=>Am (ee st rfl) (Eb _ _))<|wd rfl (fun st=>Au (v:=.slice d a.Ad.length e) EX (ee st rfl) h.bk rfl)<|wd rfl (fun st=>BH Tryz.underlying61 (ee st rfl))<|wd rfl (fun st=>Fz (ee st rfl) (ee st rfl))<|wm rfl (v:=.bool (decide ((a.Ad.length:Int)≤6))) rfl ?_;rcases An (decide ((a.Ad.length:Int)≤6)) with b|b
 ·replace f:=AB f b;refine Aq rfl rfl (Ac rfl b) rfl (by decide) (fun st=>Bb (l:=[I a.Ak,I a.Ai,I a.Ao,I a.Aw,.slice d a.Ad.length e]) D9 (ee st rfl) h.bk rfl rfl) ?_;have j:=(k.mv (Ay h));replace f:=bind_some f;obtain⟨y,aB,f⟩:=f;refine Dp rfl rfl (Ac rfl b) rfl (by decide) (fun st=>AI QF (ee st rfl) (Cw (ee st rfl)) (Vt u a d e ZA _ j.all y aB)) ?_;rintro _ aJ ⟨n,rfl⟩;have t:=s.ext n;refine Aq rfl rfl (Ac rfl b) rfl (by decide) (fun st=>EY (ee st rfl) (ee st rfl))<|Aq rfl rfl (Ac rfl b) rfl (by decide) (fun st=>AK (v:=.bool (y !=0)) (ee st rfl)) ?_;rcases An (y !=0) with g|g
  ·replace f:=AB f g;refine Aj (c:=true) rfl rfl (Ac rfl g) (by decide) rfl (by decide)<|Aj (c:=true) rfl rfl (Ac rfl g) (by decide) rfl (by decide)<|Aj (c:=true) rfl rfl (Ac rfl g) (by decide) rfl (by decide)<|Aq rfl rfl (Ac rfl b) rfl (by decide) (fun st=>AS (v:=.bool true) (ee st rfl) g (ee st rfl))<|wd rfl (fun st=>AS (v:=.bool true) (ee st rfl) b (ee st rfl))<|wa rfl (v:=.bool true) rfl<|Af<|Aa<|AF ?_;obtain rfl:=Option.some.inj f;refine AR rfl rfl ?_;exact⟨t.Bu,rfl⟩
  ·replace f:=AD f g;have p:=(h.bk.ext n);refine Aq rfl rfl (Ac rfl g) rfl (by decide) (fun st=>Bb (l:=[I a.Ak,I a.Ai,I a.Ao,I a.Aw,.slice d a.Ad.length e]) D9 (ee st rfl) p rfl rfl) ?_;have m:=(j.mv (Ah n));replace f:=bind_some f;obtain⟨q,aC,f⟩:=f;refine Dp rfl rfl (Ac rfl g) rfl (by decide) (fun st=>AI N1 (ee st rfl) (Cw (ee st rfl)) (UE u a d e ZA _ m.all q aC)) ?_;rintro _ aK ⟨aD,rfl⟩;have aE:=t.ext aD;refine Aq rfl rfl (Ac rfl g) rfl (by decide) (fun st=>Fz (ee st rfl) (ee st rfl))<|Aq rfl rfl (Ac rfl b) rfl (by decide) (fun st=>Ba (v:=.bool (decide (q≤60))) (ee st rfl) g (ee st rfl))<|wd rfl (fun st=>AS (v:=.bool (decide (q≤60))) (ee st rfl) b (ee st rfl))<|wa rfl (v:=.bool (decide (q≤60))) rfl<|Af<|Aa<|AF ?_;obtain rfl:=Option.some.inj f;refine AR rfl rfl ?_;exact⟨aE.Bu,rfl⟩
 ·replace f:=AD f b;refine Aj (c:=false) rfl rfl (Ac rfl b) (by decide) rfl (by decide)<|Aj (c:=false) rfl rfl (Ac rfl b) (by decide) rfl (by decide)<|Aj (c:=false) rfl rfl (Ac rfl b) (by decide) rfl (by decide)<|Aj (c:=false) rfl rfl (Ac rfl b) (by decide) rfl (by decide)<|DS rfl rfl rfl rfl (by decide)<|DS rfl rfl rfl rfl (by decide)<|DS rfl rfl rfl rfl (by decide)<|Aj (c:=false) rfl rfl (Ac rfl b) (by decide) rfl (by decide)<|wd rfl (fun st=>Ba (v:=.bool false) (ee st rfl) b (ee st rfl))<|wa rfl (v:=.bool false) rfl<|Af<|Aa<|AF ?_;obtain rfl:=Option.some.inj f;refine AR rfl rfl ?_;exact⟨s.Bu,rfl⟩
end Go.Proofs.YtkljfdkmjdjpfaaGreat
end
