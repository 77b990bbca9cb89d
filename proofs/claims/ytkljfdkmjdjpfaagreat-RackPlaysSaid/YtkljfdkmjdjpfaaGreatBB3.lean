import Derived.Test.YtkljfdkmjdjpfaaGreatBB2
import Derived.WalkKit
import Derived.KernelRfl
import Derived.WalkSpells
import Derived.WalkLawsBesides
import Derived.Maps.AppendAt
import Derived.OrdersIn
import Derived.RangeFuncIn
import Derived.RangeFuncLeaves
import Derived.RangeFuncRecord
import Derived.RangeFuncSeq
import Derived.Scope
import Derived.DeepKeys3
import Derived.Laws.CopyRow
import Derived.Laws.OwnMore
import Derived.Laws.MakeOwn
import Derived.Laws.IdiomCopy
import Derived.Test.YtkljfdkmjdjpfaaGreatProg
/-
  The contracts of the functions of the program and of the reference, and the logic that they are proved in: the base that several claims of this seat share.
-/
set_option linter.all false
section
namespace Go.Proofs.YtkljfdkmjdjpfaaGreat
theorem L8(n:Nat)(h:n<64):Lt .u64 (n:Int)=some ():=by
 refine if_pos ?_;show(n:Int)%(2^64:Int)=n;rw[show(2:Int)^64=18446744073709551616 from rfl];omega
theorem MP(K b d:Nat)(h:d<64):D5 K (b:Int) (d:Int)=some (b.testBit d):=by
 unfold D5;rw[bd (L8 d h),bd (PL b d h),Tf (Tg b d) (by omega),PK]
def lead:List Bool→Nat
 |true::l=>lead l+1
 |_=>0
def GJ(R:Int):List Bool→Bool
 |[]=>true
 |b::l=>decide ((lead (b::l):Int)≤R)&&GJ R l
def IC:List Bool→Nat
 |[]=>0
 |b::l=>(cond b 1 0)+IC l
theorem K9(r:Nat)(l:List Bool):lead (List.replicate r true++l)=r+lead l:=by
 induction r with
 |zero=>simp
 |succ r ih=>rw[List.replicate_succ,List.cons_append,lead,ih];omega
theorem MB(R:Int)(l:List Bool):∀r:Nat,(r:Int)≤R→GJ R (List.replicate r true++false::l)=(decide (0≤R)&&GJ R l)
 |0,_=>rfl
 |r+1,h=>by
  rw[List.replicate_succ,List.cons_append,GJ,MB R l r (by omega)];have:lead (true::(List.replicate r true++false::l))=r+1:=by
   rw[lead,K9];rfl
  rw[this,dt (by omega),Bool.true_and]
theorem NA(W R:Int)(b:0≤R):∀(l:List Bool) (s:Int) (r:Nat),s≤W→(r:Int)≤R→okW W R l s r=(decide (s+(IC l:Int)≤W)&&GJ R (List.replicate r true++l))
 |[],s,r,c,a=>by
  have:∀q:Nat,(q:Int)≤R→GJ R (List.replicate q true)=true:=by
   intro q
   induction q with
   |zero=>intro _;rfl
   |succ q ih=>
    intro g;have e:=K9 (q+1) [];rw[List.append_nil,List.replicate_succ] at e;have h:lead ([]:List Bool)=0:=rfl;rw[List.replicate_succ,GJ,e,ih (by omega),dt (by omega)];rfl
  rw[List.append_nil,this r a,okW,dt (by unfold IC;omega)];rfl
 |false::l,s,r,c,a=>by
  rw[okW,MB R l r a,dt b,Bool.true_and];have:=NA W R b l s 0 c (by omega);rw[Int.natCast_zero] at this;rw[this,IC];simp
 |true::l,s,r,c,a=>by
  rw[okW];have e:List.replicate r true++true::l=List.replicate (r+1) true++l:=by
   rw[List.replicate_succ'];simp
  rw[e]
  by_cases d:s+1≤W
  ·by_cases f:(r:Int)+1≤R
   ·rw[dt d,dt f,Bool.true_and,Bool.true_and,C0,NA W R b l (s+1) (r+1) d (by omega)]
    congr 2
    rw[IC];simp;omega
   ·rw[df f,Bool.false_and,Bool.and_false];have:GJ R (List.replicate (r+1) true++l)=false:=by
     rw[List.replicate_succ,List.cons_append,GJ];have e:=K9 (r+1) l;rw[List.replicate_succ,List.cons_append] at e;rw[e,df (by omega)];rfl
    rw[this,Bool.and_false]
  ·rw[df d,Bool.false_and];have:¬(s+(IC (true::l):Int)≤W):=by rw[IC];simp;omega
   rw[df this];rfl
theorem L9(n b i:Nat)(h:i<n):(wl n b).drop i=b.testBit i::(wl n b).drop (i+1):=by
 rw[List.drop_eq_getElem_cons (by rw[FV];exact h)]
 congr 1
 simp[wl]
theorem Tt(K:Nat)(y:Ar)(b a:Nat)(h0:0≤y.Am)(h9:y.Am≤9)(d:0≤y.AB)(f:y.AB≤y.Am+1)(i:a≤9):∀(k m e:Nat) (g:Bool),(a:Int)+y.AB+1=e+k→k<m→
  Cv K y b (a:Int) m g (e:Int)=some (g&&decide (k≤lead ((wl (days y) b).drop e))):=by
 intro k
 induction k with
 |zero=>
  intro m e g h hm;cases m with
  |zero=>omega
  |succ m=>rw[Cv.eq_2,BB (by omega) (by omega),cf (df (by omega)),dt (Nat.zero_le _),Bool.and_true]
 |succ k ih=>
  intro m e g h hm;cases m with
  |zero=>omega
  |succ m=>
   rw[Cv.eq_2,BB (by omega) (by omega),ct (dt (by omega))];cases g with
   |false=>
    rw[cf rfl,BB (by omega) (by omega),C0,ih m (e+1) false (by omega) (by omega)];rfl
   |true=>
    rw[ct rfl,Bool.true_and]
    by_cases c:(e:Int)≤y.Am
    ·rw[ct (dt c),bd (MP K b e (by omega)),BB (by omega) (by omega),C0,ih m (e+1) _ (by omega) (by omega),L9 (days y) b e (by unfold days;omega)];cases b.testBit e with
     |false=>
      rw[Bool.false_and,df (show¬(k+1≤lead (false::_)) by show¬(k+1≤0);omega)]
     |true=>
      rw[Bool.true_and]
      congr 1
      rw[Bool.eq_iff_iff,decide_eq_true_eq,decide_eq_true_eq];show _↔k+1≤lead _+1;omega
    ·rw[cf (df c),BB (by omega) (by omega),C0,ih m (e+1) false (by omega) (by omega),show(wl (days y) b).drop e=[] from List.drop_eq_nil_of_le (by rw[FV];unfold days;omega)];rw[Bool.false_and,df (show¬(k+1≤lead []) by show¬(k+1≤0);omega)]
theorem RZ(K:Nat)(y:Ar)(b a:Nat)(h0:0≤y.Am)(h9:y.Am≤9)(d:0≤y.AB)(f:y.AB≤y.Am+1)(i:a≤9):∀(k m e:Nat) (g:Bool),(a:Int)+y.AB+1=e+k→k<m→
  Cq K y b (a:Int) m g (e:Int)=some (g&&decide (k≤lead ((wl (days y) b).drop e))):=by
 intro k
 induction k with
 |zero=>
  intro m e g h hm;cases m with
  |zero=>omega
  |succ m=>rw[Cq.eq_2,BB (by omega) (by omega),cf (df (by omega)),dt (Nat.zero_le _),Bool.and_true]
 |succ k ih=>
  intro m e g h hm;cases m with
  |zero=>omega
  |succ m=>
   rw[Cq.eq_2,BB (by omega) (by omega),ct (dt (by omega))];cases g with
   |false=>
    rw[cf rfl,BB (by omega) (by omega),C0,ih m (e+1) false (by omega) (by omega)];rfl
   |true=>
    rw[ct rfl,Bool.true_and]
    by_cases c:(e:Int)≤y.Am
    ·rw[ct (dt c),bd (MP K b e (by omega)),BB (by omega) (by omega),C0,ih m (e+1) _ (by omega) (by omega),L9 (days y) b e (by unfold days;omega)];cases b.testBit e with
     |false=>
      rw[Bool.false_and,df (show¬(k+1≤lead (false::_)) by show¬(k+1≤0);omega)]
     |true=>
      rw[Bool.true_and]
      congr 1
      rw[Bool.eq_iff_iff,decide_eq_true_eq,decide_eq_true_eq];show _↔k+1≤lead _+1;omega
    ·rw[cf (df c),BB (by omega) (by omega),C0,ih m (e+1) false (by omega) (by omega),show(wl (days y) b).drop e=[] from List.drop_eq_nil_of_le (by rw[FV];unfold days;omega)];rw[Bool.false_and,df (show¬(k+1≤lead []) by show¬(k+1≤0);omega)]
theorem Pk{K:Nat}(y:Ar)(b:Nat)(h0:0≤y.Am)(h9:y.Am≤9)(c:0≤y.AB)(f:y.AB≤y.Am+1)(hK:2000≤K):∀(k m i:Nat) (s:Int),days y=i+k→k<m→0≤s→s≤i→
  CB K y b m s (i:Int)=some (cond (GJ y.AB ((wl (days y) b).drop i)) (.inr (s+(IC ((wl (days y) b).drop i):Int))) (.inl false)):=by
 intro k
 induction k with
 |zero=>
  intro m i s h hm j l;cases m with
  |zero=>omega
  |succ m=>
   rw[CB.eq_2,cf (df (by unfold days at h;omega)),List.drop_eq_nil_of_le (by rw[FV];omega)];show _=some (Sum.inr (s+((0:Nat):Int)));rw[Int.natCast_zero,Int.add_zero]
 |succ k ih=>
  intro m i s h hm j l;cases m with
  |zero=>omega
  |succ m=>
   have p:days y≤10:=by unfold days;omega
   have hi:i<days y:=by omega
   have g:(i:Int)≤y.Am:=by unfold days at hi;omega
   have d:=Tt K y b i h0 h9 c f (by omega) (y.AB+1).toNat K i true (by omega) (by omega);have a:=RZ K y b i h0 h9 c f (by omega) (y.AB+1).toNat K i true (by omega) (by omega);have n:decide ((y.AB+1).toNat≤lead ((wl (days y) b).drop i))= !decide ((lead ((wl (days y) b).drop i):Int)≤y.AB):=by
    rw[←decide_not];congr 1;rw[eq_iff_iff];omega
   rw[Bool.true_and,n] at d a;rw[CB.eq_2,ct (dt g),bd (MP K b i (by omega))];have e:=L9 (days y) b i hi;have o:GJ y.AB ((wl (days y) b).drop i)=(decide ((lead ((wl (days y) b).drop i):Int)≤y.AB)&&GJ y.AB ((wl (days y) b).drop (i+1))):=by
    conv=>lhs;rw[e]
    rw[GJ,←e]
   have ec:IC ((wl (days y) b).drop i)=(cond (b.testBit i) 1 0)+IC ((wl (days y) b).drop (i+1)):=by rw[e,IC]
   rw[o,ec];cases q:b.testBit i with
   |true=>
    rw[ct rfl,BB (by omega) (by omega),bd d];cases decide ((lead ((wl (days y) b).drop i):Int)≤y.AB) with
    |false=>rw[Bool.false_and];rfl
    |true=>
     rw[nt,BB (by omega) (by omega),C0,ih m (i+1) (s+1) (by omega) (by omega) (by omega) (by omega),Bool.true_and]
     congr 2
     simp;omega
   |false=>
    rw[cf rfl,bd a];cases decide ((lead ((wl (days y) b).drop i):Int)≤y.AB) with
    |false=>rw[Bool.false_and];rfl
    |true=>
     rw[nt,BB (by omega) (by omega),C0,ih m (i+1) s (by omega) (by omega) (by omega) (by omega),Bool.true_and]
     congr 2
     simp
theorem KU{K:Nat}(y:Ar)(b:Nat)(h0:0≤y.Am)(h9:y.Am≤9)(a:0≤y.AB)(d:y.AB≤y.Am+1)(f:0≤y.Ap)(hK:2000≤K):DV K y b=some (Hw y (wl (days y) b)):=by
 unfold DV;have g:days y≤10:=by unfold days;omega
 have e:=Pk (K:=K) y b h0 h9 a d hK (days y) K 0 0 (by omega) (by omega) (by omega) (by omega);rw[Int.natCast_zero,List.drop_zero] at e;rw[bd e];have c:=NA y.Ap y.AB a (wl (days y) b) 0 0 f (by omega);rw[Int.natCast_zero] at c;unfold Hw;rw[c];show _=some (_&&GJ y.AB (wl (days y) b));cases GJ y.AB (wl (days y) b) with
 |true=>rw[Bool.and_true];rfl
 |false=>rw[Bool.and_false];rfl
def HY (y:Ar) (k d:Nat):List Int:=((List.range' k d).filter fun b=>Hw y (wl (days y) b)).map fun b:Nat=>(b:Int)
theorem MI(y:Ar):(HY y 0 (2^days y)).length=(CO y).length:=by
 unfold HY CO;rw[List.length_map,List.range_eq_range',List.filter_map,List.length_map];rfl
theorem Pm{K:Nat}(y:Ar)(h0:0≤y.Am)(h9:y.Am≤9)(d:0≤y.AB)(f:y.AB≤y.Am+1)(g:0≤y.Ap)(hK:2000≤K):∀(k m i:Nat) (a:List Int),2^days y=i+k→k<m→a.length≤i→
  CF K y m a (i:Int)=some (a++HY y i k):=by
 intro k;have j:days y≤10:=by unfold days;omega
 have n:=IA _ j;have b:y.Am+1=(days y:Int):=by unfold days;omega
 have c:E8 (1:Int) (days y:Int)=((2^days y:Nat):Int):=by
  unfold E8;rw[Int.one_mul,Int.toNat_natCast,Int.natCast_pow];rfl
 have e:I1 (1:Int) (days y:Int)=some ():=by
  refine if_pos ⟨by omega,by omega,?_,?_⟩
  ·have:(0:Int)≤1*2^((days y:Nat):Int).toNat:=by rw[Int.one_mul];exact Int.le_of_lt (Int.pow_pos (by omega))
   exact Int.le_trans (by omega) this
  ·rw[Int.one_mul,Int.toNat_natCast];have:((2^days y:Nat):Int)≤1024:=by omega
   rw[Int.natCast_pow] at this;exact Int.le_trans this (by omega)
 induction k with
 |zero=>
  intro m i a h hm l;cases m with
  |zero=>omega
  |succ m=>
   rw[CF.eq_2,BB (by omega) (by omega),b,bd (L8 _ (by omega)),bd e,c,cf (df (by omega))];simp[HY]
 |succ k ih=>
  intro m i a h hm l;cases m with
  |zero=>omega
  |succ m=>
   rw[CF.eq_2,BB (by omega) (by omega),b,bd (L8 _ (by omega)),bd e,c,ct (dt (by omega)),bd (KU y i h0 h9 d f g hK)];unfold HY;rw[List.range'_succ,List.filter_cons];cases Hw y (wl (days y) i) with
   |true=>
    rw[ct rfl,FK (by simp;omega),BB (by omega) (by omega),C0,ih m (i+1) _ (by omega) (by omega) (by simp;omega)];simp[HY]
   |false=>
    rw[cf rfl,BB (by omega) (by omega),C0,ih m (i+1) a (by omega) (by omega) (by omega)];simp[HY]
theorem Pn{K:Nat}(y:Ar)(h0:0≤y.Am)(h9:y.Am≤9)(a:0≤y.AB)(b:y.AB≤y.Am+1)(c:0≤y.Ap)(hK:2000≤K):Ew K y=some (HY y 0 (2^days y)):=by
 unfold Ew;have d:days y≤10:=by unfold days;omega
 have f:=IA _ d;have e:=Pm (K:=K) y h0 h9 a b c hK (2^days y) K 0 [] (by omega) (by omega) (by simp);rw[Int.natCast_zero] at e;rw[bd e,List.nil_append]
theorem LI{y:Ar}(h9:y.Am≤9)(h:∀l∈y.Ad,Gd y l=true):∀l∈y.Ad,sized l∧0≤l.AD∧l.AM≤9:=fun l a=>by
 have:=IQ.1 (h l a);exact⟨K6 h9 (h l a),this.1,by omega⟩
theorem P3{K:Nat}(y:Ar)(h0:0≤y.Am)(h9:y.Am≤9)(a:0≤y.AB)(b:y.AB≤y.Am+1)(c:0≤y.Ap)(d:y.Ad.length≤4)(f:∀l∈y.Ad,sized l∧0≤l.AD∧l.AM≤9)(hK:2000≤K):
  DR K y=some (I3 3000 ((CO y).length:Int) y.Ad):=by
 unfold DR;have g:days y≤10:=by unfold days;omega
 have hw:=Kj y g;have e:=Tj y d f (K:=K) y.Ad.length K 0 ((CO y).length:Int) (by omega) (by omega) (by omega) (by omega);rw[Int.natCast_zero,List.drop_zero] at e;rw[bd (Pn y h0 h9 a b c hK),MI,bd e]
theorem R0(K:Nat)(y:Ar)(d:y.Ad.length≤4):∀(k m i:Nat),y.Ad.length=i+k→k<m→
  Dh K y m (i:Int)=some (cond ((y.Ad.drop i).all (Gd y)) (.inr ()) (.inl 1)):=by
 intro k
 induction k with
 |zero=>
  intro m i h hm;cases m with
  |zero=>omega
  |succ m=>rw[Dh.eq_2,cf (df (by omega)),List.drop_eq_nil_of_le (by omega)];rfl
 |succ k ih=>
  intro m i h hm;cases m with
  |zero=>omega
  |succ m=>
   have hi:i<y.Ad.length:=by omega
   rw[Dh.eq_2,ct (dt (by omega)),B5 hi,List.drop_eq_getElem_cons hi,List.all_cons];unfold Gd;generalize y.Ad[i]=l
   by_cases a:l.AD<0
   ·rw[ct (dt a),df (show¬(0≤l.AD) by omega)];rfl
   rw[cf (df a),dt (show 0≤l.AD by omega)]
   by_cases b:l.AM<l.AD
   ·rw[ct (dt b),df (show¬(l.AD≤l.AM) by omega)];rfl
   rw[cf (df b),dt (show l.AD≤l.AM by omega)]
   by_cases c:y.Am<l.AM
   ·rw[ct (dt c),df (show¬(l.AM≤y.Am) by omega)];rfl
   rw[cf (df c),dt (show l.AM≤y.Am by omega),bd (K5 ..)];cases Fw l.Aq 1 5 with
   |false=>rfl
   |true=>
    rw[nt,bd (K5 ..)];cases Fw l.BY 1 5 with
    |false=>rfl
    |true=>
     rw[nt,bd (K5 ..)];cases Fw l.Cr 0 y.Am with
     |false=>rfl
     |true=>rw[nt,BB (by omega) (by omega),C0,ih m (i+1) (by omega) (by omega)];rfl
theorem Ou{K:Nat}(hK:2000≤K)(y:Ar):Es K y=some (check y):=by
 unfold Es check
 by_cases g:9<y.Am
 ·rw[ct (dt g),if_pos (.inl g)]
 rw[cf (df g)]
 by_cases i:2<y.An
 ·rw[ct (dt i),if_pos (.inr (.inl i))]
 rw[cf (df i)]
 by_cases j:4<(y.Ad.length:Int)
 ·rw[ct (dt j),if_pos (.inr (.inr j))]
 rw[cf (df j),if_neg (by omega)]
 by_cases a:y.Am<0
 ·rw[ct (dt a),if_pos (.inl a)]
 rw[cf (df a)]
 by_cases b:y.An<1
 ·rw[ct (dt b),if_pos (.inr (.inl b))]
 rw[cf (df b),BB (by omega) (by omega),bd (K5 ..)];cases m:Fw y.Ap 0 (y.Am+1) with
 |false=>rw[nf,if_pos (.inr (.inr (.inl rfl)))]
 |true=>
  rw[nt,BB (by omega) (by omega),bd (K5 ..)];cases n:Fw y.AB 0 (y.Am+1) with
  |false=>rw[nf,if_pos (.inr (.inr (.inr (.inl rfl))))]
  |true=>
   have e:=R0 K y (by omega) y.Ad.length K 0 (by omega) (by omega);rw[Int.natCast_zero,List.drop_zero] at e;rw[nt,bd e];cases o:y.Ad.all (Gd y) with
   |false=>rw[if_pos (.inr (.inr (.inr (.inr rfl))))];rfl
   |true=>
    have q:=FH.1 m;have r:=FH.1 n;have k:=LI (y:=y) (by omega) (List.all_eq_true.1 o);rw[if_neg (by simp[a,b])];show(DR K y).bind _=_;rw[bd (P3 y (by omega) (by omega) (by omega) (by omega) (by omega) (by omega) k hK)];have f:=L1 (c:=3000) (by omega) ((CO y).length:Int) (by omega) fun l p=>(k l p).1;unfold If
    by_cases d:1000<((CO y).length:Int)*FQ y.Ad
    ·rw[ct (dt (f.2 d)),if_pos d]
    ·rw[cf (df fun h=>d (f.1 h)),if_neg d]
end Go.Proofs.YtkljfdkmjdjpfaaGreat
end
section
namespace Go.Proofs.YtkljfdkmjdjpfaaGreat
theorem R1{K:Nat}(y:Ar)(a:FW y)(hK:2000≤K):DR K y=some (If y):=by
 have b:=LI a.h9 a.Tn;rw[P3 y a.h0 a.h9 a.u0 a.u1 a.w0 a.n4 b hK];have:=a.many;unfold If at this⊢;rw[Oo (by omega) _ (by omega) (fun l c=>(b l c).1) this]
end Go.Proofs.YtkljfdkmjdjpfaaGreat
end
section
namespace Go.Proofs.YtkljfdkmjdjpfaaGreat
theorem NB(n:Nat)(h:n<63):I1 (1:Int) (n:Int)=some ():=by
 have a:2^n≤2^62:=Nat.pow_le_pow_right (by omega) (by omega);have b:(1:Int)*2^((n:Nat):Int).toNat=((2^n:Nat):Int):=by rw[Int.one_mul,Int.toNat_natCast,Int.natCast_pow];rfl
 have c:2^62=4611686018427387904:=rfl;rw[c] at a;refine if_pos ⟨by omega,by omega,?_,?_⟩
 ·rw[b];exact Int.le_trans (by decide) (Int.natCast_nonneg _)
 ·rw[b];exact Int.le_trans (Int.ofNat_le.2 a) (by decide)
theorem Ma(n:Nat):E8 (1:Int) (n:Int)=((2^n:Nat):Int):=by
 unfold E8;rw[Int.one_mul,Int.toNat_natCast,Int.natCast_pow];rfl
theorem P4(a b:Nat)(c:a≤9223372036854775807)(d:b≤9223372036854775807):Nf (a:Int) (b:Int)=some ():=if_pos ⟨⟨by omega,by omega⟩,by omega,by omega⟩
theorem P5(a b:Nat):Ls (a:Int) (b:Int)=((a|||b:Nat):Int):=rfl
theorem HZ(n:Nat)(h:n≤62):2^n≤4611686018427387904:=by
 have a:2^n≤2^62:=Nat.pow_le_pow_right (by omega) h;exact a
theorem P6(l:List Bool)(i:Nat)(hi:i<l.length):bitsOf (l.take (i+1))=cond l[i] (bitsOf (l.take i)|||2^i) (bitsOf (l.take i)):=by
 apply Nat.eq_of_testBit_eq;intro j;rw[Ha];have a:(l.take i).length=i:=by simp;omega
 have e:l.take (i+1)=l.take i++[l[i]]:=by rw[List.take_add_one,List.getElem?_eq_getElem hi];rfl
 rw[e,List.getD_eq_getElem?_getD];have b:(cond l[i] (bitsOf (l.take i)|||2^i) (bitsOf (l.take i))).testBit j=((l.take i).getD j false||(l[i]&&decide (i=j))):=by
  cases l[i] with
  |true=>rw[Bool.true_and];show(bitsOf (l.take i)|||2^i).testBit j=_;rw[Nat.testBit_or,Ha,Nat.testBit_two_pow]
  |false=>rw[Bool.false_and,Bool.or_false];exact Ha ..
 rw[b,List.getD_eq_getElem?_getD];rcases Nat.lt_trichotomy j i with h|h|h
 ·rw[List.getElem?_append_left (by omega),df (by omega),Bool.and_false,Bool.or_false]
 ·subst h;rw[List.getElem?_append_right (by omega),a,List.getElem?_eq_none (l:=l.take j) (by omega),dt rfl];simp
 ·rw[List.getElem?_append_right (by omega),a,List.getElem?_eq_none (l:=l.take i) (by omega),df (by omega)];have:([l[i]]:List Bool)[j-i]?=none:=List.getElem?_eq_none (by simp;omega);rw[this];simp
theorem Po(l:List Bool)(h:l.length≤62):bitsOf l≤4611686018427387904:=by
 have a:=Km l;have b:=HZ l.length h;omega
theorem QS(t:AX)(f:t.Ap.length≤60):∀(k m i:Nat),t.Ap.length=i+k→k<m→
  Cl t m (bitsOf (t.Ap.take i):Int) (i:Int)=some (bitsOf t.Ap:Int):=by
 intro k
 induction k with
 |zero=>
  intro m i h hm;cases m with
  |zero=>omega
  |succ m=>rw[Cl.eq_2,cf (df (by omega)),List.take_of_length_le (by omega)]
 |succ k ih=>
  intro m i h hm;cases m with
  |zero=>omega
  |succ m=>
   have hi:i<t.Ap.length:=by omega
   have a:=P6 t.Ap i hi;have c:=Po (t.Ap.take i) (by simp;omega);have d:=HZ i (by omega);rw[Cl.eq_2,ct (dt (by omega)),B5 hi];cases b:t.Ap[i] with
   |true=>
    rw[b] at a;rw[ct rfl,bd (L8 i (by omega)),bd (NB i (by omega)),Ma,bd (P4 _ _ (by omega) (by omega)),BB (by omega) (by omega),C0,P5];have e:bitsOf (t.Ap.take i)|||2^i=bitsOf (t.Ap.take (i+1)):=a.symm;rw[e];exact ih m (i+1) (by omega) (by omega)
   |false=>
    rw[b] at a;have e:bitsOf (t.Ap.take i)=bitsOf (t.Ap.take (i+1)):=a.symm;rw[cf rfl,BB (by omega) (by omega),C0,e];exact ih m (i+1) (by omega) (by omega)
theorem P7(K:Nat)(y:Ar)(t:AX)(b:y.Ad.length≤4)(c:t.Comes.length=y.Ad.length):∀(k m i:Nat),y.Ad.length=i+k→k<m→
  Da K y t m (i:Int)=some (cond (D1 (y.Ad.drop i) (t.Comes.drop i)) (.inr ()) (.inl false)):=by
 intro k
 induction k with
 |zero=>
  intro m i h hm;cases m with
  |zero=>omega
  |succ m=>rw[Da.eq_2,cf (df (by omega)),List.drop_eq_nil_of_le (by omega),List.drop_eq_nil_of_le (by omega)];rfl
 |succ k ih=>
  intro m i h hm;cases m with
  |zero=>omega
  |succ m=>
   have hi:i<y.Ad.length:=by omega
   have a:i<t.Comes.length:=by omega
   rw[Da.eq_2,ct (dt (by omega)),B5 a,B5 hi,B5 hi,bd (K5 ..),List.drop_eq_getElem_cons hi,List.drop_eq_getElem_cons a,D1];cases d:Fw t.Comes[i] y.Ad[i].AD y.Ad[i].AM with
   |false=>rw[nf];rfl
   |true=>rw[nt,BB (by omega) (by omega),C0,Bool.true_and];exact ih m (i+1) (by omega) (by omega)
theorem P8{K:Nat}(y:Ar)(a:FW y)(t:AX)(hK:2000≤K):EM K y t=some (Ep y t):=by
 unfold EM Ep;have h0:=a.h0;have h9:=a.h9;have f:=a.n4
 by_cases c:t.Comes.length=y.Ad.length
 ·rw[cf (by rw[c];simp),BB (by omega) (by omega)]
  by_cases hw:(t.Ap.length:Int)=y.Am+1
  ·have e:=P7 K y t f c y.Ad.length K 0 (by omega) (by omega);have b:=QS t (by omega) t.Ap.length K 0 (by omega) (by omega);rw[Int.natCast_zero,List.drop_zero,List.drop_zero] at e;rw[List.take_zero,Int.natCast_zero] at b;have d:Cl t K (0:Int) (0:Int)=some (bitsOf t.Ap:Int):=b;rw[cf (by rw[hw];simp),bd e,dt hw,Bool.true_and];cases D1 y.Ad t.Comes with
   |false=>rw[Bool.and_false];rfl
   |true=>
    show(Cl t K 0 0).bind _=_;have g:days y=t.Ap.length:=by unfold days;omega
    rw[bd d,bd (KU y _ h0 h9 a.u0 a.u1 a.w0 hK),g,Mz,Bool.and_true]
  ·rw[ct (by simpa using hw),df hw];rfl
 ·rw[ct (by simp;omega)];cases h:D1 y.Ad t.Comes with
  |false=>rw[Bool.and_false,Bool.and_false]
  |true=>exact absurd (GI h) c
end Go.Proofs.YtkljfdkmjdjpfaaGreat
end
section
namespace Go.Proofs.YtkljfdkmjdjpfaaGreat
def seen (n:Int):List Int→Nat→Option Nat
 |[],m=>some m
 |x::xs,m=>cond (Fw x 0 (n-1)) (cond (m.testBit x.toNat) none (seen n xs (m|||2^x.toNat))) none
theorem KV(n:Int):∀(xs ys:List Int) (m:Nat),seen n (xs++ys) m=(seen n xs m).bind (seen n ys)
 |[],ys,m=>rfl
 |x::xs,ys,m=>by
  rw[List.cons_append,seen,seen];cases Fw x 0 (n-1) with
  |false=>rfl
  |true=>
   cases m.testBit x.toNat with
   |true=>rfl
   |false=>exact KV n xs ys _
def QT:Option Nat→Bool⊕Int
 |none=>.inl false
 |some m=>.inr (m:Int)
theorem QU{m i n:Nat}(hm:m<2^n)(hi:i<n):m|||2^i<2^n:=Nat.or_lt_two_pow hm (Nat.pow_lt_pow_right (by omega) hi)
theorem Tu(K:Nat)(y:Ar)(o:List (List Int))(r:Nat)(a:r<o.length)(p:y.Ad.length≤4)(q:o[r].length≤1000):∀(k m i b:Nat),o[r].length=i+k→k<m→b<2^y.Ad.length→
  Db K y o (r:Int) m (b:Int) (i:Int)=some (QT (seen (y.Ad.length:Int) (o[r].drop i) b))∧∀b',seen (y.Ad.length:Int) (o[r].drop i) b=some b'→b'<2^y.Ad.length:=by
 have s:2^y.Ad.length≤4611686018427387904:=HZ _ (by omega);intro k
 induction k with
 |zero=>
  intro m i b h hm c;cases m with
  |zero=>omega
  |succ m=>
   rw[Db.eq_2,B5 a,cf (df (by omega)),List.drop_eq_nil_of_le (by omega)];exact⟨rfl,fun b' h=>by cases h;exact c⟩
 |succ k ih=>
  intro m i b h hm c;cases m with
  |zero=>omega
  |succ m=>
   have hi:i<o[r].length:=by omega
   rw[Db.eq_2,B5 a,ct (dt (by omega)),B5 a,B5 hi,BB (by omega) (by omega),bd (K5 ..),List.drop_eq_getElem_cons hi];have d:seen (y.Ad.length:Int) (o[r][i]::o[r].drop (i+1)) b=cond (Fw o[r][i] 0 ((y.Ad.length:Int)-1)) (cond (b.testBit o[r][i].toNat) none (seen (y.Ad.length:Int) (o[r].drop (i+1)) (b|||2^o[r][i].toNat))) none:=rfl;rw[d];generalize t:o[r][i]=x;cases e:Fw x 0 ((y.Ad.length:Int)-1) with
   |false=>exact⟨rfl,fun b' h=>by cases h⟩
   |true=>
    have g:=FH.1 e;obtain⟨j,rfl⟩:∃j:Nat,x=(j:Int):=⟨x.toNat,by omega⟩;have f:j<y.Ad.length:=by omega
    rw[nt,bd (MP K b j (by omega)),Int.toNat_natCast,ct rfl];cases l:b.testBit j with
    |true=>exact⟨rfl,fun b' h=>by cases h⟩
    |false=>
     have n:=HZ j (by omega);rw[cf rfl,cf rfl,bd (L8 j (by omega)),bd (NB j (by omega)),Ma,bd (P4 _ _ (by omega) (by omega)),BB (by omega) (by omega),C0,P5];exact ih m (i+1) _ (by omega) (by omega) (QU c f)
theorem Tv{K:Nat}(y:Ar)(o:List (List Int))(j:y.Ad.length≤4)(q:o.length≤1000)(n:∀l∈o,l.length≤1000)(hK:2000≤K):∀(k m i b:Nat),o.length=i+k→k<m→b<2^y.Ad.length→
  Dc K y o m (b:Int) (i:Int)=some (QT (seen (y.Ad.length:Int) (o.drop i).flatten b))∧∀b',seen (y.Ad.length:Int) (o.drop i).flatten b=some b'→b'<2^y.Ad.length:=by
 intro k
 induction k with
 |zero=>
  intro m i b h hm d;cases m with
  |zero=>omega
  |succ m=>
   rw[Dc.eq_2,cf (df (by omega)),List.drop_eq_nil_of_le (by omega)];exact⟨rfl,fun b' h=>by cases h;exact d⟩
 |succ k ih=>
  intro m i b h hm d;cases m with
  |zero=>omega
  |succ m=>
   have hi:i<o.length:=by omega
   have e:=n o[i] (List.getElem_mem hi);obtain⟨f,g⟩:=Tu K y o i hi j e o[i].length K 0 b (by omega) (by omega) d;rw[Int.natCast_zero,List.drop_zero] at f;rw[List.drop_zero] at g;rw[Dc.eq_2,ct (dt (by omega)),bd f,List.drop_eq_getElem_cons hi,List.flatten_cons,KV];cases p:seen (y.Ad.length:Int) o[i] b with
   |none=>exact⟨rfl,fun b' h=>by cases h⟩
   |some a=>
    have c:=ih m (i+1) a (by omega) (by omega) (g a p);refine⟨?_,c.2⟩;refine Eq.trans ?_ c.1;rw[show QT (some a)=Sum.inr (a:Int) from rfl,Sum.elim_inr,BB (by omega) (by omega),C0]
theorem Kr{n:Nat}:∀{xs:List Int} {m c:Nat},seen (n:Int) xs m=some c→(∀x∈xs,0≤x∧x<(n:Int)∧m.testBit x.toNat=false)∧xs.Nodup∧∀j:Nat,c.testBit j=(m.testBit j||decide ((j:Int)∈xs))
 |[],m,c,h=>by
  have d:m=c:=Option.some.inj h;subst d;refine⟨?_,List.nodup_nil,?_⟩
  ·intro x f;exact absurd f (List.not_mem_nil (a:=x))
  ·intro j;simp
 |x::xs,m,c,h=>by
  rw[seen] at h;cases g:Fw x 0 ((n:Int)-1) with
  |false=>rw[g] at h;cases h
  |true=>
   rw[g,ct rfl] at h;cases i:m.testBit x.toNat with
   |true=>rw[i] at h;cases h
   |false=>
    rw[i,cf rfl] at h;obtain⟨k,d,l⟩:=Kr h;have o:=FH.1 g;have key:∀z∈xs,m.testBit z.toNat=false∧z≠x:=fun z b=>by
     have:=(k z b).2.2;rw[Nat.testBit_or,Bool.or_eq_false_iff] at this;refine⟨this.1,fun e=>?_⟩;rw[e,Nat.testBit_two_pow_self] at this;cases this.2
    refine⟨fun z b=>?_,List.nodup_cons.2 ⟨fun f=>(key x f).2 rfl,d⟩,fun j=>?_⟩
    ·rcases List.mem_cons.1 b with rfl|b
     ·exact⟨by omega,by omega,i⟩
     ·exact⟨(k z b).1,(k z b).2.1,(key z b).1⟩
    ·rw[l j,Nat.testBit_or,Nat.testBit_two_pow,Bool.or_assoc]
     congr 1
     rw[Bool.eq_iff_iff,Bool.or_eq_true,decide_eq_true_eq,decide_eq_true_eq,decide_eq_true_eq,List.mem_cons];exact or_congr_left ⟨fun e=>by omega,fun e=>by omega⟩
theorem MC{n:Nat}:∀{xs:List Int} {m:Nat},(∀x∈xs,0≤x∧x<(n:Int)∧m.testBit x.toNat=false)→xs.Nodup→seen (n:Int) xs m≠none
 |[],m,_,_=>by rw[seen];simp
 |x::xs,m,h,a=>by
  obtain⟨c,f,d⟩:=h x (List.mem_cons_self ..);rw[seen,FH.2 ⟨c,by omega⟩,d,ct rfl,cf rfl];refine MC (fun z b=>?_) (List.nodup_cons.1 a).2;obtain⟨g1,g2,g3⟩:=h z (List.mem_cons_of_mem _ b);refine⟨g1,g2,?_⟩;rw[Nat.testBit_or,g3,Nat.testBit_two_pow,Bool.false_or,df];intro e;have:x=z:=by omega
  exact(List.nodup_cons.1 a).1 (this▸b)
theorem JD(n:Nat):(iota n).Nodup:=by
 unfold iota;refine List.Pairwise.map _ (fun a b h=>?_) (List.nodup_range (n:=n));intro e;exact h (by omega)
theorem P9(n:Nat)(xs:List Int):(∃m,seen (n:Int) xs 0=some m∧m=2^n-1)↔xs.Perm (iota n):=by
 constructor
 ·rintro⟨m,h,hm⟩;obtain⟨d,f,b⟩:=Kr h;refine(List.perm_ext_iff_of_nodup f (JD n)).2 fun x=>?_;rw[HG];constructor
  ·intro a;exact⟨(d x a).1,(d x a).2.1⟩
  ·intro a;have:=b x.toNat;rw[hm,Nat.testBit_two_pow_sub_one,dt (by omega),Nat.zero_testBit,Bool.false_or] at this;have g:=of_decide_eq_true this.symm
   rwa[show((x.toNat:Nat):Int)=x by omega] at g
 ·intro c;have i:∀x∈xs,0≤x∧x<(n:Int)∧(0:Nat).testBit x.toNat=false:=fun x a=>by
   have:=HG.1 (c.mem_iff.1 a);exact⟨this.1,this.2,Nat.zero_testBit _⟩
  have k:xs.Nodup:=c.symm.nodup (JD n);cases e:seen (n:Int) xs 0 with
  |none=>exact absurd e (MC i k)
  |some m=>
   refine⟨m,rfl,?_⟩;obtain⟨_,_,b⟩:=Kr e;apply Nat.eq_of_testBit_eq;intro j;rw[b j,Nat.testBit_two_pow_sub_one,Nat.zero_testBit,Bool.false_or]
   congr 1
   rw[eq_iff_iff,c.mem_iff,HG];omega
theorem Qa{K:Nat}(y:Ar)(o:List (List Int))(g:y.Ad.length≤4)(i:o.length≤1000)(j:∀l∈o,l.length≤1000)(hK:2000≤K):EN K y o=some (DQ y o):=by
 unfold EN;have d:0<2^y.Ad.length:=Nat.pos_of_ne_zero (by simp);have k:=HZ y.Ad.length (by omega);obtain⟨f,n⟩:=Tv (K:=K) y o g i j hK o.length K 0 0 (by omega) (by omega) d;rw[Int.natCast_zero,List.drop_zero] at f;have b:=P9 y.Ad.length o.flatten
 by_cases a:(o.length:Int)=y.An
 ·rw[cf (by rw[a];simp),bd f];cases c:seen (y.Ad.length:Int) o.flatten 0 with
  |none=>
   show some false=_
   congr 1
   symm
   rw[←Bool.not_eq_true,EO];rintro⟨_,h⟩;obtain⟨m,h,_⟩:=b.2 h;rw[c] at h;cases h
  |some m=>
   show(Lt .u64 (y.Ad.length:Int)).bind _=_;rw[bd (L8 _ (by omega)),bd (NB _ (by omega)),Ma,BB (by omega) (by omega)]
   congr 1
   rw[Bool.eq_iff_iff,EO,beq_iff_eq,←b];constructor
   ·intro h;exact⟨a,m,c,by omega⟩
   ·rintro⟨_,p,h,e⟩;rw[c] at h;cases h;omega
 ·rw[ct (by simpa using a)]
  congr 1
  symm
  rw[←Bool.not_eq_true,EO];exact fun h=>a h.1
end Go.Proofs.YtkljfdkmjdjpfaaGreat
end
section
namespace Go.Proofs.YtkljfdkmjdjpfaaGreat
def never:Ag:=⟨-1,-1,false⟩
def Jc (n:Nat) (l:List Int) (out:List Ag):Prop:=out.length=n∧l.Nodup∧∀j∈l,∃q:Nat,j=(q:Int)∧q<n∧out[q]?=some never
theorem NC{n:Nat}{i:Int}{r:List Int}{out:List Ag}(h:Jc n (i::r) out):Jc n r out:=⟨h.1,(List.nodup_cons.1 h.2.1).2,fun j a=>h.2.2 j (List.mem_cons_of_mem _ a)⟩
theorem Ov{n i:Nat}{r:List Int}{out:List Ag}(h:Jc n r out)(hi:(i:Int)∉r)(s:Ag):Jc n r (out.set i s):=⟨by rw[List.length_set];exact h.1,h.2.1,fun j a=>by
 obtain⟨q,rfl,b,c⟩:=h.2.2 j a;refine⟨q,rfl,b,?_⟩;rw[List.getElem?_set_ne,c];intro e;exact hi (e▸a)⟩
theorem I4(y:Ar)(w:List Bool)(c:List Int)(n:Nat):∀(l:List Int) (free:Int) (out:List Ag),y.Am<free→Jc n l out→Ec y w c l free out=out
 |[],_,_,_,_=>rfl
 |i::r,free,out,f,h=>by
  obtain⟨q,rfl,g,b⟩:=h.2.2 i (List.mem_cons_self ..);have d:ED y w (Ek y (q:Int)) (max free (Ey c (q:Int)))=never:=if_pos (by omega);have j:q<out.length:=by have:=h.1;omega
  have a:out[q]=never:=(List.getElem?_eq_some_iff.1 b).2;have e:out.set q never=out:=by rw[←a,List.set_getElem_self]
  rw[Ec,d,Int.toNat_natCast,e];exact I4 y w c n r _ out (by show y.Am<cond true _ _;simp;omega) (NC h)
def LJ(y:Ar)(s:Ag):Int:=cond (s.AF==-1) (y.Am+1) (s.AF+1)
theorem Gg(y:Ar)(a:Int)(d:Nat)(b:Bool):LJ y ⟨a,(d:Int),b⟩=(d:Int)+1:=by
 unfold LJ;have:((d:Int)==-1)=false:=by rw[beq_eq_false_iff_ne];omega
 show cond ((d:Int)==-1) _ _=_;rw[this];rfl
theorem ND(y:Ar){i:Nat}(h:i<y.Ad.length):Ek y (i:Int)=y.Ad[i]:=by
 unfold Ek;rw[Int.toNat_natCast,List.getD_eq_getElem?_getD,List.getElem?_eq_getElem h];rfl
theorem MD(c:List Int){i:Nat}(h:i<c.length):Ey c (i:Int)=c[i]:=by
 unfold Ey;rw[Int.toNat_natCast,List.getD_eq_getElem?_getD,List.getElem?_eq_getElem h];rfl
theorem QV(y:Ar)(o:List (List Int))(t:AX)(r:Nat)(aH:r<o.length)(h9:y.Am≤9)(hw:(t.Ap.length:Int)=y.Am+1)(aL:t.Comes.length=y.Ad.length)(aM:o[r].length≤1000):∀(k m d:Nat),y.Am+1=d+k→k<m→
  (∀(a:Nat) (DF run:Int) (out:List Ag),Jc y.Ad.length (o[r].drop a) out→
   Bq y o t (r:Int) m (a:Int) (-1) DF run (d:Int) out=some (Ec y t.Ap t.Comes (o[r].drop a) (d:Int) out))∧
  (∀(a i:Nat) (DF run d0:Int) (out:List Ag),i<y.Ad.length→(i:Int)∉o[r].drop a→out[i]?=some ⟨d0,-1,false⟩→0≤DF→DF≤d→0≤run→run≤d→Jc y.Ad.length (o[r].drop a) out→
   Bq y o t (r:Int) m (a:Int) (i:Int) DF run (d:Int) out=some (Ec y t.Ap t.Comes (o[r].drop a) (LJ y (Fu (Ek y (i:Int)) d0 (t.Ap.drop d) (d:Int) DF run)) (out.set i (Fu (Ek y (i:Int)) d0 (t.Ap.drop d) (d:Int) DF run)))):=by
 intro k
 induction k with
 |zero=>
  intro m d h hm;cases m with
  |zero=>omega
  |succ m=>
   constructor
   ·intro a DF run out c;rw[Bq.eq_2,cf (df (by omega)),I4 y _ _ _ _ _ out (by omega) c]
   ·intro a i DF run d0 out hi aF he _ _ _ _ c;have n:i<out.length:=by have:=c.1;omega
    have j:out[i]=⟨d0,-1,false⟩:=(List.getElem?_eq_some_iff.1 he).2;rw[Bq.eq_2,cf (df (by omega)),show t.Ap.drop d=[] from List.drop_eq_nil_of_le (by omega)];have aK:Fu (Ek y (i:Int)) d0 [] (d:Int) DF run=⟨d0,-1,false⟩:=rfl;have e:out.set i (⟨d0,-1,false⟩:Ag)=out:=by rw[←j,List.set_getElem_self]
    rw[aK,e,I4 y _ _ _ _ _ out (by show _<cond true _ _;simp;omega) c]
 |succ k ih=>
  intro m d h hm;cases m with
  |zero=>omega
  |succ m=>
   obtain⟨g,w⟩:=ih m (d+1) (by omega) (by omega);have z:d<t.Ap.length:=by omega
   have x:t.Ap.drop d=t.Ap[d]::t.Ap.drop (d+1):=List.drop_eq_getElem_cons z;constructor
   ·intro a DF run out c;rw[Bq.eq_2,ct (dt (by omega)),ct (dt (by omega)),B5 aH]
    by_cases aA:a<o[r].length
    ·have p:o[r].drop a=o[r][a]::o[r].drop (a+1):=List.drop_eq_getElem_cons aA;rw[p] at c;obtain⟨i,q,hi,he⟩:=c.2.2 _ (List.mem_cons_self ..);have aB:(i:Int)∉o[r].drop (a+1):=q▸(List.nodup_cons.1 c.2.1).1;have n:i<out.length:=by have:=c.1;omega
     have j:out[i]=never:=(List.getElem?_eq_some_iff.1 he).2;have aC:i<t.Comes.length:=by omega
     rw[ct (dt (by omega)),B5 aH,B5 aA,q,B5 aC]
     by_cases aG:t.Comes[i]≤(d:Int)
     ·have u:max (d:Int) (Ey t.Comes (i:Int))=(d:Int):=by rw[MD _ aC];omega
      have aI:ED y t.Ap (Ek y (i:Int)) (d:Int)=Fu (Ek y (i:Int)) (d:Int) (t.Ap.drop d) (d:Int) 0 0:=if_neg (by omega);have v:Ec y t.Ap t.Comes (o[r].drop a) (d:Int) out=Ec y t.Ap t.Comes (o[r].drop (a+1)) (LJ y (Fu (Ek y (i:Int)) (d:Int) (t.Ap.drop d) (d:Int) 0 0)) (out.set i (Fu (Ek y (i:Int)) (d:Int) (t.Ap.drop d) (d:Int) 0 0)):=by
       rw[p,q,Ec,u,aI,Int.toNat_natCast];rfl
      rw[v,x];have b:=ND y hi;have l:∀s:Ag,i<(out.set i s).length:=fun s=>by rw[List.length_set];exact n
      have f:∀s:Ag,Jc y.Ad.length (o[r].drop (a+1)) (out.set i s):=fun s=>Ov (NC c) aB s;rw[ct (dt aG),B5 aH,B5 aA,q,B5 n,BB (by omega) (by omega),cf (df (by omega)),B5 z,j,C0,C0,Int.toNat_natCast];cases aJ:t.Ap[d] with
      |true=>
       rw[ct rfl,B5 hi,Fu,b];cases aD:((0:Int)==y.Ad[i].Aq) with
       |true=>
        rw[ct rfl,B5 (l _),B5 (by rw[List.length_set];exact l _),BB (by omega) (by omega)];rw[ct rfl,Gg];simp only[List.getElem_set_self,List.set_set];exact g (a+1) _ _ _ (f _)
       |false=>
        rw[cf rfl,cf rfl,B5 hi];cases aE:((0:Int)+1==y.Ad[i].BY) with
        |true=>
         rw[ct rfl,B5 (l _),BB (by omega) (by omega),ct rfl,Gg];simp only[List.getElem_set_self,List.set_set];exact g (a+1) _ _ _ (f _)
        |false=>
         rw[cf rfl,cf rfl,BB (by omega) (by omega)];refine(w (a+1) i 0 (0+1) (d:Int) _ hi aB (List.getElem?_set_self n) (by omega) (by omega) (by omega) (by omega) (f _)).trans ?_;rw[List.set_set,b,C0]
      |false=>
       rw[cf rfl,B5 hi,Fu,b];cases aD:((0:Int)+1==y.Ad[i].Aq) with
       |true=>
        rw[ct rfl,B5 (l _),B5 (by rw[List.length_set];exact l _),BB (by omega) (by omega)];rw[ct rfl,Gg];simp only[List.getElem_set_self,List.set_set];exact g (a+1) _ _ _ (f _)
       |false=>
        rw[cf rfl,cf rfl,B5 hi];cases aE:((0:Int)==y.Ad[i].BY) with
        |true=>
         rw[ct rfl,B5 (l _),BB (by omega) (by omega),ct rfl,Gg];simp only[List.getElem_set_self,List.set_set];exact g (a+1) _ _ _ (f _)
        |false=>
         rw[cf rfl,cf rfl,BB (by omega) (by omega)];refine(w (a+1) i (0+1) 0 (d:Int) _ hi aB (List.getElem?_set_self n) (by omega) (by omega) (by omega) (by omega) (f _)).trans ?_;rw[List.set_set,b,C0]
     ·have u:max (d:Int) (Ey t.Comes (i:Int))=max ((d+1:Nat):Int) (Ey t.Comes (i:Int)):=by rw[MD _ aC];omega
      have v:Ec y t.Ap t.Comes (o[r].drop a) (d:Int) out=Ec y t.Ap t.Comes (o[r].drop a) ((d+1:Nat):Int) out:=by
       rw[p,q,Ec,Ec,u]
      rw[cf (df aG),BB (by omega) (by omega),C0,v];exact g a _ _ _ (p▸c)
    ·have p:o[r].drop a=[]:=List.drop_eq_nil_of_le (by omega);have:=g a DF run out c;rw[p] at this⊢;rw[cf (df (by omega)),BB (by omega) (by omega),C0];exact this
   ·intro a i DF run d0 out hi aF he g1 g2 g3 g4 c;have n:i<out.length:=by have:=c.1;omega
    have j:out[i]=⟨d0,-1,false⟩:=(List.getElem?_eq_some_iff.1 he).2;have b:=ND y hi;have l:∀s:Ag,i<(out.set i s).length:=fun s=>by rw[List.length_set];exact n
    have f:∀s:Ag,Jc y.Ad.length (o[r].drop a) (out.set i s):=fun s=>Ov c aF s;have aN:out.set i (⟨d0,-1,false⟩:Ag)=out:=by rw[←j,List.set_getElem_self]
    rw[Bq.eq_2,ct (dt (by omega)),cf (df (by omega)),B5 z,x,Int.toNat_natCast];cases aJ:t.Ap[d] with
    |true=>
     rw[ct rfl,BB (by omega) (by omega),B5 hi,Fu,b];cases aD:(DF==y.Ad[i].Aq) with
     |true=>
      rw[ct rfl,B5 n,B5 (l _),BB (by omega) (by omega),ct rfl,Gg];simp only[List.getElem_set_self,List.set_set,j];exact g a _ _ _ (f _)
     |false=>
      rw[cf rfl,cf rfl,B5 hi];cases aE:(run+1==y.Ad[i].BY) with
      |true=>
       rw[ct rfl,B5 n,BB (by omega) (by omega),ct rfl,Gg,j];exact g a _ _ _ (f _)
      |false=>
       rw[cf rfl,cf rfl,BB (by omega) (by omega)];refine(w a i DF (run+1) d0 _ hi aF he (by omega) (by omega) (by omega) (by omega) c).trans ?_;rw[b,C0]
    |false=>
     rw[cf rfl,BB (by omega) (by omega),B5 hi,Fu,b];cases aD:(DF+1==y.Ad[i].Aq) with
     |true=>
      rw[ct rfl,B5 n,B5 (l _),BB (by omega) (by omega),ct rfl,Gg];simp only[List.getElem_set_self,List.set_set,j];exact g a _ _ _ (f _)
     |false=>
      rw[cf rfl,cf rfl,B5 hi];cases aE:((0:Int)==y.Ad[i].BY) with
      |true=>
       rw[ct rfl,B5 n,BB (by omega) (by omega),ct rfl,Gg,j];exact g a _ _ _ (f _)
      |false=>
       rw[cf rfl,cf rfl,BB (by omega) (by omega)];refine(w a i (DF+1) 0 d0 _ hi aF he (by omega) (by omega) (by omega) (by omega) c).trans ?_;rw[b,C0]
end Go.Proofs.YtkljfdkmjdjpfaaGreat
end
section
namespace Go.Proofs.YtkljfdkmjdjpfaaGreat
theorem ME(y:Ar)(w:List Bool)(c:List Int)(j:Nat):∀(l:List Int) (free:Int) (out a:List Ag),out.length=a.length→((j:Int)∈l∨out[j]?=a[j]?)→(Ec y w c l free out)[j]?=(Ec y w c l free a)[j]?
 |[],free,out,a,_,h=>by
  rcases h with h|h
  ·cases h
  ·exact h
 |i::r,free,out,a,d,h=>by
  rw[Ec,Ec];refine ME y w c j r _ _ _ (by rw[List.length_set,List.length_set];exact d) ?_
  by_cases b:i.toNat=j
  ·right;rw[b,List.getElem?_set,List.getElem?_set,if_pos rfl,if_pos rfl,d]
  ·rcases h with h|h
   ·rcases List.mem_cons.1 h with h|h
    ·exact absurd (by omega) b
    ·exact .inl h
   ·right;rw[List.getElem?_set_ne b,List.getElem?_set_ne b,h]
theorem MF(y:Ar)(w:List Bool)(c:List Int)(j:Nat):∀(o:List (List Int)) (out a:List Ag),out.length=a.length→((j:Int)∈o.flatten∨out[j]?=a[j]?)→(Ge y w c o out)[j]?=(Ge y w c o a)[j]?
 |[],out,a,_,h=>by
  rcases h with h|h
  ·cases h
  ·exact h
 |l::r,out,a,b,h=>by
  rw[Ge,Ge];refine MF y w c j r _ _ (by rw[Gw,Gw];exact b) ?_
  by_cases d:(j:Int)∈r.flatten
  ·exact .inl d
  ·right;refine ME y w c j l 0 out a b ?_;rcases h with h|h
   ·rw[List.flatten_cons,List.mem_append] at h;rcases h with h|h
    ·exact .inl h
    ·exact absurd h d
   ·exact .inr h
theorem KW(y:Ar)(w:List Bool)(c:List Int)(j:Nat):∀(l:List Int) (free:Int) (out:List Ag),(∀i∈l,0≤i)→(j:Int)∉l→(Ec y w c l free out)[j]?=out[j]?
 |[],_,_,_,_=>rfl
 |i::r,free,out,h0,h=>by
  rw[Ec,KW y w c j r _ _ (fun x a=>h0 x (List.mem_cons_of_mem _ a)) (fun b=>h (List.mem_cons_of_mem _ b)),List.getElem?_set_ne];intro e;have:=h0 i (List.mem_cons_self ..);exact h (by rw[←e,show((i.toNat:Nat):Int)=i by omega];exact List.mem_cons_self ..)
theorem QW {y:Ar} (w:List Bool) (c:List Int) {n:Nat} {l r:List Int} {out:List Ag} (h:Jc n (l++r) out):Jc n l out∧Jc n r (Ec y w c l 0 out):=by
 obtain⟨e,a,d⟩:=h;rw[List.nodup_append] at a;refine⟨⟨e,a.1,fun j b=>d j (List.mem_append_left _ b)⟩,by rw[Gw];exact e,a.2.1,fun j b=>?_⟩;obtain⟨q,rfl,f,he⟩:=d j (List.mem_append_right _ b);refine⟨q,rfl,f,?_⟩;rw[KW y w c q l 0 out (fun i hi=>?_) (fun hm=>a.2.2 _ hm _ b rfl),he];obtain⟨p,rfl,_⟩:=d i (List.mem_append_left _ hi);omega
theorem QX{K:Nat}(y:Ar)(o:List (List Int))(t:AX)(h0:0≤y.Am)(h9:y.Am≤9)(hw:(t.Ap.length:Int)=y.Am+1)(d:t.Comes.length=y.Ad.length)(j:o.length≤1000)(f:∀l∈o,l.length≤1000)(hK:2000≤K):∀(k m r:Nat) (out:List Ag),o.length=r+k→k<m→Jc y.Ad.length (o.drop r).flatten out→
  Dv K y o t m (r:Int) out=some (Ge y t.Ap t.Comes (o.drop r) out):=by
 intro k
 induction k with
 |zero=>
  intro m r out h hm a;cases m with
  |zero=>omega
  |succ m=>rw[Dv.eq_2,cf (df (by omega)),List.drop_eq_nil_of_le (by omega)];rfl
 |succ k ih=>
  intro m r out h hm a;cases m with
  |zero=>omega
  |succ m=>
   have b:r<o.length:=by omega
   have c:o.drop r=o[r]::o.drop (r+1):=List.drop_eq_getElem_cons b;rw[c,List.flatten_cons] at a;obtain⟨g,i⟩:=QW (y:=y) t.Ap t.Comes a;have e:=(QV y o t r b h9 hw d (f _ (List.getElem_mem b)) (y.Am+1).toNat K 0 (by omega) (by omega)).1 0 0 0 out g;rw[Int.natCast_zero,List.drop_zero] at e;rw[Dv.eq_2,ct (dt (by omega)),bd e,BB (by omega) (by omega),C0,c,Ge];exact ih m (r+1) _ (by omega) (by omega) i
theorem R3:∀(k m i:Nat) (out:List Ag),out.length=i+k→k<m→out.length≤1000→
  De m (i:Int) out=some (out.take i++List.replicate k never):=by
 intro k
 induction k with
 |zero=>
  intro m i out h hm a;cases m with
  |zero=>omega
  |succ m=>rw[De.eq_2,cf (df (by omega)),List.take_of_length_le (by omega)];simp
 |succ k ih=>
  intro m i out h hm a;cases m with
  |zero=>omega
  |succ m=>
   have hi:i<out.length:=by omega
   rw[De.eq_2,ct (dt (by omega)),B5 hi,BB (by omega) (by omega),C0,Int.toNat_natCast,ih m (i+1) _ (by rw[List.length_set];omega) (by omega) (by rw[List.length_set];omega)];rw[List.take_add_one,List.getElem?_set_self hi,List.take_set_of_le (Nat.le_refl _),List.replicate_succ];simp[never]
theorem Qb{K:Nat}(y:Ar)(a:FW y)(o:List (List Int))(e:DQ y o=true)(t:AX)(c:Ep y t=true)(hK:2000≤K):DU K y o t=some (Ch y o t):=by
 unfold DU;have m:=a.n4;unfold Ep at c;rw[Bool.and_eq_true,Bool.and_eq_true,decide_eq_true_eq] at c;obtain⟨hw,_,f⟩:=c;have i:=GI f;obtain⟨k,l,n⟩:=IT a e;have d:=(EO.1 e).2;have g:=R3 y.Ad.length K 0 (List.replicate y.Ad.length IS) (by simp) (by omega) (by simp;omega);rw[Int.natCast_zero,List.take_zero,List.nil_append] at g;have b:=QX (K:=K) y o t a.h0 a.h9 hw i k l hK o.length K 0 (List.replicate y.Ad.length never) (by omega) (by omega) (by
  rw[List.drop_zero];refine⟨by simp,d.symm.nodup (JD _),fun j h=>?_⟩;have:=HG.1 (d.mem_iff.1 h);exact⟨j.toNat,by omega,by omega,by rw[List.getElem?_replicate,if_pos (by omega)]⟩)
 rw[Int.natCast_zero,List.drop_zero] at b;rw[Ol (by omega) (by omega) (by omega),Int.toNat_natCast];rw[bd (show De K (0:Int) (List.replicate y.Ad.length (⟨0,0,false⟩:Ag))=_ from g),bd b];unfold Ch Gm
 congr 1
 apply List.ext_getElem?;intro j;refine MF y _ _ j o _ _ (by simp) ?_
 by_cases h:j<y.Ad.length
 ·left;exact d.mem_iff.2 (HG.2 (by omega))
 ·right;rw[List.getElem?_eq_none (by simp;omega),List.getElem?_eq_none (by simp;omega)]
end Go.Proofs.YtkljfdkmjdjpfaaGreat
end
section
namespace Go.Proofs.YtkljfdkmjdjpfaaGreat
theorem Ks{W R W' R':Int}(a:W≤W')(b:R≤R'):∀(l:List Bool) (s r:Int),okW W R l s r=true→okW W' R' l s r=true
 |[],_,_,_=>rfl
 |false::l,s,r,h=>Ks a b l s 0 h
 |true::l,s,r,h=>by
  rw[okW,Bool.and_eq_true,Bool.and_eq_true,decide_eq_true_eq,decide_eq_true_eq] at h⊢;exact⟨by omega,by omega,Ks a b l _ _ h.2.2⟩
theorem JE{y:Ar}{t:AX}:Ep y t=true↔(t.Ap.length:Int)=y.Am+1∧Hw y t.Ap=true∧D1 y.Ad t.Comes=true:=by
 unfold Ep;rw[Bool.and_eq_true,Bool.and_eq_true,decide_eq_true_eq]
end Go.Proofs.YtkljfdkmjdjpfaaGreat
end
section
namespace Go.Proofs.YtkljfdkmjdjpfaaGreat
structure Alike (y x:Ar):Prop where
 last:x.Am=y.Am
 len:x.Ad.length=y.Ad.length
 DF:∀i:Nat,(FL x i).Aq=(FL y i).Aq
 Vf:∀i:Nat,(FL x i).BY=(FL y i).BY
theorem JF{l c:Bb}(a:c.Aq=l.Aq)(b:c.BY=l.BY)(d0:Int):∀(ws:List Bool) (d DF r:Int),Fu c d0 ws d DF r=Fu l d0 ws d DF r
 |[],_,_,_=>rfl
 |true::ws,d,DF,r=>by rw[Fu,Fu,a,b,JF a b d0 ws]
 |false::ws,d,DF,r=>by rw[Fu,Fu,a,b,JF a b d0 ws]
theorem N8{y x:Ar}(h:x.Am=y.Am){l a:Bb}(b:a.Aq=l.Aq)(c:a.BY=l.BY)(w:List Bool)(d:Int):ED x w a d=ED y w l d:=by
 unfold ED;rw[h,JF b c]
theorem Alike.at{y x:Ar}(h:Alike y x)(w:List Bool)(i d:Int):ED x w (Ek x i) d=ED y w (Ek y i) d:=N8 h.last (h.DF i.toNat) (h.Vf i.toNat) w d
theorem KX{y x:Ar}(h:Alike y x)(w:List Bool)(c:List Int):∀(l:List Int) (f:Int) (out:List Ag),Ec x w c l f out=Ec y w c l f out
 |[],_,_=>rfl
 |i::r,f,out=>by
  rw[Ec,Ec];show Ec x w c r (cond ((ED x w (Ek x i) (max f (Ey c i))).AF==-1) (x.Am+1) _) _=_;rw[h.at,h.last,KX h w c r]
theorem KY{y x:Ar}(h:Alike y x)(w:List Bool)(c:List Int):∀(o:List (List Int)) (out:List Ag),Ge x w c o out=Ge y w c o out
 |[],_=>rfl
 |l::o,out=>by rw[Ge,Ge,KX h,KY h w c o]
theorem N9{y x:Ar}(h:Alike y x)(o:List (List Int))(t:AX):Ch x o t=Ch y o t:=by
 unfold Ch Gm;rw[h.len,KY h]
theorem MG{p b:Bb→Ag→Bool}:∀(ls a:List Bb) (ss:List Ag),ls.length=a.length→(∀i s,i<ls.length→p (ls.getD i H3) s=true→b (a.getD i H3) s=true)→G6 p ls ss≤G6 b a ss
 |[],[],ss,_,_=>Nat.le_refl _
 |[],_::_,_,h,_=>by cases h
 |_::_,[],_,h,_=>by cases h
 |l::ls,c::a,[],_,_=>by simp[G6]
 |l::ls,c::a,s::ss,d,h=>by
  have g:=MG ls a ss (by simpa using d) fun i s hi=>h (i+1) s (by simpa using hi);have e:p l s=true→b c s=true:=h 0 s (by simp);rw[G6,G6];cases f:p l s with
  |false=>simp only[cond_false];omega
  |true=>rw[e f];simp only[cond_true];omega
theorem Pp {l b:Bb} (h:l.Cr≤b.Cr) {s:Ag} (a:Gx l s=true):Gx b s=true:=by
 unfold Gx at a⊢;rw[Bool.and_eq_true,decide_eq_true_eq] at a⊢;exact⟨a.1,by omega⟩
theorem Qc{y x:Ar}(a:x.Ad.length=y.Ad.length)(b:∀i:Nat,(FL x i).Cr≤(FL y i).Cr)(ss:List Ag):D2 y ss≤D2 x ss:=by
 unfold D2;refine MG _ _ ss a.symm fun i s _ h=>?_;unfold DN at h⊢;cases c:Gx (x.Ad.getD i H3) s with
 |false=>rfl
 |true=>
  have:=Pp (b i) c;unfold FL at this;rw[this] at h;cases h
theorem R4{y x:Ar}(a:FW y)(b:FW x){o o':List (List Int)}(h:∀t,Ep y t=true→Ep x t=true∧D2 y (Ch y o t)≤D2 x (Ch x o' t)):(C2 y o).1≤(C2 x o').1:=by
 obtain⟨_,c,f⟩:=Ih a o;obtain⟨d,_,_⟩:=Ih b o';obtain⟨e,g⟩:=h _ c;have:=d _ e;omega
structure RB(y x:Ar):Prop extends Alike y x where
 LK:x.An=y.An
 due:∀i:Nat,(FL x i).Cr=(FL y i).Cr
 comes:∀i:Nat,(FL x i).AD≤(FL y i).AD∧(FL y i).AM≤(FL x i).AM
 C4:y.Ap≤x.Ap
 run:y.AB≤x.AB
theorem Hz:∀{ls a:List Bb} {cs:List Int},a.length=ls.length→(∀i:Nat,(a.getD i H3).AD≤(ls.getD i H3).AD∧(ls.getD i H3).AM≤(a.getD i H3).AM)→D1 ls cs=true→D1 a cs=true
 |[],[],cs,_,_,h=>h
 |[],_::_,_,h,_,_=>by cases h
 |_::_,[],_,h,_,_=>by cases h
 |l::ls,b::a,[],_,_,h=>by cases h
 |l::ls,b::a,c::cs,d,hw,h=>by
  rw[D1,Bool.and_eq_true] at h⊢;have e:=FH.1 h.1;have f:b.AD≤l.AD∧l.AM≤b.AM:=hw 0;exact⟨FH.2 (by omega),Hz (by simpa using d) (fun i=>hw (i+1)) h.2⟩
theorem RB.RC{y x:Ar}(h:RB y x){t:AX}(a:Ep y t=true):Ep x t=true:=by
 obtain⟨b,c,d⟩:=JE.1 a;exact JE.2 ⟨by rw[h.last];exact b,Ks h.C4 h.run _ _ _ c,Hz h.len h.comes d⟩
structure MQ(y z:Ar):Prop extends Alike y z where
 LK:z.An=y.An
 due:∀i:Nat,(FL y i).Cr≤(FL z i).Cr
 comes:∀i:Nat,(FL z i).AD=(FL y i).AD∧(FL y i).AM=(FL z i).AM
 C4:y.Ap=z.Ap
 run:y.AB=z.AB
theorem MQ.RC{y z:Ar}(h:MQ y z){t:AX}:Ep z t=true↔Ep y t=true:=by
 rw[JE,JE,h.last];unfold Hw;rw[h.C4,h.run];refine and_congr_right fun _=>and_congr_right fun _=>⟨fun a=>Hz h.len.symm (fun i=>?_) a,fun a=>Hz h.len (fun i=>?_) a⟩
 ·have:=h.comes i;unfold FL at this;omega
 ·have:=h.comes i;unfold FL at this;omega
theorem MQ.Vw{y z:Ar}(h:MQ y z)(a:FW y)(b:FW z)(o:List (List Int)):(C2 z o).1≤(C2 y o).1:=
 R4 b a fun t c=>⟨h.RC.1 c,by rw[N9 h.toAlike];exact Qc h.len.symm h.due _⟩
end Go.Proofs.YtkljfdkmjdjpfaaGreat
end
section
namespace Go.Proofs.YtkljfdkmjdjpfaaGreat
theorem R5(K:Nat)(y:Ar)(h:y.Ad.length≤6):∀(k m i:Nat) (a:List Bb),y.Ad.length=i+k→k<m→a=y.Ad.take i→
  DL K y m (i:Int) a=some y.Ad:=by
 intro k
 induction k with
 |zero=>
  intro m i a hi hm b;cases m with
  |zero=>omega
  |succ m=>rw[DL.eq_2,cf (df (by omega)),b,List.take_of_length_le (by omega)]
 |succ k ih=>
  intro m i a hi hm b;cases m with
  |zero=>omega
  |succ m=>
   have c:i<y.Ad.length:=by omega
   have d:a.length≤6:=by rw[b,List.length_take];omega
   rw[DL.eq_2,ct (dt (by omega)),B5 c,bd (show GG K (⟨y.Ad[i].AD,y.Ad[i].AM⟩:CQ)=some (⟨y.Ad[i].AD,y.Ad[i].AM⟩:CQ) from rfl),FK (by simp only[List.length_cons,List.length_nil];omega),BB (by omega) (by omega),C0];refine ih m (i+1) _ (by omega) (by omega) ?_;rw[b,List.take_add_one,List.getElem?_eq_getElem c];rfl
theorem Ow{K:Nat}(hK:2000≤K)(y:Ar)(h:y.Ad.length≤6):EJ K y=some y:=by
 unfold EJ;have:=R5 K y h y.Ad.length K 0 [] (by omega) (by omega) (by simp);rw[Int.natCast_zero] at this;rw[bd this]
theorem QY(o:List (List Int))(h:o.length≤1000)(d:∀l∈o,l.length≤1000):∀(k m i:Nat) (a:List (List Int)),o.length=i+k→k<m→a=o.take i→
  Dw o m a (i:Int)=some o:=by
 intro k
 induction k with
 |zero=>
  intro m i a hi hm c;cases m with
  |zero=>omega
  |succ m=>rw[Dw.eq_2,cf (df (by omega)),c,List.take_of_length_le (by omega)]
 |succ k ih=>
  intro m i a hi hm c;cases m with
  |zero=>omega
  |succ m=>
   have b:i<o.length:=by omega
   have e:a.length≤1000:=by rw[c,List.length_take];omega
   have:=d _ (List.getElem_mem b);rw[Dw.eq_2,ct (dt (by omega)),B5 b,FK (by simp only[List.length_nil];omega),FK (by simp only[List.length_cons,List.length_nil];omega),BB (by omega) (by omega),C0];refine ih m (i+1) _ (by omega) (by omega) ?_;rw[c,List.take_add_one,List.getElem?_eq_getElem b];rfl
theorem QZ{K:Nat}(hK:2000≤K)(o:List (List Int))(h:o.length≤1000)(a:∀l∈o,l.length≤1000):Ff K o=some o:=by
 unfold Ff;have:=QY o h a o.length K 0 [] (by omega) (by omega) (by simp);rw[Int.natCast_zero] at this;rw[bd this]
theorem Q0(K:Nat)(t:AX)(a:t.Comes.length≤1000)(b:t.Ap.length≤1000):Fg K t=some t:=by
 unfold Fg;rw[FK (by simp only[List.length_nil];omega),FK (by simp only[List.length_nil];omega)];rfl
theorem Q1(a:Ag):GX [.inl a.On,.inl a.AF,.inr a.Aq] [.inl a.On,.inl a.AF,.inr a.Aq]=true:=by
 simp[GX]
theorem Q2(a:List Ag)(h:a.length≤1000):∀(k m i:Nat),a.length=i+k→k<m→Dx a a m (i:Int)=some (.inr ()):=by
 intro k
 induction k with
 |zero=>
  intro m i hi hm;cases m with
  |zero=>omega
  |succ m=>rw[Dx.eq_2,cf (df (by omega))]
 |succ k ih=>
  intro m i hi hm;cases m with
  |zero=>omega
  |succ m=>
   have b:i<a.length:=by omega
   rw[Dx.eq_2,ct (dt (by omega)),B5 b,B5 b,B5 b,B5 b,Q1,nt,BB (by omega) (by omega),C0];exact ih m (i+1) (by omega) (by omega)
theorem Q3{K:Nat}(hK:2000≤K)(a:List Ag)(h:a.length≤1000):DE K a a=some true:=by
 unfold DE;have:=Q2 a h a.length K 0 (by omega) (by omega);rw[Int.natCast_zero] at this;rw[cf (by simp),bd this];rfl
theorem R6(a:List Int)(h:a.length≤1000):∀(k m i:Nat),a.length=i+k→k<m→DK a a m (i:Int)=some (.inr ()):=by
 intro k
 induction k with
 |zero=>
  intro m i hi hm;cases m with
  |zero=>omega
  |succ m=>rw[DK.eq_2,cf (df (by omega))]
 |succ k ih=>
  intro m i hi hm;cases m with
  |zero=>omega
  |succ m=>
   have b:i<a.length:=by omega
   rw[DK.eq_2,ct (dt (by omega)),B5 b,B5 b,cf (by simp),BB (by omega) (by omega),C0];exact ih m (i+1) (by omega) (by omega)
theorem R7{K:Nat}(hK:2000≤K)(a:List Int)(h:a.length≤1000):FC K a a=some true:=by
 unfold FC;have:=R6 a h a.length K 0 (by omega) (by omega);rw[Int.natCast_zero] at this;rw[cf (by simp),bd this];rfl
theorem Q4{K:Nat}(hK:2000≤K)(y:Ar):Fc K y=some (check y):=by
 unfold Fc;rw[bd (Ou hK y)]
def LL (y:Ar):Bool:=cond (decide ((y.Ad.length:Int)≤6)) (cond (check y !=0) true (decide (If y≤60))) false
theorem R8{K:Nat}(hK:2000≤K)(y:Ar):FD K y=some (LL y):=by
 unfold FD LL;cases b:decide ((y.Ad.length:Int)≤6) with
 |false=>rfl
 |true=>
  rw[ct rfl,ct rfl,bd (Ou hK y)];cases a:(check y !=0) with
  |true=>rfl
  |false=>
   have h0:check y=0:=by simpa[bne] using a
   rw[cf rfl,cf rfl,bd (R1 y (GM h0) hK)]
theorem Q5{y:Ar}(h:LL y=true):y.Ad.length≤6:=by
 unfold LL at h;cases a:decide ((y.Ad.length:Int)≤6) with
 |false=>rw[a] at h;cases h
 |true=>have:=of_decide_eq_true a;omega
theorem Q6(o:List (List Int)):∀(k m i:Nat),i+k=6→k<m→∃b:Bool⊕Unit,Dy o m (i:Int)=some b∧(b=.inr ()→o.length≤4→∀j,i≤j→(h:j<o.length)→o[j].length≤6)∧(∀x,b=.inl x→x=false):=by
 intro k
 induction k with
 |zero=>
  intro m i hi hm;cases m with
  |zero=>omega
  |succ m=>
   rw[Dy.eq_2]
   by_cases c:(i:Int)<o.length
   ·rw[ct (dt c),cf (df (by omega))];exact⟨_,rfl,fun _ d=>by omega,fun x a=>by cases a⟩
   ·rw[cf (df c)];exact⟨_,rfl,fun _ _ j e h=>by omega,fun x a=>by cases a⟩
 |succ k ih=>
  intro m i hi hm;cases m with
  |zero=>omega
  |succ m=>
   rw[Dy.eq_2]
   by_cases c:(i:Int)<o.length
   ·have f:i<o.length:=by omega
    rw[ct (dt c)]
    by_cases g:(i:Int)<5
    ·rw[ct (dt g),B5 f]
     by_cases l:(6:Int)<(o[i].length:Int)
     ·rw[ct (dt l)];exact⟨_,rfl,fun h=>(by cases h),fun x a=>by cases a;rfl⟩
     ·rw[cf (df l),BB (by omega) (by omega),C0];obtain⟨b,p,q,r⟩:=ih m (i+1) (by omega) (by omega);refine⟨b,p,fun s d j e h=>?_,r⟩
      by_cases n:j=i
      ·subst n;omega
      ·exact q s d j (by omega) h
    ·rw[cf (df g)];exact⟨_,rfl,fun _ d=>by omega,fun x a=>by cases a⟩
   ·rw[cf (df c)];exact⟨_,rfl,fun _ _ j e h=>by omega,fun x a=>by cases a⟩
theorem Q7{K:Nat}(hK:2000≤K)(o:List (List Int)):∃b,Fh K o=some b∧(b=true→o.length≤4∧∀l∈o,l.length≤6):=by
 obtain⟨b,a,c,d⟩:=Q6 o 6 K 0 (by omega) (by omega);rw[Int.natCast_zero] at a;unfold Fh;rw[bd a];cases b with
 |inl x=>
  obtain rfl:=d x rfl;exact⟨false,rfl,fun h=>by cases h⟩
 |inr u=>
  refine⟨_,rfl,fun h=>?_⟩;have g:(o.length:Int)≤4:=of_decide_eq_true h;refine⟨by omega,fun l e=>?_⟩;obtain⟨j,f,rfl⟩:=List.getElem_of_mem e;exact c rfl (by omega) j (by omega) f
end Go.Proofs.YtkljfdkmjdjpfaaGreat
end
section
namespace Go.Proofs.YtkljfdkmjdjpfaaGreat
section
variable{K:Nat}(hK:2000≤K){y:Ar}(h:check y=0)
theorem Ku{o:List (List Int)}(h:check y=0)(a:DQ y o=true):o.length≤1000∧(∀l∈o,l.length≤1000)∧o.flatten.length≤1000:=IT (GM h) a
include hK h
theorem Tw{o:List (List Int)}(a:DQ y o=true){t:AX}(b:Ep y t=true):FT K y o t=some (Ch y o t,0):=by
 obtain⟨c,_,d⟩:=Ku h a;rw[No y o t hK c d,if_neg (by simp[h]),if_neg (by simp[a,b])]
theorem Ox{o:List (List Int)}(a:DQ y o=true){i:Nat}(hi:i<y.Ad.length):E1 K y o (i:Int)=some (verdict y o i,0):=by
 obtain⟨b,_,c⟩:=Ku h a;have d:Fw (i:Int) 0 ((y.Ad.length:Int)-1)=true:=FH.2 (by omega);rw[RX y o i hK b c,if_neg (by simp[h]),if_neg (by simp[a,d]),Int.toNat_natCast]
theorem Tx{o:List (List Int)}(a:DQ y o=true):Gi K y o=some ((C2 y o).1,(C2 y o).2,0):=by
 obtain⟨b,_,c⟩:=Ku h a;rw[PX y o hK b c,if_neg (by simp[h]),if_neg (by simp[a])]
theorem Ty:GR K y=some ((HO y).2,(HO y).1,0):=by rw[Tp y hK,if_neg (by simp[h])]
theorem Tz:GS K y=some ((LH y).2.2,(LH y).1,0):=by rw[Tq y hK,if_neg (by simp[h])]
theorem Pq:FG K y=some (Gf y 0 y.Ad.length,0):=by rw[Pj y hK,if_neg (by simp[h])]
theorem NF{o:List (List Int)}(a:DQ y o=true)(n:Int):E3 K y o n=some (decide ((C2 y o).1≤n)):=by
 obtain⟨b,_,c⟩:=Ku h a;rw[Nq y o n hK b c,dt h,a];rfl
theorem Oa{o:List (List Int)}(a:DQ y o=true){t:AX}(b:Ep y t=true)(n:Int):Ft K y o t n=some (decide (n≤(D2 y (Ch y o t):Int))):=by
 obtain⟨c,_,d⟩:=Ku h a;rw[N7 y o t n hK c d,dt h,a,b];rfl
end
def y1:Ar:=⟨5,1,1,1,[⟨0,0,2,2,2⟩,⟨1,1,2,1,5⟩]⟩
def t3:AX:=⟨[0,1],[false,false,false,true,false,false]⟩
theorem HQ:check y1=0:=by decide+kernel
theorem RD:DQ y1 [[0,1]]=true:=EO.2 ⟨rfl,by decide⟩
theorem Pr:DQ y1 [[1,0]]=true:=EO.2 ⟨rfl,by decide⟩
theorem UA:Ep y1 t3=true:=by decide+kernel
theorem UB:Ch y1 [[0,1]] t3=[⟨0,1,true⟩,⟨2,3,false⟩]:=by
 have h:∀(a b:List Ag),a.map (fun s=>(s.On,s.AF,s.Aq))=b.map (fun s=>(s.On,s.AF,s.Aq))→a=b:=by
  intro a
  induction a with
  |nil=>intro b h;cases b with|nil=>rfl|cons x l=>cases h
  |cons x l ih=>
   intro b h;cases b with
   |nil=>cases h
   |cons x2 d=>
    have c:=List.cons.inj h;obtain⟨a1,a2,a3⟩:=x;obtain⟨e,f,g⟩:=x2;have i:a1=e∧a2=f∧a3=g:=by simpa using c.1
    obtain⟨rfl,rfl,rfl⟩:=i;rw[ih d c.2]
 exact h _ _ (by decide+kernel)
theorem Ps{K:Nat}(hK:2000≤K):B4 K=some true:=by
 unfold B4;have a:CD K 1=some y1:=rfl;have c:Gk K 3=some t3:=rfl;have d:E1 K y1 [[0,1]] 1=some (verdict y1 [[0,1]] 1,0):=Ox hK HQ RD (i:=1) (by decide);have e:E1 K y1 [[1,0]] 0=some (verdict y1 [[1,0]] 0,0):=Ox hK HQ Pr (i:=0) (by decide);have b:=GM HQ;obtain⟨_,f,j⟩:=Ih b [[1,0]];obtain⟨_,g,k⟩:=Pg b;have v1:verdict y1 [[0,1]] 1=3:=by decide+kernel
 have v2:verdict y1 [[1,0]] 0=2:=by decide+kernel
 have v3:(C2 y1 [[1,0]]).1=2:=by decide+kernel
 have v4:(HO y1).1=1:=by decide+kernel
 have v5:(LH y1).1=1:=by decide+kernel
 have v6:Gf y1 0 y1.Ad.length=[1]:=by decide+kernel
 rw[bd a,bd c,bd (Tw hK HQ RD UA),bd a,bd d,bd a,bd e,bd a,bd (Tx hK HQ Pr),bd a,bd (Ty hK HQ),bd a,bd (Tz hK HQ),bd a,bd (Pq hK HQ),UB];rw[ct (by rfl)];have s1:EI K 0 1 true=some ⟨0,1,true⟩:=rfl;have s2:EI K 2 3 false=some ⟨2,3,false⟩:=rfl;have h:Gl K [⟨0,1,true⟩,⟨2,3,false⟩] ⟨0,1,true⟩ ⟨2,3,false⟩=some true:=rfl;rw[bd s1,bd s2,bd h,ct (by rfl),ct (by rfl),v1,ct (by rfl),ct (by rfl),v2,ct (by rfl),ct (by rfl),v3,ct (by rfl),bd a,bd (Oa hK HQ Pr f 2),ct (dt (by omega)),ct (by rfl),v4,ct (by rfl),bd a,bd (NF hK HQ g 1),ct (dt (by omega)),ct (by rfl),v5,ct (by rfl),ct (by rfl),v6,bd (R7 hK [1] (by decide))]
end Go.Proofs.YtkljfdkmjdjpfaaGreat
end
section
namespace Go.Proofs.YtkljfdkmjdjpfaaGreat
namespace HF
theorem mixed:Tryz.prog.follows .mixedOrders=true:=by kernel_rfl
theorem JG(b:Nat)(w:World):(Instr.fieldAt 154 (.pointer (some ⟨b,0,none⟩)) 1).run Tryz.prog w=.ok (.pointer (some ⟨b,1,none⟩)) w:=by kernel_rfl
theorem AZ:One Tryz.prog 3:=by unfold One;exact⟨by kernel_rfl,by kernel_rfl⟩
theorem JH(b:Nat)(w:World):(Instr.fieldAt 154 (.pointer (some ⟨b,0,none⟩)) 0).run Tryz.prog w=.ok (.pointer (some ⟨b,0,none⟩)) w:=by kernel_rfl
theorem Jd:Bm Tryz.prog 90:=by unfold Bm;kernel_rfl
theorem JI(b:Nat)(w:World):(Instr.fieldAt 116 (.pointer (some ⟨b,0,none⟩)) 1).run Tryz.prog w=.ok (.pointer (some ⟨b,1,none⟩)) w:=by kernel_rfl
theorem JJ(b:Nat)(w:World):(Instr.fieldAt 116 (.pointer (some ⟨b,0,none⟩)) 0).run Tryz.prog w=.ok (.pointer (some ⟨b,0,none⟩)) w:=by kernel_rfl
theorem NG:(Tryz.prog.underlying 3).isSome=true:=by kernel_rfl
theorem Hf:(Tryz.prog.info? 115).bind (·.zero)=some (.agg #[I 0,I 0,.bool false]):=by kernel_rfl
theorem Em:(Tryz.prog.info? 115).map (·.size)=some 3:=by kernel_rfl
theorem DW:DA Tryz.prog 115 3:=by unfold DA;exact⟨by kernel_rfl,by kernel_rfl⟩
theorem CZ(b:Nat)(w:World):(Instr.fieldAt 75 (.pointer (some ⟨b,0,none⟩)) 4).run Tryz.prog w=.ok (.pointer (some ⟨b,4,none⟩)) w:=by kernel_rfl
theorem Dn:One Tryz.prog 73:=by unfold One;exact⟨by kernel_rfl,by kernel_rfl⟩
theorem Q8(b:Nat)(w:World):(Instr.fieldAt 115 (.pointer (some ⟨b,0,none⟩)) 2).run Tryz.prog w=.ok (.pointer (some ⟨b,2,none⟩)) w:=by kernel_rfl
theorem HR:One Tryz.prog 4:=by unfold One;exact⟨by kernel_rfl,by kernel_rfl⟩
theorem La(b:Nat)(w:World):(Instr.fieldAt 115 (.pointer (some ⟨b,0,none⟩)) 1).run Tryz.prog w=.ok (.pointer (some ⟨b,1,none⟩)) w:=by kernel_rfl
theorem NH(b:Nat)(w:World):(Instr.fieldAt 156 (.pointer (some ⟨b,0,none⟩)) 3).run Tryz.prog w=.ok (.pointer (some ⟨b,4,none⟩)) w:=by kernel_rfl
theorem Hl:DA Tryz.prog 156 5:=by unfold DA;exact⟨by kernel_rfl,by kernel_rfl⟩
theorem NI:Bm Tryz.prog 97:=by unfold Bm;kernel_rfl
theorem FY(b:Nat)(w:World):(Instr.fieldAt 63 (.pointer (some ⟨b,0,none⟩)) 0).run Tryz.prog w=.ok (.pointer (some ⟨b,0,none⟩)) w:=by kernel_rfl
theorem LM:Bm Tryz.prog 54:=by unfold Bm;kernel_rfl
theorem KD(b:Nat)(w:World):(Instr.fieldAt 63 (.pointer (some ⟨b,0,none⟩)) 3).run Tryz.prog w=.ok (.pointer (some ⟨b,3,none⟩)) w:=by kernel_rfl
theorem Mb(b:Nat)(w:World):(Instr.fieldAt 63 (.pointer (some ⟨b,0,none⟩)) 2).run Tryz.prog w=.ok (.pointer (some ⟨b,2,none⟩)) w:=by kernel_rfl
theorem FE:DA Tryz.prog 63 5:=by unfold DA;exact⟨by kernel_rfl,by kernel_rfl⟩
theorem Qd:Bm Tryz.prog 95:=by unfold Bm;kernel_rfl
theorem H0:(Tryz.prog.info? 3).map (fun i=>(i.zero,i.size,i.bytes))=some (some (I 0),1,8):=by kernel_rfl
theorem R9:Bm Tryz.prog 100:=by unfold Bm;kernel_rfl
theorem DX(b:Nat)(w:World):(Instr.fieldAt 63 (.pointer (some ⟨b,0,none⟩)) 4).run Tryz.prog w=.ok (.pointer (some ⟨b,4,none⟩)) w:=by kernel_rfl
theorem En:One Tryz.prog 61:=by unfold One;exact⟨by kernel_rfl,by kernel_rfl⟩
theorem F4:(Tryz.prog.info? 118).map (·.size)=some 5:=by kernel_rfl
theorem Lb(b o:Nat)(w:World):(Instr.fieldAt 118 (.pointer (some ⟨b,o,none⟩)) 0).run Tryz.prog w=.ok (.pointer (some ⟨b,o,none⟩)) w:=by kernel_rfl
theorem Oy:DA Tryz.prog 116 2:=by unfold DA;exact⟨by kernel_rfl,by kernel_rfl⟩
theorem Sa:Bm Tryz.prog 136:=by unfold Bm;kernel_rfl
theorem KE(b:Nat)(w:World):(Instr.fieldAt 63 (.pointer (some ⟨b,0,none⟩)) 1).run Tryz.prog w=.ok (.pointer (some ⟨b,1,none⟩)) w:=by kernel_rfl
theorem ID:Bm Tryz.prog 46:=by unfold Bm;kernel_rfl
theorem Oz:DA Tryz.prog 118 5:=by unfold DA;exact⟨by kernel_rfl,by kernel_rfl⟩
theorem NJ:(Tryz.prog.info? 118).bind (·.zero)=some (.agg #[I 0,I 0,I 0,I 0,I 0]):=by kernel_rfl
theorem IE(b:Nat)(w:World):(Instr.fieldAt 118 (.pointer (some ⟨b,0,none⟩)) 0).run Tryz.prog w=.ok (.pointer (some ⟨b,0,none⟩)) w:=by kernel_rfl
theorem NK(b:Nat)(w:World):(Instr.fieldAt 118 (.pointer (some ⟨b,0,none⟩)) 1).run Tryz.prog w=.ok (.pointer (some ⟨b,2,none⟩)) w:=by kernel_rfl
theorem NL(b:Nat)(w:World):(Instr.fieldAt 118 (.pointer (some ⟨b,0,none⟩)) 2).run Tryz.prog w=.ok (.pointer (some ⟨b,3,none⟩)) w:=by kernel_rfl
theorem NM(b:Nat)(w:World):(Instr.fieldAt 118 (.pointer (some ⟨b,0,none⟩)) 3).run Tryz.prog w=.ok (.pointer (some ⟨b,4,none⟩)) w:=by kernel_rfl
theorem Qe:Bm Tryz.prog 81:=by unfold Bm;kernel_rfl
theorem JK(b:Nat)(w:World):(Instr.fieldAt 156 (.pointer (some ⟨b,0,none⟩)) 0).run Tryz.prog w=.ok (.pointer (some ⟨b,0,none⟩)) w:=by kernel_rfl
theorem KF:DA Tryz.prog 154 2:=by unfold DA;exact⟨by kernel_rfl,by kernel_rfl⟩
theorem Hm(b:Nat)(w:World):(Instr.fieldAt 75 (.pointer (some ⟨b,0,none⟩)) 0).run Tryz.prog w=.ok (.pointer (some ⟨b,0,none⟩)) w:=by kernel_rfl
theorem Sb:Bm Tryz.prog 140:=by unfold Bm;kernel_rfl
theorem Hg(b:Nat)(w:World):(Instr.fieldAt 156 (.pointer (some ⟨b,0,none⟩)) 1).run Tryz.prog w=.ok (.pointer (some ⟨b,2,none⟩)) w:=by kernel_rfl
theorem OA:Bm Tryz.prog 141:=by unfold Bm;kernel_rfl
theorem Lc(b:Nat)(w:World):(Instr.fieldAt 156 (.pointer (some ⟨b,0,none⟩)) 2).run Tryz.prog w=.ok (.pointer (some ⟨b,3,none⟩)) w:=by kernel_rfl
theorem CP:(Tryz.prog.info? 3).map (·.size)=some 1:=by kernel_rfl
theorem Mc:(Tryz.prog.info? 75).bind (·.zero)=some (.agg #[I 0,I 0,I 0,I 0,.slice none 0 0]):=by kernel_rfl
theorem Pt:(Tryz.prog.info? 75).map (·.size)=some 5:=by kernel_rfl
theorem CI:DA Tryz.prog 75 5:=by unfold DA;exact⟨by kernel_rfl,by kernel_rfl⟩
theorem GU:(Tryz.prog.info? 78).bind (·.zero)=some (.agg #[.slice none 0 0,.slice none 0 0]):=by kernel_rfl
theorem LN:(Tryz.prog.info? 4).map (fun i=>(i.zero,i.size,i.bytes))=some (some (.bool false),1,1):=by kernel_rfl
theorem GZ:(Tryz.prog.info? 78).map (·.size)=some 2:=by kernel_rfl
theorem Hn(b:Nat)(w:World):(Instr.fieldAt 78 (.pointer (some ⟨b,0,none⟩)) 1).run Tryz.prog w=.ok (.pointer (some ⟨b,1,none⟩)) w:=by kernel_rfl
theorem Fi:One Tryz.prog 65:=by unfold One;exact⟨by kernel_rfl,by kernel_rfl⟩
theorem Hh:(Tryz.prog.info? 4).map (·.size)=some 1:=by kernel_rfl
theorem F5:DA Tryz.prog 78 2:=by unfold DA;exact⟨by kernel_rfl,by kernel_rfl⟩
theorem KG:Tryz.prog.eqGuardType Tryz.prog.depth 115=false:=by kernel_rfl
theorem JL:O2 Tryz.prog 115 [true,true,false]:=N6 Tryz.underlying115 (by kernel_rfl) (by kernel_rfl) AZ Tryz.underlying3 HR Tryz.underlying4
theorem Q9:(Tryz.prog.info? 154).bind (·.zero)=some (.agg #[I 0,I 0]):=by kernel_rfl
theorem TA:(Tryz.prog.info? 154).map (·.size)=some 2:=by kernel_rfl
theorem TB:Bm Tryz.prog 88:=by unfold Bm;kernel_rfl
theorem Ra:(Tryz.prog.info? 156).map (fun i=>(i.zero,i.size,i.bytes))=some (some (.agg #[I 0,I 0,I 0,I 0,I 0]),5,40):=by kernel_rfl
theorem UC:(Tryz.prog.info? 73).map (·.size)=some 1:=by kernel_rfl
theorem Qf:Bm Tryz.prog 80:=by unfold Bm;kernel_rfl
theorem Sc:One Tryz.prog 168:=by unfold One;exact⟨by kernel_rfl,by kernel_rfl⟩
theorem G3:(Tryz.prog.info? 156).map (·.size)=some 5:=by kernel_rfl
theorem Sd:Bm Tryz.prog 175:=by unfold Bm;kernel_rfl
theorem Se:Bm Tryz.prog 143:=by unfold Bm;kernel_rfl
theorem Sf:Bm Tryz.prog 142:=by unfold Bm;kernel_rfl
theorem Sg:One Tryz.prog 237:=by unfold One;exact⟨by kernel_rfl,by kernel_rfl⟩
theorem Sh:Bm Tryz.prog 210:=by unfold Bm;kernel_rfl
theorem Si:Bm Tryz.prog 198:=by unfold Bm;kernel_rfl
theorem Sj:Bm Tryz.prog 197:=by unfold Bm;kernel_rfl
theorem OB(b:Nat)(w:World):(Instr.fieldAt 75 (.pointer (some ⟨b,0,none⟩)) 2).run Tryz.prog w=.ok (.pointer (some ⟨b,2,none⟩)) w:=by kernel_rfl
theorem OC(b:Nat)(w:World):(Instr.fieldAt 75 (.pointer (some ⟨b,0,none⟩)) 3).run Tryz.prog w=.ok (.pointer (some ⟨b,3,none⟩)) w:=by kernel_rfl
theorem IF:(Tryz.prog.info? 3).bind (·.zero)=some (I 0):=by kernel_rfl
theorem Sk:Bm Tryz.prog 173:=by unfold Bm;kernel_rfl
theorem Sm:Bm Tryz.prog 172:=by unfold Bm;kernel_rfl
theorem Sn:Bm Tryz.prog 145:=by unfold Bm;kernel_rfl
theorem OD:Bm Tryz.prog 138:=by unfold Bm;kernel_rfl
theorem Je(b:Nat)(w:World):(Instr.fieldAt 75 (.pointer (some ⟨b,0,none⟩)) 1).run Tryz.prog w=.ok (.pointer (some ⟨b,1,none⟩)) w:=by kernel_rfl
theorem TD:Bm Tryz.prog 89:=by unfold Bm;kernel_rfl
theorem TE:Bm Tryz.prog 91:=by unfold Bm;kernel_rfl
theorem Qg:Bm Tryz.prog 92:=by unfold Bm;kernel_rfl
theorem OE:Bm Tryz.prog 144:=by unfold Bm;kernel_rfl
theorem Ld:(Tryz.prog.info? 156).bind (·.zero)=some (.agg #[I 0,I 0,I 0,I 0,I 0]):=by kernel_rfl
theorem Qh:Bm Tryz.prog 94:=by unfold Bm;kernel_rfl
theorem TF:Bm Tryz.prog 93:=by unfold Bm;kernel_rfl
theorem Dp:One Tryz.prog 23:=by unfold One;exact⟨by kernel_rfl,by kernel_rfl⟩
theorem Sp:One Tryz.prog 161:=by unfold One;exact⟨by kernel_rfl,by kernel_rfl⟩
theorem NN(b o:Nat)(w:World):(Instr.fieldAt 156 (.pointer (some ⟨b,o,none⟩)) 0).run Tryz.prog w=.ok (.pointer (some ⟨b,o,none⟩)) w:=by kernel_rfl
theorem Rb(b o:Nat)(w:World):(Instr.fieldAt 154 (.pointer (some ⟨b,o,none⟩)) 0).run Tryz.prog w=.ok (.pointer (some ⟨b,o,none⟩)) w:=by kernel_rfl
theorem KH:One Tryz.prog 176:=by unfold One;exact⟨by kernel_rfl,by kernel_rfl⟩
theorem OF:Bm Tryz.prog 200:=by unfold Bm;kernel_rfl
theorem Sq:(Tryz.prog.info? 23).bind (·.zero)=some (.slice none 0 0):=by kernel_rfl
theorem ES:(Tryz.prog.info? 23).map (·.size)=some 1:=by kernel_rfl
theorem Sr:(Tryz.prog.info? 65).bind (·.zero)=some (.slice none 0 0):=by kernel_rfl
theorem UD:(Tryz.prog.info? 65).map (·.size)=some 1:=by kernel_rfl
theorem NO:(Tryz.prog.info? 176).bind (·.zero)=some (.nilFunc):=by kernel_rfl
theorem Qi:(Tryz.prog.info? 176).map (·.size)=some 1:=by kernel_rfl
theorem Ss(w:World):(Op.equal 23 (.slice none 0 0) (.slice none 0 0)).run Tryz.prog w=.ok true w:=by kernel_rfl
theorem Su(ad:Addr)(n c:Nat)(w:World):(Op.equal 23 (.slice (some ad) n c) (.slice none 0 0)).run Tryz.prog w=.ok false w:=by kernel_rfl
theorem Md:Bm Tryz.prog 149:=by unfold Bm;kernel_rfl
theorem Sv(w:World):(Op.equal 65 (.slice none 0 0) (.slice none 0 0)).run Tryz.prog w=.ok true w:=by kernel_rfl
theorem Sw(ad:Addr)(n c:Nat)(w:World):(Op.equal 65 (.slice (some ad) n c) (.slice none 0 0)).run Tryz.prog w=.ok false w:=by kernel_rfl
theorem Me:Bm Tryz.prog 150:=by unfold Bm;kernel_rfl
theorem KI:(Tryz.prog.info? 23).map (fun i=>(i.zero,i.size,i.bytes))=some (some (.slice none 0 0),1,24):=by kernel_rfl
theorem Sx(w:World):(Op.equal 64 (.slice none 0 0) (.slice none 0 0)).run Tryz.prog w=.ok true w:=by kernel_rfl
theorem Sy(ad:Addr)(n c:Nat)(w:World):(Op.equal 64 (.slice (some ad) n c) (.slice none 0 0)).run Tryz.prog w=.ok false w:=by kernel_rfl
theorem Sz:Bm Tryz.prog 153:=by unfold Bm;kernel_rfl
theorem UE:∀(b c:Bool) (w:World),(Op.equal 4 (.bool b) (.bool c)).run Tryz.prog w=.ok (b==c) w:=by intro b c w;cases b<;>cases c<;>kernel_rfl
theorem HH(b:Nat)(w:World):(Instr.fieldAt 78 (.pointer (some ⟨b,0,none⟩)) 0).run Tryz.prog w=.ok (.pointer (some ⟨b,0,none⟩)) w:=by kernel_rfl
theorem OG:KP Tryz.prog 220 2:=OX 2 Tryz.underlying220 (by kernel_rfl) rfl rfl AZ Tryz.underlying3
theorem NP:M3 Tryz.prog 220 2:=N1 2 Tryz.underlying220 rfl rfl AZ Tryz.underlying3
theorem MH:Jq Tryz.prog 220:=by unfold Jq;kernel_rfl
theorem TG:(Tryz.prog.info? 115).bind (·.zero)=some (.agg #[I 0,I 0,.bool false]):=by kernel_rfl
theorem Hj(b:Nat)(w:World):(Instr.fieldAt 220 (.pointer (some ⟨b,0,none⟩)) 1).run Tryz.prog w=.ok (.pointer (some ⟨b,1,none⟩)) w:=by kernel_rfl
theorem IG(b o:Nat)(w:World):(Instr.fieldAt 165 (.pointer (some ⟨b,o,none⟩)) 0).run Tryz.prog w=.ok (.pointer (some ⟨b,o,none⟩)) w:=by kernel_rfl
theorem Mf(b o:Nat)(w:World):(Instr.fieldAt 75 (.pointer (some ⟨b,o,none⟩)) 0).run Tryz.prog w=.ok (.pointer (some ⟨b,o,none⟩)) w:=by kernel_rfl
theorem OH(b o:Nat)(w:World):(Instr.fieldAt 75 (.pointer (some ⟨b,o,none⟩)) 4).run Tryz.prog w=.ok (.pointer (some ⟨b,o+4,none⟩)) w:=by kernel_rfl
theorem Rc(b:Nat)(w:World):(Instr.fieldAt 220 (.pointer (some ⟨b,0,none⟩)) 0).run Tryz.prog w=.ok (.pointer (some ⟨b,0,none⟩)) w:=by kernel_rfl
theorem NQ(b o:Nat)(w:World):(Instr.fieldAt 165 (.pointer (some ⟨b,o,none⟩)) 1).run Tryz.prog w=.ok (.pointer (some ⟨b,o+5,none⟩)) w:=by kernel_rfl
theorem NR(b o:Nat)(w:World):(Instr.fieldAt 165 (.pointer (some ⟨b,o,none⟩)) 2).run Tryz.prog w=.ok (.pointer (some ⟨b,o+6,none⟩)) w:=by kernel_rfl
theorem OI:One Tryz.prog 163:=by unfold One;exact⟨by kernel_rfl,by kernel_rfl⟩
theorem Mg:DA Tryz.prog 220 2:=by unfold DA;exact⟨by kernel_rfl,by kernel_rfl⟩
theorem SA:Bm Tryz.prog 174:=by unfold Bm;kernel_rfl
theorem Re:(Tryz.prog.info? 115).map (fun i=>(i.zero,i.size,i.bytes))=some (some (.agg #[I 0,I 0,.bool false]),3,24):=by kernel_rfl
theorem SB:Bm Tryz.prog 139:=by unfold Bm;kernel_rfl
theorem SC:Bm Tryz.prog 137:=by unfold Bm;kernel_rfl
theorem IH:Bm Tryz.prog 35:=by unfold Bm;kernel_rfl
theorem NS:Bm Tryz.prog 85:=by unfold Bm;kernel_rfl
theorem TH:Bm Tryz.prog 86:=by unfold Bm;kernel_rfl
theorem LO:Bm Tryz.prog 87:=by unfold Bm;kernel_rfl
theorem NT:(Tryz.prog.info? 183).bind (·.zero)=some (.agg #[.nilFunc]):=by kernel_rfl
theorem Qj:(Tryz.prog.info? 183).map (·.size)=some 1:=by kernel_rfl
theorem NU(b:Nat)(w:World):(Instr.fieldAt 183 (.pointer (some ⟨b,0,none⟩)) 0).run Tryz.prog w=.ok (.pointer (some ⟨b,0,none⟩)) w:=by kernel_rfl
theorem OJ:One Tryz.prog 180:=by unfold One;exact⟨by kernel_rfl,by kernel_rfl⟩
theorem OK:Bm Tryz.prog 107:=by unfold Bm;kernel_rfl
theorem OL:Bm Tryz.prog 103:=by unfold Bm;kernel_rfl
theorem Rf:(Tryz.prog.info? 162).bind (·.zero)=some (.pointer none):=by kernel_rfl
theorem SD:Bm Tryz.prog 176:=by unfold Bm;kernel_rfl
theorem Il:One Tryz.prog 162:=by unfold One;exact⟨by kernel_rfl,by kernel_rfl⟩
theorem Qk(w:World):(Op.equal 162 (.pointer none) (.pointer none)).run Tryz.prog w=.ok true w:=by kernel_rfl
theorem Ql:(Tryz.prog.info? 162).map (·.size)=some 1:=by kernel_rfl
theorem Mh:One Tryz.prog 223:=by unfold One;exact⟨by kernel_rfl,by kernel_rfl⟩
theorem Gh:One Tryz.prog 64:=by unfold One;exact⟨by kernel_rfl,by kernel_rfl⟩
theorem Qm(ad:Addr)(w:World):(Op.equal 162 (.pointer (some ad)) (.pointer none)).run Tryz.prog w=.ok false w:=by kernel_rfl
theorem SE:Bm Tryz.prog 177:=by unfold Bm;kernel_rfl
theorem SF:Bm Tryz.prog 199:=by unfold Bm;kernel_rfl
theorem II:(Tryz.prog.info? 178).bind (·.zero)=some (.agg #[I 0,I 0,I 0,I 0]):=by kernel_rfl
theorem SG:Bm Tryz.prog 147:=by unfold Bm;kernel_rfl
theorem OM:Bm Tryz.prog 146:=by unfold Bm;kernel_rfl
theorem Im:DA Tryz.prog 178 4:=by unfold DA;exact⟨by kernel_rfl,by kernel_rfl⟩
theorem Jf:(Tryz.prog.info? 178).map (·.size)=some 4:=by kernel_rfl
theorem SH:Bm Tryz.prog 148:=by unfold Bm;kernel_rfl
theorem TI:Bm Tryz.prog 96:=by unfold Bm;kernel_rfl
theorem NV:Bm Tryz.prog 98:=by unfold Bm;kernel_rfl
theorem Qn:Bm Tryz.prog 99:=by unfold Bm;kernel_rfl
theorem Qo:Bm Tryz.prog 41:=by unfold Bm;kernel_rfl
theorem NW:Bm Tryz.prog 30:=by unfold Bm;kernel_rfl
theorem SI:Bm Tryz.prog 152:=by unfold Bm;kernel_rfl
theorem Mi:Bm Tryz.prog 106:=by unfold Bm;kernel_rfl
theorem IU:(Tryz.prog.info? 64).map (·.size)=some 1:=by kernel_rfl
theorem SJ:DA Tryz.prog 183 1:=by unfold DA;exact⟨by kernel_rfl,by kernel_rfl⟩
theorem SK:Tryz.prog.eqGuardType Tryz.prog.depth 178=false:=by kernel_rfl
theorem SL:KP Tryz.prog 178 4:=Py Tryz.underlying178 AZ Tryz.underlying3
theorem TJ:One Tryz.prog 69:=by unfold One;exact⟨by kernel_rfl,by kernel_rfl⟩
theorem ON:Bm Tryz.prog 151:=by unfold Bm;kernel_rfl
theorem Mj:(Tryz.prog.info? 64).bind (·.zero)=some (.slice none 0 0):=by kernel_rfl
theorem SM:Bm Tryz.prog 105:=by unfold Bm;kernel_rfl
theorem OO:Bm Tryz.prog 104:=by unfold Bm;kernel_rfl
theorem SN:Bm Tryz.prog 108:=by unfold Bm;kernel_rfl
theorem Io(b:Nat)(w:World):(Instr.fieldAt 67 (.pointer (some ⟨b,0,none⟩)) 0).run Tryz.prog w=.ok (.pointer (some ⟨b,0,none⟩)) w:=by kernel_rfl
theorem HI(b:Nat)(w:World):(Instr.fieldAt 67 (.pointer (some ⟨b,0,none⟩)) 1).run Tryz.prog w=.ok (.pointer (some ⟨b,1,none⟩)) w:=by kernel_rfl
theorem Jg:DA Tryz.prog 67 2:=by unfold DA;exact⟨by kernel_rfl,by kernel_rfl⟩
theorem Rg(b o:Nat)(w:World):(Instr.fieldAt 116 (.pointer (some ⟨b,o,none⟩)) 0).run Tryz.prog w=.ok (.pointer (some ⟨b,o,none⟩)) w:=by kernel_rfl
theorem Rh(b o:Nat)(w:World):(Instr.fieldAt 116 (.pointer (some ⟨b,o,none⟩)) 1).run Tryz.prog w=.ok (.pointer (some ⟨b,o+1,none⟩)) w:=by kernel_rfl
theorem Ri:(Tryz.prog.info? 175).map (fun i=>(i.zero,i.size,i.bytes))=some (some (.agg #[I 0,I 0,.bool false]),3,24):=by kernel_rfl
theorem Fj:(Tryz.prog.info? 175).map (·.size)=some 3:=by kernel_rfl
theorem NX(b o:Nat)(w:World):(Instr.fieldAt 175 (.pointer (some ⟨b,o,none⟩)) 0).run Tryz.prog w=.ok (.pointer (some ⟨b,o,none⟩)) w:=by kernel_rfl
theorem JM(b o:Nat)(w:World):(Instr.fieldAt 118 (.pointer (some ⟨b,o,none⟩)) 1).run Tryz.prog w=.ok (.pointer (some ⟨b,o+2,none⟩)) w:=by kernel_rfl
theorem GK(b o:Nat)(w:World):(Instr.fieldAt 175 (.pointer (some ⟨b,o,none⟩)) 1).run Tryz.prog w=.ok (.pointer (some ⟨b,o+1,none⟩)) w:=by kernel_rfl
theorem IJ(b o:Nat)(w:World):(Instr.fieldAt 175 (.pointer (some ⟨b,o,none⟩)) 2).run Tryz.prog w=.ok (.pointer (some ⟨b,o+2,none⟩)) w:=by kernel_rfl
theorem JN(b o:Nat)(w:World):(Instr.fieldAt 118 (.pointer (some ⟨b,o,none⟩)) 2).run Tryz.prog w=.ok (.pointer (some ⟨b,o+3,none⟩)) w:=by kernel_rfl
theorem LP:Bm Tryz.prog 39:=by unfold Bm;kernel_rfl
theorem TK:Bm Tryz.prog 27:=by unfold Bm;kernel_rfl
theorem TL:Bm Tryz.prog 34:=by unfold Bm;kernel_rfl
theorem HA:Bm Tryz.prog 82:=by unfold Bm;kernel_rfl
theorem TM:Bm Tryz.prog 83:=by unfold Bm;kernel_rfl
theorem Qp:Bm Tryz.prog 40:=by unfold Bm;kernel_rfl
theorem TN:Bm Tryz.prog 50:=by unfold Bm;kernel_rfl
theorem TO:Bm Tryz.prog 51:=by unfold Bm;kernel_rfl
theorem TP:Bm Tryz.prog 52:=by unfold Bm;kernel_rfl
theorem Qq:Bm Tryz.prog 61:=by unfold Bm;kernel_rfl
theorem TQ:Bm Tryz.prog 84:=by unfold Bm;kernel_rfl
theorem TR:Bm Tryz.prog 48:=by unfold Bm;kernel_rfl
theorem TS:Bm Tryz.prog 49:=by unfold Bm;kernel_rfl
theorem TU:Bm Tryz.prog 55:=by unfold Bm;kernel_rfl
theorem GN:Bm Tryz.prog 29:=by unfold Bm;kernel_rfl
theorem TV:Bm Tryz.prog 28:=by unfold Bm;kernel_rfl
theorem Qr:Bm Tryz.prog 31:=by unfold Bm;kernel_rfl
theorem TW:Bm Tryz.prog 32:=by unfold Bm;kernel_rfl
theorem TX:Bm Tryz.prog 33:=by unfold Bm;kernel_rfl
theorem TY:Bm Tryz.prog 36:=by unfold Bm;kernel_rfl
theorem LQ:Bm Tryz.prog 38:=by unfold Bm;kernel_rfl
theorem TZ:Bm Tryz.prog 37:=by unfold Bm;kernel_rfl
end HF
end Go.Proofs.YtkljfdkmjdjpfaaGreat
end
section
set_option linter.unusedVariables false
set_option linter.unusedSimpArgs false
namespace Go.Proofs.YtkljfdkmjdjpfaaGreat
open Go.RowKit Go.WideShapes
set_option maxRecDepth 20000
open HF
attribute [local irreducible] BJ WL CC CW LV BL Ej DA One Bm
theorem OP(n:Nat)(b:Int)(e:Int)(f:Int)(Z:Nat→Prop)(w:World)(m:Bool)(d:Eh n b e f=some m):
 BL Tryz.prog 90 #[I b,I e,I f] w (fun v w'=>Ext w w'∧BQ.R w' (ZZ FN [] Z w.heap.size []) v m):=by
 unfold Eh at d;refine Ba (N:=15) Tryz.func90 rfl rfl (by simp) ?_;intro o h p;have g:=AO (i:=0) (v:=I b) h rfl;have k:=AO (i:=1) (v:=I e) h rfl;have l:=AO (i:=2) (v:=I f) h rfl;clear h;have j:Hp FN [] w [] w:=Hp.start (BM.none w);refine Ae<|Aa<|wa rfl (v:=.bool false) rfl<|Af<|Ab<|Ae<|Aa<|wm rfl (v:=I e) k<|wm rfl (v:=I b) g<|wd rfl (fun st=>E9 (ee st rfl) (ee st rfl))<|wm rfl (v:=.bool (decide (e≤b))) rfl ?_;rcases Ao (decide (e≤b)) with a|a
 ·replace d:=Ay d a;refine As rfl rfl (Ac rfl a) rfl (by decide) (fun st=>AV (v:=I b) (ee st g))<|As rfl rfl (Ac rfl a) rfl (by decide) (fun st=>AV (v:=I f) (ee st l))<|As rfl rfl (Ac rfl a) rfl (by decide) (fun st=>E9 (ee st rfl) (ee st rfl))<|wd rfl (fun st=>AS (v:=.bool (decide (b≤f))) (ee st rfl) a (ee st rfl))<|wa rfl (v:=.bool (decide (b≤f))) rfl<|Af<|Ab<|AH ?_;obtain rfl:=Option.some.inj d;refine AP rfl rfl ?_;exact⟨j.Bt,rfl⟩
 ·replace d:=Az d a;refine Aj (c:=false) rfl rfl (Ac rfl a) (by decide) rfl (by decide)<|Aj (c:=false) rfl rfl (Ac rfl a) (by decide) rfl (by decide)<|Aj (c:=false) rfl rfl (Ac rfl a) (by decide) rfl (by decide)<|wd rfl (fun st=>Bu (v:=.bool false) (ee st rfl) a (ee st rfl))<|wa rfl (v:=.bool false) rfl<|Af<|Ab<|AH ?_;obtain rfl:=Option.some.inj d;refine AP rfl rfl ?_;exact⟨j.Bt,rfl⟩
theorem UK(m:Nat)(a:CQ)(Z:Nat→Prop)(w:World)(f:Int)(b:E2 m a=some f):
 BL Tryz.prog 94 #[.agg #[I a.Lo,I a.Hi]] w (fun v w'=>Ext w w'∧(Fy .i64).R w' (ZZ FN [] Z w.heap.size []) v f):=by
 unfold E2 at b;refine Ba (N:=9) Tryz.func94 rfl rfl (by simp) ?_;intro n g o;have e:=AO (i:=0) (v:=.agg #[I a.Lo,I a.Hi]) g rfl;clear g;have d:Hp FN [] w [] w:=Hp.start (BM.none w);refine Ae<|Aa<|we rfl (fun st=>B1 (v:=.agg #[I a.Lo,I a.Hi]) (cs:= #[I a.Lo,I a.Hi]) (ee st e) rfl) ?_;rintro _ w1 ⟨p,rfl,c⟩;have h:=d.nb c;have l:=d.BN c;refine wa rfl (v:=I 0) rfl<|Af<|Ab<|Ae<|Aa<|wd rfl (fun st=>Ak (ee st rfl) (JG _ _))<|wd rfl (fun st=>Au (v:=I a.Hi) AZ (ee st rfl) c.bk rfl)<|wd rfl (fun st=>Ak (ee st rfl) (JH _ _))<|wd rfl (fun st=>Au (v:=I a.Lo) AZ (ee st rfl) c.bk rfl) ?_;replace b:=AU b;obtain⟨j,b⟩:=b;refine wd rfl (fun st=>Lj (ee st rfl) (ee st rfl) j) ?_;replace b:=AU b;obtain⟨k,b⟩:=b;refine wd rfl (fun st=>Br (ee st rfl) (ee st rfl) k)<|wa rfl (v:=I ((a.Hi-a.Lo)+1)) rfl<|Af<|Ab<|AH ?_;obtain rfl:=Option.some.inj b;refine AP rfl rfl ?_;exact⟨h.Bt,rfl⟩
theorem UW(p:Nat)(a:CQ)(g:Int)(Z:Nat→Prop)(w:World)(n:Bool)(e:GY p a g=some n):
 BL Tryz.prog 140 #[.agg #[I a.Lo,I a.Hi],I g] w (fun v w'=>Ext w w'∧BQ.R w' (ZZ FN [] Z w.heap.size []) v n):=by
 unfold GY at e;refine Ba (N:=21) Tryz.func140 rfl rfl (by simp) ?_;intro q k r;have l:=AO (i:=0) (v:=.agg #[I a.Lo,I a.Hi]) k rfl;have m:=AO (i:=1) (v:=I g) k rfl;clear k;have j:Hp FN [] w [] w:=Hp.start (BM.none w);refine Ae<|Aa<|we rfl (fun st=>B1 (v:=.agg #[I a.Lo,I a.Hi]) (cs:= #[I a.Lo,I a.Hi]) (ee st l) rfl) ?_;rintro _ w1 ⟨s,rfl,f⟩;have h:=j.nb f;have o:=j.BN f;refine wa rfl (v:=.bool false) rfl<|Af<|Ab<|Ae<|Aa<|wd rfl (fun st=>Ak (ee st rfl) (JH _ _))<|wd rfl (fun st=>Au (v:=I a.Lo) AZ (ee st rfl) f.bk rfl)<|wd rfl (fun st=>E9 (ee st rfl) (ee st rfl))<|wm rfl (v:=.bool (decide ((0:Int)≤a.Lo))) rfl ?_;rcases Ao (decide ((0:Int)≤a.Lo)) with b|b
 ·replace e:=Ay e b;refine As rfl rfl (Ac rfl b) rfl (by decide) (fun st=>Ak (ee st rfl) (JH _ _))<|As rfl rfl (Ac rfl b) rfl (by decide) (fun st=>Au (v:=I a.Lo) AZ (ee st rfl) f.bk rfl)<|As rfl rfl (Ac rfl b) rfl (by decide) (fun st=>Ak (ee st rfl) (JG _ _))<|As rfl rfl (Ac rfl b) rfl (by decide) (fun st=>Au (v:=I a.Hi) AZ (ee st rfl) f.bk rfl)<|As rfl rfl (Ac rfl b) rfl (by decide) (fun st=>E9 (ee st rfl) (ee st rfl))<|wd rfl (fun st=>AS (v:=.bool (decide (a.Lo≤a.Hi))) (ee st rfl) b (ee st rfl))<|wm rfl (v:=.bool (decide (a.Lo≤a.Hi))) rfl ?_;rcases Ao (decide (a.Lo≤a.Hi)) with d|d
  ·replace e:=Ay e d;refine As rfl rfl (Ac rfl d) rfl (by decide) (fun st=>Ak (ee st rfl) (JG _ _))<|As rfl rfl (Ac rfl d) rfl (by decide) (fun st=>Au (v:=I a.Hi) AZ (ee st rfl) f.bk rfl)<|As rfl rfl (Ac rfl d) rfl (by decide) (fun st=>AV (v:=I g) (ee st m))<|As rfl rfl (Ac rfl d) rfl (by decide) (fun st=>E9 (ee st rfl) (ee st rfl))<|wd rfl (fun st=>AS (v:=.bool (decide (a.Hi≤g))) (ee st rfl) d (ee st rfl))<|wa rfl (v:=.bool (decide (a.Hi≤g))) rfl<|Af<|Ab<|AH ?_;obtain rfl:=Option.some.inj e;refine AP rfl rfl ?_;exact⟨h.Bt,rfl⟩
  ·replace e:=Az e d;refine Aj (c:=false) rfl rfl (Ac rfl d) (by decide) rfl (by decide)<|Aj (c:=false) rfl rfl (Ac rfl d) (by decide) rfl (by decide)<|Aj (c:=false) rfl rfl (Ac rfl d) (by decide) rfl (by decide)<|Aj (c:=false) rfl rfl (Ac rfl d) (by decide) rfl (by decide)<|wd rfl (fun st=>Bu (v:=.bool false) (ee st rfl) d (ee st rfl))<|wa rfl (v:=.bool false) rfl<|Af<|Ab<|AH ?_;obtain rfl:=Option.some.inj e;refine AP rfl rfl ?_;exact⟨h.Bt,rfl⟩
 ·replace e:=Az e b;refine Aj (c:=false) rfl rfl (Ac rfl b) (by decide) rfl (by decide)<|Aj (c:=false) rfl rfl (Ac rfl b) (by decide) rfl (by decide)<|Aj (c:=false) rfl rfl (Ac rfl b) (by decide) rfl (by decide)<|Aj (c:=false) rfl rfl (Ac rfl b) (by decide) rfl (by decide)<|Aj (c:=false) rfl rfl (Ac rfl b) (by decide) rfl (by decide)<|wd rfl (fun st=>Bu (v:=.bool false) (ee st rfl) b (ee st rfl))<|wm rfl (v:=.bool false) rfl<|Aj rfl rfl rfl (by decide) rfl (by decide)<|Aj rfl rfl rfl (by decide) rfl (by decide)<|Aj rfl rfl rfl (by decide) rfl (by decide)<|Aj rfl rfl rfl (by decide) rfl (by decide)<|wd rfl (fun st=>Bu (v:=.bool false) (ee st rfl) rfl (ee st rfl))<|wa rfl (v:=.bool false) rfl<|Af<|Ab<|AH ?_;obtain rfl:=Option.some.inj e;refine AP rfl rfl ?_;exact⟨h.Bt,rfl⟩
theorem a141(d:Nat)(b:Int)(Z:Nat→Prop)(w:World)(e:Bool)(a:GL d b=some e):
 BL Tryz.prog 141 #[I b] w (fun v w'=>Ext w w'∧BQ.R w' (ZZ FN [] Z w.heap.size []) v e):=by
 unfold GL at a;refine Ba (N:=5) Tryz.func141 rfl rfl (by simp) ?_;intro l f m;have c:=AO (i:=0) (v:=I b) f rfl;clear f;have g:Hp FN [] w [] w:=Hp.start (BM.none w);refine Ae<|Aa<|wa rfl (v:=.bool false) rfl<|Af<|Ab<|Ae<|Aa<|wm rfl (v:=I b) c ?_;replace a:=bind_some a;obtain⟨r1,h,a⟩:=a;refine we rfl (fun st=>AN Jd (ee st rfl) (EU (ee st rfl) (ee st rfl) (ee st rfl)) (OP d b 1 5 ZA _ r1 h)) ?_;rintro _ w2 ⟨j,rfl⟩;have k:=g.ext j;refine wa rfl (v:=.bool r1) rfl<|Af<|Ab<|AH ?_;obtain rfl:=Option.some.inj a;refine AP rfl rfl ?_;exact⟨k.Bt,rfl⟩
theorem a46(n:Nat)(b:Int)(e:Int)(f:Int)(Z:Nat→Prop)(w:World)(m:Bool)(d:C7 n b e f=some m):
 BL Tryz.prog 46 #[I b,I e,I f] w (fun v w'=>Ext w w'∧BQ.R w' (ZZ FN [] Z w.heap.size []) v m):=by
 unfold C7 at d;refine Ba (N:=15) Tryz.func46 rfl rfl (by simp) ?_;intro o h p;have g:=AO (i:=0) (v:=I b) h rfl;have k:=AO (i:=1) (v:=I e) h rfl;have l:=AO (i:=2) (v:=I f) h rfl;clear h;have j:Hp FN [] w [] w:=Hp.start (BM.none w);refine Ae<|Aa<|wa rfl (v:=.bool false) rfl<|Af<|Ab<|Ae<|Aa<|wm rfl (v:=I b) g<|wm rfl (v:=I e) k<|wd rfl (fun st=>Lk (ee st rfl) (ee st rfl))<|wm rfl (v:=.bool (decide (e≤b))) rfl ?_;rcases Ao (decide (e≤b)) with a|a
 ·replace d:=Ay d a;refine As rfl rfl (Ac rfl a) rfl (by decide) (fun st=>AV (v:=I b) (ee st g))<|As rfl rfl (Ac rfl a) rfl (by decide) (fun st=>AV (v:=I f) (ee st l))<|As rfl rfl (Ac rfl a) rfl (by decide) (fun st=>E9 (ee st rfl) (ee st rfl))<|wd rfl (fun st=>AS (v:=.bool (decide (b≤f))) (ee st rfl) a (ee st rfl))<|wa rfl (v:=.bool (decide (b≤f))) rfl<|Af<|Ab<|AH ?_;obtain rfl:=Option.some.inj d;refine AP rfl rfl ?_;exact⟨j.Bt,rfl⟩
 ·replace d:=Az d a;refine Aj (c:=false) rfl rfl (Ac rfl a) (by decide) rfl (by decide)<|Aj (c:=false) rfl rfl (Ac rfl a) (by decide) rfl (by decide)<|Aj (c:=false) rfl rfl (Ac rfl a) (by decide) rfl (by decide)<|wd rfl (fun st=>Bu (v:=.bool false) (ee st rfl) a (ee st rfl))<|wa rfl (v:=.bool false) rfl<|Af<|Ab<|AH ?_;obtain rfl:=Option.some.inj d;refine AP rfl rfl ?_;exact⟨j.Bt,rfl⟩
theorem UX(m:Nat)(a:CQ)(Z:Nat→Prop)(w:World)(f:Int)(b:FB m a=some f):
 BL Tryz.prog 136 #[.agg #[I a.Lo,I a.Hi]] w (fun v w'=>Ext w w'∧(Fy .i64).R w' (ZZ FN [] Z w.heap.size []) v f):=by
 unfold FB at b;refine Ba (N:=9) Tryz.func136 rfl rfl (by simp) ?_;intro n g o;have e:=AO (i:=0) (v:=.agg #[I a.Lo,I a.Hi]) g rfl;clear g;have d:Hp FN [] w [] w:=Hp.start (BM.none w);refine Ae<|Aa<|we rfl (fun st=>B1 (v:=.agg #[I a.Lo,I a.Hi]) (cs:= #[I a.Lo,I a.Hi]) (ee st e) rfl) ?_;rintro _ w1 ⟨p,rfl,c⟩;have h:=d.nb c;have l:=d.BN c;refine wa rfl (v:=I 0) rfl<|Af<|Ab<|Ae<|Aa<|wd rfl (fun st=>Ak (ee st rfl) (JI _ _))<|wd rfl (fun st=>Au (v:=I a.Hi) AZ (ee st rfl) c.bk rfl)<|wd rfl (fun st=>Ak (ee st rfl) (JJ _ _))<|wd rfl (fun st=>Au (v:=I a.Lo) AZ (ee st rfl) c.bk rfl) ?_;replace b:=AU b;obtain⟨j,b⟩:=b;refine wd rfl (fun st=>Lj (ee st rfl) (ee st rfl) j) ?_;replace b:=AU b;obtain⟨k,b⟩:=b;refine wd rfl (fun st=>Br (ee st rfl) (ee st rfl) k)<|wa rfl (v:=I ((a.Hi-a.Lo)+1)) rfl<|Af<|Ab<|AH ?_;obtain rfl:=Option.some.inj b;refine AP rfl rfl ?_;exact⟨h.Bt,rfl⟩
theorem RE(n:Nat)(b:Int)(c:Int)(Z:Nat→Prop)(w:World)(h:Bool)(a:D5 n b c=some h):
 BL Tryz.prog 54 #[I b,I c] w (fun v w'=>Ext w w'∧BQ.R w' (ZZ FN [] Z w.heap.size []) v h):=by
 unfold D5 at a;refine Ba (N:=11) Tryz.func54 rfl rfl (by simp) ?_;intro o e p;have f:=AO (i:=0) (v:=I b) e rfl;have g:=AO (i:=1) (v:=I c) e rfl;clear e;have j:Hp FN [] w [] w:=Hp.start (BM.none w);refine Ae<|Aa<|wa rfl (v:=.bool false) rfl<|Af<|Ab<|Ae<|Aa<|wm rfl (v:=I b) f<|wm rfl (v:=I c) g ?_;replace a:=Ix a;obtain⟨l,a⟩:=a;refine wd rfl (fun st=>JV (k:=.u64) NG Tryz.underlying32 (ee st rfl) l) ?_;replace a:=Mr a;obtain⟨m,a⟩:=a;refine wd rfl (fun st=>Rt (ee st rfl) (ee st rfl) m) ?_;replace a:=M7 a;obtain⟨d,a⟩:=a;refine wd rfl (fun st=>Rp (ee st rfl) (ee st rfl) d.1 d.2)<|wd rfl (fun st=>B7 (ee st rfl) (ee st rfl))<|wa rfl (v:=.bool (((Fl b c)%2)==1)) rfl<|Af<|Ab<|AH ?_;obtain rfl:=Option.some.inj a;refine AP rfl rfl ?_;exact⟨j.Bt,rfl⟩
theorem UL(s:Nat)(a:Int)(b:Int)(c:Bool)(Z:Nat→Prop)(w:World)(m:Ag)(o:EI s a b c=some m):
 BL Tryz.prog 61 #[I a,I b,.bool c] w (fun v w'=>Ext w w'∧(Dr By).R w' (ZZ FN [] Z w.heap.size []) v m):=by
 unfold EI at o;refine Ba (N:=11) Tryz.func61 rfl rfl (by simp) ?_;intro t e u;have h:=AO (i:=0) (v:=I a) e rfl;have j:=AO (i:=1) (v:=I b) e rfl;have k:=AO (i:=2) (v:=.bool c) e rfl;clear e;have f:Hp FN [] w [] w:=Hp.start (BM.none w);refine Ae<|Aa<|we rfl (fun st=>BX (cs:= #[I 0,I 0,.bool false]) Hf rfl) ?_;rintro _ w1 ⟨x,rfl,d⟩;have p:=f.nb d;have r:=f.BN d;refine Af<|Ab<|Ae<|Aa<|wm rfl (v:=I a) h<|wm rfl (v:=I b) j<|wm rfl (v:=.bool c) k<|wd rfl (fun st=>CJ (vs:= #[(0,I a),(1,I b),(2,.bool c)]) (v:=.agg #[I a,I b,.bool c]) (I6 (ee st rfl) (ee st rfl) (ee st rfl)) (by kernel_rfl))<|Bh rfl rfl (fun st=>Bi (n:=3) (l:=[I a,I b,.bool c]) (B3:= #[I a,I b,.bool c]) (ee st rfl) (ee st rfl) Em d.bk rfl rfl (show 0+3≤3 by decide) (AR rfl) rfl) ?_;rintro _ w2 g;have q:=p.gr g.gr 0 rfl;refine Af<|Ab<|AH ?_;obtain rfl:=Option.some.inj o;refine Gn (v:=.agg #[I a,I b,.bool c]) rfl rfl (CX DW g.bk rfl rfl) ?_;exact⟨q.Bt,⟨_,rfl,rfl⟩⟩
theorem Vg(n:Nat)(a:Ar)(e:Int)(b:Option Addr)(c:Nat)(Z:Nat→Prop)(w:World)(g:Sl AQ w Z b c a.Ad)(o:Bool)(d:FM n a e=some o):
 BL Tryz.prog 96 #[.agg #[I a.Am,I a.An,I a.Ap,I a.AB,.slice b a.Ad.length c],I e] w (fun v w'=>Ext w w'∧BQ.R w' (ZZ FN [] Z w.heap.size []) v o):=by
 unfold FM at d;refine Ba (N:=11) Tryz.func96 rfl rfl (by simp) ?_;intro y j z;have k:=AO (i:=0) (v:=.agg #[I a.Am,I a.An,I a.Ap,I a.AB,.slice b a.Ad.length c]) j rfl;have l:=AO (i:=1) (v:=I e) j rfl;clear j;have h:Hp FN [] w [] w:=Hp.start (BM.none w);have m:=g.mv (Bf (Z:=Z) (L:=[]) w);refine Ae<|Aa<|we rfl (fun st=>B1 (v:=.agg #[I a.Am,I a.An,I a.Ap,I a.AB,.slice b a.Ad.length c]) (cs:= #[I a.Am,I a.An,I a.Ap,I a.AB,.slice b a.Ad.length c]) (ee st k) rfl) ?_;rintro _ w1 ⟨aA,rfl,f⟩;have p:=h.nb f;have x:=h.BN f;refine wa rfl (v:=.bool false) rfl<|Af<|Ab<|Ae<|Aa<|wm rfl (v:=I e) l<|wd rfl (fun st=>Ak (ee st rfl) (CZ _ _))<|wd rfl (fun st=>Au (v:=.slice b a.Ad.length c) Dn (ee st rfl) f.bk rfl)<|wd rfl (fun st=>BD Tryz.underlying73 (ee st rfl)) ?_;replace d:=AU d;obtain⟨q,d⟩:=d;refine wd rfl (fun st=>Lj (ee st rfl) (ee st rfl) q) ?_;replace d:=bind_some d;obtain⟨r,s,d⟩:=d;refine we rfl (fun st=>AN Jd (ee st rfl) (EU (ee st rfl) (ee st rfl) (ee st rfl)) (OP n e 0 ((a.Ad.length:Int)-1) ZA _ r s)) ?_;rintro _ aB ⟨t,rfl⟩;have u:=p.ext t;refine wa rfl (v:=.bool r) rfl<|Af<|Ab<|AH ?_;obtain rfl:=Option.some.inj d;refine AP rfl rfl ?_;exact⟨u.Bt,rfl⟩
theorem T0(s:Nat)(a:Bb)(d:Ag)(Z:Nat→Prop)(w:World)(p:Bool)(f:C8 s a d=some p):
 BL Tryz.prog 97 #[.agg #[I a.AD,I a.AM,I a.Aq,I a.BY,I a.Cr],.agg #[I d.On,I d.AF,.bool d.Aq]] w (fun v w'=>Ext w w'∧BQ.R w' (ZZ FN [] Z w.heap.size []) v p):=by
 unfold C8 at f;refine Ba (N:=14) Tryz.func97 rfl rfl (by simp) ?_;intro t m u;have n:=AO (i:=0) (v:=.agg #[I a.AD,I a.AM,I a.Aq,I a.BY,I a.Cr]) m rfl;have o:=AO (i:=1) (v:=.agg #[I d.On,I d.AF,.bool d.Aq]) m rfl;clear m;have j:Hp FN [] w [] w:=Hp.start (BM.none w);refine Ae<|Aa<|we rfl (fun st=>B1 (v:=.agg #[I a.AD,I a.AM,I a.Aq,I a.BY,I a.Cr]) (cs:= #[I a.AD,I a.AM,I a.Aq,I a.BY,I a.Cr]) (ee st n) rfl) ?_;rintro _ w1 ⟨x,rfl,g⟩;have k:=j.nb g;have q:=j.BN g;refine we rfl (fun st=>B1 (v:=.agg #[I d.On,I d.AF,.bool d.Aq]) (cs:= #[I d.On,I d.AF,.bool d.Aq]) (ee st o) rfl) ?_;rintro _ w2 ⟨y,rfl,e⟩;have l:=k.nb e;have r:=k.BN e;refine wa rfl (v:=.bool false) rfl<|Af<|Ab<|Ae<|Aa<|wd rfl (fun st=>Ak (ee st rfl) (Q8 _ _))<|wd rfl (fun st=>Au (v:=.bool d.Aq) HR (ee st rfl) e.bk rfl)<|wm rfl (v:=.bool d.Aq) rfl ?_;rcases Ao (d.Aq) with b|b
 ·replace f:=Ay f b;refine As rfl rfl (Ac rfl b) rfl (by decide) (fun st=>Ak (ee st rfl) (La _ _))<|As rfl rfl (Ac rfl b) rfl (by decide) (fun st=>Au (v:=I d.AF) AZ (ee st rfl) e.bk rfl)<|As rfl rfl (Ac rfl b) rfl (by decide) (fun st=>Ak (ee st rfl) (NH _ _)) ?_;have h:=(g.bk.ext e.gr);refine As rfl rfl (Ac rfl b) rfl (by decide) (fun st=>Au (v:=I a.Cr) AZ (ee st rfl) h rfl)<|As rfl rfl (Ac rfl b) rfl (by decide) (fun st=>E9 (ee st rfl) (ee st rfl))<|wd rfl (fun st=>AS (v:=.bool (decide (d.AF≤a.Cr))) (ee st rfl) b (ee st rfl))<|wa rfl (v:=.bool (decide (d.AF≤a.Cr))) rfl<|Af<|Ab<|AH ?_;obtain rfl:=Option.some.inj f;refine AP rfl rfl ?_;exact⟨l.Bt,rfl⟩
 ·replace f:=Az f b;refine Aj (c:=false) rfl rfl (Ac rfl b) (by decide) rfl (by decide)<|Aj (c:=false) rfl rfl (Ac rfl b) (by decide) rfl (by decide)<|Aj (c:=false) rfl rfl (Ac rfl b) (by decide) rfl (by decide)<|Aj (c:=false) rfl rfl (Ac rfl b) (by decide) rfl (by decide)<|Aj (c:=false) rfl rfl (Ac rfl b) (by decide) rfl (by decide)<|wd rfl (fun st=>Bu (v:=.bool false) (ee st rfl) b (ee st rfl))<|wa rfl (v:=.bool false) rfl<|Af<|Ab<|AH ?_;obtain rfl:=Option.some.inj f;refine AP rfl rfl ?_;exact⟨l.Bt,rfl⟩
theorem a107(n:Nat)(a:Bb)(b:Ag)(Z:Nat→Prop)(w:World)(o:Bool)(d:Ee n a b=some o):
 BL Tryz.prog 107 #[.agg #[I a.AD,I a.AM,I a.Aq,I a.BY,I a.Cr],.agg #[I b.On,I b.AF,.bool b.Aq]] w (fun v w'=>Ext w w'∧BQ.R w' (ZZ FN [] Z w.heap.size []) v o):=by
 unfold Ee at d;refine Ba (N:=9) Tryz.func107 rfl rfl (by simp) ?_;intro y j z;have k:=AO (i:=0) (v:=.agg #[I a.AD,I a.AM,I a.Aq,I a.BY,I a.Cr]) j rfl;have m:=AO (i:=1) (v:=.agg #[I b.On,I b.AF,.bool b.Aq]) j rfl;clear j;have g:Hp FN [] w [] w:=Hp.start (BM.none w);refine Ae<|Aa<|we rfl (fun st=>B1 (v:=.agg #[I a.AD,I a.AM,I a.Aq,I a.BY,I a.Cr]) (cs:= #[I a.AD,I a.AM,I a.Aq,I a.BY,I a.Cr]) (ee st k) rfl) ?_;rintro _ w1 ⟨aA,rfl,e⟩;have h:=g.nb e;have u:=g.BN e;refine we rfl (fun st=>B1 (v:=.agg #[I b.On,I b.AF,.bool b.Aq]) (cs:= #[I b.On,I b.AF,.bool b.Aq]) (ee st m) rfl) ?_;rintro _ w2 ⟨aB,rfl,c⟩;have p:=h.nb c;have x:=h.BN c;refine wa rfl (v:=.bool false) rfl<|Af<|Ab<|Ae<|Aa ?_;have f:=(e.bk.ext c.gr);refine wd rfl (fun st=>Bd (l:=[I a.AD,I a.AM,I a.Aq,I a.BY,I a.Cr]) Hl (ee st rfl) f rfl rfl)<|wd rfl (fun st=>Bd (l:=[I b.On,I b.AF,.bool b.Aq]) DW (ee st rfl) c.bk rfl rfl) ?_;replace d:=bind_some d;obtain⟨q,r,d⟩:=d;refine we rfl (fun st=>AN NI (ee st rfl) (Er (ee st rfl) (ee st rfl)) (T0 n a b ZA _ q r)) ?_;rintro _ aC ⟨s,rfl⟩;have t:=p.ext s;refine wd rfl (fun st=>Df (ee st rfl))<|wa rfl (v:=.bool !q) rfl<|Af<|Ab<|AH ?_;obtain rfl:=Option.some.inj d;refine AP rfl rfl ?_;exact⟨t.Bt,rfl⟩
end Go.Proofs.YtkljfdkmjdjpfaaGreat
end
section
set_option linter.unusedVariables false
set_option linter.unusedSimpArgs false
namespace Go.Proofs.YtkljfdkmjdjpfaaGreat
open Go.RowKit Go.WideShapes
set_option maxRecDepth 20000
open HF
attribute [local irreducible] BJ WL CC CW LV BL Ej DA One Bm
theorem UM(aW:Nat)(b:Ar)(z:Int)(h:Option Addr)(j:Nat)(Z:Nat→Prop)(w:World)(cA:Sl AQ w Z h j b.Ad)(c8:Bool)(a:DV aW b z=some c8):
 BL Tryz.prog 95 #[.agg #[I b.Am,I b.An,I b.Ap,I b.AB,.slice h b.Ad.length j],I z] w (fun v w'=>Ext w w'∧BQ.R w' (ZZ FN [] Z w.heap.size []) v c8):=by
 unfold DV at a;refine Ba (N:=46) Tryz.func95 rfl rfl (by simp) ?_;intro dV cL dW;have cM:=AO (i:=0) (v:=.agg #[I b.Am,I b.An,I b.Ap,I b.AB,.slice h b.Ad.length j]) cL rfl;have cN:=AO (i:=1) (v:=I z) cL rfl;clear cL;have cI:Hp FN [] w [] w:=Hp.start (BM.none w);have bM:=cA.mv (Bf (Z:=Z) (L:=[]) w);refine Ae<|Aa<|we rfl (fun st=>B1 (v:=.agg #[I b.Am,I b.An,I b.Ap,I b.AB,.slice h b.Ad.length j]) (cs:= #[I b.Am,I b.An,I b.Ap,I b.AB,.slice h b.Ad.length j]) (ee st cM) rfl) ?_;rintro _ w1 ⟨m,rfl,bF⟩;have c9:=cI.nb bF;have dO:=cI.BN bF;refine wa rfl (v:=.bool false) rfl<|Af<|Ab<|Ae<|Aa<|wa rfl (v:=I 0) rfl<|Af<|Ab<|Ae<|Ae<|Aa<|wa rfl (v:=I 0) rfl<|Af<|Ab<|A5 ?_;replace a:=bind_some a;obtain⟨z2,aX,a⟩:=a;refine Cf (fun aZ d o=>(aZ=.ret∧∃aI,z2=.inl aI∧d.tmps.size=46∧d.defers=(X0).ds∧sl d 4=.bool aI∧Hp FN [] w [some m] o)∨(aZ=.exit 0∧∃aI,z2=.inr aI∧d.tmps.size=46∧d.defers=(X0).ds∧sl d 2=pt m 0∧sl d 5=I aI∧Hp FN [] w [some m] o∧Bk o m 63 #[I b.Am,I b.An,I b.Ap,I b.AB,.slice h b.Ad.length j]∧Sl AQ o (ZZ FN [] Z w.heap.size [some m]) h j b.Ad)) ?dA ?dB
 case dA=>
  clear a;refine Ce (fun(aG:Nat) (d:Act) (o:World)=>∃n,∃e,CB aW b z aG n e=some z2∧d.tmps.size=46∧d.defers=(X0).ds∧sl d 1=I z∧sl d 2=pt m 0∧sl d 5=I n∧sl d 6=I e∧Hp FN [] w [some m] o∧Bk o m 63 #[I b.Am,I b.An,I b.Ap,I b.AB,.slice h b.Ad.length j]∧Sl AQ o (ZZ FN [] Z w.heap.size [some m]) h j b.Ad) aW ?dC ?dD
  case dC=>
   intro st;have bN:=(bM.mv (Ax bF));exact⟨(0:Int),(0:Int),aX,qz st,qd st,sp st 1 cN,sp st 2 rfl,sp st 5 rfl,sp st 6 rfl,c9,bF.bk,bN⟩
  case dD=>
   rintro(_|aG) dX dY ⟨n,e,aX,cO,cP,a0,aQ,a2,aC,cJ,aJ,aH⟩
   ·exact absurd (show none=some _ from aX) (by simp)
   rw[CB.eq_2] at aX;have a:=aX;clear aX;refine BZ (N:=46) cO cP<|Ae<|Ae<|Aa<|wm rfl (v:=I e) aC<|wd rfl (fun st=>Ak (ee st aQ) (FY _ _))<|wd rfl (fun st=>Au (v:=I b.Am) AZ (ee st rfl) aJ rfl)<|wd rfl (fun st=>E9 (ee st rfl) (ee st rfl))<|Af<|Ab ?_;rcases Ao (decide (e≤b.Am)) with a6|a6
   ·replace a:=Ay a a6;refine Av rfl a6<|AT<|Ab<|Ae<|A5<|Ae<|Ae<|Aa<|wm rfl (v:=I z) a0<|wm rfl (v:=I e) aC ?_;replace a:=bind_some a;obtain⟨dE,dF,a⟩:=a;refine we rfl (fun st=>AN LM (ee st rfl) (Er (ee st rfl) (ee st rfl)) (RE aW z e ZA _ dE dF)) ?_;rintro _ d5 ⟨a7,rfl⟩;have cK:=cJ.ext a7;refine Af<|Ab ?_;rcases Ao (dE) with a8|a8
    ·replace a:=Ay a a8;refine Av rfl a8<|Aa<|wm rfl (v:=I n) a2 ?_;replace a:=AU a;obtain⟨dG,a⟩:=a;refine wd rfl (fun st=>Br (ee st rfl) (ee st rfl) dG)<|wa rfl (v:=I (n+1)) rfl<|Af<|Ab<|Ae<|Aa<|wa rfl (v:=.bool true) rfl<|Af<|Ab<|Ae<|Ae<|Aa<|wm rfl (v:=I e) aC<|wa rfl (v:=I e) rfl<|Af<|Ab<|A5 ?_;replace a:=bind_some a;obtain⟨cB,aY,a⟩:=a;refine Cf (fun aZ d o=>(aZ=.exit 2∧d.tmps.size=46∧d.defers=(X0).ds∧sl d 1=I z∧sl d 2=pt m 0∧sl d 5=I (n+1)∧sl d 6=I e∧sl d 7=.bool cB∧Hp FN [] w [some m] o∧Bk o m 63 #[I b.Am,I b.An,I b.Ap,I b.AB,.slice h b.Ad.length j]∧Sl AQ o (ZZ FN [] Z w.heap.size [some m]) h j b.Ad)) ?dH ?dI
     case dH=>
      clear a;refine Ce (fun(aG:Nat) (d:Act) (o:World)=>∃aN,∃g,Cv aW b z e aG aN g=some cB∧d.tmps.size=46∧d.defers=(X0).ds∧sl d 1=I z∧sl d 2=pt m 0∧sl d 5=I (n+1)∧sl d 6=I e∧sl d 7=.bool aN∧sl d 8=I g∧Hp FN [] w [some m] o∧Bk o m 63 #[I b.Am,I b.An,I b.Ap,I b.AB,.slice h b.Ad.length j]∧Sl AQ o (ZZ FN [] Z w.heap.size [some m]) h j b.Ad) aW ?dJ ?dK
      case dJ=>
       intro st;have a3:=(aJ.ext a7);have aO:=(aH.mv (Ai a7));exact⟨true,e,aY,qz st,qd st,sp st 1 a0,sp st 2 aQ,sp st 5 rfl,sp st 6 aC,sp st 7 rfl,sp st 8 rfl,cK,a3,aO⟩
      case dK=>
       rintro(_|aG) dZ d0 ⟨aN,g,aY,cQ,cR,aK,aD,aR,aL,bG,aE,bH,t,y⟩
       ·exact absurd (show none=some _ from aY) (by simp)
       rw[Cv.eq_2] at aY;have a:=aY;clear aY;refine BZ (N:=46) cQ cR<|Ae<|Ae<|Aa<|wm rfl (v:=I g) aE<|wm rfl (v:=I e) aL<|wd rfl (fun st=>Ak (ee st aD) (KD _ _))<|wd rfl (fun st=>Au (v:=I b.AB) AZ (ee st rfl) t rfl) ?_;replace a:=AU a;obtain⟨dL,a⟩:=a;refine wd rfl (fun st=>Br (ee st rfl) (ee st rfl) dL)<|wd rfl (fun st=>E9 (ee st rfl) (ee st rfl))<|Af<|Ab ?_;rcases Ao (decide (g≤(e+b.AB))) with aS|aS
       ·replace a:=Ay a aS;refine Av rfl aS<|AT<|Ab<|Ae<|A5<|Aa<|wm rfl (v:=.bool aN) bG<|wm rfl (v:=.bool aN) rfl ?_;rcases Ao (aN) with k|k
        ·replace a:=Ay a k;refine As rfl rfl (Ac rfl k) rfl (by decide) (fun st=>AV (v:=I g) (ee st aE))<|As rfl rfl (Ac rfl k) rfl (by decide) (fun st=>Ak (ee st aD) (FY _ _))<|As rfl rfl (Ac rfl k) rfl (by decide) (fun st=>Au (v:=I b.Am) AZ (ee st rfl) t rfl)<|As rfl rfl (Ac rfl k) rfl (by decide) (fun st=>E9 (ee st rfl) (ee st rfl))<|wd rfl (fun st=>AS (v:=.bool (decide (g≤b.Am))) (ee st rfl) k (ee st rfl))<|wm rfl (v:=.bool (decide (g≤b.Am))) rfl ?_;rcases Ao (decide (g≤b.Am)) with q|q
         ·replace a:=Ay a q;refine As rfl rfl (Ac rfl q) rfl (by decide) (fun st=>AV (v:=I z) (ee st aK))<|As rfl rfl (Ac rfl q) rfl (by decide) (fun st=>AV (v:=I g) (ee st aE)) ?_;replace a:=bind_some a;obtain⟨bI,cS,a⟩:=a;refine Ct rfl rfl (Ac rfl q) rfl (by decide) (fun st=>AN LM (ee st rfl) (Er (ee st rfl) (ee st rfl)) (RE aW z g ZA _ bI cS)) ?_;rintro _ d1 ⟨bB,rfl⟩;have dM:=bH.ext bB;refine wd rfl (fun st=>AS (v:=.bool bI) (ee st rfl) q (ee st rfl))<|wa rfl (v:=.bool bI) rfl<|Af<|Be<|Ab<|Aa<|wm rfl (v:=I g) aE ?_;replace a:=AU a;obtain⟨cT,a⟩:=a;refine wd rfl (fun st=>Br (ee st rfl) (ee st rfl) cT)<|wa rfl (v:=I (g+1)) rfl<|Af ?_;have cC:=(t.ext bB);have bO:=(y.mv (Ai bB));refine Bl aG (Nat.lt_succ_self _) (fun st=>?_);exact⟨bI,(g+1),a,qz st,qd st,sp st 1 aK,sp st 2 aD,sp st 5 aR,sp st 6 aL,sp st 7 rfl,sp st 8 rfl,dM,cC,bO⟩
         ·replace a:=Az a q;refine Aj (c:=false) rfl rfl (Ac rfl q) (by decide) rfl (by decide)<|Aj (c:=false) rfl rfl (Ac rfl q) (by decide) rfl (by decide)<|Aj (c:=false) rfl rfl (Ac rfl q) (by decide) rfl (by decide)<|wd rfl (fun st=>Bu (v:=.bool false) (ee st rfl) q (ee st rfl))<|wa rfl (v:=.bool false) rfl<|Af<|Be<|Ab<|Aa<|wm rfl (v:=I g) aE ?_;replace a:=AU a;obtain⟨cU,a⟩:=a;refine wd rfl (fun st=>Br (ee st rfl) (ee st rfl) cU)<|wa rfl (v:=I (g+1)) rfl<|Af ?_;refine Bl aG (Nat.lt_succ_self _) (fun st=>?_);exact⟨false,(g+1),a,qz st,qd st,sp st 1 aK,sp st 2 aD,sp st 5 aR,sp st 6 aL,sp st 7 rfl,sp st 8 rfl,bH,t,y⟩
        ·replace a:=Az a k;refine Aj (c:=false) rfl rfl (Ac rfl k) (by decide) rfl (by decide)<|Aj (c:=false) rfl rfl (Ac rfl k) (by decide) rfl (by decide)<|Aj (c:=false) rfl rfl (Ac rfl k) (by decide) rfl (by decide)<|Aj (c:=false) rfl rfl (Ac rfl k) (by decide) rfl (by decide)<|wd rfl (fun st=>Bu (v:=.bool false) (ee st rfl) k (ee st rfl))<|wm rfl (v:=.bool false) rfl<|Aj rfl rfl rfl (by decide) rfl (by decide)<|Aj rfl rfl rfl (by decide) rfl (by decide)<|Aj rfl rfl rfl (by decide) rfl (by decide)<|wd rfl (fun st=>Bu (v:=.bool false) (ee st rfl) rfl (ee st rfl))<|wa rfl (v:=.bool false) rfl<|Af<|Be<|Ab<|Aa<|wm rfl (v:=I g) aE ?_;replace a:=AU a;obtain⟨cV,a⟩:=a;refine wd rfl (fun st=>Br (ee st rfl) (ee st rfl) cV)<|wa rfl (v:=I (g+1)) rfl<|Af ?_;refine Bl aG (Nat.lt_succ_self _) (fun st=>?_);exact⟨false,(g+1),a,qz st,qd st,sp st 1 aK,sp st 2 aD,sp st 5 aR,sp st 6 aL,sp st 7 rfl,sp st 8 rfl,bH,t,y⟩
       ·replace a:=Az a aS;refine AE rfl aS<|B2<|AI<|AI ?_;obtain rfl:=Option.some.inj a;refine BR (fun st=>?_);exact⟨rfl,qz st,qd st,sp st 1 aK,sp st 2 aD,sp st 5 aR,sp st 6 aL,sp st 7 bG,bH,t,y⟩
     case dI=>
      rintro aZ dQ d2 (⟨rfl,cD,cE,bW,bX,bY,bZ,b1,b2,b3,bC⟩);refine B9 (X:=X0) (N:=46) cD cE<|Bo<|Ab<|Ae<|Aa<|wm rfl (v:=.bool cB) b1<|Af<|Ab ?_;rcases Ao (cB) with aT|aT
      ·replace a:=Ay a aT;refine Av rfl aT<|Ae<|Aa<|wa rfl (v:=.bool false) rfl<|Af<|Ab<|AH<|AY<|Aw<|Aw ?_;obtain rfl:=Option.some.inj a;refine BR (fun st=>?_);exact .inl ⟨rfl,false,rfl,qz st,qd st,sp st 4 rfl,b2⟩
      ·replace a:=Az a aT;refine AE rfl aT<|AT<|Be<|Ab<|Aa<|wm rfl (v:=I e) bZ ?_;replace a:=AU a;obtain⟨cW,a⟩:=a;refine wd rfl (fun st=>Br (ee st rfl) (ee st rfl) cW)<|wa rfl (v:=I (e+1)) rfl<|Af ?_;refine Bl aG (Nat.lt_succ_self _) (fun st=>?_);exact⟨(n+1),(e+1),a,qz st,qd st,sp st 1 bW,sp st 2 bX,sp st 5 bY,sp st 6 rfl,b2,b3,bC⟩
    ·replace a:=Az a a8;refine AE rfl a8<|AT<|Ab<|Ae<|Aa<|wa rfl (v:=.bool true) rfl<|Af<|Ab<|Ae<|Ae<|Aa<|wm rfl (v:=I e) aC<|wa rfl (v:=I e) rfl<|Af<|Ab<|A5 ?_;replace a:=bind_some a;obtain⟨z20,aP,a⟩:=a;refine Cf (fun aZ d o=>(aZ=.exit 2∧d.tmps.size=46∧d.defers=(X0).ds∧sl d 1=I z∧sl d 2=pt m 0∧sl d 5=I n∧sl d 6=I e∧sl d 7=.bool z20∧Hp FN [] w [some m] o∧Bk o m 63 #[I b.Am,I b.An,I b.Ap,I b.AB,.slice h b.Ad.length j]∧Sl AQ o (ZZ FN [] Z w.heap.size [some m]) h j b.Ad)) ?cX ?cY
     case cX=>
      clear a;refine Ce (fun(aG:Nat) (d:Act) (o:World)=>∃aF,∃f,Cq aW b z e aG aF f=some z20∧d.tmps.size=46∧d.defers=(X0).ds∧sl d 1=I z∧sl d 2=pt m 0∧sl d 5=I n∧sl d 6=I e∧sl d 7=.bool aF∧sl d 8=I f∧Hp FN [] w [some m] o∧Bk o m 63 #[I b.Am,I b.An,I b.Ap,I b.AB,.slice h b.Ad.length j]∧Sl AQ o (ZZ FN [] Z w.heap.size [some m]) h j b.Ad) aW ?cZ ?c0
      case cZ=>
       intro st;have a3:=(aJ.ext a7);have aO:=(aH.mv (Ai a7));exact⟨true,e,aP,qz st,qd st,sp st 1 a0,sp st 2 aQ,sp st 5 a2,sp st 6 aC,sp st 7 rfl,sp st 8 rfl,cK,a3,aO⟩
      case c0=>
       rintro(_|aG) dR dS ⟨aF,f,aP,cF,cG,aA,u,aM,aB,a9,x,bJ,p,s⟩
       ·exact absurd (show none=some _ from aP) (by simp)
       rw[Cq.eq_2] at aP;have a:=aP;clear aP;refine BZ (N:=46) cF cG<|Ae<|Ae<|Aa<|wm rfl (v:=I f) x<|wm rfl (v:=I e) aB<|wd rfl (fun st=>Ak (ee st u) (KD _ _))<|wd rfl (fun st=>Au (v:=I b.AB) AZ (ee st rfl) p rfl) ?_;replace a:=AU a;obtain⟨c1,a⟩:=a;refine wd rfl (fun st=>Br (ee st rfl) (ee st rfl) c1)<|wd rfl (fun st=>E9 (ee st rfl) (ee st rfl))<|Af<|Ab ?_;rcases Ao (decide (f≤(e+b.AB))) with aU|aU
       ·replace a:=Ay a aU;refine Av rfl aU<|AT<|Ab<|Ae<|A5<|Aa<|wm rfl (v:=.bool aF) a9<|wm rfl (v:=.bool aF) rfl ?_;rcases Ao (aF) with l|l
        ·replace a:=Ay a l;refine As rfl rfl (Ac rfl l) rfl (by decide) (fun st=>AV (v:=I f) (ee st x))<|As rfl rfl (Ac rfl l) rfl (by decide) (fun st=>Ak (ee st u) (FY _ _))<|As rfl rfl (Ac rfl l) rfl (by decide) (fun st=>Au (v:=I b.Am) AZ (ee st rfl) p rfl)<|As rfl rfl (Ac rfl l) rfl (by decide) (fun st=>E9 (ee st rfl) (ee st rfl))<|wd rfl (fun st=>AS (v:=.bool (decide (f≤b.Am))) (ee st rfl) l (ee st rfl))<|wm rfl (v:=.bool (decide (f≤b.Am))) rfl ?_;rcases Ao (decide (f≤b.Am)) with r|r
         ·replace a:=Ay a r;refine As rfl rfl (Ac rfl r) rfl (by decide) (fun st=>AV (v:=I z) (ee st aA))<|As rfl rfl (Ac rfl r) rfl (by decide) (fun st=>AV (v:=I f) (ee st x)) ?_;replace a:=bind_some a;obtain⟨bK,c2,a⟩:=a;refine Ct rfl rfl (Ac rfl r) rfl (by decide) (fun st=>AN LM (ee st rfl) (Er (ee st rfl) (ee st rfl)) (RE aW z f ZA _ bK c2)) ?_;rintro _ d3 ⟨bD,rfl⟩;have dN:=bJ.ext bD;refine wd rfl (fun st=>AS (v:=.bool bK) (ee st rfl) r (ee st rfl))<|wa rfl (v:=.bool bK) rfl<|Af<|Be<|Ab<|Aa<|wm rfl (v:=I f) x ?_;replace a:=AU a;obtain⟨c3,a⟩:=a;refine wd rfl (fun st=>Br (ee st rfl) (ee st rfl) c3)<|wa rfl (v:=I (f+1)) rfl<|Af ?_;have cH:=(p.ext bD);have bP:=(s.mv (Ai bD));refine Bl aG (Nat.lt_succ_self _) (fun st=>?_);exact⟨bK,(f+1),a,qz st,qd st,sp st 1 aA,sp st 2 u,sp st 5 aM,sp st 6 aB,sp st 7 rfl,sp st 8 rfl,dN,cH,bP⟩
         ·replace a:=Az a r;refine Aj (c:=false) rfl rfl (Ac rfl r) (by decide) rfl (by decide)<|Aj (c:=false) rfl rfl (Ac rfl r) (by decide) rfl (by decide)<|Aj (c:=false) rfl rfl (Ac rfl r) (by decide) rfl (by decide)<|wd rfl (fun st=>Bu (v:=.bool false) (ee st rfl) r (ee st rfl))<|wa rfl (v:=.bool false) rfl<|Af<|Be<|Ab<|Aa<|wm rfl (v:=I f) x ?_;replace a:=AU a;obtain⟨c4,a⟩:=a;refine wd rfl (fun st=>Br (ee st rfl) (ee st rfl) c4)<|wa rfl (v:=I (f+1)) rfl<|Af ?_;refine Bl aG (Nat.lt_succ_self _) (fun st=>?_);exact⟨false,(f+1),a,qz st,qd st,sp st 1 aA,sp st 2 u,sp st 5 aM,sp st 6 aB,sp st 7 rfl,sp st 8 rfl,bJ,p,s⟩
        ·replace a:=Az a l;refine Aj (c:=false) rfl rfl (Ac rfl l) (by decide) rfl (by decide)<|Aj (c:=false) rfl rfl (Ac rfl l) (by decide) rfl (by decide)<|Aj (c:=false) rfl rfl (Ac rfl l) (by decide) rfl (by decide)<|Aj (c:=false) rfl rfl (Ac rfl l) (by decide) rfl (by decide)<|wd rfl (fun st=>Bu (v:=.bool false) (ee st rfl) l (ee st rfl))<|wm rfl (v:=.bool false) rfl<|Aj rfl rfl rfl (by decide) rfl (by decide)<|Aj rfl rfl rfl (by decide) rfl (by decide)<|Aj rfl rfl rfl (by decide) rfl (by decide)<|wd rfl (fun st=>Bu (v:=.bool false) (ee st rfl) rfl (ee st rfl))<|wa rfl (v:=.bool false) rfl<|Af<|Be<|Ab<|Aa<|wm rfl (v:=I f) x ?_;replace a:=AU a;obtain⟨c5,a⟩:=a;refine wd rfl (fun st=>Br (ee st rfl) (ee st rfl) c5)<|wa rfl (v:=I (f+1)) rfl<|Af ?_;refine Bl aG (Nat.lt_succ_self _) (fun st=>?_);exact⟨false,(f+1),a,qz st,qd st,sp st 1 aA,sp st 2 u,sp st 5 aM,sp st 6 aB,sp st 7 rfl,sp st 8 rfl,bJ,p,s⟩
       ·replace a:=Az a aU;refine AE rfl aU<|B2<|AI<|AI ?_;obtain rfl:=Option.some.inj a;refine BR (fun st=>?_);exact⟨rfl,qz st,qd st,sp st 1 aA,sp st 2 u,sp st 5 aM,sp st 6 aB,sp st 7 a9,bJ,p,s⟩
     case cY=>
      rintro aZ dP dT (⟨rfl,b4,b5,bQ,bR,bS,bT,bU,bL,bV,bA⟩);refine B9 (X:=X0) (N:=46) b4 b5<|Bo<|Ab<|Ae<|Aa<|wm rfl (v:=.bool z20) bU<|Af<|Ab ?_;rcases Ao (z20) with aV|aV
      ·replace a:=Ay a aV;refine Av rfl aV<|Ae<|Aa<|wa rfl (v:=.bool false) rfl<|Af<|Ab<|AH<|AY<|Aw<|Aw ?_;obtain rfl:=Option.some.inj a;refine BR (fun st=>?_);exact .inl ⟨rfl,false,rfl,qz st,qd st,sp st 4 rfl,bL⟩
      ·replace a:=Az a aV;refine AE rfl aV<|AT<|Be<|Ab<|Aa<|wm rfl (v:=I e) bT ?_;replace a:=AU a;obtain⟨c6,a⟩:=a;refine wd rfl (fun st=>Br (ee st rfl) (ee st rfl) c6)<|wa rfl (v:=I (e+1)) rfl<|Af ?_;refine Bl aG (Nat.lt_succ_self _) (fun st=>?_);exact⟨n,(e+1),a,qz st,qd st,sp st 1 bQ,sp st 2 bR,sp st 5 bS,sp st 6 rfl,bL,bV,bA⟩
   ·replace a:=Az a a6;refine AE rfl a6<|B2<|AI<|AI ?_;obtain rfl:=Option.some.inj a;refine BR (fun st=>?_);exact .inr ⟨rfl,n,rfl,qz st,qd st,sp st 2 aQ,sp st 5 a2,cJ,aJ,aH⟩
 case dB=>
  rintro aZ dU d4 (⟨rfl,aI,rfl,a4,a5,b6,bE⟩|⟨rfl,aI,rfl,a4,a5,b7,b8,bE,b9,c7⟩)
  ·skip
   replace a:=D9 a;refine B9 (X:=X0) (N:=46) a4 a5<|AY<|Aw ?_;obtain rfl:=Option.some.inj a;refine AP rfl b6 ?_;exact⟨bE.Bt,rfl⟩
  ·skip
   replace a:=Ea a;refine B9 (X:=X0) (N:=46) a4 a5<|Bo<|Ab<|Ae<|Aa<|wm rfl (v:=I aI) b8<|wd rfl (fun st=>Ak (ee st b7) (Mb _ _))<|wd rfl (fun st=>Au (v:=I b.Ap) AZ (ee st rfl) b9 rfl)<|wd rfl (fun st=>E9 (ee st rfl) (ee st rfl))<|wa rfl (v:=.bool (decide (aI≤b.Ap))) rfl<|Af<|Ab<|AH ?_;obtain rfl:=Option.some.inj a;refine AP rfl rfl ?_;exact⟨bE.Bt,rfl⟩
theorem UY(aY:Nat)(c:Ar)(h:Option Addr)(j:Nat)(Z:Nat→Prop)(w:World)(aZ:Sl AQ w Z h j c.Ad)(bH:(List Int))(a:Ew aY c=some bH):
 BL Tryz.prog 100 #[.agg #[I c.Am,I c.An,I c.Ap,I c.AB,.slice h c.Ad.length j]] w (fun v w'=>Ext w w'∧(Fv (AG .i64)).R w' (ZZ FN [] Z w.heap.size []) v bH):=by
 unfold Ew at a;refine Ba (N:=22) Tryz.func100 rfl rfl (by simp) ?_;intro b4 bI b5;have a9:=AO (i:=0) (v:=.agg #[I c.Am,I c.An,I c.Ap,I c.AB,.slice h c.Ad.length j]) bI rfl;clear bI;have a7:Hp FN [] w [] w:=Hp.start (BM.none w);have aM:=aZ.mv (Bf (Z:=Z) (L:=[]) w);refine Ae<|Aa<|we rfl (fun st=>B1 (v:=.agg #[I c.Am,I c.An,I c.Ap,I c.AB,.slice h c.Ad.length j]) (cs:= #[I c.Am,I c.An,I c.Ap,I c.AB,.slice h c.Ad.length j]) (ee st a9) rfl) ?_;rintro _ w1 ⟨o,rfl,aK⟩;have bJ:=a7.nb aK;have b1:=a7.BN aK;refine wa rfl (v:=.slice none 0 0) rfl<|Af<|Ab<|Ae<|Aa<|wa rfl (v:=.slice none 0 0) rfl<|Af<|Ab<|Ae<|Ae<|Aa<|wa rfl (v:=I 0) rfl<|Af<|Ab<|A5 ?_;have bK:Hp FN [] w [none,some o] w1:=bJ.nil;have bL:AJ (AG .i64) 3 w.heap.size w1 (ZZ FN [] Z w.heap.size [none,some o]) none 0 ([]:List Int):=AJ.nil _ _ _ _ _;replace a:=bind_some a;obtain⟨z2,aC,a⟩:=a;refine Cf (fun bM s aI=>(bM=.exit 0∧∃f m,s.tmps.size=22∧s.defers=(X0).ds∧sl s 3=.slice f z2.length m∧Hp FN [] w [ob f,some o] aI∧AJ (AG .i64) 3 w.heap.size aI (ZZ FN [] Z w.heap.size [ob f,some o]) f m z2)) ?bN ?bO
 case bN=>
  clear a;refine Ce (fun(a0:Nat) (s:Act) (aI:World)=>∃g,∃b,∃d n,CF aY c a0 g b=some z2∧s.tmps.size=22∧s.defers=(X0).ds∧sl s 1=pt o 0∧sl s 3=.slice d g.length n∧sl s 4=I b∧Hp FN [] w [ob d,some o] aI∧AJ (AG .i64) 3 w.heap.size aI (ZZ FN [] Z w.heap.size [ob d,some o]) d n g∧Bk aI o 63 #[I c.Am,I c.An,I c.Ap,I c.AB,.slice h c.Ad.length j]∧Sl AQ aI (ZZ FN [] Z w.heap.size [ob d,some o]) h j c.Ad) aY ?bP ?bQ
  case bP=>
   intro st;have a2:=aK.bk;have aN:Sl AQ w1 (ZZ FN [] Z w.heap.size [none,some o]) h j c.Ad:=((aM.mv (Ax aK)).mv Co);exact⟨([]:List Int),(0:Int),none,0,aC,qz st,qd st,sp st 1 rfl,sp st 3 rfl,sp st 4 rfl,bK,bL,a2,aN⟩
  case bQ=>
   rintro(_|a0) b6 b7 ⟨g,b,d,n,aC,bA,bB,z,aD,t,a8,p,u,q⟩
   ·exact absurd (show none=some _ from aC) (by simp)
   rw[CF.eq_2] at aC;have a:=aC;clear aC;refine BZ (N:=22) bA bB<|Ae<|Ae<|Aa<|wm rfl (v:=I b) t<|wd rfl (fun st=>Ak (ee st z) (FY _ _))<|wd rfl (fun st=>Au (v:=I c.Am) AZ (ee st rfl) u rfl) ?_;replace a:=AU a;obtain⟨bR,a⟩:=a;refine wd rfl (fun st=>Br (ee st rfl) (ee st rfl) bR) ?_;replace a:=Ix a;obtain⟨bS,a⟩:=a;refine wd rfl (fun st=>JV (k:=.u64) NG Tryz.underlying32 (ee st rfl) bS) ?_;replace a:=HW a;obtain⟨bT,a⟩:=a;refine wd rfl (fun st=>Lu (ee st rfl) (ee st rfl) bT)<|wd rfl (fun st=>B8 (ee st rfl) (ee st rfl))<|Af<|Ab ?_;rcases Ao (decide (b<(E8 (1:Int) (c.Am+1)))) with aF|aF
   ·replace a:=Ay a aF;refine Av rfl aF<|AT<|Ab<|Ae<|A5<|Ae<|Aa<|wd rfl (fun st=>Bd (l:=[I c.Am,I c.An,I c.Ap,I c.AB,.slice h c.Ad.length j]) FE (ee st z) u rfl rfl)<|wm rfl (v:=I b) t ?_;replace a:=bind_some a;obtain⟨bU,bV,a⟩:=a;refine we rfl (fun st=>AN Qd (ee st rfl) (Er (ee st rfl) (ee st rfl)) (UM aY c b h j ZA _ q.all bU bV)) ?_;rintro _ b2 ⟨x,rfl⟩;have aS:=a8.ext x;refine Af<|Ab ?_;rcases Ao (bU) with aA|aA
    ·replace a:=Ay a aA;refine Av rfl aA<|Aa<|wm rfl (v:=.slice d g.length n) aD<|wm rfl (v:=I b) t<|we rfl (fun st=>BW (e:=3) (vs:= #[(0,I b)]) (cs:= #[I b]) (HU (ee st rfl)) (by kernel_rfl)) ?_;rintro _ bW ⟨aT,rfl,r⟩;have aG:=aS.nb r;have bX:=aS.BN r;have aO:AJ (AG .i64) 3 w.heap.size bW (ZZ FN [] Z w.heap.size [some aT,ob d,some o]) d n g:=((p.ext x (Ai x)).ext r.gr (Ax r));replace a:=Cz a;obtain⟨aU,a⟩:=a;refine we rfl (fun st=>J7 (ys:=[b]) Tryz.underlying23 H0 rfl rfl (by decide) (ee st rfl) rfl (ee st rfl) aO (LU (Bg:=[[I b]]) r.bk ⟨rfl,trivial⟩ rfl) (by have:=aU;simp only[maxLen];omega) (by have:=aU;omega) aG.sz (by simp)) ?_;rintro _ aH ⟨y,aL,rfl,aE,aJ,bC⟩;have bY:Hp FN [] w [some aT,ob y,some o] aH:=aG.row aE 1 rfl aJ;have bD:AJ (AG .i64) 3 w.heap.size aH (ZZ FN [] Z w.heap.size [some aT,ob y,some o]) y aL (g++[b]):=F9 bC (aG.E5 aE 1 rfl (fun k bE=>(aJ k bE).1));refine wa rfl (v:=.slice y ((g++[b]).length) aL) rfl<|Af<|Be<|Ab<|Aa<|wm rfl (v:=I b) t ?_;replace a:=AU a;obtain⟨bF,a⟩:=a;refine wd rfl (fun st=>Br (ee st rfl) (ee st rfl) bF)<|wa rfl (v:=I (b+1)) rfl<|Af ?_;have bZ:Hp FN [] w [ob y,some o] aH:=bY.erase 0;have aV:AJ (AG .i64) 3 w.heap.size aH (ZZ FN [] Z w.heap.size [ob y,some o]) y aL (g++[b]):=(bD.up (AW 0));have a3:=(((u.ext x).ext r.gr).gr aE (aG.ne 2 1 rfl rfl rfl));have aP:Sl AQ aH (ZZ FN [] Z w.heap.size [ob y,some o]) h j c.Ad:=((((q.mv (Ai x)).mv (Ax r)).mv (aG.E5 aE 1 rfl (fun k bE=>(aJ k bE).1))).mv (AW 0));refine Bl a0 (Nat.lt_succ_self _) (fun st=>?_);exact⟨(g++[b]),(b+1),y,aL,a,qz st,qd st,sp st 1 z,sp st 3 rfl,sp st 4 rfl,bZ,aV,a3,aP⟩
    ·replace a:=Az a aA;refine AE rfl aA<|AT<|Be<|Ab<|Aa<|wm rfl (v:=I b) t ?_;replace a:=AU a;obtain⟨bG,a⟩:=a;refine wd rfl (fun st=>Br (ee st rfl) (ee st rfl) bG)<|wa rfl (v:=I (b+1)) rfl<|Af ?_;have aQ:AJ (AG .i64) 3 w.heap.size b2 (ZZ FN [] Z w.heap.size [ob d,some o]) d n g:=(p.ext x (Ai x));have a4:=(u.ext x);have aR:=(q.mv (Ai x));refine Bl a0 (Nat.lt_succ_self _) (fun st=>?_);exact⟨g,(b+1),d,n,a,qz st,qd st,sp st 1 z,sp st 3 aD,sp st 4 rfl,aS,aQ,a4,aR⟩
   ·replace a:=Az a aF;refine AE rfl aF<|B2<|AI<|AI ?_;obtain rfl:=Option.some.inj a;refine BR (fun st=>?_);exact⟨rfl,d,n,qz st,qd st,sp st 3 aD,a8,p⟩
 case bO=>
  rintro bM b3 b8 (⟨rfl,f,m,a5,a6,aW,aX,aB⟩);refine B9 (X:=X0) (N:=22) a5 a6<|Bo<|Ab<|Ae<|Aa<|wm rfl (v:=.slice f z2.length m) aW<|wa rfl (v:=.slice f z2.length m) rfl<|Af<|Ab<|AH ?_;obtain rfl:=Option.some.inj a;refine AP rfl rfl ?_;exact⟨aX.Bt,⟨_,_,rfl,aX.Js (M:=[]) 0 rfl [] rfl trivial aB⟩⟩
theorem UN(aA:Nat)(a:Ar)(c:Option Addr)(d:Nat)(Z:Nat→Prop)(w:World)(aF:Sl AQ w Z c d a.Ad)(aV:Int)(b:DR aA a=some aV):
 BL Tryz.prog 81 #[.agg #[I a.Am,I a.An,I a.Ap,I a.AB,.slice c a.Ad.length d]] w (fun v w'=>Ext w w'∧(Fy .i64).R w' (ZZ FN [] Z w.heap.size []) v aV):=by
 unfold DR at b;refine Ba (N:=26) Tryz.func81 rfl rfl (by simp) ?_;intro bH aW bI;have aO:=AO (i:=0) (v:=.agg #[I a.Am,I a.An,I a.Ap,I a.AB,.slice c a.Ad.length d]) aW rfl;clear aW;have aL:Hp FN [] w [] w:=Hp.start (BM.none w);have u:=aF.mv (Bf (Z:=Z) (L:=[]) w);refine Ae<|Aa<|we rfl (fun st=>B1 (v:=.agg #[I a.Am,I a.An,I a.Ap,I a.AB,.slice c a.Ad.length d]) (cs:= #[I a.Am,I a.An,I a.Ap,I a.AB,.slice c a.Ad.length d]) (ee st aO) rfl) ?_;rintro _ w1 ⟨x,rfl,q⟩;have aM:=aL.nb q;have bD:=aL.BN q;refine wa rfl (v:=I 0) rfl<|Af<|Ab<|Ae<|Aa<|wd rfl (fun st=>Bd (l:=[I a.Am,I a.An,I a.Ap,I a.AB,.slice c a.Ad.length d]) FE (ee st rfl) q.bk rfl rfl) ?_;have m:=(u.mv (Ax q));replace b:=bind_some b;obtain⟨r2,aX,b⟩:=b;refine we rfl (fun st=>AN R9 (ee st rfl) (CK (ee st rfl)) (UY aA a c d (ZZ FN [] Z w.heap.size [some x]) _ m r2 aX)) ?_;rintro _ bM ⟨aB,⟨bE,bF,rfl,r⟩⟩;have aY:=aM.ext aB;have r:=r.mv (aM.Dz (Nat.le_refl _));refine wd rfl (fun st=>BD Tryz.underlying23 (ee st rfl))<|wa rfl (v:=I (r2.length:Int)) rfl<|Af<|Ab<|Ae<|Ae<|Aa<|wa rfl (v:=I 0) rfl<|Af<|Ab<|A5 ?_;replace b:=bind_some b;obtain⟨z4,n,b⟩:=b;refine Cf (fun aZ f aC=>(aZ=.exit 0∧f.tmps.size=26∧f.defers=(X0).ds∧sl f 3=I z4∧Hp FN [] w [some x] aC)) ?a0 ?a2
 case a0=>
  clear b;refine Ce (fun(aP:Nat) (f:Act) (aC:World)=>∃g,∃e,DJ aA a aP g e=some z4∧f.tmps.size=26∧f.defers=(X0).ds∧sl f 1=pt x 0∧sl f 3=I g∧sl f 4=I e∧Hp FN [] w [some x] aC∧Bk aC x 63 #[I a.Am,I a.An,I a.Ap,I a.AB,.slice c a.Ad.length d]∧Sl AQ aC (ZZ FN [] Z w.heap.size [some x]) c d a.Ad) aA ?a3 ?a4
  case a3=>
   intro st;have aG:=(q.bk.ext aB);have y:=(m.mv (Ai aB));exact⟨(r2.length:Int),(0:Int),n,qz st,qd st,sp st 1 rfl,sp st 3 rfl,sp st 4 rfl,aY,aG,y⟩
  case a4=>
   rintro(_|aP) bJ bK ⟨g,e,n,aQ,aR,o,t,p,aN,h,j⟩
   ·exact absurd (show none=some _ from n) (by simp)
   rw[DJ.eq_2] at n;have b:=n;clear n;refine BZ (N:=26) aQ aR<|Ae<|Ae<|Aa<|wm rfl (v:=I e) p<|wd rfl (fun st=>Ak (ee st o) (DX _ _))<|wd rfl (fun st=>Au (v:=.slice c a.Ad.length d) En (ee st rfl) h rfl)<|wd rfl (fun st=>BD Tryz.underlying61 (ee st rfl))<|wd rfl (fun st=>B8 (ee st rfl) (ee st rfl))<|Af<|Ab ?_;rcases Ao (decide (e<(a.Ad.length:Int))) with s|s
   ·replace b:=Ay b s;refine Av rfl s<|AT<|Ab<|Ae<|A5<|Aa<|wm rfl (v:=I g) t<|wd rfl (fun st=>Ak (ee st o) (DX _ _))<|wd rfl (fun st=>Au (v:=.slice c a.Ad.length d) En (ee st rfl) h rfl)<|wm rfl (v:=I e) p ?_;replace b:=A8 b;obtain⟨i6,aH,a5,a6,a7,b⟩:=b;obtain⟨bN,bO,_,a8,rfl,a9⟩:=Sl.elem j (by decide) a6;refine wd rfl (fun st=>Bp (k:=i6) Tryz.underlying61 F4 (ee st rfl) a8 (ee st rfl) a5 a7)<|wd rfl (fun st=>Ak (ee st rfl) (Lb _ _ _))<|wd rfl (fun st=>DH (l:=[I aH.AD,I aH.AM]) Oy (ee st rfl) a9 rfl rfl) ?_;replace b:=bind_some b;obtain⟨aS,bA,b⟩:=b;refine we rfl (fun st=>AN Sa (ee st rfl) (CK (ee st rfl)) (UX aA (⟨aH.AD,aH.AM⟩:CQ) ZA _ aS bA)) ?_;rintro _ bP ⟨aD,rfl⟩;have bB:=aN.ext aD;replace b:=AU b;obtain⟨bC,b⟩:=b;refine wd rfl (fun st=>Ro (ee st rfl) (ee st rfl) bC)<|wd rfl (fun st=>Rq (ee st rfl) (ee st rfl))<|wa rfl (v:=I (min (3000:Int) (g*aS))) rfl<|Af<|Be<|Ab<|Aa<|wm rfl (v:=I e) p ?_;replace b:=AU b;obtain⟨aT,b⟩:=b;refine wd rfl (fun st=>Br (ee st rfl) (ee st rfl) aT)<|wa rfl (v:=I (e+1)) rfl<|Af ?_;have aI:=(h.ext aD);have z:=(j.mv (Ai aD));refine Bl aP (Nat.lt_succ_self _) (fun st=>?_);exact⟨(min (3000:Int) (g*aS)),(e+1),b,qz st,qd st,sp st 1 o,sp st 3 rfl,sp st 4 rfl,bB,aI,z⟩
   ·replace b:=Az b s;refine AE rfl s<|B2<|AI<|AI ?_;obtain rfl:=Option.some.inj b;refine BR (fun st=>?_);exact⟨rfl,qz st,qd st,sp st 3 t,aN⟩
 case a2=>
  rintro aZ bG bL (⟨rfl,aJ,aK,aE,aU⟩);refine B9 (X:=X0) (N:=26) aJ aK<|Bo<|Ab<|Ae<|Aa<|wm rfl (v:=I z4) aE<|wa rfl (v:=I z4) rfl<|Af<|Ab<|AH ?_;obtain rfl:=Option.some.inj b;refine AP rfl rfl ?_;exact⟨aU.Bt,rfl⟩
theorem UO(aS:Nat)(b:Ar)(j:Option Addr)(m:Nat)(Z:Nat→Prop)(w:World)(bR:Sl AQ w Z j m b.Ad)(cY:Int)(a:Es aS b=some cY):
 BL Tryz.prog 80 #[.agg #[I b.Am,I b.An,I b.Ap,I b.AB,.slice j b.Ad.length m]] w (fun v w'=>Ext w w'∧(Fy .i64).R w' (ZZ FN [] Z w.heap.size []) v cY):=by
 unfold Es at a;refine Ba (N:=101) Tryz.func80 rfl rfl (by simp) ?_;intro dD cZ dE;have bZ:=AO (i:=0) (v:=.agg #[I b.Am,I b.An,I b.Ap,I b.AB,.slice j b.Ad.length m]) cZ rfl;clear cZ;have bV:Hp FN [] w [] w:=Hp.start (BM.none w);have a9:=bR.mv (Bf (Z:=Z) (L:=[]) w);refine Ae<|Aa<|we rfl (fun st=>B1 (v:=.agg #[I b.Am,I b.An,I b.Ap,I b.AB,.slice j b.Ad.length m]) (cs:= #[I b.Am,I b.An,I b.Ap,I b.AB,.slice j b.Ad.length m]) (ee st bZ) rfl) ?_;rintro _ w1 ⟨x,rfl,y⟩;have aO:=bV.nb y;have c8:=bV.BN y;refine wa rfl (v:=I 0) rfl<|Af<|Ab<|Ae<|Ae<|Aa<|wd rfl (fun st=>Ak (ee st rfl) (FY _ _))<|wd rfl (fun st=>Au (v:=I b.Am) AZ (ee st rfl) y.bk rfl)<|wd rfl (fun st=>FP (ee st rfl) (ee st rfl))<|wm rfl (v:=.bool (decide ((9:Int)<b.Am))) rfl ?_;rcases Ao (decide ((9:Int)<b.Am)) with z|z
 ·replace a:=Ay a z;refine Aj (c:=true) rfl rfl (Ac rfl z) (by decide) rfl (by decide)<|Aj (c:=true) rfl rfl (Ac rfl z) (by decide) rfl (by decide)<|Aj (c:=true) rfl rfl (Ac rfl z) (by decide) rfl (by decide)<|wd rfl (fun st=>AS (v:=.bool true) (ee st rfl) z (ee st rfl))<|wm rfl (v:=.bool true) rfl<|Aj rfl rfl rfl (by decide) rfl (by decide)<|Aj rfl rfl rfl (by decide) rfl (by decide)<|Aj rfl rfl rfl (by decide) rfl (by decide)<|Aj rfl rfl rfl (by decide) rfl (by decide)<|wd rfl (fun st=>AS (v:=.bool true) (ee st rfl) rfl (ee st rfl))<|Af<|Ab<|Av rfl rfl<|Ae<|Aa<|wa rfl (v:=I 3) rfl<|Af<|Ab<|AH<|Aw ?_;obtain rfl:=Option.some.inj a;refine AP rfl rfl ?_;exact⟨aO.Bt,rfl⟩
 ·replace a:=Az a z;refine As rfl rfl (Ac rfl z) rfl (by decide) (fun st=>Ak (ee st rfl) (KE _ _))<|As rfl rfl (Ac rfl z) rfl (by decide) (fun st=>Au (v:=I b.An) AZ (ee st rfl) y.bk rfl)<|As rfl rfl (Ac rfl z) rfl (by decide) (fun st=>FP (ee st rfl) (ee st rfl))<|wd rfl (fun st=>Bu (v:=.bool (decide ((2:Int)<b.An))) (ee st rfl) z (ee st rfl))<|wm rfl (v:=.bool (decide ((2:Int)<b.An))) rfl ?_;rcases Ao (decide ((2:Int)<b.An)) with s|s
  ·replace a:=Ay a s;refine Aj (c:=true) rfl rfl (Ac rfl s) (by decide) rfl (by decide)<|Aj (c:=true) rfl rfl (Ac rfl s) (by decide) rfl (by decide)<|Aj (c:=true) rfl rfl (Ac rfl s) (by decide) rfl (by decide)<|Aj (c:=true) rfl rfl (Ac rfl s) (by decide) rfl (by decide)<|wd rfl (fun st=>AS (v:=.bool true) (ee st rfl) s (ee st rfl))<|Af<|Ab<|Av rfl rfl<|Ae<|Aa<|wa rfl (v:=I 3) rfl<|Af<|Ab<|AH<|Aw ?_;obtain rfl:=Option.some.inj a;refine AP rfl rfl ?_;exact⟨aO.Bt,rfl⟩
  ·replace a:=Az a s;refine As rfl rfl (Ac rfl s) rfl (by decide) (fun st=>Ak (ee st rfl) (DX _ _))<|As rfl rfl (Ac rfl s) rfl (by decide) (fun st=>Au (v:=.slice j b.Ad.length m) En (ee st rfl) y.bk rfl)<|As rfl rfl (Ac rfl s) rfl (by decide) (fun st=>BD Tryz.underlying61 (ee st rfl))<|As rfl rfl (Ac rfl s) rfl (by decide) (fun st=>FP (ee st rfl) (ee st rfl))<|wd rfl (fun st=>Bu (v:=.bool (decide ((4:Int)<(b.Ad.length:Int)))) (ee st rfl) s (ee st rfl))<|Af<|Ab ?_;rcases Ao (decide ((4:Int)<(b.Ad.length:Int))) with aX|aX
   ·replace a:=Ay a aX;refine Av rfl aX<|Ae<|Aa<|wa rfl (v:=I 3) rfl<|Af<|Ab<|AH<|Aw ?_;obtain rfl:=Option.some.inj a;refine AP rfl rfl ?_;exact⟨aO.Bt,rfl⟩
   ·replace a:=Az a aX;refine AE rfl aX<|AT<|Ab<|Ae<|Ae<|Aa<|wd rfl (fun st=>Ak (ee st rfl) (FY _ _))<|wd rfl (fun st=>Au (v:=I b.Am) AZ (ee st rfl) y.bk rfl)<|wd rfl (fun st=>B8 (ee st rfl) (ee st rfl))<|wm rfl (v:=.bool (decide (b.Am<0))) rfl ?_;rcases Ao (decide (b.Am<0)) with aA|aA
    ·replace a:=Ay a aA;refine Aj (c:=true) rfl rfl (Ac rfl aA) (by decide) rfl (by decide)<|Aj (c:=true) rfl rfl (Ac rfl aA) (by decide) rfl (by decide)<|Aj (c:=true) rfl rfl (Ac rfl aA) (by decide) rfl (by decide)<|wd rfl (fun st=>AS (v:=.bool true) (ee st rfl) aA (ee st rfl))<|wm rfl (v:=.bool true) rfl<|Aj rfl rfl rfl (by decide) rfl (by decide)<|Aj rfl rfl rfl (by decide) rfl (by decide)<|Aj rfl rfl rfl (by decide) rfl (by decide)<|Aj rfl rfl rfl (by decide) rfl (by decide)<|Aj rfl rfl rfl (by decide) rfl (by decide)<|Aj rfl rfl rfl (by decide) rfl (by decide)<|Aj rfl rfl rfl (by decide) rfl (by decide)<|wd rfl (fun st=>AS (v:=.bool true) (ee st rfl) rfl (ee st rfl))<|wm rfl (v:=.bool true) rfl<|Aj rfl rfl rfl (by decide) rfl (by decide)<|Aj rfl rfl rfl (by decide) rfl (by decide)<|Aj rfl rfl rfl (by decide) rfl (by decide)<|Aj rfl rfl rfl (by decide) rfl (by decide)<|Aj rfl rfl rfl (by decide) rfl (by decide)<|Aj rfl rfl rfl (by decide) rfl (by decide)<|Aj rfl rfl rfl (by decide) rfl (by decide)<|wd rfl (fun st=>AS (v:=.bool true) (ee st rfl) rfl (ee st rfl))<|Af<|Ab<|Av rfl rfl<|Ae<|Aa<|wa rfl (v:=I 1) rfl<|Af<|Ab<|AH<|Aw ?_;obtain rfl:=Option.some.inj a;refine AP rfl rfl ?_;exact⟨aO.Bt,rfl⟩
    ·replace a:=Az a aA;refine As rfl rfl (Ac rfl aA) rfl (by decide) (fun st=>Ak (ee st rfl) (KE _ _))<|As rfl rfl (Ac rfl aA) rfl (by decide) (fun st=>Au (v:=I b.An) AZ (ee st rfl) y.bk rfl)<|As rfl rfl (Ac rfl aA) rfl (by decide) (fun st=>B8 (ee st rfl) (ee st rfl))<|wd rfl (fun st=>Bu (v:=.bool (decide (b.An<1))) (ee st rfl) aA (ee st rfl))<|wm rfl (v:=.bool (decide (b.An<1))) rfl ?_;rcases Ao (decide (b.An<1)) with p|p
     ·replace a:=Ay a p;refine Aj (c:=true) rfl rfl (Ac rfl p) (by decide) rfl (by decide)<|Aj (c:=true) rfl rfl (Ac rfl p) (by decide) rfl (by decide)<|Aj (c:=true) rfl rfl (Ac rfl p) (by decide) rfl (by decide)<|Aj (c:=true) rfl rfl (Ac rfl p) (by decide) rfl (by decide)<|Aj (c:=true) rfl rfl (Ac rfl p) (by decide) rfl (by decide)<|Aj (c:=true) rfl rfl (Ac rfl p) (by decide) rfl (by decide)<|Aj (c:=true) rfl rfl (Ac rfl p) (by decide) rfl (by decide)<|wd rfl (fun st=>AS (v:=.bool true) (ee st rfl) p (ee st rfl))<|wm rfl (v:=.bool true) rfl<|Aj rfl rfl rfl (by decide) rfl (by decide)<|Aj rfl rfl rfl (by decide) rfl (by decide)<|Aj rfl rfl rfl (by decide) rfl (by decide)<|Aj rfl rfl rfl (by decide) rfl (by decide)<|Aj rfl rfl rfl (by decide) rfl (by decide)<|Aj rfl rfl rfl (by decide) rfl (by decide)<|Aj rfl rfl rfl (by decide) rfl (by decide)<|wd rfl (fun st=>AS (v:=.bool true) (ee st rfl) rfl (ee st rfl))<|Af<|Ab<|Av rfl rfl<|Ae<|Aa<|wa rfl (v:=I 1) rfl<|Af<|Ab<|AH<|Aw ?_;obtain rfl:=Option.some.inj a;refine AP rfl rfl ?_;exact⟨aO.Bt,rfl⟩
     ·replace a:=Az a p;refine As rfl rfl (Ac rfl p) rfl (by decide) (fun st=>Ak (ee st rfl) (Mb _ _))<|As rfl rfl (Ac rfl p) rfl (by decide) (fun st=>Au (v:=I b.Ap) AZ (ee st rfl) y.bk rfl)<|As rfl rfl (Ac rfl p) rfl (by decide) (fun st=>Ak (ee st rfl) (FY _ _))<|As rfl rfl (Ac rfl p) rfl (by decide) (fun st=>Au (v:=I b.Am) AZ (ee st rfl) y.bk rfl) ?_;replace a:=AU a;obtain⟨c0,a⟩:=a;refine As rfl rfl (Ac rfl p) rfl (by decide) (fun st=>Br (ee st rfl) (ee st rfl) c0) ?_;replace a:=bind_some a;obtain⟨bA,c1,a⟩:=a;refine Ct rfl rfl (Ac rfl p) rfl (by decide) (fun st=>AN ID (ee st rfl) (EU (ee st rfl) (ee st rfl) (ee st rfl)) (a46 aS b.Ap 0 (b.Am+1) ZA _ bA c1)) ?_;rintro _ dL ⟨bG,rfl⟩;have bW:=aO.ext bG;refine As rfl rfl (Ac rfl p) rfl (by decide) (fun st=>Df (ee st rfl))<|wd rfl (fun st=>Bu (v:=.bool !bA) (ee st rfl) p (ee st rfl))<|wm rfl (v:=.bool !bA) rfl ?_;rcases Ao (!bA) with e|e
      ·replace a:=Ay a e;have cO:bA=false:=by simpa using e
       refine Aj (c:=true) rfl rfl (Ac rfl e) (by decide) rfl (by decide)<|Aj (c:=true) rfl rfl (Ac rfl e) (by decide) rfl (by decide)<|Aj (c:=true) rfl rfl (Ac rfl e) (by decide) rfl (by decide)<|Aj (c:=true) rfl rfl (Ac rfl e) (by decide) rfl (by decide)<|Aj (c:=true) rfl rfl (Ac rfl e) (by decide) rfl (by decide)<|Aj (c:=true) rfl rfl (Ac rfl e) (by decide) rfl (by decide)<|Aj (c:=true) rfl rfl (Ac rfl e) (by decide) rfl (by decide)<|wd rfl (fun st=>AS (v:=.bool true) (ee st rfl) e (ee st rfl))<|Af<|Ab<|Av rfl rfl<|Ae<|Aa<|wa rfl (v:=I 1) rfl<|Af<|Ab<|AH<|Aw ?_;obtain rfl:=Option.some.inj a;refine AP rfl rfl ?_;exact⟨bW.Bt,rfl⟩
      ·replace a:=Az a e;have cP:bA=true:=by simpa using e
       refine As rfl rfl (Ac rfl e) rfl (by decide) (fun st=>Ak (ee st rfl) (KD _ _)) ?_;have aT:=(y.bk.ext bG);refine As rfl rfl (Ac rfl e) rfl (by decide) (fun st=>Au (v:=I b.AB) AZ (ee st rfl) aT rfl)<|As rfl rfl (Ac rfl e) rfl (by decide) (fun st=>Ak (ee st rfl) (FY _ _))<|As rfl rfl (Ac rfl e) rfl (by decide) (fun st=>Au (v:=I b.Am) AZ (ee st rfl) aT rfl) ?_;replace a:=AU a;obtain⟨b1,a⟩:=a;refine As rfl rfl (Ac rfl e) rfl (by decide) (fun st=>Br (ee st rfl) (ee st rfl) b1) ?_;replace a:=bind_some a;obtain⟨aY,b2,a⟩:=a;refine Ct rfl rfl (Ac rfl e) rfl (by decide) (fun st=>AN ID (ee st rfl) (EU (ee st rfl) (ee st rfl) (ee st rfl)) (a46 aS b.AB 0 (b.Am+1) ZA _ aY b2)) ?_;rintro _ dF ⟨a4,rfl⟩;have bX:=bW.ext a4;refine As rfl rfl (Ac rfl e) rfl (by decide) (fun st=>Df (ee st rfl))<|wd rfl (fun st=>Bu (v:=.bool !aY) (ee st rfl) e (ee st rfl))<|Af<|Ab ?_;rcases Ao (!aY) with aE|aE
       ·replace a:=Ay a aE;have cQ:aY=false:=by simpa using aE
        refine Av rfl aE<|Ae<|Aa<|wa rfl (v:=I 1) rfl<|Af<|Ab<|AH<|Aw ?_;obtain rfl:=Option.some.inj a;refine AP rfl rfl ?_;exact⟨bX.Bt,rfl⟩
       ·replace a:=Az a aE;have cR:aY=true:=by simpa using aE
        refine AE rfl aE<|AT<|Ab<|Ae<|Ae<|Aa<|wa rfl (v:=I 0) rfl<|Af<|Ab<|A5 ?_;replace a:=bind_some a;obtain⟨bH,aG,a⟩:=a;refine Cf (fun b3 aB aZ=>(b3=.ret∧∃aH,bH=.inl aH∧aB.tmps.size=101∧aB.defers=(X0).ds∧sl aB 2=I aH∧Hp FN [] w [some x] aZ)∨(b3=.exit 0∧∃aH,bH=.inr aH∧aB.tmps.size=101∧aB.defers=(X0).ds∧sl aB 1=pt x 0∧Hp FN [] w [some x] aZ∧Bk aZ x 63 #[I b.Am,I b.An,I b.Ap,I b.AB,.slice j b.Ad.length m]∧Sl AQ aZ (ZZ FN [] Z w.heap.size [some x]) j m b.Ad)) ?b4 ?b5
        case b4=>
         clear a;refine Ce (fun(b6:Nat) (aB:Act) (aZ:World)=>∃r,Dh aS b b6 r=some bH∧aB.tmps.size=101∧aB.defers=(X0).ds∧sl aB 1=pt x 0∧sl aB 3=I r∧Hp FN [] w [some x] aZ∧Bk aZ x 63 #[I b.Am,I b.An,I b.Ap,I b.AB,.slice j b.Ad.length m]∧Sl AQ aZ (ZZ FN [] Z w.heap.size [some x]) j m b.Ad) aS ?b7 ?b8
         case b7=>
          intro st;have bS:=(aT.ext a4);have bB:=(((a9.mv (Ax y)).mv (Ai bG)).mv (Ai a4));exact⟨(0:Int),aG,qz st,qd st,sp st 1 rfl,sp st 3 rfl,bX,bS,bB⟩
         case b8=>
          rintro(_|b6) dA dB ⟨r,aG,bT,bU,t,aI,bI,aD,aC⟩
          ·exact absurd (show none=some _ from aG) (by simp)
          rw[Dh.eq_2] at aG;have a:=aG;clear aG;refine BZ (N:=101) bT bU<|Ae<|Ae<|Aa<|wm rfl (v:=I r) aI<|wd rfl (fun st=>Ak (ee st t) (DX _ _))<|wd rfl (fun st=>Au (v:=.slice j b.Ad.length m) En (ee st rfl) aD rfl)<|wd rfl (fun st=>BD Tryz.underlying61 (ee st rfl))<|wd rfl (fun st=>B8 (ee st rfl) (ee st rfl))<|Af<|Ab ?_;rcases Ao (decide (r<(b.Ad.length:Int))) with aJ|aJ
          ·replace a:=Ay a aJ;refine Av rfl aJ<|AT<|Ab<|Ae<|A5<|Ae<|Aa<|wd rfl (fun st=>Ak (ee st t) (DX _ _))<|wd rfl (fun st=>Au (v:=.slice j b.Ad.length m) En (ee st rfl) aD rfl)<|wm rfl (v:=I r) aI ?_;replace a:=A8 a;obtain⟨i21,d,b9,cA,cB,a⟩:=a;obtain⟨dG,dH,_,cC,rfl,cD⟩:=Sl.elem aC (by decide) cA;refine wd rfl (fun st=>Bp (k:=i21) Tryz.underlying61 F4 (ee st rfl) cC (ee st rfl) b9 cB)<|wd rfl (fun st=>DH (l:=[I d.AD,I d.AM,I d.Aq,I d.BY,I d.Cr]) Oz (ee st rfl) cD rfl rfl)<|we rfl (fun st=>BX (cs:= #[I 0,I 0,I 0,I 0,I 0]) NJ rfl) ?_;rintro _ dI ⟨dJ,rfl,aK⟩;have bJ:=bI.nb aK;have c2:=bI.BN aK;refine Bh rfl rfl (fun st=>Bi (n:=5) (l:=[I d.AD,I d.AM,I d.Aq,I d.BY,I d.Cr]) (B3:= #[I d.AD,I d.AM,I d.Aq,I d.BY,I d.Cr]) (ee st rfl) (ee st rfl) F4 aK.bk rfl rfl (show 0+5≤5 by decide) (AR rfl) rfl) ?_;rintro _ bK u;have a7:=bJ.gr u.gr 0 rfl;refine Af<|Ab<|Ae<|Aa<|wd rfl (fun st=>Ak (ee st rfl) (IE _ _))<|wd rfl (fun st=>Ak (ee st rfl) (JJ _ _))<|wd rfl (fun st=>Au (v:=I d.AD) AZ (ee st rfl) u.bk rfl)<|wd rfl (fun st=>B8 (ee st rfl) (ee st rfl))<|wm rfl (v:=.bool (decide (d.AD<0))) rfl ?_;rcases Ao (decide (d.AD<0)) with f|f
           ·replace a:=Ay a f;refine Aj (c:=true) rfl rfl (Ac rfl f) (by decide) rfl (by decide)<|Aj (c:=true) rfl rfl (Ac rfl f) (by decide) rfl (by decide)<|Aj (c:=true) rfl rfl (Ac rfl f) (by decide) rfl (by decide)<|Aj (c:=true) rfl rfl (Ac rfl f) (by decide) rfl (by decide)<|Aj (c:=true) rfl rfl (Ac rfl f) (by decide) rfl (by decide)<|Aj (c:=true) rfl rfl (Ac rfl f) (by decide) rfl (by decide)<|Aj (c:=true) rfl rfl (Ac rfl f) (by decide) rfl (by decide)<|wd rfl (fun st=>AS (v:=.bool true) (ee st rfl) f (ee st rfl))<|wm rfl (v:=.bool true) rfl<|Aj rfl rfl rfl (by decide) rfl (by decide)<|Aj rfl rfl rfl (by decide) rfl (by decide)<|Aj rfl rfl rfl (by decide) rfl (by decide)<|Aj rfl rfl rfl (by decide) rfl (by decide)<|Aj rfl rfl rfl (by decide) rfl (by decide)<|Aj rfl rfl rfl (by decide) rfl (by decide)<|wd rfl (fun st=>AS (v:=.bool true) (ee st rfl) rfl (ee st rfl))<|wm rfl (v:=.bool true) rfl<|Aj rfl rfl rfl (by decide) rfl (by decide)<|Aj rfl rfl rfl (by decide) rfl (by decide)<|Aj rfl rfl rfl (by decide) rfl (by decide)<|Aj rfl rfl rfl (by decide) rfl (by decide)<|wd rfl (fun st=>AS (v:=.bool true) (ee st rfl) rfl (ee st rfl))<|wm rfl (v:=.bool true) rfl<|Aj rfl rfl rfl (by decide) rfl (by decide)<|Aj rfl rfl rfl (by decide) rfl (by decide)<|Aj rfl rfl rfl (by decide) rfl (by decide)<|Aj rfl rfl rfl (by decide) rfl (by decide)<|wd rfl (fun st=>AS (v:=.bool true) (ee st rfl) rfl (ee st rfl))<|wm rfl (v:=.bool true) rfl<|Aj rfl rfl rfl (by decide) rfl (by decide)<|Aj rfl rfl rfl (by decide) rfl (by decide)<|Aj rfl rfl rfl (by decide) rfl (by decide)<|Aj rfl rfl rfl (by decide) rfl (by decide)<|Aj rfl rfl rfl (by decide) rfl (by decide)<|Aj rfl rfl rfl (by decide) rfl (by decide)<|wd rfl (fun st=>AS (v:=.bool true) (ee st rfl) rfl (ee st rfl))<|Af<|Ab<|Av rfl rfl<|Ae ?_;refine Aa<|wa rfl (v:=I 1) rfl<|Af<|Ab<|AH<|AY<|Aw<|Aw ?_;have c3:Hp FN [] w [some x] bK:=a7.erase 0;obtain rfl:=Option.some.inj a;refine BR (fun st=>?_);exact .inl ⟨rfl,(1:Int),rfl,qz st,qd st,sp st 2 rfl,c3⟩
           ·replace a:=Az a f;refine As rfl rfl (Ac rfl f) rfl (by decide) (fun st=>Ak (ee st rfl) (IE _ _))<|As rfl rfl (Ac rfl f) rfl (by decide) (fun st=>Ak (ee st rfl) (JJ _ _))<|As rfl rfl (Ac rfl f) rfl (by decide) (fun st=>Au (v:=I d.AD) AZ (ee st rfl) u.bk rfl)<|As rfl rfl (Ac rfl f) rfl (by decide) (fun st=>Ak (ee st rfl) (IE _ _))<|As rfl rfl (Ac rfl f) rfl (by decide) (fun st=>Ak (ee st rfl) (JI _ _))<|As rfl rfl (Ac rfl f) rfl (by decide) (fun st=>Au (v:=I d.AM) AZ (ee st rfl) u.bk rfl)<|As rfl rfl (Ac rfl f) rfl (by decide) (fun st=>FP (ee st rfl) (ee st rfl))<|wd rfl (fun st=>Bu (v:=.bool (decide (d.AM<d.AD))) (ee st rfl) f (ee st rfl))<|wm rfl (v:=.bool (decide (d.AM<d.AD))) rfl ?_;rcases Ao (decide (d.AM<d.AD)) with h|h
            ·replace a:=Ay a h;refine Aj (c:=true) rfl rfl (Ac rfl h) (by decide) rfl (by decide)<|Aj (c:=true) rfl rfl (Ac rfl h) (by decide) rfl (by decide)<|Aj (c:=true) rfl rfl (Ac rfl h) (by decide) rfl (by decide)<|Aj (c:=true) rfl rfl (Ac rfl h) (by decide) rfl (by decide)<|Aj (c:=true) rfl rfl (Ac rfl h) (by decide) rfl (by decide)<|Aj (c:=true) rfl rfl (Ac rfl h) (by decide) rfl (by decide)<|wd rfl (fun st=>AS (v:=.bool true) (ee st rfl) h (ee st rfl))<|wm rfl (v:=.bool true) rfl<|Aj rfl rfl rfl (by decide) rfl (by decide)<|Aj rfl rfl rfl (by decide) rfl (by decide)<|Aj rfl rfl rfl (by decide) rfl (by decide)<|Aj rfl rfl rfl (by decide) rfl (by decide)<|wd rfl (fun st=>AS (v:=.bool true) (ee st rfl) rfl (ee st rfl))<|wm rfl (v:=.bool true) rfl<|Aj rfl rfl rfl (by decide) rfl (by decide)<|Aj rfl rfl rfl (by decide) rfl (by decide)<|Aj rfl rfl rfl (by decide) rfl (by decide)<|Aj rfl rfl rfl (by decide) rfl (by decide)<|wd rfl (fun st=>AS (v:=.bool true) (ee st rfl) rfl (ee st rfl))<|wm rfl (v:=.bool true) rfl<|Aj rfl rfl rfl (by decide) rfl (by decide)<|Aj rfl rfl rfl (by decide) rfl (by decide)<|Aj rfl rfl rfl (by decide) rfl (by decide)<|Aj rfl rfl rfl (by decide) rfl (by decide)<|Aj rfl rfl rfl (by decide) rfl (by decide)<|Aj rfl rfl rfl (by decide) rfl (by decide)<|wd rfl (fun st=>AS (v:=.bool true) (ee st rfl) rfl (ee st rfl))<|Af<|Ab<|Av rfl rfl<|Ae<|Aa<|wa rfl (v:=I 1) rfl<|Af<|Ab<|AH<|AY<|Aw<|Aw ?_;have c4:Hp FN [] w [some x] bK:=a7.erase 0;obtain rfl:=Option.some.inj a;refine BR (fun st=>?_);exact .inl ⟨rfl,(1:Int),rfl,qz st,qd st,sp st 2 rfl,c4⟩
            ·replace a:=Az a h;refine As rfl rfl (Ac rfl h) rfl (by decide) (fun st=>Ak (ee st rfl) (IE _ _))<|As rfl rfl (Ac rfl h) rfl (by decide) (fun st=>Ak (ee st rfl) (JI _ _))<|As rfl rfl (Ac rfl h) rfl (by decide) (fun st=>Au (v:=I d.AM) AZ (ee st rfl) u.bk rfl)<|As rfl rfl (Ac rfl h) rfl (by decide) (fun st=>Ak (ee st t) (FY _ _)) ?_;have a8:=((aD.ext aK.gr).gr u.gr (bJ.ne 1 0 rfl rfl rfl));refine As rfl rfl (Ac rfl h) rfl (by decide) (fun st=>Au (v:=I b.Am) AZ (ee st rfl) a8 rfl)<|As rfl rfl (Ac rfl h) rfl (by decide) (fun st=>FP (ee st rfl) (ee st rfl))<|wd rfl (fun st=>Bu (v:=.bool (decide (b.Am<d.AM))) (ee st rfl) h (ee st rfl))<|wm rfl (v:=.bool (decide (b.Am<d.AM))) rfl ?_;rcases Ao (decide (b.Am<d.AM)) with q|q
             ·replace a:=Ay a q;refine Aj (c:=true) rfl rfl (Ac rfl q) (by decide) rfl (by decide)<|Aj (c:=true) rfl rfl (Ac rfl q) (by decide) rfl (by decide)<|Aj (c:=true) rfl rfl (Ac rfl q) (by decide) rfl (by decide)<|Aj (c:=true) rfl rfl (Ac rfl q) (by decide) rfl (by decide)<|wd rfl (fun st=>AS (v:=.bool true) (ee st rfl) q (ee st rfl))<|wm rfl (v:=.bool true) rfl<|Aj rfl rfl rfl (by decide) rfl (by decide)<|Aj rfl rfl rfl (by decide) rfl (by decide)<|Aj rfl rfl rfl (by decide) rfl (by decide)<|Aj rfl rfl rfl (by decide) rfl (by decide)<|wd rfl (fun st=>AS (v:=.bool true) (ee st rfl) rfl (ee st rfl))<|wm rfl (v:=.bool true) rfl<|Aj rfl rfl rfl (by decide) rfl (by decide)<|Aj rfl rfl rfl (by decide) rfl (by decide)<|Aj rfl rfl rfl (by decide) rfl (by decide)<|Aj rfl rfl rfl (by decide) rfl (by decide)<|Aj rfl rfl rfl (by decide) rfl (by decide)<|Aj rfl rfl rfl (by decide) rfl (by decide)<|wd rfl (fun st=>AS (v:=.bool true) (ee st rfl) rfl (ee st rfl))<|Af<|Ab<|Av rfl rfl<|Ae<|Aa<|wa rfl (v:=I 1) rfl<|Af<|Ab<|AH<|AY<|Aw<|Aw ?_;have c5:Hp FN [] w [some x] bK:=a7.erase 0;obtain rfl:=Option.some.inj a;refine BR (fun st=>?_);exact .inl ⟨rfl,(1:Int),rfl,qz st,qd st,sp st 2 rfl,c5⟩
             ·replace a:=Az a q;refine As rfl rfl (Ac rfl q) rfl (by decide) (fun st=>Ak (ee st rfl) (NK _ _))<|As rfl rfl (Ac rfl q) rfl (by decide) (fun st=>Au (v:=I d.Aq) AZ (ee st rfl) u.bk rfl) ?_;replace a:=bind_some a;obtain⟨aP,cE,a⟩:=a;refine Ct rfl rfl (Ac rfl q) rfl (by decide) (fun st=>AN ID (ee st rfl) (EU (ee st rfl) (ee st rfl) (ee st rfl)) (a46 aS d.Aq 1 5 ZA _ aP cE)) ?_;rintro _ c6 ⟨aU,rfl⟩;have bL:=a7.ext aU;refine As rfl rfl (Ac rfl q) rfl (by decide) (fun st=>Df (ee st rfl))<|wd rfl (fun st=>Bu (v:=.bool !aP) (ee st rfl) q (ee st rfl))<|wm rfl (v:=.bool !aP) rfl ?_;rcases Ao (!aP) with o|o
              ·replace a:=Ay a o;have cS:aP=false:=by simpa using o
               refine Aj (c:=true) rfl rfl (Ac rfl o) (by decide) rfl (by decide)<|Aj (c:=true) rfl rfl (Ac rfl o) (by decide) rfl (by decide)<|Aj (c:=true) rfl rfl (Ac rfl o) (by decide) rfl (by decide)<|Aj (c:=true) rfl rfl (Ac rfl o) (by decide) rfl (by decide)<|wd rfl (fun st=>AS (v:=.bool true) (ee st rfl) o (ee st rfl))<|wm rfl (v:=.bool true) rfl<|Aj rfl rfl rfl (by decide) rfl (by decide)<|Aj rfl rfl rfl (by decide) rfl (by decide)<|Aj rfl rfl rfl (by decide) rfl (by decide)<|Aj rfl rfl rfl (by decide) rfl (by decide)<|Aj rfl rfl rfl (by decide) rfl (by decide)<|Aj rfl rfl rfl (by decide) rfl (by decide)<|wd rfl (fun st=>AS (v:=.bool true) (ee st rfl) rfl (ee st rfl))<|Af<|Ab<|Av rfl rfl<|Ae<|Aa<|wa rfl (v:=I 1) rfl<|Af<|Ab<|AH<|AY<|Aw<|Aw ?_;have cF:Hp FN [] w [some x] c6:=bL.erase 0;obtain rfl:=Option.some.inj a;refine BR (fun st=>?_);exact .inl ⟨rfl,(1:Int),rfl,qz st,qd st,sp st 2 rfl,cF⟩
              ·replace a:=Az a o;have cT:aP=true:=by simpa using o
               refine As rfl rfl (Ac rfl o) rfl (by decide) (fun st=>Ak (ee st rfl) (NL _ _)) ?_;have aQ:=(u.bk.ext aU);refine As rfl rfl (Ac rfl o) rfl (by decide) (fun st=>Au (v:=I d.BY) AZ (ee st rfl) aQ rfl) ?_;replace a:=bind_some a;obtain⟨aR,cG,a⟩:=a;refine Ct rfl rfl (Ac rfl o) rfl (by decide) (fun st=>AN ID (ee st rfl) (EU (ee st rfl) (ee st rfl) (ee st rfl)) (a46 aS d.BY 1 5 ZA _ aR cG)) ?_;rintro _ c7 ⟨aV,rfl⟩;have bM:=bL.ext aV;refine As rfl rfl (Ac rfl o) rfl (by decide) (fun st=>Df (ee st rfl))<|wd rfl (fun st=>Bu (v:=.bool !aR) (ee st rfl) o (ee st rfl))<|wm rfl (v:=.bool !aR) rfl ?_;rcases Ao (!aR) with g|g
               ·replace a:=Ay a g;have cU:aR=false:=by simpa using g
                refine Aj (c:=true) rfl rfl (Ac rfl g) (by decide) rfl (by decide)<|Aj (c:=true) rfl rfl (Ac rfl g) (by decide) rfl (by decide)<|Aj (c:=true) rfl rfl (Ac rfl g) (by decide) rfl (by decide)<|Aj (c:=true) rfl rfl (Ac rfl g) (by decide) rfl (by decide)<|Aj (c:=true) rfl rfl (Ac rfl g) (by decide) rfl (by decide)<|Aj (c:=true) rfl rfl (Ac rfl g) (by decide) rfl (by decide)<|wd rfl (fun st=>AS (v:=.bool true) (ee st rfl) g (ee st rfl))<|Af<|Ab<|Av rfl rfl<|Ae<|Aa<|wa rfl (v:=I 1) rfl<|Af<|Ab<|AH<|AY<|Aw<|Aw ?_;have cH:Hp FN [] w [some x] c7:=bM.erase 0;obtain rfl:=Option.some.inj a;refine BR (fun st=>?_);exact .inl ⟨rfl,(1:Int),rfl,qz st,qd st,sp st 2 rfl,cH⟩
               ·replace a:=Az a g;have cV:aR=true:=by simpa using g
                refine As rfl rfl (Ac rfl g) rfl (by decide) (fun st=>Ak (ee st rfl) (NM _ _)) ?_;have bC:=(aQ.ext aV);refine As rfl rfl (Ac rfl g) rfl (by decide) (fun st=>Au (v:=I d.Cr) AZ (ee st rfl) bC rfl)<|As rfl rfl (Ac rfl g) rfl (by decide) (fun st=>Ak (ee st t) (FY _ _)) ?_;have a0:=((a8.ext aU).ext aV);refine As rfl rfl (Ac rfl g) rfl (by decide) (fun st=>Au (v:=I b.Am) AZ (ee st rfl) a0 rfl) ?_;replace a:=bind_some a;obtain⟨a2,cI,a⟩:=a;refine Ct rfl rfl (Ac rfl g) rfl (by decide) (fun st=>AN ID (ee st rfl) (EU (ee st rfl) (ee st rfl) (ee st rfl)) (a46 aS d.Cr 0 b.Am ZA _ a2 cI)) ?_;rintro _ bN ⟨a5,rfl⟩;have bO:=bM.ext a5;refine As rfl rfl (Ac rfl g) rfl (by decide) (fun st=>Df (ee st rfl))<|wd rfl (fun st=>Bu (v:=.bool !a2) (ee st rfl) g (ee st rfl))<|Af<|Ab ?_;rcases Ao (!a2) with aF|aF
                ·replace a:=Ay a aF;have cW:a2=false:=by simpa using aF
                 refine Av rfl aF<|Ae<|Aa<|wa rfl (v:=I 1) rfl<|Af<|Ab<|AH<|AY<|Aw<|Aw ?_;have cJ:Hp FN [] w [some x] bN:=bO.erase 0;obtain rfl:=Option.some.inj a;refine BR (fun st=>?_);exact .inl ⟨rfl,(1:Int),rfl,qz st,qd st,sp st 2 rfl,cJ⟩
                ·replace a:=Az a aF;have cX:a2=true:=by simpa using aF
                 refine AE rfl aF<|AT<|Be<|Ab<|Aa<|wm rfl (v:=I r) aI ?_;replace a:=AU a;obtain⟨cK,a⟩:=a;refine wd rfl (fun st=>Br (ee st rfl) (ee st rfl) cK)<|wa rfl (v:=I (r+1)) rfl<|Af ?_;have cL:Hp FN [] w [some x] bN:=bO.erase 0;have bP:=(a0.ext a5);have a6:Sl AQ bN (ZZ FN [] Z w.heap.size [some x]) j m b.Ad:=((((((aC.mv (Ax aK)).mv (bJ.AK u.gr 0 rfl)).mv (Ai aU)).mv (Ai aV)).mv (Ai a5)).mv (AW 0));refine Bl b6 (Nat.lt_succ_self _) (fun st=>?_);exact⟨(r+1),a,qz st,qd st,sp st 1 t,sp st 3 rfl,cL,bP,a6⟩
          ·replace a:=Az a aJ;refine AE rfl aJ<|B2<|AI<|AI ?_;obtain rfl:=Option.some.inj a;refine BR (fun st=>?_);exact .inr ⟨rfl,(),rfl,qz st,qd st,sp st 1 t,bI,aD,aC⟩
        case b5=>
         rintro b3 c9 dC (⟨rfl,aH,rfl,aL,aM,bD,aW⟩|⟨rfl,aH,rfl,aL,aM,bE,aW,bF,a3⟩)
         ·skip
          replace a:=D9 a;refine B9 (X:=X0) (N:=101) aL aM<|AY<|Aw ?_;obtain rfl:=Option.some.inj a;refine AP rfl bD ?_;exact⟨aW.Bt,rfl⟩
         ·skip
          replace a:=Ea a;refine B9 (X:=X0) (N:=101) aL aM<|Bo<|Ab<|Ae<|Ae<|Aa<|wd rfl (fun st=>Bd (l:=[I b.Am,I b.An,I b.Ap,I b.AB,.slice j b.Ad.length m]) FE (ee st bE) bF rfl rfl) ?_;replace a:=bind_some a;obtain⟨bY,cM,a⟩:=a;refine we rfl (fun st=>AN Qe (ee st rfl) (CK (ee st rfl)) (UN aS b j m ZA _ a3.all bY cM)) ?_;rintro _ dK ⟨cN,rfl⟩;have bQ:=aW.ext cN;refine wd rfl (fun st=>FP (ee st rfl) (ee st rfl))<|Af<|Ab ?_;rcases Ao (decide ((1000:Int)<bY)) with aN|aN
          ·replace a:=Ay a aN;refine Av rfl aN<|Ae<|Aa<|wa rfl (v:=I 3) rfl<|Af<|Ab<|AH<|Aw ?_;obtain rfl:=Option.some.inj a;refine AP rfl rfl ?_;exact⟨bQ.Bt,rfl⟩
          ·replace a:=Az a aN;refine AE rfl aN<|AT<|Ab<|Ae<|Aa<|wa rfl (v:=I 0) rfl<|Af<|Ab<|AH ?_;obtain rfl:=Option.some.inj a;refine AP rfl rfl ?_;exact⟨bQ.Bt,rfl⟩
theorem Vh(p:Nat)(e:Ar)(b:Bb)(h:Option Addr)(j:Nat)(Z:Nat→Prop)(w:World)(x:Sl AQ w Z h j e.Ad)(aO:Bool)(a:EY p e b=some aO):
 BL Tryz.prog 89 #[.agg #[I e.Am,I e.An,I e.Ap,I e.AB,.slice h e.Ad.length j],.agg #[I b.AD,I b.AM,I b.Aq,I b.BY,I b.Cr]] w (fun v w'=>Ext w w'∧BQ.R w' (ZZ FN [] Z w.heap.size []) v aO):=by
 unfold EY at a;refine Ba (N:=27) Tryz.func89 rfl rfl (by simp) ?_;intro aW aH aX;have aI:=AO (i:=0) (v:=.agg #[I e.Am,I e.An,I e.Ap,I e.AB,.slice h e.Ad.length j]) aH rfl;have aJ:=AO (i:=1) (v:=.agg #[I b.AD,I b.AM,I b.Aq,I b.BY,I b.Cr]) aH rfl;clear aH;have aC:Hp FN [] w [] w:=Hp.start (BM.none w);have aN:=x.mv (Bf (Z:=Z) (L:=[]) w);refine Ae<|Aa<|we rfl (fun st=>B1 (v:=.agg #[I e.Am,I e.An,I e.Ap,I e.AB,.slice h e.Ad.length j]) (cs:= #[I e.Am,I e.An,I e.Ap,I e.AB,.slice h e.Ad.length j]) (ee st aI) rfl) ?_;rintro _ w1 ⟨a0,rfl,q⟩;have aD:=aC.nb q;have aU:=aC.BN q;refine we rfl (fun st=>B1 (v:=.agg #[I b.AD,I b.AM,I b.Aq,I b.BY,I b.Cr]) (cs:= #[I b.AD,I b.AM,I b.Aq,I b.BY,I b.Cr]) (ee st aJ) rfl) ?_;rintro _ w2 ⟨a2,rfl,k⟩;have aP:=aD.nb k;have aV:=aD.BN k;refine wa rfl (v:=.bool false) rfl<|Af<|Ab<|Ae<|Aa<|wd rfl (fun st=>Ak (ee st rfl) (JK _ _))<|wd rfl (fun st=>Bd (l:=[I b.AD,I b.AM]) KF (ee st rfl) k.bk rfl rfl)<|wd rfl (fun st=>Ak (ee st rfl) (Hm _ _)) ?_;have m:=(q.bk.ext k.gr);refine wd rfl (fun st=>Au (v:=I e.Am) AZ (ee st rfl) m rfl) ?_;replace a:=bind_some a;obtain⟨aK,aQ,a⟩:=a;refine we rfl (fun st=>AN Sb (ee st rfl) (Er (ee st rfl) (ee st rfl)) (UW p (⟨b.AD,b.AM⟩:CQ) e.Am ZA _ aK aQ)) ?_;rintro _ a3 ⟨r,rfl⟩;have aE:=aP.ext r;refine wm rfl (v:=.bool aK) rfl ?_;rcases Ao (aK) with f|f
 ·replace a:=Ay a f;refine As rfl rfl (Ac rfl f) rfl (by decide) (fun st=>Ak (ee st rfl) (Hg _ _)) ?_;have n:=(k.bk.ext r);refine As rfl rfl (Ac rfl f) rfl (by decide) (fun st=>Au (v:=I b.Aq) AZ (ee st rfl) n rfl) ?_;replace a:=bind_some a;obtain⟨y,aR,a⟩:=a;refine Ct rfl rfl (Ac rfl f) rfl (by decide) (fun st=>AN OA (ee st rfl) (CK (ee st rfl)) (a141 p b.Aq ZA _ y aR)) ?_;rintro _ a4 ⟨s,rfl⟩;have aF:=aE.ext s;refine wd rfl (fun st=>AS (v:=.bool y) (ee st rfl) f (ee st rfl))<|wm rfl (v:=.bool y) rfl ?_;rcases Ao (y) with g|g
  ·replace a:=Ay a g;refine As rfl rfl (Ac rfl g) rfl (by decide) (fun st=>Ak (ee st rfl) (Lc _ _)) ?_;have o:=(n.ext s);refine As rfl rfl (Ac rfl g) rfl (by decide) (fun st=>Au (v:=I b.BY) AZ (ee st rfl) o rfl) ?_;replace a:=bind_some a;obtain⟨z,aS,a⟩:=a;refine Ct rfl rfl (Ac rfl g) rfl (by decide) (fun st=>AN OA (ee st rfl) (CK (ee st rfl)) (a141 p b.BY ZA _ z aS)) ?_;rintro _ aY ⟨t,rfl⟩;have aG:=aF.ext t;refine wd rfl (fun st=>AS (v:=.bool z) (ee st rfl) g (ee st rfl))<|wm rfl (v:=.bool z) rfl ?_;rcases Ao (z) with d|d
   ·replace a:=Ay a d;refine As rfl rfl (Ac rfl d) rfl (by decide) (fun st=>Ak (ee st rfl) (NH _ _)) ?_;have aA:=(o.ext t);refine As rfl rfl (Ac rfl d) rfl (by decide) (fun st=>Au (v:=I b.Cr) AZ (ee st rfl) aA rfl)<|As rfl rfl (Ac rfl d) rfl (by decide) (fun st=>Ak (ee st rfl) (Hm _ _)) ?_;have aB:=(((m.ext r).ext s).ext t);refine As rfl rfl (Ac rfl d) rfl (by decide) (fun st=>Au (v:=I e.Am) AZ (ee st rfl) aB rfl) ?_;replace a:=bind_some a;obtain⟨u,aL,a⟩:=a;refine Ct rfl rfl (Ac rfl d) rfl (by decide) (fun st=>AN Jd (ee st rfl) (EU (ee st rfl) (ee st rfl) (ee st rfl)) (OP p b.Cr 0 e.Am ZA _ u aL)) ?_;rintro _ aZ ⟨aM,rfl⟩;have aT:=aG.ext aM;refine wd rfl (fun st=>AS (v:=.bool u) (ee st rfl) d (ee st rfl))<|wa rfl (v:=.bool u) rfl<|Af<|Ab<|AH ?_;obtain rfl:=Option.some.inj a;refine AP rfl rfl ?_;exact⟨aT.Bt,rfl⟩
   ·replace a:=Az a d;refine Aj (c:=false) rfl rfl (Ac rfl d) (by decide) rfl (by decide)<|Aj (c:=false) rfl rfl (Ac rfl d) (by decide) rfl (by decide)<|Aj (c:=false) rfl rfl (Ac rfl d) (by decide) rfl (by decide)<|Aj (c:=false) rfl rfl (Ac rfl d) (by decide) rfl (by decide)<|Aj (c:=false) rfl rfl (Ac rfl d) (by decide) rfl (by decide)<|wd rfl (fun st=>Bu (v:=.bool false) (ee st rfl) d (ee st rfl))<|wa rfl (v:=.bool false) rfl<|Af<|Ab<|AH ?_;obtain rfl:=Option.some.inj a;refine AP rfl rfl ?_;exact⟨aG.Bt,rfl⟩
  ·replace a:=Az a g;refine Aj (c:=false) rfl rfl (Ac rfl g) (by decide) rfl (by decide)<|Aj (c:=false) rfl rfl (Ac rfl g) (by decide) rfl (by decide)<|Aj (c:=false) rfl rfl (Ac rfl g) (by decide) rfl (by decide)<|wd rfl (fun st=>Bu (v:=.bool false) (ee st rfl) g (ee st rfl))<|wm rfl (v:=.bool false) rfl<|Aj rfl rfl rfl (by decide) rfl (by decide)<|Aj rfl rfl rfl (by decide) rfl (by decide)<|Aj rfl rfl rfl (by decide) rfl (by decide)<|Aj rfl rfl rfl (by decide) rfl (by decide)<|Aj rfl rfl rfl (by decide) rfl (by decide)<|wd rfl (fun st=>Bu (v:=.bool false) (ee st rfl) rfl (ee st rfl))<|wa rfl (v:=.bool false) rfl<|Af<|Ab<|AH ?_;obtain rfl:=Option.some.inj a;refine AP rfl rfl ?_;exact⟨aF.Bt,rfl⟩
 ·replace a:=Az a f;refine Aj (c:=false) rfl rfl (Ac rfl f) (by decide) rfl (by decide)<|Aj (c:=false) rfl rfl (Ac rfl f) (by decide) rfl (by decide)<|Aj (c:=false) rfl rfl (Ac rfl f) (by decide) rfl (by decide)<|wd rfl (fun st=>Bu (v:=.bool false) (ee st rfl) f (ee st rfl))<|wm rfl (v:=.bool false) rfl<|Aj rfl rfl rfl (by decide) rfl (by decide)<|Aj rfl rfl rfl (by decide) rfl (by decide)<|Aj rfl rfl rfl (by decide) rfl (by decide)<|wd rfl (fun st=>Bu (v:=.bool false) (ee st rfl) rfl (ee st rfl))<|wm rfl (v:=.bool false) rfl<|Aj rfl rfl rfl (by decide) rfl (by decide)<|Aj rfl rfl rfl (by decide) rfl (by decide)<|Aj rfl rfl rfl (by decide) rfl (by decide)<|Aj rfl rfl rfl (by decide) rfl (by decide)<|Aj rfl rfl rfl (by decide) rfl (by decide)<|wd rfl (fun st=>Bu (v:=.bool false) (ee st rfl) rfl (ee st rfl))<|wa rfl (v:=.bool false) rfl<|Af<|Ab<|AH ?_;obtain rfl:=Option.some.inj a;refine AP rfl rfl ?_;exact⟨aE.Bt,rfl⟩
theorem Vi(aT:Nat)(h:List Int)(n:List Int)(c:Option Addr)(d:Nat)(f:Option Addr)(g:Nat)(Z:Nat→Prop)(w:World)(aJ:Sl (AG .i64) w Z c d h)(aK:Sl (AG .i64) w Z f g n)(aU:Bool)(a:FC aT h n=some aU):
 BL Tryz.prog 55 #[.slice c h.length d,.slice f n.length g] w (fun v w'=>Ext w w'∧BQ.R w' (ZZ FN [] Z w.heap.size []) v aU):=by
 unfold FC at a;refine Ba (N:=26) Tryz.func55 rfl rfl (by simp) ?_;intro bI aO bJ;have aF:=AO (i:=0) (v:=.slice c h.length d) aO rfl;have aG:=AO (i:=1) (v:=.slice f n.length g) aO rfl;clear aO;have aL:Hp FN [] w [] w:=Hp.start (BM.none w);have aA:=aJ.mv (Bf (Z:=Z) (L:=[]) w);have aB:=aK.mv (Bf (Z:=Z) (L:=[]) w);refine Ae<|Aa<|wa rfl (v:=.bool false) rfl<|Af<|Ab<|Ae<|Ae<|Aa<|wm rfl (v:=.slice c h.length d) aF<|wd rfl (fun st=>BD Tryz.underlying23 (ee st rfl))<|wm rfl (v:=.slice f n.length g) aG<|wd rfl (fun st=>BD Tryz.underlying23 (ee st rfl))<|wd rfl (fun st=>EP (ee st rfl) (ee st rfl))<|Af<|Ab ?_;rcases Ao ((h.length:Int) !=(n.length:Int)) with t|t
 ·replace a:=Ay a t;refine Av rfl t<|Ae<|Aa<|wa rfl (v:=.bool false) rfl<|Af<|Ab<|AH<|Aw ?_;obtain rfl:=Option.some.inj a;refine AP rfl rfl ?_;exact⟨aL.Bt,rfl⟩
 ·replace a:=Az a t;refine AE rfl t<|AT<|Ab<|Ae<|Ae<|Aa<|wa rfl (v:=I 0) rfl<|Af<|Ab<|A5 ?_;replace a:=bind_some a;obtain⟨z2,o,a⟩:=a;refine Cf (fun aP e aC=>(aP=.ret∧∃p,z2=.inl p∧e.tmps.size=26∧e.defers=(X0).ds∧sl e 4=.bool p∧Hp FN [] w [] aC)∨(aP=.exit 0∧∃p,z2=.inr p∧e.tmps.size=26∧e.defers=(X0).ds∧Hp FN [] w [] aC)) ?aV ?aW
  case aV=>
   clear a;refine Ce (fun(aQ:Nat) (e:Act) (aC:World)=>∃b,DK h n aQ b=some z2∧e.tmps.size=26∧e.defers=(X0).ds∧sl e 0=.slice c h.length d∧sl e 1=.slice f n.length g∧sl e 5=I b∧Hp FN [] w [] aC∧Sl (AG .i64) aC (ZZ FN [] Z w.heap.size []) c d h∧Sl (AG .i64) aC (ZZ FN [] Z w.heap.size []) f g n) aT ?aX ?aY
   case aX=>
    intro st;exact⟨(0:Int),o,qz st,qd st,sp st 0 aF,sp st 1 aG,sp st 5 rfl,aL,aA,aB⟩
   case aY=>
    rintro(_|aQ) bK bL ⟨b,o,aR,aS,q,z,j,aM,l,m⟩
    ·exact absurd (show none=some _ from o) (by simp)
    rw[DK.eq_2] at o;have a:=o;clear o;refine BZ (N:=26) aR aS<|Ae<|Ae<|Aa<|wm rfl (v:=I b) j<|wm rfl (v:=.slice c h.length d) q<|wd rfl (fun st=>BD Tryz.underlying23 (ee st rfl))<|wd rfl (fun st=>B8 (ee st rfl) (ee st rfl))<|Af<|Ab ?_;rcases Ao (decide (b<(h.length:Int))) with u|u
    ·replace a:=Ay a u;refine Av rfl u<|AT<|Ab<|Ae<|A5<|Ae ?_;replace a:=A8 a;obtain⟨i5,aZ,a0,a2,a3,a⟩:=a;obtain⟨bD,bE,_,a4,rfl,a5⟩:=Sl.DG l rfl a2;replace a:=A8 a;obtain⟨i6,a6,a7,a8,a9,a⟩:=a;obtain⟨bF,bG,_,bA,rfl,bB⟩:=Sl.DG m rfl a8;refine CL 8 [Kc (.slice c h.length d),Kc (I b),Kc (pt bD (bE+i5)),Kc (I aZ),Kc (.slice f n.length g),Kc (I b),Kc (pt bF (bG+i6)),Kc (I a6)] mixed rfl rfl
         (Ah (od rfl (fun _=>rfl) (fun K=>AV (es ((K.out 0 rfl).trans q))))
         (Ah (od rfl (fun _=>rfl) (fun K=>AV (es ((K.out 5 rfl).trans j))))
         (Ah (od rfl (fun _=>rfl) (fun K=>Bx (k:=i5) Tryz.underlying23 CP (es (K.AA 0 17 rfl rfl)) a4 (es (K.AA 1 18 rfl rfl)) a0 a3))
         (Ah (od rfl (fun _=>rfl) (fun K=>BS AZ (es (K.AA 2 19 rfl rfl)) (a5.mv (Ai K.Bs)) rfl))
         (Ah (od rfl (fun _=>rfl) (fun K=>AV (es ((K.out 1 rfl).trans z))))
         (Ah (od rfl (fun _=>rfl) (fun K=>AV (es ((K.out 5 rfl).trans j))))
         (Ah (od rfl (fun _=>rfl) (fun K=>Bx (k:=i6) Tryz.underlying23 CP (es (K.AA 4 21 rfl rfl)) bA (es (K.AA 5 22 rfl rfl)) a7 a9))
         (Ah (od rfl (fun _=>rfl) (fun K=>BS AZ (es (K.AA 6 23 rfl rfl)) (bB.mv (Ai K.Bs)) rfl))
         (Cg _))))))))) ?_
     intro bN;rintro _ rfl _ rfl _ rfl _ rfl _ rfl _ rfl _ rfl _ rfl aH;have aN:=aM.ext aH;refine wd rfl (fun st=>EP (ee st rfl) (ee st rfl))<|Af<|Ab ?_;rcases Ao (aZ !=a6) with x|x
     ·replace a:=Ay a x;refine Av rfl x<|Ae<|Aa<|wa rfl (v:=.bool false) rfl<|Af<|Ab<|AH<|AY<|Aw<|Aw ?_;obtain rfl:=Option.some.inj a;refine BR (fun st=>?_);exact .inl ⟨rfl,false,rfl,qz st,qd st,sp st 4 rfl,aN⟩
     ·replace a:=Az a x;refine AE rfl x<|AT<|Be<|Ab<|Aa<|wm rfl (v:=I b) j ?_;replace a:=AU a;obtain⟨bC,a⟩:=a;refine wd rfl (fun st=>Br (ee st rfl) (ee st rfl) bC)<|wa rfl (v:=I (b+1)) rfl<|Af ?_;have aD:=(l.mv (Ai aH));have aE:=(m.mv (Ai aH));refine Bl aQ (Nat.lt_succ_self _) (fun st=>?_);exact⟨(b+1),a,qz st,qd st,sp st 0 q,sp st 1 z,sp st 5 rfl,aN,aD,aE⟩
    ·replace a:=Az a u;refine AE rfl u<|B2<|AI<|AI ?_;obtain rfl:=Option.some.inj a;refine BR (fun st=>?_);exact .inr ⟨rfl,(),rfl,qz st,qd st,aM⟩
  case aW=>
   rintro aP bH bM (⟨rfl,p,rfl,r,s,aI,y⟩|⟨rfl,p,rfl,r,s,y⟩)
   ·skip
    replace a:=D9 a;refine B9 (X:=X0) (N:=26) r s<|AY<|Aw ?_;obtain rfl:=Option.some.inj a;refine AP rfl aI ?_;exact⟨y.Bt,rfl⟩
   ·skip
    replace a:=Ea a;refine B9 (X:=X0) (N:=26) r s<|Bo<|Ab<|Ae<|Aa<|wa rfl (v:=.bool true) rfl<|Af<|Ab<|AH ?_;obtain rfl:=Option.some.inj a;refine AP rfl rfl ?_;exact⟨y.Bt,rfl⟩
theorem LR(y:Nat)(a:Int)(Z:Nat→Prop)(w:World)(s:Ar)(t:CD y a=some s):
 BL Tryz.prog 82 #[I a] w (fun v w'=>Ext w w'∧(Dr Hu).R w' (ZZ FN [] Z w.heap.size []) v s):=by
 unfold CD at t;refine Ba (N:=9) Tryz.func82 rfl rfl (by simp) ?_;intro z u aA;have r:=AO (i:=0) (v:=I a) u rfl;clear u;have m:Hp FN [] w [] w:=Hp.start (BM.none w);refine Ae<|Aa<|we rfl (fun st=>BX (cs:= #[I 0,I 0,I 0,I 0,.slice none 0 0]) Mc rfl) ?_;rintro _ w1 ⟨aB,rfl,c⟩;have o:=m.nb c;have x:=m.BN c;refine Af<|Ab<|Ae<|Aa<|wm rfl (v:=I a) r<|wd rfl (fun st=>CJ (vs:= #[(1,I 2),(2,I 2),(3,I 2)]) (v:=.agg #[I 0,I 0,I 2,I 2,I 2]) (I6 (ee st rfl) (ee st rfl) (ee st rfl)) (by kernel_rfl))<|wd rfl (fun st=>CJ (vs:= #[(0,I 1),(1,I 1)]) (v:=.agg #[I 1,I 1]) (Iq (ee st rfl) (ee st rfl)) (by kernel_rfl))<|wd rfl (fun st=>CJ (vs:= #[(0,.agg #[I 1,I 1]),(1,I 2),(2,I 1),(3,I 5)]) (v:=.agg #[I 1,I 1,I 2,I 1,I 5]) (SU (ee st rfl) (ee st rfl) (ee st rfl) (ee st rfl)) (by kernel_rfl))<|we rfl (fun st=>BW (e:=156) (vs:= #[(0,.agg #[I 0,I 0,I 2,I 2,I 2]),(1,.agg #[I 1,I 1,I 2,I 1,I 5])]) (cs:= #[I 0,I 0,I 2,I 2,I 2,I 1,I 1,I 2,I 1,I 5]) (Iq (ee st rfl) (ee st rfl)) (by kernel_rfl)) ?_;rintro _ w2 ⟨d,rfl,b⟩;have p:=o.nb b;have g:=o.BN b;refine wd rfl (fun st=>CJ (vs:= #[(0,I 5),(1,I 1),(2,I a),(3,I 1),(4,.slice (some ⟨d,0,none⟩) 2 2)]) (v:=.agg #[I 5,I 1,I a,I 1,.slice (some ⟨d,0,none⟩) 2 2]) (Ve (ee st rfl) (ee st rfl) (ee st rfl) (ee st rfl) (ee st rfl)) (by kernel_rfl)) ?_;have j:=(c.bk.ext b.gr);refine Bh rfl rfl (fun st=>Bi (n:=5) (l:=[I 5,I 1,I a,I 1,.slice (some ⟨d,0,none⟩) 2 2]) (B3:= #[I 5,I 1,I a,I 1,.slice (some ⟨d,0,none⟩) 2 2]) (ee st rfl) (ee st rfl) Pt j rfl rfl (show 0+5≤5 by decide) (AR rfl) rfl) ?_;rintro _ aC f;have q:=p.gr f.gr 1 rfl;refine Af<|Ab<|AH ?_;obtain rfl:=Option.some.inj t;refine Gn (v:=.agg #[I 5,I 1,I a,I 1,.slice (some ⟨d,0,none⟩) 2 2]) rfl rfl (CX CI f.bk rfl rfl) ?_;have k:=(b.bk.gr f.gr (p.ne 0 1 rfl rfl rfl));exact⟨q.Bt,⟨_,rfl,_,_,rfl,GF (e:=AQ) (xs:=[(⟨0,0,2,2,2⟩:Bb),(⟨1,1,2,1,5⟩:Bb)]) (Bg:=[[I 0,I 0,I 2,I 2,I 2],[I 1,I 1,I 2,I 1,I 5]]) k (.inr ⟨g,fun hm=>q.BC (F':=FN) (M:=[]) 0 rfl [] rfl trivial (fun _ h=>h.elim) (.inr hm)⟩) ⟨rfl,rfl,trivial⟩ rfl (Nat.le_refl _)⟩⟩
theorem Vj(bA:Nat)(b:Int)(Z:Nat→Prop)(w:World)(aX:AX)(j:Gk bA b=some aX):
 BL Tryz.prog 83 #[I b] w (fun v w'=>Ext w w'∧(Dr Fo).R w' (ZZ FN [] Z w.heap.size []) v aX):=by
 unfold Gk at j;refine Ba (N:=12) Tryz.func83 rfl rfl (by simp) ?_;intro bH aY bI;have aQ:=AO (i:=0) (v:=I b) aY rfl;clear aY;have aI:Hp FN [] w [] w:=Hp.start (BM.none w);refine Ae<|Aa<|we rfl (fun st=>BX (cs:= #[.slice none 0 0,.slice none 0 0]) GU rfl) ?_;rintro _ w1 ⟨t,rfl,u⟩;have aJ:=aI.nb u;have a7:=aI.BN u;refine Af<|Ab<|Ae<|Aa<|we rfl (fun st=>BW (e:=3) (vs:= #[(0,I 0),(1,I 1)]) (cs:= #[I 0,I 1]) (Iq (ee st rfl) (ee st rfl)) (by kernel_rfl)) ?_;rintro _ w2 ⟨c,rfl,q⟩;have x:=aJ.nb q;have aD:=aJ.BN q;replace j:=Hb j;obtain⟨aZ,j⟩:=j;refine we rfl (fun st=>HD (e:=Bw) (z:=false) (zc:=[.bool false]) (n0:=w.heap.size) (b':=1) Tryz.underlying65 LN rfl rfl (ee st rfl) (ee st rfl) aZ (fun _ _=>rfl) x.sz (by decide)) ?_;rintro _ a0 ⟨a,rfl,aK,aR,y,aS⟩;have aL:Hp FN [] w [some a,some c,some t] a0:=x.new y aK aR;have a8:w.heap.size≤a:=Nat.le_trans x.sz aK;have a2:AJ Bw 4 w.heap.size a0 (ZZ FN [] Z w.heap.size [some a,some c,some t]) (some ⟨a,0,none⟩) ((6:Int).toNat) (List.replicate (6:Int).toNat false):=aS _;refine wd rfl (fun st=>CJ (vs:= #[(0,.slice (some ⟨c,0,none⟩) 2 2),(1,.slice (some ⟨a,0,none⟩) ((List.replicate (6:Int).toNat false).length) ((6:Int).toNat))]) (v:=.agg #[.slice (some ⟨c,0,none⟩) 2 2,.slice (some ⟨a,0,none⟩) ((List.replicate (6:Int).toNat false).length) ((6:Int).toNat)]) (Iq (ee st rfl) (ee st rfl)) (by kernel_rfl))<|we rfl (fun st=>BX (cs:= #[.slice none 0 0,.slice none 0 0]) GU rfl) ?_;rintro _ bK ⟨aE,rfl,d⟩;have m:=aL.nb d;have a9:=aL.BN d;refine Bh rfl rfl (fun st=>Bi (n:=2) (l:=[.slice (some ⟨c,0,none⟩) 2 2,.slice (some ⟨a,0,none⟩) ((List.replicate (6:Int).toNat false).length) ((6:Int).toNat)]) (B3:= #[.slice (some ⟨c,0,none⟩) 2 2,.slice (some ⟨a,0,none⟩) ((List.replicate (6:Int).toNat false).length) ((6:Int).toNat)]) (ee st rfl) (ee st rfl) GZ d.bk rfl rfl (show 0+2≤2 by decide) (AR rfl) rfl) ?_;rintro _ bB f;have o:=m.gr f.gr 0 rfl;refine Af<|Ab<|Ae<|Aa<|wd rfl (fun st=>Ak (ee st rfl) (Hn _ _))<|wd rfl (fun st=>Au (v:=.slice (some ⟨a,0,none⟩) ((List.replicate (6:Int).toNat false).length) ((6:Int).toNat)) Fi (ee st rfl) f.bk rfl)<|wm rfl (v:=I b) aQ ?_;replace j:=A8 j;obtain⟨i7,bL,aM,aN,aA,j⟩:=j;have r:AJ Bw 4 w.heap.size bB (ZZ FN [] Z w.heap.size [some aE,some a,some c,some t]) (some ⟨a,0,none⟩) ((6:Int).toNat) (List.replicate (6:Int).toNat false):=((a2.ext d.gr (Ax d)).gr f.gr (fun k aT=>m.ne 1 0 rfl (congrArg some aT) rfl) (m.AK f.gr 0 rfl));obtain⟨bM,bN,_,aO,rfl,bJ⟩:=Sl.DG r.all rfl aN;refine wd rfl (fun st=>Bx (k:=i7) Tryz.underlying65 Hh (ee st rfl) aO (ee st rfl) aM aA) ?_;have aP:b.toNat=i7:=by rw[aM,Int.toNat_natCast]
 refine Bh rfl rfl (fun st=>GC (k:=i7) (z':=true) (l:=[.bool true]) r aN aO rfl (ee st rfl) (ee st rfl) Hh rfl rfl (AR rfl) rfl) ?_;rintro _ a3 ⟨p,a4⟩;have s:=o.gr p 1 rfl;have aU:AJ Bw 4 w.heap.size a3 (ZZ FN [] Z w.heap.size [some aE,some a,some c,some t]) (some ⟨a,0,none⟩) ((6:Int).toNat) ((List.replicate (6:Int).toNat false).set b.toNat true):=by rw[show(List.replicate (6:Int).toNat false).set b.toNat true=(List.replicate (6:Int).toNat false).set i7 true from congrArg (fun aV=>(List.replicate (6:Int).toNat false).set aV true) aP];exact C6 a4 (o.AK p 1 rfl)
 have bC:((List.replicate (6:Int).toNat false).set b.toNat true)[i7]?=some true:=by rw[show(List.replicate (6:Int).toNat false).set b.toNat true=(List.replicate (6:Int).toNat false).set i7 true from congrArg (fun aV=>(List.replicate (6:Int).toNat false).set aV true) aP];exact List.getElem?_set_self aA
 have bD:i7<((List.replicate (6:Int).toNat false).set b.toNat true).length:=by rw[List.length_set];exact aA
 have bE:(.slice (some ⟨a,0,none⟩) ((List.replicate (6:Int).toNat false).length) ((6:Int).toNat):Value)=.slice (some ⟨a,0,none⟩) (((List.replicate (6:Int).toNat false).set b.toNat true).length) ((6:Int).toNat):=by simp only[List.length_set]
 have bF:(.agg #[.slice (some ⟨c,0,none⟩) 2 2,.slice (some ⟨a,0,none⟩) ((List.replicate (6:Int).toNat false).length) ((6:Int).toNat)]:Value)=.agg #[.slice (some ⟨c,0,none⟩) 2 2,.slice (some ⟨a,0,none⟩) (((List.replicate (6:Int).toNat false).set b.toNat true).length) ((6:Int).toNat)]:=by simp only[List.length_set]
 have bG:(.slice (some ⟨a,0,none⟩) ((List.replicate (6:Int).toNat false).length) ((6:Int).toNat):Value)=.slice (some ⟨a,0,none⟩) (((List.replicate (6:Int).toNat false).set b.toNat true).length) ((6:Int).toNat):=by simp only[List.length_set]
 have aF:=(f.bk.gr p (o.ne 0 1 rfl rfl rfl));have aW:Bk a3 aE 78 #[.slice (some ⟨c,0,none⟩) 2 2,.slice (some ⟨a,0,none⟩) (((List.replicate (6:Int).toNat false).set b.toNat true).length) ((6:Int).toNat)]:=by have a5:=aF;simp only[List.length_set] at a5⊢;exact a5
 refine Af<|Ab<|Ae<|Aa<|wd rfl (fun st=>Bd (l:=[.slice (some ⟨c,0,none⟩) 2 2,.slice (some ⟨a,0,none⟩) (((List.replicate (6:Int).toNat false).set b.toNat true).length) ((6:Int).toNat)]) F5 (ee st rfl) aW rfl rfl) ?_;have aG:=(((((u.bk.ext q.gr).ext y).ext d.gr).gr f.gr (m.ne 3 0 rfl rfl rfl)).gr p (o.ne 3 1 rfl rfl rfl));refine Bh rfl rfl (fun st=>Bi (n:=2) (l:=[.slice (some ⟨c,0,none⟩) 2 2,.slice (some ⟨a,0,none⟩) (((List.replicate (6:Int).toNat false).set b.toNat true).length) ((6:Int).toNat)]) (B3:= #[.slice (some ⟨c,0,none⟩) 2 2,.slice (some ⟨a,0,none⟩) (((List.replicate (6:Int).toNat false).set b.toNat true).length) ((6:Int).toNat)]) (ee st rfl) (ee st rfl) GZ aG rfl rfl (show 0+2≤2 by decide) (AR rfl) rfl) ?_;rintro _ a6 g;have aB:=s.gr g.gr 3 rfl;refine Af<|Ab<|AH ?_;obtain rfl:=Option.some.inj j;refine Gn (v:=.agg #[.slice (some ⟨c,0,none⟩) 2 2,.slice (some ⟨a,0,none⟩) (((List.replicate (6:Int).toNat false).set b.toNat true).length) ((6:Int).toNat)]) rfl rfl (CX F5 g.bk rfl rfl) ?_;have aH:=(((((q.bk.ext y).ext d.gr).gr f.gr (m.ne 2 0 rfl rfl rfl)).gr p (o.ne 2 1 rfl rfl rfl)).gr g.gr (s.ne 2 3 rfl rfl rfl));have aC:AJ Bw 4 w.heap.size a6 (ZZ FN [] Z w.heap.size [some aE,some a,some c,some t]) (some ⟨a,0,none⟩) ((6:Int).toNat) ((List.replicate (6:Int).toNat false).set b.toNat true):=(aU.gr g.gr (fun k aT=>s.ne 1 3 rfl (congrArg some aT) rfl) (s.AK g.gr 3 rfl));exact⟨aB.Bt,⟨_,rfl,_,_,_,_,rfl,GF (e:=(AG .i64)) (xs:=[0,1]) (Bg:=[[I 0],[I 1]]) aH (.inr ⟨aD,fun hm=>aB.BC (F':=FN) (M:=[]) 2 rfl [] rfl trivial (fun _ h=>h.elim) (.inr hm)⟩) ⟨rfl,rfl,trivial⟩ rfl (Nat.le_refl _),aB.Js (M:=[]) 1 rfl [] rfl trivial aC⟩⟩
theorem Vk(aX:Nat)(g:List Ag)(a:Ag)(e:Ag)(j:Option Addr)(m:Nat)(Z:Nat→Prop)(w:World)(y:Sl By w Z j m g)(aI:Bool)(h:Gl aX g a e=some aI):
 BL Tryz.prog 84 #[.slice j g.length m,.agg #[I a.On,I a.AF,.bool a.Aq],.agg #[I e.On,I e.AF,.bool e.Aq]] w (fun v w'=>Ext w w'∧BQ.R w' (ZZ FN [] Z w.heap.size []) v aI):=by
 unfold Gl at h;refine Ba (N:=24) Tryz.func84 rfl rfl (by simp) ?_;intro a0 z a2;have o:=AO (i:=0) (v:=.slice j g.length m) z rfl;have aG:=AO (i:=1) (v:=.agg #[I a.On,I a.AF,.bool a.Aq]) z rfl;have aH:=AO (i:=2) (v:=.agg #[I e.On,I e.AF,.bool e.Aq]) z rfl;clear z;have aA:Hp FN [] w [] w:=Hp.start (BM.none w);have u:=y.mv (Bf (Z:=Z) (L:=[]) w);refine Ae<|Aa<|we rfl (fun st=>B1 (v:=.agg #[I a.On,I a.AF,.bool a.Aq]) (cs:= #[I a.On,I a.AF,.bool a.Aq]) (ee st aG) rfl) ?_;rintro _ w1 ⟨a3,rfl,s⟩;have aB:=aA.nb s;have aV:=aA.BN s;refine we rfl (fun st=>B1 (v:=.agg #[I e.On,I e.AF,.bool e.Aq]) (cs:= #[I e.On,I e.AF,.bool e.Aq]) (ee st aH) rfl) ?_;rintro _ w2 ⟨a4,rfl,q⟩;have x:=aB.nb q;have aW:=aB.BN q;refine wa rfl (v:=.bool false) rfl<|Af<|Ab<|Ae ?_;rcases Ao ((g.length:Int)==2) with d|d
 ·replace h:=Ay h d;replace h:=A8 h;obtain⟨i5,b,aC,aJ,aD,h⟩:=h;have p:=((u.mv (Ax s)).mv (Ax q));obtain⟨aK,aL,_,aE,rfl,aF⟩:=Sl.elem p (by decide) aJ;have t:=(s.bk.ext q.gr);rcases Ao (GX [.inl b.On,.inl b.AF,.inr b.Aq] [.inl a.On,.inl a.AF,.inr a.Aq]) with f|f
  ·replace h:=Ay h f;replace h:=A8 h;obtain⟨i7,n,aM,aN,aO,h⟩:=h;obtain⟨aY,aZ,_,aP,rfl,aQ⟩:=Sl.elem p (by decide) aN;refine CL 15 [Kc (.slice j g.length m),Kc (I (g.length:Int)),Kc (.bool ((g.length:Int)==2)),Kc (.bool ((g.length:Int)==2)),Kc (.slice j g.length m),Kc (pt aK (aL+i5*3)),Kc (.agg #[I b.On,I b.AF,.bool b.Aq]),Kc (.agg #[I a.On,I a.AF,.bool a.Aq]),Kc (.bool (GX [.inl b.On,.inl b.AF,.inr b.Aq] [.inl a.On,.inl a.AF,.inr a.Aq])),Kc (.bool (GX [.inl b.On,.inl b.AF,.inr b.Aq] [.inl a.On,.inl a.AF,.inr a.Aq])),Kc (.bool (GX [.inl b.On,.inl b.AF,.inr b.Aq] [.inl a.On,.inl a.AF,.inr a.Aq])),Kc (.slice j g.length m),Kc (pt aY (aZ+i7*3)),Kc (.agg #[I n.On,I n.AF,.bool n.Aq]),Kc (.agg #[I e.On,I e.AF,.bool e.Aq])] mixed rfl rfl
       (Ah (od rfl (fun _=>rfl) (fun K=>AV (es ((K.out 0 rfl).trans o))))
       (Ah (od rfl (fun _=>rfl) (fun K=>BD Tryz.underlying70 (es (K.AA 0 7 rfl rfl))))
       (Ah (od rfl (fun _=>rfl) (fun K=>B7 (es (K.AA 1 8 rfl rfl)) (ec (v:=I 2))))
       (Ah (od rfl (fun _=>rfl) (fun K=>AV (es (K.AA 2 9 rfl rfl))))
       (Ah (Bv rfl rfl rfl (fun _=>rfl) (fun a' w' ph K=>Ac (K.AA 3 10 rfl rfl) d) (fun a' w' ph K=>AV (es ((K.out 0 rfl).trans o))))
       (Ah (Bv rfl rfl rfl (fun _=>rfl) (fun a' w' ph K=>Ac (K.AA 3 10 rfl rfl) d) (fun a' w' ph K=>Bp (k:=i5) Tryz.underlying70 Em (es (K.AA 4 11 rfl rfl)) aE (ec (v:=I 0)) aC aD))
       (Ah (Bv rfl rfl rfl (fun _=>rfl) (fun a' w' ph K=>Ac (K.AA 3 10 rfl rfl) d) (fun a' w' ph K=>DH (l:=[I b.On,I b.AF,.bool b.Aq]) DW (es (K.AA 5 12 rfl rfl)) (aF.mv (Ai K.Bs)) rfl rfl))
       (Ah (Bv rfl rfl rfl (fun _=>rfl) (fun a' w' ph K=>Ac (K.AA 3 10 rfl rfl) d) (fun a' w' ph K=>Bd (l:=[I a.On,I a.AF,.bool a.Aq]) DW (es ((K.out 4 rfl).trans rfl)) (t.ext K.Bs) rfl rfl))
       (Ah (Bv rfl rfl rfl (fun _=>rfl) (fun a' w' ph K=>Ac (K.AA 3 10 rfl rfl) d) (fun a' w' ph K=>O3 (x1:=[.inl b.On,.inl b.AF,.inr b.Aq]) (x2:=[.inl a.On,.inl a.AF,.inr a.Aq]) JL KG (es (K.AA 6 13 rfl rfl)) (es (K.AA 7 14 rfl rfl)) rfl rfl rfl rfl))
       (Ah (od rfl (fun _=>rfl) (fun K=>AS (es (K.AA 3 10 rfl rfl)) d (es (K.AA 8 15 rfl rfl))))
       (Ah (od rfl (fun _=>rfl) (fun K=>AV (es (K.AA 9 16 rfl rfl))))
       (Ah (Bv rfl rfl rfl (fun _=>rfl) (fun a' w' ph K=>Ac (K.AA 10 17 rfl rfl) f) (fun a' w' ph K=>AV (es ((K.out 0 rfl).trans o))))
       (Ah (Bv rfl rfl rfl (fun _=>rfl) (fun a' w' ph K=>Ac (K.AA 10 17 rfl rfl) f) (fun a' w' ph K=>Bp (k:=i7) Tryz.underlying70 Em (es (K.AA 11 18 rfl rfl)) aP (ec (v:=I 1)) aM aO))
       (Ah (Bv rfl rfl rfl (fun _=>rfl) (fun a' w' ph K=>Ac (K.AA 10 17 rfl rfl) f) (fun a' w' ph K=>DH (l:=[I n.On,I n.AF,.bool n.Aq]) DW (es (K.AA 12 19 rfl rfl)) (aQ.mv (Ai K.Bs)) rfl rfl))
       (Ah (Bv rfl rfl rfl (fun _=>rfl) (fun a' w' ph K=>Ac (K.AA 10 17 rfl rfl) f) (fun a' w' ph K=>Bd (l:=[I e.On,I e.AF,.bool e.Aq]) DW (es ((K.out 5 rfl).trans rfl)) (q.bk.ext K.Bs) rfl rfl))
       (Cg _)))))))))))))))) ?_
   intro aR;rintro _ rfl _ rfl _ rfl _ rfl _ rfl _ rfl _ rfl _ rfl _ rfl _ rfl _ rfl _ rfl _ rfl _ rfl _ rfl r;have aS:=x.ext r;refine As rfl rfl (Ac rfl f) rfl (by decide) (fun st=>O3 (x1:=[.inl n.On,.inl n.AF,.inr n.Aq]) (x2:=[.inl e.On,.inl e.AF,.inr e.Aq]) JL KG (ee st rfl) (ee st rfl) rfl rfl rfl rfl)<|wd rfl (fun st=>AS (v:=.bool (GX [.inl n.On,.inl n.AF,.inr n.Aq] [.inl e.On,.inl e.AF,.inr e.Aq])) (ee st rfl) f (ee st rfl))<|wa rfl (v:=.bool (GX [.inl n.On,.inl n.AF,.inr n.Aq] [.inl e.On,.inl e.AF,.inr e.Aq])) rfl<|Af<|Ab<|AH ?_;obtain rfl:=Option.some.inj h;refine AP rfl rfl ?_;exact⟨aS.Bt,rfl⟩
  ·replace h:=Az h f;refine CL 15 [Kc (.slice j g.length m),Kc (I (g.length:Int)),Kc (.bool ((g.length:Int)==2)),Kc (.bool ((g.length:Int)==2)),Kc (.slice j g.length m),Kc (pt aK (aL+i5*3)),Kc (.agg #[I b.On,I b.AF,.bool b.Aq]),Kc (.agg #[I a.On,I a.AF,.bool a.Aq]),Kc (.bool (GX [.inl b.On,.inl b.AF,.inr b.Aq] [.inl a.On,.inl a.AF,.inr a.Aq])),Kc (.bool (GX [.inl b.On,.inl b.AF,.inr b.Aq] [.inl a.On,.inl a.AF,.inr a.Aq])),Kc (.bool (GX [.inl b.On,.inl b.AF,.inr b.Aq] [.inl a.On,.inl a.AF,.inr a.Aq])),Kc undef,Kc undef,Kc undef,Kc undef] mixed rfl rfl
       (Ah (od rfl (fun _=>rfl) (fun K=>AV (es ((K.out 0 rfl).trans o))))
       (Ah (od rfl (fun _=>rfl) (fun K=>BD Tryz.underlying70 (es (K.AA 0 7 rfl rfl))))
       (Ah (od rfl (fun _=>rfl) (fun K=>B7 (es (K.AA 1 8 rfl rfl)) (ec (v:=I 2))))
       (Ah (od rfl (fun _=>rfl) (fun K=>AV (es (K.AA 2 9 rfl rfl))))
       (Ah (Bv rfl rfl rfl (fun _=>rfl) (fun a' w' ph K=>Ac (K.AA 3 10 rfl rfl) d) (fun a' w' ph K=>AV (es ((K.out 0 rfl).trans o))))
       (Ah (Bv rfl rfl rfl (fun _=>rfl) (fun a' w' ph K=>Ac (K.AA 3 10 rfl rfl) d) (fun a' w' ph K=>Bp (k:=i5) Tryz.underlying70 Em (es (K.AA 4 11 rfl rfl)) aE (ec (v:=I 0)) aC aD))
       (Ah (Bv rfl rfl rfl (fun _=>rfl) (fun a' w' ph K=>Ac (K.AA 3 10 rfl rfl) d) (fun a' w' ph K=>DH (l:=[I b.On,I b.AF,.bool b.Aq]) DW (es (K.AA 5 12 rfl rfl)) (aF.mv (Ai K.Bs)) rfl rfl))
       (Ah (Bv rfl rfl rfl (fun _=>rfl) (fun a' w' ph K=>Ac (K.AA 3 10 rfl rfl) d) (fun a' w' ph K=>Bd (l:=[I a.On,I a.AF,.bool a.Aq]) DW (es ((K.out 4 rfl).trans rfl)) (t.ext K.Bs) rfl rfl))
       (Ah (Bv rfl rfl rfl (fun _=>rfl) (fun a' w' ph K=>Ac (K.AA 3 10 rfl rfl) d) (fun a' w' ph K=>O3 (x1:=[.inl b.On,.inl b.AF,.inr b.Aq]) (x2:=[.inl a.On,.inl a.AF,.inr a.Aq]) JL KG (es (K.AA 6 13 rfl rfl)) (es (K.AA 7 14 rfl rfl)) rfl rfl rfl rfl))
       (Ah (od rfl (fun _=>rfl) (fun K=>AS (es (K.AA 3 10 rfl rfl)) d (es (K.AA 8 15 rfl rfl))))
       (Ah (od rfl (fun _=>rfl) (fun K=>AV (es (K.AA 9 16 rfl rfl))))
       (Ah (BT (c:=false) rfl rfl rfl (by decide) (fun a' w' ph K=>Ac (K.AA 10 17 rfl rfl) f) (fun _=>rfl))
       (Ah (BT (c:=false) rfl rfl rfl (by decide) (fun a' w' ph K=>Ac (K.AA 10 17 rfl rfl) f) (fun _=>rfl))
       (Ah (BT (c:=false) rfl rfl rfl (by decide) (fun a' w' ph K=>Ac (K.AA 10 17 rfl rfl) f) (fun _=>rfl))
       (Ah (BT (c:=false) rfl rfl rfl (by decide) (fun a' w' ph K=>Ac (K.AA 10 17 rfl rfl) f) (fun _=>rfl))
       (Cg _)))))))))))))))) ?_
   intro aR;rintro _ rfl _ rfl _ rfl _ rfl _ rfl _ rfl _ rfl _ rfl _ rfl _ rfl _ rfl _ rfl _ rfl _ rfl _ rfl r;have aT:=x.ext r;refine Aj (c:=false) rfl rfl (Ac rfl f) (by decide) rfl (by decide)<|wd rfl (fun st=>Bu (v:=.bool false) (ee st rfl) f (ee st rfl))<|wa rfl (v:=.bool false) rfl<|Af<|Ab<|AH ?_;obtain rfl:=Option.some.inj h;refine AP rfl rfl ?_;exact⟨aT.Bt,rfl⟩
 ·replace h:=Az h d;refine CL 15 [Kc (.slice j g.length m),Kc (I (g.length:Int)),Kc (.bool ((g.length:Int)==2)),Kc (.bool ((g.length:Int)==2)),Kc undef,Kc undef,Kc undef,Kc undef,Kc undef,Kc (.bool false),Kc (.bool false),Kc undef,Kc undef,Kc undef,Kc undef] mixed rfl rfl
      (Ah (od rfl (fun _=>rfl) (fun K=>AV (es ((K.out 0 rfl).trans o))))
      (Ah (od rfl (fun _=>rfl) (fun K=>BD Tryz.underlying70 (es (K.AA 0 7 rfl rfl))))
      (Ah (od rfl (fun _=>rfl) (fun K=>B7 (es (K.AA 1 8 rfl rfl)) (ec (v:=I 2))))
      (Ah (od rfl (fun _=>rfl) (fun K=>AV (es (K.AA 2 9 rfl rfl))))
      (Ah (BT (c:=false) rfl rfl rfl (by decide) (fun a' w' ph K=>Ac (K.AA 3 10 rfl rfl) d) (fun _=>rfl))
      (Ah (BT (c:=false) rfl rfl rfl (by decide) (fun a' w' ph K=>Ac (K.AA 3 10 rfl rfl) d) (fun _=>rfl))
      (Ah (BT (c:=false) rfl rfl rfl (by decide) (fun a' w' ph K=>Ac (K.AA 3 10 rfl rfl) d) (fun _=>rfl))
      (Ah (BT (c:=false) rfl rfl rfl (by decide) (fun a' w' ph K=>Ac (K.AA 3 10 rfl rfl) d) (fun _=>rfl))
      (Ah (BT (c:=false) rfl rfl rfl (by decide) (fun a' w' ph K=>Ac (K.AA 3 10 rfl rfl) d) (fun _=>rfl))
      (Ah (od rfl (fun _=>rfl) (fun K=>Bu (es (K.AA 3 10 rfl rfl)) d (ec (v:=.bool false))))
      (Ah (od rfl (fun _=>rfl) (fun K=>AV (es (K.AA 9 16 rfl rfl))))
      (Ah (BT (c:=false) rfl rfl rfl (by decide) (fun a' w' ph K=>(show sl a' 17=.bool false from K.AA 10 17 rfl rfl)) (fun _=>rfl))
      (Ah (BT (c:=false) rfl rfl rfl (by decide) (fun a' w' ph K=>(show sl a' 17=.bool false from K.AA 10 17 rfl rfl)) (fun _=>rfl))
      (Ah (BT (c:=false) rfl rfl rfl (by decide) (fun a' w' ph K=>(show sl a' 17=.bool false from K.AA 10 17 rfl rfl)) (fun _=>rfl))
      (Ah (BT (c:=false) rfl rfl rfl (by decide) (fun a' w' ph K=>(show sl a' 17=.bool false from K.AA 10 17 rfl rfl)) (fun _=>rfl))
      (Cg _)))))))))))))))) ?_
  intro aR;rintro _ rfl _ rfl _ rfl _ rfl _ rfl _ rfl _ rfl _ rfl _ rfl _ rfl _ rfl _ rfl _ rfl _ rfl _ rfl r;have aU:=x.ext r;refine Aj rfl rfl rfl (by decide) rfl (by decide)<|wd rfl (fun st=>Bu (v:=.bool false) (ee st rfl) rfl (ee st rfl))<|wa rfl (v:=.bool false) rfl<|Af<|Ab<|AH ?_;obtain rfl:=Option.some.inj h;refine AP rfl rfl ?_;exact⟨aU.Bt,rfl⟩
theorem Vl(s:Nat)(a:CQ)(Z:Nat→Prop)(w:World)(j:CQ)(k:GG s a=some j):
 BL Tryz.prog 88 #[.agg #[I a.Lo,I a.Hi]] w (fun v w'=>Ext w w'∧(Dr Oj).R w' (ZZ FN [] Z w.heap.size []) v j):=by
 unfold GG at k;refine Ba (N:=8) Tryz.func88 rfl rfl (by simp) ?_;intro t m u;have h:=AO (i:=0) (v:=.agg #[I a.Lo,I a.Hi]) m rfl;clear m;have e:Hp FN [] w [] w:=Hp.start (BM.none w);refine Ae<|Aa<|we rfl (fun st=>B1 (v:=.agg #[I a.Lo,I a.Hi]) (cs:= #[I a.Lo,I a.Hi]) (ee st h) rfl) ?_;rintro _ w1 ⟨x,rfl,d⟩;have f:=e.nb d;have q:=e.BN d;refine we rfl (fun st=>BX (cs:= #[I 0,I 0]) Q9 rfl) ?_;rintro _ w2 ⟨y,rfl,b⟩;have o:=f.nb b;have r:=f.BN b;refine Af<|Ab<|Ae<|Aa<|wd rfl (fun st=>Ak (ee st rfl) (JJ _ _)) ?_;have c:=(d.bk.ext b.gr);refine wd rfl (fun st=>Au (v:=I a.Lo) AZ (ee st rfl) c rfl)<|wd rfl (fun st=>Ak (ee st rfl) (JI _ _))<|wd rfl (fun st=>Au (v:=I a.Hi) AZ (ee st rfl) c rfl)<|wd rfl (fun st=>CJ (vs:= #[(0,I a.Lo),(1,I a.Hi)]) (v:=.agg #[I a.Lo,I a.Hi]) (Iq (ee st rfl) (ee st rfl)) (by kernel_rfl))<|Bh rfl rfl (fun st=>Bi (n:=2) (l:=[I a.Lo,I a.Hi]) (B3:= #[I a.Lo,I a.Hi]) (ee st rfl) (ee st rfl) TA b.bk rfl rfl (show 0+2≤2 by decide) (AR rfl) rfl) ?_;rintro _ z g;have p:=o.gr g.gr 0 rfl;refine Af<|Ab<|AH ?_;obtain rfl:=Option.some.inj k;refine Gn (v:=.agg #[I a.Lo,I a.Hi]) rfl rfl (CX KF g.bk rfl rfl) ?_;exact⟨p.Bt,⟨_,rfl,rfl⟩⟩
theorem a31(bS:Nat)(a:Ar)(p:Option Addr)(q:Nat)(Z:Nat→Prop)(w:World)(bT:Sl AQ w Z p q a.Ad)(cJ:Ar)(m:EJ bS a=some cJ):
 BL Tryz.prog 31 #[.agg #[I a.Am,I a.An,I a.Ap,I a.AB,.slice p a.Ad.length q]] w (fun v w'=>Ext w w'∧(Dr Hu).R w' (ZZ FN [] Z w.heap.size []) v cJ):=by
 unfold EJ at m;refine Ba (N:=43) Tryz.func31 rfl rfl (by simp) ?_;intro c5 cK c6;have b6:=AO (i:=0) (v:=.agg #[I a.Am,I a.An,I a.Ap,I a.AB,.slice p a.Ad.length q]) cK rfl;clear cK;have b1:Hp FN [] w [] w:=Hp.start (BM.none w);have bE:=bT.mv (Bf (Z:=Z) (L:=[]) w);refine Ae<|Aa<|we rfl (fun st=>B1 (v:=.agg #[I a.Am,I a.An,I a.Ap,I a.AB,.slice p a.Ad.length q]) (cs:= #[I a.Am,I a.An,I a.Ap,I a.AB,.slice p a.Ad.length q]) (ee st b6) rfl) ?_;rintro _ w1 ⟨x,rfl,bA⟩;have b2:=b1.nb bA;have c0:=b1.BN bA;refine we rfl (fun st=>BX (cs:= #[I 0,I 0,I 0,I 0,.slice none 0 0]) Mc rfl) ?_;rintro _ w2 ⟨t,rfl,aX⟩;have b3:=b2.nb aX;have c1:=b2.BN aX;refine Af<|Ab<|Ae<|Aa<|wd rfl (fun st=>Ak (ee st rfl) (FY _ _)) ?_;have aD:=(bA.bk.ext aX.gr);refine wd rfl (fun st=>Au (v:=I a.Am) AZ (ee st rfl) aD rfl)<|wd rfl (fun st=>Ak (ee st rfl) (KE _ _))<|wd rfl (fun st=>Au (v:=I a.An) AZ (ee st rfl) aD rfl)<|wd rfl (fun st=>Ak (ee st rfl) (Mb _ _))<|wd rfl (fun st=>Au (v:=I a.Ap) AZ (ee st rfl) aD rfl)<|wd rfl (fun st=>Ak (ee st rfl) (KD _ _))<|wd rfl (fun st=>Au (v:=I a.AB) AZ (ee st rfl) aD rfl)<|wd rfl (fun st=>CJ (vs:= #[(0,I a.Am),(1,I a.An),(2,I a.Ap),(3,I a.AB)]) (v:=.agg #[I a.Am,I a.An,I a.Ap,I a.AB,.slice none 0 0]) (SU (ee st rfl) (ee st rfl) (ee st rfl) (ee st rfl)) (by kernel_rfl))<|we rfl (fun st=>BX (cs:= #[I 0,I 0,I 0,I 0,.slice none 0 0]) Mc rfl) ?_;rintro _ dB ⟨s,rfl,aQ⟩;have bB:=b3.nb aQ;have c2:=b3.BN aQ;refine Bh rfl rfl (fun st=>Bi (n:=5) (l:=[I a.Am,I a.An,I a.Ap,I a.AB,.slice none 0 0]) (B3:= #[I a.Am,I a.An,I a.Ap,I a.AB,.slice none 0 0]) (ee st rfl) (ee st rfl) Pt aQ.bk rfl rfl (show 0+5≤5 by decide) (AR rfl) rfl) ?_;rintro _ b7 aY;have cL:=bB.gr aY.gr 0 rfl;refine Af<|Ab<|Ae<|Ae<|Aa<|wa rfl (v:=I 0) rfl<|Af<|Ab<|A5 ?_;have cM:Hp FN [] w [none,some s,some t,some x] b7:=cL.nil;have cN:AJ AQ 156 w.heap.size b7 (ZZ FN [] Z w.heap.size [none,some s,some t,some x]) none 0 ([]:List Bb):=AJ.nil _ _ _ _ _;replace m:=bind_some m;obtain⟨z5,aR,m⟩:=m;refine Cf (fun cO z aJ=>(cO=.exit 0∧∃c g,z.tmps.size=43∧z.defers=(X0).ds∧sl z 2=pt t 0∧sl z 3=pt s 0∧Hp FN [] w [ob c,some s,some t,some x] aJ∧AJ AQ 156 w.heap.size aJ (ZZ FN [] Z w.heap.size [ob c,some s,some t,some x]) c g z5∧Bk aJ t 75 #[I 0,I 0,I 0,I 0,.slice none 0 0]∧Bk aJ s 75 #[I a.Am,I a.An,I a.Ap,I a.AB,.slice c z5.length g])) ?cP ?cQ
 case cP=>
  clear m;refine Ce (fun(b8:Nat) (z:Act) (aJ:World)=>∃y,∃j,∃f o,DL bS a b8 y j=some z5∧z.tmps.size=43∧z.defers=(X0).ds∧sl z 1=pt x 0∧sl z 2=pt t 0∧sl z 3=pt s 0∧sl z 4=I y∧Hp FN [] w [ob f,some s,some t,some x] aJ∧AJ AQ 156 w.heap.size aJ (ZZ FN [] Z w.heap.size [ob f,some s,some t,some x]) f o j∧Bk aJ x 63 #[I a.Am,I a.An,I a.Ap,I a.AB,.slice p a.Ad.length q]∧Bk aJ t 75 #[I 0,I 0,I 0,I 0,.slice none 0 0]∧Bk aJ s 75 #[I a.Am,I a.An,I a.Ap,I a.AB,.slice f j.length o]∧Sl AQ aJ (ZZ FN [] Z w.heap.size [ob f,some s,some t,some x]) p q a.Ad) bS ?cR ?cS
  case cR=>
   intro st;have bU:=((aD.ext aQ.gr).gr aY.gr (bB.ne 2 0 rfl rfl rfl));have bV:=((aX.bk.ext aQ.gr).gr aY.gr (bB.ne 1 0 rfl rfl rfl));have bW:=aY.bk;have bF:Sl AQ b7 (ZZ FN [] Z w.heap.size [none,some s,some t,some x]) p q a.Ad:=(((((bE.mv (Ax bA)).mv (Ax aX)).mv (Ax aQ)).mv (bB.AK aY.gr 0 rfl)).mv Co);exact⟨(0:Int),([]:List Bb),none,0,aR,qz st,qd st,sp st 1 rfl,sp st 2 rfl,sp st 3 rfl,sp st 4 rfl,cM,cN,bU,bV,bW,bF⟩
  case cS=>
   rintro(_|b8) c7 c8 ⟨y,j,f,o,aR,b9,cA,aS,bC,aI,aT,bH,aE,aK,aZ,a0,aL⟩
   ·exact absurd (show none=some _ from aR) (by simp)
   rw[DL.eq_2] at aR;have m:=aR;clear aR;refine BZ (N:=43) b9 cA<|Ae<|Ae<|Aa<|wm rfl (v:=I y) aT<|wd rfl (fun st=>Ak (ee st aS) (DX _ _))<|wd rfl (fun st=>Au (v:=.slice p a.Ad.length q) En (ee st rfl) aK rfl)<|wd rfl (fun st=>BD Tryz.underlying61 (ee st rfl))<|wd rfl (fun st=>B8 (ee st rfl) (ee st rfl))<|Af<|Ab ?_;rcases Ao (decide (y<(a.Ad.length:Int))) with a2|a2
   ·replace m:=Ay m a2;refine Av rfl a2<|AT<|Ab<|Ae<|A5<|Ae<|Aa<|wd rfl (fun st=>Ak (ee st aS) (DX _ _))<|wd rfl (fun st=>Au (v:=.slice p a.Ad.length q) En (ee st rfl) aK rfl)<|wm rfl (v:=I y) aT ?_;replace m:=A8 m;obtain⟨i8,b,cT,cU,cV,m⟩:=m;obtain⟨dC,dD,_,cW,rfl,cX⟩:=Sl.elem aL (by decide) cU;refine wd rfl (fun st=>Bp (k:=i8) Tryz.underlying61 F4 (ee st rfl) cW (ee st rfl) cT cV)<|wd rfl (fun st=>DH (l:=[I b.AD,I b.AM,I b.Aq,I b.BY,I b.Cr]) Oz (ee st rfl) cX rfl rfl)<|we rfl (fun st=>BX (cs:= #[I 0,I 0,I 0,I 0,I 0]) NJ rfl) ?_;rintro _ dE ⟨aU,rfl,aF⟩;have aM:=bH.nb aF;have c3:=bH.BN aF;refine Bh rfl rfl (fun st=>Bi (n:=5) (l:=[I b.AD,I b.AM,I b.Aq,I b.BY,I b.Cr]) (B3:= #[I b.AD,I b.AM,I b.Aq,I b.BY,I b.Cr]) (ee st rfl) (ee st rfl) F4 aF.bk rfl rfl (show 0+5≤5 by decide) (AR rfl) rfl) ?_;rintro _ c9 r;have b4:=aM.gr r.gr 0 rfl;refine Af<|Ab ?_;have bD:=((a0.ext aF.gr).gr r.gr (aM.ne 2 0 rfl rfl rfl));replace m:=bind_some m;obtain⟨d,cB,m⟩:=m;refine CL 13 [Kc (pt s 4),Kc (.slice f j.length o),Kc (pt aU 0),Kc (.agg #[I b.AD,I b.AM]),Kc (.agg #[I d.Lo,I d.Hi]),Kc (pt aU 2),Kc (I b.Aq),Kc (pt aU 3),Kc (I b.BY),Kc (pt aU 4),Kc (I b.Cr),Kc (.agg #[I d.Lo,I d.Hi,I b.Aq,I b.BY,I b.Cr]),Kv (Fv AQ) (ZZ FN [] Z w.heap.size [some aU,ob f,some s,some t,some x]) [(⟨d.Lo,d.Hi,b.Aq,b.BY,b.Cr⟩:Bb)]] mixed rfl rfl
        (Ah (od rfl (fun _=>rfl) (fun K=>Ak (es ((K.out 3 rfl).trans aI)) (CZ _ _)))
        (Ah (od rfl (fun _=>rfl) (fun K=>Au Dn (es (K.AA 0 27 rfl rfl)) (bD.ext K.Bs) rfl))
        (Ah (od rfl (fun _=>rfl) (fun K=>Ak (es ((K.out 5 rfl).trans rfl)) (IE _ _)))
        (Ah (od rfl (fun _=>rfl) (fun K=>Bd (l:=[I b.AD,I b.AM]) Oy (es (K.AA 2 29 rfl rfl)) (r.bk.ext K.Bs) rfl rfl))
        (Ah (EV rfl rfl (fun a' w' ph K=>(AN TB rfl (CK (es (K.AA 3 30 rfl rfl))) (Vl bS (⟨b.AD,b.AM⟩:CQ) ZA _ d cB)).mono (fun _ _ h=>⟨(by obtain⟨_,rfl,rfl⟩:=h.2;rfl),h.1⟩)))
        (Ah (od rfl (fun _=>rfl) (fun K=>Ak (es ((K.out 5 rfl).trans rfl)) (NK _ _)))
        (Ah (od rfl (fun _=>rfl) (fun K=>Au AZ (es (K.AA 5 32 rfl rfl)) (r.bk.ext K.Bs) rfl))
        (Ah (od rfl (fun _=>rfl) (fun K=>Ak (es ((K.out 5 rfl).trans rfl)) (NL _ _)))
        (Ah (od rfl (fun _=>rfl) (fun K=>Au AZ (es (K.AA 7 34 rfl rfl)) (r.bk.ext K.Bs) rfl))
        (Ah (od rfl (fun _=>rfl) (fun K=>Ak (es ((K.out 5 rfl).trans rfl)) (NM _ _)))
        (Ah (od rfl (fun _=>rfl) (fun K=>Au AZ (es (K.AA 9 36 rfl rfl)) (r.bk.ext K.Bs) rfl))
        (Ah (od rfl (fun _=>rfl) (fun K=>CJ (vs:= #[(0,.agg #[I d.Lo,I d.Hi]),(1,I b.Aq),(2,I b.BY),(3,I b.Cr)]) (v:=.agg #[I d.Lo,I d.Hi,I b.Aq,I b.BY,I b.Cr]) (SU (es (K.AA 4 31 rfl rfl)) (es (K.AA 6 33 rfl rfl)) (es (K.AA 8 35 rfl rfl)) (es (K.AA 10 37 rfl rfl))) (by kernel_rfl)))
        (Ah (EV rfl rfl (fun a' w' ph K=>(BW (e:=156) (vs:= #[(0,.agg #[I d.Lo,I d.Hi,I b.Aq,I b.BY,I b.Cr])]) (cs:= #[I d.Lo,I d.Hi,I b.Aq,I b.BY,I b.Cr]) (HU (es (K.AA 11 38 rfl rfl))) (by kernel_rfl)).mono (fun u Bz ⟨dF,hu,bX⟩=>⟨⟨_,_,hu,GF (xs:=[(⟨d.Lo,d.Hi,b.Aq,b.BY,b.Cr⟩:Bb)]) (Bg:=[[I d.Lo,I d.Hi,I b.Aq,I b.BY,I b.Cr]]) bX.bk ((b4.ext K.Bs).kn (Nat.le_of_eq bX.ET.symm)) (R2.mv (Ai bX.gr) (show R2 AQ w' (ZZ FN [] Z w.heap.size [some aU,ob f,some s,some t,some x]) [[I d.Lo,I d.Hi,I b.Aq,I b.BY,I b.Cr]] [(⟨d.Lo,d.Hi,b.Aq,b.BY,b.Cr⟩:Bb)] from⟨rfl,trivial⟩)) rfl (Nat.le_refl _)⟩,bX.gr⟩)))
        (Cg _)))))))))))))) ?_
    intro cY;rintro _ rfl _ rfl _ rfl _ rfl _ rfl _ rfl _ rfl _ rfl _ rfl _ rfl _ rfl _ rfl _ ⟨cH,cI,rfl,a6⟩ aB;have aN:=b4.ext aB;have a3:AJ AQ 156 w.heap.size cY (ZZ FN [] Z w.heap.size [some aU,ob f,some s,some t,some x]) f o j:=(((aE.ext aF.gr (Ax aF)).gr r.gr (fun k aV=>aM.ne 1 0 rfl (congrArg some aV) rfl) (aM.AK r.gr 0 rfl)).ext aB (Ai aB));replace m:=Cz m;obtain⟨bI,m⟩:=m;refine we rfl (fun st=>Hr (ys:=[(⟨d.Lo,d.Hi,b.Aq,b.BY,b.Cr⟩:Bb)]) Tryz.underlying73 Ra rfl rfl (by decide) (ee st rfl) rfl (ee st rfl) a3 a6.n (by have:=bI;simp only[maxLen];omega) (by have:=bI;omega) aN.sz) ?_;rintro _ b5 ⟨aA,a4,rfl,aG,a7,cC⟩;have aH:Hp FN [] w [some aU,ob aA,some s,some t,some x] b5:=aN.row aG 1 rfl a7;have cD:AJ AQ 156 w.heap.size b5 (ZZ FN [] Z w.heap.size [some aU,ob aA,some s,some t,some x]) aA a4 (j++[(⟨d.Lo,d.Hi,b.Aq,b.BY,b.Cr⟩:Bb)]):=F9 cC (aN.E5 aG 1 rfl (fun k aV=>(a7 k aV).1));refine wd rfl (fun st=>Ak (ee st aI) (CZ _ _)) ?_;have bJ:=((bD.ext aB).gr aG (aN.ne 2 1 rfl rfl rfl));refine Bh rfl rfl (fun st=>Bi (n:=1) (l:=[.slice aA ((j++[(⟨d.Lo,d.Hi,b.Aq,b.BY,b.Cr⟩:Bb)]).length) a4]) (B3:= #[I a.Am,I a.An,I a.Ap,I a.AB,.slice aA ((j++[(⟨d.Lo,d.Hi,b.Aq,b.BY,b.Cr⟩:Bb)]).length) a4]) (ee st rfl) (ee st rfl) UC bJ rfl rfl (show 4+1≤5 by decide) (AR rfl) rfl) ?_;rintro _ bK aC;have cE:=aH.gr aC.gr 2 rfl;refine Af<|Be<|Ab<|Aa<|wm rfl (v:=I y) aT ?_;replace m:=AU m;obtain⟨cF,m⟩:=m;refine wd rfl (fun st=>Br (ee st rfl) (ee st rfl) cF)<|wa rfl (v:=I (y+1)) rfl<|Af ?_;have cG:Hp FN [] w [ob aA,some s,some t,some x] bK:=cE.erase 0;have bG:AJ AQ 156 w.heap.size bK (ZZ FN [] Z w.heap.size [ob aA,some s,some t,some x]) aA a4 (j++[(⟨d.Lo,d.Hi,b.Aq,b.BY,b.Cr⟩:Bb)]):=((cD.gr aC.gr (fun k aV=>aH.ne 1 2 rfl (congrArg some aV) rfl) (aH.AK aC.gr 2 rfl)).up (AW 0));have bL:=(((((aK.ext aF.gr).gr r.gr (aM.ne 4 0 rfl rfl rfl)).ext aB).gr aG (aN.ne 4 1 rfl rfl rfl)).gr aC.gr (aH.ne 4 2 rfl rfl rfl));have bM:=(((((aZ.ext aF.gr).gr r.gr (aM.ne 3 0 rfl rfl rfl)).ext aB).gr aG (aN.ne 3 1 rfl rfl rfl)).gr aC.gr (aH.ne 3 2 rfl rfl rfl));have bN:=aC.bk;have a8:Sl AQ bK (ZZ FN [] Z w.heap.size [ob aA,some s,some t,some x]) p q a.Ad:=((((((aL.mv (Ax aF)).mv (aM.AK r.gr 0 rfl)).mv (Ai aB)).mv (aN.E5 aG 1 rfl (fun k aV=>(a7 k aV).1))).mv (aH.AK aC.gr 2 rfl)).mv (AW 0));refine Bl b8 (Nat.lt_succ_self _) (fun st=>?_);exact⟨(y+1),(j++[(⟨d.Lo,d.Hi,b.Aq,b.BY,b.Cr⟩:Bb)]),aA,a4,m,qz st,qd st,sp st 1 aS,sp st 2 bC,sp st 3 aI,sp st 4 rfl,cG,bG,bL,bM,bN,a8⟩
   ·replace m:=Az m a2;refine AE rfl a2<|B2<|AI<|AI ?_;obtain rfl:=Option.some.inj m;refine BR (fun st=>?_);exact⟨rfl,f,o,qz st,qd st,sp st 2 bC,sp st 3 aI,bH,aE,aZ,a0⟩
 case cQ=>
  rintro cO c4 dA (⟨rfl,c,g,bY,bZ,a5,bO,a9,aO,bP,bQ⟩);refine B9 (X:=X0) (N:=43) bY bZ<|Bo<|Ab<|Ae<|Aa<|wd rfl (fun st=>Bd (l:=[I a.Am,I a.An,I a.Ap,I a.AB,.slice c z5.length g]) CI (ee st bO) bQ rfl rfl)<|Bh rfl rfl (fun st=>Bi (n:=5) (l:=[I a.Am,I a.An,I a.Ap,I a.AB,.slice c z5.length g]) (B3:= #[I a.Am,I a.An,I a.Ap,I a.AB,.slice c z5.length g]) (ee st a5) (ee st rfl) Pt bP rfl rfl (show 0+5≤5 by decide) (AR rfl) rfl) ?_;rintro _ cZ aW;have bR:=a9.gr aW.gr 2 rfl;refine Af<|Ab<|AH ?_;obtain rfl:=Option.some.inj m;refine Gn (v:=.agg #[I a.Am,I a.An,I a.Ap,I a.AB,.slice c z5.length g]) rfl a5 (CX CI aW.bk rfl rfl) ?_;have aP:AJ AQ 156 w.heap.size cZ (ZZ FN [] Z w.heap.size [ob c,some s,some t,some x]) c g z5:=(aO.gr aW.gr (fun k aV=>a9.ne 0 2 rfl (congrArg some aV) rfl) (a9.AK aW.gr 2 rfl));exact⟨bR.Bt,⟨_,rfl,_,_,rfl,bR.Js (M:=[]) 0 rfl [] rfl trivial aP⟩⟩
theorem Vm(m:Nat)(a:Ar)(b:Option Addr)(c:Nat)(Z:Nat→Prop)(w:World)(h:Sl AQ w Z b c a.Ad)(n:Int)(e:Fc m a=some n):
 BL Tryz.prog 34 #[.agg #[I a.Am,I a.An,I a.Ap,I a.AB,.slice b a.Ad.length c]] w (fun v w'=>Ext w w'∧(Fy .i64).R w' (ZZ FN [] Z w.heap.size []) v n):=by
 unfold Fc at e;refine Ba (N:=5) Tryz.func34 rfl rfl (by simp) ?_;intro u o x;have k:=AO (i:=0) (v:=.agg #[I a.Am,I a.An,I a.Ap,I a.AB,.slice b a.Ad.length c]) o rfl;clear o;have j:Hp FN [] w [] w:=Hp.start (BM.none w);have f:=h.mv (Bf (Z:=Z) (L:=[]) w);refine Ae<|Aa<|we rfl (fun st=>B1 (v:=.agg #[I a.Am,I a.An,I a.Ap,I a.AB,.slice b a.Ad.length c]) (cs:= #[I a.Am,I a.An,I a.Ap,I a.AB,.slice b a.Ad.length c]) (ee st k) rfl) ?_;rintro _ w1 ⟨y,rfl,d⟩;have p:=j.nb d;have t:=j.BN d;refine wa rfl (v:=I 0) rfl<|Af<|Ab<|Ae<|Aa<|wd rfl (fun st=>Bd (l:=[I a.Am,I a.An,I a.Ap,I a.AB,.slice b a.Ad.length c]) FE (ee st rfl) d.bk rfl rfl) ?_;have g:=(f.mv (Ax d));replace e:=bind_some e;obtain⟨r2,q,e⟩:=e;refine we rfl (fun st=>AN Qf (ee st rfl) (CK (ee st rfl)) (UO m a b c ZA _ g.all r2 q)) ?_;rintro _ z ⟨r,rfl⟩;have s:=p.ext r;refine wa rfl (v:=I r2) rfl<|Af<|Ab<|AH ?_;obtain rfl:=Option.some.inj e;refine AP rfl rfl ?_;exact⟨s.Bt,rfl⟩
theorem Vn(u:Nat)(a:Ar)(d:Option Addr)(e:Nat)(Z:Nat→Prop)(w:World)(o:Sl AQ w Z d e a.Ad)(z:Bool)(f:FD u a=some z):
 BL Tryz.prog 27 #[.agg #[I a.Am,I a.An,I a.Ap,I a.AB,.slice d a.Ad.length e]] w (fun v w'=>Ext w w'∧BQ.R w' (ZZ FN [] Z w.heap.size []) v z):=by
 unfold FD at f;refine Ba (N:=17) Tryz.func27 rfl rfl (by simp) ?_;intro aG aA aH;have x:=AO (i:=0) (v:=.agg #[I a.Am,I a.An,I a.Ap,I a.AB,.slice d a.Ad.length e]) aA rfl;clear aA;have r:Hp FN [] w [] w:=Hp.start (BM.none w);have k:=o.mv (Bf (Z:=Z) (L:=[]) w);refine Ae<|Aa<|we rfl (fun st=>B1 (v:=.agg #[I a.Am,I a.An,I a.Ap,I a.AB,.slice d a.Ad.length e]) (cs:= #[I a.Am,I a.An,I a.Ap,I a.AB,.slice d a.Ad.length e]) (ee st x) rfl) ?_;rintro _ w1 ⟨aI,rfl,h⟩;have s:=r.nb h;have aF:=r.BN h;refine wa rfl (v:=.bool false) rfl<|Af<|Ab<|Ae<|Aa<|wd rfl (fun st=>Ak (ee st rfl) (DX _ _))<|wd rfl (fun st=>Au (v:=.slice d a.Ad.length e) En (ee st rfl) h.bk rfl)<|wd rfl (fun st=>BD Tryz.underlying61 (ee st rfl))<|wd rfl (fun st=>E9 (ee st rfl) (ee st rfl))<|wm rfl (v:=.bool (decide ((a.Ad.length:Int)≤6))) rfl ?_;rcases Ao (decide ((a.Ad.length:Int)≤6)) with b|b
 ·replace f:=Ay f b;refine As rfl rfl (Ac rfl b) rfl (by decide) (fun st=>Bd (l:=[I a.Am,I a.An,I a.Ap,I a.AB,.slice d a.Ad.length e]) FE (ee st rfl) h.bk rfl rfl) ?_;have j:=(k.mv (Ax h));replace f:=bind_some f;obtain⟨y,aB,f⟩:=f;refine Ct rfl rfl (Ac rfl b) rfl (by decide) (fun st=>AN Qf (ee st rfl) (CK (ee st rfl)) (UO u a d e ZA _ j.all y aB)) ?_;rintro _ aJ ⟨n,rfl⟩;have t:=s.ext n;refine As rfl rfl (Ac rfl b) rfl (by decide) (fun st=>EP (ee st rfl) (ee st rfl))<|As rfl rfl (Ac rfl b) rfl (by decide) (fun st=>AV (v:=.bool (y !=0)) (ee st rfl)) ?_;rcases Ao (y !=0) with g|g
  ·replace f:=Ay f g;refine Aj (c:=true) rfl rfl (Ac rfl g) (by decide) rfl (by decide)<|Aj (c:=true) rfl rfl (Ac rfl g) (by decide) rfl (by decide)<|Aj (c:=true) rfl rfl (Ac rfl g) (by decide) rfl (by decide)<|As rfl rfl (Ac rfl b) rfl (by decide) (fun st=>AS (v:=.bool true) (ee st rfl) g (ee st rfl))<|wd rfl (fun st=>AS (v:=.bool true) (ee st rfl) b (ee st rfl))<|wa rfl (v:=.bool true) rfl<|Af<|Ab<|AH ?_;obtain rfl:=Option.some.inj f;refine AP rfl rfl ?_;exact⟨t.Bt,rfl⟩
  ·replace f:=Az f g;have p:=(h.bk.ext n);refine As rfl rfl (Ac rfl g) rfl (by decide) (fun st=>Bd (l:=[I a.Am,I a.An,I a.Ap,I a.AB,.slice d a.Ad.length e]) FE (ee st rfl) p rfl rfl) ?_;have m:=(j.mv (Ai n));replace f:=bind_some f;obtain⟨q,aC,f⟩:=f;refine Ct rfl rfl (Ac rfl g) rfl (by decide) (fun st=>AN Qe (ee st rfl) (CK (ee st rfl)) (UN u a d e ZA _ m.all q aC)) ?_;rintro _ aK ⟨aD,rfl⟩;have aE:=t.ext aD;refine As rfl rfl (Ac rfl g) rfl (by decide) (fun st=>E9 (ee st rfl) (ee st rfl))<|As rfl rfl (Ac rfl b) rfl (by decide) (fun st=>Bu (v:=.bool (decide (q≤60))) (ee st rfl) g (ee st rfl))<|wd rfl (fun st=>AS (v:=.bool (decide (q≤60))) (ee st rfl) b (ee st rfl))<|wa rfl (v:=.bool (decide (q≤60))) rfl<|Af<|Ab<|AH ?_;obtain rfl:=Option.some.inj f;refine AP rfl rfl ?_;exact⟨aE.Bt,rfl⟩
 ·replace f:=Az f b;refine Aj (c:=false) rfl rfl (Ac rfl b) (by decide) rfl (by decide)<|Aj (c:=false) rfl rfl (Ac rfl b) (by decide) rfl (by decide)<|Aj (c:=false) rfl rfl (Ac rfl b) (by decide) rfl (by decide)<|Aj (c:=false) rfl rfl (Ac rfl b) (by decide) rfl (by decide)<|G0 rfl rfl rfl rfl (by decide)<|G0 rfl rfl rfl rfl (by decide)<|G0 rfl rfl rfl rfl (by decide)<|Aj (c:=false) rfl rfl (Ac rfl b) (by decide) rfl (by decide)<|wd rfl (fun st=>Bu (v:=.bool false) (ee st rfl) b (ee st rfl))<|wa rfl (v:=.bool false) rfl<|Af<|Ab<|AH ?_;obtain rfl:=Option.some.inj f;refine AP rfl rfl ?_;exact⟨s.Bt,rfl⟩
end Go.Proofs.YtkljfdkmjdjpfaaGreat
end
