import Derived.Test.YtkljfdkmjdjpfaaGreatBB2
import Derived.WalkKit
import Derived.KernelRfl
import Derived.WalkSpells
import Derived.WalkLawsBesides
import Derived.Maps.AppendAt
import Derived.OrdersIn
import Derived.RangeFuncIn
import Derived.RangeFuncLeaves
import Derived.RangeFuncRecord
import Derived.RangeFuncSeq
import Derived.Scope
import Derived.DeepKeys3
import Derived.Laws.CopyRow
import Derived.Laws.OwnMore
import Derived.Laws.MakeOwn
import Derived.Laws.IdiomCopy
import Derived.Test.YtkljfdkmjdjpfaaGreatProg
/-
  The contracts of the functions of the program and of the reference, and the logic that they are proved in: the base that several claims of this seat share.
-/
set_option linter.all false
section
namespace Go.Proofs.YtkljfdkmjdjpfaaGreat
theorem Q7(n:Nat)(h:n<64):LB .u64 (n:Int)=some ():=by
 refine if_pos ?_;show(n:Int)%(2^64:Int)=n;rw[show(2:Int)^64=18446744073709551616 from rfl];omega
theorem MT(K b d:Nat)(h:d<64):D6 K (b:Int) (d:Int)=some (b.testBit d):=by
 unfold D6;rw[bd (Q7 d h),bd (P0 b d h),Ks (TF b d) (by omega),PZ]
def lead:List Bool→Nat
 |true::l=>lead l+1
 |_=>0
def GS(R:Int):List Bool→Bool
 |[]=>true
 |b::l=>decide ((lead (b::l):Int)≤R)&&GS R l
def IQ:List Bool→Nat
 |[]=>0
 |b::l=>(cond b 1 0)+IQ l
theorem Lk(r:Nat)(l:List Bool):lead (List.replicate r true++l)=r+lead l:=by
 induction r with
 |zero=>simp
 |succ r ih=>rw[List.replicate_succ,List.cons_append,lead,ih];omega
theorem MG(R:Int)(l:List Bool):∀r:Nat,(r:Int)≤R→GS R (List.replicate r true++false::l)=(decide (0≤R)&&GS R l)
 |0,_=>rfl
 |r+1,h=>by
  rw[List.replicate_succ,List.cons_append,GS,MG R l r (by omega)];have:lead (true::(List.replicate r true++false::l))=r+1:=by
   rw[lead,Lk];rfl
  rw[this,dt (by omega),Bool.true_and]
theorem NH(W R:Int)(b:0≤R):∀(l:List Bool) (s:Int) (r:Nat),s≤W→(r:Int)≤R→okW W R l s r=(decide (s+(IQ l:Int)≤W)&&GS R (List.replicate r true++l))
 |[],s,r,c,a=>by
  have:∀q:Nat,(q:Int)≤R→GS R (List.replicate q true)=true:=by
   intro q
   induction q with
   |zero=>intro _;rfl
   |succ q ih=>
    intro f;have e:=Lk (q+1) [];rw[List.append_nil,List.replicate_succ] at e;have g:lead ([]:List Bool)=0:=rfl;rw[List.replicate_succ,GS,e,ih (by omega),dt (by omega)];rfl
  rw[List.append_nil,this r a,okW,dt (by unfold IQ;omega)];rfl
 |false::l,s,r,c,a=>by
  rw[okW,MG R l r a,dt b,Bool.true_and];have:=NH W R b l s 0 c (by omega);rw[Int.natCast_zero] at this;rw[this,IQ];simp
 |true::l,s,r,c,a=>by
  rw[okW];have e:List.replicate r true++true::l=List.replicate (r+1) true++l:=by
   rw[List.replicate_succ'];simp
  rw[e]
  by_cases h1:s+1≤W
  ·by_cases d:(r:Int)+1≤R
   ·rw[dt h1,dt d,Bool.true_and,Bool.true_and,DG,NH W R b l (s+1) (r+1) h1 (by omega)]
    congr 2
    rw[IQ];simp;omega
   ·rw[df d,Bool.false_and,Bool.and_false];have:GS R (List.replicate (r+1) true++l)=false:=by
     rw[List.replicate_succ,List.cons_append,GS];have e:=Lk (r+1) l;rw[List.replicate_succ,List.cons_append] at e;rw[e,df (by omega)];rfl
    rw[this,Bool.and_false]
  ·rw[df h1,Bool.false_and];have:¬(s+(IQ (true::l):Int)≤W):=by rw[IQ];simp;omega
   rw[df this];rfl
theorem KS(n b i:Nat)(h:i<n):(wl n b).drop i=b.testBit i::(wl n b).drop (i+1):=by
 rw[List.drop_eq_getElem_cons (by rw[FF];exact h)]
 congr 1
 simp[wl]
theorem TP(K:Nat)(y:Ar)(b a:Nat)(h0:0≤y.Am)(h9:y.Am≤9)(d:0≤y.AA)(f:y.AA≤y.Am+1)(i:a≤9):∀(k m e:Nat) (g:Bool),(a:Int)+y.AA+1=e+k→k<m→
  Cw K y b (a:Int) m g (e:Int)=some (g&&decide (k≤lead ((wl (days y) b).drop e))):=by
 intro k
 induction k with
 |zero=>
  intro m e g h hm;cases m with
  |zero=>omega
  |succ m=>rw[Cw.eq_2,BJ (by omega) (by omega),cf (df (by omega)),dt (Nat.zero_le _),Bool.and_true]
 |succ k ih=>
  intro m e g h hm;cases m with
  |zero=>omega
  |succ m=>
   rw[Cw.eq_2,BJ (by omega) (by omega),ct (dt (by omega))];cases g with
   |false=>
    rw[cf rfl,BJ (by omega) (by omega),DG,ih m (e+1) false (by omega) (by omega)];rfl
   |true=>
    rw[ct rfl,Bool.true_and]
    by_cases c:(e:Int)≤y.Am
    ·rw[ct (dt c),bd (MT K b e (by omega)),BJ (by omega) (by omega),DG,ih m (e+1) _ (by omega) (by omega),KS (days y) b e (by unfold days;omega)];cases b.testBit e with
     |false=>
      rw[Bool.false_and,df (show¬(k+1≤lead (false::_)) by show¬(k+1≤0);omega)]
     |true=>
      rw[Bool.true_and]
      congr 1
      rw[Bool.eq_iff_iff,decide_eq_true_eq,decide_eq_true_eq];show _↔k+1≤lead _+1;omega
    ·rw[cf (df c),BJ (by omega) (by omega),DG,ih m (e+1) false (by omega) (by omega),show(wl (days y) b).drop e=[] from List.drop_eq_nil_of_le (by rw[FF];unfold days;omega)];rw[Bool.false_and,df (show¬(k+1≤lead []) by show¬(k+1≤0);omega)]
theorem Sd(K:Nat)(y:Ar)(b a:Nat)(h0:0≤y.Am)(h9:y.Am≤9)(d:0≤y.AA)(f:y.AA≤y.Am+1)(i:a≤9):∀(k m e:Nat) (g:Bool),(a:Int)+y.AA+1=e+k→k<m→
  Cs K y b (a:Int) m g (e:Int)=some (g&&decide (k≤lead ((wl (days y) b).drop e))):=by
 intro k
 induction k with
 |zero=>
  intro m e g h hm;cases m with
  |zero=>omega
  |succ m=>rw[Cs.eq_2,BJ (by omega) (by omega),cf (df (by omega)),dt (Nat.zero_le _),Bool.and_true]
 |succ k ih=>
  intro m e g h hm;cases m with
  |zero=>omega
  |succ m=>
   rw[Cs.eq_2,BJ (by omega) (by omega),ct (dt (by omega))];cases g with
   |false=>
    rw[cf rfl,BJ (by omega) (by omega),DG,ih m (e+1) false (by omega) (by omega)];rfl
   |true=>
    rw[ct rfl,Bool.true_and]
    by_cases c:(e:Int)≤y.Am
    ·rw[ct (dt c),bd (MT K b e (by omega)),BJ (by omega) (by omega),DG,ih m (e+1) _ (by omega) (by omega),KS (days y) b e (by unfold days;omega)];cases b.testBit e with
     |false=>
      rw[Bool.false_and,df (show¬(k+1≤lead (false::_)) by show¬(k+1≤0);omega)]
     |true=>
      rw[Bool.true_and]
      congr 1
      rw[Bool.eq_iff_iff,decide_eq_true_eq,decide_eq_true_eq];show _↔k+1≤lead _+1;omega
    ·rw[cf (df c),BJ (by omega) (by omega),DG,ih m (e+1) false (by omega) (by omega),show(wl (days y) b).drop e=[] from List.drop_eq_nil_of_le (by rw[FF];unfold days;omega)];rw[Bool.false_and,df (show¬(k+1≤lead []) by show¬(k+1≤0);omega)]
theorem Pw{K:Nat}(y:Ar)(b:Nat)(h0:0≤y.Am)(h9:y.Am≤9)(c:0≤y.AA)(f:y.AA≤y.Am+1)(hK:2000≤K):∀(k m i:Nat) (s:Int),days y=i+k→k<m→0≤s→s≤i→
  CE K y b m s (i:Int)=some (cond (GS y.AA ((wl (days y) b).drop i)) (.inr (s+(IQ ((wl (days y) b).drop i):Int))) (.inl false)):=by
 intro k
 induction k with
 |zero=>
  intro m i s h hm h1 j;cases m with
  |zero=>omega
  |succ m=>
   rw[CE.eq_2,cf (df (by unfold days at h;omega)),List.drop_eq_nil_of_le (by rw[FF];omega)];show _=some (Sum.inr (s+((0:Nat):Int)));rw[Int.natCast_zero,Int.add_zero]
 |succ k ih=>
  intro m i s h hm h1 j;cases m with
  |zero=>omega
  |succ m=>
   have o:days y≤10:=by unfold days;omega
   have hi:i<days y:=by omega
   have g:(i:Int)≤y.Am:=by unfold days at hi;omega
   have d:=TP K y b i h0 h9 c f (by omega) (y.AA+1).toNat K i true (by omega) (by omega);have a:=Sd K y b i h0 h9 c f (by omega) (y.AA+1).toNat K i true (by omega) (by omega);have l:decide ((y.AA+1).toNat≤lead ((wl (days y) b).drop i))= !decide ((lead ((wl (days y) b).drop i):Int)≤y.AA):=by
    rw[←decide_not];congr 1;rw[eq_iff_iff];omega
   rw[Bool.true_and,l] at d a;rw[CE.eq_2,ct (dt g),bd (MT K b i (by omega))];have e:=KS (days y) b i hi;have n:GS y.AA ((wl (days y) b).drop i)=(decide ((lead ((wl (days y) b).drop i):Int)≤y.AA)&&GS y.AA ((wl (days y) b).drop (i+1))):=by
    conv=>lhs;rw[e]
    rw[GS,←e]
   have ec:IQ ((wl (days y) b).drop i)=(cond (b.testBit i) 1 0)+IQ ((wl (days y) b).drop (i+1)):=by rw[e,IQ]
   rw[n,ec];cases ht:b.testBit i with
   |true=>
    rw[ct rfl,BJ (by omega) (by omega),bd d];cases decide ((lead ((wl (days y) b).drop i):Int)≤y.AA) with
    |false=>rw[Bool.false_and];rfl
    |true=>
     rw[nt,BJ (by omega) (by omega),DG,ih m (i+1) (s+1) (by omega) (by omega) (by omega) (by omega),Bool.true_and]
     congr 2
     simp;omega
   |false=>
    rw[cf rfl,bd a];cases decide ((lead ((wl (days y) b).drop i):Int)≤y.AA) with
    |false=>rw[Bool.false_and];rfl
    |true=>
     rw[nt,BJ (by omega) (by omega),DG,ih m (i+1) s (by omega) (by omega) (by omega) (by omega),Bool.true_and]
     congr 2
     simp
theorem Oi{K:Nat}(y:Ar)(b:Nat)(h0:0≤y.Am)(h9:y.Am≤9)(a:0≤y.AA)(d:y.AA≤y.Am+1)(f:0≤y.Ao)(hK:2000≤K):Er K y b=some (Hw y (wl (days y) b)):=by
 unfold Er;have g:days y≤10:=by unfold days;omega
 have e:=Pw (K:=K) y b h0 h9 a d hK (days y) K 0 0 (by omega) (by omega) (by omega) (by omega);rw[Int.natCast_zero,List.drop_zero] at e;rw[bd e];have c:=NH y.Ao y.AA a (wl (days y) b) 0 0 f (by omega);rw[Int.natCast_zero] at c;unfold Hw;rw[c];show _=some (_&&GS y.AA (wl (days y) b));cases GS y.AA (wl (days y) b) with
 |true=>rw[Bool.and_true];rfl
 |false=>rw[Bool.and_false];rfl
def Hb (y:Ar) (k d:Nat):List Int:=((List.range' k d).filter fun b=>Hw y (wl (days y) b)).map fun b:Nat=>(b:Int)
theorem MM(y:Ar):(Hb y 0 (2^days y)).length=(Bw y).length:=by
 unfold Hb Bw;rw[List.length_map,List.range_eq_range',List.filter_map,List.length_map];rfl
theorem Px{K:Nat}(y:Ar)(h0:0≤y.Am)(h9:y.Am≤9)(d:0≤y.AA)(f:y.AA≤y.Am+1)(g:0≤y.Ao)(hK:2000≤K):∀(k m i:Nat) (a:List Int),2^days y=i+k→k<m→a.length≤i→
  CJ K y m a (i:Int)=some (a++Hb y i k):=by
 intro k;have j:days y≤10:=by unfold days;omega
 have n:=IP _ j;have b:y.Am+1=(days y:Int):=by unfold days;omega
 have c:Hr (1:Int) (days y:Int)=((2^days y:Nat):Int):=by
  unfold Hr;rw[Int.one_mul,Int.toNat_natCast,Int.natCast_pow];rfl
 have e:L3 (1:Int) (days y:Int)=some ():=by
  refine if_pos ⟨by omega,by omega,?_,?_⟩
  ·have:(0:Int)≤1*2^((days y:Nat):Int).toNat:=by rw[Int.one_mul];exact Int.le_of_lt (Int.pow_pos (by omega))
   exact Int.le_trans (by omega) this
  ·rw[Int.one_mul,Int.toNat_natCast];have:((2^days y:Nat):Int)≤1024:=by omega
   rw[Int.natCast_pow] at this;exact Int.le_trans this (by omega)
 induction k with
 |zero=>
  intro m i a h hm l;cases m with
  |zero=>omega
  |succ m=>
   rw[CJ.eq_2,BJ (by omega) (by omega),b,bd (Q7 _ (by omega)),bd e,c,cf (df (by omega))];simp[Hb]
 |succ k ih=>
  intro m i a h hm l;cases m with
  |zero=>omega
  |succ m=>
   rw[CJ.eq_2,BJ (by omega) (by omega),b,bd (Q7 _ (by omega)),bd e,c,ct (dt (by omega)),bd (Oi y i h0 h9 d f g hK)];unfold Hb;rw[List.range'_succ,List.filter_cons];cases Hw y (wl (days y) i) with
   |true=>
    rw[ct rfl,FV (by simp;omega),BJ (by omega) (by omega),DG,ih m (i+1) _ (by omega) (by omega) (by simp;omega)];simp[Hb]
   |false=>
    rw[cf rfl,BJ (by omega) (by omega),DG,ih m (i+1) a (by omega) (by omega) (by omega)];simp[Hb]
theorem LP{K:Nat}(y:Ar)(h0:0≤y.Am)(h9:y.Am≤9)(a:0≤y.AA)(b:y.AA≤y.Am+1)(c:0≤y.Ao)(hK:2000≤K):D2 K y=some (Hb y 0 (2^days y)):=by
 unfold D2;have d:days y≤10:=by unfold days;omega
 have f:=IP _ d;have e:=Px (K:=K) y h0 h9 a b c hK (2^days y) K 0 [] (by omega) (by omega) (by simp);rw[Int.natCast_zero] at e;rw[bd e,List.nil_append]
theorem Is{y:Ar}(h9:y.Am≤9)(h:∀l∈y.Ag,Gl y l=true):∀l∈y.Ag,sized l∧0≤l.Au∧l.AJ≤9:=fun l a=>by
 have:=Ia.1 (h l a);exact⟨Lh h9 (h l a),this.1,by omega⟩
theorem Qi{K:Nat}(y:Ar)(h0:0≤y.Am)(h9:y.Am≤9)(a:0≤y.AA)(b:y.AA≤y.Am+1)(c:0≤y.Ao)(d:y.Ag.length≤4)(f:∀l∈y.Ag,sized l∧0≤l.Au∧l.AJ≤9)(hK:2000≤K):
  Dq K y=some (Je 3000 ((Bw y).length:Int) y.Ag):=by
 unfold Dq;have g:days y≤10:=by unfold days;omega
 have hw:=Kw y g;have e:=TH y d f (K:=K) y.Ag.length K 0 ((Bw y).length:Int) (by omega) (by omega) (by omega) (by omega);rw[Int.natCast_zero,List.drop_zero] at e;rw[bd (LP y h0 h9 a b c hK),MM,bd e]
theorem Se(K:Nat)(y:Ar)(b:y.Ag.length≤4):∀(k m i:Nat),y.Ag.length=i+k→k<m→
  Dg K y m (i:Int)=some (cond ((y.Ag.drop i).all (Gl y)) (.inr ()) (.inl 1)):=by
 intro k
 induction k with
 |zero=>
  intro m i h hm;cases m with
  |zero=>omega
  |succ m=>rw[Dg.eq_2,cf (df (by omega)),List.drop_eq_nil_of_le (by omega)];rfl
 |succ k ih=>
  intro m i h hm;cases m with
  |zero=>omega
  |succ m=>
   have hi:i<y.Ag.length:=by omega
   rw[Dg.eq_2,ct (dt (by omega)),C3 hi,List.drop_eq_getElem_cons hi,List.all_cons];unfold Gl;generalize y.Ag[i]=l
   by_cases h1:l.Au<0
   ·rw[ct (dt h1),df (show¬(0≤l.Au) by omega)];rfl
   rw[cf (df h1),dt (show 0≤l.Au by omega)]
   by_cases a:l.AJ<l.Au
   ·rw[ct (dt a),df (show¬(l.Au≤l.AJ) by omega)];rfl
   rw[cf (df a),dt (show l.Au≤l.AJ by omega)]
   by_cases h3:y.Am<l.AJ
   ·rw[ct (dt h3),df (show¬(l.AJ≤y.Am) by omega)];rfl
   rw[cf (df h3),dt (show l.AJ≤y.Am by omega),bd (Nq ..)];cases F7 l.AM 1 5 with
   |false=>rfl
   |true=>
    rw[nt,bd (Nq ..)];cases F7 l.Cc 1 5 with
    |false=>rfl
    |true=>
     rw[nt,bd (Nq ..)];cases F7 l.Ct 0 y.Am with
     |false=>rfl
     |true=>rw[nt,BJ (by omega) (by omega),DG,ih m (i+1) (by omega) (by omega)];rfl
theorem OF{K:Nat}(hK:2000≤K)(y:Ar):Ew K y=some (check y):=by
 unfold Ew check
 by_cases h1:9<y.Am
 ·rw[ct (dt h1),if_pos (.inl h1)]
 rw[cf (df h1)]
 by_cases g:2<y.Ak
 ·rw[ct (dt g),if_pos (.inr (.inl g))]
 rw[cf (df g)]
 by_cases h3:4<(y.Ag.length:Int)
 ·rw[ct (dt h3),if_pos (.inr (.inr h3))]
 rw[cf (df h3),if_neg (by omega)]
 by_cases a:y.Am<0
 ·rw[ct (dt a),if_pos (.inl a)]
 rw[cf (df a)]
 by_cases b:y.Ak<1
 ·rw[ct (dt b),if_pos (.inr (.inl b))]
 rw[cf (df b),BJ (by omega) (by omega),bd (Nq ..)];cases j:F7 y.Ao 0 (y.Am+1) with
 |false=>rw[nf,if_pos (.inr (.inr (.inl rfl)))]
 |true=>
  rw[nt,BJ (by omega) (by omega),bd (Nq ..)];cases k:F7 y.AA 0 (y.Am+1) with
  |false=>rw[nf,if_pos (.inr (.inr (.inr (.inl rfl))))]
  |true=>
   have e:=Se K y (by omega) y.Ag.length K 0 (by omega) (by omega);rw[Int.natCast_zero,List.drop_zero] at e;rw[nt,bd e];cases m:y.Ag.all (Gl y) with
   |false=>rw[if_pos (.inr (.inr (.inr (.inr rfl))))];rfl
   |true=>
    have o:=FK.1 j;have p:=FK.1 k;have i:=Is (y:=y) (by omega) (List.all_eq_true.1 m);rw[if_neg (by simp[a,b])];show(Dq K y).bind _=_;rw[bd (Qi y (by omega) (by omega) (by omega) (by omega) (by omega) (by omega) i hK)];have f:=L8 (c:=3000) (by omega) ((Bw y).length:Int) (by omega) fun l n=>(i l n).1;unfold Gm
    by_cases d:1000<((Bw y).length:Int)*EY y.Ag
    ·rw[ct (dt (f.2 d)),if_pos d]
    ·rw[cf (df fun h=>d (f.1 h)),if_neg d]
end Go.Proofs.YtkljfdkmjdjpfaaGreat
end
section
namespace Go.Proofs.YtkljfdkmjdjpfaaGreat
def It(y:Ar):List Nat:=(List.range (2^days y)).filter fun b=>Hw y (wl (days y) b)
theorem Qj(y:Ar):Hb y 0 (2^days y)=(It y).map fun b:Nat=>(b:Int):=by
 unfold Hb It;rw[List.range_eq_range']
theorem KC(y:Ar):Bw y=(It y).map (wl (days y)):=by
 unfold Bw It;rw[List.filter_map];rfl
theorem KD(y:Ar):(It y).length=(Bw y).length:=by rw[KC,List.length_map]
def JR:List Bb→Nat→List Int
 |[],_=>[]
 |l::r,n=>(l.Au+((n%(B0 l).toNat:Nat):Int))::JR r (n/(B0 l).toNat)
def NI(y:Ar)(n:Nat):AZ:=⟨JR y.Ag (n/(Bw y).length),(Bw y).getD (n%(Bw y).length) []⟩
theorem TQ(K:Nat)(y:Ar)(w:y.Ag.length≤4)(c:∀l∈y.Ag,sized l∧0≤l.Au∧l.AJ≤9):∀(k m i:Nat) (q:Nat) (a:List Int),y.Ag.length=i+k→k<m→q≤100000→a.length≤i→
  DY K y m (q:Int) (i:Int) a=some (a++JR (y.Ag.drop i) q):=by
 intro k
 induction k with
 |zero=>
  intro m i q a h hm d e;cases m with
  |zero=>omega
  |succ m=>rw[DY.eq_2,cf (df (by omega)),List.drop_eq_nil_of_le (by omega)];simp[JR]
 |succ k ih=>
  intro m i q a h hm d e;cases m with
  |zero=>omega
  |succ m=>
   have hi:i<y.Ag.length:=by omega
   obtain⟨⟨s1,s2⟩,f,j⟩:=c y.Ag[i] (List.getElem_mem hi);have b:((B0 y.Ag[i]).toNat:Int)=B0 y.Ag[i]:=by omega
   have p:1≤(B0 y.Ag[i]).toNat:=by omega
   have g:=P2 K _ f (by unfold B0 at s1;omega) j;have n:(q:Int)%B0 y.Ag[i]=((q%(B0 y.Ag[i]).toNat:Nat):Int):=by rw[Int.natCast_emod,b]
   have o:(q:Int)/B0 y.Ag[i]=((q/(B0 y.Ag[i]).toNat:Nat):Int):=by rw[Int.natCast_ediv,b]
   have r:q%(B0 y.Ag[i]).toNat<(B0 y.Ag[i]).toNat:=Nat.mod_lt _ (by omega);have s:q/(B0 y.Ag[i]).toNat≤q:=Nat.div_le_self ..;have t:(0:Int)≤((q%(B0 y.Ag[i]).toNat:Nat):Int):=Int.natCast_nonneg _;have u:(0:Int)≤((q/(B0 y.Ag[i]).toNat:Nat):Int):=Int.natCast_nonneg _;have v:B0 y.Ag[i]=y.Ag[i].AJ-y.Ag[i].Au+1:=rfl;rw[DY.eq_2,ct (dt (by omega)),C3 hi,bd g,Ks (by omega) s1,n,BJ (by omega) (by omega),FV (by simp;omega),bd g,QZ (by omega) s1,o,BJ (by omega) (by omega),BJ (by omega) (by omega),DG];rw[ih m (i+1) _ _ (by omega) (by omega) (by omega) (by simp;omega),List.drop_eq_getElem_cons hi,JR];simp
theorem Sf(K:Nat)(y:Ar)(b:Nat)(h0:0≤y.Am)(h9:y.Am≤9):∀(k m i:Nat) (a:List Bool),days y=i+k→k<m→a.length≤i→
  DO K y (b:Int) m (i:Int) a=some (a++(wl (days y) b).drop i):=by
 intro k
 induction k with
 |zero=>
  intro m i a h hm c;cases m with
  |zero=>omega
  |succ m=>rw[DO.eq_2,cf (df (by unfold days at h;omega)),List.drop_eq_nil_of_le (by rw[FF];omega)];simp
 |succ k ih=>
  intro m i a h hm c;cases m with
  |zero=>omega
  |succ m=>
   have hi:(i:Int)≤y.Am:=by unfold days at h;omega
   have d:=KS (days y) b i (by omega);rw[DO.eq_2,ct (dt hi),bd (MT K b i (by omega)),FV (by simp;omega),BJ (by omega) (by omega),DG,ih m (i+1) _ (by omega) (by omega) (by simp;omega),d];simp
theorem UZ{K:Nat}(y:Ar)(hy:Fp y)(n:Nat)(d:(n:Int)<Gm y)(hK:2000≤K):FP K y (Hb y 0 (2^days y)) (n:Int)=some (NI y n):=by
 unfold FP;have h0:=hy.h0;have h9:=hy.h9;have g:=hy.n4;have hm:=hy.many;have i:=Is h9 hy.Nu;have p:days y≤10:=by unfold days;omega
 have hlen:1≤(Bw y).length:=by
  rcases Nat.eq_zero_or_pos (Bw y).length with h|h
  ·unfold Gm at d;rw[h] at d;simp at d;omega
  ·exact h
 rw[Qj,List.length_map,KD];have j:(n:Int)%((Bw y).length:Int)=((n%(Bw y).length:Nat):Int):=by rw[Int.natCast_emod]
 have k:(n:Int)/((Bw y).length:Int)=((n/(Bw y).length:Nat):Int):=by rw[Int.natCast_ediv]
 have e:n%(Bw y).length<(Bw y).length:=Nat.mod_lt _ (by omega);have l:n/(Bw y).length≤n:=Nat.div_le_self ..;have m:(0:Int)≤((n%(Bw y).length:Nat):Int):=Int.natCast_nonneg _;have o:(0:Int)≤((n/(Bw y).length:Nat):Int):=Int.natCast_nonneg _;have a:n%(Bw y).length<(It y).length:=by rw[KD];exact e
 have hi:n%(Bw y).length<((It y).map fun b:Nat=>(b:Int)).length:=by rw[List.length_map];exact a
 have f:=TQ K y g i y.Ag.length K 0 (n/(Bw y).length) [] (by omega) (by omega) (by omega) (by simp);have c:=Sf K y ((It y)[n%(Bw y).length]) h0 h9 (days y) K 0 [] (by omega) (by omega) (by simp);rw[Int.natCast_zero,List.drop_zero,List.nil_append] at f c;rw[Ks (by omega) (by omega),j,C3 hi,QZ (by omega) (by omega),k,BJ (by omega) (by omega),bd f,List.getElem_map,bd c];unfold NI
 congr 2
 rw[List.getD_eq_getElem?_getD,List.getElem?_eq_getElem e];have:(Bw y)[n%(Bw y).length]'e=((It y).map (wl (days y)))[n%(Bw y).length]'(by rw[List.length_map];exact a):=by
  congr 1;exact KC y
 rw[this,List.getElem_map];rfl
def KE(y:Ar)(k d:Nat):List AZ:=(List.range' k d).map (NI y)
theorem OG{K:Nat}(y:Ar)(hy:Fp y)(hK:2000≤K):Dq K y=some (Gm y):=by
 have a:=Is hy.h9 hy.Nu;rw[Qi y hy.h0 hy.h9 hy.u0 hy.u1 hy.w0 hy.n4 a hK];have:=hy.many;unfold Gm at this⊢;rw[OC (by omega) _ (by omega) (fun l b=>(a l b).1) this]
def Q8(y:Ar):List AZ:=KE y 0 (Gm y).toNat
theorem LQ:∀{ls:List Bb} (n:Nat),(∀l∈ls,sized l)→DA ls (JR ls n)=true
 |[],_,_=>rfl
 |l::r,n,h=>by
  have h1:=h l (List.mem_cons_self ..);have a:n%(B0 l).toNat<(B0 l).toNat:=Nat.mod_lt _ (by have:=h1.1;omega);rw[JR,DA,LQ _ fun x b=>h x (List.mem_cons_of_mem _ b),Bool.and_true,FK];unfold B0 at a⊢;omega
theorem Qk:∀{ls:List Bb} {c:List Int},(∀l∈ls,sized l)→DA ls c=true→∃n:Nat,(n:Int)<EY ls∧JR ls n=c
 |[],[],_,_=>⟨0,by simp[EY],rfl⟩
 |l::r,a::d,h,b=>by
  rw[DA,Bool.and_eq_true] at b;obtain⟨q,k,e⟩:=Qk (fun x g=>h x (List.mem_cons_of_mem _ g)) b.2;have h1:=h l (List.mem_cons_self ..);have m:=FK.1 b.1;have f:(a-l.Au).toNat<(B0 l).toNat:=by unfold B0;omega
  have i:0<(B0 l).toNat:=by omega
  refine⟨(a-l.Au).toNat+(B0 l).toNat*q,?_,?_⟩
  ·have j:B0 l*((q:Int)+1)≤B0 l*EY r:=Int.mul_le_mul_of_nonneg_left (by omega) (by have:=h1.1;omega);rw[EY];rw[Int.mul_add,Int.mul_one] at j;have h3:(((a-l.Au).toNat+(B0 l).toNat*q:Nat):Int)=((a-l.Au).toNat:Int)+B0 l*(q:Int):=by
    rw[Int.natCast_add,Int.natCast_mul]
    congr 2;omega
   rw[h3];omega
  ·rw[JR,Nat.add_mul_mod_self_left,Nat.mod_eq_of_lt f,Nat.add_mul_div_left _ _ i,Nat.div_eq_of_lt f,Nat.zero_add,e]
   congr 1;omega
 |[],_::_,_,h=>by cases h
 |_::_,[],_,h=>by cases h
theorem Q9{y:Ar}(hy:Fp y){t:AZ}:t∈Q8 y↔Et y t=true:=by
 have g:=Is hy.h9 hy.Nu;have b:∀l∈y.Ag,sized l:=fun l i=>(g l i).1;rw[←Hl hy.h0];unfold Q8 KE;rw[List.mem_map];constructor
 ·rintro⟨n,a,rfl⟩;rw[←List.range_eq_range',List.mem_range] at a;have hlen:0<(Bw y).length:=by
   rcases Nat.eq_zero_or_pos (Bw y).length with h|h
   ·unfold Gm at a;rw[h] at a;simp at a
   ·exact h
  have f:n%(Bw y).length<(Bw y).length:=Nat.mod_lt _ hlen;unfold Cm NI;rw[List.mem_flatMap];refine⟨(Bw y).getD (n%(Bw y).length) [],?_,List.mem_map.2 ⟨_,GR.2 (LQ _ b),rfl⟩⟩;rw[List.getD_eq_getElem?_getD,List.getElem?_eq_getElem f];exact List.getElem_mem f
 ·intro h;unfold Cm at h;rw[List.mem_flatMap] at h;obtain⟨w,hw,ht⟩:=h;obtain⟨c,k,rfl⟩:=List.mem_map.1 ht;obtain⟨q,o,e⟩:=Qk b (GR.1 k);obtain⟨j,d,p⟩:=List.getElem_of_mem hw;have hlen:0<(Bw y).length:=by omega
  refine⟨j+(Bw y).length*q,?_,?_⟩
  ·rw[←List.range_eq_range',List.mem_range];have m:((Bw y).length:Int)*((q:Int)+1)≤((Bw y).length:Int)*EY y.Ag:=Int.mul_le_mul_of_nonneg_left (by omega) (by omega);rw[Int.mul_add,Int.mul_one] at m;have h3:((j+(Bw y).length*q:Nat):Int)=(j:Int)+((Bw y).length:Int)*(q:Int):=by
    rw[Int.natCast_add,Int.natCast_mul]
   unfold Gm;omega
  ·unfold NI;rw[Nat.add_mul_mod_self_left,Nat.mod_eq_of_lt d,Nat.add_mul_div_left _ _ hlen,Nat.div_eq_of_lt d,Nat.zero_add,e,List.getD_eq_getElem?_getD,List.getElem?_eq_getElem d]
   congr 1
end Go.Proofs.YtkljfdkmjdjpfaaGreat
end
section
namespace Go.Proofs.YtkljfdkmjdjpfaaGreat
theorem Py(n:Nat):(iota n).Nodup:=by
 unfold iota;refine List.Pairwise.map _ (fun a b h=>?_) (List.nodup_range (n:=n));intro e;exact h (by omega)
end Go.Proofs.YtkljfdkmjdjpfaaGreat
end
section
namespace Go.Proofs.YtkljfdkmjdjpfaaGreat
theorem Sg(x:List Int)(a:Nat):CI x (0:Int) (a:Int)=x.take a:=by unfold CI;simp
theorem Sh(x:List Int)(a:Nat):CI x (a:Int) (x.length:Int)=x.drop a:=by unfold CI;simp
theorem TR{β:Type}{n:Nat}{a b:Int}{f:Unit→Option β}(h0:0≤a)(h1:a≤b)(c:b≤n):(Nn n a b).bind f=f ():=bd (if_pos ⟨h0,h1,c⟩)
theorem Si{o:List (List Int)}{r:Nat}(a:r<o.length):o.getD r []=o[r]:=by rw[List.getD_eq_getElem?_getD,List.getElem?_eq_getElem a];rfl
end Go.Proofs.YtkljfdkmjdjpfaaGreat
end
section
namespace Go.Proofs.YtkljfdkmjdjpfaaGreat
def never:Av:=⟨-1,-1,false⟩
def Hm(y:Ar)(s:Av):Int:=cond (s.AD==-1) (y.Am+1) (s.AD+1)
theorem Ra(y:Ar){i:Nat}(h:i<y.Ag.length):DI y (i:Int)=y.Ag[i]:=by
 unfold DI;rw[Int.toNat_natCast,List.getD_eq_getElem?_getD,List.getElem?_eq_getElem h];rfl
theorem Ql(c:List Int){i:Nat}(h:i<c.length):Dd c (i:Int)=c[i]:=by
 unfold Dd;rw[Int.toNat_natCast,List.getD_eq_getElem?_getD,List.getElem?_eq_getElem h];rfl
end Go.Proofs.YtkljfdkmjdjpfaaGreat
end
section
namespace Go.Proofs.YtkljfdkmjdjpfaaGreat
theorem Jf(y:Ar)(w:List Bool)(c:List Int)(j:Nat):∀(l:List Int) (free:Int) (out:List Av),(∀i∈l,0≤i)→(j:Int)∉l→(Gx y w c l free out)[j]?=out[j]?
 |[],_,_,_,_=>rfl
 |i::r,free,out,h0,h=>by
  rw[Gx,Jf y w c j r _ _ (fun x a=>h0 x (List.mem_cons_of_mem _ a)) (fun h1=>h (List.mem_cons_of_mem _ h1)),List.getElem?_set_ne];intro e;have:=h0 i (List.mem_cons_self ..);exact h (by rw[←e,show((i.toNat:Nat):Int)=i by omega];exact List.mem_cons_self ..)
end Go.Proofs.YtkljfdkmjdjpfaaGreat
end
section
namespace Go.Proofs.YtkljfdkmjdjpfaaGreat
def Ga (y:Ar) (w:List Bool) (c:List Int):List Int→Int→Int
 |[],f=>f
 |i::r,f=>Ga y w c r (Hm y (C1 y w (DI y i) (max f (Dd c i))))
theorem NJ(y:Ar)(w:List Bool)(c:List Int):∀(pre:List Int) (i:Int) (post:List Int) (free:Int) (out:List Av),(pre++i::post).Nodup→(∀j∈pre++i::post,0≤j∧j<(out.length:Int))→
  (Gx y w c (pre++i::post) free out)[i.toNat]?=some (C1 y w (DI y i) (max (Ga y w c pre free) (Dd c i)))
 |[],i,post,free,out,d,b=>by
  obtain⟨h0,h1⟩:=b i (List.mem_append_right _ (List.mem_cons_self ..));have f:i∉post:=(List.nodup_cons.1 d).1;rw[List.nil_append,Gx,Jf y w c i.toNat post _ _ (fun j e=>(b j (List.mem_append_right _ (List.mem_cons_of_mem _ e))).1) (by rw[Int.toNat_of_nonneg h0];exact f),List.getElem?_set_self (by omega)];rfl
 |a::pre,i,post,free,out,d,b=>by
  rw[List.cons_append,Gx];exact NJ y w c pre i post _ (out.set a.toNat _) (List.nodup_cons.1 d).2 fun j e=>by rw[List.length_set];exact b j (List.mem_cons_of_mem _ e)
theorem Lb(y:Ar)(w:List Bool)(c:List Int)(j:Nat):∀(o:List (List Int)) (out:List Av),(∀i∈o.flatten,0≤i)→(j:Int)∉o.flatten→(Gy y w c o out)[j]?=out[j]?
 |[],out,_,_=>rfl
 |l::o,out,h0,h=>by
  rw[List.flatten_cons] at h0 h;rw[Gy,Lb y w c j o _ (fun i hi=>h0 i (List.mem_append_right _ hi)) (fun hi=>h (List.mem_append_right _ hi)),Jf y w c j l _ _ (fun i hi=>h0 i (List.mem_append_left _ hi)) (fun hi=>h (List.mem_append_left _ hi))]
theorem NK(y:Ar)(w:List Bool)(c:List Int)(i:Int)(pre post:List Int)(e:List (List Int)):∀(f:List (List Int)) (out:List Av),(f++(pre++i::post)::e).flatten.Nodup→(∀j∈(f++(pre++i::post)::e).flatten,0≤j∧j<(out.length:Int))→
  (Gy y w c (f++(pre++i::post)::e) out)[i.toNat]?=some (C1 y w (DI y i) (max (Ga y w c pre 0) (Dd c i)))
 |[],out,a,b=>by
  rw[List.nil_append,List.flatten_cons] at a b;have hm:i∈pre++i::post:=List.mem_append_right _ (List.mem_cons_self ..);have h0:=(b i (List.mem_append_left _ hm)).1;rw[List.nodup_append] at a;rw[List.nil_append,Gy,Lb y w c i.toNat e _ (fun j d=>(b j (List.mem_append_right _ d)).1) (by rw[Int.toNat_of_nonneg h0];exact fun d=>a.2.2 i hm i d rfl),NJ y w c pre i post 0 out a.1 fun j d=>b j (List.mem_append_left _ d)]
 |l::f,out,a,b=>by
  rw[List.cons_append,List.flatten_cons] at a b;rw[List.nodup_append] at a;rw[List.cons_append,Gy];exact NK y w c i pre post e f _ a.2.1 fun j d=>by rw[HS];exact b j (List.mem_append_right _ d)
theorem Pz{y:Ar}{o:List (List Int)}(h:Dz y o=true):o.flatten.Nodup:=(Fg.1 h).2.nodup_iff.2 (Py _)
theorem NL{y:Ar}{o:List (List Int)}(h:Dz y o=true){i:Int}:i∈o.flatten↔0≤i∧i<(y.Ag.length:Int):=by rw[(Fg.1 h).2.mem_iff,Nt]
theorem Rb{y:Ar}{o:List (List Int)}{b c:List (List Int)}{pre post:List Int}{i:Int}(h:Dz y o=true)(e:o=b++(pre++i::post)::c)(t:AZ):
  (B8 y o t)[i.toNat]?=some (C1 y t.Ao (DI y i) (max (Ga y t.Ao t.Comes pre 0) (Dd t.Comes i))):=by
 have h1:=Pz h;have d:∀j∈o.flatten,0≤j∧j<(y.Ag.length:Int):=fun j a=>(NL h).1 a;subst e;unfold B8 Gz;exact NK y t.Ao t.Comes i pre post c b _ h1 fun j a=>by rw[List.length_replicate];exact d j a
theorem Qm{y:Ar}{w:List Bool}(l:Bb){d:Int}(a:0≤d)(hw:(w.length:Int)=y.Am+1):Hm y (C1 y w l d)≤y.Am+1∧(d≤y.Am+1→d≤Hm y (C1 y w l d)):=by
 rcases MD y w l d a hw with h|h
 ·unfold Hm;rw[h];simp
 ·unfold Hm;have:((C1 y w l d).AD==-1)=false:=by rw[beq_eq_false_iff_ne];omega
  rw[this];show(C1 y w l d).AD+1≤_∧(_→d≤(C1 y w l d).AD+1);omega
theorem NM{y:Ar}{w:List Bool}(c:List Int)(hw:(w.length:Int)=y.Am+1):∀(pre:List Int) (f:Int),0≤f→f≤y.Am+1→f≤Ga y w c pre f∧Ga y w c pre f≤y.Am+1
 |[],f,h0,h1=>⟨Int.le_refl _,h1⟩
 |i::r,f,h0,h1=>by
  rw[Ga];obtain⟨a,b⟩:=Qm (y:=y) (w:=w) (DI y i) (d:=max f (Dd c i)) (by omega) hw;have e:f≤Hm y (C1 y w (DI y i) (max f (Dd c i))):=by
   by_cases g:max f (Dd c i)≤y.Am+1
   ·have:=b g;omega
   ·have:C1 y w (DI y i) (max f (Dd c i))=never:=if_pos (by omega);rw[this];show f≤y.Am+1;exact h1
  obtain⟨h,j⟩:=NM c hw r _ (Int.le_trans h0 e) a;exact⟨Int.le_trans e h,j⟩
theorem KF{W R W' R':Int}(a:W≤W')(b:R≤R'):∀(l:List Bool) (s r:Int),okW W R l s r=true→okW W' R' l s r=true
 |[],_,_,_=>rfl
 |false::l,s,r,h=>KF a b l s 0 h
 |true::l,s,r,h=>by
  rw[okW,Bool.and_eq_true,Bool.and_eq_true,decide_eq_true_eq,decide_eq_true_eq] at h⊢;exact⟨by omega,by omega,KF a b l _ _ h.2.2⟩
theorem LR:∀{ls:List Bb} {cs:List Int},DA ls cs=true→∀i,i<ls.length→F7 (cs.getD i 0) (ls.getD i HR).Au (ls.getD i HR).AJ=true
 |[],_,_,i,hi=>by cases hi
 |l::ls,[],h,_,_=>by cases h
 |l::ls,c::cs,h,0,_=>by rw[DA,Bool.and_eq_true] at h;exact h.1
 |l::ls,c::cs,h,i+1,hi=>by
  rw[DA,Bool.and_eq_true] at h;exact LR h.2 i (by simpa using hi)
theorem Hz{y:Ar}{t:AZ}:Et y t=true↔(t.Ao.length:Int)=y.Am+1∧Hw y t.Ao=true∧DA y.Ag t.Comes=true:=by
 unfold Et;rw[Bool.and_eq_true,Bool.and_eq_true,decide_eq_true_eq]
theorem Rc{y:Ar}{i:Nat}(hi:i<y.Ag.length):Fi y i∈y.Ag:=by
 unfold Fi;rw[List.getD_eq_getElem?_getD,List.getElem?_eq_getElem hi];exact List.getElem_mem hi
theorem Sj{y:Ar}(hy:Fp y){t:AZ}(ht:Et y t=true){i:Nat}(hi:i<y.Ag.length):0≤Dd t.Comes i∧Dd t.Comes i≤y.Am:=by
 have h1:=FK.1 (LR (Hz.1 ht).2.2 i hi);have a:=Ia.1 (hy.Nu _ (Rc hi));unfold Fi at a;unfold Dd;rw[Int.toNat_natCast];omega
end Go.Proofs.YtkljfdkmjdjpfaaGreat
end
section
namespace Go.Proofs.YtkljfdkmjdjpfaaGreat
structure Alike (y x:Ar):Prop where
 last:x.Am=y.Am
 len:x.Ag.length=y.Ag.length
 DH:∀i:Nat,(Fi x i).AM=(Fi y i).AM
 VI:∀i:Nat,(Fi x i).Cc=(Fi y i).Cc
theorem JS{l b:Bb}(h1:b.AM=l.AM)(a:b.Cc=l.Cc)(d0:Int):∀(ws:List Bool) (d DH r:Int),E8 b d0 ws d DH r=E8 l d0 ws d DH r
 |[],_,_,_=>rfl
 |true::ws,d,DH,r=>by rw[E8,E8,h1,a,JS h1 a d0 ws]
 |false::ws,d,DH,r=>by rw[E8,E8,h1,a,JS h1 a d0 ws]
theorem Oj{y x:Ar}(h:x.Am=y.Am){l a:Bb}(h1:a.AM=l.AM)(b:a.Cc=l.Cc)(w:List Bool)(d:Int):C1 x w a d=C1 y w l d:=by
 unfold C1;rw[h,JS h1 b]
theorem Alike.at{y x:Ar}(h:Alike y x)(w:List Bool)(i d:Int):C1 x w (DI x i) d=C1 y w (DI y i) d:=Oj h.last (h.DH i.toNat) (h.VI i.toNat) w d
theorem Lc{y x:Ar}(h:Alike y x)(w:List Bool)(c:List Int):∀(l:List Int) (f:Int) (out:List Av),Gx x w c l f out=Gx y w c l f out
 |[],_,_=>rfl
 |i::r,f,out=>by
  rw[Gx,Gx];show Gx x w c r (cond ((C1 x w (DI x i) (max f (Dd c i))).AD==-1) (x.Am+1) _) _=_;rw[h.at,h.last,Lc h w c r]
theorem Ld{y x:Ar}(h:Alike y x)(w:List Bool)(c:List Int):∀(o:List (List Int)) (out:List Av),Gy x w c o out=Gy y w c o out
 |[],_=>rfl
 |l::o,out=>by rw[Gy,Gy,Lc h,Ld h w c o]
theorem Ol{y x:Ar}(h:Alike y x)(o:List (List Int))(t:AZ):B8 x o t=B8 y o t:=by
 unfold B8 Gz;rw[h.len,Ld h]
theorem MH{p b:Bb→Av→Bool}:∀(ls a:List Bb) (ss:List Av),ls.length=a.length→(∀i s,i<ls.length→p (ls.getD i HR) s=true→b (a.getD i HR) s=true)→Hj p ls ss≤Hj b a ss
 |[],[],ss,_,_=>Nat.le_refl _
 |[],_::_,_,h,_=>by cases h
 |_::_,[],_,h,_=>by cases h
 |l::ls,c::a,[],_,_=>by simp[Hj]
 |l::ls,c::a,s::ss,d,h=>by
  have h1:=MH ls a ss (by simpa using d) fun i s hi=>h (i+1) s (by simpa using hi);have e:p l s=true→b c s=true:=h 0 s (by simp);rw[Hj,Hj];cases f:p l s with
  |false=>simp only[cond_false];omega
  |true=>rw[e f];simp only[cond_true];omega
theorem PA {l b:Bb} (h:l.Ct≤b.Ct) {s:Av} (a:GJ l s=true):GJ b s=true:=by
 unfold GJ at a⊢;rw[Bool.and_eq_true,decide_eq_true_eq] at a⊢;exact⟨a.1,by omega⟩
theorem Qn{y x:Ar}(a:x.Ag.length=y.Ag.length)(b:∀i:Nat,(Fi x i).Ct≤(Fi y i).Ct)(ss:List Av):D1 y ss≤D1 x ss:=by
 unfold D1;refine MH _ _ ss a.symm fun i s _ h=>?_;unfold DQ at h⊢;cases c:GJ (x.Ag.getD i HR) s with
 |false=>rfl
 |true=>
  have:=PA (b i) c;unfold Fi at this;rw[this] at h;cases h
theorem Sk{y x:Ar}(hy:Fp y)(a:Fp x){o o':List (List Int)}(h:∀t,Et y t=true→Et x t=true∧D1 y (B8 y o t)≤D1 x (B8 x o' t)):(C7 y o).1≤(C7 x o').1:=by
 obtain⟨_,b,h3⟩:=Iq hy o;obtain⟨c,_,_⟩:=Iq a o';obtain⟨d,e⟩:=h _ b;have:=c _ d;omega
structure RP(y x:Ar):Prop extends Alike y x where
 LS:x.Ak=y.Ak
 due:∀i:Nat,(Fi x i).Ct=(Fi y i).Ct
 comes:∀i:Nat,(Fi x i).Au≤(Fi y i).Au∧(Fi y i).AJ≤(Fi x i).AJ
 Da:y.Ao≤x.Ao
 run:y.AA≤x.AA
theorem HT:∀{ls a:List Bb} {cs:List Int},a.length=ls.length→(∀i:Nat,(a.getD i HR).Au≤(ls.getD i HR).Au∧(ls.getD i HR).AJ≤(a.getD i HR).AJ)→DA ls cs=true→DA a cs=true
 |[],[],cs,_,_,h=>h
 |[],_::_,_,h,_,_=>by cases h
 |_::_,[],_,h,_,_=>by cases h
 |l::ls,b::a,[],_,_,h=>by cases h
 |l::ls,b::a,c::cs,d,hw,h=>by
  rw[DA,Bool.and_eq_true] at h⊢;have h1:=FK.1 h.1;have e:b.Au≤l.Au∧l.AJ≤b.AJ:=hw 0;exact⟨FK.2 (by omega),HT (by simpa using d) (fun i=>hw (i+1)) h.2⟩
theorem RP.RQ{y x:Ar}(h:RP y x){t:AZ}(ht:Et y t=true):Et x t=true:=by
 obtain⟨h1,a,h3⟩:=Hz.1 ht;exact Hz.2 ⟨by rw[h.last];exact h1,KF h.Da h.run _ _ _ a,HT h.len h.comes h3⟩
structure MU(y z:Ar):Prop extends Alike y z where
 LS:z.Ak=y.Ak
 due:∀i:Nat,(Fi y i).Ct≤(Fi z i).Ct
 comes:∀i:Nat,(Fi z i).Au=(Fi y i).Au∧(Fi y i).AJ=(Fi z i).AJ
 Da:y.Ao=z.Ao
 run:y.AA=z.AA
theorem MU.RQ{y z:Ar}(h:MU y z){t:AZ}:Et z t=true↔Et y t=true:=by
 rw[Hz,Hz,h.last];unfold Hw;rw[h.Da,h.run];refine and_congr_right fun _=>and_congr_right fun _=>⟨fun a=>HT h.len.symm (fun i=>?_) a,fun a=>HT h.len (fun i=>?_) a⟩
 ·have:=h.comes i;unfold Fi at this;omega
 ·have:=h.comes i;unfold Fi at this;omega
theorem MU.V4{y z:Ar}(h:MU y z)(hy:Fp y)(a:Fp z)(o:List (List Int)):(C7 z o).1≤(C7 y o).1:=
 Sk a hy fun t ht=>⟨h.RQ.1 ht,by rw[Ol h.toAlike];exact Qn h.len.symm h.due _⟩
end Go.Proofs.YtkljfdkmjdjpfaaGreat
end
section
namespace Go.Proofs.YtkljfdkmjdjpfaaGreat
def Ie:List Bool→Nat
 |[]=>0
 |b::l=>(cond b 0 1)+Ie l
theorem KG(l:Bb)(d0:Int):∀(ws:List Bool) (d DH r:Int),(E8 l d0 ws d DH r).On=d0∧(((E8 l d0 ws d DH r).AD=-1∧(E8 l d0 ws d DH r).AM=false)∨∃k:Nat,k<ws.length∧(E8 l d0 ws d DH r).AD=d+k∧(E8 l d0 ws d DH r).AM=(DH+(Ie (ws.take (k+1)):Int)==l.AM))
 |[],d,DH,r=>⟨rfl,.inl ⟨rfl,rfl⟩⟩
 |true::ws,d,DH,r=>by
  rw[E8];cases b:(DH==l.AM) with
  |true=>exact⟨rfl,.inr ⟨0,by simp,by simp,by simp[Ie,b]⟩⟩
  |false=>
   cases e:(r+1==l.Cc) with
   |true=>exact⟨rfl,.inr ⟨0,by simp,by simp,by simp[Ie,b]⟩⟩
   |false=>
    obtain⟨h1,a⟩:=KG l d0 ws (d+1) DH (r+1);refine⟨h1,?_⟩;rcases a with a|⟨k,f,h3,c⟩
    ·exact .inl a
    ·refine .inr ⟨k+1,by simp;omega,by show(E8 l d0 ws (d+1) DH (r+1)).AD=_;rw[h3];omega,?_⟩;show(E8 l d0 ws (d+1) DH (r+1)).AM=_;rw[c,List.take_succ_cons,Ie];simp
 |false::ws,d,DH,r=>by
  rw[E8];cases b:(DH+1==l.AM) with
  |true=>exact⟨rfl,.inr ⟨0,by simp,by simp,by simp[Ie,b]⟩⟩
  |false=>
   cases e:((0:Int)==l.Cc) with
   |true=>exact⟨rfl,.inr ⟨0,by simp,by simp,by simp[Ie,b]⟩⟩
   |false=>
    obtain⟨h1,a⟩:=KG l d0 ws (d+1) (DH+1) 0;refine⟨h1,?_⟩;rcases a with a|⟨k,f,h3,c⟩
    ·exact .inl a
    ·refine .inr ⟨k+1,by simp;omega,by show(E8 l d0 ws (d+1) (DH+1) 0).AD=_;rw[h3];omega,?_⟩;show(E8 l d0 ws (d+1) (DH+1) 0).AM=_;rw[c,List.take_succ_cons,Ie]
     congr 1
     simp;omega
end Go.Proofs.YtkljfdkmjdjpfaaGreat
end
section
namespace Go.Proofs.YtkljfdkmjdjpfaaGreat
theorem Vb{x:Int}(h0:-9223372036854775808≤x)(h1:x≤9223372036854775807):LB .i64 x=some ():=by
 unfold LB;have:IntKind.i64.wrap x=x:=HW ⟨by omega,by omega⟩;rw[if_pos this]
theorem Sm(K:Nat)(y:Ar)(h:y.Ag.length≤6):∀(k m i:Nat) (a:List Bb),y.Ag.length=i+k→k<m→a=y.Ag.take i→
  DM K y m (i:Int) a=some y.Ag:=by
 intro k
 induction k with
 |zero=>
  intro m i a hi hm b;cases m with
  |zero=>omega
  |succ m=>rw[DM.eq_2,cf (df (by omega)),b,List.take_of_length_le (by omega)]
 |succ k ih=>
  intro m i a hi hm b;cases m with
  |zero=>omega
  |succ m=>
   have c:i<y.Ag.length:=by omega
   have d:a.length≤6:=by rw[b,List.length_take];omega
   rw[DM.eq_2,ct (dt (by omega)),C3 c,bd (show GO K (⟨y.Ag[i].Au,y.Ag[i].AJ⟩:CB)=some (⟨y.Ag[i].Au,y.Ag[i].AJ⟩:CB) from rfl),FV (by simp only[List.length_cons,List.length_nil];omega),BJ (by omega) (by omega),DG];refine ih m (i+1) _ (by omega) (by omega) ?_;rw[b,List.take_add_one,List.getElem?_eq_getElem c];rfl
theorem Sn{K:Nat}(hK:2000≤K)(y:Ar)(h:y.Ag.length≤6):EU K y=some y:=by
 unfold EU;have:=Sm K y h y.Ag.length K 0 [] (by omega) (by omega) (by simp);rw[Int.natCast_zero] at this;rw[bd this]
theorem Re(o:List (List Int))(h:o.length≤1000)(d:∀l∈o,l.length≤1000):∀(k m i:Nat) (a:List (List Int)),o.length=i+k→k<m→a=o.take i→
  Dx o m a (i:Int)=some o:=by
 intro k
 induction k with
 |zero=>
  intro m i a hi hm c;cases m with
  |zero=>omega
  |succ m=>rw[Dx.eq_2,cf (df (by omega)),c,List.take_of_length_le (by omega)]
 |succ k ih=>
  intro m i a hi hm c;cases m with
  |zero=>omega
  |succ m=>
   have b:i<o.length:=by omega
   have e:a.length≤1000:=by rw[c,List.length_take];omega
   have:=d _ (List.getElem_mem b);rw[Dx.eq_2,ct (dt (by omega)),C3 b,FV (by simp only[List.length_nil];omega),FV (by simp only[List.length_cons,List.length_nil];omega),BJ (by omega) (by omega),DG];refine ih m (i+1) _ (by omega) (by omega) ?_;rw[c,List.take_add_one,List.getElem?_eq_getElem b];rfl
theorem Rf{K:Nat}(hK:2000≤K)(o:List (List Int))(h:o.length≤1000)(a:∀l∈o,l.length≤1000):EA K o=some o:=by
 unfold EA;have:=Re o h a o.length K 0 [] (by omega) (by omega) (by simp);rw[Int.natCast_zero] at this;rw[bd this]
theorem Rg(K:Nat)(t:AZ)(h1:t.Comes.length≤1000)(a:t.Ao.length≤1000):EB K t=some t:=by
 unfold EB;rw[FV (by simp only[List.length_nil];omega),FV (by simp only[List.length_nil];omega)];rfl
theorem Sp(a:List Int)(h:a.length≤1000):∀(k m i:Nat),a.length=i+k→k<m→DL a a m (i:Int)=some (.inr ()):=by
 intro k
 induction k with
 |zero=>
  intro m i hi hm;cases m with
  |zero=>omega
  |succ m=>rw[DL.eq_2,cf (df (by omega))]
 |succ k ih=>
  intro m i hi hm;cases m with
  |zero=>omega
  |succ m=>
   have b:i<a.length:=by omega
   rw[DL.eq_2,ct (dt (by omega)),C3 b,C3 b,cf (by simp),BJ (by omega) (by omega),DG];exact ih m (i+1) (by omega) (by omega)
theorem Sq{K:Nat}(hK:2000≤K)(a:List Int)(h:a.length≤1000):FB K a a=some true:=by
 unfold FB;have:=Sp a h a.length K 0 (by omega) (by omega);rw[Int.natCast_zero] at this;rw[cf (by simp),bd this];rfl
theorem Rh{K:Nat}(hK:2000≤K)(y:Ar):Fk K y=some (check y):=by
 unfold Fk;rw[bd (OF hK y)]
def LU (y:Ar):Bool:=cond (decide ((y.Ag.length:Int)≤6)) (cond (check y !=0) true (decide (Gm y≤60))) false
theorem Sr{K:Nat}(hK:2000≤K)(y:Ar):FC K y=some (LU y):=by
 unfold FC LU;cases b:decide ((y.Ag.length:Int)≤6) with
 |false=>rfl
 |true=>
  rw[ct rfl,ct rfl,bd (OF hK y)];cases a:(check y !=0) with
  |true=>rfl
  |false=>
   have h0:check y=0:=by simpa[bne] using a
   rw[cf rfl,cf rfl,bd (OG y (FQ h0) hK)]
def KH(y:Ar):Bool:=cond (LU y) (check y==0) false
theorem Ri{K:Nat}(hK:2000≤K)(y:Ar):Fm K y=some (KH y):=by
 unfold Fm KH;rw[bd (Sr hK y)];cases LU y with
 |false=>rfl
 |true=>rw[ct rfl,ct rfl,bd (Rh hK y)]
theorem Rj{y:Ar}(h:KH y=true):check y=0∧y.Ag.length≤4:=by
 unfold KH at h;cases a:LU y with
 |false=>rw[a] at h;cases h
 |true=>
  rw[a] at h;have h0:check y=0:=by simpa using h
  exact⟨h0,(FQ h0).n4⟩
def W8(ws:List Int):Prop:=∀w∈ws,0≤w∧w≤255
theorem Ss(K:Nat)(ws:List Int)(h:W8 ws)(at_:Int)(h0:0≤at_):∃v:Int,FD K ws at_=some v∧0≤v∧v≤255:=by
 unfold FD
 by_cases b:ws.length=0
 ·rw[ct (by rw[b];rfl)];exact⟨0,rfl,by omega,by omega⟩
 ·rw[cf (by rw[beq_eq_false_iff_ne];omega),Ks h0 (by omega)];have h1:=Int.emod_nonneg at_ (show(ws.length:Int)≠0 by omega);have d:=Int.emod_lt_of_pos at_ (show(0:Int)<(ws.length:Int) by omega);obtain⟨k,c⟩:=Int.eq_ofNat_of_zero_le h1;have a:k<ws.length:=by omega
  rw[c,C3 a];have:=h _ (List.getElem_mem a);rw[bd (Vb (by omega) (by omega))];exact⟨_,rfl,this⟩
theorem Rk{K:Nat}(y:Ar)(hy:Fp y)(ws:List Int)(h:W8 ws):∀(k m i:Nat) (o:List (List Int)),y.Ag.length=i+k→k<m→(o.length:Int)=y.Ak→o.flatten.Perm (iota i)→
  ∃d,Dy K y ws m (i:Int) o=some d∧(d.length:Int)=y.Ak∧d.flatten.Perm (iota y.Ag.length):=by
 have t:=hy.n4;have g:=hy.r1;have s:=hy.r2;intro k
 induction k with
 |zero=>
  intro m i o hi hm f c;cases m with
  |zero=>omega
  |succ m=>
   rw[Dy.eq_2,cf (df (by omega))];exact⟨o,rfl,f,by rw[show y.Ag.length=i by omega];exact c⟩
 |succ k ih=>
  intro m i o hi hm f c;cases m with
  |zero=>omega
  |succ m=>
   obtain⟨v,ev,v0,v1⟩:=Ss K ws h (i:Int) (by omega);rw[Dy.eq_2,ct (dt (by omega)),bd ev,Ks v0 g,QZ v0 (by omega),BJ (by omega) (by omega)];have h1:=Int.emod_nonneg v (show y.Ak≠0 by omega);have u:=Int.emod_lt_of_pos v (show 0<y.Ak by omega);obtain⟨r,p⟩:=Int.eq_ofNat_of_zero_le h1;have b:r<o.length:=by omega
   rw[p];have hlen:o[r].length≤4:=by
    have j:=c.length_eq;rw[G2] at j;have:=(List.sublist_flatten_of_mem (List.getElem_mem b)).length_le;omega
   have h3:=Int.emod_nonneg (v/4) (show((o[r].length:Int)+1)≠0 by omega);have j:=Int.emod_lt_of_pos (v/4) (show 0<(o[r].length:Int)+1 by omega);obtain⟨a,q⟩:=Int.eq_ofNat_of_zero_le h3;rw[C3 b,BJ (by omega) (by omega),Ks (by omega) (by omega),C3 b,q,TR (by omega) (by omega) (by omega)];have l:CI o[r] (0:Int) (a:Int)=o[r].take a:=Sg _ _;have n:CI o[r] (a:Int) (o[r].length:Int)=o[r].drop a:=Sh _ _;rw[l,FV (by simp only[List.length_nil,List.length_take];omega),FV (by simp only[List.length_append,List.length_cons,List.length_nil,List.length_take];omega),C3 b,TR (by omega) (by omega) (by omega),n,FV (by simp only[List.length_append,List.length_cons,List.length_nil,List.length_take,List.length_drop];omega),C3 b,BJ (by omega) (by omega),DG,Int.toNat_natCast];have e:(([]:List Int)++o[r].take a++[(i:Int)])++o[r].drop a=CM (o.getD r []) (a:Int) (i:Int):=by
    unfold CM;rw[Si b,Int.toNat_natCast];simp
   rw[e];refine ih m (i+1) _ (by omega) (by omega) (by rw[List.length_set];exact f) ?_;refine(Hy (i:Int) o r (a:Int) b).trans ?_;rw[I5];exact(List.Perm.cons _ c).trans (List.perm_append_singleton _ _).symm
theorem Rl{K:Nat}(hK:2000≤K)(y:Ar)(hy:Fp y)(ws:List Int)(h:W8 ws):∃o,Fo K y ws=some o∧Dz y o=true:=by
 have f:=hy.n4;have d:=hy.r1;have e:=hy.r2;unfold Fo;obtain⟨o,a,b,c⟩:=Rk (K:=K) y hy ws h y.Ag.length K 0 (List.replicate y.Ak.toNat []) (by omega) (by omega) (by rw[List.length_replicate];omega) (by
  have:∀n:Nat,(List.replicate n ([]:List Int)).flatten=[]:=fun n=>by
   induction n with
   |zero=>rfl
   |succ n ih=>rw[List.replicate_succ,List.flatten_cons,ih];rfl
  rw[this];exact List.Perm.refl _)
 rw[Int.natCast_zero] at a;rw[OA (by omega) (by omega) (by omega),bd a];exact⟨o,rfl,Fg.2 ⟨b,c⟩⟩
theorem Qo{y:Ar}(hy:Fp y):1≤Gm y:=by
 rw[←Jn y hy];have:=List.length_pos_iff.2 (LL hy);omega
theorem Su{K:Nat}(hK:2000≤K)(y:Ar)(hy:Fp y)(n:Int)(h0:0≤n)(h1:n≤65535):∃t,FE K y n=some t∧Et y t=true:=by
 unfold FE;have hm:=Qo hy;rw[bd (LP y hy.h0 hy.h9 hy.u0 hy.u1 hy.w0 hK),bd (Vb (by omega) (by omega)),bd (OG y hy hK),Ks h0 hm];have h3:=Int.emod_nonneg n (show Gm y≠0 by omega);have b:=Int.emod_lt_of_pos n (show 0<Gm y by omega);obtain⟨k,a⟩:=Int.eq_ofNat_of_zero_le h3;rw[a,bd (UZ y hy k (by omega) hK)];refine⟨_,rfl,(Q9 hy).1 ?_⟩;unfold Q8 KE;exact List.mem_map.2 ⟨k,by rw[List.mem_range'_1];omega,rfl⟩
end Go.Proofs.YtkljfdkmjdjpfaaGreat
end
section
namespace Go.Proofs.YtkljfdkmjdjpfaaGreat
section
variable{K:Nat}(hK:2000≤K){y:Ar}(h:check y=0)
theorem Hn{o:List (List Int)}(h:check y=0)(a:Dz y o=true):o.length≤1000∧(∀l∈o,l.length≤1000)∧o.flatten.length≤1000:=KB (FQ h) a
include hK h
theorem Qp{o:List (List Int)}(a:Dz y o=true){t:AZ}(ht:Et y t=true):FX K y o t=some (B8 y o t,0):=by
 obtain⟨h1,_,h3⟩:=Hn h a;rw[Qa y o t hK h1 h3,if_neg (by simp[h]),if_neg (by simp[a,ht])]
theorem OH{o:List (List Int)}(a:Dz y o=true){i:Nat}(hi:i<y.Ag.length):E7 K y o (i:Int)=some (verdict y o i,0):=by
 obtain⟨h1,_,h3⟩:=Hn h a;have b:F7 (i:Int) 0 ((y.Ag.length:Int)-1)=true:=FK.2 (by omega);rw[Sb y o i hK h1 h3,if_neg (by simp[h]),if_neg (by simp[a,b]),Int.toNat_natCast]
theorem TS{o:List (List Int)}(a:Dz y o=true):Gs K y o=some ((C7 y o).1,(C7 y o).2,0):=by
 obtain⟨h1,_,h3⟩:=Hn h a;rw[Qc y o hK h1 h3,if_neg (by simp[h]),if_neg (by simp[a])]
theorem TU:G0 K y=some ((H5 y).2,(H5 y).1,0):=by rw[TM y hK,if_neg (by simp[h])]
theorem TV:G1 K y=some ((LO y).2.2,(LO y).1,0):=by rw[TN y hK,if_neg (by simp[h])]
theorem PB:FJ K y=some (Gn y 0 y.Ag.length,0):=by rw[Pv y hK,if_neg (by simp[h])]
theorem NN{o:List (List Int)}(a:Dz y o=true)(n:Int):Fb K y o n=some (decide ((C7 y o).1≤n)):=by
 obtain⟨h1,_,h3⟩:=Hn h a;rw[Nw y o n hK h1 h3,dt h,a];rfl
theorem Om{o:List (List Int)}(a:Dz y o=true){t:AZ}(ht:Et y t=true)(n:Int):Fy K y o t n=some (decide (n≤(D1 y (B8 y o t):Int))):=by
 obtain⟨h1,_,h3⟩:=Hn h a;rw[Oh y o t n hK h1 h3,dt h,a,ht];rfl
end
def y1:Ar:=⟨5,1,1,1,[⟨0,0,2,2,2⟩,⟨1,1,2,1,5⟩]⟩
def t3:AZ:=⟨[0,1],[false,false,false,true,false,false]⟩
theorem H7:check y1=0:=by decide+kernel
theorem RR:Dz y1 [[0,1]]=true:=Fg.2 ⟨rfl,by decide⟩
theorem PC:Dz y1 [[1,0]]=true:=Fg.2 ⟨rfl,by decide⟩
theorem U0:Et y1 t3=true:=by decide+kernel
theorem U1:B8 y1 [[0,1]] t3=[⟨0,1,true⟩,⟨2,3,false⟩]:=by
 have h:∀(a b:List Av),a.map (fun s=>(s.On,s.AD,s.AM))=b.map (fun s=>(s.On,s.AD,s.AM))→a=b:=by
  intro a
  induction a with
  |nil=>intro b h;cases b with|nil=>rfl|cons x l=>cases h
  |cons x l ih=>
   intro b h;cases b with
   |nil=>cases h
   |cons x2 c=>
    have h1:=List.cons.inj h;obtain⟨a1,a2,a3⟩:=x;obtain⟨d,e,f⟩:=x2;have g:a1=d∧a2=e∧a3=f:=by simpa using h1.1
    obtain⟨rfl,rfl,rfl⟩:=g;rw[ih c h1.2]
 exact h _ _ (by decide+kernel)
theorem PD{K:Nat}(hK:2000≤K):EC K=some true:=by
 unfold EC;have a:CF K 1=some y1:=rfl;have b:Gv K 3=some t3:=rfl;have c:E7 K y1 [[0,1]] 1=some (verdict y1 [[0,1]] 1,0):=OH hK H7 RR (i:=1) (by decide);have d:E7 K y1 [[1,0]] 0=some (verdict y1 [[1,0]] 0,0):=OH hK H7 PC (i:=0) (by decide);have hy:=FQ H7;obtain⟨_,e,h⟩:=Iq hy [[1,0]];obtain⟨_,f,j⟩:=Pt hy;have v1:verdict y1 [[0,1]] 1=3:=by decide+kernel
 have v2:verdict y1 [[1,0]] 0=2:=by decide+kernel
 have v3:(C7 y1 [[1,0]]).1=2:=by decide+kernel
 have v4:(H5 y1).1=1:=by decide+kernel
 have v5:(LO y1).1=1:=by decide+kernel
 have v6:Gn y1 0 y1.Ag.length=[1]:=by decide+kernel
 rw[bd a,bd b,bd (Qp hK H7 RR U0),bd a,bd c,bd a,bd d,bd a,bd (TS hK H7 PC),bd a,bd (TU hK H7),bd a,bd (TV hK H7),bd a,bd (PB hK H7),U1];rw[ct (by rfl)];have s1:ET K 0 1 true=some ⟨0,1,true⟩:=rfl;have s2:ET K 2 3 false=some ⟨2,3,false⟩:=rfl;have g:Gw K [⟨0,1,true⟩,⟨2,3,false⟩] ⟨0,1,true⟩ ⟨2,3,false⟩=some true:=rfl;rw[bd s1,bd s2,bd g,ct (by rfl),ct (by rfl),v1,ct (by rfl),ct (by rfl),v2,ct (by rfl),ct (by rfl),v3,ct (by rfl),bd a,bd (Om hK H7 PC e 2),ct (dt (by omega)),ct (by rfl),v4,ct (by rfl),bd a,bd (NN hK H7 f 1),ct (dt (by omega)),ct (by rfl),v5,ct (by rfl),ct (by rfl),v6,bd (Sq hK [1] (by decide))]
end Go.Proofs.YtkljfdkmjdjpfaaGreat
end
section
namespace Go.Proofs.YtkljfdkmjdjpfaaGreat
namespace HF
theorem mixed:Tryz.prog.follows .mixedOrders=true:=by kernel_rfl
theorem JT(b:Nat)(w:World):(Instr.fieldAt 154 (.pointer (some ⟨b,0,none⟩)) 1).run Tryz.prog w=.ok (.pointer (some ⟨b,1,none⟩)) w:=by kernel_rfl
theorem AP:One Tryz.prog 3:=by unfold One;exact⟨by kernel_rfl,by kernel_rfl⟩
theorem JU(b:Nat)(w:World):(Instr.fieldAt 154 (.pointer (some ⟨b,0,none⟩)) 0).run Tryz.prog w=.ok (.pointer (some ⟨b,0,none⟩)) w:=by kernel_rfl
theorem Jo:Bn Tryz.prog 90:=by unfold Bn;kernel_rfl
theorem JV(b:Nat)(w:World):(Instr.fieldAt 116 (.pointer (some ⟨b,0,none⟩)) 1).run Tryz.prog w=.ok (.pointer (some ⟨b,1,none⟩)) w:=by kernel_rfl
theorem IS(b:Nat)(w:World):(Instr.fieldAt 116 (.pointer (some ⟨b,0,none⟩)) 0).run Tryz.prog w=.ok (.pointer (some ⟨b,0,none⟩)) w:=by kernel_rfl
theorem TW:(Tryz.prog.underlying 3).isSome=true:=by kernel_rfl
theorem Hc:(Tryz.prog.info? 115).bind (·.zero)=some (.agg #[I 0,I 0,.bool false]):=by kernel_rfl
theorem El:(Tryz.prog.info? 115).map (·.size)=some 3:=by kernel_rfl
theorem DU:DC Tryz.prog 115 3:=by unfold DC;exact⟨by kernel_rfl,by kernel_rfl⟩
theorem C5(b:Nat)(w:World):(Instr.fieldAt 75 (.pointer (some ⟨b,0,none⟩)) 4).run Tryz.prog w=.ok (.pointer (some ⟨b,4,none⟩)) w:=by kernel_rfl
theorem Dr:One Tryz.prog 73:=by unfold One;exact⟨by kernel_rfl,by kernel_rfl⟩
theorem FM(b:Nat)(w:World):(Instr.fieldAt 115 (.pointer (some ⟨b,0,none⟩)) 2).run Tryz.prog w=.ok (.pointer (some ⟨b,2,none⟩)) w:=by kernel_rfl
theorem FA:One Tryz.prog 4:=by unfold One;exact⟨by kernel_rfl,by kernel_rfl⟩
theorem Cu(b:Nat)(w:World):(Instr.fieldAt 115 (.pointer (some ⟨b,0,none⟩)) 1).run Tryz.prog w=.ok (.pointer (some ⟨b,1,none⟩)) w:=by kernel_rfl
theorem NO(b:Nat)(w:World):(Instr.fieldAt 156 (.pointer (some ⟨b,0,none⟩)) 3).run Tryz.prog w=.ok (.pointer (some ⟨b,4,none⟩)) w:=by kernel_rfl
theorem HE:DC Tryz.prog 156 5:=by unfold DC;exact⟨by kernel_rfl,by kernel_rfl⟩
theorem NP:Bn Tryz.prog 97:=by unfold Bn;kernel_rfl
theorem DP(b:Nat)(w:World):(Instr.fieldAt 63 (.pointer (some ⟨b,0,none⟩)) 0).run Tryz.prog w=.ok (.pointer (some ⟨b,0,none⟩)) w:=by kernel_rfl
theorem LW:Bn Tryz.prog 54:=by unfold Bn;kernel_rfl
theorem KT(b:Nat)(w:World):(Instr.fieldAt 63 (.pointer (some ⟨b,0,none⟩)) 3).run Tryz.prog w=.ok (.pointer (some ⟨b,3,none⟩)) w:=by kernel_rfl
theorem Me(b:Nat)(w:World):(Instr.fieldAt 63 (.pointer (some ⟨b,0,none⟩)) 2).run Tryz.prog w=.ok (.pointer (some ⟨b,2,none⟩)) w:=by kernel_rfl
theorem F8:DC Tryz.prog 63 5:=by unfold DC;exact⟨by kernel_rfl,by kernel_rfl⟩
theorem TX:Bn Tryz.prog 95:=by unfold Bn;kernel_rfl
theorem GW:(Tryz.prog.info? 3).map (fun i=>(i.zero,i.size,i.bytes))=some (some (I 0),1,8):=by kernel_rfl
theorem OI:Bn Tryz.prog 100:=by unfold Bn;kernel_rfl
theorem Fc(b:Nat)(w:World):(Instr.fieldAt 63 (.pointer (some ⟨b,0,none⟩)) 4).run Tryz.prog w=.ok (.pointer (some ⟨b,4,none⟩)) w:=by kernel_rfl
theorem FR:One Tryz.prog 61:=by unfold One;exact⟨by kernel_rfl,by kernel_rfl⟩
theorem Ho:(Tryz.prog.info? 118).map (·.size)=some 5:=by kernel_rfl
theorem NQ(b o:Nat)(w:World):(Instr.fieldAt 118 (.pointer (some ⟨b,o,none⟩)) 0).run Tryz.prog w=.ok (.pointer (some ⟨b,o,none⟩)) w:=by kernel_rfl
theorem Jp:DC Tryz.prog 116 2:=by unfold DC;exact⟨by kernel_rfl,by kernel_rfl⟩
theorem Mf:Bn Tryz.prog 136:=by unfold Bn;kernel_rfl
theorem Jq(b:Nat)(w:World):(Instr.fieldAt 63 (.pointer (some ⟨b,0,none⟩)) 1).run Tryz.prog w=.ok (.pointer (some ⟨b,1,none⟩)) w:=by kernel_rfl
theorem KI:Bn Tryz.prog 46:=by unfold Bn;kernel_rfl
theorem OJ:DC Tryz.prog 118 5:=by unfold DC;exact⟨by kernel_rfl,by kernel_rfl⟩
theorem NR:(Tryz.prog.info? 118).bind (·.zero)=some (.agg #[I 0,I 0,I 0,I 0,I 0]):=by kernel_rfl
theorem IT(b:Nat)(w:World):(Instr.fieldAt 118 (.pointer (some ⟨b,0,none⟩)) 0).run Tryz.prog w=.ok (.pointer (some ⟨b,0,none⟩)) w:=by kernel_rfl
theorem NS(b:Nat)(w:World):(Instr.fieldAt 118 (.pointer (some ⟨b,0,none⟩)) 1).run Tryz.prog w=.ok (.pointer (some ⟨b,2,none⟩)) w:=by kernel_rfl
theorem NT(b:Nat)(w:World):(Instr.fieldAt 118 (.pointer (some ⟨b,0,none⟩)) 2).run Tryz.prog w=.ok (.pointer (some ⟨b,3,none⟩)) w:=by kernel_rfl
theorem NU(b:Nat)(w:World):(Instr.fieldAt 118 (.pointer (some ⟨b,0,none⟩)) 3).run Tryz.prog w=.ok (.pointer (some ⟨b,4,none⟩)) w:=by kernel_rfl
theorem NV:Bn Tryz.prog 81:=by unfold Bn;kernel_rfl
theorem JW(b:Nat)(w:World):(Instr.fieldAt 156 (.pointer (some ⟨b,0,none⟩)) 0).run Tryz.prog w=.ok (.pointer (some ⟨b,0,none⟩)) w:=by kernel_rfl
theorem KU:DC Tryz.prog 154 2:=by unfold DC;exact⟨by kernel_rfl,by kernel_rfl⟩
theorem HG(b:Nat)(w:World):(Instr.fieldAt 75 (.pointer (some ⟨b,0,none⟩)) 0).run Tryz.prog w=.ok (.pointer (some ⟨b,0,none⟩)) w:=by kernel_rfl
theorem Sv:Bn Tryz.prog 140:=by unfold Bn;kernel_rfl
theorem HA(b:Nat)(w:World):(Instr.fieldAt 156 (.pointer (some ⟨b,0,none⟩)) 1).run Tryz.prog w=.ok (.pointer (some ⟨b,2,none⟩)) w:=by kernel_rfl
theorem OK:Bn Tryz.prog 141:=by unfold Bn;kernel_rfl
theorem Ll(b:Nat)(w:World):(Instr.fieldAt 156 (.pointer (some ⟨b,0,none⟩)) 2).run Tryz.prog w=.ok (.pointer (some ⟨b,3,none⟩)) w:=by kernel_rfl
theorem C8:(Tryz.prog.info? 3).map (·.size)=some 1:=by kernel_rfl
theorem Mg:(Tryz.prog.info? 75).bind (·.zero)=some (.agg #[I 0,I 0,I 0,I 0,.slice none 0 0]):=by kernel_rfl
theorem PE:(Tryz.prog.info? 75).map (·.size)=some 5:=by kernel_rfl
theorem CO:DC Tryz.prog 75 5:=by unfold DC;exact⟨by kernel_rfl,by kernel_rfl⟩
theorem G3:(Tryz.prog.info? 78).bind (·.zero)=some (.agg #[.slice none 0 0,.slice none 0 0]):=by kernel_rfl
theorem KJ:(Tryz.prog.info? 4).map (fun i=>(i.zero,i.size,i.bytes))=some (some (.bool false),1,1):=by kernel_rfl
theorem G7:(Tryz.prog.info? 78).map (·.size)=some 2:=by kernel_rfl
theorem HH(b:Nat)(w:World):(Instr.fieldAt 78 (.pointer (some ⟨b,0,none⟩)) 1).run Tryz.prog w=.ok (.pointer (some ⟨b,1,none⟩)) w:=by kernel_rfl
theorem FG:One Tryz.prog 65:=by unfold One;exact⟨by kernel_rfl,by kernel_rfl⟩
theorem If:(Tryz.prog.info? 4).map (·.size)=some 1:=by kernel_rfl
theorem F9:DC Tryz.prog 78 2:=by unfold DC;exact⟨by kernel_rfl,by kernel_rfl⟩
theorem Mh:Tryz.prog.eqGuardType Tryz.prog.depth 115=false:=by kernel_rfl
theorem Lm:QU Tryz.prog 115 [true,true,false]:=Og Tryz.underlying115 (by kernel_rfl) (by kernel_rfl) AP Tryz.underlying3 FA Tryz.underlying4
theorem Rm:(Tryz.prog.info? 154).bind (·.zero)=some (.agg #[I 0,I 0]):=by kernel_rfl
theorem TY:(Tryz.prog.info? 154).map (·.size)=some 2:=by kernel_rfl
theorem TZ:Bn Tryz.prog 88:=by unfold Bn;kernel_rfl
theorem Rn:(Tryz.prog.info? 156).map (fun i=>(i.zero,i.size,i.bytes))=some (some (.agg #[I 0,I 0,I 0,I 0,I 0]),5,40):=by kernel_rfl
theorem U2:(Tryz.prog.info? 73).map (·.size)=some 1:=by kernel_rfl
theorem Qq:Bn Tryz.prog 80:=by unfold Bn;kernel_rfl
theorem Sw:One Tryz.prog 168:=by unfold One;exact⟨by kernel_rfl,by kernel_rfl⟩
theorem Hd:(Tryz.prog.info? 156).map (·.size)=some 5:=by kernel_rfl
theorem Sx:Bn Tryz.prog 175:=by unfold Bn;kernel_rfl
theorem Sy:Bn Tryz.prog 143:=by unfold Bn;kernel_rfl
theorem Sz:Bn Tryz.prog 142:=by unfold Bn;kernel_rfl
theorem SA:One Tryz.prog 237:=by unfold One;exact⟨by kernel_rfl,by kernel_rfl⟩
theorem SC:Bn Tryz.prog 210:=by unfold Bn;kernel_rfl
theorem SD:Bn Tryz.prog 198:=by unfold Bn;kernel_rfl
theorem SE:Bn Tryz.prog 197:=by unfold Bn;kernel_rfl
theorem OL(b:Nat)(w:World):(Instr.fieldAt 75 (.pointer (some ⟨b,0,none⟩)) 2).run Tryz.prog w=.ok (.pointer (some ⟨b,2,none⟩)) w:=by kernel_rfl
theorem OM(b:Nat)(w:World):(Instr.fieldAt 75 (.pointer (some ⟨b,0,none⟩)) 3).run Tryz.prog w=.ok (.pointer (some ⟨b,3,none⟩)) w:=by kernel_rfl
theorem IU:(Tryz.prog.info? 3).bind (·.zero)=some (I 0):=by kernel_rfl
theorem SF:Bn Tryz.prog 173:=by unfold Bn;kernel_rfl
theorem SG:Bn Tryz.prog 172:=by unfold Bn;kernel_rfl
theorem SH:Bn Tryz.prog 145:=by unfold Bn;kernel_rfl
theorem ON:Bn Tryz.prog 138:=by unfold Bn;kernel_rfl
theorem Jr(b:Nat)(w:World):(Instr.fieldAt 75 (.pointer (some ⟨b,0,none⟩)) 1).run Tryz.prog w=.ok (.pointer (some ⟨b,1,none⟩)) w:=by kernel_rfl
theorem T0:Bn Tryz.prog 89:=by unfold Bn;kernel_rfl
theorem T1:Bn Tryz.prog 91:=by unfold Bn;kernel_rfl
theorem Qr:Bn Tryz.prog 92:=by unfold Bn;kernel_rfl
theorem OO:Bn Tryz.prog 144:=by unfold Bn;kernel_rfl
theorem Ln:(Tryz.prog.info? 156).bind (·.zero)=some (.agg #[I 0,I 0,I 0,I 0,I 0]):=by kernel_rfl
theorem Qs:Bn Tryz.prog 94:=by unfold Bn;kernel_rfl
theorem T3:Bn Tryz.prog 93:=by unfold Bn;kernel_rfl
theorem DB:One Tryz.prog 23:=by unfold One;exact⟨by kernel_rfl,by kernel_rfl⟩
theorem SI:One Tryz.prog 161:=by unfold One;exact⟨by kernel_rfl,by kernel_rfl⟩
theorem NW(b o:Nat)(w:World):(Instr.fieldAt 156 (.pointer (some ⟨b,o,none⟩)) 0).run Tryz.prog w=.ok (.pointer (some ⟨b,o,none⟩)) w:=by kernel_rfl
theorem Ro(b o:Nat)(w:World):(Instr.fieldAt 154 (.pointer (some ⟨b,o,none⟩)) 0).run Tryz.prog w=.ok (.pointer (some ⟨b,o,none⟩)) w:=by kernel_rfl
theorem KV:One Tryz.prog 176:=by unfold One;exact⟨by kernel_rfl,by kernel_rfl⟩
theorem OP:Bn Tryz.prog 200:=by unfold Bn;kernel_rfl
theorem SJ:(Tryz.prog.info? 23).bind (·.zero)=some (.slice none 0 0):=by kernel_rfl
theorem EK:(Tryz.prog.info? 23).map (·.size)=some 1:=by kernel_rfl
theorem SK:(Tryz.prog.info? 65).bind (·.zero)=some (.slice none 0 0):=by kernel_rfl
theorem RS:(Tryz.prog.info? 65).map (·.size)=some 1:=by kernel_rfl
theorem NX:(Tryz.prog.info? 176).bind (·.zero)=some (.nilFunc):=by kernel_rfl
theorem Qt:(Tryz.prog.info? 176).map (·.size)=some 1:=by kernel_rfl
theorem SL(w:World):(Op.equal 23 (.slice none 0 0) (.slice none 0 0)).run Tryz.prog w=.ok true w:=by kernel_rfl
theorem SM(ad:Addr)(n c:Nat)(w:World):(Op.equal 23 (.slice (some ad) n c) (.slice none 0 0)).run Tryz.prog w=.ok false w:=by kernel_rfl
theorem Mi:Bn Tryz.prog 149:=by unfold Bn;kernel_rfl
theorem SN(w:World):(Op.equal 65 (.slice none 0 0) (.slice none 0 0)).run Tryz.prog w=.ok true w:=by kernel_rfl
theorem SO(ad:Addr)(n c:Nat)(w:World):(Op.equal 65 (.slice (some ad) n c) (.slice none 0 0)).run Tryz.prog w=.ok false w:=by kernel_rfl
theorem Mj:Bn Tryz.prog 150:=by unfold Bn;kernel_rfl
theorem Js:(Tryz.prog.info? 23).map (fun i=>(i.zero,i.size,i.bytes))=some (some (.slice none 0 0),1,24):=by kernel_rfl
theorem SP(w:World):(Op.equal 64 (.slice none 0 0) (.slice none 0 0)).run Tryz.prog w=.ok true w:=by kernel_rfl
theorem SQ(ad:Addr)(n c:Nat)(w:World):(Op.equal 64 (.slice (some ad) n c) (.slice none 0 0)).run Tryz.prog w=.ok false w:=by kernel_rfl
theorem SR:Bn Tryz.prog 153:=by unfold Bn;kernel_rfl
theorem Iu:∀(b c:Bool) (w:World),(Op.equal 4 (.bool b) (.bool c)).run Tryz.prog w=.ok (b==c) w:=by intro b c w;cases b<;>cases c<;>kernel_rfl
theorem HY(b:Nat)(w:World):(Instr.fieldAt 78 (.pointer (some ⟨b,0,none⟩)) 0).run Tryz.prog w=.ok (.pointer (some ⟨b,0,none⟩)) w:=by kernel_rfl
theorem OQ:K4 Tryz.prog 220 2:=Pb 2 Tryz.underlying220 (by kernel_rfl) rfl rfl AP Tryz.underlying3
theorem NY:M7 Tryz.prog 220 2:=Ob 2 Tryz.underlying220 rfl rfl AP Tryz.underlying3
theorem MI:JC Tryz.prog 220:=by unfold JC;kernel_rfl
theorem T4:(Tryz.prog.info? 115).bind (·.zero)=some (.agg #[I 0,I 0,.bool false]):=by kernel_rfl
theorem HB(b:Nat)(w:World):(Instr.fieldAt 220 (.pointer (some ⟨b,0,none⟩)) 1).run Tryz.prog w=.ok (.pointer (some ⟨b,1,none⟩)) w:=by kernel_rfl
theorem IV(b o:Nat)(w:World):(Instr.fieldAt 165 (.pointer (some ⟨b,o,none⟩)) 0).run Tryz.prog w=.ok (.pointer (some ⟨b,o,none⟩)) w:=by kernel_rfl
theorem Mk(b o:Nat)(w:World):(Instr.fieldAt 75 (.pointer (some ⟨b,o,none⟩)) 0).run Tryz.prog w=.ok (.pointer (some ⟨b,o,none⟩)) w:=by kernel_rfl
theorem OR(b o:Nat)(w:World):(Instr.fieldAt 75 (.pointer (some ⟨b,o,none⟩)) 4).run Tryz.prog w=.ok (.pointer (some ⟨b,o+4,none⟩)) w:=by kernel_rfl
theorem Rp(b:Nat)(w:World):(Instr.fieldAt 220 (.pointer (some ⟨b,0,none⟩)) 0).run Tryz.prog w=.ok (.pointer (some ⟨b,0,none⟩)) w:=by kernel_rfl
theorem NZ(b o:Nat)(w:World):(Instr.fieldAt 165 (.pointer (some ⟨b,o,none⟩)) 1).run Tryz.prog w=.ok (.pointer (some ⟨b,o+5,none⟩)) w:=by kernel_rfl
theorem N0(b o:Nat)(w:World):(Instr.fieldAt 165 (.pointer (some ⟨b,o,none⟩)) 2).run Tryz.prog w=.ok (.pointer (some ⟨b,o+6,none⟩)) w:=by kernel_rfl
theorem OS:One Tryz.prog 163:=by unfold One;exact⟨by kernel_rfl,by kernel_rfl⟩
theorem Ml:DC Tryz.prog 220 2:=by unfold DC;exact⟨by kernel_rfl,by kernel_rfl⟩
theorem SS:Bn Tryz.prog 174:=by unfold Bn;kernel_rfl
theorem Rq:(Tryz.prog.info? 115).map (fun i=>(i.zero,i.size,i.bytes))=some (some (.agg #[I 0,I 0,.bool false]),3,24):=by kernel_rfl
theorem SU:Bn Tryz.prog 139:=by unfold Bn;kernel_rfl
theorem SV:Bn Tryz.prog 137:=by unfold Bn;kernel_rfl
theorem Jt:Bn Tryz.prog 35:=by unfold Bn;kernel_rfl
theorem N1:Bn Tryz.prog 85:=by unfold Bn;kernel_rfl
theorem T5:Bn Tryz.prog 86:=by unfold Bn;kernel_rfl
theorem LX:Bn Tryz.prog 87:=by unfold Bn;kernel_rfl
theorem N2:(Tryz.prog.info? 183).bind (·.zero)=some (.agg #[.nilFunc]):=by kernel_rfl
theorem Qu:(Tryz.prog.info? 183).map (·.size)=some 1:=by kernel_rfl
theorem N3(b:Nat)(w:World):(Instr.fieldAt 183 (.pointer (some ⟨b,0,none⟩)) 0).run Tryz.prog w=.ok (.pointer (some ⟨b,0,none⟩)) w:=by kernel_rfl
theorem OT:One Tryz.prog 180:=by unfold One;exact⟨by kernel_rfl,by kernel_rfl⟩
theorem OU:Bn Tryz.prog 107:=by unfold Bn;kernel_rfl
theorem OV:Bn Tryz.prog 103:=by unfold Bn;kernel_rfl
theorem Rr:(Tryz.prog.info? 162).bind (·.zero)=some (.pointer none):=by kernel_rfl
theorem SW:Bn Tryz.prog 176:=by unfold Bn;kernel_rfl
theorem Iy:One Tryz.prog 162:=by unfold One;exact⟨by kernel_rfl,by kernel_rfl⟩
theorem Qv(w:World):(Op.equal 162 (.pointer none) (.pointer none)).run Tryz.prog w=.ok true w:=by kernel_rfl
theorem Qw:(Tryz.prog.info? 162).map (·.size)=some 1:=by kernel_rfl
theorem Mm:One Tryz.prog 223:=by unfold One;exact⟨by kernel_rfl,by kernel_rfl⟩
theorem Gp:One Tryz.prog 64:=by unfold One;exact⟨by kernel_rfl,by kernel_rfl⟩
theorem Qx(ad:Addr)(w:World):(Op.equal 162 (.pointer (some ad)) (.pointer none)).run Tryz.prog w=.ok false w:=by kernel_rfl
theorem SX:Bn Tryz.prog 177:=by unfold Bn;kernel_rfl
theorem SY:Bn Tryz.prog 199:=by unfold Bn;kernel_rfl
theorem IW:(Tryz.prog.info? 178).bind (·.zero)=some (.agg #[I 0,I 0,I 0,I 0]):=by kernel_rfl
theorem SZ:Bn Tryz.prog 147:=by unfold Bn;kernel_rfl
theorem OW:Bn Tryz.prog 146:=by unfold Bn;kernel_rfl
theorem Iz:DC Tryz.prog 178 4:=by unfold DC;exact⟨by kernel_rfl,by kernel_rfl⟩
theorem Ju:(Tryz.prog.info? 178).map (·.size)=some 4:=by kernel_rfl
theorem S0:Bn Tryz.prog 148:=by unfold Bn;kernel_rfl
theorem T6:Bn Tryz.prog 96:=by unfold Bn;kernel_rfl
theorem N4:Bn Tryz.prog 98:=by unfold Bn;kernel_rfl
theorem Qy:Bn Tryz.prog 99:=by unfold Bn;kernel_rfl
theorem Qz:Bn Tryz.prog 41:=by unfold Bn;kernel_rfl
theorem N5:Bn Tryz.prog 30:=by unfold Bn;kernel_rfl
theorem S1:Bn Tryz.prog 152:=by unfold Bn;kernel_rfl
theorem Mn:Bn Tryz.prog 106:=by unfold Bn;kernel_rfl
theorem I6:(Tryz.prog.info? 64).map (·.size)=some 1:=by kernel_rfl
theorem S2:DC Tryz.prog 183 1:=by unfold DC;exact⟨by kernel_rfl,by kernel_rfl⟩
theorem S3:Tryz.prog.eqGuardType Tryz.prog.depth 178=false:=by kernel_rfl
theorem S4:K4 Tryz.prog 178 4:=PK Tryz.underlying178 AP Tryz.underlying3
theorem T7:One Tryz.prog 69:=by unfold One;exact⟨by kernel_rfl,by kernel_rfl⟩
theorem OX:Bn Tryz.prog 151:=by unfold Bn;kernel_rfl
theorem Mo:(Tryz.prog.info? 64).bind (·.zero)=some (.slice none 0 0):=by kernel_rfl
theorem S5:Bn Tryz.prog 105:=by unfold Bn;kernel_rfl
theorem OY:Bn Tryz.prog 104:=by unfold Bn;kernel_rfl
theorem S6:Bn Tryz.prog 108:=by unfold Bn;kernel_rfl
theorem KW:(Tryz.prog.info? 67).bind (·.zero)=some (.agg #[.slice none 0 0,.slice none 0 0]):=by kernel_rfl
theorem Rs:(Tryz.prog.info? 116).bind (·.zero)=some (.agg #[I 0,I 0]):=by kernel_rfl
theorem T8:(Tryz.prog.info? 116).map (·.size)=some 2:=by kernel_rfl
theorem HI(b:Nat)(w:World):(Instr.fieldAt 67 (.pointer (some ⟨b,0,none⟩)) 0).run Tryz.prog w=.ok (.pointer (some ⟨b,0,none⟩)) w:=by kernel_rfl
theorem HZ(b:Nat)(w:World):(Instr.fieldAt 67 (.pointer (some ⟨b,0,none⟩)) 1).run Tryz.prog w=.ok (.pointer (some ⟨b,1,none⟩)) w:=by kernel_rfl
theorem LY:DC Tryz.prog 67 2:=by unfold DC;exact⟨by kernel_rfl,by kernel_rfl⟩
theorem PF:(Tryz.prog.info? 67).map (·.size)=some 2:=by kernel_rfl
theorem S7:Bn Tryz.prog 101:=by unfold Bn;kernel_rfl
theorem JX(b o:Nat)(w:World):(Instr.fieldAt 118 (.pointer (some ⟨b,o,none⟩)) 1).run Tryz.prog w=.ok (.pointer (some ⟨b,o+2,none⟩)) w:=by kernel_rfl
theorem T9:Bn Tryz.prog 27:=by unfold Bn;kernel_rfl
theorem Ua:Bn Tryz.prog 34:=by unfold Bn;kernel_rfl
theorem Vm:(Tryz.prog.info? 5).map (·.size)=some 1:=by kernel_rfl
theorem U3:One Tryz.prog 5:=by unfold One;exact⟨by kernel_rfl,by kernel_rfl⟩
theorem Vn:(Tryz.prog.underlying 5).isSome=true:=by kernel_rfl
theorem S8:Bn Tryz.prog 110:=by unfold Bn;kernel_rfl
theorem U4:(Tryz.prog.underlying 27).isSome=true:=by kernel_rfl
theorem HU:Bn Tryz.prog 82:=by unfold Bn;kernel_rfl
theorem Ub:Bn Tryz.prog 83:=by unfold Bn;kernel_rfl
theorem QA:Bn Tryz.prog 40:=by unfold Bn;kernel_rfl
theorem Uc:Bn Tryz.prog 50:=by unfold Bn;kernel_rfl
theorem Ud:Bn Tryz.prog 51:=by unfold Bn;kernel_rfl
theorem Ue:Bn Tryz.prog 52:=by unfold Bn;kernel_rfl
theorem QB:Bn Tryz.prog 61:=by unfold Bn;kernel_rfl
theorem Uf:Bn Tryz.prog 84:=by unfold Bn;kernel_rfl
theorem Ug:Bn Tryz.prog 48:=by unfold Bn;kernel_rfl
theorem Uh:Bn Tryz.prog 49:=by unfold Bn;kernel_rfl
theorem Ui:Bn Tryz.prog 55:=by unfold Bn;kernel_rfl
theorem QC:Bn Tryz.prog 29:=by unfold Bn;kernel_rfl
theorem Uj:Bn Tryz.prog 31:=by unfold Bn;kernel_rfl
theorem Uk:Bn Tryz.prog 32:=by unfold Bn;kernel_rfl
theorem Ul:Bn Tryz.prog 33:=by unfold Bn;kernel_rfl
theorem Um:Bn Tryz.prog 56:=by unfold Bn;kernel_rfl
theorem Un:Bn Tryz.prog 57:=by unfold Bn;kernel_rfl
theorem Uo:Bn Tryz.prog 59:=by unfold Bn;kernel_rfl
theorem Eu(b:Nat)(w:World):(Instr.fieldAt 115 (.pointer (some ⟨b,0,none⟩)) 0).run Tryz.prog w=.ok (.pointer (some ⟨b,0,none⟩)) w:=by kernel_rfl
end HF
end Go.Proofs.YtkljfdkmjdjpfaaGreat
end
section
set_option linter.unusedVariables false
set_option linter.unusedSimpArgs false
namespace Go.Proofs.YtkljfdkmjdjpfaaGreat
open Go.RowKit Go.WideShapes
set_option maxRecDepth 20000
open HF
attribute [local irreducible] BL WL CC CW LV BO Ef DC One Bn
theorem OZ(n:Nat)(b:Int)(e:Int)(f:Int)(Z:Nat→Prop)(w:World)(m:Bool)(d:Em n b e f=some m):
 BO Tryz.prog 90 #[I b,I e,I f] w (fun v w'=>Ext w w'∧BY.R w' (ZZ FN [] Z w.heap.size []) v m):=by
 unfold Em at d;refine Be (N:=15) Tryz.func90 rfl rfl (by simp) ?_;intro o h p;have g:=AR (i:=0) (v:=I b) h rfl;have k:=AR (i:=1) (v:=I e) h rfl;have l:=AR (i:=2) (v:=I f) h rfl;clear h;have j:Hp FN [] w [] w:=Hp.start (BQ.none w);refine Af<|Ad<|wa rfl (v:=.bool false) rfl<|Ae<|Ac<|Af<|Ad<|wm rfl (v:=I e) k<|wm rfl (v:=I b) g<|wd rfl (fun st=>Ee (ee st rfl) (ee st rfl))<|wm rfl (v:=.bool (decide (e≤b))) rfl ?_;rcases Aq (decide (e≤b)) with a|a
 ·replace d:=AF d a;refine Aw rfl rfl (Ab rfl a) rfl (by decide) (fun st=>AN (v:=I b) (ee st g))<|Aw rfl rfl (Ab rfl a) rfl (by decide) (fun st=>AN (v:=I f) (ee st l))<|Aw rfl rfl (Ab rfl a) rfl (by decide) (fun st=>Ee (ee st rfl) (ee st rfl))<|wd rfl (fun st=>AT (v:=.bool (decide (b≤f))) (ee st rfl) a (ee st rfl))<|wa rfl (v:=.bool (decide (b≤f))) rfl<|Ae<|Ac<|AI ?_;obtain rfl:=Option.some.inj d;refine A3 rfl rfl ?_;exact⟨j.By,rfl⟩
 ·replace d:=AG d a;refine Aj (c:=false) rfl rfl (Ab rfl a) (by decide) rfl (by decide)<|Aj (c:=false) rfl rfl (Ab rfl a) (by decide) rfl (by decide)<|Aj (c:=false) rfl rfl (Ab rfl a) (by decide) rfl (by decide)<|wd rfl (fun st=>Bd (v:=.bool false) (ee st rfl) a (ee st rfl))<|wa rfl (v:=.bool false) rfl<|Ae<|Ac<|AI ?_;obtain rfl:=Option.some.inj d;refine A3 rfl rfl ?_;exact⟨j.By,rfl⟩
theorem Vc(m:Nat)(a:CB)(Z:Nat→Prop)(w:World)(f:Int)(b:Fa m a=some f):
 BO Tryz.prog 94 #[.agg #[I a.Lo,I a.Hi]] w (fun v w'=>Ext w w'∧(Ft .i64).R w' (ZZ FN [] Z w.heap.size []) v f):=by
 unfold Fa at b;refine Be (N:=9) Tryz.func94 rfl rfl (by simp) ?_;intro n g o;have e:=AR (i:=0) (v:=.agg #[I a.Lo,I a.Hi]) g rfl;clear g;have d:Hp FN [] w [] w:=Hp.start (BQ.none w);refine Af<|Ad<|we rfl (fun st=>B5 (v:=.agg #[I a.Lo,I a.Hi]) (cs:= #[I a.Lo,I a.Hi]) (ee st e) rfl) ?_;rintro _ w1 ⟨p,rfl,c⟩;have h:=d.nb c;have l:=d.BM c;refine wa rfl (v:=I 0) rfl<|Ae<|Ac<|Af<|Ad<|wd rfl (fun st=>Ai (ee st rfl) (JT _ _))<|wd rfl (fun st=>Ap (v:=I a.Hi) AP (ee st rfl) c.bk rfl)<|wd rfl (fun st=>Ai (ee st rfl) (JU _ _))<|wd rfl (fun st=>Ap (v:=I a.Lo) AP (ee st rfl) c.bk rfl) ?_;replace b:=AU b;obtain⟨j,b⟩:=b;refine wd rfl (fun st=>O5 (ee st rfl) (ee st rfl) j) ?_;replace b:=AU b;obtain⟨k,b⟩:=b;refine wd rfl (fun st=>Bu (ee st rfl) (ee st rfl) k)<|wa rfl (v:=I ((a.Hi-a.Lo)+1)) rfl<|Ae<|Ac<|AI ?_;obtain rfl:=Option.some.inj b;refine A3 rfl rfl ?_;exact⟨h.By,rfl⟩
theorem Vo(p:Nat)(a:CB)(g:Int)(Z:Nat→Prop)(w:World)(n:Bool)(e:G6 p a g=some n):
 BO Tryz.prog 140 #[.agg #[I a.Lo,I a.Hi],I g] w (fun v w'=>Ext w w'∧BY.R w' (ZZ FN [] Z w.heap.size []) v n):=by
 unfold G6 at e;refine Be (N:=21) Tryz.func140 rfl rfl (by simp) ?_;intro q k r;have l:=AR (i:=0) (v:=.agg #[I a.Lo,I a.Hi]) k rfl;have m:=AR (i:=1) (v:=I g) k rfl;clear k;have j:Hp FN [] w [] w:=Hp.start (BQ.none w);refine Af<|Ad<|we rfl (fun st=>B5 (v:=.agg #[I a.Lo,I a.Hi]) (cs:= #[I a.Lo,I a.Hi]) (ee st l) rfl) ?_;rintro _ w1 ⟨s,rfl,f⟩;have h:=j.nb f;have o:=j.BM f;refine wa rfl (v:=.bool false) rfl<|Ae<|Ac<|Af<|Ad<|wd rfl (fun st=>Ai (ee st rfl) (JU _ _))<|wd rfl (fun st=>Ap (v:=I a.Lo) AP (ee st rfl) f.bk rfl)<|wd rfl (fun st=>Ee (ee st rfl) (ee st rfl))<|wm rfl (v:=.bool (decide ((0:Int)≤a.Lo))) rfl ?_;rcases Aq (decide ((0:Int)≤a.Lo)) with b|b
 ·replace e:=AF e b;refine Aw rfl rfl (Ab rfl b) rfl (by decide) (fun st=>Ai (ee st rfl) (JU _ _))<|Aw rfl rfl (Ab rfl b) rfl (by decide) (fun st=>Ap (v:=I a.Lo) AP (ee st rfl) f.bk rfl)<|Aw rfl rfl (Ab rfl b) rfl (by decide) (fun st=>Ai (ee st rfl) (JT _ _))<|Aw rfl rfl (Ab rfl b) rfl (by decide) (fun st=>Ap (v:=I a.Hi) AP (ee st rfl) f.bk rfl)<|Aw rfl rfl (Ab rfl b) rfl (by decide) (fun st=>Ee (ee st rfl) (ee st rfl))<|wd rfl (fun st=>AT (v:=.bool (decide (a.Lo≤a.Hi))) (ee st rfl) b (ee st rfl))<|wm rfl (v:=.bool (decide (a.Lo≤a.Hi))) rfl ?_;rcases Aq (decide (a.Lo≤a.Hi)) with d|d
  ·replace e:=AF e d;refine Aw rfl rfl (Ab rfl d) rfl (by decide) (fun st=>Ai (ee st rfl) (JT _ _))<|Aw rfl rfl (Ab rfl d) rfl (by decide) (fun st=>Ap (v:=I a.Hi) AP (ee st rfl) f.bk rfl)<|Aw rfl rfl (Ab rfl d) rfl (by decide) (fun st=>AN (v:=I g) (ee st m))<|Aw rfl rfl (Ab rfl d) rfl (by decide) (fun st=>Ee (ee st rfl) (ee st rfl))<|wd rfl (fun st=>AT (v:=.bool (decide (a.Hi≤g))) (ee st rfl) d (ee st rfl))<|wa rfl (v:=.bool (decide (a.Hi≤g))) rfl<|Ae<|Ac<|AI ?_;obtain rfl:=Option.some.inj e;refine A3 rfl rfl ?_;exact⟨h.By,rfl⟩
  ·replace e:=AG e d;refine Aj (c:=false) rfl rfl (Ab rfl d) (by decide) rfl (by decide)<|Aj (c:=false) rfl rfl (Ab rfl d) (by decide) rfl (by decide)<|Aj (c:=false) rfl rfl (Ab rfl d) (by decide) rfl (by decide)<|Aj (c:=false) rfl rfl (Ab rfl d) (by decide) rfl (by decide)<|wd rfl (fun st=>Bd (v:=.bool false) (ee st rfl) d (ee st rfl))<|wa rfl (v:=.bool false) rfl<|Ae<|Ac<|AI ?_;obtain rfl:=Option.some.inj e;refine A3 rfl rfl ?_;exact⟨h.By,rfl⟩
 ·replace e:=AG e b;refine Aj (c:=false) rfl rfl (Ab rfl b) (by decide) rfl (by decide)<|Aj (c:=false) rfl rfl (Ab rfl b) (by decide) rfl (by decide)<|Aj (c:=false) rfl rfl (Ab rfl b) (by decide) rfl (by decide)<|Aj (c:=false) rfl rfl (Ab rfl b) (by decide) rfl (by decide)<|Aj (c:=false) rfl rfl (Ab rfl b) (by decide) rfl (by decide)<|wd rfl (fun st=>Bd (v:=.bool false) (ee st rfl) b (ee st rfl))<|wm rfl (v:=.bool false) rfl<|Aj rfl rfl rfl (by decide) rfl (by decide)<|Aj rfl rfl rfl (by decide) rfl (by decide)<|Aj rfl rfl rfl (by decide) rfl (by decide)<|Aj rfl rfl rfl (by decide) rfl (by decide)<|wd rfl (fun st=>Bd (v:=.bool false) (ee st rfl) rfl (ee st rfl))<|wa rfl (v:=.bool false) rfl<|Ae<|Ac<|AI ?_;obtain rfl:=Option.some.inj e;refine A3 rfl rfl ?_;exact⟨h.By,rfl⟩
theorem a141(d:Nat)(b:Int)(Z:Nat→Prop)(w:World)(e:Bool)(a:GV d b=some e):
 BO Tryz.prog 141 #[I b] w (fun v w'=>Ext w w'∧BY.R w' (ZZ FN [] Z w.heap.size []) v e):=by
 unfold GV at a;refine Be (N:=5) Tryz.func141 rfl rfl (by simp) ?_;intro l f m;have c:=AR (i:=0) (v:=I b) f rfl;clear f;have g:Hp FN [] w [] w:=Hp.start (BQ.none w);refine Af<|Ad<|wa rfl (v:=.bool false) rfl<|Ae<|Ac<|Af<|Ad<|wm rfl (v:=I b) c ?_;replace a:=bind_some a;obtain⟨r1,h,a⟩:=a;refine we rfl (fun st=>AX Jo (ee st rfl) (FH (ee st rfl) (ee st rfl) (ee st rfl)) (OZ d b 1 5 ZA _ r1 h)) ?_;rintro _ w2 ⟨j,rfl⟩;have k:=g.ext j;refine wa rfl (v:=.bool r1) rfl<|Ae<|Ac<|AI ?_;obtain rfl:=Option.some.inj a;refine A3 rfl rfl ?_;exact⟨k.By,rfl⟩
theorem a46(n:Nat)(b:Int)(e:Int)(f:Int)(Z:Nat→Prop)(w:World)(m:Bool)(d:DW n b e f=some m):
 BO Tryz.prog 46 #[I b,I e,I f] w (fun v w'=>Ext w w'∧BY.R w' (ZZ FN [] Z w.heap.size []) v m):=by
 unfold DW at d;refine Be (N:=15) Tryz.func46 rfl rfl (by simp) ?_;intro o h p;have g:=AR (i:=0) (v:=I b) h rfl;have k:=AR (i:=1) (v:=I e) h rfl;have l:=AR (i:=2) (v:=I f) h rfl;clear h;have j:Hp FN [] w [] w:=Hp.start (BQ.none w);refine Af<|Ad<|wa rfl (v:=.bool false) rfl<|Ae<|Ac<|Af<|Ad<|wm rfl (v:=I b) g<|wm rfl (v:=I e) k<|wd rfl (fun st=>He (ee st rfl) (ee st rfl))<|wm rfl (v:=.bool (decide (e≤b))) rfl ?_;rcases Aq (decide (e≤b)) with a|a
 ·replace d:=AF d a;refine Aw rfl rfl (Ab rfl a) rfl (by decide) (fun st=>AN (v:=I b) (ee st g))<|Aw rfl rfl (Ab rfl a) rfl (by decide) (fun st=>AN (v:=I f) (ee st l))<|Aw rfl rfl (Ab rfl a) rfl (by decide) (fun st=>Ee (ee st rfl) (ee st rfl))<|wd rfl (fun st=>AT (v:=.bool (decide (b≤f))) (ee st rfl) a (ee st rfl))<|wa rfl (v:=.bool (decide (b≤f))) rfl<|Ae<|Ac<|AI ?_;obtain rfl:=Option.some.inj d;refine A3 rfl rfl ?_;exact⟨j.By,rfl⟩
 ·replace d:=AG d a;refine Aj (c:=false) rfl rfl (Ab rfl a) (by decide) rfl (by decide)<|Aj (c:=false) rfl rfl (Ab rfl a) (by decide) rfl (by decide)<|Aj (c:=false) rfl rfl (Ab rfl a) (by decide) rfl (by decide)<|wd rfl (fun st=>Bd (v:=.bool false) (ee st rfl) a (ee st rfl))<|wa rfl (v:=.bool false) rfl<|Ae<|Ac<|AI ?_;obtain rfl:=Option.some.inj d;refine A3 rfl rfl ?_;exact⟨j.By,rfl⟩
theorem Rt(m:Nat)(a:CB)(Z:Nat→Prop)(w:World)(f:Int)(b:Ei m a=some f):
 BO Tryz.prog 136 #[.agg #[I a.Lo,I a.Hi]] w (fun v w'=>Ext w w'∧(Ft .i64).R w' (ZZ FN [] Z w.heap.size []) v f):=by
 unfold Ei at b;refine Be (N:=9) Tryz.func136 rfl rfl (by simp) ?_;intro n g o;have e:=AR (i:=0) (v:=.agg #[I a.Lo,I a.Hi]) g rfl;clear g;have d:Hp FN [] w [] w:=Hp.start (BQ.none w);refine Af<|Ad<|we rfl (fun st=>B5 (v:=.agg #[I a.Lo,I a.Hi]) (cs:= #[I a.Lo,I a.Hi]) (ee st e) rfl) ?_;rintro _ w1 ⟨p,rfl,c⟩;have h:=d.nb c;have l:=d.BM c;refine wa rfl (v:=I 0) rfl<|Ae<|Ac<|Af<|Ad<|wd rfl (fun st=>Ai (ee st rfl) (JV _ _))<|wd rfl (fun st=>Ap (v:=I a.Hi) AP (ee st rfl) c.bk rfl)<|wd rfl (fun st=>Ai (ee st rfl) (IS _ _))<|wd rfl (fun st=>Ap (v:=I a.Lo) AP (ee st rfl) c.bk rfl) ?_;replace b:=AU b;obtain⟨j,b⟩:=b;refine wd rfl (fun st=>O5 (ee st rfl) (ee st rfl) j) ?_;replace b:=AU b;obtain⟨k,b⟩:=b;refine wd rfl (fun st=>Bu (ee st rfl) (ee st rfl) k)<|wa rfl (v:=I ((a.Hi-a.Lo)+1)) rfl<|Ae<|Ac<|AI ?_;obtain rfl:=Option.some.inj b;refine A3 rfl rfl ?_;exact⟨h.By,rfl⟩
theorem RT(n:Nat)(b:Int)(c:Int)(Z:Nat→Prop)(w:World)(h:Bool)(a:D6 n b c=some h):
 BO Tryz.prog 54 #[I b,I c] w (fun v w'=>Ext w w'∧BY.R w' (ZZ FN [] Z w.heap.size []) v h):=by
 unfold D6 at a;refine Be (N:=11) Tryz.func54 rfl rfl (by simp) ?_;intro o e p;have f:=AR (i:=0) (v:=I b) e rfl;have g:=AR (i:=1) (v:=I c) e rfl;clear e;have j:Hp FN [] w [] w:=Hp.start (BQ.none w);refine Af<|Ad<|wa rfl (v:=.bool false) rfl<|Ae<|Ac<|Af<|Ad<|wm rfl (v:=I b) f<|wm rfl (v:=I c) g ?_;replace a:=JG a;obtain⟨l,a⟩:=a;refine wd rfl (fun st=>Lt (k:=.u64) TW Tryz.underlying32 (ee st rfl) l) ?_;replace a:=Mw a;obtain⟨m,a⟩:=a;refine wd rfl (fun st=>RJ (ee st rfl) (ee st rfl) m) ?_;replace a:=G8 a;obtain⟨d,a⟩:=a;refine wd rfl (fun st=>IY (ee st rfl) (ee st rfl) d.1 d.2)<|wd rfl (fun st=>CP (ee st rfl) (ee st rfl))<|wa rfl (v:=.bool (((Fu b c)%2)==1)) rfl<|Ae<|Ac<|AI ?_;obtain rfl:=Option.some.inj a;refine A3 rfl rfl ?_;exact⟨j.By,rfl⟩
theorem Vd(s:Nat)(a:Int)(b:Int)(c:Bool)(Z:Nat→Prop)(w:World)(m:Av)(o:ET s a b c=some m):
 BO Tryz.prog 61 #[I a,I b,.bool c] w (fun v w'=>Ext w w'∧(Df BW).R w' (ZZ FN [] Z w.heap.size []) v m):=by
 unfold ET at o;refine Be (N:=11) Tryz.func61 rfl rfl (by simp) ?_;intro t e u;have h:=AR (i:=0) (v:=I a) e rfl;have j:=AR (i:=1) (v:=I b) e rfl;have k:=AR (i:=2) (v:=.bool c) e rfl;clear e;have f:Hp FN [] w [] w:=Hp.start (BQ.none w);refine Af<|Ad<|we rfl (fun st=>BP (cs:= #[I 0,I 0,.bool false]) Hc rfl) ?_;rintro _ w1 ⟨x,rfl,d⟩;have p:=f.nb d;have r:=f.BM d;refine Ae<|Ac<|Af<|Ad<|wm rfl (v:=I a) h<|wm rfl (v:=I b) j<|wm rfl (v:=.bool c) k<|wd rfl (fun st=>C4 (vs:= #[(0,I a),(1,I b),(2,.bool c)]) (v:=.agg #[I a,I b,.bool c]) (J5 (ee st rfl) (ee st rfl) (ee st rfl)) (by kernel_rfl))<|Bq rfl rfl (fun st=>Bg (n:=3) (l:=[I a,I b,.bool c]) (Ci:= #[I a,I b,.bool c]) (ee st rfl) (ee st rfl) El d.bk rfl rfl (show 0+3≤3 by decide) (AW rfl) rfl) ?_;rintro _ w2 g;have q:=p.gr g.gr 0 rfl;refine Ae<|Ac<|AI ?_;obtain rfl:=Option.some.inj o;refine FY (v:=.agg #[I a,I b,.bool c]) rfl rfl (CH DU g.bk rfl rfl) ?_;exact⟨q.By,⟨_,rfl,rfl⟩⟩
theorem VJ(n:Nat)(a:Ar)(e:Int)(b:Option Addr)(c:Nat)(Z:Nat→Prop)(w:World)(g:Sl AQ w Z b c a.Ag)(o:Bool)(d:FO n a e=some o):
 BO Tryz.prog 96 #[.agg #[I a.Am,I a.Ak,I a.Ao,I a.AA,.slice b a.Ag.length c],I e] w (fun v w'=>Ext w w'∧BY.R w' (ZZ FN [] Z w.heap.size []) v o):=by
 unfold FO at d;refine Be (N:=11) Tryz.func96 rfl rfl (by simp) ?_;intro y j z;have k:=AR (i:=0) (v:=.agg #[I a.Am,I a.Ak,I a.Ao,I a.AA,.slice b a.Ag.length c]) j rfl;have l:=AR (i:=1) (v:=I e) j rfl;clear j;have h:Hp FN [] w [] w:=Hp.start (BQ.none w);have m:=g.mv (Br (Z:=Z) (L:=[]) w);refine Af<|Ad<|we rfl (fun st=>B5 (v:=.agg #[I a.Am,I a.Ak,I a.Ao,I a.AA,.slice b a.Ag.length c]) (cs:= #[I a.Am,I a.Ak,I a.Ao,I a.AA,.slice b a.Ag.length c]) (ee st k) rfl) ?_;rintro _ w1 ⟨aA,rfl,f⟩;have p:=h.nb f;have x:=h.BM f;refine wa rfl (v:=.bool false) rfl<|Ae<|Ac<|Af<|Ad<|wm rfl (v:=I e) l<|wd rfl (fun st=>Ai (ee st rfl) (C5 _ _))<|wd rfl (fun st=>Ap (v:=.slice b a.Ag.length c) Dr (ee st rfl) f.bk rfl)<|wd rfl (fun st=>BX Tryz.underlying73 (ee st rfl)) ?_;replace d:=AU d;obtain⟨q,d⟩:=d;refine wd rfl (fun st=>O5 (ee st rfl) (ee st rfl) q) ?_;replace d:=bind_some d;obtain⟨r,s,d⟩:=d;refine we rfl (fun st=>AX Jo (ee st rfl) (FH (ee st rfl) (ee st rfl) (ee st rfl)) (OZ n e 0 ((a.Ag.length:Int)-1) ZA _ r s)) ?_;rintro _ aB ⟨t,rfl⟩;have u:=p.ext t;refine wa rfl (v:=.bool r) rfl<|Ae<|Ac<|AI ?_;obtain rfl:=Option.some.inj d;refine A3 rfl rfl ?_;exact⟨u.By,rfl⟩
theorem Up(s:Nat)(a:Bb)(d:Av)(Z:Nat→Prop)(w:World)(p:Bool)(f:Dc s a d=some p):
 BO Tryz.prog 97 #[.agg #[I a.Au,I a.AJ,I a.AM,I a.Cc,I a.Ct],.agg #[I d.On,I d.AD,.bool d.AM]] w (fun v w'=>Ext w w'∧BY.R w' (ZZ FN [] Z w.heap.size []) v p):=by
 unfold Dc at f;refine Be (N:=14) Tryz.func97 rfl rfl (by simp) ?_;intro t m u;have n:=AR (i:=0) (v:=.agg #[I a.Au,I a.AJ,I a.AM,I a.Cc,I a.Ct]) m rfl;have o:=AR (i:=1) (v:=.agg #[I d.On,I d.AD,.bool d.AM]) m rfl;clear m;have j:Hp FN [] w [] w:=Hp.start (BQ.none w);refine Af<|Ad<|we rfl (fun st=>B5 (v:=.agg #[I a.Au,I a.AJ,I a.AM,I a.Cc,I a.Ct]) (cs:= #[I a.Au,I a.AJ,I a.AM,I a.Cc,I a.Ct]) (ee st n) rfl) ?_;rintro _ w1 ⟨x,rfl,g⟩;have k:=j.nb g;have q:=j.BM g;refine we rfl (fun st=>B5 (v:=.agg #[I d.On,I d.AD,.bool d.AM]) (cs:= #[I d.On,I d.AD,.bool d.AM]) (ee st o) rfl) ?_;rintro _ w2 ⟨y,rfl,e⟩;have l:=k.nb e;have r:=k.BM e;refine wa rfl (v:=.bool false) rfl<|Ae<|Ac<|Af<|Ad<|wd rfl (fun st=>Ai (ee st rfl) (FM _ _))<|wd rfl (fun st=>Ap (v:=.bool d.AM) FA (ee st rfl) e.bk rfl)<|wm rfl (v:=.bool d.AM) rfl ?_;rcases Aq (d.AM) with b|b
 ·replace f:=AF f b;refine Aw rfl rfl (Ab rfl b) rfl (by decide) (fun st=>Ai (ee st rfl) (Cu _ _))<|Aw rfl rfl (Ab rfl b) rfl (by decide) (fun st=>Ap (v:=I d.AD) AP (ee st rfl) e.bk rfl)<|Aw rfl rfl (Ab rfl b) rfl (by decide) (fun st=>Ai (ee st rfl) (NO _ _)) ?_;have h:=(g.bk.ext e.gr);refine Aw rfl rfl (Ab rfl b) rfl (by decide) (fun st=>Ap (v:=I a.Ct) AP (ee st rfl) h rfl)<|Aw rfl rfl (Ab rfl b) rfl (by decide) (fun st=>Ee (ee st rfl) (ee st rfl))<|wd rfl (fun st=>AT (v:=.bool (decide (d.AD≤a.Ct))) (ee st rfl) b (ee st rfl))<|wa rfl (v:=.bool (decide (d.AD≤a.Ct))) rfl<|Ae<|Ac<|AI ?_;obtain rfl:=Option.some.inj f;refine A3 rfl rfl ?_;exact⟨l.By,rfl⟩
 ·replace f:=AG f b;refine Aj (c:=false) rfl rfl (Ab rfl b) (by decide) rfl (by decide)<|Aj (c:=false) rfl rfl (Ab rfl b) (by decide) rfl (by decide)<|Aj (c:=false) rfl rfl (Ab rfl b) (by decide) rfl (by decide)<|Aj (c:=false) rfl rfl (Ab rfl b) (by decide) rfl (by decide)<|Aj (c:=false) rfl rfl (Ab rfl b) (by decide) rfl (by decide)<|wd rfl (fun st=>Bd (v:=.bool false) (ee st rfl) b (ee st rfl))<|wa rfl (v:=.bool false) rfl<|Ae<|Ac<|AI ?_;obtain rfl:=Option.some.inj f;refine A3 rfl rfl ?_;exact⟨l.By,rfl⟩
theorem a107(n:Nat)(a:Bb)(b:Av)(Z:Nat→Prop)(w:World)(o:Bool)(d:Ej n a b=some o):
 BO Tryz.prog 107 #[.agg #[I a.Au,I a.AJ,I a.AM,I a.Cc,I a.Ct],.agg #[I b.On,I b.AD,.bool b.AM]] w (fun v w'=>Ext w w'∧BY.R w' (ZZ FN [] Z w.heap.size []) v o):=by
 unfold Ej at d;refine Be (N:=9) Tryz.func107 rfl rfl (by simp) ?_;intro y j z;have k:=AR (i:=0) (v:=.agg #[I a.Au,I a.AJ,I a.AM,I a.Cc,I a.Ct]) j rfl;have m:=AR (i:=1) (v:=.agg #[I b.On,I b.AD,.bool b.AM]) j rfl;clear j;have g:Hp FN [] w [] w:=Hp.start (BQ.none w);refine Af<|Ad<|we rfl (fun st=>B5 (v:=.agg #[I a.Au,I a.AJ,I a.AM,I a.Cc,I a.Ct]) (cs:= #[I a.Au,I a.AJ,I a.AM,I a.Cc,I a.Ct]) (ee st k) rfl) ?_;rintro _ w1 ⟨aA,rfl,e⟩;have h:=g.nb e;have u:=g.BM e;refine we rfl (fun st=>B5 (v:=.agg #[I b.On,I b.AD,.bool b.AM]) (cs:= #[I b.On,I b.AD,.bool b.AM]) (ee st m) rfl) ?_;rintro _ w2 ⟨aB,rfl,c⟩;have p:=h.nb c;have x:=h.BM c;refine wa rfl (v:=.bool false) rfl<|Ae<|Ac<|Af<|Ad ?_;have f:=(e.bk.ext c.gr);refine wd rfl (fun st=>Bl (l:=[I a.Au,I a.AJ,I a.AM,I a.Cc,I a.Ct]) HE (ee st rfl) f rfl rfl)<|wd rfl (fun st=>Bl (l:=[I b.On,I b.AD,.bool b.AM]) DU (ee st rfl) c.bk rfl rfl) ?_;replace d:=bind_some d;obtain⟨q,r,d⟩:=d;refine we rfl (fun st=>AX NP (ee st rfl) (EZ (ee st rfl) (ee st rfl)) (Up n a b ZA _ q r)) ?_;rintro _ aC ⟨s,rfl⟩;have t:=p.ext s;refine wd rfl (fun st=>Dl (ee st rfl))<|wa rfl (v:=.bool !q) rfl<|Ae<|Ac<|AI ?_;obtain rfl:=Option.some.inj d;refine A3 rfl rfl ?_;exact⟨t.By,rfl⟩
end Go.Proofs.YtkljfdkmjdjpfaaGreat
end
section
set_option linter.unusedVariables false
set_option linter.unusedSimpArgs false
namespace Go.Proofs.YtkljfdkmjdjpfaaGreat
open Go.RowKit Go.WideShapes
set_option maxRecDepth 20000
open HF
attribute [local irreducible] BL WL CC CW LV BO Ef DC One Bn
theorem VK(aW:Nat)(b:Ar)(z:Int)(h:Option Addr)(j:Nat)(Z:Nat→Prop)(w:World)(cA:Sl AQ w Z h j b.Ag)(c8:Bool)(a:Er aW b z=some c8):
 BO Tryz.prog 95 #[.agg #[I b.Am,I b.Ak,I b.Ao,I b.AA,.slice h b.Ag.length j],I z] w (fun v w'=>Ext w w'∧BY.R w' (ZZ FN [] Z w.heap.size []) v c8):=by
 unfold Er at a;refine Be (N:=46) Tryz.func95 rfl rfl (by simp) ?_;intro dV cL dW;have cM:=AR (i:=0) (v:=.agg #[I b.Am,I b.Ak,I b.Ao,I b.AA,.slice h b.Ag.length j]) cL rfl;have cN:=AR (i:=1) (v:=I z) cL rfl;clear cL;have cI:Hp FN [] w [] w:=Hp.start (BQ.none w);have bM:=cA.mv (Br (Z:=Z) (L:=[]) w);refine Af<|Ad<|we rfl (fun st=>B5 (v:=.agg #[I b.Am,I b.Ak,I b.Ao,I b.AA,.slice h b.Ag.length j]) (cs:= #[I b.Am,I b.Ak,I b.Ao,I b.AA,.slice h b.Ag.length j]) (ee st cM) rfl) ?_;rintro _ w1 ⟨m,rfl,bF⟩;have c9:=cI.nb bF;have dO:=cI.BM bF;refine wa rfl (v:=.bool false) rfl<|Ae<|Ac<|Af<|Ad<|wa rfl (v:=I 0) rfl<|Ae<|Ac<|Af<|Af<|Ad<|wa rfl (v:=I 0) rfl<|Ae<|Ac<|Ba ?_;replace a:=bind_some a;obtain⟨z2,aX,a⟩:=a;refine Ce (fun aZ d o=>(aZ=.ret∧∃aI,z2=.inl aI∧d.tmps.size=46∧d.defers=(X0).ds∧sl d 4=.bool aI∧Hp FN [] w [some m] o)∨(aZ=.exit 0∧∃aI,z2=.inr aI∧d.tmps.size=46∧d.defers=(X0).ds∧sl d 2=pt m 0∧sl d 5=I aI∧Hp FN [] w [some m] o∧Bk o m 63 #[I b.Am,I b.Ak,I b.Ao,I b.AA,.slice h b.Ag.length j]∧Sl AQ o (ZZ FN [] Z w.heap.size [some m]) h j b.Ag)) ?dA ?dB
 case dA=>
  clear a;refine Cd (fun(aG:Nat) (d:Act) (o:World)=>∃n,∃e,CE aW b z aG n e=some z2∧d.tmps.size=46∧d.defers=(X0).ds∧sl d 1=I z∧sl d 2=pt m 0∧sl d 5=I n∧sl d 6=I e∧Hp FN [] w [some m] o∧Bk o m 63 #[I b.Am,I b.Ak,I b.Ao,I b.AA,.slice h b.Ag.length j]∧Sl AQ o (ZZ FN [] Z w.heap.size [some m]) h j b.Ag) aW ?dC ?dD
  case dC=>
   intro st;have bN:=(bM.mv (Ax bF));exact⟨(0:Int),(0:Int),aX,qz st,qd st,sp st 1 cN,sp st 2 rfl,sp st 5 rfl,sp st 6 rfl,c9,bF.bk,bN⟩
  case dD=>
   rintro(_|aG) dX dY ⟨n,e,aX,cO,cP,a0,aQ,a2,aC,cJ,aJ,aH⟩
   ·exact absurd (show none=some _ from aX) (by simp)
   rw[CE.eq_2] at aX;have a:=aX;clear aX;refine B2 (N:=46) cO cP<|Af<|Af<|Ad<|wm rfl (v:=I e) aC<|wd rfl (fun st=>Ai (ee st aQ) (DP _ _))<|wd rfl (fun st=>Ap (v:=I b.Am) AP (ee st rfl) aJ rfl)<|wd rfl (fun st=>Ee (ee st rfl) (ee st rfl))<|Ae<|Ac ?_;rcases Aq (decide (e≤b.Am)) with a6|a6
   ·replace a:=AF a a6;refine Ay rfl a6<|AY<|Ac<|Af<|Ba<|Af<|Af<|Ad<|wm rfl (v:=I z) a0<|wm rfl (v:=I e) aC ?_;replace a:=bind_some a;obtain⟨dE,dF,a⟩:=a;refine we rfl (fun st=>AX LW (ee st rfl) (EZ (ee st rfl) (ee st rfl)) (RT aW z e ZA _ dE dF)) ?_;rintro _ d5 ⟨a7,rfl⟩;have cK:=cJ.ext a7;refine Ae<|Ac ?_;rcases Aq (dE) with a8|a8
    ·replace a:=AF a a8;refine Ay rfl a8<|Ad<|wm rfl (v:=I n) a2 ?_;replace a:=AU a;obtain⟨dG,a⟩:=a;refine wd rfl (fun st=>Bu (ee st rfl) (ee st rfl) dG)<|wa rfl (v:=I (n+1)) rfl<|Ae<|Ac<|Af<|Ad<|wa rfl (v:=.bool true) rfl<|Ae<|Ac<|Af<|Af<|Ad<|wm rfl (v:=I e) aC<|wa rfl (v:=I e) rfl<|Ae<|Ac<|Ba ?_;replace a:=bind_some a;obtain⟨cB,aY,a⟩:=a;refine Ce (fun aZ d o=>(aZ=.exit 2∧d.tmps.size=46∧d.defers=(X0).ds∧sl d 1=I z∧sl d 2=pt m 0∧sl d 5=I (n+1)∧sl d 6=I e∧sl d 7=.bool cB∧Hp FN [] w [some m] o∧Bk o m 63 #[I b.Am,I b.Ak,I b.Ao,I b.AA,.slice h b.Ag.length j]∧Sl AQ o (ZZ FN [] Z w.heap.size [some m]) h j b.Ag)) ?dH ?dI
     case dH=>
      clear a;refine Cd (fun(aG:Nat) (d:Act) (o:World)=>∃aN,∃g,Cw aW b z e aG aN g=some cB∧d.tmps.size=46∧d.defers=(X0).ds∧sl d 1=I z∧sl d 2=pt m 0∧sl d 5=I (n+1)∧sl d 6=I e∧sl d 7=.bool aN∧sl d 8=I g∧Hp FN [] w [some m] o∧Bk o m 63 #[I b.Am,I b.Ak,I b.Ao,I b.AA,.slice h b.Ag.length j]∧Sl AQ o (ZZ FN [] Z w.heap.size [some m]) h j b.Ag) aW ?dJ ?dK
      case dJ=>
       intro st;have a3:=(aJ.ext a7);have aO:=(aH.mv (Ah a7));exact⟨true,e,aY,qz st,qd st,sp st 1 a0,sp st 2 aQ,sp st 5 rfl,sp st 6 aC,sp st 7 rfl,sp st 8 rfl,cK,a3,aO⟩
      case dK=>
       rintro(_|aG) dZ d0 ⟨aN,g,aY,cQ,cR,aK,aD,aR,aL,bG,aE,bH,t,y⟩
       ·exact absurd (show none=some _ from aY) (by simp)
       rw[Cw.eq_2] at aY;have a:=aY;clear aY;refine B2 (N:=46) cQ cR<|Af<|Af<|Ad<|wm rfl (v:=I g) aE<|wm rfl (v:=I e) aL<|wd rfl (fun st=>Ai (ee st aD) (KT _ _))<|wd rfl (fun st=>Ap (v:=I b.AA) AP (ee st rfl) t rfl) ?_;replace a:=AU a;obtain⟨dL,a⟩:=a;refine wd rfl (fun st=>Bu (ee st rfl) (ee st rfl) dL)<|wd rfl (fun st=>Ee (ee st rfl) (ee st rfl))<|Ae<|Ac ?_;rcases Aq (decide (g≤(e+b.AA))) with aS|aS
       ·replace a:=AF a aS;refine Ay rfl aS<|AY<|Ac<|Af<|Ba<|Ad<|wm rfl (v:=.bool aN) bG<|wm rfl (v:=.bool aN) rfl ?_;rcases Aq (aN) with k|k
        ·replace a:=AF a k;refine Aw rfl rfl (Ab rfl k) rfl (by decide) (fun st=>AN (v:=I g) (ee st aE))<|Aw rfl rfl (Ab rfl k) rfl (by decide) (fun st=>Ai (ee st aD) (DP _ _))<|Aw rfl rfl (Ab rfl k) rfl (by decide) (fun st=>Ap (v:=I b.Am) AP (ee st rfl) t rfl)<|Aw rfl rfl (Ab rfl k) rfl (by decide) (fun st=>Ee (ee st rfl) (ee st rfl))<|wd rfl (fun st=>AT (v:=.bool (decide (g≤b.Am))) (ee st rfl) k (ee st rfl))<|wm rfl (v:=.bool (decide (g≤b.Am))) rfl ?_;rcases Aq (decide (g≤b.Am)) with q|q
         ·replace a:=AF a q;refine Aw rfl rfl (Ab rfl q) rfl (by decide) (fun st=>AN (v:=I z) (ee st aK))<|Aw rfl rfl (Ab rfl q) rfl (by decide) (fun st=>AN (v:=I g) (ee st aE)) ?_;replace a:=bind_some a;obtain⟨bI,cS,a⟩:=a;refine Ec rfl rfl (Ab rfl q) rfl (by decide) (fun st=>AX LW (ee st rfl) (EZ (ee st rfl) (ee st rfl)) (RT aW z g ZA _ bI cS)) ?_;rintro _ d1 ⟨bB,rfl⟩;have dM:=bH.ext bB;refine wd rfl (fun st=>AT (v:=.bool bI) (ee st rfl) q (ee st rfl))<|wa rfl (v:=.bool bI) rfl<|Ae<|Bi<|Ac<|Ad<|wm rfl (v:=I g) aE ?_;replace a:=AU a;obtain⟨cT,a⟩:=a;refine wd rfl (fun st=>Bu (ee st rfl) (ee st rfl) cT)<|wa rfl (v:=I (g+1)) rfl<|Ae ?_;have cC:=(t.ext bB);have bO:=(y.mv (Ah bB));refine Bs aG (Nat.lt_succ_self _) (fun st=>?_);exact⟨bI,(g+1),a,qz st,qd st,sp st 1 aK,sp st 2 aD,sp st 5 aR,sp st 6 aL,sp st 7 rfl,sp st 8 rfl,dM,cC,bO⟩
         ·replace a:=AG a q;refine Aj (c:=false) rfl rfl (Ab rfl q) (by decide) rfl (by decide)<|Aj (c:=false) rfl rfl (Ab rfl q) (by decide) rfl (by decide)<|Aj (c:=false) rfl rfl (Ab rfl q) (by decide) rfl (by decide)<|wd rfl (fun st=>Bd (v:=.bool false) (ee st rfl) q (ee st rfl))<|wa rfl (v:=.bool false) rfl<|Ae<|Bi<|Ac<|Ad<|wm rfl (v:=I g) aE ?_;replace a:=AU a;obtain⟨cU,a⟩:=a;refine wd rfl (fun st=>Bu (ee st rfl) (ee st rfl) cU)<|wa rfl (v:=I (g+1)) rfl<|Ae ?_;refine Bs aG (Nat.lt_succ_self _) (fun st=>?_);exact⟨false,(g+1),a,qz st,qd st,sp st 1 aK,sp st 2 aD,sp st 5 aR,sp st 6 aL,sp st 7 rfl,sp st 8 rfl,bH,t,y⟩
        ·replace a:=AG a k;refine Aj (c:=false) rfl rfl (Ab rfl k) (by decide) rfl (by decide)<|Aj (c:=false) rfl rfl (Ab rfl k) (by decide) rfl (by decide)<|Aj (c:=false) rfl rfl (Ab rfl k) (by decide) rfl (by decide)<|Aj (c:=false) rfl rfl (Ab rfl k) (by decide) rfl (by decide)<|wd rfl (fun st=>Bd (v:=.bool false) (ee st rfl) k (ee st rfl))<|wm rfl (v:=.bool false) rfl<|Aj rfl rfl rfl (by decide) rfl (by decide)<|Aj rfl rfl rfl (by decide) rfl (by decide)<|Aj rfl rfl rfl (by decide) rfl (by decide)<|wd rfl (fun st=>Bd (v:=.bool false) (ee st rfl) rfl (ee st rfl))<|wa rfl (v:=.bool false) rfl<|Ae<|Bi<|Ac<|Ad<|wm rfl (v:=I g) aE ?_;replace a:=AU a;obtain⟨cV,a⟩:=a;refine wd rfl (fun st=>Bu (ee st rfl) (ee st rfl) cV)<|wa rfl (v:=I (g+1)) rfl<|Ae ?_;refine Bs aG (Nat.lt_succ_self _) (fun st=>?_);exact⟨false,(g+1),a,qz st,qd st,sp st 1 aK,sp st 2 aD,sp st 5 aR,sp st 6 aL,sp st 7 rfl,sp st 8 rfl,bH,t,y⟩
       ·replace a:=AG a aS;refine AH rfl aS<|B1<|AK<|AK ?_;obtain rfl:=Option.some.inj a;refine BD (fun st=>?_);exact⟨rfl,qz st,qd st,sp st 1 aK,sp st 2 aD,sp st 5 aR,sp st 6 aL,sp st 7 bG,bH,t,y⟩
     case dI=>
      rintro aZ dQ d2 (⟨rfl,cD,cE,bW,bX,bY,bZ,b1,b2,b3,bC⟩);refine Ch (X:=X0) (N:=46) cD cE<|Bx<|Ac<|Af<|Ad<|wm rfl (v:=.bool cB) b1<|Ae<|Ac ?_;rcases Aq (cB) with aT|aT
      ·replace a:=AF a aT;refine Ay rfl aT<|Af<|Ad<|wa rfl (v:=.bool false) rfl<|Ae<|Ac<|AI<|AV<|As<|As ?_;obtain rfl:=Option.some.inj a;refine BD (fun st=>?_);exact .inl ⟨rfl,false,rfl,qz st,qd st,sp st 4 rfl,b2⟩
      ·replace a:=AG a aT;refine AH rfl aT<|AY<|Bi<|Ac<|Ad<|wm rfl (v:=I e) bZ ?_;replace a:=AU a;obtain⟨cW,a⟩:=a;refine wd rfl (fun st=>Bu (ee st rfl) (ee st rfl) cW)<|wa rfl (v:=I (e+1)) rfl<|Ae ?_;refine Bs aG (Nat.lt_succ_self _) (fun st=>?_);exact⟨(n+1),(e+1),a,qz st,qd st,sp st 1 bW,sp st 2 bX,sp st 5 bY,sp st 6 rfl,b2,b3,bC⟩
    ·replace a:=AG a a8;refine AH rfl a8<|AY<|Ac<|Af<|Ad<|wa rfl (v:=.bool true) rfl<|Ae<|Ac<|Af<|Af<|Ad<|wm rfl (v:=I e) aC<|wa rfl (v:=I e) rfl<|Ae<|Ac<|Ba ?_;replace a:=bind_some a;obtain⟨z20,aP,a⟩:=a;refine Ce (fun aZ d o=>(aZ=.exit 2∧d.tmps.size=46∧d.defers=(X0).ds∧sl d 1=I z∧sl d 2=pt m 0∧sl d 5=I n∧sl d 6=I e∧sl d 7=.bool z20∧Hp FN [] w [some m] o∧Bk o m 63 #[I b.Am,I b.Ak,I b.Ao,I b.AA,.slice h b.Ag.length j]∧Sl AQ o (ZZ FN [] Z w.heap.size [some m]) h j b.Ag)) ?cX ?cY
     case cX=>
      clear a;refine Cd (fun(aG:Nat) (d:Act) (o:World)=>∃aF,∃f,Cs aW b z e aG aF f=some z20∧d.tmps.size=46∧d.defers=(X0).ds∧sl d 1=I z∧sl d 2=pt m 0∧sl d 5=I n∧sl d 6=I e∧sl d 7=.bool aF∧sl d 8=I f∧Hp FN [] w [some m] o∧Bk o m 63 #[I b.Am,I b.Ak,I b.Ao,I b.AA,.slice h b.Ag.length j]∧Sl AQ o (ZZ FN [] Z w.heap.size [some m]) h j b.Ag) aW ?cZ ?c0
      case cZ=>
       intro st;have a3:=(aJ.ext a7);have aO:=(aH.mv (Ah a7));exact⟨true,e,aP,qz st,qd st,sp st 1 a0,sp st 2 aQ,sp st 5 a2,sp st 6 aC,sp st 7 rfl,sp st 8 rfl,cK,a3,aO⟩
      case c0=>
       rintro(_|aG) dR dS ⟨aF,f,aP,cF,cG,aA,u,aM,aB,a9,x,bJ,p,s⟩
       ·exact absurd (show none=some _ from aP) (by simp)
       rw[Cs.eq_2] at aP;have a:=aP;clear aP;refine B2 (N:=46) cF cG<|Af<|Af<|Ad<|wm rfl (v:=I f) x<|wm rfl (v:=I e) aB<|wd rfl (fun st=>Ai (ee st u) (KT _ _))<|wd rfl (fun st=>Ap (v:=I b.AA) AP (ee st rfl) p rfl) ?_;replace a:=AU a;obtain⟨c1,a⟩:=a;refine wd rfl (fun st=>Bu (ee st rfl) (ee st rfl) c1)<|wd rfl (fun st=>Ee (ee st rfl) (ee st rfl))<|Ae<|Ac ?_;rcases Aq (decide (f≤(e+b.AA))) with aU|aU
       ·replace a:=AF a aU;refine Ay rfl aU<|AY<|Ac<|Af<|Ba<|Ad<|wm rfl (v:=.bool aF) a9<|wm rfl (v:=.bool aF) rfl ?_;rcases Aq (aF) with l|l
        ·replace a:=AF a l;refine Aw rfl rfl (Ab rfl l) rfl (by decide) (fun st=>AN (v:=I f) (ee st x))<|Aw rfl rfl (Ab rfl l) rfl (by decide) (fun st=>Ai (ee st u) (DP _ _))<|Aw rfl rfl (Ab rfl l) rfl (by decide) (fun st=>Ap (v:=I b.Am) AP (ee st rfl) p rfl)<|Aw rfl rfl (Ab rfl l) rfl (by decide) (fun st=>Ee (ee st rfl) (ee st rfl))<|wd rfl (fun st=>AT (v:=.bool (decide (f≤b.Am))) (ee st rfl) l (ee st rfl))<|wm rfl (v:=.bool (decide (f≤b.Am))) rfl ?_;rcases Aq (decide (f≤b.Am)) with r|r
         ·replace a:=AF a r;refine Aw rfl rfl (Ab rfl r) rfl (by decide) (fun st=>AN (v:=I z) (ee st aA))<|Aw rfl rfl (Ab rfl r) rfl (by decide) (fun st=>AN (v:=I f) (ee st x)) ?_;replace a:=bind_some a;obtain⟨bK,c2,a⟩:=a;refine Ec rfl rfl (Ab rfl r) rfl (by decide) (fun st=>AX LW (ee st rfl) (EZ (ee st rfl) (ee st rfl)) (RT aW z f ZA _ bK c2)) ?_;rintro _ d3 ⟨bD,rfl⟩;have dN:=bJ.ext bD;refine wd rfl (fun st=>AT (v:=.bool bK) (ee st rfl) r (ee st rfl))<|wa rfl (v:=.bool bK) rfl<|Ae<|Bi<|Ac<|Ad<|wm rfl (v:=I f) x ?_;replace a:=AU a;obtain⟨c3,a⟩:=a;refine wd rfl (fun st=>Bu (ee st rfl) (ee st rfl) c3)<|wa rfl (v:=I (f+1)) rfl<|Ae ?_;have cH:=(p.ext bD);have bP:=(s.mv (Ah bD));refine Bs aG (Nat.lt_succ_self _) (fun st=>?_);exact⟨bK,(f+1),a,qz st,qd st,sp st 1 aA,sp st 2 u,sp st 5 aM,sp st 6 aB,sp st 7 rfl,sp st 8 rfl,dN,cH,bP⟩
         ·replace a:=AG a r;refine Aj (c:=false) rfl rfl (Ab rfl r) (by decide) rfl (by decide)<|Aj (c:=false) rfl rfl (Ab rfl r) (by decide) rfl (by decide)<|Aj (c:=false) rfl rfl (Ab rfl r) (by decide) rfl (by decide)<|wd rfl (fun st=>Bd (v:=.bool false) (ee st rfl) r (ee st rfl))<|wa rfl (v:=.bool false) rfl<|Ae<|Bi<|Ac<|Ad<|wm rfl (v:=I f) x ?_;replace a:=AU a;obtain⟨c4,a⟩:=a;refine wd rfl (fun st=>Bu (ee st rfl) (ee st rfl) c4)<|wa rfl (v:=I (f+1)) rfl<|Ae ?_;refine Bs aG (Nat.lt_succ_self _) (fun st=>?_);exact⟨false,(f+1),a,qz st,qd st,sp st 1 aA,sp st 2 u,sp st 5 aM,sp st 6 aB,sp st 7 rfl,sp st 8 rfl,bJ,p,s⟩
        ·replace a:=AG a l;refine Aj (c:=false) rfl rfl (Ab rfl l) (by decide) rfl (by decide)<|Aj (c:=false) rfl rfl (Ab rfl l) (by decide) rfl (by decide)<|Aj (c:=false) rfl rfl (Ab rfl l) (by decide) rfl (by decide)<|Aj (c:=false) rfl rfl (Ab rfl l) (by decide) rfl (by decide)<|wd rfl (fun st=>Bd (v:=.bool false) (ee st rfl) l (ee st rfl))<|wm rfl (v:=.bool false) rfl<|Aj rfl rfl rfl (by decide) rfl (by decide)<|Aj rfl rfl rfl (by decide) rfl (by decide)<|Aj rfl rfl rfl (by decide) rfl (by decide)<|wd rfl (fun st=>Bd (v:=.bool false) (ee st rfl) rfl (ee st rfl))<|wa rfl (v:=.bool false) rfl<|Ae<|Bi<|Ac<|Ad<|wm rfl (v:=I f) x ?_;replace a:=AU a;obtain⟨c5,a⟩:=a;refine wd rfl (fun st=>Bu (ee st rfl) (ee st rfl) c5)<|wa rfl (v:=I (f+1)) rfl<|Ae ?_;refine Bs aG (Nat.lt_succ_self _) (fun st=>?_);exact⟨false,(f+1),a,qz st,qd st,sp st 1 aA,sp st 2 u,sp st 5 aM,sp st 6 aB,sp st 7 rfl,sp st 8 rfl,bJ,p,s⟩
       ·replace a:=AG a aU;refine AH rfl aU<|B1<|AK<|AK ?_;obtain rfl:=Option.some.inj a;refine BD (fun st=>?_);exact⟨rfl,qz st,qd st,sp st 1 aA,sp st 2 u,sp st 5 aM,sp st 6 aB,sp st 7 a9,bJ,p,s⟩
     case cY=>
      rintro aZ dP dT (⟨rfl,b4,b5,bQ,bR,bS,bT,bU,bL,bV,bA⟩);refine Ch (X:=X0) (N:=46) b4 b5<|Bx<|Ac<|Af<|Ad<|wm rfl (v:=.bool z20) bU<|Ae<|Ac ?_;rcases Aq (z20) with aV|aV
      ·replace a:=AF a aV;refine Ay rfl aV<|Af<|Ad<|wa rfl (v:=.bool false) rfl<|Ae<|Ac<|AI<|AV<|As<|As ?_;obtain rfl:=Option.some.inj a;refine BD (fun st=>?_);exact .inl ⟨rfl,false,rfl,qz st,qd st,sp st 4 rfl,bL⟩
      ·replace a:=AG a aV;refine AH rfl aV<|AY<|Bi<|Ac<|Ad<|wm rfl (v:=I e) bT ?_;replace a:=AU a;obtain⟨c6,a⟩:=a;refine wd rfl (fun st=>Bu (ee st rfl) (ee st rfl) c6)<|wa rfl (v:=I (e+1)) rfl<|Ae ?_;refine Bs aG (Nat.lt_succ_self _) (fun st=>?_);exact⟨n,(e+1),a,qz st,qd st,sp st 1 bQ,sp st 2 bR,sp st 5 bS,sp st 6 rfl,bL,bV,bA⟩
   ·replace a:=AG a a6;refine AH rfl a6<|B1<|AK<|AK ?_;obtain rfl:=Option.some.inj a;refine BD (fun st=>?_);exact .inr ⟨rfl,n,rfl,qz st,qd st,sp st 2 aQ,sp st 5 a2,cJ,aJ,aH⟩
 case dB=>
  rintro aZ dU d4 (⟨rfl,aI,rfl,a4,a5,b6,bE⟩|⟨rfl,aI,rfl,a4,a5,b7,b8,bE,b9,c7⟩)
  ·skip
   replace a:=EM a;refine Ch (X:=X0) (N:=46) a4 a5<|AV<|As ?_;obtain rfl:=Option.some.inj a;refine A3 rfl b6 ?_;exact⟨bE.By,rfl⟩
  ·skip
   replace a:=EN a;refine Ch (X:=X0) (N:=46) a4 a5<|Bx<|Ac<|Af<|Ad<|wm rfl (v:=I aI) b8<|wd rfl (fun st=>Ai (ee st b7) (Me _ _))<|wd rfl (fun st=>Ap (v:=I b.Ao) AP (ee st rfl) b9 rfl)<|wd rfl (fun st=>Ee (ee st rfl) (ee st rfl))<|wa rfl (v:=.bool (decide (aI≤b.Ao))) rfl<|Ae<|Ac<|AI ?_;obtain rfl:=Option.some.inj a;refine A3 rfl rfl ?_;exact⟨bE.By,rfl⟩
theorem Uq(aY:Nat)(c:Ar)(h:Option Addr)(j:Nat)(Z:Nat→Prop)(w:World)(aZ:Sl AQ w Z h j c.Ag)(bH:(List Int))(a:D2 aY c=some bH):
 BO Tryz.prog 100 #[.agg #[I c.Am,I c.Ak,I c.Ao,I c.AA,.slice h c.Ag.length j]] w (fun v w'=>Ext w w'∧(E1 (Az .i64)).R w' (ZZ FN [] Z w.heap.size []) v bH):=by
 unfold D2 at a;refine Be (N:=22) Tryz.func100 rfl rfl (by simp) ?_;intro b4 bI b5;have a9:=AR (i:=0) (v:=.agg #[I c.Am,I c.Ak,I c.Ao,I c.AA,.slice h c.Ag.length j]) bI rfl;clear bI;have a7:Hp FN [] w [] w:=Hp.start (BQ.none w);have aM:=aZ.mv (Br (Z:=Z) (L:=[]) w);refine Af<|Ad<|we rfl (fun st=>B5 (v:=.agg #[I c.Am,I c.Ak,I c.Ao,I c.AA,.slice h c.Ag.length j]) (cs:= #[I c.Am,I c.Ak,I c.Ao,I c.AA,.slice h c.Ag.length j]) (ee st a9) rfl) ?_;rintro _ w1 ⟨o,rfl,aK⟩;have bJ:=a7.nb aK;have b1:=a7.BM aK;refine wa rfl (v:=.slice none 0 0) rfl<|Ae<|Ac<|Af<|Ad<|wa rfl (v:=.slice none 0 0) rfl<|Ae<|Ac<|Af<|Af<|Ad<|wa rfl (v:=I 0) rfl<|Ae<|Ac<|Ba ?_;have bK:Hp FN [] w [none,some o] w1:=bJ.nil;have bL:AL (Az .i64) 3 w.heap.size w1 (ZZ FN [] Z w.heap.size [none,some o]) none 0 ([]:List Int):=AL.nil _ _ _ _ _;replace a:=bind_some a;obtain⟨z2,aC,a⟩:=a;refine Ce (fun bM s aI=>(bM=.exit 0∧∃f m,s.tmps.size=22∧s.defers=(X0).ds∧sl s 3=.slice f z2.length m∧Hp FN [] w [ob f,some o] aI∧AL (Az .i64) 3 w.heap.size aI (ZZ FN [] Z w.heap.size [ob f,some o]) f m z2)) ?bN ?bO
 case bN=>
  clear a;refine Cd (fun(a0:Nat) (s:Act) (aI:World)=>∃g,∃b,∃d n,CJ aY c a0 g b=some z2∧s.tmps.size=22∧s.defers=(X0).ds∧sl s 1=pt o 0∧sl s 3=.slice d g.length n∧sl s 4=I b∧Hp FN [] w [ob d,some o] aI∧AL (Az .i64) 3 w.heap.size aI (ZZ FN [] Z w.heap.size [ob d,some o]) d n g∧Bk aI o 63 #[I c.Am,I c.Ak,I c.Ao,I c.AA,.slice h c.Ag.length j]∧Sl AQ aI (ZZ FN [] Z w.heap.size [ob d,some o]) h j c.Ag) aY ?bP ?bQ
  case bP=>
   intro st;have a2:=aK.bk;have aN:Sl AQ w1 (ZZ FN [] Z w.heap.size [none,some o]) h j c.Ag:=((aM.mv (Ax aK)).mv BT);exact⟨([]:List Int),(0:Int),none,0,aC,qz st,qd st,sp st 1 rfl,sp st 3 rfl,sp st 4 rfl,bK,bL,a2,aN⟩
  case bQ=>
   rintro(_|a0) b6 b7 ⟨g,b,d,n,aC,bA,bB,z,aD,t,a8,p,u,q⟩
   ·exact absurd (show none=some _ from aC) (by simp)
   rw[CJ.eq_2] at aC;have a:=aC;clear aC;refine B2 (N:=22) bA bB<|Af<|Af<|Ad<|wm rfl (v:=I b) t<|wd rfl (fun st=>Ai (ee st z) (DP _ _))<|wd rfl (fun st=>Ap (v:=I c.Am) AP (ee st rfl) u rfl) ?_;replace a:=AU a;obtain⟨bR,a⟩:=a;refine wd rfl (fun st=>Bu (ee st rfl) (ee st rfl) bR) ?_;replace a:=JG a;obtain⟨bS,a⟩:=a;refine wd rfl (fun st=>Lt (k:=.u64) TW Tryz.underlying32 (ee st rfl) bS) ?_;replace a:=Mu a;obtain⟨bT,a⟩:=a;refine wd rfl (fun st=>RI (ee st rfl) (ee st rfl) bT)<|wd rfl (fun st=>Cq (ee st rfl) (ee st rfl))<|Ae<|Ac ?_;rcases Aq (decide (b<(Hr (1:Int) (c.Am+1)))) with aF|aF
   ·replace a:=AF a aF;refine Ay rfl aF<|AY<|Ac<|Af<|Ba<|Af<|Ad<|wd rfl (fun st=>Bl (l:=[I c.Am,I c.Ak,I c.Ao,I c.AA,.slice h c.Ag.length j]) F8 (ee st z) u rfl rfl)<|wm rfl (v:=I b) t ?_;replace a:=bind_some a;obtain⟨bU,bV,a⟩:=a;refine we rfl (fun st=>AX TX (ee st rfl) (EZ (ee st rfl) (ee st rfl)) (VK aY c b h j ZA _ q.all bU bV)) ?_;rintro _ b2 ⟨x,rfl⟩;have aS:=a8.ext x;refine Ae<|Ac ?_;rcases Aq (bU) with aA|aA
    ·replace a:=AF a aA;refine Ay rfl aA<|Ad<|wm rfl (v:=.slice d g.length n) aD<|wm rfl (v:=I b) t<|we rfl (fun st=>BK (e:=3) (vs:= #[(0,I b)]) (cs:= #[I b]) (HC (ee st rfl)) (by kernel_rfl)) ?_;rintro _ bW ⟨aT,rfl,r⟩;have aG:=aS.nb r;have bX:=aS.BM r;have aO:AL (Az .i64) 3 w.heap.size bW (ZZ FN [] Z w.heap.size [some aT,ob d,some o]) d n g:=((p.ext x (Ah x)).ext r.gr (Ax r));replace a:=CS a;obtain⟨aU,a⟩:=a;refine we rfl (fun st=>Kh (ys:=[b]) Tryz.underlying23 GW rfl rfl (by decide) (ee st rfl) rfl (ee st rfl) aO (L2 (Bh:=[[I b]]) r.bk ⟨rfl,trivial⟩ rfl) (by have:=aU;simp only[maxLen];omega) (by have:=aU;omega) aG.sz (by simp)) ?_;rintro _ aH ⟨y,aL,rfl,aE,aJ,bC⟩;have bY:Hp FN [] w [some aT,ob y,some o] aH:=aG.row aE 1 rfl aJ;have bD:AL (Az .i64) 3 w.heap.size aH (ZZ FN [] Z w.heap.size [some aT,ob y,some o]) y aL (g++[b]):=ES bC (aG.CD aE 1 rfl (fun k bE=>(aJ k bE).1));refine wa rfl (v:=.slice y ((g++[b]).length) aL) rfl<|Ae<|Bi<|Ac<|Ad<|wm rfl (v:=I b) t ?_;replace a:=AU a;obtain⟨bF,a⟩:=a;refine wd rfl (fun st=>Bu (ee st rfl) (ee st rfl) bF)<|wa rfl (v:=I (b+1)) rfl<|Ae ?_;have bZ:Hp FN [] w [ob y,some o] aH:=bY.erase 0;have aV:AL (Az .i64) 3 w.heap.size aH (ZZ FN [] Z w.heap.size [ob y,some o]) y aL (g++[b]):=(bD.up (AB 0));have a3:=(((u.ext x).ext r.gr).gr aE (aG.ne 2 1 rfl rfl rfl));have aP:Sl AQ aH (ZZ FN [] Z w.heap.size [ob y,some o]) h j c.Ag:=((((q.mv (Ah x)).mv (Ax r)).mv (aG.CD aE 1 rfl (fun k bE=>(aJ k bE).1))).mv (AB 0));refine Bs a0 (Nat.lt_succ_self _) (fun st=>?_);exact⟨(g++[b]),(b+1),y,aL,a,qz st,qd st,sp st 1 z,sp st 3 rfl,sp st 4 rfl,bZ,aV,a3,aP⟩
    ·replace a:=AG a aA;refine AH rfl aA<|AY<|Bi<|Ac<|Ad<|wm rfl (v:=I b) t ?_;replace a:=AU a;obtain⟨bG,a⟩:=a;refine wd rfl (fun st=>Bu (ee st rfl) (ee st rfl) bG)<|wa rfl (v:=I (b+1)) rfl<|Ae ?_;have aQ:AL (Az .i64) 3 w.heap.size b2 (ZZ FN [] Z w.heap.size [ob d,some o]) d n g:=(p.ext x (Ah x));have a4:=(u.ext x);have aR:=(q.mv (Ah x));refine Bs a0 (Nat.lt_succ_self _) (fun st=>?_);exact⟨g,(b+1),d,n,a,qz st,qd st,sp st 1 z,sp st 3 aD,sp st 4 rfl,aS,aQ,a4,aR⟩
   ·replace a:=AG a aF;refine AH rfl aF<|B1<|AK<|AK ?_;obtain rfl:=Option.some.inj a;refine BD (fun st=>?_);exact⟨rfl,d,n,qz st,qd st,sp st 3 aD,a8,p⟩
 case bO=>
  rintro bM b3 b8 (⟨rfl,f,m,a5,a6,aW,aX,aB⟩);refine Ch (X:=X0) (N:=22) a5 a6<|Bx<|Ac<|Af<|Ad<|wm rfl (v:=.slice f z2.length m) aW<|wa rfl (v:=.slice f z2.length m) rfl<|Ae<|Ac<|AI ?_;obtain rfl:=Option.some.inj a;refine A3 rfl rfl ?_;exact⟨aX.By,⟨_,_,rfl,aX.II (M:=[]) 0 rfl [] rfl trivial aB⟩⟩
theorem Ur(aA:Nat)(a:Ar)(c:Option Addr)(d:Nat)(Z:Nat→Prop)(w:World)(aF:Sl AQ w Z c d a.Ag)(aV:Int)(b:Dq aA a=some aV):
 BO Tryz.prog 81 #[.agg #[I a.Am,I a.Ak,I a.Ao,I a.AA,.slice c a.Ag.length d]] w (fun v w'=>Ext w w'∧(Ft .i64).R w' (ZZ FN [] Z w.heap.size []) v aV):=by
 unfold Dq at b;refine Be (N:=26) Tryz.func81 rfl rfl (by simp) ?_;intro bH aW bI;have aO:=AR (i:=0) (v:=.agg #[I a.Am,I a.Ak,I a.Ao,I a.AA,.slice c a.Ag.length d]) aW rfl;clear aW;have aL:Hp FN [] w [] w:=Hp.start (BQ.none w);have u:=aF.mv (Br (Z:=Z) (L:=[]) w);refine Af<|Ad<|we rfl (fun st=>B5 (v:=.agg #[I a.Am,I a.Ak,I a.Ao,I a.AA,.slice c a.Ag.length d]) (cs:= #[I a.Am,I a.Ak,I a.Ao,I a.AA,.slice c a.Ag.length d]) (ee st aO) rfl) ?_;rintro _ w1 ⟨x,rfl,q⟩;have aM:=aL.nb q;have bD:=aL.BM q;refine wa rfl (v:=I 0) rfl<|Ae<|Ac<|Af<|Ad<|wd rfl (fun st=>Bl (l:=[I a.Am,I a.Ak,I a.Ao,I a.AA,.slice c a.Ag.length d]) F8 (ee st rfl) q.bk rfl rfl) ?_;have m:=(u.mv (Ax q));replace b:=bind_some b;obtain⟨r2,aX,b⟩:=b;refine we rfl (fun st=>AX OI (ee st rfl) (CN (ee st rfl)) (Uq aA a c d (ZZ FN [] Z w.heap.size [some x]) _ m r2 aX)) ?_;rintro _ bM ⟨aB,⟨bE,bF,rfl,r⟩⟩;have aY:=aM.ext aB;have r:=r.mv (aM.Dn (Nat.le_refl _));refine wd rfl (fun st=>BX Tryz.underlying23 (ee st rfl))<|wa rfl (v:=I (r2.length:Int)) rfl<|Ae<|Ac<|Af<|Af<|Ad<|wa rfl (v:=I 0) rfl<|Ae<|Ac<|Ba ?_;replace b:=bind_some b;obtain⟨z4,n,b⟩:=b;refine Ce (fun aZ f aC=>(aZ=.exit 0∧f.tmps.size=26∧f.defers=(X0).ds∧sl f 3=I z4∧Hp FN [] w [some x] aC)) ?a0 ?a2
 case a0=>
  clear b;refine Cd (fun(aP:Nat) (f:Act) (aC:World)=>∃g,∃e,DK aA a aP g e=some z4∧f.tmps.size=26∧f.defers=(X0).ds∧sl f 1=pt x 0∧sl f 3=I g∧sl f 4=I e∧Hp FN [] w [some x] aC∧Bk aC x 63 #[I a.Am,I a.Ak,I a.Ao,I a.AA,.slice c a.Ag.length d]∧Sl AQ aC (ZZ FN [] Z w.heap.size [some x]) c d a.Ag) aA ?a3 ?a4
  case a3=>
   intro st;have aG:=(q.bk.ext aB);have y:=(m.mv (Ah aB));exact⟨(r2.length:Int),(0:Int),n,qz st,qd st,sp st 1 rfl,sp st 3 rfl,sp st 4 rfl,aY,aG,y⟩
  case a4=>
   rintro(_|aP) bJ bK ⟨g,e,n,aQ,aR,o,t,p,aN,h,j⟩
   ·exact absurd (show none=some _ from n) (by simp)
   rw[DK.eq_2] at n;have b:=n;clear n;refine B2 (N:=26) aQ aR<|Af<|Af<|Ad<|wm rfl (v:=I e) p<|wd rfl (fun st=>Ai (ee st o) (Fc _ _))<|wd rfl (fun st=>Ap (v:=.slice c a.Ag.length d) FR (ee st rfl) h rfl)<|wd rfl (fun st=>BX Tryz.underlying61 (ee st rfl))<|wd rfl (fun st=>Cq (ee st rfl) (ee st rfl))<|Ae<|Ac ?_;rcases Aq (decide (e<(a.Ag.length:Int))) with s|s
   ·replace b:=AF b s;refine Ay rfl s<|AY<|Ac<|Af<|Ba<|Ad<|wm rfl (v:=I g) t<|wd rfl (fun st=>Ai (ee st o) (Fc _ _))<|wd rfl (fun st=>Ap (v:=.slice c a.Ag.length d) FR (ee st rfl) h rfl)<|wm rfl (v:=I e) p ?_;replace b:=Bt b;obtain⟨i6,aH,a5,a6,a7,b⟩:=b;obtain⟨bN,bO,_,a8,rfl,a9⟩:=Sl.elem j (by decide) a6;refine wd rfl (fun st=>Cf (k:=i6) Tryz.underlying61 Ho (ee st rfl) a8 (ee st rfl) a5 a7)<|wd rfl (fun st=>Ai (ee st rfl) (NQ _ _ _))<|wd rfl (fun st=>Dp (l:=[I aH.Au,I aH.AJ]) Jp (ee st rfl) a9 rfl rfl) ?_;replace b:=bind_some b;obtain⟨aS,bA,b⟩:=b;refine we rfl (fun st=>AX Mf (ee st rfl) (CN (ee st rfl)) (Rt aA (⟨aH.Au,aH.AJ⟩:CB) ZA _ aS bA)) ?_;rintro _ bP ⟨aD,rfl⟩;have bB:=aN.ext aD;replace b:=AU b;obtain⟨bC,b⟩:=b;refine wd rfl (fun st=>RC (ee st rfl) (ee st rfl) bC)<|wd rfl (fun st=>RD (ee st rfl) (ee st rfl))<|wa rfl (v:=I (min (3000:Int) (g*aS))) rfl<|Ae<|Bi<|Ac<|Ad<|wm rfl (v:=I e) p ?_;replace b:=AU b;obtain⟨aT,b⟩:=b;refine wd rfl (fun st=>Bu (ee st rfl) (ee st rfl) aT)<|wa rfl (v:=I (e+1)) rfl<|Ae ?_;have aI:=(h.ext aD);have z:=(j.mv (Ah aD));refine Bs aP (Nat.lt_succ_self _) (fun st=>?_);exact⟨(min (3000:Int) (g*aS)),(e+1),b,qz st,qd st,sp st 1 o,sp st 3 rfl,sp st 4 rfl,bB,aI,z⟩
   ·replace b:=AG b s;refine AH rfl s<|B1<|AK<|AK ?_;obtain rfl:=Option.some.inj b;refine BD (fun st=>?_);exact⟨rfl,qz st,qd st,sp st 3 t,aN⟩
 case a2=>
  rintro aZ bG bL (⟨rfl,aJ,aK,aE,aU⟩);refine Ch (X:=X0) (N:=26) aJ aK<|Bx<|Ac<|Af<|Ad<|wm rfl (v:=I z4) aE<|wa rfl (v:=I z4) rfl<|Ae<|Ac<|AI ?_;obtain rfl:=Option.some.inj b;refine A3 rfl rfl ?_;exact⟨aU.By,rfl⟩
theorem Ve(aS:Nat)(b:Ar)(j:Option Addr)(m:Nat)(Z:Nat→Prop)(w:World)(bR:Sl AQ w Z j m b.Ag)(cY:Int)(a:Ew aS b=some cY):
 BO Tryz.prog 80 #[.agg #[I b.Am,I b.Ak,I b.Ao,I b.AA,.slice j b.Ag.length m]] w (fun v w'=>Ext w w'∧(Ft .i64).R w' (ZZ FN [] Z w.heap.size []) v cY):=by
 unfold Ew at a;refine Be (N:=101) Tryz.func80 rfl rfl (by simp) ?_;intro dD cZ dE;have bZ:=AR (i:=0) (v:=.agg #[I b.Am,I b.Ak,I b.Ao,I b.AA,.slice j b.Ag.length m]) cZ rfl;clear cZ;have bV:Hp FN [] w [] w:=Hp.start (BQ.none w);have a9:=bR.mv (Br (Z:=Z) (L:=[]) w);refine Af<|Ad<|we rfl (fun st=>B5 (v:=.agg #[I b.Am,I b.Ak,I b.Ao,I b.AA,.slice j b.Ag.length m]) (cs:= #[I b.Am,I b.Ak,I b.Ao,I b.AA,.slice j b.Ag.length m]) (ee st bZ) rfl) ?_;rintro _ w1 ⟨x,rfl,y⟩;have aO:=bV.nb y;have c8:=bV.BM y;refine wa rfl (v:=I 0) rfl<|Ae<|Ac<|Af<|Af<|Ad<|wd rfl (fun st=>Ai (ee st rfl) (DP _ _))<|wd rfl (fun st=>Ap (v:=I b.Am) AP (ee st rfl) y.bk rfl)<|wd rfl (fun st=>E0 (ee st rfl) (ee st rfl))<|wm rfl (v:=.bool (decide ((9:Int)<b.Am))) rfl ?_;rcases Aq (decide ((9:Int)<b.Am)) with z|z
 ·replace a:=AF a z;refine Aj (c:=true) rfl rfl (Ab rfl z) (by decide) rfl (by decide)<|Aj (c:=true) rfl rfl (Ab rfl z) (by decide) rfl (by decide)<|Aj (c:=true) rfl rfl (Ab rfl z) (by decide) rfl (by decide)<|wd rfl (fun st=>AT (v:=.bool true) (ee st rfl) z (ee st rfl))<|wm rfl (v:=.bool true) rfl<|Aj rfl rfl rfl (by decide) rfl (by decide)<|Aj rfl rfl rfl (by decide) rfl (by decide)<|Aj rfl rfl rfl (by decide) rfl (by decide)<|Aj rfl rfl rfl (by decide) rfl (by decide)<|wd rfl (fun st=>AT (v:=.bool true) (ee st rfl) rfl (ee st rfl))<|Ae<|Ac<|Ay rfl rfl<|Af<|Ad<|wa rfl (v:=I 3) rfl<|Ae<|Ac<|AI<|As ?_;obtain rfl:=Option.some.inj a;refine A3 rfl rfl ?_;exact⟨aO.By,rfl⟩
 ·replace a:=AG a z;refine Aw rfl rfl (Ab rfl z) rfl (by decide) (fun st=>Ai (ee st rfl) (Jq _ _))<|Aw rfl rfl (Ab rfl z) rfl (by decide) (fun st=>Ap (v:=I b.Ak) AP (ee st rfl) y.bk rfl)<|Aw rfl rfl (Ab rfl z) rfl (by decide) (fun st=>E0 (ee st rfl) (ee st rfl))<|wd rfl (fun st=>Bd (v:=.bool (decide ((2:Int)<b.Ak))) (ee st rfl) z (ee st rfl))<|wm rfl (v:=.bool (decide ((2:Int)<b.Ak))) rfl ?_;rcases Aq (decide ((2:Int)<b.Ak)) with s|s
  ·replace a:=AF a s;refine Aj (c:=true) rfl rfl (Ab rfl s) (by decide) rfl (by decide)<|Aj (c:=true) rfl rfl (Ab rfl s) (by decide) rfl (by decide)<|Aj (c:=true) rfl rfl (Ab rfl s) (by decide) rfl (by decide)<|Aj (c:=true) rfl rfl (Ab rfl s) (by decide) rfl (by decide)<|wd rfl (fun st=>AT (v:=.bool true) (ee st rfl) s (ee st rfl))<|Ae<|Ac<|Ay rfl rfl<|Af<|Ad<|wa rfl (v:=I 3) rfl<|Ae<|Ac<|AI<|As ?_;obtain rfl:=Option.some.inj a;refine A3 rfl rfl ?_;exact⟨aO.By,rfl⟩
  ·replace a:=AG a s;refine Aw rfl rfl (Ab rfl s) rfl (by decide) (fun st=>Ai (ee st rfl) (Fc _ _))<|Aw rfl rfl (Ab rfl s) rfl (by decide) (fun st=>Ap (v:=.slice j b.Ag.length m) FR (ee st rfl) y.bk rfl)<|Aw rfl rfl (Ab rfl s) rfl (by decide) (fun st=>BX Tryz.underlying61 (ee st rfl))<|Aw rfl rfl (Ab rfl s) rfl (by decide) (fun st=>E0 (ee st rfl) (ee st rfl))<|wd rfl (fun st=>Bd (v:=.bool (decide ((4:Int)<(b.Ag.length:Int)))) (ee st rfl) s (ee st rfl))<|Ae<|Ac ?_;rcases Aq (decide ((4:Int)<(b.Ag.length:Int))) with aX|aX
   ·replace a:=AF a aX;refine Ay rfl aX<|Af<|Ad<|wa rfl (v:=I 3) rfl<|Ae<|Ac<|AI<|As ?_;obtain rfl:=Option.some.inj a;refine A3 rfl rfl ?_;exact⟨aO.By,rfl⟩
   ·replace a:=AG a aX;refine AH rfl aX<|AY<|Ac<|Af<|Af<|Ad<|wd rfl (fun st=>Ai (ee st rfl) (DP _ _))<|wd rfl (fun st=>Ap (v:=I b.Am) AP (ee st rfl) y.bk rfl)<|wd rfl (fun st=>Cq (ee st rfl) (ee st rfl))<|wm rfl (v:=.bool (decide (b.Am<0))) rfl ?_;rcases Aq (decide (b.Am<0)) with aA|aA
    ·replace a:=AF a aA;refine Aj (c:=true) rfl rfl (Ab rfl aA) (by decide) rfl (by decide)<|Aj (c:=true) rfl rfl (Ab rfl aA) (by decide) rfl (by decide)<|Aj (c:=true) rfl rfl (Ab rfl aA) (by decide) rfl (by decide)<|wd rfl (fun st=>AT (v:=.bool true) (ee st rfl) aA (ee st rfl))<|wm rfl (v:=.bool true) rfl<|Aj rfl rfl rfl (by decide) rfl (by decide)<|Aj rfl rfl rfl (by decide) rfl (by decide)<|Aj rfl rfl rfl (by decide) rfl (by decide)<|Aj rfl rfl rfl (by decide) rfl (by decide)<|Aj rfl rfl rfl (by decide) rfl (by decide)<|Aj rfl rfl rfl (by decide) rfl (by decide)<|Aj rfl rfl rfl (by decide) rfl (by decide)<|wd rfl (fun st=>AT (v:=.bool true) (ee st rfl) rfl (ee st rfl))<|wm rfl (v:=.bool true) rfl<|Aj rfl rfl rfl (by decide) rfl (by decide)<|Aj rfl rfl rfl (by decide) rfl (by decide)<|Aj rfl rfl rfl (by decide) rfl (by decide)<|Aj rfl rfl rfl (by decide) rfl (by decide)<|Aj rfl rfl rfl (by decide) rfl (by decide)<|Aj rfl rfl rfl (by decide) rfl (by decide)<|Aj rfl rfl rfl (by decide) rfl (by decide)<|wd rfl (fun st=>AT (v:=.bool true) (ee st rfl) rfl (ee st rfl))<|Ae<|Ac<|Ay rfl rfl<|Af<|Ad<|wa rfl (v:=I 1) rfl<|Ae<|Ac<|AI<|As ?_;obtain rfl:=Option.some.inj a;refine A3 rfl rfl ?_;exact⟨aO.By,rfl⟩
    ·replace a:=AG a aA;refine Aw rfl rfl (Ab rfl aA) rfl (by decide) (fun st=>Ai (ee st rfl) (Jq _ _))<|Aw rfl rfl (Ab rfl aA) rfl (by decide) (fun st=>Ap (v:=I b.Ak) AP (ee st rfl) y.bk rfl)<|Aw rfl rfl (Ab rfl aA) rfl (by decide) (fun st=>Cq (ee st rfl) (ee st rfl))<|wd rfl (fun st=>Bd (v:=.bool (decide (b.Ak<1))) (ee st rfl) aA (ee st rfl))<|wm rfl (v:=.bool (decide (b.Ak<1))) rfl ?_;rcases Aq (decide (b.Ak<1)) with p|p
     ·replace a:=AF a p;refine Aj (c:=true) rfl rfl (Ab rfl p) (by decide) rfl (by decide)<|Aj (c:=true) rfl rfl (Ab rfl p) (by decide) rfl (by decide)<|Aj (c:=true) rfl rfl (Ab rfl p) (by decide) rfl (by decide)<|Aj (c:=true) rfl rfl (Ab rfl p) (by decide) rfl (by decide)<|Aj (c:=true) rfl rfl (Ab rfl p) (by decide) rfl (by decide)<|Aj (c:=true) rfl rfl (Ab rfl p) (by decide) rfl (by decide)<|Aj (c:=true) rfl rfl (Ab rfl p) (by decide) rfl (by decide)<|wd rfl (fun st=>AT (v:=.bool true) (ee st rfl) p (ee st rfl))<|wm rfl (v:=.bool true) rfl<|Aj rfl rfl rfl (by decide) rfl (by decide)<|Aj rfl rfl rfl (by decide) rfl (by decide)<|Aj rfl rfl rfl (by decide) rfl (by decide)<|Aj rfl rfl rfl (by decide) rfl (by decide)<|Aj rfl rfl rfl (by decide) rfl (by decide)<|Aj rfl rfl rfl (by decide) rfl (by decide)<|Aj rfl rfl rfl (by decide) rfl (by decide)<|wd rfl (fun st=>AT (v:=.bool true) (ee st rfl) rfl (ee st rfl))<|Ae<|Ac<|Ay rfl rfl<|Af<|Ad<|wa rfl (v:=I 1) rfl<|Ae<|Ac<|AI<|As ?_;obtain rfl:=Option.some.inj a;refine A3 rfl rfl ?_;exact⟨aO.By,rfl⟩
     ·replace a:=AG a p;refine Aw rfl rfl (Ab rfl p) rfl (by decide) (fun st=>Ai (ee st rfl) (Me _ _))<|Aw rfl rfl (Ab rfl p) rfl (by decide) (fun st=>Ap (v:=I b.Ao) AP (ee st rfl) y.bk rfl)<|Aw rfl rfl (Ab rfl p) rfl (by decide) (fun st=>Ai (ee st rfl) (DP _ _))<|Aw rfl rfl (Ab rfl p) rfl (by decide) (fun st=>Ap (v:=I b.Am) AP (ee st rfl) y.bk rfl) ?_;replace a:=AU a;obtain⟨c0,a⟩:=a;refine Aw rfl rfl (Ab rfl p) rfl (by decide) (fun st=>Bu (ee st rfl) (ee st rfl) c0) ?_;replace a:=bind_some a;obtain⟨bA,c1,a⟩:=a;refine Ec rfl rfl (Ab rfl p) rfl (by decide) (fun st=>AX KI (ee st rfl) (FH (ee st rfl) (ee st rfl) (ee st rfl)) (a46 aS b.Ao 0 (b.Am+1) ZA _ bA c1)) ?_;rintro _ dL ⟨bG,rfl⟩;have bW:=aO.ext bG;refine Aw rfl rfl (Ab rfl p) rfl (by decide) (fun st=>Dl (ee st rfl))<|wd rfl (fun st=>Bd (v:=.bool !bA) (ee st rfl) p (ee st rfl))<|wm rfl (v:=.bool !bA) rfl ?_;rcases Aq (!bA) with e|e
      ·replace a:=AF a e;have cO:bA=false:=by simpa using e
       refine Aj (c:=true) rfl rfl (Ab rfl e) (by decide) rfl (by decide)<|Aj (c:=true) rfl rfl (Ab rfl e) (by decide) rfl (by decide)<|Aj (c:=true) rfl rfl (Ab rfl e) (by decide) rfl (by decide)<|Aj (c:=true) rfl rfl (Ab rfl e) (by decide) rfl (by decide)<|Aj (c:=true) rfl rfl (Ab rfl e) (by decide) rfl (by decide)<|Aj (c:=true) rfl rfl (Ab rfl e) (by decide) rfl (by decide)<|Aj (c:=true) rfl rfl (Ab rfl e) (by decide) rfl (by decide)<|wd rfl (fun st=>AT (v:=.bool true) (ee st rfl) e (ee st rfl))<|Ae<|Ac<|Ay rfl rfl<|Af<|Ad<|wa rfl (v:=I 1) rfl<|Ae<|Ac<|AI<|As ?_;obtain rfl:=Option.some.inj a;refine A3 rfl rfl ?_;exact⟨bW.By,rfl⟩
      ·replace a:=AG a e;have cP:bA=true:=by simpa using e
       refine Aw rfl rfl (Ab rfl e) rfl (by decide) (fun st=>Ai (ee st rfl) (KT _ _)) ?_;have aT:=(y.bk.ext bG);refine Aw rfl rfl (Ab rfl e) rfl (by decide) (fun st=>Ap (v:=I b.AA) AP (ee st rfl) aT rfl)<|Aw rfl rfl (Ab rfl e) rfl (by decide) (fun st=>Ai (ee st rfl) (DP _ _))<|Aw rfl rfl (Ab rfl e) rfl (by decide) (fun st=>Ap (v:=I b.Am) AP (ee st rfl) aT rfl) ?_;replace a:=AU a;obtain⟨b1,a⟩:=a;refine Aw rfl rfl (Ab rfl e) rfl (by decide) (fun st=>Bu (ee st rfl) (ee st rfl) b1) ?_;replace a:=bind_some a;obtain⟨aY,b2,a⟩:=a;refine Ec rfl rfl (Ab rfl e) rfl (by decide) (fun st=>AX KI (ee st rfl) (FH (ee st rfl) (ee st rfl) (ee st rfl)) (a46 aS b.AA 0 (b.Am+1) ZA _ aY b2)) ?_;rintro _ dF ⟨a4,rfl⟩;have bX:=bW.ext a4;refine Aw rfl rfl (Ab rfl e) rfl (by decide) (fun st=>Dl (ee st rfl))<|wd rfl (fun st=>Bd (v:=.bool !aY) (ee st rfl) e (ee st rfl))<|Ae<|Ac ?_;rcases Aq (!aY) with aE|aE
       ·replace a:=AF a aE;have cQ:aY=false:=by simpa using aE
        refine Ay rfl aE<|Af<|Ad<|wa rfl (v:=I 1) rfl<|Ae<|Ac<|AI<|As ?_;obtain rfl:=Option.some.inj a;refine A3 rfl rfl ?_;exact⟨bX.By,rfl⟩
       ·replace a:=AG a aE;have cR:aY=true:=by simpa using aE
        refine AH rfl aE<|AY<|Ac<|Af<|Af<|Ad<|wa rfl (v:=I 0) rfl<|Ae<|Ac<|Ba ?_;replace a:=bind_some a;obtain⟨bH,aG,a⟩:=a;refine Ce (fun b3 aB aZ=>(b3=.ret∧∃aH,bH=.inl aH∧aB.tmps.size=101∧aB.defers=(X0).ds∧sl aB 2=I aH∧Hp FN [] w [some x] aZ)∨(b3=.exit 0∧∃aH,bH=.inr aH∧aB.tmps.size=101∧aB.defers=(X0).ds∧sl aB 1=pt x 0∧Hp FN [] w [some x] aZ∧Bk aZ x 63 #[I b.Am,I b.Ak,I b.Ao,I b.AA,.slice j b.Ag.length m]∧Sl AQ aZ (ZZ FN [] Z w.heap.size [some x]) j m b.Ag)) ?b4 ?b5
        case b4=>
         clear a;refine Cd (fun(b6:Nat) (aB:Act) (aZ:World)=>∃r,Dg aS b b6 r=some bH∧aB.tmps.size=101∧aB.defers=(X0).ds∧sl aB 1=pt x 0∧sl aB 3=I r∧Hp FN [] w [some x] aZ∧Bk aZ x 63 #[I b.Am,I b.Ak,I b.Ao,I b.AA,.slice j b.Ag.length m]∧Sl AQ aZ (ZZ FN [] Z w.heap.size [some x]) j m b.Ag) aS ?b7 ?b8
         case b7=>
          intro st;have bS:=(aT.ext a4);have bB:=(((a9.mv (Ax y)).mv (Ah bG)).mv (Ah a4));exact⟨(0:Int),aG,qz st,qd st,sp st 1 rfl,sp st 3 rfl,bX,bS,bB⟩
         case b8=>
          rintro(_|b6) dA dB ⟨r,aG,bT,bU,t,aI,bI,aD,aC⟩
          ·exact absurd (show none=some _ from aG) (by simp)
          rw[Dg.eq_2] at aG;have a:=aG;clear aG;refine B2 (N:=101) bT bU<|Af<|Af<|Ad<|wm rfl (v:=I r) aI<|wd rfl (fun st=>Ai (ee st t) (Fc _ _))<|wd rfl (fun st=>Ap (v:=.slice j b.Ag.length m) FR (ee st rfl) aD rfl)<|wd rfl (fun st=>BX Tryz.underlying61 (ee st rfl))<|wd rfl (fun st=>Cq (ee st rfl) (ee st rfl))<|Ae<|Ac ?_;rcases Aq (decide (r<(b.Ag.length:Int))) with aJ|aJ
          ·replace a:=AF a aJ;refine Ay rfl aJ<|AY<|Ac<|Af<|Ba<|Af<|Ad<|wd rfl (fun st=>Ai (ee st t) (Fc _ _))<|wd rfl (fun st=>Ap (v:=.slice j b.Ag.length m) FR (ee st rfl) aD rfl)<|wm rfl (v:=I r) aI ?_;replace a:=Bt a;obtain⟨i21,d,b9,cA,cB,a⟩:=a;obtain⟨dG,dH,_,cC,rfl,cD⟩:=Sl.elem aC (by decide) cA;refine wd rfl (fun st=>Cf (k:=i21) Tryz.underlying61 Ho (ee st rfl) cC (ee st rfl) b9 cB)<|wd rfl (fun st=>Dp (l:=[I d.Au,I d.AJ,I d.AM,I d.Cc,I d.Ct]) OJ (ee st rfl) cD rfl rfl)<|we rfl (fun st=>BP (cs:= #[I 0,I 0,I 0,I 0,I 0]) NR rfl) ?_;rintro _ dI ⟨dJ,rfl,aK⟩;have bJ:=bI.nb aK;have c2:=bI.BM aK;refine Bq rfl rfl (fun st=>Bg (n:=5) (l:=[I d.Au,I d.AJ,I d.AM,I d.Cc,I d.Ct]) (Ci:= #[I d.Au,I d.AJ,I d.AM,I d.Cc,I d.Ct]) (ee st rfl) (ee st rfl) Ho aK.bk rfl rfl (show 0+5≤5 by decide) (AW rfl) rfl) ?_;rintro _ bK u;have a7:=bJ.gr u.gr 0 rfl;refine Ae<|Ac<|Af<|Ad<|wd rfl (fun st=>Ai (ee st rfl) (IT _ _))<|wd rfl (fun st=>Ai (ee st rfl) (IS _ _))<|wd rfl (fun st=>Ap (v:=I d.Au) AP (ee st rfl) u.bk rfl)<|wd rfl (fun st=>Cq (ee st rfl) (ee st rfl))<|wm rfl (v:=.bool (decide (d.Au<0))) rfl ?_;rcases Aq (decide (d.Au<0)) with f|f
           ·replace a:=AF a f;refine Aj (c:=true) rfl rfl (Ab rfl f) (by decide) rfl (by decide)<|Aj (c:=true) rfl rfl (Ab rfl f) (by decide) rfl (by decide)<|Aj (c:=true) rfl rfl (Ab rfl f) (by decide) rfl (by decide)<|Aj (c:=true) rfl rfl (Ab rfl f) (by decide) rfl (by decide)<|Aj (c:=true) rfl rfl (Ab rfl f) (by decide) rfl (by decide)<|Aj (c:=true) rfl rfl (Ab rfl f) (by decide) rfl (by decide)<|Aj (c:=true) rfl rfl (Ab rfl f) (by decide) rfl (by decide)<|wd rfl (fun st=>AT (v:=.bool true) (ee st rfl) f (ee st rfl))<|wm rfl (v:=.bool true) rfl<|Aj rfl rfl rfl (by decide) rfl (by decide)<|Aj rfl rfl rfl (by decide) rfl (by decide)<|Aj rfl rfl rfl (by decide) rfl (by decide)<|Aj rfl rfl rfl (by decide) rfl (by decide)<|Aj rfl rfl rfl (by decide) rfl (by decide)<|Aj rfl rfl rfl (by decide) rfl (by decide)<|wd rfl (fun st=>AT (v:=.bool true) (ee st rfl) rfl (ee st rfl))<|wm rfl (v:=.bool true) rfl<|Aj rfl rfl rfl (by decide) rfl (by decide)<|Aj rfl rfl rfl (by decide) rfl (by decide)<|Aj rfl rfl rfl (by decide) rfl (by decide)<|Aj rfl rfl rfl (by decide) rfl (by decide)<|wd rfl (fun st=>AT (v:=.bool true) (ee st rfl) rfl (ee st rfl))<|wm rfl (v:=.bool true) rfl<|Aj rfl rfl rfl (by decide) rfl (by decide)<|Aj rfl rfl rfl (by decide) rfl (by decide)<|Aj rfl rfl rfl (by decide) rfl (by decide)<|Aj rfl rfl rfl (by decide) rfl (by decide)<|wd rfl (fun st=>AT (v:=.bool true) (ee st rfl) rfl (ee st rfl))<|wm rfl (v:=.bool true) rfl<|Aj rfl rfl rfl (by decide) rfl (by decide)<|Aj rfl rfl rfl (by decide) rfl (by decide)<|Aj rfl rfl rfl (by decide) rfl (by decide)<|Aj rfl rfl rfl (by decide) rfl (by decide)<|Aj rfl rfl rfl (by decide) rfl (by decide)<|Aj rfl rfl rfl (by decide) rfl (by decide)<|wd rfl (fun st=>AT (v:=.bool true) (ee st rfl) rfl (ee st rfl))<|Ae<|Ac<|Ay rfl rfl<|Af ?_;refine Ad<|wa rfl (v:=I 1) rfl<|Ae<|Ac<|AI<|AV<|As<|As ?_;have c3:Hp FN [] w [some x] bK:=a7.erase 0;obtain rfl:=Option.some.inj a;refine BD (fun st=>?_);exact .inl ⟨rfl,(1:Int),rfl,qz st,qd st,sp st 2 rfl,c3⟩
           ·replace a:=AG a f;refine Aw rfl rfl (Ab rfl f) rfl (by decide) (fun st=>Ai (ee st rfl) (IT _ _))<|Aw rfl rfl (Ab rfl f) rfl (by decide) (fun st=>Ai (ee st rfl) (IS _ _))<|Aw rfl rfl (Ab rfl f) rfl (by decide) (fun st=>Ap (v:=I d.Au) AP (ee st rfl) u.bk rfl)<|Aw rfl rfl (Ab rfl f) rfl (by decide) (fun st=>Ai (ee st rfl) (IT _ _))<|Aw rfl rfl (Ab rfl f) rfl (by decide) (fun st=>Ai (ee st rfl) (JV _ _))<|Aw rfl rfl (Ab rfl f) rfl (by decide) (fun st=>Ap (v:=I d.AJ) AP (ee st rfl) u.bk rfl)<|Aw rfl rfl (Ab rfl f) rfl (by decide) (fun st=>E0 (ee st rfl) (ee st rfl))<|wd rfl (fun st=>Bd (v:=.bool (decide (d.AJ<d.Au))) (ee st rfl) f (ee st rfl))<|wm rfl (v:=.bool (decide (d.AJ<d.Au))) rfl ?_;rcases Aq (decide (d.AJ<d.Au)) with h|h
            ·replace a:=AF a h;refine Aj (c:=true) rfl rfl (Ab rfl h) (by decide) rfl (by decide)<|Aj (c:=true) rfl rfl (Ab rfl h) (by decide) rfl (by decide)<|Aj (c:=true) rfl rfl (Ab rfl h) (by decide) rfl (by decide)<|Aj (c:=true) rfl rfl (Ab rfl h) (by decide) rfl (by decide)<|Aj (c:=true) rfl rfl (Ab rfl h) (by decide) rfl (by decide)<|Aj (c:=true) rfl rfl (Ab rfl h) (by decide) rfl (by decide)<|wd rfl (fun st=>AT (v:=.bool true) (ee st rfl) h (ee st rfl))<|wm rfl (v:=.bool true) rfl<|Aj rfl rfl rfl (by decide) rfl (by decide)<|Aj rfl rfl rfl (by decide) rfl (by decide)<|Aj rfl rfl rfl (by decide) rfl (by decide)<|Aj rfl rfl rfl (by decide) rfl (by decide)<|wd rfl (fun st=>AT (v:=.bool true) (ee st rfl) rfl (ee st rfl))<|wm rfl (v:=.bool true) rfl<|Aj rfl rfl rfl (by decide) rfl (by decide)<|Aj rfl rfl rfl (by decide) rfl (by decide)<|Aj rfl rfl rfl (by decide) rfl (by decide)<|Aj rfl rfl rfl (by decide) rfl (by decide)<|wd rfl (fun st=>AT (v:=.bool true) (ee st rfl) rfl (ee st rfl))<|wm rfl (v:=.bool true) rfl<|Aj rfl rfl rfl (by decide) rfl (by decide)<|Aj rfl rfl rfl (by decide) rfl (by decide)<|Aj rfl rfl rfl (by decide) rfl (by decide)<|Aj rfl rfl rfl (by decide) rfl (by decide)<|Aj rfl rfl rfl (by decide) rfl (by decide)<|Aj rfl rfl rfl (by decide) rfl (by decide)<|wd rfl (fun st=>AT (v:=.bool true) (ee st rfl) rfl (ee st rfl))<|Ae<|Ac<|Ay rfl rfl<|Af<|Ad<|wa rfl (v:=I 1) rfl<|Ae<|Ac<|AI<|AV<|As<|As ?_;have c4:Hp FN [] w [some x] bK:=a7.erase 0;obtain rfl:=Option.some.inj a;refine BD (fun st=>?_);exact .inl ⟨rfl,(1:Int),rfl,qz st,qd st,sp st 2 rfl,c4⟩
            ·replace a:=AG a h;refine Aw rfl rfl (Ab rfl h) rfl (by decide) (fun st=>Ai (ee st rfl) (IT _ _))<|Aw rfl rfl (Ab rfl h) rfl (by decide) (fun st=>Ai (ee st rfl) (JV _ _))<|Aw rfl rfl (Ab rfl h) rfl (by decide) (fun st=>Ap (v:=I d.AJ) AP (ee st rfl) u.bk rfl)<|Aw rfl rfl (Ab rfl h) rfl (by decide) (fun st=>Ai (ee st t) (DP _ _)) ?_;have a8:=((aD.ext aK.gr).gr u.gr (bJ.ne 1 0 rfl rfl rfl));refine Aw rfl rfl (Ab rfl h) rfl (by decide) (fun st=>Ap (v:=I b.Am) AP (ee st rfl) a8 rfl)<|Aw rfl rfl (Ab rfl h) rfl (by decide) (fun st=>E0 (ee st rfl) (ee st rfl))<|wd rfl (fun st=>Bd (v:=.bool (decide (b.Am<d.AJ))) (ee st rfl) h (ee st rfl))<|wm rfl (v:=.bool (decide (b.Am<d.AJ))) rfl ?_;rcases Aq (decide (b.Am<d.AJ)) with q|q
             ·replace a:=AF a q;refine Aj (c:=true) rfl rfl (Ab rfl q) (by decide) rfl (by decide)<|Aj (c:=true) rfl rfl (Ab rfl q) (by decide) rfl (by decide)<|Aj (c:=true) rfl rfl (Ab rfl q) (by decide) rfl (by decide)<|Aj (c:=true) rfl rfl (Ab rfl q) (by decide) rfl (by decide)<|wd rfl (fun st=>AT (v:=.bool true) (ee st rfl) q (ee st rfl))<|wm rfl (v:=.bool true) rfl<|Aj rfl rfl rfl (by decide) rfl (by decide)<|Aj rfl rfl rfl (by decide) rfl (by decide)<|Aj rfl rfl rfl (by decide) rfl (by decide)<|Aj rfl rfl rfl (by decide) rfl (by decide)<|wd rfl (fun st=>AT (v:=.bool true) (ee st rfl) rfl (ee st rfl))<|wm rfl (v:=.bool true) rfl<|Aj rfl rfl rfl (by decide) rfl (by decide)<|Aj rfl rfl rfl (by decide) rfl (by decide)<|Aj rfl rfl rfl (by decide) rfl (by decide)<|Aj rfl rfl rfl (by decide) rfl (by decide)<|Aj rfl rfl rfl (by decide) rfl (by decide)<|Aj rfl rfl rfl (by decide) rfl (by decide)<|wd rfl (fun st=>AT (v:=.bool true) (ee st rfl) rfl (ee st rfl))<|Ae<|Ac<|Ay rfl rfl<|Af<|Ad<|wa rfl (v:=I 1) rfl<|Ae<|Ac<|AI<|AV<|As<|As ?_;have c5:Hp FN [] w [some x] bK:=a7.erase 0;obtain rfl:=Option.some.inj a;refine BD (fun st=>?_);exact .inl ⟨rfl,(1:Int),rfl,qz st,qd st,sp st 2 rfl,c5⟩
             ·replace a:=AG a q;refine Aw rfl rfl (Ab rfl q) rfl (by decide) (fun st=>Ai (ee st rfl) (NS _ _))<|Aw rfl rfl (Ab rfl q) rfl (by decide) (fun st=>Ap (v:=I d.AM) AP (ee st rfl) u.bk rfl) ?_;replace a:=bind_some a;obtain⟨aP,cE,a⟩:=a;refine Ec rfl rfl (Ab rfl q) rfl (by decide) (fun st=>AX KI (ee st rfl) (FH (ee st rfl) (ee st rfl) (ee st rfl)) (a46 aS d.AM 1 5 ZA _ aP cE)) ?_;rintro _ c6 ⟨aU,rfl⟩;have bL:=a7.ext aU;refine Aw rfl rfl (Ab rfl q) rfl (by decide) (fun st=>Dl (ee st rfl))<|wd rfl (fun st=>Bd (v:=.bool !aP) (ee st rfl) q (ee st rfl))<|wm rfl (v:=.bool !aP) rfl ?_;rcases Aq (!aP) with o|o
              ·replace a:=AF a o;have cS:aP=false:=by simpa using o
               refine Aj (c:=true) rfl rfl (Ab rfl o) (by decide) rfl (by decide)<|Aj (c:=true) rfl rfl (Ab rfl o) (by decide) rfl (by decide)<|Aj (c:=true) rfl rfl (Ab rfl o) (by decide) rfl (by decide)<|Aj (c:=true) rfl rfl (Ab rfl o) (by decide) rfl (by decide)<|wd rfl (fun st=>AT (v:=.bool true) (ee st rfl) o (ee st rfl))<|wm rfl (v:=.bool true) rfl<|Aj rfl rfl rfl (by decide) rfl (by decide)<|Aj rfl rfl rfl (by decide) rfl (by decide)<|Aj rfl rfl rfl (by decide) rfl (by decide)<|Aj rfl rfl rfl (by decide) rfl (by decide)<|Aj rfl rfl rfl (by decide) rfl (by decide)<|Aj rfl rfl rfl (by decide) rfl (by decide)<|wd rfl (fun st=>AT (v:=.bool true) (ee st rfl) rfl (ee st rfl))<|Ae<|Ac<|Ay rfl rfl<|Af<|Ad<|wa rfl (v:=I 1) rfl<|Ae<|Ac<|AI<|AV<|As<|As ?_;have cF:Hp FN [] w [some x] c6:=bL.erase 0;obtain rfl:=Option.some.inj a;refine BD (fun st=>?_);exact .inl ⟨rfl,(1:Int),rfl,qz st,qd st,sp st 2 rfl,cF⟩
              ·replace a:=AG a o;have cT:aP=true:=by simpa using o
               refine Aw rfl rfl (Ab rfl o) rfl (by decide) (fun st=>Ai (ee st rfl) (NT _ _)) ?_;have aQ:=(u.bk.ext aU);refine Aw rfl rfl (Ab rfl o) rfl (by decide) (fun st=>Ap (v:=I d.Cc) AP (ee st rfl) aQ rfl) ?_;replace a:=bind_some a;obtain⟨aR,cG,a⟩:=a;refine Ec rfl rfl (Ab rfl o) rfl (by decide) (fun st=>AX KI (ee st rfl) (FH (ee st rfl) (ee st rfl) (ee st rfl)) (a46 aS d.Cc 1 5 ZA _ aR cG)) ?_;rintro _ c7 ⟨aV,rfl⟩;have bM:=bL.ext aV;refine Aw rfl rfl (Ab rfl o) rfl (by decide) (fun st=>Dl (ee st rfl))<|wd rfl (fun st=>Bd (v:=.bool !aR) (ee st rfl) o (ee st rfl))<|wm rfl (v:=.bool !aR) rfl ?_;rcases Aq (!aR) with g|g
               ·replace a:=AF a g;have cU:aR=false:=by simpa using g
                refine Aj (c:=true) rfl rfl (Ab rfl g) (by decide) rfl (by decide)<|Aj (c:=true) rfl rfl (Ab rfl g) (by decide) rfl (by decide)<|Aj (c:=true) rfl rfl (Ab rfl g) (by decide) rfl (by decide)<|Aj (c:=true) rfl rfl (Ab rfl g) (by decide) rfl (by decide)<|Aj (c:=true) rfl rfl (Ab rfl g) (by decide) rfl (by decide)<|Aj (c:=true) rfl rfl (Ab rfl g) (by decide) rfl (by decide)<|wd rfl (fun st=>AT (v:=.bool true) (ee st rfl) g (ee st rfl))<|Ae<|Ac<|Ay rfl rfl<|Af<|Ad<|wa rfl (v:=I 1) rfl<|Ae<|Ac<|AI<|AV<|As<|As ?_;have cH:Hp FN [] w [some x] c7:=bM.erase 0;obtain rfl:=Option.some.inj a;refine BD (fun st=>?_);exact .inl ⟨rfl,(1:Int),rfl,qz st,qd st,sp st 2 rfl,cH⟩
               ·replace a:=AG a g;have cV:aR=true:=by simpa using g
                refine Aw rfl rfl (Ab rfl g) rfl (by decide) (fun st=>Ai (ee st rfl) (NU _ _)) ?_;have bC:=(aQ.ext aV);refine Aw rfl rfl (Ab rfl g) rfl (by decide) (fun st=>Ap (v:=I d.Ct) AP (ee st rfl) bC rfl)<|Aw rfl rfl (Ab rfl g) rfl (by decide) (fun st=>Ai (ee st t) (DP _ _)) ?_;have a0:=((a8.ext aU).ext aV);refine Aw rfl rfl (Ab rfl g) rfl (by decide) (fun st=>Ap (v:=I b.Am) AP (ee st rfl) a0 rfl) ?_;replace a:=bind_some a;obtain⟨a2,cI,a⟩:=a;refine Ec rfl rfl (Ab rfl g) rfl (by decide) (fun st=>AX KI (ee st rfl) (FH (ee st rfl) (ee st rfl) (ee st rfl)) (a46 aS d.Ct 0 b.Am ZA _ a2 cI)) ?_;rintro _ bN ⟨a5,rfl⟩;have bO:=bM.ext a5;refine Aw rfl rfl (Ab rfl g) rfl (by decide) (fun st=>Dl (ee st rfl))<|wd rfl (fun st=>Bd (v:=.bool !a2) (ee st rfl) g (ee st rfl))<|Ae<|Ac ?_;rcases Aq (!a2) with aF|aF
                ·replace a:=AF a aF;have cW:a2=false:=by simpa using aF
                 refine Ay rfl aF<|Af<|Ad<|wa rfl (v:=I 1) rfl<|Ae<|Ac<|AI<|AV<|As<|As ?_;have cJ:Hp FN [] w [some x] bN:=bO.erase 0;obtain rfl:=Option.some.inj a;refine BD (fun st=>?_);exact .inl ⟨rfl,(1:Int),rfl,qz st,qd st,sp st 2 rfl,cJ⟩
                ·replace a:=AG a aF;have cX:a2=true:=by simpa using aF
                 refine AH rfl aF<|AY<|Bi<|Ac<|Ad<|wm rfl (v:=I r) aI ?_;replace a:=AU a;obtain⟨cK,a⟩:=a;refine wd rfl (fun st=>Bu (ee st rfl) (ee st rfl) cK)<|wa rfl (v:=I (r+1)) rfl<|Ae ?_;have cL:Hp FN [] w [some x] bN:=bO.erase 0;have bP:=(a0.ext a5);have a6:Sl AQ bN (ZZ FN [] Z w.heap.size [some x]) j m b.Ag:=((((((aC.mv (Ax aK)).mv (bJ.AS u.gr 0 rfl)).mv (Ah aU)).mv (Ah aV)).mv (Ah a5)).mv (AB 0));refine Bs b6 (Nat.lt_succ_self _) (fun st=>?_);exact⟨(r+1),a,qz st,qd st,sp st 1 t,sp st 3 rfl,cL,bP,a6⟩
          ·replace a:=AG a aJ;refine AH rfl aJ<|B1<|AK<|AK ?_;obtain rfl:=Option.some.inj a;refine BD (fun st=>?_);exact .inr ⟨rfl,(),rfl,qz st,qd st,sp st 1 t,bI,aD,aC⟩
        case b5=>
         rintro b3 c9 dC (⟨rfl,aH,rfl,aL,aM,bD,aW⟩|⟨rfl,aH,rfl,aL,aM,bE,aW,bF,a3⟩)
         ·skip
          replace a:=EM a;refine Ch (X:=X0) (N:=101) aL aM<|AV<|As ?_;obtain rfl:=Option.some.inj a;refine A3 rfl bD ?_;exact⟨aW.By,rfl⟩
         ·skip
          replace a:=EN a;refine Ch (X:=X0) (N:=101) aL aM<|Bx<|Ac<|Af<|Af<|Ad<|wd rfl (fun st=>Bl (l:=[I b.Am,I b.Ak,I b.Ao,I b.AA,.slice j b.Ag.length m]) F8 (ee st bE) bF rfl rfl) ?_;replace a:=bind_some a;obtain⟨bY,cM,a⟩:=a;refine we rfl (fun st=>AX NV (ee st rfl) (CN (ee st rfl)) (Ur aS b j m ZA _ a3.all bY cM)) ?_;rintro _ dK ⟨cN,rfl⟩;have bQ:=aW.ext cN;refine wd rfl (fun st=>E0 (ee st rfl) (ee st rfl))<|Ae<|Ac ?_;rcases Aq (decide ((1000:Int)<bY)) with aN|aN
          ·replace a:=AF a aN;refine Ay rfl aN<|Af<|Ad<|wa rfl (v:=I 3) rfl<|Ae<|Ac<|AI<|As ?_;obtain rfl:=Option.some.inj a;refine A3 rfl rfl ?_;exact⟨bQ.By,rfl⟩
          ·replace a:=AG a aN;refine AH rfl aN<|AY<|Ac<|Af<|Ad<|wa rfl (v:=I 0) rfl<|Ae<|Ac<|AI ?_;obtain rfl:=Option.some.inj a;refine A3 rfl rfl ?_;exact⟨bQ.By,rfl⟩
theorem VM(p:Nat)(e:Ar)(b:Bb)(h:Option Addr)(j:Nat)(Z:Nat→Prop)(w:World)(x:Sl AQ w Z h j e.Ag)(aO:Bool)(a:E4 p e b=some aO):
 BO Tryz.prog 89 #[.agg #[I e.Am,I e.Ak,I e.Ao,I e.AA,.slice h e.Ag.length j],.agg #[I b.Au,I b.AJ,I b.AM,I b.Cc,I b.Ct]] w (fun v w'=>Ext w w'∧BY.R w' (ZZ FN [] Z w.heap.size []) v aO):=by
 unfold E4 at a;refine Be (N:=27) Tryz.func89 rfl rfl (by simp) ?_;intro aW aH aX;have aI:=AR (i:=0) (v:=.agg #[I e.Am,I e.Ak,I e.Ao,I e.AA,.slice h e.Ag.length j]) aH rfl;have aJ:=AR (i:=1) (v:=.agg #[I b.Au,I b.AJ,I b.AM,I b.Cc,I b.Ct]) aH rfl;clear aH;have aC:Hp FN [] w [] w:=Hp.start (BQ.none w);have aN:=x.mv (Br (Z:=Z) (L:=[]) w);refine Af<|Ad<|we rfl (fun st=>B5 (v:=.agg #[I e.Am,I e.Ak,I e.Ao,I e.AA,.slice h e.Ag.length j]) (cs:= #[I e.Am,I e.Ak,I e.Ao,I e.AA,.slice h e.Ag.length j]) (ee st aI) rfl) ?_;rintro _ w1 ⟨a0,rfl,q⟩;have aD:=aC.nb q;have aU:=aC.BM q;refine we rfl (fun st=>B5 (v:=.agg #[I b.Au,I b.AJ,I b.AM,I b.Cc,I b.Ct]) (cs:= #[I b.Au,I b.AJ,I b.AM,I b.Cc,I b.Ct]) (ee st aJ) rfl) ?_;rintro _ w2 ⟨a2,rfl,k⟩;have aP:=aD.nb k;have aV:=aD.BM k;refine wa rfl (v:=.bool false) rfl<|Ae<|Ac<|Af<|Ad<|wd rfl (fun st=>Ai (ee st rfl) (JW _ _))<|wd rfl (fun st=>Bl (l:=[I b.Au,I b.AJ]) KU (ee st rfl) k.bk rfl rfl)<|wd rfl (fun st=>Ai (ee st rfl) (HG _ _)) ?_;have m:=(q.bk.ext k.gr);refine wd rfl (fun st=>Ap (v:=I e.Am) AP (ee st rfl) m rfl) ?_;replace a:=bind_some a;obtain⟨aK,aQ,a⟩:=a;refine we rfl (fun st=>AX Sv (ee st rfl) (EZ (ee st rfl) (ee st rfl)) (Vo p (⟨b.Au,b.AJ⟩:CB) e.Am ZA _ aK aQ)) ?_;rintro _ a3 ⟨r,rfl⟩;have aE:=aP.ext r;refine wm rfl (v:=.bool aK) rfl ?_;rcases Aq (aK) with f|f
 ·replace a:=AF a f;refine Aw rfl rfl (Ab rfl f) rfl (by decide) (fun st=>Ai (ee st rfl) (HA _ _)) ?_;have n:=(k.bk.ext r);refine Aw rfl rfl (Ab rfl f) rfl (by decide) (fun st=>Ap (v:=I b.AM) AP (ee st rfl) n rfl) ?_;replace a:=bind_some a;obtain⟨y,aR,a⟩:=a;refine Ec rfl rfl (Ab rfl f) rfl (by decide) (fun st=>AX OK (ee st rfl) (CN (ee st rfl)) (a141 p b.AM ZA _ y aR)) ?_;rintro _ a4 ⟨s,rfl⟩;have aF:=aE.ext s;refine wd rfl (fun st=>AT (v:=.bool y) (ee st rfl) f (ee st rfl))<|wm rfl (v:=.bool y) rfl ?_;rcases Aq (y) with g|g
  ·replace a:=AF a g;refine Aw rfl rfl (Ab rfl g) rfl (by decide) (fun st=>Ai (ee st rfl) (Ll _ _)) ?_;have o:=(n.ext s);refine Aw rfl rfl (Ab rfl g) rfl (by decide) (fun st=>Ap (v:=I b.Cc) AP (ee st rfl) o rfl) ?_;replace a:=bind_some a;obtain⟨z,aS,a⟩:=a;refine Ec rfl rfl (Ab rfl g) rfl (by decide) (fun st=>AX OK (ee st rfl) (CN (ee st rfl)) (a141 p b.Cc ZA _ z aS)) ?_;rintro _ aY ⟨t,rfl⟩;have aG:=aF.ext t;refine wd rfl (fun st=>AT (v:=.bool z) (ee st rfl) g (ee st rfl))<|wm rfl (v:=.bool z) rfl ?_;rcases Aq (z) with d|d
   ·replace a:=AF a d;refine Aw rfl rfl (Ab rfl d) rfl (by decide) (fun st=>Ai (ee st rfl) (NO _ _)) ?_;have aA:=(o.ext t);refine Aw rfl rfl (Ab rfl d) rfl (by decide) (fun st=>Ap (v:=I b.Ct) AP (ee st rfl) aA rfl)<|Aw rfl rfl (Ab rfl d) rfl (by decide) (fun st=>Ai (ee st rfl) (HG _ _)) ?_;have aB:=(((m.ext r).ext s).ext t);refine Aw rfl rfl (Ab rfl d) rfl (by decide) (fun st=>Ap (v:=I e.Am) AP (ee st rfl) aB rfl) ?_;replace a:=bind_some a;obtain⟨u,aL,a⟩:=a;refine Ec rfl rfl (Ab rfl d) rfl (by decide) (fun st=>AX Jo (ee st rfl) (FH (ee st rfl) (ee st rfl) (ee st rfl)) (OZ p b.Ct 0 e.Am ZA _ u aL)) ?_;rintro _ aZ ⟨aM,rfl⟩;have aT:=aG.ext aM;refine wd rfl (fun st=>AT (v:=.bool u) (ee st rfl) d (ee st rfl))<|wa rfl (v:=.bool u) rfl<|Ae<|Ac<|AI ?_;obtain rfl:=Option.some.inj a;refine A3 rfl rfl ?_;exact⟨aT.By,rfl⟩
   ·replace a:=AG a d;refine Aj (c:=false) rfl rfl (Ab rfl d) (by decide) rfl (by decide)<|Aj (c:=false) rfl rfl (Ab rfl d) (by decide) rfl (by decide)<|Aj (c:=false) rfl rfl (Ab rfl d) (by decide) rfl (by decide)<|Aj (c:=false) rfl rfl (Ab rfl d) (by decide) rfl (by decide)<|Aj (c:=false) rfl rfl (Ab rfl d) (by decide) rfl (by decide)<|wd rfl (fun st=>Bd (v:=.bool false) (ee st rfl) d (ee st rfl))<|wa rfl (v:=.bool false) rfl<|Ae<|Ac<|AI ?_;obtain rfl:=Option.some.inj a;refine A3 rfl rfl ?_;exact⟨aG.By,rfl⟩
  ·replace a:=AG a g;refine Aj (c:=false) rfl rfl (Ab rfl g) (by decide) rfl (by decide)<|Aj (c:=false) rfl rfl (Ab rfl g) (by decide) rfl (by decide)<|Aj (c:=false) rfl rfl (Ab rfl g) (by decide) rfl (by decide)<|wd rfl (fun st=>Bd (v:=.bool false) (ee st rfl) g (ee st rfl))<|wm rfl (v:=.bool false) rfl<|Aj rfl rfl rfl (by decide) rfl (by decide)<|Aj rfl rfl rfl (by decide) rfl (by decide)<|Aj rfl rfl rfl (by decide) rfl (by decide)<|Aj rfl rfl rfl (by decide) rfl (by decide)<|Aj rfl rfl rfl (by decide) rfl (by decide)<|wd rfl (fun st=>Bd (v:=.bool false) (ee st rfl) rfl (ee st rfl))<|wa rfl (v:=.bool false) rfl<|Ae<|Ac<|AI ?_;obtain rfl:=Option.some.inj a;refine A3 rfl rfl ?_;exact⟨aF.By,rfl⟩
 ·replace a:=AG a f;refine Aj (c:=false) rfl rfl (Ab rfl f) (by decide) rfl (by decide)<|Aj (c:=false) rfl rfl (Ab rfl f) (by decide) rfl (by decide)<|Aj (c:=false) rfl rfl (Ab rfl f) (by decide) rfl (by decide)<|wd rfl (fun st=>Bd (v:=.bool false) (ee st rfl) f (ee st rfl))<|wm rfl (v:=.bool false) rfl<|Aj rfl rfl rfl (by decide) rfl (by decide)<|Aj rfl rfl rfl (by decide) rfl (by decide)<|Aj rfl rfl rfl (by decide) rfl (by decide)<|wd rfl (fun st=>Bd (v:=.bool false) (ee st rfl) rfl (ee st rfl))<|wm rfl (v:=.bool false) rfl<|Aj rfl rfl rfl (by decide) rfl (by decide)<|Aj rfl rfl rfl (by decide) rfl (by decide)<|Aj rfl rfl rfl (by decide) rfl (by decide)<|Aj rfl rfl rfl (by decide) rfl (by decide)<|Aj rfl rfl rfl (by decide) rfl (by decide)<|wd rfl (fun st=>Bd (v:=.bool false) (ee st rfl) rfl (ee st rfl))<|wa rfl (v:=.bool false) rfl<|Ae<|Ac<|AI ?_;obtain rfl:=Option.some.inj a;refine A3 rfl rfl ?_;exact⟨aE.By,rfl⟩
theorem VN(aT:Nat)(h:List Int)(n:List Int)(c:Option Addr)(d:Nat)(f:Option Addr)(g:Nat)(Z:Nat→Prop)(w:World)(aJ:Sl (Az .i64) w Z c d h)(aK:Sl (Az .i64) w Z f g n)(aU:Bool)(a:FB aT h n=some aU):
 BO Tryz.prog 55 #[.slice c h.length d,.slice f n.length g] w (fun v w'=>Ext w w'∧BY.R w' (ZZ FN [] Z w.heap.size []) v aU):=by
 unfold FB at a;refine Be (N:=26) Tryz.func55 rfl rfl (by simp) ?_;intro bI aO bJ;have aF:=AR (i:=0) (v:=.slice c h.length d) aO rfl;have aG:=AR (i:=1) (v:=.slice f n.length g) aO rfl;clear aO;have aL:Hp FN [] w [] w:=Hp.start (BQ.none w);have aA:=aJ.mv (Br (Z:=Z) (L:=[]) w);have aB:=aK.mv (Br (Z:=Z) (L:=[]) w);refine Af<|Ad<|wa rfl (v:=.bool false) rfl<|Ae<|Ac<|Af<|Af<|Ad<|wm rfl (v:=.slice c h.length d) aF<|wd rfl (fun st=>BX Tryz.underlying23 (ee st rfl))<|wm rfl (v:=.slice f n.length g) aG<|wd rfl (fun st=>BX Tryz.underlying23 (ee st rfl))<|wd rfl (fun st=>Ev (ee st rfl) (ee st rfl))<|Ae<|Ac ?_;rcases Aq ((h.length:Int) !=(n.length:Int)) with t|t
 ·replace a:=AF a t;refine Ay rfl t<|Af<|Ad<|wa rfl (v:=.bool false) rfl<|Ae<|Ac<|AI<|As ?_;obtain rfl:=Option.some.inj a;refine A3 rfl rfl ?_;exact⟨aL.By,rfl⟩
 ·replace a:=AG a t;refine AH rfl t<|AY<|Ac<|Af<|Af<|Ad<|wa rfl (v:=I 0) rfl<|Ae<|Ac<|Ba ?_;replace a:=bind_some a;obtain⟨z2,o,a⟩:=a;refine Ce (fun aP e aC=>(aP=.ret∧∃p,z2=.inl p∧e.tmps.size=26∧e.defers=(X0).ds∧sl e 4=.bool p∧Hp FN [] w [] aC)∨(aP=.exit 0∧∃p,z2=.inr p∧e.tmps.size=26∧e.defers=(X0).ds∧Hp FN [] w [] aC)) ?aV ?aW
  case aV=>
   clear a;refine Cd (fun(aQ:Nat) (e:Act) (aC:World)=>∃b,DL h n aQ b=some z2∧e.tmps.size=26∧e.defers=(X0).ds∧sl e 0=.slice c h.length d∧sl e 1=.slice f n.length g∧sl e 5=I b∧Hp FN [] w [] aC∧Sl (Az .i64) aC (ZZ FN [] Z w.heap.size []) c d h∧Sl (Az .i64) aC (ZZ FN [] Z w.heap.size []) f g n) aT ?aX ?aY
   case aX=>
    intro st;exact⟨(0:Int),o,qz st,qd st,sp st 0 aF,sp st 1 aG,sp st 5 rfl,aL,aA,aB⟩
   case aY=>
    rintro(_|aQ) bK bL ⟨b,o,aR,aS,q,z,j,aM,l,m⟩
    ·exact absurd (show none=some _ from o) (by simp)
    rw[DL.eq_2] at o;have a:=o;clear o;refine B2 (N:=26) aR aS<|Af<|Af<|Ad<|wm rfl (v:=I b) j<|wm rfl (v:=.slice c h.length d) q<|wd rfl (fun st=>BX Tryz.underlying23 (ee st rfl))<|wd rfl (fun st=>Cq (ee st rfl) (ee st rfl))<|Ae<|Ac ?_;rcases Aq (decide (b<(h.length:Int))) with u|u
    ·replace a:=AF a u;refine Ay rfl u<|AY<|Ac<|Af<|Ba<|Af ?_;replace a:=Bt a;obtain⟨i5,aZ,a0,a2,a3,a⟩:=a;obtain⟨bD,bE,_,a4,rfl,a5⟩:=Sl.Ed l rfl a2;replace a:=Bt a;obtain⟨i6,a6,a7,a8,a9,a⟩:=a;obtain⟨bF,bG,_,bA,rfl,bB⟩:=Sl.Ed m rfl a8;refine B3 8 [Kc (.slice c h.length d),Kc (I b),Kc (pt bD (bE+i5)),Kc (I aZ),Kc (.slice f n.length g),Kc (I b),Kc (pt bF (bG+i6)),Kc (I a6)] mixed rfl rfl
         (Aa (od rfl (fun _=>rfl) (fun K=>AN (es ((K.out 0 rfl).trans q))))
         (Aa (od rfl (fun _=>rfl) (fun K=>AN (es ((K.out 5 rfl).trans j))))
         (Aa (od rfl (fun _=>rfl) (fun K=>Bv (k:=i5) Tryz.underlying23 C8 (es (K.An 0 17 rfl rfl)) a4 (es (K.An 1 18 rfl rfl)) a0 a3))
         (Aa (od rfl (fun _=>rfl) (fun K=>BU AP (es (K.An 2 19 rfl rfl)) (a5.mv (Ah K.Bc)) rfl))
         (Aa (od rfl (fun _=>rfl) (fun K=>AN (es ((K.out 1 rfl).trans z))))
         (Aa (od rfl (fun _=>rfl) (fun K=>AN (es ((K.out 5 rfl).trans j))))
         (Aa (od rfl (fun _=>rfl) (fun K=>Bv (k:=i6) Tryz.underlying23 C8 (es (K.An 4 21 rfl rfl)) bA (es (K.An 5 22 rfl rfl)) a7 a9))
         (Aa (od rfl (fun _=>rfl) (fun K=>BU AP (es (K.An 6 23 rfl rfl)) (bB.mv (Ah K.Bc)) rfl))
         (BI _))))))))) ?_
     intro bN;rintro _ rfl _ rfl _ rfl _ rfl _ rfl _ rfl _ rfl _ rfl aH;have aN:=aM.ext aH;refine wd rfl (fun st=>Ev (ee st rfl) (ee st rfl))<|Ae<|Ac ?_;rcases Aq (aZ !=a6) with x|x
     ·replace a:=AF a x;refine Ay rfl x<|Af<|Ad<|wa rfl (v:=.bool false) rfl<|Ae<|Ac<|AI<|AV<|As<|As ?_;obtain rfl:=Option.some.inj a;refine BD (fun st=>?_);exact .inl ⟨rfl,false,rfl,qz st,qd st,sp st 4 rfl,aN⟩
     ·replace a:=AG a x;refine AH rfl x<|AY<|Bi<|Ac<|Ad<|wm rfl (v:=I b) j ?_;replace a:=AU a;obtain⟨bC,a⟩:=a;refine wd rfl (fun st=>Bu (ee st rfl) (ee st rfl) bC)<|wa rfl (v:=I (b+1)) rfl<|Ae ?_;have aD:=(l.mv (Ah aH));have aE:=(m.mv (Ah aH));refine Bs aQ (Nat.lt_succ_self _) (fun st=>?_);exact⟨(b+1),a,qz st,qd st,sp st 0 q,sp st 1 z,sp st 5 rfl,aN,aD,aE⟩
    ·replace a:=AG a u;refine AH rfl u<|B1<|AK<|AK ?_;obtain rfl:=Option.some.inj a;refine BD (fun st=>?_);exact .inr ⟨rfl,(),rfl,qz st,qd st,aM⟩
  case aW=>
   rintro aP bH bM (⟨rfl,p,rfl,r,s,aI,y⟩|⟨rfl,p,rfl,r,s,y⟩)
   ·skip
    replace a:=EM a;refine Ch (X:=X0) (N:=26) r s<|AV<|As ?_;obtain rfl:=Option.some.inj a;refine A3 rfl aI ?_;exact⟨y.By,rfl⟩
   ·skip
    replace a:=EN a;refine Ch (X:=X0) (N:=26) r s<|Bx<|Ac<|Af<|Ad<|wa rfl (v:=.bool true) rfl<|Ae<|Ac<|AI ?_;obtain rfl:=Option.some.inj a;refine A3 rfl rfl ?_;exact⟨y.By,rfl⟩
theorem LZ(y:Nat)(a:Int)(Z:Nat→Prop)(w:World)(s:Ar)(t:CF y a=some s):
 BO Tryz.prog 82 #[I a] w (fun v w'=>Ext w w'∧(Df HP).R w' (ZZ FN [] Z w.heap.size []) v s):=by
 unfold CF at t;refine Be (N:=9) Tryz.func82 rfl rfl (by simp) ?_;intro z u aA;have r:=AR (i:=0) (v:=I a) u rfl;clear u;have m:Hp FN [] w [] w:=Hp.start (BQ.none w);refine Af<|Ad<|we rfl (fun st=>BP (cs:= #[I 0,I 0,I 0,I 0,.slice none 0 0]) Mg rfl) ?_;rintro _ w1 ⟨aB,rfl,c⟩;have o:=m.nb c;have x:=m.BM c;refine Ae<|Ac<|Af<|Ad<|wm rfl (v:=I a) r<|wd rfl (fun st=>C4 (vs:= #[(1,I 2),(2,I 2),(3,I 2)]) (v:=.agg #[I 0,I 0,I 2,I 2,I 2]) (J5 (ee st rfl) (ee st rfl) (ee st rfl)) (by kernel_rfl))<|wd rfl (fun st=>C4 (vs:= #[(0,I 1),(1,I 1)]) (v:=.agg #[I 1,I 1]) (IB (ee st rfl) (ee st rfl)) (by kernel_rfl))<|wd rfl (fun st=>C4 (vs:= #[(0,.agg #[I 1,I 1]),(1,I 2),(2,I 1),(3,I 5)]) (v:=.agg #[I 1,I 1,I 2,I 1,I 5]) (Ti (ee st rfl) (ee st rfl) (ee st rfl) (ee st rfl)) (by kernel_rfl))<|we rfl (fun st=>BK (e:=156) (vs:= #[(0,.agg #[I 0,I 0,I 2,I 2,I 2]),(1,.agg #[I 1,I 1,I 2,I 1,I 5])]) (cs:= #[I 0,I 0,I 2,I 2,I 2,I 1,I 1,I 2,I 1,I 5]) (IB (ee st rfl) (ee st rfl)) (by kernel_rfl)) ?_;rintro _ w2 ⟨d,rfl,b⟩;have p:=o.nb b;have g:=o.BM b;refine wd rfl (fun st=>C4 (vs:= #[(0,I 5),(1,I 1),(2,I a),(3,I 1),(4,.slice (some ⟨d,0,none⟩) 2 2)]) (v:=.agg #[I 5,I 1,I a,I 1,.slice (some ⟨d,0,none⟩) 2 2]) (VH (ee st rfl) (ee st rfl) (ee st rfl) (ee st rfl) (ee st rfl)) (by kernel_rfl)) ?_;have j:=(c.bk.ext b.gr);refine Bq rfl rfl (fun st=>Bg (n:=5) (l:=[I 5,I 1,I a,I 1,.slice (some ⟨d,0,none⟩) 2 2]) (Ci:= #[I 5,I 1,I a,I 1,.slice (some ⟨d,0,none⟩) 2 2]) (ee st rfl) (ee st rfl) PE j rfl rfl (show 0+5≤5 by decide) (AW rfl) rfl) ?_;rintro _ aC f;have q:=p.gr f.gr 1 rfl;refine Ae<|Ac<|AI ?_;obtain rfl:=Option.some.inj t;refine FY (v:=.agg #[I 5,I 1,I a,I 1,.slice (some ⟨d,0,none⟩) 2 2]) rfl rfl (CH CO f.bk rfl rfl) ?_;have k:=(b.bk.gr f.gr (p.ne 0 1 rfl rfl rfl));exact⟨q.By,⟨_,rfl,_,_,rfl,Gu (e:=AQ) (xs:=[(⟨0,0,2,2,2⟩:Bb),(⟨1,1,2,1,5⟩:Bb)]) (Bh:=[[I 0,I 0,I 2,I 2,I 2],[I 1,I 1,I 2,I 1,I 5]]) k (.inr ⟨g,fun hm=>q.BB (F':=FN) (M:=[]) 0 rfl [] rfl trivial (fun _ h=>h.elim) (.inr hm)⟩) ⟨rfl,rfl,trivial⟩ rfl (Nat.le_refl _)⟩⟩
theorem VO(bA:Nat)(b:Int)(Z:Nat→Prop)(w:World)(aX:AZ)(j:Gv bA b=some aX):
 BO Tryz.prog 83 #[I b] w (fun v w'=>Ext w w'∧(Df E9).R w' (ZZ FN [] Z w.heap.size []) v aX):=by
 unfold Gv at j;refine Be (N:=12) Tryz.func83 rfl rfl (by simp) ?_;intro bH aY bI;have aQ:=AR (i:=0) (v:=I b) aY rfl;clear aY;have aI:Hp FN [] w [] w:=Hp.start (BQ.none w);refine Af<|Ad<|we rfl (fun st=>BP (cs:= #[.slice none 0 0,.slice none 0 0]) G3 rfl) ?_;rintro _ w1 ⟨t,rfl,u⟩;have aJ:=aI.nb u;have a7:=aI.BM u;refine Ae<|Ac<|Af<|Ad<|we rfl (fun st=>BK (e:=3) (vs:= #[(0,I 0),(1,I 1)]) (cs:= #[I 0,I 1]) (IB (ee st rfl) (ee st rfl)) (by kernel_rfl)) ?_;rintro _ w2 ⟨c,rfl,q⟩;have x:=aJ.nb q;have aD:=aJ.BM q;replace j:=Hs j;obtain⟨aZ,j⟩:=j;refine we rfl (fun st=>HX (e:=Bo) (z:=false) (zc:=[.bool false]) (n0:=w.heap.size) (b':=1) Tryz.underlying65 KJ rfl rfl (ee st rfl) (ee st rfl) aZ (fun _ _=>rfl) x.sz (by decide)) ?_;rintro _ a0 ⟨a,rfl,aK,aR,y,aS⟩;have aL:Hp FN [] w [some a,some c,some t] a0:=x.new y aK aR;have a8:w.heap.size≤a:=Nat.le_trans x.sz aK;have a2:AL Bo 4 w.heap.size a0 (ZZ FN [] Z w.heap.size [some a,some c,some t]) (some ⟨a,0,none⟩) ((6:Int).toNat) (List.replicate (6:Int).toNat false):=aS _;refine wd rfl (fun st=>C4 (vs:= #[(0,.slice (some ⟨c,0,none⟩) 2 2),(1,.slice (some ⟨a,0,none⟩) ((List.replicate (6:Int).toNat false).length) ((6:Int).toNat))]) (v:=.agg #[.slice (some ⟨c,0,none⟩) 2 2,.slice (some ⟨a,0,none⟩) ((List.replicate (6:Int).toNat false).length) ((6:Int).toNat)]) (IB (ee st rfl) (ee st rfl)) (by kernel_rfl))<|we rfl (fun st=>BP (cs:= #[.slice none 0 0,.slice none 0 0]) G3 rfl) ?_;rintro _ bK ⟨aE,rfl,d⟩;have m:=aL.nb d;have a9:=aL.BM d;refine Bq rfl rfl (fun st=>Bg (n:=2) (l:=[.slice (some ⟨c,0,none⟩) 2 2,.slice (some ⟨a,0,none⟩) ((List.replicate (6:Int).toNat false).length) ((6:Int).toNat)]) (Ci:= #[.slice (some ⟨c,0,none⟩) 2 2,.slice (some ⟨a,0,none⟩) ((List.replicate (6:Int).toNat false).length) ((6:Int).toNat)]) (ee st rfl) (ee st rfl) G7 d.bk rfl rfl (show 0+2≤2 by decide) (AW rfl) rfl) ?_;rintro _ bB f;have o:=m.gr f.gr 0 rfl;refine Ae<|Ac<|Af<|Ad<|wd rfl (fun st=>Ai (ee st rfl) (HH _ _))<|wd rfl (fun st=>Ap (v:=.slice (some ⟨a,0,none⟩) ((List.replicate (6:Int).toNat false).length) ((6:Int).toNat)) FG (ee st rfl) f.bk rfl)<|wm rfl (v:=I b) aQ ?_;replace j:=Bt j;obtain⟨i7,bL,aM,aN,aA,j⟩:=j;have r:AL Bo 4 w.heap.size bB (ZZ FN [] Z w.heap.size [some aE,some a,some c,some t]) (some ⟨a,0,none⟩) ((6:Int).toNat) (List.replicate (6:Int).toNat false):=((a2.ext d.gr (Ax d)).gr f.gr (fun k aT=>m.ne 1 0 rfl (congrArg some aT) rfl) (m.AS f.gr 0 rfl));obtain⟨bM,bN,_,aO,rfl,bJ⟩:=Sl.Ed r.all rfl aN;refine wd rfl (fun st=>Bv (k:=i7) Tryz.underlying65 If (ee st rfl) aO (ee st rfl) aM aA) ?_;have aP:b.toNat=i7:=by rw[aM,Int.toNat_natCast]
 refine Bq rfl rfl (fun st=>Gj (k:=i7) (z':=true) (l:=[.bool true]) r aN aO rfl (ee st rfl) (ee st rfl) If rfl rfl (AW rfl) rfl) ?_;rintro _ a3 ⟨p,a4⟩;have s:=o.gr p 1 rfl;have aU:AL Bo 4 w.heap.size a3 (ZZ FN [] Z w.heap.size [some aE,some a,some c,some t]) (some ⟨a,0,none⟩) ((6:Int).toNat) ((List.replicate (6:Int).toNat false).set b.toNat true):=by rw[show(List.replicate (6:Int).toNat false).set b.toNat true=(List.replicate (6:Int).toNat false).set i7 true from congrArg (fun aV=>(List.replicate (6:Int).toNat false).set aV true) aP];exact Gr a4 (o.AS p 1 rfl)
 have bC:((List.replicate (6:Int).toNat false).set b.toNat true)[i7]?=some true:=by rw[show(List.replicate (6:Int).toNat false).set b.toNat true=(List.replicate (6:Int).toNat false).set i7 true from congrArg (fun aV=>(List.replicate (6:Int).toNat false).set aV true) aP];exact List.getElem?_set_self aA
 have bD:i7<((List.replicate (6:Int).toNat false).set b.toNat true).length:=by rw[List.length_set];exact aA
 have bE:(.slice (some ⟨a,0,none⟩) ((List.replicate (6:Int).toNat false).length) ((6:Int).toNat):Value)=.slice (some ⟨a,0,none⟩) (((List.replicate (6:Int).toNat false).set b.toNat true).length) ((6:Int).toNat):=by simp only[List.length_set]
 have bF:(.agg #[.slice (some ⟨c,0,none⟩) 2 2,.slice (some ⟨a,0,none⟩) ((List.replicate (6:Int).toNat false).length) ((6:Int).toNat)]:Value)=.agg #[.slice (some ⟨c,0,none⟩) 2 2,.slice (some ⟨a,0,none⟩) (((List.replicate (6:Int).toNat false).set b.toNat true).length) ((6:Int).toNat)]:=by simp only[List.length_set]
 have bG:(.slice (some ⟨a,0,none⟩) ((List.replicate (6:Int).toNat false).length) ((6:Int).toNat):Value)=.slice (some ⟨a,0,none⟩) (((List.replicate (6:Int).toNat false).set b.toNat true).length) ((6:Int).toNat):=by simp only[List.length_set]
 have aF:=(f.bk.gr p (o.ne 0 1 rfl rfl rfl));have aW:Bk a3 aE 78 #[.slice (some ⟨c,0,none⟩) 2 2,.slice (some ⟨a,0,none⟩) (((List.replicate (6:Int).toNat false).set b.toNat true).length) ((6:Int).toNat)]:=by have a5:=aF;simp only[List.length_set] at a5⊢;exact a5
 refine Ae<|Ac<|Af<|Ad<|wd rfl (fun st=>Bl (l:=[.slice (some ⟨c,0,none⟩) 2 2,.slice (some ⟨a,0,none⟩) (((List.replicate (6:Int).toNat false).set b.toNat true).length) ((6:Int).toNat)]) F9 (ee st rfl) aW rfl rfl) ?_;have aG:=(((((u.bk.ext q.gr).ext y).ext d.gr).gr f.gr (m.ne 3 0 rfl rfl rfl)).gr p (o.ne 3 1 rfl rfl rfl));refine Bq rfl rfl (fun st=>Bg (n:=2) (l:=[.slice (some ⟨c,0,none⟩) 2 2,.slice (some ⟨a,0,none⟩) (((List.replicate (6:Int).toNat false).set b.toNat true).length) ((6:Int).toNat)]) (Ci:= #[.slice (some ⟨c,0,none⟩) 2 2,.slice (some ⟨a,0,none⟩) (((List.replicate (6:Int).toNat false).set b.toNat true).length) ((6:Int).toNat)]) (ee st rfl) (ee st rfl) G7 aG rfl rfl (show 0+2≤2 by decide) (AW rfl) rfl) ?_;rintro _ a6 g;have aB:=s.gr g.gr 3 rfl;refine Ae<|Ac<|AI ?_;obtain rfl:=Option.some.inj j;refine FY (v:=.agg #[.slice (some ⟨c,0,none⟩) 2 2,.slice (some ⟨a,0,none⟩) (((List.replicate (6:Int).toNat false).set b.toNat true).length) ((6:Int).toNat)]) rfl rfl (CH F9 g.bk rfl rfl) ?_;have aH:=(((((q.bk.ext y).ext d.gr).gr f.gr (m.ne 2 0 rfl rfl rfl)).gr p (o.ne 2 1 rfl rfl rfl)).gr g.gr (s.ne 2 3 rfl rfl rfl));have aC:AL Bo 4 w.heap.size a6 (ZZ FN [] Z w.heap.size [some aE,some a,some c,some t]) (some ⟨a,0,none⟩) ((6:Int).toNat) ((List.replicate (6:Int).toNat false).set b.toNat true):=(aU.gr g.gr (fun k aT=>s.ne 1 3 rfl (congrArg some aT) rfl) (s.AS g.gr 3 rfl));exact⟨aB.By,⟨_,rfl,_,_,_,_,rfl,Gu (e:=(Az .i64)) (xs:=[0,1]) (Bh:=[[I 0],[I 1]]) aH (.inr ⟨aD,fun hm=>aB.BB (F':=FN) (M:=[]) 2 rfl [] rfl trivial (fun _ h=>h.elim) (.inr hm)⟩) ⟨rfl,rfl,trivial⟩ rfl (Nat.le_refl _),aB.II (M:=[]) 1 rfl [] rfl trivial aC⟩⟩
theorem VP(aX:Nat)(g:List Av)(a:Av)(e:Av)(j:Option Addr)(m:Nat)(Z:Nat→Prop)(w:World)(y:Sl BW w Z j m g)(aI:Bool)(h:Gw aX g a e=some aI):
 BO Tryz.prog 84 #[.slice j g.length m,.agg #[I a.On,I a.AD,.bool a.AM],.agg #[I e.On,I e.AD,.bool e.AM]] w (fun v w'=>Ext w w'∧BY.R w' (ZZ FN [] Z w.heap.size []) v aI):=by
 unfold Gw at h;refine Be (N:=24) Tryz.func84 rfl rfl (by simp) ?_;intro a0 z a2;have o:=AR (i:=0) (v:=.slice j g.length m) z rfl;have aG:=AR (i:=1) (v:=.agg #[I a.On,I a.AD,.bool a.AM]) z rfl;have aH:=AR (i:=2) (v:=.agg #[I e.On,I e.AD,.bool e.AM]) z rfl;clear z;have aA:Hp FN [] w [] w:=Hp.start (BQ.none w);have u:=y.mv (Br (Z:=Z) (L:=[]) w);refine Af<|Ad<|we rfl (fun st=>B5 (v:=.agg #[I a.On,I a.AD,.bool a.AM]) (cs:= #[I a.On,I a.AD,.bool a.AM]) (ee st aG) rfl) ?_;rintro _ w1 ⟨a3,rfl,s⟩;have aB:=aA.nb s;have aV:=aA.BM s;refine we rfl (fun st=>B5 (v:=.agg #[I e.On,I e.AD,.bool e.AM]) (cs:= #[I e.On,I e.AD,.bool e.AM]) (ee st aH) rfl) ?_;rintro _ w2 ⟨a4,rfl,q⟩;have x:=aB.nb q;have aW:=aB.BM q;refine wa rfl (v:=.bool false) rfl<|Ae<|Ac<|Af ?_;rcases Aq ((g.length:Int)==2) with d|d
 ·replace h:=AF h d;replace h:=Bt h;obtain⟨i5,b,aC,aJ,aD,h⟩:=h;have p:=((u.mv (Ax s)).mv (Ax q));obtain⟨aK,aL,_,aE,rfl,aF⟩:=Sl.elem p (by decide) aJ;have t:=(s.bk.ext q.gr);rcases Aq (HM [.inl b.On,.inl b.AD,.inr b.AM] [.inl a.On,.inl a.AD,.inr a.AM]) with f|f
  ·replace h:=AF h f;replace h:=Bt h;obtain⟨i7,n,aM,aN,aO,h⟩:=h;obtain⟨aY,aZ,_,aP,rfl,aQ⟩:=Sl.elem p (by decide) aN;refine B3 15 [Kc (.slice j g.length m),Kc (I (g.length:Int)),Kc (.bool ((g.length:Int)==2)),Kc (.bool ((g.length:Int)==2)),Kc (.slice j g.length m),Kc (pt aK (aL+i5*3)),Kc (.agg #[I b.On,I b.AD,.bool b.AM]),Kc (.agg #[I a.On,I a.AD,.bool a.AM]),Kc (.bool (HM [.inl b.On,.inl b.AD,.inr b.AM] [.inl a.On,.inl a.AD,.inr a.AM])),Kc (.bool (HM [.inl b.On,.inl b.AD,.inr b.AM] [.inl a.On,.inl a.AD,.inr a.AM])),Kc (.bool (HM [.inl b.On,.inl b.AD,.inr b.AM] [.inl a.On,.inl a.AD,.inr a.AM])),Kc (.slice j g.length m),Kc (pt aY (aZ+i7*3)),Kc (.agg #[I n.On,I n.AD,.bool n.AM]),Kc (.agg #[I e.On,I e.AD,.bool e.AM])] mixed rfl rfl
       (Aa (od rfl (fun _=>rfl) (fun K=>AN (es ((K.out 0 rfl).trans o))))
       (Aa (od rfl (fun _=>rfl) (fun K=>BX Tryz.underlying70 (es (K.An 0 7 rfl rfl))))
       (Aa (od rfl (fun _=>rfl) (fun K=>CP (es (K.An 1 8 rfl rfl)) (ec (v:=I 2))))
       (Aa (od rfl (fun _=>rfl) (fun K=>AN (es (K.An 2 9 rfl rfl))))
       (Aa (AE rfl rfl rfl (fun _=>rfl) (fun a' w' ph K=>Ab (K.An 3 10 rfl rfl) d) (fun a' w' ph K=>AN (es ((K.out 0 rfl).trans o))))
       (Aa (AE rfl rfl rfl (fun _=>rfl) (fun a' w' ph K=>Ab (K.An 3 10 rfl rfl) d) (fun a' w' ph K=>Cf (k:=i5) Tryz.underlying70 El (es (K.An 4 11 rfl rfl)) aE (ec (v:=I 0)) aC aD))
       (Aa (AE rfl rfl rfl (fun _=>rfl) (fun a' w' ph K=>Ab (K.An 3 10 rfl rfl) d) (fun a' w' ph K=>Dp (l:=[I b.On,I b.AD,.bool b.AM]) DU (es (K.An 5 12 rfl rfl)) (aF.mv (Ah K.Bc)) rfl rfl))
       (Aa (AE rfl rfl rfl (fun _=>rfl) (fun a' w' ph K=>Ab (K.An 3 10 rfl rfl) d) (fun a' w' ph K=>Bl (l:=[I a.On,I a.AD,.bool a.AM]) DU (es ((K.out 4 rfl).trans rfl)) (t.ext K.Bc) rfl rfl))
       (Aa (AE rfl rfl rfl (fun _=>rfl) (fun a' w' ph K=>Ab (K.An 3 10 rfl rfl) d) (fun a' w' ph K=>Pg (x1:=[.inl b.On,.inl b.AD,.inr b.AM]) (x2:=[.inl a.On,.inl a.AD,.inr a.AM]) Lm Mh (es (K.An 6 13 rfl rfl)) (es (K.An 7 14 rfl rfl)) rfl rfl rfl rfl))
       (Aa (od rfl (fun _=>rfl) (fun K=>AT (es (K.An 3 10 rfl rfl)) d (es (K.An 8 15 rfl rfl))))
       (Aa (od rfl (fun _=>rfl) (fun K=>AN (es (K.An 9 16 rfl rfl))))
       (Aa (AE rfl rfl rfl (fun _=>rfl) (fun a' w' ph K=>Ab (K.An 10 17 rfl rfl) f) (fun a' w' ph K=>AN (es ((K.out 0 rfl).trans o))))
       (Aa (AE rfl rfl rfl (fun _=>rfl) (fun a' w' ph K=>Ab (K.An 10 17 rfl rfl) f) (fun a' w' ph K=>Cf (k:=i7) Tryz.underlying70 El (es (K.An 11 18 rfl rfl)) aP (ec (v:=I 1)) aM aO))
       (Aa (AE rfl rfl rfl (fun _=>rfl) (fun a' w' ph K=>Ab (K.An 10 17 rfl rfl) f) (fun a' w' ph K=>Dp (l:=[I n.On,I n.AD,.bool n.AM]) DU (es (K.An 12 19 rfl rfl)) (aQ.mv (Ah K.Bc)) rfl rfl))
       (Aa (AE rfl rfl rfl (fun _=>rfl) (fun a' w' ph K=>Ab (K.An 10 17 rfl rfl) f) (fun a' w' ph K=>Bl (l:=[I e.On,I e.AD,.bool e.AM]) DU (es ((K.out 5 rfl).trans rfl)) (q.bk.ext K.Bc) rfl rfl))
       (BI _)))))))))))))))) ?_
   intro aR;rintro _ rfl _ rfl _ rfl _ rfl _ rfl _ rfl _ rfl _ rfl _ rfl _ rfl _ rfl _ rfl _ rfl _ rfl _ rfl r;have aS:=x.ext r;refine Aw rfl rfl (Ab rfl f) rfl (by decide) (fun st=>Pg (x1:=[.inl n.On,.inl n.AD,.inr n.AM]) (x2:=[.inl e.On,.inl e.AD,.inr e.AM]) Lm Mh (ee st rfl) (ee st rfl) rfl rfl rfl rfl)<|wd rfl (fun st=>AT (v:=.bool (HM [.inl n.On,.inl n.AD,.inr n.AM] [.inl e.On,.inl e.AD,.inr e.AM])) (ee st rfl) f (ee st rfl))<|wa rfl (v:=.bool (HM [.inl n.On,.inl n.AD,.inr n.AM] [.inl e.On,.inl e.AD,.inr e.AM])) rfl<|Ae<|Ac<|AI ?_;obtain rfl:=Option.some.inj h;refine A3 rfl rfl ?_;exact⟨aS.By,rfl⟩
  ·replace h:=AG h f;refine B3 15 [Kc (.slice j g.length m),Kc (I (g.length:Int)),Kc (.bool ((g.length:Int)==2)),Kc (.bool ((g.length:Int)==2)),Kc (.slice j g.length m),Kc (pt aK (aL+i5*3)),Kc (.agg #[I b.On,I b.AD,.bool b.AM]),Kc (.agg #[I a.On,I a.AD,.bool a.AM]),Kc (.bool (HM [.inl b.On,.inl b.AD,.inr b.AM] [.inl a.On,.inl a.AD,.inr a.AM])),Kc (.bool (HM [.inl b.On,.inl b.AD,.inr b.AM] [.inl a.On,.inl a.AD,.inr a.AM])),Kc (.bool (HM [.inl b.On,.inl b.AD,.inr b.AM] [.inl a.On,.inl a.AD,.inr a.AM])),Kc undef,Kc undef,Kc undef,Kc undef] mixed rfl rfl
       (Aa (od rfl (fun _=>rfl) (fun K=>AN (es ((K.out 0 rfl).trans o))))
       (Aa (od rfl (fun _=>rfl) (fun K=>BX Tryz.underlying70 (es (K.An 0 7 rfl rfl))))
       (Aa (od rfl (fun _=>rfl) (fun K=>CP (es (K.An 1 8 rfl rfl)) (ec (v:=I 2))))
       (Aa (od rfl (fun _=>rfl) (fun K=>AN (es (K.An 2 9 rfl rfl))))
       (Aa (AE rfl rfl rfl (fun _=>rfl) (fun a' w' ph K=>Ab (K.An 3 10 rfl rfl) d) (fun a' w' ph K=>AN (es ((K.out 0 rfl).trans o))))
       (Aa (AE rfl rfl rfl (fun _=>rfl) (fun a' w' ph K=>Ab (K.An 3 10 rfl rfl) d) (fun a' w' ph K=>Cf (k:=i5) Tryz.underlying70 El (es (K.An 4 11 rfl rfl)) aE (ec (v:=I 0)) aC aD))
       (Aa (AE rfl rfl rfl (fun _=>rfl) (fun a' w' ph K=>Ab (K.An 3 10 rfl rfl) d) (fun a' w' ph K=>Dp (l:=[I b.On,I b.AD,.bool b.AM]) DU (es (K.An 5 12 rfl rfl)) (aF.mv (Ah K.Bc)) rfl rfl))
       (Aa (AE rfl rfl rfl (fun _=>rfl) (fun a' w' ph K=>Ab (K.An 3 10 rfl rfl) d) (fun a' w' ph K=>Bl (l:=[I a.On,I a.AD,.bool a.AM]) DU (es ((K.out 4 rfl).trans rfl)) (t.ext K.Bc) rfl rfl))
       (Aa (AE rfl rfl rfl (fun _=>rfl) (fun a' w' ph K=>Ab (K.An 3 10 rfl rfl) d) (fun a' w' ph K=>Pg (x1:=[.inl b.On,.inl b.AD,.inr b.AM]) (x2:=[.inl a.On,.inl a.AD,.inr a.AM]) Lm Mh (es (K.An 6 13 rfl rfl)) (es (K.An 7 14 rfl rfl)) rfl rfl rfl rfl))
       (Aa (od rfl (fun _=>rfl) (fun K=>AT (es (K.An 3 10 rfl rfl)) d (es (K.An 8 15 rfl rfl))))
       (Aa (od rfl (fun _=>rfl) (fun K=>AN (es (K.An 9 16 rfl rfl))))
       (Aa (A5 (c:=false) rfl rfl rfl (by decide) (fun a' w' ph K=>Ab (K.An 10 17 rfl rfl) f) (fun _=>rfl))
       (Aa (A5 (c:=false) rfl rfl rfl (by decide) (fun a' w' ph K=>Ab (K.An 10 17 rfl rfl) f) (fun _=>rfl))
       (Aa (A5 (c:=false) rfl rfl rfl (by decide) (fun a' w' ph K=>Ab (K.An 10 17 rfl rfl) f) (fun _=>rfl))
       (Aa (A5 (c:=false) rfl rfl rfl (by decide) (fun a' w' ph K=>Ab (K.An 10 17 rfl rfl) f) (fun _=>rfl))
       (BI _)))))))))))))))) ?_
   intro aR;rintro _ rfl _ rfl _ rfl _ rfl _ rfl _ rfl _ rfl _ rfl _ rfl _ rfl _ rfl _ rfl _ rfl _ rfl _ rfl r;have aT:=x.ext r;refine Aj (c:=false) rfl rfl (Ab rfl f) (by decide) rfl (by decide)<|wd rfl (fun st=>Bd (v:=.bool false) (ee st rfl) f (ee st rfl))<|wa rfl (v:=.bool false) rfl<|Ae<|Ac<|AI ?_;obtain rfl:=Option.some.inj h;refine A3 rfl rfl ?_;exact⟨aT.By,rfl⟩
 ·replace h:=AG h d;refine B3 15 [Kc (.slice j g.length m),Kc (I (g.length:Int)),Kc (.bool ((g.length:Int)==2)),Kc (.bool ((g.length:Int)==2)),Kc undef,Kc undef,Kc undef,Kc undef,Kc undef,Kc (.bool false),Kc (.bool false),Kc undef,Kc undef,Kc undef,Kc undef] mixed rfl rfl
      (Aa (od rfl (fun _=>rfl) (fun K=>AN (es ((K.out 0 rfl).trans o))))
      (Aa (od rfl (fun _=>rfl) (fun K=>BX Tryz.underlying70 (es (K.An 0 7 rfl rfl))))
      (Aa (od rfl (fun _=>rfl) (fun K=>CP (es (K.An 1 8 rfl rfl)) (ec (v:=I 2))))
      (Aa (od rfl (fun _=>rfl) (fun K=>AN (es (K.An 2 9 rfl rfl))))
      (Aa (A5 (c:=false) rfl rfl rfl (by decide) (fun a' w' ph K=>Ab (K.An 3 10 rfl rfl) d) (fun _=>rfl))
      (Aa (A5 (c:=false) rfl rfl rfl (by decide) (fun a' w' ph K=>Ab (K.An 3 10 rfl rfl) d) (fun _=>rfl))
      (Aa (A5 (c:=false) rfl rfl rfl (by decide) (fun a' w' ph K=>Ab (K.An 3 10 rfl rfl) d) (fun _=>rfl))
      (Aa (A5 (c:=false) rfl rfl rfl (by decide) (fun a' w' ph K=>Ab (K.An 3 10 rfl rfl) d) (fun _=>rfl))
      (Aa (A5 (c:=false) rfl rfl rfl (by decide) (fun a' w' ph K=>Ab (K.An 3 10 rfl rfl) d) (fun _=>rfl))
      (Aa (od rfl (fun _=>rfl) (fun K=>Bd (es (K.An 3 10 rfl rfl)) d (ec (v:=.bool false))))
      (Aa (od rfl (fun _=>rfl) (fun K=>AN (es (K.An 9 16 rfl rfl))))
      (Aa (A5 (c:=false) rfl rfl rfl (by decide) (fun a' w' ph K=>(show sl a' 17=.bool false from K.An 10 17 rfl rfl)) (fun _=>rfl))
      (Aa (A5 (c:=false) rfl rfl rfl (by decide) (fun a' w' ph K=>(show sl a' 17=.bool false from K.An 10 17 rfl rfl)) (fun _=>rfl))
      (Aa (A5 (c:=false) rfl rfl rfl (by decide) (fun a' w' ph K=>(show sl a' 17=.bool false from K.An 10 17 rfl rfl)) (fun _=>rfl))
      (Aa (A5 (c:=false) rfl rfl rfl (by decide) (fun a' w' ph K=>(show sl a' 17=.bool false from K.An 10 17 rfl rfl)) (fun _=>rfl))
      (BI _)))))))))))))))) ?_
  intro aR;rintro _ rfl _ rfl _ rfl _ rfl _ rfl _ rfl _ rfl _ rfl _ rfl _ rfl _ rfl _ rfl _ rfl _ rfl _ rfl r;have aU:=x.ext r;refine Aj rfl rfl rfl (by decide) rfl (by decide)<|wd rfl (fun st=>Bd (v:=.bool false) (ee st rfl) rfl (ee st rfl))<|wa rfl (v:=.bool false) rfl<|Ae<|Ac<|AI ?_;obtain rfl:=Option.some.inj h;refine A3 rfl rfl ?_;exact⟨aU.By,rfl⟩
theorem VQ(s:Nat)(a:CB)(Z:Nat→Prop)(w:World)(j:CB)(k:GO s a=some j):
 BO Tryz.prog 88 #[.agg #[I a.Lo,I a.Hi]] w (fun v w'=>Ext w w'∧(Df Oz).R w' (ZZ FN [] Z w.heap.size []) v j):=by
 unfold GO at k;refine Be (N:=8) Tryz.func88 rfl rfl (by simp) ?_;intro t m u;have h:=AR (i:=0) (v:=.agg #[I a.Lo,I a.Hi]) m rfl;clear m;have e:Hp FN [] w [] w:=Hp.start (BQ.none w);refine Af<|Ad<|we rfl (fun st=>B5 (v:=.agg #[I a.Lo,I a.Hi]) (cs:= #[I a.Lo,I a.Hi]) (ee st h) rfl) ?_;rintro _ w1 ⟨x,rfl,d⟩;have f:=e.nb d;have q:=e.BM d;refine we rfl (fun st=>BP (cs:= #[I 0,I 0]) Rm rfl) ?_;rintro _ w2 ⟨y,rfl,b⟩;have o:=f.nb b;have r:=f.BM b;refine Ae<|Ac<|Af<|Ad<|wd rfl (fun st=>Ai (ee st rfl) (IS _ _)) ?_;have c:=(d.bk.ext b.gr);refine wd rfl (fun st=>Ap (v:=I a.Lo) AP (ee st rfl) c rfl)<|wd rfl (fun st=>Ai (ee st rfl) (JV _ _))<|wd rfl (fun st=>Ap (v:=I a.Hi) AP (ee st rfl) c rfl)<|wd rfl (fun st=>C4 (vs:= #[(0,I a.Lo),(1,I a.Hi)]) (v:=.agg #[I a.Lo,I a.Hi]) (IB (ee st rfl) (ee st rfl)) (by kernel_rfl))<|Bq rfl rfl (fun st=>Bg (n:=2) (l:=[I a.Lo,I a.Hi]) (Ci:= #[I a.Lo,I a.Hi]) (ee st rfl) (ee st rfl) TY b.bk rfl rfl (show 0+2≤2 by decide) (AW rfl) rfl) ?_;rintro _ z g;have p:=o.gr g.gr 0 rfl;refine Ae<|Ac<|AI ?_;obtain rfl:=Option.some.inj k;refine FY (v:=.agg #[I a.Lo,I a.Hi]) rfl rfl (CH KU g.bk rfl rfl) ?_;exact⟨p.By,⟨_,rfl,rfl⟩⟩
theorem a31(bS:Nat)(a:Ar)(p:Option Addr)(q:Nat)(Z:Nat→Prop)(w:World)(bT:Sl AQ w Z p q a.Ag)(cJ:Ar)(m:EU bS a=some cJ):
 BO Tryz.prog 31 #[.agg #[I a.Am,I a.Ak,I a.Ao,I a.AA,.slice p a.Ag.length q]] w (fun v w'=>Ext w w'∧(Df HP).R w' (ZZ FN [] Z w.heap.size []) v cJ):=by
 unfold EU at m;refine Be (N:=43) Tryz.func31 rfl rfl (by simp) ?_;intro c5 cK c6;have b6:=AR (i:=0) (v:=.agg #[I a.Am,I a.Ak,I a.Ao,I a.AA,.slice p a.Ag.length q]) cK rfl;clear cK;have b1:Hp FN [] w [] w:=Hp.start (BQ.none w);have bE:=bT.mv (Br (Z:=Z) (L:=[]) w);refine Af<|Ad<|we rfl (fun st=>B5 (v:=.agg #[I a.Am,I a.Ak,I a.Ao,I a.AA,.slice p a.Ag.length q]) (cs:= #[I a.Am,I a.Ak,I a.Ao,I a.AA,.slice p a.Ag.length q]) (ee st b6) rfl) ?_;rintro _ w1 ⟨x,rfl,bA⟩;have b2:=b1.nb bA;have c0:=b1.BM bA;refine we rfl (fun st=>BP (cs:= #[I 0,I 0,I 0,I 0,.slice none 0 0]) Mg rfl) ?_;rintro _ w2 ⟨t,rfl,aX⟩;have b3:=b2.nb aX;have c1:=b2.BM aX;refine Ae<|Ac<|Af<|Ad<|wd rfl (fun st=>Ai (ee st rfl) (DP _ _)) ?_;have aD:=(bA.bk.ext aX.gr);refine wd rfl (fun st=>Ap (v:=I a.Am) AP (ee st rfl) aD rfl)<|wd rfl (fun st=>Ai (ee st rfl) (Jq _ _))<|wd rfl (fun st=>Ap (v:=I a.Ak) AP (ee st rfl) aD rfl)<|wd rfl (fun st=>Ai (ee st rfl) (Me _ _))<|wd rfl (fun st=>Ap (v:=I a.Ao) AP (ee st rfl) aD rfl)<|wd rfl (fun st=>Ai (ee st rfl) (KT _ _))<|wd rfl (fun st=>Ap (v:=I a.AA) AP (ee st rfl) aD rfl)<|wd rfl (fun st=>C4 (vs:= #[(0,I a.Am),(1,I a.Ak),(2,I a.Ao),(3,I a.AA)]) (v:=.agg #[I a.Am,I a.Ak,I a.Ao,I a.AA,.slice none 0 0]) (Ti (ee st rfl) (ee st rfl) (ee st rfl) (ee st rfl)) (by kernel_rfl))<|we rfl (fun st=>BP (cs:= #[I 0,I 0,I 0,I 0,.slice none 0 0]) Mg rfl) ?_;rintro _ dB ⟨s,rfl,aQ⟩;have bB:=b3.nb aQ;have c2:=b3.BM aQ;refine Bq rfl rfl (fun st=>Bg (n:=5) (l:=[I a.Am,I a.Ak,I a.Ao,I a.AA,.slice none 0 0]) (Ci:= #[I a.Am,I a.Ak,I a.Ao,I a.AA,.slice none 0 0]) (ee st rfl) (ee st rfl) PE aQ.bk rfl rfl (show 0+5≤5 by decide) (AW rfl) rfl) ?_;rintro _ b7 aY;have cL:=bB.gr aY.gr 0 rfl;refine Ae<|Ac<|Af<|Af<|Ad<|wa rfl (v:=I 0) rfl<|Ae<|Ac<|Ba ?_;have cM:Hp FN [] w [none,some s,some t,some x] b7:=cL.nil;have cN:AL AQ 156 w.heap.size b7 (ZZ FN [] Z w.heap.size [none,some s,some t,some x]) none 0 ([]:List Bb):=AL.nil _ _ _ _ _;replace m:=bind_some m;obtain⟨z5,aR,m⟩:=m;refine Ce (fun cO z aJ=>(cO=.exit 0∧∃c g,z.tmps.size=43∧z.defers=(X0).ds∧sl z 2=pt t 0∧sl z 3=pt s 0∧Hp FN [] w [ob c,some s,some t,some x] aJ∧AL AQ 156 w.heap.size aJ (ZZ FN [] Z w.heap.size [ob c,some s,some t,some x]) c g z5∧Bk aJ t 75 #[I 0,I 0,I 0,I 0,.slice none 0 0]∧Bk aJ s 75 #[I a.Am,I a.Ak,I a.Ao,I a.AA,.slice c z5.length g])) ?cP ?cQ
 case cP=>
  clear m;refine Cd (fun(b8:Nat) (z:Act) (aJ:World)=>∃y,∃j,∃f o,DM bS a b8 y j=some z5∧z.tmps.size=43∧z.defers=(X0).ds∧sl z 1=pt x 0∧sl z 2=pt t 0∧sl z 3=pt s 0∧sl z 4=I y∧Hp FN [] w [ob f,some s,some t,some x] aJ∧AL AQ 156 w.heap.size aJ (ZZ FN [] Z w.heap.size [ob f,some s,some t,some x]) f o j∧Bk aJ x 63 #[I a.Am,I a.Ak,I a.Ao,I a.AA,.slice p a.Ag.length q]∧Bk aJ t 75 #[I 0,I 0,I 0,I 0,.slice none 0 0]∧Bk aJ s 75 #[I a.Am,I a.Ak,I a.Ao,I a.AA,.slice f j.length o]∧Sl AQ aJ (ZZ FN [] Z w.heap.size [ob f,some s,some t,some x]) p q a.Ag) bS ?cR ?cS
  case cR=>
   intro st;have bU:=((aD.ext aQ.gr).gr aY.gr (bB.ne 2 0 rfl rfl rfl));have bV:=((aX.bk.ext aQ.gr).gr aY.gr (bB.ne 1 0 rfl rfl rfl));have bW:=aY.bk;have bF:Sl AQ b7 (ZZ FN [] Z w.heap.size [none,some s,some t,some x]) p q a.Ag:=(((((bE.mv (Ax bA)).mv (Ax aX)).mv (Ax aQ)).mv (bB.AS aY.gr 0 rfl)).mv BT);exact⟨(0:Int),([]:List Bb),none,0,aR,qz st,qd st,sp st 1 rfl,sp st 2 rfl,sp st 3 rfl,sp st 4 rfl,cM,cN,bU,bV,bW,bF⟩
  case cS=>
   rintro(_|b8) c7 c8 ⟨y,j,f,o,aR,b9,cA,aS,bC,aI,aT,bH,aE,aK,aZ,a0,aL⟩
   ·exact absurd (show none=some _ from aR) (by simp)
   rw[DM.eq_2] at aR;have m:=aR;clear aR;refine B2 (N:=43) b9 cA<|Af<|Af<|Ad<|wm rfl (v:=I y) aT<|wd rfl (fun st=>Ai (ee st aS) (Fc _ _))<|wd rfl (fun st=>Ap (v:=.slice p a.Ag.length q) FR (ee st rfl) aK rfl)<|wd rfl (fun st=>BX Tryz.underlying61 (ee st rfl))<|wd rfl (fun st=>Cq (ee st rfl) (ee st rfl))<|Ae<|Ac ?_;rcases Aq (decide (y<(a.Ag.length:Int))) with a2|a2
   ·replace m:=AF m a2;refine Ay rfl a2<|AY<|Ac<|Af<|Ba<|Af<|Ad<|wd rfl (fun st=>Ai (ee st aS) (Fc _ _))<|wd rfl (fun st=>Ap (v:=.slice p a.Ag.length q) FR (ee st rfl) aK rfl)<|wm rfl (v:=I y) aT ?_;replace m:=Bt m;obtain⟨i8,b,cT,cU,cV,m⟩:=m;obtain⟨dC,dD,_,cW,rfl,cX⟩:=Sl.elem aL (by decide) cU;refine wd rfl (fun st=>Cf (k:=i8) Tryz.underlying61 Ho (ee st rfl) cW (ee st rfl) cT cV)<|wd rfl (fun st=>Dp (l:=[I b.Au,I b.AJ,I b.AM,I b.Cc,I b.Ct]) OJ (ee st rfl) cX rfl rfl)<|we rfl (fun st=>BP (cs:= #[I 0,I 0,I 0,I 0,I 0]) NR rfl) ?_;rintro _ dE ⟨aU,rfl,aF⟩;have aM:=bH.nb aF;have c3:=bH.BM aF;refine Bq rfl rfl (fun st=>Bg (n:=5) (l:=[I b.Au,I b.AJ,I b.AM,I b.Cc,I b.Ct]) (Ci:= #[I b.Au,I b.AJ,I b.AM,I b.Cc,I b.Ct]) (ee st rfl) (ee st rfl) Ho aF.bk rfl rfl (show 0+5≤5 by decide) (AW rfl) rfl) ?_;rintro _ c9 r;have b4:=aM.gr r.gr 0 rfl;refine Ae<|Ac ?_;have bD:=((a0.ext aF.gr).gr r.gr (aM.ne 2 0 rfl rfl rfl));replace m:=bind_some m;obtain⟨d,cB,m⟩:=m;refine B3 13 [Kc (pt s 4),Kc (.slice f j.length o),Kc (pt aU 0),Kc (.agg #[I b.Au,I b.AJ]),Kc (.agg #[I d.Lo,I d.Hi]),Kc (pt aU 2),Kc (I b.AM),Kc (pt aU 3),Kc (I b.Cc),Kc (pt aU 4),Kc (I b.Ct),Kc (.agg #[I d.Lo,I d.Hi,I b.AM,I b.Cc,I b.Ct]),Kv (E1 AQ) (ZZ FN [] Z w.heap.size [some aU,ob f,some s,some t,some x]) [(⟨d.Lo,d.Hi,b.AM,b.Cc,b.Ct⟩:Bb)]] mixed rfl rfl
        (Aa (od rfl (fun _=>rfl) (fun K=>Ai (es ((K.out 3 rfl).trans aI)) (C5 _ _)))
        (Aa (od rfl (fun _=>rfl) (fun K=>Ap Dr (es (K.An 0 27 rfl rfl)) (bD.ext K.Bc) rfl))
        (Aa (od rfl (fun _=>rfl) (fun K=>Ai (es ((K.out 5 rfl).trans rfl)) (IT _ _)))
        (Aa (od rfl (fun _=>rfl) (fun K=>Bl (l:=[I b.Au,I b.AJ]) Jp (es (K.An 2 29 rfl rfl)) (r.bk.ext K.Bc) rfl rfl))
        (Aa (Eg rfl rfl (fun a' w' ph K=>(AX TZ rfl (CN (es (K.An 3 30 rfl rfl))) (VQ bS (⟨b.Au,b.AJ⟩:CB) ZA _ d cB)).mono (fun _ _ h=>⟨(by obtain⟨_,rfl,rfl⟩:=h.2;rfl),h.1⟩)))
        (Aa (od rfl (fun _=>rfl) (fun K=>Ai (es ((K.out 5 rfl).trans rfl)) (NS _ _)))
        (Aa (od rfl (fun _=>rfl) (fun K=>Ap AP (es (K.An 5 32 rfl rfl)) (r.bk.ext K.Bc) rfl))
        (Aa (od rfl (fun _=>rfl) (fun K=>Ai (es ((K.out 5 rfl).trans rfl)) (NT _ _)))
        (Aa (od rfl (fun _=>rfl) (fun K=>Ap AP (es (K.An 7 34 rfl rfl)) (r.bk.ext K.Bc) rfl))
        (Aa (od rfl (fun _=>rfl) (fun K=>Ai (es ((K.out 5 rfl).trans rfl)) (NU _ _)))
        (Aa (od rfl (fun _=>rfl) (fun K=>Ap AP (es (K.An 9 36 rfl rfl)) (r.bk.ext K.Bc) rfl))
        (Aa (od rfl (fun _=>rfl) (fun K=>C4 (vs:= #[(0,.agg #[I d.Lo,I d.Hi]),(1,I b.AM),(2,I b.Cc),(3,I b.Ct)]) (v:=.agg #[I d.Lo,I d.Hi,I b.AM,I b.Cc,I b.Ct]) (Ti (es (K.An 4 31 rfl rfl)) (es (K.An 6 33 rfl rfl)) (es (K.An 8 35 rfl rfl)) (es (K.An 10 37 rfl rfl))) (by kernel_rfl)))
        (Aa (Eg rfl rfl (fun a' w' ph K=>(BK (e:=156) (vs:= #[(0,.agg #[I d.Lo,I d.Hi,I b.AM,I b.Cc,I b.Ct])]) (cs:= #[I d.Lo,I d.Hi,I b.AM,I b.Cc,I b.Ct]) (HC (es (K.An 11 38 rfl rfl))) (by kernel_rfl)).mono (fun u Bj ⟨dF,hu,bX⟩=>⟨⟨_,_,hu,Gu (xs:=[(⟨d.Lo,d.Hi,b.AM,b.Cc,b.Ct⟩:Bb)]) (Bh:=[[I d.Lo,I d.Hi,I b.AM,I b.Cc,I b.Ct]]) bX.bk ((b4.ext K.Bc).kn (Nat.le_of_eq bX.En.symm)) (R2.mv (Ah bX.gr) (show R2 AQ w' (ZZ FN [] Z w.heap.size [some aU,ob f,some s,some t,some x]) [[I d.Lo,I d.Hi,I b.AM,I b.Cc,I b.Ct]] [(⟨d.Lo,d.Hi,b.AM,b.Cc,b.Ct⟩:Bb)] from⟨rfl,trivial⟩)) rfl (Nat.le_refl _)⟩,bX.gr⟩)))
        (BI _)))))))))))))) ?_
    intro cY;rintro _ rfl _ rfl _ rfl _ rfl _ rfl _ rfl _ rfl _ rfl _ rfl _ rfl _ rfl _ rfl _ ⟨cH,cI,rfl,a6⟩ aB;have aN:=b4.ext aB;have a3:AL AQ 156 w.heap.size cY (ZZ FN [] Z w.heap.size [some aU,ob f,some s,some t,some x]) f o j:=(((aE.ext aF.gr (Ax aF)).gr r.gr (fun k aV=>aM.ne 1 0 rfl (congrArg some aV) rfl) (aM.AS r.gr 0 rfl)).ext aB (Ah aB));replace m:=CS m;obtain⟨bI,m⟩:=m;refine we rfl (fun st=>Gi (ys:=[(⟨d.Lo,d.Hi,b.AM,b.Cc,b.Ct⟩:Bb)]) Tryz.underlying73 Rn rfl rfl (by decide) (ee st rfl) rfl (ee st rfl) a3 a6.n (by have:=bI;simp only[maxLen];omega) (by have:=bI;omega) aN.sz) ?_;rintro _ b5 ⟨aA,a4,rfl,aG,a7,cC⟩;have aH:Hp FN [] w [some aU,ob aA,some s,some t,some x] b5:=aN.row aG 1 rfl a7;have cD:AL AQ 156 w.heap.size b5 (ZZ FN [] Z w.heap.size [some aU,ob aA,some s,some t,some x]) aA a4 (j++[(⟨d.Lo,d.Hi,b.AM,b.Cc,b.Ct⟩:Bb)]):=ES cC (aN.CD aG 1 rfl (fun k aV=>(a7 k aV).1));refine wd rfl (fun st=>Ai (ee st aI) (C5 _ _)) ?_;have bJ:=((bD.ext aB).gr aG (aN.ne 2 1 rfl rfl rfl));refine Bq rfl rfl (fun st=>Bg (n:=1) (l:=[.slice aA ((j++[(⟨d.Lo,d.Hi,b.AM,b.Cc,b.Ct⟩:Bb)]).length) a4]) (Ci:= #[I a.Am,I a.Ak,I a.Ao,I a.AA,.slice aA ((j++[(⟨d.Lo,d.Hi,b.AM,b.Cc,b.Ct⟩:Bb)]).length) a4]) (ee st rfl) (ee st rfl) U2 bJ rfl rfl (show 4+1≤5 by decide) (AW rfl) rfl) ?_;rintro _ bK aC;have cE:=aH.gr aC.gr 2 rfl;refine Ae<|Bi<|Ac<|Ad<|wm rfl (v:=I y) aT ?_;replace m:=AU m;obtain⟨cF,m⟩:=m;refine wd rfl (fun st=>Bu (ee st rfl) (ee st rfl) cF)<|wa rfl (v:=I (y+1)) rfl<|Ae ?_;have cG:Hp FN [] w [ob aA,some s,some t,some x] bK:=cE.erase 0;have bG:AL AQ 156 w.heap.size bK (ZZ FN [] Z w.heap.size [ob aA,some s,some t,some x]) aA a4 (j++[(⟨d.Lo,d.Hi,b.AM,b.Cc,b.Ct⟩:Bb)]):=((cD.gr aC.gr (fun k aV=>aH.ne 1 2 rfl (congrArg some aV) rfl) (aH.AS aC.gr 2 rfl)).up (AB 0));have bL:=(((((aK.ext aF.gr).gr r.gr (aM.ne 4 0 rfl rfl rfl)).ext aB).gr aG (aN.ne 4 1 rfl rfl rfl)).gr aC.gr (aH.ne 4 2 rfl rfl rfl));have bM:=(((((aZ.ext aF.gr).gr r.gr (aM.ne 3 0 rfl rfl rfl)).ext aB).gr aG (aN.ne 3 1 rfl rfl rfl)).gr aC.gr (aH.ne 3 2 rfl rfl rfl));have bN:=aC.bk;have a8:Sl AQ bK (ZZ FN [] Z w.heap.size [ob aA,some s,some t,some x]) p q a.Ag:=((((((aL.mv (Ax aF)).mv (aM.AS r.gr 0 rfl)).mv (Ah aB)).mv (aN.CD aG 1 rfl (fun k aV=>(a7 k aV).1))).mv (aH.AS aC.gr 2 rfl)).mv (AB 0));refine Bs b8 (Nat.lt_succ_self _) (fun st=>?_);exact⟨(y+1),(j++[(⟨d.Lo,d.Hi,b.AM,b.Cc,b.Ct⟩:Bb)]),aA,a4,m,qz st,qd st,sp st 1 aS,sp st 2 bC,sp st 3 aI,sp st 4 rfl,cG,bG,bL,bM,bN,a8⟩
   ·replace m:=AG m a2;refine AH rfl a2<|B1<|AK<|AK ?_;obtain rfl:=Option.some.inj m;refine BD (fun st=>?_);exact⟨rfl,f,o,qz st,qd st,sp st 2 bC,sp st 3 aI,bH,aE,aZ,a0⟩
 case cQ=>
  rintro cO c4 dA (⟨rfl,c,g,bY,bZ,a5,bO,a9,aO,bP,bQ⟩);refine Ch (X:=X0) (N:=43) bY bZ<|Bx<|Ac<|Af<|Ad<|wd rfl (fun st=>Bl (l:=[I a.Am,I a.Ak,I a.Ao,I a.AA,.slice c z5.length g]) CO (ee st bO) bQ rfl rfl)<|Bq rfl rfl (fun st=>Bg (n:=5) (l:=[I a.Am,I a.Ak,I a.Ao,I a.AA,.slice c z5.length g]) (Ci:= #[I a.Am,I a.Ak,I a.Ao,I a.AA,.slice c z5.length g]) (ee st a5) (ee st rfl) PE bP rfl rfl (show 0+5≤5 by decide) (AW rfl) rfl) ?_;rintro _ cZ aW;have bR:=a9.gr aW.gr 2 rfl;refine Ae<|Ac<|AI ?_;obtain rfl:=Option.some.inj m;refine FY (v:=.agg #[I a.Am,I a.Ak,I a.Ao,I a.AA,.slice c z5.length g]) rfl a5 (CH CO aW.bk rfl rfl) ?_;have aP:AL AQ 156 w.heap.size cZ (ZZ FN [] Z w.heap.size [ob c,some s,some t,some x]) c g z5:=(aO.gr aW.gr (fun k aV=>a9.ne 0 2 rfl (congrArg some aV) rfl) (a9.AS aW.gr 2 rfl));exact⟨bR.By,⟨_,rfl,_,_,rfl,bR.II (M:=[]) 0 rfl [] rfl trivial aP⟩⟩
theorem VR(m:Nat)(a:Ar)(b:Option Addr)(c:Nat)(Z:Nat→Prop)(w:World)(h:Sl AQ w Z b c a.Ag)(n:Int)(e:Fk m a=some n):
 BO Tryz.prog 34 #[.agg #[I a.Am,I a.Ak,I a.Ao,I a.AA,.slice b a.Ag.length c]] w (fun v w'=>Ext w w'∧(Ft .i64).R w' (ZZ FN [] Z w.heap.size []) v n):=by
 unfold Fk at e;refine Be (N:=5) Tryz.func34 rfl rfl (by simp) ?_;intro u o x;have k:=AR (i:=0) (v:=.agg #[I a.Am,I a.Ak,I a.Ao,I a.AA,.slice b a.Ag.length c]) o rfl;clear o;have j:Hp FN [] w [] w:=Hp.start (BQ.none w);have f:=h.mv (Br (Z:=Z) (L:=[]) w);refine Af<|Ad<|we rfl (fun st=>B5 (v:=.agg #[I a.Am,I a.Ak,I a.Ao,I a.AA,.slice b a.Ag.length c]) (cs:= #[I a.Am,I a.Ak,I a.Ao,I a.AA,.slice b a.Ag.length c]) (ee st k) rfl) ?_;rintro _ w1 ⟨y,rfl,d⟩;have p:=j.nb d;have t:=j.BM d;refine wa rfl (v:=I 0) rfl<|Ae<|Ac<|Af<|Ad<|wd rfl (fun st=>Bl (l:=[I a.Am,I a.Ak,I a.Ao,I a.AA,.slice b a.Ag.length c]) F8 (ee st rfl) d.bk rfl rfl) ?_;have g:=(f.mv (Ax d));replace e:=bind_some e;obtain⟨r2,q,e⟩:=e;refine we rfl (fun st=>AX Qq (ee st rfl) (CN (ee st rfl)) (Ve m a b c ZA _ g.all r2 q)) ?_;rintro _ z ⟨r,rfl⟩;have s:=p.ext r;refine wa rfl (v:=I r2) rfl<|Ae<|Ac<|AI ?_;obtain rfl:=Option.some.inj e;refine A3 rfl rfl ?_;exact⟨s.By,rfl⟩
theorem VS(u:Nat)(a:Ar)(d:Option Addr)(e:Nat)(Z:Nat→Prop)(w:World)(o:Sl AQ w Z d e a.Ag)(z:Bool)(f:FC u a=some z):
 BO Tryz.prog 27 #[.agg #[I a.Am,I a.Ak,I a.Ao,I a.AA,.slice d a.Ag.length e]] w (fun v w'=>Ext w w'∧BY.R w' (ZZ FN [] Z w.heap.size []) v z):=by
 unfold FC at f;refine Be (N:=17) Tryz.func27 rfl rfl (by simp) ?_;intro aG aA aH;have x:=AR (i:=0) (v:=.agg #[I a.Am,I a.Ak,I a.Ao,I a.AA,.slice d a.Ag.length e]) aA rfl;clear aA;have r:Hp FN [] w [] w:=Hp.start (BQ.none w);have k:=o.mv (Br (Z:=Z) (L:=[]) w);refine Af<|Ad<|we rfl (fun st=>B5 (v:=.agg #[I a.Am,I a.Ak,I a.Ao,I a.AA,.slice d a.Ag.length e]) (cs:= #[I a.Am,I a.Ak,I a.Ao,I a.AA,.slice d a.Ag.length e]) (ee st x) rfl) ?_;rintro _ w1 ⟨aI,rfl,h⟩;have s:=r.nb h;have aF:=r.BM h;refine wa rfl (v:=.bool false) rfl<|Ae<|Ac<|Af<|Ad<|wd rfl (fun st=>Ai (ee st rfl) (Fc _ _))<|wd rfl (fun st=>Ap (v:=.slice d a.Ag.length e) FR (ee st rfl) h.bk rfl)<|wd rfl (fun st=>BX Tryz.underlying61 (ee st rfl))<|wd rfl (fun st=>Ee (ee st rfl) (ee st rfl))<|wm rfl (v:=.bool (decide ((a.Ag.length:Int)≤6))) rfl ?_;rcases Aq (decide ((a.Ag.length:Int)≤6)) with b|b
 ·replace f:=AF f b;refine Aw rfl rfl (Ab rfl b) rfl (by decide) (fun st=>Bl (l:=[I a.Am,I a.Ak,I a.Ao,I a.AA,.slice d a.Ag.length e]) F8 (ee st rfl) h.bk rfl rfl) ?_;have j:=(k.mv (Ax h));replace f:=bind_some f;obtain⟨y,aB,f⟩:=f;refine Ec rfl rfl (Ab rfl b) rfl (by decide) (fun st=>AX Qq (ee st rfl) (CN (ee st rfl)) (Ve u a d e ZA _ j.all y aB)) ?_;rintro _ aJ ⟨n,rfl⟩;have t:=s.ext n;refine Aw rfl rfl (Ab rfl b) rfl (by decide) (fun st=>Ev (ee st rfl) (ee st rfl))<|Aw rfl rfl (Ab rfl b) rfl (by decide) (fun st=>AN (v:=.bool (y !=0)) (ee st rfl)) ?_;rcases Aq (y !=0) with g|g
  ·replace f:=AF f g;refine Aj (c:=true) rfl rfl (Ab rfl g) (by decide) rfl (by decide)<|Aj (c:=true) rfl rfl (Ab rfl g) (by decide) rfl (by decide)<|Aj (c:=true) rfl rfl (Ab rfl g) (by decide) rfl (by decide)<|Aw rfl rfl (Ab rfl b) rfl (by decide) (fun st=>AT (v:=.bool true) (ee st rfl) g (ee st rfl))<|wd rfl (fun st=>AT (v:=.bool true) (ee st rfl) b (ee st rfl))<|wa rfl (v:=.bool true) rfl<|Ae<|Ac<|AI ?_;obtain rfl:=Option.some.inj f;refine A3 rfl rfl ?_;exact⟨t.By,rfl⟩
  ·replace f:=AG f g;have p:=(h.bk.ext n);refine Aw rfl rfl (Ab rfl g) rfl (by decide) (fun st=>Bl (l:=[I a.Am,I a.Ak,I a.Ao,I a.AA,.slice d a.Ag.length e]) F8 (ee st rfl) p rfl rfl) ?_;have m:=(j.mv (Ah n));replace f:=bind_some f;obtain⟨q,aC,f⟩:=f;refine Ec rfl rfl (Ab rfl g) rfl (by decide) (fun st=>AX NV (ee st rfl) (CN (ee st rfl)) (Ur u a d e ZA _ m.all q aC)) ?_;rintro _ aK ⟨aD,rfl⟩;have aE:=t.ext aD;refine Aw rfl rfl (Ab rfl g) rfl (by decide) (fun st=>Ee (ee st rfl) (ee st rfl))<|Aw rfl rfl (Ab rfl b) rfl (by decide) (fun st=>Bd (v:=.bool (decide (q≤60))) (ee st rfl) g (ee st rfl))<|wd rfl (fun st=>AT (v:=.bool (decide (q≤60))) (ee st rfl) b (ee st rfl))<|wa rfl (v:=.bool (decide (q≤60))) rfl<|Ae<|Ac<|AI ?_;obtain rfl:=Option.some.inj f;refine A3 rfl rfl ?_;exact⟨aE.By,rfl⟩
 ·replace f:=AG f b;refine Aj (c:=false) rfl rfl (Ab rfl b) (by decide) rfl (by decide)<|Aj (c:=false) rfl rfl (Ab rfl b) (by decide) rfl (by decide)<|Aj (c:=false) rfl rfl (Ab rfl b) (by decide) rfl (by decide)<|Aj (c:=false) rfl rfl (Ab rfl b) (by decide) rfl (by decide)<|CY rfl rfl rfl rfl (by decide)<|CY rfl rfl rfl rfl (by decide)<|CY rfl rfl rfl rfl (by decide)<|Aj (c:=false) rfl rfl (Ab rfl b) (by decide) rfl (by decide)<|wd rfl (fun st=>Bd (v:=.bool false) (ee st rfl) b (ee st rfl))<|wa rfl (v:=.bool false) rfl<|Ae<|Ac<|AI ?_;obtain rfl:=Option.some.inj f;refine A3 rfl rfl ?_;exact⟨s.By,rfl⟩
end Go.Proofs.YtkljfdkmjdjpfaaGreat
end
