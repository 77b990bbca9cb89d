import Derived.Test.YtkljfdkmjdjpfaaGreatBB2
import Derived.WalkKit
import Derived.KernelRfl
import Derived.WalkSpells
import Derived.WalkLawsBesides
import Derived.Maps.AppendAt
import Derived.OrdersIn
import Derived.RangeFuncIn
import Derived.RangeFuncLeaves
import Derived.RangeFuncRecord
import Derived.RangeFuncSeq
import Derived.Scope
import Derived.DeepKeys3
import Derived.Laws.CopyRow
import Derived.Laws.OwnMore
import Derived.Laws.MakeOwn
import Derived.Laws.IdiomCopy
import Derived.Test.YtkljfdkmjdjpfaaGreatProg
/-
  The contracts of the functions of the program and of the reference, and the logic that they are proved in: the base that several claims of this seat share.
-/
set_option linter.all false
section
namespace Go.Proofs.YtkljfdkmjdjpfaaGreat
theorem MH(n:Nat)(h:n<64):L4 .u64 (n:Int)=some ():=by
 refine if_pos ?_;show(n:Int)%(2^64:Int)=n;rw[show(2:Int)^64=18446744073709551616 from rfl];omega
theorem Mj(K b d:Nat)(h:d<64):DW K (b:Int) (d:Int)=some (b.testBit d):=by
 unfold DW;rw[bd (MH d h),bd (Qs b d h),PQ (Uj b d) (by omega),Qr]
def lead:List Bool→Nat
 |true::l=>lead l+1
 |_=>0
def GX(R:Int):List Bool→Bool
 |[]=>true
 |b::l=>decide ((lead (b::l):Int)≤R)&&GX R l
def IW:List Bool→Nat
 |[]=>0
 |b::l=>(cond b 1 0)+IW l
theorem LK(r:Nat)(l:List Bool):lead (List.replicate r true++l)=r+lead l:=by
 induction r with
 |zero=>simp
 |succ r ih=>rw[List.replicate_succ,List.cons_append,lead,ih];omega
theorem Nc(R:Int)(l:List Bool):∀r:Nat,(r:Int)≤R→GX R (List.replicate r true++false::l)=(decide (0≤R)&&GX R l)
 |0,_=>rfl
 |r+1,h=>by
  rw[List.replicate_succ,List.cons_append,GX,Nc R l r (by omega)];have:lead (true::(List.replicate r true++false::l))=r+1:=by
   rw[lead,LK];rfl
  rw[this,dt (by omega),Bool.true_and]
theorem Of(W R:Int)(b:0≤R):∀(l:List Bool) (s:Int) (r:Nat),s≤W→(r:Int)≤R→okW W R l s r=(decide (s+(IW l:Int)≤W)&&GX R (List.replicate r true++l))
 |[],s,r,c,a=>by
  have:∀q:Nat,(q:Int)≤R→GX R (List.replicate q true)=true:=by
   intro q
   induction q with
   |zero=>intro _;rfl
   |succ q ih=>
    intro g;have e:=LK (q+1) [];rw[List.append_nil,List.replicate_succ] at e;have h:lead ([]:List Bool)=0:=rfl;rw[List.replicate_succ,GX,e,ih (by omega),dt (by omega)];rfl
  rw[List.append_nil,this r a,okW,dt (by unfold IW;omega)];rfl
 |false::l,s,r,c,a=>by
  rw[okW,Nc R l r a,dt b,Bool.true_and];have:=Of W R b l s 0 c (by omega);rw[Int.natCast_zero] at this;rw[this,IW];simp
 |true::l,s,r,c,a=>by
  rw[okW];have e:List.replicate r true++true::l=List.replicate (r+1) true++l:=by
   rw[List.replicate_succ'];simp
  rw[e]
  by_cases d:s+1≤W
  ·by_cases f:(r:Int)+1≤R
   ·rw[dt d,dt f,Bool.true_and,Bool.true_and,C2,Of W R b l (s+1) (r+1) d (by omega)]
    congr 2
    rw[IW];simp;omega
   ·rw[df f,Bool.false_and,Bool.and_false];have:GX R (List.replicate (r+1) true++l)=false:=by
     rw[List.replicate_succ,List.cons_append,GX];have e:=LK (r+1) l;rw[List.replicate_succ,List.cons_append] at e;rw[e,df (by omega)];rfl
    rw[this,Bool.and_false]
  ·rw[df d,Bool.false_and];have:¬(s+(IW (true::l):Int)≤W):=by rw[IW];simp;omega
   rw[df this];rfl
theorem K8(n b i:Nat)(h:i<n):(wl n b).drop i=b.testBit i::(wl n b).drop (i+1):=by
 rw[List.drop_eq_getElem_cons (by rw[FQ];exact h)]
 congr 1
 simp[wl]
theorem Ut(K:Nat)(y:Ar)(b a:Nat)(h0:0≤y.Am)(h9:y.Am≤9)(d:0≤y.Ay)(f:y.Ay≤y.Am+1)(i:a≤9):∀(k m e:Nat) (g:Bool),(a:Int)+y.Ay+1=e+k→k<m→
  Cy K y b (a:Int) m g (e:Int)=some (g&&decide (k≤lead ((wl (days y) b).drop e))):=by
 intro k
 induction k with
 |zero=>
  intro m e g h hm;cases m with
  |zero=>omega
  |succ m=>rw[Cy.eq_2,BB (by omega) (by omega),cf (df (by omega)),dt (Nat.zero_le _),Bool.and_true]
 |succ k ih=>
  intro m e g h hm;cases m with
  |zero=>omega
  |succ m=>
   rw[Cy.eq_2,BB (by omega) (by omega),ct (dt (by omega))];cases g with
   |false=>
    rw[cf rfl,BB (by omega) (by omega),C2,ih m (e+1) false (by omega) (by omega)];rfl
   |true=>
    rw[ct rfl,Bool.true_and]
    by_cases c:(e:Int)≤y.Am
    ·rw[ct (dt c),bd (Mj K b e (by omega)),BB (by omega) (by omega),C2,ih m (e+1) _ (by omega) (by omega),K8 (days y) b e (by unfold days;omega)];cases b.testBit e with
     |false=>
      rw[Bool.false_and,df (show¬(k+1≤lead (false::_)) by show¬(k+1≤0);omega)]
     |true=>
      rw[Bool.true_and]
      congr 1
      rw[Bool.eq_iff_iff,decide_eq_true_eq,decide_eq_true_eq];show _↔k+1≤lead _+1;omega
    ·rw[cf (df c),BB (by omega) (by omega),C2,ih m (e+1) false (by omega) (by omega),show(wl (days y) b).drop e=[] from List.drop_eq_nil_of_le (by rw[FQ];unfold days;omega)];rw[Bool.false_and,df (show¬(k+1≤lead []) by show¬(k+1≤0);omega)]
theorem S1(K:Nat)(y:Ar)(b a:Nat)(h0:0≤y.Am)(h9:y.Am≤9)(d:0≤y.Ay)(f:y.Ay≤y.Am+1)(i:a≤9):∀(k m e:Nat) (g:Bool),(a:Int)+y.Ay+1=e+k→k<m→
  Cv K y b (a:Int) m g (e:Int)=some (g&&decide (k≤lead ((wl (days y) b).drop e))):=by
 intro k
 induction k with
 |zero=>
  intro m e g h hm;cases m with
  |zero=>omega
  |succ m=>rw[Cv.eq_2,BB (by omega) (by omega),cf (df (by omega)),dt (Nat.zero_le _),Bool.and_true]
 |succ k ih=>
  intro m e g h hm;cases m with
  |zero=>omega
  |succ m=>
   rw[Cv.eq_2,BB (by omega) (by omega),ct (dt (by omega))];cases g with
   |false=>
    rw[cf rfl,BB (by omega) (by omega),C2,ih m (e+1) false (by omega) (by omega)];rfl
   |true=>
    rw[ct rfl,Bool.true_and]
    by_cases c:(e:Int)≤y.Am
    ·rw[ct (dt c),bd (Mj K b e (by omega)),BB (by omega) (by omega),C2,ih m (e+1) _ (by omega) (by omega),K8 (days y) b e (by unfold days;omega)];cases b.testBit e with
     |false=>
      rw[Bool.false_and,df (show¬(k+1≤lead (false::_)) by show¬(k+1≤0);omega)]
     |true=>
      rw[Bool.true_and]
      congr 1
      rw[Bool.eq_iff_iff,decide_eq_true_eq,decide_eq_true_eq];show _↔k+1≤lead _+1;omega
    ·rw[cf (df c),BB (by omega) (by omega),C2,ih m (e+1) false (by omega) (by omega),show(wl (days y) b).drop e=[] from List.drop_eq_nil_of_le (by rw[FQ];unfold days;omega)];rw[Bool.false_and,df (show¬(k+1≤lead []) by show¬(k+1≤0);omega)]
theorem P0{K:Nat}(y:Ar)(b:Nat)(h0:0≤y.Am)(h9:y.Am≤9)(c:0≤y.Ay)(f:y.Ay≤y.Am+1)(hK:2000≤K):∀(k m i:Nat) (s:Int),days y=i+k→k<m→0≤s→s≤i→
  CM K y b m s (i:Int)=some (cond (GX y.Ay ((wl (days y) b).drop i)) (.inr (s+(IW ((wl (days y) b).drop i):Int))) (.inl false)):=by
 intro k
 induction k with
 |zero=>
  intro m i s h hm j l;cases m with
  |zero=>omega
  |succ m=>
   rw[CM.eq_2,cf (df (by unfold days at h;omega)),List.drop_eq_nil_of_le (by rw[FQ];omega)];show _=some (Sum.inr (s+((0:Nat):Int)));rw[Int.natCast_zero,Int.add_zero]
 |succ k ih=>
  intro m i s h hm j l;cases m with
  |zero=>omega
  |succ m=>
   have p:days y≤10:=by unfold days;omega
   have hi:i<days y:=by omega
   have g:(i:Int)≤y.Am:=by unfold days at hi;omega
   have d:=Ut K y b i h0 h9 c f (by omega) (y.Ay+1).toNat K i true (by omega) (by omega);have a:=S1 K y b i h0 h9 c f (by omega) (y.Ay+1).toNat K i true (by omega) (by omega);have n:decide ((y.Ay+1).toNat≤lead ((wl (days y) b).drop i))= !decide ((lead ((wl (days y) b).drop i):Int)≤y.Ay):=by
    rw[←decide_not];congr 1;rw[eq_iff_iff];omega
   rw[Bool.true_and,n] at d a;rw[CM.eq_2,ct (dt g),bd (Mj K b i (by omega))];have e:=K8 (days y) b i hi;have o:GX y.Ay ((wl (days y) b).drop i)=(decide ((lead ((wl (days y) b).drop i):Int)≤y.Ay)&&GX y.Ay ((wl (days y) b).drop (i+1))):=by
    conv=>lhs;rw[e]
    rw[GX,←e]
   have ec:IW ((wl (days y) b).drop i)=(cond (b.testBit i) 1 0)+IW ((wl (days y) b).drop (i+1)):=by rw[e,IW]
   rw[o,ec];cases q:b.testBit i with
   |true=>
    rw[ct rfl,BB (by omega) (by omega),bd d];cases decide ((lead ((wl (days y) b).drop i):Int)≤y.Ay) with
    |false=>rw[Bool.false_and];rfl
    |true=>
     rw[nt,BB (by omega) (by omega),C2,ih m (i+1) (s+1) (by omega) (by omega) (by omega) (by omega),Bool.true_and]
     congr 2
     simp;omega
   |false=>
    rw[cf rfl,bd a];cases decide ((lead ((wl (days y) b).drop i):Int)≤y.Ay) with
    |false=>rw[Bool.false_and];rfl
    |true=>
     rw[nt,BB (by omega) (by omega),C2,ih m (i+1) s (by omega) (by omega) (by omega) (by omega),Bool.true_and]
     congr 2
     simp
theorem Lt{K:Nat}(y:Ar)(b:Nat)(h0:0≤y.Am)(h9:y.Am≤9)(a:0≤y.Ay)(d:y.Ay≤y.Am+1)(f:0≤y.Ao)(hK:2000≤K):Ed K y b=some (Hu y (wl (days y) b)):=by
 unfold Ed;have g:days y≤10:=by unfold days;omega
 have e:=P0 (K:=K) y b h0 h9 a d hK (days y) K 0 0 (by omega) (by omega) (by omega) (by omega);rw[Int.natCast_zero,List.drop_zero] at e;rw[bd e];have c:=Of y.Ao y.Ay a (wl (days y) b) 0 0 f (by omega);rw[Int.natCast_zero] at c;unfold Hu;rw[c];show _=some (_&&GX y.Ay (wl (days y) b));cases GX y.Ay (wl (days y) b) with
 |true=>rw[Bool.and_true];rfl
 |false=>rw[Bool.and_false];rfl
def G0 (y:Ar) (k d:Nat):List Int:=((List.range' k d).filter fun b=>Hu y (wl (days y) b)).map fun b:Nat=>(b:Int)
theorem Nq(y:Ar):(G0 y 0 (2^days y)).length=(Bx y).length:=by
 unfold G0 Bx;rw[List.length_map,List.range_eq_range',List.filter_map,List.length_map];rfl
theorem P1{K:Nat}(y:Ar)(h0:0≤y.Am)(h9:y.Am≤9)(d:0≤y.Ay)(f:y.Ay≤y.Am+1)(g:0≤y.Ao)(hK:2000≤K):∀(k m i:Nat) (a:List Int),2^days y=i+k→k<m→a.length≤i→
  CR K y m a (i:Int)=some (a++G0 y i k):=by
 intro k;have j:days y≤10:=by unfold days;omega
 have n:=IU _ j;have b:y.Am+1=(days y:Int):=by unfold days;omega
 have c:Fw (1:Int) (days y:Int)=((2^days y:Nat):Int):=by
  unfold Fw;rw[Int.one_mul,Int.toNat_natCast,Int.natCast_pow];rfl
 have e:Jl (1:Int) (days y:Int)=some ():=by
  refine if_pos ⟨by omega,by omega,?_,?_⟩
  ·have:(0:Int)≤1*2^((days y:Nat):Int).toNat:=by rw[Int.one_mul];exact Int.le_of_lt (Int.pow_pos (by omega))
   exact Int.le_trans (by omega) this
  ·rw[Int.one_mul,Int.toNat_natCast];have:((2^days y:Nat):Int)≤1024:=by omega
   rw[Int.natCast_pow] at this;exact Int.le_trans this (by omega)
 induction k with
 |zero=>
  intro m i a h hm l;cases m with
  |zero=>omega
  |succ m=>
   rw[CR.eq_2,BB (by omega) (by omega),b,bd (MH _ (by omega)),bd e,c,cf (df (by omega))];simp[G0]
 |succ k ih=>
  intro m i a h hm l;cases m with
  |zero=>omega
  |succ m=>
   rw[CR.eq_2,BB (by omega) (by omega),b,bd (MH _ (by omega)),bd e,c,ct (dt (by omega)),bd (Lt y i h0 h9 d f g hK)];unfold G0;rw[List.range'_succ,List.filter_cons];cases Hu y (wl (days y) i) with
   |true=>
    rw[ct rfl,Fx (by simp;omega),BB (by omega) (by omega),C2,ih m (i+1) _ (by omega) (by omega) (by simp;omega)];simp[G0]
   |false=>
    rw[cf rfl,BB (by omega) (by omega),C2,ih m (i+1) a (by omega) (by omega) (by omega)];simp[G0]
theorem Mk{K:Nat}(y:Ar)(h0:0≤y.Am)(h9:y.Am≤9)(a:0≤y.Ay)(b:y.Ay≤y.Am+1)(c:0≤y.Ao)(hK:2000≤K):Ej K y=some (G0 y 0 (2^days y)):=by
 unfold Ej;have d:days y≤10:=by unfold days;omega
 have f:=IU _ d;have e:=P1 (K:=K) y h0 h9 a b c hK (2^days y) K 0 [] (by omega) (by omega) (by simp);rw[Int.natCast_zero] at e;rw[bd e,List.nil_append]
theorem HR{y:Ar}(h9:y.Am≤9)(h:∀l∈y.Ad,Gr y l=true):∀l∈y.Ad,sized l∧0≤l.Au∧l.AH≤9:=fun l a=>by
 have:=Ja.1 (h l a);exact⟨LH h9 (h l a),this.1,by omega⟩
theorem QK{K:Nat}(y:Ar)(h0:0≤y.Am)(h9:y.Am≤9)(a:0≤y.Ay)(b:y.Ay≤y.Am+1)(c:0≤y.Ao)(d:y.Ad.length≤4)(f:∀l∈y.Ad,sized l∧0≤l.Au∧l.AH≤9)(hK:2000≤K):
  DE K y=some (Jn 3000 ((Bx y).length:Int) y.Ad):=by
 unfold DE;have g:days y≤10:=by unfold days;omega
 have hw:=KH y g;have e:=Ul y d f (K:=K) y.Ad.length K 0 ((Bx y).length:Int) (by omega) (by omega) (by omega) (by omega);rw[Int.natCast_zero,List.drop_zero] at e;rw[bd (Mk y h0 h9 a b c hK),Nq,bd e]
theorem S2(K:Nat)(y:Ar)(d:y.Ad.length≤4):∀(k m i:Nat),y.Ad.length=i+k→k<m→
  Dv K y m (i:Int)=some (cond ((y.Ad.drop i).all (Gr y)) (.inr ()) (.inl 1)):=by
 intro k
 induction k with
 |zero=>
  intro m i h hm;cases m with
  |zero=>omega
  |succ m=>rw[Dv.eq_2,cf (df (by omega)),List.drop_eq_nil_of_le (by omega)];rfl
 |succ k ih=>
  intro m i h hm;cases m with
  |zero=>omega
  |succ m=>
   have hi:i<y.Ad.length:=by omega
   rw[Dv.eq_2,ct (dt (by omega)),Ca hi,List.drop_eq_getElem_cons hi,List.all_cons];unfold Gr;generalize y.Ad[i]=l
   by_cases a:l.Au<0
   ·rw[ct (dt a),df (show¬(0≤l.Au) by omega)];rfl
   rw[cf (df a),dt (show 0≤l.Au by omega)]
   by_cases b:l.AH<l.Au
   ·rw[ct (dt b),df (show¬(l.Au≤l.AH) by omega)];rfl
   rw[cf (df b),dt (show l.Au≤l.AH by omega)]
   by_cases c:y.Am<l.AH
   ·rw[ct (dt c),df (show¬(l.AH≤y.Am) by omega)];rfl
   rw[cf (df c),dt (show l.AH≤y.Am by omega),bd (LG ..)];cases FK l.Aq 1 5 with
   |false=>rfl
   |true=>
    rw[nt,bd (LG ..)];cases FK l.B1 1 5 with
    |false=>rfl
    |true=>
     rw[nt,bd (LG ..)];cases FK l.Cj 0 y.Am with
     |false=>rfl
     |true=>rw[nt,BB (by omega) (by omega),C2,ih m (i+1) (by omega) (by omega)];rfl
theorem O7{K:Nat}(hK:2000≤K)(y:Ar):EI K y=some (check y):=by
 unfold EI check
 by_cases g:9<y.Am
 ·rw[ct (dt g),if_pos (.inl g)]
 rw[cf (df g)]
 by_cases i:2<y.Ak
 ·rw[ct (dt i),if_pos (.inr (.inl i))]
 rw[cf (df i)]
 by_cases j:4<(y.Ad.length:Int)
 ·rw[ct (dt j),if_pos (.inr (.inr j))]
 rw[cf (df j),if_neg (by omega)]
 by_cases a:y.Am<0
 ·rw[ct (dt a),if_pos (.inl a)]
 rw[cf (df a)]
 by_cases b:y.Ak<1
 ·rw[ct (dt b),if_pos (.inr (.inl b))]
 rw[cf (df b),BB (by omega) (by omega),bd (LG ..)];cases m:FK y.Ao 0 (y.Am+1) with
 |false=>rw[nf,if_pos (.inr (.inr (.inl rfl)))]
 |true=>
  rw[nt,BB (by omega) (by omega),bd (LG ..)];cases n:FK y.Ay 0 (y.Am+1) with
  |false=>rw[nf,if_pos (.inr (.inr (.inr (.inl rfl))))]
  |true=>
   have e:=S2 K y (by omega) y.Ad.length K 0 (by omega) (by omega);rw[Int.natCast_zero,List.drop_zero] at e;rw[nt,bd e];cases o:y.Ad.all (Gr y) with
   |false=>rw[if_pos (.inr (.inr (.inr (.inr rfl))))];rfl
   |true=>
    have q:=Fs.1 m;have r:=Fs.1 n;have k:=HR (y:=y) (by omega) (List.all_eq_true.1 o);rw[if_neg (by simp[a,b])];show(DE K y).bind _=_;rw[bd (QK y (by omega) (by omega) (by omega) (by omega) (by omega) (by omega) k hK)];have f:=MA (c:=3000) (by omega) ((Bx y).length:Int) (by omega) fun l p=>(k l p).1;unfold F8
    by_cases d:1000<((Bx y).length:Int)*Fg y.Ad
    ·rw[ct (dt (f.2 d)),if_pos d]
    ·rw[cf (df fun h=>d (f.1 h)),if_neg d]
end Go.Proofs.YtkljfdkmjdjpfaaGreat
end
section
namespace Go.Proofs.YtkljfdkmjdjpfaaGreat
def IA(y:Ar):List Nat:=(List.range (2^days y)).filter fun b=>Hu y (wl (days y) b)
theorem QL(y:Ar):G0 y 0 (2^days y)=(IA y).map fun b:Nat=>(b:Int):=by
 unfold G0 IA;rw[List.range_eq_range']
theorem KP(y:Ar):Bx y=(IA y).map (wl (days y)):=by
 unfold Bx IA;rw[List.filter_map];rfl
theorem KQ(y:Ar):(IA y).length=(Bx y).length:=by rw[KP,List.length_map]
def JY:List Be→Nat→List Int
 |[],_=>[]
 |l::r,n=>(l.Au+((n%(B4 l).toNat:Nat):Int))::JY r (n/(B4 l).toNat)
def Og(y:Ar)(n:Nat):AT:=⟨JY y.Ad (n/(Bx y).length),(Bx y).getD (n%(Bx y).length) []⟩
theorem Uu(K:Nat)(y:Ar)(w:y.Ad.length≤4)(c:∀l∈y.Ad,sized l∧0≤l.Au∧l.AH≤9):∀(k m i:Nat) (q:Nat) (a:List Int),y.Ad.length=i+k→k<m→q≤100000→a.length≤i→
  Ef K y m (q:Int) (i:Int) a=some (a++JY (y.Ad.drop i) q):=by
 intro k
 induction k with
 |zero=>
  intro m i q a h hm d e;cases m with
  |zero=>omega
  |succ m=>rw[Ef.eq_2,cf (df (by omega)),List.drop_eq_nil_of_le (by omega)];simp[JY]
 |succ k ih=>
  intro m i q a h hm d e;cases m with
  |zero=>omega
  |succ m=>
   have hi:i<y.Ad.length:=by omega
   obtain⟨⟨s1,s2⟩,f,j⟩:=c y.Ad[i] (List.getElem_mem hi);have b:((B4 y.Ad[i]).toNat:Int)=B4 y.Ad[i]:=by omega
   have p:1≤(B4 y.Ad[i]).toNat:=by omega
   have g:=Qu K _ f (by unfold B4 at s1;omega) j;have n:(q:Int)%B4 y.Ad[i]=((q%(B4 y.Ad[i]).toNat:Nat):Int):=by rw[Int.natCast_emod,b]
   have o:(q:Int)/B4 y.Ad[i]=((q/(B4 y.Ad[i]).toNat:Nat):Int):=by rw[Int.natCast_ediv,b]
   have r:q%(B4 y.Ad[i]).toNat<(B4 y.Ad[i]).toNat:=Nat.mod_lt _ (by omega);have s:q/(B4 y.Ad[i]).toNat≤q:=Nat.div_le_self ..;have t:(0:Int)≤((q%(B4 y.Ad[i]).toNat:Nat):Int):=Int.natCast_nonneg _;have u:(0:Int)≤((q/(B4 y.Ad[i]).toNat:Nat):Int):=Int.natCast_nonneg _;have v:B4 y.Ad[i]=y.Ad[i].AH-y.Ad[i].Au+1:=rfl;rw[Ef.eq_2,ct (dt (by omega)),Ca hi,bd g,PQ (by omega) s1,n,BB (by omega) (by omega),Fx (by simp;omega),bd g,Ui (by omega) s1,o,BB (by omega) (by omega),BB (by omega) (by omega),C2];rw[ih m (i+1) _ _ (by omega) (by omega) (by omega) (by simp;omega),List.drop_eq_getElem_cons hi,JY];simp
theorem S3(K:Nat)(y:Ar)(b:Nat)(h0:0≤y.Am)(h9:y.Am≤9):∀(k m i:Nat) (a:List Bool),days y=i+k→k<m→a.length≤i→
  D4 K y (b:Int) m (i:Int) a=some (a++(wl (days y) b).drop i):=by
 intro k
 induction k with
 |zero=>
  intro m i a h hm c;cases m with
  |zero=>omega
  |succ m=>rw[D4.eq_2,cf (df (by unfold days at h;omega)),List.drop_eq_nil_of_le (by rw[FQ];omega)];simp
 |succ k ih=>
  intro m i a h hm c;cases m with
  |zero=>omega
  |succ m=>
   have hi:(i:Int)≤y.Am:=by unfold days at h;omega
   have d:=K8 (days y) b i (by omega);rw[D4.eq_2,ct (dt hi),bd (Mj K b i (by omega)),Fx (by simp;omega),BB (by omega) (by omega),C2,ih m (i+1) _ (by omega) (by omega) (by simp;omega),d];simp
theorem Vv{K:Nat}(y:Ar)(a:Fe y)(n:Nat)(e:(n:Int)<F8 y)(hK:2000≤K):F4 K y (G0 y 0 (2^days y)) (n:Int)=some (Og y n):=by
 unfold F4;have h0:=a.h0;have h9:=a.h9;have i:=a.n4;have hm:=a.many;have j:=HR h9 a.N4;have q:days y≤10:=by unfold days;omega
 have hlen:1≤(Bx y).length:=by
  rcases Nat.eq_zero_or_pos (Bx y).length with h|h
  ·unfold F8 at e;rw[h] at e;simp at e;omega
  ·exact h
 rw[QL,List.length_map,KQ];have k:(n:Int)%((Bx y).length:Int)=((n%(Bx y).length:Nat):Int):=by rw[Int.natCast_emod]
 have l:(n:Int)/((Bx y).length:Int)=((n/(Bx y).length:Nat):Int):=by rw[Int.natCast_ediv]
 have f:n%(Bx y).length<(Bx y).length:=Nat.mod_lt _ (by omega);have m:n/(Bx y).length≤n:=Nat.div_le_self ..;have o:(0:Int)≤((n%(Bx y).length:Nat):Int):=Int.natCast_nonneg _;have p:(0:Int)≤((n/(Bx y).length:Nat):Int):=Int.natCast_nonneg _;have c:n%(Bx y).length<(IA y).length:=by rw[KQ];exact f
 have hi:n%(Bx y).length<((IA y).map fun b:Nat=>(b:Int)).length:=by rw[List.length_map];exact c
 have g:=Uu K y i j y.Ad.length K 0 (n/(Bx y).length) [] (by omega) (by omega) (by omega) (by simp);have d:=S3 K y ((IA y)[n%(Bx y).length]) h0 h9 (days y) K 0 [] (by omega) (by omega) (by simp);rw[Int.natCast_zero,List.drop_zero,List.nil_append] at g d;rw[PQ (by omega) (by omega),k,Ca hi,Ui (by omega) (by omega),l,BB (by omega) (by omega),bd g,List.getElem_map,bd d];unfold Og
 congr 2
 rw[List.getD_eq_getElem?_getD,List.getElem?_eq_getElem f];have:(Bx y)[n%(Bx y).length]'f=((IA y).map (wl (days y)))[n%(Bx y).length]'(by rw[List.length_map];exact c):=by
  congr 1;exact KP y
 rw[this,List.getElem_map];rfl
def HD(y:Ar)(k d:Nat):List AT:=(List.range' k d).map (Og y)
theorem MI{K:Nat}(y:Ar)(a:Fe y)(hK:2000≤K):DE K y=some (F8 y):=by
 have b:=HR a.h9 a.N4;rw[QK y a.h0 a.h9 a.u0 a.u1 a.w0 a.n4 b hK];have:=a.many;unfold F8 at this⊢;rw[O4 (by omega) _ (by omega) (fun l c=>(b l c).1) this]
theorem RO{K:Nat}(y:Ar)(b:Fe y)(hK:2000≤K):∀(k m i:Nat) (a:List AT),(F8 y).toNat=i+k→k<m→a.length≤i→
  Dz K y (G0 y 0 (2^days y)) m a (i:Int)=some (a++HD y i k):=by
 have e:=b.many;have f:0≤F8 y:=by
  unfold F8;have:=Jb (ls:=y.Ad) fun l c=>(HR b.h9 b.N4 l c).1;exact Int.mul_nonneg (by omega) (by omega)
 intro k
 induction k with
 |zero=>
  intro m i a h hm d;cases m with
  |zero=>omega
  |succ m=>rw[Dz.eq_2,bd (MI y b hK),cf (df (by omega))];simp[HD]
 |succ k ih=>
  intro m i a h hm d;cases m with
  |zero=>omega
  |succ m=>
   rw[Dz.eq_2,bd (MI y b hK),ct (dt (by omega)),bd (Vv y b i (by omega) hK),Fx (by simp;omega),BB (by omega) (by omega),C2,ih m (i+1) _ (by omega) (by omega) (by simp;omega)];unfold HD;rw[List.range'_succ];simp
def IX(y:Ar):List AT:=HD y 0 (F8 y).toNat
theorem Oh{K:Nat}(y:Ar)(a:Fe y)(hK:2000≤K):EC K y=some (IX y):=by
 unfold EC;have hm:=a.many;have e:=RO (K:=K) y a hK (F8 y).toNat K 0 [] (by omega) (by omega) (by simp);rw[Int.natCast_zero] at e;rw[bd (Mk y a.h0 a.h9 a.u0 a.u1 a.w0 hK),bd e,List.nil_append];rfl
theorem OP(y:Ar):(IX y).length=(F8 y).toNat:=by unfold IX HD;simp
theorem Ml:∀{ls:List Be} (n:Nat),(∀l∈ls,sized l)→DF ls (JY ls n)=true
 |[],_,_=>rfl
 |l::r,n,h=>by
  have a:=h l (List.mem_cons_self ..);have b:n%(B4 l).toNat<(B4 l).toNat:=Nat.mod_lt _ (by have:=a.1;omega);rw[JY,DF,Ml _ fun x c=>h x (List.mem_cons_of_mem _ c),Bool.and_true,Fs];unfold B4 at b⊢;omega
theorem QM:∀{ls:List Be} {c:List Int},(∀l∈ls,sized l)→DF ls c=true→∃n:Nat,(n:Int)<Fg ls∧JY ls n=c
 |[],[],_,_=>⟨0,by simp[Fg],rfl⟩
 |l::r,a::d,h,b=>by
  rw[DF,Bool.and_eq_true] at b;obtain⟨q,o,e⟩:=QM (fun x g=>h x (List.mem_cons_of_mem _ g)) b.2;have i:=h l (List.mem_cons_self ..);have p:=Fs.1 b.1;have f:(a-l.Au).toNat<(B4 l).toNat:=by unfold B4;omega
  have j:0<(B4 l).toNat:=by omega
  refine⟨(a-l.Au).toNat+(B4 l).toNat*q,?_,?_⟩
  ·have k:B4 l*((q:Int)+1)≤B4 l*Fg r:=Int.mul_le_mul_of_nonneg_left (by omega) (by have:=i.1;omega);rw[Fg];rw[Int.mul_add,Int.mul_one] at k;have m:(((a-l.Au).toNat+(B4 l).toNat*q:Nat):Int)=((a-l.Au).toNat:Int)+B4 l*(q:Int):=by
    rw[Int.natCast_add,Int.natCast_mul]
    congr 2;omega
   rw[m];omega
  ·rw[JY,Nat.add_mul_mod_self_left,Nat.mod_eq_of_lt f,Nat.add_mul_div_left _ _ j,Nat.div_eq_of_lt f,Nat.zero_add,e]
   congr 1;omega
 |[],_::_,_,h=>by cases h
 |_::_,[],_,h=>by cases h
theorem JZ{y:Ar}(d:Fe y){t:AT}:t∈IX y↔Er y t=true:=by
 have i:=HR d.h9 d.N4;have b:∀l∈y.Ad,sized l:=fun l k=>(i l k).1;rw[←G6 d.h0];unfold IX HD;rw[List.mem_map];constructor
 ·rintro⟨n,a,rfl⟩;rw[←List.range_eq_range',List.mem_range] at a;have hlen:0<(Bx y).length:=by
   rcases Nat.eq_zero_or_pos (Bx y).length with h|h
   ·unfold F8 at a;rw[h] at a;simp at a
   ·exact h
  have g:n%(Bx y).length<(Bx y).length:=Nat.mod_lt _ hlen;unfold Cn Og;rw[List.mem_flatMap];refine⟨(Bx y).getD (n%(Bx y).length) [],?_,List.mem_map.2 ⟨_,GW.2 (Ml _ b),rfl⟩⟩;rw[List.getD_eq_getElem?_getD,List.getElem?_eq_getElem g];exact List.getElem_mem g
 ·intro h;unfold Cn at h;rw[List.mem_flatMap] at h;obtain⟨w,hw,m⟩:=h;obtain⟨c,o,rfl⟩:=List.mem_map.1 m;obtain⟨q,r,e⟩:=QM b (GW.1 o);obtain⟨j,f,s⟩:=List.getElem_of_mem hw;have hlen:0<(Bx y).length:=by omega
  refine⟨j+(Bx y).length*q,?_,?_⟩
  ·rw[←List.range_eq_range',List.mem_range];have p:((Bx y).length:Int)*((q:Int)+1)≤((Bx y).length:Int)*Fg y.Ad:=Int.mul_le_mul_of_nonneg_left (by omega) (by omega);rw[Int.mul_add,Int.mul_one] at p;have u:((j+(Bx y).length*q:Nat):Int)=(j:Int)+((Bx y).length:Int)*(q:Int):=by
    rw[Int.natCast_add,Int.natCast_mul]
   unfold F8;omega
  ·unfold Og;rw[Nat.add_mul_mod_self_left,Nat.mod_eq_of_lt f,Nat.add_mul_div_left _ _ hlen,Nat.div_eq_of_lt f,Nat.zero_add,e,List.getD_eq_getElem?_getD,List.getElem?_eq_getElem f]
   congr 1
end Go.Proofs.YtkljfdkmjdjpfaaGreat
end
section
namespace Go.Proofs.YtkljfdkmjdjpfaaGreat
theorem Oi(n:Nat)(h:n<63):Jl (1:Int) (n:Int)=some ():=by
 have a:2^n≤2^62:=Nat.pow_le_pow_right (by omega) (by omega);have b:(1:Int)*2^((n:Nat):Int).toNat=((2^n:Nat):Int):=by rw[Int.one_mul,Int.toNat_natCast,Int.natCast_pow];rfl
 have c:2^62=4611686018427387904:=rfl;rw[c] at a;refine if_pos ⟨by omega,by omega,?_,?_⟩
 ·rw[b];exact Int.le_trans (by decide) (Int.natCast_nonneg _)
 ·rw[b];exact Int.le_trans (Int.ofNat_le.2 a) (by decide)
theorem MJ(n:Nat):Fw (1:Int) (n:Int)=((2^n:Nat):Int):=by
 unfold Fw;rw[Int.one_mul,Int.toNat_natCast,Int.natCast_pow];rfl
theorem QN(a b:Nat)(c:a≤9223372036854775807)(d:b≤9223372036854775807):NX (a:Int) (b:Int)=some ():=if_pos ⟨⟨by omega,by omega⟩,by omega,by omega⟩
theorem QO(a b:Nat):L3 (a:Int) (b:Int)=((a|||b:Nat):Int):=rfl
theorem Ii(n:Nat)(h:n≤62):2^n≤4611686018427387904:=by
 have a:2^n≤2^62:=Nat.pow_le_pow_right (by omega) h;exact a
theorem QP(l:List Bool)(i:Nat)(hi:i<l.length):bitsOf (l.take (i+1))=cond l[i] (bitsOf (l.take i)|||2^i) (bitsOf (l.take i)):=by
 apply Nat.eq_of_testBit_eq;intro j;rw[Hn];have a:(l.take i).length=i:=by simp;omega
 have e:l.take (i+1)=l.take i++[l[i]]:=by rw[List.take_add_one,List.getElem?_eq_getElem hi];rfl
 rw[e,List.getD_eq_getElem?_getD];have b:(cond l[i] (bitsOf (l.take i)|||2^i) (bitsOf (l.take i))).testBit j=((l.take i).getD j false||(l[i]&&decide (i=j))):=by
  cases l[i] with
  |true=>rw[Bool.true_and];show(bitsOf (l.take i)|||2^i).testBit j=_;rw[Nat.testBit_or,Hn,Nat.testBit_two_pow]
  |false=>rw[Bool.false_and,Bool.or_false];exact Hn ..
 rw[b,List.getD_eq_getElem?_getD];rcases Nat.lt_trichotomy j i with h|h|h
 ·rw[List.getElem?_append_left (by omega),df (by omega),Bool.and_false,Bool.or_false]
 ·subst h;rw[List.getElem?_append_right (by omega),a,List.getElem?_eq_none (l:=l.take j) (by omega),dt rfl];simp
 ·rw[List.getElem?_append_right (by omega),a,List.getElem?_eq_none (l:=l.take i) (by omega),df (by omega)];have:([l[i]]:List Bool)[j-i]?=none:=List.getElem?_eq_none (by simp;omega);rw[this];simp
theorem P2(l:List Bool)(h:l.length≤62):bitsOf l≤4611686018427387904:=by
 have a:=KK l;have b:=Ii l.length h;omega
theorem RP(t:AT)(f:t.Ao.length≤60):∀(k m i:Nat),t.Ao.length=i+k→k<m→
  Cq t m (bitsOf (t.Ao.take i):Int) (i:Int)=some (bitsOf t.Ao:Int):=by
 intro k
 induction k with
 |zero=>
  intro m i h hm;cases m with
  |zero=>omega
  |succ m=>rw[Cq.eq_2,cf (df (by omega)),List.take_of_length_le (by omega)]
 |succ k ih=>
  intro m i h hm;cases m with
  |zero=>omega
  |succ m=>
   have hi:i<t.Ao.length:=by omega
   have a:=QP t.Ao i hi;have c:=P2 (t.Ao.take i) (by simp;omega);have d:=Ii i (by omega);rw[Cq.eq_2,ct (dt (by omega)),Ca hi];cases b:t.Ao[i] with
   |true=>
    rw[b] at a;rw[ct rfl,bd (MH i (by omega)),bd (Oi i (by omega)),MJ,bd (QN _ _ (by omega) (by omega)),BB (by omega) (by omega),C2,QO];have e:bitsOf (t.Ao.take i)|||2^i=bitsOf (t.Ao.take (i+1)):=a.symm;rw[e];exact ih m (i+1) (by omega) (by omega)
   |false=>
    rw[b] at a;have e:bitsOf (t.Ao.take i)=bitsOf (t.Ao.take (i+1)):=a.symm;rw[cf rfl,BB (by omega) (by omega),C2,e];exact ih m (i+1) (by omega) (by omega)
theorem QQ(K:Nat)(y:Ar)(t:AT)(b:y.Ad.length≤4)(c:t.Comes.length=y.Ad.length):∀(k m i:Nat),y.Ad.length=i+k→k<m→
  Dk K y t m (i:Int)=some (cond (DF (y.Ad.drop i) (t.Comes.drop i)) (.inr ()) (.inl false)):=by
 intro k
 induction k with
 |zero=>
  intro m i h hm;cases m with
  |zero=>omega
  |succ m=>rw[Dk.eq_2,cf (df (by omega)),List.drop_eq_nil_of_le (by omega),List.drop_eq_nil_of_le (by omega)];rfl
 |succ k ih=>
  intro m i h hm;cases m with
  |zero=>omega
  |succ m=>
   have hi:i<y.Ad.length:=by omega
   have a:i<t.Comes.length:=by omega
   rw[Dk.eq_2,ct (dt (by omega)),Ca a,Ca hi,Ca hi,bd (LG ..),List.drop_eq_getElem_cons hi,List.drop_eq_getElem_cons a,DF];cases d:FK t.Comes[i] y.Ad[i].Au y.Ad[i].AH with
   |false=>rw[nf];rfl
   |true=>rw[nt,BB (by omega) (by omega),C2,Bool.true_and];exact ih m (i+1) (by omega) (by omega)
theorem QR{K:Nat}(y:Ar)(a:Fe y)(t:AT)(hK:2000≤K):E6 K y t=some (Er y t):=by
 unfold E6 Er;have h0:=a.h0;have h9:=a.h9;have f:=a.n4
 by_cases c:t.Comes.length=y.Ad.length
 ·rw[cf (by rw[c];simp),BB (by omega) (by omega)]
  by_cases hw:(t.Ao.length:Int)=y.Am+1
  ·have e:=QQ K y t f c y.Ad.length K 0 (by omega) (by omega);have b:=RP t (by omega) t.Ao.length K 0 (by omega) (by omega);rw[Int.natCast_zero,List.drop_zero,List.drop_zero] at e;rw[List.take_zero,Int.natCast_zero] at b;have d:Cq t K (0:Int) (0:Int)=some (bitsOf t.Ao:Int):=b;rw[cf (by rw[hw];simp),bd e,dt hw,Bool.true_and];cases DF y.Ad t.Comes with
   |false=>rw[Bool.and_false];rfl
   |true=>
    show(Cq t K 0 0).bind _=_;have g:days y=t.Ao.length:=by unfold days;omega
    rw[bd d,bd (Lt y _ h0 h9 a.u0 a.u1 a.w0 hK),g,Na,Bool.and_true]
  ·rw[ct (by simpa using hw),df hw];rfl
 ·rw[ct (by simp;omega)];cases h:DF y.Ad t.Comes with
  |false=>rw[Bool.and_false,Bool.and_false]
  |true=>exact absurd (GV h) c
end Go.Proofs.YtkljfdkmjdjpfaaGreat
end
section
namespace Go.Proofs.YtkljfdkmjdjpfaaGreat
def seen (n:Int):List Int→Nat→Option Nat
 |[],m=>some m
 |x::xs,m=>cond (FK x 0 (n-1)) (cond (m.testBit x.toNat) none (seen n xs (m|||2^x.toNat))) none
theorem Lu(n:Int):∀(xs ys:List Int) (m:Nat),seen n (xs++ys) m=(seen n xs m).bind (seen n ys)
 |[],ys,m=>rfl
 |x::xs,ys,m=>by
  rw[List.cons_append,seen,seen];cases FK x 0 (n-1) with
  |false=>rfl
  |true=>
   cases m.testBit x.toNat with
   |true=>rfl
   |false=>exact Lu n xs ys _
def RQ:Option Nat→Bool⊕Int
 |none=>.inl false
 |some m=>.inr (m:Int)
theorem RR{m i n:Nat}(hm:m<2^n)(hi:i<n):m|||2^i<2^n:=Nat.or_lt_two_pow hm (Nat.pow_lt_pow_right (by omega) hi)
theorem Uv(K:Nat)(y:Ar)(o:List (List Int))(r:Nat)(a:r<o.length)(p:y.Ad.length≤4)(q:o[r].length≤1000):∀(k m i b:Nat),o[r].length=i+k→k<m→b<2^y.Ad.length→
  Dl K y o (r:Int) m (b:Int) (i:Int)=some (RQ (seen (y.Ad.length:Int) (o[r].drop i) b))∧∀b',seen (y.Ad.length:Int) (o[r].drop i) b=some b'→b'<2^y.Ad.length:=by
 have s:2^y.Ad.length≤4611686018427387904:=Ii _ (by omega);intro k
 induction k with
 |zero=>
  intro m i b h hm c;cases m with
  |zero=>omega
  |succ m=>
   rw[Dl.eq_2,Ca a,cf (df (by omega)),List.drop_eq_nil_of_le (by omega)];exact⟨rfl,fun b' h=>by cases h;exact c⟩
 |succ k ih=>
  intro m i b h hm c;cases m with
  |zero=>omega
  |succ m=>
   have hi:i<o[r].length:=by omega
   rw[Dl.eq_2,Ca a,ct (dt (by omega)),Ca a,Ca hi,BB (by omega) (by omega),bd (LG ..),List.drop_eq_getElem_cons hi];have d:seen (y.Ad.length:Int) (o[r][i]::o[r].drop (i+1)) b=cond (FK o[r][i] 0 ((y.Ad.length:Int)-1)) (cond (b.testBit o[r][i].toNat) none (seen (y.Ad.length:Int) (o[r].drop (i+1)) (b|||2^o[r][i].toNat))) none:=rfl;rw[d];generalize t:o[r][i]=x;cases e:FK x 0 ((y.Ad.length:Int)-1) with
   |false=>exact⟨rfl,fun b' h=>by cases h⟩
   |true=>
    have g:=Fs.1 e;obtain⟨j,rfl⟩:∃j:Nat,x=(j:Int):=⟨x.toNat,by omega⟩;have f:j<y.Ad.length:=by omega
    rw[nt,bd (Mj K b j (by omega)),Int.toNat_natCast,ct rfl];cases l:b.testBit j with
    |true=>exact⟨rfl,fun b' h=>by cases h⟩
    |false=>
     have n:=Ii j (by omega);rw[cf rfl,cf rfl,bd (MH j (by omega)),bd (Oi j (by omega)),MJ,bd (QN _ _ (by omega) (by omega)),BB (by omega) (by omega),C2,QO];exact ih m (i+1) _ (by omega) (by omega) (RR c f)
theorem Uw{K:Nat}(y:Ar)(o:List (List Int))(j:y.Ad.length≤4)(q:o.length≤1000)(n:∀l∈o,l.length≤1000)(hK:2000≤K):∀(k m i b:Nat),o.length=i+k→k<m→b<2^y.Ad.length→
  Dm K y o m (b:Int) (i:Int)=some (RQ (seen (y.Ad.length:Int) (o.drop i).flatten b))∧∀b',seen (y.Ad.length:Int) (o.drop i).flatten b=some b'→b'<2^y.Ad.length:=by
 intro k
 induction k with
 |zero=>
  intro m i b h hm d;cases m with
  |zero=>omega
  |succ m=>
   rw[Dm.eq_2,cf (df (by omega)),List.drop_eq_nil_of_le (by omega)];exact⟨rfl,fun b' h=>by cases h;exact d⟩
 |succ k ih=>
  intro m i b h hm d;cases m with
  |zero=>omega
  |succ m=>
   have hi:i<o.length:=by omega
   have e:=n o[i] (List.getElem_mem hi);obtain⟨f,g⟩:=Uv K y o i hi j e o[i].length K 0 b (by omega) (by omega) d;rw[Int.natCast_zero,List.drop_zero] at f;rw[List.drop_zero] at g;rw[Dm.eq_2,ct (dt (by omega)),bd f,List.drop_eq_getElem_cons hi,List.flatten_cons,Lu];cases p:seen (y.Ad.length:Int) o[i] b with
   |none=>exact⟨rfl,fun b' h=>by cases h⟩
   |some a=>
    have c:=ih m (i+1) a (by omega) (by omega) (g a p);refine⟨?_,c.2⟩;refine Eq.trans ?_ c.1;rw[show RQ (some a)=Sum.inr (a:Int) from rfl,Sum.elim_inr,BB (by omega) (by omega),C2]
theorem KR{n:Nat}:∀{xs:List Int} {m c:Nat},seen (n:Int) xs m=some c→(∀x∈xs,0≤x∧x<(n:Int)∧m.testBit x.toNat=false)∧xs.Nodup∧∀j:Nat,c.testBit j=(m.testBit j||decide ((j:Int)∈xs))
 |[],m,c,h=>by
  have d:m=c:=Option.some.inj h;subst d;refine⟨?_,List.nodup_nil,?_⟩
  ·intro x f;exact absurd f (List.not_mem_nil (a:=x))
  ·intro j;simp
 |x::xs,m,c,h=>by
  rw[seen] at h;cases g:FK x 0 ((n:Int)-1) with
  |false=>rw[g] at h;cases h
  |true=>
   rw[g,ct rfl] at h;cases i:m.testBit x.toNat with
   |true=>rw[i] at h;cases h
   |false=>
    rw[i,cf rfl] at h;obtain⟨k,d,l⟩:=KR h;have o:=Fs.1 g;have key:∀z∈xs,m.testBit z.toNat=false∧z≠x:=fun z b=>by
     have:=(k z b).2.2;rw[Nat.testBit_or,Bool.or_eq_false_iff] at this;refine⟨this.1,fun e=>?_⟩;rw[e,Nat.testBit_two_pow_self] at this;cases this.2
    refine⟨fun z b=>?_,List.nodup_cons.2 ⟨fun f=>(key x f).2 rfl,d⟩,fun j=>?_⟩
    ·rcases List.mem_cons.1 b with rfl|b
     ·exact⟨by omega,by omega,i⟩
     ·exact⟨(k z b).1,(k z b).2.1,(key z b).1⟩
    ·rw[l j,Nat.testBit_or,Nat.testBit_two_pow,Bool.or_assoc]
     congr 1
     rw[Bool.eq_iff_iff,Bool.or_eq_true,decide_eq_true_eq,decide_eq_true_eq,decide_eq_true_eq,List.mem_cons];exact or_congr_left ⟨fun e=>by omega,fun e=>by omega⟩
theorem Nd{n:Nat}:∀{xs:List Int} {m:Nat},(∀x∈xs,0≤x∧x<(n:Int)∧m.testBit x.toNat=false)→xs.Nodup→seen (n:Int) xs m≠none
 |[],m,_,_=>by rw[seen];simp
 |x::xs,m,h,a=>by
  obtain⟨c,f,d⟩:=h x (List.mem_cons_self ..);rw[seen,Fs.2 ⟨c,by omega⟩,d,ct rfl,cf rfl];refine Nd (fun z b=>?_) (List.nodup_cons.1 a).2;obtain⟨g1,g2,g3⟩:=h z (List.mem_cons_of_mem _ b);refine⟨g1,g2,?_⟩;rw[Nat.testBit_or,g3,Nat.testBit_two_pow,Bool.false_or,df];intro e;have:x=z:=by omega
  exact(List.nodup_cons.1 a).1 (this▸b)
theorem J0(n:Nat):(iota n).Nodup:=by
 unfold iota;refine List.Pairwise.map _ (fun a b h=>?_) (List.nodup_range (n:=n));intro e;exact h (by omega)
theorem QS(n:Nat)(xs:List Int):(∃m,seen (n:Int) xs 0=some m∧m=2^n-1)↔xs.Perm (iota n):=by
 constructor
 ·rintro⟨m,h,hm⟩;obtain⟨d,f,b⟩:=KR h;refine(List.perm_ext_iff_of_nodup f (J0 n)).2 fun x=>?_;rw[H0];constructor
  ·intro a;exact⟨(d x a).1,(d x a).2.1⟩
  ·intro a;have:=b x.toNat;rw[hm,Nat.testBit_two_pow_sub_one,dt (by omega),Nat.zero_testBit,Bool.false_or] at this;have g:=of_decide_eq_true this.symm
   rwa[show((x.toNat:Nat):Int)=x by omega] at g
 ·intro c;have i:∀x∈xs,0≤x∧x<(n:Int)∧(0:Nat).testBit x.toNat=false:=fun x a=>by
   have:=H0.1 (c.mem_iff.1 a);exact⟨this.1,this.2,Nat.zero_testBit _⟩
  have k:xs.Nodup:=c.symm.nodup (J0 n);cases e:seen (n:Int) xs 0 with
  |none=>exact absurd e (Nd i k)
  |some m=>
   refine⟨m,rfl,?_⟩;obtain⟨_,_,b⟩:=KR e;apply Nat.eq_of_testBit_eq;intro j;rw[b j,Nat.testBit_two_pow_sub_one,Nat.zero_testBit,Bool.false_or]
   congr 1
   rw[eq_iff_iff,c.mem_iff,H0];omega
theorem QT{K:Nat}(y:Ar)(o:List (List Int))(g:y.Ad.length≤4)(i:o.length≤1000)(j:∀l∈o,l.length≤1000)(hK:2000≤K):E7 K y o=some (D6 y o):=by
 unfold E7;have d:0<2^y.Ad.length:=Nat.pos_of_ne_zero (by simp);have k:=Ii y.Ad.length (by omega);obtain⟨f,n⟩:=Uw (K:=K) y o g i j hK o.length K 0 0 (by omega) (by omega) d;rw[Int.natCast_zero,List.drop_zero] at f;have b:=QS y.Ad.length o.flatten
 by_cases a:(o.length:Int)=y.Ak
 ·rw[cf (by rw[a];simp),bd f];cases c:seen (y.Ad.length:Int) o.flatten 0 with
  |none=>
   show some false=_
   congr 1
   symm
   rw[←Bool.not_eq_true,Fc];rintro⟨_,h⟩;obtain⟨m,h,_⟩:=b.2 h;rw[c] at h;cases h
  |some m=>
   show(L4 .u64 (y.Ad.length:Int)).bind _=_;rw[bd (MH _ (by omega)),bd (Oi _ (by omega)),MJ,BB (by omega) (by omega)]
   congr 1
   rw[Bool.eq_iff_iff,Fc,beq_iff_eq,←b];constructor
   ·intro h;exact⟨a,m,c,by omega⟩
   ·rintro⟨_,p,h,e⟩;rw[c] at h;cases h;omega
 ·rw[ct (by simpa using a)]
  congr 1
  symm
  rw[←Bool.not_eq_true,Fc];exact fun h=>a h.1
end Go.Proofs.YtkljfdkmjdjpfaaGreat
end
section
namespace Go.Proofs.YtkljfdkmjdjpfaaGreat
def never:Ah:=⟨-1,-1,false⟩
def Jw (n:Nat) (l:List Int) (out:List Ah):Prop:=out.length=n∧l.Nodup∧∀j∈l,∃q:Nat,j=(q:Int)∧q<n∧out[q]?=some never
theorem Oj{n:Nat}{i:Int}{r:List Int}{out:List Ah}(h:Jw n (i::r) out):Jw n r out:=⟨h.1,(List.nodup_cons.1 h.2.1).2,fun j a=>h.2.2 j (List.mem_cons_of_mem _ a)⟩
theorem O8{n i:Nat}{r:List Int}{out:List Ah}(h:Jw n r out)(hi:(i:Int)∉r)(s:Ah):Jw n r (out.set i s):=⟨by rw[List.length_set];exact h.1,h.2.1,fun j a=>by
 obtain⟨q,rfl,b,c⟩:=h.2.2 j a;refine⟨q,rfl,b,?_⟩;rw[List.getElem?_set_ne,c];intro e;exact hi (e▸a)⟩
theorem Jo(y:Ar)(w:List Bool)(c:List Int)(n:Nat):∀(l:List Int) (free:Int) (out:List Ah),y.Am<free→Jw n l out→Ep y w c l free out=out
 |[],_,_,_,_=>rfl
 |i::r,free,out,f,h=>by
  obtain⟨q,rfl,g,b⟩:=h.2.2 i (List.mem_cons_self ..);have d:EV y w (ED y (q:Int)) (max free (EO c (q:Int)))=never:=if_pos (by omega);have j:q<out.length:=by have:=h.1;omega
  have a:out[q]=never:=(List.getElem?_eq_some_iff.1 b).2;have e:out.set q never=out:=by rw[←a,List.set_getElem_self]
  rw[Ep,d,Int.toNat_natCast,e];exact Jo y w c n r _ out (by show y.Am<cond true _ _;simp;omega) (Oj h)
def Mm(y:Ar)(s:Ah):Int:=cond (s.AF==-1) (y.Am+1) (s.AF+1)
theorem Gu(y:Ar)(a:Int)(d:Nat)(b:Bool):Mm y ⟨a,(d:Int),b⟩=(d:Int)+1:=by
 unfold Mm;have:((d:Int)==-1)=false:=by rw[beq_eq_false_iff_ne];omega
 show cond ((d:Int)==-1) _ _=_;rw[this];rfl
theorem Ol(y:Ar){i:Nat}(h:i<y.Ad.length):ED y (i:Int)=y.Ad[i]:=by
 unfold ED;rw[Int.toNat_natCast,List.getD_eq_getElem?_getD,List.getElem?_eq_getElem h];rfl
theorem Nf(c:List Int){i:Nat}(h:i<c.length):EO c (i:Int)=c[i]:=by
 unfold EO;rw[Int.toNat_natCast,List.getD_eq_getElem?_getD,List.getElem?_eq_getElem h];rfl
theorem RS(y:Ar)(o:List (List Int))(t:AT)(r:Nat)(aH:r<o.length)(h9:y.Am≤9)(hw:(t.Ao.length:Int)=y.Am+1)(aL:t.Comes.length=y.Ad.length)(aM:o[r].length≤1000):∀(k m d:Nat),y.Am+1=d+k→k<m→
  (∀(a:Nat) (DV run:Int) (out:List Ah),Jw y.Ad.length (o[r].drop a) out→
   Bw y o t (r:Int) m (a:Int) (-1) DV run (d:Int) out=some (Ep y t.Ao t.Comes (o[r].drop a) (d:Int) out))∧
  (∀(a i:Nat) (DV run d0:Int) (out:List Ah),i<y.Ad.length→(i:Int)∉o[r].drop a→out[i]?=some ⟨d0,-1,false⟩→0≤DV→DV≤d→0≤run→run≤d→Jw y.Ad.length (o[r].drop a) out→
   Bw y o t (r:Int) m (a:Int) (i:Int) DV run (d:Int) out=some (Ep y t.Ao t.Comes (o[r].drop a) (Mm y (FJ (ED y (i:Int)) d0 (t.Ao.drop d) (d:Int) DV run)) (out.set i (FJ (ED y (i:Int)) d0 (t.Ao.drop d) (d:Int) DV run)))):=by
 intro k
 induction k with
 |zero=>
  intro m d h hm;cases m with
  |zero=>omega
  |succ m=>
   constructor
   ·intro a DV run out c;rw[Bw.eq_2,cf (df (by omega)),Jo y _ _ _ _ _ out (by omega) c]
   ·intro a i DV run d0 out hi aF he _ _ _ _ c;have n:i<out.length:=by have:=c.1;omega
    have j:out[i]=⟨d0,-1,false⟩:=(List.getElem?_eq_some_iff.1 he).2;rw[Bw.eq_2,cf (df (by omega)),show t.Ao.drop d=[] from List.drop_eq_nil_of_le (by omega)];have aK:FJ (ED y (i:Int)) d0 [] (d:Int) DV run=⟨d0,-1,false⟩:=rfl;have e:out.set i (⟨d0,-1,false⟩:Ah)=out:=by rw[←j,List.set_getElem_self]
    rw[aK,e,Jo y _ _ _ _ _ out (by show _<cond true _ _;simp;omega) c]
 |succ k ih=>
  intro m d h hm;cases m with
  |zero=>omega
  |succ m=>
   obtain⟨g,w⟩:=ih m (d+1) (by omega) (by omega);have z:d<t.Ao.length:=by omega
   have x:t.Ao.drop d=t.Ao[d]::t.Ao.drop (d+1):=List.drop_eq_getElem_cons z;constructor
   ·intro a DV run out c;rw[Bw.eq_2,ct (dt (by omega)),ct (dt (by omega)),Ca aH]
    by_cases aA:a<o[r].length
    ·have p:o[r].drop a=o[r][a]::o[r].drop (a+1):=List.drop_eq_getElem_cons aA;rw[p] at c;obtain⟨i,q,hi,he⟩:=c.2.2 _ (List.mem_cons_self ..);have aB:(i:Int)∉o[r].drop (a+1):=q▸(List.nodup_cons.1 c.2.1).1;have n:i<out.length:=by have:=c.1;omega
     have j:out[i]=never:=(List.getElem?_eq_some_iff.1 he).2;have aC:i<t.Comes.length:=by omega
     rw[ct (dt (by omega)),Ca aH,Ca aA,q,Ca aC]
     by_cases aG:t.Comes[i]≤(d:Int)
     ·have u:max (d:Int) (EO t.Comes (i:Int))=(d:Int):=by rw[Nf _ aC];omega
      have aI:EV y t.Ao (ED y (i:Int)) (d:Int)=FJ (ED y (i:Int)) (d:Int) (t.Ao.drop d) (d:Int) 0 0:=if_neg (by omega);have v:Ep y t.Ao t.Comes (o[r].drop a) (d:Int) out=Ep y t.Ao t.Comes (o[r].drop (a+1)) (Mm y (FJ (ED y (i:Int)) (d:Int) (t.Ao.drop d) (d:Int) 0 0)) (out.set i (FJ (ED y (i:Int)) (d:Int) (t.Ao.drop d) (d:Int) 0 0)):=by
       rw[p,q,Ep,u,aI,Int.toNat_natCast];rfl
      rw[v,x];have b:=Ol y hi;have l:∀s:Ah,i<(out.set i s).length:=fun s=>by rw[List.length_set];exact n
      have f:∀s:Ah,Jw y.Ad.length (o[r].drop (a+1)) (out.set i s):=fun s=>O8 (Oj c) aB s;rw[ct (dt aG),Ca aH,Ca aA,q,Ca n,BB (by omega) (by omega),cf (df (by omega)),Ca z,j,C2,C2,Int.toNat_natCast];cases aJ:t.Ao[d] with
      |true=>
       rw[ct rfl,Ca hi,FJ,b];cases aD:((0:Int)==y.Ad[i].Aq) with
       |true=>
        rw[ct rfl,Ca (l _),Ca (by rw[List.length_set];exact l _),BB (by omega) (by omega)];rw[ct rfl,Gu];simp only[List.getElem_set_self,List.set_set];exact g (a+1) _ _ _ (f _)
       |false=>
        rw[cf rfl,cf rfl,Ca hi];cases aE:((0:Int)+1==y.Ad[i].B1) with
        |true=>
         rw[ct rfl,Ca (l _),BB (by omega) (by omega),ct rfl,Gu];simp only[List.getElem_set_self,List.set_set];exact g (a+1) _ _ _ (f _)
        |false=>
         rw[cf rfl,cf rfl,BB (by omega) (by omega)];refine(w (a+1) i 0 (0+1) (d:Int) _ hi aB (List.getElem?_set_self n) (by omega) (by omega) (by omega) (by omega) (f _)).trans ?_;rw[List.set_set,b,C2]
      |false=>
       rw[cf rfl,Ca hi,FJ,b];cases aD:((0:Int)+1==y.Ad[i].Aq) with
       |true=>
        rw[ct rfl,Ca (l _),Ca (by rw[List.length_set];exact l _),BB (by omega) (by omega)];rw[ct rfl,Gu];simp only[List.getElem_set_self,List.set_set];exact g (a+1) _ _ _ (f _)
       |false=>
        rw[cf rfl,cf rfl,Ca hi];cases aE:((0:Int)==y.Ad[i].B1) with
        |true=>
         rw[ct rfl,Ca (l _),BB (by omega) (by omega),ct rfl,Gu];simp only[List.getElem_set_self,List.set_set];exact g (a+1) _ _ _ (f _)
        |false=>
         rw[cf rfl,cf rfl,BB (by omega) (by omega)];refine(w (a+1) i (0+1) 0 (d:Int) _ hi aB (List.getElem?_set_self n) (by omega) (by omega) (by omega) (by omega) (f _)).trans ?_;rw[List.set_set,b,C2]
     ·have u:max (d:Int) (EO t.Comes (i:Int))=max ((d+1:Nat):Int) (EO t.Comes (i:Int)):=by rw[Nf _ aC];omega
      have v:Ep y t.Ao t.Comes (o[r].drop a) (d:Int) out=Ep y t.Ao t.Comes (o[r].drop a) ((d+1:Nat):Int) out:=by
       rw[p,q,Ep,Ep,u]
      rw[cf (df aG),BB (by omega) (by omega),C2,v];exact g a _ _ _ (p▸c)
    ·have p:o[r].drop a=[]:=List.drop_eq_nil_of_le (by omega);have:=g a DV run out c;rw[p] at this⊢;rw[cf (df (by omega)),BB (by omega) (by omega),C2];exact this
   ·intro a i DV run d0 out hi aF he g1 g2 g3 g4 c;have n:i<out.length:=by have:=c.1;omega
    have j:out[i]=⟨d0,-1,false⟩:=(List.getElem?_eq_some_iff.1 he).2;have b:=Ol y hi;have l:∀s:Ah,i<(out.set i s).length:=fun s=>by rw[List.length_set];exact n
    have f:∀s:Ah,Jw y.Ad.length (o[r].drop a) (out.set i s):=fun s=>O8 c aF s;have aN:out.set i (⟨d0,-1,false⟩:Ah)=out:=by rw[←j,List.set_getElem_self]
    rw[Bw.eq_2,ct (dt (by omega)),cf (df (by omega)),Ca z,x,Int.toNat_natCast];cases aJ:t.Ao[d] with
    |true=>
     rw[ct rfl,BB (by omega) (by omega),Ca hi,FJ,b];cases aD:(DV==y.Ad[i].Aq) with
     |true=>
      rw[ct rfl,Ca n,Ca (l _),BB (by omega) (by omega),ct rfl,Gu];simp only[List.getElem_set_self,List.set_set,j];exact g a _ _ _ (f _)
     |false=>
      rw[cf rfl,cf rfl,Ca hi];cases aE:(run+1==y.Ad[i].B1) with
      |true=>
       rw[ct rfl,Ca n,BB (by omega) (by omega),ct rfl,Gu,j];exact g a _ _ _ (f _)
      |false=>
       rw[cf rfl,cf rfl,BB (by omega) (by omega)];refine(w a i DV (run+1) d0 _ hi aF he (by omega) (by omega) (by omega) (by omega) c).trans ?_;rw[b,C2]
    |false=>
     rw[cf rfl,BB (by omega) (by omega),Ca hi,FJ,b];cases aD:(DV+1==y.Ad[i].Aq) with
     |true=>
      rw[ct rfl,Ca n,Ca (l _),BB (by omega) (by omega),ct rfl,Gu];simp only[List.getElem_set_self,List.set_set,j];exact g a _ _ _ (f _)
     |false=>
      rw[cf rfl,cf rfl,Ca hi];cases aE:((0:Int)==y.Ad[i].B1) with
      |true=>
       rw[ct rfl,Ca n,BB (by omega) (by omega),ct rfl,Gu,j];exact g a _ _ _ (f _)
      |false=>
       rw[cf rfl,cf rfl,BB (by omega) (by omega)];refine(w a i (DV+1) 0 d0 _ hi aF he (by omega) (by omega) (by omega) (by omega) c).trans ?_;rw[b,C2]
end Go.Proofs.YtkljfdkmjdjpfaaGreat
end
section
namespace Go.Proofs.YtkljfdkmjdjpfaaGreat
theorem Ng(y:Ar)(w:List Bool)(c:List Int)(j:Nat):∀(l:List Int) (free:Int) (out a:List Ah),out.length=a.length→((j:Int)∈l∨out[j]?=a[j]?)→(Ep y w c l free out)[j]?=(Ep y w c l free a)[j]?
 |[],free,out,a,_,h=>by
  rcases h with h|h
  ·cases h
  ·exact h
 |i::r,free,out,a,d,h=>by
  rw[Ep,Ep];refine Ng y w c j r _ _ _ (by rw[List.length_set,List.length_set];exact d) ?_
  by_cases b:i.toNat=j
  ·right;rw[b,List.getElem?_set,List.getElem?_set,if_pos rfl,if_pos rfl,d]
  ·rcases h with h|h
   ·rcases List.mem_cons.1 h with h|h
    ·exact absurd (by omega) b
    ·exact .inl h
   ·right;rw[List.getElem?_set_ne b,List.getElem?_set_ne b,h]
theorem Nh(y:Ar)(w:List Bool)(c:List Int)(j:Nat):∀(o:List (List Int)) (out a:List Ah),out.length=a.length→((j:Int)∈o.flatten∨out[j]?=a[j]?)→(Gs y w c o out)[j]?=(Gs y w c o a)[j]?
 |[],out,a,_,h=>by
  rcases h with h|h
  ·cases h
  ·exact h
 |l::r,out,a,b,h=>by
  rw[Gs,Gs];refine Nh y w c j r _ _ (by rw[GK,GK];exact b) ?_
  by_cases d:(j:Int)∈r.flatten
  ·exact .inl d
  ·right;refine Ng y w c j l 0 out a b ?_;rcases h with h|h
   ·rw[List.flatten_cons,List.mem_append] at h;rcases h with h|h
    ·exact .inl h
    ·exact absurd h d
   ·exact .inr h
theorem Lv(y:Ar)(w:List Bool)(c:List Int)(j:Nat):∀(l:List Int) (free:Int) (out:List Ah),(∀i∈l,0≤i)→(j:Int)∉l→(Ep y w c l free out)[j]?=out[j]?
 |[],_,_,_,_=>rfl
 |i::r,free,out,h0,h=>by
  rw[Ep,Lv y w c j r _ _ (fun x a=>h0 x (List.mem_cons_of_mem _ a)) (fun b=>h (List.mem_cons_of_mem _ b)),List.getElem?_set_ne];intro e;have:=h0 i (List.mem_cons_self ..);exact h (by rw[←e,show((i.toNat:Nat):Int)=i by omega];exact List.mem_cons_self ..)
theorem RT {y:Ar} (w:List Bool) (c:List Int) {n:Nat} {l r:List Int} {out:List Ah} (h:Jw n (l++r) out):Jw n l out∧Jw n r (Ep y w c l 0 out):=by
 obtain⟨e,a,d⟩:=h;rw[List.nodup_append] at a;refine⟨⟨e,a.1,fun j b=>d j (List.mem_append_left _ b)⟩,by rw[GK];exact e,a.2.1,fun j b=>?_⟩;obtain⟨q,rfl,f,he⟩:=d j (List.mem_append_right _ b);refine⟨q,rfl,f,?_⟩;rw[Lv y w c q l 0 out (fun i hi=>?_) (fun hm=>a.2.2 _ hm _ b rfl),he];obtain⟨p,rfl,_⟩:=d i (List.mem_append_left _ hi);omega
theorem RU{K:Nat}(y:Ar)(o:List (List Int))(t:AT)(h0:0≤y.Am)(h9:y.Am≤9)(hw:(t.Ao.length:Int)=y.Am+1)(d:t.Comes.length=y.Ad.length)(j:o.length≤1000)(f:∀l∈o,l.length≤1000)(hK:2000≤K):∀(k m r:Nat) (out:List Ah),o.length=r+k→k<m→Jw y.Ad.length (o.drop r).flatten out→
  DN K y o t m (r:Int) out=some (Gs y t.Ao t.Comes (o.drop r) out):=by
 intro k
 induction k with
 |zero=>
  intro m r out h hm a;cases m with
  |zero=>omega
  |succ m=>rw[DN.eq_2,cf (df (by omega)),List.drop_eq_nil_of_le (by omega)];rfl
 |succ k ih=>
  intro m r out h hm a;cases m with
  |zero=>omega
  |succ m=>
   have b:r<o.length:=by omega
   have c:o.drop r=o[r]::o.drop (r+1):=List.drop_eq_getElem_cons b;rw[c,List.flatten_cons] at a;obtain⟨g,i⟩:=RT (y:=y) t.Ao t.Comes a;have e:=(RS y o t r b h9 hw d (f _ (List.getElem_mem b)) (y.Am+1).toNat K 0 (by omega) (by omega)).1 0 0 0 out g;rw[Int.natCast_zero,List.drop_zero] at e;rw[DN.eq_2,ct (dt (by omega)),bd e,BB (by omega) (by omega),C2,c,Gs];exact ih m (r+1) _ (by omega) (by omega) i
theorem S4:∀(k m i:Nat) (out:List Ah),out.length=i+k→k<m→out.length≤1000→
  Dr m (i:Int) out=some (out.take i++List.replicate k never):=by
 intro k
 induction k with
 |zero=>
  intro m i out h hm a;cases m with
  |zero=>omega
  |succ m=>rw[Dr.eq_2,cf (df (by omega)),List.take_of_length_le (by omega)];simp
 |succ k ih=>
  intro m i out h hm a;cases m with
  |zero=>omega
  |succ m=>
   have hi:i<out.length:=by omega
   rw[Dr.eq_2,ct (dt (by omega)),Ca hi,BB (by omega) (by omega),C2,Int.toNat_natCast,ih m (i+1) _ (by rw[List.length_set];omega) (by omega) (by rw[List.length_set];omega)];rw[List.take_add_one,List.getElem?_set_self hi,List.take_set_of_le (Nat.le_refl _),List.replicate_succ];simp[never]
theorem Ni{K:Nat}(y:Ar)(a:Fe y)(o:List (List Int))(e:D6 y o=true)(t:AT)(c:Er y t=true)(hK:2000≤K):E8 K y o t=some (B6 y o t):=by
 unfold E8;have m:=a.n4;unfold Er at c;rw[Bool.and_eq_true,Bool.and_eq_true,decide_eq_true_eq] at c;obtain⟨hw,_,f⟩:=c;have i:=GV f;obtain⟨k,l,n⟩:=Jd a e;have d:=(Fc.1 e).2;have g:=S4 y.Ad.length K 0 (List.replicate y.Ad.length Jc) (by simp) (by omega) (by simp;omega);rw[Int.natCast_zero,List.take_zero,List.nil_append] at g;have b:=RU (K:=K) y o t a.h0 a.h9 hw i k l hK o.length K 0 (List.replicate y.Ad.length never) (by omega) (by omega) (by
  rw[List.drop_zero];refine⟨by simp,d.symm.nodup (J0 _),fun j h=>?_⟩;have:=H0.1 (d.mem_iff.1 h);exact⟨j.toNat,by omega,by omega,by rw[List.getElem?_replicate,if_pos (by omega)]⟩)
 rw[Int.natCast_zero,List.drop_zero] at b;rw[O2 (by omega) (by omega) (by omega),Int.toNat_natCast];rw[bd (show Dr K (0:Int) (List.replicate y.Ad.length (⟨0,0,false⟩:Ah))=_ from g),bd b];unfold B6 GD
 congr 1
 apply List.ext_getElem?;intro j;refine Nh y _ _ j o _ _ (by simp) ?_
 by_cases h:j<y.Ad.length
 ·left;exact d.mem_iff.2 (H0.2 (by omega))
 ·right;rw[List.getElem?_eq_none (by simp;omega),List.getElem?_eq_none (by simp;omega)]
end Go.Proofs.YtkljfdkmjdjpfaaGreat
end
section
namespace Go.Proofs.YtkljfdkmjdjpfaaGreat
theorem KS{W R W' R':Int}(a:W≤W')(b:R≤R'):∀(l:List Bool) (s r:Int),okW W R l s r=true→okW W' R' l s r=true
 |[],_,_,_=>rfl
 |false::l,s,r,h=>KS a b l s 0 h
 |true::l,s,r,h=>by
  rw[okW,Bool.and_eq_true,Bool.and_eq_true,decide_eq_true_eq,decide_eq_true_eq] at h⊢;exact⟨by omega,by omega,KS a b l _ _ h.2.2⟩
theorem J1{y:Ar}{t:AT}:Er y t=true↔(t.Ao.length:Int)=y.Am+1∧Hu y t.Ao=true∧DF y.Ad t.Comes=true:=by
 unfold Er;rw[Bool.and_eq_true,Bool.and_eq_true,decide_eq_true_eq]
end Go.Proofs.YtkljfdkmjdjpfaaGreat
end
section
namespace Go.Proofs.YtkljfdkmjdjpfaaGreat
structure Alike (y x:Ar):Prop where
 last:x.Am=y.Am
 len:x.Ad.length=y.Ad.length
 DV:∀i:Nat,(F2 x i).Aq=(F2 y i).Aq
 Wg:∀i:Nat,(F2 x i).B1=(F2 y i).B1
theorem J2{l c:Be}(a:c.Aq=l.Aq)(b:c.B1=l.B1)(d0:Int):∀(ws:List Bool) (d DV r:Int),FJ c d0 ws d DV r=FJ l d0 ws d DV r
 |[],_,_,_=>rfl
 |true::ws,d,DV,r=>by rw[FJ,FJ,a,b,J2 a b d0 ws]
 |false::ws,d,DV,r=>by rw[FJ,FJ,a,b,J2 a b d0 ws]
theorem OQ{y x:Ar}(h:x.Am=y.Am){l a:Be}(b:a.Aq=l.Aq)(c:a.B1=l.B1)(w:List Bool)(d:Int):EV x w a d=EV y w l d:=by
 unfold EV;rw[h,J2 b c]
theorem Alike.at{y x:Ar}(h:Alike y x)(w:List Bool)(i d:Int):EV x w (ED x i) d=EV y w (ED y i) d:=OQ h.last (h.DV i.toNat) (h.Wg i.toNat) w d
theorem Lw{y x:Ar}(h:Alike y x)(w:List Bool)(c:List Int):∀(l:List Int) (f:Int) (out:List Ah),Ep x w c l f out=Ep y w c l f out
 |[],_,_=>rfl
 |i::r,f,out=>by
  rw[Ep,Ep];show Ep x w c r (cond ((EV x w (ED x i) (max f (EO c i))).AF==-1) (x.Am+1) _) _=_;rw[h.at,h.last,Lw h w c r]
theorem Ly{y x:Ar}(h:Alike y x)(w:List Bool)(c:List Int):∀(o:List (List Int)) (out:List Ah),Gs x w c o out=Gs y w c o out
 |[],_=>rfl
 |l::o,out=>by rw[Gs,Gs,Lw h,Ly h w c o]
theorem OR{y x:Ar}(h:Alike y x)(o:List (List Int))(t:AT):B6 x o t=B6 y o t:=by
 unfold B6 GD;rw[h.len,Ly h]
theorem Nj{p b:Be→Ah→Bool}:∀(ls a:List Be) (ss:List Ah),ls.length=a.length→(∀i s,i<ls.length→p (ls.getD i Ip) s=true→b (a.getD i Ip) s=true)→Gy p ls ss≤Gy b a ss
 |[],[],ss,_,_=>Nat.le_refl _
 |[],_::_,_,h,_=>by cases h
 |_::_,[],_,h,_=>by cases h
 |l::ls,c::a,[],_,_=>by simp[Gy]
 |l::ls,c::a,s::ss,d,h=>by
  have g:=Nj ls a ss (by simpa using d) fun i s hi=>h (i+1) s (by simpa using hi);have e:p l s=true→b c s=true:=h 0 s (by simp);rw[Gy,Gy];cases f:p l s with
  |false=>simp only[cond_false];omega
  |true=>rw[e f];simp only[cond_true];omega
theorem P3 {l b:Be} (h:l.Cj≤b.Cj) {s:Ah} (a:Gf l s=true):Gf b s=true:=by
 unfold Gf at a⊢;rw[Bool.and_eq_true,decide_eq_true_eq] at a⊢;exact⟨a.1,by omega⟩
theorem QU{y x:Ar}(a:x.Ad.length=y.Ad.length)(b:∀i:Nat,(F2 x i).Cj≤(F2 y i).Cj)(ss:List Ah):C8 y ss≤C8 x ss:=by
 unfold C8;refine Nj _ _ ss a.symm fun i s _ h=>?_;unfold Dq at h⊢;cases c:Gf (x.Ad.getD i Ip) s with
 |false=>rfl
 |true=>
  have:=P3 (b i) c;unfold F2 at this;rw[this] at h;cases h
theorem S5{y x:Ar}(a:Fe y)(b:Fe x){o o':List (List Int)}(h:∀t,Er y t=true→Er x t=true∧C8 y (B6 y o t)≤C8 x (B6 x o' t)):(CX y o).1≤(CX x o').1:=by
 obtain⟨_,c,f⟩:=HQ a o;obtain⟨d,_,_⟩:=HQ b o';obtain⟨e,g⟩:=h _ c;have:=d _ e;omega
structure SC(y x:Ar):Prop extends Alike y x where
 Mn:x.Ak=y.Ak
 due:∀i:Nat,(F2 x i).Cj=(F2 y i).Cj
 comes:∀i:Nat,(F2 x i).Au≤(F2 y i).Au∧(F2 y i).AH≤(F2 x i).AH
 Df:y.Ao≤x.Ao
 run:y.Ay≤x.Ay
theorem HS:∀{ls a:List Be} {cs:List Int},a.length=ls.length→(∀i:Nat,(a.getD i Ip).Au≤(ls.getD i Ip).Au∧(ls.getD i Ip).AH≤(a.getD i Ip).AH)→DF ls cs=true→DF a cs=true
 |[],[],cs,_,_,h=>h
 |[],_::_,_,h,_,_=>by cases h
 |_::_,[],_,h,_,_=>by cases h
 |l::ls,b::a,[],_,_,h=>by cases h
 |l::ls,b::a,c::cs,d,hw,h=>by
  rw[DF,Bool.and_eq_true] at h⊢;have e:=Fs.1 h.1;have f:b.Au≤l.Au∧l.AH≤b.AH:=hw 0;exact⟨Fs.2 (by omega),HS (by simpa using d) (fun i=>hw (i+1)) h.2⟩
theorem SC.SD{y x:Ar}(h:SC y x){t:AT}(a:Er y t=true):Er x t=true:=by
 obtain⟨b,c,d⟩:=J1.1 a;exact J1.2 ⟨by rw[h.last];exact b,KS h.Df h.run _ _ _ c,HS h.len h.comes d⟩
structure Ny(y z:Ar):Prop extends Alike y z where
 Mn:z.Ak=y.Ak
 due:∀i:Nat,(F2 y i).Cj≤(F2 z i).Cj
 comes:∀i:Nat,(F2 z i).Au=(F2 y i).Au∧(F2 y i).AH=(F2 z i).AH
 Df:y.Ao=z.Ao
 run:y.Ay=z.Ay
theorem Ny.SD{y z:Ar}(h:Ny y z){t:AT}:Er z t=true↔Er y t=true:=by
 rw[J1,J1,h.last];unfold Hu;rw[h.Df,h.run];refine and_congr_right fun _=>and_congr_right fun _=>⟨fun a=>HS h.len.symm (fun i=>?_) a,fun a=>HS h.len (fun i=>?_) a⟩
 ·have:=h.comes i;unfold F2 at this;omega
 ·have:=h.comes i;unfold F2 at this;omega
theorem Ny.Wt{y z:Ar}(h:Ny y z)(a:Fe y)(b:Fe z)(o:List (List Int)):(CX z o).1≤(CX y o).1:=
 S5 b a fun t c=>⟨h.SD.1 c,by rw[OR h.toAlike];exact QU h.len.symm h.due _⟩
end Go.Proofs.YtkljfdkmjdjpfaaGreat
end
section
namespace Go.Proofs.YtkljfdkmjdjpfaaGreat
theorem QV(K:Nat)(l:Be)(s:Ah):E9 K l s=some (Gf l s):=by unfold E9 Gf;cases s.Aq<;>rfl
theorem QW{K:Nat}(y:Ar)(ss:List Ah)(d:y.Ad.length≤4)(e:ss.length=y.Ad.length):∀(k m i:Nat) (a:Int),ss.length=i+k→k<m→0≤a→a≤i→
  Ds K y ss m a (i:Int)=some (a+(Gy Dq (y.Ad.drop i) (ss.drop i):Nat)):=by
 intro k
 induction k with
 |zero=>
  intro m i a h hm h0 c;cases m with
  |zero=>omega
  |succ m=>
   rw[Ds.eq_2,cf (df (by omega)),List.drop_eq_nil_of_le («as»:=y.Ad) (by omega),Gy]
   ·simp
   ·intro _ _ _ _ h;cases h
 |succ k ih=>
  intro m i a h hm h0 c;cases m with
  |zero=>omega
  |succ m=>
   have hi:i<ss.length:=by omega
   have b:i<y.Ad.length:=by omega
   rw[Ds.eq_2,ct (dt (by omega)),Ca b,Ca hi,bd (QV ..),List.drop_eq_getElem_cons hi,List.drop_eq_getElem_cons b,Gy];show cond (Dq y.Ad[i] ss[i]) _ _=_;cases f:Dq y.Ad[i] ss[i] with
   |true=>
    rw[ct rfl,BB (by omega) (by omega),BB (by omega) (by omega),C2,ih m (i+1) (a+1) (by omega) (by omega) (by omega) (by omega)]
    congr 1
    show a+1+_=a+((1+Gy Dq _ _:Nat):Int);omega
   |false=>
    rw[cf rfl,BB (by omega) (by omega),C2,ih m (i+1) a (by omega) (by omega) (by omega) (by omega)]
    congr 1
    show a+_=a+((0+Gy Dq _ _:Nat):Int);omega
theorem Nk{K:Nat}(y:Ar)(ss:List Ah)(a:y.Ad.length≤4)(b:ss.length=y.Ad.length)(hK:2000≤K):Fa K y ss=some (C8 y ss:Int):=by
 unfold Fa;have:=QW (K:=K) y ss a b ss.length K 0 0 (by omega) (by omega) (by omega) (by omega);rw[Int.natCast_zero,List.drop_zero,List.drop_zero] at this;rw[bd this];simp[C8]
def IB(y:Ar)(o:List (List Int)):List AT→Int→Int
 |[],a=>a
 |t::b,a=>IB y o b (max a (C8 y (B6 y o t):Int))
theorem Mo(y:Ar)(o:List (List Int)):∀(b:List AT) (a:Int),a≤IB y o b a∧(∀t∈b,(C8 y (B6 y o t):Int)≤IB y o b a)∧(IB y o b a=a∨∃t∈b,(C8 y (B6 y o t):Int)=IB y o b a)
 |[],a=>⟨Int.le_refl _,fun t e=>(by cases e),.inl rfl⟩
 |t::b,a=>by
  obtain⟨g,f,d⟩:=Mo y o b (max a (C8 y (B6 y o t):Int));rw[IB];refine⟨by omega,fun x c=>?_,?_⟩
  ·rcases List.mem_cons.1 c with rfl|c
   ·omega
   ·exact f x c
  ·rcases d with d|⟨x,c,d⟩
   ·by_cases h:a≤(C8 y (B6 y o t):Int)
    ·exact .inr ⟨t,List.mem_cons_self ..,by omega⟩
    ·exact .inl (by omega)
   ·exact .inr ⟨x,List.mem_cons_of_mem _ c,d⟩
theorem RV{y:Ar}(a:Fe y)(o:List (List Int)):IB y o (IX y) 0=(CX y o).1:=by
 obtain⟨f,e,c⟩:=Mo y o (IX y) 0;refine(RL a o _ (fun t b=>e t ((JZ a).2 b)) ?_).symm;rcases c with c|⟨t,b,c⟩
 ·obtain⟨t,b⟩:=List.exists_mem_of_ne_nil _ (Mf a);have d:=(G6 a.h0).1 b;have:=e t ((JZ a).2 d);exact⟨t,d,by omega⟩
 ·exact⟨t,(JZ a).1 b,c⟩
theorem Ux{K:Nat}(y:Ar)(c:Fe y)(o:List (List Int))(d:D6 y o=true)(hK:2000≤K)(b:List AT)(e:∀t∈b,Er y t=true)(f:b.length≤1000):∀(k m i:Nat) (a:Int),b.length=i+k→k<m→
  D5 K y b o m a (i:Int)=some (IB y o (b.drop i) a):=by
 intro k
 induction k with
 |zero=>
  intro m i a h hm;cases m with
  |zero=>omega
  |succ m=>rw[D5.eq_2,cf (df (by omega)),List.drop_eq_nil_of_le (by omega)];rfl
 |succ k ih=>
  intro m i a h hm;cases m with
  |zero=>omega
  |succ m=>
   have hi:i<b.length:=by omega
   rw[D5.eq_2,ct (dt (by omega)),Ca hi,bd (Ni y c o d b[i] (e _ (List.getElem_mem hi)) hK),bd (Nk y (B6 y o b[i]) c.n4 (GL ..) hK),BB (by omega) (by omega),C2,ih m (i+1) _ (by omega) (by omega),List.drop_eq_getElem_cons hi,IB]
theorem P4{y:Ar}(a:Fe y):(IX y).length≤1000:=by
 rw[OP];have:=a.many;omega
theorem Nl{K:Nat}(y:Ar)(a:Fe y)(o:List (List Int))(b:D6 y o=true)(hK:2000≤K):Fb K y (IX y) o=some (CX y o).1:=by
 unfold Fb;have c:=P4 a;have e:=Ux (K:=K) y a o b hK (IX y) (fun t d=>(JZ a).1 d) c (IX y).length K 0 0 (by omega) (by omega);rw[Int.natCast_zero,List.drop_zero,RV a] at e;rw[bd e]
end Go.Proofs.YtkljfdkmjdjpfaaGreat
end
section
namespace Go.Proofs.YtkljfdkmjdjpfaaGreat
theorem S6(K:Nat)(y:Ar)(h:y.Ad.length≤6):∀(k m i:Nat) (a:List Be),y.Ad.length=i+k→k<m→a=y.Ad.take i→
  D1 K y m (i:Int) a=some y.Ad:=by
 intro k
 induction k with
 |zero=>
  intro m i a hi hm b;cases m with
  |zero=>omega
  |succ m=>rw[D1.eq_2,cf (df (by omega)),b,List.take_of_length_le (by omega)]
 |succ k ih=>
  intro m i a hi hm b;cases m with
  |zero=>omega
  |succ m=>
   have c:i<y.Ad.length:=by omega
   have d:a.length≤6:=by rw[b,List.length_take];omega
   rw[D1.eq_2,ct (dt (by omega)),Ca c,bd (show GS K (⟨y.Ad[i].Au,y.Ad[i].AH⟩:CK)=some (⟨y.Ad[i].Au,y.Ad[i].AH⟩:CK) from rfl),Fx (by simp only[List.length_cons,List.length_nil];omega),BB (by omega) (by omega),C2];refine ih m (i+1) _ (by omega) (by omega) ?_;rw[b,List.take_add_one,List.getElem?_eq_getElem c];rfl
theorem HE{K:Nat}(hK:2000≤K)(y:Ar)(h:y.Ad.length≤6):CO K y=some y:=by
 unfold CO;have:=S6 K y h y.Ad.length K 0 [] (by omega) (by omega) (by simp);rw[Int.natCast_zero] at this;rw[bd this]
theorem RW(o:List (List Int))(h:o.length≤1000)(d:∀l∈o,l.length≤1000):∀(k m i:Nat) (a:List (List Int)),o.length=i+k→k<m→a=o.take i→
  DO o m a (i:Int)=some o:=by
 intro k
 induction k with
 |zero=>
  intro m i a hi hm c;cases m with
  |zero=>omega
  |succ m=>rw[DO.eq_2,cf (df (by omega)),c,List.take_of_length_le (by omega)]
 |succ k ih=>
  intro m i a hi hm c;cases m with
  |zero=>omega
  |succ m=>
   have b:i<o.length:=by omega
   have e:a.length≤1000:=by rw[c,List.length_take];omega
   have:=d _ (List.getElem_mem b);rw[DO.eq_2,ct (dt (by omega)),Ca b,Fx (by simp only[List.length_nil];omega),Fx (by simp only[List.length_cons,List.length_nil];omega),BB (by omega) (by omega),C2];refine ih m (i+1) _ (by omega) (by omega) ?_;rw[c,List.take_add_one,List.getElem?_eq_getElem b];rfl
theorem He{K:Nat}(hK:2000≤K)(o:List (List Int))(h:o.length≤1000)(a:∀l∈o,l.length≤1000):CE K o=some o:=by
 unfold CE;have:=RW o h a o.length K 0 [] (by omega) (by omega) (by simp);rw[Int.natCast_zero] at this;rw[bd this]
theorem RX(K:Nat)(t:AT)(a:t.Comes.length≤1000)(b:t.Ao.length≤1000):DU K t=some t:=by
 unfold DU;rw[Fx (by simp only[List.length_nil];omega),Fx (by simp only[List.length_nil];omega)];rfl
theorem S7(a:List Int)(h:a.length≤1000):∀(k m i:Nat),a.length=i+k→k<m→D0 a a m (i:Int)=some (.inr ()):=by
 intro k
 induction k with
 |zero=>
  intro m i hi hm;cases m with
  |zero=>omega
  |succ m=>rw[D0.eq_2,cf (df (by omega))]
 |succ k ih=>
  intro m i hi hm;cases m with
  |zero=>omega
  |succ m=>
   have b:i<a.length:=by omega
   rw[D0.eq_2,ct (dt (by omega)),Ca b,Ca b,cf (by simp),BB (by omega) (by omega),C2];exact ih m (i+1) (by omega) (by omega)
theorem S8{K:Nat}(hK:2000≤K)(a:List Int)(h:a.length≤1000):FO K a a=some true:=by
 unfold FO;have:=S7 a h a.length K 0 (by omega) (by omega);rw[Int.natCast_zero] at this;rw[cf (by simp),bd this];rfl
theorem RY{K:Nat}(hK:2000≤K)(y:Ar):Fz K y=some (check y):=by
 unfold Fz;rw[bd (O7 hK y)]
def Mp (y:Ar):Bool:=cond (decide ((y.Ad.length:Int)≤6)) (cond (check y !=0) true (decide (F8 y≤60))) false
theorem S9{K:Nat}(hK:2000≤K)(y:Ar):FP K y=some (Mp y):=by
 unfold FP Mp;cases b:decide ((y.Ad.length:Int)≤6) with
 |false=>rfl
 |true=>
  rw[ct rfl,ct rfl,bd (O7 hK y)];cases a:(check y !=0) with
  |true=>rfl
  |false=>
   have h0:check y=0:=by simpa[bne] using a
   rw[cf rfl,cf rfl,bd (MI y (GZ h0) hK)]
theorem RZ{y:Ar}(h:Mp y=true):y.Ad.length≤6:=by
 unfold Mp at h;cases a:decide ((y.Ad.length:Int)≤6) with
 |false=>rw[a] at h;cases h
 |true=>have:=of_decide_eq_true a;omega
theorem R0(o:List (List Int)):∀(k m i:Nat),i+k=6→k<m→∃b:Bool⊕Unit,DP o m (i:Int)=some b∧(b=.inr ()→o.length≤4→∀j,i≤j→(h:j<o.length)→o[j].length≤6)∧(∀x,b=.inl x→x=false):=by
 intro k
 induction k with
 |zero=>
  intro m i hi hm;cases m with
  |zero=>omega
  |succ m=>
   rw[DP.eq_2]
   by_cases c:(i:Int)<o.length
   ·rw[ct (dt c),cf (df (by omega))];exact⟨_,rfl,fun _ d=>by omega,fun x a=>by cases a⟩
   ·rw[cf (df c)];exact⟨_,rfl,fun _ _ j e h=>by omega,fun x a=>by cases a⟩
 |succ k ih=>
  intro m i hi hm;cases m with
  |zero=>omega
  |succ m=>
   rw[DP.eq_2]
   by_cases c:(i:Int)<o.length
   ·have f:i<o.length:=by omega
    rw[ct (dt c)]
    by_cases g:(i:Int)<5
    ·rw[ct (dt g),Ca f]
     by_cases l:(6:Int)<(o[i].length:Int)
     ·rw[ct (dt l)];exact⟨_,rfl,fun h=>(by cases h),fun x a=>by cases a;rfl⟩
     ·rw[cf (df l),BB (by omega) (by omega),C2];obtain⟨b,p,q,r⟩:=ih m (i+1) (by omega) (by omega);refine⟨b,p,fun s d j e h=>?_,r⟩
      by_cases n:j=i
      ·subst n;omega
      ·exact q s d j (by omega) h
    ·rw[cf (df g)];exact⟨_,rfl,fun _ d=>by omega,fun x a=>by cases a⟩
   ·rw[cf (df c)];exact⟨_,rfl,fun _ _ j e h=>by omega,fun x a=>by cases a⟩
theorem R1{K:Nat}(hK:2000≤K)(o:List (List Int)):∃b,FB K o=some b∧(b=true→o.length≤4∧∀l∈o,l.length≤6):=by
 obtain⟨b,a,c,d⟩:=R0 o 6 K 0 (by omega) (by omega);rw[Int.natCast_zero] at a;unfold FB;rw[bd a];cases b with
 |inl x=>
  obtain rfl:=d x rfl;exact⟨false,rfl,fun h=>by cases h⟩
 |inr u=>
  refine⟨_,rfl,fun h=>?_⟩;have g:(o.length:Int)≤4:=of_decide_eq_true h;refine⟨by omega,fun l e=>?_⟩;obtain⟨j,f,rfl⟩:=List.getElem_of_mem e;exact c rfl (by omega) j (by omega) f
end Go.Proofs.YtkljfdkmjdjpfaaGreat
end
section
namespace Go.Proofs.YtkljfdkmjdjpfaaGreat
section
variable{K:Nat}(hK:2000≤K){y:Ar}(h:check y=0)
theorem KT{o:List (List Int)}(h:check y=0)(a:D6 y o=true):o.length≤1000∧(∀l∈o,l.length≤1000)∧o.flatten.length≤1000:=Jd (GZ h) a
include hK h
theorem Uy{o:List (List Int)}(a:D6 y o=true){t:AT}(b:Er y t=true):Gw K y o t=some (B6 y o t,0):=by
 obtain⟨c,_,d⟩:=KT h a;rw[QC y o t hK c d,if_neg (by simp[h]),if_neg (by simp[a,b])]
theorem O9{o:List (List Int)}(a:D6 y o=true){i:Nat}(hi:i<y.Ad.length):Fm K y o (i:Int)=some (verdict y o i,0):=by
 obtain⟨b,_,c⟩:=KT h a;have d:FK (i:Int) 0 ((y.Ad.length:Int)-1)=true:=Fs.2 (by omega);rw[SZ y o i hK b c,if_neg (by simp[h]),if_neg (by simp[a,d]),Int.toNat_natCast]
theorem Uz{o:List (List Int)}(a:D6 y o=true):Gx K y o=some ((CX y o).1,(CX y o).2,0):=by
 obtain⟨b,_,c⟩:=KT h a;rw[QE y o hK b c,if_neg (by simp[h]),if_neg (by simp[a])]
theorem UA:G4 K y=some ((H8 y).2,(H8 y).1,0):=by rw[Uq y hK,if_neg (by simp[h])]
theorem UB:G5 K y=some ((Mi y).2.2,(Mi y).1,0):=by rw[Ur y hK,if_neg (by simp[h])]
theorem P5:FW K y=some (Gt y 0 y.Ad.length,0):=by rw[PZ y hK,if_neg (by simp[h])]
theorem Om{o:List (List Int)}(a:D6 y o=true)(n:Int):CL K y o n=some (decide ((CX y o).1≤n)):=by
 obtain⟨b,_,c⟩:=KT h a;rw[KL y o n hK b c,dt h,a];rfl
theorem OS{o:List (List Int)}(a:D6 y o=true){t:AT}(b:Er y t=true)(n:Int):CJ K y o t n=some (decide (n≤(C8 y (B6 y o t):Int))):=by
 obtain⟨c,_,d⟩:=KT h a;rw[Lp y o t n hK c d,dt h,a,b];rfl
end
def y1:Ar:=⟨5,1,1,1,[⟨0,0,2,2,2⟩,⟨1,1,2,1,5⟩]⟩
def t3:AT:=⟨[0,1],[false,false,false,true,false,false]⟩
theorem Ia:check y1=0:=by decide+kernel
theorem SE:D6 y1 [[0,1]]=true:=Fc.2 ⟨rfl,by decide⟩
theorem P6:D6 y1 [[1,0]]=true:=Fc.2 ⟨rfl,by decide⟩
theorem Vw:Er y1 t3=true:=by decide+kernel
theorem Vx:B6 y1 [[0,1]] t3=[⟨0,1,true⟩,⟨2,3,false⟩]:=by
 have h:∀(a b:List Ah),a.map (fun s=>(s.On,s.AF,s.Aq))=b.map (fun s=>(s.On,s.AF,s.Aq))→a=b:=by
  intro a
  induction a with
  |nil=>intro b h;cases b with|nil=>rfl|cons x l=>cases h
  |cons x l ih=>
   intro b h;cases b with
   |nil=>cases h
   |cons x2 d=>
    have c:=List.cons.inj h;obtain⟨a1,a2,a3⟩:=x;obtain⟨e,f,g⟩:=x2;have i:a1=e∧a2=f∧a3=g:=by simpa using c.1
    obtain⟨rfl,rfl,rfl⟩:=i;rw[ih d c.2]
 exact h _ _ (by decide+kernel)
theorem P7{K:Nat}(hK:2000≤K):CF K=some true:=by
 unfold CF;have a:CN K 1=some y1:=rfl;have c:GB K 3=some t3:=rfl;have d:Fm K y1 [[0,1]] 1=some (verdict y1 [[0,1]] 1,0):=O9 hK Ia SE (i:=1) (by decide);have e:Fm K y1 [[1,0]] 0=some (verdict y1 [[1,0]] 0,0):=O9 hK Ia P6 (i:=0) (by decide);have b:=GZ Ia;obtain⟨_,f,j⟩:=HQ b [[1,0]];obtain⟨_,g,k⟩:=PX b;have v1:verdict y1 [[0,1]] 1=3:=by decide+kernel
 have v2:verdict y1 [[1,0]] 0=2:=by decide+kernel
 have v3:(CX y1 [[1,0]]).1=2:=by decide+kernel
 have v4:(H8 y1).1=1:=by decide+kernel
 have v5:(Mi y1).1=1:=by decide+kernel
 have v6:Gt y1 0 y1.Ad.length=[1]:=by decide+kernel
 rw[bd a,bd c,bd (Uy hK Ia SE Vw),bd a,bd d,bd a,bd e,bd a,bd (Uz hK Ia P6),bd a,bd (UA hK Ia),bd a,bd (UB hK Ia),bd a,bd (P5 hK Ia),Vx];rw[ct (by rfl)];have s1:E3 K 0 1 true=some ⟨0,1,true⟩:=rfl;have s2:E3 K 2 3 false=some ⟨2,3,false⟩:=rfl;have h:GC K [⟨0,1,true⟩,⟨2,3,false⟩] ⟨0,1,true⟩ ⟨2,3,false⟩=some true:=rfl;rw[bd s1,bd s2,bd h,ct (by rfl),ct (by rfl),v1,ct (by rfl),ct (by rfl),v2,ct (by rfl),ct (by rfl),v3,ct (by rfl),bd a,bd (OS hK Ia P6 f 2),ct (dt (by omega)),ct (by rfl),v4,ct (by rfl),bd a,bd (Om hK Ia g 1),ct (dt (by omega)),ct (by rfl),v5,ct (by rfl),ct (by rfl),v6,bd (S8 hK [1] (by decide))]
end Go.Proofs.YtkljfdkmjdjpfaaGreat
end
section
namespace Go.Proofs.YtkljfdkmjdjpfaaGreat
namespace HF
theorem mixed:Tryz.prog.follows .mixedOrders=true:=by kernel_rfl
theorem J4(b:Nat)(w:World):(Instr.fieldAt 154 (.pointer (some ⟨b,0,none⟩)) 1).run Tryz.prog w=.ok (.pointer (some ⟨b,1,none⟩)) w:=by kernel_rfl
theorem AZ:One Tryz.prog 3:=by unfold One;exact⟨by kernel_rfl,by kernel_rfl⟩
theorem J5(b:Nat)(w:World):(Instr.fieldAt 154 (.pointer (some ⟨b,0,none⟩)) 0).run Tryz.prog w=.ok (.pointer (some ⟨b,0,none⟩)) w:=by kernel_rfl
theorem Jx:Bq Tryz.prog 90:=by unfold Bq;kernel_rfl
theorem J6(b:Nat)(w:World):(Instr.fieldAt 116 (.pointer (some ⟨b,0,none⟩)) 1).run Tryz.prog w=.ok (.pointer (some ⟨b,1,none⟩)) w:=by kernel_rfl
theorem IY(b:Nat)(w:World):(Instr.fieldAt 116 (.pointer (some ⟨b,0,none⟩)) 0).run Tryz.prog w=.ok (.pointer (some ⟨b,0,none⟩)) w:=by kernel_rfl
theorem Oo:(Tryz.prog.underlying 3).isSome=true:=by kernel_rfl
theorem Hv:(Tryz.prog.info? 115).bind (·.zero)=some (.agg #[I 0,I 0,.bool false]):=by kernel_rfl
theorem EP:(Tryz.prog.info? 115).map (·.size)=some 3:=by kernel_rfl
theorem Ek:DH Tryz.prog 115 3:=by unfold DH;exact⟨by kernel_rfl,by kernel_rfl⟩
theorem Da(b:Nat)(w:World):(Instr.fieldAt 75 (.pointer (some ⟨b,0,none⟩)) 4).run Tryz.prog w=.ok (.pointer (some ⟨b,4,none⟩)) w:=by kernel_rfl
theorem DG:One Tryz.prog 73:=by unfold One;exact⟨by kernel_rfl,by kernel_rfl⟩
theorem R3(b:Nat)(w:World):(Instr.fieldAt 115 (.pointer (some ⟨b,0,none⟩)) 2).run Tryz.prog w=.ok (.pointer (some ⟨b,2,none⟩)) w:=by kernel_rfl
theorem Ib:One Tryz.prog 4:=by unfold One;exact⟨by kernel_rfl,by kernel_rfl⟩
theorem LL(b:Nat)(w:World):(Instr.fieldAt 115 (.pointer (some ⟨b,0,none⟩)) 1).run Tryz.prog w=.ok (.pointer (some ⟨b,1,none⟩)) w:=by kernel_rfl
theorem Oq(b:Nat)(w:World):(Instr.fieldAt 156 (.pointer (some ⟨b,0,none⟩)) 3).run Tryz.prog w=.ok (.pointer (some ⟨b,4,none⟩)) w:=by kernel_rfl
theorem HG:DH Tryz.prog 156 5:=by unfold DH;exact⟨by kernel_rfl,by kernel_rfl⟩
theorem Ot:Bq Tryz.prog 97:=by unfold Bq;kernel_rfl
theorem FX(b:Nat)(w:World):(Instr.fieldAt 63 (.pointer (some ⟨b,0,none⟩)) 0).run Tryz.prog w=.ok (.pointer (some ⟨b,0,none⟩)) w:=by kernel_rfl
theorem KU:Bq Tryz.prog 54:=by unfold Bq;kernel_rfl
theorem K9(b:Nat)(w:World):(Instr.fieldAt 63 (.pointer (some ⟨b,0,none⟩)) 3).run Tryz.prog w=.ok (.pointer (some ⟨b,3,none⟩)) w:=by kernel_rfl
theorem MK(b:Nat)(w:World):(Instr.fieldAt 63 (.pointer (some ⟨b,0,none⟩)) 2).run Tryz.prog w=.ok (.pointer (some ⟨b,2,none⟩)) w:=by kernel_rfl
theorem Dn:DH Tryz.prog 63 5:=by unfold DH;exact⟨by kernel_rfl,by kernel_rfl⟩
theorem QX:Bq Tryz.prog 95:=by unfold Bq;kernel_rfl
theorem HT:(Tryz.prog.info? 3).map (fun i=>(i.zero,i.size,i.bytes))=some (some (I 0),1,8):=by kernel_rfl
theorem Pb:Bq Tryz.prog 100:=by unfold Bq;kernel_rfl
theorem DB(b:Nat)(w:World):(Instr.fieldAt 63 (.pointer (some ⟨b,0,none⟩)) 4).run Tryz.prog w=.ok (.pointer (some ⟨b,4,none⟩)) w:=by kernel_rfl
theorem Ei:One Tryz.prog 61:=by unfold One;exact⟨by kernel_rfl,by kernel_rfl⟩
theorem FR:(Tryz.prog.info? 118).map (·.size)=some 5:=by kernel_rfl
theorem J7(b o:Nat)(w:World):(Instr.fieldAt 118 (.pointer (some ⟨b,o,none⟩)) 0).run Tryz.prog w=.ok (.pointer (some ⟨b,o,none⟩)) w:=by kernel_rfl
theorem Jy:DH Tryz.prog 116 2:=by unfold DH;exact⟨by kernel_rfl,by kernel_rfl⟩
theorem ML:Bq Tryz.prog 136:=by unfold Bq;kernel_rfl
theorem La(b:Nat)(w:World):(Instr.fieldAt 63 (.pointer (some ⟨b,0,none⟩)) 1).run Tryz.prog w=.ok (.pointer (some ⟨b,1,none⟩)) w:=by kernel_rfl
theorem IZ:Bq Tryz.prog 46:=by unfold Bq;kernel_rfl
theorem MM:DH Tryz.prog 118 5:=by unfold DH;exact⟨by kernel_rfl,by kernel_rfl⟩
theorem Ou:(Tryz.prog.info? 118).bind (·.zero)=some (.agg #[I 0,I 0,I 0,I 0,I 0]):=by kernel_rfl
theorem I0(b:Nat)(w:World):(Instr.fieldAt 118 (.pointer (some ⟨b,0,none⟩)) 0).run Tryz.prog w=.ok (.pointer (some ⟨b,0,none⟩)) w:=by kernel_rfl
theorem Ov(b:Nat)(w:World):(Instr.fieldAt 118 (.pointer (some ⟨b,0,none⟩)) 1).run Tryz.prog w=.ok (.pointer (some ⟨b,2,none⟩)) w:=by kernel_rfl
theorem Ow(b:Nat)(w:World):(Instr.fieldAt 118 (.pointer (some ⟨b,0,none⟩)) 2).run Tryz.prog w=.ok (.pointer (some ⟨b,3,none⟩)) w:=by kernel_rfl
theorem LM(b:Nat)(w:World):(Instr.fieldAt 118 (.pointer (some ⟨b,0,none⟩)) 3).run Tryz.prog w=.ok (.pointer (some ⟨b,4,none⟩)) w:=by kernel_rfl
theorem Ox:Bq Tryz.prog 81:=by unfold Bq;kernel_rfl
theorem J8(b:Nat)(w:World):(Instr.fieldAt 156 (.pointer (some ⟨b,0,none⟩)) 0).run Tryz.prog w=.ok (.pointer (some ⟨b,0,none⟩)) w:=by kernel_rfl
theorem Lb:DH Tryz.prog 154 2:=by unfold DH;exact⟨by kernel_rfl,by kernel_rfl⟩
theorem HH(b:Nat)(w:World):(Instr.fieldAt 75 (.pointer (some ⟨b,0,none⟩)) 0).run Tryz.prog w=.ok (.pointer (some ⟨b,0,none⟩)) w:=by kernel_rfl
theorem Ta:Bq Tryz.prog 140:=by unfold Bq;kernel_rfl
theorem Hw(b:Nat)(w:World):(Instr.fieldAt 156 (.pointer (some ⟨b,0,none⟩)) 1).run Tryz.prog w=.ok (.pointer (some ⟨b,2,none⟩)) w:=by kernel_rfl
theorem Pc:Bq Tryz.prog 141:=by unfold Bq;kernel_rfl
theorem LN(b:Nat)(w:World):(Instr.fieldAt 156 (.pointer (some ⟨b,0,none⟩)) 2).run Tryz.prog w=.ok (.pointer (some ⟨b,3,none⟩)) w:=by kernel_rfl
theorem CY:(Tryz.prog.info? 3).map (·.size)=some 1:=by kernel_rfl
theorem MN:(Tryz.prog.info? 75).bind (·.zero)=some (.agg #[I 0,I 0,I 0,I 0,.slice none 0 0]):=by kernel_rfl
theorem P8:(Tryz.prog.info? 75).map (·.size)=some 5:=by kernel_rfl
theorem CV:DH Tryz.prog 75 5:=by unfold DH;exact⟨by kernel_rfl,by kernel_rfl⟩
theorem G7:(Tryz.prog.info? 78).bind (·.zero)=some (.agg #[.slice none 0 0,.slice none 0 0]):=by kernel_rfl
theorem KV:(Tryz.prog.info? 4).map (fun i=>(i.zero,i.size,i.bytes))=some (some (.bool false),1,1):=by kernel_rfl
theorem Ha:(Tryz.prog.info? 78).map (·.size)=some 2:=by kernel_rfl
theorem HI(b:Nat)(w:World):(Instr.fieldAt 78 (.pointer (some ⟨b,0,none⟩)) 1).run Tryz.prog w=.ok (.pointer (some ⟨b,1,none⟩)) w:=by kernel_rfl
theorem Fo:One Tryz.prog 65:=by unfold One;exact⟨by kernel_rfl,by kernel_rfl⟩
theorem Hy:(Tryz.prog.info? 4).map (·.size)=some 1:=by kernel_rfl
theorem Gg:DH Tryz.prog 78 2:=by unfold DH;exact⟨by kernel_rfl,by kernel_rfl⟩
theorem MO:Tryz.prog.eqGuardType Tryz.prog.depth 115=false:=by kernel_rfl
theorem LO:RB Tryz.prog 115 [true,true,false]:=OO Tryz.underlying115 (by kernel_rfl) (by kernel_rfl) AZ Tryz.underlying3 Ib Tryz.underlying4
theorem R4:(Tryz.prog.info? 154).bind (·.zero)=some (.agg #[I 0,I 0]):=by kernel_rfl
theorem UC:(Tryz.prog.info? 154).map (·.size)=some 2:=by kernel_rfl
theorem UD:Bq Tryz.prog 88:=by unfold Bq;kernel_rfl
theorem R5:(Tryz.prog.info? 156).map (fun i=>(i.zero,i.size,i.bytes))=some (some (.agg #[I 0,I 0,I 0,I 0,I 0]),5,40):=by kernel_rfl
theorem Vy:(Tryz.prog.info? 73).map (·.size)=some 1:=by kernel_rfl
theorem QY:Bq Tryz.prog 80:=by unfold Bq;kernel_rfl
theorem Tb:One Tryz.prog 168:=by unfold One;exact⟨by kernel_rfl,by kernel_rfl⟩
theorem Hf:(Tryz.prog.info? 156).map (·.size)=some 5:=by kernel_rfl
theorem Tc:Bq Tryz.prog 175:=by unfold Bq;kernel_rfl
theorem Td:Bq Tryz.prog 143:=by unfold Bq;kernel_rfl
theorem Te:Bq Tryz.prog 142:=by unfold Bq;kernel_rfl
theorem Tf:One Tryz.prog 237:=by unfold One;exact⟨by kernel_rfl,by kernel_rfl⟩
theorem Tg:Bq Tryz.prog 210:=by unfold Bq;kernel_rfl
theorem Th:Bq Tryz.prog 198:=by unfold Bq;kernel_rfl
theorem Ti:Bq Tryz.prog 197:=by unfold Bq;kernel_rfl
theorem Pd(b:Nat)(w:World):(Instr.fieldAt 75 (.pointer (some ⟨b,0,none⟩)) 2).run Tryz.prog w=.ok (.pointer (some ⟨b,2,none⟩)) w:=by kernel_rfl
theorem Pe(b:Nat)(w:World):(Instr.fieldAt 75 (.pointer (some ⟨b,0,none⟩)) 3).run Tryz.prog w=.ok (.pointer (some ⟨b,3,none⟩)) w:=by kernel_rfl
theorem I1:(Tryz.prog.info? 3).bind (·.zero)=some (I 0):=by kernel_rfl
theorem Tj:Bq Tryz.prog 173:=by unfold Bq;kernel_rfl
theorem Tk:Bq Tryz.prog 172:=by unfold Bq;kernel_rfl
theorem Tl:Bq Tryz.prog 145:=by unfold Bq;kernel_rfl
theorem Pf:Bq Tryz.prog 138:=by unfold Bq;kernel_rfl
theorem Jz(b:Nat)(w:World):(Instr.fieldAt 75 (.pointer (some ⟨b,0,none⟩)) 1).run Tryz.prog w=.ok (.pointer (some ⟨b,1,none⟩)) w:=by kernel_rfl
theorem UE:Bq Tryz.prog 89:=by unfold Bq;kernel_rfl
theorem UF:Bq Tryz.prog 91:=by unfold Bq;kernel_rfl
theorem QZ:Bq Tryz.prog 92:=by unfold Bq;kernel_rfl
theorem Pg:Bq Tryz.prog 144:=by unfold Bq;kernel_rfl
theorem LP:(Tryz.prog.info? 156).bind (·.zero)=some (.agg #[I 0,I 0,I 0,I 0,I 0]):=by kernel_rfl
theorem Q0:Bq Tryz.prog 94:=by unfold Bq;kernel_rfl
theorem UG:Bq Tryz.prog 93:=by unfold Bq;kernel_rfl
theorem Du:One Tryz.prog 23:=by unfold One;exact⟨by kernel_rfl,by kernel_rfl⟩
theorem Tm:One Tryz.prog 161:=by unfold One;exact⟨by kernel_rfl,by kernel_rfl⟩
theorem Oy(b o:Nat)(w:World):(Instr.fieldAt 156 (.pointer (some ⟨b,o,none⟩)) 0).run Tryz.prog w=.ok (.pointer (some ⟨b,o,none⟩)) w:=by kernel_rfl
theorem R6(b o:Nat)(w:World):(Instr.fieldAt 154 (.pointer (some ⟨b,o,none⟩)) 0).run Tryz.prog w=.ok (.pointer (some ⟨b,o,none⟩)) w:=by kernel_rfl
theorem Lc:One Tryz.prog 176:=by unfold One;exact⟨by kernel_rfl,by kernel_rfl⟩
theorem Ph:Bq Tryz.prog 200:=by unfold Bq;kernel_rfl
theorem Tn:(Tryz.prog.info? 23).bind (·.zero)=some (.slice none 0 0):=by kernel_rfl
theorem EW:(Tryz.prog.info? 23).map (·.size)=some 1:=by kernel_rfl
theorem To:(Tryz.prog.info? 65).bind (·.zero)=some (.slice none 0 0):=by kernel_rfl
theorem SF:(Tryz.prog.info? 65).map (·.size)=some 1:=by kernel_rfl
theorem Oz:(Tryz.prog.info? 176).bind (·.zero)=some (.nilFunc):=by kernel_rfl
theorem Q1:(Tryz.prog.info? 176).map (·.size)=some 1:=by kernel_rfl
theorem Tp(w:World):(Op.equal 23 (.slice none 0 0) (.slice none 0 0)).run Tryz.prog w=.ok true w:=by kernel_rfl
theorem Tq(ad:Addr)(n c:Nat)(w:World):(Op.equal 23 (.slice (some ad) n c) (.slice none 0 0)).run Tryz.prog w=.ok false w:=by kernel_rfl
theorem MP:Bq Tryz.prog 149:=by unfold Bq;kernel_rfl
theorem Ts(w:World):(Op.equal 65 (.slice none 0 0) (.slice none 0 0)).run Tryz.prog w=.ok true w:=by kernel_rfl
theorem Tt(ad:Addr)(n c:Nat)(w:World):(Op.equal 65 (.slice (some ad) n c) (.slice none 0 0)).run Tryz.prog w=.ok false w:=by kernel_rfl
theorem MQ:Bq Tryz.prog 150:=by unfold Bq;kernel_rfl
theorem Ld:(Tryz.prog.info? 23).map (fun i=>(i.zero,i.size,i.bytes))=some (some (.slice none 0 0),1,24):=by kernel_rfl
theorem Tu(w:World):(Op.equal 64 (.slice none 0 0) (.slice none 0 0)).run Tryz.prog w=.ok true w:=by kernel_rfl
theorem Tv(ad:Addr)(n c:Nat)(w:World):(Op.equal 64 (.slice (some ad) n c) (.slice none 0 0)).run Tryz.prog w=.ok false w:=by kernel_rfl
theorem Tw:Bq Tryz.prog 153:=by unfold Bq;kernel_rfl
theorem IC:∀(b c:Bool) (w:World),(Op.equal 4 (.bool b) (.bool c)).run Tryz.prog w=.ok (b==c) w:=by intro b c w;cases b<;>cases c<;>kernel_rfl
theorem H2(b:Nat)(w:World):(Instr.fieldAt 78 (.pointer (some ⟨b,0,none⟩)) 0).run Tryz.prog w=.ok (.pointer (some ⟨b,0,none⟩)) w:=by kernel_rfl
theorem Pj:Ll Tryz.prog 220 2:=PD 2 Tryz.underlying220 (by kernel_rfl) rfl rfl AZ Tryz.underlying3
theorem OA:NM Tryz.prog 220 2:=OJ 2 Tryz.underlying220 rfl rfl AZ Tryz.underlying3
theorem Nn:JL Tryz.prog 220:=by unfold JL;kernel_rfl
theorem UH:(Tryz.prog.info? 115).bind (·.zero)=some (.agg #[I 0,I 0,.bool false]):=by kernel_rfl
theorem Hz(b:Nat)(w:World):(Instr.fieldAt 220 (.pointer (some ⟨b,0,none⟩)) 1).run Tryz.prog w=.ok (.pointer (some ⟨b,1,none⟩)) w:=by kernel_rfl
theorem I2(b o:Nat)(w:World):(Instr.fieldAt 165 (.pointer (some ⟨b,o,none⟩)) 0).run Tryz.prog w=.ok (.pointer (some ⟨b,o,none⟩)) w:=by kernel_rfl
theorem MR(b o:Nat)(w:World):(Instr.fieldAt 75 (.pointer (some ⟨b,o,none⟩)) 0).run Tryz.prog w=.ok (.pointer (some ⟨b,o,none⟩)) w:=by kernel_rfl
theorem Pk(b o:Nat)(w:World):(Instr.fieldAt 75 (.pointer (some ⟨b,o,none⟩)) 4).run Tryz.prog w=.ok (.pointer (some ⟨b,o+4,none⟩)) w:=by kernel_rfl
theorem R7(b:Nat)(w:World):(Instr.fieldAt 220 (.pointer (some ⟨b,0,none⟩)) 0).run Tryz.prog w=.ok (.pointer (some ⟨b,0,none⟩)) w:=by kernel_rfl
theorem OB(b o:Nat)(w:World):(Instr.fieldAt 165 (.pointer (some ⟨b,o,none⟩)) 1).run Tryz.prog w=.ok (.pointer (some ⟨b,o+5,none⟩)) w:=by kernel_rfl
theorem OC(b o:Nat)(w:World):(Instr.fieldAt 165 (.pointer (some ⟨b,o,none⟩)) 2).run Tryz.prog w=.ok (.pointer (some ⟨b,o+6,none⟩)) w:=by kernel_rfl
theorem Pm:One Tryz.prog 163:=by unfold One;exact⟨by kernel_rfl,by kernel_rfl⟩
theorem MS:DH Tryz.prog 220 2:=by unfold DH;exact⟨by kernel_rfl,by kernel_rfl⟩
theorem Tx:Bq Tryz.prog 174:=by unfold Bq;kernel_rfl
theorem R8:(Tryz.prog.info? 115).map (fun i=>(i.zero,i.size,i.bytes))=some (some (.agg #[I 0,I 0,.bool false]),3,24):=by kernel_rfl
theorem Ty:Bq Tryz.prog 139:=by unfold Bq;kernel_rfl
theorem Tz:Bq Tryz.prog 137:=by unfold Bq;kernel_rfl
theorem JA:Bq Tryz.prog 35:=by unfold Bq;kernel_rfl
theorem OD:Bq Tryz.prog 85:=by unfold Bq;kernel_rfl
theorem UI:Bq Tryz.prog 86:=by unfold Bq;kernel_rfl
theorem Mq:Bq Tryz.prog 87:=by unfold Bq;kernel_rfl
theorem OE:(Tryz.prog.info? 183).bind (·.zero)=some (.agg #[.nilFunc]):=by kernel_rfl
theorem Q2:(Tryz.prog.info? 183).map (·.size)=some 1:=by kernel_rfl
theorem OF(b:Nat)(w:World):(Instr.fieldAt 183 (.pointer (some ⟨b,0,none⟩)) 0).run Tryz.prog w=.ok (.pointer (some ⟨b,0,none⟩)) w:=by kernel_rfl
theorem Pn:One Tryz.prog 180:=by unfold One;exact⟨by kernel_rfl,by kernel_rfl⟩
theorem Po:Bq Tryz.prog 107:=by unfold Bq;kernel_rfl
theorem Pp:Bq Tryz.prog 103:=by unfold Bq;kernel_rfl
theorem R9:(Tryz.prog.info? 162).bind (·.zero)=some (.pointer none):=by kernel_rfl
theorem TA:Bq Tryz.prog 176:=by unfold Bq;kernel_rfl
theorem IF:One Tryz.prog 162:=by unfold One;exact⟨by kernel_rfl,by kernel_rfl⟩
theorem Q3(w:World):(Op.equal 162 (.pointer none) (.pointer none)).run Tryz.prog w=.ok true w:=by kernel_rfl
theorem Q4:(Tryz.prog.info? 162).map (·.size)=some 1:=by kernel_rfl
theorem MT:One Tryz.prog 223:=by unfold One;exact⟨by kernel_rfl,by kernel_rfl⟩
theorem Gv:One Tryz.prog 64:=by unfold One;exact⟨by kernel_rfl,by kernel_rfl⟩
theorem Q5(ad:Addr)(w:World):(Op.equal 162 (.pointer (some ad)) (.pointer none)).run Tryz.prog w=.ok false w:=by kernel_rfl
theorem TB:Bq Tryz.prog 177:=by unfold Bq;kernel_rfl
theorem TD:Bq Tryz.prog 199:=by unfold Bq;kernel_rfl
theorem I3:(Tryz.prog.info? 178).bind (·.zero)=some (.agg #[I 0,I 0,I 0,I 0]):=by kernel_rfl
theorem TE:Bq Tryz.prog 147:=by unfold Bq;kernel_rfl
theorem Pq:Bq Tryz.prog 146:=by unfold Bq;kernel_rfl
theorem IG:DH Tryz.prog 178 4:=by unfold DH;exact⟨by kernel_rfl,by kernel_rfl⟩
theorem JB:(Tryz.prog.info? 178).map (·.size)=some 4:=by kernel_rfl
theorem TF:Bq Tryz.prog 148:=by unfold Bq;kernel_rfl
theorem UJ:Bq Tryz.prog 96:=by unfold Bq;kernel_rfl
theorem OG:Bq Tryz.prog 98:=by unfold Bq;kernel_rfl
theorem Q6:Bq Tryz.prog 99:=by unfold Bq;kernel_rfl
theorem Q7:Bq Tryz.prog 41:=by unfold Bq;kernel_rfl
theorem Q8:Bq Tryz.prog 30:=by unfold Bq;kernel_rfl
theorem TG:Bq Tryz.prog 152:=by unfold Bq;kernel_rfl
theorem MU:Bq Tryz.prog 106:=by unfold Bq;kernel_rfl
theorem Je:(Tryz.prog.info? 64).map (·.size)=some 1:=by kernel_rfl
theorem TH:DH Tryz.prog 183 1:=by unfold DH;exact⟨by kernel_rfl,by kernel_rfl⟩
theorem TI:Tryz.prog.eqGuardType Tryz.prog.depth 178=false:=by kernel_rfl
theorem TJ:Ll Tryz.prog 178 4:=Qd Tryz.underlying178 AZ Tryz.underlying3
theorem UK:One Tryz.prog 69:=by unfold One;exact⟨by kernel_rfl,by kernel_rfl⟩
theorem Pr:Bq Tryz.prog 151:=by unfold Bq;kernel_rfl
theorem MV:(Tryz.prog.info? 64).bind (·.zero)=some (.slice none 0 0):=by kernel_rfl
theorem TK:Bq Tryz.prog 105:=by unfold Bq;kernel_rfl
theorem Ps:Bq Tryz.prog 104:=by unfold Bq;kernel_rfl
theorem TL:Bq Tryz.prog 108:=by unfold Bq;kernel_rfl
theorem Pt:(Tryz.prog.info? 67).bind (·.zero)=some (.agg #[.slice none 0 0,.slice none 0 0]):=by kernel_rfl
theorem Sa:(Tryz.prog.info? 116).bind (·.zero)=some (.agg #[I 0,I 0]):=by kernel_rfl
theorem UL:(Tryz.prog.info? 116).map (·.size)=some 2:=by kernel_rfl
theorem HJ(b:Nat)(w:World):(Instr.fieldAt 67 (.pointer (some ⟨b,0,none⟩)) 0).run Tryz.prog w=.ok (.pointer (some ⟨b,0,none⟩)) w:=by kernel_rfl
theorem Hk(b:Nat)(w:World):(Instr.fieldAt 67 (.pointer (some ⟨b,0,none⟩)) 1).run Tryz.prog w=.ok (.pointer (some ⟨b,1,none⟩)) w:=by kernel_rfl
theorem Ho:DH Tryz.prog 67 2:=by unfold DH;exact⟨by kernel_rfl,by kernel_rfl⟩
theorem SG:(Tryz.prog.info? 67).map (·.size)=some 2:=by kernel_rfl
theorem TM:Bq Tryz.prog 101:=by unfold Bq;kernel_rfl
theorem TN:(Tryz.prog.info? 67).map (fun i=>(i.zero,i.size,i.bytes))=some (some (.agg #[.slice none 0 0,.slice none 0 0]),2,48):=by kernel_rfl
theorem Sb(b o:Nat)(w:World):(Instr.fieldAt 116 (.pointer (some ⟨b,o,none⟩)) 0).run Tryz.prog w=.ok (.pointer (some ⟨b,o,none⟩)) w:=by kernel_rfl
theorem Sc(b o:Nat)(w:World):(Instr.fieldAt 116 (.pointer (some ⟨b,o,none⟩)) 1).run Tryz.prog w=.ok (.pointer (some ⟨b,o+1,none⟩)) w:=by kernel_rfl
theorem Sd:(Tryz.prog.info? 175).map (fun i=>(i.zero,i.size,i.bytes))=some (some (.agg #[I 0,I 0,.bool false]),3,24):=by kernel_rfl
theorem F5:(Tryz.prog.info? 175).map (·.size)=some 3:=by kernel_rfl
theorem Se(b o:Nat)(w:World):(Instr.fieldAt 175 (.pointer (some ⟨b,o,none⟩)) 0).run Tryz.prog w=.ok (.pointer (some ⟨b,o,none⟩)) w:=by kernel_rfl
theorem J9(b o:Nat)(w:World):(Instr.fieldAt 118 (.pointer (some ⟨b,o,none⟩)) 1).run Tryz.prog w=.ok (.pointer (some ⟨b,o+2,none⟩)) w:=by kernel_rfl
theorem Hg(b o:Nat)(w:World):(Instr.fieldAt 175 (.pointer (some ⟨b,o,none⟩)) 1).run Tryz.prog w=.ok (.pointer (some ⟨b,o+1,none⟩)) w:=by kernel_rfl
theorem Ka(b o:Nat)(w:World):(Instr.fieldAt 175 (.pointer (some ⟨b,o,none⟩)) 2).run Tryz.prog w=.ok (.pointer (some ⟨b,o+2,none⟩)) w:=by kernel_rfl
theorem Kb(b o:Nat)(w:World):(Instr.fieldAt 118 (.pointer (some ⟨b,o,none⟩)) 2).run Tryz.prog w=.ok (.pointer (some ⟨b,o+3,none⟩)) w:=by kernel_rfl
theorem Sf(b:Nat)(w:World):(Instr.fieldAt 175 (.pointer (some ⟨b,0,none⟩)) 2).run Tryz.prog w=.ok (.pointer (some ⟨b,2,none⟩)) w:=by kernel_rfl
theorem Sg(b:Nat)(w:World):(Instr.fieldAt 175 (.pointer (some ⟨b,0,none⟩)) 1).run Tryz.prog w=.ok (.pointer (some ⟨b,1,none⟩)) w:=by kernel_rfl
theorem TO:DH Tryz.prog 175 3:=by unfold DH;exact⟨by kernel_rfl,by kernel_rfl⟩
theorem TP:Bq Tryz.prog 102:=by unfold Bq;kernel_rfl
theorem Q9:Bq Tryz.prog 39:=by unfold Bq;kernel_rfl
theorem Ra:Bq Tryz.prog 45:=by unfold Bq;kernel_rfl
theorem Rb:Bq Tryz.prog 42:=by unfold Bq;kernel_rfl
theorem Rc:Bq Tryz.prog 43:=by unfold Bq;kernel_rfl
theorem UM:Bq Tryz.prog 27:=by unfold Bq;kernel_rfl
theorem UN:Bq Tryz.prog 34:=by unfold Bq;kernel_rfl
theorem HU:Bq Tryz.prog 82:=by unfold Bq;kernel_rfl
theorem UO:Bq Tryz.prog 83:=by unfold Bq;kernel_rfl
theorem Re:Bq Tryz.prog 40:=by unfold Bq;kernel_rfl
theorem UP:Bq Tryz.prog 50:=by unfold Bq;kernel_rfl
theorem UQ:Bq Tryz.prog 51:=by unfold Bq;kernel_rfl
theorem UR:Bq Tryz.prog 52:=by unfold Bq;kernel_rfl
theorem Rf:Bq Tryz.prog 61:=by unfold Bq;kernel_rfl
theorem US:Bq Tryz.prog 84:=by unfold Bq;kernel_rfl
theorem KW:Bq Tryz.prog 48:=by unfold Bq;kernel_rfl
theorem KX:Bq Tryz.prog 49:=by unfold Bq;kernel_rfl
theorem UT:Bq Tryz.prog 55:=by unfold Bq;kernel_rfl
theorem Ij:Bq Tryz.prog 29:=by unfold Bq;kernel_rfl
theorem UU:Bq Tryz.prog 28:=by unfold Bq;kernel_rfl
theorem Ik:Bq Tryz.prog 31:=by unfold Bq;kernel_rfl
theorem Il:Bq Tryz.prog 32:=by unfold Bq;kernel_rfl
theorem Mr:Bq Tryz.prog 33:=by unfold Bq;kernel_rfl
theorem UW:Bq Tryz.prog 36:=by unfold Bq;kernel_rfl
theorem Rg:Bq Tryz.prog 37:=by unfold Bq;kernel_rfl
end HF
end Go.Proofs.YtkljfdkmjdjpfaaGreat
end
section
set_option linter.unusedVariables false
set_option linter.unusedSimpArgs false
namespace Go.Proofs.YtkljfdkmjdjpfaaGreat
open Go.RowKit Go.WideShapes
set_option maxRecDepth 20000
open HF
attribute [local irreducible] BO WL CC CW LV BN EB DH One Bq
theorem Pu(n:Nat)(b:Int)(e:Int)(f:Int)(Z:Nat→Prop)(w:World)(m:Bool)(d:Ez n b e f=some m):
 BN Tryz.prog 90 #[I b,I e,I f] w (fun v w'=>Ext w w'∧BW.R w' (ZZ FN [] Z w.heap.size []) v m):=by
 unfold Ez at d;refine Bd (N:=15) Tryz.func90 rfl rfl (by simp) ?_;intro o h p;have g:=AO (i:=0) (v:=I b) h rfl;have k:=AO (i:=1) (v:=I e) h rfl;have l:=AO (i:=2) (v:=I f) h rfl;clear h;have j:Hp FN [] w [] w:=Hp.start (BM.none w);refine Ag<|Ab<|wa rfl (v:=.bool false) rfl<|Af<|Aa<|Ag<|Ab<|wm rfl (v:=I e) k<|wm rfl (v:=I b) g<|wd rfl (fun st=>EH (ee st rfl) (ee st rfl))<|wm rfl (v:=.bool (decide (e≤b))) rfl ?_;rcases Ap (decide (e≤b)) with a|a
 ·replace d:=AD d a;refine Aw rfl rfl (Ac rfl a) rfl (by decide) (fun st=>AL (v:=I b) (ee st g))<|Aw rfl rfl (Ac rfl a) rfl (by decide) (fun st=>AL (v:=I f) (ee st l))<|Aw rfl rfl (Ac rfl a) rfl (by decide) (fun st=>EH (ee st rfl) (ee st rfl))<|wd rfl (fun st=>AV (v:=.bool (decide (b≤f))) (ee st rfl) a (ee st rfl))<|wa rfl (v:=.bool (decide (b≤f))) rfl<|Af<|Aa<|AM ?_;obtain rfl:=Option.some.inj d;refine AU rfl rfl ?_;exact⟨j.Bz,rfl⟩
 ·replace d:=AE d a;refine Aj (c:=false) rfl rfl (Ac rfl a) (by decide) rfl (by decide)<|Aj (c:=false) rfl rfl (Ac rfl a) (by decide) rfl (by decide)<|Aj (c:=false) rfl rfl (Ac rfl a) (by decide) rfl (by decide)<|wd rfl (fun st=>Br (v:=.bool false) (ee st rfl) a (ee st rfl))<|wa rfl (v:=.bool false) rfl<|Af<|Aa<|AM ?_;obtain rfl:=Option.some.inj d;refine AU rfl rfl ?_;exact⟨j.Bz,rfl⟩
theorem VF(m:Nat)(a:CK)(Z:Nat→Prop)(w:World)(f:Int)(b:Fq m a=some f):
 BN Tryz.prog 94 #[.agg #[I a.Lo,I a.Hi]] w (fun v w'=>Ext w w'∧(F1 .i64).R w' (ZZ FN [] Z w.heap.size []) v f):=by
 unfold Fq at b;refine Bd (N:=9) Tryz.func94 rfl rfl (by simp) ?_;intro n g o;have e:=AO (i:=0) (v:=.agg #[I a.Lo,I a.Hi]) g rfl;clear g;have d:Hp FN [] w [] w:=Hp.start (BM.none w);refine Ag<|Ab<|we rfl (fun st=>BY (v:=.agg #[I a.Lo,I a.Hi]) (cs:= #[I a.Lo,I a.Hi]) (ee st e) rfl) ?_;rintro _ w1 ⟨p,rfl,c⟩;have h:=d.nb c;have l:=d.BL c;refine wa rfl (v:=I 0) rfl<|Af<|Aa<|Ag<|Ab<|wd rfl (fun st=>An (ee st rfl) (J4 _ _))<|wd rfl (fun st=>Av (v:=I a.Hi) AZ (ee st rfl) c.bk rfl)<|wd rfl (fun st=>An (ee st rfl) (J5 _ _))<|wd rfl (fun st=>Av (v:=I a.Lo) AZ (ee st rfl) c.bk rfl) ?_;replace b:=AS b;obtain⟨j,b⟩:=b;refine wd rfl (fun st=>LW (ee st rfl) (ee st rfl) j) ?_;replace b:=AS b;obtain⟨k,b⟩:=b;refine wd rfl (fun st=>Bs (ee st rfl) (ee st rfl) k)<|wa rfl (v:=I ((a.Hi-a.Lo)+1)) rfl<|Af<|Aa<|AM ?_;obtain rfl:=Option.some.inj b;refine AU rfl rfl ?_;exact⟨h.Bz,rfl⟩
theorem VV(p:Nat)(a:CK)(g:Int)(Z:Nat→Prop)(w:World)(n:Bool)(e:G9 p a g=some n):
 BN Tryz.prog 140 #[.agg #[I a.Lo,I a.Hi],I g] w (fun v w'=>Ext w w'∧BW.R w' (ZZ FN [] Z w.heap.size []) v n):=by
 unfold G9 at e;refine Bd (N:=21) Tryz.func140 rfl rfl (by simp) ?_;intro q k r;have l:=AO (i:=0) (v:=.agg #[I a.Lo,I a.Hi]) k rfl;have m:=AO (i:=1) (v:=I g) k rfl;clear k;have j:Hp FN [] w [] w:=Hp.start (BM.none w);refine Ag<|Ab<|we rfl (fun st=>BY (v:=.agg #[I a.Lo,I a.Hi]) (cs:= #[I a.Lo,I a.Hi]) (ee st l) rfl) ?_;rintro _ w1 ⟨s,rfl,f⟩;have h:=j.nb f;have o:=j.BL f;refine wa rfl (v:=.bool false) rfl<|Af<|Aa<|Ag<|Ab<|wd rfl (fun st=>An (ee st rfl) (J5 _ _))<|wd rfl (fun st=>Av (v:=I a.Lo) AZ (ee st rfl) f.bk rfl)<|wd rfl (fun st=>EH (ee st rfl) (ee st rfl))<|wm rfl (v:=.bool (decide ((0:Int)≤a.Lo))) rfl ?_;rcases Ap (decide ((0:Int)≤a.Lo)) with b|b
 ·replace e:=AD e b;refine Aw rfl rfl (Ac rfl b) rfl (by decide) (fun st=>An (ee st rfl) (J5 _ _))<|Aw rfl rfl (Ac rfl b) rfl (by decide) (fun st=>Av (v:=I a.Lo) AZ (ee st rfl) f.bk rfl)<|Aw rfl rfl (Ac rfl b) rfl (by decide) (fun st=>An (ee st rfl) (J4 _ _))<|Aw rfl rfl (Ac rfl b) rfl (by decide) (fun st=>Av (v:=I a.Hi) AZ (ee st rfl) f.bk rfl)<|Aw rfl rfl (Ac rfl b) rfl (by decide) (fun st=>EH (ee st rfl) (ee st rfl))<|wd rfl (fun st=>AV (v:=.bool (decide (a.Lo≤a.Hi))) (ee st rfl) b (ee st rfl))<|wm rfl (v:=.bool (decide (a.Lo≤a.Hi))) rfl ?_;rcases Ap (decide (a.Lo≤a.Hi)) with d|d
  ·replace e:=AD e d;refine Aw rfl rfl (Ac rfl d) rfl (by decide) (fun st=>An (ee st rfl) (J4 _ _))<|Aw rfl rfl (Ac rfl d) rfl (by decide) (fun st=>Av (v:=I a.Hi) AZ (ee st rfl) f.bk rfl)<|Aw rfl rfl (Ac rfl d) rfl (by decide) (fun st=>AL (v:=I g) (ee st m))<|Aw rfl rfl (Ac rfl d) rfl (by decide) (fun st=>EH (ee st rfl) (ee st rfl))<|wd rfl (fun st=>AV (v:=.bool (decide (a.Hi≤g))) (ee st rfl) d (ee st rfl))<|wa rfl (v:=.bool (decide (a.Hi≤g))) rfl<|Af<|Aa<|AM ?_;obtain rfl:=Option.some.inj e;refine AU rfl rfl ?_;exact⟨h.Bz,rfl⟩
  ·replace e:=AE e d;refine Aj (c:=false) rfl rfl (Ac rfl d) (by decide) rfl (by decide)<|Aj (c:=false) rfl rfl (Ac rfl d) (by decide) rfl (by decide)<|Aj (c:=false) rfl rfl (Ac rfl d) (by decide) rfl (by decide)<|Aj (c:=false) rfl rfl (Ac rfl d) (by decide) rfl (by decide)<|wd rfl (fun st=>Br (v:=.bool false) (ee st rfl) d (ee st rfl))<|wa rfl (v:=.bool false) rfl<|Af<|Aa<|AM ?_;obtain rfl:=Option.some.inj e;refine AU rfl rfl ?_;exact⟨h.Bz,rfl⟩
 ·replace e:=AE e b;refine Aj (c:=false) rfl rfl (Ac rfl b) (by decide) rfl (by decide)<|Aj (c:=false) rfl rfl (Ac rfl b) (by decide) rfl (by decide)<|Aj (c:=false) rfl rfl (Ac rfl b) (by decide) rfl (by decide)<|Aj (c:=false) rfl rfl (Ac rfl b) (by decide) rfl (by decide)<|Aj (c:=false) rfl rfl (Ac rfl b) (by decide) rfl (by decide)<|wd rfl (fun st=>Br (v:=.bool false) (ee st rfl) b (ee st rfl))<|wm rfl (v:=.bool false) rfl<|Aj rfl rfl rfl (by decide) rfl (by decide)<|Aj rfl rfl rfl (by decide) rfl (by decide)<|Aj rfl rfl rfl (by decide) rfl (by decide)<|Aj rfl rfl rfl (by decide) rfl (by decide)<|wd rfl (fun st=>Br (v:=.bool false) (ee st rfl) rfl (ee st rfl))<|wa rfl (v:=.bool false) rfl<|Af<|Aa<|AM ?_;obtain rfl:=Option.some.inj e;refine AU rfl rfl ?_;exact⟨h.Bz,rfl⟩
theorem a141(d:Nat)(b:Int)(Z:Nat→Prop)(w:World)(e:Bool)(a:GY d b=some e):
 BN Tryz.prog 141 #[I b] w (fun v w'=>Ext w w'∧BW.R w' (ZZ FN [] Z w.heap.size []) v e):=by
 unfold GY at a;refine Bd (N:=5) Tryz.func141 rfl rfl (by simp) ?_;intro l f m;have c:=AO (i:=0) (v:=I b) f rfl;clear f;have g:Hp FN [] w [] w:=Hp.start (BM.none w);refine Ag<|Ab<|wa rfl (v:=.bool false) rfl<|Af<|Aa<|Ag<|Ab<|wm rfl (v:=I b) c ?_;replace a:=bind_some a;obtain⟨r1,h,a⟩:=a;refine we rfl (fun st=>AI Jx (ee st rfl) (EM (ee st rfl) (ee st rfl) (ee st rfl)) (Pu d b 1 5 ZA _ r1 h)) ?_;rintro _ w2 ⟨j,rfl⟩;have k:=g.ext j;refine wa rfl (v:=.bool r1) rfl<|Af<|Aa<|AM ?_;obtain rfl:=Option.some.inj a;refine AU rfl rfl ?_;exact⟨k.Bz,rfl⟩
theorem a46(n:Nat)(b:Int)(e:Int)(f:Int)(Z:Nat→Prop)(w:World)(m:Bool)(d:Di n b e f=some m):
 BN Tryz.prog 46 #[I b,I e,I f] w (fun v w'=>Ext w w'∧BW.R w' (ZZ FN [] Z w.heap.size []) v m):=by
 unfold Di at d;refine Bd (N:=15) Tryz.func46 rfl rfl (by simp) ?_;intro o h p;have g:=AO (i:=0) (v:=I b) h rfl;have k:=AO (i:=1) (v:=I e) h rfl;have l:=AO (i:=2) (v:=I f) h rfl;clear h;have j:Hp FN [] w [] w:=Hp.start (BM.none w);refine Ag<|Ab<|wa rfl (v:=.bool false) rfl<|Af<|Aa<|Ag<|Ab<|wm rfl (v:=I b) g<|wm rfl (v:=I e) k<|wd rfl (fun st=>KY (ee st rfl) (ee st rfl))<|wm rfl (v:=.bool (decide (e≤b))) rfl ?_;rcases Ap (decide (e≤b)) with a|a
 ·replace d:=AD d a;refine Aw rfl rfl (Ac rfl a) rfl (by decide) (fun st=>AL (v:=I b) (ee st g))<|Aw rfl rfl (Ac rfl a) rfl (by decide) (fun st=>AL (v:=I f) (ee st l))<|Aw rfl rfl (Ac rfl a) rfl (by decide) (fun st=>EH (ee st rfl) (ee st rfl))<|wd rfl (fun st=>AV (v:=.bool (decide (b≤f))) (ee st rfl) a (ee st rfl))<|wa rfl (v:=.bool (decide (b≤f))) rfl<|Af<|Aa<|AM ?_;obtain rfl:=Option.some.inj d;refine AU rfl rfl ?_;exact⟨j.Bz,rfl⟩
 ·replace d:=AE d a;refine Aj (c:=false) rfl rfl (Ac rfl a) (by decide) rfl (by decide)<|Aj (c:=false) rfl rfl (Ac rfl a) (by decide) rfl (by decide)<|Aj (c:=false) rfl rfl (Ac rfl a) (by decide) rfl (by decide)<|wd rfl (fun st=>Br (v:=.bool false) (ee st rfl) a (ee st rfl))<|wa rfl (v:=.bool false) rfl<|Af<|Aa<|AM ?_;obtain rfl:=Option.some.inj d;refine AU rfl rfl ?_;exact⟨j.Bz,rfl⟩
theorem Sh(m:Nat)(a:CK)(Z:Nat→Prop)(w:World)(f:Int)(b:Ev m a=some f):
 BN Tryz.prog 136 #[.agg #[I a.Lo,I a.Hi]] w (fun v w'=>Ext w w'∧(F1 .i64).R w' (ZZ FN [] Z w.heap.size []) v f):=by
 unfold Ev at b;refine Bd (N:=9) Tryz.func136 rfl rfl (by simp) ?_;intro n g o;have e:=AO (i:=0) (v:=.agg #[I a.Lo,I a.Hi]) g rfl;clear g;have d:Hp FN [] w [] w:=Hp.start (BM.none w);refine Ag<|Ab<|we rfl (fun st=>BY (v:=.agg #[I a.Lo,I a.Hi]) (cs:= #[I a.Lo,I a.Hi]) (ee st e) rfl) ?_;rintro _ w1 ⟨p,rfl,c⟩;have h:=d.nb c;have l:=d.BL c;refine wa rfl (v:=I 0) rfl<|Af<|Aa<|Ag<|Ab<|wd rfl (fun st=>An (ee st rfl) (J6 _ _))<|wd rfl (fun st=>Av (v:=I a.Hi) AZ (ee st rfl) c.bk rfl)<|wd rfl (fun st=>An (ee st rfl) (IY _ _))<|wd rfl (fun st=>Av (v:=I a.Lo) AZ (ee st rfl) c.bk rfl) ?_;replace b:=AS b;obtain⟨j,b⟩:=b;refine wd rfl (fun st=>LW (ee st rfl) (ee st rfl) j) ?_;replace b:=AS b;obtain⟨k,b⟩:=b;refine wd rfl (fun st=>Bs (ee st rfl) (ee st rfl) k)<|wa rfl (v:=I ((a.Hi-a.Lo)+1)) rfl<|Af<|Aa<|AM ?_;obtain rfl:=Option.some.inj b;refine AU rfl rfl ?_;exact⟨h.Bz,rfl⟩
theorem Rh(n:Nat)(b:Int)(c:Int)(Z:Nat→Prop)(w:World)(h:Bool)(a:DW n b c=some h):
 BN Tryz.prog 54 #[I b,I c] w (fun v w'=>Ext w w'∧BW.R w' (ZZ FN [] Z w.heap.size []) v h):=by
 unfold DW at a;refine Bd (N:=11) Tryz.func54 rfl rfl (by simp) ?_;intro o e p;have f:=AO (i:=0) (v:=I b) e rfl;have g:=AO (i:=1) (v:=I c) e rfl;clear e;have j:Hp FN [] w [] w:=Hp.start (BM.none w);refine Ag<|Ab<|wa rfl (v:=.bool false) rfl<|Af<|Aa<|Ag<|Ab<|wm rfl (v:=I b) f<|wm rfl (v:=I c) g ?_;replace a:=IP a;obtain⟨l,a⟩:=a;refine wd rfl (fun st=>Kk (k:=.u64) Oo Tryz.underlying32 (ee st rfl) l) ?_;replace a:=M3 a;obtain⟨m,a⟩:=a;refine wd rfl (fun st=>Sv (ee st rfl) (ee st rfl) m) ?_;replace a:=JN a;obtain⟨d,a⟩:=a;refine wd rfl (fun st=>Ns (ee st rfl) (ee st rfl) d.1 d.2)<|wd rfl (fun st=>CG (ee st rfl) (ee st rfl))<|wa rfl (v:=.bool (((FE b c)%2)==1)) rfl<|Af<|Aa<|AM ?_;obtain rfl:=Option.some.inj a;refine AU rfl rfl ?_;exact⟨j.Bz,rfl⟩
theorem VG(s:Nat)(a:Int)(b:Int)(c:Bool)(Z:Nat→Prop)(w:World)(m:Ah)(o:E3 s a b c=some m):
 BN Tryz.prog 61 #[I a,I b,.bool c] w (fun v w'=>Ext w w'∧(Cx BC).R w' (ZZ FN [] Z w.heap.size []) v m):=by
 unfold E3 at o;refine Bd (N:=11) Tryz.func61 rfl rfl (by simp) ?_;intro t e u;have h:=AO (i:=0) (v:=I a) e rfl;have j:=AO (i:=1) (v:=I b) e rfl;have k:=AO (i:=2) (v:=.bool c) e rfl;clear e;have f:Hp FN [] w [] w:=Hp.start (BM.none w);refine Ag<|Ab<|we rfl (fun st=>BX (cs:= #[I 0,I 0,.bool false]) Hv rfl) ?_;rintro _ w1 ⟨x,rfl,d⟩;have p:=f.nb d;have r:=f.BL d;refine Af<|Aa<|Ag<|Ab<|wm rfl (v:=I a) h<|wm rfl (v:=I b) j<|wm rfl (v:=.bool c) k<|wd rfl (fun st=>C3 (vs:= #[(0,I a),(1,I b),(2,.bool c)]) (v:=.agg #[I a,I b,.bool c]) (Kd (ee st rfl) (ee st rfl) (ee st rfl)) (by kernel_rfl))<|Bl rfl rfl (fun st=>Bi (n:=3) (l:=[I a,I b,.bool c]) (B5:= #[I a,I b,.bool c]) (ee st rfl) (ee st rfl) EP d.bk rfl rfl (show 0+3≤3 by decide) (AR rfl) rfl) ?_;rintro _ w2 g;have q:=p.gr g.gr 0 rfl;refine Af<|Aa<|AM ?_;obtain rfl:=Option.some.inj o;refine Gj (v:=.agg #[I a,I b,.bool c]) rfl rfl (CZ Ek g.bk rfl rfl) ?_;exact⟨q.Bz,⟨_,rfl,rfl⟩⟩
theorem Wh(n:Nat)(a:Ar)(e:Int)(b:Option Addr)(c:Nat)(Z:Nat→Prop)(w:World)(g:Sl AP w Z b c a.Ad)(o:Bool)(d:F3 n a e=some o):
 BN Tryz.prog 96 #[.agg #[I a.Am,I a.Ak,I a.Ao,I a.Ay,.slice b a.Ad.length c],I e] w (fun v w'=>Ext w w'∧BW.R w' (ZZ FN [] Z w.heap.size []) v o):=by
 unfold F3 at d;refine Bd (N:=11) Tryz.func96 rfl rfl (by simp) ?_;intro y j z;have k:=AO (i:=0) (v:=.agg #[I a.Am,I a.Ak,I a.Ao,I a.Ay,.slice b a.Ad.length c]) j rfl;have l:=AO (i:=1) (v:=I e) j rfl;clear j;have h:Hp FN [] w [] w:=Hp.start (BM.none w);have m:=g.mv (Bf (Z:=Z) (L:=[]) w);refine Ag<|Ab<|we rfl (fun st=>BY (v:=.agg #[I a.Am,I a.Ak,I a.Ao,I a.Ay,.slice b a.Ad.length c]) (cs:= #[I a.Am,I a.Ak,I a.Ao,I a.Ay,.slice b a.Ad.length c]) (ee st k) rfl) ?_;rintro _ w1 ⟨aA,rfl,f⟩;have p:=h.nb f;have x:=h.BL f;refine wa rfl (v:=.bool false) rfl<|Af<|Aa<|Ag<|Ab<|wm rfl (v:=I e) l<|wd rfl (fun st=>An (ee st rfl) (Da _ _))<|wd rfl (fun st=>Av (v:=.slice b a.Ad.length c) DG (ee st rfl) f.bk rfl)<|wd rfl (fun st=>BH Tryz.underlying73 (ee st rfl)) ?_;replace d:=AS d;obtain⟨q,d⟩:=d;refine wd rfl (fun st=>LW (ee st rfl) (ee st rfl) q) ?_;replace d:=bind_some d;obtain⟨r,s,d⟩:=d;refine we rfl (fun st=>AI Jx (ee st rfl) (EM (ee st rfl) (ee st rfl) (ee st rfl)) (Pu n e 0 ((a.Ad.length:Int)-1) ZA _ r s)) ?_;rintro _ aB ⟨t,rfl⟩;have u:=p.ext t;refine wa rfl (v:=.bool r) rfl<|Af<|Aa<|AM ?_;obtain rfl:=Option.some.inj d;refine AU rfl rfl ?_;exact⟨u.Bz,rfl⟩
theorem UX(s:Nat)(a:Be)(d:Ah)(Z:Nat→Prop)(w:World)(p:Bool)(f:Dj s a d=some p):
 BN Tryz.prog 97 #[.agg #[I a.Au,I a.AH,I a.Aq,I a.B1,I a.Cj],.agg #[I d.On,I d.AF,.bool d.Aq]] w (fun v w'=>Ext w w'∧BW.R w' (ZZ FN [] Z w.heap.size []) v p):=by
 unfold Dj at f;refine Bd (N:=14) Tryz.func97 rfl rfl (by simp) ?_;intro t m u;have n:=AO (i:=0) (v:=.agg #[I a.Au,I a.AH,I a.Aq,I a.B1,I a.Cj]) m rfl;have o:=AO (i:=1) (v:=.agg #[I d.On,I d.AF,.bool d.Aq]) m rfl;clear m;have j:Hp FN [] w [] w:=Hp.start (BM.none w);refine Ag<|Ab<|we rfl (fun st=>BY (v:=.agg #[I a.Au,I a.AH,I a.Aq,I a.B1,I a.Cj]) (cs:= #[I a.Au,I a.AH,I a.Aq,I a.B1,I a.Cj]) (ee st n) rfl) ?_;rintro _ w1 ⟨x,rfl,g⟩;have k:=j.nb g;have q:=j.BL g;refine we rfl (fun st=>BY (v:=.agg #[I d.On,I d.AF,.bool d.Aq]) (cs:= #[I d.On,I d.AF,.bool d.Aq]) (ee st o) rfl) ?_;rintro _ w2 ⟨y,rfl,e⟩;have l:=k.nb e;have r:=k.BL e;refine wa rfl (v:=.bool false) rfl<|Af<|Aa<|Ag<|Ab<|wd rfl (fun st=>An (ee st rfl) (R3 _ _))<|wd rfl (fun st=>Av (v:=.bool d.Aq) Ib (ee st rfl) e.bk rfl)<|wm rfl (v:=.bool d.Aq) rfl ?_;rcases Ap (d.Aq) with b|b
 ·replace f:=AD f b;refine Aw rfl rfl (Ac rfl b) rfl (by decide) (fun st=>An (ee st rfl) (LL _ _))<|Aw rfl rfl (Ac rfl b) rfl (by decide) (fun st=>Av (v:=I d.AF) AZ (ee st rfl) e.bk rfl)<|Aw rfl rfl (Ac rfl b) rfl (by decide) (fun st=>An (ee st rfl) (Oq _ _)) ?_;have h:=(g.bk.ext e.gr);refine Aw rfl rfl (Ac rfl b) rfl (by decide) (fun st=>Av (v:=I a.Cj) AZ (ee st rfl) h rfl)<|Aw rfl rfl (Ac rfl b) rfl (by decide) (fun st=>EH (ee st rfl) (ee st rfl))<|wd rfl (fun st=>AV (v:=.bool (decide (d.AF≤a.Cj))) (ee st rfl) b (ee st rfl))<|wa rfl (v:=.bool (decide (d.AF≤a.Cj))) rfl<|Af<|Aa<|AM ?_;obtain rfl:=Option.some.inj f;refine AU rfl rfl ?_;exact⟨l.Bz,rfl⟩
 ·replace f:=AE f b;refine Aj (c:=false) rfl rfl (Ac rfl b) (by decide) rfl (by decide)<|Aj (c:=false) rfl rfl (Ac rfl b) (by decide) rfl (by decide)<|Aj (c:=false) rfl rfl (Ac rfl b) (by decide) rfl (by decide)<|Aj (c:=false) rfl rfl (Ac rfl b) (by decide) rfl (by decide)<|Aj (c:=false) rfl rfl (Ac rfl b) (by decide) rfl (by decide)<|wd rfl (fun st=>Br (v:=.bool false) (ee st rfl) b (ee st rfl))<|wa rfl (v:=.bool false) rfl<|Af<|Aa<|AM ?_;obtain rfl:=Option.some.inj f;refine AU rfl rfl ?_;exact⟨l.Bz,rfl⟩
theorem a107(n:Nat)(a:Be)(b:Ah)(Z:Nat→Prop)(w:World)(o:Bool)(d:Ew n a b=some o):
 BN Tryz.prog 107 #[.agg #[I a.Au,I a.AH,I a.Aq,I a.B1,I a.Cj],.agg #[I b.On,I b.AF,.bool b.Aq]] w (fun v w'=>Ext w w'∧BW.R w' (ZZ FN [] Z w.heap.size []) v o):=by
 unfold Ew at d;refine Bd (N:=9) Tryz.func107 rfl rfl (by simp) ?_;intro y j z;have k:=AO (i:=0) (v:=.agg #[I a.Au,I a.AH,I a.Aq,I a.B1,I a.Cj]) j rfl;have m:=AO (i:=1) (v:=.agg #[I b.On,I b.AF,.bool b.Aq]) j rfl;clear j;have g:Hp FN [] w [] w:=Hp.start (BM.none w);refine Ag<|Ab<|we rfl (fun st=>BY (v:=.agg #[I a.Au,I a.AH,I a.Aq,I a.B1,I a.Cj]) (cs:= #[I a.Au,I a.AH,I a.Aq,I a.B1,I a.Cj]) (ee st k) rfl) ?_;rintro _ w1 ⟨aA,rfl,e⟩;have h:=g.nb e;have u:=g.BL e;refine we rfl (fun st=>BY (v:=.agg #[I b.On,I b.AF,.bool b.Aq]) (cs:= #[I b.On,I b.AF,.bool b.Aq]) (ee st m) rfl) ?_;rintro _ w2 ⟨aB,rfl,c⟩;have p:=h.nb c;have x:=h.BL c;refine wa rfl (v:=.bool false) rfl<|Af<|Aa<|Ag<|Ab ?_;have f:=(e.bk.ext c.gr);refine wd rfl (fun st=>A8 (l:=[I a.Au,I a.AH,I a.Aq,I a.B1,I a.Cj]) HG (ee st rfl) f rfl rfl)<|wd rfl (fun st=>A8 (l:=[I b.On,I b.AF,.bool b.Aq]) Ek (ee st rfl) c.bk rfl rfl) ?_;replace d:=bind_some d;obtain⟨q,r,d⟩:=d;refine we rfl (fun st=>AI Ot (ee st rfl) (EF (ee st rfl) (ee st rfl)) (UX n a b ZA _ q r)) ?_;rintro _ aC ⟨s,rfl⟩;have t:=p.ext s;refine wd rfl (fun st=>DC (ee st rfl))<|wa rfl (v:=.bool !q) rfl<|Af<|Aa<|AM ?_;obtain rfl:=Option.some.inj d;refine AU rfl rfl ?_;exact⟨t.Bz,rfl⟩
end Go.Proofs.YtkljfdkmjdjpfaaGreat
end
section
set_option linter.unusedVariables false
set_option linter.unusedSimpArgs false
namespace Go.Proofs.YtkljfdkmjdjpfaaGreat
open Go.RowKit Go.WideShapes
set_option maxRecDepth 20000
open HF
attribute [local irreducible] BO WL CC CW LV BN EB DH One Bq
theorem VH(aW:Nat)(b:Ar)(z:Int)(h:Option Addr)(j:Nat)(Z:Nat→Prop)(w:World)(cB:Sl AP w Z h j b.Ad)(c9:Bool)(a:Ed aW b z=some c9):
 BN Tryz.prog 95 #[.agg #[I b.Am,I b.Ak,I b.Ao,I b.Ay,.slice h b.Ad.length j],I z] w (fun v w'=>Ext w w'∧BW.R w' (ZZ FN [] Z w.heap.size []) v c9):=by
 unfold Ed at a;refine Bd (N:=46) Tryz.func95 rfl rfl (by simp) ?_;intro dW cM dX;have cN:=AO (i:=0) (v:=.agg #[I b.Am,I b.Ak,I b.Ao,I b.Ay,.slice h b.Ad.length j]) cM rfl;have cO:=AO (i:=1) (v:=I z) cM rfl;clear cM;have cJ:Hp FN [] w [] w:=Hp.start (BM.none w);have bN:=cB.mv (Bf (Z:=Z) (L:=[]) w);refine Ag<|Ab<|we rfl (fun st=>BY (v:=.agg #[I b.Am,I b.Ak,I b.Ao,I b.Ay,.slice h b.Ad.length j]) (cs:= #[I b.Am,I b.Ak,I b.Ao,I b.Ay,.slice h b.Ad.length j]) (ee st cN) rfl) ?_;rintro _ w1 ⟨m,rfl,bG⟩;have dA:=cJ.nb bG;have dP:=cJ.BL bG;refine wa rfl (v:=.bool false) rfl<|Af<|Aa<|Ag<|Ab<|wa rfl (v:=I 0) rfl<|Af<|Aa<|Ag<|Ag<|Ab<|wa rfl (v:=I 0) rfl<|Af<|Aa<|AY ?_;replace a:=bind_some a;obtain⟨z2,aX,a⟩:=a;refine B8 (fun aZ d o=>(aZ=.ret∧∃aI,z2=.inl aI∧d.tmps.size=46∧d.defers=(X0).ds∧sl d 4=.bool aI∧Hp FN [] w [some m] o)∨(aZ=.exit 0∧∃aI,z2=.inr aI∧d.tmps.size=46∧d.defers=(X0).ds∧sl d 2=pt m 0∧sl d 5=I aI∧Hp FN [] w [some m] o∧Bk o m 63 #[I b.Am,I b.Ak,I b.Ao,I b.Ay,.slice h b.Ad.length j]∧Sl AP o (ZZ FN [] Z w.heap.size [some m]) h j b.Ad)) ?dB ?dC
 case dB=>
  clear a;refine B7 (fun(aG:Nat) (d:Act) (o:World)=>∃n,∃e,CM aW b z aG n e=some z2∧d.tmps.size=46∧d.defers=(X0).ds∧sl d 1=I z∧sl d 2=pt m 0∧sl d 5=I n∧sl d 6=I e∧Hp FN [] w [some m] o∧Bk o m 63 #[I b.Am,I b.Ak,I b.Ao,I b.Ay,.slice h b.Ad.length j]∧Sl AP o (ZZ FN [] Z w.heap.size [some m]) h j b.Ad) aW ?dD ?dE
  case dD=>
   intro st;have bO:=(bN.mv (Ax bG));exact⟨(0:Int),(0:Int),aX,qz st,qd st,sp st 1 cO,sp st 2 rfl,sp st 5 rfl,sp st 6 rfl,dA,bG.bk,bO⟩
  case dE=>
   rintro(_|aG) dY dZ ⟨n,e,aX,cP,cQ,a0,aQ,a2,aC,cK,aJ,aH⟩
   ·exact absurd (show none=some _ from aX) (by simp)
   rw[CM.eq_2] at aX;have a:=aX;clear aX;refine BU (N:=46) cP cQ<|Ag<|Ag<|Ab<|wm rfl (v:=I e) aC<|wd rfl (fun st=>An (ee st aQ) (FX _ _))<|wd rfl (fun st=>Av (v:=I b.Am) AZ (ee st rfl) aJ rfl)<|wd rfl (fun st=>EH (ee st rfl) (ee st rfl))<|Af<|Aa ?_;rcases Ap (decide (e≤b.Am)) with a7|a7
   ·replace a:=AD a a7;refine Az rfl a7<|AX<|Aa<|Ag<|AY<|Ag<|Ag<|Ab<|wm rfl (v:=I z) a0<|wm rfl (v:=I e) aC ?_;replace a:=bind_some a;obtain⟨dF,dG,a⟩:=a;refine we rfl (fun st=>AI KU (ee st rfl) (EF (ee st rfl) (ee st rfl)) (Rh aW z e ZA _ dF dG)) ?_;rintro _ d6 ⟨a8,rfl⟩;have cL:=cK.ext a8;refine Af<|Aa ?_;rcases Ap (dF) with a9|a9
    ·replace a:=AD a a9;refine Az rfl a9<|Ab<|wm rfl (v:=I n) a2 ?_;replace a:=AS a;obtain⟨dH,a⟩:=a;refine wd rfl (fun st=>Bs (ee st rfl) (ee st rfl) dH)<|wa rfl (v:=I (n+1)) rfl<|Af<|Aa<|Ag<|Ab<|wa rfl (v:=.bool true) rfl<|Af<|Aa<|Ag<|Ag<|Ab<|wm rfl (v:=I e) aC<|wa rfl (v:=I e) rfl<|Af<|Aa<|AY ?_;replace a:=bind_some a;obtain⟨cC,aY,a⟩:=a;refine B8 (fun aZ d o=>(aZ=.exit 2∧d.tmps.size=46∧d.defers=(X0).ds∧sl d 1=I z∧sl d 2=pt m 0∧sl d 5=I (n+1)∧sl d 6=I e∧sl d 7=.bool cC∧Hp FN [] w [some m] o∧Bk o m 63 #[I b.Am,I b.Ak,I b.Ao,I b.Ay,.slice h b.Ad.length j]∧Sl AP o (ZZ FN [] Z w.heap.size [some m]) h j b.Ad)) ?dI ?dJ
     case dI=>
      clear a;refine B7 (fun(aG:Nat) (d:Act) (o:World)=>∃aN,∃g,Cy aW b z e aG aN g=some cC∧d.tmps.size=46∧d.defers=(X0).ds∧sl d 1=I z∧sl d 2=pt m 0∧sl d 5=I (n+1)∧sl d 6=I e∧sl d 7=.bool aN∧sl d 8=I g∧Hp FN [] w [some m] o∧Bk o m 63 #[I b.Am,I b.Ak,I b.Ao,I b.Ay,.slice h b.Ad.length j]∧Sl AP o (ZZ FN [] Z w.heap.size [some m]) h j b.Ad) aW ?dK ?dL
      case dK=>
       intro st;have a3:=(aJ.ext a8);have aO:=(aH.mv (Ai a8));exact⟨true,e,aY,qz st,qd st,sp st 1 a0,sp st 2 aQ,sp st 5 rfl,sp st 6 aC,sp st 7 rfl,sp st 8 rfl,cL,a3,aO⟩
      case dL=>
       rintro(_|aG) d0 d1 ⟨aN,g,aY,cR,cS,aK,aD,aR,aL,bH,aE,bI,t,y⟩
       ·exact absurd (show none=some _ from aY) (by simp)
       rw[Cy.eq_2] at aY;have a:=aY;clear aY;refine BU (N:=46) cR cS<|Ag<|Ag<|Ab<|wm rfl (v:=I g) aE<|wm rfl (v:=I e) aL<|wd rfl (fun st=>An (ee st aD) (K9 _ _))<|wd rfl (fun st=>Av (v:=I b.Ay) AZ (ee st rfl) t rfl) ?_;replace a:=AS a;obtain⟨dM,a⟩:=a;refine wd rfl (fun st=>Bs (ee st rfl) (ee st rfl) dM)<|wd rfl (fun st=>EH (ee st rfl) (ee st rfl))<|Af<|Aa ?_;rcases Ap (decide (g≤(e+b.Ay))) with aS|aS
       ·replace a:=AD a aS;refine Az rfl aS<|AX<|Aa<|Ag<|AY<|Ab<|wm rfl (v:=.bool aN) bH<|wm rfl (v:=.bool aN) rfl ?_;rcases Ap (aN) with k|k
        ·replace a:=AD a k;refine Aw rfl rfl (Ac rfl k) rfl (by decide) (fun st=>AL (v:=I g) (ee st aE))<|Aw rfl rfl (Ac rfl k) rfl (by decide) (fun st=>An (ee st aD) (FX _ _))<|Aw rfl rfl (Ac rfl k) rfl (by decide) (fun st=>Av (v:=I b.Am) AZ (ee st rfl) t rfl)<|Aw rfl rfl (Ac rfl k) rfl (by decide) (fun st=>EH (ee st rfl) (ee st rfl))<|wd rfl (fun st=>AV (v:=.bool (decide (g≤b.Am))) (ee st rfl) k (ee st rfl))<|wm rfl (v:=.bool (decide (g≤b.Am))) rfl ?_;rcases Ap (decide (g≤b.Am)) with q|q
         ·replace a:=AD a q;refine Aw rfl rfl (Ac rfl q) rfl (by decide) (fun st=>AL (v:=I z) (ee st aK))<|Aw rfl rfl (Ac rfl q) rfl (by decide) (fun st=>AL (v:=I g) (ee st aE)) ?_;replace a:=bind_some a;obtain⟨bJ,cT,a⟩:=a;refine Dt rfl rfl (Ac rfl q) rfl (by decide) (fun st=>AI KU (ee st rfl) (EF (ee st rfl) (ee st rfl)) (Rh aW z g ZA _ bJ cT)) ?_;rintro _ d2 ⟨bC,rfl⟩;have dN:=bI.ext bC;refine wd rfl (fun st=>AV (v:=.bool bJ) (ee st rfl) q (ee st rfl))<|wa rfl (v:=.bool bJ) rfl<|Af<|Bg<|Aa<|Ab<|wm rfl (v:=I g) aE ?_;replace a:=AS a;obtain⟨cU,a⟩:=a;refine wd rfl (fun st=>Bs (ee st rfl) (ee st rfl) cU)<|wa rfl (v:=I (g+1)) rfl<|Af ?_;have cD:=(t.ext bC);have bP:=(y.mv (Ai bC));refine Bn aG (Nat.lt_succ_self _) (fun st=>?_);exact⟨bJ,(g+1),a,qz st,qd st,sp st 1 aK,sp st 2 aD,sp st 5 aR,sp st 6 aL,sp st 7 rfl,sp st 8 rfl,dN,cD,bP⟩
         ·replace a:=AE a q;refine Aj (c:=false) rfl rfl (Ac rfl q) (by decide) rfl (by decide)<|Aj (c:=false) rfl rfl (Ac rfl q) (by decide) rfl (by decide)<|Aj (c:=false) rfl rfl (Ac rfl q) (by decide) rfl (by decide)<|wd rfl (fun st=>Br (v:=.bool false) (ee st rfl) q (ee st rfl))<|wa rfl (v:=.bool false) rfl<|Af<|Bg<|Aa<|Ab<|wm rfl (v:=I g) aE ?_;replace a:=AS a;obtain⟨cV,a⟩:=a;refine wd rfl (fun st=>Bs (ee st rfl) (ee st rfl) cV)<|wa rfl (v:=I (g+1)) rfl<|Af ?_;refine Bn aG (Nat.lt_succ_self _) (fun st=>?_);exact⟨false,(g+1),a,qz st,qd st,sp st 1 aK,sp st 2 aD,sp st 5 aR,sp st 6 aL,sp st 7 rfl,sp st 8 rfl,bI,t,y⟩
        ·replace a:=AE a k;refine Aj (c:=false) rfl rfl (Ac rfl k) (by decide) rfl (by decide)<|Aj (c:=false) rfl rfl (Ac rfl k) (by decide) rfl (by decide)<|Aj (c:=false) rfl rfl (Ac rfl k) (by decide) rfl (by decide)<|Aj (c:=false) rfl rfl (Ac rfl k) (by decide) rfl (by decide)<|wd rfl (fun st=>Br (v:=.bool false) (ee st rfl) k (ee st rfl))<|wm rfl (v:=.bool false) rfl<|Aj rfl rfl rfl (by decide) rfl (by decide)<|Aj rfl rfl rfl (by decide) rfl (by decide)<|Aj rfl rfl rfl (by decide) rfl (by decide)<|wd rfl (fun st=>Br (v:=.bool false) (ee st rfl) rfl (ee st rfl))<|wa rfl (v:=.bool false) rfl<|Af<|Bg<|Aa<|Ab<|wm rfl (v:=I g) aE ?_;replace a:=AS a;obtain⟨cW,a⟩:=a;refine wd rfl (fun st=>Bs (ee st rfl) (ee st rfl) cW)<|wa rfl (v:=I (g+1)) rfl<|Af ?_;refine Bn aG (Nat.lt_succ_self _) (fun st=>?_);exact⟨false,(g+1),a,qz st,qd st,sp st 1 aK,sp st 2 aD,sp st 5 aR,sp st 6 aL,sp st 7 rfl,sp st 8 rfl,bI,t,y⟩
       ·replace a:=AE a aS;refine AG rfl aS<|B0<|AK<|AK ?_;obtain rfl:=Option.some.inj a;refine BS (fun st=>?_);exact⟨rfl,qz st,qd st,sp st 1 aK,sp st 2 aD,sp st 5 aR,sp st 6 aL,sp st 7 bH,bI,t,y⟩
     case dJ=>
      rintro aZ dR d3 (⟨rfl,cE,cF,bX,bY,bZ,b1,b2,b3,b4,bD⟩);refine Ce (X:=X0) (N:=46) cE cF<|Bp<|Aa<|Ag<|Ab<|wm rfl (v:=.bool cC) b2<|Af<|Aa ?_;rcases Ap (cC) with aT|aT
      ·replace a:=AD a aT;refine Az rfl aT<|Ag<|Ab<|wa rfl (v:=.bool false) rfl<|Af<|Aa<|AM<|A5<|AA<|AA ?_;obtain rfl:=Option.some.inj a;refine BS (fun st=>?_);exact .inl ⟨rfl,false,rfl,qz st,qd st,sp st 4 rfl,b3⟩
      ·replace a:=AE a aT;refine AG rfl aT<|AX<|Bg<|Aa<|Ab<|wm rfl (v:=I e) b1 ?_;replace a:=AS a;obtain⟨cX,a⟩:=a;refine wd rfl (fun st=>Bs (ee st rfl) (ee st rfl) cX)<|wa rfl (v:=I (e+1)) rfl<|Af ?_;refine Bn aG (Nat.lt_succ_self _) (fun st=>?_);exact⟨(n+1),(e+1),a,qz st,qd st,sp st 1 bX,sp st 2 bY,sp st 5 bZ,sp st 6 rfl,b3,b4,bD⟩
    ·replace a:=AE a a9;refine AG rfl a9<|AX<|Aa<|Ag<|Ab<|wa rfl (v:=.bool true) rfl<|Af<|Aa<|Ag<|Ag<|Ab<|wm rfl (v:=I e) aC<|wa rfl (v:=I e) rfl<|Af<|Aa<|AY ?_;replace a:=bind_some a;obtain⟨z20,aP,a⟩:=a;refine B8 (fun aZ d o=>(aZ=.exit 2∧d.tmps.size=46∧d.defers=(X0).ds∧sl d 1=I z∧sl d 2=pt m 0∧sl d 5=I n∧sl d 6=I e∧sl d 7=.bool z20∧Hp FN [] w [some m] o∧Bk o m 63 #[I b.Am,I b.Ak,I b.Ao,I b.Ay,.slice h b.Ad.length j]∧Sl AP o (ZZ FN [] Z w.heap.size [some m]) h j b.Ad)) ?cY ?cZ
     case cY=>
      clear a;refine B7 (fun(aG:Nat) (d:Act) (o:World)=>∃aF,∃f,Cv aW b z e aG aF f=some z20∧d.tmps.size=46∧d.defers=(X0).ds∧sl d 1=I z∧sl d 2=pt m 0∧sl d 5=I n∧sl d 6=I e∧sl d 7=.bool aF∧sl d 8=I f∧Hp FN [] w [some m] o∧Bk o m 63 #[I b.Am,I b.Ak,I b.Ao,I b.Ay,.slice h b.Ad.length j]∧Sl AP o (ZZ FN [] Z w.heap.size [some m]) h j b.Ad) aW ?c0 ?c1
      case c0=>
       intro st;have a3:=(aJ.ext a8);have aO:=(aH.mv (Ai a8));exact⟨true,e,aP,qz st,qd st,sp st 1 a0,sp st 2 aQ,sp st 5 a2,sp st 6 aC,sp st 7 rfl,sp st 8 rfl,cL,a3,aO⟩
      case c1=>
       rintro(_|aG) dS dT ⟨aF,f,aP,cG,cH,aA,u,aM,aB,bA,x,bK,p,s⟩
       ·exact absurd (show none=some _ from aP) (by simp)
       rw[Cv.eq_2] at aP;have a:=aP;clear aP;refine BU (N:=46) cG cH<|Ag<|Ag<|Ab<|wm rfl (v:=I f) x<|wm rfl (v:=I e) aB<|wd rfl (fun st=>An (ee st u) (K9 _ _))<|wd rfl (fun st=>Av (v:=I b.Ay) AZ (ee st rfl) p rfl) ?_;replace a:=AS a;obtain⟨c2,a⟩:=a;refine wd rfl (fun st=>Bs (ee st rfl) (ee st rfl) c2)<|wd rfl (fun st=>EH (ee st rfl) (ee st rfl))<|Af<|Aa ?_;rcases Ap (decide (f≤(e+b.Ay))) with aU|aU
       ·replace a:=AD a aU;refine Az rfl aU<|AX<|Aa<|Ag<|AY<|Ab<|wm rfl (v:=.bool aF) bA<|wm rfl (v:=.bool aF) rfl ?_;rcases Ap (aF) with l|l
        ·replace a:=AD a l;refine Aw rfl rfl (Ac rfl l) rfl (by decide) (fun st=>AL (v:=I f) (ee st x))<|Aw rfl rfl (Ac rfl l) rfl (by decide) (fun st=>An (ee st u) (FX _ _))<|Aw rfl rfl (Ac rfl l) rfl (by decide) (fun st=>Av (v:=I b.Am) AZ (ee st rfl) p rfl)<|Aw rfl rfl (Ac rfl l) rfl (by decide) (fun st=>EH (ee st rfl) (ee st rfl))<|wd rfl (fun st=>AV (v:=.bool (decide (f≤b.Am))) (ee st rfl) l (ee st rfl))<|wm rfl (v:=.bool (decide (f≤b.Am))) rfl ?_;rcases Ap (decide (f≤b.Am)) with r|r
         ·replace a:=AD a r;refine Aw rfl rfl (Ac rfl r) rfl (by decide) (fun st=>AL (v:=I z) (ee st aA))<|Aw rfl rfl (Ac rfl r) rfl (by decide) (fun st=>AL (v:=I f) (ee st x)) ?_;replace a:=bind_some a;obtain⟨bL,c3,a⟩:=a;refine Dt rfl rfl (Ac rfl r) rfl (by decide) (fun st=>AI KU (ee st rfl) (EF (ee st rfl) (ee st rfl)) (Rh aW z f ZA _ bL c3)) ?_;rintro _ d4 ⟨bE,rfl⟩;have dO:=bK.ext bE;refine wd rfl (fun st=>AV (v:=.bool bL) (ee st rfl) r (ee st rfl))<|wa rfl (v:=.bool bL) rfl<|Af<|Bg<|Aa<|Ab<|wm rfl (v:=I f) x ?_;replace a:=AS a;obtain⟨c4,a⟩:=a;refine wd rfl (fun st=>Bs (ee st rfl) (ee st rfl) c4)<|wa rfl (v:=I (f+1)) rfl<|Af ?_;have cI:=(p.ext bE);have bQ:=(s.mv (Ai bE));refine Bn aG (Nat.lt_succ_self _) (fun st=>?_);exact⟨bL,(f+1),a,qz st,qd st,sp st 1 aA,sp st 2 u,sp st 5 aM,sp st 6 aB,sp st 7 rfl,sp st 8 rfl,dO,cI,bQ⟩
         ·replace a:=AE a r;refine Aj (c:=false) rfl rfl (Ac rfl r) (by decide) rfl (by decide)<|Aj (c:=false) rfl rfl (Ac rfl r) (by decide) rfl (by decide)<|Aj (c:=false) rfl rfl (Ac rfl r) (by decide) rfl (by decide)<|wd rfl (fun st=>Br (v:=.bool false) (ee st rfl) r (ee st rfl))<|wa rfl (v:=.bool false) rfl<|Af<|Bg<|Aa<|Ab<|wm rfl (v:=I f) x ?_;replace a:=AS a;obtain⟨c5,a⟩:=a;refine wd rfl (fun st=>Bs (ee st rfl) (ee st rfl) c5)<|wa rfl (v:=I (f+1)) rfl<|Af ?_;refine Bn aG (Nat.lt_succ_self _) (fun st=>?_);exact⟨false,(f+1),a,qz st,qd st,sp st 1 aA,sp st 2 u,sp st 5 aM,sp st 6 aB,sp st 7 rfl,sp st 8 rfl,bK,p,s⟩
        ·replace a:=AE a l;refine Aj (c:=false) rfl rfl (Ac rfl l) (by decide) rfl (by decide)<|Aj (c:=false) rfl rfl (Ac rfl l) (by decide) rfl (by decide)<|Aj (c:=false) rfl rfl (Ac rfl l) (by decide) rfl (by decide)<|Aj (c:=false) rfl rfl (Ac rfl l) (by decide) rfl (by decide)<|wd rfl (fun st=>Br (v:=.bool false) (ee st rfl) l (ee st rfl))<|wm rfl (v:=.bool false) rfl<|Aj rfl rfl rfl (by decide) rfl (by decide)<|Aj rfl rfl rfl (by decide) rfl (by decide)<|Aj rfl rfl rfl (by decide) rfl (by decide)<|wd rfl (fun st=>Br (v:=.bool false) (ee st rfl) rfl (ee st rfl))<|wa rfl (v:=.bool false) rfl<|Af<|Bg<|Aa<|Ab<|wm rfl (v:=I f) x ?_;replace a:=AS a;obtain⟨c6,a⟩:=a;refine wd rfl (fun st=>Bs (ee st rfl) (ee st rfl) c6)<|wa rfl (v:=I (f+1)) rfl<|Af ?_;refine Bn aG (Nat.lt_succ_self _) (fun st=>?_);exact⟨false,(f+1),a,qz st,qd st,sp st 1 aA,sp st 2 u,sp st 5 aM,sp st 6 aB,sp st 7 rfl,sp st 8 rfl,bK,p,s⟩
       ·replace a:=AE a aU;refine AG rfl aU<|B0<|AK<|AK ?_;obtain rfl:=Option.some.inj a;refine BS (fun st=>?_);exact⟨rfl,qz st,qd st,sp st 1 aA,sp st 2 u,sp st 5 aM,sp st 6 aB,sp st 7 bA,bK,p,s⟩
     case cZ=>
      rintro aZ dQ dU (⟨rfl,b5,b6,bR,bS,bT,bU,bV,bM,bW,bB⟩);refine Ce (X:=X0) (N:=46) b5 b6<|Bp<|Aa<|Ag<|Ab<|wm rfl (v:=.bool z20) bV<|Af<|Aa ?_;rcases Ap (z20) with aV|aV
      ·replace a:=AD a aV;refine Az rfl aV<|Ag<|Ab<|wa rfl (v:=.bool false) rfl<|Af<|Aa<|AM<|A5<|AA<|AA ?_;obtain rfl:=Option.some.inj a;refine BS (fun st=>?_);exact .inl ⟨rfl,false,rfl,qz st,qd st,sp st 4 rfl,bM⟩
      ·replace a:=AE a aV;refine AG rfl aV<|AX<|Bg<|Aa<|Ab<|wm rfl (v:=I e) bU ?_;replace a:=AS a;obtain⟨c7,a⟩:=a;refine wd rfl (fun st=>Bs (ee st rfl) (ee st rfl) c7)<|wa rfl (v:=I (e+1)) rfl<|Af ?_;refine Bn aG (Nat.lt_succ_self _) (fun st=>?_);exact⟨n,(e+1),a,qz st,qd st,sp st 1 bR,sp st 2 bS,sp st 5 bT,sp st 6 rfl,bM,bW,bB⟩
   ·replace a:=AE a a7;refine AG rfl a7<|B0<|AK<|AK ?_;obtain rfl:=Option.some.inj a;refine BS (fun st=>?_);exact .inr ⟨rfl,n,rfl,qz st,qd st,sp st 2 aQ,sp st 5 a2,cK,aJ,aH⟩
 case dC=>
  rintro aZ dV d5 (⟨rfl,aI,rfl,a4,a5,b7,bF⟩|⟨rfl,aI,rfl,a4,a5,b8,b9,bF,cA,c8⟩)
  ·skip
   replace a:=Es a;refine Ce (X:=X0) (N:=46) a4 a5<|A5<|AA ?_;obtain rfl:=Option.some.inj a;refine AU rfl b7 ?_;exact⟨bF.Bz,rfl⟩
  ·skip
   replace a:=Et a;refine Ce (X:=X0) (N:=46) a4 a5<|Bp<|Aa<|Ag<|Ab<|wm rfl (v:=I aI) b9<|wd rfl (fun st=>An (ee st b8) (MK _ _))<|wd rfl (fun st=>Av (v:=I b.Ao) AZ (ee st rfl) cA rfl)<|wd rfl (fun st=>EH (ee st rfl) (ee st rfl))<|wa rfl (v:=.bool (decide (aI≤b.Ao))) rfl<|Af<|Aa<|AM ?_;obtain rfl:=Option.some.inj a;refine AU rfl rfl ?_;exact⟨bF.Bz,rfl⟩
theorem UY(aY:Nat)(c:Ar)(h:Option Addr)(j:Nat)(Z:Nat→Prop)(w:World)(aZ:Sl AP w Z h j c.Ad)(bI:(List Int))(a:Ej aY c=some bI):
 BN Tryz.prog 100 #[.agg #[I c.Am,I c.Ak,I c.Ao,I c.Ay,.slice h c.Ad.length j]] w (fun v w'=>Ext w w'∧(DX (AB .i64)).R w' (ZZ FN [] Z w.heap.size []) v bI):=by
 unfold Ej at a;refine Bd (N:=22) Tryz.func100 rfl rfl (by simp) ?_;intro b5 bJ b6;have bA:=AO (i:=0) (v:=.agg #[I c.Am,I c.Ak,I c.Ao,I c.Ay,.slice h c.Ad.length j]) bJ rfl;clear bJ;have a8:Hp FN [] w [] w:=Hp.start (BM.none w);have aM:=aZ.mv (Bf (Z:=Z) (L:=[]) w);refine Ag<|Ab<|we rfl (fun st=>BY (v:=.agg #[I c.Am,I c.Ak,I c.Ao,I c.Ay,.slice h c.Ad.length j]) (cs:= #[I c.Am,I c.Ak,I c.Ao,I c.Ay,.slice h c.Ad.length j]) (ee st bA) rfl) ?_;rintro _ w1 ⟨o,rfl,aK⟩;have bK:=a8.nb aK;have b2:=a8.BL aK;refine wa rfl (v:=.slice none 0 0) rfl<|Af<|Aa<|Ag<|Ab<|wa rfl (v:=.slice none 0 0) rfl<|Af<|Aa<|Ag<|Ag<|Ab<|wa rfl (v:=I 0) rfl<|Af<|Aa<|AY ?_;have bL:Hp FN [] w [none,some o] w1:=bK.nil;have bM:AJ (AB .i64) 3 w.heap.size w1 (ZZ FN [] Z w.heap.size [none,some o]) none 0 ([]:List Int):=AJ.nil _ _ _ _ _;replace a:=bind_some a;obtain⟨z2,aC,a⟩:=a;refine B8 (fun bN s aI=>(bN=.exit 0∧∃f m,s.tmps.size=22∧s.defers=(X0).ds∧sl s 3=.slice f z2.length m∧Hp FN [] w [ob f,some o] aI∧AJ (AB .i64) 3 w.heap.size aI (ZZ FN [] Z w.heap.size [ob f,some o]) f m z2)) ?bO ?bP
 case bO=>
  clear a;refine B7 (fun(a0:Nat) (s:Act) (aI:World)=>∃g,∃b,∃d n,CR aY c a0 g b=some z2∧s.tmps.size=22∧s.defers=(X0).ds∧sl s 1=pt o 0∧sl s 3=.slice d g.length n∧sl s 4=I b∧Hp FN [] w [ob d,some o] aI∧AJ (AB .i64) 3 w.heap.size aI (ZZ FN [] Z w.heap.size [ob d,some o]) d n g∧Bk aI o 63 #[I c.Am,I c.Ak,I c.Ao,I c.Ay,.slice h c.Ad.length j]∧Sl AP aI (ZZ FN [] Z w.heap.size [ob d,some o]) h j c.Ad) aY ?bQ ?bR
  case bQ=>
   intro st;have a2:=aK.bk;have aN:Sl AP w1 (ZZ FN [] Z w.heap.size [none,some o]) h j c.Ad:=((aM.mv (Ax aK)).mv Cg);exact⟨([]:List Int),(0:Int),none,0,aC,qz st,qd st,sp st 1 rfl,sp st 3 rfl,sp st 4 rfl,bL,bM,a2,aN⟩
  case bR=>
   rintro(_|a0) b7 b8 ⟨g,b,d,n,aC,bB,bC,z,aD,t,a9,p,u,q⟩
   ·exact absurd (show none=some _ from aC) (by simp)
   rw[CR.eq_2] at aC;have a:=aC;clear aC;refine BU (N:=22) bB bC<|Ag<|Ag<|Ab<|wm rfl (v:=I b) t<|wd rfl (fun st=>An (ee st z) (FX _ _))<|wd rfl (fun st=>Av (v:=I c.Am) AZ (ee st rfl) u rfl) ?_;replace a:=AS a;obtain⟨bS,a⟩:=a;refine wd rfl (fun st=>Bs (ee st rfl) (ee st rfl) bS) ?_;replace a:=IP a;obtain⟨bT,a⟩:=a;refine wd rfl (fun st=>Kk (k:=.u64) Oo Tryz.underlying32 (ee st rfl) bT) ?_;replace a:=Ig a;obtain⟨bU,a⟩:=a;refine wd rfl (fun st=>L5 (ee st rfl) (ee st rfl) bU)<|wd rfl (fun st=>Cc (ee st rfl) (ee st rfl))<|Af<|Aa ?_;rcases Ap (decide (b<(Fw (1:Int) (c.Am+1)))) with aF|aF
   ·replace a:=AD a aF;refine Az rfl aF<|AX<|Aa<|Ag<|AY<|Ag<|Ab<|wd rfl (fun st=>A8 (l:=[I c.Am,I c.Ak,I c.Ao,I c.Ay,.slice h c.Ad.length j]) Dn (ee st z) u rfl rfl)<|wm rfl (v:=I b) t ?_;replace a:=bind_some a;obtain⟨bV,bW,a⟩:=a;refine we rfl (fun st=>AI QX (ee st rfl) (EF (ee st rfl) (ee st rfl)) (VH aY c b h j ZA _ q.all bV bW)) ?_;rintro _ b3 ⟨x,rfl⟩;have aS:=a9.ext x;refine Af<|Aa ?_;rcases Ap (bV) with aA|aA
    ·replace a:=AD a aA;refine Az rfl aA<|Ab<|wm rfl (v:=.slice d g.length n) aD<|wm rfl (v:=I b) t<|we rfl (fun st=>BR (e:=3) (vs:= #[(0,I b)]) (cs:= #[I b]) (HB (ee st rfl)) (by kernel_rfl)) ?_;rintro _ bX ⟨aT,rfl,r⟩;have aG:=aS.nb r;have bY:=aS.BL r;have aO:AJ (AB .i64) 3 w.heap.size bX (ZZ FN [] Z w.heap.size [some aT,ob d,some o]) d n g:=((p.ext x (Ai x)).ext r.gr (Ax r));replace a:=CI a;obtain⟨aU,a⟩:=a;refine we rfl (fun st=>Ju (ys:=[b]) Tryz.underlying23 HT rfl rfl (by decide) (ee st rfl) rfl (ee st rfl) aO (K3 (Bm:=[[I b]]) r.bk ⟨rfl,trivial⟩ rfl) (by have:=aU;simp only[maxLen];omega) (by have:=aU;omega) aG.sz (by simp)) ?_;rintro _ aH ⟨y,aL,rfl,aE,aJ,bD⟩;have bZ:Hp FN [] w [some aT,ob y,some o] aH:=aG.row aE 1 rfl aJ;have bE:AJ (AB .i64) 3 w.heap.size aH (ZZ FN [] Z w.heap.size [some aT,ob y,some o]) y aL (g++[b]):=FD bD (aG.Em aE 1 rfl (fun k bF=>(aJ k bF).1));refine wa rfl (v:=.slice y ((g++[b]).length) aL) rfl<|Af<|Bg<|Aa<|Ab<|wm rfl (v:=I b) t ?_;replace a:=AS a;obtain⟨bG,a⟩:=a;refine wd rfl (fun st=>Bs (ee st rfl) (ee st rfl) bG)<|wa rfl (v:=I (b+1)) rfl<|Af ?_;have b1:Hp FN [] w [ob y,some o] aH:=bZ.erase 0;have aV:AJ (AB .i64) 3 w.heap.size aH (ZZ FN [] Z w.heap.size [ob y,some o]) y aL (g++[b]):=(bE.up (AW 0));have a3:=(((u.ext x).ext r.gr).gr aE (aG.ne 2 1 rfl rfl rfl));have aP:Sl AP aH (ZZ FN [] Z w.heap.size [ob y,some o]) h j c.Ad:=((((q.mv (Ai x)).mv (Ax r)).mv (aG.Em aE 1 rfl (fun k bF=>(aJ k bF).1))).mv (AW 0));refine Bn a0 (Nat.lt_succ_self _) (fun st=>?_);exact⟨(g++[b]),(b+1),y,aL,a,qz st,qd st,sp st 1 z,sp st 3 rfl,sp st 4 rfl,b1,aV,a3,aP⟩
    ·replace a:=AE a aA;refine AG rfl aA<|AX<|Bg<|Aa<|Ab<|wm rfl (v:=I b) t ?_;replace a:=AS a;obtain⟨bH,a⟩:=a;refine wd rfl (fun st=>Bs (ee st rfl) (ee st rfl) bH)<|wa rfl (v:=I (b+1)) rfl<|Af ?_;have aQ:AJ (AB .i64) 3 w.heap.size b3 (ZZ FN [] Z w.heap.size [ob d,some o]) d n g:=(p.ext x (Ai x));have a4:=(u.ext x);have aR:=(q.mv (Ai x));refine Bn a0 (Nat.lt_succ_self _) (fun st=>?_);exact⟨g,(b+1),d,n,a,qz st,qd st,sp st 1 z,sp st 3 aD,sp st 4 rfl,aS,aQ,a4,aR⟩
   ·replace a:=AE a aF;refine AG rfl aF<|B0<|AK<|AK ?_;obtain rfl:=Option.some.inj a;refine BS (fun st=>?_);exact⟨rfl,d,n,qz st,qd st,sp st 3 aD,a9,p⟩
 case bP=>
  rintro bN b4 b9 (⟨rfl,f,m,a5,a7,aW,aX,aB⟩);refine Ce (X:=X0) (N:=22) a5 a7<|Bp<|Aa<|Ag<|Ab<|wm rfl (v:=.slice f z2.length m) aW<|wa rfl (v:=.slice f z2.length m) rfl<|Af<|Aa<|AM ?_;obtain rfl:=Option.some.inj a;refine AU rfl rfl ?_;exact⟨aX.Bz,⟨_,_,rfl,aX.Io (M:=[]) 0 rfl [] rfl trivial aB⟩⟩
theorem UZ(aA:Nat)(a:Ar)(c:Option Addr)(d:Nat)(Z:Nat→Prop)(w:World)(aF:Sl AP w Z c d a.Ad)(aV:Int)(b:DE aA a=some aV):
 BN Tryz.prog 81 #[.agg #[I a.Am,I a.Ak,I a.Ao,I a.Ay,.slice c a.Ad.length d]] w (fun v w'=>Ext w w'∧(F1 .i64).R w' (ZZ FN [] Z w.heap.size []) v aV):=by
 unfold DE at b;refine Bd (N:=26) Tryz.func81 rfl rfl (by simp) ?_;intro bI aW bJ;have aO:=AO (i:=0) (v:=.agg #[I a.Am,I a.Ak,I a.Ao,I a.Ay,.slice c a.Ad.length d]) aW rfl;clear aW;have aL:Hp FN [] w [] w:=Hp.start (BM.none w);have u:=aF.mv (Bf (Z:=Z) (L:=[]) w);refine Ag<|Ab<|we rfl (fun st=>BY (v:=.agg #[I a.Am,I a.Ak,I a.Ao,I a.Ay,.slice c a.Ad.length d]) (cs:= #[I a.Am,I a.Ak,I a.Ao,I a.Ay,.slice c a.Ad.length d]) (ee st aO) rfl) ?_;rintro _ w1 ⟨x,rfl,q⟩;have aM:=aL.nb q;have bE:=aL.BL q;refine wa rfl (v:=I 0) rfl<|Af<|Aa<|Ag<|Ab<|wd rfl (fun st=>A8 (l:=[I a.Am,I a.Ak,I a.Ao,I a.Ay,.slice c a.Ad.length d]) Dn (ee st rfl) q.bk rfl rfl) ?_;have m:=(u.mv (Ax q));replace b:=bind_some b;obtain⟨r2,aX,b⟩:=b;refine we rfl (fun st=>AI Pb (ee st rfl) (Co (ee st rfl)) (UY aA a c d (ZZ FN [] Z w.heap.size [some x]) _ m r2 aX)) ?_;rintro _ bN ⟨aB,⟨bF,bG,rfl,r⟩⟩;have aY:=aM.ext aB;have r:=r.mv (aM.Cw (Nat.le_refl _));refine wd rfl (fun st=>BH Tryz.underlying23 (ee st rfl))<|wa rfl (v:=I (r2.length:Int)) rfl<|Af<|Aa<|Ag<|Ag<|Ab<|wa rfl (v:=I 0) rfl<|Af<|Aa<|AY ?_;replace b:=bind_some b;obtain⟨z4,n,b⟩:=b;refine B8 (fun aZ f aC=>(aZ=.exit 0∧f.tmps.size=26∧f.defers=(X0).ds∧sl f 3=I z4∧Hp FN [] w [some x] aC)) ?a0 ?a2
 case a0=>
  clear b;refine B7 (fun(aP:Nat) (f:Act) (aC:World)=>∃g,∃e,DZ aA a aP g e=some z4∧f.tmps.size=26∧f.defers=(X0).ds∧sl f 1=pt x 0∧sl f 3=I g∧sl f 4=I e∧Hp FN [] w [some x] aC∧Bk aC x 63 #[I a.Am,I a.Ak,I a.Ao,I a.Ay,.slice c a.Ad.length d]∧Sl AP aC (ZZ FN [] Z w.heap.size [some x]) c d a.Ad) aA ?a3 ?a4
  case a3=>
   intro st;have aG:=(q.bk.ext aB);have y:=(m.mv (Ai aB));exact⟨(r2.length:Int),(0:Int),n,qz st,qd st,sp st 1 rfl,sp st 3 rfl,sp st 4 rfl,aY,aG,y⟩
  case a4=>
   rintro(_|aP) bK bL ⟨g,e,n,aQ,aR,o,t,p,aN,h,j⟩
   ·exact absurd (show none=some _ from n) (by simp)
   rw[DZ.eq_2] at n;have b:=n;clear n;refine BU (N:=26) aQ aR<|Ag<|Ag<|Ab<|wm rfl (v:=I e) p<|wd rfl (fun st=>An (ee st o) (DB _ _))<|wd rfl (fun st=>Av (v:=.slice c a.Ad.length d) Ei (ee st rfl) h rfl)<|wd rfl (fun st=>BH Tryz.underlying61 (ee st rfl))<|wd rfl (fun st=>Cc (ee st rfl) (ee st rfl))<|Af<|Aa ?_;rcases Ap (decide (e<(a.Ad.length:Int))) with s|s
   ·replace b:=AD b s;refine Az rfl s<|AX<|Aa<|Ag<|AY<|Ab<|wm rfl (v:=I g) t<|wd rfl (fun st=>An (ee st o) (DB _ _))<|wd rfl (fun st=>Av (v:=.slice c a.Ad.length d) Ei (ee st rfl) h rfl)<|wm rfl (v:=I e) p ?_;replace b:=Bc b;obtain⟨i6,aH,a5,a7,a8,b⟩:=b;obtain⟨bO,bP,_,a9,rfl,bA⟩:=Sl.elem j (by decide) a7;refine wd rfl (fun st=>Bv (k:=i6) Tryz.underlying61 FR (ee st rfl) a9 (ee st rfl) a5 a8)<|wd rfl (fun st=>An (ee st rfl) (J7 _ _ _))<|wd rfl (fun st=>Db (l:=[I aH.Au,I aH.AH]) Jy (ee st rfl) bA rfl rfl) ?_;replace b:=bind_some b;obtain⟨aS,bB,b⟩:=b;refine we rfl (fun st=>AI ML (ee st rfl) (Co (ee st rfl)) (Sh aA (⟨aH.Au,aH.AH⟩:CK) ZA _ aS bB)) ?_;rintro _ bQ ⟨aD,rfl⟩;have bC:=aN.ext aD;replace b:=AS b;obtain⟨bD,b⟩:=b;refine wd rfl (fun st=>Sp (ee st rfl) (ee st rfl) bD)<|wd rfl (fun st=>Sr (ee st rfl) (ee st rfl))<|wa rfl (v:=I (min (3000:Int) (g*aS))) rfl<|Af<|Bg<|Aa<|Ab<|wm rfl (v:=I e) p ?_;replace b:=AS b;obtain⟨aT,b⟩:=b;refine wd rfl (fun st=>Bs (ee st rfl) (ee st rfl) aT)<|wa rfl (v:=I (e+1)) rfl<|Af ?_;have aI:=(h.ext aD);have z:=(j.mv (Ai aD));refine Bn aP (Nat.lt_succ_self _) (fun st=>?_);exact⟨(min (3000:Int) (g*aS)),(e+1),b,qz st,qd st,sp st 1 o,sp st 3 rfl,sp st 4 rfl,bC,aI,z⟩
   ·replace b:=AE b s;refine AG rfl s<|B0<|AK<|AK ?_;obtain rfl:=Option.some.inj b;refine BS (fun st=>?_);exact⟨rfl,qz st,qd st,sp st 3 t,aN⟩
 case a2=>
  rintro aZ bH bM (⟨rfl,aJ,aK,aE,aU⟩);refine Ce (X:=X0) (N:=26) aJ aK<|Bp<|Aa<|Ag<|Ab<|wm rfl (v:=I z4) aE<|wa rfl (v:=I z4) rfl<|Af<|Aa<|AM ?_;obtain rfl:=Option.some.inj b;refine AU rfl rfl ?_;exact⟨aU.Bz,rfl⟩
theorem VI(aS:Nat)(b:Ar)(j:Option Addr)(m:Nat)(Z:Nat→Prop)(w:World)(bS:Sl AP w Z j m b.Ad)(cZ:Int)(a:EI aS b=some cZ):
 BN Tryz.prog 80 #[.agg #[I b.Am,I b.Ak,I b.Ao,I b.Ay,.slice j b.Ad.length m]] w (fun v w'=>Ext w w'∧(F1 .i64).R w' (ZZ FN [] Z w.heap.size []) v cZ):=by
 unfold EI at a;refine Bd (N:=101) Tryz.func80 rfl rfl (by simp) ?_;intro dE c0 dF;have b1:=AO (i:=0) (v:=.agg #[I b.Am,I b.Ak,I b.Ao,I b.Ay,.slice j b.Ad.length m]) c0 rfl;clear c0;have bW:Hp FN [] w [] w:=Hp.start (BM.none w);have bA:=bS.mv (Bf (Z:=Z) (L:=[]) w);refine Ag<|Ab<|we rfl (fun st=>BY (v:=.agg #[I b.Am,I b.Ak,I b.Ao,I b.Ay,.slice j b.Ad.length m]) (cs:= #[I b.Am,I b.Ak,I b.Ao,I b.Ay,.slice j b.Ad.length m]) (ee st b1) rfl) ?_;rintro _ w1 ⟨x,rfl,y⟩;have aO:=bW.nb y;have c9:=bW.BL y;refine wa rfl (v:=I 0) rfl<|Af<|Aa<|Ag<|Ag<|Ab<|wd rfl (fun st=>An (ee st rfl) (FX _ _))<|wd rfl (fun st=>Av (v:=I b.Am) AZ (ee st rfl) y.bk rfl)<|wd rfl (fun st=>F7 (ee st rfl) (ee st rfl))<|wm rfl (v:=.bool (decide ((9:Int)<b.Am))) rfl ?_;rcases Ap (decide ((9:Int)<b.Am)) with z|z
 ·replace a:=AD a z;refine Aj (c:=true) rfl rfl (Ac rfl z) (by decide) rfl (by decide)<|Aj (c:=true) rfl rfl (Ac rfl z) (by decide) rfl (by decide)<|Aj (c:=true) rfl rfl (Ac rfl z) (by decide) rfl (by decide)<|wd rfl (fun st=>AV (v:=.bool true) (ee st rfl) z (ee st rfl))<|wm rfl (v:=.bool true) rfl<|Aj rfl rfl rfl (by decide) rfl (by decide)<|Aj rfl rfl rfl (by decide) rfl (by decide)<|Aj rfl rfl rfl (by decide) rfl (by decide)<|Aj rfl rfl rfl (by decide) rfl (by decide)<|wd rfl (fun st=>AV (v:=.bool true) (ee st rfl) rfl (ee st rfl))<|Af<|Aa<|Az rfl rfl<|Ag<|Ab<|wa rfl (v:=I 3) rfl<|Af<|Aa<|AM<|AA ?_;obtain rfl:=Option.some.inj a;refine AU rfl rfl ?_;exact⟨aO.Bz,rfl⟩
 ·replace a:=AE a z;refine Aw rfl rfl (Ac rfl z) rfl (by decide) (fun st=>An (ee st rfl) (La _ _))<|Aw rfl rfl (Ac rfl z) rfl (by decide) (fun st=>Av (v:=I b.Ak) AZ (ee st rfl) y.bk rfl)<|Aw rfl rfl (Ac rfl z) rfl (by decide) (fun st=>F7 (ee st rfl) (ee st rfl))<|wd rfl (fun st=>Br (v:=.bool (decide ((2:Int)<b.Ak))) (ee st rfl) z (ee st rfl))<|wm rfl (v:=.bool (decide ((2:Int)<b.Ak))) rfl ?_;rcases Ap (decide ((2:Int)<b.Ak)) with s|s
  ·replace a:=AD a s;refine Aj (c:=true) rfl rfl (Ac rfl s) (by decide) rfl (by decide)<|Aj (c:=true) rfl rfl (Ac rfl s) (by decide) rfl (by decide)<|Aj (c:=true) rfl rfl (Ac rfl s) (by decide) rfl (by decide)<|Aj (c:=true) rfl rfl (Ac rfl s) (by decide) rfl (by decide)<|wd rfl (fun st=>AV (v:=.bool true) (ee st rfl) s (ee st rfl))<|Af<|Aa<|Az rfl rfl<|Ag<|Ab<|wa rfl (v:=I 3) rfl<|Af<|Aa<|AM<|AA ?_;obtain rfl:=Option.some.inj a;refine AU rfl rfl ?_;exact⟨aO.Bz,rfl⟩
  ·replace a:=AE a s;refine Aw rfl rfl (Ac rfl s) rfl (by decide) (fun st=>An (ee st rfl) (DB _ _))<|Aw rfl rfl (Ac rfl s) rfl (by decide) (fun st=>Av (v:=.slice j b.Ad.length m) Ei (ee st rfl) y.bk rfl)<|Aw rfl rfl (Ac rfl s) rfl (by decide) (fun st=>BH Tryz.underlying61 (ee st rfl))<|Aw rfl rfl (Ac rfl s) rfl (by decide) (fun st=>F7 (ee st rfl) (ee st rfl))<|wd rfl (fun st=>Br (v:=.bool (decide ((4:Int)<(b.Ad.length:Int)))) (ee st rfl) s (ee st rfl))<|Af<|Aa ?_;rcases Ap (decide ((4:Int)<(b.Ad.length:Int))) with aX|aX
   ·replace a:=AD a aX;refine Az rfl aX<|Ag<|Ab<|wa rfl (v:=I 3) rfl<|Af<|Aa<|AM<|AA ?_;obtain rfl:=Option.some.inj a;refine AU rfl rfl ?_;exact⟨aO.Bz,rfl⟩
   ·replace a:=AE a aX;refine AG rfl aX<|AX<|Aa<|Ag<|Ag<|Ab<|wd rfl (fun st=>An (ee st rfl) (FX _ _))<|wd rfl (fun st=>Av (v:=I b.Am) AZ (ee st rfl) y.bk rfl)<|wd rfl (fun st=>Cc (ee st rfl) (ee st rfl))<|wm rfl (v:=.bool (decide (b.Am<0))) rfl ?_;rcases Ap (decide (b.Am<0)) with aA|aA
    ·replace a:=AD a aA;refine Aj (c:=true) rfl rfl (Ac rfl aA) (by decide) rfl (by decide)<|Aj (c:=true) rfl rfl (Ac rfl aA) (by decide) rfl (by decide)<|Aj (c:=true) rfl rfl (Ac rfl aA) (by decide) rfl (by decide)<|wd rfl (fun st=>AV (v:=.bool true) (ee st rfl) aA (ee st rfl))<|wm rfl (v:=.bool true) rfl<|Aj rfl rfl rfl (by decide) rfl (by decide)<|Aj rfl rfl rfl (by decide) rfl (by decide)<|Aj rfl rfl rfl (by decide) rfl (by decide)<|Aj rfl rfl rfl (by decide) rfl (by decide)<|Aj rfl rfl rfl (by decide) rfl (by decide)<|Aj rfl rfl rfl (by decide) rfl (by decide)<|Aj rfl rfl rfl (by decide) rfl (by decide)<|wd rfl (fun st=>AV (v:=.bool true) (ee st rfl) rfl (ee st rfl))<|wm rfl (v:=.bool true) rfl<|Aj rfl rfl rfl (by decide) rfl (by decide)<|Aj rfl rfl rfl (by decide) rfl (by decide)<|Aj rfl rfl rfl (by decide) rfl (by decide)<|Aj rfl rfl rfl (by decide) rfl (by decide)<|Aj rfl rfl rfl (by decide) rfl (by decide)<|Aj rfl rfl rfl (by decide) rfl (by decide)<|Aj rfl rfl rfl (by decide) rfl (by decide)<|wd rfl (fun st=>AV (v:=.bool true) (ee st rfl) rfl (ee st rfl))<|Af<|Aa<|Az rfl rfl<|Ag<|Ab<|wa rfl (v:=I 1) rfl<|Af<|Aa<|AM<|AA ?_;obtain rfl:=Option.some.inj a;refine AU rfl rfl ?_;exact⟨aO.Bz,rfl⟩
    ·replace a:=AE a aA;refine Aw rfl rfl (Ac rfl aA) rfl (by decide) (fun st=>An (ee st rfl) (La _ _))<|Aw rfl rfl (Ac rfl aA) rfl (by decide) (fun st=>Av (v:=I b.Ak) AZ (ee st rfl) y.bk rfl)<|Aw rfl rfl (Ac rfl aA) rfl (by decide) (fun st=>Cc (ee st rfl) (ee st rfl))<|wd rfl (fun st=>Br (v:=.bool (decide (b.Ak<1))) (ee st rfl) aA (ee st rfl))<|wm rfl (v:=.bool (decide (b.Ak<1))) rfl ?_;rcases Ap (decide (b.Ak<1)) with p|p
     ·replace a:=AD a p;refine Aj (c:=true) rfl rfl (Ac rfl p) (by decide) rfl (by decide)<|Aj (c:=true) rfl rfl (Ac rfl p) (by decide) rfl (by decide)<|Aj (c:=true) rfl rfl (Ac rfl p) (by decide) rfl (by decide)<|Aj (c:=true) rfl rfl (Ac rfl p) (by decide) rfl (by decide)<|Aj (c:=true) rfl rfl (Ac rfl p) (by decide) rfl (by decide)<|Aj (c:=true) rfl rfl (Ac rfl p) (by decide) rfl (by decide)<|Aj (c:=true) rfl rfl (Ac rfl p) (by decide) rfl (by decide)<|wd rfl (fun st=>AV (v:=.bool true) (ee st rfl) p (ee st rfl))<|wm rfl (v:=.bool true) rfl<|Aj rfl rfl rfl (by decide) rfl (by decide)<|Aj rfl rfl rfl (by decide) rfl (by decide)<|Aj rfl rfl rfl (by decide) rfl (by decide)<|Aj rfl rfl rfl (by decide) rfl (by decide)<|Aj rfl rfl rfl (by decide) rfl (by decide)<|Aj rfl rfl rfl (by decide) rfl (by decide)<|Aj rfl rfl rfl (by decide) rfl (by decide)<|wd rfl (fun st=>AV (v:=.bool true) (ee st rfl) rfl (ee st rfl))<|Af<|Aa<|Az rfl rfl<|Ag<|Ab<|wa rfl (v:=I 1) rfl<|Af<|Aa<|AM<|AA ?_;obtain rfl:=Option.some.inj a;refine AU rfl rfl ?_;exact⟨aO.Bz,rfl⟩
     ·replace a:=AE a p;refine Aw rfl rfl (Ac rfl p) rfl (by decide) (fun st=>An (ee st rfl) (MK _ _))<|Aw rfl rfl (Ac rfl p) rfl (by decide) (fun st=>Av (v:=I b.Ao) AZ (ee st rfl) y.bk rfl)<|Aw rfl rfl (Ac rfl p) rfl (by decide) (fun st=>An (ee st rfl) (FX _ _))<|Aw rfl rfl (Ac rfl p) rfl (by decide) (fun st=>Av (v:=I b.Am) AZ (ee st rfl) y.bk rfl) ?_;replace a:=AS a;obtain⟨c1,a⟩:=a;refine Aw rfl rfl (Ac rfl p) rfl (by decide) (fun st=>Bs (ee st rfl) (ee st rfl) c1) ?_;replace a:=bind_some a;obtain⟨bB,c2,a⟩:=a;refine Dt rfl rfl (Ac rfl p) rfl (by decide) (fun st=>AI IZ (ee st rfl) (EM (ee st rfl) (ee st rfl) (ee st rfl)) (a46 aS b.Ao 0 (b.Am+1) ZA _ bB c2)) ?_;rintro _ dM ⟨bH,rfl⟩;have bX:=aO.ext bH;refine Aw rfl rfl (Ac rfl p) rfl (by decide) (fun st=>DC (ee st rfl))<|wd rfl (fun st=>Br (v:=.bool !bB) (ee st rfl) p (ee st rfl))<|wm rfl (v:=.bool !bB) rfl ?_;rcases Ap (!bB) with e|e
      ·replace a:=AD a e;have cP:bB=false:=by simpa using e
       refine Aj (c:=true) rfl rfl (Ac rfl e) (by decide) rfl (by decide)<|Aj (c:=true) rfl rfl (Ac rfl e) (by decide) rfl (by decide)<|Aj (c:=true) rfl rfl (Ac rfl e) (by decide) rfl (by decide)<|Aj (c:=true) rfl rfl (Ac rfl e) (by decide) rfl (by decide)<|Aj (c:=true) rfl rfl (Ac rfl e) (by decide) rfl (by decide)<|Aj (c:=true) rfl rfl (Ac rfl e) (by decide) rfl (by decide)<|Aj (c:=true) rfl rfl (Ac rfl e) (by decide) rfl (by decide)<|wd rfl (fun st=>AV (v:=.bool true) (ee st rfl) e (ee st rfl))<|Af<|Aa<|Az rfl rfl<|Ag<|Ab<|wa rfl (v:=I 1) rfl<|Af<|Aa<|AM<|AA ?_;obtain rfl:=Option.some.inj a;refine AU rfl rfl ?_;exact⟨bX.Bz,rfl⟩
      ·replace a:=AE a e;have cQ:bB=true:=by simpa using e
       refine Aw rfl rfl (Ac rfl e) rfl (by decide) (fun st=>An (ee st rfl) (K9 _ _)) ?_;have aT:=(y.bk.ext bH);refine Aw rfl rfl (Ac rfl e) rfl (by decide) (fun st=>Av (v:=I b.Ay) AZ (ee st rfl) aT rfl)<|Aw rfl rfl (Ac rfl e) rfl (by decide) (fun st=>An (ee st rfl) (FX _ _))<|Aw rfl rfl (Ac rfl e) rfl (by decide) (fun st=>Av (v:=I b.Am) AZ (ee st rfl) aT rfl) ?_;replace a:=AS a;obtain⟨b2,a⟩:=a;refine Aw rfl rfl (Ac rfl e) rfl (by decide) (fun st=>Bs (ee st rfl) (ee st rfl) b2) ?_;replace a:=bind_some a;obtain⟨aY,b3,a⟩:=a;refine Dt rfl rfl (Ac rfl e) rfl (by decide) (fun st=>AI IZ (ee st rfl) (EM (ee st rfl) (ee st rfl) (ee st rfl)) (a46 aS b.Ay 0 (b.Am+1) ZA _ aY b3)) ?_;rintro _ dG ⟨a4,rfl⟩;have bY:=bX.ext a4;refine Aw rfl rfl (Ac rfl e) rfl (by decide) (fun st=>DC (ee st rfl))<|wd rfl (fun st=>Br (v:=.bool !aY) (ee st rfl) e (ee st rfl))<|Af<|Aa ?_;rcases Ap (!aY) with aE|aE
       ·replace a:=AD a aE;have cR:aY=false:=by simpa using aE
        refine Az rfl aE<|Ag<|Ab<|wa rfl (v:=I 1) rfl<|Af<|Aa<|AM<|AA ?_;obtain rfl:=Option.some.inj a;refine AU rfl rfl ?_;exact⟨bY.Bz,rfl⟩
       ·replace a:=AE a aE;have cS:aY=true:=by simpa using aE
        refine AG rfl aE<|AX<|Aa<|Ag<|Ag<|Ab<|wa rfl (v:=I 0) rfl<|Af<|Aa<|AY ?_;replace a:=bind_some a;obtain⟨bI,aG,a⟩:=a;refine B8 (fun b4 aB aZ=>(b4=.ret∧∃aH,bI=.inl aH∧aB.tmps.size=101∧aB.defers=(X0).ds∧sl aB 2=I aH∧Hp FN [] w [some x] aZ)∨(b4=.exit 0∧∃aH,bI=.inr aH∧aB.tmps.size=101∧aB.defers=(X0).ds∧sl aB 1=pt x 0∧Hp FN [] w [some x] aZ∧Bk aZ x 63 #[I b.Am,I b.Ak,I b.Ao,I b.Ay,.slice j b.Ad.length m]∧Sl AP aZ (ZZ FN [] Z w.heap.size [some x]) j m b.Ad)) ?b5 ?b6
        case b5=>
         clear a;refine B7 (fun(b7:Nat) (aB:Act) (aZ:World)=>∃r,Dv aS b b7 r=some bI∧aB.tmps.size=101∧aB.defers=(X0).ds∧sl aB 1=pt x 0∧sl aB 3=I r∧Hp FN [] w [some x] aZ∧Bk aZ x 63 #[I b.Am,I b.Ak,I b.Ao,I b.Ay,.slice j b.Ad.length m]∧Sl AP aZ (ZZ FN [] Z w.heap.size [some x]) j m b.Ad) aS ?b8 ?b9
         case b8=>
          intro st;have bT:=(aT.ext a4);have bC:=(((bA.mv (Ax y)).mv (Ai bH)).mv (Ai a4));exact⟨(0:Int),aG,qz st,qd st,sp st 1 rfl,sp st 3 rfl,bY,bT,bC⟩
         case b9=>
          rintro(_|b7) dB dC ⟨r,aG,bU,bV,t,aI,bJ,aD,aC⟩
          ·exact absurd (show none=some _ from aG) (by simp)
          rw[Dv.eq_2] at aG;have a:=aG;clear aG;refine BU (N:=101) bU bV<|Ag<|Ag<|Ab<|wm rfl (v:=I r) aI<|wd rfl (fun st=>An (ee st t) (DB _ _))<|wd rfl (fun st=>Av (v:=.slice j b.Ad.length m) Ei (ee st rfl) aD rfl)<|wd rfl (fun st=>BH Tryz.underlying61 (ee st rfl))<|wd rfl (fun st=>Cc (ee st rfl) (ee st rfl))<|Af<|Aa ?_;rcases Ap (decide (r<(b.Ad.length:Int))) with aJ|aJ
          ·replace a:=AD a aJ;refine Az rfl aJ<|AX<|Aa<|Ag<|AY<|Ag<|Ab<|wd rfl (fun st=>An (ee st t) (DB _ _))<|wd rfl (fun st=>Av (v:=.slice j b.Ad.length m) Ei (ee st rfl) aD rfl)<|wm rfl (v:=I r) aI ?_;replace a:=Bc a;obtain⟨i21,d,cA,cB,cC,a⟩:=a;obtain⟨dH,dI,_,cD,rfl,cE⟩:=Sl.elem aC (by decide) cB;refine wd rfl (fun st=>Bv (k:=i21) Tryz.underlying61 FR (ee st rfl) cD (ee st rfl) cA cC)<|wd rfl (fun st=>Db (l:=[I d.Au,I d.AH,I d.Aq,I d.B1,I d.Cj]) MM (ee st rfl) cE rfl rfl)<|we rfl (fun st=>BX (cs:= #[I 0,I 0,I 0,I 0,I 0]) Ou rfl) ?_;rintro _ dJ ⟨dK,rfl,aK⟩;have bK:=bJ.nb aK;have c3:=bJ.BL aK;refine Bl rfl rfl (fun st=>Bi (n:=5) (l:=[I d.Au,I d.AH,I d.Aq,I d.B1,I d.Cj]) (B5:= #[I d.Au,I d.AH,I d.Aq,I d.B1,I d.Cj]) (ee st rfl) (ee st rfl) FR aK.bk rfl rfl (show 0+5≤5 by decide) (AR rfl) rfl) ?_;rintro _ bL u;have a8:=bK.gr u.gr 0 rfl;refine Af<|Aa<|Ag<|Ab<|wd rfl (fun st=>An (ee st rfl) (I0 _ _))<|wd rfl (fun st=>An (ee st rfl) (IY _ _))<|wd rfl (fun st=>Av (v:=I d.Au) AZ (ee st rfl) u.bk rfl)<|wd rfl (fun st=>Cc (ee st rfl) (ee st rfl))<|wm rfl (v:=.bool (decide (d.Au<0))) rfl ?_;rcases Ap (decide (d.Au<0)) with f|f
           ·replace a:=AD a f;refine Aj (c:=true) rfl rfl (Ac rfl f) (by decide) rfl (by decide)<|Aj (c:=true) rfl rfl (Ac rfl f) (by decide) rfl (by decide)<|Aj (c:=true) rfl rfl (Ac rfl f) (by decide) rfl (by decide)<|Aj (c:=true) rfl rfl (Ac rfl f) (by decide) rfl (by decide)<|Aj (c:=true) rfl rfl (Ac rfl f) (by decide) rfl (by decide)<|Aj (c:=true) rfl rfl (Ac rfl f) (by decide) rfl (by decide)<|Aj (c:=true) rfl rfl (Ac rfl f) (by decide) rfl (by decide)<|wd rfl (fun st=>AV (v:=.bool true) (ee st rfl) f (ee st rfl))<|wm rfl (v:=.bool true) rfl<|Aj rfl rfl rfl (by decide) rfl (by decide)<|Aj rfl rfl rfl (by decide) rfl (by decide)<|Aj rfl rfl rfl (by decide) rfl (by decide)<|Aj rfl rfl rfl (by decide) rfl (by decide)<|Aj rfl rfl rfl (by decide) rfl (by decide)<|Aj rfl rfl rfl (by decide) rfl (by decide)<|wd rfl (fun st=>AV (v:=.bool true) (ee st rfl) rfl (ee st rfl))<|wm rfl (v:=.bool true) rfl<|Aj rfl rfl rfl (by decide) rfl (by decide)<|Aj rfl rfl rfl (by decide) rfl (by decide)<|Aj rfl rfl rfl (by decide) rfl (by decide)<|Aj rfl rfl rfl (by decide) rfl (by decide)<|wd rfl (fun st=>AV (v:=.bool true) (ee st rfl) rfl (ee st rfl))<|wm rfl (v:=.bool true) rfl<|Aj rfl rfl rfl (by decide) rfl (by decide)<|Aj rfl rfl rfl (by decide) rfl (by decide)<|Aj rfl rfl rfl (by decide) rfl (by decide)<|Aj rfl rfl rfl (by decide) rfl (by decide)<|wd rfl (fun st=>AV (v:=.bool true) (ee st rfl) rfl (ee st rfl))<|wm rfl (v:=.bool true) rfl<|Aj rfl rfl rfl (by decide) rfl (by decide)<|Aj rfl rfl rfl (by decide) rfl (by decide)<|Aj rfl rfl rfl (by decide) rfl (by decide)<|Aj rfl rfl rfl (by decide) rfl (by decide)<|Aj rfl rfl rfl (by decide) rfl (by decide)<|Aj rfl rfl rfl (by decide) rfl (by decide)<|wd rfl (fun st=>AV (v:=.bool true) (ee st rfl) rfl (ee st rfl))<|Af<|Aa<|Az rfl rfl<|Ag ?_;refine Ab<|wa rfl (v:=I 1) rfl<|Af<|Aa<|AM<|A5<|AA<|AA ?_;have c4:Hp FN [] w [some x] bL:=a8.erase 0;obtain rfl:=Option.some.inj a;refine BS (fun st=>?_);exact .inl ⟨rfl,(1:Int),rfl,qz st,qd st,sp st 2 rfl,c4⟩
           ·replace a:=AE a f;refine Aw rfl rfl (Ac rfl f) rfl (by decide) (fun st=>An (ee st rfl) (I0 _ _))<|Aw rfl rfl (Ac rfl f) rfl (by decide) (fun st=>An (ee st rfl) (IY _ _))<|Aw rfl rfl (Ac rfl f) rfl (by decide) (fun st=>Av (v:=I d.Au) AZ (ee st rfl) u.bk rfl)<|Aw rfl rfl (Ac rfl f) rfl (by decide) (fun st=>An (ee st rfl) (I0 _ _))<|Aw rfl rfl (Ac rfl f) rfl (by decide) (fun st=>An (ee st rfl) (J6 _ _))<|Aw rfl rfl (Ac rfl f) rfl (by decide) (fun st=>Av (v:=I d.AH) AZ (ee st rfl) u.bk rfl)<|Aw rfl rfl (Ac rfl f) rfl (by decide) (fun st=>F7 (ee st rfl) (ee st rfl))<|wd rfl (fun st=>Br (v:=.bool (decide (d.AH<d.Au))) (ee st rfl) f (ee st rfl))<|wm rfl (v:=.bool (decide (d.AH<d.Au))) rfl ?_;rcases Ap (decide (d.AH<d.Au)) with h|h
            ·replace a:=AD a h;refine Aj (c:=true) rfl rfl (Ac rfl h) (by decide) rfl (by decide)<|Aj (c:=true) rfl rfl (Ac rfl h) (by decide) rfl (by decide)<|Aj (c:=true) rfl rfl (Ac rfl h) (by decide) rfl (by decide)<|Aj (c:=true) rfl rfl (Ac rfl h) (by decide) rfl (by decide)<|Aj (c:=true) rfl rfl (Ac rfl h) (by decide) rfl (by decide)<|Aj (c:=true) rfl rfl (Ac rfl h) (by decide) rfl (by decide)<|wd rfl (fun st=>AV (v:=.bool true) (ee st rfl) h (ee st rfl))<|wm rfl (v:=.bool true) rfl<|Aj rfl rfl rfl (by decide) rfl (by decide)<|Aj rfl rfl rfl (by decide) rfl (by decide)<|Aj rfl rfl rfl (by decide) rfl (by decide)<|Aj rfl rfl rfl (by decide) rfl (by decide)<|wd rfl (fun st=>AV (v:=.bool true) (ee st rfl) rfl (ee st rfl))<|wm rfl (v:=.bool true) rfl<|Aj rfl rfl rfl (by decide) rfl (by decide)<|Aj rfl rfl rfl (by decide) rfl (by decide)<|Aj rfl rfl rfl (by decide) rfl (by decide)<|Aj rfl rfl rfl (by decide) rfl (by decide)<|wd rfl (fun st=>AV (v:=.bool true) (ee st rfl) rfl (ee st rfl))<|wm rfl (v:=.bool true) rfl<|Aj rfl rfl rfl (by decide) rfl (by decide)<|Aj rfl rfl rfl (by decide) rfl (by decide)<|Aj rfl rfl rfl (by decide) rfl (by decide)<|Aj rfl rfl rfl (by decide) rfl (by decide)<|Aj rfl rfl rfl (by decide) rfl (by decide)<|Aj rfl rfl rfl (by decide) rfl (by decide)<|wd rfl (fun st=>AV (v:=.bool true) (ee st rfl) rfl (ee st rfl))<|Af<|Aa<|Az rfl rfl<|Ag<|Ab<|wa rfl (v:=I 1) rfl<|Af<|Aa<|AM<|A5<|AA<|AA ?_;have c5:Hp FN [] w [some x] bL:=a8.erase 0;obtain rfl:=Option.some.inj a;refine BS (fun st=>?_);exact .inl ⟨rfl,(1:Int),rfl,qz st,qd st,sp st 2 rfl,c5⟩
            ·replace a:=AE a h;refine Aw rfl rfl (Ac rfl h) rfl (by decide) (fun st=>An (ee st rfl) (I0 _ _))<|Aw rfl rfl (Ac rfl h) rfl (by decide) (fun st=>An (ee st rfl) (J6 _ _))<|Aw rfl rfl (Ac rfl h) rfl (by decide) (fun st=>Av (v:=I d.AH) AZ (ee st rfl) u.bk rfl)<|Aw rfl rfl (Ac rfl h) rfl (by decide) (fun st=>An (ee st t) (FX _ _)) ?_;have a9:=((aD.ext aK.gr).gr u.gr (bK.ne 1 0 rfl rfl rfl));refine Aw rfl rfl (Ac rfl h) rfl (by decide) (fun st=>Av (v:=I b.Am) AZ (ee st rfl) a9 rfl)<|Aw rfl rfl (Ac rfl h) rfl (by decide) (fun st=>F7 (ee st rfl) (ee st rfl))<|wd rfl (fun st=>Br (v:=.bool (decide (b.Am<d.AH))) (ee st rfl) h (ee st rfl))<|wm rfl (v:=.bool (decide (b.Am<d.AH))) rfl ?_;rcases Ap (decide (b.Am<d.AH)) with q|q
             ·replace a:=AD a q;refine Aj (c:=true) rfl rfl (Ac rfl q) (by decide) rfl (by decide)<|Aj (c:=true) rfl rfl (Ac rfl q) (by decide) rfl (by decide)<|Aj (c:=true) rfl rfl (Ac rfl q) (by decide) rfl (by decide)<|Aj (c:=true) rfl rfl (Ac rfl q) (by decide) rfl (by decide)<|wd rfl (fun st=>AV (v:=.bool true) (ee st rfl) q (ee st rfl))<|wm rfl (v:=.bool true) rfl<|Aj rfl rfl rfl (by decide) rfl (by decide)<|Aj rfl rfl rfl (by decide) rfl (by decide)<|Aj rfl rfl rfl (by decide) rfl (by decide)<|Aj rfl rfl rfl (by decide) rfl (by decide)<|wd rfl (fun st=>AV (v:=.bool true) (ee st rfl) rfl (ee st rfl))<|wm rfl (v:=.bool true) rfl<|Aj rfl rfl rfl (by decide) rfl (by decide)<|Aj rfl rfl rfl (by decide) rfl (by decide)<|Aj rfl rfl rfl (by decide) rfl (by decide)<|Aj rfl rfl rfl (by decide) rfl (by decide)<|Aj rfl rfl rfl (by decide) rfl (by decide)<|Aj rfl rfl rfl (by decide) rfl (by decide)<|wd rfl (fun st=>AV (v:=.bool true) (ee st rfl) rfl (ee st rfl))<|Af<|Aa<|Az rfl rfl<|Ag<|Ab<|wa rfl (v:=I 1) rfl<|Af<|Aa<|AM<|A5<|AA<|AA ?_;have c6:Hp FN [] w [some x] bL:=a8.erase 0;obtain rfl:=Option.some.inj a;refine BS (fun st=>?_);exact .inl ⟨rfl,(1:Int),rfl,qz st,qd st,sp st 2 rfl,c6⟩
             ·replace a:=AE a q;refine Aw rfl rfl (Ac rfl q) rfl (by decide) (fun st=>An (ee st rfl) (Ov _ _))<|Aw rfl rfl (Ac rfl q) rfl (by decide) (fun st=>Av (v:=I d.Aq) AZ (ee st rfl) u.bk rfl) ?_;replace a:=bind_some a;obtain⟨aP,cF,a⟩:=a;refine Dt rfl rfl (Ac rfl q) rfl (by decide) (fun st=>AI IZ (ee st rfl) (EM (ee st rfl) (ee st rfl) (ee st rfl)) (a46 aS d.Aq 1 5 ZA _ aP cF)) ?_;rintro _ c7 ⟨aU,rfl⟩;have bM:=a8.ext aU;refine Aw rfl rfl (Ac rfl q) rfl (by decide) (fun st=>DC (ee st rfl))<|wd rfl (fun st=>Br (v:=.bool !aP) (ee st rfl) q (ee st rfl))<|wm rfl (v:=.bool !aP) rfl ?_;rcases Ap (!aP) with o|o
              ·replace a:=AD a o;have cT:aP=false:=by simpa using o
               refine Aj (c:=true) rfl rfl (Ac rfl o) (by decide) rfl (by decide)<|Aj (c:=true) rfl rfl (Ac rfl o) (by decide) rfl (by decide)<|Aj (c:=true) rfl rfl (Ac rfl o) (by decide) rfl (by decide)<|Aj (c:=true) rfl rfl (Ac rfl o) (by decide) rfl (by decide)<|wd rfl (fun st=>AV (v:=.bool true) (ee st rfl) o (ee st rfl))<|wm rfl (v:=.bool true) rfl<|Aj rfl rfl rfl (by decide) rfl (by decide)<|Aj rfl rfl rfl (by decide) rfl (by decide)<|Aj rfl rfl rfl (by decide) rfl (by decide)<|Aj rfl rfl rfl (by decide) rfl (by decide)<|Aj rfl rfl rfl (by decide) rfl (by decide)<|Aj rfl rfl rfl (by decide) rfl (by decide)<|wd rfl (fun st=>AV (v:=.bool true) (ee st rfl) rfl (ee st rfl))<|Af<|Aa<|Az rfl rfl<|Ag<|Ab<|wa rfl (v:=I 1) rfl<|Af<|Aa<|AM<|A5<|AA<|AA ?_;have cG:Hp FN [] w [some x] c7:=bM.erase 0;obtain rfl:=Option.some.inj a;refine BS (fun st=>?_);exact .inl ⟨rfl,(1:Int),rfl,qz st,qd st,sp st 2 rfl,cG⟩
              ·replace a:=AE a o;have cU:aP=true:=by simpa using o
               refine Aw rfl rfl (Ac rfl o) rfl (by decide) (fun st=>An (ee st rfl) (Ow _ _)) ?_;have aQ:=(u.bk.ext aU);refine Aw rfl rfl (Ac rfl o) rfl (by decide) (fun st=>Av (v:=I d.B1) AZ (ee st rfl) aQ rfl) ?_;replace a:=bind_some a;obtain⟨aR,cH,a⟩:=a;refine Dt rfl rfl (Ac rfl o) rfl (by decide) (fun st=>AI IZ (ee st rfl) (EM (ee st rfl) (ee st rfl) (ee st rfl)) (a46 aS d.B1 1 5 ZA _ aR cH)) ?_;rintro _ c8 ⟨aV,rfl⟩;have bN:=bM.ext aV;refine Aw rfl rfl (Ac rfl o) rfl (by decide) (fun st=>DC (ee st rfl))<|wd rfl (fun st=>Br (v:=.bool !aR) (ee st rfl) o (ee st rfl))<|wm rfl (v:=.bool !aR) rfl ?_;rcases Ap (!aR) with g|g
               ·replace a:=AD a g;have cV:aR=false:=by simpa using g
                refine Aj (c:=true) rfl rfl (Ac rfl g) (by decide) rfl (by decide)<|Aj (c:=true) rfl rfl (Ac rfl g) (by decide) rfl (by decide)<|Aj (c:=true) rfl rfl (Ac rfl g) (by decide) rfl (by decide)<|Aj (c:=true) rfl rfl (Ac rfl g) (by decide) rfl (by decide)<|Aj (c:=true) rfl rfl (Ac rfl g) (by decide) rfl (by decide)<|Aj (c:=true) rfl rfl (Ac rfl g) (by decide) rfl (by decide)<|wd rfl (fun st=>AV (v:=.bool true) (ee st rfl) g (ee st rfl))<|Af<|Aa<|Az rfl rfl<|Ag<|Ab<|wa rfl (v:=I 1) rfl<|Af<|Aa<|AM<|A5<|AA<|AA ?_;have cI:Hp FN [] w [some x] c8:=bN.erase 0;obtain rfl:=Option.some.inj a;refine BS (fun st=>?_);exact .inl ⟨rfl,(1:Int),rfl,qz st,qd st,sp st 2 rfl,cI⟩
               ·replace a:=AE a g;have cW:aR=true:=by simpa using g
                refine Aw rfl rfl (Ac rfl g) rfl (by decide) (fun st=>An (ee st rfl) (LM _ _)) ?_;have bD:=(aQ.ext aV);refine Aw rfl rfl (Ac rfl g) rfl (by decide) (fun st=>Av (v:=I d.Cj) AZ (ee st rfl) bD rfl)<|Aw rfl rfl (Ac rfl g) rfl (by decide) (fun st=>An (ee st t) (FX _ _)) ?_;have a0:=((a9.ext aU).ext aV);refine Aw rfl rfl (Ac rfl g) rfl (by decide) (fun st=>Av (v:=I b.Am) AZ (ee st rfl) a0 rfl) ?_;replace a:=bind_some a;obtain⟨a2,cJ,a⟩:=a;refine Dt rfl rfl (Ac rfl g) rfl (by decide) (fun st=>AI IZ (ee st rfl) (EM (ee st rfl) (ee st rfl) (ee st rfl)) (a46 aS d.Cj 0 b.Am ZA _ a2 cJ)) ?_;rintro _ bO ⟨a5,rfl⟩;have bP:=bN.ext a5;refine Aw rfl rfl (Ac rfl g) rfl (by decide) (fun st=>DC (ee st rfl))<|wd rfl (fun st=>Br (v:=.bool !a2) (ee st rfl) g (ee st rfl))<|Af<|Aa ?_;rcases Ap (!a2) with aF|aF
                ·replace a:=AD a aF;have cX:a2=false:=by simpa using aF
                 refine Az rfl aF<|Ag<|Ab<|wa rfl (v:=I 1) rfl<|Af<|Aa<|AM<|A5<|AA<|AA ?_;have cK:Hp FN [] w [some x] bO:=bP.erase 0;obtain rfl:=Option.some.inj a;refine BS (fun st=>?_);exact .inl ⟨rfl,(1:Int),rfl,qz st,qd st,sp st 2 rfl,cK⟩
                ·replace a:=AE a aF;have cY:a2=true:=by simpa using aF
                 refine AG rfl aF<|AX<|Bg<|Aa<|Ab<|wm rfl (v:=I r) aI ?_;replace a:=AS a;obtain⟨cL,a⟩:=a;refine wd rfl (fun st=>Bs (ee st rfl) (ee st rfl) cL)<|wa rfl (v:=I (r+1)) rfl<|Af ?_;have cM:Hp FN [] w [some x] bO:=bP.erase 0;have bQ:=(a0.ext a5);have a7:Sl AP bO (ZZ FN [] Z w.heap.size [some x]) j m b.Ad:=((((((aC.mv (Ax aK)).mv (bK.AN u.gr 0 rfl)).mv (Ai aU)).mv (Ai aV)).mv (Ai a5)).mv (AW 0));refine Bn b7 (Nat.lt_succ_self _) (fun st=>?_);exact⟨(r+1),a,qz st,qd st,sp st 1 t,sp st 3 rfl,cM,bQ,a7⟩
          ·replace a:=AE a aJ;refine AG rfl aJ<|B0<|AK<|AK ?_;obtain rfl:=Option.some.inj a;refine BS (fun st=>?_);exact .inr ⟨rfl,(),rfl,qz st,qd st,sp st 1 t,bJ,aD,aC⟩
        case b6=>
         rintro b4 dA dD (⟨rfl,aH,rfl,aL,aM,bE,aW⟩|⟨rfl,aH,rfl,aL,aM,bF,aW,bG,a3⟩)
         ·skip
          replace a:=Es a;refine Ce (X:=X0) (N:=101) aL aM<|A5<|AA ?_;obtain rfl:=Option.some.inj a;refine AU rfl bE ?_;exact⟨aW.Bz,rfl⟩
         ·skip
          replace a:=Et a;refine Ce (X:=X0) (N:=101) aL aM<|Bp<|Aa<|Ag<|Ag<|Ab<|wd rfl (fun st=>A8 (l:=[I b.Am,I b.Ak,I b.Ao,I b.Ay,.slice j b.Ad.length m]) Dn (ee st bF) bG rfl rfl) ?_;replace a:=bind_some a;obtain⟨bZ,cN,a⟩:=a;refine we rfl (fun st=>AI Ox (ee st rfl) (Co (ee st rfl)) (UZ aS b j m ZA _ a3.all bZ cN)) ?_;rintro _ dL ⟨cO,rfl⟩;have bR:=aW.ext cO;refine wd rfl (fun st=>F7 (ee st rfl) (ee st rfl))<|Af<|Aa ?_;rcases Ap (decide ((1000:Int)<bZ)) with aN|aN
          ·replace a:=AD a aN;refine Az rfl aN<|Ag<|Ab<|wa rfl (v:=I 3) rfl<|Af<|Aa<|AM<|AA ?_;obtain rfl:=Option.some.inj a;refine AU rfl rfl ?_;exact⟨bR.Bz,rfl⟩
          ·replace a:=AE a aN;refine AG rfl aN<|AX<|Aa<|Ag<|Ab<|wa rfl (v:=I 0) rfl<|Af<|Aa<|AM ?_;obtain rfl:=Option.some.inj a;refine AU rfl rfl ?_;exact⟨bR.Bz,rfl⟩
theorem Wi(p:Nat)(e:Ar)(b:Be)(h:Option Addr)(j:Nat)(Z:Nat→Prop)(w:World)(x:Sl AP w Z h j e.Ad)(aO:Bool)(a:Fj p e b=some aO):
 BN Tryz.prog 89 #[.agg #[I e.Am,I e.Ak,I e.Ao,I e.Ay,.slice h e.Ad.length j],.agg #[I b.Au,I b.AH,I b.Aq,I b.B1,I b.Cj]] w (fun v w'=>Ext w w'∧BW.R w' (ZZ FN [] Z w.heap.size []) v aO):=by
 unfold Fj at a;refine Bd (N:=27) Tryz.func89 rfl rfl (by simp) ?_;intro aW aH aX;have aI:=AO (i:=0) (v:=.agg #[I e.Am,I e.Ak,I e.Ao,I e.Ay,.slice h e.Ad.length j]) aH rfl;have aJ:=AO (i:=1) (v:=.agg #[I b.Au,I b.AH,I b.Aq,I b.B1,I b.Cj]) aH rfl;clear aH;have aC:Hp FN [] w [] w:=Hp.start (BM.none w);have aN:=x.mv (Bf (Z:=Z) (L:=[]) w);refine Ag<|Ab<|we rfl (fun st=>BY (v:=.agg #[I e.Am,I e.Ak,I e.Ao,I e.Ay,.slice h e.Ad.length j]) (cs:= #[I e.Am,I e.Ak,I e.Ao,I e.Ay,.slice h e.Ad.length j]) (ee st aI) rfl) ?_;rintro _ w1 ⟨a0,rfl,q⟩;have aD:=aC.nb q;have aU:=aC.BL q;refine we rfl (fun st=>BY (v:=.agg #[I b.Au,I b.AH,I b.Aq,I b.B1,I b.Cj]) (cs:= #[I b.Au,I b.AH,I b.Aq,I b.B1,I b.Cj]) (ee st aJ) rfl) ?_;rintro _ w2 ⟨a2,rfl,k⟩;have aP:=aD.nb k;have aV:=aD.BL k;refine wa rfl (v:=.bool false) rfl<|Af<|Aa<|Ag<|Ab<|wd rfl (fun st=>An (ee st rfl) (J8 _ _))<|wd rfl (fun st=>A8 (l:=[I b.Au,I b.AH]) Lb (ee st rfl) k.bk rfl rfl)<|wd rfl (fun st=>An (ee st rfl) (HH _ _)) ?_;have m:=(q.bk.ext k.gr);refine wd rfl (fun st=>Av (v:=I e.Am) AZ (ee st rfl) m rfl) ?_;replace a:=bind_some a;obtain⟨aK,aQ,a⟩:=a;refine we rfl (fun st=>AI Ta (ee st rfl) (EF (ee st rfl) (ee st rfl)) (VV p (⟨b.Au,b.AH⟩:CK) e.Am ZA _ aK aQ)) ?_;rintro _ a3 ⟨r,rfl⟩;have aE:=aP.ext r;refine wm rfl (v:=.bool aK) rfl ?_;rcases Ap (aK) with f|f
 ·replace a:=AD a f;refine Aw rfl rfl (Ac rfl f) rfl (by decide) (fun st=>An (ee st rfl) (Hw _ _)) ?_;have n:=(k.bk.ext r);refine Aw rfl rfl (Ac rfl f) rfl (by decide) (fun st=>Av (v:=I b.Aq) AZ (ee st rfl) n rfl) ?_;replace a:=bind_some a;obtain⟨y,aR,a⟩:=a;refine Dt rfl rfl (Ac rfl f) rfl (by decide) (fun st=>AI Pc (ee st rfl) (Co (ee st rfl)) (a141 p b.Aq ZA _ y aR)) ?_;rintro _ a4 ⟨s,rfl⟩;have aF:=aE.ext s;refine wd rfl (fun st=>AV (v:=.bool y) (ee st rfl) f (ee st rfl))<|wm rfl (v:=.bool y) rfl ?_;rcases Ap (y) with g|g
  ·replace a:=AD a g;refine Aw rfl rfl (Ac rfl g) rfl (by decide) (fun st=>An (ee st rfl) (LN _ _)) ?_;have o:=(n.ext s);refine Aw rfl rfl (Ac rfl g) rfl (by decide) (fun st=>Av (v:=I b.B1) AZ (ee st rfl) o rfl) ?_;replace a:=bind_some a;obtain⟨z,aS,a⟩:=a;refine Dt rfl rfl (Ac rfl g) rfl (by decide) (fun st=>AI Pc (ee st rfl) (Co (ee st rfl)) (a141 p b.B1 ZA _ z aS)) ?_;rintro _ aY ⟨t,rfl⟩;have aG:=aF.ext t;refine wd rfl (fun st=>AV (v:=.bool z) (ee st rfl) g (ee st rfl))<|wm rfl (v:=.bool z) rfl ?_;rcases Ap (z) with d|d
   ·replace a:=AD a d;refine Aw rfl rfl (Ac rfl d) rfl (by decide) (fun st=>An (ee st rfl) (Oq _ _)) ?_;have aA:=(o.ext t);refine Aw rfl rfl (Ac rfl d) rfl (by decide) (fun st=>Av (v:=I b.Cj) AZ (ee st rfl) aA rfl)<|Aw rfl rfl (Ac rfl d) rfl (by decide) (fun st=>An (ee st rfl) (HH _ _)) ?_;have aB:=(((m.ext r).ext s).ext t);refine Aw rfl rfl (Ac rfl d) rfl (by decide) (fun st=>Av (v:=I e.Am) AZ (ee st rfl) aB rfl) ?_;replace a:=bind_some a;obtain⟨u,aL,a⟩:=a;refine Dt rfl rfl (Ac rfl d) rfl (by decide) (fun st=>AI Jx (ee st rfl) (EM (ee st rfl) (ee st rfl) (ee st rfl)) (Pu p b.Cj 0 e.Am ZA _ u aL)) ?_;rintro _ aZ ⟨aM,rfl⟩;have aT:=aG.ext aM;refine wd rfl (fun st=>AV (v:=.bool u) (ee st rfl) d (ee st rfl))<|wa rfl (v:=.bool u) rfl<|Af<|Aa<|AM ?_;obtain rfl:=Option.some.inj a;refine AU rfl rfl ?_;exact⟨aT.Bz,rfl⟩
   ·replace a:=AE a d;refine Aj (c:=false) rfl rfl (Ac rfl d) (by decide) rfl (by decide)<|Aj (c:=false) rfl rfl (Ac rfl d) (by decide) rfl (by decide)<|Aj (c:=false) rfl rfl (Ac rfl d) (by decide) rfl (by decide)<|Aj (c:=false) rfl rfl (Ac rfl d) (by decide) rfl (by decide)<|Aj (c:=false) rfl rfl (Ac rfl d) (by decide) rfl (by decide)<|wd rfl (fun st=>Br (v:=.bool false) (ee st rfl) d (ee st rfl))<|wa rfl (v:=.bool false) rfl<|Af<|Aa<|AM ?_;obtain rfl:=Option.some.inj a;refine AU rfl rfl ?_;exact⟨aG.Bz,rfl⟩
  ·replace a:=AE a g;refine Aj (c:=false) rfl rfl (Ac rfl g) (by decide) rfl (by decide)<|Aj (c:=false) rfl rfl (Ac rfl g) (by decide) rfl (by decide)<|Aj (c:=false) rfl rfl (Ac rfl g) (by decide) rfl (by decide)<|wd rfl (fun st=>Br (v:=.bool false) (ee st rfl) g (ee st rfl))<|wm rfl (v:=.bool false) rfl<|Aj rfl rfl rfl (by decide) rfl (by decide)<|Aj rfl rfl rfl (by decide) rfl (by decide)<|Aj rfl rfl rfl (by decide) rfl (by decide)<|Aj rfl rfl rfl (by decide) rfl (by decide)<|Aj rfl rfl rfl (by decide) rfl (by decide)<|wd rfl (fun st=>Br (v:=.bool false) (ee st rfl) rfl (ee st rfl))<|wa rfl (v:=.bool false) rfl<|Af<|Aa<|AM ?_;obtain rfl:=Option.some.inj a;refine AU rfl rfl ?_;exact⟨aF.Bz,rfl⟩
 ·replace a:=AE a f;refine Aj (c:=false) rfl rfl (Ac rfl f) (by decide) rfl (by decide)<|Aj (c:=false) rfl rfl (Ac rfl f) (by decide) rfl (by decide)<|Aj (c:=false) rfl rfl (Ac rfl f) (by decide) rfl (by decide)<|wd rfl (fun st=>Br (v:=.bool false) (ee st rfl) f (ee st rfl))<|wm rfl (v:=.bool false) rfl<|Aj rfl rfl rfl (by decide) rfl (by decide)<|Aj rfl rfl rfl (by decide) rfl (by decide)<|Aj rfl rfl rfl (by decide) rfl (by decide)<|wd rfl (fun st=>Br (v:=.bool false) (ee st rfl) rfl (ee st rfl))<|wm rfl (v:=.bool false) rfl<|Aj rfl rfl rfl (by decide) rfl (by decide)<|Aj rfl rfl rfl (by decide) rfl (by decide)<|Aj rfl rfl rfl (by decide) rfl (by decide)<|Aj rfl rfl rfl (by decide) rfl (by decide)<|Aj rfl rfl rfl (by decide) rfl (by decide)<|wd rfl (fun st=>Br (v:=.bool false) (ee st rfl) rfl (ee st rfl))<|wa rfl (v:=.bool false) rfl<|Af<|Aa<|AM ?_;obtain rfl:=Option.some.inj a;refine AU rfl rfl ?_;exact⟨aE.Bz,rfl⟩
theorem Wj(aT:Nat)(h:List Int)(n:List Int)(c:Option Addr)(d:Nat)(f:Option Addr)(g:Nat)(Z:Nat→Prop)(w:World)(aJ:Sl (AB .i64) w Z c d h)(aK:Sl (AB .i64) w Z f g n)(aU:Bool)(a:FO aT h n=some aU):
 BN Tryz.prog 55 #[.slice c h.length d,.slice f n.length g] w (fun v w'=>Ext w w'∧BW.R w' (ZZ FN [] Z w.heap.size []) v aU):=by
 unfold FO at a;refine Bd (N:=26) Tryz.func55 rfl rfl (by simp) ?_;intro bJ aO bK;have aF:=AO (i:=0) (v:=.slice c h.length d) aO rfl;have aG:=AO (i:=1) (v:=.slice f n.length g) aO rfl;clear aO;have aL:Hp FN [] w [] w:=Hp.start (BM.none w);have aA:=aJ.mv (Bf (Z:=Z) (L:=[]) w);have aB:=aK.mv (Bf (Z:=Z) (L:=[]) w);refine Ag<|Ab<|wa rfl (v:=.bool false) rfl<|Af<|Aa<|Ag<|Ag<|Ab<|wm rfl (v:=.slice c h.length d) aF<|wd rfl (fun st=>BH Tryz.underlying23 (ee st rfl))<|wm rfl (v:=.slice f n.length g) aG<|wd rfl (fun st=>BH Tryz.underlying23 (ee st rfl))<|wd rfl (fun st=>Gh (ee st rfl) (ee st rfl))<|Af<|Aa ?_;rcases Ap ((h.length:Int) !=(n.length:Int)) with t|t
 ·replace a:=AD a t;refine Az rfl t<|Ag<|Ab<|wa rfl (v:=.bool false) rfl<|Af<|Aa<|AM<|AA ?_;obtain rfl:=Option.some.inj a;refine AU rfl rfl ?_;exact⟨aL.Bz,rfl⟩
 ·replace a:=AE a t;refine AG rfl t<|AX<|Aa<|Ag<|Ag<|Ab<|wa rfl (v:=I 0) rfl<|Af<|Aa<|AY ?_;replace a:=bind_some a;obtain⟨z2,o,a⟩:=a;refine B8 (fun aP e aC=>(aP=.ret∧∃p,z2=.inl p∧e.tmps.size=26∧e.defers=(X0).ds∧sl e 4=.bool p∧Hp FN [] w [] aC)∨(aP=.exit 0∧∃p,z2=.inr p∧e.tmps.size=26∧e.defers=(X0).ds∧Hp FN [] w [] aC)) ?aV ?aW
  case aV=>
   clear a;refine B7 (fun(aQ:Nat) (e:Act) (aC:World)=>∃b,D0 h n aQ b=some z2∧e.tmps.size=26∧e.defers=(X0).ds∧sl e 0=.slice c h.length d∧sl e 1=.slice f n.length g∧sl e 5=I b∧Hp FN [] w [] aC∧Sl (AB .i64) aC (ZZ FN [] Z w.heap.size []) c d h∧Sl (AB .i64) aC (ZZ FN [] Z w.heap.size []) f g n) aT ?aX ?aY
   case aX=>
    intro st;exact⟨(0:Int),o,qz st,qd st,sp st 0 aF,sp st 1 aG,sp st 5 rfl,aL,aA,aB⟩
   case aY=>
    rintro(_|aQ) bL bM ⟨b,o,aR,aS,q,z,j,aM,l,m⟩
    ·exact absurd (show none=some _ from o) (by simp)
    rw[D0.eq_2] at o;have a:=o;clear o;refine BU (N:=26) aR aS<|Ag<|Ag<|Ab<|wm rfl (v:=I b) j<|wm rfl (v:=.slice c h.length d) q<|wd rfl (fun st=>BH Tryz.underlying23 (ee st rfl))<|wd rfl (fun st=>Cc (ee st rfl) (ee st rfl))<|Af<|Aa ?_;rcases Ap (decide (b<(h.length:Int))) with u|u
    ·replace a:=AD a u;refine Az rfl u<|AX<|Aa<|Ag<|AY<|Ag ?_;replace a:=Bc a;obtain⟨i5,aZ,a0,a2,a3,a⟩:=a;obtain⟨bE,bF,_,a4,rfl,a5⟩:=Sl.DQ l rfl a2;replace a:=Bc a;obtain⟨i6,a7,a8,a9,bA,a⟩:=a;obtain⟨bG,bH,_,bB,rfl,bC⟩:=Sl.DQ m rfl a9;refine B9 8 [Kc (.slice c h.length d),Kc (I b),Kc (pt bE (bF+i5)),Kc (I aZ),Kc (.slice f n.length g),Kc (I b),Kc (pt bG (bH+i6)),Kc (I a7)] mixed rfl rfl
         (Ae (od rfl (fun _=>rfl) (fun K=>AL (es ((K.out 0 rfl).trans q))))
         (Ae (od rfl (fun _=>rfl) (fun K=>AL (es ((K.out 5 rfl).trans j))))
         (Ae (od rfl (fun _=>rfl) (fun K=>BA (k:=i5) Tryz.underlying23 CY (es (K.As 0 17 rfl rfl)) a4 (es (K.As 1 18 rfl rfl)) a0 a3))
         (Ae (od rfl (fun _=>rfl) (fun K=>BZ AZ (es (K.As 2 19 rfl rfl)) (a5.mv (Ai K.A3)) rfl))
         (Ae (od rfl (fun _=>rfl) (fun K=>AL (es ((K.out 1 rfl).trans z))))
         (Ae (od rfl (fun _=>rfl) (fun K=>AL (es ((K.out 5 rfl).trans j))))
         (Ae (od rfl (fun _=>rfl) (fun K=>BA (k:=i6) Tryz.underlying23 CY (es (K.As 4 21 rfl rfl)) bB (es (K.As 5 22 rfl rfl)) a8 bA))
         (Ae (od rfl (fun _=>rfl) (fun K=>BZ AZ (es (K.As 6 23 rfl rfl)) (bC.mv (Ai K.A3)) rfl))
         (BP _))))))))) ?_
     intro bO;rintro _ rfl _ rfl _ rfl _ rfl _ rfl _ rfl _ rfl _ rfl aH;have aN:=aM.ext aH;refine wd rfl (fun st=>Gh (ee st rfl) (ee st rfl))<|Af<|Aa ?_;rcases Ap (aZ !=a7) with x|x
     ·replace a:=AD a x;refine Az rfl x<|Ag<|Ab<|wa rfl (v:=.bool false) rfl<|Af<|Aa<|AM<|A5<|AA<|AA ?_;obtain rfl:=Option.some.inj a;refine BS (fun st=>?_);exact .inl ⟨rfl,false,rfl,qz st,qd st,sp st 4 rfl,aN⟩
     ·replace a:=AE a x;refine AG rfl x<|AX<|Bg<|Aa<|Ab<|wm rfl (v:=I b) j ?_;replace a:=AS a;obtain⟨bD,a⟩:=a;refine wd rfl (fun st=>Bs (ee st rfl) (ee st rfl) bD)<|wa rfl (v:=I (b+1)) rfl<|Af ?_;have aD:=(l.mv (Ai aH));have aE:=(m.mv (Ai aH));refine Bn aQ (Nat.lt_succ_self _) (fun st=>?_);exact⟨(b+1),a,qz st,qd st,sp st 0 q,sp st 1 z,sp st 5 rfl,aN,aD,aE⟩
    ·replace a:=AE a u;refine AG rfl u<|B0<|AK<|AK ?_;obtain rfl:=Option.some.inj a;refine BS (fun st=>?_);exact .inr ⟨rfl,(),rfl,qz st,qd st,aM⟩
  case aW=>
   rintro aP bI bN (⟨rfl,p,rfl,r,s,aI,y⟩|⟨rfl,p,rfl,r,s,y⟩)
   ·skip
    replace a:=Es a;refine Ce (X:=X0) (N:=26) r s<|A5<|AA ?_;obtain rfl:=Option.some.inj a;refine AU rfl aI ?_;exact⟨y.Bz,rfl⟩
   ·skip
    replace a:=Et a;refine Ce (X:=X0) (N:=26) r s<|Bp<|Aa<|Ag<|Ab<|wa rfl (v:=.bool true) rfl<|Af<|Aa<|AM ?_;obtain rfl:=Option.some.inj a;refine AU rfl rfl ?_;exact⟨y.Bz,rfl⟩
theorem Ms(y:Nat)(a:Int)(Z:Nat→Prop)(w:World)(s:Ar)(t:CN y a=some s):
 BN Tryz.prog 82 #[I a] w (fun v w'=>Ext w w'∧(Cx Eu).R w' (ZZ FN [] Z w.heap.size []) v s):=by
 unfold CN at t;refine Bd (N:=9) Tryz.func82 rfl rfl (by simp) ?_;intro z u aA;have r:=AO (i:=0) (v:=I a) u rfl;clear u;have m:Hp FN [] w [] w:=Hp.start (BM.none w);refine Ag<|Ab<|we rfl (fun st=>BX (cs:= #[I 0,I 0,I 0,I 0,.slice none 0 0]) MN rfl) ?_;rintro _ w1 ⟨aB,rfl,c⟩;have o:=m.nb c;have x:=m.BL c;refine Af<|Aa<|Ag<|Ab<|wm rfl (v:=I a) r<|wd rfl (fun st=>C3 (vs:= #[(1,I 2),(2,I 2),(3,I 2)]) (v:=.agg #[I 0,I 0,I 2,I 2,I 2]) (Kd (ee st rfl) (ee st rfl) (ee st rfl)) (by kernel_rfl))<|wd rfl (fun st=>C3 (vs:= #[(0,I 1),(1,I 1)]) (v:=.agg #[I 1,I 1]) (IH (ee st rfl) (ee st rfl)) (by kernel_rfl))<|wd rfl (fun st=>C3 (vs:= #[(0,.agg #[I 1,I 1]),(1,I 2),(2,I 1),(3,I 5)]) (v:=.agg #[I 1,I 1,I 2,I 1,I 5]) (TW (ee st rfl) (ee st rfl) (ee st rfl) (ee st rfl)) (by kernel_rfl))<|we rfl (fun st=>BR (e:=156) (vs:= #[(0,.agg #[I 0,I 0,I 2,I 2,I 2]),(1,.agg #[I 1,I 1,I 2,I 1,I 5])]) (cs:= #[I 0,I 0,I 2,I 2,I 2,I 1,I 1,I 2,I 1,I 5]) (IH (ee st rfl) (ee st rfl)) (by kernel_rfl)) ?_;rintro _ w2 ⟨d,rfl,b⟩;have p:=o.nb b;have g:=o.BL b;refine wd rfl (fun st=>C3 (vs:= #[(0,I 5),(1,I 1),(2,I a),(3,I 1),(4,.slice (some ⟨d,0,none⟩) 2 2)]) (v:=.agg #[I 5,I 1,I a,I 1,.slice (some ⟨d,0,none⟩) 2 2]) (Wf (ee st rfl) (ee st rfl) (ee st rfl) (ee st rfl) (ee st rfl)) (by kernel_rfl)) ?_;have j:=(c.bk.ext b.gr);refine Bl rfl rfl (fun st=>Bi (n:=5) (l:=[I 5,I 1,I a,I 1,.slice (some ⟨d,0,none⟩) 2 2]) (B5:= #[I 5,I 1,I a,I 1,.slice (some ⟨d,0,none⟩) 2 2]) (ee st rfl) (ee st rfl) P8 j rfl rfl (show 0+5≤5 by decide) (AR rfl) rfl) ?_;rintro _ aC f;have q:=p.gr f.gr 1 rfl;refine Af<|Aa<|AM ?_;obtain rfl:=Option.some.inj t;refine Gj (v:=.agg #[I 5,I 1,I a,I 1,.slice (some ⟨d,0,none⟩) 2 2]) rfl rfl (CZ CV f.bk rfl rfl) ?_;have k:=(b.bk.gr f.gr (p.ne 0 1 rfl rfl rfl));exact⟨q.Bz,⟨_,rfl,_,_,rfl,GA (e:=AP) (xs:=[(⟨0,0,2,2,2⟩:Be),(⟨1,1,2,1,5⟩:Be)]) (Bm:=[[I 0,I 0,I 2,I 2,I 2],[I 1,I 1,I 2,I 1,I 5]]) k (.inr ⟨g,fun hm=>q.BF (F':=FN) (M:=[]) 0 rfl [] rfl trivial (fun _ h=>h.elim) (.inr hm)⟩) ⟨rfl,rfl,trivial⟩ rfl (Nat.le_refl _)⟩⟩
theorem Wk(bB:Nat)(b:Int)(Z:Nat→Prop)(w:World)(aX:AT)(j:GB bB b=some aX):
 BN Tryz.prog 83 #[I b] w (fun v w'=>Ext w w'∧(Cx CA).R w' (ZZ FN [] Z w.heap.size []) v aX):=by
 unfold GB at j;refine Bd (N:=12) Tryz.func83 rfl rfl (by simp) ?_;intro bI aY bJ;have aQ:=AO (i:=0) (v:=I b) aY rfl;clear aY;have aI:Hp FN [] w [] w:=Hp.start (BM.none w);refine Ag<|Ab<|we rfl (fun st=>BX (cs:= #[.slice none 0 0,.slice none 0 0]) G7 rfl) ?_;rintro _ w1 ⟨t,rfl,u⟩;have aJ:=aI.nb u;have a8:=aI.BL u;refine Af<|Aa<|Ag<|Ab<|we rfl (fun st=>BR (e:=3) (vs:= #[(0,I 0),(1,I 1)]) (cs:= #[I 0,I 1]) (IH (ee st rfl) (ee st rfl)) (by kernel_rfl)) ?_;rintro _ w2 ⟨c,rfl,q⟩;have x:=aJ.nb q;have aD:=aJ.BL q;replace j:=Hq j;obtain⟨aZ,j⟩:=j;refine we rfl (fun st=>HY (e:=Bu) (z:=false) (zc:=[.bool false]) (n0:=w.heap.size) (b':=1) Tryz.underlying65 KV rfl rfl (ee st rfl) (ee st rfl) aZ (fun _ _=>rfl) x.sz (by decide)) ?_;rintro _ a0 ⟨a,rfl,aK,aR,y,aS⟩;have aL:Hp FN [] w [some a,some c,some t] a0:=x.new y aK aR;have a9:w.heap.size≤a:=Nat.le_trans x.sz aK;have a2:AJ Bu 4 w.heap.size a0 (ZZ FN [] Z w.heap.size [some a,some c,some t]) (some ⟨a,0,none⟩) ((6:Int).toNat) (List.replicate (6:Int).toNat false):=aS _;refine wd rfl (fun st=>C3 (vs:= #[(0,.slice (some ⟨c,0,none⟩) 2 2),(1,.slice (some ⟨a,0,none⟩) ((List.replicate (6:Int).toNat false).length) ((6:Int).toNat))]) (v:=.agg #[.slice (some ⟨c,0,none⟩) 2 2,.slice (some ⟨a,0,none⟩) ((List.replicate (6:Int).toNat false).length) ((6:Int).toNat)]) (IH (ee st rfl) (ee st rfl)) (by kernel_rfl))<|we rfl (fun st=>BX (cs:= #[.slice none 0 0,.slice none 0 0]) G7 rfl) ?_;rintro _ bL ⟨aE,rfl,d⟩;have m:=aL.nb d;have bA:=aL.BL d;refine Bl rfl rfl (fun st=>Bi (n:=2) (l:=[.slice (some ⟨c,0,none⟩) 2 2,.slice (some ⟨a,0,none⟩) ((List.replicate (6:Int).toNat false).length) ((6:Int).toNat)]) (B5:= #[.slice (some ⟨c,0,none⟩) 2 2,.slice (some ⟨a,0,none⟩) ((List.replicate (6:Int).toNat false).length) ((6:Int).toNat)]) (ee st rfl) (ee st rfl) Ha d.bk rfl rfl (show 0+2≤2 by decide) (AR rfl) rfl) ?_;rintro _ bC f;have o:=m.gr f.gr 0 rfl;refine Af<|Aa<|Ag<|Ab<|wd rfl (fun st=>An (ee st rfl) (HI _ _))<|wd rfl (fun st=>Av (v:=.slice (some ⟨a,0,none⟩) ((List.replicate (6:Int).toNat false).length) ((6:Int).toNat)) Fo (ee st rfl) f.bk rfl)<|wm rfl (v:=I b) aQ ?_;replace j:=Bc j;obtain⟨i7,bM,aM,aN,aA,j⟩:=j;have r:AJ Bu 4 w.heap.size bC (ZZ FN [] Z w.heap.size [some aE,some a,some c,some t]) (some ⟨a,0,none⟩) ((6:Int).toNat) (List.replicate (6:Int).toNat false):=((a2.ext d.gr (Ax d)).gr f.gr (fun k aT=>m.ne 1 0 rfl (congrArg some aT) rfl) (m.AN f.gr 0 rfl));obtain⟨bN,bO,_,aO,rfl,bK⟩:=Sl.DQ r.all rfl aN;refine wd rfl (fun st=>BA (k:=i7) Tryz.underlying65 Hy (ee st rfl) aO (ee st rfl) aM aA) ?_;have aP:b.toNat=i7:=by rw[aM,Int.toNat_natCast]
 refine Bl rfl rfl (fun st=>GQ (k:=i7) (z':=true) (l:=[.bool true]) r aN aO rfl (ee st rfl) (ee st rfl) Hy rfl rfl (AR rfl) rfl) ?_;rintro _ a3 ⟨p,a4⟩;have s:=o.gr p 1 rfl;have aU:AJ Bu 4 w.heap.size a3 (ZZ FN [] Z w.heap.size [some aE,some a,some c,some t]) (some ⟨a,0,none⟩) ((6:Int).toNat) ((List.replicate (6:Int).toNat false).set b.toNat true):=by rw[show(List.replicate (6:Int).toNat false).set b.toNat true=(List.replicate (6:Int).toNat false).set i7 true from congrArg (fun aV=>(List.replicate (6:Int).toNat false).set aV true) aP];exact Dh a4 (o.AN p 1 rfl)
 have bD:((List.replicate (6:Int).toNat false).set b.toNat true)[i7]?=some true:=by rw[show(List.replicate (6:Int).toNat false).set b.toNat true=(List.replicate (6:Int).toNat false).set i7 true from congrArg (fun aV=>(List.replicate (6:Int).toNat false).set aV true) aP];exact List.getElem?_set_self aA
 have bE:i7<((List.replicate (6:Int).toNat false).set b.toNat true).length:=by rw[List.length_set];exact aA
 have bF:(.slice (some ⟨a,0,none⟩) ((List.replicate (6:Int).toNat false).length) ((6:Int).toNat):Value)=.slice (some ⟨a,0,none⟩) (((List.replicate (6:Int).toNat false).set b.toNat true).length) ((6:Int).toNat):=by simp only[List.length_set]
 have bG:(.agg #[.slice (some ⟨c,0,none⟩) 2 2,.slice (some ⟨a,0,none⟩) ((List.replicate (6:Int).toNat false).length) ((6:Int).toNat)]:Value)=.agg #[.slice (some ⟨c,0,none⟩) 2 2,.slice (some ⟨a,0,none⟩) (((List.replicate (6:Int).toNat false).set b.toNat true).length) ((6:Int).toNat)]:=by simp only[List.length_set]
 have bH:(.slice (some ⟨a,0,none⟩) ((List.replicate (6:Int).toNat false).length) ((6:Int).toNat):Value)=.slice (some ⟨a,0,none⟩) (((List.replicate (6:Int).toNat false).set b.toNat true).length) ((6:Int).toNat):=by simp only[List.length_set]
 have aF:=(f.bk.gr p (o.ne 0 1 rfl rfl rfl));have aW:Bk a3 aE 78 #[.slice (some ⟨c,0,none⟩) 2 2,.slice (some ⟨a,0,none⟩) (((List.replicate (6:Int).toNat false).set b.toNat true).length) ((6:Int).toNat)]:=by have a5:=aF;simp only[List.length_set] at a5⊢;exact a5
 refine Af<|Aa<|Ag<|Ab<|wd rfl (fun st=>A8 (l:=[.slice (some ⟨c,0,none⟩) 2 2,.slice (some ⟨a,0,none⟩) (((List.replicate (6:Int).toNat false).set b.toNat true).length) ((6:Int).toNat)]) Gg (ee st rfl) aW rfl rfl) ?_;have aG:=(((((u.bk.ext q.gr).ext y).ext d.gr).gr f.gr (m.ne 3 0 rfl rfl rfl)).gr p (o.ne 3 1 rfl rfl rfl));refine Bl rfl rfl (fun st=>Bi (n:=2) (l:=[.slice (some ⟨c,0,none⟩) 2 2,.slice (some ⟨a,0,none⟩) (((List.replicate (6:Int).toNat false).set b.toNat true).length) ((6:Int).toNat)]) (B5:= #[.slice (some ⟨c,0,none⟩) 2 2,.slice (some ⟨a,0,none⟩) (((List.replicate (6:Int).toNat false).set b.toNat true).length) ((6:Int).toNat)]) (ee st rfl) (ee st rfl) Ha aG rfl rfl (show 0+2≤2 by decide) (AR rfl) rfl) ?_;rintro _ a7 g;have aB:=s.gr g.gr 3 rfl;refine Af<|Aa<|AM ?_;obtain rfl:=Option.some.inj j;refine Gj (v:=.agg #[.slice (some ⟨c,0,none⟩) 2 2,.slice (some ⟨a,0,none⟩) (((List.replicate (6:Int).toNat false).set b.toNat true).length) ((6:Int).toNat)]) rfl rfl (CZ Gg g.bk rfl rfl) ?_;have aH:=(((((q.bk.ext y).ext d.gr).gr f.gr (m.ne 2 0 rfl rfl rfl)).gr p (o.ne 2 1 rfl rfl rfl)).gr g.gr (s.ne 2 3 rfl rfl rfl));have aC:AJ Bu 4 w.heap.size a7 (ZZ FN [] Z w.heap.size [some aE,some a,some c,some t]) (some ⟨a,0,none⟩) ((6:Int).toNat) ((List.replicate (6:Int).toNat false).set b.toNat true):=(aU.gr g.gr (fun k aT=>s.ne 1 3 rfl (congrArg some aT) rfl) (s.AN g.gr 3 rfl));exact⟨aB.Bz,⟨_,rfl,_,_,_,_,rfl,GA (e:=(AB .i64)) (xs:=[0,1]) (Bm:=[[I 0],[I 1]]) aH (.inr ⟨aD,fun hm=>aB.BF (F':=FN) (M:=[]) 2 rfl [] rfl trivial (fun _ h=>h.elim) (.inr hm)⟩) ⟨rfl,rfl,trivial⟩ rfl (Nat.le_refl _),aB.Io (M:=[]) 1 rfl [] rfl trivial aC⟩⟩
theorem Wl(aX:Nat)(g:List Ah)(a:Ah)(e:Ah)(j:Option Addr)(m:Nat)(Z:Nat→Prop)(w:World)(y:Sl BC w Z j m g)(aI:Bool)(h:GC aX g a e=some aI):
 BN Tryz.prog 84 #[.slice j g.length m,.agg #[I a.On,I a.AF,.bool a.Aq],.agg #[I e.On,I e.AF,.bool e.Aq]] w (fun v w'=>Ext w w'∧BW.R w' (ZZ FN [] Z w.heap.size []) v aI):=by
 unfold GC at h;refine Bd (N:=24) Tryz.func84 rfl rfl (by simp) ?_;intro a0 z a2;have o:=AO (i:=0) (v:=.slice j g.length m) z rfl;have aG:=AO (i:=1) (v:=.agg #[I a.On,I a.AF,.bool a.Aq]) z rfl;have aH:=AO (i:=2) (v:=.agg #[I e.On,I e.AF,.bool e.Aq]) z rfl;clear z;have aA:Hp FN [] w [] w:=Hp.start (BM.none w);have u:=y.mv (Bf (Z:=Z) (L:=[]) w);refine Ag<|Ab<|we rfl (fun st=>BY (v:=.agg #[I a.On,I a.AF,.bool a.Aq]) (cs:= #[I a.On,I a.AF,.bool a.Aq]) (ee st aG) rfl) ?_;rintro _ w1 ⟨a3,rfl,s⟩;have aB:=aA.nb s;have aV:=aA.BL s;refine we rfl (fun st=>BY (v:=.agg #[I e.On,I e.AF,.bool e.Aq]) (cs:= #[I e.On,I e.AF,.bool e.Aq]) (ee st aH) rfl) ?_;rintro _ w2 ⟨a4,rfl,q⟩;have x:=aB.nb q;have aW:=aB.BL q;refine wa rfl (v:=.bool false) rfl<|Af<|Aa<|Ag ?_;rcases Ap ((g.length:Int)==2) with d|d
 ·replace h:=AD h d;replace h:=Bc h;obtain⟨i5,b,aC,aJ,aD,h⟩:=h;have p:=((u.mv (Ax s)).mv (Ax q));obtain⟨aK,aL,_,aE,rfl,aF⟩:=Sl.elem p (by decide) aJ;have t:=(s.bk.ext q.gr);rcases Ap (HM [.inl b.On,.inl b.AF,.inr b.Aq] [.inl a.On,.inl a.AF,.inr a.Aq]) with f|f
  ·replace h:=AD h f;replace h:=Bc h;obtain⟨i7,n,aM,aN,aO,h⟩:=h;obtain⟨aY,aZ,_,aP,rfl,aQ⟩:=Sl.elem p (by decide) aN;refine B9 15 [Kc (.slice j g.length m),Kc (I (g.length:Int)),Kc (.bool ((g.length:Int)==2)),Kc (.bool ((g.length:Int)==2)),Kc (.slice j g.length m),Kc (pt aK (aL+i5*3)),Kc (.agg #[I b.On,I b.AF,.bool b.Aq]),Kc (.agg #[I a.On,I a.AF,.bool a.Aq]),Kc (.bool (HM [.inl b.On,.inl b.AF,.inr b.Aq] [.inl a.On,.inl a.AF,.inr a.Aq])),Kc (.bool (HM [.inl b.On,.inl b.AF,.inr b.Aq] [.inl a.On,.inl a.AF,.inr a.Aq])),Kc (.bool (HM [.inl b.On,.inl b.AF,.inr b.Aq] [.inl a.On,.inl a.AF,.inr a.Aq])),Kc (.slice j g.length m),Kc (pt aY (aZ+i7*3)),Kc (.agg #[I n.On,I n.AF,.bool n.Aq]),Kc (.agg #[I e.On,I e.AF,.bool e.Aq])] mixed rfl rfl
       (Ae (od rfl (fun _=>rfl) (fun K=>AL (es ((K.out 0 rfl).trans o))))
       (Ae (od rfl (fun _=>rfl) (fun K=>BH Tryz.underlying70 (es (K.As 0 7 rfl rfl))))
       (Ae (od rfl (fun _=>rfl) (fun K=>CG (es (K.As 1 8 rfl rfl)) (ec (v:=I 2))))
       (Ae (od rfl (fun _=>rfl) (fun K=>AL (es (K.As 2 9 rfl rfl))))
       (Ae (Bb rfl rfl rfl (fun _=>rfl) (fun a' w' ph K=>Ac (K.As 3 10 rfl rfl) d) (fun a' w' ph K=>AL (es ((K.out 0 rfl).trans o))))
       (Ae (Bb rfl rfl rfl (fun _=>rfl) (fun a' w' ph K=>Ac (K.As 3 10 rfl rfl) d) (fun a' w' ph K=>Bv (k:=i5) Tryz.underlying70 EP (es (K.As 4 11 rfl rfl)) aE (ec (v:=I 0)) aC aD))
       (Ae (Bb rfl rfl rfl (fun _=>rfl) (fun a' w' ph K=>Ac (K.As 3 10 rfl rfl) d) (fun a' w' ph K=>Db (l:=[I b.On,I b.AF,.bool b.Aq]) Ek (es (K.As 5 12 rfl rfl)) (aF.mv (Ai K.A3)) rfl rfl))
       (Ae (Bb rfl rfl rfl (fun _=>rfl) (fun a' w' ph K=>Ac (K.As 3 10 rfl rfl) d) (fun a' w' ph K=>A8 (l:=[I a.On,I a.AF,.bool a.Aq]) Ek (es ((K.out 4 rfl).trans rfl)) (t.ext K.A3) rfl rfl))
       (Ae (Bb rfl rfl rfl (fun _=>rfl) (fun a' w' ph K=>Ac (K.As 3 10 rfl rfl) d) (fun a' w' ph K=>PI (x1:=[.inl b.On,.inl b.AF,.inr b.Aq]) (x2:=[.inl a.On,.inl a.AF,.inr a.Aq]) LO MO (es (K.As 6 13 rfl rfl)) (es (K.As 7 14 rfl rfl)) rfl rfl rfl rfl))
       (Ae (od rfl (fun _=>rfl) (fun K=>AV (es (K.As 3 10 rfl rfl)) d (es (K.As 8 15 rfl rfl))))
       (Ae (od rfl (fun _=>rfl) (fun K=>AL (es (K.As 9 16 rfl rfl))))
       (Ae (Bb rfl rfl rfl (fun _=>rfl) (fun a' w' ph K=>Ac (K.As 10 17 rfl rfl) f) (fun a' w' ph K=>AL (es ((K.out 0 rfl).trans o))))
       (Ae (Bb rfl rfl rfl (fun _=>rfl) (fun a' w' ph K=>Ac (K.As 10 17 rfl rfl) f) (fun a' w' ph K=>Bv (k:=i7) Tryz.underlying70 EP (es (K.As 11 18 rfl rfl)) aP (ec (v:=I 1)) aM aO))
       (Ae (Bb rfl rfl rfl (fun _=>rfl) (fun a' w' ph K=>Ac (K.As 10 17 rfl rfl) f) (fun a' w' ph K=>Db (l:=[I n.On,I n.AF,.bool n.Aq]) Ek (es (K.As 12 19 rfl rfl)) (aQ.mv (Ai K.A3)) rfl rfl))
       (Ae (Bb rfl rfl rfl (fun _=>rfl) (fun a' w' ph K=>Ac (K.As 10 17 rfl rfl) f) (fun a' w' ph K=>A8 (l:=[I e.On,I e.AF,.bool e.Aq]) Ek (es ((K.out 5 rfl).trans rfl)) (q.bk.ext K.A3) rfl rfl))
       (BP _)))))))))))))))) ?_
   intro aR;rintro _ rfl _ rfl _ rfl _ rfl _ rfl _ rfl _ rfl _ rfl _ rfl _ rfl _ rfl _ rfl _ rfl _ rfl _ rfl r;have aS:=x.ext r;refine Aw rfl rfl (Ac rfl f) rfl (by decide) (fun st=>PI (x1:=[.inl n.On,.inl n.AF,.inr n.Aq]) (x2:=[.inl e.On,.inl e.AF,.inr e.Aq]) LO MO (ee st rfl) (ee st rfl) rfl rfl rfl rfl)<|wd rfl (fun st=>AV (v:=.bool (HM [.inl n.On,.inl n.AF,.inr n.Aq] [.inl e.On,.inl e.AF,.inr e.Aq])) (ee st rfl) f (ee st rfl))<|wa rfl (v:=.bool (HM [.inl n.On,.inl n.AF,.inr n.Aq] [.inl e.On,.inl e.AF,.inr e.Aq])) rfl<|Af<|Aa<|AM ?_;obtain rfl:=Option.some.inj h;refine AU rfl rfl ?_;exact⟨aS.Bz,rfl⟩
  ·replace h:=AE h f;refine B9 15 [Kc (.slice j g.length m),Kc (I (g.length:Int)),Kc (.bool ((g.length:Int)==2)),Kc (.bool ((g.length:Int)==2)),Kc (.slice j g.length m),Kc (pt aK (aL+i5*3)),Kc (.agg #[I b.On,I b.AF,.bool b.Aq]),Kc (.agg #[I a.On,I a.AF,.bool a.Aq]),Kc (.bool (HM [.inl b.On,.inl b.AF,.inr b.Aq] [.inl a.On,.inl a.AF,.inr a.Aq])),Kc (.bool (HM [.inl b.On,.inl b.AF,.inr b.Aq] [.inl a.On,.inl a.AF,.inr a.Aq])),Kc (.bool (HM [.inl b.On,.inl b.AF,.inr b.Aq] [.inl a.On,.inl a.AF,.inr a.Aq])),Kc undef,Kc undef,Kc undef,Kc undef] mixed rfl rfl
       (Ae (od rfl (fun _=>rfl) (fun K=>AL (es ((K.out 0 rfl).trans o))))
       (Ae (od rfl (fun _=>rfl) (fun K=>BH Tryz.underlying70 (es (K.As 0 7 rfl rfl))))
       (Ae (od rfl (fun _=>rfl) (fun K=>CG (es (K.As 1 8 rfl rfl)) (ec (v:=I 2))))
       (Ae (od rfl (fun _=>rfl) (fun K=>AL (es (K.As 2 9 rfl rfl))))
       (Ae (Bb rfl rfl rfl (fun _=>rfl) (fun a' w' ph K=>Ac (K.As 3 10 rfl rfl) d) (fun a' w' ph K=>AL (es ((K.out 0 rfl).trans o))))
       (Ae (Bb rfl rfl rfl (fun _=>rfl) (fun a' w' ph K=>Ac (K.As 3 10 rfl rfl) d) (fun a' w' ph K=>Bv (k:=i5) Tryz.underlying70 EP (es (K.As 4 11 rfl rfl)) aE (ec (v:=I 0)) aC aD))
       (Ae (Bb rfl rfl rfl (fun _=>rfl) (fun a' w' ph K=>Ac (K.As 3 10 rfl rfl) d) (fun a' w' ph K=>Db (l:=[I b.On,I b.AF,.bool b.Aq]) Ek (es (K.As 5 12 rfl rfl)) (aF.mv (Ai K.A3)) rfl rfl))
       (Ae (Bb rfl rfl rfl (fun _=>rfl) (fun a' w' ph K=>Ac (K.As 3 10 rfl rfl) d) (fun a' w' ph K=>A8 (l:=[I a.On,I a.AF,.bool a.Aq]) Ek (es ((K.out 4 rfl).trans rfl)) (t.ext K.A3) rfl rfl))
       (Ae (Bb rfl rfl rfl (fun _=>rfl) (fun a' w' ph K=>Ac (K.As 3 10 rfl rfl) d) (fun a' w' ph K=>PI (x1:=[.inl b.On,.inl b.AF,.inr b.Aq]) (x2:=[.inl a.On,.inl a.AF,.inr a.Aq]) LO MO (es (K.As 6 13 rfl rfl)) (es (K.As 7 14 rfl rfl)) rfl rfl rfl rfl))
       (Ae (od rfl (fun _=>rfl) (fun K=>AV (es (K.As 3 10 rfl rfl)) d (es (K.As 8 15 rfl rfl))))
       (Ae (od rfl (fun _=>rfl) (fun K=>AL (es (K.As 9 16 rfl rfl))))
       (Ae (Bj (c:=false) rfl rfl rfl (by decide) (fun a' w' ph K=>Ac (K.As 10 17 rfl rfl) f) (fun _=>rfl))
       (Ae (Bj (c:=false) rfl rfl rfl (by decide) (fun a' w' ph K=>Ac (K.As 10 17 rfl rfl) f) (fun _=>rfl))
       (Ae (Bj (c:=false) rfl rfl rfl (by decide) (fun a' w' ph K=>Ac (K.As 10 17 rfl rfl) f) (fun _=>rfl))
       (Ae (Bj (c:=false) rfl rfl rfl (by decide) (fun a' w' ph K=>Ac (K.As 10 17 rfl rfl) f) (fun _=>rfl))
       (BP _)))))))))))))))) ?_
   intro aR;rintro _ rfl _ rfl _ rfl _ rfl _ rfl _ rfl _ rfl _ rfl _ rfl _ rfl _ rfl _ rfl _ rfl _ rfl _ rfl r;have aT:=x.ext r;refine Aj (c:=false) rfl rfl (Ac rfl f) (by decide) rfl (by decide)<|wd rfl (fun st=>Br (v:=.bool false) (ee st rfl) f (ee st rfl))<|wa rfl (v:=.bool false) rfl<|Af<|Aa<|AM ?_;obtain rfl:=Option.some.inj h;refine AU rfl rfl ?_;exact⟨aT.Bz,rfl⟩
 ·replace h:=AE h d;refine B9 15 [Kc (.slice j g.length m),Kc (I (g.length:Int)),Kc (.bool ((g.length:Int)==2)),Kc (.bool ((g.length:Int)==2)),Kc undef,Kc undef,Kc undef,Kc undef,Kc undef,Kc (.bool false),Kc (.bool false),Kc undef,Kc undef,Kc undef,Kc undef] mixed rfl rfl
      (Ae (od rfl (fun _=>rfl) (fun K=>AL (es ((K.out 0 rfl).trans o))))
      (Ae (od rfl (fun _=>rfl) (fun K=>BH Tryz.underlying70 (es (K.As 0 7 rfl rfl))))
      (Ae (od rfl (fun _=>rfl) (fun K=>CG (es (K.As 1 8 rfl rfl)) (ec (v:=I 2))))
      (Ae (od rfl (fun _=>rfl) (fun K=>AL (es (K.As 2 9 rfl rfl))))
      (Ae (Bj (c:=false) rfl rfl rfl (by decide) (fun a' w' ph K=>Ac (K.As 3 10 rfl rfl) d) (fun _=>rfl))
      (Ae (Bj (c:=false) rfl rfl rfl (by decide) (fun a' w' ph K=>Ac (K.As 3 10 rfl rfl) d) (fun _=>rfl))
      (Ae (Bj (c:=false) rfl rfl rfl (by decide) (fun a' w' ph K=>Ac (K.As 3 10 rfl rfl) d) (fun _=>rfl))
      (Ae (Bj (c:=false) rfl rfl rfl (by decide) (fun a' w' ph K=>Ac (K.As 3 10 rfl rfl) d) (fun _=>rfl))
      (Ae (Bj (c:=false) rfl rfl rfl (by decide) (fun a' w' ph K=>Ac (K.As 3 10 rfl rfl) d) (fun _=>rfl))
      (Ae (od rfl (fun _=>rfl) (fun K=>Br (es (K.As 3 10 rfl rfl)) d (ec (v:=.bool false))))
      (Ae (od rfl (fun _=>rfl) (fun K=>AL (es (K.As 9 16 rfl rfl))))
      (Ae (Bj (c:=false) rfl rfl rfl (by decide) (fun a' w' ph K=>(show sl a' 17=.bool false from K.As 10 17 rfl rfl)) (fun _=>rfl))
      (Ae (Bj (c:=false) rfl rfl rfl (by decide) (fun a' w' ph K=>(show sl a' 17=.bool false from K.As 10 17 rfl rfl)) (fun _=>rfl))
      (Ae (Bj (c:=false) rfl rfl rfl (by decide) (fun a' w' ph K=>(show sl a' 17=.bool false from K.As 10 17 rfl rfl)) (fun _=>rfl))
      (Ae (Bj (c:=false) rfl rfl rfl (by decide) (fun a' w' ph K=>(show sl a' 17=.bool false from K.As 10 17 rfl rfl)) (fun _=>rfl))
      (BP _)))))))))))))))) ?_
  intro aR;rintro _ rfl _ rfl _ rfl _ rfl _ rfl _ rfl _ rfl _ rfl _ rfl _ rfl _ rfl _ rfl _ rfl _ rfl _ rfl r;have aU:=x.ext r;refine Aj rfl rfl rfl (by decide) rfl (by decide)<|wd rfl (fun st=>Br (v:=.bool false) (ee st rfl) rfl (ee st rfl))<|wa rfl (v:=.bool false) rfl<|Af<|Aa<|AM ?_;obtain rfl:=Option.some.inj h;refine AU rfl rfl ?_;exact⟨aU.Bz,rfl⟩
theorem Wm(s:Nat)(a:CK)(Z:Nat→Prop)(w:World)(j:CK)(k:GS s a=some j):
 BN Tryz.prog 88 #[.agg #[I a.Lo,I a.Hi]] w (fun v w'=>Ext w w'∧(Cx O1).R w' (ZZ FN [] Z w.heap.size []) v j):=by
 unfold GS at k;refine Bd (N:=8) Tryz.func88 rfl rfl (by simp) ?_;intro t m u;have h:=AO (i:=0) (v:=.agg #[I a.Lo,I a.Hi]) m rfl;clear m;have e:Hp FN [] w [] w:=Hp.start (BM.none w);refine Ag<|Ab<|we rfl (fun st=>BY (v:=.agg #[I a.Lo,I a.Hi]) (cs:= #[I a.Lo,I a.Hi]) (ee st h) rfl) ?_;rintro _ w1 ⟨x,rfl,d⟩;have f:=e.nb d;have q:=e.BL d;refine we rfl (fun st=>BX (cs:= #[I 0,I 0]) R4 rfl) ?_;rintro _ w2 ⟨y,rfl,b⟩;have o:=f.nb b;have r:=f.BL b;refine Af<|Aa<|Ag<|Ab<|wd rfl (fun st=>An (ee st rfl) (IY _ _)) ?_;have c:=(d.bk.ext b.gr);refine wd rfl (fun st=>Av (v:=I a.Lo) AZ (ee st rfl) c rfl)<|wd rfl (fun st=>An (ee st rfl) (J6 _ _))<|wd rfl (fun st=>Av (v:=I a.Hi) AZ (ee st rfl) c rfl)<|wd rfl (fun st=>C3 (vs:= #[(0,I a.Lo),(1,I a.Hi)]) (v:=.agg #[I a.Lo,I a.Hi]) (IH (ee st rfl) (ee st rfl)) (by kernel_rfl))<|Bl rfl rfl (fun st=>Bi (n:=2) (l:=[I a.Lo,I a.Hi]) (B5:= #[I a.Lo,I a.Hi]) (ee st rfl) (ee st rfl) UC b.bk rfl rfl (show 0+2≤2 by decide) (AR rfl) rfl) ?_;rintro _ z g;have p:=o.gr g.gr 0 rfl;refine Af<|Aa<|AM ?_;obtain rfl:=Option.some.inj k;refine Gj (v:=.agg #[I a.Lo,I a.Hi]) rfl rfl (CZ Lb g.bk rfl rfl) ?_;exact⟨p.Bz,⟨_,rfl,rfl⟩⟩
theorem a31(bT:Nat)(a:Ar)(p:Option Addr)(q:Nat)(Z:Nat→Prop)(w:World)(bU:Sl AP w Z p q a.Ad)(cK:Ar)(m:CO bT a=some cK):
 BN Tryz.prog 31 #[.agg #[I a.Am,I a.Ak,I a.Ao,I a.Ay,.slice p a.Ad.length q]] w (fun v w'=>Ext w w'∧(Cx Eu).R w' (ZZ FN [] Z w.heap.size []) v cK):=by
 unfold CO at m;refine Bd (N:=43) Tryz.func31 rfl rfl (by simp) ?_;intro c6 cL c7;have b7:=AO (i:=0) (v:=.agg #[I a.Am,I a.Ak,I a.Ao,I a.Ay,.slice p a.Ad.length q]) cL rfl;clear cL;have b2:Hp FN [] w [] w:=Hp.start (BM.none w);have bF:=bU.mv (Bf (Z:=Z) (L:=[]) w);refine Ag<|Ab<|we rfl (fun st=>BY (v:=.agg #[I a.Am,I a.Ak,I a.Ao,I a.Ay,.slice p a.Ad.length q]) (cs:= #[I a.Am,I a.Ak,I a.Ao,I a.Ay,.slice p a.Ad.length q]) (ee st b7) rfl) ?_;rintro _ w1 ⟨x,rfl,bB⟩;have b3:=b2.nb bB;have c1:=b2.BL bB;refine we rfl (fun st=>BX (cs:= #[I 0,I 0,I 0,I 0,.slice none 0 0]) MN rfl) ?_;rintro _ w2 ⟨t,rfl,aX⟩;have b4:=b3.nb aX;have c2:=b3.BL aX;refine Af<|Aa<|Ag<|Ab<|wd rfl (fun st=>An (ee st rfl) (FX _ _)) ?_;have aD:=(bB.bk.ext aX.gr);refine wd rfl (fun st=>Av (v:=I a.Am) AZ (ee st rfl) aD rfl)<|wd rfl (fun st=>An (ee st rfl) (La _ _))<|wd rfl (fun st=>Av (v:=I a.Ak) AZ (ee st rfl) aD rfl)<|wd rfl (fun st=>An (ee st rfl) (MK _ _))<|wd rfl (fun st=>Av (v:=I a.Ao) AZ (ee st rfl) aD rfl)<|wd rfl (fun st=>An (ee st rfl) (K9 _ _))<|wd rfl (fun st=>Av (v:=I a.Ay) AZ (ee st rfl) aD rfl)<|wd rfl (fun st=>C3 (vs:= #[(0,I a.Am),(1,I a.Ak),(2,I a.Ao),(3,I a.Ay)]) (v:=.agg #[I a.Am,I a.Ak,I a.Ao,I a.Ay,.slice none 0 0]) (TW (ee st rfl) (ee st rfl) (ee st rfl) (ee st rfl)) (by kernel_rfl))<|we rfl (fun st=>BX (cs:= #[I 0,I 0,I 0,I 0,.slice none 0 0]) MN rfl) ?_;rintro _ dC ⟨s,rfl,aQ⟩;have bC:=b4.nb aQ;have c3:=b4.BL aQ;refine Bl rfl rfl (fun st=>Bi (n:=5) (l:=[I a.Am,I a.Ak,I a.Ao,I a.Ay,.slice none 0 0]) (B5:= #[I a.Am,I a.Ak,I a.Ao,I a.Ay,.slice none 0 0]) (ee st rfl) (ee st rfl) P8 aQ.bk rfl rfl (show 0+5≤5 by decide) (AR rfl) rfl) ?_;rintro _ b8 aY;have cM:=bC.gr aY.gr 0 rfl;refine Af<|Aa<|Ag<|Ag<|Ab<|wa rfl (v:=I 0) rfl<|Af<|Aa<|AY ?_;have cN:Hp FN [] w [none,some s,some t,some x] b8:=cM.nil;have cO:AJ AP 156 w.heap.size b8 (ZZ FN [] Z w.heap.size [none,some s,some t,some x]) none 0 ([]:List Be):=AJ.nil _ _ _ _ _;replace m:=bind_some m;obtain⟨z5,aR,m⟩:=m;refine B8 (fun cP z aJ=>(cP=.exit 0∧∃c g,z.tmps.size=43∧z.defers=(X0).ds∧sl z 2=pt t 0∧sl z 3=pt s 0∧Hp FN [] w [ob c,some s,some t,some x] aJ∧AJ AP 156 w.heap.size aJ (ZZ FN [] Z w.heap.size [ob c,some s,some t,some x]) c g z5∧Bk aJ t 75 #[I 0,I 0,I 0,I 0,.slice none 0 0]∧Bk aJ s 75 #[I a.Am,I a.Ak,I a.Ao,I a.Ay,.slice c z5.length g])) ?cQ ?cR
 case cQ=>
  clear m;refine B7 (fun(b9:Nat) (z:Act) (aJ:World)=>∃y,∃j,∃f o,D1 bT a b9 y j=some z5∧z.tmps.size=43∧z.defers=(X0).ds∧sl z 1=pt x 0∧sl z 2=pt t 0∧sl z 3=pt s 0∧sl z 4=I y∧Hp FN [] w [ob f,some s,some t,some x] aJ∧AJ AP 156 w.heap.size aJ (ZZ FN [] Z w.heap.size [ob f,some s,some t,some x]) f o j∧Bk aJ x 63 #[I a.Am,I a.Ak,I a.Ao,I a.Ay,.slice p a.Ad.length q]∧Bk aJ t 75 #[I 0,I 0,I 0,I 0,.slice none 0 0]∧Bk aJ s 75 #[I a.Am,I a.Ak,I a.Ao,I a.Ay,.slice f j.length o]∧Sl AP aJ (ZZ FN [] Z w.heap.size [ob f,some s,some t,some x]) p q a.Ad) bT ?cS ?cT
  case cS=>
   intro st;have bV:=((aD.ext aQ.gr).gr aY.gr (bC.ne 2 0 rfl rfl rfl));have bW:=((aX.bk.ext aQ.gr).gr aY.gr (bC.ne 1 0 rfl rfl rfl));have bX:=aY.bk;have bG:Sl AP b8 (ZZ FN [] Z w.heap.size [none,some s,some t,some x]) p q a.Ad:=(((((bF.mv (Ax bB)).mv (Ax aX)).mv (Ax aQ)).mv (bC.AN aY.gr 0 rfl)).mv Cg);exact⟨(0:Int),([]:List Be),none,0,aR,qz st,qd st,sp st 1 rfl,sp st 2 rfl,sp st 3 rfl,sp st 4 rfl,cN,cO,bV,bW,bX,bG⟩
  case cT=>
   rintro(_|b9) c8 c9 ⟨y,j,f,o,aR,cA,cB,aS,bD,aI,aT,bI,aE,aK,aZ,a0,aL⟩
   ·exact absurd (show none=some _ from aR) (by simp)
   rw[D1.eq_2] at aR;have m:=aR;clear aR;refine BU (N:=43) cA cB<|Ag<|Ag<|Ab<|wm rfl (v:=I y) aT<|wd rfl (fun st=>An (ee st aS) (DB _ _))<|wd rfl (fun st=>Av (v:=.slice p a.Ad.length q) Ei (ee st rfl) aK rfl)<|wd rfl (fun st=>BH Tryz.underlying61 (ee st rfl))<|wd rfl (fun st=>Cc (ee st rfl) (ee st rfl))<|Af<|Aa ?_;rcases Ap (decide (y<(a.Ad.length:Int))) with a2|a2
   ·replace m:=AD m a2;refine Az rfl a2<|AX<|Aa<|Ag<|AY<|Ag<|Ab<|wd rfl (fun st=>An (ee st aS) (DB _ _))<|wd rfl (fun st=>Av (v:=.slice p a.Ad.length q) Ei (ee st rfl) aK rfl)<|wm rfl (v:=I y) aT ?_;replace m:=Bc m;obtain⟨i8,b,cU,cV,cW,m⟩:=m;obtain⟨dD,dE,_,cX,rfl,cY⟩:=Sl.elem aL (by decide) cV;refine wd rfl (fun st=>Bv (k:=i8) Tryz.underlying61 FR (ee st rfl) cX (ee st rfl) cU cW)<|wd rfl (fun st=>Db (l:=[I b.Au,I b.AH,I b.Aq,I b.B1,I b.Cj]) MM (ee st rfl) cY rfl rfl)<|we rfl (fun st=>BX (cs:= #[I 0,I 0,I 0,I 0,I 0]) Ou rfl) ?_;rintro _ dF ⟨aU,rfl,aF⟩;have aM:=bI.nb aF;have c4:=bI.BL aF;refine Bl rfl rfl (fun st=>Bi (n:=5) (l:=[I b.Au,I b.AH,I b.Aq,I b.B1,I b.Cj]) (B5:= #[I b.Au,I b.AH,I b.Aq,I b.B1,I b.Cj]) (ee st rfl) (ee st rfl) FR aF.bk rfl rfl (show 0+5≤5 by decide) (AR rfl) rfl) ?_;rintro _ dA r;have b5:=aM.gr r.gr 0 rfl;refine Af<|Aa ?_;have bE:=((a0.ext aF.gr).gr r.gr (aM.ne 2 0 rfl rfl rfl));replace m:=bind_some m;obtain⟨d,cC,m⟩:=m;refine B9 13 [Kc (pt s 4),Kc (.slice f j.length o),Kc (pt aU 0),Kc (.agg #[I b.Au,I b.AH]),Kc (.agg #[I d.Lo,I d.Hi]),Kc (pt aU 2),Kc (I b.Aq),Kc (pt aU 3),Kc (I b.B1),Kc (pt aU 4),Kc (I b.Cj),Kc (.agg #[I d.Lo,I d.Hi,I b.Aq,I b.B1,I b.Cj]),Kv (DX AP) (ZZ FN [] Z w.heap.size [some aU,ob f,some s,some t,some x]) [(⟨d.Lo,d.Hi,b.Aq,b.B1,b.Cj⟩:Be)]] mixed rfl rfl
        (Ae (od rfl (fun _=>rfl) (fun K=>An (es ((K.out 3 rfl).trans aI)) (Da _ _)))
        (Ae (od rfl (fun _=>rfl) (fun K=>Av DG (es (K.As 0 27 rfl rfl)) (bE.ext K.A3) rfl))
        (Ae (od rfl (fun _=>rfl) (fun K=>An (es ((K.out 5 rfl).trans rfl)) (I0 _ _)))
        (Ae (od rfl (fun _=>rfl) (fun K=>A8 (l:=[I b.Au,I b.AH]) Jy (es (K.As 2 29 rfl rfl)) (r.bk.ext K.A3) rfl rfl))
        (Ae (Dd rfl rfl (fun a' w' ph K=>(AI UD rfl (Co (es (K.As 3 30 rfl rfl))) (Wm bT (⟨b.Au,b.AH⟩:CK) ZA _ d cC)).mono (fun _ _ h=>⟨(by obtain⟨_,rfl,rfl⟩:=h.2;rfl),h.1⟩)))
        (Ae (od rfl (fun _=>rfl) (fun K=>An (es ((K.out 5 rfl).trans rfl)) (Ov _ _)))
        (Ae (od rfl (fun _=>rfl) (fun K=>Av AZ (es (K.As 5 32 rfl rfl)) (r.bk.ext K.A3) rfl))
        (Ae (od rfl (fun _=>rfl) (fun K=>An (es ((K.out 5 rfl).trans rfl)) (Ow _ _)))
        (Ae (od rfl (fun _=>rfl) (fun K=>Av AZ (es (K.As 7 34 rfl rfl)) (r.bk.ext K.A3) rfl))
        (Ae (od rfl (fun _=>rfl) (fun K=>An (es ((K.out 5 rfl).trans rfl)) (LM _ _)))
        (Ae (od rfl (fun _=>rfl) (fun K=>Av AZ (es (K.As 9 36 rfl rfl)) (r.bk.ext K.A3) rfl))
        (Ae (od rfl (fun _=>rfl) (fun K=>C3 (vs:= #[(0,.agg #[I d.Lo,I d.Hi]),(1,I b.Aq),(2,I b.B1),(3,I b.Cj)]) (v:=.agg #[I d.Lo,I d.Hi,I b.Aq,I b.B1,I b.Cj]) (TW (es (K.As 4 31 rfl rfl)) (es (K.As 6 33 rfl rfl)) (es (K.As 8 35 rfl rfl)) (es (K.As 10 37 rfl rfl))) (by kernel_rfl)))
        (Ae (Dd rfl rfl (fun a' w' ph K=>(BR (e:=156) (vs:= #[(0,.agg #[I d.Lo,I d.Hi,I b.Aq,I b.B1,I b.Cj])]) (cs:= #[I d.Lo,I d.Hi,I b.Aq,I b.B1,I b.Cj]) (HB (es (K.As 11 38 rfl rfl))) (by kernel_rfl)).mono (fun u By ⟨dG,hu,bY⟩=>⟨⟨_,_,hu,GA (xs:=[(⟨d.Lo,d.Hi,b.Aq,b.B1,b.Cj⟩:Be)]) (Bm:=[[I d.Lo,I d.Hi,I b.Aq,I b.B1,I b.Cj]]) bY.bk ((b5.ext K.A3).kn (Nat.le_of_eq bY.EX.symm)) (R2.mv (Ai bY.gr) (show R2 AP w' (ZZ FN [] Z w.heap.size [some aU,ob f,some s,some t,some x]) [[I d.Lo,I d.Hi,I b.Aq,I b.B1,I b.Cj]] [(⟨d.Lo,d.Hi,b.Aq,b.B1,b.Cj⟩:Be)] from⟨rfl,trivial⟩)) rfl (Nat.le_refl _)⟩,bY.gr⟩)))
        (BP _)))))))))))))) ?_
    intro cZ;rintro _ rfl _ rfl _ rfl _ rfl _ rfl _ rfl _ rfl _ rfl _ rfl _ rfl _ rfl _ rfl _ ⟨cI,cJ,rfl,a7⟩ aB;have aN:=b5.ext aB;have a3:AJ AP 156 w.heap.size cZ (ZZ FN [] Z w.heap.size [some aU,ob f,some s,some t,some x]) f o j:=(((aE.ext aF.gr (Ax aF)).gr r.gr (fun k aV=>aM.ne 1 0 rfl (congrArg some aV) rfl) (aM.AN r.gr 0 rfl)).ext aB (Ai aB));replace m:=CI m;obtain⟨bJ,m⟩:=m;refine we rfl (fun st=>Hc (ys:=[(⟨d.Lo,d.Hi,b.Aq,b.B1,b.Cj⟩:Be)]) Tryz.underlying73 R5 rfl rfl (by decide) (ee st rfl) rfl (ee st rfl) a3 a7.n (by have:=bJ;simp only[maxLen];omega) (by have:=bJ;omega) aN.sz) ?_;rintro _ b6 ⟨aA,a4,rfl,aG,a8,cD⟩;have aH:Hp FN [] w [some aU,ob aA,some s,some t,some x] b6:=aN.row aG 1 rfl a8;have cE:AJ AP 156 w.heap.size b6 (ZZ FN [] Z w.heap.size [some aU,ob aA,some s,some t,some x]) aA a4 (j++[(⟨d.Lo,d.Hi,b.Aq,b.B1,b.Cj⟩:Be)]):=FD cD (aN.Em aG 1 rfl (fun k aV=>(a8 k aV).1));refine wd rfl (fun st=>An (ee st aI) (Da _ _)) ?_;have bK:=((bE.ext aB).gr aG (aN.ne 2 1 rfl rfl rfl));refine Bl rfl rfl (fun st=>Bi (n:=1) (l:=[.slice aA ((j++[(⟨d.Lo,d.Hi,b.Aq,b.B1,b.Cj⟩:Be)]).length) a4]) (B5:= #[I a.Am,I a.Ak,I a.Ao,I a.Ay,.slice aA ((j++[(⟨d.Lo,d.Hi,b.Aq,b.B1,b.Cj⟩:Be)]).length) a4]) (ee st rfl) (ee st rfl) Vy bK rfl rfl (show 4+1≤5 by decide) (AR rfl) rfl) ?_;rintro _ bL aC;have cF:=aH.gr aC.gr 2 rfl;refine Af<|Bg<|Aa<|Ab<|wm rfl (v:=I y) aT ?_;replace m:=AS m;obtain⟨cG,m⟩:=m;refine wd rfl (fun st=>Bs (ee st rfl) (ee st rfl) cG)<|wa rfl (v:=I (y+1)) rfl<|Af ?_;have cH:Hp FN [] w [ob aA,some s,some t,some x] bL:=cF.erase 0;have bH:AJ AP 156 w.heap.size bL (ZZ FN [] Z w.heap.size [ob aA,some s,some t,some x]) aA a4 (j++[(⟨d.Lo,d.Hi,b.Aq,b.B1,b.Cj⟩:Be)]):=((cE.gr aC.gr (fun k aV=>aH.ne 1 2 rfl (congrArg some aV) rfl) (aH.AN aC.gr 2 rfl)).up (AW 0));have bM:=(((((aK.ext aF.gr).gr r.gr (aM.ne 4 0 rfl rfl rfl)).ext aB).gr aG (aN.ne 4 1 rfl rfl rfl)).gr aC.gr (aH.ne 4 2 rfl rfl rfl));have bN:=(((((aZ.ext aF.gr).gr r.gr (aM.ne 3 0 rfl rfl rfl)).ext aB).gr aG (aN.ne 3 1 rfl rfl rfl)).gr aC.gr (aH.ne 3 2 rfl rfl rfl));have bO:=aC.bk;have a9:Sl AP bL (ZZ FN [] Z w.heap.size [ob aA,some s,some t,some x]) p q a.Ad:=((((((aL.mv (Ax aF)).mv (aM.AN r.gr 0 rfl)).mv (Ai aB)).mv (aN.Em aG 1 rfl (fun k aV=>(a8 k aV).1))).mv (aH.AN aC.gr 2 rfl)).mv (AW 0));refine Bn b9 (Nat.lt_succ_self _) (fun st=>?_);exact⟨(y+1),(j++[(⟨d.Lo,d.Hi,b.Aq,b.B1,b.Cj⟩:Be)]),aA,a4,m,qz st,qd st,sp st 1 aS,sp st 2 bD,sp st 3 aI,sp st 4 rfl,cH,bH,bM,bN,bO,a9⟩
   ·replace m:=AE m a2;refine AG rfl a2<|B0<|AK<|AK ?_;obtain rfl:=Option.some.inj m;refine BS (fun st=>?_);exact⟨rfl,f,o,qz st,qd st,sp st 2 bD,sp st 3 aI,bI,aE,aZ,a0⟩
 case cR=>
  rintro cP c5 dB (⟨rfl,c,g,bZ,b1,a5,bP,bA,aO,bQ,bR⟩);refine Ce (X:=X0) (N:=43) bZ b1<|Bp<|Aa<|Ag<|Ab<|wd rfl (fun st=>A8 (l:=[I a.Am,I a.Ak,I a.Ao,I a.Ay,.slice c z5.length g]) CV (ee st bP) bR rfl rfl)<|Bl rfl rfl (fun st=>Bi (n:=5) (l:=[I a.Am,I a.Ak,I a.Ao,I a.Ay,.slice c z5.length g]) (B5:= #[I a.Am,I a.Ak,I a.Ao,I a.Ay,.slice c z5.length g]) (ee st a5) (ee st rfl) P8 bQ rfl rfl (show 0+5≤5 by decide) (AR rfl) rfl) ?_;rintro _ c0 aW;have bS:=bA.gr aW.gr 2 rfl;refine Af<|Aa<|AM ?_;obtain rfl:=Option.some.inj m;refine Gj (v:=.agg #[I a.Am,I a.Ak,I a.Ao,I a.Ay,.slice c z5.length g]) rfl a5 (CZ CV aW.bk rfl rfl) ?_;have aP:AJ AP 156 w.heap.size c0 (ZZ FN [] Z w.heap.size [ob c,some s,some t,some x]) c g z5:=(aO.gr aW.gr (fun k aV=>bA.ne 0 2 rfl (congrArg some aV) rfl) (bA.AN aW.gr 2 rfl));exact⟨bS.Bz,⟨_,rfl,_,_,rfl,bS.Io (M:=[]) 0 rfl [] rfl trivial aP⟩⟩
theorem Wn(m:Nat)(a:Ar)(b:Option Addr)(c:Nat)(Z:Nat→Prop)(w:World)(h:Sl AP w Z b c a.Ad)(n:Int)(e:Fz m a=some n):
 BN Tryz.prog 34 #[.agg #[I a.Am,I a.Ak,I a.Ao,I a.Ay,.slice b a.Ad.length c]] w (fun v w'=>Ext w w'∧(F1 .i64).R w' (ZZ FN [] Z w.heap.size []) v n):=by
 unfold Fz at e;refine Bd (N:=5) Tryz.func34 rfl rfl (by simp) ?_;intro u o x;have k:=AO (i:=0) (v:=.agg #[I a.Am,I a.Ak,I a.Ao,I a.Ay,.slice b a.Ad.length c]) o rfl;clear o;have j:Hp FN [] w [] w:=Hp.start (BM.none w);have f:=h.mv (Bf (Z:=Z) (L:=[]) w);refine Ag<|Ab<|we rfl (fun st=>BY (v:=.agg #[I a.Am,I a.Ak,I a.Ao,I a.Ay,.slice b a.Ad.length c]) (cs:= #[I a.Am,I a.Ak,I a.Ao,I a.Ay,.slice b a.Ad.length c]) (ee st k) rfl) ?_;rintro _ w1 ⟨y,rfl,d⟩;have p:=j.nb d;have t:=j.BL d;refine wa rfl (v:=I 0) rfl<|Af<|Aa<|Ag<|Ab<|wd rfl (fun st=>A8 (l:=[I a.Am,I a.Ak,I a.Ao,I a.Ay,.slice b a.Ad.length c]) Dn (ee st rfl) d.bk rfl rfl) ?_;have g:=(f.mv (Ax d));replace e:=bind_some e;obtain⟨r2,q,e⟩:=e;refine we rfl (fun st=>AI QY (ee st rfl) (Co (ee st rfl)) (VI m a b c ZA _ g.all r2 q)) ?_;rintro _ z ⟨r,rfl⟩;have s:=p.ext r;refine wa rfl (v:=I r2) rfl<|Af<|Aa<|AM ?_;obtain rfl:=Option.some.inj e;refine AU rfl rfl ?_;exact⟨s.Bz,rfl⟩
theorem Wo(u:Nat)(a:Ar)(d:Option Addr)(e:Nat)(Z:Nat→Prop)(w:World)(o:Sl AP w Z d e a.Ad)(z:Bool)(f:FP u a=some z):
 BN Tryz.prog 27 #[.agg #[I a.Am,I a.Ak,I a.Ao,I a.Ay,.slice d a.Ad.length e]] w (fun v w'=>Ext w w'∧BW.R w' (ZZ FN [] Z w.heap.size []) v z):=by
 unfold FP at f;refine Bd (N:=17) Tryz.func27 rfl rfl (by simp) ?_;intro aG aA aH;have x:=AO (i:=0) (v:=.agg #[I a.Am,I a.Ak,I a.Ao,I a.Ay,.slice d a.Ad.length e]) aA rfl;clear aA;have r:Hp FN [] w [] w:=Hp.start (BM.none w);have k:=o.mv (Bf (Z:=Z) (L:=[]) w);refine Ag<|Ab<|we rfl (fun st=>BY (v:=.agg #[I a.Am,I a.Ak,I a.Ao,I a.Ay,.slice d a.Ad.length e]) (cs:= #[I a.Am,I a.Ak,I a.Ao,I a.Ay,.slice d a.Ad.length e]) (ee st x) rfl) ?_;rintro _ w1 ⟨aI,rfl,h⟩;have s:=r.nb h;have aF:=r.BL h;refine wa rfl (v:=.bool false) rfl<|Af<|Aa<|Ag<|Ab<|wd rfl (fun st=>An (ee st rfl) (DB _ _))<|wd rfl (fun st=>Av (v:=.slice d a.Ad.length e) Ei (ee st rfl) h.bk rfl)<|wd rfl (fun st=>BH Tryz.underlying61 (ee st rfl))<|wd rfl (fun st=>EH (ee st rfl) (ee st rfl))<|wm rfl (v:=.bool (decide ((a.Ad.length:Int)≤6))) rfl ?_;rcases Ap (decide ((a.Ad.length:Int)≤6)) with b|b
 ·replace f:=AD f b;refine Aw rfl rfl (Ac rfl b) rfl (by decide) (fun st=>A8 (l:=[I a.Am,I a.Ak,I a.Ao,I a.Ay,.slice d a.Ad.length e]) Dn (ee st rfl) h.bk rfl rfl) ?_;have j:=(k.mv (Ax h));replace f:=bind_some f;obtain⟨y,aB,f⟩:=f;refine Dt rfl rfl (Ac rfl b) rfl (by decide) (fun st=>AI QY (ee st rfl) (Co (ee st rfl)) (VI u a d e ZA _ j.all y aB)) ?_;rintro _ aJ ⟨n,rfl⟩;have t:=s.ext n;refine Aw rfl rfl (Ac rfl b) rfl (by decide) (fun st=>Gh (ee st rfl) (ee st rfl))<|Aw rfl rfl (Ac rfl b) rfl (by decide) (fun st=>AL (v:=.bool (y !=0)) (ee st rfl)) ?_;rcases Ap (y !=0) with g|g
  ·replace f:=AD f g;refine Aj (c:=true) rfl rfl (Ac rfl g) (by decide) rfl (by decide)<|Aj (c:=true) rfl rfl (Ac rfl g) (by decide) rfl (by decide)<|Aj (c:=true) rfl rfl (Ac rfl g) (by decide) rfl (by decide)<|Aw rfl rfl (Ac rfl b) rfl (by decide) (fun st=>AV (v:=.bool true) (ee st rfl) g (ee st rfl))<|wd rfl (fun st=>AV (v:=.bool true) (ee st rfl) b (ee st rfl))<|wa rfl (v:=.bool true) rfl<|Af<|Aa<|AM ?_;obtain rfl:=Option.some.inj f;refine AU rfl rfl ?_;exact⟨t.Bz,rfl⟩
  ·replace f:=AE f g;have p:=(h.bk.ext n);refine Aw rfl rfl (Ac rfl g) rfl (by decide) (fun st=>A8 (l:=[I a.Am,I a.Ak,I a.Ao,I a.Ay,.slice d a.Ad.length e]) Dn (ee st rfl) p rfl rfl) ?_;have m:=(j.mv (Ai n));replace f:=bind_some f;obtain⟨q,aC,f⟩:=f;refine Dt rfl rfl (Ac rfl g) rfl (by decide) (fun st=>AI Ox (ee st rfl) (Co (ee st rfl)) (UZ u a d e ZA _ m.all q aC)) ?_;rintro _ aK ⟨aD,rfl⟩;have aE:=t.ext aD;refine Aw rfl rfl (Ac rfl g) rfl (by decide) (fun st=>EH (ee st rfl) (ee st rfl))<|Aw rfl rfl (Ac rfl b) rfl (by decide) (fun st=>Br (v:=.bool (decide (q≤60))) (ee st rfl) g (ee st rfl))<|wd rfl (fun st=>AV (v:=.bool (decide (q≤60))) (ee st rfl) b (ee st rfl))<|wa rfl (v:=.bool (decide (q≤60))) rfl<|Af<|Aa<|AM ?_;obtain rfl:=Option.some.inj f;refine AU rfl rfl ?_;exact⟨aE.Bz,rfl⟩
 ·replace f:=AE f b;refine Aj (c:=false) rfl rfl (Ac rfl b) (by decide) rfl (by decide)<|Aj (c:=false) rfl rfl (Ac rfl b) (by decide) rfl (by decide)<|Aj (c:=false) rfl rfl (Ac rfl b) (by decide) rfl (by decide)<|Aj (c:=false) rfl rfl (Ac rfl b) (by decide) rfl (by decide)<|Kh rfl rfl rfl rfl (by decide)<|Kh rfl rfl rfl rfl (by decide)<|Kh rfl rfl rfl rfl (by decide)<|Aj (c:=false) rfl rfl (Ac rfl b) (by decide) rfl (by decide)<|wd rfl (fun st=>Br (v:=.bool false) (ee st rfl) b (ee st rfl))<|wa rfl (v:=.bool false) rfl<|Af<|Aa<|AM ?_;obtain rfl:=Option.some.inj f;refine AU rfl rfl ?_;exact⟨s.Bz,rfl⟩
end Go.Proofs.YtkljfdkmjdjpfaaGreat
end
