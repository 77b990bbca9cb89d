import Derived.Test.YtkljfdkmjdjpfaaGreatBB2
import Derived.WalkKit
import Derived.KernelRfl
import Derived.WalkSpells
import Derived.WalkLawsBesides
import Derived.Maps.AppendAt
import Derived.OrdersIn
import Derived.RangeFuncIn
import Derived.RangeFuncLeaves
import Derived.RangeFuncRecord
import Derived.RangeFuncSeq
import Derived.Scope
import Derived.DeepKeys3
import Derived.Laws.CopyRow
import Derived.Laws.OwnMore
import Derived.Laws.MakeOwn
import Derived.Laws.IdiomCopy
import Derived.Test.YtkljfdkmjdjpfaaGreatProg
/-
  The contracts of the functions of the program and of the reference, and the logic that they are proved in: the base that several claims of this seat share.
-/
set_option linter.all false
section
namespace Go.Proofs.YtkljfdkmjdjpfaaGreat
theorem Rt(n:Nat)(h:n<64):Lg .u64 (n:Int)=some ():=by
 refine if_pos ?_;show(n:Int)%(2^64:Int)=n;rw[show(2:Int)^64=18446744073709551616 from rfl];omega
theorem Nb(K b d:Nat)(h:d<64):Eh K (b:Int) (d:Int)=some (b.testBit d):=by
 unfold Eh;rw[bd (Rt d h),bd (Qp b d h),JR (TY b d) (by omega),Qo]
def lead:List Bool→Nat
 |true::l=>lead l+1
 |_=>0
def GQ(R:Int):List Bool→Bool
 |[]=>true
 |b::l=>decide ((lead (b::l):Int)≤R)&&GQ R l
def IL:List Bool→Nat
 |[]=>0
 |b::l=>(cond b 1 0)+IL l
theorem Ly(r:Nat)(l:List Bool):lead (List.replicate r true++l)=r+lead l:=by
 induction r with
 |zero=>simp
 |succ r ih=>rw[List.replicate_succ,List.cons_append,lead,ih];omega
theorem MV(R:Int)(l:List Bool):∀r:Nat,(r:Int)≤R→GQ R (List.replicate r true++false::l)=(decide (0≤R)&&GQ R l)
 |0,_=>rfl
 |r+1,h=>by
  rw[List.replicate_succ,List.cons_append,GQ,MV R l r (by omega)];have:lead (true::(List.replicate r true++false::l))=r+1:=by
   rw[lead,Ly];rfl
  rw[this,dt (by omega),Bool.true_and]
theorem NY(W R:Int)(b:0≤R):∀(l:List Bool) (s:Int) (r:Nat),s≤W→(r:Int)≤R→okW W R l s r=(decide (s+(IL l:Int)≤W)&&GQ R (List.replicate r true++l))
 |[],s,r,c,a=>by
  have:∀q:Nat,(q:Int)≤R→GQ R (List.replicate q true)=true:=by
   intro q
   induction q with
   |zero=>intro _;rfl
   |succ q ih=>
    intro f;have e:=Ly (q+1) [];rw[List.append_nil,List.replicate_succ] at e;have g:lead ([]:List Bool)=0:=rfl;rw[List.replicate_succ,GQ,e,ih (by omega),dt (by omega)];rfl
  rw[List.append_nil,this r a,okW,dt (by unfold IL;omega)];rfl
 |false::l,s,r,c,a=>by
  rw[okW,MV R l r a,dt b,Bool.true_and];have:=NY W R b l s 0 c (by omega);rw[Int.natCast_zero] at this;rw[this,IL];simp
 |true::l,s,r,c,a=>by
  rw[okW];have e:List.replicate r true++true::l=List.replicate (r+1) true++l:=by
   rw[List.replicate_succ'];simp
  rw[e]
  by_cases h1:s+1≤W
  ·by_cases d:(r:Int)+1≤R
   ·rw[dt h1,dt d,Bool.true_and,Bool.true_and,DF,NY W R b l (s+1) (r+1) h1 (by omega)]
    congr 2
    rw[IL];simp;omega
   ·rw[df d,Bool.false_and,Bool.and_false];have:GQ R (List.replicate (r+1) true++l)=false:=by
     rw[List.replicate_succ,List.cons_append,GQ];have e:=Ly (r+1) l;rw[List.replicate_succ,List.cons_append] at e;rw[e,df (by omega)];rfl
    rw[this,Bool.and_false]
  ·rw[df h1,Bool.false_and];have:¬(s+(IL (true::l):Int)≤W):=by rw[IL];simp;omega
   rw[df this];rfl
theorem K1(n b i:Nat)(h:i<n):(wl n b).drop i=b.testBit i::(wl n b).drop (i+1):=by
 rw[List.drop_eq_getElem_cons (by rw[FE];exact h)]
 congr 1
 simp[wl]
theorem T9(K:Nat)(y:Ao)(b a:Nat)(h0:0≤y.Aj)(h9:y.Aj≤9)(d:0≤y.Ax)(f:y.Ax≤y.Aj+1)(i:a≤9):∀(k m e:Nat) (g:Bool),(a:Int)+y.Ax+1=e+k→k<m→
  Cx K y b (a:Int) m g (e:Int)=some (g&&decide (k≤lead ((wl (days y) b).drop e))):=by
 intro k
 induction k with
 |zero=>
  intro m e g h hm;cases m with
  |zero=>omega
  |succ m=>rw[Cx.eq_2,BL (by omega) (by omega),cf (df (by omega)),dt (Nat.zero_le _),Bool.and_true]
 |succ k ih=>
  intro m e g h hm;cases m with
  |zero=>omega
  |succ m=>
   rw[Cx.eq_2,BL (by omega) (by omega),ct (dt (by omega))];cases g with
   |false=>
    rw[cf rfl,BL (by omega) (by omega),DF,ih m (e+1) false (by omega) (by omega)];rfl
   |true=>
    rw[ct rfl,Bool.true_and]
    by_cases c:(e:Int)≤y.Aj
    ·rw[ct (dt c),bd (Nb K b e (by omega)),BL (by omega) (by omega),DF,ih m (e+1) _ (by omega) (by omega),K1 (days y) b e (by unfold days;omega)];cases b.testBit e with
     |false=>
      rw[Bool.false_and,df (show¬(k+1≤lead (false::_)) by show¬(k+1≤0);omega)]
     |true=>
      rw[Bool.true_and]
      congr 1
      rw[Bool.eq_iff_iff,decide_eq_true_eq,decide_eq_true_eq];show _↔k+1≤lead _+1;omega
    ·rw[cf (df c),BL (by omega) (by omega),DF,ih m (e+1) false (by omega) (by omega),show(wl (days y) b).drop e=[] from List.drop_eq_nil_of_le (by rw[FE];unfold days;omega)];rw[Bool.false_and,df (show¬(k+1≤lead []) by show¬(k+1≤0);omega)]
theorem SC(K:Nat)(y:Ao)(b a:Nat)(h0:0≤y.Aj)(h9:y.Aj≤9)(d:0≤y.Ax)(f:y.Ax≤y.Aj+1)(i:a≤9):∀(k m e:Nat) (g:Bool),(a:Int)+y.Ax+1=e+k→k<m→
  Cr K y b (a:Int) m g (e:Int)=some (g&&decide (k≤lead ((wl (days y) b).drop e))):=by
 intro k
 induction k with
 |zero=>
  intro m e g h hm;cases m with
  |zero=>omega
  |succ m=>rw[Cr.eq_2,BL (by omega) (by omega),cf (df (by omega)),dt (Nat.zero_le _),Bool.and_true]
 |succ k ih=>
  intro m e g h hm;cases m with
  |zero=>omega
  |succ m=>
   rw[Cr.eq_2,BL (by omega) (by omega),ct (dt (by omega))];cases g with
   |false=>
    rw[cf rfl,BL (by omega) (by omega),DF,ih m (e+1) false (by omega) (by omega)];rfl
   |true=>
    rw[ct rfl,Bool.true_and]
    by_cases c:(e:Int)≤y.Aj
    ·rw[ct (dt c),bd (Nb K b e (by omega)),BL (by omega) (by omega),DF,ih m (e+1) _ (by omega) (by omega),K1 (days y) b e (by unfold days;omega)];cases b.testBit e with
     |false=>
      rw[Bool.false_and,df (show¬(k+1≤lead (false::_)) by show¬(k+1≤0);omega)]
     |true=>
      rw[Bool.true_and]
      congr 1
      rw[Bool.eq_iff_iff,decide_eq_true_eq,decide_eq_true_eq];show _↔k+1≤lead _+1;omega
    ·rw[cf (df c),BL (by omega) (by omega),DF,ih m (e+1) false (by omega) (by omega),show(wl (days y) b).drop e=[] from List.drop_eq_nil_of_le (by rw[FE];unfold days;omega)];rw[Bool.false_and,df (show¬(k+1≤lead []) by show¬(k+1≤0);omega)]
theorem PY{K:Nat}(y:Ao)(b:Nat)(h0:0≤y.Aj)(h9:y.Aj≤9)(c:0≤y.Ax)(f:y.Ax≤y.Aj+1)(hK:2000≤K):∀(k m i:Nat) (s:Int),days y=i+k→k<m→0≤s→s≤i→
  CL K y b m s (i:Int)=some (cond (GQ y.Ax ((wl (days y) b).drop i)) (.inr (s+(IL ((wl (days y) b).drop i):Int))) (.inl false)):=by
 intro k
 induction k with
 |zero=>
  intro m i s h hm h1 j;cases m with
  |zero=>omega
  |succ m=>
   rw[CL.eq_2,cf (df (by unfold days at h;omega)),List.drop_eq_nil_of_le (by rw[FE];omega)];show _=some (Sum.inr (s+((0:Nat):Int)));rw[Int.natCast_zero,Int.add_zero]
 |succ k ih=>
  intro m i s h hm h1 j;cases m with
  |zero=>omega
  |succ m=>
   have o:days y≤10:=by unfold days;omega
   have hi:i<days y:=by omega
   have g:(i:Int)≤y.Aj:=by unfold days at hi;omega
   have d:=T9 K y b i h0 h9 c f (by omega) (y.Ax+1).toNat K i true (by omega) (by omega);have a:=SC K y b i h0 h9 c f (by omega) (y.Ax+1).toNat K i true (by omega) (by omega);have l:decide ((y.Ax+1).toNat≤lead ((wl (days y) b).drop i))= !decide ((lead ((wl (days y) b).drop i):Int)≤y.Ax):=by
    rw[←decide_not];congr 1;rw[eq_iff_iff];omega
   rw[Bool.true_and,l] at d a;rw[CL.eq_2,ct (dt g),bd (Nb K b i (by omega))];have e:=K1 (days y) b i hi;have n:GQ y.Ax ((wl (days y) b).drop i)=(decide ((lead ((wl (days y) b).drop i):Int)≤y.Ax)&&GQ y.Ax ((wl (days y) b).drop (i+1))):=by
    conv=>lhs;rw[e]
    rw[GQ,←e]
   have ec:IL ((wl (days y) b).drop i)=(cond (b.testBit i) 1 0)+IL ((wl (days y) b).drop (i+1)):=by rw[e,IL]
   rw[n,ec];cases ht:b.testBit i with
   |true=>
    rw[ct rfl,BL (by omega) (by omega),bd d];cases decide ((lead ((wl (days y) b).drop i):Int)≤y.Ax) with
    |false=>rw[Bool.false_and];rfl
    |true=>
     rw[nt,BL (by omega) (by omega),DF,ih m (i+1) (s+1) (by omega) (by omega) (by omega) (by omega),Bool.true_and]
     congr 2
     simp;omega
   |false=>
    rw[cf rfl,bd a];cases decide ((lead ((wl (days y) b).drop i):Int)≤y.Ax) with
    |false=>rw[Bool.false_and];rfl
    |true=>
     rw[nt,BL (by omega) (by omega),DF,ih m (i+1) s (by omega) (by omega) (by omega) (by omega),Bool.true_and]
     congr 2
     simp
theorem OF{K:Nat}(y:Ao)(b:Nat)(h0:0≤y.Aj)(h9:y.Aj≤9)(a:0≤y.Ax)(d:y.Ax≤y.Aj+1)(f:0≤y.Am)(hK:2000≤K):EA K y b=some (G5 y (wl (days y) b)):=by
 unfold EA;have g:days y≤10:=by unfold days;omega
 have e:=PY (K:=K) y b h0 h9 a d hK (days y) K 0 0 (by omega) (by omega) (by omega) (by omega);rw[Int.natCast_zero,List.drop_zero] at e;rw[bd e];have c:=NY y.Am y.Ax a (wl (days y) b) 0 0 f (by omega);rw[Int.natCast_zero] at c;unfold G5;rw[c];show _=some (_&&GQ y.Ax (wl (days y) b));cases GQ y.Ax (wl (days y) b) with
 |true=>rw[Bool.and_true];rfl
 |false=>rw[Bool.and_false];rfl
def G8 (y:Ao) (k d:Nat):List Int:=((List.range' k d).filter fun b=>G5 y (wl (days y) b)).map fun b:Nat=>(b:Int)
theorem M5(y:Ao):(G8 y 0 (2^days y)).length=(Bn y).length:=by
 unfold G8 Bn;rw[List.length_map,List.range_eq_range',List.filter_map,List.length_map];rfl
theorem PZ{K:Nat}(y:Ao)(h0:0≤y.Aj)(h9:y.Aj≤9)(d:0≤y.Ax)(f:y.Ax≤y.Aj+1)(g:0≤y.Am)(hK:2000≤K):∀(k m i:Nat) (a:List Int),2^days y=i+k→k<m→a.length≤i→
  CU K y m a (i:Int)=some (a++G8 y i k):=by
 intro k;have j:days y≤10:=by unfold days;omega
 have n:=IK _ j;have b:y.Aj+1=(days y:Int):=by unfold days;omega
 have c:Hh (1:Int) (days y:Int)=((2^days y:Nat):Int):=by
  unfold Hh;rw[Int.one_mul,Int.toNat_natCast,Int.natCast_pow];rfl
 have e:Mh (1:Int) (days y:Int)=some ():=by
  refine if_pos ⟨by omega,by omega,?_,?_⟩
  ·have:(0:Int)≤1*2^((days y:Nat):Int).toNat:=by rw[Int.one_mul];exact Int.le_of_lt (Int.pow_pos (by omega))
   exact Int.le_trans (by omega) this
  ·rw[Int.one_mul,Int.toNat_natCast];have:((2^days y:Nat):Int)≤1024:=by omega
   rw[Int.natCast_pow] at this;exact Int.le_trans this (by omega)
 induction k with
 |zero=>
  intro m i a h hm l;cases m with
  |zero=>omega
  |succ m=>
   rw[CU.eq_2,BL (by omega) (by omega),b,bd (Rt _ (by omega)),bd e,c,cf (df (by omega))];simp[G8]
 |succ k ih=>
  intro m i a h hm l;cases m with
  |zero=>omega
  |succ m=>
   rw[CU.eq_2,BL (by omega) (by omega),b,bd (Rt _ (by omega)),bd e,c,ct (dt (by omega)),bd (OF y i h0 h9 d f g hK)];unfold G8;rw[List.range'_succ,List.filter_cons];cases G5 y (wl (days y) i) with
   |true=>
    rw[ct rfl,Fv (by simp;omega),BL (by omega) (by omega),DF,ih m (i+1) _ (by omega) (by omega) (by simp;omega)];simp[G8]
   |false=>
    rw[cf rfl,BL (by omega) (by omega),DF,ih m (i+1) a (by omega) (by omega) (by omega)];simp[G8]
theorem L5{K:Nat}(y:Ao)(h0:0≤y.Aj)(h9:y.Aj≤9)(a:0≤y.Ax)(b:y.Ax≤y.Aj+1)(c:0≤y.Am)(hK:2000≤K):Ee K y=some (G8 y 0 (2^days y)):=by
 unfold Ee;have d:days y≤10:=by unfold days;omega
 have f:=IK _ d;have e:=PZ (K:=K) y h0 h9 a b c hK (2^days y) K 0 [] (by omega) (by omega) (by simp);rw[Int.natCast_zero] at e;rw[bd e,List.nil_append]
theorem Io{y:Ao}(h9:y.Aj≤9)(h:∀l∈y.Ac,F9 y l=true):∀l∈y.Ac,sized l∧0≤l.Ar∧l.AD≤9:=fun l a=>by
 have:=H7.1 (h l a);exact⟨Lv h9 (h l a),this.1,by omega⟩
theorem QG{K:Nat}(y:Ao)(h0:0≤y.Aj)(h9:y.Aj≤9)(a:0≤y.Ax)(b:y.Ax≤y.Aj+1)(c:0≤y.Am)(d:y.Ac.length≤4)(f:∀l∈y.Ac,sized l∧0≤l.Ar∧l.AD≤9)(hK:2000≤K):
  Dw K y=some (Jd 3000 ((Bn y).length:Int) y.Ac):=by
 unfold Dw;have g:days y≤10:=by unfold days;omega
 have hw:=KE y g;have e:=T0 y d f (K:=K) y.Ac.length K 0 ((Bn y).length:Int) (by omega) (by omega) (by omega) (by omega);rw[Int.natCast_zero,List.drop_zero] at e;rw[bd (L5 y h0 h9 a b c hK),M5,bd e]
theorem SD(K:Nat)(y:Ao)(b:y.Ac.length≤4):∀(k m i:Nat),y.Ac.length=i+k→k<m→
  Dn K y m (i:Int)=some (cond ((y.Ac.drop i).all (F9 y)) (.inr ()) (.inl 1)):=by
 intro k
 induction k with
 |zero=>
  intro m i h hm;cases m with
  |zero=>omega
  |succ m=>rw[Dn.eq_2,cf (df (by omega)),List.drop_eq_nil_of_le (by omega)];rfl
 |succ k ih=>
  intro m i h hm;cases m with
  |zero=>omega
  |succ m=>
   have hi:i<y.Ac.length:=by omega
   rw[Dn.eq_2,ct (dt (by omega)),Ds hi,List.drop_eq_getElem_cons hi,List.all_cons];unfold F9;generalize y.Ac[i]=l
   by_cases h1:l.Ar<0
   ·rw[ct (dt h1),df (show¬(0≤l.Ar) by omega)];rfl
   rw[cf (df h1),dt (show 0≤l.Ar by omega)]
   by_cases a:l.AD<l.Ar
   ·rw[ct (dt a),df (show¬(l.Ar≤l.AD) by omega)];rfl
   rw[cf (df a),dt (show l.Ar≤l.AD by omega)]
   by_cases h3:y.Aj<l.AD
   ·rw[ct (dt h3),df (show¬(l.AD≤y.Aj) by omega)];rfl
   rw[cf (df h3),dt (show l.AD≤y.Aj by omega),bd (NJ ..)];cases FK l.AQ 1 5 with
   |false=>rfl
   |true=>
    rw[nt,bd (NJ ..)];cases FK l.B9 1 5 with
    |false=>rfl
    |true=>
     rw[nt,bd (NJ ..)];cases FK l.Ck 0 y.Aj with
     |false=>rfl
     |true=>rw[nt,BL (by omega) (by omega),DF,ih m (i+1) (by omega) (by omega)];rfl
theorem OZ{K:Nat}(hK:2000≤K)(y:Ao):EC K y=some (check y):=by
 unfold EC check
 by_cases h1:9<y.Aj
 ·rw[ct (dt h1),if_pos (.inl h1)]
 rw[cf (df h1)]
 by_cases g:2<y.Ah
 ·rw[ct (dt g),if_pos (.inr (.inl g))]
 rw[cf (df g)]
 by_cases h3:4<(y.Ac.length:Int)
 ·rw[ct (dt h3),if_pos (.inr (.inr h3))]
 rw[cf (df h3),if_neg (by omega)]
 by_cases a:y.Aj<0
 ·rw[ct (dt a),if_pos (.inl a)]
 rw[cf (df a)]
 by_cases b:y.Ah<1
 ·rw[ct (dt b),if_pos (.inr (.inl b))]
 rw[cf (df b),BL (by omega) (by omega),bd (NJ ..)];cases j:FK y.Am 0 (y.Aj+1) with
 |false=>rw[nf,if_pos (.inr (.inr (.inl rfl)))]
 |true=>
  rw[nt,BL (by omega) (by omega),bd (NJ ..)];cases k:FK y.Ax 0 (y.Aj+1) with
  |false=>rw[nf,if_pos (.inr (.inr (.inr (.inl rfl))))]
  |true=>
   have e:=SD K y (by omega) y.Ac.length K 0 (by omega) (by omega);rw[Int.natCast_zero,List.drop_zero] at e;rw[nt,bd e];cases m:y.Ac.all (F9 y) with
   |false=>rw[if_pos (.inr (.inr (.inr (.inr rfl))))];rfl
   |true=>
    have o:=E9.1 j;have p:=E9.1 k;have i:=Io (y:=y) (by omega) (List.all_eq_true.1 m);rw[if_neg (by simp[a,b])];show(Dw K y).bind _=_;rw[bd (QG y (by omega) (by omega) (by omega) (by omega) (by omega) (by omega) i hK)];have f:=Mm (c:=3000) (by omega) ((Bn y).length:Int) (by omega) fun l n=>(i l n).1;unfold FT
    by_cases d:1000<((Bn y).length:Int)*Ex y.Ac
    ·rw[ct (dt (f.2 d)),if_pos d]
    ·rw[cf (df fun h=>d (f.1 h)),if_neg d]
end Go.Proofs.YtkljfdkmjdjpfaaGreat
end
section
namespace Go.Proofs.YtkljfdkmjdjpfaaGreat
def Ip(y:Ao):List Nat:=(List.range (2^days y)).filter fun b=>G5 y (wl (days y) b)
theorem QH(y:Ao):G8 y 0 (2^days y)=(Ip y).map fun b:Nat=>(b:Int):=by
 unfold G8 Ip;rw[List.range_eq_range']
theorem KK(y:Ao):Bn y=(Ip y).map (wl (days y)):=by
 unfold Bn Ip;rw[List.filter_map];rfl
theorem KL(y:Ao):(Ip y).length=(Bn y).length:=by rw[KK,List.length_map]
def JX:List AY→Nat→List Int
 |[],_=>[]
 |l::r,n=>(l.Ar+((n%(BW l).toNat:Nat):Int))::JX r (n/(BW l).toNat)
def NZ(y:Ao)(n:Nat):AT:=⟨JX y.Ac (n/(Bn y).length),(Bn y).getD (n%(Bn y).length) []⟩
theorem Ua(K:Nat)(y:Ao)(w:y.Ac.length≤4)(c:∀l∈y.Ac,sized l∧0≤l.Ar∧l.AD≤9):∀(k m i:Nat) (q:Nat) (a:List Int),y.Ac.length=i+k→k<m→q≤100000→a.length≤i→
  D5 K y m (q:Int) (i:Int) a=some (a++JX (y.Ac.drop i) q):=by
 intro k
 induction k with
 |zero=>
  intro m i q a h hm d e;cases m with
  |zero=>omega
  |succ m=>rw[D5.eq_2,cf (df (by omega)),List.drop_eq_nil_of_le (by omega)];simp[JX]
 |succ k ih=>
  intro m i q a h hm d e;cases m with
  |zero=>omega
  |succ m=>
   have hi:i<y.Ac.length:=by omega
   obtain⟨⟨s1,s2⟩,f,j⟩:=c y.Ac[i] (List.getElem_mem hi);have b:((BW y.Ac[i]).toNat:Int)=BW y.Ac[i]:=by omega
   have p:1≤(BW y.Ac[i]).toNat:=by omega
   have g:=Qr K _ f (by unfold BW at s1;omega) j;have n:(q:Int)%BW y.Ac[i]=((q%(BW y.Ac[i]).toNat:Nat):Int):=by rw[Int.natCast_emod,b]
   have o:(q:Int)/BW y.Ac[i]=((q/(BW y.Ac[i]).toNat:Nat):Int):=by rw[Int.natCast_ediv,b]
   have r:q%(BW y.Ac[i]).toNat<(BW y.Ac[i]).toNat:=Nat.mod_lt _ (by omega);have s:q/(BW y.Ac[i]).toNat≤q:=Nat.div_le_self ..;have t:(0:Int)≤((q%(BW y.Ac[i]).toNat:Nat):Int):=Int.natCast_nonneg _;have u:(0:Int)≤((q/(BW y.Ac[i]).toNat:Nat):Int):=Int.natCast_nonneg _;have v:BW y.Ac[i]=y.Ac[i].AD-y.Ac[i].Ar+1:=rfl;rw[D5.eq_2,ct (dt (by omega)),Ds hi,bd g,JR (by omega) s1,n,BL (by omega) (by omega),Fv (by simp;omega),bd g,Rl (by omega) s1,o,BL (by omega) (by omega),BL (by omega) (by omega),DF];rw[ih m (i+1) _ _ (by omega) (by omega) (by omega) (by simp;omega),List.drop_eq_getElem_cons hi,JX];simp
theorem SE(K:Nat)(y:Ao)(b:Nat)(h0:0≤y.Aj)(h9:y.Aj≤9):∀(k m i:Nat) (a:List Bool),days y=i+k→k<m→a.length≤i→
  DR K y (b:Int) m (i:Int) a=some (a++(wl (days y) b).drop i):=by
 intro k
 induction k with
 |zero=>
  intro m i a h hm c;cases m with
  |zero=>omega
  |succ m=>rw[DR.eq_2,cf (df (by unfold days at h;omega)),List.drop_eq_nil_of_le (by rw[FE];omega)];simp
 |succ k ih=>
  intro m i a h hm c;cases m with
  |zero=>omega
  |succ m=>
   have hi:(i:Int)≤y.Aj:=by unfold days at h;omega
   have d:=K1 (days y) b i (by omega);rw[DR.eq_2,ct (dt hi),bd (Nb K b i (by omega)),Fv (by simp;omega),BL (by omega) (by omega),DF,ih m (i+1) _ (by omega) (by omega) (by simp;omega),d];simp
theorem Vf{K:Nat}(y:Ao)(hy:EO y)(n:Nat)(d:(n:Int)<FT y)(hK:2000≤K):FQ K y (G8 y 0 (2^days y)) (n:Int)=some (NZ y n):=by
 unfold FQ;have h0:=hy.h0;have h9:=hy.h9;have g:=hy.n4;have hm:=hy.many;have i:=Io h9 hy.Mo;have p:days y≤10:=by unfold days;omega
 have hlen:1≤(Bn y).length:=by
  rcases Nat.eq_zero_or_pos (Bn y).length with h|h
  ·unfold FT at d;rw[h] at d;simp at d;omega
  ·exact h
 rw[QH,List.length_map,KL];have j:(n:Int)%((Bn y).length:Int)=((n%(Bn y).length:Nat):Int):=by rw[Int.natCast_emod]
 have k:(n:Int)/((Bn y).length:Int)=((n/(Bn y).length:Nat):Int):=by rw[Int.natCast_ediv]
 have e:n%(Bn y).length<(Bn y).length:=Nat.mod_lt _ (by omega);have l:n/(Bn y).length≤n:=Nat.div_le_self ..;have m:(0:Int)≤((n%(Bn y).length:Nat):Int):=Int.natCast_nonneg _;have o:(0:Int)≤((n/(Bn y).length:Nat):Int):=Int.natCast_nonneg _;have a:n%(Bn y).length<(Ip y).length:=by rw[KL];exact e
 have hi:n%(Bn y).length<((Ip y).map fun b:Nat=>(b:Int)).length:=by rw[List.length_map];exact a
 have f:=Ua K y g i y.Ac.length K 0 (n/(Bn y).length) [] (by omega) (by omega) (by omega) (by simp);have c:=SE K y ((Ip y)[n%(Bn y).length]) h0 h9 (days y) K 0 [] (by omega) (by omega) (by simp);rw[Int.natCast_zero,List.drop_zero,List.nil_append] at f c;rw[JR (by omega) (by omega),j,Ds hi,Rl (by omega) (by omega),k,BL (by omega) (by omega),bd f,List.getElem_map,bd c];unfold NZ
 congr 2
 rw[List.getD_eq_getElem?_getD,List.getElem?_eq_getElem e];have:(Bn y)[n%(Bn y).length]'e=((Ip y).map (wl (days y)))[n%(Bn y).length]'(by rw[List.length_map];exact a):=by
  congr 1;exact KK y
 rw[this,List.getElem_map];rfl
def KM(y:Ao)(k d:Nat):List AT:=(List.range' k d).map (NZ y)
theorem O0{K:Nat}(y:Ao)(hy:EO y)(hK:2000≤K):Dw K y=some (FT y):=by
 have a:=Io hy.h9 hy.Mo;rw[QG y hy.h0 hy.h9 hy.u0 hy.u1 hy.w0 hy.n4 a hK];have:=hy.many;unfold FT at this⊢;rw[OW (by omega) _ (by omega) (fun l b=>(a l b).1) this]
def Ru(y:Ao):List AT:=KM y 0 (FT y).toNat
theorem L6:∀{ls:List AY} (n:Nat),(∀l∈ls,sized l)→DG ls (JX ls n)=true
 |[],_,_=>rfl
 |l::r,n,h=>by
  have h1:=h l (List.mem_cons_self ..);have a:n%(BW l).toNat<(BW l).toNat:=Nat.mod_lt _ (by have:=h1.1;omega);rw[JX,DG,L6 _ fun x b=>h x (List.mem_cons_of_mem _ b),Bool.and_true,E9];unfold BW at a⊢;omega
theorem QI:∀{ls:List AY} {c:List Int},(∀l∈ls,sized l)→DG ls c=true→∃n:Nat,(n:Int)<Ex ls∧JX ls n=c
 |[],[],_,_=>⟨0,by simp[Ex],rfl⟩
 |l::r,a::d,h,b=>by
  rw[DG,Bool.and_eq_true] at b;obtain⟨q,k,e⟩:=QI (fun x g=>h x (List.mem_cons_of_mem _ g)) b.2;have h1:=h l (List.mem_cons_self ..);have m:=E9.1 b.1;have f:(a-l.Ar).toNat<(BW l).toNat:=by unfold BW;omega
  have i:0<(BW l).toNat:=by omega
  refine⟨(a-l.Ar).toNat+(BW l).toNat*q,?_,?_⟩
  ·have j:BW l*((q:Int)+1)≤BW l*Ex r:=Int.mul_le_mul_of_nonneg_left (by omega) (by have:=h1.1;omega);rw[Ex];rw[Int.mul_add,Int.mul_one] at j;have h3:(((a-l.Ar).toNat+(BW l).toNat*q:Nat):Int)=((a-l.Ar).toNat:Int)+BW l*(q:Int):=by
    rw[Int.natCast_add,Int.natCast_mul]
    congr 2;omega
   rw[h3];omega
  ·rw[JX,Nat.add_mul_mod_self_left,Nat.mod_eq_of_lt f,Nat.add_mul_div_left _ _ i,Nat.div_eq_of_lt f,Nat.zero_add,e]
   congr 1;omega
 |[],_::_,_,h=>by cases h
 |_::_,[],_,h=>by cases h
theorem Rv{y:Ao}(hy:EO y){t:AT}:t∈Ru y↔DV y t=true:=by
 have g:=Io hy.h9 hy.Mo;have b:∀l∈y.Ac,sized l:=fun l i=>(g l i).1;rw[←Fx hy.h0];unfold Ru KM;rw[List.mem_map];constructor
 ·rintro⟨n,a,rfl⟩;rw[←List.range_eq_range',List.mem_range] at a;have hlen:0<(Bn y).length:=by
   rcases Nat.eq_zero_or_pos (Bn y).length with h|h
   ·unfold FT at a;rw[h] at a;simp at a
   ·exact h
  have f:n%(Bn y).length<(Bn y).length:=Nat.mod_lt _ hlen;unfold B0 NZ;rw[List.mem_flatMap];refine⟨(Bn y).getD (n%(Bn y).length) [],?_,List.mem_map.2 ⟨_,GP.2 (L6 _ b),rfl⟩⟩;rw[List.getD_eq_getElem?_getD,List.getElem?_eq_getElem f];exact List.getElem_mem f
 ·intro h;unfold B0 at h;rw[List.mem_flatMap] at h;obtain⟨w,hw,ht⟩:=h;obtain⟨c,k,rfl⟩:=List.mem_map.1 ht;obtain⟨q,o,e⟩:=QI b (GP.1 k);obtain⟨j,d,p⟩:=List.getElem_of_mem hw;have hlen:0<(Bn y).length:=by omega
  refine⟨j+(Bn y).length*q,?_,?_⟩
  ·rw[←List.range_eq_range',List.mem_range];have m:((Bn y).length:Int)*((q:Int)+1)≤((Bn y).length:Int)*Ex y.Ac:=Int.mul_le_mul_of_nonneg_left (by omega) (by omega);rw[Int.mul_add,Int.mul_one] at m;have h3:((j+(Bn y).length*q:Nat):Int)=(j:Int)+((Bn y).length:Int)*(q:Int):=by
    rw[Int.natCast_add,Int.natCast_mul]
   unfold FT;omega
  ·unfold NZ;rw[Nat.add_mul_mod_self_left,Nat.mod_eq_of_lt d,Nat.add_mul_div_left _ _ hlen,Nat.div_eq_of_lt d,Nat.zero_add,e,List.getD_eq_getElem?_getD,List.getElem?_eq_getElem d]
   congr 1
end Go.Proofs.YtkljfdkmjdjpfaaGreat
end
section
namespace Go.Proofs.YtkljfdkmjdjpfaaGreat
theorem P0(n:Nat):(iota n).Nodup:=by
 unfold iota;refine List.Pairwise.map _ (fun a b h=>?_) (List.nodup_range (n:=n));intro e;exact h (by omega)
end Go.Proofs.YtkljfdkmjdjpfaaGreat
end
section
namespace Go.Proofs.YtkljfdkmjdjpfaaGreat
theorem SF(x:List Int)(a:Nat):BS x (0:Int) (a:Int)=x.take a:=by unfold BS;simp
theorem SG(x:List Int)(a:Nat):BS x (a:Int) (x.length:Int)=x.drop a:=by unfold BS;simp
theorem P1{β:Type}{n:Nat}{a b:Int}{f:Unit→Option β}(h0:0≤a)(h1:a≤b)(c:b≤n):(IG n a b).bind f=f ():=bd (if_pos ⟨h0,h1,c⟩)
theorem SH{o:List (List Int)}{r:Nat}(a:r<o.length):o.getD r []=o[r]:=by rw[List.getD_eq_getElem?_getD,List.getElem?_eq_getElem a];rfl
end Go.Proofs.YtkljfdkmjdjpfaaGreat
end
section
namespace Go.Proofs.YtkljfdkmjdjpfaaGreat
def never:Au:=⟨-1,-1,false⟩
def HG(y:Ao)(s:Au):Int:=cond (s.Be==-1) (y.Aj+1) (s.Be+1)
theorem QJ(c:List Int){i:Nat}(h:i<c.length):BV c (i:Int)=c[i]:=by
 unfold BV;rw[Int.toNat_natCast,List.getD_eq_getElem?_getD,List.getElem?_eq_getElem h];rfl
end Go.Proofs.YtkljfdkmjdjpfaaGreat
end
section
namespace Go.Proofs.YtkljfdkmjdjpfaaGreat
theorem Je(y:Ao)(w:List Bool)(c:List Int)(j:Nat):∀(l:List Int) (free:Int) (out:List Au),(∀i∈l,0≤i)→(j:Int)∉l→(Gt y w c l free out)[j]?=out[j]?
 |[],_,_,_,_=>rfl
 |i::r,free,out,h0,h=>by
  rw[Gt,Je y w c j r _ _ (fun x a=>h0 x (List.mem_cons_of_mem _ a)) (fun h1=>h (List.mem_cons_of_mem _ h1)),List.getElem?_set_ne];intro e;have:=h0 i (List.mem_cons_self ..);exact h (by rw[←e,show((i.toNat:Nat):Int)=i by omega];exact List.mem_cons_self ..)
end Go.Proofs.YtkljfdkmjdjpfaaGreat
end
section
namespace Go.Proofs.YtkljfdkmjdjpfaaGreat
def Ga (y:Ao) (w:List Bool) (c:List Int):List Int→Int→Int
 |[],f=>f
 |i::r,f=>Ga y w c r (HG y (Cf y w (Ec y i) (max f (BV c i))))
theorem N0(y:Ao)(w:List Bool)(c:List Int):∀(pre:List Int) (i:Int) (post:List Int) (free:Int) (out:List Au),(pre++i::post).Nodup→(∀j∈pre++i::post,0≤j∧j<(out.length:Int))→
  (Gt y w c (pre++i::post) free out)[i.toNat]?=some (Cf y w (Ec y i) (max (Ga y w c pre free) (BV c i)))
 |[],i,post,free,out,d,b=>by
  obtain⟨h0,h1⟩:=b i (List.mem_append_right _ (List.mem_cons_self ..));have f:i∉post:=(List.nodup_cons.1 d).1;rw[List.nil_append,Gt,Je y w c i.toNat post _ _ (fun j e=>(b j (List.mem_append_right _ (List.mem_cons_of_mem _ e))).1) (by rw[Int.toNat_of_nonneg h0];exact f),List.getElem?_set_self (by omega)];rfl
 |a::pre,i,post,free,out,d,b=>by
  rw[List.cons_append,Gt];exact N0 y w c pre i post _ (out.set a.toNat _) (List.nodup_cons.1 d).2 fun j e=>by rw[List.length_set];exact b j (List.mem_cons_of_mem _ e)
theorem Ln(y:Ao)(w:List Bool)(c:List Int)(j:Nat):∀(o:List (List Int)) (out:List Au),(∀i∈o.flatten,0≤i)→(j:Int)∉o.flatten→(Gu y w c o out)[j]?=out[j]?
 |[],out,_,_=>rfl
 |l::o,out,h0,h=>by
  rw[List.flatten_cons] at h0 h;rw[Gu,Ln y w c j o _ (fun i hi=>h0 i (List.mem_append_right _ hi)) (fun hi=>h (List.mem_append_right _ hi)),Je y w c j l _ _ (fun i hi=>h0 i (List.mem_append_left _ hi)) (fun hi=>h (List.mem_append_left _ hi))]
theorem N1(y:Ao)(w:List Bool)(c:List Int)(i:Int)(pre post:List Int)(e:List (List Int)):∀(o1:List (List Int)) (out:List Au),(o1++(pre++i::post)::e).flatten.Nodup→(∀j∈(o1++(pre++i::post)::e).flatten,0≤j∧j<(out.length:Int))→
  (Gu y w c (o1++(pre++i::post)::e) out)[i.toNat]?=some (Cf y w (Ec y i) (max (Ga y w c pre 0) (BV c i)))
 |[],out,a,b=>by
  rw[List.nil_append,List.flatten_cons] at a b;have hm:i∈pre++i::post:=List.mem_append_right _ (List.mem_cons_self ..);have h0:=(b i (List.mem_append_left _ hm)).1;rw[List.nodup_append] at a;rw[List.nil_append,Gu,Ln y w c i.toNat e _ (fun j d=>(b j (List.mem_append_right _ d)).1) (by rw[Int.toNat_of_nonneg h0];exact fun d=>a.2.2 i hm i d rfl),N0 y w c pre i post 0 out a.1 fun j d=>b j (List.mem_append_left _ d)]
 |l::o1,out,a,b=>by
  rw[List.cons_append,List.flatten_cons] at a b;rw[List.nodup_append] at a;rw[List.cons_append,Gu];exact N1 y w c i pre post e o1 _ a.2.1 fun j d=>by rw[HE];exact b j (List.mem_append_right _ d)
theorem P2{y:Ao}{o:List (List Int)}(h:Dh y o=true):o.flatten.Nodup:=(EZ.1 h).2.nodup_iff.2 (P0 _)
theorem N2{y:Ao}{o:List (List Int)}(h:Dh y o=true){i:Int}:i∈o.flatten↔0≤i∧i<(y.Ac.length:Int):=by rw[(EZ.1 h).2.mem_iff,NM]
theorem N3{y:Ao}{o:List (List Int)}{o1 b:List (List Int)}{pre post:List Int}{i:Int}(h:Dh y o=true)(e:o=o1++(pre++i::post)::b)(t:AT):
  (B4 y o t)[i.toNat]?=some (Cf y t.Am (Ec y i) (max (Ga y t.Am t.Comes pre 0) (BV t.Comes i))):=by
 have h1:=P2 h;have c:∀j∈o.flatten,0≤j∧j<(y.Ac.length:Int):=fun j a=>(N2 h).1 a;subst e;unfold B4 Gv;exact N1 y t.Am t.Comes i pre post b o1 _ h1 fun j a=>by rw[List.length_replicate];exact c j a
theorem Rw{y:Ao}{o:List (List Int)}(h:Dh y o=true){i:Nat}(hi:i<y.Ac.length):∃o1 pre post a,o=o1++(pre++(i:Int)::post)::a:=by
 have hm:(i:Int)∈o.flatten:=(N2 h).2 (by omega);obtain⟨l,c,b⟩:=List.mem_flatten.1 hm;obtain⟨o1,a,e⟩:=List.append_of_mem c;obtain⟨pre,post,d⟩:=List.append_of_mem b;exact⟨o1,pre,post,a,by rw[e,d]⟩
theorem Is {y:Ao} {o:List (List Int)} (h:Dh y o=true) {i:Nat} (hi:i<y.Ac.length) {o1 a:List (List Int)} {pre post:List Int} (e:o=o1++(pre++(i:Int)::post)::a) (t:AT):
  Hg y o t i=Cf y t.Am (CG y i) (max (Ga y t.Am t.Comes pre 0) (BV t.Comes i)):=by
 have h1:=N3 h e t;rw[Int.toNat_natCast] at h1;unfold Hg;rw[List.getD_eq_getElem?_getD,h1];show Cf y t.Am (Ec y (i:Int)) _=_;unfold Ec CG;rw[Int.toNat_natCast]
theorem JY(l:AY)(d0:Int):∀(ws a:List Bool) (d De r:Int),0≤d→ws.length=a.length→(∀k:Nat,(Em l d0 ws d De r).Be=-1∨d+k≤(Em l d0 ws d De r).Be→ws[k]?=a[k]?)→Em l d0 a d De r=Em l d0 ws d De r
 |[],[],d,De,r,_,_,_=>rfl
 |[],_::_,d,De,r,_,h,_=>by cases h
 |_::_,[],d,De,r,_,h,_=>by cases h
 |b::ws,b'::a,d,De,r,h0,i,h=>by
  have j:b'=b:=by
   have:=h 0 (by
    rcases JU l d0 (b::ws) d De r h0 with h1|h1
    ·exact .inl h1
    ·right;omega)
   exact(Option.some.inj this).symm
  subst j;have e:ws.length=a.length:=by simpa using i
  cases b' with
  |true=>
   rw[Em] at h⊢;rw[Em];cases f:(De==l.AQ) with
   |true=>rfl
   |false=>
    rw[f] at h;cases g:(r+1==l.B9) with
    |true=>rfl
    |false=>
     rw[g] at h;refine JY l d0 ws a (d+1) De (r+1) (by omega) e fun k c=>?_;have:=h (k+1) (by
      rcases c with c|c
      ·exact .inl c
      ·right;show d+((k+1:Nat):Int)≤(Em l d0 ws (d+1) De (r+1)).Be;omega)
     simpa using this
  |false=>
   rw[Em] at h⊢;rw[Em];cases f:(De+1==l.AQ) with
   |true=>rfl
   |false=>
    rw[f] at h;cases g:((0:Int)==l.B9) with
    |true=>rfl
    |false=>
     rw[g] at h;refine JY l d0 ws a (d+1) (De+1) 0 (by omega) e fun k c=>?_;have:=h (k+1) (by
      rcases c with c|c
      ·exact .inl c
      ·right;show d+((k+1:Nat):Int)≤(Em l d0 ws (d+1) (De+1) 0).Be;omega)
     simpa using this
theorem MW{y:Ao}{w:List Bool}(l:AY){d:Int}(a:0≤d)(hw:(w.length:Int)=y.Aj+1):HG y (Cf y w l d)≤y.Aj+1∧(d≤y.Aj+1→d≤HG y (Cf y w l d)):=by
 rcases MS y w l d a hw with h|h
 ·unfold HG;rw[h];simp
 ·unfold HG;have:((Cf y w l d).Be==-1)=false:=by rw[beq_eq_false_iff_ne];omega
  rw[this];show(Cf y w l d).Be+1≤_∧(_→d≤(Cf y w l d).Be+1);omega
theorem OG{y:Ao}{w w':List Bool}(l:AY){d:Int}(c:0≤d)(hw:(w.length:Int)=y.Aj+1)(f:w.length=w'.length)(h:∀k:Nat,(k:Int)<HG y (Cf y w l d)→w[k]?=w'[k]?):Cf y w' l d=Cf y w l d:=by
 by_cases b:y.Aj<d
 ·unfold Cf;rw[if_pos b,if_pos b]
 ·have e:∀x:List Bool,Cf y x l d=Em l d (x.drop d.toNat) d 0 0:=fun x=>by unfold Cf;rw[if_neg b]
  rw[e w] at h;rw[e w,e w'];refine JY l d (w.drop d.toNat) (w'.drop d.toNat) d 0 0 c (by rw[List.length_drop,List.length_drop,f]) fun k a=>?_;rw[List.getElem?_drop,List.getElem?_drop]
  by_cases g:d.toNat+k<w.length
  ·refine h (d.toNat+k) ?_;unfold HG;rcases a with a|a
   ·rw[a];show _<y.Aj+1;omega
   ·have:((Em l d (w.drop d.toNat) d 0 0).Be==-1)=false:=by rw[beq_eq_false_iff_ne];omega
    rw[this];show _<(Em l d (w.drop d.toNat) d 0 0).Be+1;omega
  ·rw[List.getElem?_eq_none (by omega),List.getElem?_eq_none (by omega)]
theorem LA{y:Ao}{w:List Bool}(c:List Int)(hw:(w.length:Int)=y.Aj+1):∀(pre:List Int) (f:Int),0≤f→f≤y.Aj+1→f≤Ga y w c pre f∧Ga y w c pre f≤y.Aj+1
 |[],f,h0,h1=>⟨Int.le_refl _,h1⟩
 |i::r,f,h0,h1=>by
  rw[Ga];obtain⟨a,b⟩:=MW (y:=y) (w:=w) (Ec y i) (d:=max f (BV c i)) (by omega) hw;have e:f≤HG y (Cf y w (Ec y i) (max f (BV c i))):=by
   by_cases g:max f (BV c i)≤y.Aj+1
   ·have:=b g;omega
   ·have:Cf y w (Ec y i) (max f (BV c i))=never:=if_pos (by omega);rw[this];show f≤y.Aj+1;exact h1
  obtain⟨h,j⟩:=LA c hw r _ (Int.le_trans h0 e) a;exact⟨Int.le_trans e h,j⟩
theorem Lp{y:Ao}{w w':List Bool}(c:List Int)(hw:(w.length:Int)=y.Aj+1)(e:w.length=w'.length):∀(pre:List Int) (f:Int),0≤f→f≤y.Aj+1→(∀k:Nat,(k:Int)<Ga y w c pre f→w[k]?=w'[k]?)→Ga y w' c pre f=Ga y w c pre f
 |[],f,_,_,_=>rfl
 |i::r,f,h0,h1,h=>by
  rw[Ga] at h⊢;rw[Ga];obtain⟨a,b⟩:=MW (y:=y) (w:=w) (Ec y i) (d:=max f (BV c i)) (by omega) hw;have g:f≤HG y (Cf y w (Ec y i) (max f (BV c i))):=by
   by_cases j:max f (BV c i)≤y.Aj+1
   ·have:=b j;omega
   ·have:Cf y w (Ec y i) (max f (BV c i))=never:=if_pos (by omega);rw[this];show f≤y.Aj+1;exact h1
  have hle:=(LA c hw r _ (Int.le_trans h0 g) a).1;rw[OG (Ec y i) (by omega) hw e fun k l=>h k (by omega)];exact Lp c hw e r _ (Int.le_trans h0 g) a h
theorem JZ(l:AY):∀(g ws:List Bool) (a a' d c De r:Int),g<+:ws→d≤c→D9 l (Em l a' g c De r)=true→D9 l (Em l a ws d De r)=true
 |[],ws,a,a',d,c,De,r,_,_,h=>by cases h
 |b::u,[],a,a',d,c,De,r,j,_,h=>by
  have:=j.length_le;simp at this
 |b::u,b'::v,a,a',d,c,De,r,j,m,h=>by
  obtain⟨rfl,i⟩:=List.cons_prefix_cons.1 j;cases b with
  |true=>
   rw[Em] at h⊢;cases e:(De==l.AQ) with
   |true=>
    rw[e] at h;unfold D9 at h⊢;have k:decide (c≤l.Ck)=true:=h;rw[decide_eq_true_eq] at k;show decide (d≤l.Ck)=true;exact dt (by omega)
   |false=>
    rw[e] at h;cases f:(r+1==l.B9) with
    |true=>rw[f] at h;cases h
    |false=>
     rw[f] at h;exact JZ l u v a a' (d+1) (c+1) De (r+1) i (by omega) h
  |false=>
   rw[Em] at h⊢;cases e:(De+1==l.AQ) with
   |true=>
    rw[e] at h;unfold D9 at h⊢;have k:decide (c≤l.Ck)=true:=h;rw[decide_eq_true_eq] at k;show decide (d≤l.Ck)=true;exact dt (by omega)
   |false=>
    rw[e] at h;cases f:((0:Int)==l.B9) with
    |true=>rw[f] at h;cases h
    |false=>
     rw[f] at h;exact JZ l u v a a' (d+1) (c+1) (De+1) 0 i (by omega) h
theorem LB(W R:Int):∀(l:List Bool) (s r a b:Int),a≤s→b≤r→okW W R l s r=true→okW W R l a b=true
 |[],_,_,_,_,_,_,_=>rfl
 |false::l,s,r,a,b,c,d,h=>LB W R l s 0 a 0 c (Int.le_refl _) h
 |true::l,s,r,a,b,c,d,h=>by
  rw[okW,Bool.and_eq_true,Bool.and_eq_true,decide_eq_true_eq,decide_eq_true_eq] at h⊢;exact⟨by omega,by omega,LB W R l _ _ _ _ (by omega) (by omega) h.2.2⟩
theorem KN{W R W' R':Int}(a:W≤W')(b:R≤R'):∀(l:List Bool) (s r:Int),okW W R l s r=true→okW W' R' l s r=true
 |[],_,_,_=>rfl
 |false::l,s,r,h=>KN a b l s 0 h
 |true::l,s,r,h=>by
  rw[okW,Bool.and_eq_true,Bool.and_eq_true,decide_eq_true_eq,decide_eq_true_eq] at h⊢;exact⟨by omega,by omega,KN a b l _ _ h.2.2⟩
theorem Mt(W R:Int)(l:List Bool):∀(k:Nat),okW W R (List.replicate k false++l) 0 0=okW W R l 0 0
 |0=>rfl
 |k+1=>by rw[List.replicate_succ,List.cons_append,okW];exact Mt W R l k
theorem J0(W R:Int)(a:List Bool):∀(d:List Bool) (s r:Int),0≤s→0≤r→okW W R (d++a) s r=true→okW W R a 0 0=true
 |[],s,r,b,c,h=>LB W R a s r 0 0 b c h
 |false::l,s,r,b,c,h=>J0 W R a l s 0 b (Int.le_refl _) h
 |true::l,s,r,b,c,h=>by
  rw[List.cons_append,okW,Bool.and_eq_true,Bool.and_eq_true] at h;exact J0 W R a l (s+1) (r+1) (by omega) (by omega) h.2.2
theorem J1(W R:Int)(a:List Bool):∀(b:List Bool) (s r:Int),okW W R (b++a) s r=true→okW W R b s r=true
 |[],s,r,h=>rfl
 |false::l,s,r,h=>J1 W R a l s 0 h
 |true::l,s,r,h=>by
  rw[List.cons_append,okW,Bool.and_eq_true,Bool.and_eq_true] at h;rw[okW,Bool.and_eq_true,Bool.and_eq_true];exact⟨h.1,h.2.1,J1 W R a l (s+1) (r+1) h.2.2⟩
theorem J2:∀{ls:List AY} {cs:List Int},DG ls cs=true→∀i,i<ls.length→FK (cs.getD i 0) (ls.getD i HD).Ar (ls.getD i HD).AD=true
 |[],_,_,i,hi=>by cases hi
 |l::ls,[],h,_,_=>by cases h
 |l::ls,c::cs,h,0,_=>by rw[DG,Bool.and_eq_true] at h;exact h.1
 |l::ls,c::cs,h,i+1,hi=>by
  rw[DG,Bool.and_eq_true] at h;exact J2 h.2 i (by simpa using hi)
theorem FO{y:Ao}{t:AT}:DV y t=true↔(t.Am.length:Int)=y.Aj+1∧G5 y t.Am=true∧DG y.Ac t.Comes=true:=by
 unfold DV;rw[Bool.and_eq_true,Bool.and_eq_true,decide_eq_true_eq]
theorem N4{y:Ao}{i:Nat}(hi:i<y.Ac.length):CG y i∈y.Ac:=by
 unfold CG;rw[List.getD_eq_getElem?_getD,List.getElem?_eq_getElem hi];exact List.getElem_mem hi
theorem K2{y:Ao}(hy:EO y){t:AT}(ht:DV y t=true){i:Nat}(hi:i<y.Ac.length):0≤BV t.Comes i∧BV t.Comes i≤y.Aj:=by
 have h1:=E9.1 (J2 (FO.1 ht).2.2 i hi);have a:=H7.1 (hy.Mo _ (N4 hi));unfold CG at a;unfold BV;rw[Int.toNat_natCast];omega
theorem M6 {y:Ao} (hy:EO y) {o:List (List Int)} (l:Dh y o=true) {i:Nat} (hi:i<y.Ac.length) (h:∀t,DV y t=true→G6 y o i t=true) (t:AT) (ht:DV y t=true):
  D9 (CG y i) (Cf y t.Am (CG y i) (BV t.Comes i))=true:=by
 obtain⟨o1,pre,post,aG,e⟩:=Rw l hi;obtain⟨hw,n,g⟩:=FO.1 ht;obtain⟨p,aF⟩:=K2 hy ht hi;have h0:=hy.h0;have b:((List.replicate t.Am.length false).length:Int)=y.Aj+1:=by rw[List.length_replicate];exact hw
 obtain⟨F,c⟩:∃F,F=Ga y (List.replicate t.Am.length false) t.Comes pre 0:=⟨_,rfl⟩;have q:=LA t.Comes b pre 0 (Int.le_refl _) (by omega);rw[←c] at q
 by_cases x:y.Aj<max F (BV t.Comes i)
 ·exfalso;have r:DV y ⟨t.Comes,List.replicate t.Am.length false⟩=true:=by
   refine FO.2 ⟨b,?_,g⟩;unfold G5;have:=Mt y.Am y.Ax [] t.Am.length;rw[List.append_nil] at this;rw[this];rfl
  have:=h _ r;unfold G6 at this;rw[Is l hi e] at this;have z:Cf y (List.replicate t.Am.length false) (CG y i) (max (Ga y (List.replicate t.Am.length false) t.Comes pre 0) (BV t.Comes i))=never:=by rw[←c];exact if_pos x
  have a:D9 (CG y i) (Cf y (List.replicate t.Am.length false) (CG y i) (max (Ga y (List.replicate t.Am.length false) t.Comes pre 0) (BV t.Comes i)))=true:=this;rw[z] at a;cases a
 ·obtain⟨s,aA⟩:=Int.eq_ofNat_of_zero_le (show 0≤max F (BV t.Comes i) by omega);obtain⟨ci,u⟩:=Int.eq_ofNat_of_zero_le p;have hle:ci≤s:=by omega
  obtain⟨W,d⟩:∃W,W=List.replicate s false++(t.Am.drop ci).take (t.Am.length-s):=⟨_,rfl⟩;have v:W.length=t.Am.length:=by
   rw[d,List.length_append,List.length_replicate,List.length_take,List.length_drop];omega
  have m:okW y.Am y.Ax ((t.Am.drop ci).take (t.Am.length-s)) 0 0=true:=by
   refine J1 y.Am y.Ax ((t.Am.drop ci).drop (t.Am.length-s)) _ 0 0 ?_;rw[List.take_append_drop];refine J0 y.Am y.Ax _ (t.Am.take ci) 0 0 (Int.le_refl _) (Int.le_refl _) ?_;rw[List.take_append_drop];exact n
  have w:DV y ⟨t.Comes,W⟩=true:=by
   refine FO.2 ⟨by show(W.length:Int)=_;omega,?_,g⟩;unfold G5;show okW y.Am y.Ax W 0 0=true;rw[d,Mt];exact m
  have f:Ga y W t.Comes pre 0=F:=by
   rw[c];refine Lp t.Comes b (by rw[List.length_replicate,v]) pre 0 (Int.le_refl _) (by omega) fun k aB=>?_;rw[←c] at aB;have j:k<s:=by omega
   rw[d,List.getElem?_append_left (by rw[List.length_replicate];exact j),List.getElem?_replicate,List.getElem?_replicate,if_pos j,if_pos (by omega)]
  have:=h _ w;unfold G6 at this;rw[Is l hi e] at this;have a:D9 (CG y i) (Cf y W (CG y i) (max (Ga y W t.Comes pre 0) (BV t.Comes i)))=true:=this;rw[f,aA] at a;have aC:Cf y W (CG y i) (s:Int)=Em (CG y i) s (W.drop s) s 0 0:=by
   unfold Cf;rw[if_neg (by omega),Int.toNat_natCast]
  have aD:W.drop s=(t.Am.drop ci).take (t.Am.length-s):=by
   rw[d];exact List.drop_left' (by rw[List.length_replicate])
  have aE:Cf y t.Am (CG y i) (BV t.Comes i)=Em (CG y i) ci (t.Am.drop ci) ci 0 0:=by
   unfold Cf;rw[u,if_neg (by omega),Int.toNat_natCast]
  rw[aC,aD] at a;rw[aE];exact JZ (CG y i) _ _ _ _ _ _ _ _ (List.take_prefix ..) (by omega) a
end Go.Proofs.YtkljfdkmjdjpfaaGreat
end
section
namespace Go.Proofs.YtkljfdkmjdjpfaaGreat
structure Alike (y x:Ao):Prop where
 last:x.Aj=y.Aj
 len:x.Ac.length=y.Ac.length
 De:∀i:Nat,(CG x i).AQ=(CG y i).AQ
 VZ:∀i:Nat,(CG x i).B9=(CG y i).B9
theorem J4{l b:AY}(h1:b.AQ=l.AQ)(a:b.B9=l.B9)(d0:Int):∀(ws:List Bool) (d De r:Int),Em b d0 ws d De r=Em l d0 ws d De r
 |[],_,_,_=>rfl
 |true::ws,d,De,r=>by rw[Em,Em,h1,a,J4 h1 a d0 ws]
 |false::ws,d,De,r=>by rw[Em,Em,h1,a,J4 h1 a d0 ws]
theorem OH{y x:Ao}(h:x.Aj=y.Aj){l a:AY}(h1:a.AQ=l.AQ)(b:a.B9=l.B9)(w:List Bool)(d:Int):Cf x w a d=Cf y w l d:=by
 unfold Cf;rw[h,J4 h1 b]
theorem Alike.at{y x:Ao}(h:Alike y x)(w:List Bool)(i d:Int):Cf x w (Ec x i) d=Cf y w (Ec y i) d:=OH h.last (h.De i.toNat) (h.VZ i.toNat) w d
theorem Lq{y x:Ao}(h:Alike y x)(w:List Bool)(c:List Int):∀(l:List Int) (f:Int) (out:List Au),Gt x w c l f out=Gt y w c l f out
 |[],_,_=>rfl
 |i::r,f,out=>by
  rw[Gt,Gt];show Gt x w c r (cond ((Cf x w (Ec x i) (max f (BV c i))).Be==-1) (x.Aj+1) _) _=_;rw[h.at,h.last,Lq h w c r]
theorem Lr{y x:Ao}(h:Alike y x)(w:List Bool)(c:List Int):∀(o:List (List Int)) (out:List Au),Gu x w c o out=Gu y w c o out
 |[],_=>rfl
 |l::o,out=>by rw[Gu,Gu,Lq h,Lr h w c o]
theorem OI{y x:Ao}(h:Alike y x)(o:List (List Int))(t:AT):B4 x o t=B4 y o t:=by
 unfold B4 Gv;rw[h.len,Lr h]
theorem MX{p b:AY→Au→Bool}:∀(ls a:List AY) (ss:List Au),ls.length=a.length→(∀i s,i<ls.length→p (ls.getD i HD) s=true→b (a.getD i HD) s=true)→He p ls ss≤He b a ss
 |[],[],ss,_,_=>Nat.le_refl _
 |[],_::_,_,h,_=>by cases h
 |_::_,[],_,h,_=>by cases h
 |l::ls,c::a,[],_,_=>by simp[He]
 |l::ls,c::a,s::ss,d,h=>by
  have h1:=MX ls a ss (by simpa using d) fun i s hi=>h (i+1) s (by simpa using hi);have e:p l s=true→b c s=true:=h 0 s (by simp);rw[He,He];cases f:p l s with
  |false=>simp only[cond_false];omega
  |true=>rw[e f];simp only[cond_true];omega
theorem P3 {l b:AY} (h:l.Ck≤b.Ck) {s:Au} (a:D9 l s=true):D9 b s=true:=by
 unfold D9 at a⊢;rw[Bool.and_eq_true,decide_eq_true_eq] at a⊢;exact⟨a.1,by omega⟩
theorem QK{y x:Ao}(a:x.Ac.length=y.Ac.length)(b:∀i:Nat,(CG x i).Ck≤(CG y i).Ck)(ss:List Au):Ed y ss≤Ed x ss:=by
 unfold Ed;refine MX _ _ ss a.symm fun i s _ h=>?_;unfold DT at h⊢;cases c:D9 (x.Ac.getD i HD) s with
 |false=>rfl
 |true=>
  have:=P3 (b i) c;unfold CG at this;rw[this] at h;cases h
theorem SI{y x:Ao}(hy:EO y)(a:EO x){o o':List (List Int)}(h:∀t,DV y t=true→DV x t=true∧Ed y (B4 y o t)≤Ed x (B4 x o' t)):(Db y o).1≤(Db x o').1:=by
 obtain⟨_,b,h3⟩:=Il hy o;obtain⟨c,_,_⟩:=Il a o';obtain⟨d,e⟩:=h _ b;have:=c _ d;omega
theorem N5 {y:Ao} (hy:EO y) {k:Int}:k∈Dl y 0 y.Ac.length↔∃i:Nat,k=i∧i<y.Ac.length∧¬∀t,DV y t=true→D9 (CG y i) (Cf y t.Am (CG y i) (BV t.Comes i))=true:=by
 unfold Dl;rw[List.mem_map];constructor
 ·rintro⟨i,hi,rfl⟩;rw[List.mem_filter,List.mem_range'_1] at hi;refine⟨i,rfl,by omega,fun h=>?_⟩;have b:=hi.2;have:(B0 y).all (G6 y (F4 y i) i)=true:=by
   rw[List.all_eq_true];intro t ht;have a:=(Fx hy.h0).1 ht;have h3:=h t a;have d:=K2 hy a (show i<y.Ac.length by omega);unfold G6;rw[Is (KJ hy (show i<y.Ac.length by omega)) (show i<y.Ac.length by omega) (o1:=[]) (pre:=[]) (post:=GH y.Ac.length i 0) rfl];show D9 (CG y i) (Cf y t.Am (CG y i) (max 0 (BV t.Comes i)))=true;rw[show max 0 (BV t.Comes i)=BV t.Comes i by omega];exact h3
  rw[this] at b;cases b
 ·rintro⟨i,rfl,hi,h⟩;refine⟨i,?_,rfl⟩;rw[List.mem_filter,List.mem_range'_1];refine⟨by omega,?_⟩;cases c:(B0 y).all (G6 y (F4 y i) i) with
  |false=>rfl
  |true=>
   exfalso;refine h fun t ht=>?_;rw[List.all_eq_true] at c;have h3:=c t ((Fx hy.h0).2 ht);have d:=K2 hy ht hi;unfold G6 at h3;rw[Is (KJ hy hi) hi (o1:=[]) (pre:=[]) (post:=GH y.Ac.length i 0) rfl] at h3;have e:D9 (CG y i) (Cf y t.Am (CG y i) (max 0 (BV t.Comes i)))=true:=h3
   rwa[show max 0 (BV t.Comes i)=BV t.Comes i by omega] at e
structure R8(y x:Ao):Prop extends Alike y x where
 L7:x.Ah=y.Ah
 due:∀i:Nat,(CG x i).Ck=(CG y i).Ck
 comes:∀i:Nat,(CG x i).Ar≤(CG y i).Ar∧(CG y i).AD≤(CG x i).AD
 Dd:y.Am≤x.Am
 run:y.Ax≤x.Ax
theorem HH:∀{ls a:List AY} {cs:List Int},a.length=ls.length→(∀i:Nat,(a.getD i HD).Ar≤(ls.getD i HD).Ar∧(ls.getD i HD).AD≤(a.getD i HD).AD)→DG ls cs=true→DG a cs=true
 |[],[],cs,_,_,h=>h
 |[],_::_,_,h,_,_=>by cases h
 |_::_,[],_,h,_,_=>by cases h
 |l::ls,b::a,[],_,_,h=>by cases h
 |l::ls,b::a,c::cs,d,hw,h=>by
  rw[DG,Bool.and_eq_true] at h⊢;have h1:=E9.1 h.1;have e:b.Ar≤l.Ar∧l.AD≤b.AD:=hw 0;exact⟨E9.2 (by omega),HH (by simpa using d) (fun i=>hw (i+1)) h.2⟩
theorem R8.R9{y x:Ao}(h:R8 y x){t:AT}(ht:DV y t=true):DV x t=true:=by
 obtain⟨h1,a,h3⟩:=FO.1 ht;exact FO.2 ⟨by rw[h.last];exact h1,KN h.Dd h.run _ _ _ a,HH h.len h.comes h3⟩
structure Nc(y z:Ao):Prop extends Alike y z where
 L7:z.Ah=y.Ah
 due:∀i:Nat,(CG y i).Ck≤(CG z i).Ck
 comes:∀i:Nat,(CG z i).Ar=(CG y i).Ar∧(CG y i).AD=(CG z i).AD
 Dd:y.Am=z.Am
 run:y.Ax=z.Ax
theorem Nc.R9{y z:Ao}(h:Nc y z){t:AT}:DV z t=true↔DV y t=true:=by
 rw[FO,FO,h.last];unfold G5;rw[h.Dd,h.run];refine and_congr_right fun _=>and_congr_right fun _=>⟨fun a=>HH h.len.symm (fun i=>?_) a,fun a=>HH h.len (fun i=>?_) a⟩
 ·have:=h.comes i;unfold CG at this;omega
 ·have:=h.comes i;unfold CG at this;omega
theorem Nc.Wg{y z:Ao}(h:Nc y z)(hy:EO y)(a:EO z)(o:List (List Int)):(Db z o).1≤(Db y o).1:=
 SI a hy fun t ht=>⟨h.R9.1 ht,by rw[OI h.toAlike];exact QK h.len.symm h.due _⟩
end Go.Proofs.YtkljfdkmjdjpfaaGreat
end
section
namespace Go.Proofs.YtkljfdkmjdjpfaaGreat
theorem P4(y:Ao)(o:List (List Int))(i:Nat):(verdict y o i=1↔∀t∈B0 y,G6 y o i t=true)∧(verdict y o i=2→∀t∈B0 y,G6 y o i t=false)∧1≤verdict y o i∧verdict y o i≤3:=by
 unfold verdict;rw[←List.all_eq_true];cases h1:(B0 y).all (G6 y o i) with
 |true=>simp
 |false=>
  cases a:(B0 y).all fun t=> !G6 y o i t with
  |false=>simp
  |true=>
   rw[List.all_eq_true] at a;refine⟨by simp,fun _ t ht=>?_,by simp,by simp⟩;have:=a t ht;simpa using this
def HI(y:Ao)(k:Nat):Ao:=⟨y.Aj,y.Ah,y.Am,y.Ax,[CG y k]⟩
theorem MY:∀{ls:List AY} {l:AY},(∀l∈ls,sized l)→l∈ls→BW l≤Ex ls
 |[],_,_,h=>by cases h
 |a::ls,l,h,hm=>by
  have c:=(h a (List.mem_cons_self ..)).1;have d:=I3 fun z b=>h z (List.mem_cons_of_mem a b);rw[Ex];rcases List.mem_cons.1 hm with rfl|hm
  ·have:=Int.mul_le_mul_of_nonneg_left d (show 0≤BW l by omega);omega
  ·have h1:=MY (fun z b=>h z (List.mem_cons_of_mem a b)) hm;have:=Int.mul_le_mul_of_nonneg_right c (show 0≤Ex ls by omega);omega
theorem Rx{y:Ao}(hy:EO y){k:Nat}(b:k<y.Ac.length):check (HI y k)=0:=by
 have h1:=hy.h0;have f:=hy.h9;have h3:=hy.r1;have g:=hy.r2;have hm:=N4 b;have h:=(hy.sz _ hm).1;have c:=MY (fun l d=>(hy.sz l d).1) hm;have a:=hy.many;unfold FT at a;unfold check;rw[if_neg (by show¬(9<y.Aj∨2<y.Ah∨4<(((1:Nat)):Int));omega)];rw[if_neg ?_,if_neg ?_]
 ·unfold FT;have e:Bn (HI y k)=Bn y:=rfl;rw[e];show¬1000<((Bn y).length:Int)*(BW (CG y k)*1);rw[Int.mul_one];have:=Int.mul_le_mul_of_nonneg_left c (Int.natCast_nonneg (Bn y).length);omega
 ·rw[not_or,not_or,not_or,not_or];refine⟨by show¬y.Aj<0;omega,by show¬y.Ah<1;omega,?_,?_,?_⟩
  ·show¬FK y.Am 0 (y.Aj+1)=false;rw[E9.2 ⟨hy.w0,hy.w1⟩];simp
  ·show¬FK y.Ax 0 (y.Aj+1)=false;rw[E9.2 ⟨hy.u0,hy.u1⟩];simp
  ·show¬([CG y k]:List AY).all (F9 y)=false;rw[List.all_cons,hy.Mo _ hm];simp
theorem MZ{y:Ao}(hy:EO y){k:Nat}:Dh (HI y k) ([0]::List.replicate (y.Ah.toNat-1) [])=true:=by
 have h3:=hy.r1;refine EZ.2 ⟨by simp;show _=y.Ah;omega,?_⟩;show List.Perm ([0]++(List.replicate (y.Ah.toNat-1) ([]:List Int)).flatten) [((0:Nat):Int)];have:∀n:Nat,(List.replicate n ([]:List Int)).flatten=[]:=fun n=>by
  induction n with
  |zero=>rfl
  |succ n ih=>rw[List.replicate_succ,List.flatten_cons,ih];rfl
 rw[this];exact List.Perm.refl _
theorem OJ{y:Ao}{t:AT}(ht:DV y t=true){k:Nat}(a:k<y.Ac.length):DV (HI y k) ⟨[BV t.Comes k],t.Am⟩=true:=by
 obtain⟨h1,b,h3⟩:=FO.1 ht;refine FO.2 ⟨h1,b,?_⟩;show(FK (BV t.Comes k) (CG y k).Ar (CG y k).AD&&true)=true;rw[Bool.and_true];have:=J2 h3 k a;unfold BV CG;rw[Int.toNat_natCast];exact this
theorem P5{y:Ao}(hy:EO y){o o1 a:List (List Int)}(b:Dh y o=true){k:Nat}(c:k<y.Ac.length){post:List Int}(e:o=o1++((k:Int)::post)::a)(t:AT):
  B4 (HI y k) ([0]::List.replicate (y.Ah.toNat-1) []) ⟨[BV t.Comes k],t.Am⟩=[Hg y o t k]:=by
 have h1:=N3 (o1:=[]) (pre:=[]) (i:=0) (post:=[]) (MZ hy (k:=k)) rfl ⟨[BV t.Comes k],t.Am⟩;have d:(B4 (HI y k) ([0]::List.replicate (y.Ah.toNat-1) []) ⟨[BV t.Comes k],t.Am⟩).length=1:=GF ..;have h3:Hg y o t k=Cf y t.Am (CG y k) (max 0 (BV t.Comes k)):=Is b c (pre:=[]) e t;rw[h3]
 match f:B4 (HI y k) ([0]::List.replicate (y.Ah.toNat-1) []) ⟨[BV t.Comes k],t.Am⟩,d with
 |[s],_=>
  rw[f] at h1;have g:=Option.some.inj h1;rw[g];rfl
end Go.Proofs.YtkljfdkmjdjpfaaGreat
end
section
namespace Go.Proofs.YtkljfdkmjdjpfaaGreat
theorem Ub{x:Int}(h0:-9223372036854775808≤x)(h1:x≤9223372036854775807):Lg .i64 x=some ():=by
 unfold Lg;have:IntKind.i64.wrap x=x:=HN ⟨by omega,by omega⟩;rw[if_pos this]
theorem SJ(K:Nat)(y:Ao)(h:y.Ac.length≤6):∀(k m i:Nat) (a:List AY),y.Ac.length=i+k→k<m→a=y.Ac.take i→
  DP K y m (i:Int) a=some y.Ac:=by
 intro k
 induction k with
 |zero=>
  intro m i a hi hm b;cases m with
  |zero=>omega
  |succ m=>rw[DP.eq_2,cf (df (by omega)),b,List.take_of_length_le (by omega)]
 |succ k ih=>
  intro m i a hi hm b;cases m with
  |zero=>omega
  |succ m=>
   have c:i<y.Ac.length:=by omega
   have d:a.length≤6:=by rw[b,List.length_take];omega
   rw[DP.eq_2,ct (dt (by omega)),Ds c,bd (show GM K (⟨y.Ac[i].Ar,y.Ac[i].AD⟩:CJ)=some (⟨y.Ac[i].Ar,y.Ac[i].AD⟩:CJ) from rfl),Fv (by simp only[List.length_cons,List.length_nil];omega),BL (by omega) (by omega),DF];refine ih m (i+1) _ (by omega) (by omega) ?_;rw[b,List.take_add_one,List.getElem?_eq_getElem c];rfl
theorem SK{K:Nat}(hK:2000≤K)(y:Ao)(h:y.Ac.length≤6):CE K y=some y:=by
 unfold CE;have:=SJ K y h y.Ac.length K 0 [] (by omega) (by omega) (by simp);rw[Int.natCast_zero] at this;rw[bd this]
theorem Ry(o:List (List Int))(h:o.length≤1000)(d:∀l∈o,l.length≤1000):∀(k m i:Nat) (a:List (List Int)),o.length=i+k→k<m→a=o.take i→
  DD o m a (i:Int)=some o:=by
 intro k
 induction k with
 |zero=>
  intro m i a hi hm c;cases m with
  |zero=>omega
  |succ m=>rw[DD.eq_2,cf (df (by omega)),c,List.take_of_length_le (by omega)]
 |succ k ih=>
  intro m i a hi hm c;cases m with
  |zero=>omega
  |succ m=>
   have b:i<o.length:=by omega
   have e:a.length≤1000:=by rw[c,List.length_take];omega
   have:=d _ (List.getElem_mem b);rw[DD.eq_2,ct (dt (by omega)),Ds b,Fv (by simp only[List.length_nil];omega),Fv (by simp only[List.length_cons,List.length_nil];omega),BL (by omega) (by omega),DF];refine ih m (i+1) _ (by omega) (by omega) ?_;rw[c,List.take_add_one,List.getElem?_eq_getElem b];rfl
theorem RA{K:Nat}(hK:2000≤K)(o:List (List Int))(h:o.length≤1000)(a:∀l∈o,l.length≤1000):Dk K o=some o:=by
 unfold Dk;have:=Ry o h a o.length K 0 [] (by omega) (by omega) (by simp);rw[Int.natCast_zero] at this;rw[bd this]
theorem RB(K:Nat)(t:AT)(h1:t.Comes.length≤1000)(a:t.Am.length≤1000):CS K t=some t:=by
 unfold CS;rw[Fv (by simp only[List.length_nil];omega),Fv (by simp only[List.length_nil];omega)];rfl
theorem RC(a:Au):Gb [.inl a.On,.inl a.Be,.inr a.AQ] [.inl a.On,.inl a.Be,.inr a.AQ]=true:=by
 simp[Gb]
theorem SL(a:List Int)(h:a.length≤1000):∀(k m i:Nat),a.length=i+k→k<m→DO a a m (i:Int)=some (.inr ()):=by
 intro k
 induction k with
 |zero=>
  intro m i hi hm;cases m with
  |zero=>omega
  |succ m=>rw[DO.eq_2,cf (df (by omega))]
 |succ k ih=>
  intro m i hi hm;cases m with
  |zero=>omega
  |succ m=>
   have b:i<a.length:=by omega
   rw[DO.eq_2,ct (dt (by omega)),Ds b,Ds b,cf (by simp),BL (by omega) (by omega),DF];exact ih m (i+1) (by omega) (by omega)
theorem SM{K:Nat}(hK:2000≤K)(a:List Int)(h:a.length≤1000):FB K a a=some true:=by
 unfold FB;have:=SL a h a.length K 0 (by omega) (by omega);rw[Int.natCast_zero] at this;rw[cf (by simp),bd this];rfl
theorem RD{K:Nat}(hK:2000≤K)(y:Ao):Fg K y=some (check y):=by
 unfold Fg;rw[bd (OZ hK y)]
def L8 (y:Ao):Bool:=cond (decide ((y.Ac.length:Int)≤6)) (cond (check y !=0) true (decide (FT y≤60))) false
theorem SN{K:Nat}(hK:2000≤K)(y:Ao):FC K y=some (L8 y):=by
 unfold FC L8;cases b:decide ((y.Ac.length:Int)≤6) with
 |false=>rfl
 |true=>
  rw[ct rfl,ct rfl,bd (OZ hK y)];cases a:(check y !=0) with
  |true=>rfl
  |false=>
   have h0:check y=0:=by simpa[bne] using a
   rw[cf rfl,cf rfl,bd (O0 y (FF h0) hK)]
def KO(y:Ao):Bool:=cond (L8 y) (check y==0) false
theorem RE{K:Nat}(hK:2000≤K)(y:Ao):Fi K y=some (KO y):=by
 unfold Fi KO;rw[bd (SN hK y)];cases L8 y with
 |false=>rfl
 |true=>rw[ct rfl,ct rfl,bd (RD hK y)]
theorem RF{y:Ao}(h:KO y=true):check y=0∧y.Ac.length≤4:=by
 unfold KO at h;cases a:L8 y with
 |false=>rw[a] at h;cases h
 |true=>
  rw[a] at h;have h0:check y=0:=by simpa using h
  exact⟨h0,(FF h0).n4⟩
def W8(ws:List Int):Prop:=∀w∈ws,0≤w∧w≤255
theorem SO(K:Nat)(ws:List Int)(h:W8 ws)(at_:Int)(h0:0≤at_):∃v:Int,FD K ws at_=some v∧0≤v∧v≤255:=by
 unfold FD
 by_cases b:ws.length=0
 ·rw[ct (by rw[b];rfl)];exact⟨0,rfl,by omega,by omega⟩
 ·rw[cf (by rw[beq_eq_false_iff_ne];omega),JR h0 (by omega)];have h1:=Int.emod_nonneg at_ (show(ws.length:Int)≠0 by omega);have d:=Int.emod_lt_of_pos at_ (show(0:Int)<(ws.length:Int) by omega);obtain⟨k,c⟩:=Int.eq_ofNat_of_zero_le h1;have a:k<ws.length:=by omega
  rw[c,Ds a];have:=h _ (List.getElem_mem a);rw[bd (Ub (by omega) (by omega))];exact⟨_,rfl,this⟩
theorem RG{K:Nat}(y:Ao)(hy:EO y)(ws:List Int)(h:W8 ws):∀(k m i:Nat) (o:List (List Int)),y.Ac.length=i+k→k<m→(o.length:Int)=y.Ah→o.flatten.Perm (iota i)→
  ∃d,DE K y ws m (i:Int) o=some d∧(d.length:Int)=y.Ah∧d.flatten.Perm (iota y.Ac.length):=by
 have t:=hy.n4;have g:=hy.r1;have s:=hy.r2;intro k
 induction k with
 |zero=>
  intro m i o hi hm f c;cases m with
  |zero=>omega
  |succ m=>
   rw[DE.eq_2,cf (df (by omega))];exact⟨o,rfl,f,by rw[show y.Ac.length=i by omega];exact c⟩
 |succ k ih=>
  intro m i o hi hm f c;cases m with
  |zero=>omega
  |succ m=>
   obtain⟨v,ev,v0,v1⟩:=SO K ws h (i:Int) (by omega);rw[DE.eq_2,ct (dt (by omega)),bd ev,JR v0 g,Rl v0 (by omega),BL (by omega) (by omega)];have h1:=Int.emod_nonneg v (show y.Ah≠0 by omega);have u:=Int.emod_lt_of_pos v (show 0<y.Ah by omega);obtain⟨r,p⟩:=Int.eq_ofNat_of_zero_le h1;have b:r<o.length:=by omega
   rw[p];have hlen:o[r].length≤4:=by
    have j:=c.length_eq;rw[GZ] at j;have:=(List.sublist_flatten_of_mem (List.getElem_mem b)).length_le;omega
   have h3:=Int.emod_nonneg (v/4) (show((o[r].length:Int)+1)≠0 by omega);have j:=Int.emod_lt_of_pos (v/4) (show 0<(o[r].length:Int)+1 by omega);obtain⟨a,q⟩:=Int.eq_ofNat_of_zero_le h3;rw[Ds b,BL (by omega) (by omega),JR (by omega) (by omega),Ds b,q,P1 (by omega) (by omega) (by omega)];have l:BS o[r] (0:Int) (a:Int)=o[r].take a:=SF _ _;have n:BS o[r] (a:Int) (o[r].length:Int)=o[r].drop a:=SG _ _;rw[l,Fv (by simp only[List.length_nil,List.length_take];omega),Fv (by simp only[List.length_append,List.length_cons,List.length_nil,List.length_take];omega),Ds b,P1 (by omega) (by omega) (by omega),n,Fv (by simp only[List.length_append,List.length_cons,List.length_nil,List.length_take,List.length_drop];omega),Ds b,BL (by omega) (by omega),DF,Int.toNat_natCast];have e:(([]:List Int)++o[r].take a++[(i:Int)])++o[r].drop a=CY (o.getD r []) (a:Int) (i:Int):=by
    unfold CY;rw[SH b,Int.toNat_natCast];simp
   rw[e];refine ih m (i+1) _ (by omega) (by omega) (by rw[List.length_set];exact f) ?_;refine(Hm (i:Int) o r (a:Int) b).trans ?_;rw[I4];exact(List.Perm.cons _ c).trans (List.perm_append_singleton _ _).symm
theorem RH{K:Nat}(hK:2000≤K)(y:Ao)(hy:EO y)(ws:List Int)(h:W8 ws):∃o,Fj K y ws=some o∧Dh y o=true:=by
 have f:=hy.n4;have d:=hy.r1;have e:=hy.r2;unfold Fj;obtain⟨o,a,b,c⟩:=RG (K:=K) y hy ws h y.Ac.length K 0 (List.replicate y.Ah.toNat []) (by omega) (by omega) (by rw[List.length_replicate];omega) (by
  have:∀n:Nat,(List.replicate n ([]:List Int)).flatten=[]:=fun n=>by
   induction n with
   |zero=>rfl
   |succ n ih=>rw[List.replicate_succ,List.flatten_cons,ih];rfl
  rw[this];exact List.Perm.refl _)
 rw[Int.natCast_zero] at a;rw[NI (by omega) (by omega) (by omega),bd a];exact⟨o,rfl,EZ.2 ⟨b,c⟩⟩
theorem QL{y:Ao}(hy:EO y):1≤FT y:=by
 rw[←Jn y hy];have:=List.length_pos_iff.2 (L1 hy);omega
theorem SP{K:Nat}(hK:2000≤K)(y:Ao)(hy:EO y)(n:Int)(h0:0≤n)(h1:n≤65535):∃t,DZ K y n=some t∧DV y t=true:=by
 unfold DZ;have hm:=QL hy;rw[bd (L5 y hy.h0 hy.h9 hy.u0 hy.u1 hy.w0 hK),bd (Ub (by omega) (by omega)),bd (O0 y hy hK),JR h0 hm];have h3:=Int.emod_nonneg n (show FT y≠0 by omega);have b:=Int.emod_lt_of_pos n (show 0<FT y by omega);obtain⟨k,a⟩:=Int.eq_ofNat_of_zero_le h3;rw[a,bd (Vf y hy k (by omega) hK)];refine⟨_,rfl,(Rv hy).1 ?_⟩;unfold Ru KM;exact List.mem_map.2 ⟨k,by rw[List.mem_range'_1];omega,rfl⟩
end Go.Proofs.YtkljfdkmjdjpfaaGreat
end
section
namespace Go.Proofs.YtkljfdkmjdjpfaaGreat
section
variable{K:Nat}(hK:2000≤K){y:Ao}(h:check y=0)
theorem IM{o:List (List Int)}(h:check y=0)(a:Dh y o=true):o.length≤1000∧(∀l∈o,l.length≤1000)∧o.flatten.length≤1000:=KI (FF h) a
include hK h
theorem N6{o:List (List Int)}(a:Dh y o=true){t:AT}(ht:DV y t=true):Ef K y o t=some (B4 y o t,0):=by
 obtain⟨h1,_,h3⟩:=IM h a;rw[Qz y o t hK h1 h3,if_neg (by simp[h]),if_neg (by simp[a,ht])]
theorem Mu{o:List (List Int)}(a:Dh y o=true){i:Nat}(hi:i<y.Ac.length):EG K y o (i:Int)=some (verdict y o i,0):=by
 obtain⟨h1,_,h3⟩:=IM h a;have b:FK (i:Int) 0 ((y.Ac.length:Int)-1)=true:=E9.2 (by omega);rw[Sz y o i hK h1 h3,if_neg (by simp[h]),if_neg (by simp[a,b]),Int.toNat_natCast]
theorem Uc{o:List (List Int)}(a:Dh y o=true):Gp K y o=some ((Db y o).1,(Db y o).2,0):=by
 obtain⟨h1,_,h3⟩:=IM h a;rw[QB y o hK h1 h3,if_neg (by simp[h]),if_neg (by simp[a])]
theorem Ud:GX K y=some ((HY y).2,(HY y).1,0):=by rw[T6 y hK,if_neg (by simp[h])]
theorem Ue:GY K y=some ((L4 y).2.2,(L4 y).1,0):=by rw[T7 y hK,if_neg (by simp[h])]
theorem L9:E6 K y=some (Dl y 0 y.Ac.length,0):=by rw[PX y hK,if_neg (by simp[h])]
theorem N7{o:List (List Int)}(a:Dh y o=true)(n:Int):E8 K y o n=some (decide ((Db y o).1≤n)):=by
 obtain⟨h1,_,h3⟩:=IM h a;rw[NO y o n hK h1 h3,dt h,a];rfl
theorem OK{o:List (List Int)}(a:Dh y o=true){t:AT}(ht:DV y t=true)(n:Int):Fu K y o t n=some (decide (n≤(Ed y (B4 y o t):Int))):=by
 obtain⟨h1,_,h3⟩:=IM h a;rw[OE y o t n hK h1 h3,dt h,a,ht];rfl
end
def y1:Ao:=⟨5,1,1,1,[⟨0,0,2,2,2⟩,⟨1,1,2,1,5⟩]⟩
def t3:AT:=⟨[0,1],[false,false,false,true,false,false]⟩
theorem H0:check y1=0:=by decide+kernel
theorem Sa:Dh y1 [[0,1]]=true:=EZ.2 ⟨rfl,by decide⟩
theorem P6:Dh y1 [[1,0]]=true:=EZ.2 ⟨rfl,by decide⟩
theorem Vg:DV y1 t3=true:=by decide+kernel
theorem Vh:B4 y1 [[0,1]] t3=[⟨0,1,true⟩,⟨2,3,false⟩]:=by
 have h:∀(a b:List Au),a.map (fun s=>(s.On,s.Be,s.AQ))=b.map (fun s=>(s.On,s.Be,s.AQ))→a=b:=by
  intro a
  induction a with
  |nil=>intro b h;cases b with|nil=>rfl|cons x l=>cases h
  |cons x l ih=>
   intro b h;cases b with
   |nil=>cases h
   |cons x2 c=>
    have h1:=List.cons.inj h;obtain⟨a1,a2,a3⟩:=x;obtain⟨d,e,f⟩:=x2;have g:a1=d∧a2=e∧a3=f:=by simpa using h1.1
    obtain⟨rfl,rfl,rfl⟩:=g;rw[ih c h1.2]
 exact h _ _ (by decide+kernel)
theorem Ma{K:Nat}(hK:2000≤K):CT K=some true:=by
 unfold CT;have a:CM K 1=some y1:=rfl;have b:Gr K 3=some t3:=rfl;have c:EG K y1 [[0,1]] 1=some (verdict y1 [[0,1]] 1,0):=Mu hK H0 Sa (i:=1) (by decide);have d:EG K y1 [[1,0]] 0=some (verdict y1 [[1,0]] 0,0):=Mu hK H0 P6 (i:=0) (by decide);have hy:=FF H0;obtain⟨_,e,h⟩:=Il hy [[1,0]];obtain⟨_,f,j⟩:=PV hy;have v1:verdict y1 [[0,1]] 1=3:=by decide+kernel
 have v2:verdict y1 [[1,0]] 0=2:=by decide+kernel
 have v3:(Db y1 [[1,0]]).1=2:=by decide+kernel
 have v4:(HY y1).1=1:=by decide+kernel
 have v5:(L4 y1).1=1:=by decide+kernel
 have v6:Dl y1 0 y1.Ac.length=[1]:=by decide+kernel
 rw[bd a,bd b,bd (N6 hK H0 Sa Vg),bd a,bd c,bd a,bd d,bd a,bd (Uc hK H0 P6),bd a,bd (Ud hK H0),bd a,bd (Ue hK H0),bd a,bd (L9 hK H0),Vh];rw[ct (by rfl)];have s1:EW K 0 1 true=some ⟨0,1,true⟩:=rfl;have s2:EW K 2 3 false=some ⟨2,3,false⟩:=rfl;have g:Gs K [⟨0,1,true⟩,⟨2,3,false⟩] ⟨0,1,true⟩ ⟨2,3,false⟩=some true:=rfl;rw[bd s1,bd s2,bd g,ct (by rfl),ct (by rfl),v1,ct (by rfl),ct (by rfl),v2,ct (by rfl),ct (by rfl),v3,ct (by rfl),bd a,bd (OK hK H0 P6 e 2),ct (dt (by omega)),ct (by rfl),v4,ct (by rfl),bd a,bd (N7 hK H0 f 1),ct (dt (by omega)),ct (by rfl),v5,ct (by rfl),ct (by rfl),v6,bd (SM hK [1] (by decide))]
end Go.Proofs.YtkljfdkmjdjpfaaGreat
end
section
namespace Go.Proofs.YtkljfdkmjdjpfaaGreat
namespace HF
theorem mixed:Tryz.prog.follows .mixedOrders=true:=by kernel_rfl
theorem J5(b:Nat)(w:World):(Instr.fieldAt 154 (.pointer (some ⟨b,0,none⟩)) 1).run Tryz.prog w=.ok (.pointer (some ⟨b,1,none⟩)) w:=by kernel_rfl
theorem AZ:One Tryz.prog 3:=by unfold One;exact⟨by kernel_rfl,by kernel_rfl⟩
theorem J6(b:Nat)(w:World):(Instr.fieldAt 154 (.pointer (some ⟨b,0,none⟩)) 0).run Tryz.prog w=.ok (.pointer (some ⟨b,0,none⟩)) w:=by kernel_rfl
theorem Jo:Bm Tryz.prog 90:=by unfold Bm;kernel_rfl
theorem J7(b:Nat)(w:World):(Instr.fieldAt 116 (.pointer (some ⟨b,0,none⟩)) 1).run Tryz.prog w=.ok (.pointer (some ⟨b,1,none⟩)) w:=by kernel_rfl
theorem IN(b:Nat)(w:World):(Instr.fieldAt 116 (.pointer (some ⟨b,0,none⟩)) 0).run Tryz.prog w=.ok (.pointer (some ⟨b,0,none⟩)) w:=by kernel_rfl
theorem Uf:(Tryz.prog.underlying 3).isSome=true:=by kernel_rfl
theorem Hn:(Tryz.prog.info? 115).bind (·.zero)=some (.agg #[I 0,I 0,.bool false]):=by kernel_rfl
theorem Ea:(Tryz.prog.info? 115).map (·.size)=some 3:=by kernel_rfl
theorem Du:DH Tryz.prog 115 3:=by unfold DH;exact⟨by kernel_rfl,by kernel_rfl⟩
theorem C9(b:Nat)(w:World):(Instr.fieldAt 75 (.pointer (some ⟨b,0,none⟩)) 4).run Tryz.prog w=.ok (.pointer (some ⟨b,4,none⟩)) w:=by kernel_rfl
theorem Dx:One Tryz.prog 73:=by unfold One;exact⟨by kernel_rfl,by kernel_rfl⟩
theorem RI(b:Nat)(w:World):(Instr.fieldAt 115 (.pointer (some ⟨b,0,none⟩)) 2).run Tryz.prog w=.ok (.pointer (some ⟨b,2,none⟩)) w:=by kernel_rfl
theorem K3:One Tryz.prog 4:=by unfold One;exact⟨by kernel_rfl,by kernel_rfl⟩
theorem LC(b:Nat)(w:World):(Instr.fieldAt 115 (.pointer (some ⟨b,0,none⟩)) 1).run Tryz.prog w=.ok (.pointer (some ⟨b,1,none⟩)) w:=by kernel_rfl
theorem N8(b:Nat)(w:World):(Instr.fieldAt 156 (.pointer (some ⟨b,0,none⟩)) 3).run Tryz.prog w=.ok (.pointer (some ⟨b,4,none⟩)) w:=by kernel_rfl
theorem Ht:DH Tryz.prog 156 5:=by unfold DH;exact⟨by kernel_rfl,by kernel_rfl⟩
theorem N9:Bm Tryz.prog 97:=by unfold Bm;kernel_rfl
theorem Gh(b:Nat)(w:World):(Instr.fieldAt 63 (.pointer (some ⟨b,0,none⟩)) 0).run Tryz.prog w=.ok (.pointer (some ⟨b,0,none⟩)) w:=by kernel_rfl
theorem Mb:Bm Tryz.prog 54:=by unfold Bm;kernel_rfl
theorem K4(b:Nat)(w:World):(Instr.fieldAt 63 (.pointer (some ⟨b,0,none⟩)) 3).run Tryz.prog w=.ok (.pointer (some ⟨b,3,none⟩)) w:=by kernel_rfl
theorem Mw(b:Nat)(w:World):(Instr.fieldAt 63 (.pointer (some ⟨b,0,none⟩)) 2).run Tryz.prog w=.ok (.pointer (some ⟨b,2,none⟩)) w:=by kernel_rfl
theorem Es:DH Tryz.prog 63 5:=by unfold DH;exact⟨by kernel_rfl,by kernel_rfl⟩
theorem Ug:Bm Tryz.prog 95:=by unfold Bm;kernel_rfl
theorem GS:(Tryz.prog.info? 3).map (fun i=>(i.zero,i.size,i.bytes))=some (some (I 0),1,8):=by kernel_rfl
theorem O1:Bm Tryz.prog 100:=by unfold Bm;kernel_rfl
theorem Ez(b:Nat)(w:World):(Instr.fieldAt 63 (.pointer (some ⟨b,0,none⟩)) 4).run Tryz.prog w=.ok (.pointer (some ⟨b,4,none⟩)) w:=by kernel_rfl
theorem FG:One Tryz.prog 61:=by unfold One;exact⟨by kernel_rfl,by kernel_rfl⟩
theorem H8:(Tryz.prog.info? 118).map (·.size)=some 5:=by kernel_rfl
theorem Oa(b o:Nat)(w:World):(Instr.fieldAt 118 (.pointer (some ⟨b,o,none⟩)) 0).run Tryz.prog w=.ok (.pointer (some ⟨b,o,none⟩)) w:=by kernel_rfl
theorem Jp:DH Tryz.prog 116 2:=by unfold DH;exact⟨by kernel_rfl,by kernel_rfl⟩
theorem Mx:Bm Tryz.prog 136:=by unfold Bm;kernel_rfl
theorem HQ(b:Nat)(w:World):(Instr.fieldAt 63 (.pointer (some ⟨b,0,none⟩)) 1).run Tryz.prog w=.ok (.pointer (some ⟨b,1,none⟩)) w:=by kernel_rfl
theorem KP:Bm Tryz.prog 46:=by unfold Bm;kernel_rfl
theorem O2:DH Tryz.prog 118 5:=by unfold DH;exact⟨by kernel_rfl,by kernel_rfl⟩
theorem Ob:(Tryz.prog.info? 118).bind (·.zero)=some (.agg #[I 0,I 0,I 0,I 0,I 0]):=by kernel_rfl
theorem IP(b:Nat)(w:World):(Instr.fieldAt 118 (.pointer (some ⟨b,0,none⟩)) 0).run Tryz.prog w=.ok (.pointer (some ⟨b,0,none⟩)) w:=by kernel_rfl
theorem Oc(b:Nat)(w:World):(Instr.fieldAt 118 (.pointer (some ⟨b,0,none⟩)) 1).run Tryz.prog w=.ok (.pointer (some ⟨b,2,none⟩)) w:=by kernel_rfl
theorem Od(b:Nat)(w:World):(Instr.fieldAt 118 (.pointer (some ⟨b,0,none⟩)) 2).run Tryz.prog w=.ok (.pointer (some ⟨b,3,none⟩)) w:=by kernel_rfl
theorem Oe(b:Nat)(w:World):(Instr.fieldAt 118 (.pointer (some ⟨b,0,none⟩)) 3).run Tryz.prog w=.ok (.pointer (some ⟨b,4,none⟩)) w:=by kernel_rfl
theorem Of:Bm Tryz.prog 81:=by unfold Bm;kernel_rfl
theorem J8(b:Nat)(w:World):(Instr.fieldAt 156 (.pointer (some ⟨b,0,none⟩)) 0).run Tryz.prog w=.ok (.pointer (some ⟨b,0,none⟩)) w:=by kernel_rfl
theorem K5:DH Tryz.prog 154 2:=by unfold DH;exact⟨by kernel_rfl,by kernel_rfl⟩
theorem Hu(b:Nat)(w:World):(Instr.fieldAt 75 (.pointer (some ⟨b,0,none⟩)) 0).run Tryz.prog w=.ok (.pointer (some ⟨b,0,none⟩)) w:=by kernel_rfl
theorem SQ:Bm Tryz.prog 140:=by unfold Bm;kernel_rfl
theorem Ho(b:Nat)(w:World):(Instr.fieldAt 156 (.pointer (some ⟨b,0,none⟩)) 1).run Tryz.prog w=.ok (.pointer (some ⟨b,2,none⟩)) w:=by kernel_rfl
theorem O3:Bm Tryz.prog 141:=by unfold Bm;kernel_rfl
theorem LD(b:Nat)(w:World):(Instr.fieldAt 156 (.pointer (some ⟨b,0,none⟩)) 2).run Tryz.prog w=.ok (.pointer (some ⟨b,3,none⟩)) w:=by kernel_rfl
theorem Dm:(Tryz.prog.info? 3).map (·.size)=some 1:=by kernel_rfl
theorem My:(Tryz.prog.info? 75).bind (·.zero)=some (.agg #[I 0,I 0,I 0,I 0,.slice none 0 0]):=by kernel_rfl
theorem P7:(Tryz.prog.info? 75).map (·.size)=some 5:=by kernel_rfl
theorem CZ:DH Tryz.prog 75 5:=by unfold DH;exact⟨by kernel_rfl,by kernel_rfl⟩
theorem G0:(Tryz.prog.info? 78).bind (·.zero)=some (.agg #[.slice none 0 0,.slice none 0 0]):=by kernel_rfl
theorem KQ:(Tryz.prog.info? 4).map (fun i=>(i.zero,i.size,i.bytes))=some (some (.bool false),1,1):=by kernel_rfl
theorem G4:(Tryz.prog.info? 78).map (·.size)=some 2:=by kernel_rfl
theorem Hv(b:Nat)(w:World):(Instr.fieldAt 78 (.pointer (some ⟨b,0,none⟩)) 1).run Tryz.prog w=.ok (.pointer (some ⟨b,1,none⟩)) w:=by kernel_rfl
theorem F5:One Tryz.prog 65:=by unfold One;exact⟨by kernel_rfl,by kernel_rfl⟩
theorem KR:(Tryz.prog.info? 4).map (·.size)=some 1:=by kernel_rfl
theorem F6:DH Tryz.prog 78 2:=by unfold DH;exact⟨by kernel_rfl,by kernel_rfl⟩
theorem Jq:Tryz.prog.eqGuardType Tryz.prog.depth 115=false:=by kernel_rfl
theorem IQ:Rg Tryz.prog 115 [true,true,false]:=OD Tryz.underlying115 (by kernel_rfl) (by kernel_rfl) AZ Tryz.underlying3 K3 Tryz.underlying4
theorem RJ:(Tryz.prog.info? 154).bind (·.zero)=some (.agg #[I 0,I 0]):=by kernel_rfl
theorem Uh:(Tryz.prog.info? 154).map (·.size)=some 2:=by kernel_rfl
theorem Ui:Bm Tryz.prog 88:=by unfold Bm;kernel_rfl
theorem RK:(Tryz.prog.info? 156).map (fun i=>(i.zero,i.size,i.bytes))=some (some (.agg #[I 0,I 0,I 0,I 0,I 0]),5,40):=by kernel_rfl
theorem Vi:(Tryz.prog.info? 73).map (·.size)=some 1:=by kernel_rfl
theorem QM:Bm Tryz.prog 80:=by unfold Bm;kernel_rfl
theorem SR:One Tryz.prog 168:=by unfold One;exact⟨by kernel_rfl,by kernel_rfl⟩
theorem G9:(Tryz.prog.info? 156).map (·.size)=some 5:=by kernel_rfl
theorem SS:Bm Tryz.prog 175:=by unfold Bm;kernel_rfl
theorem SU:Bm Tryz.prog 143:=by unfold Bm;kernel_rfl
theorem SV:Bm Tryz.prog 142:=by unfold Bm;kernel_rfl
theorem SW:One Tryz.prog 237:=by unfold One;exact⟨by kernel_rfl,by kernel_rfl⟩
theorem SX:Bm Tryz.prog 210:=by unfold Bm;kernel_rfl
theorem SY:Bm Tryz.prog 198:=by unfold Bm;kernel_rfl
theorem SZ:Bm Tryz.prog 197:=by unfold Bm;kernel_rfl
theorem O4(b:Nat)(w:World):(Instr.fieldAt 75 (.pointer (some ⟨b,0,none⟩)) 2).run Tryz.prog w=.ok (.pointer (some ⟨b,2,none⟩)) w:=by kernel_rfl
theorem O5(b:Nat)(w:World):(Instr.fieldAt 75 (.pointer (some ⟨b,0,none⟩)) 3).run Tryz.prog w=.ok (.pointer (some ⟨b,3,none⟩)) w:=by kernel_rfl
theorem IS:(Tryz.prog.info? 3).bind (·.zero)=some (I 0):=by kernel_rfl
theorem S0:Bm Tryz.prog 173:=by unfold Bm;kernel_rfl
theorem S1:Bm Tryz.prog 172:=by unfold Bm;kernel_rfl
theorem S2:Bm Tryz.prog 145:=by unfold Bm;kernel_rfl
theorem O6:Bm Tryz.prog 138:=by unfold Bm;kernel_rfl
theorem Jr(b:Nat)(w:World):(Instr.fieldAt 75 (.pointer (some ⟨b,0,none⟩)) 1).run Tryz.prog w=.ok (.pointer (some ⟨b,1,none⟩)) w:=by kernel_rfl
theorem Uj:Bm Tryz.prog 89:=by unfold Bm;kernel_rfl
theorem Uk:Bm Tryz.prog 91:=by unfold Bm;kernel_rfl
theorem QN:Bm Tryz.prog 92:=by unfold Bm;kernel_rfl
theorem O7:Bm Tryz.prog 144:=by unfold Bm;kernel_rfl
theorem LF:(Tryz.prog.info? 156).bind (·.zero)=some (.agg #[I 0,I 0,I 0,I 0,I 0]):=by kernel_rfl
theorem QO:Bm Tryz.prog 94:=by unfold Bm;kernel_rfl
theorem Ul:Bm Tryz.prog 93:=by unfold Bm;kernel_rfl
theorem Eb:One Tryz.prog 23:=by unfold One;exact⟨by kernel_rfl,by kernel_rfl⟩
theorem S3:One Tryz.prog 161:=by unfold One;exact⟨by kernel_rfl,by kernel_rfl⟩
theorem Og(b o:Nat)(w:World):(Instr.fieldAt 156 (.pointer (some ⟨b,o,none⟩)) 0).run Tryz.prog w=.ok (.pointer (some ⟨b,o,none⟩)) w:=by kernel_rfl
theorem RL(b o:Nat)(w:World):(Instr.fieldAt 154 (.pointer (some ⟨b,o,none⟩)) 0).run Tryz.prog w=.ok (.pointer (some ⟨b,o,none⟩)) w:=by kernel_rfl
theorem K6:One Tryz.prog 176:=by unfold One;exact⟨by kernel_rfl,by kernel_rfl⟩
theorem O8:Bm Tryz.prog 200:=by unfold Bm;kernel_rfl
theorem S4:(Tryz.prog.info? 23).bind (·.zero)=some (.slice none 0 0):=by kernel_rfl
theorem Ek:(Tryz.prog.info? 23).map (·.size)=some 1:=by kernel_rfl
theorem S5:(Tryz.prog.info? 65).bind (·.zero)=some (.slice none 0 0):=by kernel_rfl
theorem Sb:(Tryz.prog.info? 65).map (·.size)=some 1:=by kernel_rfl
theorem Oh:(Tryz.prog.info? 176).bind (·.zero)=some (.nilFunc):=by kernel_rfl
theorem QP:(Tryz.prog.info? 176).map (·.size)=some 1:=by kernel_rfl
theorem S6(w:World):(Op.equal 23 (.slice none 0 0) (.slice none 0 0)).run Tryz.prog w=.ok true w:=by kernel_rfl
theorem S7(ad:Addr)(n c:Nat)(w:World):(Op.equal 23 (.slice (some ad) n c) (.slice none 0 0)).run Tryz.prog w=.ok false w:=by kernel_rfl
theorem Mz:Bm Tryz.prog 149:=by unfold Bm;kernel_rfl
theorem S8(w:World):(Op.equal 65 (.slice none 0 0) (.slice none 0 0)).run Tryz.prog w=.ok true w:=by kernel_rfl
theorem S9(ad:Addr)(n c:Nat)(w:World):(Op.equal 65 (.slice (some ad) n c) (.slice none 0 0)).run Tryz.prog w=.ok false w:=by kernel_rfl
theorem MA:Bm Tryz.prog 150:=by unfold Bm;kernel_rfl
theorem HR:(Tryz.prog.info? 23).map (fun i=>(i.zero,i.size,i.bytes))=some (some (.slice none 0 0),1,24):=by kernel_rfl
theorem Ta(w:World):(Op.equal 64 (.slice none 0 0) (.slice none 0 0)).run Tryz.prog w=.ok true w:=by kernel_rfl
theorem Tb(ad:Addr)(n c:Nat)(w:World):(Op.equal 64 (.slice (some ad) n c) (.slice none 0 0)).run Tryz.prog w=.ok false w:=by kernel_rfl
theorem Tc:Bm Tryz.prog 153:=by unfold Bm;kernel_rfl
theorem Vj:∀(b c:Bool) (w:World),(Op.equal 4 (.bool b) (.bool c)).run Tryz.prog w=.ok (b==c) w:=by intro b c w;cases b<;>cases c<;>kernel_rfl
theorem HS(b:Nat)(w:World):(Instr.fieldAt 78 (.pointer (some ⟨b,0,none⟩)) 0).run Tryz.prog w=.ok (.pointer (some ⟨b,0,none⟩)) w:=by kernel_rfl
theorem O9:Lf Tryz.prog 220 2:=PE 2 Tryz.underlying220 (by kernel_rfl) rfl rfl AZ Tryz.underlying3
theorem Oi:Nr Tryz.prog 220 2:=Oy 2 Tryz.underlying220 rfl rfl AZ Tryz.underlying3
theorem M0:JH Tryz.prog 220:=by unfold JH;kernel_rfl
theorem Um:(Tryz.prog.info? 115).bind (·.zero)=some (.agg #[I 0,I 0,.bool false]):=by kernel_rfl
theorem Hq(b:Nat)(w:World):(Instr.fieldAt 220 (.pointer (some ⟨b,0,none⟩)) 1).run Tryz.prog w=.ok (.pointer (some ⟨b,1,none⟩)) w:=by kernel_rfl
theorem IT(b o:Nat)(w:World):(Instr.fieldAt 165 (.pointer (some ⟨b,o,none⟩)) 0).run Tryz.prog w=.ok (.pointer (some ⟨b,o,none⟩)) w:=by kernel_rfl
theorem MB(b o:Nat)(w:World):(Instr.fieldAt 75 (.pointer (some ⟨b,o,none⟩)) 0).run Tryz.prog w=.ok (.pointer (some ⟨b,o,none⟩)) w:=by kernel_rfl
theorem Pb(b o:Nat)(w:World):(Instr.fieldAt 75 (.pointer (some ⟨b,o,none⟩)) 4).run Tryz.prog w=.ok (.pointer (some ⟨b,o+4,none⟩)) w:=by kernel_rfl
theorem RM(b:Nat)(w:World):(Instr.fieldAt 220 (.pointer (some ⟨b,0,none⟩)) 0).run Tryz.prog w=.ok (.pointer (some ⟨b,0,none⟩)) w:=by kernel_rfl
theorem Oj(b o:Nat)(w:World):(Instr.fieldAt 165 (.pointer (some ⟨b,o,none⟩)) 1).run Tryz.prog w=.ok (.pointer (some ⟨b,o+5,none⟩)) w:=by kernel_rfl
theorem Ol(b o:Nat)(w:World):(Instr.fieldAt 165 (.pointer (some ⟨b,o,none⟩)) 2).run Tryz.prog w=.ok (.pointer (some ⟨b,o+6,none⟩)) w:=by kernel_rfl
theorem Pc:One Tryz.prog 163:=by unfold One;exact⟨by kernel_rfl,by kernel_rfl⟩
theorem MC:DH Tryz.prog 220 2:=by unfold DH;exact⟨by kernel_rfl,by kernel_rfl⟩
theorem Td:Bm Tryz.prog 174:=by unfold Bm;kernel_rfl
theorem RN:(Tryz.prog.info? 115).map (fun i=>(i.zero,i.size,i.bytes))=some (some (.agg #[I 0,I 0,.bool false]),3,24):=by kernel_rfl
theorem Te:Bm Tryz.prog 139:=by unfold Bm;kernel_rfl
theorem Tf:Bm Tryz.prog 137:=by unfold Bm;kernel_rfl
theorem Js:Bm Tryz.prog 35:=by unfold Bm;kernel_rfl
theorem Om:Bm Tryz.prog 85:=by unfold Bm;kernel_rfl
theorem Un:Bm Tryz.prog 86:=by unfold Bm;kernel_rfl
theorem Mc:Bm Tryz.prog 87:=by unfold Bm;kernel_rfl
theorem Oo:(Tryz.prog.info? 183).bind (·.zero)=some (.agg #[.nilFunc]):=by kernel_rfl
theorem QQ:(Tryz.prog.info? 183).map (·.size)=some 1:=by kernel_rfl
theorem Oq(b:Nat)(w:World):(Instr.fieldAt 183 (.pointer (some ⟨b,0,none⟩)) 0).run Tryz.prog w=.ok (.pointer (some ⟨b,0,none⟩)) w:=by kernel_rfl
theorem Pd:One Tryz.prog 180:=by unfold One;exact⟨by kernel_rfl,by kernel_rfl⟩
theorem Pe:Bm Tryz.prog 107:=by unfold Bm;kernel_rfl
theorem Pf:Bm Tryz.prog 103:=by unfold Bm;kernel_rfl
theorem RO:(Tryz.prog.info? 162).bind (·.zero)=some (.pointer none):=by kernel_rfl
theorem Tg:Bm Tryz.prog 176:=by unfold Bm;kernel_rfl
theorem It:One Tryz.prog 162:=by unfold One;exact⟨by kernel_rfl,by kernel_rfl⟩
theorem QR(w:World):(Op.equal 162 (.pointer none) (.pointer none)).run Tryz.prog w=.ok true w:=by kernel_rfl
theorem QS:(Tryz.prog.info? 162).map (·.size)=some 1:=by kernel_rfl
theorem MD:One Tryz.prog 223:=by unfold One;exact⟨by kernel_rfl,by kernel_rfl⟩
theorem Gn:One Tryz.prog 64:=by unfold One;exact⟨by kernel_rfl,by kernel_rfl⟩
theorem QT(ad:Addr)(w:World):(Op.equal 162 (.pointer (some ad)) (.pointer none)).run Tryz.prog w=.ok false w:=by kernel_rfl
theorem Th:Bm Tryz.prog 177:=by unfold Bm;kernel_rfl
theorem Ti:Bm Tryz.prog 199:=by unfold Bm;kernel_rfl
theorem IU:(Tryz.prog.info? 178).bind (·.zero)=some (.agg #[I 0,I 0,I 0,I 0]):=by kernel_rfl
theorem Tj:Bm Tryz.prog 147:=by unfold Bm;kernel_rfl
theorem Pg:Bm Tryz.prog 146:=by unfold Bm;kernel_rfl
theorem Iu:DH Tryz.prog 178 4:=by unfold DH;exact⟨by kernel_rfl,by kernel_rfl⟩
theorem Jt:(Tryz.prog.info? 178).map (·.size)=some 4:=by kernel_rfl
theorem Tk:Bm Tryz.prog 148:=by unfold Bm;kernel_rfl
theorem Uo:Bm Tryz.prog 96:=by unfold Bm;kernel_rfl
theorem Ot:Bm Tryz.prog 98:=by unfold Bm;kernel_rfl
theorem QU:Bm Tryz.prog 99:=by unfold Bm;kernel_rfl
theorem QV:Bm Tryz.prog 41:=by unfold Bm;kernel_rfl
theorem Ju:Bm Tryz.prog 30:=by unfold Bm;kernel_rfl
theorem Tl:Bm Tryz.prog 152:=by unfold Bm;kernel_rfl
theorem ME:Bm Tryz.prog 106:=by unfold Bm;kernel_rfl
theorem I5:(Tryz.prog.info? 64).map (·.size)=some 1:=by kernel_rfl
theorem Tm:DH Tryz.prog 183 1:=by unfold DH;exact⟨by kernel_rfl,by kernel_rfl⟩
theorem Tn:Tryz.prog.eqGuardType Tryz.prog.depth 178=false:=by kernel_rfl
theorem To:Lf Tryz.prog 178 4:=Qc Tryz.underlying178 AZ Tryz.underlying3
theorem Up:One Tryz.prog 69:=by unfold One;exact⟨by kernel_rfl,by kernel_rfl⟩
theorem Ph:Bm Tryz.prog 151:=by unfold Bm;kernel_rfl
theorem MF:(Tryz.prog.info? 64).bind (·.zero)=some (.slice none 0 0):=by kernel_rfl
theorem Tp:Bm Tryz.prog 105:=by unfold Bm;kernel_rfl
theorem Pj:Bm Tryz.prog 104:=by unfold Bm;kernel_rfl
theorem Tq:Bm Tryz.prog 108:=by unfold Bm;kernel_rfl
theorem HT:(Tryz.prog.info? 67).bind (·.zero)=some (.agg #[.slice none 0 0,.slice none 0 0]):=by kernel_rfl
theorem RP:(Tryz.prog.info? 116).bind (·.zero)=some (.agg #[I 0,I 0]):=by kernel_rfl
theorem Uq:(Tryz.prog.info? 116).map (·.size)=some 2:=by kernel_rfl
theorem Jv(b:Nat)(w:World):(Instr.fieldAt 67 (.pointer (some ⟨b,0,none⟩)) 0).run Tryz.prog w=.ok (.pointer (some ⟨b,0,none⟩)) w:=by kernel_rfl
theorem Jw(b:Nat)(w:World):(Instr.fieldAt 67 (.pointer (some ⟨b,0,none⟩)) 1).run Tryz.prog w=.ok (.pointer (some ⟨b,1,none⟩)) w:=by kernel_rfl
theorem IV:DH Tryz.prog 67 2:=by unfold DH;exact⟨by kernel_rfl,by kernel_rfl⟩
theorem K7:(Tryz.prog.info? 67).map (·.size)=some 2:=by kernel_rfl
theorem Ts:Bm Tryz.prog 101:=by unfold Bm;kernel_rfl
theorem Ur:Bm Tryz.prog 27:=by unfold Bm;kernel_rfl
theorem Us:Bm Tryz.prog 34:=by unfold Bm;kernel_rfl
theorem VD:(Tryz.prog.info? 5).map (·.size)=some 1:=by kernel_rfl
theorem Vk:One Tryz.prog 5:=by unfold One;exact⟨by kernel_rfl,by kernel_rfl⟩
theorem Ut:(Tryz.prog.underlying 5).isSome=true:=by kernel_rfl
theorem Tt:Bm Tryz.prog 110:=by unfold Bm;kernel_rfl
theorem Vl:(Tryz.prog.underlying 27).isSome=true:=by kernel_rfl
theorem HJ:Bm Tryz.prog 82:=by unfold Bm;kernel_rfl
theorem Uu:Bm Tryz.prog 83:=by unfold Bm;kernel_rfl
theorem Ou:Bm Tryz.prog 40:=by unfold Bm;kernel_rfl
theorem Uv:Bm Tryz.prog 50:=by unfold Bm;kernel_rfl
theorem Uw:Bm Tryz.prog 51:=by unfold Bm;kernel_rfl
theorem QW:Bm Tryz.prog 52:=by unfold Bm;kernel_rfl
theorem QX:Bm Tryz.prog 61:=by unfold Bm;kernel_rfl
theorem Ux:Bm Tryz.prog 84:=by unfold Bm;kernel_rfl
theorem Uy:Bm Tryz.prog 48:=by unfold Bm;kernel_rfl
theorem Uz:Bm Tryz.prog 49:=by unfold Bm;kernel_rfl
theorem UA:Bm Tryz.prog 55:=by unfold Bm;kernel_rfl
theorem Jx:Bm Tryz.prog 29:=by unfold Bm;kernel_rfl
theorem Jy:Bm Tryz.prog 31:=by unfold Bm;kernel_rfl
theorem Ov:Bm Tryz.prog 32:=by unfold Bm;kernel_rfl
theorem Md:Bm Tryz.prog 33:=by unfold Bm;kernel_rfl
theorem UB:Bm Tryz.prog 56:=by unfold Bm;kernel_rfl
theorem QY:Bm Tryz.prog 57:=by unfold Bm;kernel_rfl
theorem UC:Bm Tryz.prog 59:=by unfold Bm;kernel_rfl
theorem Pk:(Tryz.prog.info? 63).bind (·.zero)=some (.agg #[I 0,I 0,I 0,I 0,.slice none 0 0]):=by kernel_rfl
theorem Sc:(Tryz.prog.info? 63).map (·.size)=some 5:=by kernel_rfl
theorem Sd:(Tryz.prog.info? 61).map (·.size)=some 1:=by kernel_rfl
end HF
end Go.Proofs.YtkljfdkmjdjpfaaGreat
end
section
set_option linter.unusedVariables false
set_option linter.unusedSimpArgs false
namespace Go.Proofs.YtkljfdkmjdjpfaaGreat
open Go.RowKit Go.WideShapes
set_option maxRecDepth 20000
open HF
attribute [local irreducible] BM WL CC CW LV BO Ev DH One Bm
theorem Pm(n:Nat)(b:Int)(e:Int)(f:Int)(Z:Nat→Prop)(w:World)(m:Bool)(d:Et n b e f=some m):
 BO Tryz.prog 90 #[I b,I e,I f] w (fun v w'=>Ext w w'∧BY.R w' (ZZ FN [] Z w.heap.size []) v m):=by
 unfold Et at d;refine A5 (N:=15) Tryz.func90 rfl rfl (by simp) ?_;intro o h p;have g:=AN (i:=0) (v:=I b) h rfl;have k:=AN (i:=1) (v:=I e) h rfl;have l:=AN (i:=2) (v:=I f) h rfl;clear h;have j:Hp FN [] w [] w:=Hp.start (BQ.none w);refine Ae<|Ab<|wa rfl (v:=.bool false) rfl<|Af<|Aa<|Ae<|Ab<|wm rfl (v:=I e) k<|wm rfl (v:=I b) g<|wd rfl (fun st=>FH (ee st rfl) (ee st rfl))<|wm rfl (v:=.bool (decide (e≤b))) rfl ?_;rcases Ap (decide (e≤b)) with a|a
 ·replace d:=AF d a;refine Aq rfl rfl (Ad rfl a) rfl (by decide) (fun st=>AM (v:=I b) (ee st g))<|Aq rfl rfl (Ad rfl a) rfl (by decide) (fun st=>AM (v:=I f) (ee st l))<|Aq rfl rfl (Ad rfl a) rfl (by decide) (fun st=>FH (ee st rfl) (ee st rfl))<|wd rfl (fun st=>AU (v:=.bool (decide (b≤f))) (ee st rfl) a (ee st rfl))<|wa rfl (v:=.bool (decide (b≤f))) rfl<|Af<|Aa<|AH ?_;obtain rfl:=Option.some.inj d;refine AS rfl rfl ?_;exact⟨j.Bu,rfl⟩
 ·replace d:=AG d a;refine Ai (c:=false) rfl rfl (Ad rfl a) (by decide) rfl (by decide)<|Ai (c:=false) rfl rfl (Ad rfl a) (by decide) rfl (by decide)<|Ai (c:=false) rfl rfl (Ad rfl a) (by decide) rfl (by decide)<|wd rfl (fun st=>Bp (v:=.bool false) (ee st rfl) a (ee st rfl))<|wa rfl (v:=.bool false) rfl<|Af<|Aa<|AH ?_;obtain rfl:=Option.some.inj d;refine AS rfl rfl ?_;exact⟨j.Bu,rfl⟩
theorem Vs(m:Nat)(a:CJ)(Z:Nat→Prop)(w:World)(f:Int)(b:E7 m a=some f):
 BO Tryz.prog 94 #[.agg #[I a.Lo,I a.Hi]] w (fun v w'=>Ext w w'∧(El .i64).R w' (ZZ FN [] Z w.heap.size []) v f):=by
 unfold E7 at b;refine A5 (N:=9) Tryz.func94 rfl rfl (by simp) ?_;intro n g o;have e:=AN (i:=0) (v:=.agg #[I a.Lo,I a.Hi]) g rfl;clear g;have d:Hp FN [] w [] w:=Hp.start (BQ.none w);refine Ae<|Ab<|we rfl (fun st=>B1 (v:=.agg #[I a.Lo,I a.Hi]) (cs:= #[I a.Lo,I a.Hi]) (ee st e) rfl) ?_;rintro _ w1 ⟨p,rfl,c⟩;have h:=d.nb c;have l:=d.BK c;refine wa rfl (v:=I 0) rfl<|Af<|Aa<|Ae<|Ab<|wd rfl (fun st=>An (ee st rfl) (J5 _ _))<|wd rfl (fun st=>As (v:=I a.Hi) AZ (ee st rfl) c.bk rfl)<|wd rfl (fun st=>An (ee st rfl) (J6 _ _))<|wd rfl (fun st=>As (v:=I a.Lo) AZ (ee st rfl) c.bk rfl) ?_;replace b:=AV b;obtain⟨j,b⟩:=b;refine wd rfl (fun st=>Pz (ee st rfl) (ee st rfl) j) ?_;replace b:=AV b;obtain⟨k,b⟩:=b;refine wd rfl (fun st=>Bz (ee st rfl) (ee st rfl) k)<|wa rfl (v:=I ((a.Hi-a.Lo)+1)) rfl<|Af<|Aa<|AH ?_;obtain rfl:=Option.some.inj b;refine AS rfl rfl ?_;exact⟨h.Bu,rfl⟩
theorem VF(p:Nat)(a:CJ)(g:Int)(Z:Nat→Prop)(w:World)(n:Bool)(e:G3 p a g=some n):
 BO Tryz.prog 140 #[.agg #[I a.Lo,I a.Hi],I g] w (fun v w'=>Ext w w'∧BY.R w' (ZZ FN [] Z w.heap.size []) v n):=by
 unfold G3 at e;refine A5 (N:=21) Tryz.func140 rfl rfl (by simp) ?_;intro q k r;have l:=AN (i:=0) (v:=.agg #[I a.Lo,I a.Hi]) k rfl;have m:=AN (i:=1) (v:=I g) k rfl;clear k;have j:Hp FN [] w [] w:=Hp.start (BQ.none w);refine Ae<|Ab<|we rfl (fun st=>B1 (v:=.agg #[I a.Lo,I a.Hi]) (cs:= #[I a.Lo,I a.Hi]) (ee st l) rfl) ?_;rintro _ w1 ⟨s,rfl,f⟩;have h:=j.nb f;have o:=j.BK f;refine wa rfl (v:=.bool false) rfl<|Af<|Aa<|Ae<|Ab<|wd rfl (fun st=>An (ee st rfl) (J6 _ _))<|wd rfl (fun st=>As (v:=I a.Lo) AZ (ee st rfl) f.bk rfl)<|wd rfl (fun st=>FH (ee st rfl) (ee st rfl))<|wm rfl (v:=.bool (decide ((0:Int)≤a.Lo))) rfl ?_;rcases Ap (decide ((0:Int)≤a.Lo)) with b|b
 ·replace e:=AF e b;refine Aq rfl rfl (Ad rfl b) rfl (by decide) (fun st=>An (ee st rfl) (J6 _ _))<|Aq rfl rfl (Ad rfl b) rfl (by decide) (fun st=>As (v:=I a.Lo) AZ (ee st rfl) f.bk rfl)<|Aq rfl rfl (Ad rfl b) rfl (by decide) (fun st=>An (ee st rfl) (J5 _ _))<|Aq rfl rfl (Ad rfl b) rfl (by decide) (fun st=>As (v:=I a.Hi) AZ (ee st rfl) f.bk rfl)<|Aq rfl rfl (Ad rfl b) rfl (by decide) (fun st=>FH (ee st rfl) (ee st rfl))<|wd rfl (fun st=>AU (v:=.bool (decide (a.Lo≤a.Hi))) (ee st rfl) b (ee st rfl))<|wm rfl (v:=.bool (decide (a.Lo≤a.Hi))) rfl ?_;rcases Ap (decide (a.Lo≤a.Hi)) with d|d
  ·replace e:=AF e d;refine Aq rfl rfl (Ad rfl d) rfl (by decide) (fun st=>An (ee st rfl) (J5 _ _))<|Aq rfl rfl (Ad rfl d) rfl (by decide) (fun st=>As (v:=I a.Hi) AZ (ee st rfl) f.bk rfl)<|Aq rfl rfl (Ad rfl d) rfl (by decide) (fun st=>AM (v:=I g) (ee st m))<|Aq rfl rfl (Ad rfl d) rfl (by decide) (fun st=>FH (ee st rfl) (ee st rfl))<|wd rfl (fun st=>AU (v:=.bool (decide (a.Hi≤g))) (ee st rfl) d (ee st rfl))<|wa rfl (v:=.bool (decide (a.Hi≤g))) rfl<|Af<|Aa<|AH ?_;obtain rfl:=Option.some.inj e;refine AS rfl rfl ?_;exact⟨h.Bu,rfl⟩
  ·replace e:=AG e d;refine Ai (c:=false) rfl rfl (Ad rfl d) (by decide) rfl (by decide)<|Ai (c:=false) rfl rfl (Ad rfl d) (by decide) rfl (by decide)<|Ai (c:=false) rfl rfl (Ad rfl d) (by decide) rfl (by decide)<|Ai (c:=false) rfl rfl (Ad rfl d) (by decide) rfl (by decide)<|wd rfl (fun st=>Bp (v:=.bool false) (ee st rfl) d (ee st rfl))<|wa rfl (v:=.bool false) rfl<|Af<|Aa<|AH ?_;obtain rfl:=Option.some.inj e;refine AS rfl rfl ?_;exact⟨h.Bu,rfl⟩
 ·replace e:=AG e b;refine Ai (c:=false) rfl rfl (Ad rfl b) (by decide) rfl (by decide)<|Ai (c:=false) rfl rfl (Ad rfl b) (by decide) rfl (by decide)<|Ai (c:=false) rfl rfl (Ad rfl b) (by decide) rfl (by decide)<|Ai (c:=false) rfl rfl (Ad rfl b) (by decide) rfl (by decide)<|Ai (c:=false) rfl rfl (Ad rfl b) (by decide) rfl (by decide)<|wd rfl (fun st=>Bp (v:=.bool false) (ee st rfl) b (ee st rfl))<|wm rfl (v:=.bool false) rfl<|Ai rfl rfl rfl (by decide) rfl (by decide)<|Ai rfl rfl rfl (by decide) rfl (by decide)<|Ai rfl rfl rfl (by decide) rfl (by decide)<|Ai rfl rfl rfl (by decide) rfl (by decide)<|wd rfl (fun st=>Bp (v:=.bool false) (ee st rfl) rfl (ee st rfl))<|wa rfl (v:=.bool false) rfl<|Af<|Aa<|AH ?_;obtain rfl:=Option.some.inj e;refine AS rfl rfl ?_;exact⟨h.Bu,rfl⟩
theorem a141(d:Nat)(b:Int)(Z:Nat→Prop)(w:World)(e:Bool)(a:GR d b=some e):
 BO Tryz.prog 141 #[I b] w (fun v w'=>Ext w w'∧BY.R w' (ZZ FN [] Z w.heap.size []) v e):=by
 unfold GR at a;refine A5 (N:=5) Tryz.func141 rfl rfl (by simp) ?_;intro l f m;have c:=AN (i:=0) (v:=I b) f rfl;clear f;have g:Hp FN [] w [] w:=Hp.start (BQ.none w);refine Ae<|Ab<|wa rfl (v:=.bool false) rfl<|Af<|Aa<|Ae<|Ab<|wm rfl (v:=I b) c ?_;replace a:=bind_some a;obtain⟨r1,h,a⟩:=a;refine we rfl (fun st=>AJ Jo (ee st rfl) (Fb (ee st rfl) (ee st rfl) (ee st rfl)) (Pm d b 1 5 ZA _ r1 h)) ?_;rintro _ w2 ⟨j,rfl⟩;have k:=g.ext j;refine wa rfl (v:=.bool r1) rfl<|Af<|Aa<|AH ?_;obtain rfl:=Option.some.inj a;refine AS rfl rfl ?_;exact⟨k.Bu,rfl⟩
theorem a46(n:Nat)(b:Int)(e:Int)(f:Int)(Z:Nat→Prop)(w:World)(m:Bool)(d:D2 n b e f=some m):
 BO Tryz.prog 46 #[I b,I e,I f] w (fun v w'=>Ext w w'∧BY.R w' (ZZ FN [] Z w.heap.size []) v m):=by
 unfold D2 at d;refine A5 (N:=15) Tryz.func46 rfl rfl (by simp) ?_;intro o h p;have g:=AN (i:=0) (v:=I b) h rfl;have k:=AN (i:=1) (v:=I e) h rfl;have l:=AN (i:=2) (v:=I f) h rfl;clear h;have j:Hp FN [] w [] w:=Hp.start (BQ.none w);refine Ae<|Ab<|wa rfl (v:=.bool false) rfl<|Af<|Aa<|Ae<|Ab<|wm rfl (v:=I b) g<|wm rfl (v:=I e) k<|wd rfl (fun st=>LK (ee st rfl) (ee st rfl))<|wm rfl (v:=.bool (decide (e≤b))) rfl ?_;rcases Ap (decide (e≤b)) with a|a
 ·replace d:=AF d a;refine Aq rfl rfl (Ad rfl a) rfl (by decide) (fun st=>AM (v:=I b) (ee st g))<|Aq rfl rfl (Ad rfl a) rfl (by decide) (fun st=>AM (v:=I f) (ee st l))<|Aq rfl rfl (Ad rfl a) rfl (by decide) (fun st=>FH (ee st rfl) (ee st rfl))<|wd rfl (fun st=>AU (v:=.bool (decide (b≤f))) (ee st rfl) a (ee st rfl))<|wa rfl (v:=.bool (decide (b≤f))) rfl<|Af<|Aa<|AH ?_;obtain rfl:=Option.some.inj d;refine AS rfl rfl ?_;exact⟨j.Bu,rfl⟩
 ·replace d:=AG d a;refine Ai (c:=false) rfl rfl (Ad rfl a) (by decide) rfl (by decide)<|Ai (c:=false) rfl rfl (Ad rfl a) (by decide) rfl (by decide)<|Ai (c:=false) rfl rfl (Ad rfl a) (by decide) rfl (by decide)<|wd rfl (fun st=>Bp (v:=.bool false) (ee st rfl) a (ee st rfl))<|wa rfl (v:=.bool false) rfl<|Af<|Aa<|AH ?_;obtain rfl:=Option.some.inj d;refine AS rfl rfl ?_;exact⟨j.Bu,rfl⟩
theorem RQ(m:Nat)(a:CJ)(Z:Nat→Prop)(w:World)(f:Int)(b:Eo m a=some f):
 BO Tryz.prog 136 #[.agg #[I a.Lo,I a.Hi]] w (fun v w'=>Ext w w'∧(El .i64).R w' (ZZ FN [] Z w.heap.size []) v f):=by
 unfold Eo at b;refine A5 (N:=9) Tryz.func136 rfl rfl (by simp) ?_;intro n g o;have e:=AN (i:=0) (v:=.agg #[I a.Lo,I a.Hi]) g rfl;clear g;have d:Hp FN [] w [] w:=Hp.start (BQ.none w);refine Ae<|Ab<|we rfl (fun st=>B1 (v:=.agg #[I a.Lo,I a.Hi]) (cs:= #[I a.Lo,I a.Hi]) (ee st e) rfl) ?_;rintro _ w1 ⟨p,rfl,c⟩;have h:=d.nb c;have l:=d.BK c;refine wa rfl (v:=I 0) rfl<|Af<|Aa<|Ae<|Ab<|wd rfl (fun st=>An (ee st rfl) (J7 _ _))<|wd rfl (fun st=>As (v:=I a.Hi) AZ (ee st rfl) c.bk rfl)<|wd rfl (fun st=>An (ee st rfl) (IN _ _))<|wd rfl (fun st=>As (v:=I a.Lo) AZ (ee st rfl) c.bk rfl) ?_;replace b:=AV b;obtain⟨j,b⟩:=b;refine wd rfl (fun st=>Pz (ee st rfl) (ee st rfl) j) ?_;replace b:=AV b;obtain⟨k,b⟩:=b;refine wd rfl (fun st=>Bz (ee st rfl) (ee st rfl) k)<|wa rfl (v:=I ((a.Hi-a.Lo)+1)) rfl<|Af<|Aa<|AH ?_;obtain rfl:=Option.some.inj b;refine AS rfl rfl ?_;exact⟨h.Bu,rfl⟩
theorem Se(n:Nat)(b:Int)(c:Int)(Z:Nat→Prop)(w:World)(h:Bool)(a:Eh n b c=some h):
 BO Tryz.prog 54 #[I b,I c] w (fun v w'=>Ext w w'∧BY.R w' (ZZ FN [] Z w.heap.size []) v h):=by
 unfold Eh at a;refine A5 (N:=11) Tryz.func54 rfl rfl (by simp) ?_;intro o e p;have f:=AN (i:=0) (v:=I b) e rfl;have g:=AN (i:=1) (v:=I c) e rfl;clear e;have j:Hp FN [] w [] w:=Hp.start (BQ.none w);refine Ae<|Ab<|wa rfl (v:=.bool false) rfl<|Af<|Aa<|Ae<|Ab<|wm rfl (v:=I b) f<|wm rfl (v:=I c) g ?_;replace a:=IE a;obtain⟨l,a⟩:=a;refine wd rfl (fun st=>Kg (k:=.u64) Uf Tryz.underlying32 (ee st rfl) l) ?_;replace a:=MM a;obtain⟨m,a⟩:=a;refine wd rfl (fun st=>R1 (ee st rfl) (ee st rfl) m) ?_;replace a:=GK a;obtain⟨d,a⟩:=a;refine wd rfl (fun st=>If (ee st rfl) (ee st rfl) d.1 d.2)<|wd rfl (fun st=>Cv (ee st rfl) (ee st rfl))<|wa rfl (v:=.bool (((Fp b c)%2)==1)) rfl<|Af<|Aa<|AH ?_;obtain rfl:=Option.some.inj a;refine AS rfl rfl ?_;exact⟨j.Bu,rfl⟩
theorem Vt(s:Nat)(a:Int)(b:Int)(c:Bool)(Z:Nat→Prop)(w:World)(m:Au)(o:EW s a b c=some m):
 BO Tryz.prog 61 #[I a,I b,.bool c] w (fun v w'=>Ext w w'∧(CP BR).R w' (ZZ FN [] Z w.heap.size []) v m):=by
 unfold EW at o;refine A5 (N:=11) Tryz.func61 rfl rfl (by simp) ?_;intro t e u;have h:=AN (i:=0) (v:=I a) e rfl;have j:=AN (i:=1) (v:=I b) e rfl;have k:=AN (i:=2) (v:=.bool c) e rfl;clear e;have f:Hp FN [] w [] w:=Hp.start (BQ.none w);refine Ae<|Ab<|we rfl (fun st=>BI (cs:= #[I 0,I 0,.bool false]) Hn rfl) ?_;rintro _ w1 ⟨x,rfl,d⟩;have p:=f.nb d;have r:=f.BK d;refine Af<|Aa<|Ae<|Ab<|wm rfl (v:=I a) h<|wm rfl (v:=I b) j<|wm rfl (v:=.bool c) k<|wd rfl (fun st=>C0 (vs:= #[(0,I a),(1,I b),(2,.bool c)]) (v:=.agg #[I a,I b,.bool c]) (Ki (ee st rfl) (ee st rfl) (ee st rfl)) (by kernel_rfl))<|Bh rfl rfl (fun st=>Ba (n:=3) (l:=[I a,I b,.bool c]) (Ca:= #[I a,I b,.bool c]) (ee st rfl) (ee st rfl) Ea d.bk rfl rfl (show 0+3≤3 by decide) (AP rfl) rfl) ?_;rintro _ w2 g;have q:=p.gr g.gr 0 rfl;refine Af<|Aa<|AH ?_;obtain rfl:=Option.some.inj o;refine FW (v:=.agg #[I a,I b,.bool c]) rfl rfl (CR Du g.bk rfl rfl) ?_;exact⟨q.Bu,⟨_,rfl,rfl⟩⟩
theorem V0(n:Nat)(a:Ao)(e:Int)(b:Option Addr)(c:Nat)(Z:Nat→Prop)(w:World)(g:Sl AO w Z b c a.Ac)(o:Bool)(d:FP n a e=some o):
 BO Tryz.prog 96 #[.agg #[I a.Aj,I a.Ah,I a.Am,I a.Ax,.slice b a.Ac.length c],I e] w (fun v w'=>Ext w w'∧BY.R w' (ZZ FN [] Z w.heap.size []) v o):=by
 unfold FP at d;refine A5 (N:=11) Tryz.func96 rfl rfl (by simp) ?_;intro y j z;have k:=AN (i:=0) (v:=.agg #[I a.Aj,I a.Ah,I a.Am,I a.Ax,.slice b a.Ac.length c]) j rfl;have l:=AN (i:=1) (v:=I e) j rfl;clear j;have h:Hp FN [] w [] w:=Hp.start (BQ.none w);have m:=g.mv (Bq (Z:=Z) (L:=[]) w);refine Ae<|Ab<|we rfl (fun st=>B1 (v:=.agg #[I a.Aj,I a.Ah,I a.Am,I a.Ax,.slice b a.Ac.length c]) (cs:= #[I a.Aj,I a.Ah,I a.Am,I a.Ax,.slice b a.Ac.length c]) (ee st k) rfl) ?_;rintro _ w1 ⟨aA,rfl,f⟩;have p:=h.nb f;have x:=h.BK f;refine wa rfl (v:=.bool false) rfl<|Af<|Aa<|Ae<|Ab<|wm rfl (v:=I e) l<|wd rfl (fun st=>An (ee st rfl) (C9 _ _))<|wd rfl (fun st=>As (v:=.slice b a.Ac.length c) Dx (ee st rfl) f.bk rfl)<|wd rfl (fun st=>BP Tryz.underlying73 (ee st rfl)) ?_;replace d:=AV d;obtain⟨q,d⟩:=d;refine wd rfl (fun st=>Pz (ee st rfl) (ee st rfl) q) ?_;replace d:=bind_some d;obtain⟨r,s,d⟩:=d;refine we rfl (fun st=>AJ Jo (ee st rfl) (Fb (ee st rfl) (ee st rfl) (ee st rfl)) (Pm n e 0 ((a.Ac.length:Int)-1) ZA _ r s)) ?_;rintro _ aB ⟨t,rfl⟩;have u:=p.ext t;refine wa rfl (v:=.bool r) rfl<|Af<|Aa<|AH ?_;obtain rfl:=Option.some.inj d;refine AS rfl rfl ?_;exact⟨u.Bu,rfl⟩
theorem UD(s:Nat)(a:AY)(d:Au)(Z:Nat→Prop)(w:World)(p:Bool)(f:Dg s a d=some p):
 BO Tryz.prog 97 #[.agg #[I a.Ar,I a.AD,I a.AQ,I a.B9,I a.Ck],.agg #[I d.On,I d.Be,.bool d.AQ]] w (fun v w'=>Ext w w'∧BY.R w' (ZZ FN [] Z w.heap.size []) v p):=by
 unfold Dg at f;refine A5 (N:=14) Tryz.func97 rfl rfl (by simp) ?_;intro t m u;have n:=AN (i:=0) (v:=.agg #[I a.Ar,I a.AD,I a.AQ,I a.B9,I a.Ck]) m rfl;have o:=AN (i:=1) (v:=.agg #[I d.On,I d.Be,.bool d.AQ]) m rfl;clear m;have j:Hp FN [] w [] w:=Hp.start (BQ.none w);refine Ae<|Ab<|we rfl (fun st=>B1 (v:=.agg #[I a.Ar,I a.AD,I a.AQ,I a.B9,I a.Ck]) (cs:= #[I a.Ar,I a.AD,I a.AQ,I a.B9,I a.Ck]) (ee st n) rfl) ?_;rintro _ w1 ⟨x,rfl,g⟩;have k:=j.nb g;have q:=j.BK g;refine we rfl (fun st=>B1 (v:=.agg #[I d.On,I d.Be,.bool d.AQ]) (cs:= #[I d.On,I d.Be,.bool d.AQ]) (ee st o) rfl) ?_;rintro _ w2 ⟨y,rfl,e⟩;have l:=k.nb e;have r:=k.BK e;refine wa rfl (v:=.bool false) rfl<|Af<|Aa<|Ae<|Ab<|wd rfl (fun st=>An (ee st rfl) (RI _ _))<|wd rfl (fun st=>As (v:=.bool d.AQ) K3 (ee st rfl) e.bk rfl)<|wm rfl (v:=.bool d.AQ) rfl ?_;rcases Ap (d.AQ) with b|b
 ·replace f:=AF f b;refine Aq rfl rfl (Ad rfl b) rfl (by decide) (fun st=>An (ee st rfl) (LC _ _))<|Aq rfl rfl (Ad rfl b) rfl (by decide) (fun st=>As (v:=I d.Be) AZ (ee st rfl) e.bk rfl)<|Aq rfl rfl (Ad rfl b) rfl (by decide) (fun st=>An (ee st rfl) (N8 _ _)) ?_;have h:=(g.bk.ext e.gr);refine Aq rfl rfl (Ad rfl b) rfl (by decide) (fun st=>As (v:=I a.Ck) AZ (ee st rfl) h rfl)<|Aq rfl rfl (Ad rfl b) rfl (by decide) (fun st=>FH (ee st rfl) (ee st rfl))<|wd rfl (fun st=>AU (v:=.bool (decide (d.Be≤a.Ck))) (ee st rfl) b (ee st rfl))<|wa rfl (v:=.bool (decide (d.Be≤a.Ck))) rfl<|Af<|Aa<|AH ?_;obtain rfl:=Option.some.inj f;refine AS rfl rfl ?_;exact⟨l.Bu,rfl⟩
 ·replace f:=AG f b;refine Ai (c:=false) rfl rfl (Ad rfl b) (by decide) rfl (by decide)<|Ai (c:=false) rfl rfl (Ad rfl b) (by decide) rfl (by decide)<|Ai (c:=false) rfl rfl (Ad rfl b) (by decide) rfl (by decide)<|Ai (c:=false) rfl rfl (Ad rfl b) (by decide) rfl (by decide)<|Ai (c:=false) rfl rfl (Ad rfl b) (by decide) rfl (by decide)<|wd rfl (fun st=>Bp (v:=.bool false) (ee st rfl) b (ee st rfl))<|wa rfl (v:=.bool false) rfl<|Af<|Aa<|AH ?_;obtain rfl:=Option.some.inj f;refine AS rfl rfl ?_;exact⟨l.Bu,rfl⟩
theorem a107(n:Nat)(a:AY)(b:Au)(Z:Nat→Prop)(w:World)(o:Bool)(d:Ep n a b=some o):
 BO Tryz.prog 107 #[.agg #[I a.Ar,I a.AD,I a.AQ,I a.B9,I a.Ck],.agg #[I b.On,I b.Be,.bool b.AQ]] w (fun v w'=>Ext w w'∧BY.R w' (ZZ FN [] Z w.heap.size []) v o):=by
 unfold Ep at d;refine A5 (N:=9) Tryz.func107 rfl rfl (by simp) ?_;intro y j z;have k:=AN (i:=0) (v:=.agg #[I a.Ar,I a.AD,I a.AQ,I a.B9,I a.Ck]) j rfl;have m:=AN (i:=1) (v:=.agg #[I b.On,I b.Be,.bool b.AQ]) j rfl;clear j;have g:Hp FN [] w [] w:=Hp.start (BQ.none w);refine Ae<|Ab<|we rfl (fun st=>B1 (v:=.agg #[I a.Ar,I a.AD,I a.AQ,I a.B9,I a.Ck]) (cs:= #[I a.Ar,I a.AD,I a.AQ,I a.B9,I a.Ck]) (ee st k) rfl) ?_;rintro _ w1 ⟨aA,rfl,e⟩;have h:=g.nb e;have u:=g.BK e;refine we rfl (fun st=>B1 (v:=.agg #[I b.On,I b.Be,.bool b.AQ]) (cs:= #[I b.On,I b.Be,.bool b.AQ]) (ee st m) rfl) ?_;rintro _ w2 ⟨aB,rfl,c⟩;have p:=h.nb c;have x:=h.BK c;refine wa rfl (v:=.bool false) rfl<|Af<|Aa<|Ae<|Ab ?_;have f:=(e.bk.ext c.gr);refine wd rfl (fun st=>A8 (l:=[I a.Ar,I a.AD,I a.AQ,I a.B9,I a.Ck]) Ht (ee st rfl) f rfl rfl)<|wd rfl (fun st=>A8 (l:=[I b.On,I b.Be,.bool b.AQ]) Du (ee st rfl) c.bk rfl rfl) ?_;replace d:=bind_some d;obtain⟨q,r,d⟩:=d;refine we rfl (fun st=>AJ N9 (ee st rfl) (EU (ee st rfl) (ee st rfl)) (UD n a b ZA _ q r)) ?_;rintro _ aC ⟨s,rfl⟩;have t:=p.ext s;refine wd rfl (fun st=>Di (ee st rfl))<|wa rfl (v:=.bool !q) rfl<|Af<|Aa<|AH ?_;obtain rfl:=Option.some.inj d;refine AS rfl rfl ?_;exact⟨t.Bu,rfl⟩
end Go.Proofs.YtkljfdkmjdjpfaaGreat
end
section
set_option linter.unusedVariables false
set_option linter.unusedSimpArgs false
namespace Go.Proofs.YtkljfdkmjdjpfaaGreat
open Go.RowKit Go.WideShapes
set_option maxRecDepth 20000
open HF
attribute [local irreducible] BM WL CC CW LV BO Ev DH One Bm
theorem V1(aW:Nat)(b:Ao)(z:Int)(h:Option Addr)(j:Nat)(Z:Nat→Prop)(w:World)(cA:Sl AO w Z h j b.Ac)(c8:Bool)(a:EA aW b z=some c8):
 BO Tryz.prog 95 #[.agg #[I b.Aj,I b.Ah,I b.Am,I b.Ax,.slice h b.Ac.length j],I z] w (fun v w'=>Ext w w'∧BY.R w' (ZZ FN [] Z w.heap.size []) v c8):=by
 unfold EA at a;refine A5 (N:=46) Tryz.func95 rfl rfl (by simp) ?_;intro dV cL dW;have cM:=AN (i:=0) (v:=.agg #[I b.Aj,I b.Ah,I b.Am,I b.Ax,.slice h b.Ac.length j]) cL rfl;have cN:=AN (i:=1) (v:=I z) cL rfl;clear cL;have cI:Hp FN [] w [] w:=Hp.start (BQ.none w);have bM:=cA.mv (Bq (Z:=Z) (L:=[]) w);refine Ae<|Ab<|we rfl (fun st=>B1 (v:=.agg #[I b.Aj,I b.Ah,I b.Am,I b.Ax,.slice h b.Ac.length j]) (cs:= #[I b.Aj,I b.Ah,I b.Am,I b.Ax,.slice h b.Ac.length j]) (ee st cM) rfl) ?_;rintro _ w1 ⟨m,rfl,bF⟩;have c9:=cI.nb bF;have dO:=cI.BK bF;refine wa rfl (v:=.bool false) rfl<|Af<|Aa<|Ae<|Ab<|wa rfl (v:=I 0) rfl<|Af<|Aa<|Ae<|Ae<|Ab<|wa rfl (v:=I 0) rfl<|Af<|Aa<|Bc ?_;replace a:=bind_some a;obtain⟨z2,aX,a⟩:=a;refine Ct (fun aZ d o=>(aZ=.ret∧∃aI,z2=.inl aI∧d.tmps.size=46∧d.defers=(X0).ds∧sl d 4=.bool aI∧Hp FN [] w [some m] o)∨(aZ=.exit 0∧∃aI,z2=.inr aI∧d.tmps.size=46∧d.defers=(X0).ds∧sl d 2=pt m 0∧sl d 5=I aI∧Hp FN [] w [some m] o∧Bk o m 63 #[I b.Aj,I b.Ah,I b.Am,I b.Ax,.slice h b.Ac.length j]∧Sl AO o (ZZ FN [] Z w.heap.size [some m]) h j b.Ac)) ?dA ?dB
 case dA=>
  clear a;refine Cs (fun(aG:Nat) (d:Act) (o:World)=>∃n,∃e,CL aW b z aG n e=some z2∧d.tmps.size=46∧d.defers=(X0).ds∧sl d 1=I z∧sl d 2=pt m 0∧sl d 5=I n∧sl d 6=I e∧Hp FN [] w [some m] o∧Bk o m 63 #[I b.Aj,I b.Ah,I b.Am,I b.Ax,.slice h b.Ac.length j]∧Sl AO o (ZZ FN [] Z w.heap.size [some m]) h j b.Ac) aW ?dC ?dD
  case dC=>
   intro st;have bN:=(bM.mv (Av bF));exact⟨(0:Int),(0:Int),aX,qz st,qd st,sp st 1 cN,sp st 2 rfl,sp st 5 rfl,sp st 6 rfl,c9,bF.bk,bN⟩
  case dD=>
   rintro(_|aG) dX dY ⟨n,e,aX,cO,cP,a0,aQ,a2,aC,cJ,aJ,aH⟩
   ·exact absurd (show none=some _ from aX) (by simp)
   rw[CL.eq_2] at aX;have a:=aX;clear aX;refine B6 (N:=46) cO cP<|Ae<|Ae<|Ab<|wm rfl (v:=I e) aC<|wd rfl (fun st=>An (ee st aQ) (Gh _ _))<|wd rfl (fun st=>As (v:=I b.Aj) AZ (ee st rfl) aJ rfl)<|wd rfl (fun st=>FH (ee st rfl) (ee st rfl))<|Af<|Aa ?_;rcases Ap (decide (e≤b.Aj)) with a6|a6
   ·replace a:=AF a a6;refine AA rfl a6<|AW<|Aa<|Ae<|Bc<|Ae<|Ae<|Ab<|wm rfl (v:=I z) a0<|wm rfl (v:=I e) aC ?_;replace a:=bind_some a;obtain⟨dE,dF,a⟩:=a;refine we rfl (fun st=>AJ Mb (ee st rfl) (EU (ee st rfl) (ee st rfl)) (Se aW z e ZA _ dE dF)) ?_;rintro _ d5 ⟨a7,rfl⟩;have cK:=cJ.ext a7;refine Af<|Aa ?_;rcases Ap (dE) with a8|a8
    ·replace a:=AF a a8;refine AA rfl a8<|Ab<|wm rfl (v:=I n) a2 ?_;replace a:=AV a;obtain⟨dG,a⟩:=a;refine wd rfl (fun st=>Bz (ee st rfl) (ee st rfl) dG)<|wa rfl (v:=I (n+1)) rfl<|Af<|Aa<|Ae<|Ab<|wa rfl (v:=.bool true) rfl<|Af<|Aa<|Ae<|Ae<|Ab<|wm rfl (v:=I e) aC<|wa rfl (v:=I e) rfl<|Af<|Aa<|Bc ?_;replace a:=bind_some a;obtain⟨cB,aY,a⟩:=a;refine Ct (fun aZ d o=>(aZ=.exit 2∧d.tmps.size=46∧d.defers=(X0).ds∧sl d 1=I z∧sl d 2=pt m 0∧sl d 5=I (n+1)∧sl d 6=I e∧sl d 7=.bool cB∧Hp FN [] w [some m] o∧Bk o m 63 #[I b.Aj,I b.Ah,I b.Am,I b.Ax,.slice h b.Ac.length j]∧Sl AO o (ZZ FN [] Z w.heap.size [some m]) h j b.Ac)) ?dH ?dI
     case dH=>
      clear a;refine Cs (fun(aG:Nat) (d:Act) (o:World)=>∃aN,∃g,Cx aW b z e aG aN g=some cB∧d.tmps.size=46∧d.defers=(X0).ds∧sl d 1=I z∧sl d 2=pt m 0∧sl d 5=I (n+1)∧sl d 6=I e∧sl d 7=.bool aN∧sl d 8=I g∧Hp FN [] w [some m] o∧Bk o m 63 #[I b.Aj,I b.Ah,I b.Am,I b.Ax,.slice h b.Ac.length j]∧Sl AO o (ZZ FN [] Z w.heap.size [some m]) h j b.Ac) aW ?dJ ?dK
      case dJ=>
       intro st;have a3:=(aJ.ext a7);have aO:=(aH.mv (Ak a7));exact⟨true,e,aY,qz st,qd st,sp st 1 a0,sp st 2 aQ,sp st 5 rfl,sp st 6 aC,sp st 7 rfl,sp st 8 rfl,cK,a3,aO⟩
      case dK=>
       rintro(_|aG) dZ d0 ⟨aN,g,aY,cQ,cR,aK,aD,aR,aL,bG,aE,bH,t,y⟩
       ·exact absurd (show none=some _ from aY) (by simp)
       rw[Cx.eq_2] at aY;have a:=aY;clear aY;refine B6 (N:=46) cQ cR<|Ae<|Ae<|Ab<|wm rfl (v:=I g) aE<|wm rfl (v:=I e) aL<|wd rfl (fun st=>An (ee st aD) (K4 _ _))<|wd rfl (fun st=>As (v:=I b.Ax) AZ (ee st rfl) t rfl) ?_;replace a:=AV a;obtain⟨dL,a⟩:=a;refine wd rfl (fun st=>Bz (ee st rfl) (ee st rfl) dL)<|wd rfl (fun st=>FH (ee st rfl) (ee st rfl))<|Af<|Aa ?_;rcases Ap (decide (g≤(e+b.Ax))) with aS|aS
       ·replace a:=AF a aS;refine AA rfl aS<|AW<|Aa<|Ae<|Bc<|Ab<|wm rfl (v:=.bool aN) bG<|wm rfl (v:=.bool aN) rfl ?_;rcases Ap (aN) with k|k
        ·replace a:=AF a k;refine Aq rfl rfl (Ad rfl k) rfl (by decide) (fun st=>AM (v:=I g) (ee st aE))<|Aq rfl rfl (Ad rfl k) rfl (by decide) (fun st=>An (ee st aD) (Gh _ _))<|Aq rfl rfl (Ad rfl k) rfl (by decide) (fun st=>As (v:=I b.Aj) AZ (ee st rfl) t rfl)<|Aq rfl rfl (Ad rfl k) rfl (by decide) (fun st=>FH (ee st rfl) (ee st rfl))<|wd rfl (fun st=>AU (v:=.bool (decide (g≤b.Aj))) (ee st rfl) k (ee st rfl))<|wm rfl (v:=.bool (decide (g≤b.Aj))) rfl ?_;rcases Ap (decide (g≤b.Aj)) with q|q
         ·replace a:=AF a q;refine Aq rfl rfl (Ad rfl q) rfl (by decide) (fun st=>AM (v:=I z) (ee st aK))<|Aq rfl rfl (Ad rfl q) rfl (by decide) (fun st=>AM (v:=I g) (ee st aE)) ?_;replace a:=bind_some a;obtain⟨bI,cS,a⟩:=a;refine DW rfl rfl (Ad rfl q) rfl (by decide) (fun st=>AJ Mb (ee st rfl) (EU (ee st rfl) (ee st rfl)) (Se aW z g ZA _ bI cS)) ?_;rintro _ d1 ⟨bB,rfl⟩;have dM:=bH.ext bB;refine wd rfl (fun st=>AU (v:=.bool bI) (ee st rfl) q (ee st rfl))<|wa rfl (v:=.bool bI) rfl<|Af<|Br<|Aa<|Ab<|wm rfl (v:=I g) aE ?_;replace a:=AV a;obtain⟨cT,a⟩:=a;refine wd rfl (fun st=>Bz (ee st rfl) (ee st rfl) cT)<|wa rfl (v:=I (g+1)) rfl<|Af ?_;have cC:=(t.ext bB);have bO:=(y.mv (Ak bB));refine BB aG (Nat.lt_succ_self _) (fun st=>?_);exact⟨bI,(g+1),a,qz st,qd st,sp st 1 aK,sp st 2 aD,sp st 5 aR,sp st 6 aL,sp st 7 rfl,sp st 8 rfl,dM,cC,bO⟩
         ·replace a:=AG a q;refine Ai (c:=false) rfl rfl (Ad rfl q) (by decide) rfl (by decide)<|Ai (c:=false) rfl rfl (Ad rfl q) (by decide) rfl (by decide)<|Ai (c:=false) rfl rfl (Ad rfl q) (by decide) rfl (by decide)<|wd rfl (fun st=>Bp (v:=.bool false) (ee st rfl) q (ee st rfl))<|wa rfl (v:=.bool false) rfl<|Af<|Br<|Aa<|Ab<|wm rfl (v:=I g) aE ?_;replace a:=AV a;obtain⟨cU,a⟩:=a;refine wd rfl (fun st=>Bz (ee st rfl) (ee st rfl) cU)<|wa rfl (v:=I (g+1)) rfl<|Af ?_;refine BB aG (Nat.lt_succ_self _) (fun st=>?_);exact⟨false,(g+1),a,qz st,qd st,sp st 1 aK,sp st 2 aD,sp st 5 aR,sp st 6 aL,sp st 7 rfl,sp st 8 rfl,bH,t,y⟩
        ·replace a:=AG a k;refine Ai (c:=false) rfl rfl (Ad rfl k) (by decide) rfl (by decide)<|Ai (c:=false) rfl rfl (Ad rfl k) (by decide) rfl (by decide)<|Ai (c:=false) rfl rfl (Ad rfl k) (by decide) rfl (by decide)<|Ai (c:=false) rfl rfl (Ad rfl k) (by decide) rfl (by decide)<|wd rfl (fun st=>Bp (v:=.bool false) (ee st rfl) k (ee st rfl))<|wm rfl (v:=.bool false) rfl<|Ai rfl rfl rfl (by decide) rfl (by decide)<|Ai rfl rfl rfl (by decide) rfl (by decide)<|Ai rfl rfl rfl (by decide) rfl (by decide)<|wd rfl (fun st=>Bp (v:=.bool false) (ee st rfl) rfl (ee st rfl))<|wa rfl (v:=.bool false) rfl<|Af<|Br<|Aa<|Ab<|wm rfl (v:=I g) aE ?_;replace a:=AV a;obtain⟨cV,a⟩:=a;refine wd rfl (fun st=>Bz (ee st rfl) (ee st rfl) cV)<|wa rfl (v:=I (g+1)) rfl<|Af ?_;refine BB aG (Nat.lt_succ_self _) (fun st=>?_);exact⟨false,(g+1),a,qz st,qd st,sp st 1 aK,sp st 2 aD,sp st 5 aR,sp st 6 aL,sp st 7 rfl,sp st 8 rfl,bH,t,y⟩
       ·replace a:=AG a aS;refine AL rfl aS<|Cn<|AR<|AR ?_;obtain rfl:=Option.some.inj a;refine B5 (fun st=>?_);exact⟨rfl,qz st,qd st,sp st 1 aK,sp st 2 aD,sp st 5 aR,sp st 6 aL,sp st 7 bG,bH,t,y⟩
     case dI=>
      rintro aZ dQ d2 (⟨rfl,cD,cE,bW,bX,bY,bZ,b1,b2,b3,bC⟩);refine CB (X:=X0) (N:=46) cD cE<|Bv<|Aa<|Ae<|Ab<|wm rfl (v:=.bool cB) b1<|Af<|Aa ?_;rcases Ap (cB) with aT|aT
      ·replace a:=AF a aT;refine AA rfl aT<|Ae<|Ab<|wa rfl (v:=.bool false) rfl<|Af<|Aa<|AH<|Bd<|Az<|Az ?_;obtain rfl:=Option.some.inj a;refine B5 (fun st=>?_);exact .inl ⟨rfl,false,rfl,qz st,qd st,sp st 4 rfl,b2⟩
      ·replace a:=AG a aT;refine AL rfl aT<|AW<|Br<|Aa<|Ab<|wm rfl (v:=I e) bZ ?_;replace a:=AV a;obtain⟨cW,a⟩:=a;refine wd rfl (fun st=>Bz (ee st rfl) (ee st rfl) cW)<|wa rfl (v:=I (e+1)) rfl<|Af ?_;refine BB aG (Nat.lt_succ_self _) (fun st=>?_);exact⟨(n+1),(e+1),a,qz st,qd st,sp st 1 bW,sp st 2 bX,sp st 5 bY,sp st 6 rfl,b2,b3,bC⟩
    ·replace a:=AG a a8;refine AL rfl a8<|AW<|Aa<|Ae<|Ab<|wa rfl (v:=.bool true) rfl<|Af<|Aa<|Ae<|Ae<|Ab<|wm rfl (v:=I e) aC<|wa rfl (v:=I e) rfl<|Af<|Aa<|Bc ?_;replace a:=bind_some a;obtain⟨z20,aP,a⟩:=a;refine Ct (fun aZ d o=>(aZ=.exit 2∧d.tmps.size=46∧d.defers=(X0).ds∧sl d 1=I z∧sl d 2=pt m 0∧sl d 5=I n∧sl d 6=I e∧sl d 7=.bool z20∧Hp FN [] w [some m] o∧Bk o m 63 #[I b.Aj,I b.Ah,I b.Am,I b.Ax,.slice h b.Ac.length j]∧Sl AO o (ZZ FN [] Z w.heap.size [some m]) h j b.Ac)) ?cX ?cY
     case cX=>
      clear a;refine Cs (fun(aG:Nat) (d:Act) (o:World)=>∃aF,∃f,Cr aW b z e aG aF f=some z20∧d.tmps.size=46∧d.defers=(X0).ds∧sl d 1=I z∧sl d 2=pt m 0∧sl d 5=I n∧sl d 6=I e∧sl d 7=.bool aF∧sl d 8=I f∧Hp FN [] w [some m] o∧Bk o m 63 #[I b.Aj,I b.Ah,I b.Am,I b.Ax,.slice h b.Ac.length j]∧Sl AO o (ZZ FN [] Z w.heap.size [some m]) h j b.Ac) aW ?cZ ?c0
      case cZ=>
       intro st;have a3:=(aJ.ext a7);have aO:=(aH.mv (Ak a7));exact⟨true,e,aP,qz st,qd st,sp st 1 a0,sp st 2 aQ,sp st 5 a2,sp st 6 aC,sp st 7 rfl,sp st 8 rfl,cK,a3,aO⟩
      case c0=>
       rintro(_|aG) dR dS ⟨aF,f,aP,cF,cG,aA,u,aM,aB,a9,x,bJ,p,s⟩
       ·exact absurd (show none=some _ from aP) (by simp)
       rw[Cr.eq_2] at aP;have a:=aP;clear aP;refine B6 (N:=46) cF cG<|Ae<|Ae<|Ab<|wm rfl (v:=I f) x<|wm rfl (v:=I e) aB<|wd rfl (fun st=>An (ee st u) (K4 _ _))<|wd rfl (fun st=>As (v:=I b.Ax) AZ (ee st rfl) p rfl) ?_;replace a:=AV a;obtain⟨c1,a⟩:=a;refine wd rfl (fun st=>Bz (ee st rfl) (ee st rfl) c1)<|wd rfl (fun st=>FH (ee st rfl) (ee st rfl))<|Af<|Aa ?_;rcases Ap (decide (f≤(e+b.Ax))) with aU|aU
       ·replace a:=AF a aU;refine AA rfl aU<|AW<|Aa<|Ae<|Bc<|Ab<|wm rfl (v:=.bool aF) a9<|wm rfl (v:=.bool aF) rfl ?_;rcases Ap (aF) with l|l
        ·replace a:=AF a l;refine Aq rfl rfl (Ad rfl l) rfl (by decide) (fun st=>AM (v:=I f) (ee st x))<|Aq rfl rfl (Ad rfl l) rfl (by decide) (fun st=>An (ee st u) (Gh _ _))<|Aq rfl rfl (Ad rfl l) rfl (by decide) (fun st=>As (v:=I b.Aj) AZ (ee st rfl) p rfl)<|Aq rfl rfl (Ad rfl l) rfl (by decide) (fun st=>FH (ee st rfl) (ee st rfl))<|wd rfl (fun st=>AU (v:=.bool (decide (f≤b.Aj))) (ee st rfl) l (ee st rfl))<|wm rfl (v:=.bool (decide (f≤b.Aj))) rfl ?_;rcases Ap (decide (f≤b.Aj)) with r|r
         ·replace a:=AF a r;refine Aq rfl rfl (Ad rfl r) rfl (by decide) (fun st=>AM (v:=I z) (ee st aA))<|Aq rfl rfl (Ad rfl r) rfl (by decide) (fun st=>AM (v:=I f) (ee st x)) ?_;replace a:=bind_some a;obtain⟨bK,c2,a⟩:=a;refine DW rfl rfl (Ad rfl r) rfl (by decide) (fun st=>AJ Mb (ee st rfl) (EU (ee st rfl) (ee st rfl)) (Se aW z f ZA _ bK c2)) ?_;rintro _ d3 ⟨bD,rfl⟩;have dN:=bJ.ext bD;refine wd rfl (fun st=>AU (v:=.bool bK) (ee st rfl) r (ee st rfl))<|wa rfl (v:=.bool bK) rfl<|Af<|Br<|Aa<|Ab<|wm rfl (v:=I f) x ?_;replace a:=AV a;obtain⟨c3,a⟩:=a;refine wd rfl (fun st=>Bz (ee st rfl) (ee st rfl) c3)<|wa rfl (v:=I (f+1)) rfl<|Af ?_;have cH:=(p.ext bD);have bP:=(s.mv (Ak bD));refine BB aG (Nat.lt_succ_self _) (fun st=>?_);exact⟨bK,(f+1),a,qz st,qd st,sp st 1 aA,sp st 2 u,sp st 5 aM,sp st 6 aB,sp st 7 rfl,sp st 8 rfl,dN,cH,bP⟩
         ·replace a:=AG a r;refine Ai (c:=false) rfl rfl (Ad rfl r) (by decide) rfl (by decide)<|Ai (c:=false) rfl rfl (Ad rfl r) (by decide) rfl (by decide)<|Ai (c:=false) rfl rfl (Ad rfl r) (by decide) rfl (by decide)<|wd rfl (fun st=>Bp (v:=.bool false) (ee st rfl) r (ee st rfl))<|wa rfl (v:=.bool false) rfl<|Af<|Br<|Aa<|Ab<|wm rfl (v:=I f) x ?_;replace a:=AV a;obtain⟨c4,a⟩:=a;refine wd rfl (fun st=>Bz (ee st rfl) (ee st rfl) c4)<|wa rfl (v:=I (f+1)) rfl<|Af ?_;refine BB aG (Nat.lt_succ_self _) (fun st=>?_);exact⟨false,(f+1),a,qz st,qd st,sp st 1 aA,sp st 2 u,sp st 5 aM,sp st 6 aB,sp st 7 rfl,sp st 8 rfl,bJ,p,s⟩
        ·replace a:=AG a l;refine Ai (c:=false) rfl rfl (Ad rfl l) (by decide) rfl (by decide)<|Ai (c:=false) rfl rfl (Ad rfl l) (by decide) rfl (by decide)<|Ai (c:=false) rfl rfl (Ad rfl l) (by decide) rfl (by decide)<|Ai (c:=false) rfl rfl (Ad rfl l) (by decide) rfl (by decide)<|wd rfl (fun st=>Bp (v:=.bool false) (ee st rfl) l (ee st rfl))<|wm rfl (v:=.bool false) rfl<|Ai rfl rfl rfl (by decide) rfl (by decide)<|Ai rfl rfl rfl (by decide) rfl (by decide)<|Ai rfl rfl rfl (by decide) rfl (by decide)<|wd rfl (fun st=>Bp (v:=.bool false) (ee st rfl) rfl (ee st rfl))<|wa rfl (v:=.bool false) rfl<|Af<|Br<|Aa<|Ab<|wm rfl (v:=I f) x ?_;replace a:=AV a;obtain⟨c5,a⟩:=a;refine wd rfl (fun st=>Bz (ee st rfl) (ee st rfl) c5)<|wa rfl (v:=I (f+1)) rfl<|Af ?_;refine BB aG (Nat.lt_succ_self _) (fun st=>?_);exact⟨false,(f+1),a,qz st,qd st,sp st 1 aA,sp st 2 u,sp st 5 aM,sp st 6 aB,sp st 7 rfl,sp st 8 rfl,bJ,p,s⟩
       ·replace a:=AG a aU;refine AL rfl aU<|Cn<|AR<|AR ?_;obtain rfl:=Option.some.inj a;refine B5 (fun st=>?_);exact⟨rfl,qz st,qd st,sp st 1 aA,sp st 2 u,sp st 5 aM,sp st 6 aB,sp st 7 a9,bJ,p,s⟩
     case cY=>
      rintro aZ dP dT (⟨rfl,b4,b5,bQ,bR,bS,bT,bU,bL,bV,bA⟩);refine CB (X:=X0) (N:=46) b4 b5<|Bv<|Aa<|Ae<|Ab<|wm rfl (v:=.bool z20) bU<|Af<|Aa ?_;rcases Ap (z20) with aV|aV
      ·replace a:=AF a aV;refine AA rfl aV<|Ae<|Ab<|wa rfl (v:=.bool false) rfl<|Af<|Aa<|AH<|Bd<|Az<|Az ?_;obtain rfl:=Option.some.inj a;refine B5 (fun st=>?_);exact .inl ⟨rfl,false,rfl,qz st,qd st,sp st 4 rfl,bL⟩
      ·replace a:=AG a aV;refine AL rfl aV<|AW<|Br<|Aa<|Ab<|wm rfl (v:=I e) bT ?_;replace a:=AV a;obtain⟨c6,a⟩:=a;refine wd rfl (fun st=>Bz (ee st rfl) (ee st rfl) c6)<|wa rfl (v:=I (e+1)) rfl<|Af ?_;refine BB aG (Nat.lt_succ_self _) (fun st=>?_);exact⟨n,(e+1),a,qz st,qd st,sp st 1 bQ,sp st 2 bR,sp st 5 bS,sp st 6 rfl,bL,bV,bA⟩
   ·replace a:=AG a a6;refine AL rfl a6<|Cn<|AR<|AR ?_;obtain rfl:=Option.some.inj a;refine B5 (fun st=>?_);exact .inr ⟨rfl,n,rfl,qz st,qd st,sp st 2 aQ,sp st 5 a2,cJ,aJ,aH⟩
 case dB=>
  rintro aZ dU d4 (⟨rfl,aI,rfl,a4,a5,b6,bE⟩|⟨rfl,aI,rfl,a4,a5,b7,b8,bE,b9,c7⟩)
  ·skip
   replace a:=Fm a;refine CB (X:=X0) (N:=46) a4 a5<|Bd<|Az ?_;obtain rfl:=Option.some.inj a;refine AS rfl b6 ?_;exact⟨bE.Bu,rfl⟩
  ·skip
   replace a:=Fo a;refine CB (X:=X0) (N:=46) a4 a5<|Bv<|Aa<|Ae<|Ab<|wm rfl (v:=I aI) b8<|wd rfl (fun st=>An (ee st b7) (Mw _ _))<|wd rfl (fun st=>As (v:=I b.Am) AZ (ee st rfl) b9 rfl)<|wd rfl (fun st=>FH (ee st rfl) (ee st rfl))<|wa rfl (v:=.bool (decide (aI≤b.Am))) rfl<|Af<|Aa<|AH ?_;obtain rfl:=Option.some.inj a;refine AS rfl rfl ?_;exact⟨bE.Bu,rfl⟩
theorem UE(aY:Nat)(c:Ao)(h:Option Addr)(j:Nat)(Z:Nat→Prop)(w:World)(aZ:Sl AO w Z h j c.Ac)(bH:(List Int))(a:Ee aY c=some bH):
 BO Tryz.prog 100 #[.agg #[I c.Aj,I c.Ah,I c.Am,I c.Ax,.slice h c.Ac.length j]] w (fun v w'=>Ext w w'∧(DI (Ay .i64)).R w' (ZZ FN [] Z w.heap.size []) v bH):=by
 unfold Ee at a;refine A5 (N:=22) Tryz.func100 rfl rfl (by simp) ?_;intro b4 bI b5;have a9:=AN (i:=0) (v:=.agg #[I c.Aj,I c.Ah,I c.Am,I c.Ax,.slice h c.Ac.length j]) bI rfl;clear bI;have a7:Hp FN [] w [] w:=Hp.start (BQ.none w);have aM:=aZ.mv (Bq (Z:=Z) (L:=[]) w);refine Ae<|Ab<|we rfl (fun st=>B1 (v:=.agg #[I c.Aj,I c.Ah,I c.Am,I c.Ax,.slice h c.Ac.length j]) (cs:= #[I c.Aj,I c.Ah,I c.Am,I c.Ax,.slice h c.Ac.length j]) (ee st a9) rfl) ?_;rintro _ w1 ⟨o,rfl,aK⟩;have bJ:=a7.nb aK;have b1:=a7.BK aK;refine wa rfl (v:=.slice none 0 0) rfl<|Af<|Aa<|Ae<|Ab<|wa rfl (v:=.slice none 0 0) rfl<|Af<|Aa<|Ae<|Ae<|Ab<|wa rfl (v:=I 0) rfl<|Af<|Aa<|Bc ?_;have bK:Hp FN [] w [none,some o] w1:=bJ.nil;have bL:AB (Ay .i64) 3 w.heap.size w1 (ZZ FN [] Z w.heap.size [none,some o]) none 0 ([]:List Int):=AB.nil _ _ _ _ _;replace a:=bind_some a;obtain⟨z2,aC,a⟩:=a;refine Ct (fun bM s aI=>(bM=.exit 0∧∃f m,s.tmps.size=22∧s.defers=(X0).ds∧sl s 3=.slice f z2.length m∧Hp FN [] w [ob f,some o] aI∧AB (Ay .i64) 3 w.heap.size aI (ZZ FN [] Z w.heap.size [ob f,some o]) f m z2)) ?bN ?bO
 case bN=>
  clear a;refine Cs (fun(a0:Nat) (s:Act) (aI:World)=>∃g,∃b,∃d n,CU aY c a0 g b=some z2∧s.tmps.size=22∧s.defers=(X0).ds∧sl s 1=pt o 0∧sl s 3=.slice d g.length n∧sl s 4=I b∧Hp FN [] w [ob d,some o] aI∧AB (Ay .i64) 3 w.heap.size aI (ZZ FN [] Z w.heap.size [ob d,some o]) d n g∧Bk aI o 63 #[I c.Aj,I c.Ah,I c.Am,I c.Ax,.slice h c.Ac.length j]∧Sl AO aI (ZZ FN [] Z w.heap.size [ob d,some o]) h j c.Ac) aY ?bP ?bQ
  case bP=>
   intro st;have a2:=aK.bk;have aN:Sl AO w1 (ZZ FN [] Z w.heap.size [none,some o]) h j c.Ac:=((aM.mv (Av aK)).mv BD);exact⟨([]:List Int),(0:Int),none,0,aC,qz st,qd st,sp st 1 rfl,sp st 3 rfl,sp st 4 rfl,bK,bL,a2,aN⟩
  case bQ=>
   rintro(_|a0) b6 b7 ⟨g,b,d,n,aC,bA,bB,z,aD,t,a8,p,u,q⟩
   ·exact absurd (show none=some _ from aC) (by simp)
   rw[CU.eq_2] at aC;have a:=aC;clear aC;refine B6 (N:=22) bA bB<|Ae<|Ae<|Ab<|wm rfl (v:=I b) t<|wd rfl (fun st=>An (ee st z) (Gh _ _))<|wd rfl (fun st=>As (v:=I c.Aj) AZ (ee st rfl) u rfl) ?_;replace a:=AV a;obtain⟨bR,a⟩:=a;refine wd rfl (fun st=>Bz (ee st rfl) (ee st rfl) bR) ?_;replace a:=IE a;obtain⟨bS,a⟩:=a;refine wd rfl (fun st=>Kg (k:=.u64) Uf Tryz.underlying32 (ee st rfl) bS) ?_;replace a:=ML a;obtain⟨bT,a⟩:=a;refine wd rfl (fun st=>R0 (ee st rfl) (ee st rfl) bT)<|wd rfl (fun st=>CQ (ee st rfl) (ee st rfl))<|Af<|Aa ?_;rcases Ap (decide (b<(Hh (1:Int) (c.Aj+1)))) with aF|aF
   ·replace a:=AF a aF;refine AA rfl aF<|AW<|Aa<|Ae<|Bc<|Ae<|Ab<|wd rfl (fun st=>A8 (l:=[I c.Aj,I c.Ah,I c.Am,I c.Ax,.slice h c.Ac.length j]) Es (ee st z) u rfl rfl)<|wm rfl (v:=I b) t ?_;replace a:=bind_some a;obtain⟨bU,bV,a⟩:=a;refine we rfl (fun st=>AJ Ug (ee st rfl) (EU (ee st rfl) (ee st rfl)) (V1 aY c b h j ZA _ q.all bU bV)) ?_;rintro _ b2 ⟨x,rfl⟩;have aS:=a8.ext x;refine Af<|Aa ?_;rcases Ap (bU) with aA|aA
    ·replace a:=AF a aA;refine AA rfl aA<|Ab<|wm rfl (v:=.slice d g.length n) aD<|wm rfl (v:=I b) t<|we rfl (fun st=>BF (e:=3) (vs:= #[(0,I b)]) (cs:= #[I b]) (Hd (ee st rfl)) (by kernel_rfl)) ?_;rintro _ bW ⟨aT,rfl,r⟩;have aG:=aS.nb r;have bX:=aS.BK r;have aO:AB (Ay .i64) 3 w.heap.size bW (ZZ FN [] Z w.heap.size [some aT,ob d,some o]) d n g:=((p.ext x (Ak x)).ext r.gr (Av r));replace a:=CI a;obtain⟨aU,a⟩:=a;refine we rfl (fun st=>Ku (ys:=[b]) Tryz.underlying23 GS rfl rfl (by decide) (ee st rfl) rfl (ee st rfl) aO (Mg (Bg:=[[I b]]) r.bk ⟨rfl,trivial⟩ rfl) (by have:=aU;simp only[maxLen];omega) (by have:=aU;omega) aG.sz (by simp)) ?_;rintro _ aH ⟨y,aL,rfl,aE,aJ,bC⟩;have bY:Hp FN [] w [some aT,ob y,some o] aH:=aG.row aE 1 rfl aJ;have bD:AB (Ay .i64) 3 w.heap.size aH (ZZ FN [] Z w.heap.size [some aT,ob y,some o]) y aL (g++[b]):=EV bC (aG.CK aE 1 rfl (fun k bE=>(aJ k bE).1));refine wa rfl (v:=.slice y ((g++[b]).length) aL) rfl<|Af<|Br<|Aa<|Ab<|wm rfl (v:=I b) t ?_;replace a:=AV a;obtain⟨bF,a⟩:=a;refine wd rfl (fun st=>Bz (ee st rfl) (ee st rfl) bF)<|wa rfl (v:=I (b+1)) rfl<|Af ?_;have bZ:Hp FN [] w [ob y,some o] aH:=bY.erase 0;have aV:AB (Ay .i64) 3 w.heap.size aH (ZZ FN [] Z w.heap.size [ob y,some o]) y aL (g++[b]):=(bD.up (AE 0));have a3:=(((u.ext x).ext r.gr).gr aE (aG.ne 2 1 rfl rfl rfl));have aP:Sl AO aH (ZZ FN [] Z w.heap.size [ob y,some o]) h j c.Ac:=((((q.mv (Ak x)).mv (Av r)).mv (aG.CK aE 1 rfl (fun k bE=>(aJ k bE).1))).mv (AE 0));refine BB a0 (Nat.lt_succ_self _) (fun st=>?_);exact⟨(g++[b]),(b+1),y,aL,a,qz st,qd st,sp st 1 z,sp st 3 rfl,sp st 4 rfl,bZ,aV,a3,aP⟩
    ·replace a:=AG a aA;refine AL rfl aA<|AW<|Br<|Aa<|Ab<|wm rfl (v:=I b) t ?_;replace a:=AV a;obtain⟨bG,a⟩:=a;refine wd rfl (fun st=>Bz (ee st rfl) (ee st rfl) bG)<|wa rfl (v:=I (b+1)) rfl<|Af ?_;have aQ:AB (Ay .i64) 3 w.heap.size b2 (ZZ FN [] Z w.heap.size [ob d,some o]) d n g:=(p.ext x (Ak x));have a4:=(u.ext x);have aR:=(q.mv (Ak x));refine BB a0 (Nat.lt_succ_self _) (fun st=>?_);exact⟨g,(b+1),d,n,a,qz st,qd st,sp st 1 z,sp st 3 aD,sp st 4 rfl,aS,aQ,a4,aR⟩
   ·replace a:=AG a aF;refine AL rfl aF<|Cn<|AR<|AR ?_;obtain rfl:=Option.some.inj a;refine B5 (fun st=>?_);exact⟨rfl,d,n,qz st,qd st,sp st 3 aD,a8,p⟩
 case bO=>
  rintro bM b3 b8 (⟨rfl,f,m,a5,a6,aW,aX,aB⟩);refine CB (X:=X0) (N:=22) a5 a6<|Bv<|Aa<|Ae<|Ab<|wm rfl (v:=.slice f z2.length m) aW<|wa rfl (v:=.slice f z2.length m) rfl<|Af<|Aa<|AH ?_;obtain rfl:=Option.some.inj a;refine AS rfl rfl ?_;exact⟨aX.Bu,⟨_,_,rfl,aX.ID (M:=[]) 0 rfl [] rfl trivial aB⟩⟩
theorem UF(aA:Nat)(a:Ao)(c:Option Addr)(d:Nat)(Z:Nat→Prop)(w:World)(aF:Sl AO w Z c d a.Ac)(aV:Int)(b:Dw aA a=some aV):
 BO Tryz.prog 81 #[.agg #[I a.Aj,I a.Ah,I a.Am,I a.Ax,.slice c a.Ac.length d]] w (fun v w'=>Ext w w'∧(El .i64).R w' (ZZ FN [] Z w.heap.size []) v aV):=by
 unfold Dw at b;refine A5 (N:=26) Tryz.func81 rfl rfl (by simp) ?_;intro bH aW bI;have aO:=AN (i:=0) (v:=.agg #[I a.Aj,I a.Ah,I a.Am,I a.Ax,.slice c a.Ac.length d]) aW rfl;clear aW;have aL:Hp FN [] w [] w:=Hp.start (BQ.none w);have u:=aF.mv (Bq (Z:=Z) (L:=[]) w);refine Ae<|Ab<|we rfl (fun st=>B1 (v:=.agg #[I a.Aj,I a.Ah,I a.Am,I a.Ax,.slice c a.Ac.length d]) (cs:= #[I a.Aj,I a.Ah,I a.Am,I a.Ax,.slice c a.Ac.length d]) (ee st aO) rfl) ?_;rintro _ w1 ⟨x,rfl,q⟩;have aM:=aL.nb q;have bD:=aL.BK q;refine wa rfl (v:=I 0) rfl<|Af<|Aa<|Ae<|Ab<|wd rfl (fun st=>A8 (l:=[I a.Aj,I a.Ah,I a.Am,I a.Ax,.slice c a.Ac.length d]) Es (ee st rfl) q.bk rfl rfl) ?_;have m:=(u.mv (Av q));replace b:=bind_some b;obtain⟨r2,aX,b⟩:=b;refine we rfl (fun st=>AJ O1 (ee st rfl) (CA (ee st rfl)) (UE aA a c d (ZZ FN [] Z w.heap.size [some x]) _ m r2 aX)) ?_;rintro _ bM ⟨aB,⟨bE,bF,rfl,r⟩⟩;have aY:=aM.ext aB;have r:=r.mv (aM.Cw (Nat.le_refl _));refine wd rfl (fun st=>BP Tryz.underlying23 (ee st rfl))<|wa rfl (v:=I (r2.length:Int)) rfl<|Af<|Aa<|Ae<|Ae<|Ab<|wa rfl (v:=I 0) rfl<|Af<|Aa<|Bc ?_;replace b:=bind_some b;obtain⟨z4,n,b⟩:=b;refine Ct (fun aZ f aC=>(aZ=.exit 0∧f.tmps.size=26∧f.defers=(X0).ds∧sl f 3=I z4∧Hp FN [] w [some x] aC)) ?a0 ?a2
 case a0=>
  clear b;refine Cs (fun(aP:Nat) (f:Act) (aC:World)=>∃g,∃e,DN aA a aP g e=some z4∧f.tmps.size=26∧f.defers=(X0).ds∧sl f 1=pt x 0∧sl f 3=I g∧sl f 4=I e∧Hp FN [] w [some x] aC∧Bk aC x 63 #[I a.Aj,I a.Ah,I a.Am,I a.Ax,.slice c a.Ac.length d]∧Sl AO aC (ZZ FN [] Z w.heap.size [some x]) c d a.Ac) aA ?a3 ?a4
  case a3=>
   intro st;have aG:=(q.bk.ext aB);have y:=(m.mv (Ak aB));exact⟨(r2.length:Int),(0:Int),n,qz st,qd st,sp st 1 rfl,sp st 3 rfl,sp st 4 rfl,aY,aG,y⟩
  case a4=>
   rintro(_|aP) bJ bK ⟨g,e,n,aQ,aR,o,t,p,aN,h,j⟩
   ·exact absurd (show none=some _ from n) (by simp)
   rw[DN.eq_2] at n;have b:=n;clear n;refine B6 (N:=26) aQ aR<|Ae<|Ae<|Ab<|wm rfl (v:=I e) p<|wd rfl (fun st=>An (ee st o) (Ez _ _))<|wd rfl (fun st=>As (v:=.slice c a.Ac.length d) FG (ee st rfl) h rfl)<|wd rfl (fun st=>BP Tryz.underlying61 (ee st rfl))<|wd rfl (fun st=>CQ (ee st rfl) (ee st rfl))<|Af<|Aa ?_;rcases Ap (decide (e<(a.Ac.length:Int))) with s|s
   ·replace b:=AF b s;refine AA rfl s<|AW<|Aa<|Ae<|Bc<|Ab<|wm rfl (v:=I g) t<|wd rfl (fun st=>An (ee st o) (Ez _ _))<|wd rfl (fun st=>As (v:=.slice c a.Ac.length d) FG (ee st rfl) h rfl)<|wm rfl (v:=I e) p ?_;replace b:=Bs b;obtain⟨i6,aH,a5,a6,a7,b⟩:=b;obtain⟨bN,bO,_,a8,rfl,a9⟩:=Sl.elem j (by decide) a6;refine wd rfl (fun st=>Cl (k:=i6) Tryz.underlying61 H8 (ee st rfl) a8 (ee st rfl) a5 a7)<|wd rfl (fun st=>An (ee st rfl) (Oa _ _ _))<|wd rfl (fun st=>C3 (l:=[I aH.Ar,I aH.AD]) Jp (ee st rfl) a9 rfl rfl) ?_;replace b:=bind_some b;obtain⟨aS,bA,b⟩:=b;refine we rfl (fun st=>AJ Mx (ee st rfl) (CA (ee st rfl)) (RQ aA (⟨aH.Ar,aH.AD⟩:CJ) ZA _ aS bA)) ?_;rintro _ bP ⟨aD,rfl⟩;have bB:=aN.ext aD;replace b:=AV b;obtain⟨bC,b⟩:=b;refine wd rfl (fun st=>RV (ee st rfl) (ee st rfl) bC)<|wd rfl (fun st=>RW (ee st rfl) (ee st rfl))<|wa rfl (v:=I (min (3000:Int) (g*aS))) rfl<|Af<|Br<|Aa<|Ab<|wm rfl (v:=I e) p ?_;replace b:=AV b;obtain⟨aT,b⟩:=b;refine wd rfl (fun st=>Bz (ee st rfl) (ee st rfl) aT)<|wa rfl (v:=I (e+1)) rfl<|Af ?_;have aI:=(h.ext aD);have z:=(j.mv (Ak aD));refine BB aP (Nat.lt_succ_self _) (fun st=>?_);exact⟨(min (3000:Int) (g*aS)),(e+1),b,qz st,qd st,sp st 1 o,sp st 3 rfl,sp st 4 rfl,bB,aI,z⟩
   ·replace b:=AG b s;refine AL rfl s<|Cn<|AR<|AR ?_;obtain rfl:=Option.some.inj b;refine B5 (fun st=>?_);exact⟨rfl,qz st,qd st,sp st 3 t,aN⟩
 case a2=>
  rintro aZ bG bL (⟨rfl,aJ,aK,aE,aU⟩);refine CB (X:=X0) (N:=26) aJ aK<|Bv<|Aa<|Ae<|Ab<|wm rfl (v:=I z4) aE<|wa rfl (v:=I z4) rfl<|Af<|Aa<|AH ?_;obtain rfl:=Option.some.inj b;refine AS rfl rfl ?_;exact⟨aU.Bu,rfl⟩
theorem Vu(aS:Nat)(b:Ao)(j:Option Addr)(m:Nat)(Z:Nat→Prop)(w:World)(bR:Sl AO w Z j m b.Ac)(cY:Int)(a:EC aS b=some cY):
 BO Tryz.prog 80 #[.agg #[I b.Aj,I b.Ah,I b.Am,I b.Ax,.slice j b.Ac.length m]] w (fun v w'=>Ext w w'∧(El .i64).R w' (ZZ FN [] Z w.heap.size []) v cY):=by
 unfold EC at a;refine A5 (N:=101) Tryz.func80 rfl rfl (by simp) ?_;intro dD cZ dE;have bZ:=AN (i:=0) (v:=.agg #[I b.Aj,I b.Ah,I b.Am,I b.Ax,.slice j b.Ac.length m]) cZ rfl;clear cZ;have bV:Hp FN [] w [] w:=Hp.start (BQ.none w);have a9:=bR.mv (Bq (Z:=Z) (L:=[]) w);refine Ae<|Ab<|we rfl (fun st=>B1 (v:=.agg #[I b.Aj,I b.Ah,I b.Am,I b.Ax,.slice j b.Ac.length m]) (cs:= #[I b.Aj,I b.Ah,I b.Am,I b.Ax,.slice j b.Ac.length m]) (ee st bZ) rfl) ?_;rintro _ w1 ⟨x,rfl,y⟩;have aO:=bV.nb y;have c8:=bV.BK y;refine wa rfl (v:=I 0) rfl<|Af<|Aa<|Ae<|Ae<|Ab<|wd rfl (fun st=>An (ee st rfl) (Gh _ _))<|wd rfl (fun st=>As (v:=I b.Aj) AZ (ee st rfl) y.bk rfl)<|wd rfl (fun st=>Gi (ee st rfl) (ee st rfl))<|wm rfl (v:=.bool (decide ((9:Int)<b.Aj))) rfl ?_;rcases Ap (decide ((9:Int)<b.Aj)) with z|z
 ·replace a:=AF a z;refine Ai (c:=true) rfl rfl (Ad rfl z) (by decide) rfl (by decide)<|Ai (c:=true) rfl rfl (Ad rfl z) (by decide) rfl (by decide)<|Ai (c:=true) rfl rfl (Ad rfl z) (by decide) rfl (by decide)<|wd rfl (fun st=>AU (v:=.bool true) (ee st rfl) z (ee st rfl))<|wm rfl (v:=.bool true) rfl<|Ai rfl rfl rfl (by decide) rfl (by decide)<|Ai rfl rfl rfl (by decide) rfl (by decide)<|Ai rfl rfl rfl (by decide) rfl (by decide)<|Ai rfl rfl rfl (by decide) rfl (by decide)<|wd rfl (fun st=>AU (v:=.bool true) (ee st rfl) rfl (ee st rfl))<|Af<|Aa<|AA rfl rfl<|Ae<|Ab<|wa rfl (v:=I 3) rfl<|Af<|Aa<|AH<|Az ?_;obtain rfl:=Option.some.inj a;refine AS rfl rfl ?_;exact⟨aO.Bu,rfl⟩
 ·replace a:=AG a z;refine Aq rfl rfl (Ad rfl z) rfl (by decide) (fun st=>An (ee st rfl) (HQ _ _))<|Aq rfl rfl (Ad rfl z) rfl (by decide) (fun st=>As (v:=I b.Ah) AZ (ee st rfl) y.bk rfl)<|Aq rfl rfl (Ad rfl z) rfl (by decide) (fun st=>Gi (ee st rfl) (ee st rfl))<|wd rfl (fun st=>Bp (v:=.bool (decide ((2:Int)<b.Ah))) (ee st rfl) z (ee st rfl))<|wm rfl (v:=.bool (decide ((2:Int)<b.Ah))) rfl ?_;rcases Ap (decide ((2:Int)<b.Ah)) with s|s
  ·replace a:=AF a s;refine Ai (c:=true) rfl rfl (Ad rfl s) (by decide) rfl (by decide)<|Ai (c:=true) rfl rfl (Ad rfl s) (by decide) rfl (by decide)<|Ai (c:=true) rfl rfl (Ad rfl s) (by decide) rfl (by decide)<|Ai (c:=true) rfl rfl (Ad rfl s) (by decide) rfl (by decide)<|wd rfl (fun st=>AU (v:=.bool true) (ee st rfl) s (ee st rfl))<|Af<|Aa<|AA rfl rfl<|Ae<|Ab<|wa rfl (v:=I 3) rfl<|Af<|Aa<|AH<|Az ?_;obtain rfl:=Option.some.inj a;refine AS rfl rfl ?_;exact⟨aO.Bu,rfl⟩
  ·replace a:=AG a s;refine Aq rfl rfl (Ad rfl s) rfl (by decide) (fun st=>An (ee st rfl) (Ez _ _))<|Aq rfl rfl (Ad rfl s) rfl (by decide) (fun st=>As (v:=.slice j b.Ac.length m) FG (ee st rfl) y.bk rfl)<|Aq rfl rfl (Ad rfl s) rfl (by decide) (fun st=>BP Tryz.underlying61 (ee st rfl))<|Aq rfl rfl (Ad rfl s) rfl (by decide) (fun st=>Gi (ee st rfl) (ee st rfl))<|wd rfl (fun st=>Bp (v:=.bool (decide ((4:Int)<(b.Ac.length:Int)))) (ee st rfl) s (ee st rfl))<|Af<|Aa ?_;rcases Ap (decide ((4:Int)<(b.Ac.length:Int))) with aX|aX
   ·replace a:=AF a aX;refine AA rfl aX<|Ae<|Ab<|wa rfl (v:=I 3) rfl<|Af<|Aa<|AH<|Az ?_;obtain rfl:=Option.some.inj a;refine AS rfl rfl ?_;exact⟨aO.Bu,rfl⟩
   ·replace a:=AG a aX;refine AL rfl aX<|AW<|Aa<|Ae<|Ae<|Ab<|wd rfl (fun st=>An (ee st rfl) (Gh _ _))<|wd rfl (fun st=>As (v:=I b.Aj) AZ (ee st rfl) y.bk rfl)<|wd rfl (fun st=>CQ (ee st rfl) (ee st rfl))<|wm rfl (v:=.bool (decide (b.Aj<0))) rfl ?_;rcases Ap (decide (b.Aj<0)) with aA|aA
    ·replace a:=AF a aA;refine Ai (c:=true) rfl rfl (Ad rfl aA) (by decide) rfl (by decide)<|Ai (c:=true) rfl rfl (Ad rfl aA) (by decide) rfl (by decide)<|Ai (c:=true) rfl rfl (Ad rfl aA) (by decide) rfl (by decide)<|wd rfl (fun st=>AU (v:=.bool true) (ee st rfl) aA (ee st rfl))<|wm rfl (v:=.bool true) rfl<|Ai rfl rfl rfl (by decide) rfl (by decide)<|Ai rfl rfl rfl (by decide) rfl (by decide)<|Ai rfl rfl rfl (by decide) rfl (by decide)<|Ai rfl rfl rfl (by decide) rfl (by decide)<|Ai rfl rfl rfl (by decide) rfl (by decide)<|Ai rfl rfl rfl (by decide) rfl (by decide)<|Ai rfl rfl rfl (by decide) rfl (by decide)<|wd rfl (fun st=>AU (v:=.bool true) (ee st rfl) rfl (ee st rfl))<|wm rfl (v:=.bool true) rfl<|Ai rfl rfl rfl (by decide) rfl (by decide)<|Ai rfl rfl rfl (by decide) rfl (by decide)<|Ai rfl rfl rfl (by decide) rfl (by decide)<|Ai rfl rfl rfl (by decide) rfl (by decide)<|Ai rfl rfl rfl (by decide) rfl (by decide)<|Ai rfl rfl rfl (by decide) rfl (by decide)<|Ai rfl rfl rfl (by decide) rfl (by decide)<|wd rfl (fun st=>AU (v:=.bool true) (ee st rfl) rfl (ee st rfl))<|Af<|Aa<|AA rfl rfl<|Ae<|Ab<|wa rfl (v:=I 1) rfl<|Af<|Aa<|AH<|Az ?_;obtain rfl:=Option.some.inj a;refine AS rfl rfl ?_;exact⟨aO.Bu,rfl⟩
    ·replace a:=AG a aA;refine Aq rfl rfl (Ad rfl aA) rfl (by decide) (fun st=>An (ee st rfl) (HQ _ _))<|Aq rfl rfl (Ad rfl aA) rfl (by decide) (fun st=>As (v:=I b.Ah) AZ (ee st rfl) y.bk rfl)<|Aq rfl rfl (Ad rfl aA) rfl (by decide) (fun st=>CQ (ee st rfl) (ee st rfl))<|wd rfl (fun st=>Bp (v:=.bool (decide (b.Ah<1))) (ee st rfl) aA (ee st rfl))<|wm rfl (v:=.bool (decide (b.Ah<1))) rfl ?_;rcases Ap (decide (b.Ah<1)) with p|p
     ·replace a:=AF a p;refine Ai (c:=true) rfl rfl (Ad rfl p) (by decide) rfl (by decide)<|Ai (c:=true) rfl rfl (Ad rfl p) (by decide) rfl (by decide)<|Ai (c:=true) rfl rfl (Ad rfl p) (by decide) rfl (by decide)<|Ai (c:=true) rfl rfl (Ad rfl p) (by decide) rfl (by decide)<|Ai (c:=true) rfl rfl (Ad rfl p) (by decide) rfl (by decide)<|Ai (c:=true) rfl rfl (Ad rfl p) (by decide) rfl (by decide)<|Ai (c:=true) rfl rfl (Ad rfl p) (by decide) rfl (by decide)<|wd rfl (fun st=>AU (v:=.bool true) (ee st rfl) p (ee st rfl))<|wm rfl (v:=.bool true) rfl<|Ai rfl rfl rfl (by decide) rfl (by decide)<|Ai rfl rfl rfl (by decide) rfl (by decide)<|Ai rfl rfl rfl (by decide) rfl (by decide)<|Ai rfl rfl rfl (by decide) rfl (by decide)<|Ai rfl rfl rfl (by decide) rfl (by decide)<|Ai rfl rfl rfl (by decide) rfl (by decide)<|Ai rfl rfl rfl (by decide) rfl (by decide)<|wd rfl (fun st=>AU (v:=.bool true) (ee st rfl) rfl (ee st rfl))<|Af<|Aa<|AA rfl rfl<|Ae<|Ab<|wa rfl (v:=I 1) rfl<|Af<|Aa<|AH<|Az ?_;obtain rfl:=Option.some.inj a;refine AS rfl rfl ?_;exact⟨aO.Bu,rfl⟩
     ·replace a:=AG a p;refine Aq rfl rfl (Ad rfl p) rfl (by decide) (fun st=>An (ee st rfl) (Mw _ _))<|Aq rfl rfl (Ad rfl p) rfl (by decide) (fun st=>As (v:=I b.Am) AZ (ee st rfl) y.bk rfl)<|Aq rfl rfl (Ad rfl p) rfl (by decide) (fun st=>An (ee st rfl) (Gh _ _))<|Aq rfl rfl (Ad rfl p) rfl (by decide) (fun st=>As (v:=I b.Aj) AZ (ee st rfl) y.bk rfl) ?_;replace a:=AV a;obtain⟨c0,a⟩:=a;refine Aq rfl rfl (Ad rfl p) rfl (by decide) (fun st=>Bz (ee st rfl) (ee st rfl) c0) ?_;replace a:=bind_some a;obtain⟨bA,c1,a⟩:=a;refine DW rfl rfl (Ad rfl p) rfl (by decide) (fun st=>AJ KP (ee st rfl) (Fb (ee st rfl) (ee st rfl) (ee st rfl)) (a46 aS b.Am 0 (b.Aj+1) ZA _ bA c1)) ?_;rintro _ dL ⟨bG,rfl⟩;have bW:=aO.ext bG;refine Aq rfl rfl (Ad rfl p) rfl (by decide) (fun st=>Di (ee st rfl))<|wd rfl (fun st=>Bp (v:=.bool !bA) (ee st rfl) p (ee st rfl))<|wm rfl (v:=.bool !bA) rfl ?_;rcases Ap (!bA) with e|e
      ·replace a:=AF a e;have cO:bA=false:=by simpa using e
       refine Ai (c:=true) rfl rfl (Ad rfl e) (by decide) rfl (by decide)<|Ai (c:=true) rfl rfl (Ad rfl e) (by decide) rfl (by decide)<|Ai (c:=true) rfl rfl (Ad rfl e) (by decide) rfl (by decide)<|Ai (c:=true) rfl rfl (Ad rfl e) (by decide) rfl (by decide)<|Ai (c:=true) rfl rfl (Ad rfl e) (by decide) rfl (by decide)<|Ai (c:=true) rfl rfl (Ad rfl e) (by decide) rfl (by decide)<|Ai (c:=true) rfl rfl (Ad rfl e) (by decide) rfl (by decide)<|wd rfl (fun st=>AU (v:=.bool true) (ee st rfl) e (ee st rfl))<|Af<|Aa<|AA rfl rfl<|Ae<|Ab<|wa rfl (v:=I 1) rfl<|Af<|Aa<|AH<|Az ?_;obtain rfl:=Option.some.inj a;refine AS rfl rfl ?_;exact⟨bW.Bu,rfl⟩
      ·replace a:=AG a e;have cP:bA=true:=by simpa using e
       refine Aq rfl rfl (Ad rfl e) rfl (by decide) (fun st=>An (ee st rfl) (K4 _ _)) ?_;have aT:=(y.bk.ext bG);refine Aq rfl rfl (Ad rfl e) rfl (by decide) (fun st=>As (v:=I b.Ax) AZ (ee st rfl) aT rfl)<|Aq rfl rfl (Ad rfl e) rfl (by decide) (fun st=>An (ee st rfl) (Gh _ _))<|Aq rfl rfl (Ad rfl e) rfl (by decide) (fun st=>As (v:=I b.Aj) AZ (ee st rfl) aT rfl) ?_;replace a:=AV a;obtain⟨b1,a⟩:=a;refine Aq rfl rfl (Ad rfl e) rfl (by decide) (fun st=>Bz (ee st rfl) (ee st rfl) b1) ?_;replace a:=bind_some a;obtain⟨aY,b2,a⟩:=a;refine DW rfl rfl (Ad rfl e) rfl (by decide) (fun st=>AJ KP (ee st rfl) (Fb (ee st rfl) (ee st rfl) (ee st rfl)) (a46 aS b.Ax 0 (b.Aj+1) ZA _ aY b2)) ?_;rintro _ dF ⟨a4,rfl⟩;have bX:=bW.ext a4;refine Aq rfl rfl (Ad rfl e) rfl (by decide) (fun st=>Di (ee st rfl))<|wd rfl (fun st=>Bp (v:=.bool !aY) (ee st rfl) e (ee st rfl))<|Af<|Aa ?_;rcases Ap (!aY) with aE|aE
       ·replace a:=AF a aE;have cQ:aY=false:=by simpa using aE
        refine AA rfl aE<|Ae<|Ab<|wa rfl (v:=I 1) rfl<|Af<|Aa<|AH<|Az ?_;obtain rfl:=Option.some.inj a;refine AS rfl rfl ?_;exact⟨bX.Bu,rfl⟩
       ·replace a:=AG a aE;have cR:aY=true:=by simpa using aE
        refine AL rfl aE<|AW<|Aa<|Ae<|Ae<|Ab<|wa rfl (v:=I 0) rfl<|Af<|Aa<|Bc ?_;replace a:=bind_some a;obtain⟨bH,aG,a⟩:=a;refine Ct (fun b3 aB aZ=>(b3=.ret∧∃aH,bH=.inl aH∧aB.tmps.size=101∧aB.defers=(X0).ds∧sl aB 2=I aH∧Hp FN [] w [some x] aZ)∨(b3=.exit 0∧∃aH,bH=.inr aH∧aB.tmps.size=101∧aB.defers=(X0).ds∧sl aB 1=pt x 0∧Hp FN [] w [some x] aZ∧Bk aZ x 63 #[I b.Aj,I b.Ah,I b.Am,I b.Ax,.slice j b.Ac.length m]∧Sl AO aZ (ZZ FN [] Z w.heap.size [some x]) j m b.Ac)) ?b4 ?b5
        case b4=>
         clear a;refine Cs (fun(b6:Nat) (aB:Act) (aZ:World)=>∃r,Dn aS b b6 r=some bH∧aB.tmps.size=101∧aB.defers=(X0).ds∧sl aB 1=pt x 0∧sl aB 3=I r∧Hp FN [] w [some x] aZ∧Bk aZ x 63 #[I b.Aj,I b.Ah,I b.Am,I b.Ax,.slice j b.Ac.length m]∧Sl AO aZ (ZZ FN [] Z w.heap.size [some x]) j m b.Ac) aS ?b7 ?b8
         case b7=>
          intro st;have bS:=(aT.ext a4);have bB:=(((a9.mv (Av y)).mv (Ak bG)).mv (Ak a4));exact⟨(0:Int),aG,qz st,qd st,sp st 1 rfl,sp st 3 rfl,bX,bS,bB⟩
         case b8=>
          rintro(_|b6) dA dB ⟨r,aG,bT,bU,t,aI,bI,aD,aC⟩
          ·exact absurd (show none=some _ from aG) (by simp)
          rw[Dn.eq_2] at aG;have a:=aG;clear aG;refine B6 (N:=101) bT bU<|Ae<|Ae<|Ab<|wm rfl (v:=I r) aI<|wd rfl (fun st=>An (ee st t) (Ez _ _))<|wd rfl (fun st=>As (v:=.slice j b.Ac.length m) FG (ee st rfl) aD rfl)<|wd rfl (fun st=>BP Tryz.underlying61 (ee st rfl))<|wd rfl (fun st=>CQ (ee st rfl) (ee st rfl))<|Af<|Aa ?_;rcases Ap (decide (r<(b.Ac.length:Int))) with aJ|aJ
          ·replace a:=AF a aJ;refine AA rfl aJ<|AW<|Aa<|Ae<|Bc<|Ae<|Ab<|wd rfl (fun st=>An (ee st t) (Ez _ _))<|wd rfl (fun st=>As (v:=.slice j b.Ac.length m) FG (ee st rfl) aD rfl)<|wm rfl (v:=I r) aI ?_;replace a:=Bs a;obtain⟨i21,d,b9,cA,cB,a⟩:=a;obtain⟨dG,dH,_,cC,rfl,cD⟩:=Sl.elem aC (by decide) cA;refine wd rfl (fun st=>Cl (k:=i21) Tryz.underlying61 H8 (ee st rfl) cC (ee st rfl) b9 cB)<|wd rfl (fun st=>C3 (l:=[I d.Ar,I d.AD,I d.AQ,I d.B9,I d.Ck]) O2 (ee st rfl) cD rfl rfl)<|we rfl (fun st=>BI (cs:= #[I 0,I 0,I 0,I 0,I 0]) Ob rfl) ?_;rintro _ dI ⟨dJ,rfl,aK⟩;have bJ:=bI.nb aK;have c2:=bI.BK aK;refine Bh rfl rfl (fun st=>Ba (n:=5) (l:=[I d.Ar,I d.AD,I d.AQ,I d.B9,I d.Ck]) (Ca:= #[I d.Ar,I d.AD,I d.AQ,I d.B9,I d.Ck]) (ee st rfl) (ee st rfl) H8 aK.bk rfl rfl (show 0+5≤5 by decide) (AP rfl) rfl) ?_;rintro _ bK u;have a7:=bJ.gr u.gr 0 rfl;refine Af<|Aa<|Ae<|Ab<|wd rfl (fun st=>An (ee st rfl) (IP _ _))<|wd rfl (fun st=>An (ee st rfl) (IN _ _))<|wd rfl (fun st=>As (v:=I d.Ar) AZ (ee st rfl) u.bk rfl)<|wd rfl (fun st=>CQ (ee st rfl) (ee st rfl))<|wm rfl (v:=.bool (decide (d.Ar<0))) rfl ?_;rcases Ap (decide (d.Ar<0)) with f|f
           ·replace a:=AF a f;refine Ai (c:=true) rfl rfl (Ad rfl f) (by decide) rfl (by decide)<|Ai (c:=true) rfl rfl (Ad rfl f) (by decide) rfl (by decide)<|Ai (c:=true) rfl rfl (Ad rfl f) (by decide) rfl (by decide)<|Ai (c:=true) rfl rfl (Ad rfl f) (by decide) rfl (by decide)<|Ai (c:=true) rfl rfl (Ad rfl f) (by decide) rfl (by decide)<|Ai (c:=true) rfl rfl (Ad rfl f) (by decide) rfl (by decide)<|Ai (c:=true) rfl rfl (Ad rfl f) (by decide) rfl (by decide)<|wd rfl (fun st=>AU (v:=.bool true) (ee st rfl) f (ee st rfl))<|wm rfl (v:=.bool true) rfl<|Ai rfl rfl rfl (by decide) rfl (by decide)<|Ai rfl rfl rfl (by decide) rfl (by decide)<|Ai rfl rfl rfl (by decide) rfl (by decide)<|Ai rfl rfl rfl (by decide) rfl (by decide)<|Ai rfl rfl rfl (by decide) rfl (by decide)<|Ai rfl rfl rfl (by decide) rfl (by decide)<|wd rfl (fun st=>AU (v:=.bool true) (ee st rfl) rfl (ee st rfl))<|wm rfl (v:=.bool true) rfl<|Ai rfl rfl rfl (by decide) rfl (by decide)<|Ai rfl rfl rfl (by decide) rfl (by decide)<|Ai rfl rfl rfl (by decide) rfl (by decide)<|Ai rfl rfl rfl (by decide) rfl (by decide)<|wd rfl (fun st=>AU (v:=.bool true) (ee st rfl) rfl (ee st rfl))<|wm rfl (v:=.bool true) rfl<|Ai rfl rfl rfl (by decide) rfl (by decide)<|Ai rfl rfl rfl (by decide) rfl (by decide)<|Ai rfl rfl rfl (by decide) rfl (by decide)<|Ai rfl rfl rfl (by decide) rfl (by decide)<|wd rfl (fun st=>AU (v:=.bool true) (ee st rfl) rfl (ee st rfl))<|wm rfl (v:=.bool true) rfl<|Ai rfl rfl rfl (by decide) rfl (by decide)<|Ai rfl rfl rfl (by decide) rfl (by decide)<|Ai rfl rfl rfl (by decide) rfl (by decide)<|Ai rfl rfl rfl (by decide) rfl (by decide)<|Ai rfl rfl rfl (by decide) rfl (by decide)<|Ai rfl rfl rfl (by decide) rfl (by decide)<|wd rfl (fun st=>AU (v:=.bool true) (ee st rfl) rfl (ee st rfl))<|Af<|Aa<|AA rfl rfl<|Ae ?_;refine Ab<|wa rfl (v:=I 1) rfl<|Af<|Aa<|AH<|Bd<|Az<|Az ?_;have c3:Hp FN [] w [some x] bK:=a7.erase 0;obtain rfl:=Option.some.inj a;refine B5 (fun st=>?_);exact .inl ⟨rfl,(1:Int),rfl,qz st,qd st,sp st 2 rfl,c3⟩
           ·replace a:=AG a f;refine Aq rfl rfl (Ad rfl f) rfl (by decide) (fun st=>An (ee st rfl) (IP _ _))<|Aq rfl rfl (Ad rfl f) rfl (by decide) (fun st=>An (ee st rfl) (IN _ _))<|Aq rfl rfl (Ad rfl f) rfl (by decide) (fun st=>As (v:=I d.Ar) AZ (ee st rfl) u.bk rfl)<|Aq rfl rfl (Ad rfl f) rfl (by decide) (fun st=>An (ee st rfl) (IP _ _))<|Aq rfl rfl (Ad rfl f) rfl (by decide) (fun st=>An (ee st rfl) (J7 _ _))<|Aq rfl rfl (Ad rfl f) rfl (by decide) (fun st=>As (v:=I d.AD) AZ (ee st rfl) u.bk rfl)<|Aq rfl rfl (Ad rfl f) rfl (by decide) (fun st=>Gi (ee st rfl) (ee st rfl))<|wd rfl (fun st=>Bp (v:=.bool (decide (d.AD<d.Ar))) (ee st rfl) f (ee st rfl))<|wm rfl (v:=.bool (decide (d.AD<d.Ar))) rfl ?_;rcases Ap (decide (d.AD<d.Ar)) with h|h
            ·replace a:=AF a h;refine Ai (c:=true) rfl rfl (Ad rfl h) (by decide) rfl (by decide)<|Ai (c:=true) rfl rfl (Ad rfl h) (by decide) rfl (by decide)<|Ai (c:=true) rfl rfl (Ad rfl h) (by decide) rfl (by decide)<|Ai (c:=true) rfl rfl (Ad rfl h) (by decide) rfl (by decide)<|Ai (c:=true) rfl rfl (Ad rfl h) (by decide) rfl (by decide)<|Ai (c:=true) rfl rfl (Ad rfl h) (by decide) rfl (by decide)<|wd rfl (fun st=>AU (v:=.bool true) (ee st rfl) h (ee st rfl))<|wm rfl (v:=.bool true) rfl<|Ai rfl rfl rfl (by decide) rfl (by decide)<|Ai rfl rfl rfl (by decide) rfl (by decide)<|Ai rfl rfl rfl (by decide) rfl (by decide)<|Ai rfl rfl rfl (by decide) rfl (by decide)<|wd rfl (fun st=>AU (v:=.bool true) (ee st rfl) rfl (ee st rfl))<|wm rfl (v:=.bool true) rfl<|Ai rfl rfl rfl (by decide) rfl (by decide)<|Ai rfl rfl rfl (by decide) rfl (by decide)<|Ai rfl rfl rfl (by decide) rfl (by decide)<|Ai rfl rfl rfl (by decide) rfl (by decide)<|wd rfl (fun st=>AU (v:=.bool true) (ee st rfl) rfl (ee st rfl))<|wm rfl (v:=.bool true) rfl<|Ai rfl rfl rfl (by decide) rfl (by decide)<|Ai rfl rfl rfl (by decide) rfl (by decide)<|Ai rfl rfl rfl (by decide) rfl (by decide)<|Ai rfl rfl rfl (by decide) rfl (by decide)<|Ai rfl rfl rfl (by decide) rfl (by decide)<|Ai rfl rfl rfl (by decide) rfl (by decide)<|wd rfl (fun st=>AU (v:=.bool true) (ee st rfl) rfl (ee st rfl))<|Af<|Aa<|AA rfl rfl<|Ae<|Ab<|wa rfl (v:=I 1) rfl<|Af<|Aa<|AH<|Bd<|Az<|Az ?_;have c4:Hp FN [] w [some x] bK:=a7.erase 0;obtain rfl:=Option.some.inj a;refine B5 (fun st=>?_);exact .inl ⟨rfl,(1:Int),rfl,qz st,qd st,sp st 2 rfl,c4⟩
            ·replace a:=AG a h;refine Aq rfl rfl (Ad rfl h) rfl (by decide) (fun st=>An (ee st rfl) (IP _ _))<|Aq rfl rfl (Ad rfl h) rfl (by decide) (fun st=>An (ee st rfl) (J7 _ _))<|Aq rfl rfl (Ad rfl h) rfl (by decide) (fun st=>As (v:=I d.AD) AZ (ee st rfl) u.bk rfl)<|Aq rfl rfl (Ad rfl h) rfl (by decide) (fun st=>An (ee st t) (Gh _ _)) ?_;have a8:=((aD.ext aK.gr).gr u.gr (bJ.ne 1 0 rfl rfl rfl));refine Aq rfl rfl (Ad rfl h) rfl (by decide) (fun st=>As (v:=I b.Aj) AZ (ee st rfl) a8 rfl)<|Aq rfl rfl (Ad rfl h) rfl (by decide) (fun st=>Gi (ee st rfl) (ee st rfl))<|wd rfl (fun st=>Bp (v:=.bool (decide (b.Aj<d.AD))) (ee st rfl) h (ee st rfl))<|wm rfl (v:=.bool (decide (b.Aj<d.AD))) rfl ?_;rcases Ap (decide (b.Aj<d.AD)) with q|q
             ·replace a:=AF a q;refine Ai (c:=true) rfl rfl (Ad rfl q) (by decide) rfl (by decide)<|Ai (c:=true) rfl rfl (Ad rfl q) (by decide) rfl (by decide)<|Ai (c:=true) rfl rfl (Ad rfl q) (by decide) rfl (by decide)<|Ai (c:=true) rfl rfl (Ad rfl q) (by decide) rfl (by decide)<|wd rfl (fun st=>AU (v:=.bool true) (ee st rfl) q (ee st rfl))<|wm rfl (v:=.bool true) rfl<|Ai rfl rfl rfl (by decide) rfl (by decide)<|Ai rfl rfl rfl (by decide) rfl (by decide)<|Ai rfl rfl rfl (by decide) rfl (by decide)<|Ai rfl rfl rfl (by decide) rfl (by decide)<|wd rfl (fun st=>AU (v:=.bool true) (ee st rfl) rfl (ee st rfl))<|wm rfl (v:=.bool true) rfl<|Ai rfl rfl rfl (by decide) rfl (by decide)<|Ai rfl rfl rfl (by decide) rfl (by decide)<|Ai rfl rfl rfl (by decide) rfl (by decide)<|Ai rfl rfl rfl (by decide) rfl (by decide)<|Ai rfl rfl rfl (by decide) rfl (by decide)<|Ai rfl rfl rfl (by decide) rfl (by decide)<|wd rfl (fun st=>AU (v:=.bool true) (ee st rfl) rfl (ee st rfl))<|Af<|Aa<|AA rfl rfl<|Ae<|Ab<|wa rfl (v:=I 1) rfl<|Af<|Aa<|AH<|Bd<|Az<|Az ?_;have c5:Hp FN [] w [some x] bK:=a7.erase 0;obtain rfl:=Option.some.inj a;refine B5 (fun st=>?_);exact .inl ⟨rfl,(1:Int),rfl,qz st,qd st,sp st 2 rfl,c5⟩
             ·replace a:=AG a q;refine Aq rfl rfl (Ad rfl q) rfl (by decide) (fun st=>An (ee st rfl) (Oc _ _))<|Aq rfl rfl (Ad rfl q) rfl (by decide) (fun st=>As (v:=I d.AQ) AZ (ee st rfl) u.bk rfl) ?_;replace a:=bind_some a;obtain⟨aP,cE,a⟩:=a;refine DW rfl rfl (Ad rfl q) rfl (by decide) (fun st=>AJ KP (ee st rfl) (Fb (ee st rfl) (ee st rfl) (ee st rfl)) (a46 aS d.AQ 1 5 ZA _ aP cE)) ?_;rintro _ c6 ⟨aU,rfl⟩;have bL:=a7.ext aU;refine Aq rfl rfl (Ad rfl q) rfl (by decide) (fun st=>Di (ee st rfl))<|wd rfl (fun st=>Bp (v:=.bool !aP) (ee st rfl) q (ee st rfl))<|wm rfl (v:=.bool !aP) rfl ?_;rcases Ap (!aP) with o|o
              ·replace a:=AF a o;have cS:aP=false:=by simpa using o
               refine Ai (c:=true) rfl rfl (Ad rfl o) (by decide) rfl (by decide)<|Ai (c:=true) rfl rfl (Ad rfl o) (by decide) rfl (by decide)<|Ai (c:=true) rfl rfl (Ad rfl o) (by decide) rfl (by decide)<|Ai (c:=true) rfl rfl (Ad rfl o) (by decide) rfl (by decide)<|wd rfl (fun st=>AU (v:=.bool true) (ee st rfl) o (ee st rfl))<|wm rfl (v:=.bool true) rfl<|Ai rfl rfl rfl (by decide) rfl (by decide)<|Ai rfl rfl rfl (by decide) rfl (by decide)<|Ai rfl rfl rfl (by decide) rfl (by decide)<|Ai rfl rfl rfl (by decide) rfl (by decide)<|Ai rfl rfl rfl (by decide) rfl (by decide)<|Ai rfl rfl rfl (by decide) rfl (by decide)<|wd rfl (fun st=>AU (v:=.bool true) (ee st rfl) rfl (ee st rfl))<|Af<|Aa<|AA rfl rfl<|Ae<|Ab<|wa rfl (v:=I 1) rfl<|Af<|Aa<|AH<|Bd<|Az<|Az ?_;have cF:Hp FN [] w [some x] c6:=bL.erase 0;obtain rfl:=Option.some.inj a;refine B5 (fun st=>?_);exact .inl ⟨rfl,(1:Int),rfl,qz st,qd st,sp st 2 rfl,cF⟩
              ·replace a:=AG a o;have cT:aP=true:=by simpa using o
               refine Aq rfl rfl (Ad rfl o) rfl (by decide) (fun st=>An (ee st rfl) (Od _ _)) ?_;have aQ:=(u.bk.ext aU);refine Aq rfl rfl (Ad rfl o) rfl (by decide) (fun st=>As (v:=I d.B9) AZ (ee st rfl) aQ rfl) ?_;replace a:=bind_some a;obtain⟨aR,cG,a⟩:=a;refine DW rfl rfl (Ad rfl o) rfl (by decide) (fun st=>AJ KP (ee st rfl) (Fb (ee st rfl) (ee st rfl) (ee st rfl)) (a46 aS d.B9 1 5 ZA _ aR cG)) ?_;rintro _ c7 ⟨aV,rfl⟩;have bM:=bL.ext aV;refine Aq rfl rfl (Ad rfl o) rfl (by decide) (fun st=>Di (ee st rfl))<|wd rfl (fun st=>Bp (v:=.bool !aR) (ee st rfl) o (ee st rfl))<|wm rfl (v:=.bool !aR) rfl ?_;rcases Ap (!aR) with g|g
               ·replace a:=AF a g;have cU:aR=false:=by simpa using g
                refine Ai (c:=true) rfl rfl (Ad rfl g) (by decide) rfl (by decide)<|Ai (c:=true) rfl rfl (Ad rfl g) (by decide) rfl (by decide)<|Ai (c:=true) rfl rfl (Ad rfl g) (by decide) rfl (by decide)<|Ai (c:=true) rfl rfl (Ad rfl g) (by decide) rfl (by decide)<|Ai (c:=true) rfl rfl (Ad rfl g) (by decide) rfl (by decide)<|Ai (c:=true) rfl rfl (Ad rfl g) (by decide) rfl (by decide)<|wd rfl (fun st=>AU (v:=.bool true) (ee st rfl) g (ee st rfl))<|Af<|Aa<|AA rfl rfl<|Ae<|Ab<|wa rfl (v:=I 1) rfl<|Af<|Aa<|AH<|Bd<|Az<|Az ?_;have cH:Hp FN [] w [some x] c7:=bM.erase 0;obtain rfl:=Option.some.inj a;refine B5 (fun st=>?_);exact .inl ⟨rfl,(1:Int),rfl,qz st,qd st,sp st 2 rfl,cH⟩
               ·replace a:=AG a g;have cV:aR=true:=by simpa using g
                refine Aq rfl rfl (Ad rfl g) rfl (by decide) (fun st=>An (ee st rfl) (Oe _ _)) ?_;have bC:=(aQ.ext aV);refine Aq rfl rfl (Ad rfl g) rfl (by decide) (fun st=>As (v:=I d.Ck) AZ (ee st rfl) bC rfl)<|Aq rfl rfl (Ad rfl g) rfl (by decide) (fun st=>An (ee st t) (Gh _ _)) ?_;have a0:=((a8.ext aU).ext aV);refine Aq rfl rfl (Ad rfl g) rfl (by decide) (fun st=>As (v:=I b.Aj) AZ (ee st rfl) a0 rfl) ?_;replace a:=bind_some a;obtain⟨a2,cI,a⟩:=a;refine DW rfl rfl (Ad rfl g) rfl (by decide) (fun st=>AJ KP (ee st rfl) (Fb (ee st rfl) (ee st rfl) (ee st rfl)) (a46 aS d.Ck 0 b.Aj ZA _ a2 cI)) ?_;rintro _ bN ⟨a5,rfl⟩;have bO:=bM.ext a5;refine Aq rfl rfl (Ad rfl g) rfl (by decide) (fun st=>Di (ee st rfl))<|wd rfl (fun st=>Bp (v:=.bool !a2) (ee st rfl) g (ee st rfl))<|Af<|Aa ?_;rcases Ap (!a2) with aF|aF
                ·replace a:=AF a aF;have cW:a2=false:=by simpa using aF
                 refine AA rfl aF<|Ae<|Ab<|wa rfl (v:=I 1) rfl<|Af<|Aa<|AH<|Bd<|Az<|Az ?_;have cJ:Hp FN [] w [some x] bN:=bO.erase 0;obtain rfl:=Option.some.inj a;refine B5 (fun st=>?_);exact .inl ⟨rfl,(1:Int),rfl,qz st,qd st,sp st 2 rfl,cJ⟩
                ·replace a:=AG a aF;have cX:a2=true:=by simpa using aF
                 refine AL rfl aF<|AW<|Br<|Aa<|Ab<|wm rfl (v:=I r) aI ?_;replace a:=AV a;obtain⟨cK,a⟩:=a;refine wd rfl (fun st=>Bz (ee st rfl) (ee st rfl) cK)<|wa rfl (v:=I (r+1)) rfl<|Af ?_;have cL:Hp FN [] w [some x] bN:=bO.erase 0;have bP:=(a0.ext a5);have a6:Sl AO bN (ZZ FN [] Z w.heap.size [some x]) j m b.Ac:=((((((aC.mv (Av aK)).mv (bJ.AK u.gr 0 rfl)).mv (Ak aU)).mv (Ak aV)).mv (Ak a5)).mv (AE 0));refine BB b6 (Nat.lt_succ_self _) (fun st=>?_);exact⟨(r+1),a,qz st,qd st,sp st 1 t,sp st 3 rfl,cL,bP,a6⟩
          ·replace a:=AG a aJ;refine AL rfl aJ<|Cn<|AR<|AR ?_;obtain rfl:=Option.some.inj a;refine B5 (fun st=>?_);exact .inr ⟨rfl,(),rfl,qz st,qd st,sp st 1 t,bI,aD,aC⟩
        case b5=>
         rintro b3 c9 dC (⟨rfl,aH,rfl,aL,aM,bD,aW⟩|⟨rfl,aH,rfl,aL,aM,bE,aW,bF,a3⟩)
         ·skip
          replace a:=Fm a;refine CB (X:=X0) (N:=101) aL aM<|Bd<|Az ?_;obtain rfl:=Option.some.inj a;refine AS rfl bD ?_;exact⟨aW.Bu,rfl⟩
         ·skip
          replace a:=Fo a;refine CB (X:=X0) (N:=101) aL aM<|Bv<|Aa<|Ae<|Ae<|Ab<|wd rfl (fun st=>A8 (l:=[I b.Aj,I b.Ah,I b.Am,I b.Ax,.slice j b.Ac.length m]) Es (ee st bE) bF rfl rfl) ?_;replace a:=bind_some a;obtain⟨bY,cM,a⟩:=a;refine we rfl (fun st=>AJ Of (ee st rfl) (CA (ee st rfl)) (UF aS b j m ZA _ a3.all bY cM)) ?_;rintro _ dK ⟨cN,rfl⟩;have bQ:=aW.ext cN;refine wd rfl (fun st=>Gi (ee st rfl) (ee st rfl))<|Af<|Aa ?_;rcases Ap (decide ((1000:Int)<bY)) with aN|aN
          ·replace a:=AF a aN;refine AA rfl aN<|Ae<|Ab<|wa rfl (v:=I 3) rfl<|Af<|Aa<|AH<|Az ?_;obtain rfl:=Option.some.inj a;refine AS rfl rfl ?_;exact⟨bQ.Bu,rfl⟩
          ·replace a:=AG a aN;refine AL rfl aN<|AW<|Aa<|Ae<|Ab<|wa rfl (v:=I 0) rfl<|Af<|Aa<|AH ?_;obtain rfl:=Option.some.inj a;refine AS rfl rfl ?_;exact⟨bQ.Bu,rfl⟩
theorem V2(p:Nat)(e:Ao)(b:AY)(h:Option Addr)(j:Nat)(Z:Nat→Prop)(w:World)(x:Sl AO w Z h j e.Ac)(aO:Bool)(a:E3 p e b=some aO):
 BO Tryz.prog 89 #[.agg #[I e.Aj,I e.Ah,I e.Am,I e.Ax,.slice h e.Ac.length j],.agg #[I b.Ar,I b.AD,I b.AQ,I b.B9,I b.Ck]] w (fun v w'=>Ext w w'∧BY.R w' (ZZ FN [] Z w.heap.size []) v aO):=by
 unfold E3 at a;refine A5 (N:=27) Tryz.func89 rfl rfl (by simp) ?_;intro aW aH aX;have aI:=AN (i:=0) (v:=.agg #[I e.Aj,I e.Ah,I e.Am,I e.Ax,.slice h e.Ac.length j]) aH rfl;have aJ:=AN (i:=1) (v:=.agg #[I b.Ar,I b.AD,I b.AQ,I b.B9,I b.Ck]) aH rfl;clear aH;have aC:Hp FN [] w [] w:=Hp.start (BQ.none w);have aN:=x.mv (Bq (Z:=Z) (L:=[]) w);refine Ae<|Ab<|we rfl (fun st=>B1 (v:=.agg #[I e.Aj,I e.Ah,I e.Am,I e.Ax,.slice h e.Ac.length j]) (cs:= #[I e.Aj,I e.Ah,I e.Am,I e.Ax,.slice h e.Ac.length j]) (ee st aI) rfl) ?_;rintro _ w1 ⟨a0,rfl,q⟩;have aD:=aC.nb q;have aU:=aC.BK q;refine we rfl (fun st=>B1 (v:=.agg #[I b.Ar,I b.AD,I b.AQ,I b.B9,I b.Ck]) (cs:= #[I b.Ar,I b.AD,I b.AQ,I b.B9,I b.Ck]) (ee st aJ) rfl) ?_;rintro _ w2 ⟨a2,rfl,k⟩;have aP:=aD.nb k;have aV:=aD.BK k;refine wa rfl (v:=.bool false) rfl<|Af<|Aa<|Ae<|Ab<|wd rfl (fun st=>An (ee st rfl) (J8 _ _))<|wd rfl (fun st=>A8 (l:=[I b.Ar,I b.AD]) K5 (ee st rfl) k.bk rfl rfl)<|wd rfl (fun st=>An (ee st rfl) (Hu _ _)) ?_;have m:=(q.bk.ext k.gr);refine wd rfl (fun st=>As (v:=I e.Aj) AZ (ee st rfl) m rfl) ?_;replace a:=bind_some a;obtain⟨aK,aQ,a⟩:=a;refine we rfl (fun st=>AJ SQ (ee st rfl) (EU (ee st rfl) (ee st rfl)) (VF p (⟨b.Ar,b.AD⟩:CJ) e.Aj ZA _ aK aQ)) ?_;rintro _ a3 ⟨r,rfl⟩;have aE:=aP.ext r;refine wm rfl (v:=.bool aK) rfl ?_;rcases Ap (aK) with f|f
 ·replace a:=AF a f;refine Aq rfl rfl (Ad rfl f) rfl (by decide) (fun st=>An (ee st rfl) (Ho _ _)) ?_;have n:=(k.bk.ext r);refine Aq rfl rfl (Ad rfl f) rfl (by decide) (fun st=>As (v:=I b.AQ) AZ (ee st rfl) n rfl) ?_;replace a:=bind_some a;obtain⟨y,aR,a⟩:=a;refine DW rfl rfl (Ad rfl f) rfl (by decide) (fun st=>AJ O3 (ee st rfl) (CA (ee st rfl)) (a141 p b.AQ ZA _ y aR)) ?_;rintro _ a4 ⟨s,rfl⟩;have aF:=aE.ext s;refine wd rfl (fun st=>AU (v:=.bool y) (ee st rfl) f (ee st rfl))<|wm rfl (v:=.bool y) rfl ?_;rcases Ap (y) with g|g
  ·replace a:=AF a g;refine Aq rfl rfl (Ad rfl g) rfl (by decide) (fun st=>An (ee st rfl) (LD _ _)) ?_;have o:=(n.ext s);refine Aq rfl rfl (Ad rfl g) rfl (by decide) (fun st=>As (v:=I b.B9) AZ (ee st rfl) o rfl) ?_;replace a:=bind_some a;obtain⟨z,aS,a⟩:=a;refine DW rfl rfl (Ad rfl g) rfl (by decide) (fun st=>AJ O3 (ee st rfl) (CA (ee st rfl)) (a141 p b.B9 ZA _ z aS)) ?_;rintro _ aY ⟨t,rfl⟩;have aG:=aF.ext t;refine wd rfl (fun st=>AU (v:=.bool z) (ee st rfl) g (ee st rfl))<|wm rfl (v:=.bool z) rfl ?_;rcases Ap (z) with d|d
   ·replace a:=AF a d;refine Aq rfl rfl (Ad rfl d) rfl (by decide) (fun st=>An (ee st rfl) (N8 _ _)) ?_;have aA:=(o.ext t);refine Aq rfl rfl (Ad rfl d) rfl (by decide) (fun st=>As (v:=I b.Ck) AZ (ee st rfl) aA rfl)<|Aq rfl rfl (Ad rfl d) rfl (by decide) (fun st=>An (ee st rfl) (Hu _ _)) ?_;have aB:=(((m.ext r).ext s).ext t);refine Aq rfl rfl (Ad rfl d) rfl (by decide) (fun st=>As (v:=I e.Aj) AZ (ee st rfl) aB rfl) ?_;replace a:=bind_some a;obtain⟨u,aL,a⟩:=a;refine DW rfl rfl (Ad rfl d) rfl (by decide) (fun st=>AJ Jo (ee st rfl) (Fb (ee st rfl) (ee st rfl) (ee st rfl)) (Pm p b.Ck 0 e.Aj ZA _ u aL)) ?_;rintro _ aZ ⟨aM,rfl⟩;have aT:=aG.ext aM;refine wd rfl (fun st=>AU (v:=.bool u) (ee st rfl) d (ee st rfl))<|wa rfl (v:=.bool u) rfl<|Af<|Aa<|AH ?_;obtain rfl:=Option.some.inj a;refine AS rfl rfl ?_;exact⟨aT.Bu,rfl⟩
   ·replace a:=AG a d;refine Ai (c:=false) rfl rfl (Ad rfl d) (by decide) rfl (by decide)<|Ai (c:=false) rfl rfl (Ad rfl d) (by decide) rfl (by decide)<|Ai (c:=false) rfl rfl (Ad rfl d) (by decide) rfl (by decide)<|Ai (c:=false) rfl rfl (Ad rfl d) (by decide) rfl (by decide)<|Ai (c:=false) rfl rfl (Ad rfl d) (by decide) rfl (by decide)<|wd rfl (fun st=>Bp (v:=.bool false) (ee st rfl) d (ee st rfl))<|wa rfl (v:=.bool false) rfl<|Af<|Aa<|AH ?_;obtain rfl:=Option.some.inj a;refine AS rfl rfl ?_;exact⟨aG.Bu,rfl⟩
  ·replace a:=AG a g;refine Ai (c:=false) rfl rfl (Ad rfl g) (by decide) rfl (by decide)<|Ai (c:=false) rfl rfl (Ad rfl g) (by decide) rfl (by decide)<|Ai (c:=false) rfl rfl (Ad rfl g) (by decide) rfl (by decide)<|wd rfl (fun st=>Bp (v:=.bool false) (ee st rfl) g (ee st rfl))<|wm rfl (v:=.bool false) rfl<|Ai rfl rfl rfl (by decide) rfl (by decide)<|Ai rfl rfl rfl (by decide) rfl (by decide)<|Ai rfl rfl rfl (by decide) rfl (by decide)<|Ai rfl rfl rfl (by decide) rfl (by decide)<|Ai rfl rfl rfl (by decide) rfl (by decide)<|wd rfl (fun st=>Bp (v:=.bool false) (ee st rfl) rfl (ee st rfl))<|wa rfl (v:=.bool false) rfl<|Af<|Aa<|AH ?_;obtain rfl:=Option.some.inj a;refine AS rfl rfl ?_;exact⟨aF.Bu,rfl⟩
 ·replace a:=AG a f;refine Ai (c:=false) rfl rfl (Ad rfl f) (by decide) rfl (by decide)<|Ai (c:=false) rfl rfl (Ad rfl f) (by decide) rfl (by decide)<|Ai (c:=false) rfl rfl (Ad rfl f) (by decide) rfl (by decide)<|wd rfl (fun st=>Bp (v:=.bool false) (ee st rfl) f (ee st rfl))<|wm rfl (v:=.bool false) rfl<|Ai rfl rfl rfl (by decide) rfl (by decide)<|Ai rfl rfl rfl (by decide) rfl (by decide)<|Ai rfl rfl rfl (by decide) rfl (by decide)<|wd rfl (fun st=>Bp (v:=.bool false) (ee st rfl) rfl (ee st rfl))<|wm rfl (v:=.bool false) rfl<|Ai rfl rfl rfl (by decide) rfl (by decide)<|Ai rfl rfl rfl (by decide) rfl (by decide)<|Ai rfl rfl rfl (by decide) rfl (by decide)<|Ai rfl rfl rfl (by decide) rfl (by decide)<|Ai rfl rfl rfl (by decide) rfl (by decide)<|wd rfl (fun st=>Bp (v:=.bool false) (ee st rfl) rfl (ee st rfl))<|wa rfl (v:=.bool false) rfl<|Af<|Aa<|AH ?_;obtain rfl:=Option.some.inj a;refine AS rfl rfl ?_;exact⟨aE.Bu,rfl⟩
theorem V4(aT:Nat)(h:List Int)(n:List Int)(c:Option Addr)(d:Nat)(f:Option Addr)(g:Nat)(Z:Nat→Prop)(w:World)(aJ:Sl (Ay .i64) w Z c d h)(aK:Sl (Ay .i64) w Z f g n)(aU:Bool)(a:FB aT h n=some aU):
 BO Tryz.prog 55 #[.slice c h.length d,.slice f n.length g] w (fun v w'=>Ext w w'∧BY.R w' (ZZ FN [] Z w.heap.size []) v aU):=by
 unfold FB at a;refine A5 (N:=26) Tryz.func55 rfl rfl (by simp) ?_;intro bI aO bJ;have aF:=AN (i:=0) (v:=.slice c h.length d) aO rfl;have aG:=AN (i:=1) (v:=.slice f n.length g) aO rfl;clear aO;have aL:Hp FN [] w [] w:=Hp.start (BQ.none w);have aA:=aJ.mv (Bq (Z:=Z) (L:=[]) w);have aB:=aK.mv (Bq (Z:=Z) (L:=[]) w);refine Ae<|Ab<|wa rfl (v:=.bool false) rfl<|Af<|Aa<|Ae<|Ae<|Ab<|wm rfl (v:=.slice c h.length d) aF<|wd rfl (fun st=>BP Tryz.underlying23 (ee st rfl))<|wm rfl (v:=.slice f n.length g) aG<|wd rfl (fun st=>BP Tryz.underlying23 (ee st rfl))<|wd rfl (fun st=>F7 (ee st rfl) (ee st rfl))<|Af<|Aa ?_;rcases Ap ((h.length:Int) !=(n.length:Int)) with t|t
 ·replace a:=AF a t;refine AA rfl t<|Ae<|Ab<|wa rfl (v:=.bool false) rfl<|Af<|Aa<|AH<|Az ?_;obtain rfl:=Option.some.inj a;refine AS rfl rfl ?_;exact⟨aL.Bu,rfl⟩
 ·replace a:=AG a t;refine AL rfl t<|AW<|Aa<|Ae<|Ae<|Ab<|wa rfl (v:=I 0) rfl<|Af<|Aa<|Bc ?_;replace a:=bind_some a;obtain⟨z2,o,a⟩:=a;refine Ct (fun aP e aC=>(aP=.ret∧∃p,z2=.inl p∧e.tmps.size=26∧e.defers=(X0).ds∧sl e 4=.bool p∧Hp FN [] w [] aC)∨(aP=.exit 0∧∃p,z2=.inr p∧e.tmps.size=26∧e.defers=(X0).ds∧Hp FN [] w [] aC)) ?aV ?aW
  case aV=>
   clear a;refine Cs (fun(aQ:Nat) (e:Act) (aC:World)=>∃b,DO h n aQ b=some z2∧e.tmps.size=26∧e.defers=(X0).ds∧sl e 0=.slice c h.length d∧sl e 1=.slice f n.length g∧sl e 5=I b∧Hp FN [] w [] aC∧Sl (Ay .i64) aC (ZZ FN [] Z w.heap.size []) c d h∧Sl (Ay .i64) aC (ZZ FN [] Z w.heap.size []) f g n) aT ?aX ?aY
   case aX=>
    intro st;exact⟨(0:Int),o,qz st,qd st,sp st 0 aF,sp st 1 aG,sp st 5 rfl,aL,aA,aB⟩
   case aY=>
    rintro(_|aQ) bK bL ⟨b,o,aR,aS,q,z,j,aM,l,m⟩
    ·exact absurd (show none=some _ from o) (by simp)
    rw[DO.eq_2] at o;have a:=o;clear o;refine B6 (N:=26) aR aS<|Ae<|Ae<|Ab<|wm rfl (v:=I b) j<|wm rfl (v:=.slice c h.length d) q<|wd rfl (fun st=>BP Tryz.underlying23 (ee st rfl))<|wd rfl (fun st=>CQ (ee st rfl) (ee st rfl))<|Af<|Aa ?_;rcases Ap (decide (b<(h.length:Int))) with u|u
    ·replace a:=AF a u;refine AA rfl u<|AW<|Aa<|Ae<|Bc<|Ae ?_;replace a:=Bs a;obtain⟨i5,aZ,a0,a2,a3,a⟩:=a;obtain⟨bD,bE,_,a4,rfl,a5⟩:=Sl.EK l rfl a2;replace a:=Bs a;obtain⟨i6,a6,a7,a8,a9,a⟩:=a;obtain⟨bF,bG,_,bA,rfl,bB⟩:=Sl.EK m rfl a8;refine CO 8 [Kc (.slice c h.length d),Kc (I b),Kc (pt bD (bE+i5)),Kc (I aZ),Kc (.slice f n.length g),Kc (I b),Kc (pt bF (bG+i6)),Kc (I a6)] mixed rfl rfl
         (Ag (od rfl (fun _=>rfl) (fun K=>AM (es ((K.out 0 rfl).trans q))))
         (Ag (od rfl (fun _=>rfl) (fun K=>AM (es ((K.out 5 rfl).trans j))))
         (Ag (od rfl (fun _=>rfl) (fun K=>Bw (k:=i5) Tryz.underlying23 Dm (es (K.Aw 0 17 rfl rfl)) a4 (es (K.Aw 1 18 rfl rfl)) a0 a3))
         (Ag (od rfl (fun _=>rfl) (fun K=>Cg AZ (es (K.Aw 2 19 rfl rfl)) (a5.mv (Ak K.Bi)) rfl))
         (Ag (od rfl (fun _=>rfl) (fun K=>AM (es ((K.out 1 rfl).trans z))))
         (Ag (od rfl (fun _=>rfl) (fun K=>AM (es ((K.out 5 rfl).trans j))))
         (Ag (od rfl (fun _=>rfl) (fun K=>Bw (k:=i6) Tryz.underlying23 Dm (es (K.Aw 4 21 rfl rfl)) bA (es (K.Aw 5 22 rfl rfl)) a7 a9))
         (Ag (od rfl (fun _=>rfl) (fun K=>Cg AZ (es (K.Aw 6 23 rfl rfl)) (bB.mv (Ak K.Bi)) rfl))
         (B7 _))))))))) ?_
     intro bN;rintro _ rfl _ rfl _ rfl _ rfl _ rfl _ rfl _ rfl _ rfl aH;have aN:=aM.ext aH;refine wd rfl (fun st=>F7 (ee st rfl) (ee st rfl))<|Af<|Aa ?_;rcases Ap (aZ !=a6) with x|x
     ·replace a:=AF a x;refine AA rfl x<|Ae<|Ab<|wa rfl (v:=.bool false) rfl<|Af<|Aa<|AH<|Bd<|Az<|Az ?_;obtain rfl:=Option.some.inj a;refine B5 (fun st=>?_);exact .inl ⟨rfl,false,rfl,qz st,qd st,sp st 4 rfl,aN⟩
     ·replace a:=AG a x;refine AL rfl x<|AW<|Br<|Aa<|Ab<|wm rfl (v:=I b) j ?_;replace a:=AV a;obtain⟨bC,a⟩:=a;refine wd rfl (fun st=>Bz (ee st rfl) (ee st rfl) bC)<|wa rfl (v:=I (b+1)) rfl<|Af ?_;have aD:=(l.mv (Ak aH));have aE:=(m.mv (Ak aH));refine BB aQ (Nat.lt_succ_self _) (fun st=>?_);exact⟨(b+1),a,qz st,qd st,sp st 0 q,sp st 1 z,sp st 5 rfl,aN,aD,aE⟩
    ·replace a:=AG a u;refine AL rfl u<|Cn<|AR<|AR ?_;obtain rfl:=Option.some.inj a;refine B5 (fun st=>?_);exact .inr ⟨rfl,(),rfl,qz st,qd st,aM⟩
  case aW=>
   rintro aP bH bM (⟨rfl,p,rfl,r,s,aI,y⟩|⟨rfl,p,rfl,r,s,y⟩)
   ·skip
    replace a:=Fm a;refine CB (X:=X0) (N:=26) r s<|Bd<|Az ?_;obtain rfl:=Option.some.inj a;refine AS rfl aI ?_;exact⟨y.Bu,rfl⟩
   ·skip
    replace a:=Fo a;refine CB (X:=X0) (N:=26) r s<|Bv<|Aa<|Ae<|Ab<|wa rfl (v:=.bool true) rfl<|Af<|Aa<|AH ?_;obtain rfl:=Option.some.inj a;refine AS rfl rfl ?_;exact⟨y.Bu,rfl⟩
theorem Me(y:Nat)(a:Int)(Z:Nat→Prop)(w:World)(s:Ao)(t:CM y a=some s):
 BO Tryz.prog 82 #[I a] w (fun v w'=>Ext w w'∧(CP F3).R w' (ZZ FN [] Z w.heap.size []) v s):=by
 unfold CM at t;refine A5 (N:=9) Tryz.func82 rfl rfl (by simp) ?_;intro z u aA;have r:=AN (i:=0) (v:=I a) u rfl;clear u;have m:Hp FN [] w [] w:=Hp.start (BQ.none w);refine Ae<|Ab<|we rfl (fun st=>BI (cs:= #[I 0,I 0,I 0,I 0,.slice none 0 0]) My rfl) ?_;rintro _ w1 ⟨aB,rfl,c⟩;have o:=m.nb c;have x:=m.BK c;refine Af<|Aa<|Ae<|Ab<|wm rfl (v:=I a) r<|wd rfl (fun st=>C0 (vs:= #[(1,I 2),(2,I 2),(3,I 2)]) (v:=.agg #[I 0,I 0,I 2,I 2,I 2]) (Ki (ee st rfl) (ee st rfl) (ee st rfl)) (by kernel_rfl))<|wd rfl (fun st=>C0 (vs:= #[(0,I 1),(1,I 1)]) (v:=.agg #[I 1,I 1]) (H3 (ee st rfl) (ee st rfl)) (by kernel_rfl))<|wd rfl (fun st=>C0 (vs:= #[(0,.agg #[I 1,I 1]),(1,I 2),(2,I 1),(3,I 5)]) (v:=.agg #[I 1,I 1,I 2,I 1,I 5]) (TD (ee st rfl) (ee st rfl) (ee st rfl) (ee st rfl)) (by kernel_rfl))<|we rfl (fun st=>BF (e:=156) (vs:= #[(0,.agg #[I 0,I 0,I 2,I 2,I 2]),(1,.agg #[I 1,I 1,I 2,I 1,I 5])]) (cs:= #[I 0,I 0,I 2,I 2,I 2,I 1,I 1,I 2,I 1,I 5]) (H3 (ee st rfl) (ee st rfl)) (by kernel_rfl)) ?_;rintro _ w2 ⟨d,rfl,b⟩;have p:=o.nb b;have g:=o.BK b;refine wd rfl (fun st=>C0 (vs:= #[(0,I 5),(1,I 1),(2,I a),(3,I 1),(4,.slice (some ⟨d,0,none⟩) 2 2)]) (v:=.agg #[I 5,I 1,I a,I 1,.slice (some ⟨d,0,none⟩) 2 2]) (VY (ee st rfl) (ee st rfl) (ee st rfl) (ee st rfl) (ee st rfl)) (by kernel_rfl)) ?_;have j:=(c.bk.ext b.gr);refine Bh rfl rfl (fun st=>Ba (n:=5) (l:=[I 5,I 1,I a,I 1,.slice (some ⟨d,0,none⟩) 2 2]) (Ca:= #[I 5,I 1,I a,I 1,.slice (some ⟨d,0,none⟩) 2 2]) (ee st rfl) (ee st rfl) P7 j rfl rfl (show 0+5≤5 by decide) (AP rfl) rfl) ?_;rintro _ aC f;have q:=p.gr f.gr 1 rfl;refine Af<|Aa<|AH ?_;obtain rfl:=Option.some.inj t;refine FW (v:=.agg #[I 5,I 1,I a,I 1,.slice (some ⟨d,0,none⟩) 2 2]) rfl rfl (CR CZ f.bk rfl rfl) ?_;have k:=(b.bk.gr f.gr (p.ne 0 1 rfl rfl rfl));exact⟨q.Bu,⟨_,rfl,_,_,rfl,F8 (e:=AO) (xs:=[(⟨0,0,2,2,2⟩:AY),(⟨1,1,2,1,5⟩:AY)]) (Bg:=[[I 0,I 0,I 2,I 2,I 2],[I 1,I 1,I 2,I 1,I 5]]) k (.inr ⟨g,fun hm=>q.BA (F':=FN) (M:=[]) 0 rfl [] rfl trivial (fun _ h=>h.elim) (.inr hm)⟩) ⟨rfl,rfl,trivial⟩ rfl (Nat.le_refl _)⟩⟩
theorem V5(bA:Nat)(b:Int)(Z:Nat→Prop)(w:World)(aX:AT)(j:Gr bA b=some aX):
 BO Tryz.prog 83 #[I b] w (fun v w'=>Ext w w'∧(CP D0).R w' (ZZ FN [] Z w.heap.size []) v aX):=by
 unfold Gr at j;refine A5 (N:=12) Tryz.func83 rfl rfl (by simp) ?_;intro bH aY bI;have aQ:=AN (i:=0) (v:=I b) aY rfl;clear aY;have aI:Hp FN [] w [] w:=Hp.start (BQ.none w);refine Ae<|Ab<|we rfl (fun st=>BI (cs:= #[.slice none 0 0,.slice none 0 0]) G0 rfl) ?_;rintro _ w1 ⟨t,rfl,u⟩;have aJ:=aI.nb u;have a7:=aI.BK u;refine Af<|Aa<|Ae<|Ab<|we rfl (fun st=>BF (e:=3) (vs:= #[(0,I 0),(1,I 1)]) (cs:= #[I 0,I 1]) (H3 (ee st rfl) (ee st rfl)) (by kernel_rfl)) ?_;rintro _ w2 ⟨c,rfl,q⟩;have x:=aJ.nb q;have aD:=aJ.BK q;replace j:=GL j;obtain⟨aZ,j⟩:=j;refine we rfl (fun st=>Hc (e:=Bt) (z:=false) (zc:=[.bool false]) (n0:=w.heap.size) (b':=1) Tryz.underlying65 KQ rfl rfl (ee st rfl) (ee st rfl) aZ (fun _ _=>rfl) x.sz (by decide)) ?_;rintro _ a0 ⟨a,rfl,aK,aR,y,aS⟩;have aL:Hp FN [] w [some a,some c,some t] a0:=x.new y aK aR;have a8:w.heap.size≤a:=Nat.le_trans x.sz aK;have a2:AB Bt 4 w.heap.size a0 (ZZ FN [] Z w.heap.size [some a,some c,some t]) (some ⟨a,0,none⟩) ((6:Int).toNat) (List.replicate (6:Int).toNat false):=aS _;refine wd rfl (fun st=>C0 (vs:= #[(0,.slice (some ⟨c,0,none⟩) 2 2),(1,.slice (some ⟨a,0,none⟩) ((List.replicate (6:Int).toNat false).length) ((6:Int).toNat))]) (v:=.agg #[.slice (some ⟨c,0,none⟩) 2 2,.slice (some ⟨a,0,none⟩) ((List.replicate (6:Int).toNat false).length) ((6:Int).toNat)]) (H3 (ee st rfl) (ee st rfl)) (by kernel_rfl))<|we rfl (fun st=>BI (cs:= #[.slice none 0 0,.slice none 0 0]) G0 rfl) ?_;rintro _ bK ⟨aE,rfl,d⟩;have m:=aL.nb d;have a9:=aL.BK d;refine Bh rfl rfl (fun st=>Ba (n:=2) (l:=[.slice (some ⟨c,0,none⟩) 2 2,.slice (some ⟨a,0,none⟩) ((List.replicate (6:Int).toNat false).length) ((6:Int).toNat)]) (Ca:= #[.slice (some ⟨c,0,none⟩) 2 2,.slice (some ⟨a,0,none⟩) ((List.replicate (6:Int).toNat false).length) ((6:Int).toNat)]) (ee st rfl) (ee st rfl) G4 d.bk rfl rfl (show 0+2≤2 by decide) (AP rfl) rfl) ?_;rintro _ bB f;have o:=m.gr f.gr 0 rfl;refine Af<|Aa<|Ae<|Ab<|wd rfl (fun st=>An (ee st rfl) (Hv _ _))<|wd rfl (fun st=>As (v:=.slice (some ⟨a,0,none⟩) ((List.replicate (6:Int).toNat false).length) ((6:Int).toNat)) F5 (ee st rfl) f.bk rfl)<|wm rfl (v:=I b) aQ ?_;replace j:=Bs j;obtain⟨i7,bL,aM,aN,aA,j⟩:=j;have r:AB Bt 4 w.heap.size bB (ZZ FN [] Z w.heap.size [some aE,some a,some c,some t]) (some ⟨a,0,none⟩) ((6:Int).toNat) (List.replicate (6:Int).toNat false):=((a2.ext d.gr (Av d)).gr f.gr (fun k aT=>m.ne 1 0 rfl (congrArg some aT) rfl) (m.AK f.gr 0 rfl));obtain⟨bM,bN,_,aO,rfl,bJ⟩:=Sl.EK r.all rfl aN;refine wd rfl (fun st=>Bw (k:=i7) Tryz.underlying65 KR (ee st rfl) aO (ee st rfl) aM aA) ?_;have aP:b.toNat=i7:=by rw[aM,Int.toNat_natCast]
 refine Bh rfl rfl (fun st=>FA (k:=i7) (z':=true) (l:=[.bool true]) r aN aO rfl (ee st rfl) (ee st rfl) KR rfl rfl (AP rfl) rfl) ?_;rintro _ a3 ⟨p,a4⟩;have s:=o.gr p 1 rfl;have aU:AB Bt 4 w.heap.size a3 (ZZ FN [] Z w.heap.size [some aE,some a,some c,some t]) (some ⟨a,0,none⟩) ((6:Int).toNat) ((List.replicate (6:Int).toNat false).set b.toNat true):=by rw[show(List.replicate (6:Int).toNat false).set b.toNat true=(List.replicate (6:Int).toNat false).set i7 true from congrArg (fun aV=>(List.replicate (6:Int).toNat false).set aV true) aP];exact FM a4 (o.AK p 1 rfl)
 have bC:((List.replicate (6:Int).toNat false).set b.toNat true)[i7]?=some true:=by rw[show(List.replicate (6:Int).toNat false).set b.toNat true=(List.replicate (6:Int).toNat false).set i7 true from congrArg (fun aV=>(List.replicate (6:Int).toNat false).set aV true) aP];exact List.getElem?_set_self aA
 have bD:i7<((List.replicate (6:Int).toNat false).set b.toNat true).length:=by rw[List.length_set];exact aA
 have bE:(.slice (some ⟨a,0,none⟩) ((List.replicate (6:Int).toNat false).length) ((6:Int).toNat):Value)=.slice (some ⟨a,0,none⟩) (((List.replicate (6:Int).toNat false).set b.toNat true).length) ((6:Int).toNat):=by simp only[List.length_set]
 have bF:(.agg #[.slice (some ⟨c,0,none⟩) 2 2,.slice (some ⟨a,0,none⟩) ((List.replicate (6:Int).toNat false).length) ((6:Int).toNat)]:Value)=.agg #[.slice (some ⟨c,0,none⟩) 2 2,.slice (some ⟨a,0,none⟩) (((List.replicate (6:Int).toNat false).set b.toNat true).length) ((6:Int).toNat)]:=by simp only[List.length_set]
 have bG:(.slice (some ⟨a,0,none⟩) ((List.replicate (6:Int).toNat false).length) ((6:Int).toNat):Value)=.slice (some ⟨a,0,none⟩) (((List.replicate (6:Int).toNat false).set b.toNat true).length) ((6:Int).toNat):=by simp only[List.length_set]
 have aF:=(f.bk.gr p (o.ne 0 1 rfl rfl rfl));have aW:Bk a3 aE 78 #[.slice (some ⟨c,0,none⟩) 2 2,.slice (some ⟨a,0,none⟩) (((List.replicate (6:Int).toNat false).set b.toNat true).length) ((6:Int).toNat)]:=by have a5:=aF;simp only[List.length_set] at a5⊢;exact a5
 refine Af<|Aa<|Ae<|Ab<|wd rfl (fun st=>A8 (l:=[.slice (some ⟨c,0,none⟩) 2 2,.slice (some ⟨a,0,none⟩) (((List.replicate (6:Int).toNat false).set b.toNat true).length) ((6:Int).toNat)]) F6 (ee st rfl) aW rfl rfl) ?_;have aG:=(((((u.bk.ext q.gr).ext y).ext d.gr).gr f.gr (m.ne 3 0 rfl rfl rfl)).gr p (o.ne 3 1 rfl rfl rfl));refine Bh rfl rfl (fun st=>Ba (n:=2) (l:=[.slice (some ⟨c,0,none⟩) 2 2,.slice (some ⟨a,0,none⟩) (((List.replicate (6:Int).toNat false).set b.toNat true).length) ((6:Int).toNat)]) (Ca:= #[.slice (some ⟨c,0,none⟩) 2 2,.slice (some ⟨a,0,none⟩) (((List.replicate (6:Int).toNat false).set b.toNat true).length) ((6:Int).toNat)]) (ee st rfl) (ee st rfl) G4 aG rfl rfl (show 0+2≤2 by decide) (AP rfl) rfl) ?_;rintro _ a6 g;have aB:=s.gr g.gr 3 rfl;refine Af<|Aa<|AH ?_;obtain rfl:=Option.some.inj j;refine FW (v:=.agg #[.slice (some ⟨c,0,none⟩) 2 2,.slice (some ⟨a,0,none⟩) (((List.replicate (6:Int).toNat false).set b.toNat true).length) ((6:Int).toNat)]) rfl rfl (CR F6 g.bk rfl rfl) ?_;have aH:=(((((q.bk.ext y).ext d.gr).gr f.gr (m.ne 2 0 rfl rfl rfl)).gr p (o.ne 2 1 rfl rfl rfl)).gr g.gr (s.ne 2 3 rfl rfl rfl));have aC:AB Bt 4 w.heap.size a6 (ZZ FN [] Z w.heap.size [some aE,some a,some c,some t]) (some ⟨a,0,none⟩) ((6:Int).toNat) ((List.replicate (6:Int).toNat false).set b.toNat true):=(aU.gr g.gr (fun k aT=>s.ne 1 3 rfl (congrArg some aT) rfl) (s.AK g.gr 3 rfl));exact⟨aB.Bu,⟨_,rfl,_,_,_,_,rfl,F8 (e:=(Ay .i64)) (xs:=[0,1]) (Bg:=[[I 0],[I 1]]) aH (.inr ⟨aD,fun hm=>aB.BA (F':=FN) (M:=[]) 2 rfl [] rfl trivial (fun _ h=>h.elim) (.inr hm)⟩) ⟨rfl,rfl,trivial⟩ rfl (Nat.le_refl _),aB.ID (M:=[]) 1 rfl [] rfl trivial aC⟩⟩
theorem V6(aX:Nat)(g:List Au)(a:Au)(e:Au)(j:Option Addr)(m:Nat)(Z:Nat→Prop)(w:World)(y:Sl BR w Z j m g)(aI:Bool)(h:Gs aX g a e=some aI):
 BO Tryz.prog 84 #[.slice j g.length m,.agg #[I a.On,I a.Be,.bool a.AQ],.agg #[I e.On,I e.Be,.bool e.AQ]] w (fun v w'=>Ext w w'∧BY.R w' (ZZ FN [] Z w.heap.size []) v aI):=by
 unfold Gs at h;refine A5 (N:=24) Tryz.func84 rfl rfl (by simp) ?_;intro a0 z a2;have o:=AN (i:=0) (v:=.slice j g.length m) z rfl;have aG:=AN (i:=1) (v:=.agg #[I a.On,I a.Be,.bool a.AQ]) z rfl;have aH:=AN (i:=2) (v:=.agg #[I e.On,I e.Be,.bool e.AQ]) z rfl;clear z;have aA:Hp FN [] w [] w:=Hp.start (BQ.none w);have u:=y.mv (Bq (Z:=Z) (L:=[]) w);refine Ae<|Ab<|we rfl (fun st=>B1 (v:=.agg #[I a.On,I a.Be,.bool a.AQ]) (cs:= #[I a.On,I a.Be,.bool a.AQ]) (ee st aG) rfl) ?_;rintro _ w1 ⟨a3,rfl,s⟩;have aB:=aA.nb s;have aV:=aA.BK s;refine we rfl (fun st=>B1 (v:=.agg #[I e.On,I e.Be,.bool e.AQ]) (cs:= #[I e.On,I e.Be,.bool e.AQ]) (ee st aH) rfl) ?_;rintro _ w2 ⟨a4,rfl,q⟩;have x:=aB.nb q;have aW:=aB.BK q;refine wa rfl (v:=.bool false) rfl<|Af<|Aa<|Ae ?_;rcases Ap ((g.length:Int)==2) with d|d
 ·replace h:=AF h d;replace h:=Bs h;obtain⟨i5,b,aC,aJ,aD,h⟩:=h;have p:=((u.mv (Av s)).mv (Av q));obtain⟨aK,aL,_,aE,rfl,aF⟩:=Sl.elem p (by decide) aJ;have t:=(s.bk.ext q.gr);rcases Ap (Gb [.inl b.On,.inl b.Be,.inr b.AQ] [.inl a.On,.inl a.Be,.inr a.AQ]) with f|f
  ·replace h:=AF h f;replace h:=Bs h;obtain⟨i7,n,aM,aN,aO,h⟩:=h;obtain⟨aY,aZ,_,aP,rfl,aQ⟩:=Sl.elem p (by decide) aN;refine CO 15 [Kc (.slice j g.length m),Kc (I (g.length:Int)),Kc (.bool ((g.length:Int)==2)),Kc (.bool ((g.length:Int)==2)),Kc (.slice j g.length m),Kc (pt aK (aL+i5*3)),Kc (.agg #[I b.On,I b.Be,.bool b.AQ]),Kc (.agg #[I a.On,I a.Be,.bool a.AQ]),Kc (.bool (Gb [.inl b.On,.inl b.Be,.inr b.AQ] [.inl a.On,.inl a.Be,.inr a.AQ])),Kc (.bool (Gb [.inl b.On,.inl b.Be,.inr b.AQ] [.inl a.On,.inl a.Be,.inr a.AQ])),Kc (.bool (Gb [.inl b.On,.inl b.Be,.inr b.AQ] [.inl a.On,.inl a.Be,.inr a.AQ])),Kc (.slice j g.length m),Kc (pt aY (aZ+i7*3)),Kc (.agg #[I n.On,I n.Be,.bool n.AQ]),Kc (.agg #[I e.On,I e.Be,.bool e.AQ])] mixed rfl rfl
       (Ag (od rfl (fun _=>rfl) (fun K=>AM (es ((K.out 0 rfl).trans o))))
       (Ag (od rfl (fun _=>rfl) (fun K=>BP Tryz.underlying70 (es (K.Aw 0 7 rfl rfl))))
       (Ag (od rfl (fun _=>rfl) (fun K=>Cv (es (K.Aw 1 8 rfl rfl)) (ec (v:=I 2))))
       (Ag (od rfl (fun _=>rfl) (fun K=>AM (es (K.Aw 2 9 rfl rfl))))
       (Ag (Bl rfl rfl rfl (fun _=>rfl) (fun a' w' ph K=>Ad (K.Aw 3 10 rfl rfl) d) (fun a' w' ph K=>AM (es ((K.out 0 rfl).trans o))))
       (Ag (Bl rfl rfl rfl (fun _=>rfl) (fun a' w' ph K=>Ad (K.Aw 3 10 rfl rfl) d) (fun a' w' ph K=>Cl (k:=i5) Tryz.underlying70 Ea (es (K.Aw 4 11 rfl rfl)) aE (ec (v:=I 0)) aC aD))
       (Ag (Bl rfl rfl rfl (fun _=>rfl) (fun a' w' ph K=>Ad (K.Aw 3 10 rfl rfl) d) (fun a' w' ph K=>C3 (l:=[I b.On,I b.Be,.bool b.AQ]) Du (es (K.Aw 5 12 rfl rfl)) (aF.mv (Ak K.Bi)) rfl rfl))
       (Ag (Bl rfl rfl rfl (fun _=>rfl) (fun a' w' ph K=>Ad (K.Aw 3 10 rfl rfl) d) (fun a' w' ph K=>A8 (l:=[I a.On,I a.Be,.bool a.AQ]) Du (es ((K.out 4 rfl).trans rfl)) (t.ext K.Bi) rfl rfl))
       (Ag (Bl rfl rfl rfl (fun _=>rfl) (fun a' w' ph K=>Ad (K.Aw 3 10 rfl rfl) d) (fun a' w' ph K=>LS (x1:=[.inl b.On,.inl b.Be,.inr b.AQ]) (x2:=[.inl a.On,.inl a.Be,.inr a.AQ]) IQ Jq (es (K.Aw 6 13 rfl rfl)) (es (K.Aw 7 14 rfl rfl)) rfl rfl rfl rfl))
       (Ag (od rfl (fun _=>rfl) (fun K=>AU (es (K.Aw 3 10 rfl rfl)) d (es (K.Aw 8 15 rfl rfl))))
       (Ag (od rfl (fun _=>rfl) (fun K=>AM (es (K.Aw 9 16 rfl rfl))))
       (Ag (Bl rfl rfl rfl (fun _=>rfl) (fun a' w' ph K=>Ad (K.Aw 10 17 rfl rfl) f) (fun a' w' ph K=>AM (es ((K.out 0 rfl).trans o))))
       (Ag (Bl rfl rfl rfl (fun _=>rfl) (fun a' w' ph K=>Ad (K.Aw 10 17 rfl rfl) f) (fun a' w' ph K=>Cl (k:=i7) Tryz.underlying70 Ea (es (K.Aw 11 18 rfl rfl)) aP (ec (v:=I 1)) aM aO))
       (Ag (Bl rfl rfl rfl (fun _=>rfl) (fun a' w' ph K=>Ad (K.Aw 10 17 rfl rfl) f) (fun a' w' ph K=>C3 (l:=[I n.On,I n.Be,.bool n.AQ]) Du (es (K.Aw 12 19 rfl rfl)) (aQ.mv (Ak K.Bi)) rfl rfl))
       (Ag (Bl rfl rfl rfl (fun _=>rfl) (fun a' w' ph K=>Ad (K.Aw 10 17 rfl rfl) f) (fun a' w' ph K=>A8 (l:=[I e.On,I e.Be,.bool e.AQ]) Du (es ((K.out 5 rfl).trans rfl)) (q.bk.ext K.Bi) rfl rfl))
       (B7 _)))))))))))))))) ?_
   intro aR;rintro _ rfl _ rfl _ rfl _ rfl _ rfl _ rfl _ rfl _ rfl _ rfl _ rfl _ rfl _ rfl _ rfl _ rfl _ rfl r;have aS:=x.ext r;refine Aq rfl rfl (Ad rfl f) rfl (by decide) (fun st=>LS (x1:=[.inl n.On,.inl n.Be,.inr n.AQ]) (x2:=[.inl e.On,.inl e.Be,.inr e.AQ]) IQ Jq (ee st rfl) (ee st rfl) rfl rfl rfl rfl)<|wd rfl (fun st=>AU (v:=.bool (Gb [.inl n.On,.inl n.Be,.inr n.AQ] [.inl e.On,.inl e.Be,.inr e.AQ])) (ee st rfl) f (ee st rfl))<|wa rfl (v:=.bool (Gb [.inl n.On,.inl n.Be,.inr n.AQ] [.inl e.On,.inl e.Be,.inr e.AQ])) rfl<|Af<|Aa<|AH ?_;obtain rfl:=Option.some.inj h;refine AS rfl rfl ?_;exact⟨aS.Bu,rfl⟩
  ·replace h:=AG h f;refine CO 15 [Kc (.slice j g.length m),Kc (I (g.length:Int)),Kc (.bool ((g.length:Int)==2)),Kc (.bool ((g.length:Int)==2)),Kc (.slice j g.length m),Kc (pt aK (aL+i5*3)),Kc (.agg #[I b.On,I b.Be,.bool b.AQ]),Kc (.agg #[I a.On,I a.Be,.bool a.AQ]),Kc (.bool (Gb [.inl b.On,.inl b.Be,.inr b.AQ] [.inl a.On,.inl a.Be,.inr a.AQ])),Kc (.bool (Gb [.inl b.On,.inl b.Be,.inr b.AQ] [.inl a.On,.inl a.Be,.inr a.AQ])),Kc (.bool (Gb [.inl b.On,.inl b.Be,.inr b.AQ] [.inl a.On,.inl a.Be,.inr a.AQ])),Kc undef,Kc undef,Kc undef,Kc undef] mixed rfl rfl
       (Ag (od rfl (fun _=>rfl) (fun K=>AM (es ((K.out 0 rfl).trans o))))
       (Ag (od rfl (fun _=>rfl) (fun K=>BP Tryz.underlying70 (es (K.Aw 0 7 rfl rfl))))
       (Ag (od rfl (fun _=>rfl) (fun K=>Cv (es (K.Aw 1 8 rfl rfl)) (ec (v:=I 2))))
       (Ag (od rfl (fun _=>rfl) (fun K=>AM (es (K.Aw 2 9 rfl rfl))))
       (Ag (Bl rfl rfl rfl (fun _=>rfl) (fun a' w' ph K=>Ad (K.Aw 3 10 rfl rfl) d) (fun a' w' ph K=>AM (es ((K.out 0 rfl).trans o))))
       (Ag (Bl rfl rfl rfl (fun _=>rfl) (fun a' w' ph K=>Ad (K.Aw 3 10 rfl rfl) d) (fun a' w' ph K=>Cl (k:=i5) Tryz.underlying70 Ea (es (K.Aw 4 11 rfl rfl)) aE (ec (v:=I 0)) aC aD))
       (Ag (Bl rfl rfl rfl (fun _=>rfl) (fun a' w' ph K=>Ad (K.Aw 3 10 rfl rfl) d) (fun a' w' ph K=>C3 (l:=[I b.On,I b.Be,.bool b.AQ]) Du (es (K.Aw 5 12 rfl rfl)) (aF.mv (Ak K.Bi)) rfl rfl))
       (Ag (Bl rfl rfl rfl (fun _=>rfl) (fun a' w' ph K=>Ad (K.Aw 3 10 rfl rfl) d) (fun a' w' ph K=>A8 (l:=[I a.On,I a.Be,.bool a.AQ]) Du (es ((K.out 4 rfl).trans rfl)) (t.ext K.Bi) rfl rfl))
       (Ag (Bl rfl rfl rfl (fun _=>rfl) (fun a' w' ph K=>Ad (K.Aw 3 10 rfl rfl) d) (fun a' w' ph K=>LS (x1:=[.inl b.On,.inl b.Be,.inr b.AQ]) (x2:=[.inl a.On,.inl a.Be,.inr a.AQ]) IQ Jq (es (K.Aw 6 13 rfl rfl)) (es (K.Aw 7 14 rfl rfl)) rfl rfl rfl rfl))
       (Ag (od rfl (fun _=>rfl) (fun K=>AU (es (K.Aw 3 10 rfl rfl)) d (es (K.Aw 8 15 rfl rfl))))
       (Ag (od rfl (fun _=>rfl) (fun K=>AM (es (K.Aw 9 16 rfl rfl))))
       (Ag (Ew (c:=false) rfl rfl rfl (by decide) (fun a' w' ph K=>Ad (K.Aw 10 17 rfl rfl) f) (fun _=>rfl))
       (Ag (Ew (c:=false) rfl rfl rfl (by decide) (fun a' w' ph K=>Ad (K.Aw 10 17 rfl rfl) f) (fun _=>rfl))
       (Ag (Ew (c:=false) rfl rfl rfl (by decide) (fun a' w' ph K=>Ad (K.Aw 10 17 rfl rfl) f) (fun _=>rfl))
       (Ag (Ew (c:=false) rfl rfl rfl (by decide) (fun a' w' ph K=>Ad (K.Aw 10 17 rfl rfl) f) (fun _=>rfl))
       (B7 _)))))))))))))))) ?_
   intro aR;rintro _ rfl _ rfl _ rfl _ rfl _ rfl _ rfl _ rfl _ rfl _ rfl _ rfl _ rfl _ rfl _ rfl _ rfl _ rfl r;have aT:=x.ext r;refine Ai (c:=false) rfl rfl (Ad rfl f) (by decide) rfl (by decide)<|wd rfl (fun st=>Bp (v:=.bool false) (ee st rfl) f (ee st rfl))<|wa rfl (v:=.bool false) rfl<|Af<|Aa<|AH ?_;obtain rfl:=Option.some.inj h;refine AS rfl rfl ?_;exact⟨aT.Bu,rfl⟩
 ·replace h:=AG h d;refine CO 15 [Kc (.slice j g.length m),Kc (I (g.length:Int)),Kc (.bool ((g.length:Int)==2)),Kc (.bool ((g.length:Int)==2)),Kc undef,Kc undef,Kc undef,Kc undef,Kc undef,Kc (.bool false),Kc (.bool false),Kc undef,Kc undef,Kc undef,Kc undef] mixed rfl rfl
      (Ag (od rfl (fun _=>rfl) (fun K=>AM (es ((K.out 0 rfl).trans o))))
      (Ag (od rfl (fun _=>rfl) (fun K=>BP Tryz.underlying70 (es (K.Aw 0 7 rfl rfl))))
      (Ag (od rfl (fun _=>rfl) (fun K=>Cv (es (K.Aw 1 8 rfl rfl)) (ec (v:=I 2))))
      (Ag (od rfl (fun _=>rfl) (fun K=>AM (es (K.Aw 2 9 rfl rfl))))
      (Ag (Ew (c:=false) rfl rfl rfl (by decide) (fun a' w' ph K=>Ad (K.Aw 3 10 rfl rfl) d) (fun _=>rfl))
      (Ag (Ew (c:=false) rfl rfl rfl (by decide) (fun a' w' ph K=>Ad (K.Aw 3 10 rfl rfl) d) (fun _=>rfl))
      (Ag (Ew (c:=false) rfl rfl rfl (by decide) (fun a' w' ph K=>Ad (K.Aw 3 10 rfl rfl) d) (fun _=>rfl))
      (Ag (Ew (c:=false) rfl rfl rfl (by decide) (fun a' w' ph K=>Ad (K.Aw 3 10 rfl rfl) d) (fun _=>rfl))
      (Ag (Ew (c:=false) rfl rfl rfl (by decide) (fun a' w' ph K=>Ad (K.Aw 3 10 rfl rfl) d) (fun _=>rfl))
      (Ag (od rfl (fun _=>rfl) (fun K=>Bp (es (K.Aw 3 10 rfl rfl)) d (ec (v:=.bool false))))
      (Ag (od rfl (fun _=>rfl) (fun K=>AM (es (K.Aw 9 16 rfl rfl))))
      (Ag (Ew (c:=false) rfl rfl rfl (by decide) (fun a' w' ph K=>(show sl a' 17=.bool false from K.Aw 10 17 rfl rfl)) (fun _=>rfl))
      (Ag (Ew (c:=false) rfl rfl rfl (by decide) (fun a' w' ph K=>(show sl a' 17=.bool false from K.Aw 10 17 rfl rfl)) (fun _=>rfl))
      (Ag (Ew (c:=false) rfl rfl rfl (by decide) (fun a' w' ph K=>(show sl a' 17=.bool false from K.Aw 10 17 rfl rfl)) (fun _=>rfl))
      (Ag (Ew (c:=false) rfl rfl rfl (by decide) (fun a' w' ph K=>(show sl a' 17=.bool false from K.Aw 10 17 rfl rfl)) (fun _=>rfl))
      (B7 _)))))))))))))))) ?_
  intro aR;rintro _ rfl _ rfl _ rfl _ rfl _ rfl _ rfl _ rfl _ rfl _ rfl _ rfl _ rfl _ rfl _ rfl _ rfl _ rfl r;have aU:=x.ext r;refine Ai rfl rfl rfl (by decide) rfl (by decide)<|wd rfl (fun st=>Bp (v:=.bool false) (ee st rfl) rfl (ee st rfl))<|wa rfl (v:=.bool false) rfl<|Af<|Aa<|AH ?_;obtain rfl:=Option.some.inj h;refine AS rfl rfl ?_;exact⟨aU.Bu,rfl⟩
theorem V7(s:Nat)(a:CJ)(Z:Nat→Prop)(w:World)(j:CJ)(k:GM s a=some j):
 BO Tryz.prog 88 #[.agg #[I a.Lo,I a.Hi]] w (fun v w'=>Ext w w'∧(CP OU).R w' (ZZ FN [] Z w.heap.size []) v j):=by
 unfold GM at k;refine A5 (N:=8) Tryz.func88 rfl rfl (by simp) ?_;intro t m u;have h:=AN (i:=0) (v:=.agg #[I a.Lo,I a.Hi]) m rfl;clear m;have e:Hp FN [] w [] w:=Hp.start (BQ.none w);refine Ae<|Ab<|we rfl (fun st=>B1 (v:=.agg #[I a.Lo,I a.Hi]) (cs:= #[I a.Lo,I a.Hi]) (ee st h) rfl) ?_;rintro _ w1 ⟨x,rfl,d⟩;have f:=e.nb d;have q:=e.BK d;refine we rfl (fun st=>BI (cs:= #[I 0,I 0]) RJ rfl) ?_;rintro _ w2 ⟨y,rfl,b⟩;have o:=f.nb b;have r:=f.BK b;refine Af<|Aa<|Ae<|Ab<|wd rfl (fun st=>An (ee st rfl) (IN _ _)) ?_;have c:=(d.bk.ext b.gr);refine wd rfl (fun st=>As (v:=I a.Lo) AZ (ee st rfl) c rfl)<|wd rfl (fun st=>An (ee st rfl) (J7 _ _))<|wd rfl (fun st=>As (v:=I a.Hi) AZ (ee st rfl) c rfl)<|wd rfl (fun st=>C0 (vs:= #[(0,I a.Lo),(1,I a.Hi)]) (v:=.agg #[I a.Lo,I a.Hi]) (H3 (ee st rfl) (ee st rfl)) (by kernel_rfl))<|Bh rfl rfl (fun st=>Ba (n:=2) (l:=[I a.Lo,I a.Hi]) (Ca:= #[I a.Lo,I a.Hi]) (ee st rfl) (ee st rfl) Uh b.bk rfl rfl (show 0+2≤2 by decide) (AP rfl) rfl) ?_;rintro _ z g;have p:=o.gr g.gr 0 rfl;refine Af<|Aa<|AH ?_;obtain rfl:=Option.some.inj k;refine FW (v:=.agg #[I a.Lo,I a.Hi]) rfl rfl (CR K5 g.bk rfl rfl) ?_;exact⟨p.Bu,⟨_,rfl,rfl⟩⟩
theorem a31(bS:Nat)(a:Ao)(p:Option Addr)(q:Nat)(Z:Nat→Prop)(w:World)(bT:Sl AO w Z p q a.Ac)(cJ:Ao)(m:CE bS a=some cJ):
 BO Tryz.prog 31 #[.agg #[I a.Aj,I a.Ah,I a.Am,I a.Ax,.slice p a.Ac.length q]] w (fun v w'=>Ext w w'∧(CP F3).R w' (ZZ FN [] Z w.heap.size []) v cJ):=by
 unfold CE at m;refine A5 (N:=43) Tryz.func31 rfl rfl (by simp) ?_;intro c5 cK c6;have b6:=AN (i:=0) (v:=.agg #[I a.Aj,I a.Ah,I a.Am,I a.Ax,.slice p a.Ac.length q]) cK rfl;clear cK;have b1:Hp FN [] w [] w:=Hp.start (BQ.none w);have bE:=bT.mv (Bq (Z:=Z) (L:=[]) w);refine Ae<|Ab<|we rfl (fun st=>B1 (v:=.agg #[I a.Aj,I a.Ah,I a.Am,I a.Ax,.slice p a.Ac.length q]) (cs:= #[I a.Aj,I a.Ah,I a.Am,I a.Ax,.slice p a.Ac.length q]) (ee st b6) rfl) ?_;rintro _ w1 ⟨x,rfl,bA⟩;have b2:=b1.nb bA;have c0:=b1.BK bA;refine we rfl (fun st=>BI (cs:= #[I 0,I 0,I 0,I 0,.slice none 0 0]) My rfl) ?_;rintro _ w2 ⟨t,rfl,aX⟩;have b3:=b2.nb aX;have c1:=b2.BK aX;refine Af<|Aa<|Ae<|Ab<|wd rfl (fun st=>An (ee st rfl) (Gh _ _)) ?_;have aD:=(bA.bk.ext aX.gr);refine wd rfl (fun st=>As (v:=I a.Aj) AZ (ee st rfl) aD rfl)<|wd rfl (fun st=>An (ee st rfl) (HQ _ _))<|wd rfl (fun st=>As (v:=I a.Ah) AZ (ee st rfl) aD rfl)<|wd rfl (fun st=>An (ee st rfl) (Mw _ _))<|wd rfl (fun st=>As (v:=I a.Am) AZ (ee st rfl) aD rfl)<|wd rfl (fun st=>An (ee st rfl) (K4 _ _))<|wd rfl (fun st=>As (v:=I a.Ax) AZ (ee st rfl) aD rfl)<|wd rfl (fun st=>C0 (vs:= #[(0,I a.Aj),(1,I a.Ah),(2,I a.Am),(3,I a.Ax)]) (v:=.agg #[I a.Aj,I a.Ah,I a.Am,I a.Ax,.slice none 0 0]) (TD (ee st rfl) (ee st rfl) (ee st rfl) (ee st rfl)) (by kernel_rfl))<|we rfl (fun st=>BI (cs:= #[I 0,I 0,I 0,I 0,.slice none 0 0]) My rfl) ?_;rintro _ dB ⟨s,rfl,aQ⟩;have bB:=b3.nb aQ;have c2:=b3.BK aQ;refine Bh rfl rfl (fun st=>Ba (n:=5) (l:=[I a.Aj,I a.Ah,I a.Am,I a.Ax,.slice none 0 0]) (Ca:= #[I a.Aj,I a.Ah,I a.Am,I a.Ax,.slice none 0 0]) (ee st rfl) (ee st rfl) P7 aQ.bk rfl rfl (show 0+5≤5 by decide) (AP rfl) rfl) ?_;rintro _ b7 aY;have cL:=bB.gr aY.gr 0 rfl;refine Af<|Aa<|Ae<|Ae<|Ab<|wa rfl (v:=I 0) rfl<|Af<|Aa<|Bc ?_;have cM:Hp FN [] w [none,some s,some t,some x] b7:=cL.nil;have cN:AB AO 156 w.heap.size b7 (ZZ FN [] Z w.heap.size [none,some s,some t,some x]) none 0 ([]:List AY):=AB.nil _ _ _ _ _;replace m:=bind_some m;obtain⟨z5,aR,m⟩:=m;refine Ct (fun cO z aJ=>(cO=.exit 0∧∃c g,z.tmps.size=43∧z.defers=(X0).ds∧sl z 2=pt t 0∧sl z 3=pt s 0∧Hp FN [] w [ob c,some s,some t,some x] aJ∧AB AO 156 w.heap.size aJ (ZZ FN [] Z w.heap.size [ob c,some s,some t,some x]) c g z5∧Bk aJ t 75 #[I 0,I 0,I 0,I 0,.slice none 0 0]∧Bk aJ s 75 #[I a.Aj,I a.Ah,I a.Am,I a.Ax,.slice c z5.length g])) ?cP ?cQ
 case cP=>
  clear m;refine Cs (fun(b8:Nat) (z:Act) (aJ:World)=>∃y,∃j,∃f o,DP bS a b8 y j=some z5∧z.tmps.size=43∧z.defers=(X0).ds∧sl z 1=pt x 0∧sl z 2=pt t 0∧sl z 3=pt s 0∧sl z 4=I y∧Hp FN [] w [ob f,some s,some t,some x] aJ∧AB AO 156 w.heap.size aJ (ZZ FN [] Z w.heap.size [ob f,some s,some t,some x]) f o j∧Bk aJ x 63 #[I a.Aj,I a.Ah,I a.Am,I a.Ax,.slice p a.Ac.length q]∧Bk aJ t 75 #[I 0,I 0,I 0,I 0,.slice none 0 0]∧Bk aJ s 75 #[I a.Aj,I a.Ah,I a.Am,I a.Ax,.slice f j.length o]∧Sl AO aJ (ZZ FN [] Z w.heap.size [ob f,some s,some t,some x]) p q a.Ac) bS ?cR ?cS
  case cR=>
   intro st;have bU:=((aD.ext aQ.gr).gr aY.gr (bB.ne 2 0 rfl rfl rfl));have bV:=((aX.bk.ext aQ.gr).gr aY.gr (bB.ne 1 0 rfl rfl rfl));have bW:=aY.bk;have bF:Sl AO b7 (ZZ FN [] Z w.heap.size [none,some s,some t,some x]) p q a.Ac:=(((((bE.mv (Av bA)).mv (Av aX)).mv (Av aQ)).mv (bB.AK aY.gr 0 rfl)).mv BD);exact⟨(0:Int),([]:List AY),none,0,aR,qz st,qd st,sp st 1 rfl,sp st 2 rfl,sp st 3 rfl,sp st 4 rfl,cM,cN,bU,bV,bW,bF⟩
  case cS=>
   rintro(_|b8) c7 c8 ⟨y,j,f,o,aR,b9,cA,aS,bC,aI,aT,bH,aE,aK,aZ,a0,aL⟩
   ·exact absurd (show none=some _ from aR) (by simp)
   rw[DP.eq_2] at aR;have m:=aR;clear aR;refine B6 (N:=43) b9 cA<|Ae<|Ae<|Ab<|wm rfl (v:=I y) aT<|wd rfl (fun st=>An (ee st aS) (Ez _ _))<|wd rfl (fun st=>As (v:=.slice p a.Ac.length q) FG (ee st rfl) aK rfl)<|wd rfl (fun st=>BP Tryz.underlying61 (ee st rfl))<|wd rfl (fun st=>CQ (ee st rfl) (ee st rfl))<|Af<|Aa ?_;rcases Ap (decide (y<(a.Ac.length:Int))) with a2|a2
   ·replace m:=AF m a2;refine AA rfl a2<|AW<|Aa<|Ae<|Bc<|Ae<|Ab<|wd rfl (fun st=>An (ee st aS) (Ez _ _))<|wd rfl (fun st=>As (v:=.slice p a.Ac.length q) FG (ee st rfl) aK rfl)<|wm rfl (v:=I y) aT ?_;replace m:=Bs m;obtain⟨i8,b,cT,cU,cV,m⟩:=m;obtain⟨dC,dD,_,cW,rfl,cX⟩:=Sl.elem aL (by decide) cU;refine wd rfl (fun st=>Cl (k:=i8) Tryz.underlying61 H8 (ee st rfl) cW (ee st rfl) cT cV)<|wd rfl (fun st=>C3 (l:=[I b.Ar,I b.AD,I b.AQ,I b.B9,I b.Ck]) O2 (ee st rfl) cX rfl rfl)<|we rfl (fun st=>BI (cs:= #[I 0,I 0,I 0,I 0,I 0]) Ob rfl) ?_;rintro _ dE ⟨aU,rfl,aF⟩;have aM:=bH.nb aF;have c3:=bH.BK aF;refine Bh rfl rfl (fun st=>Ba (n:=5) (l:=[I b.Ar,I b.AD,I b.AQ,I b.B9,I b.Ck]) (Ca:= #[I b.Ar,I b.AD,I b.AQ,I b.B9,I b.Ck]) (ee st rfl) (ee st rfl) H8 aF.bk rfl rfl (show 0+5≤5 by decide) (AP rfl) rfl) ?_;rintro _ c9 r;have b4:=aM.gr r.gr 0 rfl;refine Af<|Aa ?_;have bD:=((a0.ext aF.gr).gr r.gr (aM.ne 2 0 rfl rfl rfl));replace m:=bind_some m;obtain⟨d,cB,m⟩:=m;refine CO 13 [Kc (pt s 4),Kc (.slice f j.length o),Kc (pt aU 0),Kc (.agg #[I b.Ar,I b.AD]),Kc (.agg #[I d.Lo,I d.Hi]),Kc (pt aU 2),Kc (I b.AQ),Kc (pt aU 3),Kc (I b.B9),Kc (pt aU 4),Kc (I b.Ck),Kc (.agg #[I d.Lo,I d.Hi,I b.AQ,I b.B9,I b.Ck]),Kv (DI AO) (ZZ FN [] Z w.heap.size [some aU,ob f,some s,some t,some x]) [(⟨d.Lo,d.Hi,b.AQ,b.B9,b.Ck⟩:AY)]] mixed rfl rfl
        (Ag (od rfl (fun _=>rfl) (fun K=>An (es ((K.out 3 rfl).trans aI)) (C9 _ _)))
        (Ag (od rfl (fun _=>rfl) (fun K=>As Dx (es (K.Aw 0 27 rfl rfl)) (bD.ext K.Bi) rfl))
        (Ag (od rfl (fun _=>rfl) (fun K=>An (es ((K.out 5 rfl).trans rfl)) (IP _ _)))
        (Ag (od rfl (fun _=>rfl) (fun K=>A8 (l:=[I b.Ar,I b.AD]) Jp (es (K.Aw 2 29 rfl rfl)) (r.bk.ext K.Bi) rfl rfl))
        (Ag (Cz rfl rfl (fun a' w' ph K=>(AJ Ui rfl (CA (es (K.Aw 3 30 rfl rfl))) (V7 bS (⟨b.Ar,b.AD⟩:CJ) ZA _ d cB)).mono (fun _ _ h=>⟨(by obtain⟨_,rfl,rfl⟩:=h.2;rfl),h.1⟩)))
        (Ag (od rfl (fun _=>rfl) (fun K=>An (es ((K.out 5 rfl).trans rfl)) (Oc _ _)))
        (Ag (od rfl (fun _=>rfl) (fun K=>As AZ (es (K.Aw 5 32 rfl rfl)) (r.bk.ext K.Bi) rfl))
        (Ag (od rfl (fun _=>rfl) (fun K=>An (es ((K.out 5 rfl).trans rfl)) (Od _ _)))
        (Ag (od rfl (fun _=>rfl) (fun K=>As AZ (es (K.Aw 7 34 rfl rfl)) (r.bk.ext K.Bi) rfl))
        (Ag (od rfl (fun _=>rfl) (fun K=>An (es ((K.out 5 rfl).trans rfl)) (Oe _ _)))
        (Ag (od rfl (fun _=>rfl) (fun K=>As AZ (es (K.Aw 9 36 rfl rfl)) (r.bk.ext K.Bi) rfl))
        (Ag (od rfl (fun _=>rfl) (fun K=>C0 (vs:= #[(0,.agg #[I d.Lo,I d.Hi]),(1,I b.AQ),(2,I b.B9),(3,I b.Ck)]) (v:=.agg #[I d.Lo,I d.Hi,I b.AQ,I b.B9,I b.Ck]) (TD (es (K.Aw 4 31 rfl rfl)) (es (K.Aw 6 33 rfl rfl)) (es (K.Aw 8 35 rfl rfl)) (es (K.Aw 10 37 rfl rfl))) (by kernel_rfl)))
        (Ag (Cz rfl rfl (fun a' w' ph K=>(BF (e:=156) (vs:= #[(0,.agg #[I d.Lo,I d.Hi,I b.AQ,I b.B9,I b.Ck])]) (cs:= #[I d.Lo,I d.Hi,I b.AQ,I b.B9,I b.Ck]) (Hd (es (K.Aw 11 38 rfl rfl))) (by kernel_rfl)).mono (fun u Bb ⟨dF,hu,bX⟩=>⟨⟨_,_,hu,F8 (xs:=[(⟨d.Lo,d.Hi,b.AQ,b.B9,b.Ck⟩:AY)]) (Bg:=[[I d.Lo,I d.Hi,I b.AQ,I b.B9,I b.Ck]]) bX.bk ((b4.ext K.Bi).kn (Nat.le_of_eq bX.En.symm)) (R2.mv (Ak bX.gr) (show R2 AO w' (ZZ FN [] Z w.heap.size [some aU,ob f,some s,some t,some x]) [[I d.Lo,I d.Hi,I b.AQ,I b.B9,I b.Ck]] [(⟨d.Lo,d.Hi,b.AQ,b.B9,b.Ck⟩:AY)] from⟨rfl,trivial⟩)) rfl (Nat.le_refl _)⟩,bX.gr⟩)))
        (B7 _)))))))))))))) ?_
    intro cY;rintro _ rfl _ rfl _ rfl _ rfl _ rfl _ rfl _ rfl _ rfl _ rfl _ rfl _ rfl _ rfl _ ⟨cH,cI,rfl,a6⟩ aB;have aN:=b4.ext aB;have a3:AB AO 156 w.heap.size cY (ZZ FN [] Z w.heap.size [some aU,ob f,some s,some t,some x]) f o j:=(((aE.ext aF.gr (Av aF)).gr r.gr (fun k aV=>aM.ne 1 0 rfl (congrArg some aV) rfl) (aM.AK r.gr 0 rfl)).ext aB (Ak aB));replace m:=CI m;obtain⟨bI,m⟩:=m;refine we rfl (fun st=>Gk (ys:=[(⟨d.Lo,d.Hi,b.AQ,b.B9,b.Ck⟩:AY)]) Tryz.underlying73 RK rfl rfl (by decide) (ee st rfl) rfl (ee st rfl) a3 a6.n (by have:=bI;simp only[maxLen];omega) (by have:=bI;omega) aN.sz) ?_;rintro _ b5 ⟨aA,a4,rfl,aG,a7,cC⟩;have aH:Hp FN [] w [some aU,ob aA,some s,some t,some x] b5:=aN.row aG 1 rfl a7;have cD:AB AO 156 w.heap.size b5 (ZZ FN [] Z w.heap.size [some aU,ob aA,some s,some t,some x]) aA a4 (j++[(⟨d.Lo,d.Hi,b.AQ,b.B9,b.Ck⟩:AY)]):=EV cC (aN.CK aG 1 rfl (fun k aV=>(a7 k aV).1));refine wd rfl (fun st=>An (ee st aI) (C9 _ _)) ?_;have bJ:=((bD.ext aB).gr aG (aN.ne 2 1 rfl rfl rfl));refine Bh rfl rfl (fun st=>Ba (n:=1) (l:=[.slice aA ((j++[(⟨d.Lo,d.Hi,b.AQ,b.B9,b.Ck⟩:AY)]).length) a4]) (Ca:= #[I a.Aj,I a.Ah,I a.Am,I a.Ax,.slice aA ((j++[(⟨d.Lo,d.Hi,b.AQ,b.B9,b.Ck⟩:AY)]).length) a4]) (ee st rfl) (ee st rfl) Vi bJ rfl rfl (show 4+1≤5 by decide) (AP rfl) rfl) ?_;rintro _ bK aC;have cE:=aH.gr aC.gr 2 rfl;refine Af<|Br<|Aa<|Ab<|wm rfl (v:=I y) aT ?_;replace m:=AV m;obtain⟨cF,m⟩:=m;refine wd rfl (fun st=>Bz (ee st rfl) (ee st rfl) cF)<|wa rfl (v:=I (y+1)) rfl<|Af ?_;have cG:Hp FN [] w [ob aA,some s,some t,some x] bK:=cE.erase 0;have bG:AB AO 156 w.heap.size bK (ZZ FN [] Z w.heap.size [ob aA,some s,some t,some x]) aA a4 (j++[(⟨d.Lo,d.Hi,b.AQ,b.B9,b.Ck⟩:AY)]):=((cD.gr aC.gr (fun k aV=>aH.ne 1 2 rfl (congrArg some aV) rfl) (aH.AK aC.gr 2 rfl)).up (AE 0));have bL:=(((((aK.ext aF.gr).gr r.gr (aM.ne 4 0 rfl rfl rfl)).ext aB).gr aG (aN.ne 4 1 rfl rfl rfl)).gr aC.gr (aH.ne 4 2 rfl rfl rfl));have bM:=(((((aZ.ext aF.gr).gr r.gr (aM.ne 3 0 rfl rfl rfl)).ext aB).gr aG (aN.ne 3 1 rfl rfl rfl)).gr aC.gr (aH.ne 3 2 rfl rfl rfl));have bN:=aC.bk;have a8:Sl AO bK (ZZ FN [] Z w.heap.size [ob aA,some s,some t,some x]) p q a.Ac:=((((((aL.mv (Av aF)).mv (aM.AK r.gr 0 rfl)).mv (Ak aB)).mv (aN.CK aG 1 rfl (fun k aV=>(a7 k aV).1))).mv (aH.AK aC.gr 2 rfl)).mv (AE 0));refine BB b8 (Nat.lt_succ_self _) (fun st=>?_);exact⟨(y+1),(j++[(⟨d.Lo,d.Hi,b.AQ,b.B9,b.Ck⟩:AY)]),aA,a4,m,qz st,qd st,sp st 1 aS,sp st 2 bC,sp st 3 aI,sp st 4 rfl,cG,bG,bL,bM,bN,a8⟩
   ·replace m:=AG m a2;refine AL rfl a2<|Cn<|AR<|AR ?_;obtain rfl:=Option.some.inj m;refine B5 (fun st=>?_);exact⟨rfl,f,o,qz st,qd st,sp st 2 bC,sp st 3 aI,bH,aE,aZ,a0⟩
 case cQ=>
  rintro cO c4 dA (⟨rfl,c,g,bY,bZ,a5,bO,a9,aO,bP,bQ⟩);refine CB (X:=X0) (N:=43) bY bZ<|Bv<|Aa<|Ae<|Ab<|wd rfl (fun st=>A8 (l:=[I a.Aj,I a.Ah,I a.Am,I a.Ax,.slice c z5.length g]) CZ (ee st bO) bQ rfl rfl)<|Bh rfl rfl (fun st=>Ba (n:=5) (l:=[I a.Aj,I a.Ah,I a.Am,I a.Ax,.slice c z5.length g]) (Ca:= #[I a.Aj,I a.Ah,I a.Am,I a.Ax,.slice c z5.length g]) (ee st a5) (ee st rfl) P7 bP rfl rfl (show 0+5≤5 by decide) (AP rfl) rfl) ?_;rintro _ cZ aW;have bR:=a9.gr aW.gr 2 rfl;refine Af<|Aa<|AH ?_;obtain rfl:=Option.some.inj m;refine FW (v:=.agg #[I a.Aj,I a.Ah,I a.Am,I a.Ax,.slice c z5.length g]) rfl a5 (CR CZ aW.bk rfl rfl) ?_;have aP:AB AO 156 w.heap.size cZ (ZZ FN [] Z w.heap.size [ob c,some s,some t,some x]) c g z5:=(aO.gr aW.gr (fun k aV=>a9.ne 0 2 rfl (congrArg some aV) rfl) (a9.AK aW.gr 2 rfl));exact⟨bR.Bu,⟨_,rfl,_,_,rfl,bR.ID (M:=[]) 0 rfl [] rfl trivial aP⟩⟩
theorem V8(m:Nat)(a:Ao)(b:Option Addr)(c:Nat)(Z:Nat→Prop)(w:World)(h:Sl AO w Z b c a.Ac)(n:Int)(e:Fg m a=some n):
 BO Tryz.prog 34 #[.agg #[I a.Aj,I a.Ah,I a.Am,I a.Ax,.slice b a.Ac.length c]] w (fun v w'=>Ext w w'∧(El .i64).R w' (ZZ FN [] Z w.heap.size []) v n):=by
 unfold Fg at e;refine A5 (N:=5) Tryz.func34 rfl rfl (by simp) ?_;intro u o x;have k:=AN (i:=0) (v:=.agg #[I a.Aj,I a.Ah,I a.Am,I a.Ax,.slice b a.Ac.length c]) o rfl;clear o;have j:Hp FN [] w [] w:=Hp.start (BQ.none w);have f:=h.mv (Bq (Z:=Z) (L:=[]) w);refine Ae<|Ab<|we rfl (fun st=>B1 (v:=.agg #[I a.Aj,I a.Ah,I a.Am,I a.Ax,.slice b a.Ac.length c]) (cs:= #[I a.Aj,I a.Ah,I a.Am,I a.Ax,.slice b a.Ac.length c]) (ee st k) rfl) ?_;rintro _ w1 ⟨y,rfl,d⟩;have p:=j.nb d;have t:=j.BK d;refine wa rfl (v:=I 0) rfl<|Af<|Aa<|Ae<|Ab<|wd rfl (fun st=>A8 (l:=[I a.Aj,I a.Ah,I a.Am,I a.Ax,.slice b a.Ac.length c]) Es (ee st rfl) d.bk rfl rfl) ?_;have g:=(f.mv (Av d));replace e:=bind_some e;obtain⟨r2,q,e⟩:=e;refine we rfl (fun st=>AJ QM (ee st rfl) (CA (ee st rfl)) (Vu m a b c ZA _ g.all r2 q)) ?_;rintro _ z ⟨r,rfl⟩;have s:=p.ext r;refine wa rfl (v:=I r2) rfl<|Af<|Aa<|AH ?_;obtain rfl:=Option.some.inj e;refine AS rfl rfl ?_;exact⟨s.Bu,rfl⟩
theorem V9(u:Nat)(a:Ao)(d:Option Addr)(e:Nat)(Z:Nat→Prop)(w:World)(o:Sl AO w Z d e a.Ac)(z:Bool)(f:FC u a=some z):
 BO Tryz.prog 27 #[.agg #[I a.Aj,I a.Ah,I a.Am,I a.Ax,.slice d a.Ac.length e]] w (fun v w'=>Ext w w'∧BY.R w' (ZZ FN [] Z w.heap.size []) v z):=by
 unfold FC at f;refine A5 (N:=17) Tryz.func27 rfl rfl (by simp) ?_;intro aG aA aH;have x:=AN (i:=0) (v:=.agg #[I a.Aj,I a.Ah,I a.Am,I a.Ax,.slice d a.Ac.length e]) aA rfl;clear aA;have r:Hp FN [] w [] w:=Hp.start (BQ.none w);have k:=o.mv (Bq (Z:=Z) (L:=[]) w);refine Ae<|Ab<|we rfl (fun st=>B1 (v:=.agg #[I a.Aj,I a.Ah,I a.Am,I a.Ax,.slice d a.Ac.length e]) (cs:= #[I a.Aj,I a.Ah,I a.Am,I a.Ax,.slice d a.Ac.length e]) (ee st x) rfl) ?_;rintro _ w1 ⟨aI,rfl,h⟩;have s:=r.nb h;have aF:=r.BK h;refine wa rfl (v:=.bool false) rfl<|Af<|Aa<|Ae<|Ab<|wd rfl (fun st=>An (ee st rfl) (Ez _ _))<|wd rfl (fun st=>As (v:=.slice d a.Ac.length e) FG (ee st rfl) h.bk rfl)<|wd rfl (fun st=>BP Tryz.underlying61 (ee st rfl))<|wd rfl (fun st=>FH (ee st rfl) (ee st rfl))<|wm rfl (v:=.bool (decide ((a.Ac.length:Int)≤6))) rfl ?_;rcases Ap (decide ((a.Ac.length:Int)≤6)) with b|b
 ·replace f:=AF f b;refine Aq rfl rfl (Ad rfl b) rfl (by decide) (fun st=>A8 (l:=[I a.Aj,I a.Ah,I a.Am,I a.Ax,.slice d a.Ac.length e]) Es (ee st rfl) h.bk rfl rfl) ?_;have j:=(k.mv (Av h));replace f:=bind_some f;obtain⟨y,aB,f⟩:=f;refine DW rfl rfl (Ad rfl b) rfl (by decide) (fun st=>AJ QM (ee st rfl) (CA (ee st rfl)) (Vu u a d e ZA _ j.all y aB)) ?_;rintro _ aJ ⟨n,rfl⟩;have t:=s.ext n;refine Aq rfl rfl (Ad rfl b) rfl (by decide) (fun st=>F7 (ee st rfl) (ee st rfl))<|Aq rfl rfl (Ad rfl b) rfl (by decide) (fun st=>AM (v:=.bool (y !=0)) (ee st rfl)) ?_;rcases Ap (y !=0) with g|g
  ·replace f:=AF f g;refine Ai (c:=true) rfl rfl (Ad rfl g) (by decide) rfl (by decide)<|Ai (c:=true) rfl rfl (Ad rfl g) (by decide) rfl (by decide)<|Ai (c:=true) rfl rfl (Ad rfl g) (by decide) rfl (by decide)<|Aq rfl rfl (Ad rfl b) rfl (by decide) (fun st=>AU (v:=.bool true) (ee st rfl) g (ee st rfl))<|wd rfl (fun st=>AU (v:=.bool true) (ee st rfl) b (ee st rfl))<|wa rfl (v:=.bool true) rfl<|Af<|Aa<|AH ?_;obtain rfl:=Option.some.inj f;refine AS rfl rfl ?_;exact⟨t.Bu,rfl⟩
  ·replace f:=AG f g;have p:=(h.bk.ext n);refine Aq rfl rfl (Ad rfl g) rfl (by decide) (fun st=>A8 (l:=[I a.Aj,I a.Ah,I a.Am,I a.Ax,.slice d a.Ac.length e]) Es (ee st rfl) p rfl rfl) ?_;have m:=(j.mv (Ak n));replace f:=bind_some f;obtain⟨q,aC,f⟩:=f;refine DW rfl rfl (Ad rfl g) rfl (by decide) (fun st=>AJ Of (ee st rfl) (CA (ee st rfl)) (UF u a d e ZA _ m.all q aC)) ?_;rintro _ aK ⟨aD,rfl⟩;have aE:=t.ext aD;refine Aq rfl rfl (Ad rfl g) rfl (by decide) (fun st=>FH (ee st rfl) (ee st rfl))<|Aq rfl rfl (Ad rfl b) rfl (by decide) (fun st=>Bp (v:=.bool (decide (q≤60))) (ee st rfl) g (ee st rfl))<|wd rfl (fun st=>AU (v:=.bool (decide (q≤60))) (ee st rfl) b (ee st rfl))<|wa rfl (v:=.bool (decide (q≤60))) rfl<|Af<|Aa<|AH ?_;obtain rfl:=Option.some.inj f;refine AS rfl rfl ?_;exact⟨aE.Bu,rfl⟩
 ·replace f:=AG f b;refine Ai (c:=false) rfl rfl (Ad rfl b) (by decide) rfl (by decide)<|Ai (c:=false) rfl rfl (Ad rfl b) (by decide) rfl (by decide)<|Ai (c:=false) rfl rfl (Ad rfl b) (by decide) rfl (by decide)<|Ai (c:=false) rfl rfl (Ad rfl b) (by decide) rfl (by decide)<|Fy rfl rfl rfl rfl (by decide)<|Fy rfl rfl rfl rfl (by decide)<|Fy rfl rfl rfl rfl (by decide)<|Ai (c:=false) rfl rfl (Ad rfl b) (by decide) rfl (by decide)<|wd rfl (fun st=>Bp (v:=.bool false) (ee st rfl) b (ee st rfl))<|wa rfl (v:=.bool false) rfl<|Af<|Aa<|AH ?_;obtain rfl:=Option.some.inj f;refine AS rfl rfl ?_;exact⟨s.Bu,rfl⟩
end Go.Proofs.YtkljfdkmjdjpfaaGreat
end
