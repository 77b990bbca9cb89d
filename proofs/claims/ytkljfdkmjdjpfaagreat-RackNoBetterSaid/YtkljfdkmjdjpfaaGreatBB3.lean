import Derived.Test.YtkljfdkmjdjpfaaGreatBB2
import Derived.WalkKit
import Derived.KernelRfl
import Derived.WalkSpells
import Derived.WalkLawsBesides
import Derived.Maps.AppendAt
import Derived.OrdersIn
import Derived.RangeFuncIn
import Derived.RangeFuncLeaves
import Derived.RangeFuncRecord
import Derived.RangeFuncSeq
import Derived.Scope
import Derived.DeepKeys3
import Derived.Laws.CopyRow
import Derived.Laws.OwnMore
import Derived.Laws.MakeOwn
import Derived.Laws.IdiomCopy
import Derived.Test.YtkljfdkmjdjpfaaGreatProg
/-
  The contracts of the functions of the program and of the reference, and the logic that they are proved in: the base that several claims of this seat share.
-/
set_option linter.all false
section
namespace Go.Proofs.YtkljfdkmjdjpfaaGreat
theorem Qm(n:Nat)(h:n<64):LU .u64 (n:Int)=some ():=by
 refine if_pos ?_;show(n:Int)%(2^64:Int)=n;rw[show(2:Int)^64=18446744073709551616 from rfl];omega
theorem OC(K b d:Nat)(h:d<64):D2 K (b:Int) (d:Int)=some (b.testBit d):=by
 unfold D2;rw[bd (Qm d h),bd (O8 b d h),MK (SC b d) (by omega),O7]
def lead:List Bool→Nat
 |true::l=>lead l+1
 |_=>0
def Gp(R:Int):List Bool→Bool
 |[]=>true
 |b::l=>decide ((lead (b::l):Int)≤R)&&Gp R l
def Ic:List Bool→Nat
 |[]=>0
 |b::l=>(cond b 1 0)+Ic l
theorem KK(r:Nat)(l:List Bool):lead (List.replicate r true++l)=r+lead l:=by
 induction r with
 |zero=>simp
 |succ r ih=>rw[List.replicate_succ,List.cons_append,lead,ih];omega
theorem L4(R:Int)(l:List Bool):∀r:Nat,(r:Int)≤R→Gp R (List.replicate r true++false::l)=(decide (0≤R)&&Gp R l)
 |0,_=>rfl
 |r+1,h=>by
  rw[List.replicate_succ,List.cons_append,Gp,L4 R l r (by omega)];have:lead (true::(List.replicate r true++false::l))=r+1:=by
   rw[lead,KK];rfl
  rw[this,dt (by omega),Bool.true_and]
theorem MY(W R:Int)(b:0≤R):∀(l:List Bool) (s:Int) (r:Nat),s≤W→(r:Int)≤R→okW W R l s r=(decide (s+(Ic l:Int)≤W)&&Gp R (List.replicate r true++l))
 |[],s,r,c,a=>by
  have:∀q:Nat,(q:Int)≤R→Gp R (List.replicate q true)=true:=by
   intro q
   induction q with
   |zero=>intro _;rfl
   |succ q ih=>
    intro g;have e:=KK (q+1) [];rw[List.append_nil,List.replicate_succ] at e;have h:lead ([]:List Bool)=0:=rfl;rw[List.replicate_succ,Gp,e,ih (by omega),dt (by omega)];rfl
  rw[List.append_nil,this r a,okW,dt (by unfold Ic;omega)];rfl
 |false::l,s,r,c,a=>by
  rw[okW,L4 R l r a,dt b,Bool.true_and];have:=MY W R b l s 0 c (by omega);rw[Int.natCast_zero] at this;rw[this,Ic];simp
 |true::l,s,r,c,a=>by
  rw[okW];have e:List.replicate r true++true::l=List.replicate (r+1) true++l:=by
   rw[List.replicate_succ'];simp
  rw[e]
  by_cases d:s+1≤W
  ·by_cases f:(r:Int)+1≤R
   ·rw[dt d,dt f,Bool.true_and,Bool.true_and,DI,MY W R b l (s+1) (r+1) d (by omega)]
    congr 2
    rw[Ic];simp;omega
   ·rw[df f,Bool.false_and,Bool.and_false];have:Gp R (List.replicate (r+1) true++l)=false:=by
     rw[List.replicate_succ,List.cons_append,Gp];have e:=KK (r+1) l;rw[List.replicate_succ,List.cons_append] at e;rw[e,df (by omega)];rfl
    rw[this,Bool.and_false]
  ·rw[df d,Bool.false_and];have:¬(s+(Ic (true::l):Int)≤W):=by rw[Ic];simp;omega
   rw[df this];rfl
theorem Lw(n b i:Nat)(h:i<n):(wl n b).drop i=b.testBit i::(wl n b).drop (i+1):=by
 rw[List.drop_eq_getElem_cons (by rw[Fm];exact h)]
 congr 1
 simp[wl]
theorem SO(K:Nat)(y:Ap)(b a:Nat)(h0:0≤y.Ak)(h9:y.Ak≤9)(d:0≤y.Av)(f:y.Av≤y.Ak+1)(i:a≤9):∀(k m e:Nat) (g:Bool),(a:Int)+y.Av+1=e+k→k<m→
  Cf K y b (a:Int) m g (e:Int)=some (g&&decide (k≤lead ((wl (days y) b).drop e))):=by
 intro k
 induction k with
 |zero=>
  intro m e g h hm;cases m with
  |zero=>omega
  |succ m=>rw[Cf.eq_2,BJ (by omega) (by omega),cf (df (by omega)),dt (Nat.zero_le _),Bool.and_true]
 |succ k ih=>
  intro m e g h hm;cases m with
  |zero=>omega
  |succ m=>
   rw[Cf.eq_2,BJ (by omega) (by omega),ct (dt (by omega))];cases g with
   |false=>
    rw[cf rfl,BJ (by omega) (by omega),DI,ih m (e+1) false (by omega) (by omega)];rfl
   |true=>
    rw[ct rfl,Bool.true_and]
    by_cases c:(e:Int)≤y.Ak
    ·rw[ct (dt c),bd (OC K b e (by omega)),BJ (by omega) (by omega),DI,ih m (e+1) _ (by omega) (by omega),Lw (days y) b e (by unfold days;omega)];cases b.testBit e with
     |false=>
      rw[Bool.false_and,df (show¬(k+1≤lead (false::_)) by show¬(k+1≤0);omega)]
     |true=>
      rw[Bool.true_and]
      congr 1
      rw[Bool.eq_iff_iff,decide_eq_true_eq,decide_eq_true_eq];show _↔k+1≤lead _+1;omega
    ·rw[cf (df c),BJ (by omega) (by omega),DI,ih m (e+1) false (by omega) (by omega),show(wl (days y) b).drop e=[] from List.drop_eq_nil_of_le (by rw[Fm];unfold days;omega)];rw[Bool.false_and,df (show¬(k+1≤lead []) by show¬(k+1≤0);omega)]
theorem Re(K:Nat)(y:Ap)(b a:Nat)(h0:0≤y.Ak)(h9:y.Ak≤9)(d:0≤y.Av)(f:y.Av≤y.Ak+1)(i:a≤9):∀(k m e:Nat) (g:Bool),(a:Int)+y.Av+1=e+k→k<m→
  Ca K y b (a:Int) m g (e:Int)=some (g&&decide (k≤lead ((wl (days y) b).drop e))):=by
 intro k
 induction k with
 |zero=>
  intro m e g h hm;cases m with
  |zero=>omega
  |succ m=>rw[Ca.eq_2,BJ (by omega) (by omega),cf (df (by omega)),dt (Nat.zero_le _),Bool.and_true]
 |succ k ih=>
  intro m e g h hm;cases m with
  |zero=>omega
  |succ m=>
   rw[Ca.eq_2,BJ (by omega) (by omega),ct (dt (by omega))];cases g with
   |false=>
    rw[cf rfl,BJ (by omega) (by omega),DI,ih m (e+1) false (by omega) (by omega)];rfl
   |true=>
    rw[ct rfl,Bool.true_and]
    by_cases c:(e:Int)≤y.Ak
    ·rw[ct (dt c),bd (OC K b e (by omega)),BJ (by omega) (by omega),DI,ih m (e+1) _ (by omega) (by omega),Lw (days y) b e (by unfold days;omega)];cases b.testBit e with
     |false=>
      rw[Bool.false_and,df (show¬(k+1≤lead (false::_)) by show¬(k+1≤0);omega)]
     |true=>
      rw[Bool.true_and]
      congr 1
      rw[Bool.eq_iff_iff,decide_eq_true_eq,decide_eq_true_eq];show _↔k+1≤lead _+1;omega
    ·rw[cf (df c),BJ (by omega) (by omega),DI,ih m (e+1) false (by omega) (by omega),show(wl (days y) b).drop e=[] from List.drop_eq_nil_of_le (by rw[Fm];unfold days;omega)];rw[Bool.false_and,df (show¬(k+1≤lead []) by show¬(k+1≤0);omega)]
theorem OD{K:Nat}(y:Ap)(b:Nat)(h0:0≤y.Ak)(h9:y.Ak≤9)(c:0≤y.Av)(f:y.Av≤y.Ak+1)(hK:2000≤K):∀(k m i:Nat) (s:Int),days y=i+k→k<m→0≤s→s≤i→
  Ct K y b m s (i:Int)=some (cond (Gp y.Av ((wl (days y) b).drop i)) (.inr (s+(Ic ((wl (days y) b).drop i):Int))) (.inl false)):=by
 intro k
 induction k with
 |zero=>
  intro m i s h hm j l;cases m with
  |zero=>omega
  |succ m=>
   rw[Ct.eq_2,cf (df (by unfold days at h;omega)),List.drop_eq_nil_of_le (by rw[Fm];omega)];show _=some (Sum.inr (s+((0:Nat):Int)));rw[Int.natCast_zero,Int.add_zero]
 |succ k ih=>
  intro m i s h hm j l;cases m with
  |zero=>omega
  |succ m=>
   have p:days y≤10:=by unfold days;omega
   have hi:i<days y:=by omega
   have g:(i:Int)≤y.Ak:=by unfold days at hi;omega
   have d:=SO K y b i h0 h9 c f (by omega) (y.Av+1).toNat K i true (by omega) (by omega);have a:=Re K y b i h0 h9 c f (by omega) (y.Av+1).toNat K i true (by omega) (by omega);have n:decide ((y.Av+1).toNat≤lead ((wl (days y) b).drop i))= !decide ((lead ((wl (days y) b).drop i):Int)≤y.Av):=by
    rw[←decide_not];congr 1;rw[eq_iff_iff];omega
   rw[Bool.true_and,n] at d a;rw[Ct.eq_2,ct (dt g),bd (OC K b i (by omega))];have e:=Lw (days y) b i hi;have o:Gp y.Av ((wl (days y) b).drop i)=(decide ((lead ((wl (days y) b).drop i):Int)≤y.Av)&&Gp y.Av ((wl (days y) b).drop (i+1))):=by
    conv=>lhs;rw[e]
    rw[Gp,←e]
   have ec:Ic ((wl (days y) b).drop i)=(cond (b.testBit i) 1 0)+Ic ((wl (days y) b).drop (i+1)):=by rw[e,Ic]
   rw[o,ec];cases q:b.testBit i with
   |true=>
    rw[ct rfl,BJ (by omega) (by omega),bd d];cases decide ((lead ((wl (days y) b).drop i):Int)≤y.Av) with
    |false=>rw[Bool.false_and];rfl
    |true=>
     rw[nt,BJ (by omega) (by omega),DI,ih m (i+1) (s+1) (by omega) (by omega) (by omega) (by omega),Bool.true_and]
     congr 2
     simp;omega
   |false=>
    rw[cf rfl,bd a];cases decide ((lead ((wl (days y) b).drop i):Int)≤y.Av) with
    |false=>rw[Bool.false_and];rfl
    |true=>
     rw[nt,BJ (by omega) (by omega),DI,ih m (i+1) s (by omega) (by omega) (by omega) (by omega),Bool.true_and]
     congr 2
     simp
theorem Nw{K:Nat}(y:Ap)(b:Nat)(h0:0≤y.Ak)(h9:y.Ak≤9)(a:0≤y.Av)(d:y.Av≤y.Ak+1)(f:0≤y.An)(hK:2000≤K):D0 K y b=some (Hd y (wl (days y) b)):=by
 unfold D0;have g:days y≤10:=by unfold days;omega
 have e:=OD (K:=K) y b h0 h9 a d hK (days y) K 0 0 (by omega) (by omega) (by omega) (by omega);rw[Int.natCast_zero,List.drop_zero] at e;rw[bd e];have c:=MY y.An y.Av a (wl (days y) b) 0 0 f (by omega);rw[Int.natCast_zero] at c;unfold Hd;rw[c];show _=some (_&&Gp y.Av (wl (days y) b));cases Gp y.Av (wl (days y) b) with
 |true=>rw[Bool.and_true];rfl
 |false=>rw[Bool.and_false];rfl
def HE (y:Ap) (k d:Nat):List Int:=((List.range' k d).filter fun b=>Hd y (wl (days y) b)).map fun b:Nat=>(b:Int)
theorem L9(y:Ap):(HE y 0 (2^days y)).length=(CH y).length:=by
 unfold HE CH;rw[List.length_map,List.range_eq_range',List.filter_map,List.length_map];rfl
theorem OE{K:Nat}(y:Ap)(h0:0≤y.Ak)(h9:y.Ak≤9)(d:0≤y.Av)(f:y.Av≤y.Ak+1)(g:0≤y.An)(hK:2000≤K):∀(k m i:Nat) (a:List Int),2^days y=i+k→k<m→a.length≤i→
  Cz K y m a (i:Int)=some (a++HE y i k):=by
 intro k;have j:days y≤10:=by unfold days;omega
 have n:=Ia _ j;have b:y.Ak+1=(days y:Int):=by unfold days;omega
 have c:GS (1:Int) (days y:Int)=((2^days y:Nat):Int):=by
  unfold GS;rw[Int.one_mul,Int.toNat_natCast,Int.natCast_pow];rfl
 have e:Lj (1:Int) (days y:Int)=some ():=by
  refine if_pos ⟨by omega,by omega,?_,?_⟩
  ·have:(0:Int)≤1*2^((days y:Nat):Int).toNat:=by rw[Int.one_mul];exact Int.le_of_lt (Int.pow_pos (by omega))
   exact Int.le_trans (by omega) this
  ·rw[Int.one_mul,Int.toNat_natCast];have:((2^days y:Nat):Int)≤1024:=by omega
   rw[Int.natCast_pow] at this;exact Int.le_trans this (by omega)
 induction k with
 |zero=>
  intro m i a h hm l;cases m with
  |zero=>omega
  |succ m=>
   rw[Cz.eq_2,BJ (by omega) (by omega),b,bd (Qm _ (by omega)),bd e,c,cf (df (by omega))];simp[HE]
 |succ k ih=>
  intro m i a h hm l;cases m with
  |zero=>omega
  |succ m=>
   rw[Cz.eq_2,BJ (by omega) (by omega),b,bd (Qm _ (by omega)),bd e,c,ct (dt (by omega)),bd (Nw y i h0 h9 d f g hK)];unfold HE;rw[List.range'_succ,List.filter_cons];cases Hd y (wl (days y) i) with
   |true=>
    rw[ct rfl,Ga (by simp;omega),BJ (by omega) (by omega),DI,ih m (i+1) _ (by omega) (by omega) (by simp;omega)];simp[HE]
   |false=>
    rw[cf rfl,BJ (by omega) (by omega),DI,ih m (i+1) a (by omega) (by omega) (by omega)];simp[HE]
theorem OF{K:Nat}(y:Ap)(h0:0≤y.Ak)(h9:y.Ak≤9)(a:0≤y.Av)(b:y.Av≤y.Ak+1)(c:0≤y.An)(hK:2000≤K):Ec K y=some (HE y 0 (2^days y)):=by
 unfold Ec;have d:days y≤10:=by unfold days;omega
 have f:=Ia _ d;have e:=OE (K:=K) y h0 h9 a b c hK (2^days y) K 0 [] (by omega) (by omega) (by simp);rw[Int.natCast_zero] at e;rw[bd e,List.nil_append]
theorem Ld{y:Ap}(h9:y.Ak≤9)(h:∀l∈y.Ae,FJ y l=true):∀l∈y.Ae,sized l∧0≤l.Au∧l.AG≤9:=fun l a=>by
 have:=Ir.1 (h l a);exact⟨KG h9 (h l a),this.1,by omega⟩
theorem Pu{K:Nat}(y:Ap)(h0:0≤y.Ak)(h9:y.Ak≤9)(a:0≤y.Av)(b:y.Av≤y.Ak+1)(c:0≤y.An)(d:y.Ae.length≤4)(f:∀l∈y.Ae,sized l∧0≤l.Au∧l.AG≤9)(hK:2000≤K):
  Dz K y=some (IA 3000 ((CH y).length:Int) y.Ae):=by
 unfold Dz;have g:days y≤10:=by unfold days;omega
 have hw:=JQ y g;have e:=SF y d f (K:=K) y.Ae.length K 0 ((CH y).length:Int) (by omega) (by omega) (by omega) (by omega);rw[Int.natCast_zero,List.drop_zero] at e;rw[bd (OF y h0 h9 a b c hK),L9,bd e]
theorem Rf(K:Nat)(y:Ap)(d:y.Ae.length≤4):∀(k m i:Nat),y.Ae.length=i+k→k<m→
  C5 K y m (i:Int)=some (cond ((y.Ae.drop i).all (FJ y)) (.inr ()) (.inl 1)):=by
 intro k
 induction k with
 |zero=>
  intro m i h hm;cases m with
  |zero=>omega
  |succ m=>rw[C5.eq_2,cf (df (by omega)),List.drop_eq_nil_of_le (by omega)];rfl
 |succ k ih=>
  intro m i h hm;cases m with
  |zero=>omega
  |succ m=>
   have hi:i<y.Ae.length:=by omega
   rw[C5.eq_2,ct (dt (by omega)),DH hi,List.drop_eq_getElem_cons hi,List.all_cons];unfold FJ;generalize y.Ae[i]=l
   by_cases a:l.Au<0
   ·rw[ct (dt a),df (show¬(0≤l.Au) by omega)];rfl
   rw[cf (df a),dt (show 0≤l.Au by omega)]
   by_cases b:l.AG<l.Au
   ·rw[ct (dt b),df (show¬(l.Au≤l.AG) by omega)];rfl
   rw[cf (df b),dt (show l.Au≤l.AG by omega)]
   by_cases c:y.Ak<l.AG
   ·rw[ct (dt c),df (show¬(l.AG≤y.Ak) by omega)];rfl
   rw[cf (df c),dt (show l.AG≤y.Ak by omega),bd (ML ..)];cases Fz l.AN 1 5 with
   |false=>rfl
   |true=>
    rw[nt,bd (ML ..)];cases Fz l.B0 1 5 with
    |false=>rfl
    |true=>
     rw[nt,bd (ML ..)];cases Fz l.B6 0 y.Ak with
     |false=>rfl
     |true=>rw[nt,BJ (by omega) (by omega),DI,ih m (i+1) (by omega) (by omega)];rfl
theorem NO{K:Nat}(hK:2000≤K)(y:Ap):D5 K y=some (check y):=by
 unfold D5 check
 by_cases g:9<y.Ak
 ·rw[ct (dt g),if_pos (.inl g)]
 rw[cf (df g)]
 by_cases i:2<y.Ag
 ·rw[ct (dt i),if_pos (.inr (.inl i))]
 rw[cf (df i)]
 by_cases j:4<(y.Ae.length:Int)
 ·rw[ct (dt j),if_pos (.inr (.inr j))]
 rw[cf (df j),if_neg (by omega)]
 by_cases a:y.Ak<0
 ·rw[ct (dt a),if_pos (.inl a)]
 rw[cf (df a)]
 by_cases b:y.Ag<1
 ·rw[ct (dt b),if_pos (.inr (.inl b))]
 rw[cf (df b),BJ (by omega) (by omega),bd (ML ..)];cases m:Fz y.An 0 (y.Ak+1) with
 |false=>rw[nf,if_pos (.inr (.inr (.inl rfl)))]
 |true=>
  rw[nt,BJ (by omega) (by omega),bd (ML ..)];cases n:Fz y.Av 0 (y.Ak+1) with
  |false=>rw[nf,if_pos (.inr (.inr (.inr (.inl rfl))))]
  |true=>
   have e:=Rf K y (by omega) y.Ae.length K 0 (by omega) (by omega);rw[Int.natCast_zero,List.drop_zero] at e;rw[nt,bd e];cases o:y.Ae.all (FJ y) with
   |false=>rw[if_pos (.inr (.inr (.inr (.inr rfl))))];rfl
   |true=>
    have q:=Gb.1 m;have r:=Gb.1 n;have k:=Ld (y:=y) (by omega) (List.all_eq_true.1 o);rw[if_neg (by simp[a,b])];show(Dz K y).bind _=_;rw[bd (Pu y (by omega) (by omega) (by omega) (by omega) (by omega) (by omega) k hK)];have f:=Lp (c:=3000) (by omega) ((CH y).length:Int) (by omega) fun l p=>(k l p).1;unfold HP
    by_cases d:1000<((CH y).length:Int)*Fj y.Ae
    ·rw[ct (dt (f.2 d)),if_pos d]
    ·rw[cf (df fun h=>d (f.1 h)),if_neg d]
end Go.Proofs.YtkljfdkmjdjpfaaGreat
end
section
namespace Go.Proofs.YtkljfdkmjdjpfaaGreat
theorem Rg{K:Nat}(y:Ap)(a:EF y)(hK:2000≤K):Dz K y=some (HP y):=by
 have b:=Ld a.h9 a.SJ;rw[Pu y a.h0 a.h9 a.u0 a.u1 a.w0 a.n4 b hK];have:=a.many;unfold HP at this⊢;rw[NL (by omega) _ (by omega) (fun l c=>(b l c).1) this]
end Go.Proofs.YtkljfdkmjdjpfaaGreat
end
section
namespace Go.Proofs.YtkljfdkmjdjpfaaGreat
theorem Rh(x:List Int)(a:Nat):Cy x (0:Int) (a:Int)=x.take a:=by unfold Cy;simp
theorem Ri(x:List Int)(a:Nat):Cy x (a:Int) (x.length:Int)=x.drop a:=by unfold Cy;simp
theorem SP{β:Type}{n:Nat}{a b:Int}{f:Unit→Option β}(h0:0≤a)(c:a≤b)(d:b≤n):(MG n a b).bind f=f ():=bd (if_pos ⟨h0,c,d⟩)
theorem Rj{o:List (List Int)}{r:Nat}(a:r<o.length):o.getD r []=o[r]:=by rw[List.getD_eq_getElem?_getD,List.getElem?_eq_getElem a];rfl
end Go.Proofs.YtkljfdkmjdjpfaaGreat
end
section
namespace Go.Proofs.YtkljfdkmjdjpfaaGreat
theorem JV{W R W' R':Int}(a:W≤W')(b:R≤R'):∀(l:List Bool) (s r:Int),okW W R l s r=true→okW W' R' l s r=true
 |[],_,_,_=>rfl
 |false::l,s,r,h=>JV a b l s 0 h
 |true::l,s,r,h=>by
  rw[okW,Bool.and_eq_true,Bool.and_eq_true,decide_eq_true_eq,decide_eq_true_eq] at h⊢;exact⟨by omega,by omega,JV a b l _ _ h.2.2⟩
theorem Jg{y:Ap}{t:A5}:E0 y t=true↔(t.An.length:Int)=y.Ak+1∧Hd y t.An=true∧Ef y.Ae t.Comes=true:=by
 unfold E0;rw[Bool.and_eq_true,Bool.and_eq_true,decide_eq_true_eq]
end Go.Proofs.YtkljfdkmjdjpfaaGreat
end
section
namespace Go.Proofs.YtkljfdkmjdjpfaaGreat
structure Alike (y x:Ap):Prop where
 last:x.Ak=y.Ak
 len:x.Ae.length=y.Ae.length
 EK:∀i:Nat,(E6 x i).AN=(E6 y i).AN
 UA:∀i:Nat,(E6 x i).B0=(E6 y i).B0
theorem Jh{l c:AX}(a:c.AN=l.AN)(b:c.B0=l.B0)(d0:Int):∀(ws:List Bool) (d EK r:Int),GH c d0 ws d EK r=GH l d0 ws d EK r
 |[],_,_,_=>rfl
 |true::ws,d,EK,r=>by rw[GH,GH,a,b,Jh a b d0 ws]
 |false::ws,d,EK,r=>by rw[GH,GH,a,b,Jh a b d0 ws]
theorem Nx{y x:Ap}(h:x.Ak=y.Ak){l a:AX}(b:a.AN=l.AN)(c:a.B0=l.B0)(w:List Bool)(d:Int):EE x w a d=EE y w l d:=by
 unfold EE;rw[h,Jh b c]
theorem Alike.at{y x:Ap}(h:Alike y x)(w:List Bool)(i d:Int):EE x w (FK x i) d=EE y w (FK y i) d:=Nx h.last (h.EK i.toNat) (h.UA i.toNat) w d
theorem Ky{y x:Ap}(h:Alike y x)(w:List Bool)(c:List Int):∀(l:List Int) (f:Int) (out:List Aq),He x w c l f out=He y w c l f out
 |[],_,_=>rfl
 |i::r,f,out=>by
  rw[He,He];show He x w c r (cond ((EE x w (FK x i) (max f (Fw c i))).Bg==-1) (x.Ak+1) _) _=_;rw[h.at,h.last,Ky h w c r]
theorem Kz{y x:Ap}(h:Alike y x)(w:List Bool)(c:List Int):∀(o:List (List Int)) (out:List Aq),Hf x w c o out=Hf y w c o out
 |[],_=>rfl
 |l::o,out=>by rw[Hf,Hf,Ky h,Kz h w c o]
theorem KA{y x:Ap}(h:Alike y x)(o:List (List Int))(t:A5):Ch x o t=Ch y o t:=by
 unfold Ch Gm;rw[h.len,Kz h]
theorem L5{p b:AX→Aq→Bool}:∀(ls a:List AX) (ss:List Aq),ls.length=a.length→(∀i s,i<ls.length→p (ls.getD i HG) s=true→b (a.getD i HG) s=true)→GM p ls ss≤GM b a ss
 |[],[],ss,_,_=>Nat.le_refl _
 |[],_::_,_,h,_=>by cases h
 |_::_,[],_,h,_=>by cases h
 |l::ls,c::a,[],_,_=>by simp[GM]
 |l::ls,c::a,s::ss,d,h=>by
  have g:=L5 ls a ss (by simpa using d) fun i s hi=>h (i+1) s (by simpa using hi);have e:p l s=true→b c s=true:=h 0 s (by simp);rw[GM,GM];cases f:p l s with
  |false=>simp only[cond_false];omega
  |true=>rw[e f];simp only[cond_true];omega
theorem OG {l b:AX} (h:l.B6≤b.B6) {s:Aq} (a:Ff l s=true):Ff b s=true:=by
 unfold Ff at a⊢;rw[Bool.and_eq_true,decide_eq_true_eq] at a⊢;exact⟨a.1,by omega⟩
theorem Pv{y x:Ap}(a:x.Ae.length=y.Ae.length)(b:∀i:Nat,(E6 x i).B6≤(E6 y i).B6)(ss:List Aq):DM y ss≤DM x ss:=by
 unfold DM;refine L5 _ _ ss a.symm fun i s _ h=>?_;unfold Cp at h⊢;cases c:Ff (x.Ae.getD i HG) s with
 |false=>rfl
 |true=>
  have:=OG (b i) c;unfold E6 at this;rw[this] at h;cases h
theorem Rk{y x:Ap}(a:EF y)(b:EF x){o o':List (List Int)}(h:∀t,E0 y t=true→E0 x t=true∧DM y (Ch y o t)≤DM x (Ch x o' t)):(CP y o).1≤(CP x o').1:=by
 obtain⟨_,c,f⟩:=HR a o;obtain⟨d,_,_⟩:=HR b o';obtain⟨e,g⟩:=h _ c;have:=d _ e;omega
theorem Rl{y x:Ap}(a:x.Ae.length=y.Ae.length){o o':List (List Int)}(h:∀i:Nat,i<y.Ae.length→(∀t∈BL x,Gd x o' i t=true)→∀t∈BL y,Gd y o i t=true):F1 x o'≤F1 y o:=by
 unfold F1;rw[a];refine List.countP_mono_left fun i hi=>?_;rw[List.mem_range] at hi;rw[List.all_eq_true,List.all_eq_true];exact h i hi
theorem Qn{y x:Ap}(a:EF y)(b:EF x)(h:∀o,C3 x o=true→∃o',C3 y o'=true∧F1 x o≤F1 y o'):(Gn x).1≤(Gn y).1:=by
 obtain⟨c,_,_⟩:=Jf a;obtain⟨_,d,f⟩:=Jf b;obtain⟨o',e,hle⟩:=h _ d;have:=c o' e;omega
theorem OH{y x:Ap}(a:x.Ag=y.Ag)(b:x.Ae.length=y.Ae.length)(o:List (List Int)):C3 x o=C3 y o:=by unfold C3;rw[a,b]
structure Kb(y x:Ap):Prop extends Alike y x where
 Kd:x.Ag=y.Ag
 due:∀i:Nat,(E6 x i).B6=(E6 y i).B6
 comes:∀i:Nat,(E6 x i).Au≤(E6 y i).Au∧(E6 y i).AG≤(E6 x i).AG
 CY:y.An≤x.An
 run:y.Av≤x.Av
theorem Hl:∀{ls a:List AX} {cs:List Int},a.length=ls.length→(∀i:Nat,(a.getD i HG).Au≤(ls.getD i HG).Au∧(ls.getD i HG).AG≤(a.getD i HG).AG)→Ef ls cs=true→Ef a cs=true
 |[],[],cs,_,_,h=>h
 |[],_::_,_,h,_,_=>by cases h
 |_::_,[],_,h,_,_=>by cases h
 |l::ls,b::a,[],_,_,h=>by cases h
 |l::ls,b::a,c::cs,d,hw,h=>by
  rw[Ef,Bool.and_eq_true] at h⊢;have e:=Gb.1 h.1;have f:b.Au≤l.Au∧l.AG≤b.AG:=hw 0;exact⟨Gb.2 (by omega),Hl (by simpa using d) (fun i=>hw (i+1)) h.2⟩
theorem Kb.OI{y x:Ap}(h:Kb y x){t:A5}(a:E0 y t=true):E0 x t=true:=by
 obtain⟨b,c,d⟩:=Jg.1 a;exact Jg.2 ⟨by rw[h.last];exact b,JV h.CY h.run _ _ _ c,Hl h.len h.comes d⟩
theorem Pw{l a:AX}(h:a.B6=l.B6)(s:Aq):Ff a s=Ff l s:=by unfold Ff;rw[h]
theorem Kb.sv{y x:Ap}(h:Kb y x)(o:List (List Int))(i:Nat)(t:A5):Gd x o i t=Gd y o i t:=by
 unfold Gd Ka;rw[KA h.toAlike,Pw (h.due i)]
theorem Kb.sure{y x:Ap}(h:Kb y x)(a:EF y)(b:EF x):(Gn x).1≤(Gn y).1:=
 Qn a b fun o c=>⟨o,by rw[←OH h.Kd h.len];exact c,Rl h.len fun i _ d t e=>by
  rw[←h.sv];exact d t ((Gy b.h0).2 (h.OI ((Gy a.h0).1 e)))⟩
structure Mf(y z:Ap):Prop extends Alike y z where
 Kd:z.Ag=y.Ag
 due:∀i:Nat,(E6 y i).B6≤(E6 z i).B6
 comes:∀i:Nat,(E6 z i).Au=(E6 y i).Au∧(E6 y i).AG=(E6 z i).AG
 CY:y.An=z.An
 run:y.Av=z.Av
theorem Mf.OI{y z:Ap}(h:Mf y z){t:A5}:E0 z t=true↔E0 y t=true:=by
 rw[Jg,Jg,h.last];unfold Hd;rw[h.CY,h.run];refine and_congr_right fun _=>and_congr_right fun _=>⟨fun a=>Hl h.len.symm (fun i=>?_) a,fun a=>Hl h.len (fun i=>?_) a⟩
 ·have:=h.comes i;unfold E6 at this;omega
 ·have:=h.comes i;unfold E6 at this;omega
theorem Mf.UQ{y z:Ap}(h:Mf y z)(a:EF y)(b:EF z)(o:List (List Int)):(CP z o).1≤(CP y o).1:=
 Rk b a fun t c=>⟨h.OI.1 c,by rw[KA h.toAlike];exact Pv h.len.symm h.due _⟩
end Go.Proofs.YtkljfdkmjdjpfaaGreat
end
section
namespace Go.Proofs.YtkljfdkmjdjpfaaGreat
theorem OJ(y:Ap)(o:List (List Int))(i:Nat):(verdict y o i=1↔∀t∈BL y,Gd y o i t=true)∧(verdict y o i=2→∀t∈BL y,Gd y o i t=false)∧1≤verdict y o i∧verdict y o i≤3:=by
 unfold verdict;rw[←List.all_eq_true];cases c:(BL y).all (Gd y o i) with
 |true=>simp
 |false=>
  cases a:(BL y).all fun t=> !Gd y o i t with
  |false=>simp
  |true=>
   rw[List.all_eq_true] at a;refine⟨by simp,fun _ t b=>?_,by simp,by simp⟩;have:=a t b;simpa using this
end Go.Proofs.YtkljfdkmjdjpfaaGreat
end
section
namespace Go.Proofs.YtkljfdkmjdjpfaaGreat
theorem UB{x:Int}(h0:-9223372036854775808≤x)(a:x≤9223372036854775807):LU .i64 x=some ():=by
 unfold LU;have:IntKind.i64.wrap x=x:=Hr ⟨by omega,by omega⟩;rw[if_pos this]
theorem Rm(K:Nat)(y:Ap)(h:y.Ae.length≤6):∀(k m i:Nat) (a:List AX),y.Ae.length=i+k→k<m→a=y.Ae.take i→
  Dt K y m (i:Int) a=some y.Ae:=by
 intro k
 induction k with
 |zero=>
  intro m i a hi hm b;cases m with
  |zero=>omega
  |succ m=>rw[Dt.eq_2,cf (df (by omega)),b,List.take_of_length_le (by omega)]
 |succ k ih=>
  intro m i a hi hm b;cases m with
  |zero=>omega
  |succ m=>
   have c:i<y.Ae.length:=by omega
   have d:a.length≤6:=by rw[b,List.length_take];omega
   rw[Dt.eq_2,ct (dt (by omega)),DH c,bd (show Gk K (⟨y.Ae[i].Au,y.Ae[i].AG⟩:CI)=some (⟨y.Ae[i].Au,y.Ae[i].AG⟩:CI) from rfl),Ga (by simp only[List.length_cons,List.length_nil];omega),BJ (by omega) (by omega),DI];refine ih m (i+1) _ (by omega) (by omega) ?_;rw[b,List.take_add_one,List.getElem?_eq_getElem c];rfl
theorem Rn{K:Nat}(hK:2000≤K)(y:Ap)(h:y.Ae.length≤6):CT K y=some y:=by
 unfold CT;have:=Rm K y h y.Ae.length K 0 [] (by omega) (by omega) (by simp);rw[Int.natCast_zero] at this;rw[bd this]
theorem Qo(o:List (List Int))(h:o.length≤1000)(d:∀l∈o,l.length≤1000):∀(k m i:Nat) (a:List (List Int)),o.length=i+k→k<m→a=o.take i→
  Dh o m a (i:Int)=some o:=by
 intro k
 induction k with
 |zero=>
  intro m i a hi hm c;cases m with
  |zero=>omega
  |succ m=>rw[Dh.eq_2,cf (df (by omega)),c,List.take_of_length_le (by omega)]
 |succ k ih=>
  intro m i a hi hm c;cases m with
  |zero=>omega
  |succ m=>
   have b:i<o.length:=by omega
   have e:a.length≤1000:=by rw[c,List.length_take];omega
   have:=d _ (List.getElem_mem b);rw[Dh.eq_2,ct (dt (by omega)),DH b,Ga (by simp only[List.length_nil];omega),Ga (by simp only[List.length_cons,List.length_nil];omega),BJ (by omega) (by omega),DI];refine ih m (i+1) _ (by omega) (by omega) ?_;rw[c,List.take_add_one,List.getElem?_eq_getElem b];rfl
theorem Qp{K:Nat}(hK:2000≤K)(o:List (List Int))(h:o.length≤1000)(a:∀l∈o,l.length≤1000):Dn K o=some o:=by
 unfold Dn;have:=Qo o h a o.length K 0 [] (by omega) (by omega) (by simp);rw[Int.natCast_zero] at this;rw[bd this]
theorem Ro(a:List Int)(h:a.length≤1000):∀(k m i:Nat),a.length=i+k→k<m→Ds a a m (i:Int)=some (.inr ()):=by
 intro k
 induction k with
 |zero=>
  intro m i hi hm;cases m with
  |zero=>omega
  |succ m=>rw[Ds.eq_2,cf (df (by omega))]
 |succ k ih=>
  intro m i hi hm;cases m with
  |zero=>omega
  |succ m=>
   have b:i<a.length:=by omega
   rw[Ds.eq_2,ct (dt (by omega)),DH b,DH b,cf (by simp),BJ (by omega) (by omega),DI];exact ih m (i+1) (by omega) (by omega)
theorem Rp{K:Nat}(hK:2000≤K)(a:List Int)(h:a.length≤1000):E3 K a a=some true:=by
 unfold E3;have:=Ro a h a.length K 0 (by omega) (by omega);rw[Int.natCast_zero] at this;rw[cf (by simp),bd this];rfl
theorem Qq{K:Nat}(hK:2000≤K)(y:Ap):EO K y=some (check y):=by
 unfold EO;rw[bd (NO hK y)]
def Le (y:Ap):Bool:=cond (decide ((y.Ae.length:Int)≤6)) (cond (check y !=0) true (decide (HP y≤60))) false
theorem Rq{K:Nat}(hK:2000≤K)(y:Ap):E4 K y=some (Le y):=by
 unfold E4 Le;cases b:decide ((y.Ae.length:Int)≤6) with
 |false=>rfl
 |true=>
  rw[ct rfl,ct rfl,bd (NO hK y)];cases a:(check y !=0) with
  |true=>rfl
  |false=>
   have h0:check y=0:=by simpa[bne] using a
   rw[cf rfl,cf rfl,bd (Rg y (Fx h0) hK)]
def JW(y:Ap):Bool:=cond (Le y) (check y==0) false
theorem Qr{K:Nat}(hK:2000≤K)(y:Ap):ER K y=some (JW y):=by
 unfold ER JW;rw[bd (Rq hK y)];cases Le y with
 |false=>rfl
 |true=>rw[ct rfl,ct rfl,bd (Qq hK y)]
theorem Qs{y:Ap}(h:JW y=true):check y=0∧y.Ae.length≤4:=by
 unfold JW at h;cases a:Le y with
 |false=>rw[a] at h;cases h
 |true=>
  rw[a] at h;have h0:check y=0:=by simpa using h
  exact⟨h0,(Fx h0).n4⟩
def W8(ws:List Int):Prop:=∀w∈ws,0≤w∧w≤255
theorem Rr(K:Nat)(ws:List Int)(h:W8 ws)(at_:Int)(h0:0≤at_):∃v:Int,E5 K ws at_=some v∧0≤v∧v≤255:=by
 unfold E5
 by_cases b:ws.length=0
 ·rw[ct (by rw[b];rfl)];exact⟨0,rfl,by omega,by omega⟩
 ·rw[cf (by rw[beq_eq_false_iff_ne];omega),MK h0 (by omega)];have c:=Int.emod_nonneg at_ (show(ws.length:Int)≠0 by omega);have e:=Int.emod_lt_of_pos at_ (show(0:Int)<(ws.length:Int) by omega);obtain⟨k,d⟩:=Int.eq_ofNat_of_zero_le c;have a:k<ws.length:=by omega
  rw[d,DH a];have:=h _ (List.getElem_mem a);rw[bd (UB (by omega) (by omega))];exact⟨_,rfl,this⟩
theorem Qt{K:Nat}(y:Ap)(d:EF y)(ws:List Int)(h:W8 ws):∀(k m i:Nat) (o:List (List Int)),y.Ae.length=i+k→k<m→(o.length:Int)=y.Ag→o.flatten.Perm (iota i)→
  ∃f,Di K y ws m (i:Int) o=some f∧(f.length:Int)=y.Ag∧f.flatten.Perm (iota y.Ae.length):=by
 have x:=d.n4;have j:=d.r1;have w:=d.r2;intro k
 induction k with
 |zero=>
  intro m i o hi hm g c;cases m with
  |zero=>omega
  |succ m=>
   rw[Di.eq_2,cf (df (by omega))];exact⟨o,rfl,g,by rw[show y.Ae.length=i by omega];exact c⟩
 |succ k ih=>
  intro m i o hi hm g c;cases m with
  |zero=>omega
  |succ m=>
   obtain⟨v,ev,v0,v1⟩:=Rr K ws h (i:Int) (by omega);rw[Di.eq_2,ct (dt (by omega)),bd ev,MK v0 j,Ud v0 (by omega),BJ (by omega) (by omega)];have q:=Int.emod_nonneg v (show y.Ag≠0 by omega);have z:=Int.emod_lt_of_pos v (show 0<y.Ag by omega);obtain⟨r,s⟩:=Int.eq_ofNat_of_zero_le q;have b:r<o.length:=by omega
   rw[s];have hlen:o[r].length≤4:=by
    have l:=c.length_eq;rw[Gx] at l;have:=(List.sublist_flatten_of_mem (List.getElem_mem b)).length_le;omega
   have t:=Int.emod_nonneg (v/4) (show((o[r].length:Int)+1)≠0 by omega);have l:=Int.emod_lt_of_pos (v/4) (show 0<(o[r].length:Int)+1 by omega);obtain⟨a,u⟩:=Int.eq_ofNat_of_zero_le t;rw[DH b,BJ (by omega) (by omega),MK (by omega) (by omega),DH b,u,SP (by omega) (by omega) (by omega)];have n:Cy o[r] (0:Int) (a:Int)=o[r].take a:=Rh _ _;have p:Cy o[r] (a:Int) (o[r].length:Int)=o[r].drop a:=Ri _ _;rw[n,Ga (by simp only[List.length_nil,List.length_take];omega),Ga (by simp only[List.length_append,List.length_cons,List.length_nil,List.length_take];omega),DH b,SP (by omega) (by omega) (by omega),p,Ga (by simp only[List.length_append,List.length_cons,List.length_nil,List.length_take,List.length_drop];omega),DH b,BJ (by omega) (by omega),DI,Int.toNat_natCast];have e:(([]:List Int)++o[r].take a++[(i:Int)])++o[r].drop a=CD (o.getD r []) (a:Int) (i:Int):=by
    unfold CD;rw[Rj b,Int.toNat_natCast];simp
   rw[e];refine ih m (i+1) _ (by omega) (by omega) (by rw[List.length_set];exact g) ?_;refine(GY (i:Int) o r (a:Int) b).trans ?_;rw[Is];exact(List.Perm.cons _ c).trans (List.perm_append_singleton _ _).symm
theorem Qu{K:Nat}(hK:2000≤K)(y:Ap)(a:EF y)(ws:List Int)(h:W8 ws):∃o,ES K y ws=some o∧C3 y o=true:=by
 have g:=a.n4;have e:=a.r1;have f:=a.r2;unfold ES;obtain⟨o,b,c,d⟩:=Qt (K:=K) y a ws h y.Ae.length K 0 (List.replicate y.Ag.toNat []) (by omega) (by omega) (by rw[List.length_replicate];omega) (by
  have:∀n:Nat,(List.replicate n ([]:List Int)).flatten=[]:=fun n=>by
   induction n with
   |zero=>rfl
   |succ n ih=>rw[List.replicate_succ,List.flatten_cons,ih];rfl
  rw[this];exact List.Perm.refl _)
 rw[Int.natCast_zero] at b;rw[NJ (by omega) (by omega) (by omega),bd b];exact⟨o,rfl,Fo.2 ⟨c,d⟩⟩
end Go.Proofs.YtkljfdkmjdjpfaaGreat
end
section
namespace Go.Proofs.YtkljfdkmjdjpfaaGreat
section
variable{K:Nat}(hK:2000≤K){y:Ap}(h:check y=0)
theorem IJ{o:List (List Int)}(h:check y=0)(a:C3 y o=true):o.length≤1000∧(∀l∈o,l.length≤1000)∧o.flatten.length≤1000:=JU (Fx h) a
include hK h
theorem SQ{o:List (List Int)}(a:C3 y o=true){t:A5}(b:E0 y t=true):FR K y o t=some (Ch y o t,0):=by
 obtain⟨c,_,d⟩:=IJ h a;rw[Pk y o t hK c d,if_neg (by simp[h]),if_neg (by simp[a,b])]
theorem Ly{o:List (List Int)}(a:C3 y o=true){i:Nat}(hi:i<y.Ae.length):Ed K y o (i:Int)=some (verdict y o i,0):=by
 obtain⟨b,_,c⟩:=IJ h a;have d:Fz (i:Int) 0 ((y.Ae.length:Int)-1)=true:=Gb.2 (by omega);rw[Rb y o i hK b c,if_neg (by simp[h]),if_neg (by simp[a,d]),Int.toNat_natCast]
theorem Px{o:List (List Int)}(a:C3 y o=true):Fl K y o=some ((CP y o).1,(CP y o).2,0):=by
 obtain⟨b,_,c⟩:=IJ h a;rw[Pn y o hK b c,if_neg (by simp[h]),if_neg (by simp[a])]
theorem Py:FT K y=some ((GF y).2,(GF y).1,0):=by rw[SL y hK,if_neg (by simp[h])]
theorem Pz:FV K y=some ((Gn y).2.2,(Gn y).1,0):=by rw[SM y hK,if_neg (by simp[h])]
theorem OK:Fb K y=some (FM y 0 y.Ae.length,0):=by rw[OB y hK,if_neg (by simp[h])]
theorem JX{o:List (List Int)}(a:C3 y o=true)(n:Int):DP K y o n=some (decide ((CP y o).1≤n)):=by
 obtain⟨b,_,c⟩:=IJ h a;rw[MP y o n hK b c,dt h,a];rfl
theorem Ny{o:List (List Int)}(a:C3 y o=true){t:A5}(b:E0 y t=true)(n:Int):EZ K y o t n=some (decide (n≤(DM y (Ch y o t):Int))):=by
 obtain⟨c,_,d⟩:=IJ h a;rw[Nv y o t n hK c d,dt h,a,b];rfl
end
def y1:Ap:=⟨5,1,1,1,[⟨0,0,2,2,2⟩,⟨1,1,2,1,5⟩]⟩
def t3:A5:=⟨[0,1],[false,false,false,true,false,false]⟩
theorem HB:check y1=0:=by decide+kernel
theorem QU:C3 y1 [[0,1]]=true:=Fo.2 ⟨rfl,by decide⟩
theorem OL:C3 y1 [[1,0]]=true:=Fo.2 ⟨rfl,by decide⟩
theorem TN:E0 y1 t3=true:=by decide+kernel
theorem TO:Ch y1 [[0,1]] t3=[⟨0,1,true⟩,⟨2,3,false⟩]:=by
 have h:∀(a b:List Aq),a.map (fun s=>(s.On,s.Bg,s.AN))=b.map (fun s=>(s.On,s.Bg,s.AN))→a=b:=by
  intro a
  induction a with
  |nil=>intro b h;cases b with|nil=>rfl|cons x l=>cases h
  |cons x l ih=>
   intro b h;cases b with
   |nil=>cases h
   |cons x2 d=>
    have c:=List.cons.inj h;obtain⟨a1,a2,a3⟩:=x;obtain⟨e,f,g⟩:=x2;have i:a1=e∧a2=f∧a3=g:=by simpa using c.1
    obtain⟨rfl,rfl,rfl⟩:=i;rw[ih d c.2]
 exact h _ _ (by decide+kernel)
theorem OM{K:Nat}(hK:2000≤K):Eb K=some true:=by
 unfold Eb;have a:Cu K 1=some y1:=rfl;have c:FY K 3=some t3:=rfl;have d:Ed K y1 [[0,1]] 1=some (verdict y1 [[0,1]] 1,0):=Ly hK HB QU (i:=1) (by decide);have e:Ed K y1 [[1,0]] 0=some (verdict y1 [[1,0]] 0,0):=Ly hK HB OL (i:=0) (by decide);have b:=Fx HB;obtain⟨_,f,j⟩:=HR b [[1,0]];obtain⟨_,g,k⟩:=Lc b;have v1:verdict y1 [[0,1]] 1=3:=by decide+kernel
 have v2:verdict y1 [[1,0]] 0=2:=by decide+kernel
 have v3:(CP y1 [[1,0]]).1=2:=by decide+kernel
 have v4:(GF y1).1=1:=by decide+kernel
 have v5:(Gn y1).1=1:=by decide+kernel
 have v6:FM y1 0 y1.Ae.length=[1]:=by decide+kernel
 rw[bd a,bd c,bd (SQ hK HB QU TN),bd a,bd d,bd a,bd e,bd a,bd (Px hK HB OL),bd a,bd (Py hK HB),bd a,bd (Pz hK HB),bd a,bd (OK hK HB),TO];rw[ct (by rfl)];have s1:Er K 0 1 true=some ⟨0,1,true⟩:=rfl;have s2:Er K 2 3 false=some ⟨2,3,false⟩:=rfl;have h:FZ K [⟨0,1,true⟩,⟨2,3,false⟩] ⟨0,1,true⟩ ⟨2,3,false⟩=some true:=rfl;rw[bd s1,bd s2,bd h,ct (by rfl),ct (by rfl),v1,ct (by rfl),ct (by rfl),v2,ct (by rfl),ct (by rfl),v3,ct (by rfl),bd a,bd (Ny hK HB OL f 2),ct (dt (by omega)),ct (by rfl),v4,ct (by rfl),bd a,bd (JX hK HB g 1),ct (dt (by omega)),ct (by rfl),v5,ct (by rfl),ct (by rfl),v6,bd (Rp hK [1] (by decide))]
end Go.Proofs.YtkljfdkmjdjpfaaGreat
end
section
namespace Go.Proofs.YtkljfdkmjdjpfaaGreat
namespace HF
theorem mixed:Tryz.prog.follows .mixedOrders=true:=by kernel_rfl
theorem Ji(b:Nat)(w:World):(Instr.fieldAt 154 (.pointer (some ⟨b,0,none⟩)) 1).run Tryz.prog w=.ok (.pointer (some ⟨b,1,none⟩)) w:=by kernel_rfl
theorem AY:One Tryz.prog 3:=by unfold One;exact⟨by kernel_rfl,by kernel_rfl⟩
theorem Jj(b:Nat)(w:World):(Instr.fieldAt 154 (.pointer (some ⟨b,0,none⟩)) 0).run Tryz.prog w=.ok (.pointer (some ⟨b,0,none⟩)) w:=by kernel_rfl
theorem IK:Bf Tryz.prog 90:=by unfold Bf;kernel_rfl
theorem Jk(b:Nat)(w:World):(Instr.fieldAt 116 (.pointer (some ⟨b,0,none⟩)) 1).run Tryz.prog w=.ok (.pointer (some ⟨b,1,none⟩)) w:=by kernel_rfl
theorem Jl(b:Nat)(w:World):(Instr.fieldAt 116 (.pointer (some ⟨b,0,none⟩)) 0).run Tryz.prog w=.ok (.pointer (some ⟨b,0,none⟩)) w:=by kernel_rfl
theorem SR:(Tryz.prog.underlying 3).isSome=true:=by kernel_rfl
theorem GZ:(Tryz.prog.info? 115).bind (·.zero)=some (.agg #[I 0,I 0,.bool false]):=by kernel_rfl
theorem Eg:(Tryz.prog.info? 115).map (·.size)=some 3:=by kernel_rfl
theorem DN:Dy Tryz.prog 115 3:=by unfold Dy;exact⟨by kernel_rfl,by kernel_rfl⟩
theorem CR(b:Nat)(w:World):(Instr.fieldAt 75 (.pointer (some ⟨b,0,none⟩)) 4).run Tryz.prog w=.ok (.pointer (some ⟨b,4,none⟩)) w:=by kernel_rfl
theorem Da:One Tryz.prog 73:=by unfold One;exact⟨by kernel_rfl,by kernel_rfl⟩
theorem Qv(b:Nat)(w:World):(Instr.fieldAt 115 (.pointer (some ⟨b,0,none⟩)) 2).run Tryz.prog w=.ok (.pointer (some ⟨b,2,none⟩)) w:=by kernel_rfl
theorem Ke:One Tryz.prog 4:=by unfold One;exact⟨by kernel_rfl,by kernel_rfl⟩
theorem KL(b:Nat)(w:World):(Instr.fieldAt 115 (.pointer (some ⟨b,0,none⟩)) 1).run Tryz.prog w=.ok (.pointer (some ⟨b,1,none⟩)) w:=by kernel_rfl
theorem MZ(b:Nat)(w:World):(Instr.fieldAt 156 (.pointer (some ⟨b,0,none⟩)) 3).run Tryz.prog w=.ok (.pointer (some ⟨b,4,none⟩)) w:=by kernel_rfl
theorem G4:Dy Tryz.prog 156 5:=by unfold Dy;exact⟨by kernel_rfl,by kernel_rfl⟩
theorem M0:Bf Tryz.prog 97:=by unfold Bf;kernel_rfl
theorem Gf(b:Nat)(w:World):(Instr.fieldAt 63 (.pointer (some ⟨b,0,none⟩)) 0).run Tryz.prog w=.ok (.pointer (some ⟨b,0,none⟩)) w:=by kernel_rfl
theorem M3:Bf Tryz.prog 54:=by unfold Bf;kernel_rfl
theorem Kf(b:Nat)(w:World):(Instr.fieldAt 63 (.pointer (some ⟨b,0,none⟩)) 3).run Tryz.prog w=.ok (.pointer (some ⟨b,3,none⟩)) w:=by kernel_rfl
theorem LA(b:Nat)(w:World):(Instr.fieldAt 63 (.pointer (some ⟨b,0,none⟩)) 2).run Tryz.prog w=.ok (.pointer (some ⟨b,2,none⟩)) w:=by kernel_rfl
theorem Fy:Dy Tryz.prog 63 5:=by unfold Dy;exact⟨by kernel_rfl,by kernel_rfl⟩
theorem SS:Bf Tryz.prog 95:=by unfold Bf;kernel_rfl
theorem GQ:(Tryz.prog.info? 3).map (fun i=>(i.zero,i.size,i.bytes))=some (some (I 0),1,8):=by kernel_rfl
theorem Rs:Bf Tryz.prog 100:=by unfold Bf;kernel_rfl
theorem Gz(b:Nat)(w:World):(Instr.fieldAt 63 (.pointer (some ⟨b,0,none⟩)) 4).run Tryz.prog w=.ok (.pointer (some ⟨b,4,none⟩)) w:=by kernel_rfl
theorem GR:One Tryz.prog 61:=by unfold One;exact⟨by kernel_rfl,by kernel_rfl⟩
theorem JY:(Tryz.prog.info? 118).map (·.size)=some 5:=by kernel_rfl
theorem Qw(b o:Nat)(w:World):(Instr.fieldAt 118 (.pointer (some ⟨b,o,none⟩)) 0).run Tryz.prog w=.ok (.pointer (some ⟨b,o,none⟩)) w:=by kernel_rfl
theorem NP:Dy Tryz.prog 116 2:=by unfold Dy;exact⟨by kernel_rfl,by kernel_rfl⟩
theorem Rt:Bf Tryz.prog 136:=by unfold Bf;kernel_rfl
theorem IL(b:Nat)(w:World):(Instr.fieldAt 63 (.pointer (some ⟨b,0,none⟩)) 1).run Tryz.prog w=.ok (.pointer (some ⟨b,1,none⟩)) w:=by kernel_rfl
theorem JZ:Bf Tryz.prog 46:=by unfold Bf;kernel_rfl
theorem NQ:Dy Tryz.prog 118 5:=by unfold Dy;exact⟨by kernel_rfl,by kernel_rfl⟩
theorem M4:(Tryz.prog.info? 118).bind (·.zero)=some (.agg #[I 0,I 0,I 0,I 0,I 0]):=by kernel_rfl
theorem Ie(b:Nat)(w:World):(Instr.fieldAt 118 (.pointer (some ⟨b,0,none⟩)) 0).run Tryz.prog w=.ok (.pointer (some ⟨b,0,none⟩)) w:=by kernel_rfl
theorem M5(b:Nat)(w:World):(Instr.fieldAt 118 (.pointer (some ⟨b,0,none⟩)) 1).run Tryz.prog w=.ok (.pointer (some ⟨b,2,none⟩)) w:=by kernel_rfl
theorem M6(b:Nat)(w:World):(Instr.fieldAt 118 (.pointer (some ⟨b,0,none⟩)) 2).run Tryz.prog w=.ok (.pointer (some ⟨b,3,none⟩)) w:=by kernel_rfl
theorem M7(b:Nat)(w:World):(Instr.fieldAt 118 (.pointer (some ⟨b,0,none⟩)) 3).run Tryz.prog w=.ok (.pointer (some ⟨b,4,none⟩)) w:=by kernel_rfl
theorem PA:Bf Tryz.prog 81:=by unfold Bf;kernel_rfl
theorem Jm(b:Nat)(w:World):(Instr.fieldAt 156 (.pointer (some ⟨b,0,none⟩)) 0).run Tryz.prog w=.ok (.pointer (some ⟨b,0,none⟩)) w:=by kernel_rfl
theorem Kg:Dy Tryz.prog 154 2:=by unfold Dy;exact⟨by kernel_rfl,by kernel_rfl⟩
theorem G5(b:Nat)(w:World):(Instr.fieldAt 75 (.pointer (some ⟨b,0,none⟩)) 0).run Tryz.prog w=.ok (.pointer (some ⟨b,0,none⟩)) w:=by kernel_rfl
theorem Ru:Bf Tryz.prog 140:=by unfold Bf;kernel_rfl
theorem G0(b:Nat)(w:World):(Instr.fieldAt 156 (.pointer (some ⟨b,0,none⟩)) 1).run Tryz.prog w=.ok (.pointer (some ⟨b,2,none⟩)) w:=by kernel_rfl
theorem NR:Bf Tryz.prog 141:=by unfold Bf;kernel_rfl
theorem KM(b:Nat)(w:World):(Instr.fieldAt 156 (.pointer (some ⟨b,0,none⟩)) 2).run Tryz.prog w=.ok (.pointer (some ⟨b,3,none⟩)) w:=by kernel_rfl
theorem Dv:(Tryz.prog.info? 3).map (·.size)=some 1:=by kernel_rfl
theorem LB:(Tryz.prog.info? 75).bind (·.zero)=some (.agg #[I 0,I 0,I 0,I 0,.slice none 0 0]):=by kernel_rfl
theorem ON:(Tryz.prog.info? 75).map (·.size)=some 5:=by kernel_rfl
theorem CE:Dy Tryz.prog 75 5:=by unfold Dy;exact⟨by kernel_rfl,by kernel_rfl⟩
theorem GA:(Tryz.prog.info? 78).bind (·.zero)=some (.agg #[.slice none 0 0,.slice none 0 0]):=by kernel_rfl
theorem M8:(Tryz.prog.info? 4).map (fun i=>(i.zero,i.size,i.bytes))=some (some (.bool false),1,1):=by kernel_rfl
theorem GG:(Tryz.prog.info? 78).map (·.size)=some 2:=by kernel_rfl
theorem G6(b:Nat)(w:World):(Instr.fieldAt 78 (.pointer (some ⟨b,0,none⟩)) 1).run Tryz.prog w=.ok (.pointer (some ⟨b,1,none⟩)) w:=by kernel_rfl
theorem GI:One Tryz.prog 65:=by unfold One;exact⟨by kernel_rfl,by kernel_rfl⟩
theorem J0:(Tryz.prog.info? 4).map (·.size)=some 1:=by kernel_rfl
theorem FO:Dy Tryz.prog 78 2:=by unfold Dy;exact⟨by kernel_rfl,by kernel_rfl⟩
theorem LC:Tryz.prog.eqGuardType Tryz.prog.depth 115=false:=by kernel_rfl
theorem KN:P9 Tryz.prog 115 [true,true,false]:=Nu Tryz.underlying115 (by kernel_rfl) (by kernel_rfl) AY Tryz.underlying3 Ke Tryz.underlying4
theorem Qx:(Tryz.prog.info? 154).bind (·.zero)=some (.agg #[I 0,I 0]):=by kernel_rfl
theorem SU:(Tryz.prog.info? 154).map (·.size)=some 2:=by kernel_rfl
theorem SV:Bf Tryz.prog 88:=by unfold Bf;kernel_rfl
theorem Qy:(Tryz.prog.info? 156).map (fun i=>(i.zero,i.size,i.bytes))=some (some (.agg #[I 0,I 0,I 0,I 0,I 0]),5,40):=by kernel_rfl
theorem TP:(Tryz.prog.info? 73).map (·.size)=some 1:=by kernel_rfl
theorem PB:Bf Tryz.prog 80:=by unfold Bf;kernel_rfl
theorem Rv:One Tryz.prog 168:=by unfold One;exact⟨by kernel_rfl,by kernel_rfl⟩
theorem GJ:(Tryz.prog.info? 156).map (·.size)=some 5:=by kernel_rfl
theorem Rw:Bf Tryz.prog 175:=by unfold Bf;kernel_rfl
theorem Rx:Bf Tryz.prog 143:=by unfold Bf;kernel_rfl
theorem Ry:Bf Tryz.prog 142:=by unfold Bf;kernel_rfl
theorem RA:One Tryz.prog 237:=by unfold One;exact⟨by kernel_rfl,by kernel_rfl⟩
theorem RB:Bf Tryz.prog 210:=by unfold Bf;kernel_rfl
theorem RC:Bf Tryz.prog 198:=by unfold Bf;kernel_rfl
theorem RD:Bf Tryz.prog 197:=by unfold Bf;kernel_rfl
theorem NS(b:Nat)(w:World):(Instr.fieldAt 75 (.pointer (some ⟨b,0,none⟩)) 2).run Tryz.prog w=.ok (.pointer (some ⟨b,2,none⟩)) w:=by kernel_rfl
theorem NT(b:Nat)(w:World):(Instr.fieldAt 75 (.pointer (some ⟨b,0,none⟩)) 3).run Tryz.prog w=.ok (.pointer (some ⟨b,3,none⟩)) w:=by kernel_rfl
theorem If:(Tryz.prog.info? 3).bind (·.zero)=some (I 0):=by kernel_rfl
theorem RE:Bf Tryz.prog 173:=by unfold Bf;kernel_rfl
theorem RF:Bf Tryz.prog 172:=by unfold Bf;kernel_rfl
theorem RG:Bf Tryz.prog 145:=by unfold Bf;kernel_rfl
theorem NU:Bf Tryz.prog 138:=by unfold Bf;kernel_rfl
theorem IM(b:Nat)(w:World):(Instr.fieldAt 75 (.pointer (some ⟨b,0,none⟩)) 1).run Tryz.prog w=.ok (.pointer (some ⟨b,1,none⟩)) w:=by kernel_rfl
theorem SW:Bf Tryz.prog 89:=by unfold Bf;kernel_rfl
theorem SX:Bf Tryz.prog 91:=by unfold Bf;kernel_rfl
theorem PC:Bf Tryz.prog 92:=by unfold Bf;kernel_rfl
theorem NV:Bf Tryz.prog 144:=by unfold Bf;kernel_rfl
theorem KO:(Tryz.prog.info? 156).bind (·.zero)=some (.agg #[I 0,I 0,I 0,I 0,I 0]):=by kernel_rfl
theorem PD:Bf Tryz.prog 94:=by unfold Bf;kernel_rfl
theorem SY:Bf Tryz.prog 93:=by unfold Bf;kernel_rfl
theorem EG:One Tryz.prog 23:=by unfold One;exact⟨by kernel_rfl,by kernel_rfl⟩
theorem RH:One Tryz.prog 161:=by unfold One;exact⟨by kernel_rfl,by kernel_rfl⟩
theorem M9(b o:Nat)(w:World):(Instr.fieldAt 156 (.pointer (some ⟨b,o,none⟩)) 0).run Tryz.prog w=.ok (.pointer (some ⟨b,o,none⟩)) w:=by kernel_rfl
theorem Qz(b o:Nat)(w:World):(Instr.fieldAt 154 (.pointer (some ⟨b,o,none⟩)) 0).run Tryz.prog w=.ok (.pointer (some ⟨b,o,none⟩)) w:=by kernel_rfl
theorem Kh:One Tryz.prog 176:=by unfold One;exact⟨by kernel_rfl,by kernel_rfl⟩
theorem NW:Bf Tryz.prog 200:=by unfold Bf;kernel_rfl
theorem RI:(Tryz.prog.info? 23).bind (·.zero)=some (.slice none 0 0):=by kernel_rfl
theorem EN:(Tryz.prog.info? 23).map (·.size)=some 1:=by kernel_rfl
theorem RJ:(Tryz.prog.info? 65).bind (·.zero)=some (.slice none 0 0):=by kernel_rfl
theorem TQ:(Tryz.prog.info? 65).map (·.size)=some 1:=by kernel_rfl
theorem Na:(Tryz.prog.info? 176).bind (·.zero)=some (.nilFunc):=by kernel_rfl
theorem PE:(Tryz.prog.info? 176).map (·.size)=some 1:=by kernel_rfl
theorem RK(w:World):(Op.equal 23 (.slice none 0 0) (.slice none 0 0)).run Tryz.prog w=.ok true w:=by kernel_rfl
theorem RL(ad:Addr)(n c:Nat)(w:World):(Op.equal 23 (.slice (some ad) n c) (.slice none 0 0)).run Tryz.prog w=.ok false w:=by kernel_rfl
theorem LD:Bf Tryz.prog 149:=by unfold Bf;kernel_rfl
theorem RM(w:World):(Op.equal 65 (.slice none 0 0) (.slice none 0 0)).run Tryz.prog w=.ok true w:=by kernel_rfl
theorem RN(ad:Addr)(n c:Nat)(w:World):(Op.equal 65 (.slice (some ad) n c) (.slice none 0 0)).run Tryz.prog w=.ok false w:=by kernel_rfl
theorem LF:Bf Tryz.prog 150:=by unfold Bf;kernel_rfl
theorem IN:(Tryz.prog.info? 23).map (fun i=>(i.zero,i.size,i.bytes))=some (some (.slice none 0 0),1,24):=by kernel_rfl
theorem RO(w:World):(Op.equal 64 (.slice none 0 0) (.slice none 0 0)).run Tryz.prog w=.ok true w:=by kernel_rfl
theorem RP(ad:Addr)(n c:Nat)(w:World):(Op.equal 64 (.slice (some ad) n c) (.slice none 0 0)).run Tryz.prog w=.ok false w:=by kernel_rfl
theorem RQ:Bf Tryz.prog 153:=by unfold Bf;kernel_rfl
theorem TR:∀(b c:Bool) (w:World),(Op.equal 4 (.bool b) (.bool c)).run Tryz.prog w=.ok (b==c) w:=by intro b c w;cases b<;>cases c<;>kernel_rfl
theorem Hu(b:Nat)(w:World):(Instr.fieldAt 78 (.pointer (some ⟨b,0,none⟩)) 0).run Tryz.prog w=.ok (.pointer (some ⟨b,0,none⟩)) w:=by kernel_rfl
theorem NX:Kq Tryz.prog 220 2:=Og 2 Tryz.underlying220 (by kernel_rfl) rfl rfl AY Tryz.underlying3
theorem Nb:Ms Tryz.prog 220 2:=Np 2 Tryz.underlying220 rfl rfl AY Tryz.underlying3
theorem L6:IZ Tryz.prog 220:=by unfold IZ;kernel_rfl
theorem SZ:(Tryz.prog.info? 115).bind (·.zero)=some (.agg #[I 0,I 0,.bool false]):=by kernel_rfl
theorem G1(b:Nat)(w:World):(Instr.fieldAt 220 (.pointer (some ⟨b,0,none⟩)) 1).run Tryz.prog w=.ok (.pointer (some ⟨b,1,none⟩)) w:=by kernel_rfl
theorem Ig(b o:Nat)(w:World):(Instr.fieldAt 165 (.pointer (some ⟨b,o,none⟩)) 0).run Tryz.prog w=.ok (.pointer (some ⟨b,o,none⟩)) w:=by kernel_rfl
theorem LG(b o:Nat)(w:World):(Instr.fieldAt 75 (.pointer (some ⟨b,o,none⟩)) 0).run Tryz.prog w=.ok (.pointer (some ⟨b,o,none⟩)) w:=by kernel_rfl
theorem NY(b o:Nat)(w:World):(Instr.fieldAt 75 (.pointer (some ⟨b,o,none⟩)) 4).run Tryz.prog w=.ok (.pointer (some ⟨b,o+4,none⟩)) w:=by kernel_rfl
theorem QA(b:Nat)(w:World):(Instr.fieldAt 220 (.pointer (some ⟨b,0,none⟩)) 0).run Tryz.prog w=.ok (.pointer (some ⟨b,0,none⟩)) w:=by kernel_rfl
theorem Nc(b o:Nat)(w:World):(Instr.fieldAt 165 (.pointer (some ⟨b,o,none⟩)) 1).run Tryz.prog w=.ok (.pointer (some ⟨b,o+5,none⟩)) w:=by kernel_rfl
theorem Nd(b o:Nat)(w:World):(Instr.fieldAt 165 (.pointer (some ⟨b,o,none⟩)) 2).run Tryz.prog w=.ok (.pointer (some ⟨b,o+6,none⟩)) w:=by kernel_rfl
theorem NZ:One Tryz.prog 163:=by unfold One;exact⟨by kernel_rfl,by kernel_rfl⟩
theorem LH:Dy Tryz.prog 220 2:=by unfold Dy;exact⟨by kernel_rfl,by kernel_rfl⟩
theorem RR:Bf Tryz.prog 174:=by unfold Bf;kernel_rfl
theorem QB:(Tryz.prog.info? 115).map (fun i=>(i.zero,i.size,i.bytes))=some (some (.agg #[I 0,I 0,.bool false]),3,24):=by kernel_rfl
theorem RS:Bf Tryz.prog 139:=by unfold Bf;kernel_rfl
theorem RT:Bf Tryz.prog 137:=by unfold Bf;kernel_rfl
theorem IP:Bf Tryz.prog 35:=by unfold Bf;kernel_rfl
theorem Nf:Bf Tryz.prog 85:=by unfold Bf;kernel_rfl
theorem S0:Bf Tryz.prog 86:=by unfold Bf;kernel_rfl
theorem Lf:Bf Tryz.prog 87:=by unfold Bf;kernel_rfl
theorem Ng:(Tryz.prog.info? 183).bind (·.zero)=some (.agg #[.nilFunc]):=by kernel_rfl
theorem PF:(Tryz.prog.info? 183).map (·.size)=some 1:=by kernel_rfl
theorem Nh(b:Nat)(w:World):(Instr.fieldAt 183 (.pointer (some ⟨b,0,none⟩)) 0).run Tryz.prog w=.ok (.pointer (some ⟨b,0,none⟩)) w:=by kernel_rfl
theorem N0:One Tryz.prog 180:=by unfold One;exact⟨by kernel_rfl,by kernel_rfl⟩
theorem N1:Bf Tryz.prog 107:=by unfold Bf;kernel_rfl
theorem N2:Bf Tryz.prog 103:=by unfold Bf;kernel_rfl
theorem QC:(Tryz.prog.info? 162).bind (·.zero)=some (.pointer none):=by kernel_rfl
theorem RU:Bf Tryz.prog 176:=by unfold Bf;kernel_rfl
theorem HV:One Tryz.prog 162:=by unfold One;exact⟨by kernel_rfl,by kernel_rfl⟩
theorem PG(w:World):(Op.equal 162 (.pointer none) (.pointer none)).run Tryz.prog w=.ok true w:=by kernel_rfl
theorem PH:(Tryz.prog.info? 162).map (·.size)=some 1:=by kernel_rfl
theorem LI:One Tryz.prog 223:=by unfold One;exact⟨by kernel_rfl,by kernel_rfl⟩
theorem FP:One Tryz.prog 64:=by unfold One;exact⟨by kernel_rfl,by kernel_rfl⟩
theorem PI(ad:Addr)(w:World):(Op.equal 162 (.pointer (some ad)) (.pointer none)).run Tryz.prog w=.ok false w:=by kernel_rfl
theorem RV:Bf Tryz.prog 177:=by unfold Bf;kernel_rfl
theorem RW:Bf Tryz.prog 199:=by unfold Bf;kernel_rfl
theorem Ih:(Tryz.prog.info? 178).bind (·.zero)=some (.agg #[I 0,I 0,I 0,I 0]):=by kernel_rfl
theorem RX:Bf Tryz.prog 147:=by unfold Bf;kernel_rfl
theorem N3:Bf Tryz.prog 146:=by unfold Bf;kernel_rfl
theorem HW:Dy Tryz.prog 178 4:=by unfold Dy;exact⟨by kernel_rfl,by kernel_rfl⟩
theorem IQ:(Tryz.prog.info? 178).map (·.size)=some 4:=by kernel_rfl
theorem RY:Bf Tryz.prog 148:=by unfold Bf;kernel_rfl
theorem S1:Bf Tryz.prog 96:=by unfold Bf;kernel_rfl
theorem Ni:Bf Tryz.prog 98:=by unfold Bf;kernel_rfl
theorem PJ:Bf Tryz.prog 99:=by unfold Bf;kernel_rfl
theorem Nj:Bf Tryz.prog 41:=by unfold Bf;kernel_rfl
theorem PK:Bf Tryz.prog 30:=by unfold Bf;kernel_rfl
theorem RZ:Bf Tryz.prog 152:=by unfold Bf;kernel_rfl
theorem LJ:Bf Tryz.prog 106:=by unfold Bf;kernel_rfl
theorem It:(Tryz.prog.info? 64).map (·.size)=some 1:=by kernel_rfl
theorem R0:Dy Tryz.prog 183 1:=by unfold Dy;exact⟨by kernel_rfl,by kernel_rfl⟩
theorem R1:Tryz.prog.eqGuardType Tryz.prog.depth 178=false:=by kernel_rfl
theorem R3:Kq Tryz.prog 178 4:=OT Tryz.underlying178 AY Tryz.underlying3
theorem S2:One Tryz.prog 69:=by unfold One;exact⟨by kernel_rfl,by kernel_rfl⟩
theorem N4:Bf Tryz.prog 151:=by unfold Bf;kernel_rfl
theorem LK:(Tryz.prog.info? 64).bind (·.zero)=some (.slice none 0 0):=by kernel_rfl
theorem R4:Bf Tryz.prog 105:=by unfold Bf;kernel_rfl
theorem N5:Bf Tryz.prog 104:=by unfold Bf;kernel_rfl
theorem R5:Bf Tryz.prog 108:=by unfold Bf;kernel_rfl
theorem S3:Bf Tryz.prog 27:=by unfold Bf;kernel_rfl
theorem S4:Bf Tryz.prog 34:=by unfold Bf;kernel_rfl
theorem Ue:(Tryz.prog.info? 5).map (·.size)=some 1:=by kernel_rfl
theorem TS:One Tryz.prog 5:=by unfold One;exact⟨by kernel_rfl,by kernel_rfl⟩
theorem Uf:(Tryz.prog.underlying 5).isSome=true:=by kernel_rfl
theorem R6:Bf Tryz.prog 110:=by unfold Bf;kernel_rfl
theorem Hm:Bf Tryz.prog 82:=by unfold Bf;kernel_rfl
theorem S5:Bf Tryz.prog 83:=by unfold Bf;kernel_rfl
theorem Nk:Bf Tryz.prog 40:=by unfold Bf;kernel_rfl
theorem PL:Bf Tryz.prog 50:=by unfold Bf;kernel_rfl
theorem PN:Bf Tryz.prog 51:=by unfold Bf;kernel_rfl
theorem S6:Bf Tryz.prog 52:=by unfold Bf;kernel_rfl
theorem PO:Bf Tryz.prog 61:=by unfold Bf;kernel_rfl
theorem S7:Bf Tryz.prog 84:=by unfold Bf;kernel_rfl
theorem S8:Bf Tryz.prog 48:=by unfold Bf;kernel_rfl
theorem PQ:Bf Tryz.prog 49:=by unfold Bf;kernel_rfl
theorem S9:Bf Tryz.prog 55:=by unfold Bf;kernel_rfl
theorem PR:Bf Tryz.prog 29:=by unfold Bf;kernel_rfl
theorem J1:Bf Tryz.prog 31:=by unfold Bf;kernel_rfl
theorem Nl:Bf Tryz.prog 32:=by unfold Bf;kernel_rfl
theorem Ta:Bf Tryz.prog 56:=by unfold Bf;kernel_rfl
theorem Tb:Bf Tryz.prog 59:=by unfold Bf;kernel_rfl
end HF
end Go.Proofs.YtkljfdkmjdjpfaaGreat
end
section
set_option linter.unusedVariables false
set_option linter.unusedSimpArgs false
namespace Go.Proofs.YtkljfdkmjdjpfaaGreat
open Go.RowKit Go.WideShapes
set_option maxRecDepth 20000
open HF
attribute [local irreducible] BD WL CC CW LV BF D1 Dy One Bf
theorem N6(n:Nat)(b:Int)(e:Int)(f:Int)(Z:Nat→Prop)(w:World)(m:Bool)(d:DW n b e f=some m):
 BF Tryz.prog 90 #[I b,I e,I f] w (fun v w'=>Ext w w'∧BN.R w' (ZZ FN [] Z w.heap.size []) v m):=by
 unfold DW at d;refine A3 (N:=15) Tryz.func90 rfl rfl (by simp) ?_;intro o h p;have g:=AH (i:=0) (v:=I b) h rfl;have k:=AH (i:=1) (v:=I e) h rfl;have l:=AH (i:=2) (v:=I f) h rfl;clear h;have j:Hp FN [] w [] w:=Hp.start (BH.none w);refine Ad<|Ab<|wa rfl (v:=.bool false) rfl<|Af<|Aa<|Ad<|Ab<|wm rfl (v:=I e) k<|wm rfl (v:=I b) g<|wd rfl (fun st=>E7 (ee st rfl) (ee st rfl))<|wm rfl (v:=.bool (decide (e≤b))) rfl ?_;rcases Ao (decide (e≤b)) with a|a
 ·replace d:=AD d a;refine As rfl rfl (Ac rfl a) rfl (by decide) (fun st=>AZ (v:=I b) (ee st g))<|As rfl rfl (Ac rfl a) rfl (by decide) (fun st=>AZ (v:=I f) (ee st l))<|As rfl rfl (Ac rfl a) rfl (by decide) (fun st=>E7 (ee st rfl) (ee st rfl))<|wd rfl (fun st=>AV (v:=.bool (decide (b≤f))) (ee st rfl) a (ee st rfl))<|wa rfl (v:=.bool (decide (b≤f))) rfl<|Af<|Aa<|AB ?_;obtain rfl:=Option.some.inj d;refine AO rfl rfl ?_;exact⟨j.Bo,rfl⟩
 ·replace d:=AE d a;refine Ai (c:=false) rfl rfl (Ac rfl a) (by decide) rfl (by decide)<|Ai (c:=false) rfl rfl (Ac rfl a) (by decide) rfl (by decide)<|Ai (c:=false) rfl rfl (Ac rfl a) (by decide) rfl (by decide)<|wd rfl (fun st=>Bm (v:=.bool false) (ee st rfl) a (ee st rfl))<|wa rfl (v:=.bool false) rfl<|Af<|Aa<|AB ?_;obtain rfl:=Option.some.inj d;refine AO rfl rfl ?_;exact⟨j.Bo,rfl⟩
theorem T0(m:Nat)(a:CI)(Z:Nat→Prop)(w:World)(f:Int)(b:EH m a=some f):
 BF Tryz.prog 94 #[.agg #[I a.Lo,I a.Hi]] w (fun v w'=>Ext w w'∧(Fi .i64).R w' (ZZ FN [] Z w.heap.size []) v f):=by
 unfold EH at b;refine A3 (N:=9) Tryz.func94 rfl rfl (by simp) ?_;intro n g o;have e:=AH (i:=0) (v:=.agg #[I a.Lo,I a.Hi]) g rfl;clear g;have d:Hp FN [] w [] w:=Hp.start (BH.none w);refine Ad<|Ab<|we rfl (fun st=>BU (v:=.agg #[I a.Lo,I a.Hi]) (cs:= #[I a.Lo,I a.Hi]) (ee st e) rfl) ?_;rintro _ w1 ⟨p,rfl,c⟩;have h:=d.nb c;have l:=d.BK c;refine wa rfl (v:=I 0) rfl<|Af<|Aa<|Ad<|Ab<|wd rfl (fun st=>Am (ee st rfl) (Ji _ _))<|wd rfl (fun st=>Ar (v:=I a.Hi) AY (ee st rfl) c.bk rfl)<|wd rfl (fun st=>Am (ee st rfl) (Jj _ _))<|wd rfl (fun st=>Ar (v:=I a.Lo) AY (ee st rfl) c.bk rfl) ?_;replace b:=AU b;obtain⟨j,b⟩:=b;refine wd rfl (fun st=>Mb (ee st rfl) (ee st rfl) j) ?_;replace b:=AU b;obtain⟨k,b⟩:=b;refine wd rfl (fun st=>BA (ee st rfl) (ee st rfl) k)<|wa rfl (v:=I ((a.Hi-a.Lo)+1)) rfl<|Af<|Aa<|AB ?_;obtain rfl:=Option.some.inj b;refine AO rfl rfl ?_;exact⟨h.Bo,rfl⟩
theorem Ug(p:Nat)(a:CI)(g:Int)(Z:Nat→Prop)(w:World)(n:Bool)(e:GD p a g=some n):
 BF Tryz.prog 140 #[.agg #[I a.Lo,I a.Hi],I g] w (fun v w'=>Ext w w'∧BN.R w' (ZZ FN [] Z w.heap.size []) v n):=by
 unfold GD at e;refine A3 (N:=21) Tryz.func140 rfl rfl (by simp) ?_;intro q k r;have l:=AH (i:=0) (v:=.agg #[I a.Lo,I a.Hi]) k rfl;have m:=AH (i:=1) (v:=I g) k rfl;clear k;have j:Hp FN [] w [] w:=Hp.start (BH.none w);refine Ad<|Ab<|we rfl (fun st=>BU (v:=.agg #[I a.Lo,I a.Hi]) (cs:= #[I a.Lo,I a.Hi]) (ee st l) rfl) ?_;rintro _ w1 ⟨s,rfl,f⟩;have h:=j.nb f;have o:=j.BK f;refine wa rfl (v:=.bool false) rfl<|Af<|Aa<|Ad<|Ab<|wd rfl (fun st=>Am (ee st rfl) (Jj _ _))<|wd rfl (fun st=>Ar (v:=I a.Lo) AY (ee st rfl) f.bk rfl)<|wd rfl (fun st=>E7 (ee st rfl) (ee st rfl))<|wm rfl (v:=.bool (decide ((0:Int)≤a.Lo))) rfl ?_;rcases Ao (decide ((0:Int)≤a.Lo)) with b|b
 ·replace e:=AD e b;refine As rfl rfl (Ac rfl b) rfl (by decide) (fun st=>Am (ee st rfl) (Jj _ _))<|As rfl rfl (Ac rfl b) rfl (by decide) (fun st=>Ar (v:=I a.Lo) AY (ee st rfl) f.bk rfl)<|As rfl rfl (Ac rfl b) rfl (by decide) (fun st=>Am (ee st rfl) (Ji _ _))<|As rfl rfl (Ac rfl b) rfl (by decide) (fun st=>Ar (v:=I a.Hi) AY (ee st rfl) f.bk rfl)<|As rfl rfl (Ac rfl b) rfl (by decide) (fun st=>E7 (ee st rfl) (ee st rfl))<|wd rfl (fun st=>AV (v:=.bool (decide (a.Lo≤a.Hi))) (ee st rfl) b (ee st rfl))<|wm rfl (v:=.bool (decide (a.Lo≤a.Hi))) rfl ?_;rcases Ao (decide (a.Lo≤a.Hi)) with d|d
  ·replace e:=AD e d;refine As rfl rfl (Ac rfl d) rfl (by decide) (fun st=>Am (ee st rfl) (Ji _ _))<|As rfl rfl (Ac rfl d) rfl (by decide) (fun st=>Ar (v:=I a.Hi) AY (ee st rfl) f.bk rfl)<|As rfl rfl (Ac rfl d) rfl (by decide) (fun st=>AZ (v:=I g) (ee st m))<|As rfl rfl (Ac rfl d) rfl (by decide) (fun st=>E7 (ee st rfl) (ee st rfl))<|wd rfl (fun st=>AV (v:=.bool (decide (a.Hi≤g))) (ee st rfl) d (ee st rfl))<|wa rfl (v:=.bool (decide (a.Hi≤g))) rfl<|Af<|Aa<|AB ?_;obtain rfl:=Option.some.inj e;refine AO rfl rfl ?_;exact⟨h.Bo,rfl⟩
  ·replace e:=AE e d;refine Ai (c:=false) rfl rfl (Ac rfl d) (by decide) rfl (by decide)<|Ai (c:=false) rfl rfl (Ac rfl d) (by decide) rfl (by decide)<|Ai (c:=false) rfl rfl (Ac rfl d) (by decide) rfl (by decide)<|Ai (c:=false) rfl rfl (Ac rfl d) (by decide) rfl (by decide)<|wd rfl (fun st=>Bm (v:=.bool false) (ee st rfl) d (ee st rfl))<|wa rfl (v:=.bool false) rfl<|Af<|Aa<|AB ?_;obtain rfl:=Option.some.inj e;refine AO rfl rfl ?_;exact⟨h.Bo,rfl⟩
 ·replace e:=AE e b;refine Ai (c:=false) rfl rfl (Ac rfl b) (by decide) rfl (by decide)<|Ai (c:=false) rfl rfl (Ac rfl b) (by decide) rfl (by decide)<|Ai (c:=false) rfl rfl (Ac rfl b) (by decide) rfl (by decide)<|Ai (c:=false) rfl rfl (Ac rfl b) (by decide) rfl (by decide)<|Ai (c:=false) rfl rfl (Ac rfl b) (by decide) rfl (by decide)<|wd rfl (fun st=>Bm (v:=.bool false) (ee st rfl) b (ee st rfl))<|wm rfl (v:=.bool false) rfl<|Ai rfl rfl rfl (by decide) rfl (by decide)<|Ai rfl rfl rfl (by decide) rfl (by decide)<|Ai rfl rfl rfl (by decide) rfl (by decide)<|Ai rfl rfl rfl (by decide) rfl (by decide)<|wd rfl (fun st=>Bm (v:=.bool false) (ee st rfl) rfl (ee st rfl))<|wa rfl (v:=.bool false) rfl<|Af<|Aa<|AB ?_;obtain rfl:=Option.some.inj e;refine AO rfl rfl ?_;exact⟨h.Bo,rfl⟩
theorem a141(d:Nat)(b:Int)(Z:Nat→Prop)(w:World)(e:Bool)(a:Gs d b=some e):
 BF Tryz.prog 141 #[I b] w (fun v w'=>Ext w w'∧BN.R w' (ZZ FN [] Z w.heap.size []) v e):=by
 unfold Gs at a;refine A3 (N:=5) Tryz.func141 rfl rfl (by simp) ?_;intro l f m;have c:=AH (i:=0) (v:=I b) f rfl;clear f;have g:Hp FN [] w [] w:=Hp.start (BH.none w);refine Ad<|Ab<|wa rfl (v:=.bool false) rfl<|Af<|Aa<|Ad<|Ab<|wm rfl (v:=I b) c ?_;replace a:=bind_some a;obtain⟨r1,h,a⟩:=a;refine we rfl (fun st=>AL IK (ee st rfl) (E8 (ee st rfl) (ee st rfl) (ee st rfl)) (N6 d b 1 5 ZA _ r1 h)) ?_;rintro _ w2 ⟨j,rfl⟩;have k:=g.ext j;refine wa rfl (v:=.bool r1) rfl<|Af<|Aa<|AB ?_;obtain rfl:=Option.some.inj a;refine AO rfl rfl ?_;exact⟨k.Bo,rfl⟩
theorem a46(n:Nat)(b:Int)(e:Int)(f:Int)(Z:Nat→Prop)(w:World)(m:Bool)(d:DF n b e f=some m):
 BF Tryz.prog 46 #[I b,I e,I f] w (fun v w'=>Ext w w'∧BN.R w' (ZZ FN [] Z w.heap.size []) v m):=by
 unfold DF at d;refine A3 (N:=15) Tryz.func46 rfl rfl (by simp) ?_;intro o h p;have g:=AH (i:=0) (v:=I b) h rfl;have k:=AH (i:=1) (v:=I e) h rfl;have l:=AH (i:=2) (v:=I f) h rfl;clear h;have j:Hp FN [] w [] w:=Hp.start (BH.none w);refine Ad<|Ab<|wa rfl (v:=.bool false) rfl<|Af<|Aa<|Ad<|Ab<|wm rfl (v:=I b) g<|wm rfl (v:=I e) k<|wd rfl (fun st=>KV (ee st rfl) (ee st rfl))<|wm rfl (v:=.bool (decide (e≤b))) rfl ?_;rcases Ao (decide (e≤b)) with a|a
 ·replace d:=AD d a;refine As rfl rfl (Ac rfl a) rfl (by decide) (fun st=>AZ (v:=I b) (ee st g))<|As rfl rfl (Ac rfl a) rfl (by decide) (fun st=>AZ (v:=I f) (ee st l))<|As rfl rfl (Ac rfl a) rfl (by decide) (fun st=>E7 (ee st rfl) (ee st rfl))<|wd rfl (fun st=>AV (v:=.bool (decide (b≤f))) (ee st rfl) a (ee st rfl))<|wa rfl (v:=.bool (decide (b≤f))) rfl<|Af<|Aa<|AB ?_;obtain rfl:=Option.some.inj d;refine AO rfl rfl ?_;exact⟨j.Bo,rfl⟩
 ·replace d:=AE d a;refine Ai (c:=false) rfl rfl (Ac rfl a) (by decide) rfl (by decide)<|Ai (c:=false) rfl rfl (Ac rfl a) (by decide) rfl (by decide)<|Ai (c:=false) rfl rfl (Ac rfl a) (by decide) rfl (by decide)<|wd rfl (fun st=>Bm (v:=.bool false) (ee st rfl) a (ee st rfl))<|wa rfl (v:=.bool false) rfl<|Af<|Aa<|AB ?_;obtain rfl:=Option.some.inj d;refine AO rfl rfl ?_;exact⟨j.Bo,rfl⟩
theorem Uh(m:Nat)(a:CI)(Z:Nat→Prop)(w:World)(f:Int)(b:E2 m a=some f):
 BF Tryz.prog 136 #[.agg #[I a.Lo,I a.Hi]] w (fun v w'=>Ext w w'∧(Fi .i64).R w' (ZZ FN [] Z w.heap.size []) v f):=by
 unfold E2 at b;refine A3 (N:=9) Tryz.func136 rfl rfl (by simp) ?_;intro n g o;have e:=AH (i:=0) (v:=.agg #[I a.Lo,I a.Hi]) g rfl;clear g;have d:Hp FN [] w [] w:=Hp.start (BH.none w);refine Ad<|Ab<|we rfl (fun st=>BU (v:=.agg #[I a.Lo,I a.Hi]) (cs:= #[I a.Lo,I a.Hi]) (ee st e) rfl) ?_;rintro _ w1 ⟨p,rfl,c⟩;have h:=d.nb c;have l:=d.BK c;refine wa rfl (v:=I 0) rfl<|Af<|Aa<|Ad<|Ab<|wd rfl (fun st=>Am (ee st rfl) (Jk _ _))<|wd rfl (fun st=>Ar (v:=I a.Hi) AY (ee st rfl) c.bk rfl)<|wd rfl (fun st=>Am (ee st rfl) (Jl _ _))<|wd rfl (fun st=>Ar (v:=I a.Lo) AY (ee st rfl) c.bk rfl) ?_;replace b:=AU b;obtain⟨j,b⟩:=b;refine wd rfl (fun st=>Mb (ee st rfl) (ee st rfl) j) ?_;replace b:=AU b;obtain⟨k,b⟩:=b;refine wd rfl (fun st=>BA (ee st rfl) (ee st rfl) k)<|wa rfl (v:=I ((a.Hi-a.Lo)+1)) rfl<|Af<|Aa<|AB ?_;obtain rfl:=Option.some.inj b;refine AO rfl rfl ?_;exact⟨h.Bo,rfl⟩
theorem Tc(n:Nat)(b:Int)(c:Int)(Z:Nat→Prop)(w:World)(h:Bool)(a:D2 n b c=some h):
 BF Tryz.prog 54 #[I b,I c] w (fun v w'=>Ext w w'∧BN.R w' (ZZ FN [] Z w.heap.size []) v h):=by
 unfold D2 at a;refine A3 (N:=11) Tryz.func54 rfl rfl (by simp) ?_;intro o e p;have f:=AH (i:=0) (v:=I b) e rfl;have g:=AH (i:=1) (v:=I c) e rfl;clear e;have j:Hp FN [] w [] w:=Hp.start (BH.none w);refine Ad<|Ab<|wa rfl (v:=.bool false) rfl<|Af<|Aa<|Ad<|Ab<|wm rfl (v:=I b) f<|wm rfl (v:=I c) g ?_;replace a:=KD a;obtain⟨l,a⟩:=a;refine wd rfl (fun st=>Mj (k:=.u64) SR Tryz.underlying32 (ee st rfl) l) ?_;replace a:=LS a;obtain⟨m,a⟩:=a;refine wd rfl (fun st=>QO (ee st rfl) (ee st rfl) m) ?_;replace a:=H6 a;obtain⟨d,a⟩:=a;refine wd rfl (fun st=>KU (ee st rfl) (ee st rfl) d.1 d.2)<|wd rfl (fun st=>CO (ee st rfl) (ee st rfl))<|wa rfl (v:=.bool (((EV b c)%2)==1)) rfl<|Af<|Aa<|AB ?_;obtain rfl:=Option.some.inj a;refine AO rfl rfl ?_;exact⟨j.Bo,rfl⟩
theorem T1(s:Nat)(a:Int)(b:Int)(c:Bool)(Z:Nat→Prop)(w:World)(m:Aq)(o:Er s a b c=some m):
 BF Tryz.prog 61 #[I a,I b,.bool c] w (fun v w'=>Ext w w'∧(DK Ck).R w' (ZZ FN [] Z w.heap.size []) v m):=by
 unfold Er at o;refine A3 (N:=11) Tryz.func61 rfl rfl (by simp) ?_;intro t e u;have h:=AH (i:=0) (v:=I a) e rfl;have j:=AH (i:=1) (v:=I b) e rfl;have k:=AH (i:=2) (v:=.bool c) e rfl;clear e;have f:Hp FN [] w [] w:=Hp.start (BH.none w);refine Ad<|Ab<|we rfl (fun st=>BQ (cs:= #[I 0,I 0,.bool false]) GZ rfl) ?_;rintro _ w1 ⟨x,rfl,d⟩;have p:=f.nb d;have r:=f.BK d;refine Af<|Aa<|Ad<|Ab<|wm rfl (v:=I a) h<|wm rfl (v:=I b) j<|wm rfl (v:=.bool c) k<|wd rfl (fun st=>CU (vs:= #[(0,I a),(1,I b),(2,.bool c)]) (v:=.agg #[I a,I b,.bool c]) (Jv (ee st rfl) (ee st rfl) (ee st rfl)) (by kernel_rfl))<|Bh rfl rfl (fun st=>Bc (n:=3) (l:=[I a,I b,.bool c]) (Cd:= #[I a,I b,.bool c]) (ee st rfl) (ee st rfl) Eg d.bk rfl rfl (show 0+3≤3 by decide) (AP rfl) rfl) ?_;rintro _ w2 g;have q:=p.gr g.gr 0 rfl;refine Af<|Aa<|AB ?_;obtain rfl:=Option.some.inj o;refine Gt (v:=.agg #[I a,I b,.bool c]) rfl rfl (CZ DN g.bk rfl rfl) ?_;exact⟨q.Bo,⟨_,rfl,rfl⟩⟩
theorem UC(n:Nat)(a:Ap)(e:Int)(b:Option Addr)(c:Nat)(Z:Nat→Prop)(w:World)(g:Sl AJ w Z b c a.Ae)(o:Bool)(d:Fe n a e=some o):
 BF Tryz.prog 96 #[.agg #[I a.Ak,I a.Ag,I a.An,I a.Av,.slice b a.Ae.length c],I e] w (fun v w'=>Ext w w'∧BN.R w' (ZZ FN [] Z w.heap.size []) v o):=by
 unfold Fe at d;refine A3 (N:=11) Tryz.func96 rfl rfl (by simp) ?_;intro y j z;have k:=AH (i:=0) (v:=.agg #[I a.Ak,I a.Ag,I a.An,I a.Av,.slice b a.Ae.length c]) j rfl;have l:=AH (i:=1) (v:=I e) j rfl;clear j;have h:Hp FN [] w [] w:=Hp.start (BH.none w);have m:=g.mv (Bi (Z:=Z) (L:=[]) w);refine Ad<|Ab<|we rfl (fun st=>BU (v:=.agg #[I a.Ak,I a.Ag,I a.An,I a.Av,.slice b a.Ae.length c]) (cs:= #[I a.Ak,I a.Ag,I a.An,I a.Av,.slice b a.Ae.length c]) (ee st k) rfl) ?_;rintro _ w1 ⟨aA,rfl,f⟩;have p:=h.nb f;have x:=h.BK f;refine wa rfl (v:=.bool false) rfl<|Af<|Aa<|Ad<|Ab<|wm rfl (v:=I e) l<|wd rfl (fun st=>Am (ee st rfl) (CR _ _))<|wd rfl (fun st=>Ar (v:=.slice b a.Ae.length c) Da (ee st rfl) f.bk rfl)<|wd rfl (fun st=>BS Tryz.underlying73 (ee st rfl)) ?_;replace d:=AU d;obtain⟨q,d⟩:=d;refine wd rfl (fun st=>Mb (ee st rfl) (ee st rfl) q) ?_;replace d:=bind_some d;obtain⟨r,s,d⟩:=d;refine we rfl (fun st=>AL IK (ee st rfl) (E8 (ee st rfl) (ee st rfl) (ee st rfl)) (N6 n e 0 ((a.Ae.length:Int)-1) ZA _ r s)) ?_;rintro _ aB ⟨t,rfl⟩;have u:=p.ext t;refine wa rfl (v:=.bool r) rfl<|Af<|Aa<|AB ?_;obtain rfl:=Option.some.inj d;refine AO rfl rfl ?_;exact⟨u.Bo,rfl⟩
theorem Td(s:Nat)(a:AX)(d:Aq)(Z:Nat→Prop)(w:World)(p:Bool)(f:C1 s a d=some p):
 BF Tryz.prog 97 #[.agg #[I a.Au,I a.AG,I a.AN,I a.B0,I a.B6],.agg #[I d.On,I d.Bg,.bool d.AN]] w (fun v w'=>Ext w w'∧BN.R w' (ZZ FN [] Z w.heap.size []) v p):=by
 unfold C1 at f;refine A3 (N:=14) Tryz.func97 rfl rfl (by simp) ?_;intro t m u;have n:=AH (i:=0) (v:=.agg #[I a.Au,I a.AG,I a.AN,I a.B0,I a.B6]) m rfl;have o:=AH (i:=1) (v:=.agg #[I d.On,I d.Bg,.bool d.AN]) m rfl;clear m;have j:Hp FN [] w [] w:=Hp.start (BH.none w);refine Ad<|Ab<|we rfl (fun st=>BU (v:=.agg #[I a.Au,I a.AG,I a.AN,I a.B0,I a.B6]) (cs:= #[I a.Au,I a.AG,I a.AN,I a.B0,I a.B6]) (ee st n) rfl) ?_;rintro _ w1 ⟨x,rfl,g⟩;have k:=j.nb g;have q:=j.BK g;refine we rfl (fun st=>BU (v:=.agg #[I d.On,I d.Bg,.bool d.AN]) (cs:= #[I d.On,I d.Bg,.bool d.AN]) (ee st o) rfl) ?_;rintro _ w2 ⟨y,rfl,e⟩;have l:=k.nb e;have r:=k.BK e;refine wa rfl (v:=.bool false) rfl<|Af<|Aa<|Ad<|Ab<|wd rfl (fun st=>Am (ee st rfl) (Qv _ _))<|wd rfl (fun st=>Ar (v:=.bool d.AN) Ke (ee st rfl) e.bk rfl)<|wm rfl (v:=.bool d.AN) rfl ?_;rcases Ao (d.AN) with b|b
 ·replace f:=AD f b;refine As rfl rfl (Ac rfl b) rfl (by decide) (fun st=>Am (ee st rfl) (KL _ _))<|As rfl rfl (Ac rfl b) rfl (by decide) (fun st=>Ar (v:=I d.Bg) AY (ee st rfl) e.bk rfl)<|As rfl rfl (Ac rfl b) rfl (by decide) (fun st=>Am (ee st rfl) (MZ _ _)) ?_;have h:=(g.bk.ext e.gr);refine As rfl rfl (Ac rfl b) rfl (by decide) (fun st=>Ar (v:=I a.B6) AY (ee st rfl) h rfl)<|As rfl rfl (Ac rfl b) rfl (by decide) (fun st=>E7 (ee st rfl) (ee st rfl))<|wd rfl (fun st=>AV (v:=.bool (decide (d.Bg≤a.B6))) (ee st rfl) b (ee st rfl))<|wa rfl (v:=.bool (decide (d.Bg≤a.B6))) rfl<|Af<|Aa<|AB ?_;obtain rfl:=Option.some.inj f;refine AO rfl rfl ?_;exact⟨l.Bo,rfl⟩
 ·replace f:=AE f b;refine Ai (c:=false) rfl rfl (Ac rfl b) (by decide) rfl (by decide)<|Ai (c:=false) rfl rfl (Ac rfl b) (by decide) rfl (by decide)<|Ai (c:=false) rfl rfl (Ac rfl b) (by decide) rfl (by decide)<|Ai (c:=false) rfl rfl (Ac rfl b) (by decide) rfl (by decide)<|Ai (c:=false) rfl rfl (Ac rfl b) (by decide) rfl (by decide)<|wd rfl (fun st=>Bm (v:=.bool false) (ee st rfl) b (ee st rfl))<|wa rfl (v:=.bool false) rfl<|Af<|Aa<|AB ?_;obtain rfl:=Option.some.inj f;refine AO rfl rfl ?_;exact⟨l.Bo,rfl⟩
theorem a107(n:Nat)(a:AX)(b:Aq)(Z:Nat→Prop)(w:World)(o:Bool)(d:DT n a b=some o):
 BF Tryz.prog 107 #[.agg #[I a.Au,I a.AG,I a.AN,I a.B0,I a.B6],.agg #[I b.On,I b.Bg,.bool b.AN]] w (fun v w'=>Ext w w'∧BN.R w' (ZZ FN [] Z w.heap.size []) v o):=by
 unfold DT at d;refine A3 (N:=9) Tryz.func107 rfl rfl (by simp) ?_;intro y j z;have k:=AH (i:=0) (v:=.agg #[I a.Au,I a.AG,I a.AN,I a.B0,I a.B6]) j rfl;have m:=AH (i:=1) (v:=.agg #[I b.On,I b.Bg,.bool b.AN]) j rfl;clear j;have g:Hp FN [] w [] w:=Hp.start (BH.none w);refine Ad<|Ab<|we rfl (fun st=>BU (v:=.agg #[I a.Au,I a.AG,I a.AN,I a.B0,I a.B6]) (cs:= #[I a.Au,I a.AG,I a.AN,I a.B0,I a.B6]) (ee st k) rfl) ?_;rintro _ w1 ⟨aA,rfl,e⟩;have h:=g.nb e;have u:=g.BK e;refine we rfl (fun st=>BU (v:=.agg #[I b.On,I b.Bg,.bool b.AN]) (cs:= #[I b.On,I b.Bg,.bool b.AN]) (ee st m) rfl) ?_;rintro _ w2 ⟨aB,rfl,c⟩;have p:=h.nb c;have x:=h.BK c;refine wa rfl (v:=.bool false) rfl<|Af<|Aa<|Ad<|Ab ?_;have f:=(e.bk.ext c.gr);refine wd rfl (fun st=>Bd (l:=[I a.Au,I a.AG,I a.AN,I a.B0,I a.B6]) G4 (ee st rfl) f rfl rfl)<|wd rfl (fun st=>Bd (l:=[I b.On,I b.Bg,.bool b.AN]) DN (ee st rfl) c.bk rfl rfl) ?_;replace d:=bind_some d;obtain⟨q,r,d⟩:=d;refine we rfl (fun st=>AL M0 (ee st rfl) (Ew (ee st rfl) (ee st rfl)) (Td n a b ZA _ q r)) ?_;rintro _ aC ⟨s,rfl⟩;have t:=p.ext s;refine wd rfl (fun st=>DC (ee st rfl))<|wa rfl (v:=.bool !q) rfl<|Af<|Aa<|AB ?_;obtain rfl:=Option.some.inj d;refine AO rfl rfl ?_;exact⟨t.Bo,rfl⟩
end Go.Proofs.YtkljfdkmjdjpfaaGreat
end
section
set_option linter.unusedVariables false
set_option linter.unusedSimpArgs false
namespace Go.Proofs.YtkljfdkmjdjpfaaGreat
open Go.RowKit Go.WideShapes
set_option maxRecDepth 20000
open HF
attribute [local irreducible] BD WL CC CW LV BF D1 Dy One Bf
theorem UD(aW:Nat)(b:Ap)(z:Int)(h:Option Addr)(j:Nat)(Z:Nat→Prop)(w:World)(cA:Sl AJ w Z h j b.Ae)(c8:Bool)(a:D0 aW b z=some c8):
 BF Tryz.prog 95 #[.agg #[I b.Ak,I b.Ag,I b.An,I b.Av,.slice h b.Ae.length j],I z] w (fun v w'=>Ext w w'∧BN.R w' (ZZ FN [] Z w.heap.size []) v c8):=by
 unfold D0 at a;refine A3 (N:=46) Tryz.func95 rfl rfl (by simp) ?_;intro dV cL dW;have cM:=AH (i:=0) (v:=.agg #[I b.Ak,I b.Ag,I b.An,I b.Av,.slice h b.Ae.length j]) cL rfl;have cN:=AH (i:=1) (v:=I z) cL rfl;clear cL;have cI:Hp FN [] w [] w:=Hp.start (BH.none w);have bM:=cA.mv (Bi (Z:=Z) (L:=[]) w);refine Ad<|Ab<|we rfl (fun st=>BU (v:=.agg #[I b.Ak,I b.Ag,I b.An,I b.Av,.slice h b.Ae.length j]) (cs:= #[I b.Ak,I b.Ag,I b.An,I b.Av,.slice h b.Ae.length j]) (ee st cM) rfl) ?_;rintro _ w1 ⟨m,rfl,bF⟩;have c9:=cI.nb bF;have dO:=cI.BK bF;refine wa rfl (v:=.bool false) rfl<|Af<|Aa<|Ad<|Ab<|wa rfl (v:=I 0) rfl<|Af<|Aa<|Ad<|Ad<|Ab<|wa rfl (v:=I 0) rfl<|Af<|Aa<|A8 ?_;replace a:=bind_some a;obtain⟨z2,aX,a⟩:=a;refine Cn (fun aZ d o=>(aZ=.ret∧∃aI,z2=.inl aI∧d.tmps.size=46∧d.defers=(X0).ds∧sl d 4=.bool aI∧Hp FN [] w [some m] o)∨(aZ=.exit 0∧∃aI,z2=.inr aI∧d.tmps.size=46∧d.defers=(X0).ds∧sl d 2=pt m 0∧sl d 5=I aI∧Hp FN [] w [some m] o∧Bk o m 63 #[I b.Ak,I b.Ag,I b.An,I b.Av,.slice h b.Ae.length j]∧Sl AJ o (ZZ FN [] Z w.heap.size [some m]) h j b.Ae)) ?dA ?dB
 case dA=>
  clear a;refine Cm (fun(aG:Nat) (d:Act) (o:World)=>∃n,∃e,Ct aW b z aG n e=some z2∧d.tmps.size=46∧d.defers=(X0).ds∧sl d 1=I z∧sl d 2=pt m 0∧sl d 5=I n∧sl d 6=I e∧Hp FN [] w [some m] o∧Bk o m 63 #[I b.Ak,I b.Ag,I b.An,I b.Av,.slice h b.Ae.length j]∧Sl AJ o (ZZ FN [] Z w.heap.size [some m]) h j b.Ae) aW ?dC ?dD
  case dC=>
   intro st;have bN:=(bM.mv (Aw bF));exact⟨(0:Int),(0:Int),aX,qz st,qd st,sp st 1 cN,sp st 2 rfl,sp st 5 rfl,sp st 6 rfl,c9,bF.bk,bN⟩
  case dD=>
   rintro(_|aG) dX dY ⟨n,e,aX,cO,cP,a0,aQ,a2,aC,cJ,aJ,aH⟩
   ·exact absurd (show none=some _ from aX) (by simp)
   rw[Ct.eq_2] at aX;have a:=aX;clear aX;refine B1 (N:=46) cO cP<|Ad<|Ad<|Ab<|wm rfl (v:=I e) aC<|wd rfl (fun st=>Am (ee st aQ) (Gf _ _))<|wd rfl (fun st=>Ar (v:=I b.Ak) AY (ee st rfl) aJ rfl)<|wd rfl (fun st=>E7 (ee st rfl) (ee st rfl))<|Af<|Aa ?_;rcases Ao (decide (e≤b.Ak)) with a6|a6
   ·replace a:=AD a a6;refine Az rfl a6<|AT<|Aa<|Ad<|A8<|Ad<|Ad<|Ab<|wm rfl (v:=I z) a0<|wm rfl (v:=I e) aC ?_;replace a:=bind_some a;obtain⟨dE,dF,a⟩:=a;refine we rfl (fun st=>AL M3 (ee st rfl) (Ew (ee st rfl) (ee st rfl)) (Tc aW z e ZA _ dE dF)) ?_;rintro _ d5 ⟨a7,rfl⟩;have cK:=cJ.ext a7;refine Af<|Aa ?_;rcases Ao (dE) with a8|a8
    ·replace a:=AD a a8;refine Az rfl a8<|Ab<|wm rfl (v:=I n) a2 ?_;replace a:=AU a;obtain⟨dG,a⟩:=a;refine wd rfl (fun st=>BA (ee st rfl) (ee st rfl) dG)<|wa rfl (v:=I (n+1)) rfl<|Af<|Aa<|Ad<|Ab<|wa rfl (v:=.bool true) rfl<|Af<|Aa<|Ad<|Ad<|Ab<|wm rfl (v:=I e) aC<|wa rfl (v:=I e) rfl<|Af<|Aa<|A8 ?_;replace a:=bind_some a;obtain⟨cB,aY,a⟩:=a;refine Cn (fun aZ d o=>(aZ=.exit 2∧d.tmps.size=46∧d.defers=(X0).ds∧sl d 1=I z∧sl d 2=pt m 0∧sl d 5=I (n+1)∧sl d 6=I e∧sl d 7=.bool cB∧Hp FN [] w [some m] o∧Bk o m 63 #[I b.Ak,I b.Ag,I b.An,I b.Av,.slice h b.Ae.length j]∧Sl AJ o (ZZ FN [] Z w.heap.size [some m]) h j b.Ae)) ?dH ?dI
     case dH=>
      clear a;refine Cm (fun(aG:Nat) (d:Act) (o:World)=>∃aN,∃g,Cf aW b z e aG aN g=some cB∧d.tmps.size=46∧d.defers=(X0).ds∧sl d 1=I z∧sl d 2=pt m 0∧sl d 5=I (n+1)∧sl d 6=I e∧sl d 7=.bool aN∧sl d 8=I g∧Hp FN [] w [some m] o∧Bk o m 63 #[I b.Ak,I b.Ag,I b.An,I b.Av,.slice h b.Ae.length j]∧Sl AJ o (ZZ FN [] Z w.heap.size [some m]) h j b.Ae) aW ?dJ ?dK
      case dJ=>
       intro st;have a3:=(aJ.ext a7);have aO:=(aH.mv (Aj a7));exact⟨true,e,aY,qz st,qd st,sp st 1 a0,sp st 2 aQ,sp st 5 rfl,sp st 6 aC,sp st 7 rfl,sp st 8 rfl,cK,a3,aO⟩
      case dK=>
       rintro(_|aG) dZ d0 ⟨aN,g,aY,cQ,cR,aK,aD,aR,aL,bG,aE,bH,t,y⟩
       ·exact absurd (show none=some _ from aY) (by simp)
       rw[Cf.eq_2] at aY;have a:=aY;clear aY;refine B1 (N:=46) cQ cR<|Ad<|Ad<|Ab<|wm rfl (v:=I g) aE<|wm rfl (v:=I e) aL<|wd rfl (fun st=>Am (ee st aD) (Kf _ _))<|wd rfl (fun st=>Ar (v:=I b.Av) AY (ee st rfl) t rfl) ?_;replace a:=AU a;obtain⟨dL,a⟩:=a;refine wd rfl (fun st=>BA (ee st rfl) (ee st rfl) dL)<|wd rfl (fun st=>E7 (ee st rfl) (ee st rfl))<|Af<|Aa ?_;rcases Ao (decide (g≤(e+b.Av))) with aS|aS
       ·replace a:=AD a aS;refine Az rfl aS<|AT<|Aa<|Ad<|A8<|Ab<|wm rfl (v:=.bool aN) bG<|wm rfl (v:=.bool aN) rfl ?_;rcases Ao (aN) with k|k
        ·replace a:=AD a k;refine As rfl rfl (Ac rfl k) rfl (by decide) (fun st=>AZ (v:=I g) (ee st aE))<|As rfl rfl (Ac rfl k) rfl (by decide) (fun st=>Am (ee st aD) (Gf _ _))<|As rfl rfl (Ac rfl k) rfl (by decide) (fun st=>Ar (v:=I b.Ak) AY (ee st rfl) t rfl)<|As rfl rfl (Ac rfl k) rfl (by decide) (fun st=>E7 (ee st rfl) (ee st rfl))<|wd rfl (fun st=>AV (v:=.bool (decide (g≤b.Ak))) (ee st rfl) k (ee st rfl))<|wm rfl (v:=.bool (decide (g≤b.Ak))) rfl ?_;rcases Ao (decide (g≤b.Ak)) with q|q
         ·replace a:=AD a q;refine As rfl rfl (Ac rfl q) rfl (by decide) (fun st=>AZ (v:=I z) (ee st aK))<|As rfl rfl (Ac rfl q) rfl (by decide) (fun st=>AZ (v:=I g) (ee st aE)) ?_;replace a:=bind_some a;obtain⟨bI,cS,a⟩:=a;refine Dj rfl rfl (Ac rfl q) rfl (by decide) (fun st=>AL M3 (ee st rfl) (Ew (ee st rfl) (ee st rfl)) (Tc aW z g ZA _ bI cS)) ?_;rintro _ d1 ⟨bB,rfl⟩;have dM:=bH.ext bB;refine wd rfl (fun st=>AV (v:=.bool bI) (ee st rfl) q (ee st rfl))<|wa rfl (v:=.bool bI) rfl<|Af<|Bl<|Aa<|Ab<|wm rfl (v:=I g) aE ?_;replace a:=AU a;obtain⟨cT,a⟩:=a;refine wd rfl (fun st=>BA (ee st rfl) (ee st rfl) cT)<|wa rfl (v:=I (g+1)) rfl<|Af ?_;have cC:=(t.ext bB);have bO:=(y.mv (Aj bB));refine BB aG (Nat.lt_succ_self _) (fun st=>?_);exact⟨bI,(g+1),a,qz st,qd st,sp st 1 aK,sp st 2 aD,sp st 5 aR,sp st 6 aL,sp st 7 rfl,sp st 8 rfl,dM,cC,bO⟩
         ·replace a:=AE a q;refine Ai (c:=false) rfl rfl (Ac rfl q) (by decide) rfl (by decide)<|Ai (c:=false) rfl rfl (Ac rfl q) (by decide) rfl (by decide)<|Ai (c:=false) rfl rfl (Ac rfl q) (by decide) rfl (by decide)<|wd rfl (fun st=>Bm (v:=.bool false) (ee st rfl) q (ee st rfl))<|wa rfl (v:=.bool false) rfl<|Af<|Bl<|Aa<|Ab<|wm rfl (v:=I g) aE ?_;replace a:=AU a;obtain⟨cU,a⟩:=a;refine wd rfl (fun st=>BA (ee st rfl) (ee st rfl) cU)<|wa rfl (v:=I (g+1)) rfl<|Af ?_;refine BB aG (Nat.lt_succ_self _) (fun st=>?_);exact⟨false,(g+1),a,qz st,qd st,sp st 1 aK,sp st 2 aD,sp st 5 aR,sp st 6 aL,sp st 7 rfl,sp st 8 rfl,bH,t,y⟩
        ·replace a:=AE a k;refine Ai (c:=false) rfl rfl (Ac rfl k) (by decide) rfl (by decide)<|Ai (c:=false) rfl rfl (Ac rfl k) (by decide) rfl (by decide)<|Ai (c:=false) rfl rfl (Ac rfl k) (by decide) rfl (by decide)<|Ai (c:=false) rfl rfl (Ac rfl k) (by decide) rfl (by decide)<|wd rfl (fun st=>Bm (v:=.bool false) (ee st rfl) k (ee st rfl))<|wm rfl (v:=.bool false) rfl<|Ai rfl rfl rfl (by decide) rfl (by decide)<|Ai rfl rfl rfl (by decide) rfl (by decide)<|Ai rfl rfl rfl (by decide) rfl (by decide)<|wd rfl (fun st=>Bm (v:=.bool false) (ee st rfl) rfl (ee st rfl))<|wa rfl (v:=.bool false) rfl<|Af<|Bl<|Aa<|Ab<|wm rfl (v:=I g) aE ?_;replace a:=AU a;obtain⟨cV,a⟩:=a;refine wd rfl (fun st=>BA (ee st rfl) (ee st rfl) cV)<|wa rfl (v:=I (g+1)) rfl<|Af ?_;refine BB aG (Nat.lt_succ_self _) (fun st=>?_);exact⟨false,(g+1),a,qz st,qd st,sp st 1 aK,sp st 2 aD,sp st 5 aR,sp st 6 aL,sp st 7 rfl,sp st 8 rfl,bH,t,y⟩
       ·replace a:=AE a aS;refine AI rfl aS<|Ci<|AQ<|AQ ?_;obtain rfl:=Option.some.inj a;refine BY (fun st=>?_);exact⟨rfl,qz st,qd st,sp st 1 aK,sp st 2 aD,sp st 5 aR,sp st 6 aL,sp st 7 bG,bH,t,y⟩
     case dI=>
      rintro aZ dQ d2 (⟨rfl,cD,cE,bW,bX,bY,bZ,b1,b2,b3,bC⟩);refine Co (X:=X0) (N:=46) cD cE<|Br<|Aa<|Ad<|Ab<|wm rfl (v:=.bool cB) b1<|Af<|Aa ?_;rcases Ao (cB) with aT|aT
      ·replace a:=AD a aT;refine Az rfl aT<|Ad<|Ab<|wa rfl (v:=.bool false) rfl<|Af<|Aa<|AB<|AW<|Ax<|Ax ?_;obtain rfl:=Option.some.inj a;refine BY (fun st=>?_);exact .inl ⟨rfl,false,rfl,qz st,qd st,sp st 4 rfl,b2⟩
      ·replace a:=AE a aT;refine AI rfl aT<|AT<|Bl<|Aa<|Ab<|wm rfl (v:=I e) bZ ?_;replace a:=AU a;obtain⟨cW,a⟩:=a;refine wd rfl (fun st=>BA (ee st rfl) (ee st rfl) cW)<|wa rfl (v:=I (e+1)) rfl<|Af ?_;refine BB aG (Nat.lt_succ_self _) (fun st=>?_);exact⟨(n+1),(e+1),a,qz st,qd st,sp st 1 bW,sp st 2 bX,sp st 5 bY,sp st 6 rfl,b2,b3,bC⟩
    ·replace a:=AE a a8;refine AI rfl a8<|AT<|Aa<|Ad<|Ab<|wa rfl (v:=.bool true) rfl<|Af<|Aa<|Ad<|Ad<|Ab<|wm rfl (v:=I e) aC<|wa rfl (v:=I e) rfl<|Af<|Aa<|A8 ?_;replace a:=bind_some a;obtain⟨z20,aP,a⟩:=a;refine Cn (fun aZ d o=>(aZ=.exit 2∧d.tmps.size=46∧d.defers=(X0).ds∧sl d 1=I z∧sl d 2=pt m 0∧sl d 5=I n∧sl d 6=I e∧sl d 7=.bool z20∧Hp FN [] w [some m] o∧Bk o m 63 #[I b.Ak,I b.Ag,I b.An,I b.Av,.slice h b.Ae.length j]∧Sl AJ o (ZZ FN [] Z w.heap.size [some m]) h j b.Ae)) ?cX ?cY
     case cX=>
      clear a;refine Cm (fun(aG:Nat) (d:Act) (o:World)=>∃aF,∃f,Ca aW b z e aG aF f=some z20∧d.tmps.size=46∧d.defers=(X0).ds∧sl d 1=I z∧sl d 2=pt m 0∧sl d 5=I n∧sl d 6=I e∧sl d 7=.bool aF∧sl d 8=I f∧Hp FN [] w [some m] o∧Bk o m 63 #[I b.Ak,I b.Ag,I b.An,I b.Av,.slice h b.Ae.length j]∧Sl AJ o (ZZ FN [] Z w.heap.size [some m]) h j b.Ae) aW ?cZ ?c0
      case cZ=>
       intro st;have a3:=(aJ.ext a7);have aO:=(aH.mv (Aj a7));exact⟨true,e,aP,qz st,qd st,sp st 1 a0,sp st 2 aQ,sp st 5 a2,sp st 6 aC,sp st 7 rfl,sp st 8 rfl,cK,a3,aO⟩
      case c0=>
       rintro(_|aG) dR dS ⟨aF,f,aP,cF,cG,aA,u,aM,aB,a9,x,bJ,p,s⟩
       ·exact absurd (show none=some _ from aP) (by simp)
       rw[Ca.eq_2] at aP;have a:=aP;clear aP;refine B1 (N:=46) cF cG<|Ad<|Ad<|Ab<|wm rfl (v:=I f) x<|wm rfl (v:=I e) aB<|wd rfl (fun st=>Am (ee st u) (Kf _ _))<|wd rfl (fun st=>Ar (v:=I b.Av) AY (ee st rfl) p rfl) ?_;replace a:=AU a;obtain⟨c1,a⟩:=a;refine wd rfl (fun st=>BA (ee st rfl) (ee st rfl) c1)<|wd rfl (fun st=>E7 (ee st rfl) (ee st rfl))<|Af<|Aa ?_;rcases Ao (decide (f≤(e+b.Av))) with aU|aU
       ·replace a:=AD a aU;refine Az rfl aU<|AT<|Aa<|Ad<|A8<|Ab<|wm rfl (v:=.bool aF) a9<|wm rfl (v:=.bool aF) rfl ?_;rcases Ao (aF) with l|l
        ·replace a:=AD a l;refine As rfl rfl (Ac rfl l) rfl (by decide) (fun st=>AZ (v:=I f) (ee st x))<|As rfl rfl (Ac rfl l) rfl (by decide) (fun st=>Am (ee st u) (Gf _ _))<|As rfl rfl (Ac rfl l) rfl (by decide) (fun st=>Ar (v:=I b.Ak) AY (ee st rfl) p rfl)<|As rfl rfl (Ac rfl l) rfl (by decide) (fun st=>E7 (ee st rfl) (ee st rfl))<|wd rfl (fun st=>AV (v:=.bool (decide (f≤b.Ak))) (ee st rfl) l (ee st rfl))<|wm rfl (v:=.bool (decide (f≤b.Ak))) rfl ?_;rcases Ao (decide (f≤b.Ak)) with r|r
         ·replace a:=AD a r;refine As rfl rfl (Ac rfl r) rfl (by decide) (fun st=>AZ (v:=I z) (ee st aA))<|As rfl rfl (Ac rfl r) rfl (by decide) (fun st=>AZ (v:=I f) (ee st x)) ?_;replace a:=bind_some a;obtain⟨bK,c2,a⟩:=a;refine Dj rfl rfl (Ac rfl r) rfl (by decide) (fun st=>AL M3 (ee st rfl) (Ew (ee st rfl) (ee st rfl)) (Tc aW z f ZA _ bK c2)) ?_;rintro _ d3 ⟨bD,rfl⟩;have dN:=bJ.ext bD;refine wd rfl (fun st=>AV (v:=.bool bK) (ee st rfl) r (ee st rfl))<|wa rfl (v:=.bool bK) rfl<|Af<|Bl<|Aa<|Ab<|wm rfl (v:=I f) x ?_;replace a:=AU a;obtain⟨c3,a⟩:=a;refine wd rfl (fun st=>BA (ee st rfl) (ee st rfl) c3)<|wa rfl (v:=I (f+1)) rfl<|Af ?_;have cH:=(p.ext bD);have bP:=(s.mv (Aj bD));refine BB aG (Nat.lt_succ_self _) (fun st=>?_);exact⟨bK,(f+1),a,qz st,qd st,sp st 1 aA,sp st 2 u,sp st 5 aM,sp st 6 aB,sp st 7 rfl,sp st 8 rfl,dN,cH,bP⟩
         ·replace a:=AE a r;refine Ai (c:=false) rfl rfl (Ac rfl r) (by decide) rfl (by decide)<|Ai (c:=false) rfl rfl (Ac rfl r) (by decide) rfl (by decide)<|Ai (c:=false) rfl rfl (Ac rfl r) (by decide) rfl (by decide)<|wd rfl (fun st=>Bm (v:=.bool false) (ee st rfl) r (ee st rfl))<|wa rfl (v:=.bool false) rfl<|Af<|Bl<|Aa<|Ab<|wm rfl (v:=I f) x ?_;replace a:=AU a;obtain⟨c4,a⟩:=a;refine wd rfl (fun st=>BA (ee st rfl) (ee st rfl) c4)<|wa rfl (v:=I (f+1)) rfl<|Af ?_;refine BB aG (Nat.lt_succ_self _) (fun st=>?_);exact⟨false,(f+1),a,qz st,qd st,sp st 1 aA,sp st 2 u,sp st 5 aM,sp st 6 aB,sp st 7 rfl,sp st 8 rfl,bJ,p,s⟩
        ·replace a:=AE a l;refine Ai (c:=false) rfl rfl (Ac rfl l) (by decide) rfl (by decide)<|Ai (c:=false) rfl rfl (Ac rfl l) (by decide) rfl (by decide)<|Ai (c:=false) rfl rfl (Ac rfl l) (by decide) rfl (by decide)<|Ai (c:=false) rfl rfl (Ac rfl l) (by decide) rfl (by decide)<|wd rfl (fun st=>Bm (v:=.bool false) (ee st rfl) l (ee st rfl))<|wm rfl (v:=.bool false) rfl<|Ai rfl rfl rfl (by decide) rfl (by decide)<|Ai rfl rfl rfl (by decide) rfl (by decide)<|Ai rfl rfl rfl (by decide) rfl (by decide)<|wd rfl (fun st=>Bm (v:=.bool false) (ee st rfl) rfl (ee st rfl))<|wa rfl (v:=.bool false) rfl<|Af<|Bl<|Aa<|Ab<|wm rfl (v:=I f) x ?_;replace a:=AU a;obtain⟨c5,a⟩:=a;refine wd rfl (fun st=>BA (ee st rfl) (ee st rfl) c5)<|wa rfl (v:=I (f+1)) rfl<|Af ?_;refine BB aG (Nat.lt_succ_self _) (fun st=>?_);exact⟨false,(f+1),a,qz st,qd st,sp st 1 aA,sp st 2 u,sp st 5 aM,sp st 6 aB,sp st 7 rfl,sp st 8 rfl,bJ,p,s⟩
       ·replace a:=AE a aU;refine AI rfl aU<|Ci<|AQ<|AQ ?_;obtain rfl:=Option.some.inj a;refine BY (fun st=>?_);exact⟨rfl,qz st,qd st,sp st 1 aA,sp st 2 u,sp st 5 aM,sp st 6 aB,sp st 7 a9,bJ,p,s⟩
     case cY=>
      rintro aZ dP dT (⟨rfl,b4,b5,bQ,bR,bS,bT,bU,bL,bV,bA⟩);refine Co (X:=X0) (N:=46) b4 b5<|Br<|Aa<|Ad<|Ab<|wm rfl (v:=.bool z20) bU<|Af<|Aa ?_;rcases Ao (z20) with aV|aV
      ·replace a:=AD a aV;refine Az rfl aV<|Ad<|Ab<|wa rfl (v:=.bool false) rfl<|Af<|Aa<|AB<|AW<|Ax<|Ax ?_;obtain rfl:=Option.some.inj a;refine BY (fun st=>?_);exact .inl ⟨rfl,false,rfl,qz st,qd st,sp st 4 rfl,bL⟩
      ·replace a:=AE a aV;refine AI rfl aV<|AT<|Bl<|Aa<|Ab<|wm rfl (v:=I e) bT ?_;replace a:=AU a;obtain⟨c6,a⟩:=a;refine wd rfl (fun st=>BA (ee st rfl) (ee st rfl) c6)<|wa rfl (v:=I (e+1)) rfl<|Af ?_;refine BB aG (Nat.lt_succ_self _) (fun st=>?_);exact⟨n,(e+1),a,qz st,qd st,sp st 1 bQ,sp st 2 bR,sp st 5 bS,sp st 6 rfl,bL,bV,bA⟩
   ·replace a:=AE a a6;refine AI rfl a6<|Ci<|AQ<|AQ ?_;obtain rfl:=Option.some.inj a;refine BY (fun st=>?_);exact .inr ⟨rfl,n,rfl,qz st,qd st,sp st 2 aQ,sp st 5 a2,cJ,aJ,aH⟩
 case dB=>
  rintro aZ dU d4 (⟨rfl,aI,rfl,a4,a5,b6,bE⟩|⟨rfl,aI,rfl,a4,a5,b7,b8,bE,b9,c7⟩)
  ·skip
   replace a:=Ex a;refine Co (X:=X0) (N:=46) a4 a5<|AW<|Ax ?_;obtain rfl:=Option.some.inj a;refine AO rfl b6 ?_;exact⟨bE.Bo,rfl⟩
  ·skip
   replace a:=Ey a;refine Co (X:=X0) (N:=46) a4 a5<|Br<|Aa<|Ad<|Ab<|wm rfl (v:=I aI) b8<|wd rfl (fun st=>Am (ee st b7) (LA _ _))<|wd rfl (fun st=>Ar (v:=I b.An) AY (ee st rfl) b9 rfl)<|wd rfl (fun st=>E7 (ee st rfl) (ee st rfl))<|wa rfl (v:=.bool (decide (aI≤b.An))) rfl<|Af<|Aa<|AB ?_;obtain rfl:=Option.some.inj a;refine AO rfl rfl ?_;exact⟨bE.Bo,rfl⟩
theorem Ui(aY:Nat)(c:Ap)(h:Option Addr)(j:Nat)(Z:Nat→Prop)(w:World)(aZ:Sl AJ w Z h j c.Ae)(bH:(List Int))(a:Ec aY c=some bH):
 BF Tryz.prog 100 #[.agg #[I c.Ak,I c.Ag,I c.An,I c.Av,.slice h c.Ae.length j]] w (fun v w'=>Ext w w'∧(FF (Ay .i64)).R w' (ZZ FN [] Z w.heap.size []) v bH):=by
 unfold Ec at a;refine A3 (N:=22) Tryz.func100 rfl rfl (by simp) ?_;intro b4 bI b5;have a9:=AH (i:=0) (v:=.agg #[I c.Ak,I c.Ag,I c.An,I c.Av,.slice h c.Ae.length j]) bI rfl;clear bI;have a7:Hp FN [] w [] w:=Hp.start (BH.none w);have aM:=aZ.mv (Bi (Z:=Z) (L:=[]) w);refine Ad<|Ab<|we rfl (fun st=>BU (v:=.agg #[I c.Ak,I c.Ag,I c.An,I c.Av,.slice h c.Ae.length j]) (cs:= #[I c.Ak,I c.Ag,I c.An,I c.Av,.slice h c.Ae.length j]) (ee st a9) rfl) ?_;rintro _ w1 ⟨o,rfl,aK⟩;have bJ:=a7.nb aK;have b1:=a7.BK aK;refine wa rfl (v:=.slice none 0 0) rfl<|Af<|Aa<|Ad<|Ab<|wa rfl (v:=.slice none 0 0) rfl<|Af<|Aa<|Ad<|Ad<|Ab<|wa rfl (v:=I 0) rfl<|Af<|Aa<|A8 ?_;have bK:Hp FN [] w [none,some o] w1:=bJ.nil;have bL:AF (Ay .i64) 3 w.heap.size w1 (ZZ FN [] Z w.heap.size [none,some o]) none 0 ([]:List Int):=AF.nil _ _ _ _ _;replace a:=bind_some a;obtain⟨z2,aC,a⟩:=a;refine Cn (fun bM s aI=>(bM=.exit 0∧∃f m,s.tmps.size=22∧s.defers=(X0).ds∧sl s 3=.slice f z2.length m∧Hp FN [] w [ob f,some o] aI∧AF (Ay .i64) 3 w.heap.size aI (ZZ FN [] Z w.heap.size [ob f,some o]) f m z2)) ?bN ?bO
 case bN=>
  clear a;refine Cm (fun(a0:Nat) (s:Act) (aI:World)=>∃g,∃b,∃d n,Cz aY c a0 g b=some z2∧s.tmps.size=22∧s.defers=(X0).ds∧sl s 1=pt o 0∧sl s 3=.slice d g.length n∧sl s 4=I b∧Hp FN [] w [ob d,some o] aI∧AF (Ay .i64) 3 w.heap.size aI (ZZ FN [] Z w.heap.size [ob d,some o]) d n g∧Bk aI o 63 #[I c.Ak,I c.Ag,I c.An,I c.Av,.slice h c.Ae.length j]∧Sl AJ aI (ZZ FN [] Z w.heap.size [ob d,some o]) h j c.Ae) aY ?bP ?bQ
  case bP=>
   intro st;have a2:=aK.bk;have aN:Sl AJ w1 (ZZ FN [] Z w.heap.size [none,some o]) h j c.Ae:=((aM.mv (Aw aK)).mv BZ);exact⟨([]:List Int),(0:Int),none,0,aC,qz st,qd st,sp st 1 rfl,sp st 3 rfl,sp st 4 rfl,bK,bL,a2,aN⟩
  case bQ=>
   rintro(_|a0) b6 b7 ⟨g,b,d,n,aC,bA,bB,z,aD,t,a8,p,u,q⟩
   ·exact absurd (show none=some _ from aC) (by simp)
   rw[Cz.eq_2] at aC;have a:=aC;clear aC;refine B1 (N:=22) bA bB<|Ad<|Ad<|Ab<|wm rfl (v:=I b) t<|wd rfl (fun st=>Am (ee st z) (Gf _ _))<|wd rfl (fun st=>Ar (v:=I c.Ak) AY (ee st rfl) u rfl) ?_;replace a:=AU a;obtain⟨bR,a⟩:=a;refine wd rfl (fun st=>BA (ee st rfl) (ee st rfl) bR) ?_;replace a:=KD a;obtain⟨bS,a⟩:=a;refine wd rfl (fun st=>Mj (k:=.u64) SR Tryz.underlying32 (ee st rfl) bS) ?_;replace a:=LR a;obtain⟨bT,a⟩:=a;refine wd rfl (fun st=>QN (ee st rfl) (ee st rfl) bT)<|wd rfl (fun st=>Cx (ee st rfl) (ee st rfl))<|Af<|Aa ?_;rcases Ao (decide (b<(GS (1:Int) (c.Ak+1)))) with aF|aF
   ·replace a:=AD a aF;refine Az rfl aF<|AT<|Aa<|Ad<|A8<|Ad<|Ab<|wd rfl (fun st=>Bd (l:=[I c.Ak,I c.Ag,I c.An,I c.Av,.slice h c.Ae.length j]) Fy (ee st z) u rfl rfl)<|wm rfl (v:=I b) t ?_;replace a:=bind_some a;obtain⟨bU,bV,a⟩:=a;refine we rfl (fun st=>AL SS (ee st rfl) (Ew (ee st rfl) (ee st rfl)) (UD aY c b h j ZA _ q.all bU bV)) ?_;rintro _ b2 ⟨x,rfl⟩;have aS:=a8.ext x;refine Af<|Aa ?_;rcases Ao (bU) with aA|aA
    ·replace a:=AD a aA;refine Az rfl aA<|Ab<|wm rfl (v:=.slice d g.length n) aD<|wm rfl (v:=I b) t<|we rfl (fun st=>BP (e:=3) (vs:= #[(0,I b)]) (cs:= #[I b]) (Ho (ee st rfl)) (by kernel_rfl)) ?_;rintro _ bW ⟨aT,rfl,r⟩;have aG:=aS.nb r;have bX:=aS.BK r;have aO:AF (Ay .i64) 3 w.heap.size bW (ZZ FN [] Z w.heap.size [some aT,ob d,some o]) d n g:=((p.ext x (Aj x)).ext r.gr (Aw r));replace a:=Dc a;obtain⟨aU,a⟩:=a;refine we rfl (fun st=>JF (ys:=[b]) Tryz.underlying23 GQ rfl rfl (by decide) (ee st rfl) rfl (ee st rfl) aO (Lh (Ba:=[[I b]]) r.bk ⟨rfl,trivial⟩ rfl) (by have:=aU;simp only[maxLen];omega) (by have:=aU;omega) aG.sz (by simp)) ?_;rintro _ aH ⟨y,aL,rfl,aE,aJ,bC⟩;have bY:Hp FN [] w [some aT,ob y,some o] aH:=aG.row aE 1 rfl aJ;have bD:AF (Ay .i64) 3 w.heap.size aH (ZZ FN [] Z w.heap.size [some aT,ob y,some o]) y aL (g++[b]):=Fp bC (aG.Dw aE 1 rfl (fun k bE=>(aJ k bE).1));refine wa rfl (v:=.slice y ((g++[b]).length) aL) rfl<|Af<|Bl<|Aa<|Ab<|wm rfl (v:=I b) t ?_;replace a:=AU a;obtain⟨bF,a⟩:=a;refine wd rfl (fun st=>BA (ee st rfl) (ee st rfl) bF)<|wa rfl (v:=I (b+1)) rfl<|Af ?_;have bZ:Hp FN [] w [ob y,some o] aH:=bY.erase 0;have aV:AF (Ay .i64) 3 w.heap.size aH (ZZ FN [] Z w.heap.size [ob y,some o]) y aL (g++[b]):=(bD.up (AM 0));have a3:=(((u.ext x).ext r.gr).gr aE (aG.ne 2 1 rfl rfl rfl));have aP:Sl AJ aH (ZZ FN [] Z w.heap.size [ob y,some o]) h j c.Ae:=((((q.mv (Aj x)).mv (Aw r)).mv (aG.Dw aE 1 rfl (fun k bE=>(aJ k bE).1))).mv (AM 0));refine BB a0 (Nat.lt_succ_self _) (fun st=>?_);exact⟨(g++[b]),(b+1),y,aL,a,qz st,qd st,sp st 1 z,sp st 3 rfl,sp st 4 rfl,bZ,aV,a3,aP⟩
    ·replace a:=AE a aA;refine AI rfl aA<|AT<|Bl<|Aa<|Ab<|wm rfl (v:=I b) t ?_;replace a:=AU a;obtain⟨bG,a⟩:=a;refine wd rfl (fun st=>BA (ee st rfl) (ee st rfl) bG)<|wa rfl (v:=I (b+1)) rfl<|Af ?_;have aQ:AF (Ay .i64) 3 w.heap.size b2 (ZZ FN [] Z w.heap.size [ob d,some o]) d n g:=(p.ext x (Aj x));have a4:=(u.ext x);have aR:=(q.mv (Aj x));refine BB a0 (Nat.lt_succ_self _) (fun st=>?_);exact⟨g,(b+1),d,n,a,qz st,qd st,sp st 1 z,sp st 3 aD,sp st 4 rfl,aS,aQ,a4,aR⟩
   ·replace a:=AE a aF;refine AI rfl aF<|Ci<|AQ<|AQ ?_;obtain rfl:=Option.some.inj a;refine BY (fun st=>?_);exact⟨rfl,d,n,qz st,qd st,sp st 3 aD,a8,p⟩
 case bO=>
  rintro bM b3 b8 (⟨rfl,f,m,a5,a6,aW,aX,aB⟩);refine Co (X:=X0) (N:=22) a5 a6<|Br<|Aa<|Ad<|Ab<|wm rfl (v:=.slice f z2.length m) aW<|wa rfl (v:=.slice f z2.length m) rfl<|Af<|Aa<|AB ?_;obtain rfl:=Option.some.inj a;refine AO rfl rfl ?_;exact⟨aX.Bo,⟨_,_,rfl,aX.KC (M:=[]) 0 rfl [] rfl trivial aB⟩⟩
theorem T3(aA:Nat)(a:Ap)(c:Option Addr)(d:Nat)(Z:Nat→Prop)(w:World)(aF:Sl AJ w Z c d a.Ae)(aV:Int)(b:Dz aA a=some aV):
 BF Tryz.prog 81 #[.agg #[I a.Ak,I a.Ag,I a.An,I a.Av,.slice c a.Ae.length d]] w (fun v w'=>Ext w w'∧(Fi .i64).R w' (ZZ FN [] Z w.heap.size []) v aV):=by
 unfold Dz at b;refine A3 (N:=26) Tryz.func81 rfl rfl (by simp) ?_;intro bH aW bI;have aO:=AH (i:=0) (v:=.agg #[I a.Ak,I a.Ag,I a.An,I a.Av,.slice c a.Ae.length d]) aW rfl;clear aW;have aL:Hp FN [] w [] w:=Hp.start (BH.none w);have u:=aF.mv (Bi (Z:=Z) (L:=[]) w);refine Ad<|Ab<|we rfl (fun st=>BU (v:=.agg #[I a.Ak,I a.Ag,I a.An,I a.Av,.slice c a.Ae.length d]) (cs:= #[I a.Ak,I a.Ag,I a.An,I a.Av,.slice c a.Ae.length d]) (ee st aO) rfl) ?_;rintro _ w1 ⟨x,rfl,q⟩;have aM:=aL.nb q;have bD:=aL.BK q;refine wa rfl (v:=I 0) rfl<|Af<|Aa<|Ad<|Ab<|wd rfl (fun st=>Bd (l:=[I a.Ak,I a.Ag,I a.An,I a.Av,.slice c a.Ae.length d]) Fy (ee st rfl) q.bk rfl rfl) ?_;have m:=(u.mv (Aw q));replace b:=bind_some b;obtain⟨r2,aX,b⟩:=b;refine we rfl (fun st=>AL Rs (ee st rfl) (Cw (ee st rfl)) (Ui aA a c d (ZZ FN [] Z w.heap.size [some x]) _ m r2 aX)) ?_;rintro _ bM ⟨aB,⟨bE,bF,rfl,r⟩⟩;have aY:=aM.ext aB;have r:=r.mv (aM.CV (Nat.le_refl _));refine wd rfl (fun st=>BS Tryz.underlying23 (ee st rfl))<|wa rfl (v:=I (r2.length:Int)) rfl<|Af<|Aa<|Ad<|Ad<|Ab<|wa rfl (v:=I 0) rfl<|Af<|Aa<|A8 ?_;replace b:=bind_some b;obtain⟨z4,n,b⟩:=b;refine Cn (fun aZ f aC=>(aZ=.exit 0∧f.tmps.size=26∧f.defers=(X0).ds∧sl f 3=I z4∧Hp FN [] w [some x] aC)) ?a0 ?a2
 case a0=>
  clear b;refine Cm (fun(aP:Nat) (f:Act) (aC:World)=>∃g,∃e,Dr aA a aP g e=some z4∧f.tmps.size=26∧f.defers=(X0).ds∧sl f 1=pt x 0∧sl f 3=I g∧sl f 4=I e∧Hp FN [] w [some x] aC∧Bk aC x 63 #[I a.Ak,I a.Ag,I a.An,I a.Av,.slice c a.Ae.length d]∧Sl AJ aC (ZZ FN [] Z w.heap.size [some x]) c d a.Ae) aA ?a3 ?a4
  case a3=>
   intro st;have aG:=(q.bk.ext aB);have y:=(m.mv (Aj aB));exact⟨(r2.length:Int),(0:Int),n,qz st,qd st,sp st 1 rfl,sp st 3 rfl,sp st 4 rfl,aY,aG,y⟩
  case a4=>
   rintro(_|aP) bJ bK ⟨g,e,n,aQ,aR,o,t,p,aN,h,j⟩
   ·exact absurd (show none=some _ from n) (by simp)
   rw[Dr.eq_2] at n;have b:=n;clear n;refine B1 (N:=26) aQ aR<|Ad<|Ad<|Ab<|wm rfl (v:=I e) p<|wd rfl (fun st=>Am (ee st o) (Gz _ _))<|wd rfl (fun st=>Ar (v:=.slice c a.Ae.length d) GR (ee st rfl) h rfl)<|wd rfl (fun st=>BS Tryz.underlying61 (ee st rfl))<|wd rfl (fun st=>Cx (ee st rfl) (ee st rfl))<|Af<|Aa ?_;rcases Ao (decide (e<(a.Ae.length:Int))) with s|s
   ·replace b:=AD b s;refine Az rfl s<|AT<|Aa<|Ad<|A8<|Ab<|wm rfl (v:=I g) t<|wd rfl (fun st=>Am (ee st o) (Gz _ _))<|wd rfl (fun st=>Ar (v:=.slice c a.Ae.length d) GR (ee st rfl) h rfl)<|wm rfl (v:=I e) p ?_;replace b:=Bs b;obtain⟨i6,aH,a5,a6,a7,b⟩:=b;obtain⟨bN,bO,_,a8,rfl,a9⟩:=Sl.elem j (by decide) a6;refine wd rfl (fun st=>CF (k:=i6) Tryz.underlying61 JY (ee st rfl) a8 (ee st rfl) a5 a7)<|wd rfl (fun st=>Am (ee st rfl) (Qw _ _ _))<|wd rfl (fun st=>DE (l:=[I aH.Au,I aH.AG]) NP (ee st rfl) a9 rfl rfl) ?_;replace b:=bind_some b;obtain⟨aS,bA,b⟩:=b;refine we rfl (fun st=>AL Rt (ee st rfl) (Cw (ee st rfl)) (Uh aA (⟨aH.Au,aH.AG⟩:CI) ZA _ aS bA)) ?_;rintro _ bP ⟨aD,rfl⟩;have bB:=aN.ext aD;replace b:=AU b;obtain⟨bC,b⟩:=b;refine wd rfl (fun st=>QH (ee st rfl) (ee st rfl) bC)<|wd rfl (fun st=>QI (ee st rfl) (ee st rfl))<|wa rfl (v:=I (min (3000:Int) (g*aS))) rfl<|Af<|Bl<|Aa<|Ab<|wm rfl (v:=I e) p ?_;replace b:=AU b;obtain⟨aT,b⟩:=b;refine wd rfl (fun st=>BA (ee st rfl) (ee st rfl) aT)<|wa rfl (v:=I (e+1)) rfl<|Af ?_;have aI:=(h.ext aD);have z:=(j.mv (Aj aD));refine BB aP (Nat.lt_succ_self _) (fun st=>?_);exact⟨(min (3000:Int) (g*aS)),(e+1),b,qz st,qd st,sp st 1 o,sp st 3 rfl,sp st 4 rfl,bB,aI,z⟩
   ·replace b:=AE b s;refine AI rfl s<|Ci<|AQ<|AQ ?_;obtain rfl:=Option.some.inj b;refine BY (fun st=>?_);exact⟨rfl,qz st,qd st,sp st 3 t,aN⟩
 case a2=>
  rintro aZ bG bL (⟨rfl,aJ,aK,aE,aU⟩);refine Co (X:=X0) (N:=26) aJ aK<|Br<|Aa<|Ad<|Ab<|wm rfl (v:=I z4) aE<|wa rfl (v:=I z4) rfl<|Af<|Aa<|AB ?_;obtain rfl:=Option.some.inj b;refine AO rfl rfl ?_;exact⟨aU.Bo,rfl⟩
theorem T4(aS:Nat)(b:Ap)(j:Option Addr)(m:Nat)(Z:Nat→Prop)(w:World)(bR:Sl AJ w Z j m b.Ae)(cY:Int)(a:D5 aS b=some cY):
 BF Tryz.prog 80 #[.agg #[I b.Ak,I b.Ag,I b.An,I b.Av,.slice j b.Ae.length m]] w (fun v w'=>Ext w w'∧(Fi .i64).R w' (ZZ FN [] Z w.heap.size []) v cY):=by
 unfold D5 at a;refine A3 (N:=101) Tryz.func80 rfl rfl (by simp) ?_;intro dD cZ dE;have bZ:=AH (i:=0) (v:=.agg #[I b.Ak,I b.Ag,I b.An,I b.Av,.slice j b.Ae.length m]) cZ rfl;clear cZ;have bV:Hp FN [] w [] w:=Hp.start (BH.none w);have a9:=bR.mv (Bi (Z:=Z) (L:=[]) w);refine Ad<|Ab<|we rfl (fun st=>BU (v:=.agg #[I b.Ak,I b.Ag,I b.An,I b.Av,.slice j b.Ae.length m]) (cs:= #[I b.Ak,I b.Ag,I b.An,I b.Av,.slice j b.Ae.length m]) (ee st bZ) rfl) ?_;rintro _ w1 ⟨x,rfl,y⟩;have aO:=bV.nb y;have c8:=bV.BK y;refine wa rfl (v:=I 0) rfl<|Af<|Aa<|Ad<|Ad<|Ab<|wd rfl (fun st=>Am (ee st rfl) (Gf _ _))<|wd rfl (fun st=>Ar (v:=I b.Ak) AY (ee st rfl) y.bk rfl)<|wd rfl (fun st=>FX (ee st rfl) (ee st rfl))<|wm rfl (v:=.bool (decide ((9:Int)<b.Ak))) rfl ?_;rcases Ao (decide ((9:Int)<b.Ak)) with z|z
 ·replace a:=AD a z;refine Ai (c:=true) rfl rfl (Ac rfl z) (by decide) rfl (by decide)<|Ai (c:=true) rfl rfl (Ac rfl z) (by decide) rfl (by decide)<|Ai (c:=true) rfl rfl (Ac rfl z) (by decide) rfl (by decide)<|wd rfl (fun st=>AV (v:=.bool true) (ee st rfl) z (ee st rfl))<|wm rfl (v:=.bool true) rfl<|Ai rfl rfl rfl (by decide) rfl (by decide)<|Ai rfl rfl rfl (by decide) rfl (by decide)<|Ai rfl rfl rfl (by decide) rfl (by decide)<|Ai rfl rfl rfl (by decide) rfl (by decide)<|wd rfl (fun st=>AV (v:=.bool true) (ee st rfl) rfl (ee st rfl))<|Af<|Aa<|Az rfl rfl<|Ad<|Ab<|wa rfl (v:=I 3) rfl<|Af<|Aa<|AB<|Ax ?_;obtain rfl:=Option.some.inj a;refine AO rfl rfl ?_;exact⟨aO.Bo,rfl⟩
 ·replace a:=AE a z;refine As rfl rfl (Ac rfl z) rfl (by decide) (fun st=>Am (ee st rfl) (IL _ _))<|As rfl rfl (Ac rfl z) rfl (by decide) (fun st=>Ar (v:=I b.Ag) AY (ee st rfl) y.bk rfl)<|As rfl rfl (Ac rfl z) rfl (by decide) (fun st=>FX (ee st rfl) (ee st rfl))<|wd rfl (fun st=>Bm (v:=.bool (decide ((2:Int)<b.Ag))) (ee st rfl) z (ee st rfl))<|wm rfl (v:=.bool (decide ((2:Int)<b.Ag))) rfl ?_;rcases Ao (decide ((2:Int)<b.Ag)) with s|s
  ·replace a:=AD a s;refine Ai (c:=true) rfl rfl (Ac rfl s) (by decide) rfl (by decide)<|Ai (c:=true) rfl rfl (Ac rfl s) (by decide) rfl (by decide)<|Ai (c:=true) rfl rfl (Ac rfl s) (by decide) rfl (by decide)<|Ai (c:=true) rfl rfl (Ac rfl s) (by decide) rfl (by decide)<|wd rfl (fun st=>AV (v:=.bool true) (ee st rfl) s (ee st rfl))<|Af<|Aa<|Az rfl rfl<|Ad<|Ab<|wa rfl (v:=I 3) rfl<|Af<|Aa<|AB<|Ax ?_;obtain rfl:=Option.some.inj a;refine AO rfl rfl ?_;exact⟨aO.Bo,rfl⟩
  ·replace a:=AE a s;refine As rfl rfl (Ac rfl s) rfl (by decide) (fun st=>Am (ee st rfl) (Gz _ _))<|As rfl rfl (Ac rfl s) rfl (by decide) (fun st=>Ar (v:=.slice j b.Ae.length m) GR (ee st rfl) y.bk rfl)<|As rfl rfl (Ac rfl s) rfl (by decide) (fun st=>BS Tryz.underlying61 (ee st rfl))<|As rfl rfl (Ac rfl s) rfl (by decide) (fun st=>FX (ee st rfl) (ee st rfl))<|wd rfl (fun st=>Bm (v:=.bool (decide ((4:Int)<(b.Ae.length:Int)))) (ee st rfl) s (ee st rfl))<|Af<|Aa ?_;rcases Ao (decide ((4:Int)<(b.Ae.length:Int))) with aX|aX
   ·replace a:=AD a aX;refine Az rfl aX<|Ad<|Ab<|wa rfl (v:=I 3) rfl<|Af<|Aa<|AB<|Ax ?_;obtain rfl:=Option.some.inj a;refine AO rfl rfl ?_;exact⟨aO.Bo,rfl⟩
   ·replace a:=AE a aX;refine AI rfl aX<|AT<|Aa<|Ad<|Ad<|Ab<|wd rfl (fun st=>Am (ee st rfl) (Gf _ _))<|wd rfl (fun st=>Ar (v:=I b.Ak) AY (ee st rfl) y.bk rfl)<|wd rfl (fun st=>Cx (ee st rfl) (ee st rfl))<|wm rfl (v:=.bool (decide (b.Ak<0))) rfl ?_;rcases Ao (decide (b.Ak<0)) with aA|aA
    ·replace a:=AD a aA;refine Ai (c:=true) rfl rfl (Ac rfl aA) (by decide) rfl (by decide)<|Ai (c:=true) rfl rfl (Ac rfl aA) (by decide) rfl (by decide)<|Ai (c:=true) rfl rfl (Ac rfl aA) (by decide) rfl (by decide)<|wd rfl (fun st=>AV (v:=.bool true) (ee st rfl) aA (ee st rfl))<|wm rfl (v:=.bool true) rfl<|Ai rfl rfl rfl (by decide) rfl (by decide)<|Ai rfl rfl rfl (by decide) rfl (by decide)<|Ai rfl rfl rfl (by decide) rfl (by decide)<|Ai rfl rfl rfl (by decide) rfl (by decide)<|Ai rfl rfl rfl (by decide) rfl (by decide)<|Ai rfl rfl rfl (by decide) rfl (by decide)<|Ai rfl rfl rfl (by decide) rfl (by decide)<|wd rfl (fun st=>AV (v:=.bool true) (ee st rfl) rfl (ee st rfl))<|wm rfl (v:=.bool true) rfl<|Ai rfl rfl rfl (by decide) rfl (by decide)<|Ai rfl rfl rfl (by decide) rfl (by decide)<|Ai rfl rfl rfl (by decide) rfl (by decide)<|Ai rfl rfl rfl (by decide) rfl (by decide)<|Ai rfl rfl rfl (by decide) rfl (by decide)<|Ai rfl rfl rfl (by decide) rfl (by decide)<|Ai rfl rfl rfl (by decide) rfl (by decide)<|wd rfl (fun st=>AV (v:=.bool true) (ee st rfl) rfl (ee st rfl))<|Af<|Aa<|Az rfl rfl<|Ad<|Ab<|wa rfl (v:=I 1) rfl<|Af<|Aa<|AB<|Ax ?_;obtain rfl:=Option.some.inj a;refine AO rfl rfl ?_;exact⟨aO.Bo,rfl⟩
    ·replace a:=AE a aA;refine As rfl rfl (Ac rfl aA) rfl (by decide) (fun st=>Am (ee st rfl) (IL _ _))<|As rfl rfl (Ac rfl aA) rfl (by decide) (fun st=>Ar (v:=I b.Ag) AY (ee st rfl) y.bk rfl)<|As rfl rfl (Ac rfl aA) rfl (by decide) (fun st=>Cx (ee st rfl) (ee st rfl))<|wd rfl (fun st=>Bm (v:=.bool (decide (b.Ag<1))) (ee st rfl) aA (ee st rfl))<|wm rfl (v:=.bool (decide (b.Ag<1))) rfl ?_;rcases Ao (decide (b.Ag<1)) with p|p
     ·replace a:=AD a p;refine Ai (c:=true) rfl rfl (Ac rfl p) (by decide) rfl (by decide)<|Ai (c:=true) rfl rfl (Ac rfl p) (by decide) rfl (by decide)<|Ai (c:=true) rfl rfl (Ac rfl p) (by decide) rfl (by decide)<|Ai (c:=true) rfl rfl (Ac rfl p) (by decide) rfl (by decide)<|Ai (c:=true) rfl rfl (Ac rfl p) (by decide) rfl (by decide)<|Ai (c:=true) rfl rfl (Ac rfl p) (by decide) rfl (by decide)<|Ai (c:=true) rfl rfl (Ac rfl p) (by decide) rfl (by decide)<|wd rfl (fun st=>AV (v:=.bool true) (ee st rfl) p (ee st rfl))<|wm rfl (v:=.bool true) rfl<|Ai rfl rfl rfl (by decide) rfl (by decide)<|Ai rfl rfl rfl (by decide) rfl (by decide)<|Ai rfl rfl rfl (by decide) rfl (by decide)<|Ai rfl rfl rfl (by decide) rfl (by decide)<|Ai rfl rfl rfl (by decide) rfl (by decide)<|Ai rfl rfl rfl (by decide) rfl (by decide)<|Ai rfl rfl rfl (by decide) rfl (by decide)<|wd rfl (fun st=>AV (v:=.bool true) (ee st rfl) rfl (ee st rfl))<|Af<|Aa<|Az rfl rfl<|Ad<|Ab<|wa rfl (v:=I 1) rfl<|Af<|Aa<|AB<|Ax ?_;obtain rfl:=Option.some.inj a;refine AO rfl rfl ?_;exact⟨aO.Bo,rfl⟩
     ·replace a:=AE a p;refine As rfl rfl (Ac rfl p) rfl (by decide) (fun st=>Am (ee st rfl) (LA _ _))<|As rfl rfl (Ac rfl p) rfl (by decide) (fun st=>Ar (v:=I b.An) AY (ee st rfl) y.bk rfl)<|As rfl rfl (Ac rfl p) rfl (by decide) (fun st=>Am (ee st rfl) (Gf _ _))<|As rfl rfl (Ac rfl p) rfl (by decide) (fun st=>Ar (v:=I b.Ak) AY (ee st rfl) y.bk rfl) ?_;replace a:=AU a;obtain⟨c0,a⟩:=a;refine As rfl rfl (Ac rfl p) rfl (by decide) (fun st=>BA (ee st rfl) (ee st rfl) c0) ?_;replace a:=bind_some a;obtain⟨bA,c1,a⟩:=a;refine Dj rfl rfl (Ac rfl p) rfl (by decide) (fun st=>AL JZ (ee st rfl) (E8 (ee st rfl) (ee st rfl) (ee st rfl)) (a46 aS b.An 0 (b.Ak+1) ZA _ bA c1)) ?_;rintro _ dL ⟨bG,rfl⟩;have bW:=aO.ext bG;refine As rfl rfl (Ac rfl p) rfl (by decide) (fun st=>DC (ee st rfl))<|wd rfl (fun st=>Bm (v:=.bool !bA) (ee st rfl) p (ee st rfl))<|wm rfl (v:=.bool !bA) rfl ?_;rcases Ao (!bA) with e|e
      ·replace a:=AD a e;have cO:bA=false:=by simpa using e
       refine Ai (c:=true) rfl rfl (Ac rfl e) (by decide) rfl (by decide)<|Ai (c:=true) rfl rfl (Ac rfl e) (by decide) rfl (by decide)<|Ai (c:=true) rfl rfl (Ac rfl e) (by decide) rfl (by decide)<|Ai (c:=true) rfl rfl (Ac rfl e) (by decide) rfl (by decide)<|Ai (c:=true) rfl rfl (Ac rfl e) (by decide) rfl (by decide)<|Ai (c:=true) rfl rfl (Ac rfl e) (by decide) rfl (by decide)<|Ai (c:=true) rfl rfl (Ac rfl e) (by decide) rfl (by decide)<|wd rfl (fun st=>AV (v:=.bool true) (ee st rfl) e (ee st rfl))<|Af<|Aa<|Az rfl rfl<|Ad<|Ab<|wa rfl (v:=I 1) rfl<|Af<|Aa<|AB<|Ax ?_;obtain rfl:=Option.some.inj a;refine AO rfl rfl ?_;exact⟨bW.Bo,rfl⟩
      ·replace a:=AE a e;have cP:bA=true:=by simpa using e
       refine As rfl rfl (Ac rfl e) rfl (by decide) (fun st=>Am (ee st rfl) (Kf _ _)) ?_;have aT:=(y.bk.ext bG);refine As rfl rfl (Ac rfl e) rfl (by decide) (fun st=>Ar (v:=I b.Av) AY (ee st rfl) aT rfl)<|As rfl rfl (Ac rfl e) rfl (by decide) (fun st=>Am (ee st rfl) (Gf _ _))<|As rfl rfl (Ac rfl e) rfl (by decide) (fun st=>Ar (v:=I b.Ak) AY (ee st rfl) aT rfl) ?_;replace a:=AU a;obtain⟨b1,a⟩:=a;refine As rfl rfl (Ac rfl e) rfl (by decide) (fun st=>BA (ee st rfl) (ee st rfl) b1) ?_;replace a:=bind_some a;obtain⟨aY,b2,a⟩:=a;refine Dj rfl rfl (Ac rfl e) rfl (by decide) (fun st=>AL JZ (ee st rfl) (E8 (ee st rfl) (ee st rfl) (ee st rfl)) (a46 aS b.Av 0 (b.Ak+1) ZA _ aY b2)) ?_;rintro _ dF ⟨a4,rfl⟩;have bX:=bW.ext a4;refine As rfl rfl (Ac rfl e) rfl (by decide) (fun st=>DC (ee st rfl))<|wd rfl (fun st=>Bm (v:=.bool !aY) (ee st rfl) e (ee st rfl))<|Af<|Aa ?_;rcases Ao (!aY) with aE|aE
       ·replace a:=AD a aE;have cQ:aY=false:=by simpa using aE
        refine Az rfl aE<|Ad<|Ab<|wa rfl (v:=I 1) rfl<|Af<|Aa<|AB<|Ax ?_;obtain rfl:=Option.some.inj a;refine AO rfl rfl ?_;exact⟨bX.Bo,rfl⟩
       ·replace a:=AE a aE;have cR:aY=true:=by simpa using aE
        refine AI rfl aE<|AT<|Aa<|Ad<|Ad<|Ab<|wa rfl (v:=I 0) rfl<|Af<|Aa<|A8 ?_;replace a:=bind_some a;obtain⟨bH,aG,a⟩:=a;refine Cn (fun b3 aB aZ=>(b3=.ret∧∃aH,bH=.inl aH∧aB.tmps.size=101∧aB.defers=(X0).ds∧sl aB 2=I aH∧Hp FN [] w [some x] aZ)∨(b3=.exit 0∧∃aH,bH=.inr aH∧aB.tmps.size=101∧aB.defers=(X0).ds∧sl aB 1=pt x 0∧Hp FN [] w [some x] aZ∧Bk aZ x 63 #[I b.Ak,I b.Ag,I b.An,I b.Av,.slice j b.Ae.length m]∧Sl AJ aZ (ZZ FN [] Z w.heap.size [some x]) j m b.Ae)) ?b4 ?b5
        case b4=>
         clear a;refine Cm (fun(b6:Nat) (aB:Act) (aZ:World)=>∃r,C5 aS b b6 r=some bH∧aB.tmps.size=101∧aB.defers=(X0).ds∧sl aB 1=pt x 0∧sl aB 3=I r∧Hp FN [] w [some x] aZ∧Bk aZ x 63 #[I b.Ak,I b.Ag,I b.An,I b.Av,.slice j b.Ae.length m]∧Sl AJ aZ (ZZ FN [] Z w.heap.size [some x]) j m b.Ae) aS ?b7 ?b8
         case b7=>
          intro st;have bS:=(aT.ext a4);have bB:=(((a9.mv (Aw y)).mv (Aj bG)).mv (Aj a4));exact⟨(0:Int),aG,qz st,qd st,sp st 1 rfl,sp st 3 rfl,bX,bS,bB⟩
         case b8=>
          rintro(_|b6) dA dB ⟨r,aG,bT,bU,t,aI,bI,aD,aC⟩
          ·exact absurd (show none=some _ from aG) (by simp)
          rw[C5.eq_2] at aG;have a:=aG;clear aG;refine B1 (N:=101) bT bU<|Ad<|Ad<|Ab<|wm rfl (v:=I r) aI<|wd rfl (fun st=>Am (ee st t) (Gz _ _))<|wd rfl (fun st=>Ar (v:=.slice j b.Ae.length m) GR (ee st rfl) aD rfl)<|wd rfl (fun st=>BS Tryz.underlying61 (ee st rfl))<|wd rfl (fun st=>Cx (ee st rfl) (ee st rfl))<|Af<|Aa ?_;rcases Ao (decide (r<(b.Ae.length:Int))) with aJ|aJ
          ·replace a:=AD a aJ;refine Az rfl aJ<|AT<|Aa<|Ad<|A8<|Ad<|Ab<|wd rfl (fun st=>Am (ee st t) (Gz _ _))<|wd rfl (fun st=>Ar (v:=.slice j b.Ae.length m) GR (ee st rfl) aD rfl)<|wm rfl (v:=I r) aI ?_;replace a:=Bs a;obtain⟨i21,d,b9,cA,cB,a⟩:=a;obtain⟨dG,dH,_,cC,rfl,cD⟩:=Sl.elem aC (by decide) cA;refine wd rfl (fun st=>CF (k:=i21) Tryz.underlying61 JY (ee st rfl) cC (ee st rfl) b9 cB)<|wd rfl (fun st=>DE (l:=[I d.Au,I d.AG,I d.AN,I d.B0,I d.B6]) NQ (ee st rfl) cD rfl rfl)<|we rfl (fun st=>BQ (cs:= #[I 0,I 0,I 0,I 0,I 0]) M4 rfl) ?_;rintro _ dI ⟨dJ,rfl,aK⟩;have bJ:=bI.nb aK;have c2:=bI.BK aK;refine Bh rfl rfl (fun st=>Bc (n:=5) (l:=[I d.Au,I d.AG,I d.AN,I d.B0,I d.B6]) (Cd:= #[I d.Au,I d.AG,I d.AN,I d.B0,I d.B6]) (ee st rfl) (ee st rfl) JY aK.bk rfl rfl (show 0+5≤5 by decide) (AP rfl) rfl) ?_;rintro _ bK u;have a7:=bJ.gr u.gr 0 rfl;refine Af<|Aa<|Ad<|Ab<|wd rfl (fun st=>Am (ee st rfl) (Ie _ _))<|wd rfl (fun st=>Am (ee st rfl) (Jl _ _))<|wd rfl (fun st=>Ar (v:=I d.Au) AY (ee st rfl) u.bk rfl)<|wd rfl (fun st=>Cx (ee st rfl) (ee st rfl))<|wm rfl (v:=.bool (decide (d.Au<0))) rfl ?_;rcases Ao (decide (d.Au<0)) with f|f
           ·replace a:=AD a f;refine Ai (c:=true) rfl rfl (Ac rfl f) (by decide) rfl (by decide)<|Ai (c:=true) rfl rfl (Ac rfl f) (by decide) rfl (by decide)<|Ai (c:=true) rfl rfl (Ac rfl f) (by decide) rfl (by decide)<|Ai (c:=true) rfl rfl (Ac rfl f) (by decide) rfl (by decide)<|Ai (c:=true) rfl rfl (Ac rfl f) (by decide) rfl (by decide)<|Ai (c:=true) rfl rfl (Ac rfl f) (by decide) rfl (by decide)<|Ai (c:=true) rfl rfl (Ac rfl f) (by decide) rfl (by decide)<|wd rfl (fun st=>AV (v:=.bool true) (ee st rfl) f (ee st rfl))<|wm rfl (v:=.bool true) rfl<|Ai rfl rfl rfl (by decide) rfl (by decide)<|Ai rfl rfl rfl (by decide) rfl (by decide)<|Ai rfl rfl rfl (by decide) rfl (by decide)<|Ai rfl rfl rfl (by decide) rfl (by decide)<|Ai rfl rfl rfl (by decide) rfl (by decide)<|Ai rfl rfl rfl (by decide) rfl (by decide)<|wd rfl (fun st=>AV (v:=.bool true) (ee st rfl) rfl (ee st rfl))<|wm rfl (v:=.bool true) rfl<|Ai rfl rfl rfl (by decide) rfl (by decide)<|Ai rfl rfl rfl (by decide) rfl (by decide)<|Ai rfl rfl rfl (by decide) rfl (by decide)<|Ai rfl rfl rfl (by decide) rfl (by decide)<|wd rfl (fun st=>AV (v:=.bool true) (ee st rfl) rfl (ee st rfl))<|wm rfl (v:=.bool true) rfl<|Ai rfl rfl rfl (by decide) rfl (by decide)<|Ai rfl rfl rfl (by decide) rfl (by decide)<|Ai rfl rfl rfl (by decide) rfl (by decide)<|Ai rfl rfl rfl (by decide) rfl (by decide)<|wd rfl (fun st=>AV (v:=.bool true) (ee st rfl) rfl (ee st rfl))<|wm rfl (v:=.bool true) rfl<|Ai rfl rfl rfl (by decide) rfl (by decide)<|Ai rfl rfl rfl (by decide) rfl (by decide)<|Ai rfl rfl rfl (by decide) rfl (by decide)<|Ai rfl rfl rfl (by decide) rfl (by decide)<|Ai rfl rfl rfl (by decide) rfl (by decide)<|Ai rfl rfl rfl (by decide) rfl (by decide)<|wd rfl (fun st=>AV (v:=.bool true) (ee st rfl) rfl (ee st rfl))<|Af<|Aa<|Az rfl rfl<|Ad ?_;refine Ab<|wa rfl (v:=I 1) rfl<|Af<|Aa<|AB<|AW<|Ax<|Ax ?_;have c3:Hp FN [] w [some x] bK:=a7.erase 0;obtain rfl:=Option.some.inj a;refine BY (fun st=>?_);exact .inl ⟨rfl,(1:Int),rfl,qz st,qd st,sp st 2 rfl,c3⟩
           ·replace a:=AE a f;refine As rfl rfl (Ac rfl f) rfl (by decide) (fun st=>Am (ee st rfl) (Ie _ _))<|As rfl rfl (Ac rfl f) rfl (by decide) (fun st=>Am (ee st rfl) (Jl _ _))<|As rfl rfl (Ac rfl f) rfl (by decide) (fun st=>Ar (v:=I d.Au) AY (ee st rfl) u.bk rfl)<|As rfl rfl (Ac rfl f) rfl (by decide) (fun st=>Am (ee st rfl) (Ie _ _))<|As rfl rfl (Ac rfl f) rfl (by decide) (fun st=>Am (ee st rfl) (Jk _ _))<|As rfl rfl (Ac rfl f) rfl (by decide) (fun st=>Ar (v:=I d.AG) AY (ee st rfl) u.bk rfl)<|As rfl rfl (Ac rfl f) rfl (by decide) (fun st=>FX (ee st rfl) (ee st rfl))<|wd rfl (fun st=>Bm (v:=.bool (decide (d.AG<d.Au))) (ee st rfl) f (ee st rfl))<|wm rfl (v:=.bool (decide (d.AG<d.Au))) rfl ?_;rcases Ao (decide (d.AG<d.Au)) with h|h
            ·replace a:=AD a h;refine Ai (c:=true) rfl rfl (Ac rfl h) (by decide) rfl (by decide)<|Ai (c:=true) rfl rfl (Ac rfl h) (by decide) rfl (by decide)<|Ai (c:=true) rfl rfl (Ac rfl h) (by decide) rfl (by decide)<|Ai (c:=true) rfl rfl (Ac rfl h) (by decide) rfl (by decide)<|Ai (c:=true) rfl rfl (Ac rfl h) (by decide) rfl (by decide)<|Ai (c:=true) rfl rfl (Ac rfl h) (by decide) rfl (by decide)<|wd rfl (fun st=>AV (v:=.bool true) (ee st rfl) h (ee st rfl))<|wm rfl (v:=.bool true) rfl<|Ai rfl rfl rfl (by decide) rfl (by decide)<|Ai rfl rfl rfl (by decide) rfl (by decide)<|Ai rfl rfl rfl (by decide) rfl (by decide)<|Ai rfl rfl rfl (by decide) rfl (by decide)<|wd rfl (fun st=>AV (v:=.bool true) (ee st rfl) rfl (ee st rfl))<|wm rfl (v:=.bool true) rfl<|Ai rfl rfl rfl (by decide) rfl (by decide)<|Ai rfl rfl rfl (by decide) rfl (by decide)<|Ai rfl rfl rfl (by decide) rfl (by decide)<|Ai rfl rfl rfl (by decide) rfl (by decide)<|wd rfl (fun st=>AV (v:=.bool true) (ee st rfl) rfl (ee st rfl))<|wm rfl (v:=.bool true) rfl<|Ai rfl rfl rfl (by decide) rfl (by decide)<|Ai rfl rfl rfl (by decide) rfl (by decide)<|Ai rfl rfl rfl (by decide) rfl (by decide)<|Ai rfl rfl rfl (by decide) rfl (by decide)<|Ai rfl rfl rfl (by decide) rfl (by decide)<|Ai rfl rfl rfl (by decide) rfl (by decide)<|wd rfl (fun st=>AV (v:=.bool true) (ee st rfl) rfl (ee st rfl))<|Af<|Aa<|Az rfl rfl<|Ad<|Ab<|wa rfl (v:=I 1) rfl<|Af<|Aa<|AB<|AW<|Ax<|Ax ?_;have c4:Hp FN [] w [some x] bK:=a7.erase 0;obtain rfl:=Option.some.inj a;refine BY (fun st=>?_);exact .inl ⟨rfl,(1:Int),rfl,qz st,qd st,sp st 2 rfl,c4⟩
            ·replace a:=AE a h;refine As rfl rfl (Ac rfl h) rfl (by decide) (fun st=>Am (ee st rfl) (Ie _ _))<|As rfl rfl (Ac rfl h) rfl (by decide) (fun st=>Am (ee st rfl) (Jk _ _))<|As rfl rfl (Ac rfl h) rfl (by decide) (fun st=>Ar (v:=I d.AG) AY (ee st rfl) u.bk rfl)<|As rfl rfl (Ac rfl h) rfl (by decide) (fun st=>Am (ee st t) (Gf _ _)) ?_;have a8:=((aD.ext aK.gr).gr u.gr (bJ.ne 1 0 rfl rfl rfl));refine As rfl rfl (Ac rfl h) rfl (by decide) (fun st=>Ar (v:=I b.Ak) AY (ee st rfl) a8 rfl)<|As rfl rfl (Ac rfl h) rfl (by decide) (fun st=>FX (ee st rfl) (ee st rfl))<|wd rfl (fun st=>Bm (v:=.bool (decide (b.Ak<d.AG))) (ee st rfl) h (ee st rfl))<|wm rfl (v:=.bool (decide (b.Ak<d.AG))) rfl ?_;rcases Ao (decide (b.Ak<d.AG)) with q|q
             ·replace a:=AD a q;refine Ai (c:=true) rfl rfl (Ac rfl q) (by decide) rfl (by decide)<|Ai (c:=true) rfl rfl (Ac rfl q) (by decide) rfl (by decide)<|Ai (c:=true) rfl rfl (Ac rfl q) (by decide) rfl (by decide)<|Ai (c:=true) rfl rfl (Ac rfl q) (by decide) rfl (by decide)<|wd rfl (fun st=>AV (v:=.bool true) (ee st rfl) q (ee st rfl))<|wm rfl (v:=.bool true) rfl<|Ai rfl rfl rfl (by decide) rfl (by decide)<|Ai rfl rfl rfl (by decide) rfl (by decide)<|Ai rfl rfl rfl (by decide) rfl (by decide)<|Ai rfl rfl rfl (by decide) rfl (by decide)<|wd rfl (fun st=>AV (v:=.bool true) (ee st rfl) rfl (ee st rfl))<|wm rfl (v:=.bool true) rfl<|Ai rfl rfl rfl (by decide) rfl (by decide)<|Ai rfl rfl rfl (by decide) rfl (by decide)<|Ai rfl rfl rfl (by decide) rfl (by decide)<|Ai rfl rfl rfl (by decide) rfl (by decide)<|Ai rfl rfl rfl (by decide) rfl (by decide)<|Ai rfl rfl rfl (by decide) rfl (by decide)<|wd rfl (fun st=>AV (v:=.bool true) (ee st rfl) rfl (ee st rfl))<|Af<|Aa<|Az rfl rfl<|Ad<|Ab<|wa rfl (v:=I 1) rfl<|Af<|Aa<|AB<|AW<|Ax<|Ax ?_;have c5:Hp FN [] w [some x] bK:=a7.erase 0;obtain rfl:=Option.some.inj a;refine BY (fun st=>?_);exact .inl ⟨rfl,(1:Int),rfl,qz st,qd st,sp st 2 rfl,c5⟩
             ·replace a:=AE a q;refine As rfl rfl (Ac rfl q) rfl (by decide) (fun st=>Am (ee st rfl) (M5 _ _))<|As rfl rfl (Ac rfl q) rfl (by decide) (fun st=>Ar (v:=I d.AN) AY (ee st rfl) u.bk rfl) ?_;replace a:=bind_some a;obtain⟨aP,cE,a⟩:=a;refine Dj rfl rfl (Ac rfl q) rfl (by decide) (fun st=>AL JZ (ee st rfl) (E8 (ee st rfl) (ee st rfl) (ee st rfl)) (a46 aS d.AN 1 5 ZA _ aP cE)) ?_;rintro _ c6 ⟨aU,rfl⟩;have bL:=a7.ext aU;refine As rfl rfl (Ac rfl q) rfl (by decide) (fun st=>DC (ee st rfl))<|wd rfl (fun st=>Bm (v:=.bool !aP) (ee st rfl) q (ee st rfl))<|wm rfl (v:=.bool !aP) rfl ?_;rcases Ao (!aP) with o|o
              ·replace a:=AD a o;have cS:aP=false:=by simpa using o
               refine Ai (c:=true) rfl rfl (Ac rfl o) (by decide) rfl (by decide)<|Ai (c:=true) rfl rfl (Ac rfl o) (by decide) rfl (by decide)<|Ai (c:=true) rfl rfl (Ac rfl o) (by decide) rfl (by decide)<|Ai (c:=true) rfl rfl (Ac rfl o) (by decide) rfl (by decide)<|wd rfl (fun st=>AV (v:=.bool true) (ee st rfl) o (ee st rfl))<|wm rfl (v:=.bool true) rfl<|Ai rfl rfl rfl (by decide) rfl (by decide)<|Ai rfl rfl rfl (by decide) rfl (by decide)<|Ai rfl rfl rfl (by decide) rfl (by decide)<|Ai rfl rfl rfl (by decide) rfl (by decide)<|Ai rfl rfl rfl (by decide) rfl (by decide)<|Ai rfl rfl rfl (by decide) rfl (by decide)<|wd rfl (fun st=>AV (v:=.bool true) (ee st rfl) rfl (ee st rfl))<|Af<|Aa<|Az rfl rfl<|Ad<|Ab<|wa rfl (v:=I 1) rfl<|Af<|Aa<|AB<|AW<|Ax<|Ax ?_;have cF:Hp FN [] w [some x] c6:=bL.erase 0;obtain rfl:=Option.some.inj a;refine BY (fun st=>?_);exact .inl ⟨rfl,(1:Int),rfl,qz st,qd st,sp st 2 rfl,cF⟩
              ·replace a:=AE a o;have cT:aP=true:=by simpa using o
               refine As rfl rfl (Ac rfl o) rfl (by decide) (fun st=>Am (ee st rfl) (M6 _ _)) ?_;have aQ:=(u.bk.ext aU);refine As rfl rfl (Ac rfl o) rfl (by decide) (fun st=>Ar (v:=I d.B0) AY (ee st rfl) aQ rfl) ?_;replace a:=bind_some a;obtain⟨aR,cG,a⟩:=a;refine Dj rfl rfl (Ac rfl o) rfl (by decide) (fun st=>AL JZ (ee st rfl) (E8 (ee st rfl) (ee st rfl) (ee st rfl)) (a46 aS d.B0 1 5 ZA _ aR cG)) ?_;rintro _ c7 ⟨aV,rfl⟩;have bM:=bL.ext aV;refine As rfl rfl (Ac rfl o) rfl (by decide) (fun st=>DC (ee st rfl))<|wd rfl (fun st=>Bm (v:=.bool !aR) (ee st rfl) o (ee st rfl))<|wm rfl (v:=.bool !aR) rfl ?_;rcases Ao (!aR) with g|g
               ·replace a:=AD a g;have cU:aR=false:=by simpa using g
                refine Ai (c:=true) rfl rfl (Ac rfl g) (by decide) rfl (by decide)<|Ai (c:=true) rfl rfl (Ac rfl g) (by decide) rfl (by decide)<|Ai (c:=true) rfl rfl (Ac rfl g) (by decide) rfl (by decide)<|Ai (c:=true) rfl rfl (Ac rfl g) (by decide) rfl (by decide)<|Ai (c:=true) rfl rfl (Ac rfl g) (by decide) rfl (by decide)<|Ai (c:=true) rfl rfl (Ac rfl g) (by decide) rfl (by decide)<|wd rfl (fun st=>AV (v:=.bool true) (ee st rfl) g (ee st rfl))<|Af<|Aa<|Az rfl rfl<|Ad<|Ab<|wa rfl (v:=I 1) rfl<|Af<|Aa<|AB<|AW<|Ax<|Ax ?_;have cH:Hp FN [] w [some x] c7:=bM.erase 0;obtain rfl:=Option.some.inj a;refine BY (fun st=>?_);exact .inl ⟨rfl,(1:Int),rfl,qz st,qd st,sp st 2 rfl,cH⟩
               ·replace a:=AE a g;have cV:aR=true:=by simpa using g
                refine As rfl rfl (Ac rfl g) rfl (by decide) (fun st=>Am (ee st rfl) (M7 _ _)) ?_;have bC:=(aQ.ext aV);refine As rfl rfl (Ac rfl g) rfl (by decide) (fun st=>Ar (v:=I d.B6) AY (ee st rfl) bC rfl)<|As rfl rfl (Ac rfl g) rfl (by decide) (fun st=>Am (ee st t) (Gf _ _)) ?_;have a0:=((a8.ext aU).ext aV);refine As rfl rfl (Ac rfl g) rfl (by decide) (fun st=>Ar (v:=I b.Ak) AY (ee st rfl) a0 rfl) ?_;replace a:=bind_some a;obtain⟨a2,cI,a⟩:=a;refine Dj rfl rfl (Ac rfl g) rfl (by decide) (fun st=>AL JZ (ee st rfl) (E8 (ee st rfl) (ee st rfl) (ee st rfl)) (a46 aS d.B6 0 b.Ak ZA _ a2 cI)) ?_;rintro _ bN ⟨a5,rfl⟩;have bO:=bM.ext a5;refine As rfl rfl (Ac rfl g) rfl (by decide) (fun st=>DC (ee st rfl))<|wd rfl (fun st=>Bm (v:=.bool !a2) (ee st rfl) g (ee st rfl))<|Af<|Aa ?_;rcases Ao (!a2) with aF|aF
                ·replace a:=AD a aF;have cW:a2=false:=by simpa using aF
                 refine Az rfl aF<|Ad<|Ab<|wa rfl (v:=I 1) rfl<|Af<|Aa<|AB<|AW<|Ax<|Ax ?_;have cJ:Hp FN [] w [some x] bN:=bO.erase 0;obtain rfl:=Option.some.inj a;refine BY (fun st=>?_);exact .inl ⟨rfl,(1:Int),rfl,qz st,qd st,sp st 2 rfl,cJ⟩
                ·replace a:=AE a aF;have cX:a2=true:=by simpa using aF
                 refine AI rfl aF<|AT<|Bl<|Aa<|Ab<|wm rfl (v:=I r) aI ?_;replace a:=AU a;obtain⟨cK,a⟩:=a;refine wd rfl (fun st=>BA (ee st rfl) (ee st rfl) cK)<|wa rfl (v:=I (r+1)) rfl<|Af ?_;have cL:Hp FN [] w [some x] bN:=bO.erase 0;have bP:=(a0.ext a5);have a6:Sl AJ bN (ZZ FN [] Z w.heap.size [some x]) j m b.Ae:=((((((aC.mv (Aw aK)).mv (bJ.AR u.gr 0 rfl)).mv (Aj aU)).mv (Aj aV)).mv (Aj a5)).mv (AM 0));refine BB b6 (Nat.lt_succ_self _) (fun st=>?_);exact⟨(r+1),a,qz st,qd st,sp st 1 t,sp st 3 rfl,cL,bP,a6⟩
          ·replace a:=AE a aJ;refine AI rfl aJ<|Ci<|AQ<|AQ ?_;obtain rfl:=Option.some.inj a;refine BY (fun st=>?_);exact .inr ⟨rfl,(),rfl,qz st,qd st,sp st 1 t,bI,aD,aC⟩
        case b5=>
         rintro b3 c9 dC (⟨rfl,aH,rfl,aL,aM,bD,aW⟩|⟨rfl,aH,rfl,aL,aM,bE,aW,bF,a3⟩)
         ·skip
          replace a:=Ex a;refine Co (X:=X0) (N:=101) aL aM<|AW<|Ax ?_;obtain rfl:=Option.some.inj a;refine AO rfl bD ?_;exact⟨aW.Bo,rfl⟩
         ·skip
          replace a:=Ey a;refine Co (X:=X0) (N:=101) aL aM<|Br<|Aa<|Ad<|Ad<|Ab<|wd rfl (fun st=>Bd (l:=[I b.Ak,I b.Ag,I b.An,I b.Av,.slice j b.Ae.length m]) Fy (ee st bE) bF rfl rfl) ?_;replace a:=bind_some a;obtain⟨bY,cM,a⟩:=a;refine we rfl (fun st=>AL PA (ee st rfl) (Cw (ee st rfl)) (T3 aS b j m ZA _ a3.all bY cM)) ?_;rintro _ dK ⟨cN,rfl⟩;have bQ:=aW.ext cN;refine wd rfl (fun st=>FX (ee st rfl) (ee st rfl))<|Af<|Aa ?_;rcases Ao (decide ((1000:Int)<bY)) with aN|aN
          ·replace a:=AD a aN;refine Az rfl aN<|Ad<|Ab<|wa rfl (v:=I 3) rfl<|Af<|Aa<|AB<|Ax ?_;obtain rfl:=Option.some.inj a;refine AO rfl rfl ?_;exact⟨bQ.Bo,rfl⟩
          ·replace a:=AE a aN;refine AI rfl aN<|AT<|Aa<|Ad<|Ab<|wa rfl (v:=I 0) rfl<|Af<|Aa<|AB ?_;obtain rfl:=Option.some.inj a;refine AO rfl rfl ?_;exact⟨bQ.Bo,rfl⟩
theorem UE(p:Nat)(e:Ap)(b:AX)(h:Option Addr)(j:Nat)(Z:Nat→Prop)(w:World)(x:Sl AJ w Z h j e.Ae)(aO:Bool)(a:EB p e b=some aO):
 BF Tryz.prog 89 #[.agg #[I e.Ak,I e.Ag,I e.An,I e.Av,.slice h e.Ae.length j],.agg #[I b.Au,I b.AG,I b.AN,I b.B0,I b.B6]] w (fun v w'=>Ext w w'∧BN.R w' (ZZ FN [] Z w.heap.size []) v aO):=by
 unfold EB at a;refine A3 (N:=27) Tryz.func89 rfl rfl (by simp) ?_;intro aW aH aX;have aI:=AH (i:=0) (v:=.agg #[I e.Ak,I e.Ag,I e.An,I e.Av,.slice h e.Ae.length j]) aH rfl;have aJ:=AH (i:=1) (v:=.agg #[I b.Au,I b.AG,I b.AN,I b.B0,I b.B6]) aH rfl;clear aH;have aC:Hp FN [] w [] w:=Hp.start (BH.none w);have aN:=x.mv (Bi (Z:=Z) (L:=[]) w);refine Ad<|Ab<|we rfl (fun st=>BU (v:=.agg #[I e.Ak,I e.Ag,I e.An,I e.Av,.slice h e.Ae.length j]) (cs:= #[I e.Ak,I e.Ag,I e.An,I e.Av,.slice h e.Ae.length j]) (ee st aI) rfl) ?_;rintro _ w1 ⟨a0,rfl,q⟩;have aD:=aC.nb q;have aU:=aC.BK q;refine we rfl (fun st=>BU (v:=.agg #[I b.Au,I b.AG,I b.AN,I b.B0,I b.B6]) (cs:= #[I b.Au,I b.AG,I b.AN,I b.B0,I b.B6]) (ee st aJ) rfl) ?_;rintro _ w2 ⟨a2,rfl,k⟩;have aP:=aD.nb k;have aV:=aD.BK k;refine wa rfl (v:=.bool false) rfl<|Af<|Aa<|Ad<|Ab<|wd rfl (fun st=>Am (ee st rfl) (Jm _ _))<|wd rfl (fun st=>Bd (l:=[I b.Au,I b.AG]) Kg (ee st rfl) k.bk rfl rfl)<|wd rfl (fun st=>Am (ee st rfl) (G5 _ _)) ?_;have m:=(q.bk.ext k.gr);refine wd rfl (fun st=>Ar (v:=I e.Ak) AY (ee st rfl) m rfl) ?_;replace a:=bind_some a;obtain⟨aK,aQ,a⟩:=a;refine we rfl (fun st=>AL Ru (ee st rfl) (Ew (ee st rfl) (ee st rfl)) (Ug p (⟨b.Au,b.AG⟩:CI) e.Ak ZA _ aK aQ)) ?_;rintro _ a3 ⟨r,rfl⟩;have aE:=aP.ext r;refine wm rfl (v:=.bool aK) rfl ?_;rcases Ao (aK) with f|f
 ·replace a:=AD a f;refine As rfl rfl (Ac rfl f) rfl (by decide) (fun st=>Am (ee st rfl) (G0 _ _)) ?_;have n:=(k.bk.ext r);refine As rfl rfl (Ac rfl f) rfl (by decide) (fun st=>Ar (v:=I b.AN) AY (ee st rfl) n rfl) ?_;replace a:=bind_some a;obtain⟨y,aR,a⟩:=a;refine Dj rfl rfl (Ac rfl f) rfl (by decide) (fun st=>AL NR (ee st rfl) (Cw (ee st rfl)) (a141 p b.AN ZA _ y aR)) ?_;rintro _ a4 ⟨s,rfl⟩;have aF:=aE.ext s;refine wd rfl (fun st=>AV (v:=.bool y) (ee st rfl) f (ee st rfl))<|wm rfl (v:=.bool y) rfl ?_;rcases Ao (y) with g|g
  ·replace a:=AD a g;refine As rfl rfl (Ac rfl g) rfl (by decide) (fun st=>Am (ee st rfl) (KM _ _)) ?_;have o:=(n.ext s);refine As rfl rfl (Ac rfl g) rfl (by decide) (fun st=>Ar (v:=I b.B0) AY (ee st rfl) o rfl) ?_;replace a:=bind_some a;obtain⟨z,aS,a⟩:=a;refine Dj rfl rfl (Ac rfl g) rfl (by decide) (fun st=>AL NR (ee st rfl) (Cw (ee st rfl)) (a141 p b.B0 ZA _ z aS)) ?_;rintro _ aY ⟨t,rfl⟩;have aG:=aF.ext t;refine wd rfl (fun st=>AV (v:=.bool z) (ee st rfl) g (ee st rfl))<|wm rfl (v:=.bool z) rfl ?_;rcases Ao (z) with d|d
   ·replace a:=AD a d;refine As rfl rfl (Ac rfl d) rfl (by decide) (fun st=>Am (ee st rfl) (MZ _ _)) ?_;have aA:=(o.ext t);refine As rfl rfl (Ac rfl d) rfl (by decide) (fun st=>Ar (v:=I b.B6) AY (ee st rfl) aA rfl)<|As rfl rfl (Ac rfl d) rfl (by decide) (fun st=>Am (ee st rfl) (G5 _ _)) ?_;have aB:=(((m.ext r).ext s).ext t);refine As rfl rfl (Ac rfl d) rfl (by decide) (fun st=>Ar (v:=I e.Ak) AY (ee st rfl) aB rfl) ?_;replace a:=bind_some a;obtain⟨u,aL,a⟩:=a;refine Dj rfl rfl (Ac rfl d) rfl (by decide) (fun st=>AL IK (ee st rfl) (E8 (ee st rfl) (ee st rfl) (ee st rfl)) (N6 p b.B6 0 e.Ak ZA _ u aL)) ?_;rintro _ aZ ⟨aM,rfl⟩;have aT:=aG.ext aM;refine wd rfl (fun st=>AV (v:=.bool u) (ee st rfl) d (ee st rfl))<|wa rfl (v:=.bool u) rfl<|Af<|Aa<|AB ?_;obtain rfl:=Option.some.inj a;refine AO rfl rfl ?_;exact⟨aT.Bo,rfl⟩
   ·replace a:=AE a d;refine Ai (c:=false) rfl rfl (Ac rfl d) (by decide) rfl (by decide)<|Ai (c:=false) rfl rfl (Ac rfl d) (by decide) rfl (by decide)<|Ai (c:=false) rfl rfl (Ac rfl d) (by decide) rfl (by decide)<|Ai (c:=false) rfl rfl (Ac rfl d) (by decide) rfl (by decide)<|Ai (c:=false) rfl rfl (Ac rfl d) (by decide) rfl (by decide)<|wd rfl (fun st=>Bm (v:=.bool false) (ee st rfl) d (ee st rfl))<|wa rfl (v:=.bool false) rfl<|Af<|Aa<|AB ?_;obtain rfl:=Option.some.inj a;refine AO rfl rfl ?_;exact⟨aG.Bo,rfl⟩
  ·replace a:=AE a g;refine Ai (c:=false) rfl rfl (Ac rfl g) (by decide) rfl (by decide)<|Ai (c:=false) rfl rfl (Ac rfl g) (by decide) rfl (by decide)<|Ai (c:=false) rfl rfl (Ac rfl g) (by decide) rfl (by decide)<|wd rfl (fun st=>Bm (v:=.bool false) (ee st rfl) g (ee st rfl))<|wm rfl (v:=.bool false) rfl<|Ai rfl rfl rfl (by decide) rfl (by decide)<|Ai rfl rfl rfl (by decide) rfl (by decide)<|Ai rfl rfl rfl (by decide) rfl (by decide)<|Ai rfl rfl rfl (by decide) rfl (by decide)<|Ai rfl rfl rfl (by decide) rfl (by decide)<|wd rfl (fun st=>Bm (v:=.bool false) (ee st rfl) rfl (ee st rfl))<|wa rfl (v:=.bool false) rfl<|Af<|Aa<|AB ?_;obtain rfl:=Option.some.inj a;refine AO rfl rfl ?_;exact⟨aF.Bo,rfl⟩
 ·replace a:=AE a f;refine Ai (c:=false) rfl rfl (Ac rfl f) (by decide) rfl (by decide)<|Ai (c:=false) rfl rfl (Ac rfl f) (by decide) rfl (by decide)<|Ai (c:=false) rfl rfl (Ac rfl f) (by decide) rfl (by decide)<|wd rfl (fun st=>Bm (v:=.bool false) (ee st rfl) f (ee st rfl))<|wm rfl (v:=.bool false) rfl<|Ai rfl rfl rfl (by decide) rfl (by decide)<|Ai rfl rfl rfl (by decide) rfl (by decide)<|Ai rfl rfl rfl (by decide) rfl (by decide)<|wd rfl (fun st=>Bm (v:=.bool false) (ee st rfl) rfl (ee st rfl))<|wm rfl (v:=.bool false) rfl<|Ai rfl rfl rfl (by decide) rfl (by decide)<|Ai rfl rfl rfl (by decide) rfl (by decide)<|Ai rfl rfl rfl (by decide) rfl (by decide)<|Ai rfl rfl rfl (by decide) rfl (by decide)<|Ai rfl rfl rfl (by decide) rfl (by decide)<|wd rfl (fun st=>Bm (v:=.bool false) (ee st rfl) rfl (ee st rfl))<|wa rfl (v:=.bool false) rfl<|Af<|Aa<|AB ?_;obtain rfl:=Option.some.inj a;refine AO rfl rfl ?_;exact⟨aE.Bo,rfl⟩
theorem UF(aT:Nat)(h:List Int)(n:List Int)(c:Option Addr)(d:Nat)(f:Option Addr)(g:Nat)(Z:Nat→Prop)(w:World)(aJ:Sl (Ay .i64) w Z c d h)(aK:Sl (Ay .i64) w Z f g n)(aU:Bool)(a:E3 aT h n=some aU):
 BF Tryz.prog 55 #[.slice c h.length d,.slice f n.length g] w (fun v w'=>Ext w w'∧BN.R w' (ZZ FN [] Z w.heap.size []) v aU):=by
 unfold E3 at a;refine A3 (N:=26) Tryz.func55 rfl rfl (by simp) ?_;intro bI aO bJ;have aF:=AH (i:=0) (v:=.slice c h.length d) aO rfl;have aG:=AH (i:=1) (v:=.slice f n.length g) aO rfl;clear aO;have aL:Hp FN [] w [] w:=Hp.start (BH.none w);have aA:=aJ.mv (Bi (Z:=Z) (L:=[]) w);have aB:=aK.mv (Bi (Z:=Z) (L:=[]) w);refine Ad<|Ab<|wa rfl (v:=.bool false) rfl<|Af<|Aa<|Ad<|Ad<|Ab<|wm rfl (v:=.slice c h.length d) aF<|wd rfl (fun st=>BS Tryz.underlying23 (ee st rfl))<|wm rfl (v:=.slice f n.length g) aG<|wd rfl (fun st=>BS Tryz.underlying23 (ee st rfl))<|wd rfl (fun st=>Fh (ee st rfl) (ee st rfl))<|Af<|Aa ?_;rcases Ao ((h.length:Int) !=(n.length:Int)) with t|t
 ·replace a:=AD a t;refine Az rfl t<|Ad<|Ab<|wa rfl (v:=.bool false) rfl<|Af<|Aa<|AB<|Ax ?_;obtain rfl:=Option.some.inj a;refine AO rfl rfl ?_;exact⟨aL.Bo,rfl⟩
 ·replace a:=AE a t;refine AI rfl t<|AT<|Aa<|Ad<|Ad<|Ab<|wa rfl (v:=I 0) rfl<|Af<|Aa<|A8 ?_;replace a:=bind_some a;obtain⟨z2,o,a⟩:=a;refine Cn (fun aP e aC=>(aP=.ret∧∃p,z2=.inl p∧e.tmps.size=26∧e.defers=(X0).ds∧sl e 4=.bool p∧Hp FN [] w [] aC)∨(aP=.exit 0∧∃p,z2=.inr p∧e.tmps.size=26∧e.defers=(X0).ds∧Hp FN [] w [] aC)) ?aV ?aW
  case aV=>
   clear a;refine Cm (fun(aQ:Nat) (e:Act) (aC:World)=>∃b,Ds h n aQ b=some z2∧e.tmps.size=26∧e.defers=(X0).ds∧sl e 0=.slice c h.length d∧sl e 1=.slice f n.length g∧sl e 5=I b∧Hp FN [] w [] aC∧Sl (Ay .i64) aC (ZZ FN [] Z w.heap.size []) c d h∧Sl (Ay .i64) aC (ZZ FN [] Z w.heap.size []) f g n) aT ?aX ?aY
   case aX=>
    intro st;exact⟨(0:Int),o,qz st,qd st,sp st 0 aF,sp st 1 aG,sp st 5 rfl,aL,aA,aB⟩
   case aY=>
    rintro(_|aQ) bK bL ⟨b,o,aR,aS,q,z,j,aM,l,m⟩
    ·exact absurd (show none=some _ from o) (by simp)
    rw[Ds.eq_2] at o;have a:=o;clear o;refine B1 (N:=26) aR aS<|Ad<|Ad<|Ab<|wm rfl (v:=I b) j<|wm rfl (v:=.slice c h.length d) q<|wd rfl (fun st=>BS Tryz.underlying23 (ee st rfl))<|wd rfl (fun st=>Cx (ee st rfl) (ee st rfl))<|Af<|Aa ?_;rcases Ao (decide (b<(h.length:Int))) with u|u
    ·replace a:=AD a u;refine Az rfl u<|AT<|Aa<|Ad<|A8<|Ad ?_;replace a:=Bs a;obtain⟨i5,aZ,a0,a2,a3,a⟩:=a;obtain⟨bD,bE,_,a4,rfl,a5⟩:=Sl.E9 l rfl a2;replace a:=Bs a;obtain⟨i6,a6,a7,a8,a9,a⟩:=a;obtain⟨bF,bG,_,bA,rfl,bB⟩:=Sl.E9 m rfl a8;refine Dp 8 [Kc (.slice c h.length d),Kc (I b),Kc (pt bD (bE+i5)),Kc (I aZ),Kc (.slice f n.length g),Kc (I b),Kc (pt bF (bG+i6)),Kc (I a6)] mixed rfl rfl
         (Ah (od rfl (fun _=>rfl) (fun K=>AZ (es ((K.out 0 rfl).trans q))))
         (Ah (od rfl (fun _=>rfl) (fun K=>AZ (es ((K.out 5 rfl).trans j))))
         (Ah (od rfl (fun _=>rfl) (fun K=>BE (k:=i5) Tryz.underlying23 Dv (es (K.AK 0 17 rfl rfl)) a4 (es (K.AK 1 18 rfl rfl)) a0 a3))
         (Ah (od rfl (fun _=>rfl) (fun K=>Cq AY (es (K.AK 2 19 rfl rfl)) (a5.mv (Aj K.Bp)) rfl))
         (Ah (od rfl (fun _=>rfl) (fun K=>AZ (es ((K.out 1 rfl).trans z))))
         (Ah (od rfl (fun _=>rfl) (fun K=>AZ (es ((K.out 5 rfl).trans j))))
         (Ah (od rfl (fun _=>rfl) (fun K=>BE (k:=i6) Tryz.underlying23 Dv (es (K.AK 4 21 rfl rfl)) bA (es (K.AK 5 22 rfl rfl)) a7 a9))
         (Ah (od rfl (fun _=>rfl) (fun K=>Cq AY (es (K.AK 6 23 rfl rfl)) (bB.mv (Aj K.Bp)) rfl))
         (Cr _))))))))) ?_
     intro bN;rintro _ rfl _ rfl _ rfl _ rfl _ rfl _ rfl _ rfl _ rfl aH;have aN:=aM.ext aH;refine wd rfl (fun st=>Fh (ee st rfl) (ee st rfl))<|Af<|Aa ?_;rcases Ao (aZ !=a6) with x|x
     ·replace a:=AD a x;refine Az rfl x<|Ad<|Ab<|wa rfl (v:=.bool false) rfl<|Af<|Aa<|AB<|AW<|Ax<|Ax ?_;obtain rfl:=Option.some.inj a;refine BY (fun st=>?_);exact .inl ⟨rfl,false,rfl,qz st,qd st,sp st 4 rfl,aN⟩
     ·replace a:=AE a x;refine AI rfl x<|AT<|Bl<|Aa<|Ab<|wm rfl (v:=I b) j ?_;replace a:=AU a;obtain⟨bC,a⟩:=a;refine wd rfl (fun st=>BA (ee st rfl) (ee st rfl) bC)<|wa rfl (v:=I (b+1)) rfl<|Af ?_;have aD:=(l.mv (Aj aH));have aE:=(m.mv (Aj aH));refine BB aQ (Nat.lt_succ_self _) (fun st=>?_);exact⟨(b+1),a,qz st,qd st,sp st 0 q,sp st 1 z,sp st 5 rfl,aN,aD,aE⟩
    ·replace a:=AE a u;refine AI rfl u<|Ci<|AQ<|AQ ?_;obtain rfl:=Option.some.inj a;refine BY (fun st=>?_);exact .inr ⟨rfl,(),rfl,qz st,qd st,aM⟩
  case aW=>
   rintro aP bH bM (⟨rfl,p,rfl,r,s,aI,y⟩|⟨rfl,p,rfl,r,s,y⟩)
   ·skip
    replace a:=Ex a;refine Co (X:=X0) (N:=26) r s<|AW<|Ax ?_;obtain rfl:=Option.some.inj a;refine AO rfl aI ?_;exact⟨y.Bo,rfl⟩
   ·skip
    replace a:=Ey a;refine Co (X:=X0) (N:=26) r s<|Br<|Aa<|Ad<|Ab<|wa rfl (v:=.bool true) rfl<|Af<|Aa<|AB ?_;obtain rfl:=Option.some.inj a;refine AO rfl rfl ?_;exact⟨y.Bo,rfl⟩
theorem Lg(y:Nat)(a:Int)(Z:Nat→Prop)(w:World)(s:Ap)(t:Cu y a=some s):
 BF Tryz.prog 82 #[I a] w (fun v w'=>Ext w w'∧(DK H9).R w' (ZZ FN [] Z w.heap.size []) v s):=by
 unfold Cu at t;refine A3 (N:=9) Tryz.func82 rfl rfl (by simp) ?_;intro z u aA;have r:=AH (i:=0) (v:=I a) u rfl;clear u;have m:Hp FN [] w [] w:=Hp.start (BH.none w);refine Ad<|Ab<|we rfl (fun st=>BQ (cs:= #[I 0,I 0,I 0,I 0,.slice none 0 0]) LB rfl) ?_;rintro _ w1 ⟨aB,rfl,c⟩;have o:=m.nb c;have x:=m.BK c;refine Af<|Aa<|Ad<|Ab<|wm rfl (v:=I a) r<|wd rfl (fun st=>CU (vs:= #[(1,I 2),(2,I 2),(3,I 2)]) (v:=.agg #[I 0,I 0,I 2,I 2,I 2]) (Jv (ee st rfl) (ee st rfl) (ee st rfl)) (by kernel_rfl))<|wd rfl (fun st=>CU (vs:= #[(0,I 1),(1,I 1)]) (v:=.agg #[I 1,I 1]) (Ik (ee st rfl) (ee st rfl)) (by kernel_rfl))<|wd rfl (fun st=>CU (vs:= #[(0,.agg #[I 1,I 1]),(1,I 2),(2,I 1),(3,I 5)]) (v:=.agg #[I 1,I 1,I 2,I 1,I 5]) (Sd (ee st rfl) (ee st rfl) (ee st rfl) (ee st rfl)) (by kernel_rfl))<|we rfl (fun st=>BP (e:=156) (vs:= #[(0,.agg #[I 0,I 0,I 2,I 2,I 2]),(1,.agg #[I 1,I 1,I 2,I 1,I 5])]) (cs:= #[I 0,I 0,I 2,I 2,I 2,I 1,I 1,I 2,I 1,I 5]) (Ik (ee st rfl) (ee st rfl)) (by kernel_rfl)) ?_;rintro _ w2 ⟨d,rfl,b⟩;have p:=o.nb b;have g:=o.BK b;refine wd rfl (fun st=>CU (vs:= #[(0,I 5),(1,I 1),(2,I a),(3,I 1),(4,.slice (some ⟨d,0,none⟩) 2 2)]) (v:=.agg #[I 5,I 1,I a,I 1,.slice (some ⟨d,0,none⟩) 2 2]) (Uz (ee st rfl) (ee st rfl) (ee st rfl) (ee st rfl) (ee st rfl)) (by kernel_rfl)) ?_;have j:=(c.bk.ext b.gr);refine Bh rfl rfl (fun st=>Bc (n:=5) (l:=[I 5,I 1,I a,I 1,.slice (some ⟨d,0,none⟩) 2 2]) (Cd:= #[I 5,I 1,I a,I 1,.slice (some ⟨d,0,none⟩) 2 2]) (ee st rfl) (ee st rfl) ON j rfl rfl (show 0+5≤5 by decide) (AP rfl) rfl) ?_;rintro _ aC f;have q:=p.gr f.gr 1 rfl;refine Af<|Aa<|AB ?_;obtain rfl:=Option.some.inj t;refine Gt (v:=.agg #[I 5,I 1,I a,I 1,.slice (some ⟨d,0,none⟩) 2 2]) rfl rfl (CZ CE f.bk rfl rfl) ?_;have k:=(b.bk.gr f.gr (p.ne 0 1 rfl rfl rfl));exact⟨q.Bo,⟨_,rfl,_,_,rfl,Gj (e:=AJ) (xs:=[(⟨0,0,2,2,2⟩:AX),(⟨1,1,2,1,5⟩:AX)]) (Ba:=[[I 0,I 0,I 2,I 2,I 2],[I 1,I 1,I 2,I 1,I 5]]) k (.inr ⟨g,fun hm=>q.Bq (F':=FN) (M:=[]) 0 rfl [] rfl trivial (fun _ h=>h.elim) (.inr hm)⟩) ⟨rfl,rfl,trivial⟩ rfl (Nat.le_refl _)⟩⟩
theorem UG(bA:Nat)(b:Int)(Z:Nat→Prop)(w:World)(aX:A5)(j:FY bA b=some aX):
 BF Tryz.prog 83 #[I b] w (fun v w'=>Ext w w'∧(DK F7).R w' (ZZ FN [] Z w.heap.size []) v aX):=by
 unfold FY at j;refine A3 (N:=12) Tryz.func83 rfl rfl (by simp) ?_;intro bH aY bI;have aQ:=AH (i:=0) (v:=I b) aY rfl;clear aY;have aI:Hp FN [] w [] w:=Hp.start (BH.none w);refine Ad<|Ab<|we rfl (fun st=>BQ (cs:= #[.slice none 0 0,.slice none 0 0]) GA rfl) ?_;rintro _ w1 ⟨t,rfl,u⟩;have aJ:=aI.nb u;have a7:=aI.BK u;refine Af<|Aa<|Ad<|Ab<|we rfl (fun st=>BP (e:=3) (vs:= #[(0,I 0),(1,I 1)]) (cs:= #[I 0,I 1]) (Ik (ee st rfl) (ee st rfl)) (by kernel_rfl)) ?_;rintro _ w2 ⟨c,rfl,q⟩;have x:=aJ.nb q;have aD:=aJ.BK q;replace j:=GU j;obtain⟨aZ,j⟩:=j;refine we rfl (fun st=>Ht (e:=Bt) (z:=false) (zc:=[.bool false]) (n0:=w.heap.size) (b':=1) Tryz.underlying65 M8 rfl rfl (ee st rfl) (ee st rfl) aZ (fun _ _=>rfl) x.sz (by decide)) ?_;rintro _ a0 ⟨a,rfl,aK,aR,y,aS⟩;have aL:Hp FN [] w [some a,some c,some t] a0:=x.new y aK aR;have a8:w.heap.size≤a:=Nat.le_trans x.sz aK;have a2:AF Bt 4 w.heap.size a0 (ZZ FN [] Z w.heap.size [some a,some c,some t]) (some ⟨a,0,none⟩) ((6:Int).toNat) (List.replicate (6:Int).toNat false):=aS _;refine wd rfl (fun st=>CU (vs:= #[(0,.slice (some ⟨c,0,none⟩) 2 2),(1,.slice (some ⟨a,0,none⟩) ((List.replicate (6:Int).toNat false).length) ((6:Int).toNat))]) (v:=.agg #[.slice (some ⟨c,0,none⟩) 2 2,.slice (some ⟨a,0,none⟩) ((List.replicate (6:Int).toNat false).length) ((6:Int).toNat)]) (Ik (ee st rfl) (ee st rfl)) (by kernel_rfl))<|we rfl (fun st=>BQ (cs:= #[.slice none 0 0,.slice none 0 0]) GA rfl) ?_;rintro _ bK ⟨aE,rfl,d⟩;have m:=aL.nb d;have a9:=aL.BK d;refine Bh rfl rfl (fun st=>Bc (n:=2) (l:=[.slice (some ⟨c,0,none⟩) 2 2,.slice (some ⟨a,0,none⟩) ((List.replicate (6:Int).toNat false).length) ((6:Int).toNat)]) (Cd:= #[.slice (some ⟨c,0,none⟩) 2 2,.slice (some ⟨a,0,none⟩) ((List.replicate (6:Int).toNat false).length) ((6:Int).toNat)]) (ee st rfl) (ee st rfl) GG d.bk rfl rfl (show 0+2≤2 by decide) (AP rfl) rfl) ?_;rintro _ bB f;have o:=m.gr f.gr 0 rfl;refine Af<|Aa<|Ad<|Ab<|wd rfl (fun st=>Am (ee st rfl) (G6 _ _))<|wd rfl (fun st=>Ar (v:=.slice (some ⟨a,0,none⟩) ((List.replicate (6:Int).toNat false).length) ((6:Int).toNat)) GI (ee st rfl) f.bk rfl)<|wm rfl (v:=I b) aQ ?_;replace j:=Bs j;obtain⟨i7,bL,aM,aN,aA,j⟩:=j;have r:AF Bt 4 w.heap.size bB (ZZ FN [] Z w.heap.size [some aE,some a,some c,some t]) (some ⟨a,0,none⟩) ((6:Int).toNat) (List.replicate (6:Int).toNat false):=((a2.ext d.gr (Aw d)).gr f.gr (fun k aT=>m.ne 1 0 rfl (congrArg some aT) rfl) (m.AR f.gr 0 rfl));obtain⟨bM,bN,_,aO,rfl,bJ⟩:=Sl.E9 r.all rfl aN;refine wd rfl (fun st=>BE (k:=i7) Tryz.underlying65 J0 (ee st rfl) aO (ee st rfl) aM aA) ?_;have aP:b.toNat=i7:=by rw[aM,Int.toNat_natCast]
 refine Bh rfl rfl (fun st=>FH (k:=i7) (z':=true) (l:=[.bool true]) r aN aO rfl (ee st rfl) (ee st rfl) J0 rfl rfl (AP rfl) rfl) ?_;rintro _ a3 ⟨p,a4⟩;have s:=o.gr p 1 rfl;have aU:AF Bt 4 w.heap.size a3 (ZZ FN [] Z w.heap.size [some aE,some a,some c,some t]) (some ⟨a,0,none⟩) ((6:Int).toNat) ((List.replicate (6:Int).toNat false).set b.toNat true):=by rw[show(List.replicate (6:Int).toNat false).set b.toNat true=(List.replicate (6:Int).toNat false).set i7 true from congrArg (fun aV=>(List.replicate (6:Int).toNat false).set aV true) aP];exact FQ a4 (o.AR p 1 rfl)
 have bC:((List.replicate (6:Int).toNat false).set b.toNat true)[i7]?=some true:=by rw[show(List.replicate (6:Int).toNat false).set b.toNat true=(List.replicate (6:Int).toNat false).set i7 true from congrArg (fun aV=>(List.replicate (6:Int).toNat false).set aV true) aP];exact List.getElem?_set_self aA
 have bD:i7<((List.replicate (6:Int).toNat false).set b.toNat true).length:=by rw[List.length_set];exact aA
 have bE:(.slice (some ⟨a,0,none⟩) ((List.replicate (6:Int).toNat false).length) ((6:Int).toNat):Value)=.slice (some ⟨a,0,none⟩) (((List.replicate (6:Int).toNat false).set b.toNat true).length) ((6:Int).toNat):=by simp only[List.length_set]
 have bF:(.agg #[.slice (some ⟨c,0,none⟩) 2 2,.slice (some ⟨a,0,none⟩) ((List.replicate (6:Int).toNat false).length) ((6:Int).toNat)]:Value)=.agg #[.slice (some ⟨c,0,none⟩) 2 2,.slice (some ⟨a,0,none⟩) (((List.replicate (6:Int).toNat false).set b.toNat true).length) ((6:Int).toNat)]:=by simp only[List.length_set]
 have bG:(.slice (some ⟨a,0,none⟩) ((List.replicate (6:Int).toNat false).length) ((6:Int).toNat):Value)=.slice (some ⟨a,0,none⟩) (((List.replicate (6:Int).toNat false).set b.toNat true).length) ((6:Int).toNat):=by simp only[List.length_set]
 have aF:=(f.bk.gr p (o.ne 0 1 rfl rfl rfl));have aW:Bk a3 aE 78 #[.slice (some ⟨c,0,none⟩) 2 2,.slice (some ⟨a,0,none⟩) (((List.replicate (6:Int).toNat false).set b.toNat true).length) ((6:Int).toNat)]:=by have a5:=aF;simp only[List.length_set] at a5⊢;exact a5
 refine Af<|Aa<|Ad<|Ab<|wd rfl (fun st=>Bd (l:=[.slice (some ⟨c,0,none⟩) 2 2,.slice (some ⟨a,0,none⟩) (((List.replicate (6:Int).toNat false).set b.toNat true).length) ((6:Int).toNat)]) FO (ee st rfl) aW rfl rfl) ?_;have aG:=(((((u.bk.ext q.gr).ext y).ext d.gr).gr f.gr (m.ne 3 0 rfl rfl rfl)).gr p (o.ne 3 1 rfl rfl rfl));refine Bh rfl rfl (fun st=>Bc (n:=2) (l:=[.slice (some ⟨c,0,none⟩) 2 2,.slice (some ⟨a,0,none⟩) (((List.replicate (6:Int).toNat false).set b.toNat true).length) ((6:Int).toNat)]) (Cd:= #[.slice (some ⟨c,0,none⟩) 2 2,.slice (some ⟨a,0,none⟩) (((List.replicate (6:Int).toNat false).set b.toNat true).length) ((6:Int).toNat)]) (ee st rfl) (ee st rfl) GG aG rfl rfl (show 0+2≤2 by decide) (AP rfl) rfl) ?_;rintro _ a6 g;have aB:=s.gr g.gr 3 rfl;refine Af<|Aa<|AB ?_;obtain rfl:=Option.some.inj j;refine Gt (v:=.agg #[.slice (some ⟨c,0,none⟩) 2 2,.slice (some ⟨a,0,none⟩) (((List.replicate (6:Int).toNat false).set b.toNat true).length) ((6:Int).toNat)]) rfl rfl (CZ FO g.bk rfl rfl) ?_;have aH:=(((((q.bk.ext y).ext d.gr).gr f.gr (m.ne 2 0 rfl rfl rfl)).gr p (o.ne 2 1 rfl rfl rfl)).gr g.gr (s.ne 2 3 rfl rfl rfl));have aC:AF Bt 4 w.heap.size a6 (ZZ FN [] Z w.heap.size [some aE,some a,some c,some t]) (some ⟨a,0,none⟩) ((6:Int).toNat) ((List.replicate (6:Int).toNat false).set b.toNat true):=(aU.gr g.gr (fun k aT=>s.ne 1 3 rfl (congrArg some aT) rfl) (s.AR g.gr 3 rfl));exact⟨aB.Bo,⟨_,rfl,_,_,_,_,rfl,Gj (e:=(Ay .i64)) (xs:=[0,1]) (Ba:=[[I 0],[I 1]]) aH (.inr ⟨aD,fun hm=>aB.Bq (F':=FN) (M:=[]) 2 rfl [] rfl trivial (fun _ h=>h.elim) (.inr hm)⟩) ⟨rfl,rfl,trivial⟩ rfl (Nat.le_refl _),aB.KC (M:=[]) 1 rfl [] rfl trivial aC⟩⟩
theorem UH(aX:Nat)(g:List Aq)(a:Aq)(e:Aq)(j:Option Addr)(m:Nat)(Z:Nat→Prop)(w:World)(y:Sl Ck w Z j m g)(aI:Bool)(h:FZ aX g a e=some aI):
 BF Tryz.prog 84 #[.slice j g.length m,.agg #[I a.On,I a.Bg,.bool a.AN],.agg #[I e.On,I e.Bg,.bool e.AN]] w (fun v w'=>Ext w w'∧BN.R w' (ZZ FN [] Z w.heap.size []) v aI):=by
 unfold FZ at h;refine A3 (N:=24) Tryz.func84 rfl rfl (by simp) ?_;intro a0 z a2;have o:=AH (i:=0) (v:=.slice j g.length m) z rfl;have aG:=AH (i:=1) (v:=.agg #[I a.On,I a.Bg,.bool a.AN]) z rfl;have aH:=AH (i:=2) (v:=.agg #[I e.On,I e.Bg,.bool e.AN]) z rfl;clear z;have aA:Hp FN [] w [] w:=Hp.start (BH.none w);have u:=y.mv (Bi (Z:=Z) (L:=[]) w);refine Ad<|Ab<|we rfl (fun st=>BU (v:=.agg #[I a.On,I a.Bg,.bool a.AN]) (cs:= #[I a.On,I a.Bg,.bool a.AN]) (ee st aG) rfl) ?_;rintro _ w1 ⟨a3,rfl,s⟩;have aB:=aA.nb s;have aV:=aA.BK s;refine we rfl (fun st=>BU (v:=.agg #[I e.On,I e.Bg,.bool e.AN]) (cs:= #[I e.On,I e.Bg,.bool e.AN]) (ee st aH) rfl) ?_;rintro _ w2 ⟨a4,rfl,q⟩;have x:=aB.nb q;have aW:=aB.BK q;refine wa rfl (v:=.bool false) rfl<|Af<|Aa<|Ad ?_;rcases Ao ((g.length:Int)==2) with d|d
 ·replace h:=AD h d;replace h:=Bs h;obtain⟨i5,b,aC,aJ,aD,h⟩:=h;have p:=((u.mv (Aw s)).mv (Aw q));obtain⟨aK,aL,_,aE,rfl,aF⟩:=Sl.elem p (by decide) aJ;have t:=(s.bk.ext q.gr);rcases Ao (G9 [.inl b.On,.inl b.Bg,.inr b.AN] [.inl a.On,.inl a.Bg,.inr a.AN]) with f|f
  ·replace h:=AD h f;replace h:=Bs h;obtain⟨i7,n,aM,aN,aO,h⟩:=h;obtain⟨aY,aZ,_,aP,rfl,aQ⟩:=Sl.elem p (by decide) aN;refine Dp 15 [Kc (.slice j g.length m),Kc (I (g.length:Int)),Kc (.bool ((g.length:Int)==2)),Kc (.bool ((g.length:Int)==2)),Kc (.slice j g.length m),Kc (pt aK (aL+i5*3)),Kc (.agg #[I b.On,I b.Bg,.bool b.AN]),Kc (.agg #[I a.On,I a.Bg,.bool a.AN]),Kc (.bool (G9 [.inl b.On,.inl b.Bg,.inr b.AN] [.inl a.On,.inl a.Bg,.inr a.AN])),Kc (.bool (G9 [.inl b.On,.inl b.Bg,.inr b.AN] [.inl a.On,.inl a.Bg,.inr a.AN])),Kc (.bool (G9 [.inl b.On,.inl b.Bg,.inr b.AN] [.inl a.On,.inl a.Bg,.inr a.AN])),Kc (.slice j g.length m),Kc (pt aY (aZ+i7*3)),Kc (.agg #[I n.On,I n.Bg,.bool n.AN]),Kc (.agg #[I e.On,I e.Bg,.bool e.AN])] mixed rfl rfl
       (Ah (od rfl (fun _=>rfl) (fun K=>AZ (es ((K.out 0 rfl).trans o))))
       (Ah (od rfl (fun _=>rfl) (fun K=>BS Tryz.underlying70 (es (K.AK 0 7 rfl rfl))))
       (Ah (od rfl (fun _=>rfl) (fun K=>CO (es (K.AK 1 8 rfl rfl)) (ec (v:=I 2))))
       (Ah (od rfl (fun _=>rfl) (fun K=>AZ (es (K.AK 2 9 rfl rfl))))
       (Ah (BR rfl rfl rfl (fun _=>rfl) (fun a' w' ph K=>Ac (K.AK 3 10 rfl rfl) d) (fun a' w' ph K=>AZ (es ((K.out 0 rfl).trans o))))
       (Ah (BR rfl rfl rfl (fun _=>rfl) (fun a' w' ph K=>Ac (K.AK 3 10 rfl rfl) d) (fun a' w' ph K=>CF (k:=i5) Tryz.underlying70 Eg (es (K.AK 4 11 rfl rfl)) aE (ec (v:=I 0)) aC aD))
       (Ah (BR rfl rfl rfl (fun _=>rfl) (fun a' w' ph K=>Ac (K.AK 3 10 rfl rfl) d) (fun a' w' ph K=>DE (l:=[I b.On,I b.Bg,.bool b.AN]) DN (es (K.AK 5 12 rfl rfl)) (aF.mv (Aj K.Bp)) rfl rfl))
       (Ah (BR rfl rfl rfl (fun _=>rfl) (fun a' w' ph K=>Ac (K.AK 3 10 rfl rfl) d) (fun a' w' ph K=>Bd (l:=[I a.On,I a.Bg,.bool a.AN]) DN (es ((K.out 4 rfl).trans rfl)) (t.ext K.Bp) rfl rfl))
       (Ah (BR rfl rfl rfl (fun _=>rfl) (fun a' w' ph K=>Ac (K.AK 3 10 rfl rfl) d) (fun a' w' ph K=>Om (x1:=[.inl b.On,.inl b.Bg,.inr b.AN]) (x2:=[.inl a.On,.inl a.Bg,.inr a.AN]) KN LC (es (K.AK 6 13 rfl rfl)) (es (K.AK 7 14 rfl rfl)) rfl rfl rfl rfl))
       (Ah (od rfl (fun _=>rfl) (fun K=>AV (es (K.AK 3 10 rfl rfl)) d (es (K.AK 8 15 rfl rfl))))
       (Ah (od rfl (fun _=>rfl) (fun K=>AZ (es (K.AK 9 16 rfl rfl))))
       (Ah (BR rfl rfl rfl (fun _=>rfl) (fun a' w' ph K=>Ac (K.AK 10 17 rfl rfl) f) (fun a' w' ph K=>AZ (es ((K.out 0 rfl).trans o))))
       (Ah (BR rfl rfl rfl (fun _=>rfl) (fun a' w' ph K=>Ac (K.AK 10 17 rfl rfl) f) (fun a' w' ph K=>CF (k:=i7) Tryz.underlying70 Eg (es (K.AK 11 18 rfl rfl)) aP (ec (v:=I 1)) aM aO))
       (Ah (BR rfl rfl rfl (fun _=>rfl) (fun a' w' ph K=>Ac (K.AK 10 17 rfl rfl) f) (fun a' w' ph K=>DE (l:=[I n.On,I n.Bg,.bool n.AN]) DN (es (K.AK 12 19 rfl rfl)) (aQ.mv (Aj K.Bp)) rfl rfl))
       (Ah (BR rfl rfl rfl (fun _=>rfl) (fun a' w' ph K=>Ac (K.AK 10 17 rfl rfl) f) (fun a' w' ph K=>Bd (l:=[I e.On,I e.Bg,.bool e.AN]) DN (es ((K.out 5 rfl).trans rfl)) (q.bk.ext K.Bp) rfl rfl))
       (Cr _)))))))))))))))) ?_
   intro aR;rintro _ rfl _ rfl _ rfl _ rfl _ rfl _ rfl _ rfl _ rfl _ rfl _ rfl _ rfl _ rfl _ rfl _ rfl _ rfl r;have aS:=x.ext r;refine As rfl rfl (Ac rfl f) rfl (by decide) (fun st=>Om (x1:=[.inl n.On,.inl n.Bg,.inr n.AN]) (x2:=[.inl e.On,.inl e.Bg,.inr e.AN]) KN LC (ee st rfl) (ee st rfl) rfl rfl rfl rfl)<|wd rfl (fun st=>AV (v:=.bool (G9 [.inl n.On,.inl n.Bg,.inr n.AN] [.inl e.On,.inl e.Bg,.inr e.AN])) (ee st rfl) f (ee st rfl))<|wa rfl (v:=.bool (G9 [.inl n.On,.inl n.Bg,.inr n.AN] [.inl e.On,.inl e.Bg,.inr e.AN])) rfl<|Af<|Aa<|AB ?_;obtain rfl:=Option.some.inj h;refine AO rfl rfl ?_;exact⟨aS.Bo,rfl⟩
  ·replace h:=AE h f;refine Dp 15 [Kc (.slice j g.length m),Kc (I (g.length:Int)),Kc (.bool ((g.length:Int)==2)),Kc (.bool ((g.length:Int)==2)),Kc (.slice j g.length m),Kc (pt aK (aL+i5*3)),Kc (.agg #[I b.On,I b.Bg,.bool b.AN]),Kc (.agg #[I a.On,I a.Bg,.bool a.AN]),Kc (.bool (G9 [.inl b.On,.inl b.Bg,.inr b.AN] [.inl a.On,.inl a.Bg,.inr a.AN])),Kc (.bool (G9 [.inl b.On,.inl b.Bg,.inr b.AN] [.inl a.On,.inl a.Bg,.inr a.AN])),Kc (.bool (G9 [.inl b.On,.inl b.Bg,.inr b.AN] [.inl a.On,.inl a.Bg,.inr a.AN])),Kc undef,Kc undef,Kc undef,Kc undef] mixed rfl rfl
       (Ah (od rfl (fun _=>rfl) (fun K=>AZ (es ((K.out 0 rfl).trans o))))
       (Ah (od rfl (fun _=>rfl) (fun K=>BS Tryz.underlying70 (es (K.AK 0 7 rfl rfl))))
       (Ah (od rfl (fun _=>rfl) (fun K=>CO (es (K.AK 1 8 rfl rfl)) (ec (v:=I 2))))
       (Ah (od rfl (fun _=>rfl) (fun K=>AZ (es (K.AK 2 9 rfl rfl))))
       (Ah (BR rfl rfl rfl (fun _=>rfl) (fun a' w' ph K=>Ac (K.AK 3 10 rfl rfl) d) (fun a' w' ph K=>AZ (es ((K.out 0 rfl).trans o))))
       (Ah (BR rfl rfl rfl (fun _=>rfl) (fun a' w' ph K=>Ac (K.AK 3 10 rfl rfl) d) (fun a' w' ph K=>CF (k:=i5) Tryz.underlying70 Eg (es (K.AK 4 11 rfl rfl)) aE (ec (v:=I 0)) aC aD))
       (Ah (BR rfl rfl rfl (fun _=>rfl) (fun a' w' ph K=>Ac (K.AK 3 10 rfl rfl) d) (fun a' w' ph K=>DE (l:=[I b.On,I b.Bg,.bool b.AN]) DN (es (K.AK 5 12 rfl rfl)) (aF.mv (Aj K.Bp)) rfl rfl))
       (Ah (BR rfl rfl rfl (fun _=>rfl) (fun a' w' ph K=>Ac (K.AK 3 10 rfl rfl) d) (fun a' w' ph K=>Bd (l:=[I a.On,I a.Bg,.bool a.AN]) DN (es ((K.out 4 rfl).trans rfl)) (t.ext K.Bp) rfl rfl))
       (Ah (BR rfl rfl rfl (fun _=>rfl) (fun a' w' ph K=>Ac (K.AK 3 10 rfl rfl) d) (fun a' w' ph K=>Om (x1:=[.inl b.On,.inl b.Bg,.inr b.AN]) (x2:=[.inl a.On,.inl a.Bg,.inr a.AN]) KN LC (es (K.AK 6 13 rfl rfl)) (es (K.AK 7 14 rfl rfl)) rfl rfl rfl rfl))
       (Ah (od rfl (fun _=>rfl) (fun K=>AV (es (K.AK 3 10 rfl rfl)) d (es (K.AK 8 15 rfl rfl))))
       (Ah (od rfl (fun _=>rfl) (fun K=>AZ (es (K.AK 9 16 rfl rfl))))
       (Ah (DY (c:=false) rfl rfl rfl (by decide) (fun a' w' ph K=>Ac (K.AK 10 17 rfl rfl) f) (fun _=>rfl))
       (Ah (DY (c:=false) rfl rfl rfl (by decide) (fun a' w' ph K=>Ac (K.AK 10 17 rfl rfl) f) (fun _=>rfl))
       (Ah (DY (c:=false) rfl rfl rfl (by decide) (fun a' w' ph K=>Ac (K.AK 10 17 rfl rfl) f) (fun _=>rfl))
       (Ah (DY (c:=false) rfl rfl rfl (by decide) (fun a' w' ph K=>Ac (K.AK 10 17 rfl rfl) f) (fun _=>rfl))
       (Cr _)))))))))))))))) ?_
   intro aR;rintro _ rfl _ rfl _ rfl _ rfl _ rfl _ rfl _ rfl _ rfl _ rfl _ rfl _ rfl _ rfl _ rfl _ rfl _ rfl r;have aT:=x.ext r;refine Ai (c:=false) rfl rfl (Ac rfl f) (by decide) rfl (by decide)<|wd rfl (fun st=>Bm (v:=.bool false) (ee st rfl) f (ee st rfl))<|wa rfl (v:=.bool false) rfl<|Af<|Aa<|AB ?_;obtain rfl:=Option.some.inj h;refine AO rfl rfl ?_;exact⟨aT.Bo,rfl⟩
 ·replace h:=AE h d;refine Dp 15 [Kc (.slice j g.length m),Kc (I (g.length:Int)),Kc (.bool ((g.length:Int)==2)),Kc (.bool ((g.length:Int)==2)),Kc undef,Kc undef,Kc undef,Kc undef,Kc undef,Kc (.bool false),Kc (.bool false),Kc undef,Kc undef,Kc undef,Kc undef] mixed rfl rfl
      (Ah (od rfl (fun _=>rfl) (fun K=>AZ (es ((K.out 0 rfl).trans o))))
      (Ah (od rfl (fun _=>rfl) (fun K=>BS Tryz.underlying70 (es (K.AK 0 7 rfl rfl))))
      (Ah (od rfl (fun _=>rfl) (fun K=>CO (es (K.AK 1 8 rfl rfl)) (ec (v:=I 2))))
      (Ah (od rfl (fun _=>rfl) (fun K=>AZ (es (K.AK 2 9 rfl rfl))))
      (Ah (DY (c:=false) rfl rfl rfl (by decide) (fun a' w' ph K=>Ac (K.AK 3 10 rfl rfl) d) (fun _=>rfl))
      (Ah (DY (c:=false) rfl rfl rfl (by decide) (fun a' w' ph K=>Ac (K.AK 3 10 rfl rfl) d) (fun _=>rfl))
      (Ah (DY (c:=false) rfl rfl rfl (by decide) (fun a' w' ph K=>Ac (K.AK 3 10 rfl rfl) d) (fun _=>rfl))
      (Ah (DY (c:=false) rfl rfl rfl (by decide) (fun a' w' ph K=>Ac (K.AK 3 10 rfl rfl) d) (fun _=>rfl))
      (Ah (DY (c:=false) rfl rfl rfl (by decide) (fun a' w' ph K=>Ac (K.AK 3 10 rfl rfl) d) (fun _=>rfl))
      (Ah (od rfl (fun _=>rfl) (fun K=>Bm (es (K.AK 3 10 rfl rfl)) d (ec (v:=.bool false))))
      (Ah (od rfl (fun _=>rfl) (fun K=>AZ (es (K.AK 9 16 rfl rfl))))
      (Ah (DY (c:=false) rfl rfl rfl (by decide) (fun a' w' ph K=>(show sl a' 17=.bool false from K.AK 10 17 rfl rfl)) (fun _=>rfl))
      (Ah (DY (c:=false) rfl rfl rfl (by decide) (fun a' w' ph K=>(show sl a' 17=.bool false from K.AK 10 17 rfl rfl)) (fun _=>rfl))
      (Ah (DY (c:=false) rfl rfl rfl (by decide) (fun a' w' ph K=>(show sl a' 17=.bool false from K.AK 10 17 rfl rfl)) (fun _=>rfl))
      (Ah (DY (c:=false) rfl rfl rfl (by decide) (fun a' w' ph K=>(show sl a' 17=.bool false from K.AK 10 17 rfl rfl)) (fun _=>rfl))
      (Cr _)))))))))))))))) ?_
  intro aR;rintro _ rfl _ rfl _ rfl _ rfl _ rfl _ rfl _ rfl _ rfl _ rfl _ rfl _ rfl _ rfl _ rfl _ rfl _ rfl r;have aU:=x.ext r;refine Ai rfl rfl rfl (by decide) rfl (by decide)<|wd rfl (fun st=>Bm (v:=.bool false) (ee st rfl) rfl (ee st rfl))<|wa rfl (v:=.bool false) rfl<|Af<|Aa<|AB ?_;obtain rfl:=Option.some.inj h;refine AO rfl rfl ?_;exact⟨aU.Bo,rfl⟩
theorem UI(s:Nat)(a:CI)(Z:Nat→Prop)(w:World)(j:CI)(k:Gk s a=some j):
 BF Tryz.prog 88 #[.agg #[I a.Lo,I a.Hi]] w (fun v w'=>Ext w w'∧(DK NI).R w' (ZZ FN [] Z w.heap.size []) v j):=by
 unfold Gk at k;refine A3 (N:=8) Tryz.func88 rfl rfl (by simp) ?_;intro t m u;have h:=AH (i:=0) (v:=.agg #[I a.Lo,I a.Hi]) m rfl;clear m;have e:Hp FN [] w [] w:=Hp.start (BH.none w);refine Ad<|Ab<|we rfl (fun st=>BU (v:=.agg #[I a.Lo,I a.Hi]) (cs:= #[I a.Lo,I a.Hi]) (ee st h) rfl) ?_;rintro _ w1 ⟨x,rfl,d⟩;have f:=e.nb d;have q:=e.BK d;refine we rfl (fun st=>BQ (cs:= #[I 0,I 0]) Qx rfl) ?_;rintro _ w2 ⟨y,rfl,b⟩;have o:=f.nb b;have r:=f.BK b;refine Af<|Aa<|Ad<|Ab<|wd rfl (fun st=>Am (ee st rfl) (Jl _ _)) ?_;have c:=(d.bk.ext b.gr);refine wd rfl (fun st=>Ar (v:=I a.Lo) AY (ee st rfl) c rfl)<|wd rfl (fun st=>Am (ee st rfl) (Jk _ _))<|wd rfl (fun st=>Ar (v:=I a.Hi) AY (ee st rfl) c rfl)<|wd rfl (fun st=>CU (vs:= #[(0,I a.Lo),(1,I a.Hi)]) (v:=.agg #[I a.Lo,I a.Hi]) (Ik (ee st rfl) (ee st rfl)) (by kernel_rfl))<|Bh rfl rfl (fun st=>Bc (n:=2) (l:=[I a.Lo,I a.Hi]) (Cd:= #[I a.Lo,I a.Hi]) (ee st rfl) (ee st rfl) SU b.bk rfl rfl (show 0+2≤2 by decide) (AP rfl) rfl) ?_;rintro _ z g;have p:=o.gr g.gr 0 rfl;refine Af<|Aa<|AB ?_;obtain rfl:=Option.some.inj k;refine Gt (v:=.agg #[I a.Lo,I a.Hi]) rfl rfl (CZ Kg g.bk rfl rfl) ?_;exact⟨p.Bo,⟨_,rfl,rfl⟩⟩
theorem a31(bS:Nat)(a:Ap)(p:Option Addr)(q:Nat)(Z:Nat→Prop)(w:World)(bT:Sl AJ w Z p q a.Ae)(cJ:Ap)(m:CT bS a=some cJ):
 BF Tryz.prog 31 #[.agg #[I a.Ak,I a.Ag,I a.An,I a.Av,.slice p a.Ae.length q]] w (fun v w'=>Ext w w'∧(DK H9).R w' (ZZ FN [] Z w.heap.size []) v cJ):=by
 unfold CT at m;refine A3 (N:=43) Tryz.func31 rfl rfl (by simp) ?_;intro c5 cK c6;have b6:=AH (i:=0) (v:=.agg #[I a.Ak,I a.Ag,I a.An,I a.Av,.slice p a.Ae.length q]) cK rfl;clear cK;have b1:Hp FN [] w [] w:=Hp.start (BH.none w);have bE:=bT.mv (Bi (Z:=Z) (L:=[]) w);refine Ad<|Ab<|we rfl (fun st=>BU (v:=.agg #[I a.Ak,I a.Ag,I a.An,I a.Av,.slice p a.Ae.length q]) (cs:= #[I a.Ak,I a.Ag,I a.An,I a.Av,.slice p a.Ae.length q]) (ee st b6) rfl) ?_;rintro _ w1 ⟨x,rfl,bA⟩;have b2:=b1.nb bA;have c0:=b1.BK bA;refine we rfl (fun st=>BQ (cs:= #[I 0,I 0,I 0,I 0,.slice none 0 0]) LB rfl) ?_;rintro _ w2 ⟨t,rfl,aX⟩;have b3:=b2.nb aX;have c1:=b2.BK aX;refine Af<|Aa<|Ad<|Ab<|wd rfl (fun st=>Am (ee st rfl) (Gf _ _)) ?_;have aD:=(bA.bk.ext aX.gr);refine wd rfl (fun st=>Ar (v:=I a.Ak) AY (ee st rfl) aD rfl)<|wd rfl (fun st=>Am (ee st rfl) (IL _ _))<|wd rfl (fun st=>Ar (v:=I a.Ag) AY (ee st rfl) aD rfl)<|wd rfl (fun st=>Am (ee st rfl) (LA _ _))<|wd rfl (fun st=>Ar (v:=I a.An) AY (ee st rfl) aD rfl)<|wd rfl (fun st=>Am (ee st rfl) (Kf _ _))<|wd rfl (fun st=>Ar (v:=I a.Av) AY (ee st rfl) aD rfl)<|wd rfl (fun st=>CU (vs:= #[(0,I a.Ak),(1,I a.Ag),(2,I a.An),(3,I a.Av)]) (v:=.agg #[I a.Ak,I a.Ag,I a.An,I a.Av,.slice none 0 0]) (Sd (ee st rfl) (ee st rfl) (ee st rfl) (ee st rfl)) (by kernel_rfl))<|we rfl (fun st=>BQ (cs:= #[I 0,I 0,I 0,I 0,.slice none 0 0]) LB rfl) ?_;rintro _ dB ⟨s,rfl,aQ⟩;have bB:=b3.nb aQ;have c2:=b3.BK aQ;refine Bh rfl rfl (fun st=>Bc (n:=5) (l:=[I a.Ak,I a.Ag,I a.An,I a.Av,.slice none 0 0]) (Cd:= #[I a.Ak,I a.Ag,I a.An,I a.Av,.slice none 0 0]) (ee st rfl) (ee st rfl) ON aQ.bk rfl rfl (show 0+5≤5 by decide) (AP rfl) rfl) ?_;rintro _ b7 aY;have cL:=bB.gr aY.gr 0 rfl;refine Af<|Aa<|Ad<|Ad<|Ab<|wa rfl (v:=I 0) rfl<|Af<|Aa<|A8 ?_;have cM:Hp FN [] w [none,some s,some t,some x] b7:=cL.nil;have cN:AF AJ 156 w.heap.size b7 (ZZ FN [] Z w.heap.size [none,some s,some t,some x]) none 0 ([]:List AX):=AF.nil _ _ _ _ _;replace m:=bind_some m;obtain⟨z5,aR,m⟩:=m;refine Cn (fun cO z aJ=>(cO=.exit 0∧∃c g,z.tmps.size=43∧z.defers=(X0).ds∧sl z 2=pt t 0∧sl z 3=pt s 0∧Hp FN [] w [ob c,some s,some t,some x] aJ∧AF AJ 156 w.heap.size aJ (ZZ FN [] Z w.heap.size [ob c,some s,some t,some x]) c g z5∧Bk aJ t 75 #[I 0,I 0,I 0,I 0,.slice none 0 0]∧Bk aJ s 75 #[I a.Ak,I a.Ag,I a.An,I a.Av,.slice c z5.length g])) ?cP ?cQ
 case cP=>
  clear m;refine Cm (fun(b8:Nat) (z:Act) (aJ:World)=>∃y,∃j,∃f o,Dt bS a b8 y j=some z5∧z.tmps.size=43∧z.defers=(X0).ds∧sl z 1=pt x 0∧sl z 2=pt t 0∧sl z 3=pt s 0∧sl z 4=I y∧Hp FN [] w [ob f,some s,some t,some x] aJ∧AF AJ 156 w.heap.size aJ (ZZ FN [] Z w.heap.size [ob f,some s,some t,some x]) f o j∧Bk aJ x 63 #[I a.Ak,I a.Ag,I a.An,I a.Av,.slice p a.Ae.length q]∧Bk aJ t 75 #[I 0,I 0,I 0,I 0,.slice none 0 0]∧Bk aJ s 75 #[I a.Ak,I a.Ag,I a.An,I a.Av,.slice f j.length o]∧Sl AJ aJ (ZZ FN [] Z w.heap.size [ob f,some s,some t,some x]) p q a.Ae) bS ?cR ?cS
  case cR=>
   intro st;have bU:=((aD.ext aQ.gr).gr aY.gr (bB.ne 2 0 rfl rfl rfl));have bV:=((aX.bk.ext aQ.gr).gr aY.gr (bB.ne 1 0 rfl rfl rfl));have bW:=aY.bk;have bF:Sl AJ b7 (ZZ FN [] Z w.heap.size [none,some s,some t,some x]) p q a.Ae:=(((((bE.mv (Aw bA)).mv (Aw aX)).mv (Aw aQ)).mv (bB.AR aY.gr 0 rfl)).mv BZ);exact⟨(0:Int),([]:List AX),none,0,aR,qz st,qd st,sp st 1 rfl,sp st 2 rfl,sp st 3 rfl,sp st 4 rfl,cM,cN,bU,bV,bW,bF⟩
  case cS=>
   rintro(_|b8) c7 c8 ⟨y,j,f,o,aR,b9,cA,aS,bC,aI,aT,bH,aE,aK,aZ,a0,aL⟩
   ·exact absurd (show none=some _ from aR) (by simp)
   rw[Dt.eq_2] at aR;have m:=aR;clear aR;refine B1 (N:=43) b9 cA<|Ad<|Ad<|Ab<|wm rfl (v:=I y) aT<|wd rfl (fun st=>Am (ee st aS) (Gz _ _))<|wd rfl (fun st=>Ar (v:=.slice p a.Ae.length q) GR (ee st rfl) aK rfl)<|wd rfl (fun st=>BS Tryz.underlying61 (ee st rfl))<|wd rfl (fun st=>Cx (ee st rfl) (ee st rfl))<|Af<|Aa ?_;rcases Ao (decide (y<(a.Ae.length:Int))) with a2|a2
   ·replace m:=AD m a2;refine Az rfl a2<|AT<|Aa<|Ad<|A8<|Ad<|Ab<|wd rfl (fun st=>Am (ee st aS) (Gz _ _))<|wd rfl (fun st=>Ar (v:=.slice p a.Ae.length q) GR (ee st rfl) aK rfl)<|wm rfl (v:=I y) aT ?_;replace m:=Bs m;obtain⟨i8,b,cT,cU,cV,m⟩:=m;obtain⟨dC,dD,_,cW,rfl,cX⟩:=Sl.elem aL (by decide) cU;refine wd rfl (fun st=>CF (k:=i8) Tryz.underlying61 JY (ee st rfl) cW (ee st rfl) cT cV)<|wd rfl (fun st=>DE (l:=[I b.Au,I b.AG,I b.AN,I b.B0,I b.B6]) NQ (ee st rfl) cX rfl rfl)<|we rfl (fun st=>BQ (cs:= #[I 0,I 0,I 0,I 0,I 0]) M4 rfl) ?_;rintro _ dE ⟨aU,rfl,aF⟩;have aM:=bH.nb aF;have c3:=bH.BK aF;refine Bh rfl rfl (fun st=>Bc (n:=5) (l:=[I b.Au,I b.AG,I b.AN,I b.B0,I b.B6]) (Cd:= #[I b.Au,I b.AG,I b.AN,I b.B0,I b.B6]) (ee st rfl) (ee st rfl) JY aF.bk rfl rfl (show 0+5≤5 by decide) (AP rfl) rfl) ?_;rintro _ c9 r;have b4:=aM.gr r.gr 0 rfl;refine Af<|Aa ?_;have bD:=((a0.ext aF.gr).gr r.gr (aM.ne 2 0 rfl rfl rfl));replace m:=bind_some m;obtain⟨d,cB,m⟩:=m;refine Dp 13 [Kc (pt s 4),Kc (.slice f j.length o),Kc (pt aU 0),Kc (.agg #[I b.Au,I b.AG]),Kc (.agg #[I d.Lo,I d.Hi]),Kc (pt aU 2),Kc (I b.AN),Kc (pt aU 3),Kc (I b.B0),Kc (pt aU 4),Kc (I b.B6),Kc (.agg #[I d.Lo,I d.Hi,I b.AN,I b.B0,I b.B6]),Kv (FF AJ) (ZZ FN [] Z w.heap.size [some aU,ob f,some s,some t,some x]) [(⟨d.Lo,d.Hi,b.AN,b.B0,b.B6⟩:AX)]] mixed rfl rfl
        (Ah (od rfl (fun _=>rfl) (fun K=>Am (es ((K.out 3 rfl).trans aI)) (CR _ _)))
        (Ah (od rfl (fun _=>rfl) (fun K=>Ar Da (es (K.AK 0 27 rfl rfl)) (bD.ext K.Bp) rfl))
        (Ah (od rfl (fun _=>rfl) (fun K=>Am (es ((K.out 5 rfl).trans rfl)) (Ie _ _)))
        (Ah (od rfl (fun _=>rfl) (fun K=>Bd (l:=[I b.Au,I b.AG]) NP (es (K.AK 2 29 rfl rfl)) (r.bk.ext K.Bp) rfl rfl))
        (Ah (Gq rfl rfl (fun a' w' ph K=>(AL SV rfl (Cw (es (K.AK 3 30 rfl rfl))) (UI bS (⟨b.Au,b.AG⟩:CI) ZA _ d cB)).mono (fun _ _ h=>⟨(by obtain⟨_,rfl,rfl⟩:=h.2;rfl),h.1⟩)))
        (Ah (od rfl (fun _=>rfl) (fun K=>Am (es ((K.out 5 rfl).trans rfl)) (M5 _ _)))
        (Ah (od rfl (fun _=>rfl) (fun K=>Ar AY (es (K.AK 5 32 rfl rfl)) (r.bk.ext K.Bp) rfl))
        (Ah (od rfl (fun _=>rfl) (fun K=>Am (es ((K.out 5 rfl).trans rfl)) (M6 _ _)))
        (Ah (od rfl (fun _=>rfl) (fun K=>Ar AY (es (K.AK 7 34 rfl rfl)) (r.bk.ext K.Bp) rfl))
        (Ah (od rfl (fun _=>rfl) (fun K=>Am (es ((K.out 5 rfl).trans rfl)) (M7 _ _)))
        (Ah (od rfl (fun _=>rfl) (fun K=>Ar AY (es (K.AK 9 36 rfl rfl)) (r.bk.ext K.Bp) rfl))
        (Ah (od rfl (fun _=>rfl) (fun K=>CU (vs:= #[(0,.agg #[I d.Lo,I d.Hi]),(1,I b.AN),(2,I b.B0),(3,I b.B6)]) (v:=.agg #[I d.Lo,I d.Hi,I b.AN,I b.B0,I b.B6]) (Sd (es (K.AK 4 31 rfl rfl)) (es (K.AK 6 33 rfl rfl)) (es (K.AK 8 35 rfl rfl)) (es (K.AK 10 37 rfl rfl))) (by kernel_rfl)))
        (Ah (Gq rfl rfl (fun a' w' ph K=>(BP (e:=156) (vs:= #[(0,.agg #[I d.Lo,I d.Hi,I b.AN,I b.B0,I b.B6])]) (cs:= #[I d.Lo,I d.Hi,I b.AN,I b.B0,I b.B6]) (Ho (es (K.AK 11 38 rfl rfl))) (by kernel_rfl)).mono (fun u Bj ⟨dF,hu,bX⟩=>⟨⟨_,_,hu,Gj (xs:=[(⟨d.Lo,d.Hi,b.AN,b.B0,b.B6⟩:AX)]) (Ba:=[[I d.Lo,I d.Hi,I b.AN,I b.B0,I b.B6]]) bX.bk ((b4.ext K.Bp).kn (Nat.le_of_eq bX.Ev.symm)) (R2.mv (Aj bX.gr) (show R2 AJ w' (ZZ FN [] Z w.heap.size [some aU,ob f,some s,some t,some x]) [[I d.Lo,I d.Hi,I b.AN,I b.B0,I b.B6]] [(⟨d.Lo,d.Hi,b.AN,b.B0,b.B6⟩:AX)] from⟨rfl,trivial⟩)) rfl (Nat.le_refl _)⟩,bX.gr⟩)))
        (Cr _)))))))))))))) ?_
    intro cY;rintro _ rfl _ rfl _ rfl _ rfl _ rfl _ rfl _ rfl _ rfl _ rfl _ rfl _ rfl _ rfl _ ⟨cH,cI,rfl,a6⟩ aB;have aN:=b4.ext aB;have a3:AF AJ 156 w.heap.size cY (ZZ FN [] Z w.heap.size [some aU,ob f,some s,some t,some x]) f o j:=(((aE.ext aF.gr (Aw aF)).gr r.gr (fun k aV=>aM.ne 1 0 rfl (congrArg some aV) rfl) (aM.AR r.gr 0 rfl)).ext aB (Aj aB));replace m:=Dc m;obtain⟨bI,m⟩:=m;refine we rfl (fun st=>GP (ys:=[(⟨d.Lo,d.Hi,b.AN,b.B0,b.B6⟩:AX)]) Tryz.underlying73 Qy rfl rfl (by decide) (ee st rfl) rfl (ee st rfl) a3 a6.n (by have:=bI;simp only[maxLen];omega) (by have:=bI;omega) aN.sz) ?_;rintro _ b5 ⟨aA,a4,rfl,aG,a7,cC⟩;have aH:Hp FN [] w [some aU,ob aA,some s,some t,some x] b5:=aN.row aG 1 rfl a7;have cD:AF AJ 156 w.heap.size b5 (ZZ FN [] Z w.heap.size [some aU,ob aA,some s,some t,some x]) aA a4 (j++[(⟨d.Lo,d.Hi,b.AN,b.B0,b.B6⟩:AX)]):=Fp cC (aN.Dw aG 1 rfl (fun k aV=>(a7 k aV).1));refine wd rfl (fun st=>Am (ee st aI) (CR _ _)) ?_;have bJ:=((bD.ext aB).gr aG (aN.ne 2 1 rfl rfl rfl));refine Bh rfl rfl (fun st=>Bc (n:=1) (l:=[.slice aA ((j++[(⟨d.Lo,d.Hi,b.AN,b.B0,b.B6⟩:AX)]).length) a4]) (Cd:= #[I a.Ak,I a.Ag,I a.An,I a.Av,.slice aA ((j++[(⟨d.Lo,d.Hi,b.AN,b.B0,b.B6⟩:AX)]).length) a4]) (ee st rfl) (ee st rfl) TP bJ rfl rfl (show 4+1≤5 by decide) (AP rfl) rfl) ?_;rintro _ bK aC;have cE:=aH.gr aC.gr 2 rfl;refine Af<|Bl<|Aa<|Ab<|wm rfl (v:=I y) aT ?_;replace m:=AU m;obtain⟨cF,m⟩:=m;refine wd rfl (fun st=>BA (ee st rfl) (ee st rfl) cF)<|wa rfl (v:=I (y+1)) rfl<|Af ?_;have cG:Hp FN [] w [ob aA,some s,some t,some x] bK:=cE.erase 0;have bG:AF AJ 156 w.heap.size bK (ZZ FN [] Z w.heap.size [ob aA,some s,some t,some x]) aA a4 (j++[(⟨d.Lo,d.Hi,b.AN,b.B0,b.B6⟩:AX)]):=((cD.gr aC.gr (fun k aV=>aH.ne 1 2 rfl (congrArg some aV) rfl) (aH.AR aC.gr 2 rfl)).up (AM 0));have bL:=(((((aK.ext aF.gr).gr r.gr (aM.ne 4 0 rfl rfl rfl)).ext aB).gr aG (aN.ne 4 1 rfl rfl rfl)).gr aC.gr (aH.ne 4 2 rfl rfl rfl));have bM:=(((((aZ.ext aF.gr).gr r.gr (aM.ne 3 0 rfl rfl rfl)).ext aB).gr aG (aN.ne 3 1 rfl rfl rfl)).gr aC.gr (aH.ne 3 2 rfl rfl rfl));have bN:=aC.bk;have a8:Sl AJ bK (ZZ FN [] Z w.heap.size [ob aA,some s,some t,some x]) p q a.Ae:=((((((aL.mv (Aw aF)).mv (aM.AR r.gr 0 rfl)).mv (Aj aB)).mv (aN.Dw aG 1 rfl (fun k aV=>(a7 k aV).1))).mv (aH.AR aC.gr 2 rfl)).mv (AM 0));refine BB b8 (Nat.lt_succ_self _) (fun st=>?_);exact⟨(y+1),(j++[(⟨d.Lo,d.Hi,b.AN,b.B0,b.B6⟩:AX)]),aA,a4,m,qz st,qd st,sp st 1 aS,sp st 2 bC,sp st 3 aI,sp st 4 rfl,cG,bG,bL,bM,bN,a8⟩
   ·replace m:=AE m a2;refine AI rfl a2<|Ci<|AQ<|AQ ?_;obtain rfl:=Option.some.inj m;refine BY (fun st=>?_);exact⟨rfl,f,o,qz st,qd st,sp st 2 bC,sp st 3 aI,bH,aE,aZ,a0⟩
 case cQ=>
  rintro cO c4 dA (⟨rfl,c,g,bY,bZ,a5,bO,a9,aO,bP,bQ⟩);refine Co (X:=X0) (N:=43) bY bZ<|Br<|Aa<|Ad<|Ab<|wd rfl (fun st=>Bd (l:=[I a.Ak,I a.Ag,I a.An,I a.Av,.slice c z5.length g]) CE (ee st bO) bQ rfl rfl)<|Bh rfl rfl (fun st=>Bc (n:=5) (l:=[I a.Ak,I a.Ag,I a.An,I a.Av,.slice c z5.length g]) (Cd:= #[I a.Ak,I a.Ag,I a.An,I a.Av,.slice c z5.length g]) (ee st a5) (ee st rfl) ON bP rfl rfl (show 0+5≤5 by decide) (AP rfl) rfl) ?_;rintro _ cZ aW;have bR:=a9.gr aW.gr 2 rfl;refine Af<|Aa<|AB ?_;obtain rfl:=Option.some.inj m;refine Gt (v:=.agg #[I a.Ak,I a.Ag,I a.An,I a.Av,.slice c z5.length g]) rfl a5 (CZ CE aW.bk rfl rfl) ?_;have aP:AF AJ 156 w.heap.size cZ (ZZ FN [] Z w.heap.size [ob c,some s,some t,some x]) c g z5:=(aO.gr aW.gr (fun k aV=>a9.ne 0 2 rfl (congrArg some aV) rfl) (a9.AR aW.gr 2 rfl));exact⟨bR.Bo,⟨_,rfl,_,_,rfl,bR.KC (M:=[]) 0 rfl [] rfl trivial aP⟩⟩
theorem UJ(m:Nat)(a:Ap)(b:Option Addr)(c:Nat)(Z:Nat→Prop)(w:World)(h:Sl AJ w Z b c a.Ae)(n:Int)(e:EO m a=some n):
 BF Tryz.prog 34 #[.agg #[I a.Ak,I a.Ag,I a.An,I a.Av,.slice b a.Ae.length c]] w (fun v w'=>Ext w w'∧(Fi .i64).R w' (ZZ FN [] Z w.heap.size []) v n):=by
 unfold EO at e;refine A3 (N:=5) Tryz.func34 rfl rfl (by simp) ?_;intro u o x;have k:=AH (i:=0) (v:=.agg #[I a.Ak,I a.Ag,I a.An,I a.Av,.slice b a.Ae.length c]) o rfl;clear o;have j:Hp FN [] w [] w:=Hp.start (BH.none w);have f:=h.mv (Bi (Z:=Z) (L:=[]) w);refine Ad<|Ab<|we rfl (fun st=>BU (v:=.agg #[I a.Ak,I a.Ag,I a.An,I a.Av,.slice b a.Ae.length c]) (cs:= #[I a.Ak,I a.Ag,I a.An,I a.Av,.slice b a.Ae.length c]) (ee st k) rfl) ?_;rintro _ w1 ⟨y,rfl,d⟩;have p:=j.nb d;have t:=j.BK d;refine wa rfl (v:=I 0) rfl<|Af<|Aa<|Ad<|Ab<|wd rfl (fun st=>Bd (l:=[I a.Ak,I a.Ag,I a.An,I a.Av,.slice b a.Ae.length c]) Fy (ee st rfl) d.bk rfl rfl) ?_;have g:=(f.mv (Aw d));replace e:=bind_some e;obtain⟨r2,q,e⟩:=e;refine we rfl (fun st=>AL PB (ee st rfl) (Cw (ee st rfl)) (T4 m a b c ZA _ g.all r2 q)) ?_;rintro _ z ⟨r,rfl⟩;have s:=p.ext r;refine wa rfl (v:=I r2) rfl<|Af<|Aa<|AB ?_;obtain rfl:=Option.some.inj e;refine AO rfl rfl ?_;exact⟨s.Bo,rfl⟩
theorem UK(u:Nat)(a:Ap)(d:Option Addr)(e:Nat)(Z:Nat→Prop)(w:World)(o:Sl AJ w Z d e a.Ae)(z:Bool)(f:E4 u a=some z):
 BF Tryz.prog 27 #[.agg #[I a.Ak,I a.Ag,I a.An,I a.Av,.slice d a.Ae.length e]] w (fun v w'=>Ext w w'∧BN.R w' (ZZ FN [] Z w.heap.size []) v z):=by
 unfold E4 at f;refine A3 (N:=17) Tryz.func27 rfl rfl (by simp) ?_;intro aG aA aH;have x:=AH (i:=0) (v:=.agg #[I a.Ak,I a.Ag,I a.An,I a.Av,.slice d a.Ae.length e]) aA rfl;clear aA;have r:Hp FN [] w [] w:=Hp.start (BH.none w);have k:=o.mv (Bi (Z:=Z) (L:=[]) w);refine Ad<|Ab<|we rfl (fun st=>BU (v:=.agg #[I a.Ak,I a.Ag,I a.An,I a.Av,.slice d a.Ae.length e]) (cs:= #[I a.Ak,I a.Ag,I a.An,I a.Av,.slice d a.Ae.length e]) (ee st x) rfl) ?_;rintro _ w1 ⟨aI,rfl,h⟩;have s:=r.nb h;have aF:=r.BK h;refine wa rfl (v:=.bool false) rfl<|Af<|Aa<|Ad<|Ab<|wd rfl (fun st=>Am (ee st rfl) (Gz _ _))<|wd rfl (fun st=>Ar (v:=.slice d a.Ae.length e) GR (ee st rfl) h.bk rfl)<|wd rfl (fun st=>BS Tryz.underlying61 (ee st rfl))<|wd rfl (fun st=>E7 (ee st rfl) (ee st rfl))<|wm rfl (v:=.bool (decide ((a.Ae.length:Int)≤6))) rfl ?_;rcases Ao (decide ((a.Ae.length:Int)≤6)) with b|b
 ·replace f:=AD f b;refine As rfl rfl (Ac rfl b) rfl (by decide) (fun st=>Bd (l:=[I a.Ak,I a.Ag,I a.An,I a.Av,.slice d a.Ae.length e]) Fy (ee st rfl) h.bk rfl rfl) ?_;have j:=(k.mv (Aw h));replace f:=bind_some f;obtain⟨y,aB,f⟩:=f;refine Dj rfl rfl (Ac rfl b) rfl (by decide) (fun st=>AL PB (ee st rfl) (Cw (ee st rfl)) (T4 u a d e ZA _ j.all y aB)) ?_;rintro _ aJ ⟨n,rfl⟩;have t:=s.ext n;refine As rfl rfl (Ac rfl b) rfl (by decide) (fun st=>Fh (ee st rfl) (ee st rfl))<|As rfl rfl (Ac rfl b) rfl (by decide) (fun st=>AZ (v:=.bool (y !=0)) (ee st rfl)) ?_;rcases Ao (y !=0) with g|g
  ·replace f:=AD f g;refine Ai (c:=true) rfl rfl (Ac rfl g) (by decide) rfl (by decide)<|Ai (c:=true) rfl rfl (Ac rfl g) (by decide) rfl (by decide)<|Ai (c:=true) rfl rfl (Ac rfl g) (by decide) rfl (by decide)<|As rfl rfl (Ac rfl b) rfl (by decide) (fun st=>AV (v:=.bool true) (ee st rfl) g (ee st rfl))<|wd rfl (fun st=>AV (v:=.bool true) (ee st rfl) b (ee st rfl))<|wa rfl (v:=.bool true) rfl<|Af<|Aa<|AB ?_;obtain rfl:=Option.some.inj f;refine AO rfl rfl ?_;exact⟨t.Bo,rfl⟩
  ·replace f:=AE f g;have p:=(h.bk.ext n);refine As rfl rfl (Ac rfl g) rfl (by decide) (fun st=>Bd (l:=[I a.Ak,I a.Ag,I a.An,I a.Av,.slice d a.Ae.length e]) Fy (ee st rfl) p rfl rfl) ?_;have m:=(j.mv (Aj n));replace f:=bind_some f;obtain⟨q,aC,f⟩:=f;refine Dj rfl rfl (Ac rfl g) rfl (by decide) (fun st=>AL PA (ee st rfl) (Cw (ee st rfl)) (T3 u a d e ZA _ m.all q aC)) ?_;rintro _ aK ⟨aD,rfl⟩;have aE:=t.ext aD;refine As rfl rfl (Ac rfl g) rfl (by decide) (fun st=>E7 (ee st rfl) (ee st rfl))<|As rfl rfl (Ac rfl b) rfl (by decide) (fun st=>Bm (v:=.bool (decide (q≤60))) (ee st rfl) g (ee st rfl))<|wd rfl (fun st=>AV (v:=.bool (decide (q≤60))) (ee st rfl) b (ee st rfl))<|wa rfl (v:=.bool (decide (q≤60))) rfl<|Af<|Aa<|AB ?_;obtain rfl:=Option.some.inj f;refine AO rfl rfl ?_;exact⟨aE.Bo,rfl⟩
 ·replace f:=AE f b;refine Ai (c:=false) rfl rfl (Ac rfl b) (by decide) rfl (by decide)<|Ai (c:=false) rfl rfl (Ac rfl b) (by decide) rfl (by decide)<|Ai (c:=false) rfl rfl (Ac rfl b) (by decide) rfl (by decide)<|Ai (c:=false) rfl rfl (Ac rfl b) (by decide) rfl (by decide)<|Jr rfl rfl rfl rfl (by decide)<|Jr rfl rfl rfl rfl (by decide)<|Jr rfl rfl rfl rfl (by decide)<|Ai (c:=false) rfl rfl (Ac rfl b) (by decide) rfl (by decide)<|wd rfl (fun st=>Bm (v:=.bool false) (ee st rfl) b (ee st rfl))<|wa rfl (v:=.bool false) rfl<|Af<|Aa<|AB ?_;obtain rfl:=Option.some.inj f;refine AO rfl rfl ?_;exact⟨s.Bo,rfl⟩
end Go.Proofs.YtkljfdkmjdjpfaaGreat
end
