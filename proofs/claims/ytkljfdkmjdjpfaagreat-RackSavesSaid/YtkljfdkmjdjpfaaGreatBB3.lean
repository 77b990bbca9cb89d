import Derived.Test.YtkljfdkmjdjpfaaGreatBB2
import Derived.WalkKit
import Derived.KernelRfl
import Derived.WalkSpells
import Derived.WalkLawsBesides
import Derived.Maps.AppendAt
import Derived.OrdersIn
import Derived.RangeFuncIn
import Derived.RangeFuncLeaves
import Derived.RangeFuncRecord
import Derived.RangeFuncSeq
import Derived.Scope
import Derived.DeepKeys3
import Derived.Laws.CopyRow
import Derived.Laws.OwnMore
import Derived.Laws.MakeOwn
import Derived.Laws.IdiomCopy
import Derived.Test.YtkljfdkmjdjpfaaGreatProg
/-
  The contracts of the functions of the program and of the reference, and the logic that they are proved in: the base that several claims of this seat share.
-/
set_option linter.all false
section
namespace Go.Proofs.YtkljfdkmjdjpfaaGreat
theorem MH(n:Nat)(h:n<64):L1 .u64 (n:Int)=some ():=by
 refine if_pos ?_;show(n:Int)%(2^64:Int)=n;rw[show(2:Int)^64=18446744073709551616 from rfl];omega
theorem Mg(K b d:Nat)(h:d<64):DW K (b:Int) (d:Int)=some (b.testBit d):=by
 unfold DW;rw[bd (MH d h),bd (QD b d h),P0 (Uo b d) (by omega),QC]
def lead:List Bool→Nat
 |true::l=>lead l+1
 |_=>0
def G2(R:Int):List Bool→Bool
 |[]=>true
 |b::l=>decide ((lead (b::l):Int)≤R)&&G2 R l
def IX:List Bool→Nat
 |[]=>0
 |b::l=>(cond b 1 0)+IX l
theorem LH(r:Nat)(l:List Bool):lead (List.replicate r true++l)=r+lead l:=by
 induction r with
 |zero=>simp
 |succ r ih=>rw[List.replicate_succ,List.cons_append,lead,ih];omega
theorem Nb(R:Int)(l:List Bool):∀r:Nat,(r:Int)≤R→G2 R (List.replicate r true++false::l)=(decide (0≤R)&&G2 R l)
 |0,_=>rfl
 |r+1,h=>by
  rw[List.replicate_succ,List.cons_append,G2,Nb R l r (by omega)];have:lead (true::(List.replicate r true++false::l))=r+1:=by
   rw[lead,LH];rfl
  rw[this,dt (by omega),Bool.true_and]
theorem Oe(W R:Int)(b:0≤R):∀(l:List Bool) (s:Int) (r:Nat),s≤W→(r:Int)≤R→okW W R l s r=(decide (s+(IX l:Int)≤W)&&G2 R (List.replicate r true++l))
 |[],s,r,c,a=>by
  have:∀q:Nat,(q:Int)≤R→G2 R (List.replicate q true)=true:=by
   intro q
   induction q with
   |zero=>intro _;rfl
   |succ q ih=>
    intro g;have e:=LH (q+1) [];rw[List.append_nil,List.replicate_succ] at e;have h:lead ([]:List Bool)=0:=rfl;rw[List.replicate_succ,G2,e,ih (by omega),dt (by omega)];rfl
  rw[List.append_nil,this r a,okW,dt (by unfold IX;omega)];rfl
 |false::l,s,r,c,a=>by
  rw[okW,Nb R l r a,dt b,Bool.true_and];have:=Oe W R b l s 0 c (by omega);rw[Int.natCast_zero] at this;rw[this,IX];simp
 |true::l,s,r,c,a=>by
  rw[okW];have e:List.replicate r true++true::l=List.replicate (r+1) true++l:=by
   rw[List.replicate_succ'];simp
  rw[e]
  by_cases d:s+1≤W
  ·by_cases f:(r:Int)+1≤R
   ·rw[dt d,dt f,Bool.true_and,Bool.true_and,CS,Oe W R b l (s+1) (r+1) d (by omega)]
    congr 2
    rw[IX];simp;omega
   ·rw[df f,Bool.false_and,Bool.and_false];have:G2 R (List.replicate (r+1) true++l)=false:=by
     rw[List.replicate_succ,List.cons_append,G2];have e:=LH (r+1) l;rw[List.replicate_succ,List.cons_append] at e;rw[e,df (by omega)];rfl
    rw[this,Bool.and_false]
  ·rw[df d,Bool.false_and];have:¬(s+(IX (true::l):Int)≤W):=by rw[IX];simp;omega
   rw[df this];rfl
theorem K8(n b i:Nat)(h:i<n):(wl n b).drop i=b.testBit i::(wl n b).drop (i+1):=by
 rw[List.drop_eq_getElem_cons (by rw[FW];exact h)]
 congr 1
 simp[wl]
theorem Uy(K:Nat)(y:Ar)(b a:Nat)(h0:0≤y.Am)(h9:y.Am≤9)(d:0≤y.AA)(f:y.AA≤y.Am+1)(i:a≤9):∀(k m e:Nat) (g:Bool),(a:Int)+y.AA+1=e+k→k<m→
  Cz K y b (a:Int) m g (e:Int)=some (g&&decide (k≤lead ((wl (days y) b).drop e))):=by
 intro k
 induction k with
 |zero=>
  intro m e g h hm;cases m with
  |zero=>omega
  |succ m=>rw[Cz.eq_2,By (by omega) (by omega),cf (df (by omega)),dt (Nat.zero_le _),Bool.and_true]
 |succ k ih=>
  intro m e g h hm;cases m with
  |zero=>omega
  |succ m=>
   rw[Cz.eq_2,By (by omega) (by omega),ct (dt (by omega))];cases g with
   |false=>
    rw[cf rfl,By (by omega) (by omega),CS,ih m (e+1) false (by omega) (by omega)];rfl
   |true=>
    rw[ct rfl,Bool.true_and]
    by_cases c:(e:Int)≤y.Am
    ·rw[ct (dt c),bd (Mg K b e (by omega)),By (by omega) (by omega),CS,ih m (e+1) _ (by omega) (by omega),K8 (days y) b e (by unfold days;omega)];cases b.testBit e with
     |false=>
      rw[Bool.false_and,df (show¬(k+1≤lead (false::_)) by show¬(k+1≤0);omega)]
     |true=>
      rw[Bool.true_and]
      congr 1
      rw[Bool.eq_iff_iff,decide_eq_true_eq,decide_eq_true_eq];show _↔k+1≤lead _+1;omega
    ·rw[cf (df c),By (by omega) (by omega),CS,ih m (e+1) false (by omega) (by omega),show(wl (days y) b).drop e=[] from List.drop_eq_nil_of_le (by rw[FW];unfold days;omega)];rw[Bool.false_and,df (show¬(k+1≤lead []) by show¬(k+1≤0);omega)]
theorem S6(K:Nat)(y:Ar)(b a:Nat)(h0:0≤y.Am)(h9:y.Am≤9)(d:0≤y.AA)(f:y.AA≤y.Am+1)(i:a≤9):∀(k m e:Nat) (g:Bool),(a:Int)+y.AA+1=e+k→k<m→
  Cw K y b (a:Int) m g (e:Int)=some (g&&decide (k≤lead ((wl (days y) b).drop e))):=by
 intro k
 induction k with
 |zero=>
  intro m e g h hm;cases m with
  |zero=>omega
  |succ m=>rw[Cw.eq_2,By (by omega) (by omega),cf (df (by omega)),dt (Nat.zero_le _),Bool.and_true]
 |succ k ih=>
  intro m e g h hm;cases m with
  |zero=>omega
  |succ m=>
   rw[Cw.eq_2,By (by omega) (by omega),ct (dt (by omega))];cases g with
   |false=>
    rw[cf rfl,By (by omega) (by omega),CS,ih m (e+1) false (by omega) (by omega)];rfl
   |true=>
    rw[ct rfl,Bool.true_and]
    by_cases c:(e:Int)≤y.Am
    ·rw[ct (dt c),bd (Mg K b e (by omega)),By (by omega) (by omega),CS,ih m (e+1) _ (by omega) (by omega),K8 (days y) b e (by unfold days;omega)];cases b.testBit e with
     |false=>
      rw[Bool.false_and,df (show¬(k+1≤lead (false::_)) by show¬(k+1≤0);omega)]
     |true=>
      rw[Bool.true_and]
      congr 1
      rw[Bool.eq_iff_iff,decide_eq_true_eq,decide_eq_true_eq];show _↔k+1≤lead _+1;omega
    ·rw[cf (df c),By (by omega) (by omega),CS,ih m (e+1) false (by omega) (by omega),show(wl (days y) b).drop e=[] from List.drop_eq_nil_of_le (by rw[FW];unfold days;omega)];rw[Bool.false_and,df (show¬(k+1≤lead []) by show¬(k+1≤0);omega)]
theorem P9{K:Nat}(y:Ar)(b:Nat)(h0:0≤y.Am)(h9:y.Am≤9)(c:0≤y.AA)(f:y.AA≤y.Am+1)(hK:2000≤K):∀(k m i:Nat) (s:Int),days y=i+k→k<m→0≤s→s≤i→
  CL K y b m s (i:Int)=some (cond (G2 y.AA ((wl (days y) b).drop i)) (.inr (s+(IX ((wl (days y) b).drop i):Int))) (.inl false)):=by
 intro k
 induction k with
 |zero=>
  intro m i s h hm j l;cases m with
  |zero=>omega
  |succ m=>
   rw[CL.eq_2,cf (df (by unfold days at h;omega)),List.drop_eq_nil_of_le (by rw[FW];omega)];show _=some (Sum.inr (s+((0:Nat):Int)));rw[Int.natCast_zero,Int.add_zero]
 |succ k ih=>
  intro m i s h hm j l;cases m with
  |zero=>omega
  |succ m=>
   have p:days y≤10:=by unfold days;omega
   have hi:i<days y:=by omega
   have g:(i:Int)≤y.Am:=by unfold days at hi;omega
   have d:=Uy K y b i h0 h9 c f (by omega) (y.AA+1).toNat K i true (by omega) (by omega);have a:=S6 K y b i h0 h9 c f (by omega) (y.AA+1).toNat K i true (by omega) (by omega);have n:decide ((y.AA+1).toNat≤lead ((wl (days y) b).drop i))= !decide ((lead ((wl (days y) b).drop i):Int)≤y.AA):=by
    rw[←decide_not];congr 1;rw[eq_iff_iff];omega
   rw[Bool.true_and,n] at d a;rw[CL.eq_2,ct (dt g),bd (Mg K b i (by omega))];have e:=K8 (days y) b i hi;have o:G2 y.AA ((wl (days y) b).drop i)=(decide ((lead ((wl (days y) b).drop i):Int)≤y.AA)&&G2 y.AA ((wl (days y) b).drop (i+1))):=by
    conv=>lhs;rw[e]
    rw[G2,←e]
   have ec:IX ((wl (days y) b).drop i)=(cond (b.testBit i) 1 0)+IX ((wl (days y) b).drop (i+1)):=by rw[e,IX]
   rw[o,ec];cases q:b.testBit i with
   |true=>
    rw[ct rfl,By (by omega) (by omega),bd d];cases decide ((lead ((wl (days y) b).drop i):Int)≤y.AA) with
    |false=>rw[Bool.false_and];rfl
    |true=>
     rw[nt,By (by omega) (by omega),CS,ih m (i+1) (s+1) (by omega) (by omega) (by omega) (by omega),Bool.true_and]
     congr 2
     simp;omega
   |false=>
    rw[cf rfl,bd a];cases decide ((lead ((wl (days y) b).drop i):Int)≤y.AA) with
    |false=>rw[Bool.false_and];rfl
    |true=>
     rw[nt,By (by omega) (by omega),CS,ih m (i+1) s (by omega) (by omega) (by omega) (by omega),Bool.true_and]
     congr 2
     simp
theorem Lr{K:Nat}(y:Ar)(b:Nat)(h0:0≤y.Am)(h9:y.Am≤9)(a:0≤y.AA)(d:y.AA≤y.Am+1)(f:0≤y.Ap)(hK:2000≤K):Ed K y b=some (Hz y (wl (days y) b)):=by
 unfold Ed;have g:days y≤10:=by unfold days;omega
 have e:=P9 (K:=K) y b h0 h9 a d hK (days y) K 0 0 (by omega) (by omega) (by omega) (by omega);rw[Int.natCast_zero,List.drop_zero] at e;rw[bd e];have c:=Oe y.Ap y.AA a (wl (days y) b) 0 0 f (by omega);rw[Int.natCast_zero] at c;unfold Hz;rw[c];show _=some (_&&G2 y.AA (wl (days y) b));cases G2 y.AA (wl (days y) b) with
 |true=>rw[Bool.and_true];rfl
 |false=>rw[Bool.and_false];rfl
def G5 (y:Ar) (k d:Nat):List Int:=((List.range' k d).filter fun b=>Hz y (wl (days y) b)).map fun b:Nat=>(b:Int)
theorem Nn(y:Ar):(G5 y 0 (2^days y)).length=(Bw y).length:=by
 unfold G5 Bw;rw[List.length_map,List.range_eq_range',List.filter_map,List.length_map];rfl
theorem Qa{K:Nat}(y:Ar)(h0:0≤y.Am)(h9:y.Am≤9)(d:0≤y.AA)(f:y.AA≤y.Am+1)(g:0≤y.Ap)(hK:2000≤K):∀(k m i:Nat) (a:List Int),2^days y=i+k→k<m→a.length≤i→
  CP K y m a (i:Int)=some (a++G5 y i k):=by
 intro k;have j:days y≤10:=by unfold days;omega
 have n:=IU _ j;have b:y.Am+1=(days y:Int):=by unfold days;omega
 have c:Fz (1:Int) (days y:Int)=((2^days y:Nat):Int):=by
  unfold Fz;rw[Int.one_mul,Int.toNat_natCast,Int.natCast_pow];rfl
 have e:Jk (1:Int) (days y:Int)=some ():=by
  refine if_pos ⟨by omega,by omega,?_,?_⟩
  ·have:(0:Int)≤1*2^((days y:Nat):Int).toNat:=by rw[Int.one_mul];exact Int.le_of_lt (Int.pow_pos (by omega))
   exact Int.le_trans (by omega) this
  ·rw[Int.one_mul,Int.toNat_natCast];have:((2^days y:Nat):Int)≤1024:=by omega
   rw[Int.natCast_pow] at this;exact Int.le_trans this (by omega)
 induction k with
 |zero=>
  intro m i a h hm l;cases m with
  |zero=>omega
  |succ m=>
   rw[CP.eq_2,By (by omega) (by omega),b,bd (MH _ (by omega)),bd e,c,cf (df (by omega))];simp[G5]
 |succ k ih=>
  intro m i a h hm l;cases m with
  |zero=>omega
  |succ m=>
   rw[CP.eq_2,By (by omega) (by omega),b,bd (MH _ (by omega)),bd e,c,ct (dt (by omega)),bd (Lr y i h0 h9 d f g hK)];unfold G5;rw[List.range'_succ,List.filter_cons];cases Hz y (wl (days y) i) with
   |true=>
    rw[ct rfl,FV (by simp;omega),By (by omega) (by omega),CS,ih m (i+1) _ (by omega) (by omega) (by simp;omega)];simp[G5]
   |false=>
    rw[cf rfl,By (by omega) (by omega),CS,ih m (i+1) a (by omega) (by omega) (by omega)];simp[G5]
theorem Mh{K:Nat}(y:Ar)(h0:0≤y.Am)(h9:y.Am≤9)(a:0≤y.AA)(b:y.AA≤y.Am+1)(c:0≤y.Ap)(hK:2000≤K):Ej K y=some (G5 y 0 (2^days y)):=by
 unfold Ej;have d:days y≤10:=by unfold days;omega
 have f:=IU _ d;have e:=Qa (K:=K) y h0 h9 a b c hK (2^days y) K 0 [] (by omega) (by omega) (by simp);rw[Int.natCast_zero] at e;rw[bd e,List.nil_append]
theorem HU{y:Ar}(h9:y.Am≤9)(h:∀l∈y.Ad,Gz y l=true):∀l∈y.Ad,sized l∧0≤l.Aw∧l.AJ≤9:=fun l a=>by
 have:=I9.1 (h l a);exact⟨LD h9 (h l a),this.1,by omega⟩
theorem QU{K:Nat}(y:Ar)(h0:0≤y.Am)(h9:y.Am≤9)(a:0≤y.AA)(b:y.AA≤y.Am+1)(c:0≤y.Ap)(d:y.Ad.length≤4)(f:∀l∈y.Ad,sized l∧0≤l.Aw∧l.AJ≤9)(hK:2000≤K):
  DE K y=some (Jm 3000 ((Bw y).length:Int) y.Ad):=by
 unfold DE;have g:days y≤10:=by unfold days;omega
 have hw:=KI y g;have e:=Uq y d f (K:=K) y.Ad.length K 0 ((Bw y).length:Int) (by omega) (by omega) (by omega) (by omega);rw[Int.natCast_zero,List.drop_zero] at e;rw[bd (Mh y h0 h9 a b c hK),Nn,bd e]
theorem S7(K:Nat)(y:Ar)(d:y.Ad.length≤4):∀(k m i:Nat),y.Ad.length=i+k→k<m→
  Dv K y m (i:Int)=some (cond ((y.Ad.drop i).all (Gz y)) (.inr ()) (.inl 1)):=by
 intro k
 induction k with
 |zero=>
  intro m i h hm;cases m with
  |zero=>omega
  |succ m=>rw[Dv.eq_2,cf (df (by omega)),List.drop_eq_nil_of_le (by omega)];rfl
 |succ k ih=>
  intro m i h hm;cases m with
  |zero=>omega
  |succ m=>
   have hi:i<y.Ad.length:=by omega
   rw[Dv.eq_2,ct (dt (by omega)),B7 hi,List.drop_eq_getElem_cons hi,List.all_cons];unfold Gz;generalize y.Ad[i]=l
   by_cases a:l.Aw<0
   ·rw[ct (dt a),df (show¬(0≤l.Aw) by omega)];rfl
   rw[cf (df a),dt (show 0≤l.Aw by omega)]
   by_cases b:l.AJ<l.Aw
   ·rw[ct (dt b),df (show¬(l.Aw≤l.AJ) by omega)];rfl
   rw[cf (df b),dt (show l.Aw≤l.AJ by omega)]
   by_cases c:y.Am<l.AJ
   ·rw[ct (dt c),df (show¬(l.AJ≤y.Am) by omega)];rfl
   rw[cf (df c),dt (show l.AJ≤y.Am by omega),bd (KH ..)];cases Fx l.Aq 1 5 with
   |false=>rfl
   |true=>
    rw[nt,bd (KH ..)];cases Fx l.BY 1 5 with
    |false=>rfl
    |true=>
     rw[nt,bd (KH ..)];cases Fx l.Ch 0 y.Am with
     |false=>rfl
     |true=>rw[nt,By (by omega) (by omega),CS,ih m (i+1) (by omega) (by omega)];rfl
theorem Pf{K:Nat}(hK:2000≤K)(y:Ar):EJ K y=some (check y):=by
 unfold EJ check
 by_cases g:9<y.Am
 ·rw[ct (dt g),if_pos (.inl g)]
 rw[cf (df g)]
 by_cases i:2<y.Aj
 ·rw[ct (dt i),if_pos (.inr (.inl i))]
 rw[cf (df i)]
 by_cases j:4<(y.Ad.length:Int)
 ·rw[ct (dt j),if_pos (.inr (.inr j))]
 rw[cf (df j),if_neg (by omega)]
 by_cases a:y.Am<0
 ·rw[ct (dt a),if_pos (.inl a)]
 rw[cf (df a)]
 by_cases b:y.Aj<1
 ·rw[ct (dt b),if_pos (.inr (.inl b))]
 rw[cf (df b),By (by omega) (by omega),bd (KH ..)];cases m:Fx y.Ap 0 (y.Am+1) with
 |false=>rw[nf,if_pos (.inr (.inr (.inl rfl)))]
 |true=>
  rw[nt,By (by omega) (by omega),bd (KH ..)];cases n:Fx y.AA 0 (y.Am+1) with
  |false=>rw[nf,if_pos (.inr (.inr (.inr (.inl rfl))))]
  |true=>
   have e:=S7 K y (by omega) y.Ad.length K 0 (by omega) (by omega);rw[Int.natCast_zero,List.drop_zero] at e;rw[nt,bd e];cases o:y.Ad.all (Gz y) with
   |false=>rw[if_pos (.inr (.inr (.inr (.inr rfl))))];rfl
   |true=>
    have q:=Fc.1 m;have r:=Fc.1 n;have k:=HU (y:=y) (by omega) (List.all_eq_true.1 o);rw[if_neg (by simp[a,b])];show(DE K y).bind _=_;rw[bd (QU y (by omega) (by omega) (by omega) (by omega) (by omega) (by omega) k hK)];have f:=MA (c:=3000) (by omega) ((Bw y).length:Int) (by omega) fun l p=>(k l p).1;unfold Gc
    by_cases d:1000<((Bw y).length:Int)*Fi y.Ad
    ·rw[ct (dt (f.2 d)),if_pos d]
    ·rw[cf (df fun h=>d (f.1 h)),if_neg d]
end Go.Proofs.YtkljfdkmjdjpfaaGreat
end
section
namespace Go.Proofs.YtkljfdkmjdjpfaaGreat
def Iy(y:Ar):List Nat:=(List.range (2^days y)).filter fun b=>Hz y (wl (days y) b)
theorem QV(y:Ar):G5 y 0 (2^days y)=(Iy y).map fun b:Nat=>(b:Int):=by
 unfold G5 Iy;rw[List.range_eq_range']
theorem KP(y:Ar):Bw y=(Iy y).map (wl (days y)):=by
 unfold Bw Iy;rw[List.filter_map];rfl
theorem KQ(y:Ar):(Iy y).length=(Bw y).length:=by rw[KP,List.length_map]
def J0:List Bd→Nat→List Int
 |[],_=>[]
 |l::r,n=>(l.Aw+((n%(B5 l).toNat:Nat):Int))::J0 r (n/(B5 l).toNat)
def Of(y:Ar)(n:Nat):AW:=⟨J0 y.Ad (n/(Bw y).length),(Bw y).getD (n%(Bw y).length) []⟩
theorem Uz(K:Nat)(y:Ar)(w:y.Ad.length≤4)(c:∀l∈y.Ad,sized l∧0≤l.Aw∧l.AJ≤9):∀(k m i:Nat) (q:Nat) (a:List Int),y.Ad.length=i+k→k<m→q≤100000→a.length≤i→
  Ef K y m (q:Int) (i:Int) a=some (a++J0 (y.Ad.drop i) q):=by
 intro k
 induction k with
 |zero=>
  intro m i q a h hm d e;cases m with
  |zero=>omega
  |succ m=>rw[Ef.eq_2,cf (df (by omega)),List.drop_eq_nil_of_le (by omega)];simp[J0]
 |succ k ih=>
  intro m i q a h hm d e;cases m with
  |zero=>omega
  |succ m=>
   have hi:i<y.Ad.length:=by omega
   obtain⟨⟨s1,s2⟩,f,j⟩:=c y.Ad[i] (List.getElem_mem hi);have b:((B5 y.Ad[i]).toNat:Int)=B5 y.Ad[i]:=by omega
   have p:1≤(B5 y.Ad[i]).toNat:=by omega
   have g:=QF K _ f (by unfold B5 at s1;omega) j;have n:(q:Int)%B5 y.Ad[i]=((q%(B5 y.Ad[i]).toNat:Nat):Int):=by rw[Int.natCast_emod,b]
   have o:(q:Int)/B5 y.Ad[i]=((q/(B5 y.Ad[i]).toNat:Nat):Int):=by rw[Int.natCast_ediv,b]
   have r:q%(B5 y.Ad[i]).toNat<(B5 y.Ad[i]).toNat:=Nat.mod_lt _ (by omega);have s:q/(B5 y.Ad[i]).toNat≤q:=Nat.div_le_self ..;have t:(0:Int)≤((q%(B5 y.Ad[i]).toNat:Nat):Int):=Int.natCast_nonneg _;have u:(0:Int)≤((q/(B5 y.Ad[i]).toNat:Nat):Int):=Int.natCast_nonneg _;have v:B5 y.Ad[i]=y.Ad[i].AJ-y.Ad[i].Aw+1:=rfl;rw[Ef.eq_2,ct (dt (by omega)),B7 hi,bd g,P0 (by omega) s1,n,By (by omega) (by omega),FV (by simp;omega),bd g,Un (by omega) s1,o,By (by omega) (by omega),By (by omega) (by omega),CS];rw[ih m (i+1) _ _ (by omega) (by omega) (by omega) (by simp;omega),List.drop_eq_getElem_cons hi,J0];simp
theorem S8(K:Nat)(y:Ar)(b:Nat)(h0:0≤y.Am)(h9:y.Am≤9):∀(k m i:Nat) (a:List Bool),days y=i+k→k<m→a.length≤i→
  D2 K y (b:Int) m (i:Int) a=some (a++(wl (days y) b).drop i):=by
 intro k
 induction k with
 |zero=>
  intro m i a h hm c;cases m with
  |zero=>omega
  |succ m=>rw[D2.eq_2,cf (df (by unfold days at h;omega)),List.drop_eq_nil_of_le (by rw[FW];omega)];simp
 |succ k ih=>
  intro m i a h hm c;cases m with
  |zero=>omega
  |succ m=>
   have hi:(i:Int)≤y.Am:=by unfold days at h;omega
   have d:=K8 (days y) b i (by omega);rw[D2.eq_2,ct (dt hi),bd (Mg K b i (by omega)),FV (by simp;omega),By (by omega) (by omega),CS,ih m (i+1) _ (by omega) (by omega) (by simp;omega),d];simp
theorem VH{K:Nat}(y:Ar)(a:EE y)(n:Nat)(e:(n:Int)<Gc y)(hK:2000≤K):Ga K y (G5 y 0 (2^days y)) (n:Int)=some (Of y n):=by
 unfold Ga;have h0:=a.h0;have h9:=a.h9;have i:=a.n4;have hm:=a.many;have j:=HU h9 a.N2;have q:days y≤10:=by unfold days;omega
 have hlen:1≤(Bw y).length:=by
  rcases Nat.eq_zero_or_pos (Bw y).length with h|h
  ·unfold Gc at e;rw[h] at e;simp at e;omega
  ·exact h
 rw[QV,List.length_map,KQ];have k:(n:Int)%((Bw y).length:Int)=((n%(Bw y).length:Nat):Int):=by rw[Int.natCast_emod]
 have l:(n:Int)/((Bw y).length:Int)=((n/(Bw y).length:Nat):Int):=by rw[Int.natCast_ediv]
 have f:n%(Bw y).length<(Bw y).length:=Nat.mod_lt _ (by omega);have m:n/(Bw y).length≤n:=Nat.div_le_self ..;have o:(0:Int)≤((n%(Bw y).length:Nat):Int):=Int.natCast_nonneg _;have p:(0:Int)≤((n/(Bw y).length:Nat):Int):=Int.natCast_nonneg _;have c:n%(Bw y).length<(Iy y).length:=by rw[KQ];exact f
 have hi:n%(Bw y).length<((Iy y).map fun b:Nat=>(b:Int)).length:=by rw[List.length_map];exact c
 have g:=Uz K y i j y.Ad.length K 0 (n/(Bw y).length) [] (by omega) (by omega) (by omega) (by simp);have d:=S8 K y ((Iy y)[n%(Bw y).length]) h0 h9 (days y) K 0 [] (by omega) (by omega) (by simp);rw[Int.natCast_zero,List.drop_zero,List.nil_append] at g d;rw[P0 (by omega) (by omega),k,B7 hi,Un (by omega) (by omega),l,By (by omega) (by omega),bd g,List.getElem_map,bd d];unfold Of
 congr 2
 rw[List.getD_eq_getElem?_getD,List.getElem?_eq_getElem f];have:(Bw y)[n%(Bw y).length]'f=((Iy y).map (wl (days y)))[n%(Bw y).length]'(by rw[List.length_map];exact c):=by
  congr 1;exact KP y
 rw[this,List.getElem_map];rfl
def HJ(y:Ar)(k d:Nat):List AW:=(List.range' k d).map (Of y)
theorem MI{K:Nat}(y:Ar)(a:EE y)(hK:2000≤K):DE K y=some (Gc y):=by
 have b:=HU a.h9 a.N2;rw[QU y a.h0 a.h9 a.u0 a.u1 a.w0 a.n4 b hK];have:=a.many;unfold Gc at this⊢;rw[Pc (by omega) _ (by omega) (fun l c=>(b l c).1) this]
theorem RW{K:Nat}(y:Ar)(b:EE y)(hK:2000≤K):∀(k m i:Nat) (a:List AW),(Gc y).toNat=i+k→k<m→a.length≤i→
  Dz K y (G5 y 0 (2^days y)) m a (i:Int)=some (a++HJ y i k):=by
 have e:=b.many;have f:0≤Gc y:=by
  unfold Gc;have:=Ja (ls:=y.Ad) fun l c=>(HU b.h9 b.N2 l c).1;exact Int.mul_nonneg (by omega) (by omega)
 intro k
 induction k with
 |zero=>
  intro m i a h hm d;cases m with
  |zero=>omega
  |succ m=>rw[Dz.eq_2,bd (MI y b hK),cf (df (by omega))];simp[HJ]
 |succ k ih=>
  intro m i a h hm d;cases m with
  |zero=>omega
  |succ m=>
   rw[Dz.eq_2,bd (MI y b hK),ct (dt (by omega)),bd (VH y b i (by omega) hK),FV (by simp;omega),By (by omega) (by omega),CS,ih m (i+1) _ (by omega) (by omega) (by simp;omega)];unfold HJ;rw[List.range'_succ];simp
def He(y:Ar):List AW:=HJ y 0 (Gc y).toNat
theorem RX{K:Nat}(y:Ar)(a:EE y)(hK:2000≤K):Eg K y=some (He y):=by
 unfold Eg;have hm:=a.many;have e:=RW (K:=K) y a hK (Gc y).toNat K 0 [] (by omega) (by omega) (by simp);rw[Int.natCast_zero] at e;rw[bd (Mh y a.h0 a.h9 a.u0 a.u1 a.w0 hK),bd e,List.nil_append];rfl
theorem OW(y:Ar):(He y).length=(Gc y).toNat:=by unfold He HJ;simp
theorem Mi:∀{ls:List Bd} (n:Nat),(∀l∈ls,sized l)→DG ls (J0 ls n)=true
 |[],_,_=>rfl
 |l::r,n,h=>by
  have a:=h l (List.mem_cons_self ..);have b:n%(B5 l).toNat<(B5 l).toNat:=Nat.mod_lt _ (by have:=a.1;omega);rw[J0,DG,Mi _ fun x c=>h x (List.mem_cons_of_mem _ c),Bool.and_true,Fc];unfold B5 at b⊢;omega
theorem QW:∀{ls:List Bd} {c:List Int},(∀l∈ls,sized l)→DG ls c=true→∃n:Nat,(n:Int)<Fi ls∧J0 ls n=c
 |[],[],_,_=>⟨0,by simp[Fi],rfl⟩
 |l::r,a::d,h,b=>by
  rw[DG,Bool.and_eq_true] at b;obtain⟨q,o,e⟩:=QW (fun x g=>h x (List.mem_cons_of_mem _ g)) b.2;have i:=h l (List.mem_cons_self ..);have p:=Fc.1 b.1;have f:(a-l.Aw).toNat<(B5 l).toNat:=by unfold B5;omega
  have j:0<(B5 l).toNat:=by omega
  refine⟨(a-l.Aw).toNat+(B5 l).toNat*q,?_,?_⟩
  ·have k:B5 l*((q:Int)+1)≤B5 l*Fi r:=Int.mul_le_mul_of_nonneg_left (by omega) (by have:=i.1;omega);rw[Fi];rw[Int.mul_add,Int.mul_one] at k;have m:(((a-l.Aw).toNat+(B5 l).toNat*q:Nat):Int)=((a-l.Aw).toNat:Int)+B5 l*(q:Int):=by
    rw[Int.natCast_add,Int.natCast_mul]
    congr 2;omega
   rw[m];omega
  ·rw[J0,Nat.add_mul_mod_self_left,Nat.mod_eq_of_lt f,Nat.add_mul_div_left _ _ j,Nat.div_eq_of_lt f,Nat.zero_add,e]
   congr 1;omega
 |[],_::_,_,h=>by cases h
 |_::_,[],_,h=>by cases h
theorem HA{y:Ar}(d:EE y){t:AW}:t∈He y↔Et y t=true:=by
 have i:=HU d.h9 d.N2;have b:∀l∈y.Ad,sized l:=fun l k=>(i l k).1;rw[←Gf d.h0];unfold He HJ;rw[List.mem_map];constructor
 ·rintro⟨n,a,rfl⟩;rw[←List.range_eq_range',List.mem_range] at a;have hlen:0<(Bw y).length:=by
   rcases Nat.eq_zero_or_pos (Bw y).length with h|h
   ·unfold Gc at a;rw[h] at a;simp at a
   ·exact h
  have g:n%(Bw y).length<(Bw y).length:=Nat.mod_lt _ hlen;unfold Cf Of;rw[List.mem_flatMap];refine⟨(Bw y).getD (n%(Bw y).length) [],?_,List.mem_map.2 ⟨_,G1.2 (Mi _ b),rfl⟩⟩;rw[List.getD_eq_getElem?_getD,List.getElem?_eq_getElem g];exact List.getElem_mem g
 ·intro h;unfold Cf at h;rw[List.mem_flatMap] at h;obtain⟨w,hw,m⟩:=h;obtain⟨c,o,rfl⟩:=List.mem_map.1 m;obtain⟨q,r,e⟩:=QW b (G1.1 o);obtain⟨j,f,s⟩:=List.getElem_of_mem hw;have hlen:0<(Bw y).length:=by omega
  refine⟨j+(Bw y).length*q,?_,?_⟩
  ·rw[←List.range_eq_range',List.mem_range];have p:((Bw y).length:Int)*((q:Int)+1)≤((Bw y).length:Int)*Fi y.Ad:=Int.mul_le_mul_of_nonneg_left (by omega) (by omega);rw[Int.mul_add,Int.mul_one] at p;have u:((j+(Bw y).length*q:Nat):Int)=(j:Int)+((Bw y).length:Int)*(q:Int):=by
    rw[Int.natCast_add,Int.natCast_mul]
   unfold Gc;omega
  ·unfold Of;rw[Nat.add_mul_mod_self_left,Nat.mod_eq_of_lt f,Nat.add_mul_div_left _ _ hlen,Nat.div_eq_of_lt f,Nat.zero_add,e,List.getD_eq_getElem?_getD,List.getElem?_eq_getElem f]
   congr 1
theorem Og{y:Ar}(a:EE y)(p:AW→Bool):(He y).all p=(Cf y).all p:=by
 rw[Bool.eq_iff_iff,List.all_eq_true,List.all_eq_true];exact⟨fun h t b=>h t ((HA a).2 ((Gf a.h0).1 b)),fun h t b=>h t ((Gf a.h0).2 ((HA a).1 b))⟩
end Go.Proofs.YtkljfdkmjdjpfaaGreat
end
section
namespace Go.Proofs.YtkljfdkmjdjpfaaGreat
theorem Oh(n:Nat)(h:n<63):Jk (1:Int) (n:Int)=some ():=by
 have a:2^n≤2^62:=Nat.pow_le_pow_right (by omega) (by omega);have b:(1:Int)*2^((n:Nat):Int).toNat=((2^n:Nat):Int):=by rw[Int.one_mul,Int.toNat_natCast,Int.natCast_pow];rfl
 have c:2^62=4611686018427387904:=rfl;rw[c] at a;refine if_pos ⟨by omega,by omega,?_,?_⟩
 ·rw[b];exact Int.le_trans (by decide) (Int.natCast_nonneg _)
 ·rw[b];exact Int.le_trans (Int.ofNat_le.2 a) (by decide)
theorem MJ(n:Nat):Fz (1:Int) (n:Int)=((2^n:Nat):Int):=by
 unfold Fz;rw[Int.one_mul,Int.toNat_natCast,Int.natCast_pow];rfl
theorem QX(a b:Nat)(c:a≤9223372036854775807)(d:b≤9223372036854775807):NV (a:Int) (b:Int)=some ():=if_pos ⟨⟨by omega,by omega⟩,by omega,by omega⟩
theorem QY(a b:Nat):L0 (a:Int) (b:Int)=((a|||b:Nat):Int):=rfl
theorem Ij(n:Nat)(h:n≤62):2^n≤4611686018427387904:=by
 have a:2^n≤2^62:=Nat.pow_le_pow_right (by omega) h;exact a
theorem QZ(l:List Bool)(i:Nat)(hi:i<l.length):bitsOf (l.take (i+1))=cond l[i] (bitsOf (l.take i)|||2^i) (bitsOf (l.take i)):=by
 apply Nat.eq_of_testBit_eq;intro j;rw[Hs];have a:(l.take i).length=i:=by simp;omega
 have e:l.take (i+1)=l.take i++[l[i]]:=by rw[List.take_add_one,List.getElem?_eq_getElem hi];rfl
 rw[e,List.getD_eq_getElem?_getD];have b:(cond l[i] (bitsOf (l.take i)|||2^i) (bitsOf (l.take i))).testBit j=((l.take i).getD j false||(l[i]&&decide (i=j))):=by
  cases l[i] with
  |true=>rw[Bool.true_and];show(bitsOf (l.take i)|||2^i).testBit j=_;rw[Nat.testBit_or,Hs,Nat.testBit_two_pow]
  |false=>rw[Bool.false_and,Bool.or_false];exact Hs ..
 rw[b,List.getD_eq_getElem?_getD];rcases Nat.lt_trichotomy j i with h|h|h
 ·rw[List.getElem?_append_left (by omega),df (by omega),Bool.and_false,Bool.or_false]
 ·subst h;rw[List.getElem?_append_right (by omega),a,List.getElem?_eq_none (l:=l.take j) (by omega),dt rfl];simp
 ·rw[List.getElem?_append_right (by omega),a,List.getElem?_eq_none (l:=l.take i) (by omega),df (by omega)];have:([l[i]]:List Bool)[j-i]?=none:=List.getElem?_eq_none (by simp;omega);rw[this];simp
theorem Qb(l:List Bool)(h:l.length≤62):bitsOf l≤4611686018427387904:=by
 have a:=KL l;have b:=Ij l.length h;omega
theorem RY(t:AW)(f:t.Ap.length≤60):∀(k m i:Nat),t.Ap.length=i+k→k<m→
  Cr t m (bitsOf (t.Ap.take i):Int) (i:Int)=some (bitsOf t.Ap:Int):=by
 intro k
 induction k with
 |zero=>
  intro m i h hm;cases m with
  |zero=>omega
  |succ m=>rw[Cr.eq_2,cf (df (by omega)),List.take_of_length_le (by omega)]
 |succ k ih=>
  intro m i h hm;cases m with
  |zero=>omega
  |succ m=>
   have hi:i<t.Ap.length:=by omega
   have a:=QZ t.Ap i hi;have c:=Qb (t.Ap.take i) (by simp;omega);have d:=Ij i (by omega);rw[Cr.eq_2,ct (dt (by omega)),B7 hi];cases b:t.Ap[i] with
   |true=>
    rw[b] at a;rw[ct rfl,bd (MH i (by omega)),bd (Oh i (by omega)),MJ,bd (QX _ _ (by omega) (by omega)),By (by omega) (by omega),CS,QY];have e:bitsOf (t.Ap.take i)|||2^i=bitsOf (t.Ap.take (i+1)):=a.symm;rw[e];exact ih m (i+1) (by omega) (by omega)
   |false=>
    rw[b] at a;have e:bitsOf (t.Ap.take i)=bitsOf (t.Ap.take (i+1)):=a.symm;rw[cf rfl,By (by omega) (by omega),CS,e];exact ih m (i+1) (by omega) (by omega)
theorem Q0(K:Nat)(y:Ar)(t:AW)(b:y.Ad.length≤4)(c:t.Comes.length=y.Ad.length):∀(k m i:Nat),y.Ad.length=i+k→k<m→
  Dm K y t m (i:Int)=some (cond (DG (y.Ad.drop i) (t.Comes.drop i)) (.inr ()) (.inl false)):=by
 intro k
 induction k with
 |zero=>
  intro m i h hm;cases m with
  |zero=>omega
  |succ m=>rw[Dm.eq_2,cf (df (by omega)),List.drop_eq_nil_of_le (by omega),List.drop_eq_nil_of_le (by omega)];rfl
 |succ k ih=>
  intro m i h hm;cases m with
  |zero=>omega
  |succ m=>
   have hi:i<y.Ad.length:=by omega
   have a:i<t.Comes.length:=by omega
   rw[Dm.eq_2,ct (dt (by omega)),B7 a,B7 hi,B7 hi,bd (KH ..),List.drop_eq_getElem_cons hi,List.drop_eq_getElem_cons a,DG];cases d:Fx t.Comes[i] y.Ad[i].Aw y.Ad[i].AJ with
   |false=>rw[nf];rfl
   |true=>rw[nt,By (by omega) (by omega),CS,Bool.true_and];exact ih m (i+1) (by omega) (by omega)
theorem Q1{K:Nat}(y:Ar)(a:EE y)(t:AW)(hK:2000≤K):D4 K y t=some (Et y t):=by
 unfold D4 Et;have h0:=a.h0;have h9:=a.h9;have f:=a.n4
 by_cases c:t.Comes.length=y.Ad.length
 ·rw[cf (by rw[c];simp),By (by omega) (by omega)]
  by_cases hw:(t.Ap.length:Int)=y.Am+1
  ·have e:=Q0 K y t f c y.Ad.length K 0 (by omega) (by omega);have b:=RY t (by omega) t.Ap.length K 0 (by omega) (by omega);rw[Int.natCast_zero,List.drop_zero,List.drop_zero] at e;rw[List.take_zero,Int.natCast_zero] at b;have d:Cr t K (0:Int) (0:Int)=some (bitsOf t.Ap:Int):=b;rw[cf (by rw[hw];simp),bd e,dt hw,Bool.true_and];cases DG y.Ad t.Comes with
   |false=>rw[Bool.and_false];rfl
   |true=>
    show(Cr t K 0 0).bind _=_;have g:days y=t.Ap.length:=by unfold days;omega
    rw[bd d,bd (Lr y _ h0 h9 a.u0 a.u1 a.w0 hK),g,Na,Bool.and_true]
  ·rw[ct (by simpa using hw),df hw];rfl
 ·rw[ct (by simp;omega)];cases h:DG y.Ad t.Comes with
  |false=>rw[Bool.and_false,Bool.and_false]
  |true=>exact absurd (G0 h) c
end Go.Proofs.YtkljfdkmjdjpfaaGreat
end
section
namespace Go.Proofs.YtkljfdkmjdjpfaaGreat
def seen (n:Int):List Int→Nat→Option Nat
 |[],m=>some m
 |x::xs,m=>cond (Fx x 0 (n-1)) (cond (m.testBit x.toNat) none (seen n xs (m|||2^x.toNat))) none
theorem Ls(n:Int):∀(xs ys:List Int) (m:Nat),seen n (xs++ys) m=(seen n xs m).bind (seen n ys)
 |[],ys,m=>rfl
 |x::xs,ys,m=>by
  rw[List.cons_append,seen,seen];cases Fx x 0 (n-1) with
  |false=>rfl
  |true=>
   cases m.testBit x.toNat with
   |true=>rfl
   |false=>exact Ls n xs ys _
def RZ:Option Nat→Bool⊕Int
 |none=>.inl false
 |some m=>.inr (m:Int)
theorem R0{m i n:Nat}(hm:m<2^n)(hi:i<n):m|||2^i<2^n:=Nat.or_lt_two_pow hm (Nat.pow_lt_pow_right (by omega) hi)
theorem UA(K:Nat)(y:Ar)(o:List (List Int))(r:Nat)(a:r<o.length)(p:y.Ad.length≤4)(q:o[r].length≤1000):∀(k m i b:Nat),o[r].length=i+k→k<m→b<2^y.Ad.length→
  Dn K y o (r:Int) m (b:Int) (i:Int)=some (RZ (seen (y.Ad.length:Int) (o[r].drop i) b))∧∀b',seen (y.Ad.length:Int) (o[r].drop i) b=some b'→b'<2^y.Ad.length:=by
 have s:2^y.Ad.length≤4611686018427387904:=Ij _ (by omega);intro k
 induction k with
 |zero=>
  intro m i b h hm c;cases m with
  |zero=>omega
  |succ m=>
   rw[Dn.eq_2,B7 a,cf (df (by omega)),List.drop_eq_nil_of_le (by omega)];exact⟨rfl,fun b' h=>by cases h;exact c⟩
 |succ k ih=>
  intro m i b h hm c;cases m with
  |zero=>omega
  |succ m=>
   have hi:i<o[r].length:=by omega
   rw[Dn.eq_2,B7 a,ct (dt (by omega)),B7 a,B7 hi,By (by omega) (by omega),bd (KH ..),List.drop_eq_getElem_cons hi];have d:seen (y.Ad.length:Int) (o[r][i]::o[r].drop (i+1)) b=cond (Fx o[r][i] 0 ((y.Ad.length:Int)-1)) (cond (b.testBit o[r][i].toNat) none (seen (y.Ad.length:Int) (o[r].drop (i+1)) (b|||2^o[r][i].toNat))) none:=rfl;rw[d];generalize t:o[r][i]=x;cases e:Fx x 0 ((y.Ad.length:Int)-1) with
   |false=>exact⟨rfl,fun b' h=>by cases h⟩
   |true=>
    have g:=Fc.1 e;obtain⟨j,rfl⟩:∃j:Nat,x=(j:Int):=⟨x.toNat,by omega⟩;have f:j<y.Ad.length:=by omega
    rw[nt,bd (Mg K b j (by omega)),Int.toNat_natCast,ct rfl];cases l:b.testBit j with
    |true=>exact⟨rfl,fun b' h=>by cases h⟩
    |false=>
     have n:=Ij j (by omega);rw[cf rfl,cf rfl,bd (MH j (by omega)),bd (Oh j (by omega)),MJ,bd (QX _ _ (by omega) (by omega)),By (by omega) (by omega),CS,QY];exact ih m (i+1) _ (by omega) (by omega) (R0 c f)
theorem UB{K:Nat}(y:Ar)(o:List (List Int))(j:y.Ad.length≤4)(q:o.length≤1000)(n:∀l∈o,l.length≤1000)(hK:2000≤K):∀(k m i b:Nat),o.length=i+k→k<m→b<2^y.Ad.length→
  Dp K y o m (b:Int) (i:Int)=some (RZ (seen (y.Ad.length:Int) (o.drop i).flatten b))∧∀b',seen (y.Ad.length:Int) (o.drop i).flatten b=some b'→b'<2^y.Ad.length:=by
 intro k
 induction k with
 |zero=>
  intro m i b h hm d;cases m with
  |zero=>omega
  |succ m=>
   rw[Dp.eq_2,cf (df (by omega)),List.drop_eq_nil_of_le (by omega)];exact⟨rfl,fun b' h=>by cases h;exact d⟩
 |succ k ih=>
  intro m i b h hm d;cases m with
  |zero=>omega
  |succ m=>
   have hi:i<o.length:=by omega
   have e:=n o[i] (List.getElem_mem hi);obtain⟨f,g⟩:=UA K y o i hi j e o[i].length K 0 b (by omega) (by omega) d;rw[Int.natCast_zero,List.drop_zero] at f;rw[List.drop_zero] at g;rw[Dp.eq_2,ct (dt (by omega)),bd f,List.drop_eq_getElem_cons hi,List.flatten_cons,Ls];cases p:seen (y.Ad.length:Int) o[i] b with
   |none=>exact⟨rfl,fun b' h=>by cases h⟩
   |some a=>
    have c:=ih m (i+1) a (by omega) (by omega) (g a p);refine⟨?_,c.2⟩;refine Eq.trans ?_ c.1;rw[show RZ (some a)=Sum.inr (a:Int) from rfl,Sum.elim_inr,By (by omega) (by omega),CS]
theorem KR{n:Nat}:∀{xs:List Int} {m c:Nat},seen (n:Int) xs m=some c→(∀x∈xs,0≤x∧x<(n:Int)∧m.testBit x.toNat=false)∧xs.Nodup∧∀j:Nat,c.testBit j=(m.testBit j||decide ((j:Int)∈xs))
 |[],m,c,h=>by
  have d:m=c:=Option.some.inj h;subst d;refine⟨?_,List.nodup_nil,?_⟩
  ·intro x f;exact absurd f (List.not_mem_nil (a:=x))
  ·intro j;simp
 |x::xs,m,c,h=>by
  rw[seen] at h;cases g:Fx x 0 ((n:Int)-1) with
  |false=>rw[g] at h;cases h
  |true=>
   rw[g,ct rfl] at h;cases i:m.testBit x.toNat with
   |true=>rw[i] at h;cases h
   |false=>
    rw[i,cf rfl] at h;obtain⟨k,d,l⟩:=KR h;have o:=Fc.1 g;have key:∀z∈xs,m.testBit z.toNat=false∧z≠x:=fun z b=>by
     have:=(k z b).2.2;rw[Nat.testBit_or,Bool.or_eq_false_iff] at this;refine⟨this.1,fun e=>?_⟩;rw[e,Nat.testBit_two_pow_self] at this;cases this.2
    refine⟨fun z b=>?_,List.nodup_cons.2 ⟨fun f=>(key x f).2 rfl,d⟩,fun j=>?_⟩
    ·rcases List.mem_cons.1 b with rfl|b
     ·exact⟨by omega,by omega,i⟩
     ·exact⟨(k z b).1,(k z b).2.1,(key z b).1⟩
    ·rw[l j,Nat.testBit_or,Nat.testBit_two_pow,Bool.or_assoc]
     congr 1
     rw[Bool.eq_iff_iff,Bool.or_eq_true,decide_eq_true_eq,decide_eq_true_eq,decide_eq_true_eq,List.mem_cons];exact or_congr_left ⟨fun e=>by omega,fun e=>by omega⟩
theorem Nc{n:Nat}:∀{xs:List Int} {m:Nat},(∀x∈xs,0≤x∧x<(n:Int)∧m.testBit x.toNat=false)→xs.Nodup→seen (n:Int) xs m≠none
 |[],m,_,_=>by rw[seen];simp
 |x::xs,m,h,a=>by
  obtain⟨c,f,d⟩:=h x (List.mem_cons_self ..);rw[seen,Fc.2 ⟨c,by omega⟩,d,ct rfl,cf rfl];refine Nc (fun z b=>?_) (List.nodup_cons.1 a).2;obtain⟨g1,g2,g3⟩:=h z (List.mem_cons_of_mem _ b);refine⟨g1,g2,?_⟩;rw[Nat.testBit_or,g3,Nat.testBit_two_pow,Bool.false_or,df];intro e;have:x=z:=by omega
  exact(List.nodup_cons.1 a).1 (this▸b)
theorem J1(n:Nat):(iota n).Nodup:=by
 unfold iota;refine List.Pairwise.map _ (fun a b h=>?_) (List.nodup_range (n:=n));intro e;exact h (by omega)
theorem Q2(n:Nat)(xs:List Int):(∃m,seen (n:Int) xs 0=some m∧m=2^n-1)↔xs.Perm (iota n):=by
 constructor
 ·rintro⟨m,h,hm⟩;obtain⟨d,f,b⟩:=KR h;refine(List.perm_ext_iff_of_nodup f (J1 n)).2 fun x=>?_;rw[H2];constructor
  ·intro a;exact⟨(d x a).1,(d x a).2.1⟩
  ·intro a;have:=b x.toNat;rw[hm,Nat.testBit_two_pow_sub_one,dt (by omega),Nat.zero_testBit,Bool.false_or] at this;have g:=of_decide_eq_true this.symm
   rwa[show((x.toNat:Nat):Int)=x by omega] at g
 ·intro c;have i:∀x∈xs,0≤x∧x<(n:Int)∧(0:Nat).testBit x.toNat=false:=fun x a=>by
   have:=H2.1 (c.mem_iff.1 a);exact⟨this.1,this.2,Nat.zero_testBit _⟩
  have k:xs.Nodup:=c.symm.nodup (J1 n);cases e:seen (n:Int) xs 0 with
  |none=>exact absurd e (Nc i k)
  |some m=>
   refine⟨m,rfl,?_⟩;obtain⟨_,_,b⟩:=KR e;apply Nat.eq_of_testBit_eq;intro j;rw[b j,Nat.testBit_two_pow_sub_one,Nat.zero_testBit,Bool.false_or]
   congr 1
   rw[eq_iff_iff,c.mem_iff,H2];omega
theorem Q3{K:Nat}(y:Ar)(o:List (List Int))(g:y.Ad.length≤4)(i:o.length≤1000)(j:∀l∈o,l.length≤1000)(hK:2000≤K):Fb K y o=some (DA y o):=by
 unfold Fb;have d:0<2^y.Ad.length:=Nat.pos_of_ne_zero (by simp);have k:=Ij y.Ad.length (by omega);obtain⟨f,n⟩:=UB (K:=K) y o g i j hK o.length K 0 0 (by omega) (by omega) d;rw[Int.natCast_zero,List.drop_zero] at f;have b:=Q2 y.Ad.length o.flatten
 by_cases a:(o.length:Int)=y.Aj
 ·rw[cf (by rw[a];simp),bd f];cases c:seen (y.Ad.length:Int) o.flatten 0 with
  |none=>
   show some false=_
   congr 1
   symm
   rw[←Bool.not_eq_true,Fe];rintro⟨_,h⟩;obtain⟨m,h,_⟩:=b.2 h;rw[c] at h;cases h
  |some m=>
   show(L1 .u64 (y.Ad.length:Int)).bind _=_;rw[bd (MH _ (by omega)),bd (Oh _ (by omega)),MJ,By (by omega) (by omega)]
   congr 1
   rw[Bool.eq_iff_iff,Fe,beq_iff_eq,←b];constructor
   ·intro h;exact⟨a,m,c,by omega⟩
   ·rintro⟨_,p,h,e⟩;rw[c] at h;cases h;omega
 ·rw[ct (by simpa using a)]
  congr 1
  symm
  rw[←Bool.not_eq_true,Fe];exact fun h=>a h.1
end Go.Proofs.YtkljfdkmjdjpfaaGreat
end
section
namespace Go.Proofs.YtkljfdkmjdjpfaaGreat
def never:Ah:=⟨-1,-1,false⟩
def Jw (n:Nat) (l:List Int) (out:List Ah):Prop:=out.length=n∧l.Nodup∧∀j∈l,∃q:Nat,j=(q:Int)∧q<n∧out[q]?=some never
theorem Oi{n:Nat}{i:Int}{r:List Int}{out:List Ah}(h:Jw n (i::r) out):Jw n r out:=⟨h.1,(List.nodup_cons.1 h.2.1).2,fun j a=>h.2.2 j (List.mem_cons_of_mem _ a)⟩
theorem Pg{n i:Nat}{r:List Int}{out:List Ah}(h:Jw n r out)(hi:(i:Int)∉r)(s:Ah):Jw n r (out.set i s):=⟨by rw[List.length_set];exact h.1,h.2.1,fun j a=>by
 obtain⟨q,rfl,b,c⟩:=h.2.2 j a;refine⟨q,rfl,b,?_⟩;rw[List.getElem?_set_ne,c];intro e;exact hi (e▸a)⟩
theorem Jn(y:Ar)(w:List Bool)(c:List Int)(n:Nat):∀(l:List Int) (free:Int) (out:List Ah),y.Am<free→Jw n l out→Es y w c l free out=out
 |[],_,_,_,_=>rfl
 |i::r,free,out,f,h=>by
  obtain⟨q,rfl,g,b⟩:=h.2.2 i (List.mem_cons_self ..);have d:EZ y w (EG y (q:Int)) (max free (ER c (q:Int)))=never:=if_pos (by omega);have j:q<out.length:=by have:=h.1;omega
  have a:out[q]=never:=(List.getElem?_eq_some_iff.1 b).2;have e:out.set q never=out:=by rw[←a,List.set_getElem_self]
  rw[Es,d,Int.toNat_natCast,e];exact Jn y w c n r _ out (by show y.Am<cond true _ _;simp;omega) (Oi h)
def Mj(y:Ar)(s:Ah):Int:=cond (s.AH==-1) (y.Am+1) (s.AH+1)
theorem GC(y:Ar)(a:Int)(d:Nat)(b:Bool):Mj y ⟨a,(d:Int),b⟩=(d:Int)+1:=by
 unfold Mj;have:((d:Int)==-1)=false:=by rw[beq_eq_false_iff_ne];omega
 show cond ((d:Int)==-1) _ _=_;rw[this];rfl
theorem Oj(y:Ar){i:Nat}(h:i<y.Ad.length):EG y (i:Int)=y.Ad[i]:=by
 unfold EG;rw[Int.toNat_natCast,List.getD_eq_getElem?_getD,List.getElem?_eq_getElem h];rfl
theorem Nd(c:List Int){i:Nat}(h:i<c.length):ER c (i:Int)=c[i]:=by
 unfold ER;rw[Int.toNat_natCast,List.getD_eq_getElem?_getD,List.getElem?_eq_getElem h];rfl
theorem R1(y:Ar)(o:List (List Int))(t:AW)(r:Nat)(aH:r<o.length)(h9:y.Am≤9)(hw:(t.Ap.length:Int)=y.Am+1)(aL:t.Comes.length=y.Ad.length)(aM:o[r].length≤1000):∀(k m d:Nat),y.Am+1=d+k→k<m→
  (∀(a:Nat) (DV run:Int) (out:List Ah),Jw y.Ad.length (o[r].drop a) out→
   Bv y o t (r:Int) m (a:Int) (-1) DV run (d:Int) out=some (Es y t.Ap t.Comes (o[r].drop a) (d:Int) out))∧
  (∀(a i:Nat) (DV run d0:Int) (out:List Ah),i<y.Ad.length→(i:Int)∉o[r].drop a→out[i]?=some ⟨d0,-1,false⟩→0≤DV→DV≤d→0≤run→run≤d→Jw y.Ad.length (o[r].drop a) out→
   Bv y o t (r:Int) m (a:Int) (i:Int) DV run (d:Int) out=some (Es y t.Ap t.Comes (o[r].drop a) (Mj y (FO (EG y (i:Int)) d0 (t.Ap.drop d) (d:Int) DV run)) (out.set i (FO (EG y (i:Int)) d0 (t.Ap.drop d) (d:Int) DV run)))):=by
 intro k
 induction k with
 |zero=>
  intro m d h hm;cases m with
  |zero=>omega
  |succ m=>
   constructor
   ·intro a DV run out c;rw[Bv.eq_2,cf (df (by omega)),Jn y _ _ _ _ _ out (by omega) c]
   ·intro a i DV run d0 out hi aF he _ _ _ _ c;have n:i<out.length:=by have:=c.1;omega
    have j:out[i]=⟨d0,-1,false⟩:=(List.getElem?_eq_some_iff.1 he).2;rw[Bv.eq_2,cf (df (by omega)),show t.Ap.drop d=[] from List.drop_eq_nil_of_le (by omega)];have aK:FO (EG y (i:Int)) d0 [] (d:Int) DV run=⟨d0,-1,false⟩:=rfl;have e:out.set i (⟨d0,-1,false⟩:Ah)=out:=by rw[←j,List.set_getElem_self]
    rw[aK,e,Jn y _ _ _ _ _ out (by show _<cond true _ _;simp;omega) c]
 |succ k ih=>
  intro m d h hm;cases m with
  |zero=>omega
  |succ m=>
   obtain⟨g,w⟩:=ih m (d+1) (by omega) (by omega);have z:d<t.Ap.length:=by omega
   have x:t.Ap.drop d=t.Ap[d]::t.Ap.drop (d+1):=List.drop_eq_getElem_cons z;constructor
   ·intro a DV run out c;rw[Bv.eq_2,ct (dt (by omega)),ct (dt (by omega)),B7 aH]
    by_cases aA:a<o[r].length
    ·have p:o[r].drop a=o[r][a]::o[r].drop (a+1):=List.drop_eq_getElem_cons aA;rw[p] at c;obtain⟨i,q,hi,he⟩:=c.2.2 _ (List.mem_cons_self ..);have aB:(i:Int)∉o[r].drop (a+1):=q▸(List.nodup_cons.1 c.2.1).1;have n:i<out.length:=by have:=c.1;omega
     have j:out[i]=never:=(List.getElem?_eq_some_iff.1 he).2;have aC:i<t.Comes.length:=by omega
     rw[ct (dt (by omega)),B7 aH,B7 aA,q,B7 aC]
     by_cases aG:t.Comes[i]≤(d:Int)
     ·have u:max (d:Int) (ER t.Comes (i:Int))=(d:Int):=by rw[Nd _ aC];omega
      have aI:EZ y t.Ap (EG y (i:Int)) (d:Int)=FO (EG y (i:Int)) (d:Int) (t.Ap.drop d) (d:Int) 0 0:=if_neg (by omega);have v:Es y t.Ap t.Comes (o[r].drop a) (d:Int) out=Es y t.Ap t.Comes (o[r].drop (a+1)) (Mj y (FO (EG y (i:Int)) (d:Int) (t.Ap.drop d) (d:Int) 0 0)) (out.set i (FO (EG y (i:Int)) (d:Int) (t.Ap.drop d) (d:Int) 0 0)):=by
       rw[p,q,Es,u,aI,Int.toNat_natCast];rfl
      rw[v,x];have b:=Oj y hi;have l:∀s:Ah,i<(out.set i s).length:=fun s=>by rw[List.length_set];exact n
      have f:∀s:Ah,Jw y.Ad.length (o[r].drop (a+1)) (out.set i s):=fun s=>Pg (Oi c) aB s;rw[ct (dt aG),B7 aH,B7 aA,q,B7 n,By (by omega) (by omega),cf (df (by omega)),B7 z,j,CS,CS,Int.toNat_natCast];cases aJ:t.Ap[d] with
      |true=>
       rw[ct rfl,B7 hi,FO,b];cases aD:((0:Int)==y.Ad[i].Aq) with
       |true=>
        rw[ct rfl,B7 (l _),B7 (by rw[List.length_set];exact l _),By (by omega) (by omega)];rw[ct rfl,GC];simp only[List.getElem_set_self,List.set_set];exact g (a+1) _ _ _ (f _)
       |false=>
        rw[cf rfl,cf rfl,B7 hi];cases aE:((0:Int)+1==y.Ad[i].BY) with
        |true=>
         rw[ct rfl,B7 (l _),By (by omega) (by omega),ct rfl,GC];simp only[List.getElem_set_self,List.set_set];exact g (a+1) _ _ _ (f _)
        |false=>
         rw[cf rfl,cf rfl,By (by omega) (by omega)];refine(w (a+1) i 0 (0+1) (d:Int) _ hi aB (List.getElem?_set_self n) (by omega) (by omega) (by omega) (by omega) (f _)).trans ?_;rw[List.set_set,b,CS]
      |false=>
       rw[cf rfl,B7 hi,FO,b];cases aD:((0:Int)+1==y.Ad[i].Aq) with
       |true=>
        rw[ct rfl,B7 (l _),B7 (by rw[List.length_set];exact l _),By (by omega) (by omega)];rw[ct rfl,GC];simp only[List.getElem_set_self,List.set_set];exact g (a+1) _ _ _ (f _)
       |false=>
        rw[cf rfl,cf rfl,B7 hi];cases aE:((0:Int)==y.Ad[i].BY) with
        |true=>
         rw[ct rfl,B7 (l _),By (by omega) (by omega),ct rfl,GC];simp only[List.getElem_set_self,List.set_set];exact g (a+1) _ _ _ (f _)
        |false=>
         rw[cf rfl,cf rfl,By (by omega) (by omega)];refine(w (a+1) i (0+1) 0 (d:Int) _ hi aB (List.getElem?_set_self n) (by omega) (by omega) (by omega) (by omega) (f _)).trans ?_;rw[List.set_set,b,CS]
     ·have u:max (d:Int) (ER t.Comes (i:Int))=max ((d+1:Nat):Int) (ER t.Comes (i:Int)):=by rw[Nd _ aC];omega
      have v:Es y t.Ap t.Comes (o[r].drop a) (d:Int) out=Es y t.Ap t.Comes (o[r].drop a) ((d+1:Nat):Int) out:=by
       rw[p,q,Es,Es,u]
      rw[cf (df aG),By (by omega) (by omega),CS,v];exact g a _ _ _ (p▸c)
    ·have p:o[r].drop a=[]:=List.drop_eq_nil_of_le (by omega);have:=g a DV run out c;rw[p] at this⊢;rw[cf (df (by omega)),By (by omega) (by omega),CS];exact this
   ·intro a i DV run d0 out hi aF he g1 g2 g3 g4 c;have n:i<out.length:=by have:=c.1;omega
    have j:out[i]=⟨d0,-1,false⟩:=(List.getElem?_eq_some_iff.1 he).2;have b:=Oj y hi;have l:∀s:Ah,i<(out.set i s).length:=fun s=>by rw[List.length_set];exact n
    have f:∀s:Ah,Jw y.Ad.length (o[r].drop a) (out.set i s):=fun s=>Pg c aF s;have aN:out.set i (⟨d0,-1,false⟩:Ah)=out:=by rw[←j,List.set_getElem_self]
    rw[Bv.eq_2,ct (dt (by omega)),cf (df (by omega)),B7 z,x,Int.toNat_natCast];cases aJ:t.Ap[d] with
    |true=>
     rw[ct rfl,By (by omega) (by omega),B7 hi,FO,b];cases aD:(DV==y.Ad[i].Aq) with
     |true=>
      rw[ct rfl,B7 n,B7 (l _),By (by omega) (by omega),ct rfl,GC];simp only[List.getElem_set_self,List.set_set,j];exact g a _ _ _ (f _)
     |false=>
      rw[cf rfl,cf rfl,B7 hi];cases aE:(run+1==y.Ad[i].BY) with
      |true=>
       rw[ct rfl,B7 n,By (by omega) (by omega),ct rfl,GC,j];exact g a _ _ _ (f _)
      |false=>
       rw[cf rfl,cf rfl,By (by omega) (by omega)];refine(w a i DV (run+1) d0 _ hi aF he (by omega) (by omega) (by omega) (by omega) c).trans ?_;rw[b,CS]
    |false=>
     rw[cf rfl,By (by omega) (by omega),B7 hi,FO,b];cases aD:(DV+1==y.Ad[i].Aq) with
     |true=>
      rw[ct rfl,B7 n,B7 (l _),By (by omega) (by omega),ct rfl,GC];simp only[List.getElem_set_self,List.set_set,j];exact g a _ _ _ (f _)
     |false=>
      rw[cf rfl,cf rfl,B7 hi];cases aE:((0:Int)==y.Ad[i].BY) with
      |true=>
       rw[ct rfl,B7 n,By (by omega) (by omega),ct rfl,GC,j];exact g a _ _ _ (f _)
      |false=>
       rw[cf rfl,cf rfl,By (by omega) (by omega)];refine(w a i (DV+1) 0 d0 _ hi aF he (by omega) (by omega) (by omega) (by omega) c).trans ?_;rw[b,CS]
end Go.Proofs.YtkljfdkmjdjpfaaGreat
end
section
namespace Go.Proofs.YtkljfdkmjdjpfaaGreat
theorem Nf(y:Ar)(w:List Bool)(c:List Int)(j:Nat):∀(l:List Int) (free:Int) (out a:List Ah),out.length=a.length→((j:Int)∈l∨out[j]?=a[j]?)→(Es y w c l free out)[j]?=(Es y w c l free a)[j]?
 |[],free,out,a,_,h=>by
  rcases h with h|h
  ·cases h
  ·exact h
 |i::r,free,out,a,d,h=>by
  rw[Es,Es];refine Nf y w c j r _ _ _ (by rw[List.length_set,List.length_set];exact d) ?_
  by_cases b:i.toNat=j
  ·right;rw[b,List.getElem?_set,List.getElem?_set,if_pos rfl,if_pos rfl,d]
  ·rcases h with h|h
   ·rcases List.mem_cons.1 h with h|h
    ·exact absurd (by omega) b
    ·exact .inl h
   ·right;rw[List.getElem?_set_ne b,List.getElem?_set_ne b,h]
theorem Ng(y:Ar)(w:List Bool)(c:List Int)(j:Nat):∀(o:List (List Int)) (out a:List Ah),out.length=a.length→((j:Int)∈o.flatten∨out[j]?=a[j]?)→(GA y w c o out)[j]?=(GA y w c o a)[j]?
 |[],out,a,_,h=>by
  rcases h with h|h
  ·cases h
  ·exact h
 |l::r,out,a,b,h=>by
  rw[GA,GA];refine Ng y w c j r _ _ (by rw[GR,GR];exact b) ?_
  by_cases d:(j:Int)∈r.flatten
  ·exact .inl d
  ·right;refine Nf y w c j l 0 out a b ?_;rcases h with h|h
   ·rw[List.flatten_cons,List.mem_append] at h;rcases h with h|h
    ·exact .inl h
    ·exact absurd h d
   ·exact .inr h
theorem Lt(y:Ar)(w:List Bool)(c:List Int)(j:Nat):∀(l:List Int) (free:Int) (out:List Ah),(∀i∈l,0≤i)→(j:Int)∉l→(Es y w c l free out)[j]?=out[j]?
 |[],_,_,_,_=>rfl
 |i::r,free,out,h0,h=>by
  rw[Es,Lt y w c j r _ _ (fun x a=>h0 x (List.mem_cons_of_mem _ a)) (fun b=>h (List.mem_cons_of_mem _ b)),List.getElem?_set_ne];intro e;have:=h0 i (List.mem_cons_self ..);exact h (by rw[←e,show((i.toNat:Nat):Int)=i by omega];exact List.mem_cons_self ..)
theorem R3 {y:Ar} (w:List Bool) (c:List Int) {n:Nat} {l r:List Int} {out:List Ah} (h:Jw n (l++r) out):Jw n l out∧Jw n r (Es y w c l 0 out):=by
 obtain⟨e,a,d⟩:=h;rw[List.nodup_append] at a;refine⟨⟨e,a.1,fun j b=>d j (List.mem_append_left _ b)⟩,by rw[GR];exact e,a.2.1,fun j b=>?_⟩;obtain⟨q,rfl,f,he⟩:=d j (List.mem_append_right _ b);refine⟨q,rfl,f,?_⟩;rw[Lt y w c q l 0 out (fun i hi=>?_) (fun hm=>a.2.2 _ hm _ b rfl),he];obtain⟨p,rfl,_⟩:=d i (List.mem_append_left _ hi);omega
theorem R4{K:Nat}(y:Ar)(o:List (List Int))(t:AW)(h0:0≤y.Am)(h9:y.Am≤9)(hw:(t.Ap.length:Int)=y.Am+1)(d:t.Comes.length=y.Ad.length)(j:o.length≤1000)(f:∀l∈o,l.length≤1000)(hK:2000≤K):∀(k m r:Nat) (out:List Ah),o.length=r+k→k<m→Jw y.Ad.length (o.drop r).flatten out→
  DN K y o t m (r:Int) out=some (GA y t.Ap t.Comes (o.drop r) out):=by
 intro k
 induction k with
 |zero=>
  intro m r out h hm a;cases m with
  |zero=>omega
  |succ m=>rw[DN.eq_2,cf (df (by omega)),List.drop_eq_nil_of_le (by omega)];rfl
 |succ k ih=>
  intro m r out h hm a;cases m with
  |zero=>omega
  |succ m=>
   have b:r<o.length:=by omega
   have c:o.drop r=o[r]::o.drop (r+1):=List.drop_eq_getElem_cons b;rw[c,List.flatten_cons] at a;obtain⟨g,i⟩:=R3 (y:=y) t.Ap t.Comes a;have e:=(R1 y o t r b h9 hw d (f _ (List.getElem_mem b)) (y.Am+1).toNat K 0 (by omega) (by omega)).1 0 0 0 out g;rw[Int.natCast_zero,List.drop_zero] at e;rw[DN.eq_2,ct (dt (by omega)),bd e,By (by omega) (by omega),CS,c,GA];exact ih m (r+1) _ (by omega) (by omega) i
theorem S9:∀(k m i:Nat) (out:List Ah),out.length=i+k→k<m→out.length≤1000→
  Ds m (i:Int) out=some (out.take i++List.replicate k never):=by
 intro k
 induction k with
 |zero=>
  intro m i out h hm a;cases m with
  |zero=>omega
  |succ m=>rw[Ds.eq_2,cf (df (by omega)),List.take_of_length_le (by omega)];simp
 |succ k ih=>
  intro m i out h hm a;cases m with
  |zero=>omega
  |succ m=>
   have hi:i<out.length:=by omega
   rw[Ds.eq_2,ct (dt (by omega)),B7 hi,By (by omega) (by omega),CS,Int.toNat_natCast,ih m (i+1) _ (by rw[List.length_set];omega) (by omega) (by rw[List.length_set];omega)];rw[List.take_add_one,List.getElem?_set_self hi,List.take_set_of_le (Nat.le_refl _),List.replicate_succ];simp[never]
theorem KS{K:Nat}(y:Ar)(a:EE y)(o:List (List Int))(e:DA y o=true)(t:AW)(c:Et y t=true)(hK:2000≤K):DF K y o t=some (B6 y o t):=by
 unfold DF;have m:=a.n4;unfold Et at c;rw[Bool.and_eq_true,Bool.and_eq_true,decide_eq_true_eq] at c;obtain⟨hw,_,f⟩:=c;have i:=G0 f;obtain⟨k,l,n⟩:=Jc a e;have d:=(Fe.1 e).2;have g:=S9 y.Ad.length K 0 (List.replicate y.Ad.length Jb) (by simp) (by omega) (by simp;omega);rw[Int.natCast_zero,List.take_zero,List.nil_append] at g;have b:=R4 (K:=K) y o t a.h0 a.h9 hw i k l hK o.length K 0 (List.replicate y.Ad.length never) (by omega) (by omega) (by
  rw[List.drop_zero];refine⟨by simp,d.symm.nodup (J1 _),fun j h=>?_⟩;have:=H2.1 (d.mem_iff.1 h);exact⟨j.toNat,by omega,by omega,by rw[List.getElem?_replicate,if_pos (by omega)]⟩)
 rw[Int.natCast_zero,List.drop_zero] at b;rw[NZ (by omega) (by omega) (by omega),Int.toNat_natCast];rw[bd (show Ds K (0:Int) (List.replicate y.Ad.length (⟨0,0,false⟩:Ah))=_ from g),bd b];unfold B6 GL
 congr 1
 apply List.ext_getElem?;intro j;refine Ng y _ _ j o _ _ (by simp) ?_
 by_cases h:j<y.Ad.length
 ·left;exact d.mem_iff.2 (H2.2 (by omega))
 ·right;rw[List.getElem?_eq_none (by simp;omega),List.getElem?_eq_none (by simp;omega)]
end Go.Proofs.YtkljfdkmjdjpfaaGreat
end
section
namespace Go.Proofs.YtkljfdkmjdjpfaaGreat
theorem KT{W R W' R':Int}(a:W≤W')(b:R≤R'):∀(l:List Bool) (s r:Int),okW W R l s r=true→okW W' R' l s r=true
 |[],_,_,_=>rfl
 |false::l,s,r,h=>KT a b l s 0 h
 |true::l,s,r,h=>by
  rw[okW,Bool.and_eq_true,Bool.and_eq_true,decide_eq_true_eq,decide_eq_true_eq] at h⊢;exact⟨by omega,by omega,KT a b l _ _ h.2.2⟩
theorem J2{y:Ar}{t:AW}:Et y t=true↔(t.Ap.length:Int)=y.Am+1∧Hz y t.Ap=true∧DG y.Ad t.Comes=true:=by
 unfold Et;rw[Bool.and_eq_true,Bool.and_eq_true,decide_eq_true_eq]
end Go.Proofs.YtkljfdkmjdjpfaaGreat
end
section
namespace Go.Proofs.YtkljfdkmjdjpfaaGreat
structure Alike (y x:Ar):Prop where
 last:x.Am=y.Am
 len:x.Ad.length=y.Ad.length
 DV:∀i:Nat,(F7 x i).Aq=(F7 y i).Aq
 Wo:∀i:Nat,(F7 x i).BY=(F7 y i).BY
theorem J3{l c:Bd}(a:c.Aq=l.Aq)(b:c.BY=l.BY)(d0:Int):∀(ws:List Bool) (d DV r:Int),FO c d0 ws d DV r=FO l d0 ws d DV r
 |[],_,_,_=>rfl
 |true::ws,d,DV,r=>by rw[FO,FO,a,b,J3 a b d0 ws]
 |false::ws,d,DV,r=>by rw[FO,FO,a,b,J3 a b d0 ws]
theorem OX{y x:Ar}(h:x.Am=y.Am){l a:Bd}(b:a.Aq=l.Aq)(c:a.BY=l.BY)(w:List Bool)(d:Int):EZ x w a d=EZ y w l d:=by
 unfold EZ;rw[h,J3 b c]
theorem Alike.at{y x:Ar}(h:Alike y x)(w:List Bool)(i d:Int):EZ x w (EG x i) d=EZ y w (EG y i) d:=OX h.last (h.DV i.toNat) (h.Wo i.toNat) w d
theorem Lu{y x:Ar}(h:Alike y x)(w:List Bool)(c:List Int):∀(l:List Int) (f:Int) (out:List Ah),Es x w c l f out=Es y w c l f out
 |[],_,_=>rfl
 |i::r,f,out=>by
  rw[Es,Es];show Es x w c r (cond ((EZ x w (EG x i) (max f (ER c i))).AH==-1) (x.Am+1) _) _=_;rw[h.at,h.last,Lu h w c r]
theorem Lv{y x:Ar}(h:Alike y x)(w:List Bool)(c:List Int):∀(o:List (List Int)) (out:List Ah),GA x w c o out=GA y w c o out
 |[],_=>rfl
 |l::o,out=>by rw[GA,GA,Lu h,Lv h w c o]
theorem OY{y x:Ar}(h:Alike y x)(o:List (List Int))(t:AW):B6 x o t=B6 y o t:=by
 unfold B6 GL;rw[h.len,Lv h]
theorem Nh{p b:Bd→Ah→Bool}:∀(ls a:List Bd) (ss:List Ah),ls.length=a.length→(∀i s,i<ls.length→p (ls.getD i Il) s=true→b (a.getD i Il) s=true)→GG p ls ss≤GG b a ss
 |[],[],ss,_,_=>Nat.le_refl _
 |[],_::_,_,h,_=>by cases h
 |_::_,[],_,h,_=>by cases h
 |l::ls,c::a,[],_,_=>by simp[GG]
 |l::ls,c::a,s::ss,d,h=>by
  have g:=Nh ls a ss (by simpa using d) fun i s hi=>h (i+1) s (by simpa using hi);have e:p l s=true→b c s=true:=h 0 s (by simp);rw[GG,GG];cases f:p l s with
  |false=>simp only[cond_false];omega
  |true=>rw[e f];simp only[cond_true];omega
theorem Qc {l b:Bd} (h:l.Ch≤b.Ch) {s:Ah} (a:ES l s=true):ES b s=true:=by
 unfold ES at a⊢;rw[Bool.and_eq_true,decide_eq_true_eq] at a⊢;exact⟨a.1,by omega⟩
theorem Q4{y x:Ar}(a:x.Ad.length=y.Ad.length)(b:∀i:Nat,(F7 x i).Ch≤(F7 y i).Ch)(ss:List Ah):Df y ss≤Df x ss:=by
 unfold Df;refine Nh _ _ ss a.symm fun i s _ h=>?_;unfold Dr at h⊢;cases c:ES (x.Ad.getD i Il) s with
 |false=>rfl
 |true=>
  have:=Qc (b i) c;unfold F7 at this;rw[this] at h;cases h
theorem Ta{y x:Ar}(a:EE y)(b:EE x){o o':List (List Int)}(h:∀t,Et y t=true→Et x t=true∧Df y (B6 y o t)≤Df x (B6 x o' t)):(CG y o).1≤(CG x o').1:=by
 obtain⟨_,c,f⟩:=Ho a o;obtain⟨d,_,_⟩:=Ho b o';obtain⟨e,g⟩:=h _ c;have:=d _ e;omega
structure SK(y x:Ar):Prop extends Alike y x where
 Mk:x.Aj=y.Aj
 due:∀i:Nat,(F7 x i).Ch=(F7 y i).Ch
 comes:∀i:Nat,(F7 x i).Aw≤(F7 y i).Aw∧(F7 y i).AJ≤(F7 x i).AJ
 Dj:y.Ap≤x.Ap
 run:y.AA≤x.AA
theorem HV:∀{ls a:List Bd} {cs:List Int},a.length=ls.length→(∀i:Nat,(a.getD i Il).Aw≤(ls.getD i Il).Aw∧(ls.getD i Il).AJ≤(a.getD i Il).AJ)→DG ls cs=true→DG a cs=true
 |[],[],cs,_,_,h=>h
 |[],_::_,_,h,_,_=>by cases h
 |_::_,[],_,h,_,_=>by cases h
 |l::ls,b::a,[],_,_,h=>by cases h
 |l::ls,b::a,c::cs,d,hw,h=>by
  rw[DG,Bool.and_eq_true] at h⊢;have e:=Fc.1 h.1;have f:b.Aw≤l.Aw∧l.AJ≤b.AJ:=hw 0;exact⟨Fc.2 (by omega),HV (by simpa using d) (fun i=>hw (i+1)) h.2⟩
theorem SK.SL{y x:Ar}(h:SK y x){t:AW}(a:Et y t=true):Et x t=true:=by
 obtain⟨b,c,d⟩:=J2.1 a;exact J2.2 ⟨by rw[h.last];exact b,KT h.Dj h.run _ _ _ c,HV h.len h.comes d⟩
structure Nv(y z:Ar):Prop extends Alike y z where
 Mk:z.Aj=y.Aj
 due:∀i:Nat,(F7 y i).Ch≤(F7 z i).Ch
 comes:∀i:Nat,(F7 z i).Aw=(F7 y i).Aw∧(F7 y i).AJ=(F7 z i).AJ
 Dj:y.Ap=z.Ap
 run:y.AA=z.AA
theorem Nv.SL{y z:Ar}(h:Nv y z){t:AW}:Et z t=true↔Et y t=true:=by
 rw[J2,J2,h.last];unfold Hz;rw[h.Dj,h.run];refine and_congr_right fun _=>and_congr_right fun _=>⟨fun a=>HV h.len.symm (fun i=>?_) a,fun a=>HV h.len (fun i=>?_) a⟩
 ·have:=h.comes i;unfold F7 at this;omega
 ·have:=h.comes i;unfold F7 at this;omega
theorem Nv.WD{y z:Ar}(h:Nv y z)(a:EE y)(b:EE z)(o:List (List Int)):(CG z o).1≤(CG y o).1:=
 Ta b a fun t c=>⟨h.SL.1 c,by rw[OY h.toAlike];exact Q4 h.len.symm h.due _⟩
end Go.Proofs.YtkljfdkmjdjpfaaGreat
end
section
namespace Go.Proofs.YtkljfdkmjdjpfaaGreat
theorem Ni(K:Nat)(l:Bd)(s:Ah):Eu K l s=some (ES l s):=by unfold Eu ES;cases s.Aq<;>rfl
theorem Q5{K:Nat}(y:Ar)(ss:List Ah)(d:y.Ad.length≤4)(e:ss.length=y.Ad.length):∀(k m i:Nat) (a:Int),ss.length=i+k→k<m→0≤a→a≤i→
  Dt K y ss m a (i:Int)=some (a+(GG Dr (y.Ad.drop i) (ss.drop i):Nat)):=by
 intro k
 induction k with
 |zero=>
  intro m i a h hm h0 c;cases m with
  |zero=>omega
  |succ m=>
   rw[Dt.eq_2,cf (df (by omega)),List.drop_eq_nil_of_le («as»:=y.Ad) (by omega),GG]
   ·simp
   ·intro _ _ _ _ h;cases h
 |succ k ih=>
  intro m i a h hm h0 c;cases m with
  |zero=>omega
  |succ m=>
   have hi:i<ss.length:=by omega
   have b:i<y.Ad.length:=by omega
   rw[Dt.eq_2,ct (dt (by omega)),B7 b,B7 hi,bd (Ni ..),List.drop_eq_getElem_cons hi,List.drop_eq_getElem_cons b,GG];show cond (Dr y.Ad[i] ss[i]) _ _=_;cases f:Dr y.Ad[i] ss[i] with
   |true=>
    rw[ct rfl,By (by omega) (by omega),By (by omega) (by omega),CS,ih m (i+1) (a+1) (by omega) (by omega) (by omega) (by omega)]
    congr 1
    show a+1+_=a+((1+GG Dr _ _:Nat):Int);omega
   |false=>
    rw[cf rfl,By (by omega) (by omega),CS,ih m (i+1) a (by omega) (by omega) (by omega) (by omega)]
    congr 1
    show a+_=a+((0+GG Dr _ _:Nat):Int);omega
theorem Nj{K:Nat}(y:Ar)(ss:List Ah)(a:y.Ad.length≤4)(b:ss.length=y.Ad.length)(hK:2000≤K):Ec K y ss=some (Df y ss:Int):=by
 unfold Ec;have:=Q5 (K:=K) y ss a b ss.length K 0 0 (by omega) (by omega) (by omega) (by omega);rw[Int.natCast_zero,List.drop_zero,List.drop_zero] at this;rw[bd this];simp[Df]
def Iz(y:Ar)(o:List (List Int)):List AW→Int→Int
 |[],a=>a
 |t::b,a=>Iz y o b (max a (Df y (B6 y o t):Int))
theorem Ml(y:Ar)(o:List (List Int)):∀(b:List AW) (a:Int),a≤Iz y o b a∧(∀t∈b,(Df y (B6 y o t):Int)≤Iz y o b a)∧(Iz y o b a=a∨∃t∈b,(Df y (B6 y o t):Int)=Iz y o b a)
 |[],a=>⟨Int.le_refl _,fun t e=>(by cases e),.inl rfl⟩
 |t::b,a=>by
  obtain⟨g,f,d⟩:=Ml y o b (max a (Df y (B6 y o t):Int));rw[Iz];refine⟨by omega,fun x c=>?_,?_⟩
  ·rcases List.mem_cons.1 c with rfl|c
   ·omega
   ·exact f x c
  ·rcases d with d|⟨x,c,d⟩
   ·by_cases h:a≤(Df y (B6 y o t):Int)
    ·exact .inr ⟨t,List.mem_cons_self ..,by omega⟩
    ·exact .inl (by omega)
   ·exact .inr ⟨x,List.mem_cons_of_mem _ c,d⟩
theorem R5{y:Ar}(a:EE y)(o:List (List Int)):Iz y o (He y) 0=(CG y o).1:=by
 obtain⟨f,e,c⟩:=Ml y o (He y) 0;refine(RT a o _ (fun t b=>e t ((HA a).2 b)) ?_).symm;rcases c with c|⟨t,b,c⟩
 ·obtain⟨t,b⟩:=List.exists_mem_of_ne_nil _ (Mc a);have d:=(Gf a.h0).1 b;have:=e t ((HA a).2 d);exact⟨t,d,by omega⟩
 ·exact⟨t,(HA a).1 b,c⟩
theorem UC{K:Nat}(y:Ar)(c:EE y)(o:List (List Int))(d:DA y o=true)(hK:2000≤K)(b:List AW)(e:∀t∈b,Et y t=true)(f:b.length≤1000):∀(k m i:Nat) (a:Int),b.length=i+k→k<m→
  D5 K y b o m a (i:Int)=some (Iz y o (b.drop i) a):=by
 intro k
 induction k with
 |zero=>
  intro m i a h hm;cases m with
  |zero=>omega
  |succ m=>rw[D5.eq_2,cf (df (by omega)),List.drop_eq_nil_of_le (by omega)];rfl
 |succ k ih=>
  intro m i a h hm;cases m with
  |zero=>omega
  |succ m=>
   have hi:i<b.length:=by omega
   rw[D5.eq_2,ct (dt (by omega)),B7 hi,bd (KS y c o d b[i] (e _ (List.getElem_mem hi)) hK),bd (Nj y (B6 y o b[i]) c.n4 (FX ..) hK),By (by omega) (by omega),CS,ih m (i+1) _ (by omega) (by omega),List.drop_eq_getElem_cons hi,Iz]
theorem Mm{y:Ar}(a:EE y):(He y).length≤1000:=by
 rw[OW];have:=a.many;omega
theorem Q6{K:Nat}(y:Ar)(a:EE y)(o:List (List Int))(b:DA y o=true)(hK:2000≤K):EB K y (He y) o=some (CG y o).1:=by
 unfold EB;have c:=Mm a;have e:=UC (K:=K) y a o b hK (He y) (fun t d=>(HA a).1 d) c (He y).length K 0 0 (by omega) (by omega);rw[Int.natCast_zero,List.drop_zero,R5 a] at e;rw[bd e]
theorem Q7(K:Nat)(y:Ar)(ss:List Ah)(g:y.Ad.length≤4)(j:ss.length=y.Ad.length):∀(k m i:Nat) (a:List Int),ss.length=i+k→k<m→a.length=y.Ad.length→(∀x∈a.drop i,0≤x∧x≤100000)→
  C9 K y ss m (i:Int) a=some (a.take i++Hd ES (y.Ad.drop i) (ss.drop i) (a.drop i)):=by
 intro k
 induction k with
 |zero=>
  intro m i a h hm d e;cases m with
  |zero=>omega
  |succ m=>
   rw[C9.eq_2,cf (df (by omega)),List.drop_eq_nil_of_le («as»:=y.Ad) (by omega),JX,List.take_append_drop]
 |succ k ih=>
  intro m i a h hm d e;cases m with
  |zero=>omega
  |succ m=>
   have hi:i<ss.length:=by omega
   have f:i<y.Ad.length:=by omega
   have b:i<a.length:=by omega
   rw[C9.eq_2,ct (dt (by omega)),B7 f,B7 hi,bd (Ni ..),List.drop_eq_getElem_cons hi,List.drop_eq_getElem_cons f,List.drop_eq_getElem_cons b,Hd];cases l:ES y.Ad[i] ss[i] with
   |true=>
    have n:=e a[i] (by rw[List.drop_eq_getElem_cons b];exact List.mem_cons_self ..);rw[ct rfl,B7 b,By (by omega) (by omega),B7 b,By (by omega) (by omega),CS,Int.toNat_natCast];rw[ih m (i+1) (a.set i (a[i]+1)) (by omega) (by omega) (by rw[List.length_set];exact d) (fun x c=>by
     rw[List.drop_set_of_lt (by omega)] at c;exact e x (by rw[List.drop_eq_getElem_cons b];exact List.mem_cons_of_mem _ c))]
    rw[List.take_add_one,List.getElem?_set_self b,List.take_set_of_le (Nat.le_refl _),List.drop_set_of_lt (by omega)];simp
   |false=>
    rw[cf rfl,By (by omega) (by omega),CS];rw[ih m (i+1) a (by omega) (by omega) d (fun x c=>e x (by rw[List.drop_eq_getElem_cons b];exact List.mem_cons_of_mem _ c))];rw[List.take_add_one,List.getElem?_eq_getElem b,List.append_assoc];rfl
theorem R6{K:Nat}(y:Ar)(f:EE y)(o:List (List Int))(j:DA y o=true)(hK:2000≤K)(b:List AW)(l:∀t∈b,Et y t=true)(n:b.length≤1000):∀(k m i:Nat) (a:List Int),b.length=i+k→k<m→a.length=y.Ad.length→(∀x∈a,0≤x∧x≤i)→
  DO K y b o m (i:Int) a=some (IV ES y o (b.drop i) a):=by
 intro k
 induction k with
 |zero=>
  intro m i a h hm c g;cases m with
  |zero=>omega
  |succ m=>rw[DO.eq_2,cf (df (by omega)),List.drop_eq_nil_of_le (by omega)];rfl
 |succ k ih=>
  intro m i a h hm c g;cases m with
  |zero=>omega
  |succ m=>
   have hi:i<b.length:=by omega
   have p:=f.n4;have e:=Q7 K y (B6 y o b[i]) f.n4 (FX ..) (B6 y o b[i]).length K 0 a (by omega) (by rw[show(B6 y o b[i]).length=y.Ad.length from FX ..];omega) c (fun x d=>by rw[List.drop_zero] at d;have:=g x d;omega);rw[Int.natCast_zero,List.take_zero,List.nil_append,List.drop_zero,List.drop_zero,List.drop_zero] at e;rw[DO.eq_2,ct (dt (by omega)),B7 hi,bd (KS y f o j b[i] (l _ (List.getElem_mem hi)) hK),bd e,By (by omega) (by omega),CS,ih m (i+1) _ (by omega) (by omega) (by rw[H8];exact c) (fun x d=>by
    have:=ME ES i _ _ _ g x d;omega),List.drop_eq_getElem_cons hi,IV]
def Ht(y:Ar)(o:List (List Int)):List Int:=IV ES y o (He y) (List.replicate y.Ad.length 0)
theorem Lw(p:Bd→Ah→Bool)(y:Ar)(o:List (List Int)):∀(b:List AW) (a:List Int),(IV p y o b a).length=a.length
 |[],a=>rfl
 |t::b,a=>by rw[IV,Lw p y o b,H8]
theorem No(y:Ar)(o:List (List Int)):(Ht y o).length=y.Ad.length:=by unfold Ht;rw[Lw,List.length_replicate]
theorem Mn(y:Ar)(o:List (List Int)){i:Nat}(hi:i<y.Ad.length):(Ht y o).getD i 0=((He y).countP (Iq y o i):Nat):=by
 unfold Ht;rw[LG ES y o i hi _ _ (by rw[List.length_replicate];exact hi)];have:(List.replicate y.Ad.length (0:Int)).getD i 0=0:=by
  rw[List.getD_eq_getElem?_getD,List.getElem?_replicate,if_pos hi];rfl
 rw[this,Int.zero_add];rfl
theorem Qd{K:Nat}(y:Ar)(a:EE y)(o:List (List Int))(b:DA y o=true)(hK:2000≤K):Er K y (He y) o=some (Ht y o):=by
 unfold Er;have c:=Mm a;have g:=a.n4;have e:=R6 (K:=K) y a o b hK (He y) (fun t d=>(HA a).1 d) c (He y).length K 0 (List.replicate y.Ad.length 0) (by omega) (by omega) (by rw[List.length_replicate]) (fun x f=>by rw[(List.mem_replicate.1 f).2];omega);rw[Int.natCast_zero,List.drop_zero] at e;rw[NZ (by omega) (by omega) (by omega),Int.toNat_natCast,bd e];rfl
theorem Qe{y:Ar}(a:EE y)(o:List (List Int)){i:Nat}(hi:i<y.Ad.length):((Ht y o).getD i 0==((He y).length:Int))=(Cf y).all (Iq y o i):=by
 rw[Mn y o hi,KM,Og a]
theorem OZ{y:Ar}(a:EE y)(o:List (List Int)){i:Nat}(hi:i<y.Ad.length):((Ht y o).getD i 0==0)=(Cf y).all fun t=> !Iq y o i t:=by
 rw[Mn y o hi,Mb,Og a]
end Go.Proofs.YtkljfdkmjdjpfaaGreat
end
section
namespace Go.Proofs.YtkljfdkmjdjpfaaGreat
theorem Tb(K:Nat)(y:Ar)(h:y.Ad.length≤6):∀(k m i:Nat) (a:List Bd),y.Ad.length=i+k→k<m→a=y.Ad.take i→
  D0 K y m (i:Int) a=some y.Ad:=by
 intro k
 induction k with
 |zero=>
  intro m i a hi hm b;cases m with
  |zero=>omega
  |succ m=>rw[D0.eq_2,cf (df (by omega)),b,List.take_of_length_le (by omega)]
 |succ k ih=>
  intro m i a hi hm b;cases m with
  |zero=>omega
  |succ m=>
   have c:i<y.Ad.length:=by omega
   have d:a.length≤6:=by rw[b,List.length_take];omega
   rw[D0.eq_2,ct (dt (by omega)),B7 c,bd (show GY K (⟨y.Ad[i].Aw,y.Ad[i].AJ⟩:CK)=some (⟨y.Ad[i].Aw,y.Ad[i].AJ⟩:CK) from rfl),FV (by simp only[List.length_cons,List.length_nil];omega),By (by omega) (by omega),CS];refine ih m (i+1) _ (by omega) (by omega) ?_;rw[b,List.take_add_one,List.getElem?_eq_getElem c];rfl
theorem Ph{K:Nat}(hK:2000≤K)(y:Ar)(h:y.Ad.length≤6):E8 K y=some y:=by
 unfold E8;have:=Tb K y h y.Ad.length K 0 [] (by omega) (by omega) (by simp);rw[Int.natCast_zero] at this;rw[bd this]
theorem R7(o:List (List Int))(h:o.length≤1000)(d:∀l∈o,l.length≤1000):∀(k m i:Nat) (a:List (List Int)),o.length=i+k→k<m→a=o.take i→
  DP o m a (i:Int)=some o:=by
 intro k
 induction k with
 |zero=>
  intro m i a hi hm c;cases m with
  |zero=>omega
  |succ m=>rw[DP.eq_2,cf (df (by omega)),c,List.take_of_length_le (by omega)]
 |succ k ih=>
  intro m i a hi hm c;cases m with
  |zero=>omega
  |succ m=>
   have b:i<o.length:=by omega
   have e:a.length≤1000:=by rw[c,List.length_take];omega
   have:=d _ (List.getElem_mem b);rw[DP.eq_2,ct (dt (by omega)),B7 b,FV (by simp only[List.length_nil];omega),FV (by simp only[List.length_cons,List.length_nil];omega),By (by omega) (by omega),CS];refine ih m (i+1) _ (by omega) (by omega) ?_;rw[c,List.take_add_one,List.getElem?_eq_getElem b];rfl
theorem Ol{K:Nat}(hK:2000≤K)(o:List (List Int))(h:o.length≤1000)(a:∀l∈o,l.length≤1000):EN K o=some o:=by
 unfold EN;have:=R7 o h a o.length K 0 [] (by omega) (by omega) (by simp);rw[Int.natCast_zero] at this;rw[bd this]
theorem Tc(a:List Int)(h:a.length≤1000):∀(k m i:Nat),a.length=i+k→k<m→DZ a a m (i:Int)=some (.inr ()):=by
 intro k
 induction k with
 |zero=>
  intro m i hi hm;cases m with
  |zero=>omega
  |succ m=>rw[DZ.eq_2,cf (df (by omega))]
 |succ k ih=>
  intro m i hi hm;cases m with
  |zero=>omega
  |succ m=>
   have b:i<a.length:=by omega
   rw[DZ.eq_2,ct (dt (by omega)),B7 b,B7 b,cf (by simp),By (by omega) (by omega),CS];exact ih m (i+1) (by omega) (by omega)
theorem Td{K:Nat}(hK:2000≤K)(a:List Int)(h:a.length≤1000):FR K a a=some true:=by
 unfold FR;have:=Tc a h a.length K 0 (by omega) (by omega);rw[Int.natCast_zero] at this;rw[cf (by simp),bd this];rfl
theorem R8{K:Nat}(hK:2000≤K)(y:Ar):FC K y=some (check y):=by
 unfold FC;rw[bd (Pf hK y)]
def Mo (y:Ar):Bool:=cond (decide ((y.Ad.length:Int)≤6)) (cond (check y !=0) true (decide (Gc y≤60))) false
theorem Te{K:Nat}(hK:2000≤K)(y:Ar):FT K y=some (Mo y):=by
 unfold FT Mo;cases b:decide ((y.Ad.length:Int)≤6) with
 |false=>rfl
 |true=>
  rw[ct rfl,ct rfl,bd (Pf hK y)];cases a:(check y !=0) with
  |true=>rfl
  |false=>
   have h0:check y=0:=by simpa[bne] using a
   rw[cf rfl,cf rfl,bd (MI y (G4 h0) hK)]
theorem R9{y:Ar}(h:Mo y=true):y.Ad.length≤6:=by
 unfold Mo at h;cases a:decide ((y.Ad.length:Int)≤6) with
 |false=>rw[a] at h;cases h
 |true=>have:=of_decide_eq_true a;omega
theorem Sa(o:List (List Int)):∀(k m i:Nat),i+k=6→k<m→∃b:Bool⊕Unit,DQ o m (i:Int)=some b∧(b=.inr ()→o.length≤4→∀j,i≤j→(h:j<o.length)→o[j].length≤6)∧(∀x,b=.inl x→x=false):=by
 intro k
 induction k with
 |zero=>
  intro m i hi hm;cases m with
  |zero=>omega
  |succ m=>
   rw[DQ.eq_2]
   by_cases c:(i:Int)<o.length
   ·rw[ct (dt c),cf (df (by omega))];exact⟨_,rfl,fun _ d=>by omega,fun x a=>by cases a⟩
   ·rw[cf (df c)];exact⟨_,rfl,fun _ _ j e h=>by omega,fun x a=>by cases a⟩
 |succ k ih=>
  intro m i hi hm;cases m with
  |zero=>omega
  |succ m=>
   rw[DQ.eq_2]
   by_cases c:(i:Int)<o.length
   ·have f:i<o.length:=by omega
    rw[ct (dt c)]
    by_cases g:(i:Int)<5
    ·rw[ct (dt g),B7 f]
     by_cases l:(6:Int)<(o[i].length:Int)
     ·rw[ct (dt l)];exact⟨_,rfl,fun h=>(by cases h),fun x a=>by cases a;rfl⟩
     ·rw[cf (df l),By (by omega) (by omega),CS];obtain⟨b,p,q,r⟩:=ih m (i+1) (by omega) (by omega);refine⟨b,p,fun s d j e h=>?_,r⟩
      by_cases n:j=i
      ·subst n;omega
      ·exact q s d j (by omega) h
    ·rw[cf (df g)];exact⟨_,rfl,fun _ d=>by omega,fun x a=>by cases a⟩
   ·rw[cf (df c)];exact⟨_,rfl,fun _ _ j e h=>by omega,fun x a=>by cases a⟩
theorem Sb{K:Nat}(hK:2000≤K)(o:List (List Int)):∃b,FE K o=some b∧(b=true→o.length≤4∧∀l∈o,l.length≤6):=by
 obtain⟨b,a,c,d⟩:=Sa o 6 K 0 (by omega) (by omega);rw[Int.natCast_zero] at a;unfold FE;rw[bd a];cases b with
 |inl x=>
  obtain rfl:=d x rfl;exact⟨false,rfl,fun h=>by cases h⟩
 |inr u=>
  refine⟨_,rfl,fun h=>?_⟩;have g:(o.length:Int)≤4:=of_decide_eq_true h;refine⟨by omega,fun l e=>?_⟩;obtain⟨j,f,rfl⟩:=List.getElem_of_mem e;exact c rfl (by omega) j (by omega) f
end Go.Proofs.YtkljfdkmjdjpfaaGreat
end
section
namespace Go.Proofs.YtkljfdkmjdjpfaaGreat
section
variable{K:Nat}(hK:2000≤K){y:Ar}(h:check y=0)
theorem KU{o:List (List Int)}(h:check y=0)(a:DA y o=true):o.length≤1000∧(∀l∈o,l.length≤1000)∧o.flatten.length≤1000:=Jc (G4 h) a
include hK h
theorem UD{o:List (List Int)}(a:DA y o=true){t:AW}(b:Et y t=true):GF K y o t=some (B6 y o t,0):=by
 obtain⟨c,_,d⟩:=KU h a;rw[QN y o t hK c d,if_neg (by simp[h]),if_neg (by simp[a,b])]
theorem Pj{o:List (List Int)}(a:DA y o=true){i:Nat}(hi:i<y.Ad.length):EO K y o (i:Int)=some (verdict y o i,0):=by
 obtain⟨b,_,c⟩:=KU h a;have d:Fx (i:Int) 0 ((y.Ad.length:Int)-1)=true:=Fc.2 (by omega);rw[Pe y o i hK b c,if_neg (by simp[h]),if_neg (by simp[a,d]),Int.toNat_natCast]
theorem UE{o:List (List Int)}(a:DA y o=true):Ge K y o=some ((CG y o).1,(CG y o).2,0):=by
 obtain⟨b,_,c⟩:=KU h a;rw[N4 y o hK b c,if_neg (by simp[h]),if_neg (by simp[a])]
theorem UF:G9 K y=some ((Ia y).2,(Ia y).1,0):=by rw[Uv y hK,if_neg (by simp[h])]
theorem UG:Ha K y=some ((Mf y).2.2,(Mf y).1,0):=by rw[Uw y hK,if_neg (by simp[h])]
theorem Qf:F2 K y=some (GB y 0 y.Ad.length,0):=by rw[P8 y hK,if_neg (by simp[h])]
theorem Om{o:List (List Int)}(a:DA y o=true)(n:Int):Fu K y o n=some (decide ((CG y o).1≤n)):=by
 obtain⟨b,_,c⟩:=KU h a;rw[N5 y o n hK b c,dt h,a];rfl
theorem O0{o:List (List Int)}(a:DA y o=true){t:AW}(b:Et y t=true)(n:Int):FM K y o t n=some (decide (n≤(Df y (B6 y o t):Int))):=by
 obtain⟨c,_,d⟩:=KU h a;rw[OV y o t n hK c d,dt h,a,b];rfl
end
def y1:Ar:=⟨5,1,1,1,[⟨0,0,2,2,2⟩,⟨1,1,2,1,5⟩]⟩
def t3:AW:=⟨[0,1],[false,false,false,true,false,false]⟩
theorem Ic:check y1=0:=by decide+kernel
theorem SM:DA y1 [[0,1]]=true:=Fe.2 ⟨rfl,by decide⟩
theorem Qg:DA y1 [[1,0]]=true:=Fe.2 ⟨rfl,by decide⟩
theorem VI:Et y1 t3=true:=by decide+kernel
theorem VJ:B6 y1 [[0,1]] t3=[⟨0,1,true⟩,⟨2,3,false⟩]:=by
 have h:∀(a b:List Ah),a.map (fun s=>(s.On,s.AH,s.Aq))=b.map (fun s=>(s.On,s.AH,s.Aq))→a=b:=by
  intro a
  induction a with
  |nil=>intro b h;cases b with|nil=>rfl|cons x l=>cases h
  |cons x l ih=>
   intro b h;cases b with
   |nil=>cases h
   |cons x2 d=>
    have c:=List.cons.inj h;obtain⟨a1,a2,a3⟩:=x;obtain⟨e,f,g⟩:=x2;have i:a1=e∧a2=f∧a3=g:=by simpa using c.1
    obtain⟨rfl,rfl,rfl⟩:=i;rw[ih d c.2]
 exact h _ _ (by decide+kernel)
theorem Qh{K:Nat}(hK:2000≤K):BH K=some true:=by
 unfold BH;have a:CM K 1=some y1:=rfl;have c:GJ K 3=some t3:=rfl;have d:EO K y1 [[0,1]] 1=some (verdict y1 [[0,1]] 1,0):=Pj hK Ic SM (i:=1) (by decide);have e:EO K y1 [[1,0]] 0=some (verdict y1 [[1,0]] 0,0):=Pj hK Ic Qg (i:=0) (by decide);have b:=G4 Ic;obtain⟨_,f,j⟩:=Ho b [[1,0]];obtain⟨_,g,k⟩:=P6 b;have v1:verdict y1 [[0,1]] 1=3:=by decide+kernel
 have v2:verdict y1 [[1,0]] 0=2:=by decide+kernel
 have v3:(CG y1 [[1,0]]).1=2:=by decide+kernel
 have v4:(Ia y1).1=1:=by decide+kernel
 have v5:(Mf y1).1=1:=by decide+kernel
 have v6:GB y1 0 y1.Ad.length=[1]:=by decide+kernel
 rw[bd a,bd c,bd (UD hK Ic SM VI),bd a,bd d,bd a,bd e,bd a,bd (UE hK Ic Qg),bd a,bd (UF hK Ic),bd a,bd (UG hK Ic),bd a,bd (Qf hK Ic),VJ];rw[ct (by rfl)];have s1:E7 K 0 1 true=some ⟨0,1,true⟩:=rfl;have s2:E7 K 2 3 false=some ⟨2,3,false⟩:=rfl;have h:GK K [⟨0,1,true⟩,⟨2,3,false⟩] ⟨0,1,true⟩ ⟨2,3,false⟩=some true:=rfl;rw[bd s1,bd s2,bd h,ct (by rfl),ct (by rfl),v1,ct (by rfl),ct (by rfl),v2,ct (by rfl),ct (by rfl),v3,ct (by rfl),bd a,bd (O0 hK Ic Qg f 2),ct (dt (by omega)),ct (by rfl),v4,ct (by rfl),bd a,bd (Om hK Ic g 1),ct (dt (by omega)),ct (by rfl),v5,ct (by rfl),ct (by rfl),v6,bd (Td hK [1] (by decide))]
end Go.Proofs.YtkljfdkmjdjpfaaGreat
end
section
namespace Go.Proofs.YtkljfdkmjdjpfaaGreat
namespace HF
theorem mixed:Tryz.prog.follows .mixedOrders=true:=by kernel_rfl
theorem J4(b:Nat)(w:World):(Instr.fieldAt 154 (.pointer (some ⟨b,0,none⟩)) 1).run Tryz.prog w=.ok (.pointer (some ⟨b,1,none⟩)) w:=by kernel_rfl
theorem AZ:One Tryz.prog 3:=by unfold One;exact⟨by kernel_rfl,by kernel_rfl⟩
theorem J5(b:Nat)(w:World):(Instr.fieldAt 154 (.pointer (some ⟨b,0,none⟩)) 0).run Tryz.prog w=.ok (.pointer (some ⟨b,0,none⟩)) w:=by kernel_rfl
theorem Jx:Bn Tryz.prog 90:=by unfold Bn;kernel_rfl
theorem J6(b:Nat)(w:World):(Instr.fieldAt 116 (.pointer (some ⟨b,0,none⟩)) 1).run Tryz.prog w=.ok (.pointer (some ⟨b,1,none⟩)) w:=by kernel_rfl
theorem IY(b:Nat)(w:World):(Instr.fieldAt 116 (.pointer (some ⟨b,0,none⟩)) 0).run Tryz.prog w=.ok (.pointer (some ⟨b,0,none⟩)) w:=by kernel_rfl
theorem Oo:(Tryz.prog.underlying 3).isSome=true:=by kernel_rfl
theorem HB:(Tryz.prog.info? 115).bind (·.zero)=some (.agg #[I 0,I 0,.bool false]):=by kernel_rfl
theorem ET:(Tryz.prog.info? 115).map (·.size)=some 3:=by kernel_rfl
theorem Ek:DC Tryz.prog 115 3:=by unfold DC;exact⟨by kernel_rfl,by kernel_rfl⟩
theorem Db(b:Nat)(w:World):(Instr.fieldAt 75 (.pointer (some ⟨b,0,none⟩)) 4).run Tryz.prog w=.ok (.pointer (some ⟨b,4,none⟩)) w:=by kernel_rfl
theorem DH:One Tryz.prog 73:=by unfold One;exact⟨by kernel_rfl,by kernel_rfl⟩
theorem Sc(b:Nat)(w:World):(Instr.fieldAt 115 (.pointer (some ⟨b,0,none⟩)) 2).run Tryz.prog w=.ok (.pointer (some ⟨b,2,none⟩)) w:=by kernel_rfl
theorem Ie:One Tryz.prog 4:=by unfold One;exact⟨by kernel_rfl,by kernel_rfl⟩
theorem LI(b:Nat)(w:World):(Instr.fieldAt 115 (.pointer (some ⟨b,0,none⟩)) 1).run Tryz.prog w=.ok (.pointer (some ⟨b,1,none⟩)) w:=by kernel_rfl
theorem Oq(b:Nat)(w:World):(Instr.fieldAt 156 (.pointer (some ⟨b,0,none⟩)) 3).run Tryz.prog w=.ok (.pointer (some ⟨b,4,none⟩)) w:=by kernel_rfl
theorem HK:DC Tryz.prog 156 5:=by unfold DC;exact⟨by kernel_rfl,by kernel_rfl⟩
theorem Ot:Bn Tryz.prog 97:=by unfold Bn;kernel_rfl
theorem F3(b:Nat)(w:World):(Instr.fieldAt 63 (.pointer (some ⟨b,0,none⟩)) 0).run Tryz.prog w=.ok (.pointer (some ⟨b,0,none⟩)) w:=by kernel_rfl
theorem KV:Bn Tryz.prog 54:=by unfold Bn;kernel_rfl
theorem K9(b:Nat)(w:World):(Instr.fieldAt 63 (.pointer (some ⟨b,0,none⟩)) 3).run Tryz.prog w=.ok (.pointer (some ⟨b,3,none⟩)) w:=by kernel_rfl
theorem MK(b:Nat)(w:World):(Instr.fieldAt 63 (.pointer (some ⟨b,0,none⟩)) 2).run Tryz.prog w=.ok (.pointer (some ⟨b,2,none⟩)) w:=by kernel_rfl
theorem CT:DC Tryz.prog 63 5:=by unfold DC;exact⟨by kernel_rfl,by kernel_rfl⟩
theorem Q8:Bn Tryz.prog 95:=by unfold Bn;kernel_rfl
theorem HW:(Tryz.prog.info? 3).map (fun i=>(i.zero,i.size,i.bytes))=some (some (I 0),1,8):=by kernel_rfl
theorem Pk:Bn Tryz.prog 100:=by unfold Bn;kernel_rfl
theorem CV(b:Nat)(w:World):(Instr.fieldAt 63 (.pointer (some ⟨b,0,none⟩)) 4).run Tryz.prog w=.ok (.pointer (some ⟨b,4,none⟩)) w:=by kernel_rfl
theorem Du:One Tryz.prog 61:=by unfold One;exact⟨by kernel_rfl,by kernel_rfl⟩
theorem FF:(Tryz.prog.info? 118).map (·.size)=some 5:=by kernel_rfl
theorem J7(b o:Nat)(w:World):(Instr.fieldAt 118 (.pointer (some ⟨b,o,none⟩)) 0).run Tryz.prog w=.ok (.pointer (some ⟨b,o,none⟩)) w:=by kernel_rfl
theorem Jy:DC Tryz.prog 116 2:=by unfold DC;exact⟨by kernel_rfl,by kernel_rfl⟩
theorem ML:Bn Tryz.prog 136:=by unfold Bn;kernel_rfl
theorem La(b:Nat)(w:World):(Instr.fieldAt 63 (.pointer (some ⟨b,0,none⟩)) 1).run Tryz.prog w=.ok (.pointer (some ⟨b,1,none⟩)) w:=by kernel_rfl
theorem Hu:Bn Tryz.prog 46:=by unfold Bn;kernel_rfl
theorem Lb:DC Tryz.prog 118 5:=by unfold DC;exact⟨by kernel_rfl,by kernel_rfl⟩
theorem Ou:(Tryz.prog.info? 118).bind (·.zero)=some (.agg #[I 0,I 0,I 0,I 0,I 0]):=by kernel_rfl
theorem IZ(b:Nat)(w:World):(Instr.fieldAt 118 (.pointer (some ⟨b,0,none⟩)) 0).run Tryz.prog w=.ok (.pointer (some ⟨b,0,none⟩)) w:=by kernel_rfl
theorem Ov(b:Nat)(w:World):(Instr.fieldAt 118 (.pointer (some ⟨b,0,none⟩)) 1).run Tryz.prog w=.ok (.pointer (some ⟨b,2,none⟩)) w:=by kernel_rfl
theorem Ow(b:Nat)(w:World):(Instr.fieldAt 118 (.pointer (some ⟨b,0,none⟩)) 2).run Tryz.prog w=.ok (.pointer (some ⟨b,3,none⟩)) w:=by kernel_rfl
theorem LJ(b:Nat)(w:World):(Instr.fieldAt 118 (.pointer (some ⟨b,0,none⟩)) 3).run Tryz.prog w=.ok (.pointer (some ⟨b,4,none⟩)) w:=by kernel_rfl
theorem Ox:Bn Tryz.prog 81:=by unfold Bn;kernel_rfl
theorem J8(b:Nat)(w:World):(Instr.fieldAt 156 (.pointer (some ⟨b,0,none⟩)) 0).run Tryz.prog w=.ok (.pointer (some ⟨b,0,none⟩)) w:=by kernel_rfl
theorem Lc:DC Tryz.prog 154 2:=by unfold DC;exact⟨by kernel_rfl,by kernel_rfl⟩
theorem HL(b:Nat)(w:World):(Instr.fieldAt 75 (.pointer (some ⟨b,0,none⟩)) 0).run Tryz.prog w=.ok (.pointer (some ⟨b,0,none⟩)) w:=by kernel_rfl
theorem Tf:Bn Tryz.prog 140:=by unfold Bn;kernel_rfl
theorem HC(b:Nat)(w:World):(Instr.fieldAt 156 (.pointer (some ⟨b,0,none⟩)) 1).run Tryz.prog w=.ok (.pointer (some ⟨b,2,none⟩)) w:=by kernel_rfl
theorem Pm:Bn Tryz.prog 141:=by unfold Bn;kernel_rfl
theorem LK(b:Nat)(w:World):(Instr.fieldAt 156 (.pointer (some ⟨b,0,none⟩)) 2).run Tryz.prog w=.ok (.pointer (some ⟨b,3,none⟩)) w:=by kernel_rfl
theorem CH:(Tryz.prog.info? 3).map (·.size)=some 1:=by kernel_rfl
theorem MM:(Tryz.prog.info? 75).bind (·.zero)=some (.agg #[I 0,I 0,I 0,I 0,.slice none 0 0]):=by kernel_rfl
theorem Qi:(Tryz.prog.info? 75).map (·.size)=some 5:=by kernel_rfl
theorem CU:DC Tryz.prog 75 5:=by unfold DC;exact⟨by kernel_rfl,by kernel_rfl⟩
theorem Hb:(Tryz.prog.info? 78).bind (·.zero)=some (.agg #[.slice none 0 0,.slice none 0 0]):=by kernel_rfl
theorem Mp:(Tryz.prog.info? 4).map (fun i=>(i.zero,i.size,i.bytes))=some (some (.bool false),1,1):=by kernel_rfl
theorem Hh:(Tryz.prog.info? 78).map (·.size)=some 2:=by kernel_rfl
theorem Gt(b:Nat)(w:World):(Instr.fieldAt 78 (.pointer (some ⟨b,0,none⟩)) 1).run Tryz.prog w=.ok (.pointer (some ⟨b,1,none⟩)) w:=by kernel_rfl
theorem EU:One Tryz.prog 65:=by unfold One;exact⟨by kernel_rfl,by kernel_rfl⟩
theorem HD:(Tryz.prog.info? 4).map (·.size)=some 1:=by kernel_rfl
theorem Ff:DC Tryz.prog 78 2:=by unfold DC;exact⟨by kernel_rfl,by kernel_rfl⟩
theorem MN:Tryz.prog.eqGuardType Tryz.prog.depth 115=false:=by kernel_rfl
theorem LL:RH Tryz.prog 115 [true,true,false]:=OU Tryz.underlying115 (by kernel_rfl) (by kernel_rfl) AZ Tryz.underlying3 Ie Tryz.underlying4
theorem Sd:(Tryz.prog.info? 154).bind (·.zero)=some (.agg #[I 0,I 0]):=by kernel_rfl
theorem UH:(Tryz.prog.info? 154).map (·.size)=some 2:=by kernel_rfl
theorem UI:Bn Tryz.prog 88:=by unfold Bn;kernel_rfl
theorem Se:(Tryz.prog.info? 156).map (fun i=>(i.zero,i.size,i.bytes))=some (some (.agg #[I 0,I 0,I 0,I 0,I 0]),5,40):=by kernel_rfl
theorem VK:(Tryz.prog.info? 73).map (·.size)=some 1:=by kernel_rfl
theorem Q9:Bn Tryz.prog 80:=by unfold Bn;kernel_rfl
theorem Tg:One Tryz.prog 168:=by unfold One;exact⟨by kernel_rfl,by kernel_rfl⟩
theorem Hl:(Tryz.prog.info? 156).map (·.size)=some 5:=by kernel_rfl
theorem Th:Bn Tryz.prog 175:=by unfold Bn;kernel_rfl
theorem Ti:Bn Tryz.prog 143:=by unfold Bn;kernel_rfl
theorem Tj:Bn Tryz.prog 142:=by unfold Bn;kernel_rfl
theorem Tk:One Tryz.prog 237:=by unfold One;exact⟨by kernel_rfl,by kernel_rfl⟩
theorem Tl:Bn Tryz.prog 210:=by unfold Bn;kernel_rfl
theorem Tm:Bn Tryz.prog 198:=by unfold Bn;kernel_rfl
theorem Tn:Bn Tryz.prog 197:=by unfold Bn;kernel_rfl
theorem Pn(b:Nat)(w:World):(Instr.fieldAt 75 (.pointer (some ⟨b,0,none⟩)) 2).run Tryz.prog w=.ok (.pointer (some ⟨b,2,none⟩)) w:=by kernel_rfl
theorem Po(b:Nat)(w:World):(Instr.fieldAt 75 (.pointer (some ⟨b,0,none⟩)) 3).run Tryz.prog w=.ok (.pointer (some ⟨b,3,none⟩)) w:=by kernel_rfl
theorem I0:(Tryz.prog.info? 3).bind (·.zero)=some (I 0):=by kernel_rfl
theorem To:Bn Tryz.prog 173:=by unfold Bn;kernel_rfl
theorem Tp:Bn Tryz.prog 172:=by unfold Bn;kernel_rfl
theorem Tq:Bn Tryz.prog 145:=by unfold Bn;kernel_rfl
theorem Pp:Bn Tryz.prog 138:=by unfold Bn;kernel_rfl
theorem Jz(b:Nat)(w:World):(Instr.fieldAt 75 (.pointer (some ⟨b,0,none⟩)) 1).run Tryz.prog w=.ok (.pointer (some ⟨b,1,none⟩)) w:=by kernel_rfl
theorem UJ:Bn Tryz.prog 89:=by unfold Bn;kernel_rfl
theorem UK:Bn Tryz.prog 91:=by unfold Bn;kernel_rfl
theorem Ra:Bn Tryz.prog 92:=by unfold Bn;kernel_rfl
theorem Pq:Bn Tryz.prog 144:=by unfold Bn;kernel_rfl
theorem LM:(Tryz.prog.info? 156).bind (·.zero)=some (.agg #[I 0,I 0,I 0,I 0,I 0]):=by kernel_rfl
theorem Rb:Bn Tryz.prog 94:=by unfold Bn;kernel_rfl
theorem UL:Bn Tryz.prog 93:=by unfold Bn;kernel_rfl
theorem Dh:One Tryz.prog 23:=by unfold One;exact⟨by kernel_rfl,by kernel_rfl⟩
theorem Ts:One Tryz.prog 161:=by unfold One;exact⟨by kernel_rfl,by kernel_rfl⟩
theorem Oy(b o:Nat)(w:World):(Instr.fieldAt 156 (.pointer (some ⟨b,o,none⟩)) 0).run Tryz.prog w=.ok (.pointer (some ⟨b,o,none⟩)) w:=by kernel_rfl
theorem Sf(b o:Nat)(w:World):(Instr.fieldAt 154 (.pointer (some ⟨b,o,none⟩)) 0).run Tryz.prog w=.ok (.pointer (some ⟨b,o,none⟩)) w:=by kernel_rfl
theorem Ld:One Tryz.prog 176:=by unfold One;exact⟨by kernel_rfl,by kernel_rfl⟩
theorem Pr:Bn Tryz.prog 200:=by unfold Bn;kernel_rfl
theorem Tt:(Tryz.prog.info? 23).bind (·.zero)=some (.slice none 0 0):=by kernel_rfl
theorem E0:(Tryz.prog.info? 23).map (·.size)=some 1:=by kernel_rfl
theorem Tu:(Tryz.prog.info? 65).bind (·.zero)=some (.slice none 0 0):=by kernel_rfl
theorem SN:(Tryz.prog.info? 65).map (·.size)=some 1:=by kernel_rfl
theorem Oz:(Tryz.prog.info? 176).bind (·.zero)=some (.nilFunc):=by kernel_rfl
theorem Rc:(Tryz.prog.info? 176).map (·.size)=some 1:=by kernel_rfl
theorem Tv(w:World):(Op.equal 23 (.slice none 0 0) (.slice none 0 0)).run Tryz.prog w=.ok true w:=by kernel_rfl
theorem Tw(ad:Addr)(n c:Nat)(w:World):(Op.equal 23 (.slice (some ad) n c) (.slice none 0 0)).run Tryz.prog w=.ok false w:=by kernel_rfl
theorem MO:Bn Tryz.prog 149:=by unfold Bn;kernel_rfl
theorem Tx(w:World):(Op.equal 65 (.slice none 0 0) (.slice none 0 0)).run Tryz.prog w=.ok true w:=by kernel_rfl
theorem Ty(ad:Addr)(n c:Nat)(w:World):(Op.equal 65 (.slice (some ad) n c) (.slice none 0 0)).run Tryz.prog w=.ok false w:=by kernel_rfl
theorem MP:Bn Tryz.prog 150:=by unfold Bn;kernel_rfl
theorem Le:(Tryz.prog.info? 23).map (fun i=>(i.zero,i.size,i.bytes))=some (some (.slice none 0 0),1,24):=by kernel_rfl
theorem Tz(w:World):(Op.equal 64 (.slice none 0 0) (.slice none 0 0)).run Tryz.prog w=.ok true w:=by kernel_rfl
theorem TA(ad:Addr)(n c:Nat)(w:World):(Op.equal 64 (.slice (some ad) n c) (.slice none 0 0)).run Tryz.prog w=.ok false w:=by kernel_rfl
theorem TB:Bn Tryz.prog 153:=by unfold Bn;kernel_rfl
theorem VM:∀(b c:Bool) (w:World),(Op.equal 4 (.bool b) (.bool c)).run Tryz.prog w=.ok (b==c) w:=by intro b c w;cases b<;>cases c<;>kernel_rfl
theorem GV(b:Nat)(w:World):(Instr.fieldAt 78 (.pointer (some ⟨b,0,none⟩)) 0).run Tryz.prog w=.ok (.pointer (some ⟨b,0,none⟩)) w:=by kernel_rfl
theorem Ps:Ll Tryz.prog 220 2:=PQ 2 Tryz.underlying220 (by kernel_rfl) rfl rfl AZ Tryz.underlying3
theorem OA:NK Tryz.prog 220 2:=OP 2 Tryz.underlying220 rfl rfl AZ Tryz.underlying3
theorem Nk:JM Tryz.prog 220:=by unfold JM;kernel_rfl
theorem UM:(Tryz.prog.info? 115).bind (·.zero)=some (.agg #[I 0,I 0,.bool false]):=by kernel_rfl
theorem HE(b:Nat)(w:World):(Instr.fieldAt 220 (.pointer (some ⟨b,0,none⟩)) 1).run Tryz.prog w=.ok (.pointer (some ⟨b,1,none⟩)) w:=by kernel_rfl
theorem I1(b o:Nat)(w:World):(Instr.fieldAt 165 (.pointer (some ⟨b,o,none⟩)) 0).run Tryz.prog w=.ok (.pointer (some ⟨b,o,none⟩)) w:=by kernel_rfl
theorem MQ(b o:Nat)(w:World):(Instr.fieldAt 75 (.pointer (some ⟨b,o,none⟩)) 0).run Tryz.prog w=.ok (.pointer (some ⟨b,o,none⟩)) w:=by kernel_rfl
theorem Pt(b o:Nat)(w:World):(Instr.fieldAt 75 (.pointer (some ⟨b,o,none⟩)) 4).run Tryz.prog w=.ok (.pointer (some ⟨b,o+4,none⟩)) w:=by kernel_rfl
theorem Sg(b:Nat)(w:World):(Instr.fieldAt 220 (.pointer (some ⟨b,0,none⟩)) 0).run Tryz.prog w=.ok (.pointer (some ⟨b,0,none⟩)) w:=by kernel_rfl
theorem OB(b o:Nat)(w:World):(Instr.fieldAt 165 (.pointer (some ⟨b,o,none⟩)) 1).run Tryz.prog w=.ok (.pointer (some ⟨b,o+5,none⟩)) w:=by kernel_rfl
theorem OC(b o:Nat)(w:World):(Instr.fieldAt 165 (.pointer (some ⟨b,o,none⟩)) 2).run Tryz.prog w=.ok (.pointer (some ⟨b,o+6,none⟩)) w:=by kernel_rfl
theorem Pu:One Tryz.prog 163:=by unfold One;exact⟨by kernel_rfl,by kernel_rfl⟩
theorem MR:DC Tryz.prog 220 2:=by unfold DC;exact⟨by kernel_rfl,by kernel_rfl⟩
theorem TD:Bn Tryz.prog 174:=by unfold Bn;kernel_rfl
theorem Sh:(Tryz.prog.info? 115).map (fun i=>(i.zero,i.size,i.bytes))=some (some (.agg #[I 0,I 0,.bool false]),3,24):=by kernel_rfl
theorem TE:Bn Tryz.prog 139:=by unfold Bn;kernel_rfl
theorem TF:Bn Tryz.prog 137:=by unfold Bn;kernel_rfl
theorem JA:Bn Tryz.prog 35:=by unfold Bn;kernel_rfl
theorem OD:Bn Tryz.prog 85:=by unfold Bn;kernel_rfl
theorem UN:Bn Tryz.prog 86:=by unfold Bn;kernel_rfl
theorem Mq:Bn Tryz.prog 87:=by unfold Bn;kernel_rfl
theorem OE:(Tryz.prog.info? 183).bind (·.zero)=some (.agg #[.nilFunc]):=by kernel_rfl
theorem Re:(Tryz.prog.info? 183).map (·.size)=some 1:=by kernel_rfl
theorem OF(b:Nat)(w:World):(Instr.fieldAt 183 (.pointer (some ⟨b,0,none⟩)) 0).run Tryz.prog w=.ok (.pointer (some ⟨b,0,none⟩)) w:=by kernel_rfl
theorem Pv:One Tryz.prog 180:=by unfold One;exact⟨by kernel_rfl,by kernel_rfl⟩
theorem Pw:Bn Tryz.prog 107:=by unfold Bn;kernel_rfl
theorem Px:Bn Tryz.prog 103:=by unfold Bn;kernel_rfl
theorem Si:(Tryz.prog.info? 162).bind (·.zero)=some (.pointer none):=by kernel_rfl
theorem TG:Bn Tryz.prog 176:=by unfold Bn;kernel_rfl
theorem IC:One Tryz.prog 162:=by unfold One;exact⟨by kernel_rfl,by kernel_rfl⟩
theorem Rf(w:World):(Op.equal 162 (.pointer none) (.pointer none)).run Tryz.prog w=.ok true w:=by kernel_rfl
theorem Rg:(Tryz.prog.info? 162).map (·.size)=some 1:=by kernel_rfl
theorem MS:One Tryz.prog 223:=by unfold One;exact⟨by kernel_rfl,by kernel_rfl⟩
theorem GD:One Tryz.prog 64:=by unfold One;exact⟨by kernel_rfl,by kernel_rfl⟩
theorem Rh(ad:Addr)(w:World):(Op.equal 162 (.pointer (some ad)) (.pointer none)).run Tryz.prog w=.ok false w:=by kernel_rfl
theorem TH:Bn Tryz.prog 177:=by unfold Bn;kernel_rfl
theorem TI:Bn Tryz.prog 199:=by unfold Bn;kernel_rfl
theorem I2:(Tryz.prog.info? 178).bind (·.zero)=some (.agg #[I 0,I 0,I 0,I 0]):=by kernel_rfl
theorem TJ:Bn Tryz.prog 147:=by unfold Bn;kernel_rfl
theorem Py:Bn Tryz.prog 146:=by unfold Bn;kernel_rfl
theorem ID:DC Tryz.prog 178 4:=by unfold DC;exact⟨by kernel_rfl,by kernel_rfl⟩
theorem JB:(Tryz.prog.info? 178).map (·.size)=some 4:=by kernel_rfl
theorem TK:Bn Tryz.prog 148:=by unfold Bn;kernel_rfl
theorem UO:Bn Tryz.prog 96:=by unfold Bn;kernel_rfl
theorem OG:Bn Tryz.prog 98:=by unfold Bn;kernel_rfl
theorem Ri:Bn Tryz.prog 99:=by unfold Bn;kernel_rfl
theorem OH:Bn Tryz.prog 41:=by unfold Bn;kernel_rfl
theorem Rj:Bn Tryz.prog 30:=by unfold Bn;kernel_rfl
theorem TL:Bn Tryz.prog 152:=by unfold Bn;kernel_rfl
theorem MT:Bn Tryz.prog 106:=by unfold Bn;kernel_rfl
theorem Jd:(Tryz.prog.info? 64).map (·.size)=some 1:=by kernel_rfl
theorem TM:DC Tryz.prog 183 1:=by unfold DC;exact⟨by kernel_rfl,by kernel_rfl⟩
theorem TN:Tryz.prog.eqGuardType Tryz.prog.depth 178=false:=by kernel_rfl
theorem TO:Ll Tryz.prog 178 4:=Qn Tryz.underlying178 AZ Tryz.underlying3
theorem UP:One Tryz.prog 69:=by unfold One;exact⟨by kernel_rfl,by kernel_rfl⟩
theorem Pz:Bn Tryz.prog 151:=by unfold Bn;kernel_rfl
theorem MU:(Tryz.prog.info? 64).bind (·.zero)=some (.slice none 0 0):=by kernel_rfl
theorem TP:Bn Tryz.prog 105:=by unfold Bn;kernel_rfl
theorem PA:Bn Tryz.prog 104:=by unfold Bn;kernel_rfl
theorem TQ:Bn Tryz.prog 108:=by unfold Bn;kernel_rfl
theorem MV:(Tryz.prog.info? 67).bind (·.zero)=some (.agg #[.slice none 0 0,.slice none 0 0]):=by kernel_rfl
theorem Sj:(Tryz.prog.info? 116).bind (·.zero)=some (.agg #[I 0,I 0]):=by kernel_rfl
theorem UQ:(Tryz.prog.info? 116).map (·.size)=some 2:=by kernel_rfl
theorem IE(b:Nat)(w:World):(Instr.fieldAt 67 (.pointer (some ⟨b,0,none⟩)) 0).run Tryz.prog w=.ok (.pointer (some ⟨b,0,none⟩)) w:=by kernel_rfl
theorem H3(b:Nat)(w:World):(Instr.fieldAt 67 (.pointer (some ⟨b,0,none⟩)) 1).run Tryz.prog w=.ok (.pointer (some ⟨b,1,none⟩)) w:=by kernel_rfl
theorem KW:DC Tryz.prog 67 2:=by unfold DC;exact⟨by kernel_rfl,by kernel_rfl⟩
theorem Nw:(Tryz.prog.info? 67).map (·.size)=some 2:=by kernel_rfl
theorem TR:Bn Tryz.prog 101:=by unfold Bn;kernel_rfl
theorem TS:(Tryz.prog.info? 67).map (fun i=>(i.zero,i.size,i.bytes))=some (some (.agg #[.slice none 0 0,.slice none 0 0]),2,48):=by kernel_rfl
theorem Sk(b o:Nat)(w:World):(Instr.fieldAt 116 (.pointer (some ⟨b,o,none⟩)) 0).run Tryz.prog w=.ok (.pointer (some ⟨b,o,none⟩)) w:=by kernel_rfl
theorem Sm(b o:Nat)(w:World):(Instr.fieldAt 116 (.pointer (some ⟨b,o,none⟩)) 1).run Tryz.prog w=.ok (.pointer (some ⟨b,o+1,none⟩)) w:=by kernel_rfl
theorem Sn:(Tryz.prog.info? 175).map (fun i=>(i.zero,i.size,i.bytes))=some (some (.agg #[I 0,I 0,.bool false]),3,24):=by kernel_rfl
theorem FY:(Tryz.prog.info? 175).map (·.size)=some 3:=by kernel_rfl
theorem Sp(b o:Nat)(w:World):(Instr.fieldAt 175 (.pointer (some ⟨b,o,none⟩)) 0).run Tryz.prog w=.ok (.pointer (some ⟨b,o,none⟩)) w:=by kernel_rfl
theorem J9(b o:Nat)(w:World):(Instr.fieldAt 118 (.pointer (some ⟨b,o,none⟩)) 1).run Tryz.prog w=.ok (.pointer (some ⟨b,o+2,none⟩)) w:=by kernel_rfl
theorem Hm(b o:Nat)(w:World):(Instr.fieldAt 175 (.pointer (some ⟨b,o,none⟩)) 1).run Tryz.prog w=.ok (.pointer (some ⟨b,o+1,none⟩)) w:=by kernel_rfl
theorem Ka(b o:Nat)(w:World):(Instr.fieldAt 175 (.pointer (some ⟨b,o,none⟩)) 2).run Tryz.prog w=.ok (.pointer (some ⟨b,o+2,none⟩)) w:=by kernel_rfl
theorem Kb(b o:Nat)(w:World):(Instr.fieldAt 118 (.pointer (some ⟨b,o,none⟩)) 2).run Tryz.prog w=.ok (.pointer (some ⟨b,o+3,none⟩)) w:=by kernel_rfl
theorem Sq(b:Nat)(w:World):(Instr.fieldAt 175 (.pointer (some ⟨b,0,none⟩)) 2).run Tryz.prog w=.ok (.pointer (some ⟨b,2,none⟩)) w:=by kernel_rfl
theorem Sr(b:Nat)(w:World):(Instr.fieldAt 175 (.pointer (some ⟨b,0,none⟩)) 1).run Tryz.prog w=.ok (.pointer (some ⟨b,1,none⟩)) w:=by kernel_rfl
theorem PB:DC Tryz.prog 175 3:=by unfold DC;exact⟨by kernel_rfl,by kernel_rfl⟩
theorem PC:Bn Tryz.prog 102:=by unfold Bn;kernel_rfl
theorem KX:Bn Tryz.prog 39:=by unfold Bn;kernel_rfl
theorem Mr:Bn Tryz.prog 45:=by unfold Bn;kernel_rfl
theorem OI:Bn Tryz.prog 42:=by unfold Bn;kernel_rfl
theorem OJ:Bn Tryz.prog 43:=by unfold Bn;kernel_rfl
theorem OK:Bn Tryz.prog 47:=by unfold Bn;kernel_rfl
theorem UR:Bn Tryz.prog 27:=by unfold Bn;kernel_rfl
theorem US:Bn Tryz.prog 34:=by unfold Bn;kernel_rfl
theorem HX:Bn Tryz.prog 82:=by unfold Bn;kernel_rfl
theorem UT:Bn Tryz.prog 83:=by unfold Bn;kernel_rfl
theorem OL:Bn Tryz.prog 40:=by unfold Bn;kernel_rfl
theorem UU:Bn Tryz.prog 50:=by unfold Bn;kernel_rfl
theorem UW:Bn Tryz.prog 51:=by unfold Bn;kernel_rfl
theorem UX:Bn Tryz.prog 52:=by unfold Bn;kernel_rfl
theorem Rk:Bn Tryz.prog 61:=by unfold Bn;kernel_rfl
theorem UY:Bn Tryz.prog 84:=by unfold Bn;kernel_rfl
theorem UZ:Bn Tryz.prog 48:=by unfold Bn;kernel_rfl
theorem U0:Bn Tryz.prog 49:=by unfold Bn;kernel_rfl
theorem U1:Bn Tryz.prog 55:=by unfold Bn;kernel_rfl
theorem FZ:Bn Tryz.prog 29:=by unfold Bn;kernel_rfl
theorem U2:Bn Tryz.prog 28:=by unfold Bn;kernel_rfl
theorem Rl:Bn Tryz.prog 31:=by unfold Bn;kernel_rfl
theorem Rm:Bn Tryz.prog 32:=by unfold Bn;kernel_rfl
theorem U3:Bn Tryz.prog 36:=by unfold Bn;kernel_rfl
theorem OM:Bn Tryz.prog 37:=by unfold Bn;kernel_rfl
theorem JC:Bn Tryz.prog 44:=by unfold Bn;kernel_rfl
end HF
end Go.Proofs.YtkljfdkmjdjpfaaGreat
end
section
set_option linter.unusedVariables false
set_option linter.unusedSimpArgs false
namespace Go.Proofs.YtkljfdkmjdjpfaaGreat
open Go.RowKit Go.WideShapes
set_option maxRecDepth 20000
open HF
attribute [local irreducible] BP WL CC CW LV BM Ev DC One Bn
theorem PD(n:Nat)(b:Int)(e:Int)(f:Int)(Z:Nat→Prop)(w:World)(m:Bool)(d:ED n b e f=some m):
 BM Tryz.prog 90 #[I b,I e,I f] w (fun v w'=>Ext w w'∧BX.R w' (ZZ FN [] Z w.heap.size []) v m):=by
 unfold ED at d;refine Bb (N:=15) Tryz.func90 rfl rfl (by simp) ?_;intro o h p;have g:=AP (i:=0) (v:=I b) h rfl;have k:=AP (i:=1) (v:=I e) h rfl;have l:=AP (i:=2) (v:=I f) h rfl;clear h;have j:Hp FN [] w [] w:=Hp.start (BN.none w);refine Ae<|Aa<|wa rfl (v:=.bool false) rfl<|Af<|Ab<|Ae<|Aa<|wm rfl (v:=I e) k<|wm rfl (v:=I b) g<|wd rfl (fun st=>Fg (ee st rfl) (ee st rfl))<|wm rfl (v:=.bool (decide (e≤b))) rfl ?_;rcases An (decide (e≤b)) with a|a
 ·replace d:=Ax d a;refine As rfl rfl (Ac rfl a) rfl (by decide) (fun st=>AK (v:=I b) (ee st g))<|As rfl rfl (Ac rfl a) rfl (by decide) (fun st=>AK (v:=I f) (ee st l))<|As rfl rfl (Ac rfl a) rfl (by decide) (fun st=>Fg (ee st rfl) (ee st rfl))<|wd rfl (fun st=>AO (v:=.bool (decide (b≤f))) (ee st rfl) a (ee st rfl))<|wa rfl (v:=.bool (decide (b≤f))) rfl<|Af<|Ab<|AM ?_;obtain rfl:=Option.some.inj d;refine AT rfl rfl ?_;exact⟨j.Bu,rfl⟩
 ·replace d:=Ay d a;refine Ao (c:=false) rfl rfl (Ac rfl a) (by decide) rfl (by decide)<|Ao (c:=false) rfl rfl (Ac rfl a) (by decide) rfl (by decide)<|Ao (c:=false) rfl rfl (Ac rfl a) (by decide) rfl (by decide)<|wd rfl (fun st=>Br (v:=.bool false) (ee st rfl) a (ee st rfl))<|wa rfl (v:=.bool false) rfl<|Af<|Ab<|AM ?_;obtain rfl:=Option.some.inj d;refine AT rfl rfl ?_;exact⟨j.Bu,rfl⟩
theorem VT(m:Nat)(a:CK)(Z:Nat→Prop)(w:World)(f:Int)(b:Ft m a=some f):
 BM Tryz.prog 94 #[.agg #[I a.Lo,I a.Hi]] w (fun v w'=>Ext w w'∧(F6 .i64).R w' (ZZ FN [] Z w.heap.size []) v f):=by
 unfold Ft at b;refine Bb (N:=9) Tryz.func94 rfl rfl (by simp) ?_;intro n g o;have e:=AP (i:=0) (v:=.agg #[I a.Lo,I a.Hi]) g rfl;clear g;have d:Hp FN [] w [] w:=Hp.start (BN.none w);refine Ae<|Aa<|we rfl (fun st=>BZ (v:=.agg #[I a.Lo,I a.Hi]) (cs:= #[I a.Lo,I a.Hi]) (ee st e) rfl) ?_;rintro _ w1 ⟨p,rfl,c⟩;have h:=d.nb c;have l:=d.BJ c;refine wa rfl (v:=I 0) rfl<|Af<|Ab<|Ae<|Aa<|wd rfl (fun st=>Ak (ee st rfl) (J4 _ _))<|wd rfl (fun st=>Au (v:=I a.Hi) AZ (ee st rfl) c.bk rfl)<|wd rfl (fun st=>Ak (ee st rfl) (J5 _ _))<|wd rfl (fun st=>Au (v:=I a.Lo) AZ (ee st rfl) c.bk rfl) ?_;replace b:=AR b;obtain⟨j,b⟩:=b;refine wd rfl (fun st=>I3 (ee st rfl) (ee st rfl) j) ?_;replace b:=AR b;obtain⟨k,b⟩:=b;refine wd rfl (fun st=>Bp (ee st rfl) (ee st rfl) k)<|wa rfl (v:=I ((a.Hi-a.Lo)+1)) rfl<|Af<|Ab<|AM ?_;obtain rfl:=Option.some.inj b;refine AT rfl rfl ?_;exact⟨h.Bu,rfl⟩
theorem V5(p:Nat)(a:CK)(g:Int)(Z:Nat→Prop)(w:World)(n:Bool)(e:Hg p a g=some n):
 BM Tryz.prog 140 #[.agg #[I a.Lo,I a.Hi],I g] w (fun v w'=>Ext w w'∧BX.R w' (ZZ FN [] Z w.heap.size []) v n):=by
 unfold Hg at e;refine Bb (N:=21) Tryz.func140 rfl rfl (by simp) ?_;intro q k r;have l:=AP (i:=0) (v:=.agg #[I a.Lo,I a.Hi]) k rfl;have m:=AP (i:=1) (v:=I g) k rfl;clear k;have j:Hp FN [] w [] w:=Hp.start (BN.none w);refine Ae<|Aa<|we rfl (fun st=>BZ (v:=.agg #[I a.Lo,I a.Hi]) (cs:= #[I a.Lo,I a.Hi]) (ee st l) rfl) ?_;rintro _ w1 ⟨s,rfl,f⟩;have h:=j.nb f;have o:=j.BJ f;refine wa rfl (v:=.bool false) rfl<|Af<|Ab<|Ae<|Aa<|wd rfl (fun st=>Ak (ee st rfl) (J5 _ _))<|wd rfl (fun st=>Au (v:=I a.Lo) AZ (ee st rfl) f.bk rfl)<|wd rfl (fun st=>Fg (ee st rfl) (ee st rfl))<|wm rfl (v:=.bool (decide ((0:Int)≤a.Lo))) rfl ?_;rcases An (decide ((0:Int)≤a.Lo)) with b|b
 ·replace e:=Ax e b;refine As rfl rfl (Ac rfl b) rfl (by decide) (fun st=>Ak (ee st rfl) (J5 _ _))<|As rfl rfl (Ac rfl b) rfl (by decide) (fun st=>Au (v:=I a.Lo) AZ (ee st rfl) f.bk rfl)<|As rfl rfl (Ac rfl b) rfl (by decide) (fun st=>Ak (ee st rfl) (J4 _ _))<|As rfl rfl (Ac rfl b) rfl (by decide) (fun st=>Au (v:=I a.Hi) AZ (ee st rfl) f.bk rfl)<|As rfl rfl (Ac rfl b) rfl (by decide) (fun st=>Fg (ee st rfl) (ee st rfl))<|wd rfl (fun st=>AO (v:=.bool (decide (a.Lo≤a.Hi))) (ee st rfl) b (ee st rfl))<|wm rfl (v:=.bool (decide (a.Lo≤a.Hi))) rfl ?_;rcases An (decide (a.Lo≤a.Hi)) with d|d
  ·replace e:=Ax e d;refine As rfl rfl (Ac rfl d) rfl (by decide) (fun st=>Ak (ee st rfl) (J4 _ _))<|As rfl rfl (Ac rfl d) rfl (by decide) (fun st=>Au (v:=I a.Hi) AZ (ee st rfl) f.bk rfl)<|As rfl rfl (Ac rfl d) rfl (by decide) (fun st=>AK (v:=I g) (ee st m))<|As rfl rfl (Ac rfl d) rfl (by decide) (fun st=>Fg (ee st rfl) (ee st rfl))<|wd rfl (fun st=>AO (v:=.bool (decide (a.Hi≤g))) (ee st rfl) d (ee st rfl))<|wa rfl (v:=.bool (decide (a.Hi≤g))) rfl<|Af<|Ab<|AM ?_;obtain rfl:=Option.some.inj e;refine AT rfl rfl ?_;exact⟨h.Bu,rfl⟩
  ·replace e:=Ay e d;refine Ao (c:=false) rfl rfl (Ac rfl d) (by decide) rfl (by decide)<|Ao (c:=false) rfl rfl (Ac rfl d) (by decide) rfl (by decide)<|Ao (c:=false) rfl rfl (Ac rfl d) (by decide) rfl (by decide)<|Ao (c:=false) rfl rfl (Ac rfl d) (by decide) rfl (by decide)<|wd rfl (fun st=>Br (v:=.bool false) (ee st rfl) d (ee st rfl))<|wa rfl (v:=.bool false) rfl<|Af<|Ab<|AM ?_;obtain rfl:=Option.some.inj e;refine AT rfl rfl ?_;exact⟨h.Bu,rfl⟩
 ·replace e:=Ay e b;refine Ao (c:=false) rfl rfl (Ac rfl b) (by decide) rfl (by decide)<|Ao (c:=false) rfl rfl (Ac rfl b) (by decide) rfl (by decide)<|Ao (c:=false) rfl rfl (Ac rfl b) (by decide) rfl (by decide)<|Ao (c:=false) rfl rfl (Ac rfl b) (by decide) rfl (by decide)<|Ao (c:=false) rfl rfl (Ac rfl b) (by decide) rfl (by decide)<|wd rfl (fun st=>Br (v:=.bool false) (ee st rfl) b (ee st rfl))<|wm rfl (v:=.bool false) rfl<|Ao rfl rfl rfl (by decide) rfl (by decide)<|Ao rfl rfl rfl (by decide) rfl (by decide)<|Ao rfl rfl rfl (by decide) rfl (by decide)<|Ao rfl rfl rfl (by decide) rfl (by decide)<|wd rfl (fun st=>Br (v:=.bool false) (ee st rfl) rfl (ee st rfl))<|wa rfl (v:=.bool false) rfl<|Af<|Ab<|AM ?_;obtain rfl:=Option.some.inj e;refine AT rfl rfl ?_;exact⟨h.Bu,rfl⟩
theorem a141(d:Nat)(b:Int)(Z:Nat→Prop)(w:World)(e:Bool)(a:G3 d b=some e):
 BM Tryz.prog 141 #[I b] w (fun v w'=>Ext w w'∧BX.R w' (ZZ FN [] Z w.heap.size []) v e):=by
 unfold G3 at a;refine Bb (N:=5) Tryz.func141 rfl rfl (by simp) ?_;intro l f m;have c:=AP (i:=0) (v:=I b) f rfl;clear f;have g:Hp FN [] w [] w:=Hp.start (BN.none w);refine Ae<|Aa<|wa rfl (v:=.bool false) rfl<|Af<|Ab<|Ae<|Aa<|wm rfl (v:=I b) c ?_;replace a:=bind_some a;obtain⟨r1,h,a⟩:=a;refine we rfl (fun st=>AG Jx (ee st rfl) (Em (ee st rfl) (ee st rfl) (ee st rfl)) (PD d b 1 5 ZA _ r1 h)) ?_;rintro _ w2 ⟨j,rfl⟩;have k:=g.ext j;refine wa rfl (v:=.bool r1) rfl<|Af<|Ab<|AM ?_;obtain rfl:=Option.some.inj a;refine AT rfl rfl ?_;exact⟨k.Bu,rfl⟩
theorem a46(n:Nat)(b:Int)(e:Int)(f:Int)(Z:Nat→Prop)(w:World)(m:Bool)(d:CJ n b e f=some m):
 BM Tryz.prog 46 #[I b,I e,I f] w (fun v w'=>Ext w w'∧BX.R w' (ZZ FN [] Z w.heap.size []) v m):=by
 unfold CJ at d;refine Bb (N:=15) Tryz.func46 rfl rfl (by simp) ?_;intro o h p;have g:=AP (i:=0) (v:=I b) h rfl;have k:=AP (i:=1) (v:=I e) h rfl;have l:=AP (i:=2) (v:=I f) h rfl;clear h;have j:Hp FN [] w [] w:=Hp.start (BN.none w);refine Ae<|Aa<|wa rfl (v:=.bool false) rfl<|Af<|Ab<|Ae<|Aa<|wm rfl (v:=I b) g<|wm rfl (v:=I e) k<|wd rfl (fun st=>LS (ee st rfl) (ee st rfl))<|wm rfl (v:=.bool (decide (e≤b))) rfl ?_;rcases An (decide (e≤b)) with a|a
 ·replace d:=Ax d a;refine As rfl rfl (Ac rfl a) rfl (by decide) (fun st=>AK (v:=I b) (ee st g))<|As rfl rfl (Ac rfl a) rfl (by decide) (fun st=>AK (v:=I f) (ee st l))<|As rfl rfl (Ac rfl a) rfl (by decide) (fun st=>Fg (ee st rfl) (ee st rfl))<|wd rfl (fun st=>AO (v:=.bool (decide (b≤f))) (ee st rfl) a (ee st rfl))<|wa rfl (v:=.bool (decide (b≤f))) rfl<|Af<|Ab<|AM ?_;obtain rfl:=Option.some.inj d;refine AT rfl rfl ?_;exact⟨j.Bu,rfl⟩
 ·replace d:=Ay d a;refine Ao (c:=false) rfl rfl (Ac rfl a) (by decide) rfl (by decide)<|Ao (c:=false) rfl rfl (Ac rfl a) (by decide) rfl (by decide)<|Ao (c:=false) rfl rfl (Ac rfl a) (by decide) rfl (by decide)<|wd rfl (fun st=>Br (v:=.bool false) (ee st rfl) a (ee st rfl))<|wa rfl (v:=.bool false) rfl<|Af<|Ab<|AM ?_;obtain rfl:=Option.some.inj d;refine AT rfl rfl ?_;exact⟨j.Bu,rfl⟩
theorem Ss(m:Nat)(a:CK)(Z:Nat→Prop)(w:World)(f:Int)(b:Ey m a=some f):
 BM Tryz.prog 136 #[.agg #[I a.Lo,I a.Hi]] w (fun v w'=>Ext w w'∧(F6 .i64).R w' (ZZ FN [] Z w.heap.size []) v f):=by
 unfold Ey at b;refine Bb (N:=9) Tryz.func136 rfl rfl (by simp) ?_;intro n g o;have e:=AP (i:=0) (v:=.agg #[I a.Lo,I a.Hi]) g rfl;clear g;have d:Hp FN [] w [] w:=Hp.start (BN.none w);refine Ae<|Aa<|we rfl (fun st=>BZ (v:=.agg #[I a.Lo,I a.Hi]) (cs:= #[I a.Lo,I a.Hi]) (ee st e) rfl) ?_;rintro _ w1 ⟨p,rfl,c⟩;have h:=d.nb c;have l:=d.BJ c;refine wa rfl (v:=I 0) rfl<|Af<|Ab<|Ae<|Aa<|wd rfl (fun st=>Ak (ee st rfl) (J6 _ _))<|wd rfl (fun st=>Au (v:=I a.Hi) AZ (ee st rfl) c.bk rfl)<|wd rfl (fun st=>Ak (ee st rfl) (IY _ _))<|wd rfl (fun st=>Au (v:=I a.Lo) AZ (ee st rfl) c.bk rfl) ?_;replace b:=AR b;obtain⟨j,b⟩:=b;refine wd rfl (fun st=>I3 (ee st rfl) (ee st rfl) j) ?_;replace b:=AR b;obtain⟨k,b⟩:=b;refine wd rfl (fun st=>Bp (ee st rfl) (ee st rfl) k)<|wa rfl (v:=I ((a.Hi-a.Lo)+1)) rfl<|Af<|Ab<|AM ?_;obtain rfl:=Option.some.inj b;refine AT rfl rfl ?_;exact⟨h.Bu,rfl⟩
theorem Rn(n:Nat)(b:Int)(c:Int)(Z:Nat→Prop)(w:World)(h:Bool)(a:DW n b c=some h):
 BM Tryz.prog 54 #[I b,I c] w (fun v w'=>Ext w w'∧BX.R w' (ZZ FN [] Z w.heap.size []) v h):=by
 unfold DW at a;refine Bb (N:=11) Tryz.func54 rfl rfl (by simp) ?_;intro o e p;have f:=AP (i:=0) (v:=I b) e rfl;have g:=AP (i:=1) (v:=I c) e rfl;clear e;have j:Hp FN [] w [] w:=Hp.start (BN.none w);refine Ae<|Aa<|wa rfl (v:=.bool false) rfl<|Af<|Ab<|Ae<|Aa<|wm rfl (v:=I b) f<|wm rfl (v:=I c) g ?_;replace a:=IN a;obtain⟨l,a⟩:=a;refine wd rfl (fun st=>Kl (k:=.u64) Oo Tryz.underlying32 (ee st rfl) l) ?_;replace a:=M3 a;obtain⟨m,a⟩:=a;refine wd rfl (fun st=>SD (ee st rfl) (ee st rfl) m) ?_;replace a:=JO a;obtain⟨d,a⟩:=a;refine wd rfl (fun st=>Nq (ee st rfl) (ee st rfl) d.1 d.2)<|wd rfl (fun st=>BC (ee st rfl) (ee st rfl))<|wa rfl (v:=.bool (((FH b c)%2)==1)) rfl<|Af<|Ab<|AM ?_;obtain rfl:=Option.some.inj a;refine AT rfl rfl ?_;exact⟨j.Bu,rfl⟩
theorem VU(s:Nat)(a:Int)(b:Int)(c:Bool)(Z:Nat→Prop)(w:World)(m:Ah)(o:E7 s a b c=some m):
 BM Tryz.prog 61 #[I a,I b,.bool c] w (fun v w'=>Ext w w'∧(C1 Bz).R w' (ZZ FN [] Z w.heap.size []) v m):=by
 unfold E7 at o;refine Bb (N:=11) Tryz.func61 rfl rfl (by simp) ?_;intro t e u;have h:=AP (i:=0) (v:=I a) e rfl;have j:=AP (i:=1) (v:=I b) e rfl;have k:=AP (i:=2) (v:=.bool c) e rfl;clear e;have f:Hp FN [] w [] w:=Hp.start (BN.none w);refine Ae<|Aa<|we rfl (fun st=>BW (cs:= #[I 0,I 0,.bool false]) HB rfl) ?_;rintro _ w1 ⟨x,rfl,d⟩;have p:=f.nb d;have r:=f.BJ d;refine Af<|Ab<|Ae<|Aa<|wm rfl (v:=I a) h<|wm rfl (v:=I b) j<|wm rfl (v:=.bool c) k<|wd rfl (fun st=>C2 (vs:= #[(0,I a),(1,I b),(2,.bool c)]) (v:=.agg #[I a,I b,.bool c]) (Kd (ee st rfl) (ee st rfl) (ee st rfl)) (by kernel_rfl))<|Bj rfl rfl (fun st=>Bi (n:=3) (l:=[I a,I b,.bool c]) (B8:= #[I a,I b,.bool c]) (ee st rfl) (ee st rfl) ET d.bk rfl rfl (show 0+3≤3 by decide) (AU rfl) rfl) ?_;rintro _ w2 g;have q:=p.gr g.gr 0 rfl;refine Af<|Ab<|AM ?_;obtain rfl:=Option.some.inj o;refine Gn (v:=.agg #[I a,I b,.bool c]) rfl rfl (CX Ek g.bk rfl rfl) ?_;exact⟨q.Bu,⟨_,rfl,rfl⟩⟩
theorem Wp(n:Nat)(a:Ar)(e:Int)(b:Option Addr)(c:Nat)(Z:Nat→Prop)(w:World)(g:Sl AQ w Z b c a.Ad)(o:Bool)(d:F9 n a e=some o):
 BM Tryz.prog 96 #[.agg #[I a.Am,I a.Aj,I a.Ap,I a.AA,.slice b a.Ad.length c],I e] w (fun v w'=>Ext w w'∧BX.R w' (ZZ FN [] Z w.heap.size []) v o):=by
 unfold F9 at d;refine Bb (N:=11) Tryz.func96 rfl rfl (by simp) ?_;intro y j z;have k:=AP (i:=0) (v:=.agg #[I a.Am,I a.Aj,I a.Ap,I a.AA,.slice b a.Ad.length c]) j rfl;have l:=AP (i:=1) (v:=I e) j rfl;clear j;have h:Hp FN [] w [] w:=Hp.start (BN.none w);have m:=g.mv (Bf (Z:=Z) (L:=[]) w);refine Ae<|Aa<|we rfl (fun st=>BZ (v:=.agg #[I a.Am,I a.Aj,I a.Ap,I a.AA,.slice b a.Ad.length c]) (cs:= #[I a.Am,I a.Aj,I a.Ap,I a.AA,.slice b a.Ad.length c]) (ee st k) rfl) ?_;rintro _ w1 ⟨aA,rfl,f⟩;have p:=h.nb f;have x:=h.BJ f;refine wa rfl (v:=.bool false) rfl<|Af<|Ab<|Ae<|Aa<|wm rfl (v:=I e) l<|wd rfl (fun st=>Ak (ee st rfl) (Db _ _))<|wd rfl (fun st=>Au (v:=.slice b a.Ad.length c) DH (ee st rfl) f.bk rfl)<|wd rfl (fun st=>BB Tryz.underlying73 (ee st rfl)) ?_;replace d:=AR d;obtain⟨q,d⟩:=d;refine wd rfl (fun st=>I3 (ee st rfl) (ee st rfl) q) ?_;replace d:=bind_some d;obtain⟨r,s,d⟩:=d;refine we rfl (fun st=>AG Jx (ee st rfl) (Em (ee st rfl) (ee st rfl) (ee st rfl)) (PD n e 0 ((a.Ad.length:Int)-1) ZA _ r s)) ?_;rintro _ aB ⟨t,rfl⟩;have u:=p.ext t;refine wa rfl (v:=.bool r) rfl<|Af<|Ab<|AM ?_;obtain rfl:=Option.some.inj d;refine AT rfl rfl ?_;exact⟨u.Bu,rfl⟩
theorem U4(s:Nat)(a:Bd)(d:Ah)(Z:Nat→Prop)(w:World)(p:Bool)(f:Dl s a d=some p):
 BM Tryz.prog 97 #[.agg #[I a.Aw,I a.AJ,I a.Aq,I a.BY,I a.Ch],.agg #[I d.On,I d.AH,.bool d.Aq]] w (fun v w'=>Ext w w'∧BX.R w' (ZZ FN [] Z w.heap.size []) v p):=by
 unfold Dl at f;refine Bb (N:=14) Tryz.func97 rfl rfl (by simp) ?_;intro t m u;have n:=AP (i:=0) (v:=.agg #[I a.Aw,I a.AJ,I a.Aq,I a.BY,I a.Ch]) m rfl;have o:=AP (i:=1) (v:=.agg #[I d.On,I d.AH,.bool d.Aq]) m rfl;clear m;have j:Hp FN [] w [] w:=Hp.start (BN.none w);refine Ae<|Aa<|we rfl (fun st=>BZ (v:=.agg #[I a.Aw,I a.AJ,I a.Aq,I a.BY,I a.Ch]) (cs:= #[I a.Aw,I a.AJ,I a.Aq,I a.BY,I a.Ch]) (ee st n) rfl) ?_;rintro _ w1 ⟨x,rfl,g⟩;have k:=j.nb g;have q:=j.BJ g;refine we rfl (fun st=>BZ (v:=.agg #[I d.On,I d.AH,.bool d.Aq]) (cs:= #[I d.On,I d.AH,.bool d.Aq]) (ee st o) rfl) ?_;rintro _ w2 ⟨y,rfl,e⟩;have l:=k.nb e;have r:=k.BJ e;refine wa rfl (v:=.bool false) rfl<|Af<|Ab<|Ae<|Aa<|wd rfl (fun st=>Ak (ee st rfl) (Sc _ _))<|wd rfl (fun st=>Au (v:=.bool d.Aq) Ie (ee st rfl) e.bk rfl)<|wm rfl (v:=.bool d.Aq) rfl ?_;rcases An (d.Aq) with b|b
 ·replace f:=Ax f b;refine As rfl rfl (Ac rfl b) rfl (by decide) (fun st=>Ak (ee st rfl) (LI _ _))<|As rfl rfl (Ac rfl b) rfl (by decide) (fun st=>Au (v:=I d.AH) AZ (ee st rfl) e.bk rfl)<|As rfl rfl (Ac rfl b) rfl (by decide) (fun st=>Ak (ee st rfl) (Oq _ _)) ?_;have h:=(g.bk.ext e.gr);refine As rfl rfl (Ac rfl b) rfl (by decide) (fun st=>Au (v:=I a.Ch) AZ (ee st rfl) h rfl)<|As rfl rfl (Ac rfl b) rfl (by decide) (fun st=>Fg (ee st rfl) (ee st rfl))<|wd rfl (fun st=>AO (v:=.bool (decide (d.AH≤a.Ch))) (ee st rfl) b (ee st rfl))<|wa rfl (v:=.bool (decide (d.AH≤a.Ch))) rfl<|Af<|Ab<|AM ?_;obtain rfl:=Option.some.inj f;refine AT rfl rfl ?_;exact⟨l.Bu,rfl⟩
 ·replace f:=Ay f b;refine Ao (c:=false) rfl rfl (Ac rfl b) (by decide) rfl (by decide)<|Ao (c:=false) rfl rfl (Ac rfl b) (by decide) rfl (by decide)<|Ao (c:=false) rfl rfl (Ac rfl b) (by decide) rfl (by decide)<|Ao (c:=false) rfl rfl (Ac rfl b) (by decide) rfl (by decide)<|Ao (c:=false) rfl rfl (Ac rfl b) (by decide) rfl (by decide)<|wd rfl (fun st=>Br (v:=.bool false) (ee st rfl) b (ee st rfl))<|wa rfl (v:=.bool false) rfl<|Af<|Ab<|AM ?_;obtain rfl:=Option.some.inj f;refine AT rfl rfl ?_;exact⟨l.Bu,rfl⟩
theorem a107(n:Nat)(a:Bd)(b:Ah)(Z:Nat→Prop)(w:World)(o:Bool)(d:Ez n a b=some o):
 BM Tryz.prog 107 #[.agg #[I a.Aw,I a.AJ,I a.Aq,I a.BY,I a.Ch],.agg #[I b.On,I b.AH,.bool b.Aq]] w (fun v w'=>Ext w w'∧BX.R w' (ZZ FN [] Z w.heap.size []) v o):=by
 unfold Ez at d;refine Bb (N:=9) Tryz.func107 rfl rfl (by simp) ?_;intro y j z;have k:=AP (i:=0) (v:=.agg #[I a.Aw,I a.AJ,I a.Aq,I a.BY,I a.Ch]) j rfl;have m:=AP (i:=1) (v:=.agg #[I b.On,I b.AH,.bool b.Aq]) j rfl;clear j;have g:Hp FN [] w [] w:=Hp.start (BN.none w);refine Ae<|Aa<|we rfl (fun st=>BZ (v:=.agg #[I a.Aw,I a.AJ,I a.Aq,I a.BY,I a.Ch]) (cs:= #[I a.Aw,I a.AJ,I a.Aq,I a.BY,I a.Ch]) (ee st k) rfl) ?_;rintro _ w1 ⟨aA,rfl,e⟩;have h:=g.nb e;have u:=g.BJ e;refine we rfl (fun st=>BZ (v:=.agg #[I b.On,I b.AH,.bool b.Aq]) (cs:= #[I b.On,I b.AH,.bool b.Aq]) (ee st m) rfl) ?_;rintro _ w2 ⟨aB,rfl,c⟩;have p:=h.nb c;have x:=h.BJ c;refine wa rfl (v:=.bool false) rfl<|Af<|Ab<|Ae<|Aa ?_;have f:=(e.bk.ext c.gr);refine wd rfl (fun st=>A5 (l:=[I a.Aw,I a.AJ,I a.Aq,I a.BY,I a.Ch]) HK (ee st rfl) f rfl rfl)<|wd rfl (fun st=>A5 (l:=[I b.On,I b.AH,.bool b.Aq]) Ek (ee st rfl) c.bk rfl rfl) ?_;replace d:=bind_some d;obtain⟨q,r,d⟩:=d;refine we rfl (fun st=>AG Ot (ee st rfl) (El (ee st rfl) (ee st rfl)) (U4 n a b ZA _ q r)) ?_;rintro _ aC ⟨s,rfl⟩;have t:=p.ext s;refine wd rfl (fun st=>C0 (ee st rfl))<|wa rfl (v:=.bool !q) rfl<|Af<|Ab<|AM ?_;obtain rfl:=Option.some.inj d;refine AT rfl rfl ?_;exact⟨t.Bu,rfl⟩
end Go.Proofs.YtkljfdkmjdjpfaaGreat
end
