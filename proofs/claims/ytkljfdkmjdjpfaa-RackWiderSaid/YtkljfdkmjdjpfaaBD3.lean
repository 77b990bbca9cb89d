import Derived.Test.YtkljfdkmjdjpfaaBD2
import Derived.WalkKit
import Derived.KernelRfl
import Derived.WalkSpells
import Derived.WalkLawsBesides
import Derived.Maps.AppendAt
import Derived.OrdersIn
import Derived.RangeFuncIn
import Derived.RangeFuncLeaves
import Derived.RangeFuncRecord
import Derived.RangeFuncSeq
import Derived.Scope
import Derived.DeepKeys3
import Derived.Laws.CopyRow
import Derived.Laws.OwnMore
import Derived.Laws.MakeOwn
import Derived.Laws.IdiomCopy
import Derived.Test.YtkljfdkmjdjpfaaProg
/-
  The contracts of the functions of the program and of the reference, and the logic that they are proved in: the base that several claims of this seat share.
-/
set_option linter.all false
section
namespace Go.Proofs.Ytkljfdkmjdjpfaa
theorem Qx(n:Nat)(h:n<64):Jr .u64 (n:Int)=some ():=by
 refine if_pos ?_;show(n:Int)%(2^64:Int)=n;rw[show(2:Int)^64=18446744073709551616 from rfl];omega
theorem ON(K b d:Nat)(h:d<64):Ec K (b:Int) (d:Int)=some (b.testBit d):=by
 unfold Ec;rw[bd (Qx d h),bd (Pg b d h),KG (Sc b d) (by omega),Pf]
def lead:List Bool→Nat
 |true::l=>lead l+1
 |_=>0
def Gn(R:Int):List Bool→Bool
 |[]=>true
 |b::l=>decide ((lead (b::l):Int)≤R)&&Gn R l
def Ib:List Bool→Nat
 |[]=>0
 |b::l=>(cond b 1 0)+Ib l
theorem KK(r:Nat)(l:List Bool):lead (List.replicate r true++l)=r+lead l:=by
 induction r with
 |zero=>simp
 |succ r ih=>rw[List.replicate_succ,List.cons_append,lead,ih];omega
theorem L5(R:Int)(l:List Bool):∀r:Nat,(r:Int)≤R→Gn R (List.replicate r true++false::l)=(decide (0≤R)&&Gn R l)
 |0,_=>rfl
 |r+1,h=>by
  rw[List.replicate_succ,List.cons_append,Gn,L5 R l r (by omega)];have:lead (true::(List.replicate r true++false::l))=r+1:=by
   rw[lead,KK];rfl
  rw[this,dt (by omega),Bool.true_and]
theorem MY(W R:Int)(b:0≤R):∀(l:List Bool) (s:Int) (r:Nat),s≤W→(r:Int)≤R→okW W R l s r=(decide (s+(Ib l:Int)≤W)&&Gn R (List.replicate r true++l))
 |[],s,r,c,a=>by
  have:∀q:Nat,(q:Int)≤R→Gn R (List.replicate q true)=true:=by
   intro q
   induction q with
   |zero=>intro _;rfl
   |succ q ih=>
    intro g;have e:=KK (q+1) [];rw[List.append_nil,List.replicate_succ] at e;have h:lead ([]:List Bool)=0:=rfl;rw[List.replicate_succ,Gn,e,ih (by omega),dt (by omega)];rfl
  rw[List.append_nil,this r a,okW,dt (by unfold Ib;omega)];rfl
 |false::l,s,r,c,a=>by
  rw[okW,L5 R l r a,dt b,Bool.true_and];have:=MY W R b l s 0 c (by omega);rw[Int.natCast_zero] at this;rw[this,Ib];simp
 |true::l,s,r,c,a=>by
  rw[okW];have e:List.replicate r true++true::l=List.replicate (r+1) true++l:=by
   rw[List.replicate_succ'];simp
  rw[e]
  by_cases d:s+1≤W
  ·by_cases f:(r:Int)+1≤R
   ·rw[dt d,dt f,Bool.true_and,Bool.true_and,DQ,MY W R b l (s+1) (r+1) d (by omega)]
    congr 2
    rw[Ib];simp;omega
   ·rw[df f,Bool.false_and,Bool.and_false];have:Gn R (List.replicate (r+1) true++l)=false:=by
     rw[List.replicate_succ,List.cons_append,Gn];have e:=KK (r+1) l;rw[List.replicate_succ,List.cons_append] at e;rw[e,df (by omega)];rfl
    rw[this,Bool.and_false]
  ·rw[df d,Bool.false_and];have:¬(s+(Ib (true::l):Int)≤W):=by rw[Ib];simp;omega
   rw[df this];rfl
theorem Ly(n b i:Nat)(h:i<n):(wl n b).drop i=b.testBit i::(wl n b).drop (i+1):=by
 rw[List.drop_eq_getElem_cons (by rw[Fm];exact h)]
 congr 1
 simp[wl]
theorem Sp(K:Nat)(y:Aq)(b a:Nat)(h0:0≤y.Ah)(h9:y.Ah≤9)(d:0≤y.Ax)(f:y.Ax≤y.Ah+1)(i:a≤9):∀(k m e:Nat) (g:Bool),(a:Int)+y.Ax+1=e+k→k<m→
  Cj K y b (a:Int) m g (e:Int)=some (g&&decide (k≤lead ((wl (days y) b).drop e))):=by
 intro k
 induction k with
 |zero=>
  intro m e g h hm;cases m with
  |zero=>omega
  |succ m=>rw[Cj.eq_2,BG (by omega) (by omega),cf (df (by omega)),dt (Nat.zero_le _),Bool.and_true]
 |succ k ih=>
  intro m e g h hm;cases m with
  |zero=>omega
  |succ m=>
   rw[Cj.eq_2,BG (by omega) (by omega),ct (dt (by omega))];cases g with
   |false=>
    rw[cf rfl,BG (by omega) (by omega),DQ,ih m (e+1) false (by omega) (by omega)];rfl
   |true=>
    rw[ct rfl,Bool.true_and]
    by_cases c:(e:Int)≤y.Ah
    ·rw[ct (dt c),bd (ON K b e (by omega)),BG (by omega) (by omega),DQ,ih m (e+1) _ (by omega) (by omega),Ly (days y) b e (by unfold days;omega)];cases b.testBit e with
     |false=>
      rw[Bool.false_and,df (show¬(k+1≤lead (false::_)) by show¬(k+1≤0);omega)]
     |true=>
      rw[Bool.true_and]
      congr 1
      rw[Bool.eq_iff_iff,decide_eq_true_eq,decide_eq_true_eq];show _↔k+1≤lead _+1;omega
    ·rw[cf (df c),BG (by omega) (by omega),DQ,ih m (e+1) false (by omega) (by omega),show(wl (days y) b).drop e=[] from List.drop_eq_nil_of_le (by rw[Fm];unfold days;omega)];rw[Bool.false_and,df (show¬(k+1≤lead []) by show¬(k+1≤0);omega)]
theorem Rk(K:Nat)(y:Aq)(b a:Nat)(h0:0≤y.Ah)(h9:y.Ah≤9)(d:0≤y.Ax)(f:y.Ax≤y.Ah+1)(i:a≤9):∀(k m e:Nat) (g:Bool),(a:Int)+y.Ax+1=e+k→k<m→
  Ce K y b (a:Int) m g (e:Int)=some (g&&decide (k≤lead ((wl (days y) b).drop e))):=by
 intro k
 induction k with
 |zero=>
  intro m e g h hm;cases m with
  |zero=>omega
  |succ m=>rw[Ce.eq_2,BG (by omega) (by omega),cf (df (by omega)),dt (Nat.zero_le _),Bool.and_true]
 |succ k ih=>
  intro m e g h hm;cases m with
  |zero=>omega
  |succ m=>
   rw[Ce.eq_2,BG (by omega) (by omega),ct (dt (by omega))];cases g with
   |false=>
    rw[cf rfl,BG (by omega) (by omega),DQ,ih m (e+1) false (by omega) (by omega)];rfl
   |true=>
    rw[ct rfl,Bool.true_and]
    by_cases c:(e:Int)≤y.Ah
    ·rw[ct (dt c),bd (ON K b e (by omega)),BG (by omega) (by omega),DQ,ih m (e+1) _ (by omega) (by omega),Ly (days y) b e (by unfold days;omega)];cases b.testBit e with
     |false=>
      rw[Bool.false_and,df (show¬(k+1≤lead (false::_)) by show¬(k+1≤0);omega)]
     |true=>
      rw[Bool.true_and]
      congr 1
      rw[Bool.eq_iff_iff,decide_eq_true_eq,decide_eq_true_eq];show _↔k+1≤lead _+1;omega
    ·rw[cf (df c),BG (by omega) (by omega),DQ,ih m (e+1) false (by omega) (by omega),show(wl (days y) b).drop e=[] from List.drop_eq_nil_of_le (by rw[Fm];unfold days;omega)];rw[Bool.false_and,df (show¬(k+1≤lead []) by show¬(k+1≤0);omega)]
theorem OO{K:Nat}(y:Aq)(b:Nat)(h0:0≤y.Ah)(h9:y.Ah≤9)(c:0≤y.Ax)(f:y.Ax≤y.Ah+1)(hK:2000≤K):∀(k m i:Nat) (s:Int),days y=i+k→k<m→0≤s→s≤i→
  Cv K y b m s (i:Int)=some (cond (Gn y.Ax ((wl (days y) b).drop i)) (.inr (s+(Ib ((wl (days y) b).drop i):Int))) (.inl false)):=by
 intro k
 induction k with
 |zero=>
  intro m i s h hm j l;cases m with
  |zero=>omega
  |succ m=>
   rw[Cv.eq_2,cf (df (by unfold days at h;omega)),List.drop_eq_nil_of_le (by rw[Fm];omega)];show _=some (Sum.inr (s+((0:Nat):Int)));rw[Int.natCast_zero,Int.add_zero]
 |succ k ih=>
  intro m i s h hm j l;cases m with
  |zero=>omega
  |succ m=>
   have p:days y≤10:=by unfold days;omega
   have hi:i<days y:=by omega
   have g:(i:Int)≤y.Ah:=by unfold days at hi;omega
   have d:=Sp K y b i h0 h9 c f (by omega) (y.Ax+1).toNat K i true (by omega) (by omega);have a:=Rk K y b i h0 h9 c f (by omega) (y.Ax+1).toNat K i true (by omega) (by omega);have n:decide ((y.Ax+1).toNat≤lead ((wl (days y) b).drop i))= !decide ((lead ((wl (days y) b).drop i):Int)≤y.Ax):=by
    rw[←decide_not];congr 1;rw[eq_iff_iff];omega
   rw[Bool.true_and,n] at d a;rw[Cv.eq_2,ct (dt g),bd (ON K b i (by omega))];have e:=Ly (days y) b i hi;have o:Gn y.Ax ((wl (days y) b).drop i)=(decide ((lead ((wl (days y) b).drop i):Int)≤y.Ax)&&Gn y.Ax ((wl (days y) b).drop (i+1))):=by
    conv=>lhs;rw[e]
    rw[Gn,←e]
   have ec:Ib ((wl (days y) b).drop i)=(cond (b.testBit i) 1 0)+Ib ((wl (days y) b).drop (i+1)):=by rw[e,Ib]
   rw[o,ec];cases q:b.testBit i with
   |true=>
    rw[ct rfl,BG (by omega) (by omega),bd d];cases decide ((lead ((wl (days y) b).drop i):Int)≤y.Ax) with
    |false=>rw[Bool.false_and];rfl
    |true=>
     rw[nt,BG (by omega) (by omega),DQ,ih m (i+1) (s+1) (by omega) (by omega) (by omega) (by omega),Bool.true_and]
     congr 2
     simp;omega
   |false=>
    rw[cf rfl,bd a];cases decide ((lead ((wl (days y) b).drop i):Int)≤y.Ax) with
    |false=>rw[Bool.false_and];rfl
    |true=>
     rw[nt,BG (by omega) (by omega),DQ,ih m (i+1) s (by omega) (by omega) (by omega) (by omega),Bool.true_and]
     congr 2
     simp
theorem Ny{K:Nat}(y:Aq)(b:Nat)(h0:0≤y.Ah)(h9:y.Ah≤9)(a:0≤y.Ax)(d:y.Ax≤y.Ah+1)(f:0≤y.Ap)(hK:2000≤K):D9 K y b=some (G7 y (wl (days y) b)):=by
 unfold D9;have g:days y≤10:=by unfold days;omega
 have e:=OO (K:=K) y b h0 h9 a d hK (days y) K 0 0 (by omega) (by omega) (by omega) (by omega);rw[Int.natCast_zero,List.drop_zero] at e;rw[bd e];have c:=MY y.Ap y.Ax a (wl (days y) b) 0 0 f (by omega);rw[Int.natCast_zero] at c;unfold G7;rw[c];show _=some (_&&Gn y.Ax (wl (days y) b));cases Gn y.Ax (wl (days y) b) with
 |true=>rw[Bool.and_true];rfl
 |false=>rw[Bool.and_false];rfl
def HC (y:Aq) (k d:Nat):List Int:=((List.range' k d).filter fun b=>G7 y (wl (days y) b)).map fun b:Nat=>(b:Int)
theorem Ma(y:Aq):(HC y 0 (2^days y)).length=(CJ y).length:=by
 unfold HC CJ;rw[List.length_map,List.range_eq_range',List.filter_map,List.length_map];rfl
theorem OP{K:Nat}(y:Aq)(h0:0≤y.Ah)(h9:y.Ah≤9)(d:0≤y.Ax)(f:y.Ax≤y.Ah+1)(g:0≤y.Ap)(hK:2000≤K):∀(k m i:Nat) (a:List Int),2^days y=i+k→k<m→a.length≤i→
  CA K y m a (i:Int)=some (a++HC y i k):=by
 intro k;have j:days y≤10:=by unfold days;omega
 have n:=H9 _ j;have b:y.Ah+1=(days y:Int):=by unfold days;omega
 have c:GR (1:Int) (days y:Int)=((2^days y:Nat):Int):=by
  unfold GR;rw[Int.one_mul,Int.toNat_natCast,Int.natCast_pow];rfl
 have e:Lj (1:Int) (days y:Int)=some ():=by
  refine if_pos ⟨by omega,by omega,?_,?_⟩
  ·have:(0:Int)≤1*2^((days y:Nat):Int).toNat:=by rw[Int.one_mul];exact Int.le_of_lt (Int.pow_pos (by omega))
   exact Int.le_trans (by omega) this
  ·rw[Int.one_mul,Int.toNat_natCast];have:((2^days y:Nat):Int)≤1024:=by omega
   rw[Int.natCast_pow] at this;exact Int.le_trans this (by omega)
 induction k with
 |zero=>
  intro m i a h hm l;cases m with
  |zero=>omega
  |succ m=>
   rw[CA.eq_2,BG (by omega) (by omega),b,bd (Qx _ (by omega)),bd e,c,cf (df (by omega))];simp[HC]
 |succ k ih=>
  intro m i a h hm l;cases m with
  |zero=>omega
  |succ m=>
   rw[CA.eq_2,BG (by omega) (by omega),b,bd (Qx _ (by omega)),bd e,c,ct (dt (by omega)),bd (Ny y i h0 h9 d f g hK)];unfold HC;rw[List.range'_succ,List.filter_cons];cases G7 y (wl (days y) i) with
   |true=>
    rw[ct rfl,GA (by simp;omega),BG (by omega) (by omega),DQ,ih m (i+1) _ (by omega) (by omega) (by simp;omega)];simp[HC]
   |false=>
    rw[cf rfl,BG (by omega) (by omega),DQ,ih m (i+1) a (by omega) (by omega) (by omega)];simp[HC]
theorem OQ{K:Nat}(y:Aq)(h0:0≤y.Ah)(h9:y.Ah≤9)(a:0≤y.Ax)(b:y.Ax≤y.Ah+1)(c:0≤y.Ap)(hK:2000≤K):Ej K y=some (HC y 0 (2^days y)):=by
 unfold Ej;have d:days y≤10:=by unfold days;omega
 have f:=H9 _ d;have e:=OP (K:=K) y h0 h9 a b c hK (2^days y) K 0 [] (by omega) (by omega) (by simp);rw[Int.natCast_zero] at e;rw[bd e,List.nil_append]
theorem K8{y:Aq}(h9:y.Ah≤9)(h:∀l∈y.Ac,FK y l=true):∀l∈y.Ac,sized l∧0≤l.An∧l.Ar≤9:=fun l a=>by
 have:=GZ.1 (h l a);exact⟨KH h9 (h l a),this.1,by omega⟩
theorem PA{K:Nat}(y:Aq)(h0:0≤y.Ah)(h9:y.Ah≤9)(a:0≤y.Ax)(b:y.Ax≤y.Ah+1)(c:0≤y.Ap)(d:y.Ac.length≤4)(f:∀l∈y.Ac,sized l∧0≤l.An∧l.Ar≤9)(hK:2000≤K):
  DJ K y=some (Iy 3000 ((CJ y).length:Int) y.Ac):=by
 unfold DJ;have g:days y≤10:=by unfold days;omega
 have hw:=JQ y g;have e:=Sf y d f (K:=K) y.Ac.length K 0 ((CJ y).length:Int) (by omega) (by omega) (by omega) (by omega);rw[Int.natCast_zero,List.drop_zero] at e;rw[bd (OQ y h0 h9 a b c hK),Ma,bd e]
theorem Rl(K:Nat)(y:Aq)(d:y.Ac.length≤4):∀(k m i:Nat),y.Ac.length=i+k→k<m→
  Dc K y m (i:Int)=some (cond ((y.Ac.drop i).all (FK y)) (.inr ()) (.inl 1)):=by
 intro k
 induction k with
 |zero=>
  intro m i h hm;cases m with
  |zero=>omega
  |succ m=>rw[Dc.eq_2,cf (df (by omega)),List.drop_eq_nil_of_le (by omega)];rfl
 |succ k ih=>
  intro m i h hm;cases m with
  |zero=>omega
  |succ m=>
   have hi:i<y.Ac.length:=by omega
   rw[Dc.eq_2,ct (dt (by omega)),DW hi,List.drop_eq_getElem_cons hi,List.all_cons];unfold FK;generalize y.Ac[i]=l
   by_cases a:l.An<0
   ·rw[ct (dt a),df (show¬(0≤l.An) by omega)];rfl
   rw[cf (df a),dt (show 0≤l.An by omega)]
   by_cases b:l.Ar<l.An
   ·rw[ct (dt b),df (show¬(l.An≤l.Ar) by omega)];rfl
   rw[cf (df b),dt (show l.An≤l.Ar by omega)]
   by_cases c:y.Ah<l.Ar
   ·rw[ct (dt c),df (show¬(l.Ar≤y.Ah) by omega)];rfl
   rw[cf (df c),dt (show l.Ar≤y.Ah by omega),bd (MJ ..)];cases Fw l.AF 1 5 with
   |false=>rfl
   |true=>
    rw[nt,bd (MJ ..)];cases Fw l.Bi 1 5 with
    |false=>rfl
    |true=>
     rw[nt,bd (MJ ..)];cases Fw l.Bl 0 y.Ah with
     |false=>rfl
     |true=>rw[nt,BG (by omega) (by omega),DQ,ih m (i+1) (by omega) (by omega)];rfl
theorem NR{K:Nat}(hK:2000≤K)(y:Aq):Ee K y=some (check y):=by
 unfold Ee check
 by_cases g:9<y.Ah
 ·rw[ct (dt g),if_pos (.inl g)]
 rw[cf (df g)]
 by_cases i:2<y.Ai
 ·rw[ct (dt i),if_pos (.inr (.inl i))]
 rw[cf (df i)]
 by_cases j:4<(y.Ac.length:Int)
 ·rw[ct (dt j),if_pos (.inr (.inr j))]
 rw[cf (df j),if_neg (by omega)]
 by_cases a:y.Ah<0
 ·rw[ct (dt a),if_pos (.inl a)]
 rw[cf (df a)]
 by_cases b:y.Ai<1
 ·rw[ct (dt b),if_pos (.inr (.inl b))]
 rw[cf (df b),BG (by omega) (by omega),bd (MJ ..)];cases m:Fw y.Ap 0 (y.Ah+1) with
 |false=>rw[nf,if_pos (.inr (.inr (.inl rfl)))]
 |true=>
  rw[nt,BG (by omega) (by omega),bd (MJ ..)];cases n:Fw y.Ax 0 (y.Ah+1) with
  |false=>rw[nf,if_pos (.inr (.inr (.inr (.inl rfl))))]
  |true=>
   have e:=Rl K y (by omega) y.Ac.length K 0 (by omega) (by omega);rw[Int.natCast_zero,List.drop_zero] at e;rw[nt,bd e];cases o:y.Ac.all (FK y) with
   |false=>rw[if_pos (.inr (.inr (.inr (.inr rfl))))];rfl
   |true=>
    have q:=FE.1 m;have r:=FE.1 n;have k:=K8 (y:=y) (by omega) (List.all_eq_true.1 o);rw[if_neg (by simp[a,b])];show(DJ K y).bind _=_;rw[bd (PA y (by omega) (by omega) (by omega) (by omega) (by omega) (by omega) k hK)];have f:=Lq (c:=3000) (by omega) ((CJ y).length:Int) (by omega) fun l p=>(k l p).1;unfold HO
    by_cases d:1000<((CJ y).length:Int)*Fj y.Ac
    ·rw[ct (dt (f.2 d)),if_pos d]
    ·rw[cf (df fun h=>d (f.1 h)),if_neg d]
end Go.Proofs.Ytkljfdkmjdjpfaa
end
section
namespace Go.Proofs.Ytkljfdkmjdjpfaa
theorem Rm{K:Nat}(y:Aq)(a:DZ y)(hK:2000≤K):DJ K y=some (HO y):=by
 have b:=K8 a.h9 a.OJ;rw[PA y a.h0 a.h9 a.u0 a.u1 a.w0 a.n4 b hK];have:=a.many;unfold HO at this⊢;rw[NO (by omega) _ (by omega) (fun l c=>(b l c).1) this]
end Go.Proofs.Ytkljfdkmjdjpfaa
end
section
namespace Go.Proofs.Ytkljfdkmjdjpfaa
theorem OR(n:Nat):(iota n).Nodup:=by
 unfold iota;refine List.Pairwise.map _ (fun a b h=>?_) (List.nodup_range (n:=n));intro e;exact h (by omega)
end Go.Proofs.Ytkljfdkmjdjpfaa
end
section
namespace Go.Proofs.Ytkljfdkmjdjpfaa
def Sq(y:Aq)(s:Av):Int:=cond (s.Bj==-1) (y.Ah+1) (s.Bj+1)
end Go.Proofs.Ytkljfdkmjdjpfaa
end
section
namespace Go.Proofs.Ytkljfdkmjdjpfaa
theorem IA(y:Aq)(w:List Bool)(c:List Int)(j:Nat):∀(l:List Int) (free:Int) (out:List Av),(∀i∈l,0≤i)→(j:Int)∉l→(FX y w c l free out)[j]?=out[j]?
 |[],_,_,_,_=>rfl
 |i::r,free,out,h0,h=>by
  rw[FX,IA y w c j r _ _ (fun x a=>h0 x (List.mem_cons_of_mem _ a)) (fun b=>h (List.mem_cons_of_mem _ b)),List.getElem?_set_ne];intro e;have:=h0 i (List.mem_cons_self ..);exact h (by rw[←e,show((i.toNat:Nat):Int)=i by omega];exact List.mem_cons_self ..)
end Go.Proofs.Ytkljfdkmjdjpfaa
end
section
namespace Go.Proofs.Ytkljfdkmjdjpfaa
def K9 (y:Aq) (w:List Bool) (c:List Int):List Int→Int→Int
 |[],f=>f
 |i::r,f=>K9 y w c r (Sq y (DF y w (EJ y i) (max f (C9 c i))))
theorem MZ(y:Aq)(w:List Bool)(c:List Int):∀(pre:List Int) (i:Int) (post:List Int) (free:Int) (out:List Av),(pre++i::post).Nodup→(∀j∈pre++i::post,0≤j∧j<(out.length:Int))→
  (FX y w c (pre++i::post) free out)[i.toNat]?=some (DF y w (EJ y i) (max (K9 y w c pre free) (C9 c i)))
 |[],i,post,free,out,d,b=>by
  obtain⟨h0,g⟩:=b i (List.mem_append_right _ (List.mem_cons_self ..));have f:i∉post:=(List.nodup_cons.1 d).1;rw[List.nil_append,FX,IA y w c i.toNat post _ _ (fun j e=>(b j (List.mem_append_right _ (List.mem_cons_of_mem _ e))).1) (by rw[Int.toNat_of_nonneg h0];exact f),List.getElem?_set_self (by omega)];rfl
 |a::pre,i,post,free,out,d,b=>by
  rw[List.cons_append,FX];exact MZ y w c pre i post _ (out.set a.toNat _) (List.nodup_cons.1 d).2 fun j e=>by rw[List.length_set];exact b j (List.mem_cons_of_mem _ e)
theorem KA(y:Aq)(w:List Bool)(c:List Int)(j:Nat):∀(o:List (List Int)) (out:List Av),(∀i∈o.flatten,0≤i)→(j:Int)∉o.flatten→(FY y w c o out)[j]?=out[j]?
 |[],out,_,_=>rfl
 |l::o,out,h0,h=>by
  rw[List.flatten_cons] at h0 h;rw[FY,KA y w c j o _ (fun i hi=>h0 i (List.mem_append_right _ hi)) (fun hi=>h (List.mem_append_right _ hi)),IA y w c j l _ _ (fun i hi=>h0 i (List.mem_append_left _ hi)) (fun hi=>h (List.mem_append_left _ hi))]
theorem M0(y:Aq)(w:List Bool)(c:List Int)(i:Int)(pre post:List Int)(e:List (List Int)):∀(o1:List (List Int)) (out:List Av),(o1++(pre++i::post)::e).flatten.Nodup→(∀j∈(o1++(pre++i::post)::e).flatten,0≤j∧j<(out.length:Int))→
  (FY y w c (o1++(pre++i::post)::e) out)[i.toNat]?=some (DF y w (EJ y i) (max (K9 y w c pre 0) (C9 c i)))
 |[],out,a,b=>by
  rw[List.nil_append,List.flatten_cons] at a b;have hm:i∈pre++i::post:=List.mem_append_right _ (List.mem_cons_self ..);have h0:=(b i (List.mem_append_left _ hm)).1;rw[List.nodup_append] at a;rw[List.nil_append,FY,KA y w c i.toNat e _ (fun j d=>(b j (List.mem_append_right _ d)).1) (by rw[Int.toNat_of_nonneg h0];exact fun d=>a.2.2 i hm i d rfl),MZ y w c pre i post 0 out a.1 fun j d=>b j (List.mem_append_left _ d)]
 |l::o1,out,a,b=>by
  rw[List.cons_append,List.flatten_cons] at a b;rw[List.nodup_append] at a;rw[List.cons_append,FY];exact M0 y w c i pre post e o1 _ a.2.1 fun j d=>by rw[G8];exact b j (List.mem_append_right _ d)
theorem OS{y:Aq}{o:List (List Int)}(h:CY y o=true):o.flatten.Nodup:=(Fa.1 h).2.nodup_iff.2 (OR _)
theorem Qy{y:Aq}{o:List (List Int)}(h:CY y o=true){i:Int}:i∈o.flatten↔0≤i∧i<(y.Ac.length:Int):=by rw[(Fa.1 h).2.mem_iff,MM]
theorem Qz{y:Aq}{o:List (List Int)}{o1 b:List (List Int)}{pre post:List Int}{i:Int}(h:CY y o=true)(e:o=o1++(pre++i::post)::b)(t:A6):
  (Cf y o t)[i.toNat]?=some (DF y t.Ap (EJ y i) (max (K9 y t.Ap t.Comes pre 0) (C9 t.Comes i))):=by
 have c:=OS h;have d:∀j∈o.flatten,0≤j∧j<(y.Ac.length:Int):=fun j a=>(Qy h).1 a;subst e;unfold Cf FZ;exact M0 y t.Ap t.Comes i pre post b o1 _ c fun j a=>by rw[List.length_replicate];exact d j a
theorem NS {y:Aq} {o:List (List Int)} (h:CY y o=true) {i:Nat} (hi:i<y.Ac.length) {o1 b:List (List Int)} {pre post:List Int} (e:o=o1++(pre++(i:Int)::post)::b) (t:A6):
  Ip y o t i=DF y t.Ap (CF y i) (max (K9 y t.Ap t.Comes pre 0) (C9 t.Comes i)):=by
 have a:=Qz h e t;rw[Int.toNat_natCast] at a;unfold Ip;rw[List.getD_eq_getElem?_getD,a];show DF y t.Ap (EJ y (i:Int)) _=_;unfold EJ CF;rw[Int.toNat_natCast]
theorem JX{W R W' R':Int}(a:W≤W')(b:R≤R'):∀(l:List Bool) (s r:Int),okW W R l s r=true→okW W' R' l s r=true
 |[],_,_,_=>rfl
 |false::l,s,r,h=>JX a b l s 0 h
 |true::l,s,r,h=>by
  rw[okW,Bool.and_eq_true,Bool.and_eq_true,decide_eq_true_eq,decide_eq_true_eq] at h⊢;exact⟨by omega,by omega,JX a b l _ _ h.2.2⟩
theorem La:∀{ls:List Au} {cs:List Int},DV ls cs=true→∀i,i<ls.length→Fw (cs.getD i 0) (ls.getD i GX).An (ls.getD i GX).Ar=true
 |[],_,_,i,hi=>by cases hi
 |l::ls,[],h,_,_=>by cases h
 |l::ls,c::cs,h,0,_=>by rw[DV,Bool.and_eq_true] at h;exact h.1
 |l::ls,c::cs,h,i+1,hi=>by
  rw[DV,Bool.and_eq_true] at h;exact La h.2 i (by simpa using hi)
theorem Ic{y:Aq}{t:A6}:EK y t=true↔(t.Ap.length:Int)=y.Ah+1∧G7 y t.Ap=true∧DV y.Ac t.Comes=true:=by
 unfold EK;rw[Bool.and_eq_true,Bool.and_eq_true,decide_eq_true_eq]
theorem QA{y:Aq}{i:Nat}(hi:i<y.Ac.length):CF y i∈y.Ac:=by
 unfold CF;rw[List.getD_eq_getElem?_getD,List.getElem?_eq_getElem hi];exact List.getElem_mem hi
theorem NT{y:Aq}(a:DZ y){t:A6}(b:EK y t=true){i:Nat}(hi:i<y.Ac.length):0≤C9 t.Comes i∧C9 t.Comes i≤y.Ah:=by
 have d:=FE.1 (La (Ic.1 b).2.2 i hi);have c:=GZ.1 (a.OJ _ (QA hi));unfold CF at c;unfold C9;rw[Int.toNat_natCast];omega
end Go.Proofs.Ytkljfdkmjdjpfaa
end
section
namespace Go.Proofs.Ytkljfdkmjdjpfaa
structure Alike (y x:Aq):Prop where
 last:x.Ah=y.Ah
 len:x.Ac.length=y.Ac.length
 El:∀i:Nat,(CF x i).AF=(CF y i).AF
 NU:∀i:Nat,(CF x i).Bi=(CF y i).Bi
theorem Jm{l c:Au}(a:c.AF=l.AF)(b:c.Bi=l.Bi)(d0:Int):∀(ws:List Bool) (d El r:Int),GB c d0 ws d El r=GB l d0 ws d El r
 |[],_,_,_=>rfl
 |true::ws,d,El,r=>by rw[GB,GB,a,b,Jm a b d0 ws]
 |false::ws,d,El,r=>by rw[GB,GB,a,b,Jm a b d0 ws]
theorem IB{y x:Aq}(h:x.Ah=y.Ah){l a:Au}(b:a.AF=l.AF)(c:a.Bi=l.Bi)(w:List Bool)(d:Int):DF x w a d=DF y w l d:=by
 unfold DF;rw[h,Jm b c]
theorem Alike.at{y x:Aq}(h:Alike y x)(w:List Bool)(i d:Int):DF x w (EJ x i) d=DF y w (EJ y i) d:=IB h.last (h.El i.toNat) (h.NU i.toNat) w d
theorem KB{y x:Aq}(h:Alike y x)(w:List Bool)(c:List Int):∀(l:List Int) (f:Int) (out:List Av),FX x w c l f out=FX y w c l f out
 |[],_,_=>rfl
 |i::r,f,out=>by
  rw[FX,FX];show FX x w c r (cond ((DF x w (EJ x i) (max f (C9 c i))).Bj==-1) (x.Ah+1) _) _=_;rw[h.at,h.last,KB h w c r]
theorem KC{y x:Aq}(h:Alike y x)(w:List Bool)(c:List Int):∀(o:List (List Int)) (out:List Av),FY x w c o out=FY y w c o out
 |[],_=>rfl
 |l::o,out=>by rw[FY,FY,KB h,KC h w c o]
theorem IC{y x:Aq}(h:Alike y x)(o:List (List Int))(t:A6):Cf x o t=Cf y o t:=by
 unfold Cf FZ;rw[h.len,KC h]
theorem L6{p b:Au→Av→Bool}:∀(ls a:List Au) (ss:List Av),ls.length=a.length→(∀i s,i<ls.length→p (ls.getD i GX) s=true→b (a.getD i GX) s=true)→GJ p ls ss≤GJ b a ss
 |[],[],ss,_,_=>Nat.le_refl _
 |[],_::_,_,h,_=>by cases h
 |_::_,[],_,h,_=>by cases h
 |l::ls,c::a,[],_,_=>by simp[GJ]
 |l::ls,c::a,s::ss,d,h=>by
  have g:=L6 ls a ss (by simpa using d) fun i s hi=>h (i+1) s (by simpa using hi);have e:p l s=true→b c s=true:=h 0 s (by simp);rw[GJ,GJ];cases f:p l s with
  |false=>simp only[cond_false];omega
  |true=>rw[e f];simp only[cond_true];omega
theorem Lb {l b:Au} (h:l.Bl≤b.Bl) {s:Av} (a:EL l s=true):EL b s=true:=by
 unfold EL at a⊢;rw[Bool.and_eq_true,decide_eq_true_eq] at a⊢;exact⟨a.1,by omega⟩
theorem L7{y x:Aq}(a:x.Ac.length=y.Ac.length)(b:∀i:Nat,(CF x i).Bl≤(CF y i).Bl)(ss:List Av):DR y ss≤DR x ss:=by
 unfold DR;refine L6 _ _ ss a.symm fun i s _ h=>?_;unfold Cq at h⊢;cases c:EL (x.Ac.getD i GX) s with
 |false=>rfl
 |true=>
  have:=Lb (b i) c;unfold CF at this;rw[this] at h;cases h
theorem NV{y x:Aq}(a:DZ y)(b:DZ x){o o':List (List Int)}(h:∀t,EK y t=true→EK x t=true∧DR y (Cf y o t)≤DR x (Cf x o' t)):(CN y o).1≤(CN x o').1:=by
 obtain⟨_,c,f⟩:=HQ a o;obtain⟨d,_,_⟩:=HQ b o';obtain⟨e,g⟩:=h _ c;have:=d _ e;omega
theorem Rn{y x:Aq}(a:x.Ac.length=y.Ac.length){o o':List (List Int)}(h:∀i:Nat,i<y.Ac.length→(∀t∈BS x,Gw x o' i t=true)→∀t∈BS y,Gw y o i t=true):Gm x o'≤Gm y o:=by
 unfold Gm;rw[a];refine List.countP_mono_left fun i hi=>?_;rw[List.mem_range] at hi;rw[List.all_eq_true,List.all_eq_true];exact h i hi
theorem Ro{y x:Aq}(a:DZ y)(b:DZ x)(h:∀o,CY x o=true→∃o',CY y o'=true∧(CN y o').1≤(CN x o).1):(Gx y).1≤(Gx x).1:=by
 obtain⟨c,_,_⟩:=Jl a;obtain⟨_,d,f⟩:=Jl b;obtain⟨o',e,hle⟩:=h _ d;have:=c o' e;omega
theorem QB{y x:Aq}(a:DZ y)(b:DZ x)(h:∀o,CY x o=true→∃o',CY y o'=true∧Gm x o≤Gm y o'):(Gy x).1≤(Gy y).1:=by
 obtain⟨c,_,_⟩:=K7 a;obtain⟨_,d,f⟩:=K7 b;obtain⟨o',e,hle⟩:=h _ d;have:=c o' e;omega
theorem Lc{y x:Aq}(a:x.Ai=y.Ai)(b:x.Ac.length=y.Ac.length)(o:List (List Int)):CY x o=CY y o:=by unfold CY;rw[a,b]
theorem Hd {y:Aq} (a:DZ y) {k:Int}:k∈Dl y 0 y.Ac.length↔∃i:Nat,k=i∧i<y.Ac.length∧¬∀t,EK y t=true→EL (CF y i) (DF y t.Ap (CF y i) (C9 t.Comes i))=true:=by
 unfold Dl;rw[List.mem_map];constructor
 ·rintro⟨i,hi,rfl⟩;rw[List.mem_filter,List.mem_range'_1] at hi;refine⟨i,rfl,by omega,fun h=>?_⟩;have e:=hi.2;have:(BS y).all (Gw y (Fy y i) i)=true:=by
   rw[List.all_eq_true];intro t c;have d:=(Fo a.h0).1 c;have b:=h t d;have g:=NT a d (show i<y.Ac.length by omega);unfold Gw;rw[NS (JW a (show i<y.Ac.length by omega)) (show i<y.Ac.length by omega) (o1:=[]) (pre:=[]) (post:=Ge y.Ac.length i 0) rfl];show EL (CF y i) (DF y t.Ap (CF y i) (max 0 (C9 t.Comes i)))=true;rw[show max 0 (C9 t.Comes i)=C9 t.Comes i by omega];exact b
  rw[this] at e;cases e
 ·rintro⟨i,rfl,hi,h⟩;refine⟨i,?_,rfl⟩;rw[List.mem_filter,List.mem_range'_1];refine⟨by omega,?_⟩;cases f:(BS y).all (Gw y (Fy y i) i) with
  |false=>rfl
  |true=>
   exfalso;refine h fun t c=>?_;rw[List.all_eq_true] at f;have b:=f t ((Fo a.h0).2 c);have g:=NT a c hi;unfold Gw at b;rw[NS (JW a hi) hi (o1:=[]) (pre:=[]) (post:=Ge y.Ac.length i 0) rfl] at b;have j:EL (CF y i) (DF y t.Ap (CF y i) (max 0 (C9 t.Comes i)))=true:=b
   rwa[show max 0 (C9 t.Comes i)=C9 t.Comes i by omega] at j
structure He(y x:Aq):Prop extends Alike y x where
 Hw:x.Ai=y.Ai
 due:∀i:Nat,(CF x i).Bl=(CF y i).Bl
 comes:∀i:Nat,(CF x i).An≤(CF y i).An∧(CF y i).Ar≤(CF x i).Ar
 CU:y.Ap≤x.Ap
 run:y.Ax≤x.Ax
theorem Hf:∀{ls a:List Au} {cs:List Int},a.length=ls.length→(∀i:Nat,(a.getD i GX).An≤(ls.getD i GX).An∧(ls.getD i GX).Ar≤(a.getD i GX).Ar)→DV ls cs=true→DV a cs=true
 |[],[],cs,_,_,h=>h
 |[],_::_,_,h,_,_=>by cases h
 |_::_,[],_,h,_,_=>by cases h
 |l::ls,b::a,[],_,_,h=>by cases h
 |l::ls,b::a,c::cs,d,hw,h=>by
  rw[DV,Bool.and_eq_true] at h⊢;have e:=FE.1 h.1;have f:b.An≤l.An∧l.Ar≤b.Ar:=hw 0;exact⟨FE.2 (by omega),Hf (by simpa using d) (fun i=>hw (i+1)) h.2⟩
theorem He.J9{y x:Aq}(h:He y x){t:A6}(a:EK y t=true):EK x t=true:=by
 obtain⟨b,c,d⟩:=Ic.1 a;exact Ic.2 ⟨by rw[h.last];exact b,JX h.CU h.run _ _ _ c,Hf h.len h.comes d⟩
theorem L8{l a:Au}(h:a.Bl=l.Bl)(s:Av):EL a s=EL l s:=by unfold EL;rw[h]
theorem He.sv{y x:Aq}(h:He y x)(o:List (List Int))(i:Nat)(t:A6):Gw x o i t=Gw y o i t:=by
 unfold Gw Ip;rw[IC h.toAlike,L8 (h.due i)]
theorem He.Uh{y x:Aq}(h:He y x)(a:DZ y)(b:DZ x):(Gx y).1≤(Gx x).1:=
 Ro a b fun o c=>⟨o,by rw[←Lc h.Hw h.len];exact c,NV a b fun t d=>⟨h.J9 d,by
  rw[IC h.toAlike];exact L7 h.len (fun i=>by rw[h.due i];exact Int.le_refl _) _⟩⟩
theorem He.sure{y x:Aq}(h:He y x)(a:DZ y)(b:DZ x):(Gy x).1≤(Gy y).1:=
 QB a b fun o c=>⟨o,by rw[←Lc h.Hw h.len];exact c,Rn h.len fun i _ d t e=>by
  rw[←h.sv];exact d t ((Fo b.h0).2 (h.J9 ((Fo a.h0).1 e)))⟩
theorem He.TZ{y x:Aq}(h:He y x)(a:DZ y)(b:DZ x){k:Int}(c:k∈Dl y 0 y.Ac.length):k∈Dl x 0 x.Ac.length:=by
 obtain⟨i,rfl,hi,d⟩:=(Hd a).1 c;refine(Hd b).2 ⟨i,rfl,by rw[h.len];exact hi,fun e=>d fun t f=>?_⟩;have:=e t (h.J9 f);rw[IB h.last (h.El i) (h.NU i),L8 (h.due i)] at this;exact this
structure Ka(y z:Aq):Prop extends Alike y z where
 Hw:z.Ai=y.Ai
 due:∀i:Nat,(CF y i).Bl≤(CF z i).Bl
 comes:∀i:Nat,(CF z i).An=(CF y i).An∧(CF y i).Ar=(CF z i).Ar
 CU:y.Ap=z.Ap
 run:y.Ax=z.Ax
theorem Ka.J9{y z:Aq}(h:Ka y z){t:A6}:EK z t=true↔EK y t=true:=by
 rw[Ic,Ic,h.last];unfold G7;rw[h.CU,h.run];refine and_congr_right fun _=>and_congr_right fun _=>⟨fun a=>Hf h.len.symm (fun i=>?_) a,fun a=>Hf h.len (fun i=>?_) a⟩
 ·have:=h.comes i;unfold CF at this;omega
 ·have:=h.comes i;unfold CF at this;omega
theorem Ka.UL{y z:Aq}(h:Ka y z)(a:DZ y)(b:DZ z)(o:List (List Int)):(CN z o).1≤(CN y o).1:=
 NV b a fun t c=>⟨h.J9.1 c,by rw[IC h.toAlike];exact L7 h.len.symm h.due _⟩
theorem Ka.TZ{y z:Aq}(h:Ka y z)(a:DZ y)(b:DZ z){k:Int}(c:k∈Dl z 0 z.Ac.length):k∈Dl y 0 y.Ac.length:=by
 obtain⟨i,rfl,hi,d⟩:=(Hd b).1 c;refine(Hd a).2 ⟨i,rfl,by rw[←h.len];exact hi,fun e=>d fun t f=>?_⟩;have:=e t (h.J9.1 f);rw[IB h.last (h.El i) (h.NU i)];exact Lb (h.due i) this
end Go.Proofs.Ytkljfdkmjdjpfaa
end
section
namespace Go.Proofs.Ytkljfdkmjdjpfaa
theorem PB{x:Int}(h0:-9223372036854775808≤x)(a:x≤9223372036854775807):Jr .i64 x=some ():=by
 unfold Jr;have:IntKind.i64.wrap x=x:=Hk ⟨by omega,by omega⟩;rw[if_pos this]
theorem Rp(K:Nat)(y:Aq)(h:y.Ac.length≤6):∀(k m i:Nat) (a:List Au),y.Ac.length=i+k→k<m→a=y.Ac.take i→
  DB K y m (i:Int) a=some y.Ac:=by
 intro k
 induction k with
 |zero=>
  intro m i a hi hm b;cases m with
  |zero=>omega
  |succ m=>rw[DB.eq_2,cf (df (by omega)),b,List.take_of_length_le (by omega)]
 |succ k ih=>
  intro m i a hi hm b;cases m with
  |zero=>omega
  |succ m=>
   have c:i<y.Ac.length:=by omega
   have d:a.length≤6:=by rw[b,List.length_take];omega
   rw[DB.eq_2,ct (dt (by omega)),DW c,bd (show Gk K (⟨y.Ac[i].An,y.Ac[i].Ar⟩:CL)=some (⟨y.Ac[i].An,y.Ac[i].Ar⟩:CL) from rfl),GA (by simp only[List.length_cons,List.length_nil];omega),BG (by omega) (by omega),DQ];refine ih m (i+1) _ (by omega) (by omega) ?_;rw[b,List.take_add_one,List.getElem?_eq_getElem c];rfl
theorem NW{K:Nat}(hK:2000≤K)(y:Aq)(h:y.Ac.length≤6):Bf K y=some y:=by
 unfold Bf;have:=Rp K y h y.Ac.length K 0 [] (by omega) (by omega) (by simp);rw[Int.natCast_zero] at this;rw[bd this]
theorem Rq(a:List Int)(h:a.length≤1000):∀(k m i:Nat),a.length=i+k→k<m→DA a a m (i:Int)=some (.inr ()):=by
 intro k
 induction k with
 |zero=>
  intro m i hi hm;cases m with
  |zero=>omega
  |succ m=>rw[DA.eq_2,cf (df (by omega))]
 |succ k ih=>
  intro m i hi hm;cases m with
  |zero=>omega
  |succ m=>
   have b:i<a.length:=by omega
   rw[DA.eq_2,ct (dt (by omega)),DW b,DW b,cf (by simp),BG (by omega) (by omega),DQ];exact ih m (i+1) (by omega) (by omega)
theorem Rr{K:Nat}(hK:2000≤K)(a:List Int)(h:a.length≤1000):E8 K a a=some true:=by
 unfold E8;have:=Rq a h a.length K 0 (by omega) (by omega);rw[Int.natCast_zero] at this;rw[cf (by simp),bd this];rfl
theorem PC(a b:List Int)(j:Nat)(g:j<a.length)(h:b.length≤1000):∀(k m i:Nat) (f:Bool),b.length=i+k→k<m→(f=true∨a[j]∈b.drop i)→CR a b (j:Int) m f (i:Int)=some true:=by
 intro k
 induction k with
 |zero=>
  intro m i f hi hm c;cases m with
  |zero=>omega
  |succ m=>
   rw[CR.eq_2,cf (df (by omega))];rcases c with rfl|c
   ·rfl
   ·rw[List.drop_eq_nil_of_le (by omega)] at c;cases c
 |succ k ih=>
  intro m i f hi hm c;cases m with
  |zero=>omega
  |succ m=>
   have d:i<b.length:=by omega
   rw[CR.eq_2,ct (dt (by omega))];cases f with
   |true=>
    rw[ct rfl,BG (by omega) (by omega),DQ];exact ih m (i+1) true (by omega) (by omega) (.inl rfl)
   |false=>
    rw[cf rfl,DW g,DW d,BG (by omega) (by omega),DQ];refine ih m (i+1) _ (by omega) (by omega) ?_;rcases c with c|c
    ·cases c
    ·rw[List.drop_eq_getElem_cons d] at c;rcases List.mem_cons.1 c with e|c
     ·exact .inl (beq_iff_eq.2 e)
     ·exact .inr c
theorem PD{K:Nat}(hK:2000≤K)(a b:List Int)(h:b.length≤1000)(f:a.length≤1000)(d:∀x∈a,x∈b):∀(k m i:Nat),a.length=i+k→k<m→Dd K a b m (i:Int)=some (.inr ()):=by
 intro k
 induction k with
 |zero=>
  intro m i hi hm;cases m with
  |zero=>omega
  |succ m=>rw[Dd.eq_2,cf (df (by omega))]
 |succ k ih=>
  intro m i hi hm;cases m with
  |zero=>omega
  |succ m=>
   have c:i<a.length:=by omega
   have e:=PC a b i c h b.length K 0 false (by omega) (by omega) (.inr (by rw[List.drop_zero];exact d _ (List.getElem_mem c)));rw[Int.natCast_zero] at e;rw[Dd.eq_2,ct (dt (by omega)),bd e,nt,BG (by omega) (by omega),DQ];exact ih m (i+1) (by omega) (by omega)
theorem PE{K:Nat}(hK:2000≤K)(a b:List Int)(h:b.length≤1000)(c:a.length≤1000)(d:∀x∈a,x∈b):Dk K a b=some true:=by
 unfold Dk;have:=PD hK a b h c d a.length K 0 (by omega) (by omega);rw[Int.natCast_zero] at this;rw[bd this];rfl
theorem QC{K:Nat}(hK:2000≤K)(y:Aq):EU K y=some (check y):=by
 unfold EU;rw[bd (NR hK y)]
def Ld (y:Aq):Bool:=cond (decide ((y.Ac.length:Int)≤6)) (cond (check y !=0) true (decide (HO y≤60))) false
theorem Rs{K:Nat}(hK:2000≤K)(y:Aq):E9 K y=some (Ld y):=by
 unfold E9 Ld;cases b:decide ((y.Ac.length:Int)≤6) with
 |false=>rfl
 |true=>
  rw[ct rfl,ct rfl,bd (NR hK y)];cases a:(check y !=0) with
  |true=>rfl
  |false=>
   have h0:check y=0:=by simpa[bne] using a
   rw[cf rfl,cf rfl,bd (Rm y (Fx h0) hK)]
def IK(y:Aq):Bool:=cond (Ld y) (check y==0) false
theorem M3{K:Nat}(hK:2000≤K)(y:Aq):C7 K y=some (IK y):=by
 unfold C7 IK;rw[bd (Rs hK y)];cases Ld y with
 |false=>rfl
 |true=>rw[ct rfl,ct rfl,bd (QC hK y)]
theorem M4{y:Aq}(h:IK y=true):check y=0∧y.Ac.length≤4:=by
 unfold IK at h;cases a:Ld y with
 |false=>rw[a] at h;cases h
 |true=>
  rw[a] at h;have h0:check y=0:=by simpa using h
  exact⟨h0,(Fx h0).n4⟩
end Go.Proofs.Ytkljfdkmjdjpfaa
end
section
namespace Go.Proofs.Ytkljfdkmjdjpfaa
section
variable{K:Nat}(hK:2000≤K){y:Aq}(h:check y=0)
theorem JY{o:List (List Int)}(h:check y=0)(a:CY y o=true):o.length≤1000∧(∀l∈o,l.length≤1000)∧o.flatten.length≤1000:=JV (Fx h) a
include hK h
theorem Sr{o:List (List Int)}(a:CY y o=true){t:A6}(b:EK y t=true):FP K y o t=some (Cf y o t,0):=by
 obtain⟨c,_,d⟩:=JY h a;rw[Ps y o t hK c d,if_neg (by simp[h]),if_neg (by simp[a,b])]
theorem NX{o:List (List Int)}(a:CY y o=true){i:Nat}(hi:i<y.Ac.length):EI K y o (i:Int)=some (verdict y o i,0):=by
 obtain⟨b,_,c⟩:=JY h a;have d:Fw (i:Int) 0 ((y.Ac.length:Int)-1)=true:=FE.2 (by omega);rw[Ri y o i hK b c,if_neg (by simp[h]),if_neg (by simp[a,d]),Int.toNat_natCast]
theorem Ss{o:List (List Int)}(a:CY y o=true):FQ K y o=some ((CN y o).1,(CN y o).2,0):=by
 obtain⟨b,_,c⟩:=JY h a;rw[Pu y o hK b c,if_neg (by simp[h]),if_neg (by simp[a])]
theorem M5:DD K y=some ((Gx y).2,(Gx y).1,0):=by rw[Sk y hK,if_neg (by simp[h])]
theorem M6:DE K y=some ((Gy y).2.2,(Gy y).1,0):=by rw[Sm y hK,if_neg (by simp[h])]
theorem Jn:CE K y=some (Dl y 0 y.Ac.length,0):=by rw[OM y hK,if_neg (by simp[h])]
theorem M7{o:List (List Int)}(a:CY y o=true)(n:Int):EN K y o n=some (decide ((CN y o).1≤n)):=by
 obtain⟨b,_,c⟩:=JY h a;rw[MO y o n hK b c,dt h,a];rfl
theorem Nz{o:List (List Int)}(a:CY y o=true){t:A6}(b:EK y t=true)(n:Int):E3 K y o t n=some (decide (n≤(DR y (Cf y o t):Int))):=by
 obtain⟨c,_,d⟩:=JY h a;rw[Nx y o t n hK c d,dt h,a,b];rfl
end
def y1:Aq:=⟨5,1,1,1,[⟨0,0,2,2,2⟩,⟨1,1,2,1,5⟩]⟩
def t3:A6:=⟨[0,1],[false,false,false,true,false,false]⟩
theorem Hy:check y1=0:=by decide+kernel
theorem QU:CY y1 [[0,1]]=true:=Fa.2 ⟨rfl,by decide⟩
theorem OT:CY y1 [[1,0]]=true:=Fa.2 ⟨rfl,by decide⟩
theorem TI:EK y1 t3=true:=by decide+kernel
theorem TJ:Cf y1 [[0,1]] t3=[⟨0,1,true⟩,⟨2,3,false⟩]:=by
 have h:∀(a b:List Av),a.map (fun s=>(s.On,s.Bj,s.AF))=b.map (fun s=>(s.On,s.Bj,s.AF))→a=b:=by
  intro a
  induction a with
  |nil=>intro b h;cases b with|nil=>rfl|cons x l=>cases h
  |cons x l ih=>
   intro b h;cases b with
   |nil=>cases h
   |cons x2 d=>
    have c:=List.cons.inj h;obtain⟨a1,a2,a3⟩:=x;obtain⟨e,f,g⟩:=x2;have i:a1=e∧a2=f∧a3=g:=by simpa using c.1
    obtain⟨rfl,rfl,rfl⟩:=i;rw[ih d c.2]
 exact h _ _ (by decide+kernel)
theorem Le{K:Nat}(hK:2000≤K):Cg K=some true:=by
 unfold Cg;have a:Cw K 1=some y1:=rfl;have c:FV K 3=some t3:=rfl;have d:EI K y1 [[0,1]] 1=some (verdict y1 [[0,1]] 1,0):=NX hK Hy QU (i:=1) (by decide);have e:EI K y1 [[1,0]] 0=some (verdict y1 [[1,0]] 0,0):=NX hK Hy OT (i:=0) (by decide);have b:=Fx Hy;obtain⟨_,f,j⟩:=HQ b [[1,0]];obtain⟨_,g,k⟩:=Jl b;have v1:verdict y1 [[0,1]] 1=3:=by decide+kernel
 have v2:verdict y1 [[1,0]] 0=2:=by decide+kernel
 have v3:(CN y1 [[1,0]]).1=2:=by decide+kernel
 have v4:(Gx y1).1=1:=by decide+kernel
 have v5:(Gy y1).1=1:=by decide+kernel
 have v6:Dl y1 0 y1.Ac.length=[1]:=by decide+kernel
 rw[bd a,bd c,bd (Sr hK Hy QU TI),bd a,bd d,bd a,bd e,bd a,bd (Ss hK Hy OT),bd a,bd (M5 hK Hy),bd a,bd (M6 hK Hy),bd a,bd (Jn hK Hy),TJ];rw[ct (by rfl)];have s1:Ew K 0 1 true=some ⟨0,1,true⟩:=rfl;have s2:Ew K 2 3 false=some ⟨2,3,false⟩:=rfl;have h:FW K [⟨0,1,true⟩,⟨2,3,false⟩] ⟨0,1,true⟩ ⟨2,3,false⟩=some true:=rfl;rw[bd s1,bd s2,bd h,ct (by rfl),ct (by rfl),v1,ct (by rfl),ct (by rfl),v2,ct (by rfl),ct (by rfl),v3,ct (by rfl),bd a,bd (Nz hK Hy OT f 2),ct (dt (by omega)),ct (by rfl),v4,ct (by rfl),bd a,bd (M7 hK Hy g 1),ct (dt (by omega)),ct (by rfl),v5,ct (by rfl),ct (by rfl),v6,bd (Rr hK [1] (by decide))]
end Go.Proofs.Ytkljfdkmjdjpfaa
end
section
namespace Go.Proofs.Ytkljfdkmjdjpfaa
namespace HF
theorem mixed:Try.prog.follows .mixedOrders=true:=by kernel_rfl
theorem Kb(b:Nat)(w:World):(Instr.fieldAt 51 (.pointer (some ⟨b,0,none⟩)) 1).run Try.prog w=.ok (.pointer (some ⟨b,1,none⟩)) w:=by kernel_rfl
theorem AY:One Try.prog 3:=by unfold One;exact⟨by kernel_rfl,by kernel_rfl⟩
theorem Kd(b:Nat)(w:World):(Instr.fieldAt 51 (.pointer (some ⟨b,0,none⟩)) 0).run Try.prog w=.ok (.pointer (some ⟨b,0,none⟩)) w:=by kernel_rfl
theorem IL:Bh Try.prog 36:=by unfold Bh;kernel_rfl
theorem Ke(b:Nat)(w:World):(Instr.fieldAt 61 (.pointer (some ⟨b,0,none⟩)) 1).run Try.prog w=.ok (.pointer (some ⟨b,1,none⟩)) w:=by kernel_rfl
theorem Kf(b:Nat)(w:World):(Instr.fieldAt 61 (.pointer (some ⟨b,0,none⟩)) 0).run Try.prog w=.ok (.pointer (some ⟨b,0,none⟩)) w:=by kernel_rfl
theorem Su:(Try.prog.underlying 3).isSome=true:=by kernel_rfl
theorem Hn:(Try.prog.info? 44).bind (·.zero)=some (.agg #[I 0,I 0,.bool false]):=by kernel_rfl
theorem E5:(Try.prog.info? 44).map (·.size)=some 3:=by kernel_rfl
theorem Em:DI Try.prog 44 3:=by unfold DI;exact⟨by kernel_rfl,by kernel_rfl⟩
theorem CV(b:Nat)(w:World):(Instr.fieldAt 28 (.pointer (some ⟨b,0,none⟩)) 4).run Try.prog w=.ok (.pointer (some ⟨b,4,none⟩)) w:=by kernel_rfl
theorem Dm:One Try.prog 26:=by unfold One;exact⟨by kernel_rfl,by kernel_rfl⟩
theorem Rt(b:Nat)(w:World):(Instr.fieldAt 44 (.pointer (some ⟨b,0,none⟩)) 2).run Try.prog w=.ok (.pointer (some ⟨b,2,none⟩)) w:=by kernel_rfl
theorem Kg:One Try.prog 4:=by unfold One;exact⟨by kernel_rfl,by kernel_rfl⟩
theorem LA(b:Nat)(w:World):(Instr.fieldAt 44 (.pointer (some ⟨b,0,none⟩)) 1).run Try.prog w=.ok (.pointer (some ⟨b,1,none⟩)) w:=by kernel_rfl
theorem NY(b:Nat)(w:World):(Instr.fieldAt 53 (.pointer (some ⟨b,0,none⟩)) 3).run Try.prog w=.ok (.pointer (some ⟨b,4,none⟩)) w:=by kernel_rfl
theorem HD:DI Try.prog 53 5:=by unfold DI;exact⟨by kernel_rfl,by kernel_rfl⟩
theorem M8:Bh Try.prog 26:=by unfold Bh;kernel_rfl
theorem Fe(b:Nat)(w:World):(Instr.fieldAt 58 (.pointer (some ⟨b,0,none⟩)) 0).run Try.prog w=.ok (.pointer (some ⟨b,0,none⟩)) w:=by kernel_rfl
theorem LB:Bh Try.prog 102:=by unfold Bh;kernel_rfl
theorem HV(b:Nat)(w:World):(Instr.fieldAt 58 (.pointer (some ⟨b,0,none⟩)) 3).run Try.prog w=.ok (.pointer (some ⟨b,3,none⟩)) w:=by kernel_rfl
theorem IM(b:Nat)(w:World):(Instr.fieldAt 58 (.pointer (some ⟨b,0,none⟩)) 2).run Try.prog w=.ok (.pointer (some ⟨b,2,none⟩)) w:=by kernel_rfl
theorem C5:DI Try.prog 58 5:=by unfold DI;exact⟨by kernel_rfl,by kernel_rfl⟩
theorem Sv:Bh Try.prog 93:=by unfold Bh;kernel_rfl
theorem IN:(Try.prog.info? 3).map (fun i=>(i.zero,i.size,i.bytes))=some (some (I 0),1,8):=by kernel_rfl
theorem Sw:Bh Try.prog 75:=by unfold Bh;kernel_rfl
theorem FG(b:Nat)(w:World):(Instr.fieldAt 58 (.pointer (some ⟨b,0,none⟩)) 4).run Try.prog w=.ok (.pointer (some ⟨b,4,none⟩)) w:=by kernel_rfl
theorem GC:One Try.prog 56:=by unfold One;exact⟨by kernel_rfl,by kernel_rfl⟩
theorem Kh:(Try.prog.info? 63).map (·.size)=some 5:=by kernel_rfl
theorem NZ(b o:Nat)(w:World):(Instr.fieldAt 63 (.pointer (some ⟨b,o,none⟩)) 0).run Try.prog w=.ok (.pointer (some ⟨b,o,none⟩)) w:=by kernel_rfl
theorem PF:DI Try.prog 61 2:=by unfold DI;exact⟨by kernel_rfl,by kernel_rfl⟩
theorem Sx:Bh Try.prog 76:=by unfold Bh;kernel_rfl
theorem LC(b:Nat)(w:World):(Instr.fieldAt 58 (.pointer (some ⟨b,0,none⟩)) 1).run Try.prog w=.ok (.pointer (some ⟨b,1,none⟩)) w:=by kernel_rfl
theorem JZ:Bh Try.prog 74:=by unfold Bh;kernel_rfl
theorem PG:DI Try.prog 63 5:=by unfold DI;exact⟨by kernel_rfl,by kernel_rfl⟩
theorem N0:(Try.prog.info? 63).bind (·.zero)=some (.agg #[I 0,I 0,I 0,I 0,I 0]):=by kernel_rfl
theorem IP(b:Nat)(w:World):(Instr.fieldAt 63 (.pointer (some ⟨b,0,none⟩)) 0).run Try.prog w=.ok (.pointer (some ⟨b,0,none⟩)) w:=by kernel_rfl
theorem N1(b:Nat)(w:World):(Instr.fieldAt 63 (.pointer (some ⟨b,0,none⟩)) 1).run Try.prog w=.ok (.pointer (some ⟨b,2,none⟩)) w:=by kernel_rfl
theorem N2(b:Nat)(w:World):(Instr.fieldAt 63 (.pointer (some ⟨b,0,none⟩)) 2).run Try.prog w=.ok (.pointer (some ⟨b,3,none⟩)) w:=by kernel_rfl
theorem N3(b:Nat)(w:World):(Instr.fieldAt 63 (.pointer (some ⟨b,0,none⟩)) 3).run Try.prog w=.ok (.pointer (some ⟨b,4,none⟩)) w:=by kernel_rfl
theorem PH:Bh Try.prog 63:=by unfold Bh;kernel_rfl
theorem Ki(b:Nat)(w:World):(Instr.fieldAt 53 (.pointer (some ⟨b,0,none⟩)) 0).run Try.prog w=.ok (.pointer (some ⟨b,0,none⟩)) w:=by kernel_rfl
theorem Lf:DI Try.prog 51 2:=by unfold DI;exact⟨by kernel_rfl,by kernel_rfl⟩
theorem G0(b:Nat)(w:World):(Instr.fieldAt 28 (.pointer (some ⟨b,0,none⟩)) 0).run Try.prog w=.ok (.pointer (some ⟨b,0,none⟩)) w:=by kernel_rfl
theorem Sy:Bh Try.prog 56:=by unfold Bh;kernel_rfl
theorem Ho(b:Nat)(w:World):(Instr.fieldAt 53 (.pointer (some ⟨b,0,none⟩)) 1).run Try.prog w=.ok (.pointer (some ⟨b,2,none⟩)) w:=by kernel_rfl
theorem PI:Bh Try.prog 57:=by unfold Bh;kernel_rfl
theorem LD(b:Nat)(w:World):(Instr.fieldAt 53 (.pointer (some ⟨b,0,none⟩)) 2).run Try.prog w=.ok (.pointer (some ⟨b,3,none⟩)) w:=by kernel_rfl
theorem Dh:(Try.prog.info? 3).map (·.size)=some 1:=by kernel_rfl
theorem LF:(Try.prog.info? 28).bind (·.zero)=some (.agg #[I 0,I 0,I 0,I 0,.slice none 0 0]):=by kernel_rfl
theorem OU:(Try.prog.info? 28).map (·.size)=some 5:=by kernel_rfl
theorem CG:DI Try.prog 28 5:=by unfold DI;exact⟨by kernel_rfl,by kernel_rfl⟩
theorem GG:(Try.prog.info? 34).bind (·.zero)=some (.agg #[.slice none 0 0,.slice none 0 0]):=by kernel_rfl
theorem M9:(Try.prog.info? 4).map (fun i=>(i.zero,i.size,i.bytes))=some (some (.bool false),1,1):=by kernel_rfl
theorem GH:(Try.prog.info? 34).map (·.size)=some 2:=by kernel_rfl
theorem G1(b:Nat)(w:World):(Instr.fieldAt 34 (.pointer (some ⟨b,0,none⟩)) 1).run Try.prog w=.ok (.pointer (some ⟨b,1,none⟩)) w:=by kernel_rfl
theorem GD:One Try.prog 32:=by unfold One;exact⟨by kernel_rfl,by kernel_rfl⟩
theorem J0:(Try.prog.info? 4).map (·.size)=some 1:=by kernel_rfl
theorem FM:DI Try.prog 34 2:=by unfold DI;exact⟨by kernel_rfl,by kernel_rfl⟩
theorem Na:Try.prog.eqGuardType Try.prog.depth 44=false:=by kernel_rfl
theorem LG:Qk Try.prog 44 [true,true,false]:=Nw Try.underlying44 (by kernel_rfl) (by kernel_rfl) AY Try.underlying3 Kg Try.underlying4
theorem Ru:(Try.prog.info? 51).bind (·.zero)=some (.agg #[I 0,I 0]):=by kernel_rfl
theorem TK:(Try.prog.info? 51).map (·.size)=some 2:=by kernel_rfl
theorem Sz:Bh Try.prog 44:=by unfold Bh;kernel_rfl
theorem Rv:(Try.prog.info? 53).map (fun i=>(i.zero,i.size,i.bytes))=some (some (.agg #[I 0,I 0,I 0,I 0,I 0]),5,40):=by kernel_rfl
theorem TL:(Try.prog.info? 26).map (·.size)=some 1:=by kernel_rfl
theorem PJ:Bh Try.prog 62:=by unfold Bh;kernel_rfl
theorem SA:One Try.prog 88:=by unfold One;exact⟨by kernel_rfl,by kernel_rfl⟩
theorem Hg:(Try.prog.info? 53).map (·.size)=some 5:=by kernel_rfl
theorem SB:Bh Try.prog 73:=by unfold Bh;kernel_rfl
theorem SC:Bh Try.prog 59:=by unfold Bh;kernel_rfl
theorem SD:Bh Try.prog 58:=by unfold Bh;kernel_rfl
theorem Rw:One Try.prog 114:=by unfold One;exact⟨by kernel_rfl,by kernel_rfl⟩
theorem Rx:Bh Try.prog 100:=by unfold Bh;kernel_rfl
theorem SE:Bh Try.prog 89:=by unfold Bh;kernel_rfl
theorem SF:Bh Try.prog 88:=by unfold Bh;kernel_rfl
theorem N4(b:Nat)(w:World):(Instr.fieldAt 28 (.pointer (some ⟨b,0,none⟩)) 2).run Try.prog w=.ok (.pointer (some ⟨b,2,none⟩)) w:=by kernel_rfl
theorem N5(b:Nat)(w:World):(Instr.fieldAt 28 (.pointer (some ⟨b,0,none⟩)) 3).run Try.prog w=.ok (.pointer (some ⟨b,3,none⟩)) w:=by kernel_rfl
theorem Ie:(Try.prog.info? 3).bind (·.zero)=some (I 0):=by kernel_rfl
theorem SG:Bh Try.prog 67:=by unfold Bh;kernel_rfl
theorem SH:Bh Try.prog 66:=by unfold Bh;kernel_rfl
theorem SI:Bh Try.prog 61:=by unfold Bh;kernel_rfl
theorem PK:Bh Try.prog 46:=by unfold Bh;kernel_rfl
theorem IQ(b:Nat)(w:World):(Instr.fieldAt 28 (.pointer (some ⟨b,0,none⟩)) 1).run Try.prog w=.ok (.pointer (some ⟨b,1,none⟩)) w:=by kernel_rfl
theorem SJ:Bh Try.prog 35:=by unfold Bh;kernel_rfl
theorem SK:Bh Try.prog 37:=by unfold Bh;kernel_rfl
theorem PL:Bh Try.prog 38:=by unfold Bh;kernel_rfl
theorem PN:Bh Try.prog 60:=by unfold Bh;kernel_rfl
theorem LH:(Try.prog.info? 53).bind (·.zero)=some (.agg #[I 0,I 0,I 0,I 0,I 0]):=by kernel_rfl
theorem PO:Bh Try.prog 40:=by unfold Bh;kernel_rfl
theorem SL:Bh Try.prog 39:=by unfold Bh;kernel_rfl
theorem Fz:One Try.prog 30:=by unfold One;exact⟨by kernel_rfl,by kernel_rfl⟩
theorem SM:One Try.prog 68:=by unfold One;exact⟨by kernel_rfl,by kernel_rfl⟩
theorem N6(b o:Nat)(w:World):(Instr.fieldAt 53 (.pointer (some ⟨b,o,none⟩)) 0).run Try.prog w=.ok (.pointer (some ⟨b,o,none⟩)) w:=by kernel_rfl
theorem Ry(b o:Nat)(w:World):(Instr.fieldAt 51 (.pointer (some ⟨b,o,none⟩)) 0).run Try.prog w=.ok (.pointer (some ⟨b,o,none⟩)) w:=by kernel_rfl
theorem Lg:One Try.prog 74:=by unfold One;exact⟨by kernel_rfl,by kernel_rfl⟩
theorem PQ:Bh Try.prog 91:=by unfold Bh;kernel_rfl
theorem RA:(Try.prog.info? 30).bind (·.zero)=some (.slice none 0 0):=by kernel_rfl
theorem F1:(Try.prog.info? 30).map (·.size)=some 1:=by kernel_rfl
theorem RB:(Try.prog.info? 32).bind (·.zero)=some (.slice none 0 0):=by kernel_rfl
theorem TM:(Try.prog.info? 32).map (·.size)=some 1:=by kernel_rfl
theorem N7:(Try.prog.info? 74).bind (·.zero)=some (.nilFunc):=by kernel_rfl
theorem QV:(Try.prog.info? 74).map (·.size)=some 1:=by kernel_rfl
theorem RC(w:World):(Op.equal 30 (.slice none 0 0) (.slice none 0 0)).run Try.prog w=.ok true w:=by kernel_rfl
theorem RD(ad:Addr)(n c:Nat)(w:World):(Op.equal 30 (.slice (some ad) n c) (.slice none 0 0)).run Try.prog w=.ok false w:=by kernel_rfl
theorem Nb:Bh Try.prog 52:=by unfold Bh;kernel_rfl
theorem RE(w:World):(Op.equal 32 (.slice none 0 0) (.slice none 0 0)).run Try.prog w=.ok true w:=by kernel_rfl
theorem RF(ad:Addr)(n c:Nat)(w:World):(Op.equal 32 (.slice (some ad) n c) (.slice none 0 0)).run Try.prog w=.ok false w:=by kernel_rfl
theorem Nc:Bh Try.prog 54:=by unfold Bh;kernel_rfl
theorem LI:(Try.prog.info? 30).map (fun i=>(i.zero,i.size,i.bytes))=some (some (.slice none 0 0),1,24):=by kernel_rfl
theorem RG(w:World):(Op.equal 31 (.slice none 0 0) (.slice none 0 0)).run Try.prog w=.ok true w:=by kernel_rfl
theorem RH(ad:Addr)(n c:Nat)(w:World):(Op.equal 31 (.slice (some ad) n c) (.slice none 0 0)).run Try.prog w=.ok false w:=by kernel_rfl
theorem SN:Bh Try.prog 55:=by unfold Bh;kernel_rfl
theorem TN:∀(b c:Bool) (w:World),(Op.equal 4 (.bool b) (.bool c)).run Try.prog w=.ok (b==c) w:=by intro b c w;cases b<;>cases c<;>kernel_rfl
theorem Hq(b:Nat)(w:World):(Instr.fieldAt 34 (.pointer (some ⟨b,0,none⟩)) 0).run Try.prog w=.ok (.pointer (some ⟨b,0,none⟩)) w:=by kernel_rfl
theorem N8:Kr Try.prog 102 2:=Ov 2 Try.underlying102 (by kernel_rfl) rfl rfl AY Try.underlying3
theorem Nd:Ms Try.prog 102 2:=Nr 2 Try.underlying102 rfl rfl AY Try.underlying3
theorem L9:I7 Try.prog 102:=by unfold I7;kernel_rfl
theorem TO:(Try.prog.info? 44).bind (·.zero)=some (.agg #[I 0,I 0,.bool false]):=by kernel_rfl
theorem GY(b:Nat)(w:World):(Instr.fieldAt 102 (.pointer (some ⟨b,0,none⟩)) 1).run Try.prog w=.ok (.pointer (some ⟨b,1,none⟩)) w:=by kernel_rfl
theorem IS(b o:Nat)(w:World):(Instr.fieldAt 72 (.pointer (some ⟨b,o,none⟩)) 0).run Try.prog w=.ok (.pointer (some ⟨b,o,none⟩)) w:=by kernel_rfl
theorem LJ(b o:Nat)(w:World):(Instr.fieldAt 28 (.pointer (some ⟨b,o,none⟩)) 0).run Try.prog w=.ok (.pointer (some ⟨b,o,none⟩)) w:=by kernel_rfl
theorem N9(b o:Nat)(w:World):(Instr.fieldAt 28 (.pointer (some ⟨b,o,none⟩)) 4).run Try.prog w=.ok (.pointer (some ⟨b,o+4,none⟩)) w:=by kernel_rfl
theorem QD(b:Nat)(w:World):(Instr.fieldAt 102 (.pointer (some ⟨b,0,none⟩)) 0).run Try.prog w=.ok (.pointer (some ⟨b,0,none⟩)) w:=by kernel_rfl
theorem Oa(b o:Nat)(w:World):(Instr.fieldAt 72 (.pointer (some ⟨b,o,none⟩)) 1).run Try.prog w=.ok (.pointer (some ⟨b,o+5,none⟩)) w:=by kernel_rfl
theorem Ob(b o:Nat)(w:World):(Instr.fieldAt 72 (.pointer (some ⟨b,o,none⟩)) 2).run Try.prog w=.ok (.pointer (some ⟨b,o+6,none⟩)) w:=by kernel_rfl
theorem PR:One Try.prog 70:=by unfold One;exact⟨by kernel_rfl,by kernel_rfl⟩
theorem LK:DI Try.prog 102 2:=by unfold DI;exact⟨by kernel_rfl,by kernel_rfl⟩
theorem SO:Bh Try.prog 68:=by unfold Bh;kernel_rfl
theorem RI:(Try.prog.info? 44).map (fun i=>(i.zero,i.size,i.bytes))=some (some (.agg #[I 0,I 0,.bool false]),3,24):=by kernel_rfl
theorem SP:Bh Try.prog 47:=by unfold Bh;kernel_rfl
theorem SQ:Bh Try.prog 45:=by unfold Bh;kernel_rfl
theorem IT:Bh Try.prog 17:=by unfold Bh;kernel_rfl
theorem Nf:Bh Try.prog 22:=by unfold Bh;kernel_rfl
theorem SR:Bh Try.prog 23:=by unfold Bh;kernel_rfl
theorem Lh:Bh Try.prog 24:=by unfold Bh;kernel_rfl
theorem Oc:(Try.prog.info? 81).bind (·.zero)=some (.agg #[.nilFunc]):=by kernel_rfl
theorem QW:(Try.prog.info? 81).map (·.size)=some 1:=by kernel_rfl
theorem Od(b:Nat)(w:World):(Instr.fieldAt 81 (.pointer (some ⟨b,0,none⟩)) 0).run Try.prog w=.ok (.pointer (some ⟨b,0,none⟩)) w:=by kernel_rfl
theorem PS:One Try.prog 78:=by unfold One;exact⟨by kernel_rfl,by kernel_rfl⟩
theorem PT:Bh Try.prog 32:=by unfold Bh;kernel_rfl
theorem PU:Bh Try.prog 34:=by unfold Bh;kernel_rfl
theorem RJ:(Try.prog.info? 69).bind (·.zero)=some (.pointer none):=by kernel_rfl
theorem SS:Bh Try.prog 69:=by unfold Bh;kernel_rfl
theorem IU:One Try.prog 69:=by unfold One;exact⟨by kernel_rfl,by kernel_rfl⟩
theorem QE(w:World):(Op.equal 69 (.pointer none) (.pointer none)).run Try.prog w=.ok true w:=by kernel_rfl
theorem QX:(Try.prog.info? 69).map (·.size)=some 1:=by kernel_rfl
theorem LL:One Try.prog 104:=by unfold One;exact⟨by kernel_rfl,by kernel_rfl⟩
theorem FO:One Try.prog 31:=by unfold One;exact⟨by kernel_rfl,by kernel_rfl⟩
theorem QF(ad:Addr)(w:World):(Op.equal 69 (.pointer (some ad)) (.pointer none)).run Try.prog w=.ok false w:=by kernel_rfl
theorem SU:Bh Try.prog 70:=by unfold Bh;kernel_rfl
theorem SV:Bh Try.prog 90:=by unfold Bh;kernel_rfl
theorem IV:(Try.prog.info? 76).bind (·.zero)=some (.agg #[I 0,I 0,I 0,I 0]):=by kernel_rfl
theorem SW:Bh Try.prog 49:=by unfold Bh;kernel_rfl
theorem PV:Bh Try.prog 48:=by unfold Bh;kernel_rfl
theorem IW:DI Try.prog 76 4:=by unfold DI;exact⟨by kernel_rfl,by kernel_rfl⟩
theorem Kj:(Try.prog.info? 76).map (·.size)=some 4:=by kernel_rfl
theorem SX:Bh Try.prog 53:=by unfold Bh;kernel_rfl
theorem SY:Bh Try.prog 25:=by unfold Bh;kernel_rfl
theorem Ng:Bh Try.prog 27:=by unfold Bh;kernel_rfl
theorem PW:Bh Try.prog 30:=by unfold Bh;kernel_rfl
theorem PX:Bh Try.prog 16:=by unfold Bh;kernel_rfl
theorem QY:Bh Try.prog 5:=by unfold Bh;kernel_rfl
theorem SZ:Bh Try.prog 51:=by unfold Bh;kernel_rfl
theorem Nh:Bh Try.prog 31:=by unfold Bh;kernel_rfl
theorem Iq:(Try.prog.info? 31).map (·.size)=some 1:=by kernel_rfl
theorem S0:DI Try.prog 81 1:=by unfold DI;exact⟨by kernel_rfl,by kernel_rfl⟩
theorem S1:Try.prog.eqGuardType Try.prog.depth 76=false:=by kernel_rfl
theorem S2:Kr Try.prog 76 4:=OZ Try.underlying76 AY Try.underlying3
theorem S3:One Try.prog 67:=by unfold One;exact⟨by kernel_rfl,by kernel_rfl⟩
theorem PY:Bh Try.prog 50:=by unfold Bh;kernel_rfl
theorem LM:(Try.prog.info? 31).bind (·.zero)=some (.slice none 0 0):=by kernel_rfl
theorem S4:Bh Try.prog 29:=by unfold Bh;kernel_rfl
theorem PZ:Bh Try.prog 28:=by unfold Bh;kernel_rfl
theorem S5:Bh Try.prog 33:=by unfold Bh;kernel_rfl
theorem S6:Bh Try.prog 42:=by unfold Bh;kernel_rfl
theorem S7:Bh Try.prog 43:=by unfold Bh;kernel_rfl
theorem HS:Bh Try.prog 6:=by unfold Bh;kernel_rfl
theorem TP:Bh Try.prog 7:=by unfold Bh;kernel_rfl
theorem QZ:Bh Try.prog 8:=by unfold Bh;kernel_rfl
theorem Jo:Bh Try.prog 9:=by unfold Bh;kernel_rfl
theorem If:Bh Try.prog 10:=by unfold Bh;kernel_rfl
theorem Ig:Bh Try.prog 11:=by unfold Bh;kernel_rfl
theorem P0:Bh Try.prog 13:=by unfold Bh;kernel_rfl
theorem S8:Bh Try.prog 12:=by unfold Bh;kernel_rfl
theorem S9:Bh Try.prog 15:=by unfold Bh;kernel_rfl
theorem Ta:Bh Try.prog 14:=by unfold Bh;kernel_rfl
theorem Tb:Bh Try.prog 41:=by unfold Bh;kernel_rfl
theorem Li:Bh Try.prog 19:=by unfold Bh;kernel_rfl
theorem Ih:Bh Try.prog 18:=by unfold Bh;kernel_rfl
theorem RK:(Try.prog.info? 58).bind (·.zero)=some (.agg #[I 0,I 0,I 0,I 0,.slice none 0 0]):=by kernel_rfl
theorem TQ:(Try.prog.info? 58).map (·.size)=some 5:=by kernel_rfl
theorem RL:(Try.prog.info? 63).map (fun i=>(i.zero,i.size,i.bytes))=some (some (.agg #[I 0,I 0,I 0,I 0,I 0]),5,40):=by kernel_rfl
theorem TR:(Try.prog.info? 56).map (·.size)=some 1:=by kernel_rfl
theorem Ni:(Try.prog.underlying 5).isSome=true:=by kernel_rfl
theorem EW:Bh Try.prog 20:=by unfold Bh;kernel_rfl
theorem Nj:Bh Try.prog 21:=by unfold Bh;kernel_rfl
theorem Oe(b o:Nat)(w:World):(Instr.fieldAt 61 (.pointer (some ⟨b,o,none⟩)) 0).run Try.prog w=.ok (.pointer (some ⟨b,o,none⟩)) w:=by kernel_rfl
theorem Of(b o:Nat)(w:World):(Instr.fieldAt 61 (.pointer (some ⟨b,o,none⟩)) 1).run Try.prog w=.ok (.pointer (some ⟨b,o+1,none⟩)) w:=by kernel_rfl
end HF
end Go.Proofs.Ytkljfdkmjdjpfaa
end
section
set_option linter.unusedVariables false
set_option linter.unusedSimpArgs false
namespace Go.Proofs.Ytkljfdkmjdjpfaa
open Go.RowKit Go.WideShapes
set_option maxRecDepth 20000
open HF
attribute [local irreducible] BF WL CC CW LV BI Eb DI One Bh
theorem Og(n:Nat)(b:Int)(e:Int)(f:Int)(Z:Nat→Prop)(w:World)(m:Bool)(d:D2 n b e f=some m):
 BI Try.prog 36 #[I b,I e,I f] w (fun v w'=>Ext w w'∧BN.R w' (ZZ FN [] Z w.heap.size []) v m):=by
 unfold D2 at d;refine A9 (N:=15) Try.func36 rfl rfl (by simp) ?_;intro o h p;have g:=AM (i:=0) (v:=I b) h rfl;have k:=AM (i:=1) (v:=I e) h rfl;have l:=AM (i:=2) (v:=I f) h rfl;clear h;have j:Hp FN [] w [] w:=Hp.start (BK.none w);refine Ae<|Aa<|wa rfl (v:=.bool false) rfl<|Af<|Ab<|Ae<|Aa<|wm rfl (v:=I e) k<|wm rfl (v:=I b) g<|wd rfl (fun st=>ES (ee st rfl) (ee st rfl))<|wm rfl (v:=.bool (decide (e≤b))) rfl ?_;rcases Ao (decide (e≤b)) with a|a
 ·replace d:=AB d a;refine As rfl rfl (Ad rfl a) rfl (by decide) (fun st=>AR (v:=I b) (ee st g))<|As rfl rfl (Ad rfl a) rfl (by decide) (fun st=>AR (v:=I f) (ee st l))<|As rfl rfl (Ad rfl a) rfl (by decide) (fun st=>ES (ee st rfl) (ee st rfl))<|wd rfl (fun st=>AO (v:=.bool (decide (b≤f))) (ee st rfl) a (ee st rfl))<|wa rfl (v:=.bool (decide (b≤f))) rfl<|Af<|Ab<|AH ?_;obtain rfl:=Option.some.inj d;refine AQ rfl rfl ?_;exact⟨j.Bp,rfl⟩
 ·replace d:=AD d a;refine Ak (c:=false) rfl rfl (Ad rfl a) (by decide) rfl (by decide)<|Ak (c:=false) rfl rfl (Ad rfl a) (by decide) rfl (by decide)<|Ak (c:=false) rfl rfl (Ad rfl a) (by decide) rfl (by decide)<|wd rfl (fun st=>Bs (v:=.bool false) (ee st rfl) a (ee st rfl))<|wa rfl (v:=.bool false) rfl<|Af<|Ab<|AH ?_;obtain rfl:=Option.some.inj d;refine AQ rfl rfl ?_;exact⟨j.Bp,rfl⟩
theorem a40(m:Nat)(a:CL)(Z:Nat→Prop)(w:World)(f:Int)(b:EM m a=some f):
 BI Try.prog 40 #[.agg #[I a.Lo,I a.Hi]] w (fun v w'=>Ext w w'∧(Fq .i64).R w' (ZZ FN [] Z w.heap.size []) v f):=by
 unfold EM at b;refine A9 (N:=9) Try.func40 rfl rfl (by simp) ?_;intro n g o;have e:=AM (i:=0) (v:=.agg #[I a.Lo,I a.Hi]) g rfl;clear g;have d:Hp FN [] w [] w:=Hp.start (BK.none w);refine Ae<|Aa<|we rfl (fun st=>BX (v:=.agg #[I a.Lo,I a.Hi]) (cs:= #[I a.Lo,I a.Hi]) (ee st e) rfl) ?_;rintro _ w1 ⟨p,rfl,c⟩;have h:=d.nb c;have l:=d.BL c;refine wa rfl (v:=I 0) rfl<|Af<|Ab<|Ae<|Aa<|wd rfl (fun st=>Am (ee st rfl) (Kb _ _))<|wd rfl (fun st=>Aw (v:=I a.Hi) AY (ee st rfl) c.bk rfl)<|wd rfl (fun st=>Am (ee st rfl) (Kd _ _))<|wd rfl (fun st=>Aw (v:=I a.Lo) AY (ee st rfl) c.bk rfl) ?_;replace b:=AX b;obtain⟨j,b⟩:=b;refine wd rfl (fun st=>KP (ee st rfl) (ee st rfl) j) ?_;replace b:=AX b;obtain⟨k,b⟩:=b;refine wd rfl (fun st=>Bx (ee st rfl) (ee st rfl) k)<|wa rfl (v:=I ((a.Hi-a.Lo)+1)) rfl<|Af<|Ab<|AH ?_;obtain rfl:=Option.some.inj b;refine AQ rfl rfl ?_;exact⟨h.Bp,rfl⟩
theorem Um(p:Nat)(a:CL)(g:Int)(Z:Nat→Prop)(w:World)(n:Bool)(e:Gv p a g=some n):
 BI Try.prog 56 #[.agg #[I a.Lo,I a.Hi],I g] w (fun v w'=>Ext w w'∧BN.R w' (ZZ FN [] Z w.heap.size []) v n):=by
 unfold Gv at e;refine A9 (N:=21) Try.func56 rfl rfl (by simp) ?_;intro q k r;have l:=AM (i:=0) (v:=.agg #[I a.Lo,I a.Hi]) k rfl;have m:=AM (i:=1) (v:=I g) k rfl;clear k;have j:Hp FN [] w [] w:=Hp.start (BK.none w);refine Ae<|Aa<|we rfl (fun st=>BX (v:=.agg #[I a.Lo,I a.Hi]) (cs:= #[I a.Lo,I a.Hi]) (ee st l) rfl) ?_;rintro _ w1 ⟨s,rfl,f⟩;have h:=j.nb f;have o:=j.BL f;refine wa rfl (v:=.bool false) rfl<|Af<|Ab<|Ae<|Aa<|wd rfl (fun st=>Am (ee st rfl) (Kd _ _))<|wd rfl (fun st=>Aw (v:=I a.Lo) AY (ee st rfl) f.bk rfl)<|wd rfl (fun st=>ES (ee st rfl) (ee st rfl))<|wm rfl (v:=.bool (decide ((0:Int)≤a.Lo))) rfl ?_;rcases Ao (decide ((0:Int)≤a.Lo)) with b|b
 ·replace e:=AB e b;refine As rfl rfl (Ad rfl b) rfl (by decide) (fun st=>Am (ee st rfl) (Kd _ _))<|As rfl rfl (Ad rfl b) rfl (by decide) (fun st=>Aw (v:=I a.Lo) AY (ee st rfl) f.bk rfl)<|As rfl rfl (Ad rfl b) rfl (by decide) (fun st=>Am (ee st rfl) (Kb _ _))<|As rfl rfl (Ad rfl b) rfl (by decide) (fun st=>Aw (v:=I a.Hi) AY (ee st rfl) f.bk rfl)<|As rfl rfl (Ad rfl b) rfl (by decide) (fun st=>ES (ee st rfl) (ee st rfl))<|wd rfl (fun st=>AO (v:=.bool (decide (a.Lo≤a.Hi))) (ee st rfl) b (ee st rfl))<|wm rfl (v:=.bool (decide (a.Lo≤a.Hi))) rfl ?_;rcases Ao (decide (a.Lo≤a.Hi)) with d|d
  ·replace e:=AB e d;refine As rfl rfl (Ad rfl d) rfl (by decide) (fun st=>Am (ee st rfl) (Kb _ _))<|As rfl rfl (Ad rfl d) rfl (by decide) (fun st=>Aw (v:=I a.Hi) AY (ee st rfl) f.bk rfl)<|As rfl rfl (Ad rfl d) rfl (by decide) (fun st=>AR (v:=I g) (ee st m))<|As rfl rfl (Ad rfl d) rfl (by decide) (fun st=>ES (ee st rfl) (ee st rfl))<|wd rfl (fun st=>AO (v:=.bool (decide (a.Hi≤g))) (ee st rfl) d (ee st rfl))<|wa rfl (v:=.bool (decide (a.Hi≤g))) rfl<|Af<|Ab<|AH ?_;obtain rfl:=Option.some.inj e;refine AQ rfl rfl ?_;exact⟨h.Bp,rfl⟩
  ·replace e:=AD e d;refine Ak (c:=false) rfl rfl (Ad rfl d) (by decide) rfl (by decide)<|Ak (c:=false) rfl rfl (Ad rfl d) (by decide) rfl (by decide)<|Ak (c:=false) rfl rfl (Ad rfl d) (by decide) rfl (by decide)<|Ak (c:=false) rfl rfl (Ad rfl d) (by decide) rfl (by decide)<|wd rfl (fun st=>Bs (v:=.bool false) (ee st rfl) d (ee st rfl))<|wa rfl (v:=.bool false) rfl<|Af<|Ab<|AH ?_;obtain rfl:=Option.some.inj e;refine AQ rfl rfl ?_;exact⟨h.Bp,rfl⟩
 ·replace e:=AD e b;refine Ak (c:=false) rfl rfl (Ad rfl b) (by decide) rfl (by decide)<|Ak (c:=false) rfl rfl (Ad rfl b) (by decide) rfl (by decide)<|Ak (c:=false) rfl rfl (Ad rfl b) (by decide) rfl (by decide)<|Ak (c:=false) rfl rfl (Ad rfl b) (by decide) rfl (by decide)<|Ak (c:=false) rfl rfl (Ad rfl b) (by decide) rfl (by decide)<|wd rfl (fun st=>Bs (v:=.bool false) (ee st rfl) b (ee st rfl))<|wm rfl (v:=.bool false) rfl<|Ak rfl rfl rfl (by decide) rfl (by decide)<|Ak rfl rfl rfl (by decide) rfl (by decide)<|Ak rfl rfl rfl (by decide) rfl (by decide)<|Ak rfl rfl rfl (by decide) rfl (by decide)<|wd rfl (fun st=>Bs (v:=.bool false) (ee st rfl) rfl (ee st rfl))<|wa rfl (v:=.bool false) rfl<|Af<|Ab<|AH ?_;obtain rfl:=Option.some.inj e;refine AQ rfl rfl ?_;exact⟨h.Bp,rfl⟩
theorem T0(d:Nat)(b:Int)(Z:Nat→Prop)(w:World)(e:Bool)(a:Gq d b=some e):
 BI Try.prog 57 #[I b] w (fun v w'=>Ext w w'∧BN.R w' (ZZ FN [] Z w.heap.size []) v e):=by
 unfold Gq at a;refine A9 (N:=5) Try.func57 rfl rfl (by simp) ?_;intro l f m;have c:=AM (i:=0) (v:=I b) f rfl;clear f;have g:Hp FN [] w [] w:=Hp.start (BK.none w);refine Ae<|Aa<|wa rfl (v:=.bool false) rfl<|Af<|Ab<|Ae<|Aa<|wm rfl (v:=I b) c ?_;replace a:=bind_some a;obtain⟨r1,h,a⟩:=a;refine we rfl (fun st=>AE IL (ee st rfl) (Fk (ee st rfl) (ee st rfl) (ee st rfl)) (Og d b 1 5 ZA _ r1 h)) ?_;rintro _ w2 ⟨j,rfl⟩;have k:=g.ext j;refine wa rfl (v:=.bool r1) rfl<|Af<|Ab<|AH ?_;obtain rfl:=Option.some.inj a;refine AQ rfl rfl ?_;exact⟨k.Bp,rfl⟩
theorem P1(n:Nat)(b:Int)(e:Int)(f:Int)(Z:Nat→Prop)(w:World)(m:Bool)(d:DN n b e f=some m):
 BI Try.prog 74 #[I b,I e,I f] w (fun v w'=>Ext w w'∧BN.R w' (ZZ FN [] Z w.heap.size []) v m):=by
 unfold DN at d;refine A9 (N:=15) Try.func74 rfl rfl (by simp) ?_;intro o h p;have g:=AM (i:=0) (v:=I b) h rfl;have k:=AM (i:=1) (v:=I e) h rfl;have l:=AM (i:=2) (v:=I f) h rfl;clear h;have j:Hp FN [] w [] w:=Hp.start (BK.none w);refine Ae<|Aa<|wa rfl (v:=.bool false) rfl<|Af<|Ab<|Ae<|Aa<|wm rfl (v:=I b) g<|wm rfl (v:=I e) k<|wd rfl (fun st=>Ii (ee st rfl) (ee st rfl))<|wm rfl (v:=.bool (decide (e≤b))) rfl ?_;rcases Ao (decide (e≤b)) with a|a
 ·replace d:=AB d a;refine As rfl rfl (Ad rfl a) rfl (by decide) (fun st=>AR (v:=I b) (ee st g))<|As rfl rfl (Ad rfl a) rfl (by decide) (fun st=>AR (v:=I f) (ee st l))<|As rfl rfl (Ad rfl a) rfl (by decide) (fun st=>ES (ee st rfl) (ee st rfl))<|wd rfl (fun st=>AO (v:=.bool (decide (b≤f))) (ee st rfl) a (ee st rfl))<|wa rfl (v:=.bool (decide (b≤f))) rfl<|Af<|Ab<|AH ?_;obtain rfl:=Option.some.inj d;refine AQ rfl rfl ?_;exact⟨j.Bp,rfl⟩
 ·replace d:=AD d a;refine Ak (c:=false) rfl rfl (Ad rfl a) (by decide) rfl (by decide)<|Ak (c:=false) rfl rfl (Ad rfl a) (by decide) rfl (by decide)<|Ak (c:=false) rfl rfl (Ad rfl a) (by decide) rfl (by decide)<|wd rfl (fun st=>Bs (v:=.bool false) (ee st rfl) a (ee st rfl))<|wa rfl (v:=.bool false) rfl<|Af<|Ab<|AH ?_;obtain rfl:=Option.some.inj d;refine AQ rfl rfl ?_;exact⟨j.Bp,rfl⟩
theorem a76(m:Nat)(a:CL)(Z:Nat→Prop)(w:World)(f:Int)(b:E7 m a=some f):
 BI Try.prog 76 #[.agg #[I a.Lo,I a.Hi]] w (fun v w'=>Ext w w'∧(Fq .i64).R w' (ZZ FN [] Z w.heap.size []) v f):=by
 unfold E7 at b;refine A9 (N:=9) Try.func76 rfl rfl (by simp) ?_;intro n g o;have e:=AM (i:=0) (v:=.agg #[I a.Lo,I a.Hi]) g rfl;clear g;have d:Hp FN [] w [] w:=Hp.start (BK.none w);refine Ae<|Aa<|we rfl (fun st=>BX (v:=.agg #[I a.Lo,I a.Hi]) (cs:= #[I a.Lo,I a.Hi]) (ee st e) rfl) ?_;rintro _ w1 ⟨p,rfl,c⟩;have h:=d.nb c;have l:=d.BL c;refine wa rfl (v:=I 0) rfl<|Af<|Ab<|Ae<|Aa<|wd rfl (fun st=>Am (ee st rfl) (Ke _ _))<|wd rfl (fun st=>Aw (v:=I a.Hi) AY (ee st rfl) c.bk rfl)<|wd rfl (fun st=>Am (ee st rfl) (Kf _ _))<|wd rfl (fun st=>Aw (v:=I a.Lo) AY (ee st rfl) c.bk rfl) ?_;replace b:=AX b;obtain⟨j,b⟩:=b;refine wd rfl (fun st=>KP (ee st rfl) (ee st rfl) j) ?_;replace b:=AX b;obtain⟨k,b⟩:=b;refine wd rfl (fun st=>Bx (ee st rfl) (ee st rfl) k)<|wa rfl (v:=I ((a.Hi-a.Lo)+1)) rfl<|Af<|Ab<|AH ?_;obtain rfl:=Option.some.inj b;refine AQ rfl rfl ?_;exact⟨h.Bp,rfl⟩
theorem QG(n:Nat)(b:Int)(c:Int)(Z:Nat→Prop)(w:World)(h:Bool)(a:Ec n b c=some h):
 BI Try.prog 102 #[I b,I c] w (fun v w'=>Ext w w'∧BN.R w' (ZZ FN [] Z w.heap.size []) v h):=by
 unfold Ec at a;refine A9 (N:=11) Try.func102 rfl rfl (by simp) ?_;intro o e p;have f:=AM (i:=0) (v:=I b) e rfl;have g:=AM (i:=1) (v:=I c) e rfl;clear e;have j:Hp FN [] w [] w:=Hp.start (BK.none w);refine Ae<|Aa<|wa rfl (v:=.bool false) rfl<|Af<|Ab<|Ae<|Aa<|wm rfl (v:=I b) f<|wm rfl (v:=I c) g ?_;replace a:=GS a;obtain⟨l,a⟩:=a;refine wd rfl (fun st=>HW (k:=.u64) Su Try.underlying112 (ee st rfl) l) ?_;replace a:=LX a;obtain⟨m,a⟩:=a;refine wd rfl (fun st=>QO (ee st rfl) (ee st rfl) m) ?_;replace a:=GP a;obtain⟨d,a⟩:=a;refine wd rfl (fun st=>I0 (ee st rfl) (ee st rfl) d.1 d.2)<|wd rfl (fun st=>BZ (ee st rfl) (ee st rfl))<|wa rfl (v:=.bool (((EZ b c)%2)==1)) rfl<|Af<|Ab<|AH ?_;obtain rfl:=Option.some.inj a;refine AQ rfl rfl ?_;exact⟨j.Bp,rfl⟩
theorem T1(s:Nat)(a:Int)(b:Int)(c:Bool)(Z:Nat→Prop)(w:World)(m:Av)(o:Ew s a b c=some m):
 BI Try.prog 13 #[I a,I b,.bool c] w (fun v w'=>Ext w w'∧(DP Cm).R w' (ZZ FN [] Z w.heap.size []) v m):=by
 unfold Ew at o;refine A9 (N:=11) Try.func13 rfl rfl (by simp) ?_;intro t e u;have h:=AM (i:=0) (v:=I a) e rfl;have j:=AM (i:=1) (v:=I b) e rfl;have k:=AM (i:=2) (v:=.bool c) e rfl;clear e;have f:Hp FN [] w [] w:=Hp.start (BK.none w);refine Ae<|Aa<|we rfl (fun st=>BP (cs:= #[I 0,I 0,.bool false]) Hn rfl) ?_;rintro _ w1 ⟨x,rfl,d⟩;have p:=f.nb d;have r:=f.BL d;refine Af<|Ab<|Ae<|Aa<|wm rfl (v:=I a) h<|wm rfl (v:=I b) j<|wm rfl (v:=.bool c) k<|wd rfl (fun st=>CZ (vs:= #[(0,I a),(1,I b),(2,.bool c)]) (v:=.agg #[I a,I b,.bool c]) (Jx (ee st rfl) (ee st rfl) (ee st rfl)) (by kernel_rfl))<|Bg rfl rfl (fun st=>Bb (n:=3) (l:=[I a,I b,.bool c]) (B1:= #[I a,I b,.bool c]) (ee st rfl) (ee st rfl) E5 d.bk rfl rfl (show 0+3≤3 by decide) (AP rfl) rfl) ?_;rintro _ w2 g;have q:=p.gr g.gr 0 rfl;refine Af<|Ab<|AH ?_;obtain rfl:=Option.some.inj o;refine Gr (v:=.agg #[I a,I b,.bool c]) rfl rfl (C2 Em g.bk rfl rfl) ?_;exact⟨q.Bp,⟨_,rfl,rfl⟩⟩
theorem a25(n:Nat)(a:Aq)(e:Int)(b:Option Addr)(c:Nat)(Z:Nat→Prop)(w:World)(g:Sl AI w Z b c a.Ac)(o:Bool)(d:Fi n a e=some o):
 BI Try.prog 25 #[.agg #[I a.Ah,I a.Ai,I a.Ap,I a.Ax,.slice b a.Ac.length c],I e] w (fun v w'=>Ext w w'∧BN.R w' (ZZ FN [] Z w.heap.size []) v o):=by
 unfold Fi at d;refine A9 (N:=11) Try.func25 rfl rfl (by simp) ?_;intro y j z;have k:=AM (i:=0) (v:=.agg #[I a.Ah,I a.Ai,I a.Ap,I a.Ax,.slice b a.Ac.length c]) j rfl;have l:=AM (i:=1) (v:=I e) j rfl;clear j;have h:Hp FN [] w [] w:=Hp.start (BK.none w);have m:=g.mv (Bn (Z:=Z) (L:=[]) w);refine Ae<|Aa<|we rfl (fun st=>BX (v:=.agg #[I a.Ah,I a.Ai,I a.Ap,I a.Ax,.slice b a.Ac.length c]) (cs:= #[I a.Ah,I a.Ai,I a.Ap,I a.Ax,.slice b a.Ac.length c]) (ee st k) rfl) ?_;rintro _ w1 ⟨aA,rfl,f⟩;have p:=h.nb f;have x:=h.BL f;refine wa rfl (v:=.bool false) rfl<|Af<|Ab<|Ae<|Aa<|wm rfl (v:=I e) l<|wd rfl (fun st=>Am (ee st rfl) (CV _ _))<|wd rfl (fun st=>Aw (v:=.slice b a.Ac.length c) Dm (ee st rfl) f.bk rfl)<|wd rfl (fun st=>BW Try.underlying26 (ee st rfl)) ?_;replace d:=AX d;obtain⟨q,d⟩:=d;refine wd rfl (fun st=>KP (ee st rfl) (ee st rfl) q) ?_;replace d:=bind_some d;obtain⟨r,s,d⟩:=d;refine we rfl (fun st=>AE IL (ee st rfl) (Fk (ee st rfl) (ee st rfl) (ee st rfl)) (Og n e 0 ((a.Ac.length:Int)-1) ZA _ r s)) ?_;rintro _ aB ⟨t,rfl⟩;have u:=p.ext t;refine wa rfl (v:=.bool r) rfl<|Af<|Ab<|AH ?_;obtain rfl:=Option.some.inj d;refine AQ rfl rfl ?_;exact⟨u.Bp,rfl⟩
theorem a26(s:Nat)(a:Au)(d:Av)(Z:Nat→Prop)(w:World)(p:Bool)(f:C4 s a d=some p):
 BI Try.prog 26 #[.agg #[I a.An,I a.Ar,I a.AF,I a.Bi,I a.Bl],.agg #[I d.On,I d.Bj,.bool d.AF]] w (fun v w'=>Ext w w'∧BN.R w' (ZZ FN [] Z w.heap.size []) v p):=by
 unfold C4 at f;refine A9 (N:=14) Try.func26 rfl rfl (by simp) ?_;intro t m u;have n:=AM (i:=0) (v:=.agg #[I a.An,I a.Ar,I a.AF,I a.Bi,I a.Bl]) m rfl;have o:=AM (i:=1) (v:=.agg #[I d.On,I d.Bj,.bool d.AF]) m rfl;clear m;have j:Hp FN [] w [] w:=Hp.start (BK.none w);refine Ae<|Aa<|we rfl (fun st=>BX (v:=.agg #[I a.An,I a.Ar,I a.AF,I a.Bi,I a.Bl]) (cs:= #[I a.An,I a.Ar,I a.AF,I a.Bi,I a.Bl]) (ee st n) rfl) ?_;rintro _ w1 ⟨x,rfl,g⟩;have k:=j.nb g;have q:=j.BL g;refine we rfl (fun st=>BX (v:=.agg #[I d.On,I d.Bj,.bool d.AF]) (cs:= #[I d.On,I d.Bj,.bool d.AF]) (ee st o) rfl) ?_;rintro _ w2 ⟨y,rfl,e⟩;have l:=k.nb e;have r:=k.BL e;refine wa rfl (v:=.bool false) rfl<|Af<|Ab<|Ae<|Aa<|wd rfl (fun st=>Am (ee st rfl) (Rt _ _))<|wd rfl (fun st=>Aw (v:=.bool d.AF) Kg (ee st rfl) e.bk rfl)<|wm rfl (v:=.bool d.AF) rfl ?_;rcases Ao (d.AF) with b|b
 ·replace f:=AB f b;refine As rfl rfl (Ad rfl b) rfl (by decide) (fun st=>Am (ee st rfl) (LA _ _))<|As rfl rfl (Ad rfl b) rfl (by decide) (fun st=>Aw (v:=I d.Bj) AY (ee st rfl) e.bk rfl)<|As rfl rfl (Ad rfl b) rfl (by decide) (fun st=>Am (ee st rfl) (NY _ _)) ?_;have h:=(g.bk.ext e.gr);refine As rfl rfl (Ad rfl b) rfl (by decide) (fun st=>Aw (v:=I a.Bl) AY (ee st rfl) h rfl)<|As rfl rfl (Ad rfl b) rfl (by decide) (fun st=>ES (ee st rfl) (ee st rfl))<|wd rfl (fun st=>AO (v:=.bool (decide (d.Bj≤a.Bl))) (ee st rfl) b (ee st rfl))<|wa rfl (v:=.bool (decide (d.Bj≤a.Bl))) rfl<|Af<|Ab<|AH ?_;obtain rfl:=Option.some.inj f;refine AQ rfl rfl ?_;exact⟨l.Bp,rfl⟩
 ·replace f:=AD f b;refine Ak (c:=false) rfl rfl (Ad rfl b) (by decide) rfl (by decide)<|Ak (c:=false) rfl rfl (Ad rfl b) (by decide) rfl (by decide)<|Ak (c:=false) rfl rfl (Ad rfl b) (by decide) rfl (by decide)<|Ak (c:=false) rfl rfl (Ad rfl b) (by decide) rfl (by decide)<|Ak (c:=false) rfl rfl (Ad rfl b) (by decide) rfl (by decide)<|wd rfl (fun st=>Bs (v:=.bool false) (ee st rfl) b (ee st rfl))<|wa rfl (v:=.bool false) rfl<|Af<|Ab<|AH ?_;obtain rfl:=Option.some.inj f;refine AQ rfl rfl ?_;exact⟨l.Bp,rfl⟩
theorem T3(n:Nat)(a:Au)(b:Av)(Z:Nat→Prop)(w:World)(o:Bool)(d:DX n a b=some o):
 BI Try.prog 32 #[.agg #[I a.An,I a.Ar,I a.AF,I a.Bi,I a.Bl],.agg #[I b.On,I b.Bj,.bool b.AF]] w (fun v w'=>Ext w w'∧BN.R w' (ZZ FN [] Z w.heap.size []) v o):=by
 unfold DX at d;refine A9 (N:=9) Try.func32 rfl rfl (by simp) ?_;intro y j z;have k:=AM (i:=0) (v:=.agg #[I a.An,I a.Ar,I a.AF,I a.Bi,I a.Bl]) j rfl;have m:=AM (i:=1) (v:=.agg #[I b.On,I b.Bj,.bool b.AF]) j rfl;clear j;have g:Hp FN [] w [] w:=Hp.start (BK.none w);refine Ae<|Aa<|we rfl (fun st=>BX (v:=.agg #[I a.An,I a.Ar,I a.AF,I a.Bi,I a.Bl]) (cs:= #[I a.An,I a.Ar,I a.AF,I a.Bi,I a.Bl]) (ee st k) rfl) ?_;rintro _ w1 ⟨aA,rfl,e⟩;have h:=g.nb e;have u:=g.BL e;refine we rfl (fun st=>BX (v:=.agg #[I b.On,I b.Bj,.bool b.AF]) (cs:= #[I b.On,I b.Bj,.bool b.AF]) (ee st m) rfl) ?_;rintro _ w2 ⟨aB,rfl,c⟩;have p:=h.nb c;have x:=h.BL c;refine wa rfl (v:=.bool false) rfl<|Af<|Ab<|Ae<|Aa ?_;have f:=(e.bk.ext c.gr);refine wd rfl (fun st=>A5 (l:=[I a.An,I a.Ar,I a.AF,I a.Bi,I a.Bl]) HD (ee st rfl) f rfl rfl)<|wd rfl (fun st=>A5 (l:=[I b.On,I b.Bj,.bool b.AF]) Em (ee st rfl) c.bk rfl rfl) ?_;replace d:=bind_some d;obtain⟨q,r,d⟩:=d;refine we rfl (fun st=>AE M8 (ee st rfl) (EA (ee st rfl) (ee st rfl)) (a26 n a b ZA _ q r)) ?_;rintro _ aC ⟨s,rfl⟩;have t:=p.ext s;refine wd rfl (fun st=>Di (ee st rfl))<|wa rfl (v:=.bool !q) rfl<|Af<|Ab<|AH ?_;obtain rfl:=Option.some.inj d;refine AQ rfl rfl ?_;exact⟨t.Bp,rfl⟩
end Go.Proofs.Ytkljfdkmjdjpfaa
end
section
set_option linter.unusedVariables false
set_option linter.unusedSimpArgs false
namespace Go.Proofs.Ytkljfdkmjdjpfaa
open Go.RowKit Go.WideShapes
set_option maxRecDepth 20000
open HF
attribute [local irreducible] BF WL CC CW LV BI Eb DI One Bh
theorem a93(aW:Nat)(b:Aq)(z:Int)(h:Option Addr)(j:Nat)(Z:Nat→Prop)(w:World)(cD:Sl AI w Z h j b.Ac)(dB:Bool)(a:D9 aW b z=some dB):
 BI Try.prog 93 #[.agg #[I b.Ah,I b.Ai,I b.Ap,I b.Ax,.slice h b.Ac.length j],I z] w (fun v w'=>Ext w w'∧BN.R w' (ZZ FN [] Z w.heap.size []) v dB):=by
 unfold D9 at a;refine A9 (N:=46) Try.func93 rfl rfl (by simp) ?_;intro dY cO dZ;have cP:=AM (i:=0) (v:=.agg #[I b.Ah,I b.Ai,I b.Ap,I b.Ax,.slice h b.Ac.length j]) cO rfl;have cQ:=AM (i:=1) (v:=I z) cO rfl;clear cO;have cL:Hp FN [] w [] w:=Hp.start (BK.none w);have bP:=cD.mv (Bn (Z:=Z) (L:=[]) w);refine Ae<|Aa<|we rfl (fun st=>BX (v:=.agg #[I b.Ah,I b.Ai,I b.Ap,I b.Ax,.slice h b.Ac.length j]) (cs:= #[I b.Ah,I b.Ai,I b.Ap,I b.Ax,.slice h b.Ac.length j]) (ee st cP) rfl) ?_;rintro _ w1 ⟨m,rfl,bI⟩;have dC:=cL.nb bI;have dR:=cL.BL bI;refine wa rfl (v:=.bool false) rfl<|Af<|Ab<|Ae<|Aa<|wa rfl (v:=I 0) rfl<|Af<|Ab<|Ae<|Ae<|Aa<|wa rfl (v:=I 0) rfl<|Af<|Ab<|Ba ?_;replace a:=bind_some a;obtain⟨z2,aX,a⟩:=a;refine Cu (fun aZ d o=>(aZ=.ret∧∃aI,z2=.inl aI∧d.tmps.size=46∧d.defers=(X0).ds∧sl d 4=.bool aI∧Hp FN [] w [some m] o)∨(aZ=.exit 0∧∃aI,z2=.inr aI∧d.tmps.size=46∧d.defers=(X0).ds∧sl d 2=pt m 0∧sl d 5=I aI∧Hp FN [] w [some m] o∧Bk o m 58 #[I b.Ah,I b.Ai,I b.Ap,I b.Ax,.slice h b.Ac.length j]∧Sl AI o (ZZ FN [] Z w.heap.size [some m]) h j b.Ac)) ?dD ?dE
 case dD=>
  clear a;refine Ct (fun(aG:Nat) (d:Act) (o:World)=>∃n,∃e,Cv aW b z aG n e=some z2∧d.tmps.size=46∧d.defers=(X0).ds∧sl d 1=I z∧sl d 2=pt m 0∧sl d 5=I n∧sl d 6=I e∧Hp FN [] w [some m] o∧Bk o m 58 #[I b.Ah,I b.Ai,I b.Ap,I b.Ax,.slice h b.Ac.length j]∧Sl AI o (ZZ FN [] Z w.heap.size [some m]) h j b.Ac) aW ?dF ?dG
  case dF=>
   intro st;have bQ:=(bP.mv (Az bI));exact⟨(0:Int),(0:Int),aX,qz st,qd st,sp st 1 cQ,sp st 2 rfl,sp st 5 rfl,sp st 6 rfl,dC,bI.bk,bQ⟩
  case dG=>
   rintro(_|aG) d0 d1 ⟨n,e,aX,cR,cS,a0,aQ,a2,aC,cM,aJ,aH⟩
   ·exact absurd (show none=some _ from aX) (by simp)
   rw[Cv.eq_2] at aX;have a:=aX;clear aX;refine Ca (N:=46) cR cS<|Ae<|Ae<|Aa<|wm rfl (v:=I e) aC<|wd rfl (fun st=>Am (ee st aQ) (Fe _ _))<|wd rfl (fun st=>Aw (v:=I b.Ah) AY (ee st rfl) aJ rfl)<|wd rfl (fun st=>ES (ee st rfl) (ee st rfl))<|Af<|Ab ?_;rcases Ao (decide (e≤b.Ah)) with a9|a9
   ·replace a:=AB a a9;refine AA rfl a9<|AZ<|Ab<|Ae<|Ba<|Ae<|Ae<|Aa<|wm rfl (v:=I z) a0<|wm rfl (v:=I e) aC ?_;replace a:=bind_some a;obtain⟨dH,dI,a⟩:=a;refine we rfl (fun st=>AE LB (ee st rfl) (EA (ee st rfl) (ee st rfl)) (QG aW z e ZA _ dH dI)) ?_;rintro _ d8 ⟨bA,rfl⟩;have cN:=cM.ext bA;refine Af<|Ab ?_;rcases Ao (dH) with bB|bB
    ·replace a:=AB a bB;refine AA rfl bB<|Aa<|wm rfl (v:=I n) a2 ?_;replace a:=AX a;obtain⟨dJ,a⟩:=a;refine wd rfl (fun st=>Bx (ee st rfl) (ee st rfl) dJ)<|wa rfl (v:=I (n+1)) rfl<|Af<|Ab<|Ae<|Aa<|wa rfl (v:=.bool true) rfl<|Af<|Ab<|Ae<|Ae<|Aa<|wm rfl (v:=I e) aC<|wa rfl (v:=I e) rfl<|Af<|Ab<|Ba ?_;replace a:=bind_some a;obtain⟨cE,aY,a⟩:=a;refine Cu (fun aZ d o=>(aZ=.exit 2∧d.tmps.size=46∧d.defers=(X0).ds∧sl d 1=I z∧sl d 2=pt m 0∧sl d 5=I (n+1)∧sl d 6=I e∧sl d 7=.bool cE∧Hp FN [] w [some m] o∧Bk o m 58 #[I b.Ah,I b.Ai,I b.Ap,I b.Ax,.slice h b.Ac.length j]∧Sl AI o (ZZ FN [] Z w.heap.size [some m]) h j b.Ac)) ?dK ?dL
     case dK=>
      clear a;refine Ct (fun(aG:Nat) (d:Act) (o:World)=>∃aN,∃g,Cj aW b z e aG aN g=some cE∧d.tmps.size=46∧d.defers=(X0).ds∧sl d 1=I z∧sl d 2=pt m 0∧sl d 5=I (n+1)∧sl d 6=I e∧sl d 7=.bool aN∧sl d 8=I g∧Hp FN [] w [some m] o∧Bk o m 58 #[I b.Ah,I b.Ai,I b.Ap,I b.Ax,.slice h b.Ac.length j]∧Sl AI o (ZZ FN [] Z w.heap.size [some m]) h j b.Ac) aW ?dM ?dN
      case dM=>
       intro st;have a3:=(aJ.ext bA);have aO:=(aH.mv (Aj bA));exact⟨true,e,aY,qz st,qd st,sp st 1 a0,sp st 2 aQ,sp st 5 rfl,sp st 6 aC,sp st 7 rfl,sp st 8 rfl,cN,a3,aO⟩
      case dN=>
       rintro(_|aG) d2 d3 ⟨aN,g,aY,cT,cU,aK,aD,aR,aL,bJ,aE,bK,t,y⟩
       ·exact absurd (show none=some _ from aY) (by simp)
       rw[Cj.eq_2] at aY;have a:=aY;clear aY;refine Ca (N:=46) cT cU<|Ae<|Ae<|Aa<|wm rfl (v:=I g) aE<|wm rfl (v:=I e) aL<|wd rfl (fun st=>Am (ee st aD) (HV _ _))<|wd rfl (fun st=>Aw (v:=I b.Ax) AY (ee st rfl) t rfl) ?_;replace a:=AX a;obtain⟨dO,a⟩:=a;refine wd rfl (fun st=>Bx (ee st rfl) (ee st rfl) dO)<|wd rfl (fun st=>ES (ee st rfl) (ee st rfl))<|Af<|Ab ?_;rcases Ao (decide (g≤(e+b.Ax))) with aS|aS
       ·replace a:=AB a aS;refine AA rfl aS<|AZ<|Ab<|Ae<|Ba<|Aa<|wm rfl (v:=.bool aN) bJ<|wm rfl (v:=.bool aN) rfl ?_;rcases Ao (aN) with k|k
        ·replace a:=AB a k;refine As rfl rfl (Ad rfl k) rfl (by decide) (fun st=>AR (v:=I g) (ee st aE))<|As rfl rfl (Ad rfl k) rfl (by decide) (fun st=>Am (ee st aD) (Fe _ _))<|As rfl rfl (Ad rfl k) rfl (by decide) (fun st=>Aw (v:=I b.Ah) AY (ee st rfl) t rfl)<|As rfl rfl (Ad rfl k) rfl (by decide) (fun st=>ES (ee st rfl) (ee st rfl))<|wd rfl (fun st=>AO (v:=.bool (decide (g≤b.Ah))) (ee st rfl) k (ee st rfl))<|wm rfl (v:=.bool (decide (g≤b.Ah))) rfl ?_;rcases Ao (decide (g≤b.Ah)) with q|q
         ·replace a:=AB a q;refine As rfl rfl (Ad rfl q) rfl (by decide) (fun st=>AR (v:=I z) (ee st aK))<|As rfl rfl (Ad rfl q) rfl (by decide) (fun st=>AR (v:=I g) (ee st aE)) ?_;replace a:=bind_some a;obtain⟨bL,cV,a⟩:=a;refine C8 rfl rfl (Ad rfl q) rfl (by decide) (fun st=>AE LB (ee st rfl) (EA (ee st rfl) (ee st rfl)) (QG aW z g ZA _ bL cV)) ?_;rintro _ d4 ⟨bE,rfl⟩;have dP:=bK.ext bE;refine wd rfl (fun st=>AO (v:=.bool bL) (ee st rfl) q (ee st rfl))<|wa rfl (v:=.bool bL) rfl<|Af<|Bm<|Ab<|Aa<|wm rfl (v:=I g) aE ?_;replace a:=AX a;obtain⟨cW,a⟩:=a;refine wd rfl (fun st=>Bx (ee st rfl) (ee st rfl) cW)<|wa rfl (v:=I (g+1)) rfl<|Af ?_;have cF:=(t.ext bE);have bR:=(y.mv (Aj bE));refine BC aG (Nat.lt_succ_self _) (fun st=>?_);exact⟨bL,(g+1),a,qz st,qd st,sp st 1 aK,sp st 2 aD,sp st 5 aR,sp st 6 aL,sp st 7 rfl,sp st 8 rfl,dP,cF,bR⟩
         ·replace a:=AD a q;refine Ak (c:=false) rfl rfl (Ad rfl q) (by decide) rfl (by decide)<|Ak (c:=false) rfl rfl (Ad rfl q) (by decide) rfl (by decide)<|Ak (c:=false) rfl rfl (Ad rfl q) (by decide) rfl (by decide)<|wd rfl (fun st=>Bs (v:=.bool false) (ee st rfl) q (ee st rfl))<|wa rfl (v:=.bool false) rfl<|Af<|Bm<|Ab<|Aa<|wm rfl (v:=I g) aE ?_;replace a:=AX a;obtain⟨cX,a⟩:=a;refine wd rfl (fun st=>Bx (ee st rfl) (ee st rfl) cX)<|wa rfl (v:=I (g+1)) rfl<|Af ?_;refine BC aG (Nat.lt_succ_self _) (fun st=>?_);exact⟨false,(g+1),a,qz st,qd st,sp st 1 aK,sp st 2 aD,sp st 5 aR,sp st 6 aL,sp st 7 rfl,sp st 8 rfl,bK,t,y⟩
        ·replace a:=AD a k;refine Ak (c:=false) rfl rfl (Ad rfl k) (by decide) rfl (by decide)<|Ak (c:=false) rfl rfl (Ad rfl k) (by decide) rfl (by decide)<|Ak (c:=false) rfl rfl (Ad rfl k) (by decide) rfl (by decide)<|Ak (c:=false) rfl rfl (Ad rfl k) (by decide) rfl (by decide)<|wd rfl (fun st=>Bs (v:=.bool false) (ee st rfl) k (ee st rfl))<|wm rfl (v:=.bool false) rfl<|Ak rfl rfl rfl (by decide) rfl (by decide)<|Ak rfl rfl rfl (by decide) rfl (by decide)<|Ak rfl rfl rfl (by decide) rfl (by decide)<|wd rfl (fun st=>Bs (v:=.bool false) (ee st rfl) rfl (ee st rfl))<|wa rfl (v:=.bool false) rfl<|Af<|Bm<|Ab<|Aa<|wm rfl (v:=I g) aE ?_;replace a:=AX a;obtain⟨cY,a⟩:=a;refine wd rfl (fun st=>Bx (ee st rfl) (ee st rfl) cY)<|wa rfl (v:=I (g+1)) rfl<|Af ?_;refine BC aG (Nat.lt_succ_self _) (fun st=>?_);exact⟨false,(g+1),a,qz st,qd st,sp st 1 aK,sp st 2 aD,sp st 5 aR,sp st 6 aL,sp st 7 rfl,sp st 8 rfl,bK,t,y⟩
       ·replace a:=AD a aS;refine AL rfl aS<|Cp<|AU<|AU ?_;obtain rfl:=Option.some.inj a;refine B4 (fun st=>?_);exact⟨rfl,qz st,qd st,sp st 1 aK,sp st 2 aD,sp st 5 aR,sp st 6 aL,sp st 7 bJ,bK,t,y⟩
     case dL=>
      rintro aZ dT d5 (⟨rfl,cG,cH,bZ,b1,b2,b3,b4,b5,b6,bF⟩);refine Cs (X:=X0) (N:=46) cG cH<|By<|Ab<|Ae<|Aa<|wm rfl (v:=.bool cE) b4<|Af<|Ab ?_;rcases Ao (cE) with aT|aT
      ·replace a:=AB a aT;refine AA rfl aT<|Ae<|Aa<|wa rfl (v:=.bool false) rfl<|Af<|Ab<|AH<|A3<|Ay<|Ay ?_;obtain rfl:=Option.some.inj a;refine B4 (fun st=>?_);exact .inl ⟨rfl,false,rfl,qz st,qd st,sp st 4 rfl,b5⟩
      ·replace a:=AD a aT;refine AL rfl aT<|AZ<|Bm<|Ab<|Aa<|wm rfl (v:=I e) b3 ?_;replace a:=AX a;obtain⟨cZ,a⟩:=a;refine wd rfl (fun st=>Bx (ee st rfl) (ee st rfl) cZ)<|wa rfl (v:=I (e+1)) rfl<|Af ?_;refine BC aG (Nat.lt_succ_self _) (fun st=>?_);exact⟨(n+1),(e+1),a,qz st,qd st,sp st 1 bZ,sp st 2 b1,sp st 5 b2,sp st 6 rfl,b5,b6,bF⟩
    ·replace a:=AD a bB;refine AL rfl bB<|AZ<|Ab<|Ae<|Aa<|wa rfl (v:=.bool true) rfl<|Af<|Ab<|Ae<|Ae<|Aa<|wm rfl (v:=I e) aC<|wa rfl (v:=I e) rfl<|Af<|Ab<|Ba ?_;replace a:=bind_some a;obtain⟨z20,aP,a⟩:=a;refine Cu (fun aZ d o=>(aZ=.exit 2∧d.tmps.size=46∧d.defers=(X0).ds∧sl d 1=I z∧sl d 2=pt m 0∧sl d 5=I n∧sl d 6=I e∧sl d 7=.bool z20∧Hp FN [] w [some m] o∧Bk o m 58 #[I b.Ah,I b.Ai,I b.Ap,I b.Ax,.slice h b.Ac.length j]∧Sl AI o (ZZ FN [] Z w.heap.size [some m]) h j b.Ac)) ?c0 ?c1
     case c0=>
      clear a;refine Ct (fun(aG:Nat) (d:Act) (o:World)=>∃aF,∃f,Ce aW b z e aG aF f=some z20∧d.tmps.size=46∧d.defers=(X0).ds∧sl d 1=I z∧sl d 2=pt m 0∧sl d 5=I n∧sl d 6=I e∧sl d 7=.bool aF∧sl d 8=I f∧Hp FN [] w [some m] o∧Bk o m 58 #[I b.Ah,I b.Ai,I b.Ap,I b.Ax,.slice h b.Ac.length j]∧Sl AI o (ZZ FN [] Z w.heap.size [some m]) h j b.Ac) aW ?c2 ?c3
      case c2=>
       intro st;have a3:=(aJ.ext bA);have aO:=(aH.mv (Aj bA));exact⟨true,e,aP,qz st,qd st,sp st 1 a0,sp st 2 aQ,sp st 5 a2,sp st 6 aC,sp st 7 rfl,sp st 8 rfl,cN,a3,aO⟩
      case c3=>
       rintro(_|aG) dU dV ⟨aF,f,aP,cI,cJ,aA,u,aM,aB,bC,x,bM,p,s⟩
       ·exact absurd (show none=some _ from aP) (by simp)
       rw[Ce.eq_2] at aP;have a:=aP;clear aP;refine Ca (N:=46) cI cJ<|Ae<|Ae<|Aa<|wm rfl (v:=I f) x<|wm rfl (v:=I e) aB<|wd rfl (fun st=>Am (ee st u) (HV _ _))<|wd rfl (fun st=>Aw (v:=I b.Ax) AY (ee st rfl) p rfl) ?_;replace a:=AX a;obtain⟨c4,a⟩:=a;refine wd rfl (fun st=>Bx (ee st rfl) (ee st rfl) c4)<|wd rfl (fun st=>ES (ee st rfl) (ee st rfl))<|Af<|Ab ?_;rcases Ao (decide (f≤(e+b.Ax))) with aU|aU
       ·replace a:=AB a aU;refine AA rfl aU<|AZ<|Ab<|Ae<|Ba<|Aa<|wm rfl (v:=.bool aF) bC<|wm rfl (v:=.bool aF) rfl ?_;rcases Ao (aF) with l|l
        ·replace a:=AB a l;refine As rfl rfl (Ad rfl l) rfl (by decide) (fun st=>AR (v:=I f) (ee st x))<|As rfl rfl (Ad rfl l) rfl (by decide) (fun st=>Am (ee st u) (Fe _ _))<|As rfl rfl (Ad rfl l) rfl (by decide) (fun st=>Aw (v:=I b.Ah) AY (ee st rfl) p rfl)<|As rfl rfl (Ad rfl l) rfl (by decide) (fun st=>ES (ee st rfl) (ee st rfl))<|wd rfl (fun st=>AO (v:=.bool (decide (f≤b.Ah))) (ee st rfl) l (ee st rfl))<|wm rfl (v:=.bool (decide (f≤b.Ah))) rfl ?_;rcases Ao (decide (f≤b.Ah)) with r|r
         ·replace a:=AB a r;refine As rfl rfl (Ad rfl r) rfl (by decide) (fun st=>AR (v:=I z) (ee st aA))<|As rfl rfl (Ad rfl r) rfl (by decide) (fun st=>AR (v:=I f) (ee st x)) ?_;replace a:=bind_some a;obtain⟨bN,c5,a⟩:=a;refine C8 rfl rfl (Ad rfl r) rfl (by decide) (fun st=>AE LB (ee st rfl) (EA (ee st rfl) (ee st rfl)) (QG aW z f ZA _ bN c5)) ?_;rintro _ d6 ⟨bG,rfl⟩;have dQ:=bM.ext bG;refine wd rfl (fun st=>AO (v:=.bool bN) (ee st rfl) r (ee st rfl))<|wa rfl (v:=.bool bN) rfl<|Af<|Bm<|Ab<|Aa<|wm rfl (v:=I f) x ?_;replace a:=AX a;obtain⟨c6,a⟩:=a;refine wd rfl (fun st=>Bx (ee st rfl) (ee st rfl) c6)<|wa rfl (v:=I (f+1)) rfl<|Af ?_;have cK:=(p.ext bG);have bS:=(s.mv (Aj bG));refine BC aG (Nat.lt_succ_self _) (fun st=>?_);exact⟨bN,(f+1),a,qz st,qd st,sp st 1 aA,sp st 2 u,sp st 5 aM,sp st 6 aB,sp st 7 rfl,sp st 8 rfl,dQ,cK,bS⟩
         ·replace a:=AD a r;refine Ak (c:=false) rfl rfl (Ad rfl r) (by decide) rfl (by decide)<|Ak (c:=false) rfl rfl (Ad rfl r) (by decide) rfl (by decide)<|Ak (c:=false) rfl rfl (Ad rfl r) (by decide) rfl (by decide)<|wd rfl (fun st=>Bs (v:=.bool false) (ee st rfl) r (ee st rfl))<|wa rfl (v:=.bool false) rfl<|Af<|Bm<|Ab<|Aa<|wm rfl (v:=I f) x ?_;replace a:=AX a;obtain⟨c7,a⟩:=a;refine wd rfl (fun st=>Bx (ee st rfl) (ee st rfl) c7)<|wa rfl (v:=I (f+1)) rfl<|Af ?_;refine BC aG (Nat.lt_succ_self _) (fun st=>?_);exact⟨false,(f+1),a,qz st,qd st,sp st 1 aA,sp st 2 u,sp st 5 aM,sp st 6 aB,sp st 7 rfl,sp st 8 rfl,bM,p,s⟩
        ·replace a:=AD a l;refine Ak (c:=false) rfl rfl (Ad rfl l) (by decide) rfl (by decide)<|Ak (c:=false) rfl rfl (Ad rfl l) (by decide) rfl (by decide)<|Ak (c:=false) rfl rfl (Ad rfl l) (by decide) rfl (by decide)<|Ak (c:=false) rfl rfl (Ad rfl l) (by decide) rfl (by decide)<|wd rfl (fun st=>Bs (v:=.bool false) (ee st rfl) l (ee st rfl))<|wm rfl (v:=.bool false) rfl<|Ak rfl rfl rfl (by decide) rfl (by decide)<|Ak rfl rfl rfl (by decide) rfl (by decide)<|Ak rfl rfl rfl (by decide) rfl (by decide)<|wd rfl (fun st=>Bs (v:=.bool false) (ee st rfl) rfl (ee st rfl))<|wa rfl (v:=.bool false) rfl<|Af<|Bm<|Ab<|Aa<|wm rfl (v:=I f) x ?_;replace a:=AX a;obtain⟨c8,a⟩:=a;refine wd rfl (fun st=>Bx (ee st rfl) (ee st rfl) c8)<|wa rfl (v:=I (f+1)) rfl<|Af ?_;refine BC aG (Nat.lt_succ_self _) (fun st=>?_);exact⟨false,(f+1),a,qz st,qd st,sp st 1 aA,sp st 2 u,sp st 5 aM,sp st 6 aB,sp st 7 rfl,sp st 8 rfl,bM,p,s⟩
       ·replace a:=AD a aU;refine AL rfl aU<|Cp<|AU<|AU ?_;obtain rfl:=Option.some.inj a;refine B4 (fun st=>?_);exact⟨rfl,qz st,qd st,sp st 1 aA,sp st 2 u,sp st 5 aM,sp st 6 aB,sp st 7 bC,bM,p,s⟩
     case c1=>
      rintro aZ dS dW (⟨rfl,b7,b8,bT,bU,bV,bW,bX,bO,bY,bD⟩);refine Cs (X:=X0) (N:=46) b7 b8<|By<|Ab<|Ae<|Aa<|wm rfl (v:=.bool z20) bX<|Af<|Ab ?_;rcases Ao (z20) with aV|aV
      ·replace a:=AB a aV;refine AA rfl aV<|Ae<|Aa<|wa rfl (v:=.bool false) rfl<|Af<|Ab<|AH<|A3<|Ay<|Ay ?_;obtain rfl:=Option.some.inj a;refine B4 (fun st=>?_);exact .inl ⟨rfl,false,rfl,qz st,qd st,sp st 4 rfl,bO⟩
      ·replace a:=AD a aV;refine AL rfl aV<|AZ<|Bm<|Ab<|Aa<|wm rfl (v:=I e) bW ?_;replace a:=AX a;obtain⟨c9,a⟩:=a;refine wd rfl (fun st=>Bx (ee st rfl) (ee st rfl) c9)<|wa rfl (v:=I (e+1)) rfl<|Af ?_;refine BC aG (Nat.lt_succ_self _) (fun st=>?_);exact⟨n,(e+1),a,qz st,qd st,sp st 1 bT,sp st 2 bU,sp st 5 bV,sp st 6 rfl,bO,bY,bD⟩
   ·replace a:=AD a a9;refine AL rfl a9<|Cp<|AU<|AU ?_;obtain rfl:=Option.some.inj a;refine B4 (fun st=>?_);exact .inr ⟨rfl,n,rfl,qz st,qd st,sp st 2 aQ,sp st 5 a2,cM,aJ,aH⟩
 case dE=>
  rintro aZ dX d7 (⟨rfl,aI,rfl,a4,a5,b9,bH⟩|⟨rfl,aI,rfl,a4,a5,cA,cB,bH,cC,dA⟩)
  ·skip
   replace a:=EB a;refine Cs (X:=X0) (N:=46) a4 a5<|A3<|Ay ?_;obtain rfl:=Option.some.inj a;refine AQ rfl b9 ?_;exact⟨bH.Bp,rfl⟩
  ·skip
   replace a:=EC a;refine Cs (X:=X0) (N:=46) a4 a5<|By<|Ab<|Ae<|Aa<|wm rfl (v:=I aI) cB<|wd rfl (fun st=>Am (ee st cA) (IM _ _))<|wd rfl (fun st=>Aw (v:=I b.Ap) AY (ee st rfl) cC rfl)<|wd rfl (fun st=>ES (ee st rfl) (ee st rfl))<|wa rfl (v:=.bool (decide (aI≤b.Ap))) rfl<|Af<|Ab<|AH ?_;obtain rfl:=Option.some.inj a;refine AQ rfl rfl ?_;exact⟨bH.Bp,rfl⟩
theorem a75(aY:Nat)(c:Aq)(h:Option Addr)(j:Nat)(Z:Nat→Prop)(w:World)(aZ:Sl AI w Z h j c.Ac)(bK:(List Int))(a:Ej aY c=some bK):
 BI Try.prog 75 #[.agg #[I c.Ah,I c.Ai,I c.Ap,I c.Ax,.slice h c.Ac.length j]] w (fun v w'=>Ext w w'∧(F5 (AJ .i64)).R w' (ZZ FN [] Z w.heap.size []) v bK):=by
 unfold Ej at a;refine A9 (N:=22) Try.func75 rfl rfl (by simp) ?_;intro b7 bL b8;have bC:=AM (i:=0) (v:=.agg #[I c.Ah,I c.Ai,I c.Ap,I c.Ax,.slice h c.Ac.length j]) bL rfl;clear bL;have bA:Hp FN [] w [] w:=Hp.start (BK.none w);have aM:=aZ.mv (Bn (Z:=Z) (L:=[]) w);refine Ae<|Aa<|we rfl (fun st=>BX (v:=.agg #[I c.Ah,I c.Ai,I c.Ap,I c.Ax,.slice h c.Ac.length j]) (cs:= #[I c.Ah,I c.Ai,I c.Ap,I c.Ax,.slice h c.Ac.length j]) (ee st bC) rfl) ?_;rintro _ w1 ⟨o,rfl,aK⟩;have bM:=bA.nb aK;have b4:=bA.BL aK;refine wa rfl (v:=.slice none 0 0) rfl<|Af<|Ab<|Ae<|Aa<|wa rfl (v:=.slice none 0 0) rfl<|Af<|Ab<|Ae<|Ae<|Aa<|wa rfl (v:=I 0) rfl<|Af<|Ab<|Ba ?_;have bN:Hp FN [] w [none,some o] w1:=bM.nil;have bO:AN (AJ .i64) 3 w.heap.size w1 (ZZ FN [] Z w.heap.size [none,some o]) none 0 ([]:List Int):=AN.nil _ _ _ _ _;replace a:=bind_some a;obtain⟨z2,aC,a⟩:=a;refine Cu (fun bP s aI=>(bP=.exit 0∧∃f m,s.tmps.size=22∧s.defers=(X0).ds∧sl s 3=.slice f z2.length m∧Hp FN [] w [ob f,some o] aI∧AN (AJ .i64) 3 w.heap.size aI (ZZ FN [] Z w.heap.size [ob f,some o]) f m z2)) ?bQ ?bR
 case bQ=>
  clear a;refine Ct (fun(a0:Nat) (s:Act) (aI:World)=>∃g,∃b,∃d n,CA aY c a0 g b=some z2∧s.tmps.size=22∧s.defers=(X0).ds∧sl s 1=pt o 0∧sl s 3=.slice d g.length n∧sl s 4=I b∧Hp FN [] w [ob d,some o] aI∧AN (AJ .i64) 3 w.heap.size aI (ZZ FN [] Z w.heap.size [ob d,some o]) d n g∧Bk aI o 58 #[I c.Ah,I c.Ai,I c.Ap,I c.Ax,.slice h c.Ac.length j]∧Sl AI aI (ZZ FN [] Z w.heap.size [ob d,some o]) h j c.Ac) aY ?bS ?bT
  case bS=>
   intro st;have a2:=aK.bk;have aN:Sl AI w1 (ZZ FN [] Z w.heap.size [none,some o]) h j c.Ac:=((aM.mv (Az aK)).mv Co);exact⟨([]:List Int),(0:Int),none,0,aC,qz st,qd st,sp st 1 rfl,sp st 3 rfl,sp st 4 rfl,bN,bO,a2,aN⟩
  case bT=>
   rintro(_|a0) b9 cA ⟨g,b,d,n,aC,bD,bE,z,aD,t,bB,p,u,q⟩
   ·exact absurd (show none=some _ from aC) (by simp)
   rw[CA.eq_2] at aC;have a:=aC;clear aC;refine Ca (N:=22) bD bE<|Ae<|Ae<|Aa<|wm rfl (v:=I b) t<|wd rfl (fun st=>Am (ee st z) (Fe _ _))<|wd rfl (fun st=>Aw (v:=I c.Ah) AY (ee st rfl) u rfl) ?_;replace a:=AX a;obtain⟨bU,a⟩:=a;refine wd rfl (fun st=>Bx (ee st rfl) (ee st rfl) bU) ?_;replace a:=GS a;obtain⟨bV,a⟩:=a;refine wd rfl (fun st=>HW (k:=.u64) Su Try.underlying112 (ee st rfl) bV) ?_;replace a:=LW a;obtain⟨bW,a⟩:=a;refine wd rfl (fun st=>QN (ee st rfl) (ee st rfl) bW)<|wd rfl (fun st=>CK (ee st rfl) (ee st rfl))<|Af<|Ab ?_;rcases Ao (decide (b<(GR (1:Int) (c.Ah+1)))) with aF|aF
   ·replace a:=AB a aF;refine AA rfl aF<|AZ<|Ab<|Ae<|Ba<|Ae<|Aa<|wd rfl (fun st=>A5 (l:=[I c.Ah,I c.Ai,I c.Ap,I c.Ax,.slice h c.Ac.length j]) C5 (ee st z) u rfl rfl)<|wm rfl (v:=I b) t ?_;replace a:=bind_some a;obtain⟨bX,bY,a⟩:=a;refine we rfl (fun st=>AE Sv (ee st rfl) (EA (ee st rfl) (ee st rfl)) (a93 aY c b h j ZA _ q.all bX bY)) ?_;rintro _ b5 ⟨x,rfl⟩;have aS:=bB.ext x;refine Af<|Ab ?_;rcases Ao (bX) with aA|aA
    ·replace a:=AB a aA;refine AA rfl aA<|Aa<|wm rfl (v:=.slice d g.length n) aD<|wm rfl (v:=I b) t<|we rfl (fun st=>BY (e:=3) (vs:= #[(0,I b)]) (cs:= #[I b]) (HH (ee st rfl)) (by kernel_rfl)) ?_;rintro _ bZ ⟨aT,rfl,r⟩;have aG:=aS.nb r;have b1:=aS.BL r;have aO:AN (AJ .i64) 3 w.heap.size bZ (ZZ FN [] Z w.heap.size [some aT,ob d,some o]) d n g:=((p.ext x (Aj x)).ext r.gr (Az r));replace a:=Db a;obtain⟨aU,a⟩:=a;refine we rfl (fun st=>KV (ys:=[b]) Try.underlying30 IN rfl rfl (by decide) (ee st rfl) rfl (ee st rfl) aO (NF (Bc:=[[I b]]) r.bk ⟨rfl,trivial⟩ rfl) (by have:=aU;simp only[maxLen];omega) (by have:=aU;omega) aG.sz (by simp)) ?_;rintro _ aH ⟨y,aL,rfl,aE,aJ,bF⟩;have b2:Hp FN [] w [some aT,ob y,some o] aH:=aG.row aE 1 rfl aJ;have bG:AN (AJ .i64) 3 w.heap.size aH (ZZ FN [] Z w.heap.size [some aT,ob y,some o]) y aL (g++[b]):=GF bF (aG.F7 aE 1 rfl (fun k bH=>(aJ k bH).1));refine wa rfl (v:=.slice y ((g++[b]).length) aL) rfl<|Af<|Bm<|Ab<|Aa<|wm rfl (v:=I b) t ?_;replace a:=AX a;obtain⟨bI,a⟩:=a;refine wd rfl (fun st=>Bx (ee st rfl) (ee st rfl) bI)<|wa rfl (v:=I (b+1)) rfl<|Af ?_;have b3:Hp FN [] w [ob y,some o] aH:=b2.erase 0;have aV:AN (AJ .i64) 3 w.heap.size aH (ZZ FN [] Z w.heap.size [ob y,some o]) y aL (g++[b]):=(bG.up (AS 0));have a3:=(((u.ext x).ext r.gr).gr aE (aG.ne 2 1 rfl rfl rfl));have aP:Sl AI aH (ZZ FN [] Z w.heap.size [ob y,some o]) h j c.Ac:=((((q.mv (Aj x)).mv (Az r)).mv (aG.F7 aE 1 rfl (fun k bH=>(aJ k bH).1))).mv (AS 0));refine BC a0 (Nat.lt_succ_self _) (fun st=>?_);exact⟨(g++[b]),(b+1),y,aL,a,qz st,qd st,sp st 1 z,sp st 3 rfl,sp st 4 rfl,b3,aV,a3,aP⟩
    ·replace a:=AD a aA;refine AL rfl aA<|AZ<|Bm<|Ab<|Aa<|wm rfl (v:=I b) t ?_;replace a:=AX a;obtain⟨bJ,a⟩:=a;refine wd rfl (fun st=>Bx (ee st rfl) (ee st rfl) bJ)<|wa rfl (v:=I (b+1)) rfl<|Af ?_;have aQ:AN (AJ .i64) 3 w.heap.size b5 (ZZ FN [] Z w.heap.size [ob d,some o]) d n g:=(p.ext x (Aj x));have a4:=(u.ext x);have aR:=(q.mv (Aj x));refine BC a0 (Nat.lt_succ_self _) (fun st=>?_);exact⟨g,(b+1),d,n,a,qz st,qd st,sp st 1 z,sp st 3 aD,sp st 4 rfl,aS,aQ,a4,aR⟩
   ·replace a:=AD a aF;refine AL rfl aF<|Cp<|AU<|AU ?_;obtain rfl:=Option.some.inj a;refine B4 (fun st=>?_);exact⟨rfl,d,n,qz st,qd st,sp st 3 aD,bB,p⟩
 case bR=>
  rintro bP b6 cB (⟨rfl,f,m,a5,a9,aW,aX,aB⟩);refine Cs (X:=X0) (N:=22) a5 a9<|By<|Ab<|Ae<|Aa<|wm rfl (v:=.slice f z2.length m) aW<|wa rfl (v:=.slice f z2.length m) rfl<|Af<|Ab<|AH ?_;obtain rfl:=Option.some.inj a;refine AQ rfl rfl ?_;exact⟨aX.Bp,⟨_,_,rfl,aX.Mx (M:=[]) 0 rfl [] rfl trivial aB⟩⟩
theorem T4(aA:Nat)(a:Aq)(c:Option Addr)(d:Nat)(Z:Nat→Prop)(w:World)(aF:Sl AI w Z c d a.Ac)(aV:Int)(b:DJ aA a=some aV):
 BI Try.prog 63 #[.agg #[I a.Ah,I a.Ai,I a.Ap,I a.Ax,.slice c a.Ac.length d]] w (fun v w'=>Ext w w'∧(Fq .i64).R w' (ZZ FN [] Z w.heap.size []) v aV):=by
 unfold DJ at b;refine A9 (N:=26) Try.func63 rfl rfl (by simp) ?_;intro bK aW bL;have aO:=AM (i:=0) (v:=.agg #[I a.Ah,I a.Ai,I a.Ap,I a.Ax,.slice c a.Ac.length d]) aW rfl;clear aW;have aL:Hp FN [] w [] w:=Hp.start (BK.none w);have u:=aF.mv (Bn (Z:=Z) (L:=[]) w);refine Ae<|Aa<|we rfl (fun st=>BX (v:=.agg #[I a.Ah,I a.Ai,I a.Ap,I a.Ax,.slice c a.Ac.length d]) (cs:= #[I a.Ah,I a.Ai,I a.Ap,I a.Ax,.slice c a.Ac.length d]) (ee st aO) rfl) ?_;rintro _ w1 ⟨x,rfl,q⟩;have aM:=aL.nb q;have bG:=aL.BL q;refine wa rfl (v:=I 0) rfl<|Af<|Ab<|Ae<|Aa<|wd rfl (fun st=>A5 (l:=[I a.Ah,I a.Ai,I a.Ap,I a.Ax,.slice c a.Ac.length d]) C5 (ee st rfl) q.bk rfl rfl) ?_;have m:=(u.mv (Az q));replace b:=bind_some b;obtain⟨r2,aX,b⟩:=b;refine we rfl (fun st=>AE Sw (ee st rfl) (BT (ee st rfl)) (a75 aA a c d (ZZ FN [] Z w.heap.size [some x]) _ m r2 aX)) ?_;rintro _ bP ⟨aB,⟨bH,bI,rfl,r⟩⟩;have aY:=aM.ext aB;have r:=r.mv (aM.BU (Nat.le_refl _));refine wd rfl (fun st=>BW Try.underlying30 (ee st rfl))<|wa rfl (v:=I (r2.length:Int)) rfl<|Af<|Ab<|Ae<|Ae<|Aa<|wa rfl (v:=I 0) rfl<|Af<|Ab<|Ba ?_;replace b:=bind_some b;obtain⟨z4,n,b⟩:=b;refine Cu (fun aZ f aC=>(aZ=.exit 0∧f.tmps.size=26∧f.defers=(X0).ds∧sl f 3=I z4∧Hp FN [] w [some x] aC)) ?a0 ?a2
 case a0=>
  clear b;refine Ct (fun(aP:Nat) (f:Act) (aC:World)=>∃g,∃e,Dz aA a aP g e=some z4∧f.tmps.size=26∧f.defers=(X0).ds∧sl f 1=pt x 0∧sl f 3=I g∧sl f 4=I e∧Hp FN [] w [some x] aC∧Bk aC x 58 #[I a.Ah,I a.Ai,I a.Ap,I a.Ax,.slice c a.Ac.length d]∧Sl AI aC (ZZ FN [] Z w.heap.size [some x]) c d a.Ac) aA ?a3 ?a4
  case a3=>
   intro st;have aG:=(q.bk.ext aB);have y:=(m.mv (Aj aB));exact⟨(r2.length:Int),(0:Int),n,qz st,qd st,sp st 1 rfl,sp st 3 rfl,sp st 4 rfl,aY,aG,y⟩
  case a4=>
   rintro(_|aP) bM bN ⟨g,e,n,aQ,aR,o,t,p,aN,h,j⟩
   ·exact absurd (show none=some _ from n) (by simp)
   rw[Dz.eq_2] at n;have b:=n;clear n;refine Ca (N:=26) aQ aR<|Ae<|Ae<|Aa<|wm rfl (v:=I e) p<|wd rfl (fun st=>Am (ee st o) (FG _ _))<|wd rfl (fun st=>Aw (v:=.slice c a.Ac.length d) GC (ee st rfl) h rfl)<|wd rfl (fun st=>BW Try.underlying56 (ee st rfl))<|wd rfl (fun st=>CK (ee st rfl) (ee st rfl))<|Af<|Ab ?_;rcases Ao (decide (e<(a.Ac.length:Int))) with s|s
   ·replace b:=AB b s;refine AA rfl s<|AZ<|Ab<|Ae<|Ba<|Aa<|wm rfl (v:=I g) t<|wd rfl (fun st=>Am (ee st o) (FG _ _))<|wd rfl (fun st=>Aw (v:=.slice c a.Ac.length d) GC (ee st rfl) h rfl)<|wm rfl (v:=I e) p ?_;replace b:=BB b;obtain⟨i6,aH,a5,a9,bA,b⟩:=b;obtain⟨bQ,bR,_,bB,rfl,bC⟩:=Sl.elem j (by decide) a9;refine wd rfl (fun st=>Cy (k:=i6) Try.underlying56 Kh (ee st rfl) bB (ee st rfl) a5 bA)<|wd rfl (fun st=>Am (ee st rfl) (NZ _ _ _))<|wd rfl (fun st=>DM (l:=[I aH.An,I aH.Ar]) PF (ee st rfl) bC rfl rfl) ?_;replace b:=bind_some b;obtain⟨aS,bD,b⟩:=b;refine we rfl (fun st=>AE Sx (ee st rfl) (BT (ee st rfl)) (a76 aA (⟨aH.An,aH.Ar⟩:CL) ZA _ aS bD)) ?_;rintro _ bS ⟨aD,rfl⟩;have bE:=aN.ext aD;replace b:=AX b;obtain⟨bF,b⟩:=b;refine wd rfl (fun st=>QJ (ee st rfl) (ee st rfl) bF)<|wd rfl (fun st=>KQ (ee st rfl) (ee st rfl))<|wa rfl (v:=I (min (3000:Int) (g*aS))) rfl<|Af<|Bm<|Ab<|Aa<|wm rfl (v:=I e) p ?_;replace b:=AX b;obtain⟨aT,b⟩:=b;refine wd rfl (fun st=>Bx (ee st rfl) (ee st rfl) aT)<|wa rfl (v:=I (e+1)) rfl<|Af ?_;have aI:=(h.ext aD);have z:=(j.mv (Aj aD));refine BC aP (Nat.lt_succ_self _) (fun st=>?_);exact⟨(min (3000:Int) (g*aS)),(e+1),b,qz st,qd st,sp st 1 o,sp st 3 rfl,sp st 4 rfl,bE,aI,z⟩
   ·replace b:=AD b s;refine AL rfl s<|Cp<|AU<|AU ?_;obtain rfl:=Option.some.inj b;refine B4 (fun st=>?_);exact⟨rfl,qz st,qd st,sp st 3 t,aN⟩
 case a2=>
  rintro aZ bJ bO (⟨rfl,aJ,aK,aE,aU⟩);refine Cs (X:=X0) (N:=26) aJ aK<|By<|Ab<|Ae<|Aa<|wm rfl (v:=I z4) aE<|wa rfl (v:=I z4) rfl<|Af<|Ab<|AH ?_;obtain rfl:=Option.some.inj b;refine AQ rfl rfl ?_;exact⟨aU.Bp,rfl⟩
theorem T5(aS:Nat)(b:Aq)(j:Option Addr)(m:Nat)(Z:Nat→Prop)(w:World)(bU:Sl AI w Z j m b.Ac)(c1:Int)(a:Ee aS b=some c1):
 BI Try.prog 62 #[.agg #[I b.Ah,I b.Ai,I b.Ap,I b.Ax,.slice j b.Ac.length m]] w (fun v w'=>Ext w w'∧(Fq .i64).R w' (ZZ FN [] Z w.heap.size []) v c1):=by
 unfold Ee at a;refine A9 (N:=101) Try.func62 rfl rfl (by simp) ?_;intro dG c2 dH;have b3:=AM (i:=0) (v:=.agg #[I b.Ah,I b.Ai,I b.Ap,I b.Ax,.slice j b.Ac.length m]) c2 rfl;clear c2;have bY:Hp FN [] w [] w:=Hp.start (BK.none w);have bC:=bU.mv (Bn (Z:=Z) (L:=[]) w);refine Ae<|Aa<|we rfl (fun st=>BX (v:=.agg #[I b.Ah,I b.Ai,I b.Ap,I b.Ax,.slice j b.Ac.length m]) (cs:= #[I b.Ah,I b.Ai,I b.Ap,I b.Ax,.slice j b.Ac.length m]) (ee st b3) rfl) ?_;rintro _ w1 ⟨x,rfl,y⟩;have aO:=bY.nb y;have dB:=bY.BL y;refine wa rfl (v:=I 0) rfl<|Af<|Ab<|Ae<|Ae<|Aa<|wd rfl (fun st=>Am (ee st rfl) (Fe _ _))<|wd rfl (fun st=>Aw (v:=I b.Ah) AY (ee st rfl) y.bk rfl)<|wd rfl (fun st=>FT (ee st rfl) (ee st rfl))<|wm rfl (v:=.bool (decide ((9:Int)<b.Ah))) rfl ?_;rcases Ao (decide ((9:Int)<b.Ah)) with z|z
 ·replace a:=AB a z;refine Ak (c:=true) rfl rfl (Ad rfl z) (by decide) rfl (by decide)<|Ak (c:=true) rfl rfl (Ad rfl z) (by decide) rfl (by decide)<|Ak (c:=true) rfl rfl (Ad rfl z) (by decide) rfl (by decide)<|wd rfl (fun st=>AO (v:=.bool true) (ee st rfl) z (ee st rfl))<|wm rfl (v:=.bool true) rfl<|Ak rfl rfl rfl (by decide) rfl (by decide)<|Ak rfl rfl rfl (by decide) rfl (by decide)<|Ak rfl rfl rfl (by decide) rfl (by decide)<|Ak rfl rfl rfl (by decide) rfl (by decide)<|wd rfl (fun st=>AO (v:=.bool true) (ee st rfl) rfl (ee st rfl))<|Af<|Ab<|AA rfl rfl<|Ae<|Aa<|wa rfl (v:=I 3) rfl<|Af<|Ab<|AH<|Ay ?_;obtain rfl:=Option.some.inj a;refine AQ rfl rfl ?_;exact⟨aO.Bp,rfl⟩
 ·replace a:=AD a z;refine As rfl rfl (Ad rfl z) rfl (by decide) (fun st=>Am (ee st rfl) (LC _ _))<|As rfl rfl (Ad rfl z) rfl (by decide) (fun st=>Aw (v:=I b.Ai) AY (ee st rfl) y.bk rfl)<|As rfl rfl (Ad rfl z) rfl (by decide) (fun st=>FT (ee st rfl) (ee st rfl))<|wd rfl (fun st=>Bs (v:=.bool (decide ((2:Int)<b.Ai))) (ee st rfl) z (ee st rfl))<|wm rfl (v:=.bool (decide ((2:Int)<b.Ai))) rfl ?_;rcases Ao (decide ((2:Int)<b.Ai)) with s|s
  ·replace a:=AB a s;refine Ak (c:=true) rfl rfl (Ad rfl s) (by decide) rfl (by decide)<|Ak (c:=true) rfl rfl (Ad rfl s) (by decide) rfl (by decide)<|Ak (c:=true) rfl rfl (Ad rfl s) (by decide) rfl (by decide)<|Ak (c:=true) rfl rfl (Ad rfl s) (by decide) rfl (by decide)<|wd rfl (fun st=>AO (v:=.bool true) (ee st rfl) s (ee st rfl))<|Af<|Ab<|AA rfl rfl<|Ae<|Aa<|wa rfl (v:=I 3) rfl<|Af<|Ab<|AH<|Ay ?_;obtain rfl:=Option.some.inj a;refine AQ rfl rfl ?_;exact⟨aO.Bp,rfl⟩
  ·replace a:=AD a s;refine As rfl rfl (Ad rfl s) rfl (by decide) (fun st=>Am (ee st rfl) (FG _ _))<|As rfl rfl (Ad rfl s) rfl (by decide) (fun st=>Aw (v:=.slice j b.Ac.length m) GC (ee st rfl) y.bk rfl)<|As rfl rfl (Ad rfl s) rfl (by decide) (fun st=>BW Try.underlying56 (ee st rfl))<|As rfl rfl (Ad rfl s) rfl (by decide) (fun st=>FT (ee st rfl) (ee st rfl))<|wd rfl (fun st=>Bs (v:=.bool (decide ((4:Int)<(b.Ac.length:Int)))) (ee st rfl) s (ee st rfl))<|Af<|Ab ?_;rcases Ao (decide ((4:Int)<(b.Ac.length:Int))) with aX|aX
   ·replace a:=AB a aX;refine AA rfl aX<|Ae<|Aa<|wa rfl (v:=I 3) rfl<|Af<|Ab<|AH<|Ay ?_;obtain rfl:=Option.some.inj a;refine AQ rfl rfl ?_;exact⟨aO.Bp,rfl⟩
   ·replace a:=AD a aX;refine AL rfl aX<|AZ<|Ab<|Ae<|Ae<|Aa<|wd rfl (fun st=>Am (ee st rfl) (Fe _ _))<|wd rfl (fun st=>Aw (v:=I b.Ah) AY (ee st rfl) y.bk rfl)<|wd rfl (fun st=>CK (ee st rfl) (ee st rfl))<|wm rfl (v:=.bool (decide (b.Ah<0))) rfl ?_;rcases Ao (decide (b.Ah<0)) with aA|aA
    ·replace a:=AB a aA;refine Ak (c:=true) rfl rfl (Ad rfl aA) (by decide) rfl (by decide)<|Ak (c:=true) rfl rfl (Ad rfl aA) (by decide) rfl (by decide)<|Ak (c:=true) rfl rfl (Ad rfl aA) (by decide) rfl (by decide)<|wd rfl (fun st=>AO (v:=.bool true) (ee st rfl) aA (ee st rfl))<|wm rfl (v:=.bool true) rfl<|Ak rfl rfl rfl (by decide) rfl (by decide)<|Ak rfl rfl rfl (by decide) rfl (by decide)<|Ak rfl rfl rfl (by decide) rfl (by decide)<|Ak rfl rfl rfl (by decide) rfl (by decide)<|Ak rfl rfl rfl (by decide) rfl (by decide)<|Ak rfl rfl rfl (by decide) rfl (by decide)<|Ak rfl rfl rfl (by decide) rfl (by decide)<|wd rfl (fun st=>AO (v:=.bool true) (ee st rfl) rfl (ee st rfl))<|wm rfl (v:=.bool true) rfl<|Ak rfl rfl rfl (by decide) rfl (by decide)<|Ak rfl rfl rfl (by decide) rfl (by decide)<|Ak rfl rfl rfl (by decide) rfl (by decide)<|Ak rfl rfl rfl (by decide) rfl (by decide)<|Ak rfl rfl rfl (by decide) rfl (by decide)<|Ak rfl rfl rfl (by decide) rfl (by decide)<|Ak rfl rfl rfl (by decide) rfl (by decide)<|wd rfl (fun st=>AO (v:=.bool true) (ee st rfl) rfl (ee st rfl))<|Af<|Ab<|AA rfl rfl<|Ae<|Aa<|wa rfl (v:=I 1) rfl<|Af<|Ab<|AH<|Ay ?_;obtain rfl:=Option.some.inj a;refine AQ rfl rfl ?_;exact⟨aO.Bp,rfl⟩
    ·replace a:=AD a aA;refine As rfl rfl (Ad rfl aA) rfl (by decide) (fun st=>Am (ee st rfl) (LC _ _))<|As rfl rfl (Ad rfl aA) rfl (by decide) (fun st=>Aw (v:=I b.Ai) AY (ee st rfl) y.bk rfl)<|As rfl rfl (Ad rfl aA) rfl (by decide) (fun st=>CK (ee st rfl) (ee st rfl))<|wd rfl (fun st=>Bs (v:=.bool (decide (b.Ai<1))) (ee st rfl) aA (ee st rfl))<|wm rfl (v:=.bool (decide (b.Ai<1))) rfl ?_;rcases Ao (decide (b.Ai<1)) with p|p
     ·replace a:=AB a p;refine Ak (c:=true) rfl rfl (Ad rfl p) (by decide) rfl (by decide)<|Ak (c:=true) rfl rfl (Ad rfl p) (by decide) rfl (by decide)<|Ak (c:=true) rfl rfl (Ad rfl p) (by decide) rfl (by decide)<|Ak (c:=true) rfl rfl (Ad rfl p) (by decide) rfl (by decide)<|Ak (c:=true) rfl rfl (Ad rfl p) (by decide) rfl (by decide)<|Ak (c:=true) rfl rfl (Ad rfl p) (by decide) rfl (by decide)<|Ak (c:=true) rfl rfl (Ad rfl p) (by decide) rfl (by decide)<|wd rfl (fun st=>AO (v:=.bool true) (ee st rfl) p (ee st rfl))<|wm rfl (v:=.bool true) rfl<|Ak rfl rfl rfl (by decide) rfl (by decide)<|Ak rfl rfl rfl (by decide) rfl (by decide)<|Ak rfl rfl rfl (by decide) rfl (by decide)<|Ak rfl rfl rfl (by decide) rfl (by decide)<|Ak rfl rfl rfl (by decide) rfl (by decide)<|Ak rfl rfl rfl (by decide) rfl (by decide)<|Ak rfl rfl rfl (by decide) rfl (by decide)<|wd rfl (fun st=>AO (v:=.bool true) (ee st rfl) rfl (ee st rfl))<|Af<|Ab<|AA rfl rfl<|Ae<|Aa<|wa rfl (v:=I 1) rfl<|Af<|Ab<|AH<|Ay ?_;obtain rfl:=Option.some.inj a;refine AQ rfl rfl ?_;exact⟨aO.Bp,rfl⟩
     ·replace a:=AD a p;refine As rfl rfl (Ad rfl p) rfl (by decide) (fun st=>Am (ee st rfl) (IM _ _))<|As rfl rfl (Ad rfl p) rfl (by decide) (fun st=>Aw (v:=I b.Ap) AY (ee st rfl) y.bk rfl)<|As rfl rfl (Ad rfl p) rfl (by decide) (fun st=>Am (ee st rfl) (Fe _ _))<|As rfl rfl (Ad rfl p) rfl (by decide) (fun st=>Aw (v:=I b.Ah) AY (ee st rfl) y.bk rfl) ?_;replace a:=AX a;obtain⟨c3,a⟩:=a;refine As rfl rfl (Ad rfl p) rfl (by decide) (fun st=>Bx (ee st rfl) (ee st rfl) c3) ?_;replace a:=bind_some a;obtain⟨bD,c4,a⟩:=a;refine C8 rfl rfl (Ad rfl p) rfl (by decide) (fun st=>AE JZ (ee st rfl) (Fk (ee st rfl) (ee st rfl) (ee st rfl)) (P1 aS b.Ap 0 (b.Ah+1) ZA _ bD c4)) ?_;rintro _ dO ⟨bJ,rfl⟩;have bZ:=aO.ext bJ;refine As rfl rfl (Ad rfl p) rfl (by decide) (fun st=>Di (ee st rfl))<|wd rfl (fun st=>Bs (v:=.bool !bD) (ee st rfl) p (ee st rfl))<|wm rfl (v:=.bool !bD) rfl ?_;rcases Ao (!bD) with e|e
      ·replace a:=AB a e;have cR:bD=false:=by simpa using e
       refine Ak (c:=true) rfl rfl (Ad rfl e) (by decide) rfl (by decide)<|Ak (c:=true) rfl rfl (Ad rfl e) (by decide) rfl (by decide)<|Ak (c:=true) rfl rfl (Ad rfl e) (by decide) rfl (by decide)<|Ak (c:=true) rfl rfl (Ad rfl e) (by decide) rfl (by decide)<|Ak (c:=true) rfl rfl (Ad rfl e) (by decide) rfl (by decide)<|Ak (c:=true) rfl rfl (Ad rfl e) (by decide) rfl (by decide)<|Ak (c:=true) rfl rfl (Ad rfl e) (by decide) rfl (by decide)<|wd rfl (fun st=>AO (v:=.bool true) (ee st rfl) e (ee st rfl))<|Af<|Ab<|AA rfl rfl<|Ae<|Aa<|wa rfl (v:=I 1) rfl<|Af<|Ab<|AH<|Ay ?_;obtain rfl:=Option.some.inj a;refine AQ rfl rfl ?_;exact⟨bZ.Bp,rfl⟩
      ·replace a:=AD a e;have cS:bD=true:=by simpa using e
       refine As rfl rfl (Ad rfl e) rfl (by decide) (fun st=>Am (ee st rfl) (HV _ _)) ?_;have aT:=(y.bk.ext bJ);refine As rfl rfl (Ad rfl e) rfl (by decide) (fun st=>Aw (v:=I b.Ax) AY (ee st rfl) aT rfl)<|As rfl rfl (Ad rfl e) rfl (by decide) (fun st=>Am (ee st rfl) (Fe _ _))<|As rfl rfl (Ad rfl e) rfl (by decide) (fun st=>Aw (v:=I b.Ah) AY (ee st rfl) aT rfl) ?_;replace a:=AX a;obtain⟨b4,a⟩:=a;refine As rfl rfl (Ad rfl e) rfl (by decide) (fun st=>Bx (ee st rfl) (ee st rfl) b4) ?_;replace a:=bind_some a;obtain⟨aY,b5,a⟩:=a;refine C8 rfl rfl (Ad rfl e) rfl (by decide) (fun st=>AE JZ (ee st rfl) (Fk (ee st rfl) (ee st rfl) (ee st rfl)) (P1 aS b.Ax 0 (b.Ah+1) ZA _ aY b5)) ?_;rintro _ dI ⟨a4,rfl⟩;have b1:=bZ.ext a4;refine As rfl rfl (Ad rfl e) rfl (by decide) (fun st=>Di (ee st rfl))<|wd rfl (fun st=>Bs (v:=.bool !aY) (ee st rfl) e (ee st rfl))<|Af<|Ab ?_;rcases Ao (!aY) with aE|aE
       ·replace a:=AB a aE;have cT:aY=false:=by simpa using aE
        refine AA rfl aE<|Ae<|Aa<|wa rfl (v:=I 1) rfl<|Af<|Ab<|AH<|Ay ?_;obtain rfl:=Option.some.inj a;refine AQ rfl rfl ?_;exact⟨b1.Bp,rfl⟩
       ·replace a:=AD a aE;have cU:aY=true:=by simpa using aE
        refine AL rfl aE<|AZ<|Ab<|Ae<|Ae<|Aa<|wa rfl (v:=I 0) rfl<|Af<|Ab<|Ba ?_;replace a:=bind_some a;obtain⟨bK,aG,a⟩:=a;refine Cu (fun b6 aB aZ=>(b6=.ret∧∃aH,bK=.inl aH∧aB.tmps.size=101∧aB.defers=(X0).ds∧sl aB 2=I aH∧Hp FN [] w [some x] aZ)∨(b6=.exit 0∧∃aH,bK=.inr aH∧aB.tmps.size=101∧aB.defers=(X0).ds∧sl aB 1=pt x 0∧Hp FN [] w [some x] aZ∧Bk aZ x 58 #[I b.Ah,I b.Ai,I b.Ap,I b.Ax,.slice j b.Ac.length m]∧Sl AI aZ (ZZ FN [] Z w.heap.size [some x]) j m b.Ac)) ?b7 ?b8
        case b7=>
         clear a;refine Ct (fun(b9:Nat) (aB:Act) (aZ:World)=>∃r,Dc aS b b9 r=some bK∧aB.tmps.size=101∧aB.defers=(X0).ds∧sl aB 1=pt x 0∧sl aB 3=I r∧Hp FN [] w [some x] aZ∧Bk aZ x 58 #[I b.Ah,I b.Ai,I b.Ap,I b.Ax,.slice j b.Ac.length m]∧Sl AI aZ (ZZ FN [] Z w.heap.size [some x]) j m b.Ac) aS ?cA ?cB
         case cA=>
          intro st;have bV:=(aT.ext a4);have bE:=(((bC.mv (Az y)).mv (Aj bJ)).mv (Aj a4));exact⟨(0:Int),aG,qz st,qd st,sp st 1 rfl,sp st 3 rfl,b1,bV,bE⟩
         case cB=>
          rintro(_|b9) dD dE ⟨r,aG,bW,bX,t,aI,bL,aD,aC⟩
          ·exact absurd (show none=some _ from aG) (by simp)
          rw[Dc.eq_2] at aG;have a:=aG;clear aG;refine Ca (N:=101) bW bX<|Ae<|Ae<|Aa<|wm rfl (v:=I r) aI<|wd rfl (fun st=>Am (ee st t) (FG _ _))<|wd rfl (fun st=>Aw (v:=.slice j b.Ac.length m) GC (ee st rfl) aD rfl)<|wd rfl (fun st=>BW Try.underlying56 (ee st rfl))<|wd rfl (fun st=>CK (ee st rfl) (ee st rfl))<|Af<|Ab ?_;rcases Ao (decide (r<(b.Ac.length:Int))) with aJ|aJ
          ·replace a:=AB a aJ;refine AA rfl aJ<|AZ<|Ab<|Ae<|Ba<|Ae<|Aa<|wd rfl (fun st=>Am (ee st t) (FG _ _))<|wd rfl (fun st=>Aw (v:=.slice j b.Ac.length m) GC (ee st rfl) aD rfl)<|wm rfl (v:=I r) aI ?_;replace a:=BB a;obtain⟨i21,d,cC,cD,cE,a⟩:=a;obtain⟨dJ,dK,_,cF,rfl,cG⟩:=Sl.elem aC (by decide) cD;refine wd rfl (fun st=>Cy (k:=i21) Try.underlying56 Kh (ee st rfl) cF (ee st rfl) cC cE)<|wd rfl (fun st=>DM (l:=[I d.An,I d.Ar,I d.AF,I d.Bi,I d.Bl]) PG (ee st rfl) cG rfl rfl)<|we rfl (fun st=>BP (cs:= #[I 0,I 0,I 0,I 0,I 0]) N0 rfl) ?_;rintro _ dL ⟨dM,rfl,aK⟩;have bM:=bL.nb aK;have c5:=bL.BL aK;refine Bg rfl rfl (fun st=>Bb (n:=5) (l:=[I d.An,I d.Ar,I d.AF,I d.Bi,I d.Bl]) (B1:= #[I d.An,I d.Ar,I d.AF,I d.Bi,I d.Bl]) (ee st rfl) (ee st rfl) Kh aK.bk rfl rfl (show 0+5≤5 by decide) (AP rfl) rfl) ?_;rintro _ bN u;have bA:=bM.gr u.gr 0 rfl;refine Af<|Ab<|Ae<|Aa<|wd rfl (fun st=>Am (ee st rfl) (IP _ _))<|wd rfl (fun st=>Am (ee st rfl) (Kf _ _))<|wd rfl (fun st=>Aw (v:=I d.An) AY (ee st rfl) u.bk rfl)<|wd rfl (fun st=>CK (ee st rfl) (ee st rfl))<|wm rfl (v:=.bool (decide (d.An<0))) rfl ?_;rcases Ao (decide (d.An<0)) with f|f
           ·replace a:=AB a f;refine Ak (c:=true) rfl rfl (Ad rfl f) (by decide) rfl (by decide)<|Ak (c:=true) rfl rfl (Ad rfl f) (by decide) rfl (by decide)<|Ak (c:=true) rfl rfl (Ad rfl f) (by decide) rfl (by decide)<|Ak (c:=true) rfl rfl (Ad rfl f) (by decide) rfl (by decide)<|Ak (c:=true) rfl rfl (Ad rfl f) (by decide) rfl (by decide)<|Ak (c:=true) rfl rfl (Ad rfl f) (by decide) rfl (by decide)<|Ak (c:=true) rfl rfl (Ad rfl f) (by decide) rfl (by decide)<|wd rfl (fun st=>AO (v:=.bool true) (ee st rfl) f (ee st rfl))<|wm rfl (v:=.bool true) rfl<|Ak rfl rfl rfl (by decide) rfl (by decide)<|Ak rfl rfl rfl (by decide) rfl (by decide)<|Ak rfl rfl rfl (by decide) rfl (by decide)<|Ak rfl rfl rfl (by decide) rfl (by decide)<|Ak rfl rfl rfl (by decide) rfl (by decide)<|Ak rfl rfl rfl (by decide) rfl (by decide)<|wd rfl (fun st=>AO (v:=.bool true) (ee st rfl) rfl (ee st rfl))<|wm rfl (v:=.bool true) rfl<|Ak rfl rfl rfl (by decide) rfl (by decide)<|Ak rfl rfl rfl (by decide) rfl (by decide)<|Ak rfl rfl rfl (by decide) rfl (by decide)<|Ak rfl rfl rfl (by decide) rfl (by decide)<|wd rfl (fun st=>AO (v:=.bool true) (ee st rfl) rfl (ee st rfl))<|wm rfl (v:=.bool true) rfl<|Ak rfl rfl rfl (by decide) rfl (by decide)<|Ak rfl rfl rfl (by decide) rfl (by decide)<|Ak rfl rfl rfl (by decide) rfl (by decide)<|Ak rfl rfl rfl (by decide) rfl (by decide)<|wd rfl (fun st=>AO (v:=.bool true) (ee st rfl) rfl (ee st rfl))<|wm rfl (v:=.bool true) rfl<|Ak rfl rfl rfl (by decide) rfl (by decide)<|Ak rfl rfl rfl (by decide) rfl (by decide)<|Ak rfl rfl rfl (by decide) rfl (by decide)<|Ak rfl rfl rfl (by decide) rfl (by decide)<|Ak rfl rfl rfl (by decide) rfl (by decide)<|Ak rfl rfl rfl (by decide) rfl (by decide)<|wd rfl (fun st=>AO (v:=.bool true) (ee st rfl) rfl (ee st rfl))<|Af<|Ab<|AA rfl rfl<|Ae ?_;refine Aa<|wa rfl (v:=I 1) rfl<|Af<|Ab<|AH<|A3<|Ay<|Ay ?_;have c6:Hp FN [] w [some x] bN:=bA.erase 0;obtain rfl:=Option.some.inj a;refine B4 (fun st=>?_);exact .inl ⟨rfl,(1:Int),rfl,qz st,qd st,sp st 2 rfl,c6⟩
           ·replace a:=AD a f;refine As rfl rfl (Ad rfl f) rfl (by decide) (fun st=>Am (ee st rfl) (IP _ _))<|As rfl rfl (Ad rfl f) rfl (by decide) (fun st=>Am (ee st rfl) (Kf _ _))<|As rfl rfl (Ad rfl f) rfl (by decide) (fun st=>Aw (v:=I d.An) AY (ee st rfl) u.bk rfl)<|As rfl rfl (Ad rfl f) rfl (by decide) (fun st=>Am (ee st rfl) (IP _ _))<|As rfl rfl (Ad rfl f) rfl (by decide) (fun st=>Am (ee st rfl) (Ke _ _))<|As rfl rfl (Ad rfl f) rfl (by decide) (fun st=>Aw (v:=I d.Ar) AY (ee st rfl) u.bk rfl)<|As rfl rfl (Ad rfl f) rfl (by decide) (fun st=>FT (ee st rfl) (ee st rfl))<|wd rfl (fun st=>Bs (v:=.bool (decide (d.Ar<d.An))) (ee st rfl) f (ee st rfl))<|wm rfl (v:=.bool (decide (d.Ar<d.An))) rfl ?_;rcases Ao (decide (d.Ar<d.An)) with h|h
            ·replace a:=AB a h;refine Ak (c:=true) rfl rfl (Ad rfl h) (by decide) rfl (by decide)<|Ak (c:=true) rfl rfl (Ad rfl h) (by decide) rfl (by decide)<|Ak (c:=true) rfl rfl (Ad rfl h) (by decide) rfl (by decide)<|Ak (c:=true) rfl rfl (Ad rfl h) (by decide) rfl (by decide)<|Ak (c:=true) rfl rfl (Ad rfl h) (by decide) rfl (by decide)<|Ak (c:=true) rfl rfl (Ad rfl h) (by decide) rfl (by decide)<|wd rfl (fun st=>AO (v:=.bool true) (ee st rfl) h (ee st rfl))<|wm rfl (v:=.bool true) rfl<|Ak rfl rfl rfl (by decide) rfl (by decide)<|Ak rfl rfl rfl (by decide) rfl (by decide)<|Ak rfl rfl rfl (by decide) rfl (by decide)<|Ak rfl rfl rfl (by decide) rfl (by decide)<|wd rfl (fun st=>AO (v:=.bool true) (ee st rfl) rfl (ee st rfl))<|wm rfl (v:=.bool true) rfl<|Ak rfl rfl rfl (by decide) rfl (by decide)<|Ak rfl rfl rfl (by decide) rfl (by decide)<|Ak rfl rfl rfl (by decide) rfl (by decide)<|Ak rfl rfl rfl (by decide) rfl (by decide)<|wd rfl (fun st=>AO (v:=.bool true) (ee st rfl) rfl (ee st rfl))<|wm rfl (v:=.bool true) rfl<|Ak rfl rfl rfl (by decide) rfl (by decide)<|Ak rfl rfl rfl (by decide) rfl (by decide)<|Ak rfl rfl rfl (by decide) rfl (by decide)<|Ak rfl rfl rfl (by decide) rfl (by decide)<|Ak rfl rfl rfl (by decide) rfl (by decide)<|Ak rfl rfl rfl (by decide) rfl (by decide)<|wd rfl (fun st=>AO (v:=.bool true) (ee st rfl) rfl (ee st rfl))<|Af<|Ab<|AA rfl rfl<|Ae<|Aa<|wa rfl (v:=I 1) rfl<|Af<|Ab<|AH<|A3<|Ay<|Ay ?_;have c7:Hp FN [] w [some x] bN:=bA.erase 0;obtain rfl:=Option.some.inj a;refine B4 (fun st=>?_);exact .inl ⟨rfl,(1:Int),rfl,qz st,qd st,sp st 2 rfl,c7⟩
            ·replace a:=AD a h;refine As rfl rfl (Ad rfl h) rfl (by decide) (fun st=>Am (ee st rfl) (IP _ _))<|As rfl rfl (Ad rfl h) rfl (by decide) (fun st=>Am (ee st rfl) (Ke _ _))<|As rfl rfl (Ad rfl h) rfl (by decide) (fun st=>Aw (v:=I d.Ar) AY (ee st rfl) u.bk rfl)<|As rfl rfl (Ad rfl h) rfl (by decide) (fun st=>Am (ee st t) (Fe _ _)) ?_;have bB:=((aD.ext aK.gr).gr u.gr (bM.ne 1 0 rfl rfl rfl));refine As rfl rfl (Ad rfl h) rfl (by decide) (fun st=>Aw (v:=I b.Ah) AY (ee st rfl) bB rfl)<|As rfl rfl (Ad rfl h) rfl (by decide) (fun st=>FT (ee st rfl) (ee st rfl))<|wd rfl (fun st=>Bs (v:=.bool (decide (b.Ah<d.Ar))) (ee st rfl) h (ee st rfl))<|wm rfl (v:=.bool (decide (b.Ah<d.Ar))) rfl ?_;rcases Ao (decide (b.Ah<d.Ar)) with q|q
             ·replace a:=AB a q;refine Ak (c:=true) rfl rfl (Ad rfl q) (by decide) rfl (by decide)<|Ak (c:=true) rfl rfl (Ad rfl q) (by decide) rfl (by decide)<|Ak (c:=true) rfl rfl (Ad rfl q) (by decide) rfl (by decide)<|Ak (c:=true) rfl rfl (Ad rfl q) (by decide) rfl (by decide)<|wd rfl (fun st=>AO (v:=.bool true) (ee st rfl) q (ee st rfl))<|wm rfl (v:=.bool true) rfl<|Ak rfl rfl rfl (by decide) rfl (by decide)<|Ak rfl rfl rfl (by decide) rfl (by decide)<|Ak rfl rfl rfl (by decide) rfl (by decide)<|Ak rfl rfl rfl (by decide) rfl (by decide)<|wd rfl (fun st=>AO (v:=.bool true) (ee st rfl) rfl (ee st rfl))<|wm rfl (v:=.bool true) rfl<|Ak rfl rfl rfl (by decide) rfl (by decide)<|Ak rfl rfl rfl (by decide) rfl (by decide)<|Ak rfl rfl rfl (by decide) rfl (by decide)<|Ak rfl rfl rfl (by decide) rfl (by decide)<|Ak rfl rfl rfl (by decide) rfl (by decide)<|Ak rfl rfl rfl (by decide) rfl (by decide)<|wd rfl (fun st=>AO (v:=.bool true) (ee st rfl) rfl (ee st rfl))<|Af<|Ab<|AA rfl rfl<|Ae<|Aa<|wa rfl (v:=I 1) rfl<|Af<|Ab<|AH<|A3<|Ay<|Ay ?_;have c8:Hp FN [] w [some x] bN:=bA.erase 0;obtain rfl:=Option.some.inj a;refine B4 (fun st=>?_);exact .inl ⟨rfl,(1:Int),rfl,qz st,qd st,sp st 2 rfl,c8⟩
             ·replace a:=AD a q;refine As rfl rfl (Ad rfl q) rfl (by decide) (fun st=>Am (ee st rfl) (N1 _ _))<|As rfl rfl (Ad rfl q) rfl (by decide) (fun st=>Aw (v:=I d.AF) AY (ee st rfl) u.bk rfl) ?_;replace a:=bind_some a;obtain⟨aP,cH,a⟩:=a;refine C8 rfl rfl (Ad rfl q) rfl (by decide) (fun st=>AE JZ (ee st rfl) (Fk (ee st rfl) (ee st rfl) (ee st rfl)) (P1 aS d.AF 1 5 ZA _ aP cH)) ?_;rintro _ c9 ⟨aU,rfl⟩;have bO:=bA.ext aU;refine As rfl rfl (Ad rfl q) rfl (by decide) (fun st=>Di (ee st rfl))<|wd rfl (fun st=>Bs (v:=.bool !aP) (ee st rfl) q (ee st rfl))<|wm rfl (v:=.bool !aP) rfl ?_;rcases Ao (!aP) with o|o
              ·replace a:=AB a o;have cV:aP=false:=by simpa using o
               refine Ak (c:=true) rfl rfl (Ad rfl o) (by decide) rfl (by decide)<|Ak (c:=true) rfl rfl (Ad rfl o) (by decide) rfl (by decide)<|Ak (c:=true) rfl rfl (Ad rfl o) (by decide) rfl (by decide)<|Ak (c:=true) rfl rfl (Ad rfl o) (by decide) rfl (by decide)<|wd rfl (fun st=>AO (v:=.bool true) (ee st rfl) o (ee st rfl))<|wm rfl (v:=.bool true) rfl<|Ak rfl rfl rfl (by decide) rfl (by decide)<|Ak rfl rfl rfl (by decide) rfl (by decide)<|Ak rfl rfl rfl (by decide) rfl (by decide)<|Ak rfl rfl rfl (by decide) rfl (by decide)<|Ak rfl rfl rfl (by decide) rfl (by decide)<|Ak rfl rfl rfl (by decide) rfl (by decide)<|wd rfl (fun st=>AO (v:=.bool true) (ee st rfl) rfl (ee st rfl))<|Af<|Ab<|AA rfl rfl<|Ae<|Aa<|wa rfl (v:=I 1) rfl<|Af<|Ab<|AH<|A3<|Ay<|Ay ?_;have cI:Hp FN [] w [some x] c9:=bO.erase 0;obtain rfl:=Option.some.inj a;refine B4 (fun st=>?_);exact .inl ⟨rfl,(1:Int),rfl,qz st,qd st,sp st 2 rfl,cI⟩
              ·replace a:=AD a o;have cW:aP=true:=by simpa using o
               refine As rfl rfl (Ad rfl o) rfl (by decide) (fun st=>Am (ee st rfl) (N2 _ _)) ?_;have aQ:=(u.bk.ext aU);refine As rfl rfl (Ad rfl o) rfl (by decide) (fun st=>Aw (v:=I d.Bi) AY (ee st rfl) aQ rfl) ?_;replace a:=bind_some a;obtain⟨aR,cJ,a⟩:=a;refine C8 rfl rfl (Ad rfl o) rfl (by decide) (fun st=>AE JZ (ee st rfl) (Fk (ee st rfl) (ee st rfl) (ee st rfl)) (P1 aS d.Bi 1 5 ZA _ aR cJ)) ?_;rintro _ dA ⟨aV,rfl⟩;have bP:=bO.ext aV;refine As rfl rfl (Ad rfl o) rfl (by decide) (fun st=>Di (ee st rfl))<|wd rfl (fun st=>Bs (v:=.bool !aR) (ee st rfl) o (ee st rfl))<|wm rfl (v:=.bool !aR) rfl ?_;rcases Ao (!aR) with g|g
               ·replace a:=AB a g;have cX:aR=false:=by simpa using g
                refine Ak (c:=true) rfl rfl (Ad rfl g) (by decide) rfl (by decide)<|Ak (c:=true) rfl rfl (Ad rfl g) (by decide) rfl (by decide)<|Ak (c:=true) rfl rfl (Ad rfl g) (by decide) rfl (by decide)<|Ak (c:=true) rfl rfl (Ad rfl g) (by decide) rfl (by decide)<|Ak (c:=true) rfl rfl (Ad rfl g) (by decide) rfl (by decide)<|Ak (c:=true) rfl rfl (Ad rfl g) (by decide) rfl (by decide)<|wd rfl (fun st=>AO (v:=.bool true) (ee st rfl) g (ee st rfl))<|Af<|Ab<|AA rfl rfl<|Ae<|Aa<|wa rfl (v:=I 1) rfl<|Af<|Ab<|AH<|A3<|Ay<|Ay ?_;have cK:Hp FN [] w [some x] dA:=bP.erase 0;obtain rfl:=Option.some.inj a;refine B4 (fun st=>?_);exact .inl ⟨rfl,(1:Int),rfl,qz st,qd st,sp st 2 rfl,cK⟩
               ·replace a:=AD a g;have cY:aR=true:=by simpa using g
                refine As rfl rfl (Ad rfl g) rfl (by decide) (fun st=>Am (ee st rfl) (N3 _ _)) ?_;have bF:=(aQ.ext aV);refine As rfl rfl (Ad rfl g) rfl (by decide) (fun st=>Aw (v:=I d.Bl) AY (ee st rfl) bF rfl)<|As rfl rfl (Ad rfl g) rfl (by decide) (fun st=>Am (ee st t) (Fe _ _)) ?_;have a0:=((bB.ext aU).ext aV);refine As rfl rfl (Ad rfl g) rfl (by decide) (fun st=>Aw (v:=I b.Ah) AY (ee st rfl) a0 rfl) ?_;replace a:=bind_some a;obtain⟨a2,cL,a⟩:=a;refine C8 rfl rfl (Ad rfl g) rfl (by decide) (fun st=>AE JZ (ee st rfl) (Fk (ee st rfl) (ee st rfl) (ee st rfl)) (P1 aS d.Bl 0 b.Ah ZA _ a2 cL)) ?_;rintro _ bQ ⟨a5,rfl⟩;have bR:=bP.ext a5;refine As rfl rfl (Ad rfl g) rfl (by decide) (fun st=>Di (ee st rfl))<|wd rfl (fun st=>Bs (v:=.bool !a2) (ee st rfl) g (ee st rfl))<|Af<|Ab ?_;rcases Ao (!a2) with aF|aF
                ·replace a:=AB a aF;have cZ:a2=false:=by simpa using aF
                 refine AA rfl aF<|Ae<|Aa<|wa rfl (v:=I 1) rfl<|Af<|Ab<|AH<|A3<|Ay<|Ay ?_;have cM:Hp FN [] w [some x] bQ:=bR.erase 0;obtain rfl:=Option.some.inj a;refine B4 (fun st=>?_);exact .inl ⟨rfl,(1:Int),rfl,qz st,qd st,sp st 2 rfl,cM⟩
                ·replace a:=AD a aF;have c0:a2=true:=by simpa using aF
                 refine AL rfl aF<|AZ<|Bm<|Ab<|Aa<|wm rfl (v:=I r) aI ?_;replace a:=AX a;obtain⟨cN,a⟩:=a;refine wd rfl (fun st=>Bx (ee st rfl) (ee st rfl) cN)<|wa rfl (v:=I (r+1)) rfl<|Af ?_;have cO:Hp FN [] w [some x] bQ:=bR.erase 0;have bS:=(a0.ext a5);have a9:Sl AI bQ (ZZ FN [] Z w.heap.size [some x]) j m b.Ac:=((((((aC.mv (Az aK)).mv (bM.AT u.gr 0 rfl)).mv (Aj aU)).mv (Aj aV)).mv (Aj a5)).mv (AS 0));refine BC b9 (Nat.lt_succ_self _) (fun st=>?_);exact⟨(r+1),a,qz st,qd st,sp st 1 t,sp st 3 rfl,cO,bS,a9⟩
          ·replace a:=AD a aJ;refine AL rfl aJ<|Cp<|AU<|AU ?_;obtain rfl:=Option.some.inj a;refine B4 (fun st=>?_);exact .inr ⟨rfl,(),rfl,qz st,qd st,sp st 1 t,bL,aD,aC⟩
        case b8=>
         rintro b6 dC dF (⟨rfl,aH,rfl,aL,aM,bG,aW⟩|⟨rfl,aH,rfl,aL,aM,bH,aW,bI,a3⟩)
         ·skip
          replace a:=EB a;refine Cs (X:=X0) (N:=101) aL aM<|A3<|Ay ?_;obtain rfl:=Option.some.inj a;refine AQ rfl bG ?_;exact⟨aW.Bp,rfl⟩
         ·skip
          replace a:=EC a;refine Cs (X:=X0) (N:=101) aL aM<|By<|Ab<|Ae<|Ae<|Aa<|wd rfl (fun st=>A5 (l:=[I b.Ah,I b.Ai,I b.Ap,I b.Ax,.slice j b.Ac.length m]) C5 (ee st bH) bI rfl rfl) ?_;replace a:=bind_some a;obtain⟨b2,cP,a⟩:=a;refine we rfl (fun st=>AE PH (ee st rfl) (BT (ee st rfl)) (T4 aS b j m ZA _ a3.all b2 cP)) ?_;rintro _ dN ⟨cQ,rfl⟩;have bT:=aW.ext cQ;refine wd rfl (fun st=>FT (ee st rfl) (ee st rfl))<|Af<|Ab ?_;rcases Ao (decide ((1000:Int)<b2)) with aN|aN
          ·replace a:=AB a aN;refine AA rfl aN<|Ae<|Aa<|wa rfl (v:=I 3) rfl<|Af<|Ab<|AH<|Ay ?_;obtain rfl:=Option.some.inj a;refine AQ rfl rfl ?_;exact⟨bT.Bp,rfl⟩
          ·replace a:=AD a aN;refine AL rfl aN<|AZ<|Ab<|Ae<|Aa<|wa rfl (v:=I 0) rfl<|Af<|Ab<|AH ?_;obtain rfl:=Option.some.inj a;refine AQ rfl rfl ?_;exact⟨bT.Bp,rfl⟩
theorem Un(p:Nat)(e:Aq)(b:Au)(h:Option Addr)(j:Nat)(Z:Nat→Prop)(w:World)(x:Sl AI w Z h j e.Ac)(aO:Bool)(a:EF p e b=some aO):
 BI Try.prog 35 #[.agg #[I e.Ah,I e.Ai,I e.Ap,I e.Ax,.slice h e.Ac.length j],.agg #[I b.An,I b.Ar,I b.AF,I b.Bi,I b.Bl]] w (fun v w'=>Ext w w'∧BN.R w' (ZZ FN [] Z w.heap.size []) v aO):=by
 unfold EF at a;refine A9 (N:=27) Try.func35 rfl rfl (by simp) ?_;intro aW aH aX;have aI:=AM (i:=0) (v:=.agg #[I e.Ah,I e.Ai,I e.Ap,I e.Ax,.slice h e.Ac.length j]) aH rfl;have aJ:=AM (i:=1) (v:=.agg #[I b.An,I b.Ar,I b.AF,I b.Bi,I b.Bl]) aH rfl;clear aH;have aC:Hp FN [] w [] w:=Hp.start (BK.none w);have aN:=x.mv (Bn (Z:=Z) (L:=[]) w);refine Ae<|Aa<|we rfl (fun st=>BX (v:=.agg #[I e.Ah,I e.Ai,I e.Ap,I e.Ax,.slice h e.Ac.length j]) (cs:= #[I e.Ah,I e.Ai,I e.Ap,I e.Ax,.slice h e.Ac.length j]) (ee st aI) rfl) ?_;rintro _ w1 ⟨a0,rfl,q⟩;have aD:=aC.nb q;have aU:=aC.BL q;refine we rfl (fun st=>BX (v:=.agg #[I b.An,I b.Ar,I b.AF,I b.Bi,I b.Bl]) (cs:= #[I b.An,I b.Ar,I b.AF,I b.Bi,I b.Bl]) (ee st aJ) rfl) ?_;rintro _ w2 ⟨a2,rfl,k⟩;have aP:=aD.nb k;have aV:=aD.BL k;refine wa rfl (v:=.bool false) rfl<|Af<|Ab<|Ae<|Aa<|wd rfl (fun st=>Am (ee st rfl) (Ki _ _))<|wd rfl (fun st=>A5 (l:=[I b.An,I b.Ar]) Lf (ee st rfl) k.bk rfl rfl)<|wd rfl (fun st=>Am (ee st rfl) (G0 _ _)) ?_;have m:=(q.bk.ext k.gr);refine wd rfl (fun st=>Aw (v:=I e.Ah) AY (ee st rfl) m rfl) ?_;replace a:=bind_some a;obtain⟨aK,aQ,a⟩:=a;refine we rfl (fun st=>AE Sy (ee st rfl) (EA (ee st rfl) (ee st rfl)) (Um p (⟨b.An,b.Ar⟩:CL) e.Ah ZA _ aK aQ)) ?_;rintro _ a3 ⟨r,rfl⟩;have aE:=aP.ext r;refine wm rfl (v:=.bool aK) rfl ?_;rcases Ao (aK) with f|f
 ·replace a:=AB a f;refine As rfl rfl (Ad rfl f) rfl (by decide) (fun st=>Am (ee st rfl) (Ho _ _)) ?_;have n:=(k.bk.ext r);refine As rfl rfl (Ad rfl f) rfl (by decide) (fun st=>Aw (v:=I b.AF) AY (ee st rfl) n rfl) ?_;replace a:=bind_some a;obtain⟨y,aR,a⟩:=a;refine C8 rfl rfl (Ad rfl f) rfl (by decide) (fun st=>AE PI (ee st rfl) (BT (ee st rfl)) (T0 p b.AF ZA _ y aR)) ?_;rintro _ a4 ⟨s,rfl⟩;have aF:=aE.ext s;refine wd rfl (fun st=>AO (v:=.bool y) (ee st rfl) f (ee st rfl))<|wm rfl (v:=.bool y) rfl ?_;rcases Ao (y) with g|g
  ·replace a:=AB a g;refine As rfl rfl (Ad rfl g) rfl (by decide) (fun st=>Am (ee st rfl) (LD _ _)) ?_;have o:=(n.ext s);refine As rfl rfl (Ad rfl g) rfl (by decide) (fun st=>Aw (v:=I b.Bi) AY (ee st rfl) o rfl) ?_;replace a:=bind_some a;obtain⟨z,aS,a⟩:=a;refine C8 rfl rfl (Ad rfl g) rfl (by decide) (fun st=>AE PI (ee st rfl) (BT (ee st rfl)) (T0 p b.Bi ZA _ z aS)) ?_;rintro _ aY ⟨t,rfl⟩;have aG:=aF.ext t;refine wd rfl (fun st=>AO (v:=.bool z) (ee st rfl) g (ee st rfl))<|wm rfl (v:=.bool z) rfl ?_;rcases Ao (z) with d|d
   ·replace a:=AB a d;refine As rfl rfl (Ad rfl d) rfl (by decide) (fun st=>Am (ee st rfl) (NY _ _)) ?_;have aA:=(o.ext t);refine As rfl rfl (Ad rfl d) rfl (by decide) (fun st=>Aw (v:=I b.Bl) AY (ee st rfl) aA rfl)<|As rfl rfl (Ad rfl d) rfl (by decide) (fun st=>Am (ee st rfl) (G0 _ _)) ?_;have aB:=(((m.ext r).ext s).ext t);refine As rfl rfl (Ad rfl d) rfl (by decide) (fun st=>Aw (v:=I e.Ah) AY (ee st rfl) aB rfl) ?_;replace a:=bind_some a;obtain⟨u,aL,a⟩:=a;refine C8 rfl rfl (Ad rfl d) rfl (by decide) (fun st=>AE IL (ee st rfl) (Fk (ee st rfl) (ee st rfl) (ee st rfl)) (Og p b.Bl 0 e.Ah ZA _ u aL)) ?_;rintro _ aZ ⟨aM,rfl⟩;have aT:=aG.ext aM;refine wd rfl (fun st=>AO (v:=.bool u) (ee st rfl) d (ee st rfl))<|wa rfl (v:=.bool u) rfl<|Af<|Ab<|AH ?_;obtain rfl:=Option.some.inj a;refine AQ rfl rfl ?_;exact⟨aT.Bp,rfl⟩
   ·replace a:=AD a d;refine Ak (c:=false) rfl rfl (Ad rfl d) (by decide) rfl (by decide)<|Ak (c:=false) rfl rfl (Ad rfl d) (by decide) rfl (by decide)<|Ak (c:=false) rfl rfl (Ad rfl d) (by decide) rfl (by decide)<|Ak (c:=false) rfl rfl (Ad rfl d) (by decide) rfl (by decide)<|Ak (c:=false) rfl rfl (Ad rfl d) (by decide) rfl (by decide)<|wd rfl (fun st=>Bs (v:=.bool false) (ee st rfl) d (ee st rfl))<|wa rfl (v:=.bool false) rfl<|Af<|Ab<|AH ?_;obtain rfl:=Option.some.inj a;refine AQ rfl rfl ?_;exact⟨aG.Bp,rfl⟩
  ·replace a:=AD a g;refine Ak (c:=false) rfl rfl (Ad rfl g) (by decide) rfl (by decide)<|Ak (c:=false) rfl rfl (Ad rfl g) (by decide) rfl (by decide)<|Ak (c:=false) rfl rfl (Ad rfl g) (by decide) rfl (by decide)<|wd rfl (fun st=>Bs (v:=.bool false) (ee st rfl) g (ee st rfl))<|wm rfl (v:=.bool false) rfl<|Ak rfl rfl rfl (by decide) rfl (by decide)<|Ak rfl rfl rfl (by decide) rfl (by decide)<|Ak rfl rfl rfl (by decide) rfl (by decide)<|Ak rfl rfl rfl (by decide) rfl (by decide)<|Ak rfl rfl rfl (by decide) rfl (by decide)<|wd rfl (fun st=>Bs (v:=.bool false) (ee st rfl) rfl (ee st rfl))<|wa rfl (v:=.bool false) rfl<|Af<|Ab<|AH ?_;obtain rfl:=Option.some.inj a;refine AQ rfl rfl ?_;exact⟨aF.Bp,rfl⟩
 ·replace a:=AD a f;refine Ak (c:=false) rfl rfl (Ad rfl f) (by decide) rfl (by decide)<|Ak (c:=false) rfl rfl (Ad rfl f) (by decide) rfl (by decide)<|Ak (c:=false) rfl rfl (Ad rfl f) (by decide) rfl (by decide)<|wd rfl (fun st=>Bs (v:=.bool false) (ee st rfl) f (ee st rfl))<|wm rfl (v:=.bool false) rfl<|Ak rfl rfl rfl (by decide) rfl (by decide)<|Ak rfl rfl rfl (by decide) rfl (by decide)<|Ak rfl rfl rfl (by decide) rfl (by decide)<|wd rfl (fun st=>Bs (v:=.bool false) (ee st rfl) rfl (ee st rfl))<|wm rfl (v:=.bool false) rfl<|Ak rfl rfl rfl (by decide) rfl (by decide)<|Ak rfl rfl rfl (by decide) rfl (by decide)<|Ak rfl rfl rfl (by decide) rfl (by decide)<|Ak rfl rfl rfl (by decide) rfl (by decide)<|Ak rfl rfl rfl (by decide) rfl (by decide)<|wd rfl (fun st=>Bs (v:=.bool false) (ee st rfl) rfl (ee st rfl))<|wa rfl (v:=.bool false) rfl<|Af<|Ab<|AH ?_;obtain rfl:=Option.some.inj a;refine AQ rfl rfl ?_;exact⟨aE.Bp,rfl⟩
theorem Uo(aT:Nat)(h:List Int)(n:List Int)(c:Option Addr)(d:Nat)(f:Option Addr)(g:Nat)(Z:Nat→Prop)(w:World)(aJ:Sl (AJ .i64) w Z c d h)(aK:Sl (AJ .i64) w Z f g n)(aU:Bool)(a:E8 aT h n=some aU):
 BI Try.prog 41 #[.slice c h.length d,.slice f n.length g] w (fun v w'=>Ext w w'∧BN.R w' (ZZ FN [] Z w.heap.size []) v aU):=by
 unfold E8 at a;refine A9 (N:=26) Try.func41 rfl rfl (by simp) ?_;intro bL aO bM;have aF:=AM (i:=0) (v:=.slice c h.length d) aO rfl;have aG:=AM (i:=1) (v:=.slice f n.length g) aO rfl;clear aO;have aL:Hp FN [] w [] w:=Hp.start (BK.none w);have aA:=aJ.mv (Bn (Z:=Z) (L:=[]) w);have aB:=aK.mv (Bn (Z:=Z) (L:=[]) w);refine Ae<|Aa<|wa rfl (v:=.bool false) rfl<|Af<|Ab<|Ae<|Ae<|Aa<|wm rfl (v:=.slice c h.length d) aF<|wd rfl (fun st=>BW Try.underlying30 (ee st rfl))<|wm rfl (v:=.slice f n.length g) aG<|wd rfl (fun st=>BW Try.underlying30 (ee st rfl))<|wd rfl (fun st=>Gh (ee st rfl) (ee st rfl))<|Af<|Ab ?_;rcases Ao ((h.length:Int) !=(n.length:Int)) with t|t
 ·replace a:=AB a t;refine AA rfl t<|Ae<|Aa<|wa rfl (v:=.bool false) rfl<|Af<|Ab<|AH<|Ay ?_;obtain rfl:=Option.some.inj a;refine AQ rfl rfl ?_;exact⟨aL.Bp,rfl⟩
 ·replace a:=AD a t;refine AL rfl t<|AZ<|Ab<|Ae<|Ae<|Aa<|wa rfl (v:=I 0) rfl<|Af<|Ab<|Ba ?_;replace a:=bind_some a;obtain⟨z2,o,a⟩:=a;refine Cu (fun aP e aC=>(aP=.ret∧∃p,z2=.inl p∧e.tmps.size=26∧e.defers=(X0).ds∧sl e 4=.bool p∧Hp FN [] w [] aC)∨(aP=.exit 0∧∃p,z2=.inr p∧e.tmps.size=26∧e.defers=(X0).ds∧Hp FN [] w [] aC)) ?aV ?aW
  case aV=>
   clear a;refine Ct (fun(aQ:Nat) (e:Act) (aC:World)=>∃b,DA h n aQ b=some z2∧e.tmps.size=26∧e.defers=(X0).ds∧sl e 0=.slice c h.length d∧sl e 1=.slice f n.length g∧sl e 5=I b∧Hp FN [] w [] aC∧Sl (AJ .i64) aC (ZZ FN [] Z w.heap.size []) c d h∧Sl (AJ .i64) aC (ZZ FN [] Z w.heap.size []) f g n) aT ?aX ?aY
   case aX=>
    intro st;exact⟨(0:Int),o,qz st,qd st,sp st 0 aF,sp st 1 aG,sp st 5 rfl,aL,aA,aB⟩
   case aY=>
    rintro(_|aQ) bN bO ⟨b,o,aR,aS,q,z,j,aM,l,m⟩
    ·exact absurd (show none=some _ from o) (by simp)
    rw[DA.eq_2] at o;have a:=o;clear o;refine Ca (N:=26) aR aS<|Ae<|Ae<|Aa<|wm rfl (v:=I b) j<|wm rfl (v:=.slice c h.length d) q<|wd rfl (fun st=>BW Try.underlying30 (ee st rfl))<|wd rfl (fun st=>CK (ee st rfl) (ee st rfl))<|Af<|Ab ?_;rcases Ao (decide (b<(h.length:Int))) with u|u
    ·replace a:=AB a u;refine AA rfl u<|AZ<|Ab<|Ae<|Ba<|Ae ?_;replace a:=BB a;obtain⟨i5,aZ,a0,a2,a3,a⟩:=a;obtain⟨bG,bH,_,a4,rfl,a5⟩:=Sl.Fb l rfl a2;replace a:=BB a;obtain⟨i6,a9,bA,bB,bC,a⟩:=a;obtain⟨bI,bJ,_,bD,rfl,bE⟩:=Sl.Fb m rfl bB;refine Da 8 [Kc (.slice c h.length d),Kc (I b),Kc (pt bG (bH+i5)),Kc (I aZ),Kc (.slice f n.length g),Kc (I b),Kc (pt bI (bJ+i6)),Kc (I a9)] mixed rfl rfl
         (Ag (od rfl (fun _=>rfl) (fun K=>AR (es ((K.out 0 rfl).trans q))))
         (Ag (od rfl (fun _=>rfl) (fun K=>AR (es ((K.out 5 rfl).trans j))))
         (Ag (od rfl (fun _=>rfl) (fun K=>BR (k:=i5) Try.underlying30 Dh (es (K.AK 0 17 rfl rfl)) a4 (es (K.AK 1 18 rfl rfl)) a0 a3))
         (Ag (od rfl (fun _=>rfl) (fun K=>Cz AY (es (K.AK 2 19 rfl rfl)) (a5.mv (Aj K.Bo)) rfl))
         (Ag (od rfl (fun _=>rfl) (fun K=>AR (es ((K.out 1 rfl).trans z))))
         (Ag (od rfl (fun _=>rfl) (fun K=>AR (es ((K.out 5 rfl).trans j))))
         (Ag (od rfl (fun _=>rfl) (fun K=>BR (k:=i6) Try.underlying30 Dh (es (K.AK 4 21 rfl rfl)) bD (es (K.AK 5 22 rfl rfl)) bA bC))
         (Ag (od rfl (fun _=>rfl) (fun K=>Cz AY (es (K.AK 6 23 rfl rfl)) (bE.mv (Aj K.Bo)) rfl))
         (Ch _))))))))) ?_
     intro bQ;rintro _ rfl _ rfl _ rfl _ rfl _ rfl _ rfl _ rfl _ rfl aH;have aN:=aM.ext aH;refine wd rfl (fun st=>Gh (ee st rfl) (ee st rfl))<|Af<|Ab ?_;rcases Ao (aZ !=a9) with x|x
     ·replace a:=AB a x;refine AA rfl x<|Ae<|Aa<|wa rfl (v:=.bool false) rfl<|Af<|Ab<|AH<|A3<|Ay<|Ay ?_;obtain rfl:=Option.some.inj a;refine B4 (fun st=>?_);exact .inl ⟨rfl,false,rfl,qz st,qd st,sp st 4 rfl,aN⟩
     ·replace a:=AD a x;refine AL rfl x<|AZ<|Bm<|Ab<|Aa<|wm rfl (v:=I b) j ?_;replace a:=AX a;obtain⟨bF,a⟩:=a;refine wd rfl (fun st=>Bx (ee st rfl) (ee st rfl) bF)<|wa rfl (v:=I (b+1)) rfl<|Af ?_;have aD:=(l.mv (Aj aH));have aE:=(m.mv (Aj aH));refine BC aQ (Nat.lt_succ_self _) (fun st=>?_);exact⟨(b+1),a,qz st,qd st,sp st 0 q,sp st 1 z,sp st 5 rfl,aN,aD,aE⟩
    ·replace a:=AD a u;refine AL rfl u<|Cp<|AU<|AU ?_;obtain rfl:=Option.some.inj a;refine B4 (fun st=>?_);exact .inr ⟨rfl,(),rfl,qz st,qd st,aM⟩
  case aW=>
   rintro aP bK bP (⟨rfl,p,rfl,r,s,aI,y⟩|⟨rfl,p,rfl,r,s,y⟩)
   ·skip
    replace a:=EB a;refine Cs (X:=X0) (N:=26) r s<|A3<|Ay ?_;obtain rfl:=Option.some.inj a;refine AQ rfl aI ?_;exact⟨y.Bp,rfl⟩
   ·skip
    replace a:=EC a;refine Cs (X:=X0) (N:=26) r s<|By<|Ab<|Ae<|Aa<|wa rfl (v:=.bool true) rfl<|Af<|Ab<|AH ?_;obtain rfl:=Option.some.inj a;refine AQ rfl rfl ?_;exact⟨y.Bp,rfl⟩
theorem a21(a9:Nat)(p:List Int)(q:List Int)(g:Option Addr)(h:Nat)(j:Option Addr)(l:Nat)(Z:Nat→Prop)(w:World)(bA:Sl (AJ .i64) w Z g h p)(bB:Sl (AJ .i64) w Z j l q)(bU:Bool)(a:Dk a9 p q=some bU):
 BI Try.prog 21 #[.slice g p.length h,.slice j q.length l] w (fun v w'=>Ext w w'∧BN.R w' (ZZ FN [] Z w.heap.size []) v bU):=by
 unfold Dk at a;refine A9 (N:=34) Try.func21 rfl rfl (by simp) ?_;intro cP bI cQ;have bJ:=AM (i:=0) (v:=.slice g p.length h) bI rfl;have bK:=AM (i:=1) (v:=.slice j q.length l) bI rfl;clear bI;have bV:Hp FN [] w [] w:=Hp.start (BK.none w);have aR:=bA.mv (Bn (Z:=Z) (L:=[]) w);have aS:=bB.mv (Bn (Z:=Z) (L:=[]) w);refine Ae<|Aa<|wa rfl (v:=.bool false) rfl<|Af<|Ab<|Ae<|Ae<|Aa<|wa rfl (v:=I 0) rfl<|Af<|Ab<|Ba ?_;replace a:=bind_some a;obtain⟨bL,aB,a⟩:=a;refine Cu (fun aT b s=>(aT=.ret∧∃aC,bL=.inl aC∧b.tmps.size=34∧b.defers=(X0).ds∧sl b 4=.bool aC∧Hp FN [] w [] s)∨(aT=.exit 0∧∃aC,bL=.inr aC∧b.tmps.size=34∧b.defers=(X0).ds∧Hp FN [] w [] s)) ?bW ?bX
 case bW=>
  clear a;refine Ct (fun(aH:Nat) (b:Act) (s:World)=>∃e,Dd a9 p q aH e=some bL∧b.tmps.size=34∧b.defers=(X0).ds∧sl b 0=.slice g p.length h∧sl b 1=.slice j q.length l∧sl b 5=I e∧Hp FN [] w [] s∧Sl (AJ .i64) s (ZZ FN [] Z w.heap.size []) g h p∧Sl (AJ .i64) s (ZZ FN [] Z w.heap.size []) j l q) a9 ?bY ?bZ
  case bY=>
   intro st;exact⟨(0:Int),aB,qz st,qd st,sp st 0 bJ,sp st 1 bK,sp st 5 rfl,bV,aR,aS⟩
  case bZ=>
   rintro(_|aH) cR cS ⟨e,aB,bM,bN,aP,bC,aQ,bH,aK,aL⟩
   ·exact absurd (show none=some _ from aB) (by simp)
   rw[Dd.eq_2] at aB;have a:=aB;clear aB;refine Ca (N:=34) bM bN<|Ae<|Ae<|Aa<|wm rfl (v:=I e) aQ<|wm rfl (v:=.slice g p.length h) aP<|wd rfl (fun st=>BW Try.underlying30 (ee st rfl))<|wd rfl (fun st=>CK (ee st rfl) (ee st rfl))<|Af<|Ab ?_;rcases Ao (decide (e<(p.length:Int))) with aI|aI
   ·replace a:=AB a aI;refine AA rfl aI<|AZ<|Ab<|Ae<|Ba<|Ae<|Aa<|wa rfl (v:=.bool false) rfl<|Af<|Ab<|Ae<|Ae<|Aa<|wa rfl (v:=I 0) rfl<|Af<|Ab<|Ba ?_;replace a:=bind_some a;obtain⟨z3,aD,a⟩:=a;refine Cu (fun aT b s=>(aT=.exit 2∧b.tmps.size=34∧b.defers=(X0).ds∧sl b 0=.slice g p.length h∧sl b 1=.slice j q.length l∧sl b 5=I e∧sl b 6=.bool z3∧Hp FN [] w [] s∧Sl (AJ .i64) s (ZZ FN [] Z w.heap.size []) g h p∧Sl (AJ .i64) s (ZZ FN [] Z w.heap.size []) j l q)) ?b1 ?b2
    case b1=>
     clear a;refine Ct (fun(aH:Nat) (b:Act) (s:World)=>∃o,∃f,CR p q e aH o f=some z3∧b.tmps.size=34∧b.defers=(X0).ds∧sl b 0=.slice g p.length h∧sl b 1=.slice j q.length l∧sl b 5=I e∧sl b 6=.bool o∧sl b 7=I f∧Hp FN [] w [] s∧Sl (AJ .i64) s (ZZ FN [] Z w.heap.size []) g h p∧Sl (AJ .i64) s (ZZ FN [] Z w.heap.size []) j l q) a9 ?b3 ?b4
     case b3=>
      intro st;exact⟨false,(0:Int),aD,qz st,qd st,sp st 0 aP,sp st 1 bC,sp st 5 aQ,sp st 6 rfl,sp st 7 rfl,bH,aK,aL⟩
     case b4=>
      rintro(_|aH) cT cU ⟨o,f,aD,bO,bP,x,u,y,aE,z,aY,m,n⟩
      ·exact absurd (show none=some _ from aD) (by simp)
      rw[CR.eq_2] at aD;have a:=aD;clear aD;refine Ca (N:=34) bO bP<|Ae<|Ae<|Aa<|wm rfl (v:=I f) z<|wm rfl (v:=.slice j q.length l) u<|wd rfl (fun st=>BW Try.underlying30 (ee st rfl))<|wd rfl (fun st=>CK (ee st rfl) (ee st rfl))<|Af<|Ab ?_;rcases Ao (decide (f<(q.length:Int))) with aJ|aJ
      ·replace a:=AB a aJ;refine AA rfl aJ<|AZ<|Ab<|Ae<|Ba ?_;rcases Ao (o) with d|d
       ·replace a:=AB a d;refine Da 10 [Kc (.bool o),Kc (.bool o),Kc undef,Kc undef,Kc undef,Kc undef,Kc undef,Kc undef,Kc undef,Kc undef] mixed rfl rfl
            (Ag (od rfl (fun _=>rfl) (fun K=>AR (es (t:=6) ((K.later 12 6 _ rfl rfl rfl).trans aE))))
            (Ag (od rfl (fun _=>rfl) (fun K=>AR (es (K.AK 0 20 rfl rfl))))
            (Ag (C0 (c:=true) rfl rfl rfl (by decide) (fun a' w' ph K=>Ad (K.AK 1 21 rfl rfl) d) (fun _=>rfl))
            (Ag (C0 (c:=true) rfl rfl rfl (by decide) (fun a' w' ph K=>Ad (K.AK 1 21 rfl rfl) d) (fun _=>rfl))
            (Ag (C0 (c:=true) rfl rfl rfl (by decide) (fun a' w' ph K=>Ad (K.AK 1 21 rfl rfl) d) (fun _=>rfl))
            (Ag (C0 (c:=true) rfl rfl rfl (by decide) (fun a' w' ph K=>Ad (K.AK 1 21 rfl rfl) d) (fun _=>rfl))
            (Ag (C0 (c:=true) rfl rfl rfl (by decide) (fun a' w' ph K=>Ad (K.AK 1 21 rfl rfl) d) (fun _=>rfl))
            (Ag (C0 (c:=true) rfl rfl rfl (by decide) (fun a' w' ph K=>Ad (K.AK 1 21 rfl rfl) d) (fun _=>rfl))
            (Ag (C0 (c:=true) rfl rfl rfl (by decide) (fun a' w' ph K=>Ad (K.AK 1 21 rfl rfl) d) (fun _=>rfl))
            (Ag (C0 (c:=true) rfl rfl rfl (by decide) (fun a' w' ph K=>Ad (K.AK 1 21 rfl rfl) d) (fun _=>rfl))
            (Ch _))))))))))) ?_
        intro cI;rintro _ rfl _ rfl _ rfl _ rfl _ rfl _ rfl _ rfl _ rfl _ rfl _ rfl aA;have b5:=aY.ext aA;refine Ak (c:=true) rfl rfl (Ad rfl d) (by decide) rfl (by decide)<|wd rfl (fun st=>AO (v:=.bool true) (ee st rfl) d (ee st rfl))<|wa rfl (v:=.bool true) rfl<|Af<|Bm<|Ab<|Aa<|wm rfl (v:=I f) z ?_;replace a:=AX a;obtain⟨b6,a⟩:=a;refine wd rfl (fun st=>Bx (ee st rfl) (ee st rfl) b6)<|wa rfl (v:=I (f+1)) rfl<|Af ?_;have aU:=(m.mv (Aj aA));have aV:=(n.mv (Aj aA));refine BC aH (Nat.lt_succ_self _) (fun st=>?_);exact⟨true,(f+1),a,qz st,qd st,sp st 0 x,sp st 1 u,sp st 5 y,sp st 6 rfl,sp st 7 rfl,b5,aU,aV⟩
       ·replace a:=AD a d;replace a:=BB a;obtain⟨i8,bD,b7,b8,b9,a⟩:=a;obtain⟨cJ,cK,_,cA,rfl,cB⟩:=Sl.Fb m rfl b8;replace a:=BB a;obtain⟨i9,bE,cC,cD,cE,a⟩:=a;obtain⟨cL,cM,_,cF,rfl,cG⟩:=Sl.Fb n rfl cD;refine Da 10 [Kc (.bool o),Kc (.bool o),Kc (.slice g p.length h),Kc (I e),Kc (pt cJ (cK+i8)),Kc (I bD),Kc (.slice j q.length l),Kc (I f),Kc (pt cL (cM+i9)),Kc (I bE)] mixed rfl rfl
            (Ag (od rfl (fun _=>rfl) (fun K=>AR (es (t:=6) ((K.later 12 6 _ rfl rfl rfl).trans aE))))
            (Ag (od rfl (fun _=>rfl) (fun K=>AR (es (K.AK 0 20 rfl rfl))))
            (Ag (BE rfl rfl rfl (fun _=>rfl) (fun a' w' ph K=>Ad (K.AK 1 21 rfl rfl) d) (fun a' w' ph K=>AR (es ((K.out 0 rfl).trans x))))
            (Ag (BE rfl rfl rfl (fun _=>rfl) (fun a' w' ph K=>Ad (K.AK 1 21 rfl rfl) d) (fun a' w' ph K=>AR (es ((K.out 5 rfl).trans y))))
            (Ag (BE rfl rfl rfl (fun _=>rfl) (fun a' w' ph K=>Ad (K.AK 1 21 rfl rfl) d) (fun a' w' ph K=>BR (k:=i8) Try.underlying30 Dh (es (K.AK 2 22 rfl rfl)) cA (es (K.AK 3 23 rfl rfl)) b7 b9))
            (Ag (BE rfl rfl rfl (fun _=>rfl) (fun a' w' ph K=>Ad (K.AK 1 21 rfl rfl) d) (fun a' w' ph K=>Cz AY (es (K.AK 4 24 rfl rfl)) (cB.mv (Aj K.Bo)) rfl))
            (Ag (BE rfl rfl rfl (fun _=>rfl) (fun a' w' ph K=>Ad (K.AK 1 21 rfl rfl) d) (fun a' w' ph K=>AR (es ((K.out 1 rfl).trans u))))
            (Ag (BE rfl rfl rfl (fun _=>rfl) (fun a' w' ph K=>Ad (K.AK 1 21 rfl rfl) d) (fun a' w' ph K=>AR (es ((K.out 7 rfl).trans z))))
            (Ag (BE rfl rfl rfl (fun _=>rfl) (fun a' w' ph K=>Ad (K.AK 1 21 rfl rfl) d) (fun a' w' ph K=>BR (k:=i9) Try.underlying30 Dh (es (K.AK 6 26 rfl rfl)) cF (es (K.AK 7 27 rfl rfl)) cC cE))
            (Ag (BE rfl rfl rfl (fun _=>rfl) (fun a' w' ph K=>Ad (K.AK 1 21 rfl rfl) d) (fun a' w' ph K=>Cz AY (es (K.AK 8 28 rfl rfl)) (cG.mv (Aj K.Bo)) rfl))
            (Ch _))))))))))) ?_
        intro cI;rintro _ rfl _ rfl _ rfl _ rfl _ rfl _ rfl _ rfl _ rfl _ rfl _ rfl aA;have cH:=aY.ext aA;refine As rfl rfl (Ad rfl d) rfl (by decide) (fun st=>BZ (ee st rfl) (ee st rfl))<|wd rfl (fun st=>Bs (v:=.bool (bD==bE)) (ee st rfl) d (ee st rfl))<|wa rfl (v:=.bool (bD==bE)) rfl<|Af<|Bm<|Ab<|Aa<|wm rfl (v:=I f) z ?_;replace a:=AX a;obtain⟨bQ,a⟩:=a;refine wd rfl (fun st=>Bx (ee st rfl) (ee st rfl) bQ)<|wa rfl (v:=I (f+1)) rfl<|Af ?_;have aW:=(m.mv (Aj aA));have aX:=(n.mv (Aj aA));refine BC aH (Nat.lt_succ_self _) (fun st=>?_);exact⟨(bD==bE),(f+1),a,qz st,qd st,sp st 0 x,sp st 1 u,sp st 5 y,sp st 6 rfl,sp st 7 rfl,cH,aW,aX⟩
      ·replace a:=AD a aJ;refine AL rfl aJ<|Cp<|AU<|AU ?_;obtain rfl:=Option.some.inj a;refine B4 (fun st=>?_);exact⟨rfl,qz st,qd st,sp st 0 x,sp st 1 u,sp st 5 y,sp st 6 aE,aY,m,n⟩
    case b2=>
     rintro aT cN cV (⟨rfl,bF,bG,aZ,a0,a2,a3,a4,aM,aN⟩);refine Cs (X:=X0) (N:=34) bF bG<|By<|Ab<|Ae<|Aa<|wm rfl (v:=.bool z3) a3<|wd rfl (fun st=>Di (ee st rfl))<|Af<|Ab ?_;rcases Ao (!z3) with r|r
     ·replace a:=AB a r;have bS:z3=false:=by simpa using r
      refine AA rfl r<|Ae<|Aa<|wa rfl (v:=.bool false) rfl<|Af<|Ab<|AH<|A3<|Ay<|Ay ?_;obtain rfl:=Option.some.inj a;refine B4 (fun st=>?_);exact .inl ⟨rfl,false,rfl,qz st,qd st,sp st 4 rfl,a4⟩
     ·replace a:=AD a r;have bT:z3=true:=by simpa using r
      refine AL rfl r<|AZ<|Bm<|Ab<|Aa<|wm rfl (v:=I e) a2 ?_;replace a:=AX a;obtain⟨bR,a⟩:=a;refine wd rfl (fun st=>Bx (ee st rfl) (ee st rfl) bR)<|wa rfl (v:=I (e+1)) rfl<|Af ?_;refine BC aH (Nat.lt_succ_self _) (fun st=>?_);exact⟨(e+1),a,qz st,qd st,sp st 0 aZ,sp st 1 a0,sp st 5 rfl,a4,aM,aN⟩
   ·replace a:=AD a aI;refine AL rfl aI<|Cp<|AU<|AU ?_;obtain rfl:=Option.some.inj a;refine B4 (fun st=>?_);exact .inr ⟨rfl,(),rfl,qz st,qd st,bH⟩
 case bX=>
  rintro aT cO cW (⟨rfl,aC,rfl,aF,aG,a5,aO⟩|⟨rfl,aC,rfl,aF,aG,aO⟩)
  ·skip
   replace a:=EB a;refine Cs (X:=X0) (N:=34) aF aG<|A3<|Ay ?_;obtain rfl:=Option.some.inj a;refine AQ rfl a5 ?_;exact⟨aO.Bp,rfl⟩
  ·skip
   replace a:=EC a;refine Cs (X:=X0) (N:=34) aF aG<|By<|Ab<|Ae<|Aa<|wa rfl (v:=.bool true) rfl<|Af<|Ab<|AH ?_;obtain rfl:=Option.some.inj a;refine AQ rfl rfl ?_;exact⟨aO.Bp,rfl⟩
theorem a6(y:Nat)(a:Int)(Z:Nat→Prop)(w:World)(s:Aq)(t:Cw y a=some s):
 BI Try.prog 6 #[I a] w (fun v w'=>Ext w w'∧(DP H8).R w' (ZZ FN [] Z w.heap.size []) v s):=by
 unfold Cw at t;refine A9 (N:=9) Try.func6 rfl rfl (by simp) ?_;intro z u aA;have r:=AM (i:=0) (v:=I a) u rfl;clear u;have m:Hp FN [] w [] w:=Hp.start (BK.none w);refine Ae<|Aa<|we rfl (fun st=>BP (cs:= #[I 0,I 0,I 0,I 0,.slice none 0 0]) LF rfl) ?_;rintro _ w1 ⟨aB,rfl,c⟩;have o:=m.nb c;have x:=m.BL c;refine Af<|Ab<|Ae<|Aa<|wm rfl (v:=I a) r<|wd rfl (fun st=>CZ (vs:= #[(1,I 2),(2,I 2),(3,I 2)]) (v:=.agg #[I 0,I 0,I 2,I 2,I 2]) (Jx (ee st rfl) (ee st rfl) (ee st rfl)) (by kernel_rfl))<|wd rfl (fun st=>CZ (vs:= #[(0,I 1),(1,I 1)]) (v:=.agg #[I 1,I 1]) (Ij (ee st rfl) (ee st rfl)) (by kernel_rfl))<|wd rfl (fun st=>CZ (vs:= #[(0,.agg #[I 1,I 1]),(1,I 2),(2,I 1),(3,I 5)]) (v:=.agg #[I 1,I 1,I 2,I 1,I 5]) (RR (ee st rfl) (ee st rfl) (ee st rfl) (ee st rfl)) (by kernel_rfl))<|we rfl (fun st=>BY (e:=53) (vs:= #[(0,.agg #[I 0,I 0,I 2,I 2,I 2]),(1,.agg #[I 1,I 1,I 2,I 1,I 5])]) (cs:= #[I 0,I 0,I 2,I 2,I 2,I 1,I 1,I 2,I 1,I 5]) (Ij (ee st rfl) (ee st rfl)) (by kernel_rfl)) ?_;rintro _ w2 ⟨d,rfl,b⟩;have p:=o.nb b;have g:=o.BL b;refine wd rfl (fun st=>CZ (vs:= #[(0,I 5),(1,I 1),(2,I a),(3,I 1),(4,.slice (some ⟨d,0,none⟩) 2 2)]) (v:=.agg #[I 5,I 1,I a,I 1,.slice (some ⟨d,0,none⟩) 2 2]) (Ul (ee st rfl) (ee st rfl) (ee st rfl) (ee st rfl) (ee st rfl)) (by kernel_rfl)) ?_;have j:=(c.bk.ext b.gr);refine Bg rfl rfl (fun st=>Bb (n:=5) (l:=[I 5,I 1,I a,I 1,.slice (some ⟨d,0,none⟩) 2 2]) (B1:= #[I 5,I 1,I a,I 1,.slice (some ⟨d,0,none⟩) 2 2]) (ee st rfl) (ee st rfl) OU j rfl rfl (show 0+5≤5 by decide) (AP rfl) rfl) ?_;rintro _ aC f;have q:=p.gr f.gr 1 rfl;refine Af<|Ab<|AH ?_;obtain rfl:=Option.some.inj t;refine Gr (v:=.agg #[I 5,I 1,I a,I 1,.slice (some ⟨d,0,none⟩) 2 2]) rfl rfl (C2 CG f.bk rfl rfl) ?_;have k:=(b.bk.gr f.gr (p.ne 0 1 rfl rfl rfl));exact⟨q.Bp,⟨_,rfl,_,_,rfl,Gj (e:=AI) (xs:=[(⟨0,0,2,2,2⟩:Au),(⟨1,1,2,1,5⟩:Au)]) (Bc:=[[I 0,I 0,I 2,I 2,I 2],[I 1,I 1,I 2,I 1,I 5]]) k (.inr ⟨g,fun hm=>q.Bu (F':=FN) (M:=[]) 0 rfl [] rfl trivial (fun _ h=>h.elim) (.inr hm)⟩) ⟨rfl,rfl,trivial⟩ rfl (Nat.le_refl _)⟩⟩
theorem a7(bD:Nat)(b:Int)(Z:Nat→Prop)(w:World)(aX:A6)(j:FV bD b=some aX):
 BI Try.prog 7 #[I b] w (fun v w'=>Ext w w'∧(DP Ga).R w' (ZZ FN [] Z w.heap.size []) v aX):=by
 unfold FV at j;refine A9 (N:=12) Try.func7 rfl rfl (by simp) ?_;intro bK aY bL;have aQ:=AM (i:=0) (v:=I b) aY rfl;clear aY;have aI:Hp FN [] w [] w:=Hp.start (BK.none w);refine Ae<|Aa<|we rfl (fun st=>BP (cs:= #[.slice none 0 0,.slice none 0 0]) GG rfl) ?_;rintro _ w1 ⟨t,rfl,u⟩;have aJ:=aI.nb u;have bA:=aI.BL u;refine Af<|Ab<|Ae<|Aa<|we rfl (fun st=>BY (e:=3) (vs:= #[(0,I 0),(1,I 1)]) (cs:= #[I 0,I 1]) (Ij (ee st rfl) (ee st rfl)) (by kernel_rfl)) ?_;rintro _ w2 ⟨c,rfl,q⟩;have x:=aJ.nb q;have aD:=aJ.BL q;replace j:=Hl j;obtain⟨aZ,j⟩:=j;refine we rfl (fun st=>HT (e:=Bv) (z:=false) (zc:=[.bool false]) (n0:=w.heap.size) (b':=1) Try.underlying32 M9 rfl rfl (ee st rfl) (ee st rfl) aZ (fun _ _=>rfl) x.sz (by decide)) ?_;rintro _ a0 ⟨a,rfl,aK,aR,y,aS⟩;have aL:Hp FN [] w [some a,some c,some t] a0:=x.new y aK aR;have bB:w.heap.size≤a:=Nat.le_trans x.sz aK;have a2:AN Bv 4 w.heap.size a0 (ZZ FN [] Z w.heap.size [some a,some c,some t]) (some ⟨a,0,none⟩) ((6:Int).toNat) (List.replicate (6:Int).toNat false):=aS _;refine wd rfl (fun st=>CZ (vs:= #[(0,.slice (some ⟨c,0,none⟩) 2 2),(1,.slice (some ⟨a,0,none⟩) ((List.replicate (6:Int).toNat false).length) ((6:Int).toNat))]) (v:=.agg #[.slice (some ⟨c,0,none⟩) 2 2,.slice (some ⟨a,0,none⟩) ((List.replicate (6:Int).toNat false).length) ((6:Int).toNat)]) (Ij (ee st rfl) (ee st rfl)) (by kernel_rfl))<|we rfl (fun st=>BP (cs:= #[.slice none 0 0,.slice none 0 0]) GG rfl) ?_;rintro _ bN ⟨aE,rfl,d⟩;have m:=aL.nb d;have bC:=aL.BL d;refine Bg rfl rfl (fun st=>Bb (n:=2) (l:=[.slice (some ⟨c,0,none⟩) 2 2,.slice (some ⟨a,0,none⟩) ((List.replicate (6:Int).toNat false).length) ((6:Int).toNat)]) (B1:= #[.slice (some ⟨c,0,none⟩) 2 2,.slice (some ⟨a,0,none⟩) ((List.replicate (6:Int).toNat false).length) ((6:Int).toNat)]) (ee st rfl) (ee st rfl) GH d.bk rfl rfl (show 0+2≤2 by decide) (AP rfl) rfl) ?_;rintro _ bE f;have o:=m.gr f.gr 0 rfl;refine Af<|Ab<|Ae<|Aa<|wd rfl (fun st=>Am (ee st rfl) (G1 _ _))<|wd rfl (fun st=>Aw (v:=.slice (some ⟨a,0,none⟩) ((List.replicate (6:Int).toNat false).length) ((6:Int).toNat)) GD (ee st rfl) f.bk rfl)<|wm rfl (v:=I b) aQ ?_;replace j:=BB j;obtain⟨i7,bO,aM,aN,aA,j⟩:=j;have r:AN Bv 4 w.heap.size bE (ZZ FN [] Z w.heap.size [some aE,some a,some c,some t]) (some ⟨a,0,none⟩) ((6:Int).toNat) (List.replicate (6:Int).toNat false):=((a2.ext d.gr (Az d)).gr f.gr (fun k aT=>m.ne 1 0 rfl (congrArg some aT) rfl) (m.AT f.gr 0 rfl));obtain⟨bP,bQ,_,aO,rfl,bM⟩:=Sl.Fb r.all rfl aN;refine wd rfl (fun st=>BR (k:=i7) Try.underlying32 J0 (ee st rfl) aO (ee st rfl) aM aA) ?_;have aP:b.toNat=i7:=by rw[aM,Int.toNat_natCast]
 refine Bg rfl rfl (fun st=>Gg (k:=i7) (z':=true) (l:=[.bool true]) r aN aO rfl (ee st rfl) (ee st rfl) J0 rfl rfl (AP rfl) rfl) ?_;rintro _ a3 ⟨p,a4⟩;have s:=o.gr p 1 rfl;have aU:AN Bv 4 w.heap.size a3 (ZZ FN [] Z w.heap.size [some aE,some a,some c,some t]) (some ⟨a,0,none⟩) ((6:Int).toNat) ((List.replicate (6:Int).toNat false).set b.toNat true):=by rw[show(List.replicate (6:Int).toNat false).set b.toNat true=(List.replicate (6:Int).toNat false).set i7 true from congrArg (fun aV=>(List.replicate (6:Int).toNat false).set aV true) aP];exact Ft a4 (o.AT p 1 rfl)
 have bF:((List.replicate (6:Int).toNat false).set b.toNat true)[i7]?=some true:=by rw[show(List.replicate (6:Int).toNat false).set b.toNat true=(List.replicate (6:Int).toNat false).set i7 true from congrArg (fun aV=>(List.replicate (6:Int).toNat false).set aV true) aP];exact List.getElem?_set_self aA
 have bG:i7<((List.replicate (6:Int).toNat false).set b.toNat true).length:=by rw[List.length_set];exact aA
 have bH:(.slice (some ⟨a,0,none⟩) ((List.replicate (6:Int).toNat false).length) ((6:Int).toNat):Value)=.slice (some ⟨a,0,none⟩) (((List.replicate (6:Int).toNat false).set b.toNat true).length) ((6:Int).toNat):=by simp only[List.length_set]
 have bI:(.agg #[.slice (some ⟨c,0,none⟩) 2 2,.slice (some ⟨a,0,none⟩) ((List.replicate (6:Int).toNat false).length) ((6:Int).toNat)]:Value)=.agg #[.slice (some ⟨c,0,none⟩) 2 2,.slice (some ⟨a,0,none⟩) (((List.replicate (6:Int).toNat false).set b.toNat true).length) ((6:Int).toNat)]:=by simp only[List.length_set]
 have bJ:(.slice (some ⟨a,0,none⟩) ((List.replicate (6:Int).toNat false).length) ((6:Int).toNat):Value)=.slice (some ⟨a,0,none⟩) (((List.replicate (6:Int).toNat false).set b.toNat true).length) ((6:Int).toNat):=by simp only[List.length_set]
 have aF:=(f.bk.gr p (o.ne 0 1 rfl rfl rfl));have aW:Bk a3 aE 34 #[.slice (some ⟨c,0,none⟩) 2 2,.slice (some ⟨a,0,none⟩) (((List.replicate (6:Int).toNat false).set b.toNat true).length) ((6:Int).toNat)]:=by have a5:=aF;simp only[List.length_set] at a5⊢;exact a5
 refine Af<|Ab<|Ae<|Aa<|wd rfl (fun st=>A5 (l:=[.slice (some ⟨c,0,none⟩) 2 2,.slice (some ⟨a,0,none⟩) (((List.replicate (6:Int).toNat false).set b.toNat true).length) ((6:Int).toNat)]) FM (ee st rfl) aW rfl rfl) ?_;have aG:=(((((u.bk.ext q.gr).ext y).ext d.gr).gr f.gr (m.ne 3 0 rfl rfl rfl)).gr p (o.ne 3 1 rfl rfl rfl));refine Bg rfl rfl (fun st=>Bb (n:=2) (l:=[.slice (some ⟨c,0,none⟩) 2 2,.slice (some ⟨a,0,none⟩) (((List.replicate (6:Int).toNat false).set b.toNat true).length) ((6:Int).toNat)]) (B1:= #[.slice (some ⟨c,0,none⟩) 2 2,.slice (some ⟨a,0,none⟩) (((List.replicate (6:Int).toNat false).set b.toNat true).length) ((6:Int).toNat)]) (ee st rfl) (ee st rfl) GH aG rfl rfl (show 0+2≤2 by decide) (AP rfl) rfl) ?_;rintro _ a9 g;have aB:=s.gr g.gr 3 rfl;refine Af<|Ab<|AH ?_;obtain rfl:=Option.some.inj j;refine Gr (v:=.agg #[.slice (some ⟨c,0,none⟩) 2 2,.slice (some ⟨a,0,none⟩) (((List.replicate (6:Int).toNat false).set b.toNat true).length) ((6:Int).toNat)]) rfl rfl (C2 FM g.bk rfl rfl) ?_;have aH:=(((((q.bk.ext y).ext d.gr).gr f.gr (m.ne 2 0 rfl rfl rfl)).gr p (o.ne 2 1 rfl rfl rfl)).gr g.gr (s.ne 2 3 rfl rfl rfl));have aC:AN Bv 4 w.heap.size a9 (ZZ FN [] Z w.heap.size [some aE,some a,some c,some t]) (some ⟨a,0,none⟩) ((6:Int).toNat) ((List.replicate (6:Int).toNat false).set b.toNat true):=(aU.gr g.gr (fun k aT=>s.ne 1 3 rfl (congrArg some aT) rfl) (s.AT g.gr 3 rfl));exact⟨aB.Bp,⟨_,rfl,_,_,_,_,rfl,Gj (e:=(AJ .i64)) (xs:=[0,1]) (Bc:=[[I 0],[I 1]]) aH (.inr ⟨aD,fun hm=>aB.Bu (F':=FN) (M:=[]) 2 rfl [] rfl trivial (fun _ h=>h.elim) (.inr hm)⟩) ⟨rfl,rfl,trivial⟩ rfl (Nat.le_refl _),aB.Mx (M:=[]) 1 rfl [] rfl trivial aC⟩⟩
theorem a12(aX:Nat)(g:List Av)(a:Av)(e:Av)(j:Option Addr)(m:Nat)(Z:Nat→Prop)(w:World)(y:Sl Cm w Z j m g)(aI:Bool)(h:FW aX g a e=some aI):
 BI Try.prog 12 #[.slice j g.length m,.agg #[I a.On,I a.Bj,.bool a.AF],.agg #[I e.On,I e.Bj,.bool e.AF]] w (fun v w'=>Ext w w'∧BN.R w' (ZZ FN [] Z w.heap.size []) v aI):=by
 unfold FW at h;refine A9 (N:=24) Try.func12 rfl rfl (by simp) ?_;intro a0 z a2;have o:=AM (i:=0) (v:=.slice j g.length m) z rfl;have aG:=AM (i:=1) (v:=.agg #[I a.On,I a.Bj,.bool a.AF]) z rfl;have aH:=AM (i:=2) (v:=.agg #[I e.On,I e.Bj,.bool e.AF]) z rfl;clear z;have aA:Hp FN [] w [] w:=Hp.start (BK.none w);have u:=y.mv (Bn (Z:=Z) (L:=[]) w);refine Ae<|Aa<|we rfl (fun st=>BX (v:=.agg #[I a.On,I a.Bj,.bool a.AF]) (cs:= #[I a.On,I a.Bj,.bool a.AF]) (ee st aG) rfl) ?_;rintro _ w1 ⟨a3,rfl,s⟩;have aB:=aA.nb s;have aV:=aA.BL s;refine we rfl (fun st=>BX (v:=.agg #[I e.On,I e.Bj,.bool e.AF]) (cs:= #[I e.On,I e.Bj,.bool e.AF]) (ee st aH) rfl) ?_;rintro _ w2 ⟨a4,rfl,q⟩;have x:=aB.nb q;have aW:=aB.BL q;refine wa rfl (v:=.bool false) rfl<|Af<|Ab<|Ae ?_;rcases Ao ((g.length:Int)==2) with d|d
 ·replace h:=AB h d;replace h:=BB h;obtain⟨i5,b,aC,aJ,aD,h⟩:=h;have p:=((u.mv (Az s)).mv (Az q));obtain⟨aK,aL,_,aE,rfl,aF⟩:=Sl.elem p (by decide) aJ;have t:=(s.bk.ext q.gr);rcases Ao (G4 [.inl b.On,.inl b.Bj,.inr b.AF] [.inl a.On,.inl a.Bj,.inr a.AF]) with f|f
  ·replace h:=AB h f;replace h:=BB h;obtain⟨i7,n,aM,aN,aO,h⟩:=h;obtain⟨aY,aZ,_,aP,rfl,aQ⟩:=Sl.elem p (by decide) aN;refine Da 15 [Kc (.slice j g.length m),Kc (I (g.length:Int)),Kc (.bool ((g.length:Int)==2)),Kc (.bool ((g.length:Int)==2)),Kc (.slice j g.length m),Kc (pt aK (aL+i5*3)),Kc (.agg #[I b.On,I b.Bj,.bool b.AF]),Kc (.agg #[I a.On,I a.Bj,.bool a.AF]),Kc (.bool (G4 [.inl b.On,.inl b.Bj,.inr b.AF] [.inl a.On,.inl a.Bj,.inr a.AF])),Kc (.bool (G4 [.inl b.On,.inl b.Bj,.inr b.AF] [.inl a.On,.inl a.Bj,.inr a.AF])),Kc (.bool (G4 [.inl b.On,.inl b.Bj,.inr b.AF] [.inl a.On,.inl a.Bj,.inr a.AF])),Kc (.slice j g.length m),Kc (pt aY (aZ+i7*3)),Kc (.agg #[I n.On,I n.Bj,.bool n.AF]),Kc (.agg #[I e.On,I e.Bj,.bool e.AF])] mixed rfl rfl
       (Ag (od rfl (fun _=>rfl) (fun K=>AR (es ((K.out 0 rfl).trans o))))
       (Ag (od rfl (fun _=>rfl) (fun K=>BW Try.underlying22 (es (K.AK 0 7 rfl rfl))))
       (Ag (od rfl (fun _=>rfl) (fun K=>BZ (es (K.AK 1 8 rfl rfl)) (ec (v:=I 2))))
       (Ag (od rfl (fun _=>rfl) (fun K=>AR (es (K.AK 2 9 rfl rfl))))
       (Ag (BE rfl rfl rfl (fun _=>rfl) (fun a' w' ph K=>Ad (K.AK 3 10 rfl rfl) d) (fun a' w' ph K=>AR (es ((K.out 0 rfl).trans o))))
       (Ag (BE rfl rfl rfl (fun _=>rfl) (fun a' w' ph K=>Ad (K.AK 3 10 rfl rfl) d) (fun a' w' ph K=>Cy (k:=i5) Try.underlying22 E5 (es (K.AK 4 11 rfl rfl)) aE (ec (v:=I 0)) aC aD))
       (Ag (BE rfl rfl rfl (fun _=>rfl) (fun a' w' ph K=>Ad (K.AK 3 10 rfl rfl) d) (fun a' w' ph K=>DM (l:=[I b.On,I b.Bj,.bool b.AF]) Em (es (K.AK 5 12 rfl rfl)) (aF.mv (Aj K.Bo)) rfl rfl))
       (Ag (BE rfl rfl rfl (fun _=>rfl) (fun a' w' ph K=>Ad (K.AK 3 10 rfl rfl) d) (fun a' w' ph K=>A5 (l:=[I a.On,I a.Bj,.bool a.AF]) Em (es ((K.out 4 rfl).trans rfl)) (t.ext K.Bo) rfl rfl))
       (Ag (BE rfl rfl rfl (fun _=>rfl) (fun a' w' ph K=>Ad (K.AK 3 10 rfl rfl) d) (fun a' w' ph K=>OA (x1:=[.inl b.On,.inl b.Bj,.inr b.AF]) (x2:=[.inl a.On,.inl a.Bj,.inr a.AF]) LG Na (es (K.AK 6 13 rfl rfl)) (es (K.AK 7 14 rfl rfl)) rfl rfl rfl rfl))
       (Ag (od rfl (fun _=>rfl) (fun K=>AO (es (K.AK 3 10 rfl rfl)) d (es (K.AK 8 15 rfl rfl))))
       (Ag (od rfl (fun _=>rfl) (fun K=>AR (es (K.AK 9 16 rfl rfl))))
       (Ag (BE rfl rfl rfl (fun _=>rfl) (fun a' w' ph K=>Ad (K.AK 10 17 rfl rfl) f) (fun a' w' ph K=>AR (es ((K.out 0 rfl).trans o))))
       (Ag (BE rfl rfl rfl (fun _=>rfl) (fun a' w' ph K=>Ad (K.AK 10 17 rfl rfl) f) (fun a' w' ph K=>Cy (k:=i7) Try.underlying22 E5 (es (K.AK 11 18 rfl rfl)) aP (ec (v:=I 1)) aM aO))
       (Ag (BE rfl rfl rfl (fun _=>rfl) (fun a' w' ph K=>Ad (K.AK 10 17 rfl rfl) f) (fun a' w' ph K=>DM (l:=[I n.On,I n.Bj,.bool n.AF]) Em (es (K.AK 12 19 rfl rfl)) (aQ.mv (Aj K.Bo)) rfl rfl))
       (Ag (BE rfl rfl rfl (fun _=>rfl) (fun a' w' ph K=>Ad (K.AK 10 17 rfl rfl) f) (fun a' w' ph K=>A5 (l:=[I e.On,I e.Bj,.bool e.AF]) Em (es ((K.out 5 rfl).trans rfl)) (q.bk.ext K.Bo) rfl rfl))
       (Ch _)))))))))))))))) ?_
   intro aR;rintro _ rfl _ rfl _ rfl _ rfl _ rfl _ rfl _ rfl _ rfl _ rfl _ rfl _ rfl _ rfl _ rfl _ rfl _ rfl r;have aS:=x.ext r;refine As rfl rfl (Ad rfl f) rfl (by decide) (fun st=>OA (x1:=[.inl n.On,.inl n.Bj,.inr n.AF]) (x2:=[.inl e.On,.inl e.Bj,.inr e.AF]) LG Na (ee st rfl) (ee st rfl) rfl rfl rfl rfl)<|wd rfl (fun st=>AO (v:=.bool (G4 [.inl n.On,.inl n.Bj,.inr n.AF] [.inl e.On,.inl e.Bj,.inr e.AF])) (ee st rfl) f (ee st rfl))<|wa rfl (v:=.bool (G4 [.inl n.On,.inl n.Bj,.inr n.AF] [.inl e.On,.inl e.Bj,.inr e.AF])) rfl<|Af<|Ab<|AH ?_;obtain rfl:=Option.some.inj h;refine AQ rfl rfl ?_;exact⟨aS.Bp,rfl⟩
  ·replace h:=AD h f;refine Da 15 [Kc (.slice j g.length m),Kc (I (g.length:Int)),Kc (.bool ((g.length:Int)==2)),Kc (.bool ((g.length:Int)==2)),Kc (.slice j g.length m),Kc (pt aK (aL+i5*3)),Kc (.agg #[I b.On,I b.Bj,.bool b.AF]),Kc (.agg #[I a.On,I a.Bj,.bool a.AF]),Kc (.bool (G4 [.inl b.On,.inl b.Bj,.inr b.AF] [.inl a.On,.inl a.Bj,.inr a.AF])),Kc (.bool (G4 [.inl b.On,.inl b.Bj,.inr b.AF] [.inl a.On,.inl a.Bj,.inr a.AF])),Kc (.bool (G4 [.inl b.On,.inl b.Bj,.inr b.AF] [.inl a.On,.inl a.Bj,.inr a.AF])),Kc undef,Kc undef,Kc undef,Kc undef] mixed rfl rfl
       (Ag (od rfl (fun _=>rfl) (fun K=>AR (es ((K.out 0 rfl).trans o))))
       (Ag (od rfl (fun _=>rfl) (fun K=>BW Try.underlying22 (es (K.AK 0 7 rfl rfl))))
       (Ag (od rfl (fun _=>rfl) (fun K=>BZ (es (K.AK 1 8 rfl rfl)) (ec (v:=I 2))))
       (Ag (od rfl (fun _=>rfl) (fun K=>AR (es (K.AK 2 9 rfl rfl))))
       (Ag (BE rfl rfl rfl (fun _=>rfl) (fun a' w' ph K=>Ad (K.AK 3 10 rfl rfl) d) (fun a' w' ph K=>AR (es ((K.out 0 rfl).trans o))))
       (Ag (BE rfl rfl rfl (fun _=>rfl) (fun a' w' ph K=>Ad (K.AK 3 10 rfl rfl) d) (fun a' w' ph K=>Cy (k:=i5) Try.underlying22 E5 (es (K.AK 4 11 rfl rfl)) aE (ec (v:=I 0)) aC aD))
       (Ag (BE rfl rfl rfl (fun _=>rfl) (fun a' w' ph K=>Ad (K.AK 3 10 rfl rfl) d) (fun a' w' ph K=>DM (l:=[I b.On,I b.Bj,.bool b.AF]) Em (es (K.AK 5 12 rfl rfl)) (aF.mv (Aj K.Bo)) rfl rfl))
       (Ag (BE rfl rfl rfl (fun _=>rfl) (fun a' w' ph K=>Ad (K.AK 3 10 rfl rfl) d) (fun a' w' ph K=>A5 (l:=[I a.On,I a.Bj,.bool a.AF]) Em (es ((K.out 4 rfl).trans rfl)) (t.ext K.Bo) rfl rfl))
       (Ag (BE rfl rfl rfl (fun _=>rfl) (fun a' w' ph K=>Ad (K.AK 3 10 rfl rfl) d) (fun a' w' ph K=>OA (x1:=[.inl b.On,.inl b.Bj,.inr b.AF]) (x2:=[.inl a.On,.inl a.Bj,.inr a.AF]) LG Na (es (K.AK 6 13 rfl rfl)) (es (K.AK 7 14 rfl rfl)) rfl rfl rfl rfl))
       (Ag (od rfl (fun _=>rfl) (fun K=>AO (es (K.AK 3 10 rfl rfl)) d (es (K.AK 8 15 rfl rfl))))
       (Ag (od rfl (fun _=>rfl) (fun K=>AR (es (K.AK 9 16 rfl rfl))))
       (Ag (C0 (c:=false) rfl rfl rfl (by decide) (fun a' w' ph K=>Ad (K.AK 10 17 rfl rfl) f) (fun _=>rfl))
       (Ag (C0 (c:=false) rfl rfl rfl (by decide) (fun a' w' ph K=>Ad (K.AK 10 17 rfl rfl) f) (fun _=>rfl))
       (Ag (C0 (c:=false) rfl rfl rfl (by decide) (fun a' w' ph K=>Ad (K.AK 10 17 rfl rfl) f) (fun _=>rfl))
       (Ag (C0 (c:=false) rfl rfl rfl (by decide) (fun a' w' ph K=>Ad (K.AK 10 17 rfl rfl) f) (fun _=>rfl))
       (Ch _)))))))))))))))) ?_
   intro aR;rintro _ rfl _ rfl _ rfl _ rfl _ rfl _ rfl _ rfl _ rfl _ rfl _ rfl _ rfl _ rfl _ rfl _ rfl _ rfl r;have aT:=x.ext r;refine Ak (c:=false) rfl rfl (Ad rfl f) (by decide) rfl (by decide)<|wd rfl (fun st=>Bs (v:=.bool false) (ee st rfl) f (ee st rfl))<|wa rfl (v:=.bool false) rfl<|Af<|Ab<|AH ?_;obtain rfl:=Option.some.inj h;refine AQ rfl rfl ?_;exact⟨aT.Bp,rfl⟩
 ·replace h:=AD h d;refine Da 15 [Kc (.slice j g.length m),Kc (I (g.length:Int)),Kc (.bool ((g.length:Int)==2)),Kc (.bool ((g.length:Int)==2)),Kc undef,Kc undef,Kc undef,Kc undef,Kc undef,Kc (.bool false),Kc (.bool false),Kc undef,Kc undef,Kc undef,Kc undef] mixed rfl rfl
      (Ag (od rfl (fun _=>rfl) (fun K=>AR (es ((K.out 0 rfl).trans o))))
      (Ag (od rfl (fun _=>rfl) (fun K=>BW Try.underlying22 (es (K.AK 0 7 rfl rfl))))
      (Ag (od rfl (fun _=>rfl) (fun K=>BZ (es (K.AK 1 8 rfl rfl)) (ec (v:=I 2))))
      (Ag (od rfl (fun _=>rfl) (fun K=>AR (es (K.AK 2 9 rfl rfl))))
      (Ag (C0 (c:=false) rfl rfl rfl (by decide) (fun a' w' ph K=>Ad (K.AK 3 10 rfl rfl) d) (fun _=>rfl))
      (Ag (C0 (c:=false) rfl rfl rfl (by decide) (fun a' w' ph K=>Ad (K.AK 3 10 rfl rfl) d) (fun _=>rfl))
      (Ag (C0 (c:=false) rfl rfl rfl (by decide) (fun a' w' ph K=>Ad (K.AK 3 10 rfl rfl) d) (fun _=>rfl))
      (Ag (C0 (c:=false) rfl rfl rfl (by decide) (fun a' w' ph K=>Ad (K.AK 3 10 rfl rfl) d) (fun _=>rfl))
      (Ag (C0 (c:=false) rfl rfl rfl (by decide) (fun a' w' ph K=>Ad (K.AK 3 10 rfl rfl) d) (fun _=>rfl))
      (Ag (od rfl (fun _=>rfl) (fun K=>Bs (es (K.AK 3 10 rfl rfl)) d (ec (v:=.bool false))))
      (Ag (od rfl (fun _=>rfl) (fun K=>AR (es (K.AK 9 16 rfl rfl))))
      (Ag (C0 (c:=false) rfl rfl rfl (by decide) (fun a' w' ph K=>(show sl a' 17=.bool false from K.AK 10 17 rfl rfl)) (fun _=>rfl))
      (Ag (C0 (c:=false) rfl rfl rfl (by decide) (fun a' w' ph K=>(show sl a' 17=.bool false from K.AK 10 17 rfl rfl)) (fun _=>rfl))
      (Ag (C0 (c:=false) rfl rfl rfl (by decide) (fun a' w' ph K=>(show sl a' 17=.bool false from K.AK 10 17 rfl rfl)) (fun _=>rfl))
      (Ag (C0 (c:=false) rfl rfl rfl (by decide) (fun a' w' ph K=>(show sl a' 17=.bool false from K.AK 10 17 rfl rfl)) (fun _=>rfl))
      (Ch _)))))))))))))))) ?_
  intro aR;rintro _ rfl _ rfl _ rfl _ rfl _ rfl _ rfl _ rfl _ rfl _ rfl _ rfl _ rfl _ rfl _ rfl _ rfl _ rfl r;have aU:=x.ext r;refine Ak rfl rfl rfl (by decide) rfl (by decide)<|wd rfl (fun st=>Bs (v:=.bool false) (ee st rfl) rfl (ee st rfl))<|wa rfl (v:=.bool false) rfl<|Af<|Ab<|AH ?_;obtain rfl:=Option.some.inj h;refine AQ rfl rfl ?_;exact⟨aU.Bp,rfl⟩
theorem Up(s:Nat)(a:CL)(Z:Nat→Prop)(w:World)(j:CL)(k:Gk s a=some j):
 BI Try.prog 44 #[.agg #[I a.Lo,I a.Hi]] w (fun v w'=>Ext w w'∧(DP NM).R w' (ZZ FN [] Z w.heap.size []) v j):=by
 unfold Gk at k;refine A9 (N:=8) Try.func44 rfl rfl (by simp) ?_;intro t m u;have h:=AM (i:=0) (v:=.agg #[I a.Lo,I a.Hi]) m rfl;clear m;have e:Hp FN [] w [] w:=Hp.start (BK.none w);refine Ae<|Aa<|we rfl (fun st=>BX (v:=.agg #[I a.Lo,I a.Hi]) (cs:= #[I a.Lo,I a.Hi]) (ee st h) rfl) ?_;rintro _ w1 ⟨x,rfl,d⟩;have f:=e.nb d;have q:=e.BL d;refine we rfl (fun st=>BP (cs:= #[I 0,I 0]) Ru rfl) ?_;rintro _ w2 ⟨y,rfl,b⟩;have o:=f.nb b;have r:=f.BL b;refine Af<|Ab<|Ae<|Aa<|wd rfl (fun st=>Am (ee st rfl) (Kf _ _)) ?_;have c:=(d.bk.ext b.gr);refine wd rfl (fun st=>Aw (v:=I a.Lo) AY (ee st rfl) c rfl)<|wd rfl (fun st=>Am (ee st rfl) (Ke _ _))<|wd rfl (fun st=>Aw (v:=I a.Hi) AY (ee st rfl) c rfl)<|wd rfl (fun st=>CZ (vs:= #[(0,I a.Lo),(1,I a.Hi)]) (v:=.agg #[I a.Lo,I a.Hi]) (Ij (ee st rfl) (ee st rfl)) (by kernel_rfl))<|Bg rfl rfl (fun st=>Bb (n:=2) (l:=[I a.Lo,I a.Hi]) (B1:= #[I a.Lo,I a.Hi]) (ee st rfl) (ee st rfl) TK b.bk rfl rfl (show 0+2≤2 by decide) (AP rfl) rfl) ?_;rintro _ z g;have p:=o.gr g.gr 0 rfl;refine Af<|Ab<|AH ?_;obtain rfl:=Option.some.inj k;refine Gr (v:=.agg #[I a.Lo,I a.Hi]) rfl rfl (C2 Lf g.bk rfl rfl) ?_;exact⟨p.Bp,⟨_,rfl,rfl⟩⟩
theorem a20(bV:Nat)(a:Aq)(p:Option Addr)(q:Nat)(Z:Nat→Prop)(w:World)(bW:Sl AI w Z p q a.Ac)(cM:Aq)(m:Bf bV a=some cM):
 BI Try.prog 20 #[.agg #[I a.Ah,I a.Ai,I a.Ap,I a.Ax,.slice p a.Ac.length q]] w (fun v w'=>Ext w w'∧(DP H8).R w' (ZZ FN [] Z w.heap.size []) v cM):=by
 unfold Bf at m;refine A9 (N:=43) Try.func20 rfl rfl (by simp) ?_;intro c8 cN c9;have b9:=AM (i:=0) (v:=.agg #[I a.Ah,I a.Ai,I a.Ap,I a.Ax,.slice p a.Ac.length q]) cN rfl;clear cN;have b4:Hp FN [] w [] w:=Hp.start (BK.none w);have bH:=bW.mv (Bn (Z:=Z) (L:=[]) w);refine Ae<|Aa<|we rfl (fun st=>BX (v:=.agg #[I a.Ah,I a.Ai,I a.Ap,I a.Ax,.slice p a.Ac.length q]) (cs:= #[I a.Ah,I a.Ai,I a.Ap,I a.Ax,.slice p a.Ac.length q]) (ee st b9) rfl) ?_;rintro _ w1 ⟨x,rfl,bD⟩;have b5:=b4.nb bD;have c3:=b4.BL bD;refine we rfl (fun st=>BP (cs:= #[I 0,I 0,I 0,I 0,.slice none 0 0]) LF rfl) ?_;rintro _ w2 ⟨t,rfl,aX⟩;have b6:=b5.nb aX;have c4:=b5.BL aX;refine Af<|Ab<|Ae<|Aa<|wd rfl (fun st=>Am (ee st rfl) (Fe _ _)) ?_;have aD:=(bD.bk.ext aX.gr);refine wd rfl (fun st=>Aw (v:=I a.Ah) AY (ee st rfl) aD rfl)<|wd rfl (fun st=>Am (ee st rfl) (LC _ _))<|wd rfl (fun st=>Aw (v:=I a.Ai) AY (ee st rfl) aD rfl)<|wd rfl (fun st=>Am (ee st rfl) (IM _ _))<|wd rfl (fun st=>Aw (v:=I a.Ap) AY (ee st rfl) aD rfl)<|wd rfl (fun st=>Am (ee st rfl) (HV _ _))<|wd rfl (fun st=>Aw (v:=I a.Ax) AY (ee st rfl) aD rfl)<|wd rfl (fun st=>CZ (vs:= #[(0,I a.Ah),(1,I a.Ai),(2,I a.Ap),(3,I a.Ax)]) (v:=.agg #[I a.Ah,I a.Ai,I a.Ap,I a.Ax,.slice none 0 0]) (RR (ee st rfl) (ee st rfl) (ee st rfl) (ee st rfl)) (by kernel_rfl))<|we rfl (fun st=>BP (cs:= #[I 0,I 0,I 0,I 0,.slice none 0 0]) LF rfl) ?_;rintro _ dE ⟨s,rfl,aQ⟩;have bE:=b6.nb aQ;have c5:=b6.BL aQ;refine Bg rfl rfl (fun st=>Bb (n:=5) (l:=[I a.Ah,I a.Ai,I a.Ap,I a.Ax,.slice none 0 0]) (B1:= #[I a.Ah,I a.Ai,I a.Ap,I a.Ax,.slice none 0 0]) (ee st rfl) (ee st rfl) OU aQ.bk rfl rfl (show 0+5≤5 by decide) (AP rfl) rfl) ?_;rintro _ cA aY;have cO:=bE.gr aY.gr 0 rfl;refine Af<|Ab<|Ae<|Ae<|Aa<|wa rfl (v:=I 0) rfl<|Af<|Ab<|Ba ?_;have cP:Hp FN [] w [none,some s,some t,some x] cA:=cO.nil;have cQ:AN AI 53 w.heap.size cA (ZZ FN [] Z w.heap.size [none,some s,some t,some x]) none 0 ([]:List Au):=AN.nil _ _ _ _ _;replace m:=bind_some m;obtain⟨z5,aR,m⟩:=m;refine Cu (fun cR z aJ=>(cR=.exit 0∧∃c g,z.tmps.size=43∧z.defers=(X0).ds∧sl z 2=pt t 0∧sl z 3=pt s 0∧Hp FN [] w [ob c,some s,some t,some x] aJ∧AN AI 53 w.heap.size aJ (ZZ FN [] Z w.heap.size [ob c,some s,some t,some x]) c g z5∧Bk aJ t 28 #[I 0,I 0,I 0,I 0,.slice none 0 0]∧Bk aJ s 28 #[I a.Ah,I a.Ai,I a.Ap,I a.Ax,.slice c z5.length g])) ?cS ?cT
 case cS=>
  clear m;refine Ct (fun(cB:Nat) (z:Act) (aJ:World)=>∃y,∃j,∃f o,DB bV a cB y j=some z5∧z.tmps.size=43∧z.defers=(X0).ds∧sl z 1=pt x 0∧sl z 2=pt t 0∧sl z 3=pt s 0∧sl z 4=I y∧Hp FN [] w [ob f,some s,some t,some x] aJ∧AN AI 53 w.heap.size aJ (ZZ FN [] Z w.heap.size [ob f,some s,some t,some x]) f o j∧Bk aJ x 58 #[I a.Ah,I a.Ai,I a.Ap,I a.Ax,.slice p a.Ac.length q]∧Bk aJ t 28 #[I 0,I 0,I 0,I 0,.slice none 0 0]∧Bk aJ s 28 #[I a.Ah,I a.Ai,I a.Ap,I a.Ax,.slice f j.length o]∧Sl AI aJ (ZZ FN [] Z w.heap.size [ob f,some s,some t,some x]) p q a.Ac) bV ?cU ?cV
  case cU=>
   intro st;have bX:=((aD.ext aQ.gr).gr aY.gr (bE.ne 2 0 rfl rfl rfl));have bY:=((aX.bk.ext aQ.gr).gr aY.gr (bE.ne 1 0 rfl rfl rfl));have bZ:=aY.bk;have bI:Sl AI cA (ZZ FN [] Z w.heap.size [none,some s,some t,some x]) p q a.Ac:=(((((bH.mv (Az bD)).mv (Az aX)).mv (Az aQ)).mv (bE.AT aY.gr 0 rfl)).mv Co);exact⟨(0:Int),([]:List Au),none,0,aR,qz st,qd st,sp st 1 rfl,sp st 2 rfl,sp st 3 rfl,sp st 4 rfl,cP,cQ,bX,bY,bZ,bI⟩
  case cV=>
   rintro(_|cB) dA dB ⟨y,j,f,o,aR,cC,cD,aS,bF,aI,aT,bK,aE,aK,aZ,a0,aL⟩
   ·exact absurd (show none=some _ from aR) (by simp)
   rw[DB.eq_2] at aR;have m:=aR;clear aR;refine Ca (N:=43) cC cD<|Ae<|Ae<|Aa<|wm rfl (v:=I y) aT<|wd rfl (fun st=>Am (ee st aS) (FG _ _))<|wd rfl (fun st=>Aw (v:=.slice p a.Ac.length q) GC (ee st rfl) aK rfl)<|wd rfl (fun st=>BW Try.underlying56 (ee st rfl))<|wd rfl (fun st=>CK (ee st rfl) (ee st rfl))<|Af<|Ab ?_;rcases Ao (decide (y<(a.Ac.length:Int))) with a2|a2
   ·replace m:=AB m a2;refine AA rfl a2<|AZ<|Ab<|Ae<|Ba<|Ae<|Aa<|wd rfl (fun st=>Am (ee st aS) (FG _ _))<|wd rfl (fun st=>Aw (v:=.slice p a.Ac.length q) GC (ee st rfl) aK rfl)<|wm rfl (v:=I y) aT ?_;replace m:=BB m;obtain⟨i8,b,cW,cX,cY,m⟩:=m;obtain⟨dF,dG,_,cZ,rfl,c0⟩:=Sl.elem aL (by decide) cX;refine wd rfl (fun st=>Cy (k:=i8) Try.underlying56 Kh (ee st rfl) cZ (ee st rfl) cW cY)<|wd rfl (fun st=>DM (l:=[I b.An,I b.Ar,I b.AF,I b.Bi,I b.Bl]) PG (ee st rfl) c0 rfl rfl)<|we rfl (fun st=>BP (cs:= #[I 0,I 0,I 0,I 0,I 0]) N0 rfl) ?_;rintro _ dH ⟨aU,rfl,aF⟩;have aM:=bK.nb aF;have c6:=bK.BL aF;refine Bg rfl rfl (fun st=>Bb (n:=5) (l:=[I b.An,I b.Ar,I b.AF,I b.Bi,I b.Bl]) (B1:= #[I b.An,I b.Ar,I b.AF,I b.Bi,I b.Bl]) (ee st rfl) (ee st rfl) Kh aF.bk rfl rfl (show 0+5≤5 by decide) (AP rfl) rfl) ?_;rintro _ dC r;have b7:=aM.gr r.gr 0 rfl;refine Af<|Ab ?_;have bG:=((a0.ext aF.gr).gr r.gr (aM.ne 2 0 rfl rfl rfl));replace m:=bind_some m;obtain⟨d,cE,m⟩:=m;refine Da 13 [Kc (pt s 4),Kc (.slice f j.length o),Kc (pt aU 0),Kc (.agg #[I b.An,I b.Ar]),Kc (.agg #[I d.Lo,I d.Hi]),Kc (pt aU 2),Kc (I b.AF),Kc (pt aU 3),Kc (I b.Bi),Kc (pt aU 4),Kc (I b.Bl),Kc (.agg #[I d.Lo,I d.Hi,I b.AF,I b.Bi,I b.Bl]),Kv (F5 AI) (ZZ FN [] Z w.heap.size [some aU,ob f,some s,some t,some x]) [(⟨d.Lo,d.Hi,b.AF,b.Bi,b.Bl⟩:Au)]] mixed rfl rfl
        (Ag (od rfl (fun _=>rfl) (fun K=>Am (es ((K.out 3 rfl).trans aI)) (CV _ _)))
        (Ag (od rfl (fun _=>rfl) (fun K=>Aw Dm (es (K.AK 0 27 rfl rfl)) (bG.ext K.Bo) rfl))
        (Ag (od rfl (fun _=>rfl) (fun K=>Am (es ((K.out 5 rfl).trans rfl)) (IP _ _)))
        (Ag (od rfl (fun _=>rfl) (fun K=>A5 (l:=[I b.An,I b.Ar]) PF (es (K.AK 2 29 rfl rfl)) (r.bk.ext K.Bo) rfl rfl))
        (Ag (Gp rfl rfl (fun a' w' ph K=>(AE Sz rfl (BT (es (K.AK 3 30 rfl rfl))) (Up bV (⟨b.An,b.Ar⟩:CL) ZA _ d cE)).mono (fun _ _ h=>⟨(by obtain⟨_,rfl,rfl⟩:=h.2;rfl),h.1⟩)))
        (Ag (od rfl (fun _=>rfl) (fun K=>Am (es ((K.out 5 rfl).trans rfl)) (N1 _ _)))
        (Ag (od rfl (fun _=>rfl) (fun K=>Aw AY (es (K.AK 5 32 rfl rfl)) (r.bk.ext K.Bo) rfl))
        (Ag (od rfl (fun _=>rfl) (fun K=>Am (es ((K.out 5 rfl).trans rfl)) (N2 _ _)))
        (Ag (od rfl (fun _=>rfl) (fun K=>Aw AY (es (K.AK 7 34 rfl rfl)) (r.bk.ext K.Bo) rfl))
        (Ag (od rfl (fun _=>rfl) (fun K=>Am (es ((K.out 5 rfl).trans rfl)) (N3 _ _)))
        (Ag (od rfl (fun _=>rfl) (fun K=>Aw AY (es (K.AK 9 36 rfl rfl)) (r.bk.ext K.Bo) rfl))
        (Ag (od rfl (fun _=>rfl) (fun K=>CZ (vs:= #[(0,.agg #[I d.Lo,I d.Hi]),(1,I b.AF),(2,I b.Bi),(3,I b.Bl)]) (v:=.agg #[I d.Lo,I d.Hi,I b.AF,I b.Bi,I b.Bl]) (RR (es (K.AK 4 31 rfl rfl)) (es (K.AK 6 33 rfl rfl)) (es (K.AK 8 35 rfl rfl)) (es (K.AK 10 37 rfl rfl))) (by kernel_rfl)))
        (Ag (Gp rfl rfl (fun a' w' ph K=>(BY (e:=53) (vs:= #[(0,.agg #[I d.Lo,I d.Hi,I b.AF,I b.Bi,I b.Bl])]) (cs:= #[I d.Lo,I d.Hi,I b.AF,I b.Bi,I b.Bl]) (HH (es (K.AK 11 38 rfl rfl))) (by kernel_rfl)).mono (fun u Br ⟨dI,hu,b1⟩=>⟨⟨_,_,hu,Gj (xs:=[(⟨d.Lo,d.Hi,b.AF,b.Bi,b.Bl⟩:Au)]) (Bc:=[[I d.Lo,I d.Hi,I b.AF,I b.Bi,I b.Bl]]) b1.bk ((b7.ext K.Bo).kn (Nat.le_of_eq b1.EX.symm)) (R2.mv (Aj b1.gr) (show R2 AI w' (ZZ FN [] Z w.heap.size [some aU,ob f,some s,some t,some x]) [[I d.Lo,I d.Hi,I b.AF,I b.Bi,I b.Bl]] [(⟨d.Lo,d.Hi,b.AF,b.Bi,b.Bl⟩:Au)] from⟨rfl,trivial⟩)) rfl (Nat.le_refl _)⟩,b1.gr⟩)))
        (Ch _)))))))))))))) ?_
    intro c1;rintro _ rfl _ rfl _ rfl _ rfl _ rfl _ rfl _ rfl _ rfl _ rfl _ rfl _ rfl _ rfl _ ⟨cK,cL,rfl,a9⟩ aB;have aN:=b7.ext aB;have a3:AN AI 53 w.heap.size c1 (ZZ FN [] Z w.heap.size [some aU,ob f,some s,some t,some x]) f o j:=(((aE.ext aF.gr (Az aF)).gr r.gr (fun k aV=>aM.ne 1 0 rfl (congrArg some aV) rfl) (aM.AT r.gr 0 rfl)).ext aB (Aj aB));replace m:=Db m;obtain⟨bL,m⟩:=m;refine we rfl (fun st=>H6 (ys:=[(⟨d.Lo,d.Hi,b.AF,b.Bi,b.Bl⟩:Au)]) Try.underlying26 Rv rfl rfl (by decide) (ee st rfl) rfl (ee st rfl) a3 a9.n (by have:=bL;simp only[maxLen];omega) (by have:=bL;omega) aN.sz) ?_;rintro _ b8 ⟨aA,a4,rfl,aG,bA,cF⟩;have aH:Hp FN [] w [some aU,ob aA,some s,some t,some x] b8:=aN.row aG 1 rfl bA;have cG:AN AI 53 w.heap.size b8 (ZZ FN [] Z w.heap.size [some aU,ob aA,some s,some t,some x]) aA a4 (j++[(⟨d.Lo,d.Hi,b.AF,b.Bi,b.Bl⟩:Au)]):=GF cF (aN.F7 aG 1 rfl (fun k aV=>(bA k aV).1));refine wd rfl (fun st=>Am (ee st aI) (CV _ _)) ?_;have bM:=((bG.ext aB).gr aG (aN.ne 2 1 rfl rfl rfl));refine Bg rfl rfl (fun st=>Bb (n:=1) (l:=[.slice aA ((j++[(⟨d.Lo,d.Hi,b.AF,b.Bi,b.Bl⟩:Au)]).length) a4]) (B1:= #[I a.Ah,I a.Ai,I a.Ap,I a.Ax,.slice aA ((j++[(⟨d.Lo,d.Hi,b.AF,b.Bi,b.Bl⟩:Au)]).length) a4]) (ee st rfl) (ee st rfl) TL bM rfl rfl (show 4+1≤5 by decide) (AP rfl) rfl) ?_;rintro _ bN aC;have cH:=aH.gr aC.gr 2 rfl;refine Af<|Bm<|Ab<|Aa<|wm rfl (v:=I y) aT ?_;replace m:=AX m;obtain⟨cI,m⟩:=m;refine wd rfl (fun st=>Bx (ee st rfl) (ee st rfl) cI)<|wa rfl (v:=I (y+1)) rfl<|Af ?_;have cJ:Hp FN [] w [ob aA,some s,some t,some x] bN:=cH.erase 0;have bJ:AN AI 53 w.heap.size bN (ZZ FN [] Z w.heap.size [ob aA,some s,some t,some x]) aA a4 (j++[(⟨d.Lo,d.Hi,b.AF,b.Bi,b.Bl⟩:Au)]):=((cG.gr aC.gr (fun k aV=>aH.ne 1 2 rfl (congrArg some aV) rfl) (aH.AT aC.gr 2 rfl)).up (AS 0));have bO:=(((((aK.ext aF.gr).gr r.gr (aM.ne 4 0 rfl rfl rfl)).ext aB).gr aG (aN.ne 4 1 rfl rfl rfl)).gr aC.gr (aH.ne 4 2 rfl rfl rfl));have bP:=(((((aZ.ext aF.gr).gr r.gr (aM.ne 3 0 rfl rfl rfl)).ext aB).gr aG (aN.ne 3 1 rfl rfl rfl)).gr aC.gr (aH.ne 3 2 rfl rfl rfl));have bQ:=aC.bk;have bB:Sl AI bN (ZZ FN [] Z w.heap.size [ob aA,some s,some t,some x]) p q a.Ac:=((((((aL.mv (Az aF)).mv (aM.AT r.gr 0 rfl)).mv (Aj aB)).mv (aN.F7 aG 1 rfl (fun k aV=>(bA k aV).1))).mv (aH.AT aC.gr 2 rfl)).mv (AS 0));refine BC cB (Nat.lt_succ_self _) (fun st=>?_);exact⟨(y+1),(j++[(⟨d.Lo,d.Hi,b.AF,b.Bi,b.Bl⟩:Au)]),aA,a4,m,qz st,qd st,sp st 1 aS,sp st 2 bF,sp st 3 aI,sp st 4 rfl,cJ,bJ,bO,bP,bQ,bB⟩
   ·replace m:=AD m a2;refine AL rfl a2<|Cp<|AU<|AU ?_;obtain rfl:=Option.some.inj m;refine B4 (fun st=>?_);exact⟨rfl,f,o,qz st,qd st,sp st 2 bF,sp st 3 aI,bK,aE,aZ,a0⟩
 case cT=>
  rintro cR c7 dD (⟨rfl,c,g,b2,b3,a5,bR,bC,aO,bS,bT⟩);refine Cs (X:=X0) (N:=43) b2 b3<|By<|Ab<|Ae<|Aa<|wd rfl (fun st=>A5 (l:=[I a.Ah,I a.Ai,I a.Ap,I a.Ax,.slice c z5.length g]) CG (ee st bR) bT rfl rfl)<|Bg rfl rfl (fun st=>Bb (n:=5) (l:=[I a.Ah,I a.Ai,I a.Ap,I a.Ax,.slice c z5.length g]) (B1:= #[I a.Ah,I a.Ai,I a.Ap,I a.Ax,.slice c z5.length g]) (ee st a5) (ee st rfl) OU bS rfl rfl (show 0+5≤5 by decide) (AP rfl) rfl) ?_;rintro _ c2 aW;have bU:=bC.gr aW.gr 2 rfl;refine Af<|Ab<|AH ?_;obtain rfl:=Option.some.inj m;refine Gr (v:=.agg #[I a.Ah,I a.Ai,I a.Ap,I a.Ax,.slice c z5.length g]) rfl a5 (C2 CG aW.bk rfl rfl) ?_;have aP:AN AI 53 w.heap.size c2 (ZZ FN [] Z w.heap.size [ob c,some s,some t,some x]) c g z5:=(aO.gr aW.gr (fun k aV=>bC.ne 0 2 rfl (congrArg some aV) rfl) (bC.AT aW.gr 2 rfl));exact⟨bU.Bp,⟨_,rfl,_,_,rfl,bU.Mx (M:=[]) 0 rfl [] rfl trivial aP⟩⟩
theorem Uq(m:Nat)(a:Aq)(b:Option Addr)(c:Nat)(Z:Nat→Prop)(w:World)(h:Sl AI w Z b c a.Ac)(n:Int)(e:EU m a=some n):
 BI Try.prog 43 #[.agg #[I a.Ah,I a.Ai,I a.Ap,I a.Ax,.slice b a.Ac.length c]] w (fun v w'=>Ext w w'∧(Fq .i64).R w' (ZZ FN [] Z w.heap.size []) v n):=by
 unfold EU at e;refine A9 (N:=5) Try.func43 rfl rfl (by simp) ?_;intro u o x;have k:=AM (i:=0) (v:=.agg #[I a.Ah,I a.Ai,I a.Ap,I a.Ax,.slice b a.Ac.length c]) o rfl;clear o;have j:Hp FN [] w [] w:=Hp.start (BK.none w);have f:=h.mv (Bn (Z:=Z) (L:=[]) w);refine Ae<|Aa<|we rfl (fun st=>BX (v:=.agg #[I a.Ah,I a.Ai,I a.Ap,I a.Ax,.slice b a.Ac.length c]) (cs:= #[I a.Ah,I a.Ai,I a.Ap,I a.Ax,.slice b a.Ac.length c]) (ee st k) rfl) ?_;rintro _ w1 ⟨y,rfl,d⟩;have p:=j.nb d;have t:=j.BL d;refine wa rfl (v:=I 0) rfl<|Af<|Ab<|Ae<|Aa<|wd rfl (fun st=>A5 (l:=[I a.Ah,I a.Ai,I a.Ap,I a.Ax,.slice b a.Ac.length c]) C5 (ee st rfl) d.bk rfl rfl) ?_;have g:=(f.mv (Az d));replace e:=bind_some e;obtain⟨r2,q,e⟩:=e;refine we rfl (fun st=>AE PJ (ee st rfl) (BT (ee st rfl)) (T5 m a b c ZA _ g.all r2 q)) ?_;rintro _ z ⟨r,rfl⟩;have s:=p.ext r;refine wa rfl (v:=I r2) rfl<|Af<|Ab<|AH ?_;obtain rfl:=Option.some.inj e;refine AQ rfl rfl ?_;exact⟨s.Bp,rfl⟩
theorem Ur(u:Nat)(a:Aq)(d:Option Addr)(e:Nat)(Z:Nat→Prop)(w:World)(o:Sl AI w Z d e a.Ac)(z:Bool)(f:E9 u a=some z):
 BI Try.prog 42 #[.agg #[I a.Ah,I a.Ai,I a.Ap,I a.Ax,.slice d a.Ac.length e]] w (fun v w'=>Ext w w'∧BN.R w' (ZZ FN [] Z w.heap.size []) v z):=by
 unfold E9 at f;refine A9 (N:=17) Try.func42 rfl rfl (by simp) ?_;intro aG aA aH;have x:=AM (i:=0) (v:=.agg #[I a.Ah,I a.Ai,I a.Ap,I a.Ax,.slice d a.Ac.length e]) aA rfl;clear aA;have r:Hp FN [] w [] w:=Hp.start (BK.none w);have k:=o.mv (Bn (Z:=Z) (L:=[]) w);refine Ae<|Aa<|we rfl (fun st=>BX (v:=.agg #[I a.Ah,I a.Ai,I a.Ap,I a.Ax,.slice d a.Ac.length e]) (cs:= #[I a.Ah,I a.Ai,I a.Ap,I a.Ax,.slice d a.Ac.length e]) (ee st x) rfl) ?_;rintro _ w1 ⟨aI,rfl,h⟩;have s:=r.nb h;have aF:=r.BL h;refine wa rfl (v:=.bool false) rfl<|Af<|Ab<|Ae<|Aa<|wd rfl (fun st=>Am (ee st rfl) (FG _ _))<|wd rfl (fun st=>Aw (v:=.slice d a.Ac.length e) GC (ee st rfl) h.bk rfl)<|wd rfl (fun st=>BW Try.underlying56 (ee st rfl))<|wd rfl (fun st=>ES (ee st rfl) (ee st rfl))<|wm rfl (v:=.bool (decide ((a.Ac.length:Int)≤6))) rfl ?_;rcases Ao (decide ((a.Ac.length:Int)≤6)) with b|b
 ·replace f:=AB f b;refine As rfl rfl (Ad rfl b) rfl (by decide) (fun st=>A5 (l:=[I a.Ah,I a.Ai,I a.Ap,I a.Ax,.slice d a.Ac.length e]) C5 (ee st rfl) h.bk rfl rfl) ?_;have j:=(k.mv (Az h));replace f:=bind_some f;obtain⟨y,aB,f⟩:=f;refine C8 rfl rfl (Ad rfl b) rfl (by decide) (fun st=>AE PJ (ee st rfl) (BT (ee st rfl)) (T5 u a d e ZA _ j.all y aB)) ?_;rintro _ aJ ⟨n,rfl⟩;have t:=s.ext n;refine As rfl rfl (Ad rfl b) rfl (by decide) (fun st=>Gh (ee st rfl) (ee st rfl))<|As rfl rfl (Ad rfl b) rfl (by decide) (fun st=>AR (v:=.bool (y !=0)) (ee st rfl)) ?_;rcases Ao (y !=0) with g|g
  ·replace f:=AB f g;refine Ak (c:=true) rfl rfl (Ad rfl g) (by decide) rfl (by decide)<|Ak (c:=true) rfl rfl (Ad rfl g) (by decide) rfl (by decide)<|Ak (c:=true) rfl rfl (Ad rfl g) (by decide) rfl (by decide)<|As rfl rfl (Ad rfl b) rfl (by decide) (fun st=>AO (v:=.bool true) (ee st rfl) g (ee st rfl))<|wd rfl (fun st=>AO (v:=.bool true) (ee st rfl) b (ee st rfl))<|wa rfl (v:=.bool true) rfl<|Af<|Ab<|AH ?_;obtain rfl:=Option.some.inj f;refine AQ rfl rfl ?_;exact⟨t.Bp,rfl⟩
  ·replace f:=AD f g;have p:=(h.bk.ext n);refine As rfl rfl (Ad rfl g) rfl (by decide) (fun st=>A5 (l:=[I a.Ah,I a.Ai,I a.Ap,I a.Ax,.slice d a.Ac.length e]) C5 (ee st rfl) p rfl rfl) ?_;have m:=(j.mv (Aj n));replace f:=bind_some f;obtain⟨q,aC,f⟩:=f;refine C8 rfl rfl (Ad rfl g) rfl (by decide) (fun st=>AE PH (ee st rfl) (BT (ee st rfl)) (T4 u a d e ZA _ m.all q aC)) ?_;rintro _ aK ⟨aD,rfl⟩;have aE:=t.ext aD;refine As rfl rfl (Ad rfl g) rfl (by decide) (fun st=>ES (ee st rfl) (ee st rfl))<|As rfl rfl (Ad rfl b) rfl (by decide) (fun st=>Bs (v:=.bool (decide (q≤60))) (ee st rfl) g (ee st rfl))<|wd rfl (fun st=>AO (v:=.bool (decide (q≤60))) (ee st rfl) b (ee st rfl))<|wa rfl (v:=.bool (decide (q≤60))) rfl<|Af<|Ab<|AH ?_;obtain rfl:=Option.some.inj f;refine AQ rfl rfl ?_;exact⟨aE.Bp,rfl⟩
 ·replace f:=AD f b;refine Ak (c:=false) rfl rfl (Ad rfl b) (by decide) rfl (by decide)<|Ak (c:=false) rfl rfl (Ad rfl b) (by decide) rfl (by decide)<|Ak (c:=false) rfl rfl (Ad rfl b) (by decide) rfl (by decide)<|Ak (c:=false) rfl rfl (Ad rfl b) (by decide) rfl (by decide)<|Jt rfl rfl rfl rfl (by decide)<|Jt rfl rfl rfl rfl (by decide)<|Jt rfl rfl rfl rfl (by decide)<|Ak (c:=false) rfl rfl (Ad rfl b) (by decide) rfl (by decide)<|wd rfl (fun st=>Bs (v:=.bool false) (ee st rfl) b (ee st rfl))<|wa rfl (v:=.bool false) rfl<|Af<|Ab<|AH ?_;obtain rfl:=Option.some.inj f;refine AQ rfl rfl ?_;exact⟨s.Bp,rfl⟩
end Go.Proofs.Ytkljfdkmjdjpfaa
end
