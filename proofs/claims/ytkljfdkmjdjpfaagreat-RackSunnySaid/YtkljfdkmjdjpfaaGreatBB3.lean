import Derived.Test.YtkljfdkmjdjpfaaGreatBB2
import Derived.WalkKit
import Derived.KernelRfl
import Derived.WalkSpells
import Derived.WalkLawsBesides
import Derived.Maps.AppendAt
import Derived.OrdersIn
import Derived.RangeFuncIn
import Derived.RangeFuncLeaves
import Derived.RangeFuncRecord
import Derived.RangeFuncSeq
import Derived.Scope
import Derived.DeepKeys3
import Derived.Laws.CopyRow
import Derived.Laws.OwnMore
import Derived.Laws.MakeOwn
import Derived.Laws.IdiomCopy
import Derived.Test.YtkljfdkmjdjpfaaGreatProg
/-
  The contracts of the functions of the program and of the reference, and the logic that they are proved in: the base that several claims of this seat share.
-/
set_option linter.all false
section
namespace Go.Proofs.YtkljfdkmjdjpfaaGreat
theorem QP(n:Nat)(h:n<64):Me .u64 (n:Int)=some ():=by
 refine if_pos ?_;show(n:Int)%(2^64:Int)=n;rw[show(2:Int)^64=18446744073709551616 from rfl];omega
theorem Mz(K b d:Nat)(h:d<64):DW K (b:Int) (d:Int)=some (b.testBit d):=by
 unfold DW;rw[bd (QP d h),bd (PI b d h),M5 (Tk b d) (by omega),PH]
def lead:List Bool→Nat
 |true::l=>lead l+1
 |_=>0
def Gz(R:Int):List Bool→Bool
 |[]=>true
 |b::l=>decide ((lead (b::l):Int)≤R)&&Gz R l
def Ip:List Bool→Nat
 |[]=>0
 |b::l=>(cond b 1 0)+Ip l
theorem KZ(r:Nat)(l:List Bool):lead (List.replicate r true++l)=r+lead l:=by
 induction r with
 |zero=>simp
 |succ r ih=>rw[List.replicate_succ,List.cons_append,lead,ih];omega
theorem Mm(R:Int)(l:List Bool):∀r:Nat,(r:Int)≤R→Gz R (List.replicate r true++false::l)=(decide (0≤R)&&Gz R l)
 |0,_=>rfl
 |r+1,h=>by
  rw[List.replicate_succ,List.cons_append,Gz,Mm R l r (by omega)];have:lead (true::(List.replicate r true++false::l))=r+1:=by
   rw[lead,KZ];rfl
  rw[this,dt (by omega),Bool.true_and]
theorem Nn(W R:Int)(b:0≤R):∀(l:List Bool) (s:Int) (r:Nat),s≤W→(r:Int)≤R→okW W R l s r=(decide (s+(Ip l:Int)≤W)&&Gz R (List.replicate r true++l))
 |[],s,r,c,a=>by
  have:∀q:Nat,(q:Int)≤R→Gz R (List.replicate q true)=true:=by
   intro q
   induction q with
   |zero=>intro _;rfl
   |succ q ih=>
    intro f;have e:=KZ (q+1) [];rw[List.append_nil,List.replicate_succ] at e;have g:lead ([]:List Bool)=0:=rfl;rw[List.replicate_succ,Gz,e,ih (by omega),dt (by omega)];rfl
  rw[List.append_nil,this r a,okW,dt (by unfold Ip;omega)];rfl
 |false::l,s,r,c,a=>by
  rw[okW,Mm R l r a,dt b,Bool.true_and];have:=Nn W R b l s 0 c (by omega);rw[Int.natCast_zero] at this;rw[this,Ip];simp
 |true::l,s,r,c,a=>by
  rw[okW];have e:List.replicate r true++true::l=List.replicate (r+1) true++l:=by
   rw[List.replicate_succ'];simp
  rw[e]
  by_cases h1:s+1≤W
  ·by_cases d:(r:Int)+1≤R
   ·rw[dt h1,dt d,Bool.true_and,Bool.true_and,DJ,Nn W R b l (s+1) (r+1) h1 (by omega)]
    congr 2
    rw[Ip];simp;omega
   ·rw[df d,Bool.false_and,Bool.and_false];have:Gz R (List.replicate (r+1) true++l)=false:=by
     rw[List.replicate_succ,List.cons_append,Gz];have e:=KZ (r+1) l;rw[List.replicate_succ,List.cons_append] at e;rw[e,df (by omega)];rfl
    rw[this,Bool.and_false]
  ·rw[df h1,Bool.false_and];have:¬(s+(Ip (true::l):Int)≤W):=by rw[Ip];simp;omega
   rw[df this];rfl
theorem Ku(n b i:Nat)(h:i<n):(wl n b).drop i=b.testBit i::(wl n b).drop (i+1):=by
 rw[List.drop_eq_getElem_cons (by rw[Fm];exact h)]
 congr 1
 simp[wl]
theorem Tv(K:Nat)(y:Ao)(b a:Nat)(h0:0≤y.Aj)(h9:y.Aj≤9)(d:0≤y.Av)(f:y.Av≤y.Aj+1)(i:a≤9):∀(k m e:Nat) (g:Bool),(a:Int)+y.Av+1=e+k→k<m→
  Cm K y b (a:Int) m g (e:Int)=some (g&&decide (k≤lead ((wl (days y) b).drop e))):=by
 intro k
 induction k with
 |zero=>
  intro m e g h hm;cases m with
  |zero=>omega
  |succ m=>rw[Cm.eq_2,BM (by omega) (by omega),cf (df (by omega)),dt (Nat.zero_le _),Bool.and_true]
 |succ k ih=>
  intro m e g h hm;cases m with
  |zero=>omega
  |succ m=>
   rw[Cm.eq_2,BM (by omega) (by omega),ct (dt (by omega))];cases g with
   |false=>
    rw[cf rfl,BM (by omega) (by omega),DJ,ih m (e+1) false (by omega) (by omega)];rfl
   |true=>
    rw[ct rfl,Bool.true_and]
    by_cases c:(e:Int)≤y.Aj
    ·rw[ct (dt c),bd (Mz K b e (by omega)),BM (by omega) (by omega),DJ,ih m (e+1) _ (by omega) (by omega),Ku (days y) b e (by unfold days;omega)];cases b.testBit e with
     |false=>
      rw[Bool.false_and,df (show¬(k+1≤lead (false::_)) by show¬(k+1≤0);omega)]
     |true=>
      rw[Bool.true_and]
      congr 1
      rw[Bool.eq_iff_iff,decide_eq_true_eq,decide_eq_true_eq];show _↔k+1≤lead _+1;omega
    ·rw[cf (df c),BM (by omega) (by omega),DJ,ih m (e+1) false (by omega) (by omega),show(wl (days y) b).drop e=[] from List.drop_eq_nil_of_le (by rw[Fm];unfold days;omega)];rw[Bool.false_and,df (show¬(k+1≤lead []) by show¬(k+1≤0);omega)]
theorem RT(K:Nat)(y:Ao)(b a:Nat)(h0:0≤y.Aj)(h9:y.Aj≤9)(d:0≤y.Av)(f:y.Av≤y.Aj+1)(i:a≤9):∀(k m e:Nat) (g:Bool),(a:Int)+y.Av+1=e+k→k<m→
  Cg K y b (a:Int) m g (e:Int)=some (g&&decide (k≤lead ((wl (days y) b).drop e))):=by
 intro k
 induction k with
 |zero=>
  intro m e g h hm;cases m with
  |zero=>omega
  |succ m=>rw[Cg.eq_2,BM (by omega) (by omega),cf (df (by omega)),dt (Nat.zero_le _),Bool.and_true]
 |succ k ih=>
  intro m e g h hm;cases m with
  |zero=>omega
  |succ m=>
   rw[Cg.eq_2,BM (by omega) (by omega),ct (dt (by omega))];cases g with
   |false=>
    rw[cf rfl,BM (by omega) (by omega),DJ,ih m (e+1) false (by omega) (by omega)];rfl
   |true=>
    rw[ct rfl,Bool.true_and]
    by_cases c:(e:Int)≤y.Aj
    ·rw[ct (dt c),bd (Mz K b e (by omega)),BM (by omega) (by omega),DJ,ih m (e+1) _ (by omega) (by omega),Ku (days y) b e (by unfold days;omega)];cases b.testBit e with
     |false=>
      rw[Bool.false_and,df (show¬(k+1≤lead (false::_)) by show¬(k+1≤0);omega)]
     |true=>
      rw[Bool.true_and]
      congr 1
      rw[Bool.eq_iff_iff,decide_eq_true_eq,decide_eq_true_eq];show _↔k+1≤lead _+1;omega
    ·rw[cf (df c),BM (by omega) (by omega),DJ,ih m (e+1) false (by omega) (by omega),show(wl (days y) b).drop e=[] from List.drop_eq_nil_of_le (by rw[Fm];unfold days;omega)];rw[Bool.false_and,df (show¬(k+1≤lead []) by show¬(k+1≤0);omega)]
theorem Pd{K:Nat}(y:Ao)(b:Nat)(h0:0≤y.Aj)(h9:y.Aj≤9)(c:0≤y.Av)(f:y.Av≤y.Aj+1)(hK:2000≤K):∀(k m i:Nat) (s:Int),days y=i+k→k<m→0≤s→s≤i→
  Cw K y b m s (i:Int)=some (cond (Gz y.Av ((wl (days y) b).drop i)) (.inr (s+(Ip ((wl (days y) b).drop i):Int))) (.inl false)):=by
 intro k
 induction k with
 |zero=>
  intro m i s h hm h1 j;cases m with
  |zero=>omega
  |succ m=>
   rw[Cw.eq_2,cf (df (by unfold days at h;omega)),List.drop_eq_nil_of_le (by rw[Fm];omega)];show _=some (Sum.inr (s+((0:Nat):Int)));rw[Int.natCast_zero,Int.add_zero]
 |succ k ih=>
  intro m i s h hm h1 j;cases m with
  |zero=>omega
  |succ m=>
   have o:days y≤10:=by unfold days;omega
   have hi:i<days y:=by omega
   have g:(i:Int)≤y.Aj:=by unfold days at hi;omega
   have d:=Tv K y b i h0 h9 c f (by omega) (y.Av+1).toNat K i true (by omega) (by omega);have a:=RT K y b i h0 h9 c f (by omega) (y.Av+1).toNat K i true (by omega) (by omega);have l:decide ((y.Av+1).toNat≤lead ((wl (days y) b).drop i))= !decide ((lead ((wl (days y) b).drop i):Int)≤y.Av):=by
    rw[←decide_not];congr 1;rw[eq_iff_iff];omega
   rw[Bool.true_and,l] at d a;rw[Cw.eq_2,ct (dt g),bd (Mz K b i (by omega))];have e:=Ku (days y) b i hi;have n:Gz y.Av ((wl (days y) b).drop i)=(decide ((lead ((wl (days y) b).drop i):Int)≤y.Av)&&Gz y.Av ((wl (days y) b).drop (i+1))):=by
    conv=>lhs;rw[e]
    rw[Gz,←e]
   have ec:Ip ((wl (days y) b).drop i)=(cond (b.testBit i) 1 0)+Ip ((wl (days y) b).drop (i+1)):=by rw[e,Ip]
   rw[n,ec];cases ht:b.testBit i with
   |true=>
    rw[ct rfl,BM (by omega) (by omega),bd d];cases decide ((lead ((wl (days y) b).drop i):Int)≤y.Av) with
    |false=>rw[Bool.false_and];rfl
    |true=>
     rw[nt,BM (by omega) (by omega),DJ,ih m (i+1) (s+1) (by omega) (by omega) (by omega) (by omega),Bool.true_and]
     congr 2
     simp;omega
   |false=>
    rw[cf rfl,bd a];cases decide ((lead ((wl (days y) b).drop i):Int)≤y.Av) with
    |false=>rw[Bool.false_and];rfl
    |true=>
     rw[nt,BM (by omega) (by omega),DJ,ih m (i+1) s (by omega) (by omega) (by omega) (by omega),Bool.true_and]
     congr 2
     simp
theorem NY{K:Nat}(y:Ao)(b:Nat)(h0:0≤y.Aj)(h9:y.Aj≤9)(a:0≤y.Av)(d:y.Av≤y.Aj+1)(f:0≤y.An)(hK:2000≤K):Ee K y b=some (GY y (wl (days y) b)):=by
 unfold Ee;have g:days y≤10:=by unfold days;omega
 have e:=Pd (K:=K) y b h0 h9 a d hK (days y) K 0 0 (by omega) (by omega) (by omega) (by omega);rw[Int.natCast_zero,List.drop_zero] at e;rw[bd e];have c:=Nn y.An y.Av a (wl (days y) b) 0 0 f (by omega);rw[Int.natCast_zero] at c;unfold GY;rw[c];show _=some (_&&Gz y.Av (wl (days y) b));cases Gz y.Av (wl (days y) b) with
 |true=>rw[Bool.and_true];rfl
 |false=>rw[Bool.and_false];rfl
def GQ (y:Ao) (k d:Nat):List Int:=((List.range' k d).filter fun b=>GY y (wl (days y) b)).map fun b:Nat=>(b:Int)
theorem Mq(y:Ao):(GQ y 0 (2^days y)).length=(Bl y).length:=by
 unfold GQ Bl;rw[List.length_map,List.range_eq_range',List.filter_map,List.length_map];rfl
theorem Pe{K:Nat}(y:Ao)(h0:0≤y.Aj)(h9:y.Aj≤9)(d:0≤y.Av)(f:y.Av≤y.Aj+1)(g:0≤y.An)(hK:2000≤K):∀(k m i:Nat) (a:List Int),2^days y=i+k→k<m→a.length≤i→
  CE K y m a (i:Int)=some (a++GQ y i k):=by
 intro k;have j:days y≤10:=by unfold days;omega
 have n:=Im _ j;have b:y.Aj+1=(days y:Int):=by unfold days;omega
 have c:G4 (1:Int) (days y:Int)=((2^days y:Nat):Int):=by
  unfold G4;rw[Int.one_mul,Int.toNat_natCast,Int.natCast_pow];rfl
 have e:LJ (1:Int) (days y:Int)=some ():=by
  refine if_pos ⟨by omega,by omega,?_,?_⟩
  ·have:(0:Int)≤1*2^((days y:Nat):Int).toNat:=by rw[Int.one_mul];exact Int.le_of_lt (Int.pow_pos (by omega))
   exact Int.le_trans (by omega) this
  ·rw[Int.one_mul,Int.toNat_natCast];have:((2^days y:Nat):Int)≤1024:=by omega
   rw[Int.natCast_pow] at this;exact Int.le_trans this (by omega)
 induction k with
 |zero=>
  intro m i a h hm l;cases m with
  |zero=>omega
  |succ m=>
   rw[CE.eq_2,BM (by omega) (by omega),b,bd (QP _ (by omega)),bd e,c,cf (df (by omega))];simp[GQ]
 |succ k ih=>
  intro m i a h hm l;cases m with
  |zero=>omega
  |succ m=>
   rw[CE.eq_2,BM (by omega) (by omega),b,bd (QP _ (by omega)),bd e,c,ct (dt (by omega)),bd (NY y i h0 h9 d f g hK)];unfold GQ;rw[List.range'_succ,List.filter_cons];cases GY y (wl (days y) i) with
   |true=>
    rw[ct rfl,FK (by simp;omega),BM (by omega) (by omega),DJ,ih m (i+1) _ (by omega) (by omega) (by simp;omega)];simp[GQ]
   |false=>
    rw[cf rfl,BM (by omega) (by omega),DJ,ih m (i+1) a (by omega) (by omega) (by omega)];simp[GQ]
theorem Ls{K:Nat}(y:Ao)(h0:0≤y.Aj)(h9:y.Aj≤9)(a:0≤y.Av)(b:y.Av≤y.Aj+1)(c:0≤y.An)(hK:2000≤K):DU K y=some (GQ y 0 (2^days y)):=by
 unfold DU;have d:days y≤10:=by unfold days;omega
 have f:=Im _ d;have e:=Pe (K:=K) y h0 h9 a b c hK (2^days y) K 0 [] (by omega) (by omega) (by simp);rw[Int.natCast_zero] at e;rw[bd e,List.nil_append]
theorem H0{y:Ao}(h9:y.Aj≤9)(h:∀l∈y.Ac,F3 y l=true):∀l∈y.Ac,sized l∧0≤l.Aq∧l.AA≤9:=fun l a=>by
 have:=GN.1 (h l a);exact⟨KV h9 (h l a),this.1,by omega⟩
theorem P3{K:Nat}(y:Ao)(h0:0≤y.Aj)(h9:y.Aj≤9)(a:0≤y.Av)(b:y.Av≤y.Aj+1)(c:0≤y.An)(d:y.Ac.length≤4)(f:∀l∈y.Ac,sized l∧0≤l.Aq∧l.AA≤9)(hK:2000≤K):
  Dd K y=some (IL 3000 ((Bl y).length:Int) y.Ac):=by
 unfold Dd;have g:days y≤10:=by unfold days;omega
 have hw:=J2 y g;have e:=Tm y d f (K:=K) y.Ac.length K 0 ((Bl y).length:Int) (by omega) (by omega) (by omega) (by omega);rw[Int.natCast_zero,List.drop_zero] at e;rw[bd (Ls y h0 h9 a b c hK),Mq,bd e]
theorem RU(K:Nat)(y:Ao)(b:y.Ac.length≤4):∀(k m i:Nat),y.Ac.length=i+k→k<m→
  C6 K y m (i:Int)=some (cond ((y.Ac.drop i).all (F3 y)) (.inr ()) (.inl 1)):=by
 intro k
 induction k with
 |zero=>
  intro m i h hm;cases m with
  |zero=>omega
  |succ m=>rw[C6.eq_2,cf (df (by omega)),List.drop_eq_nil_of_le (by omega)];rfl
 |succ k ih=>
  intro m i h hm;cases m with
  |zero=>omega
  |succ m=>
   have hi:i<y.Ac.length:=by omega
   rw[C6.eq_2,ct (dt (by omega)),Dm hi,List.drop_eq_getElem_cons hi,List.all_cons];unfold F3;generalize y.Ac[i]=l
   by_cases h1:l.Aq<0
   ·rw[ct (dt h1),df (show¬(0≤l.Aq) by omega)];rfl
   rw[cf (df h1),dt (show 0≤l.Aq by omega)]
   by_cases a:l.AA<l.Aq
   ·rw[ct (dt a),df (show¬(l.Aq≤l.AA) by omega)];rfl
   rw[cf (df a),dt (show l.Aq≤l.AA by omega)]
   by_cases h3:y.Aj<l.AA
   ·rw[ct (dt h3),df (show¬(l.AA≤y.Aj) by omega)];rfl
   rw[cf (df h3),dt (show l.AA≤y.Aj by omega),bd (M6 ..)];cases FL l.AI 1 5 with
   |false=>rfl
   |true=>
    rw[nt,bd (M6 ..)];cases FL l.B3 1 5 with
    |false=>rfl
    |true=>
     rw[nt,bd (M6 ..)];cases FL l.Ci 0 y.Aj with
     |false=>rfl
     |true=>rw[nt,BM (by omega) (by omega),DJ,ih m (i+1) (by omega) (by omega)];rfl
theorem Oh{K:Nat}(hK:2000≤K)(y:Ao):Ei K y=some (check y):=by
 unfold Ei check
 by_cases h1:9<y.Aj
 ·rw[ct (dt h1),if_pos (.inl h1)]
 rw[cf (df h1)]
 by_cases g:2<y.Ah
 ·rw[ct (dt g),if_pos (.inr (.inl g))]
 rw[cf (df g)]
 by_cases h3:4<(y.Ac.length:Int)
 ·rw[ct (dt h3),if_pos (.inr (.inr h3))]
 rw[cf (df h3),if_neg (by omega)]
 by_cases a:y.Aj<0
 ·rw[ct (dt a),if_pos (.inl a)]
 rw[cf (df a)]
 by_cases b:y.Ah<1
 ·rw[ct (dt b),if_pos (.inr (.inl b))]
 rw[cf (df b),BM (by omega) (by omega),bd (M6 ..)];cases j:FL y.An 0 (y.Aj+1) with
 |false=>rw[nf,if_pos (.inr (.inr (.inl rfl)))]
 |true=>
  rw[nt,BM (by omega) (by omega),bd (M6 ..)];cases k:FL y.Av 0 (y.Aj+1) with
  |false=>rw[nf,if_pos (.inr (.inr (.inr (.inl rfl))))]
  |true=>
   have e:=RU K y (by omega) y.Ac.length K 0 (by omega) (by omega);rw[Int.natCast_zero,List.drop_zero] at e;rw[nt,bd e];cases m:y.Ac.all (F3 y) with
   |false=>rw[if_pos (.inr (.inr (.inr (.inr rfl))))];rfl
   |true=>
    have o:=Fu.1 j;have p:=Fu.1 k;have i:=H0 (y:=y) (by omega) (List.all_eq_true.1 m);rw[if_neg (by simp[a,b])];show(Dd K y).bind _=_;rw[bd (P3 y (by omega) (by omega) (by omega) (by omega) (by omega) (by omega) i hK)];have f:=LN (c:=3000) (by omega) ((Bl y).length:Int) (by omega) fun l n=>(i l n).1;unfold F4
    by_cases d:1000<((Bl y).length:Int)*EI y.Ac
    ·rw[ct (dt (f.2 d)),if_pos d]
    ·rw[cf (df fun h=>d (f.1 h)),if_neg d]
end Go.Proofs.YtkljfdkmjdjpfaaGreat
end
section
namespace Go.Proofs.YtkljfdkmjdjpfaaGreat
def H2(y:Ao):List Nat:=(List.range (2^days y)).filter fun b=>GY y (wl (days y) b)
theorem P4(y:Ao):GQ y 0 (2^days y)=(H2 y).map fun b:Nat=>(b:Int):=by
 unfold GQ H2;rw[List.range_eq_range']
theorem Ka(y:Ao):Bl y=(H2 y).map (wl (days y)):=by
 unfold Bl H2;rw[List.filter_map];rfl
theorem Kb(y:Ao):(H2 y).length=(Bl y).length:=by rw[Ka,List.length_map]
def Js:List AX→Nat→List Int
 |[],_=>[]
 |l::r,n=>(l.Aq+((n%(BS l).toNat:Nat):Int))::Js r (n/(BS l).toNat)
def No(y:Ao)(n:Nat):AS:=⟨Js y.Ac (n/(Bl y).length),(Bl y).getD (n%(Bl y).length) []⟩
theorem Tw(K:Nat)(y:Ao)(w:y.Ac.length≤4)(c:∀l∈y.Ac,sized l∧0≤l.Aq∧l.AA≤9):∀(k m i:Nat) (q:Nat) (a:List Int),y.Ac.length=i+k→k<m→q≤100000→a.length≤i→
  DN K y m (q:Int) (i:Int) a=some (a++Js (y.Ac.drop i) q):=by
 intro k
 induction k with
 |zero=>
  intro m i q a h hm d e;cases m with
  |zero=>omega
  |succ m=>rw[DN.eq_2,cf (df (by omega)),List.drop_eq_nil_of_le (by omega)];simp[Js]
 |succ k ih=>
  intro m i q a h hm d e;cases m with
  |zero=>omega
  |succ m=>
   have hi:i<y.Ac.length:=by omega
   obtain⟨⟨s1,s2⟩,f,j⟩:=c y.Ac[i] (List.getElem_mem hi);have b:((BS y.Ac[i]).toNat:Int)=BS y.Ac[i]:=by omega
   have p:1≤(BS y.Ac[i]).toNat:=by omega
   have g:=PK K _ f (by unfold BS at s1;omega) j;have n:(q:Int)%BS y.Ac[i]=((q%(BS y.Ac[i]).toNat:Nat):Int):=by rw[Int.natCast_emod,b]
   have o:(q:Int)/BS y.Ac[i]=((q/(BS y.Ac[i]).toNat:Nat):Int):=by rw[Int.natCast_ediv,b]
   have r:q%(BS y.Ac[i]).toNat<(BS y.Ac[i]).toNat:=Nat.mod_lt _ (by omega);have s:q/(BS y.Ac[i]).toNat≤q:=Nat.div_le_self ..;have t:(0:Int)≤((q%(BS y.Ac[i]).toNat:Nat):Int):=Int.natCast_nonneg _;have u:(0:Int)≤((q/(BS y.Ac[i]).toNat:Nat):Int):=Int.natCast_nonneg _;have v:BS y.Ac[i]=y.Ac[i].AA-y.Ac[i].Aq+1:=rfl;rw[DN.eq_2,ct (dt (by omega)),Dm hi,bd g,M5 (by omega) s1,n,BM (by omega) (by omega),FK (by simp;omega),bd g,Tj (by omega) s1,o,BM (by omega) (by omega),BM (by omega) (by omega),DJ];rw[ih m (i+1) _ _ (by omega) (by omega) (by omega) (by simp;omega),List.drop_eq_getElem_cons hi,Js];simp
theorem RV(K:Nat)(y:Ao)(b:Nat)(h0:0≤y.Aj)(h9:y.Aj≤9):∀(k m i:Nat) (a:List Bool),days y=i+k→k<m→a.length≤i→
  DD K y (b:Int) m (i:Int) a=some (a++(wl (days y) b).drop i):=by
 intro k
 induction k with
 |zero=>
  intro m i a h hm c;cases m with
  |zero=>omega
  |succ m=>rw[DD.eq_2,cf (df (by unfold days at h;omega)),List.drop_eq_nil_of_le (by rw[Fm];omega)];simp
 |succ k ih=>
  intro m i a h hm c;cases m with
  |zero=>omega
  |succ m=>
   have hi:(i:Int)≤y.Aj:=by unfold days at h;omega
   have d:=Ku (days y) b i (by omega);rw[DD.eq_2,ct (dt hi),bd (Mz K b i (by omega)),FK (by simp;omega),BM (by omega) (by omega),DJ,ih m (i+1) _ (by omega) (by omega) (by simp;omega),d];simp
theorem UD{K:Nat}(y:Ao)(hy:Fg y)(n:Nat)(d:(n:Int)<F4 y)(hK:2000≤K):Fy K y (GQ y 0 (2^days y)) (n:Int)=some (No y n):=by
 unfold Fy;have h0:=hy.h0;have h9:=hy.h9;have g:=hy.n4;have hm:=hy.many;have i:=H0 h9 hy.KX;have p:days y≤10:=by unfold days;omega
 have hlen:1≤(Bl y).length:=by
  rcases Nat.eq_zero_or_pos (Bl y).length with h|h
  ·unfold F4 at d;rw[h] at d;simp at d;omega
  ·exact h
 rw[P4,List.length_map,Kb];have j:(n:Int)%((Bl y).length:Int)=((n%(Bl y).length:Nat):Int):=by rw[Int.natCast_emod]
 have k:(n:Int)/((Bl y).length:Int)=((n/(Bl y).length:Nat):Int):=by rw[Int.natCast_ediv]
 have e:n%(Bl y).length<(Bl y).length:=Nat.mod_lt _ (by omega);have l:n/(Bl y).length≤n:=Nat.div_le_self ..;have m:(0:Int)≤((n%(Bl y).length:Nat):Int):=Int.natCast_nonneg _;have o:(0:Int)≤((n/(Bl y).length:Nat):Int):=Int.natCast_nonneg _;have a:n%(Bl y).length<(H2 y).length:=by rw[Kb];exact e
 have hi:n%(Bl y).length<((H2 y).map fun b:Nat=>(b:Int)).length:=by rw[List.length_map];exact a
 have f:=Tw K y g i y.Ac.length K 0 (n/(Bl y).length) [] (by omega) (by omega) (by omega) (by simp);have c:=RV K y ((H2 y)[n%(Bl y).length]) h0 h9 (days y) K 0 [] (by omega) (by omega) (by simp);rw[Int.natCast_zero,List.drop_zero,List.nil_append] at f c;rw[M5 (by omega) (by omega),j,Dm hi,Tj (by omega) (by omega),k,BM (by omega) (by omega),bd f,List.getElem_map,bd c];unfold No
 congr 2
 rw[List.getD_eq_getElem?_getD,List.getElem?_eq_getElem e];have:(Bl y)[n%(Bl y).length]'e=((H2 y).map (wl (days y)))[n%(Bl y).length]'(by rw[List.length_map];exact a):=by
  congr 1;exact Ka y
 rw[this,List.getElem_map];rfl
def Kd(y:Ao)(k d:Nat):List AS:=(List.range' k d).map (No y)
theorem Oi{K:Nat}(y:Ao)(hy:Fg y)(hK:2000≤K):Dd K y=some (F4 y):=by
 have a:=H0 hy.h9 hy.KX;rw[P3 y hy.h0 hy.h9 hy.u0 hy.u1 hy.w0 hy.n4 a hK];have:=hy.many;unfold F4 at this⊢;rw[Oe (by omega) _ (by omega) (fun l b=>(a l b).1) this]
def QQ(y:Ao):List AS:=Kd y 0 (F4 y).toNat
theorem Lt:∀{ls:List AX} (n:Nat),(∀l∈ls,sized l)→Dq ls (Js ls n)=true
 |[],_,_=>rfl
 |l::r,n,h=>by
  have h1:=h l (List.mem_cons_self ..);have a:n%(BS l).toNat<(BS l).toNat:=Nat.mod_lt _ (by have:=h1.1;omega);rw[Js,Dq,Lt _ fun x b=>h x (List.mem_cons_of_mem _ b),Bool.and_true,Fu];unfold BS at a⊢;omega
theorem P5:∀{ls:List AX} {c:List Int},(∀l∈ls,sized l)→Dq ls c=true→∃n:Nat,(n:Int)<EI ls∧Js ls n=c
 |[],[],_,_=>⟨0,by simp[EI],rfl⟩
 |l::r,a::d,h,b=>by
  rw[Dq,Bool.and_eq_true] at b;obtain⟨q,k,e⟩:=P5 (fun x g=>h x (List.mem_cons_of_mem _ g)) b.2;have h1:=h l (List.mem_cons_self ..);have m:=Fu.1 b.1;have f:(a-l.Aq).toNat<(BS l).toNat:=by unfold BS;omega
  have i:0<(BS l).toNat:=by omega
  refine⟨(a-l.Aq).toNat+(BS l).toNat*q,?_,?_⟩
  ·have j:BS l*((q:Int)+1)≤BS l*EI r:=Int.mul_le_mul_of_nonneg_left (by omega) (by have:=h1.1;omega);rw[EI];rw[Int.mul_add,Int.mul_one] at j;have h3:(((a-l.Aq).toNat+(BS l).toNat*q:Nat):Int)=((a-l.Aq).toNat:Int)+BS l*(q:Int):=by
    rw[Int.natCast_add,Int.natCast_mul]
    congr 2;omega
   rw[h3];omega
  ·rw[Js,Nat.add_mul_mod_self_left,Nat.mod_eq_of_lt f,Nat.add_mul_div_left _ _ i,Nat.div_eq_of_lt f,Nat.zero_add,e]
   congr 1;omega
 |[],_::_,_,h=>by cases h
 |_::_,[],_,h=>by cases h
theorem QR{y:Ao}(hy:Fg y){t:AS}:t∈QQ y↔Eh y t=true:=by
 have g:=H0 hy.h9 hy.KX;have b:∀l∈y.Ac,sized l:=fun l i=>(g l i).1;rw[←G2 hy.h0];unfold QQ Kd;rw[List.mem_map];constructor
 ·rintro⟨n,a,rfl⟩;rw[←List.range_eq_range',List.mem_range] at a;have hlen:0<(Bl y).length:=by
   rcases Nat.eq_zero_or_pos (Bl y).length with h|h
   ·unfold F4 at a;rw[h] at a;simp at a
   ·exact h
  have f:n%(Bl y).length<(Bl y).length:=Nat.mod_lt _ hlen;unfold Ca No;rw[List.mem_flatMap];refine⟨(Bl y).getD (n%(Bl y).length) [],?_,List.mem_map.2 ⟨_,Gy.2 (Lt _ b),rfl⟩⟩;rw[List.getD_eq_getElem?_getD,List.getElem?_eq_getElem f];exact List.getElem_mem f
 ·intro h;unfold Ca at h;rw[List.mem_flatMap] at h;obtain⟨w,hw,ht⟩:=h;obtain⟨c,k,rfl⟩:=List.mem_map.1 ht;obtain⟨q,o,e⟩:=P5 b (Gy.1 k);obtain⟨j,d,p⟩:=List.getElem_of_mem hw;have hlen:0<(Bl y).length:=by omega
  refine⟨j+(Bl y).length*q,?_,?_⟩
  ·rw[←List.range_eq_range',List.mem_range];have m:((Bl y).length:Int)*((q:Int)+1)≤((Bl y).length:Int)*EI y.Ac:=Int.mul_le_mul_of_nonneg_left (by omega) (by omega);rw[Int.mul_add,Int.mul_one] at m;have h3:((j+(Bl y).length*q:Nat):Int)=(j:Int)+((Bl y).length:Int)*(q:Int):=by
    rw[Int.natCast_add,Int.natCast_mul]
   unfold F4;omega
  ·unfold No;rw[Nat.add_mul_mod_self_left,Nat.mod_eq_of_lt d,Nat.add_mul_div_left _ _ hlen,Nat.div_eq_of_lt d,Nat.zero_add,e,List.getD_eq_getElem?_getD,List.getElem?_eq_getElem d]
   congr 1
end Go.Proofs.YtkljfdkmjdjpfaaGreat
end
section
namespace Go.Proofs.YtkljfdkmjdjpfaaGreat
theorem Pf(n:Nat):(iota n).Nodup:=by
 unfold iota;refine List.Pairwise.map _ (fun a b h=>?_) (List.nodup_range (n:=n));intro e;exact h (by omega)
end Go.Proofs.YtkljfdkmjdjpfaaGreat
end
section
namespace Go.Proofs.YtkljfdkmjdjpfaaGreat
theorem U3{β:Type}{n:Nat}{a b:Int}{f:Unit→Option β}(h0:0≤a)(h1:a≤b)(c:b≤n):(OV n a b).bind f=f ():=bd (if_pos ⟨h0,h1,c⟩)
end Go.Proofs.YtkljfdkmjdjpfaaGreat
end
section
namespace Go.Proofs.YtkljfdkmjdjpfaaGreat
def never:Ar:=⟨-1,-1,false⟩
def Tx(y:Ao)(s:Ar):Int:=cond (s.Bc==-1) (y.Aj+1) (s.Bc+1)
theorem Mn(c:List Int){i:Nat}(h:i<c.length):DQ c (i:Int)=c[i]:=by
 unfold DQ;rw[Int.toNat_natCast,List.getD_eq_getElem?_getD,List.getElem?_eq_getElem h];rfl
end Go.Proofs.YtkljfdkmjdjpfaaGreat
end
section
namespace Go.Proofs.YtkljfdkmjdjpfaaGreat
theorem IM(y:Ao)(w:List Bool)(c:List Int)(j:Nat):∀(l:List Int) (free:Int) (out:List Ar),(∀i∈l,0≤i)→(j:Int)∉l→(Gd y w c l free out)[j]?=out[j]?
 |[],_,_,_,_=>rfl
 |i::r,free,out,h0,h=>by
  rw[Gd,IM y w c j r _ _ (fun x a=>h0 x (List.mem_cons_of_mem _ a)) (fun h1=>h (List.mem_cons_of_mem _ h1)),List.getElem?_set_ne];intro e;have:=h0 i (List.mem_cons_self ..);exact h (by rw[←e,show((i.toNat:Nat):Int)=i by omega];exact List.mem_cons_self ..)
end Go.Proofs.YtkljfdkmjdjpfaaGreat
end
section
namespace Go.Proofs.YtkljfdkmjdjpfaaGreat
def Lu (y:Ao) (w:List Bool) (c:List Int):List Int→Int→Int
 |[],f=>f
 |i::r,f=>Lu y w c r (Tx y (Dx y w (EU y i) (max f (DQ c i))))
theorem Np(y:Ao)(w:List Bool)(c:List Int):∀(pre:List Int) (i:Int) (post:List Int) (free:Int) (out:List Ar),(pre++i::post).Nodup→(∀j∈pre++i::post,0≤j∧j<(out.length:Int))→
  (Gd y w c (pre++i::post) free out)[i.toNat]?=some (Dx y w (EU y i) (max (Lu y w c pre free) (DQ c i)))
 |[],i,post,free,out,d,b=>by
  obtain⟨h0,h1⟩:=b i (List.mem_append_right _ (List.mem_cons_self ..));have f:i∉post:=(List.nodup_cons.1 d).1;rw[List.nil_append,Gd,IM y w c i.toNat post _ _ (fun j e=>(b j (List.mem_append_right _ (List.mem_cons_of_mem _ e))).1) (by rw[Int.toNat_of_nonneg h0];exact f),List.getElem?_set_self (by omega)];rfl
 |a::pre,i,post,free,out,d,b=>by
  rw[List.cons_append,Gd];exact Np y w c pre i post _ (out.set a.toNat _) (List.nodup_cons.1 d).2 fun j e=>by rw[List.length_set];exact b j (List.mem_cons_of_mem _ e)
theorem KO(y:Ao)(w:List Bool)(c:List Int)(j:Nat):∀(o:List (List Int)) (out:List Ar),(∀i∈o.flatten,0≤i)→(j:Int)∉o.flatten→(Ge y w c o out)[j]?=out[j]?
 |[],out,_,_=>rfl
 |l::o,out,h0,h=>by
  rw[List.flatten_cons] at h0 h;rw[Ge,KO y w c j o _ (fun i hi=>h0 i (List.mem_append_right _ hi)) (fun hi=>h (List.mem_append_right _ hi)),IM y w c j l _ _ (fun i hi=>h0 i (List.mem_append_left _ hi)) (fun hi=>h (List.mem_append_left _ hi))]
theorem Nq(y:Ao)(w:List Bool)(c:List Int)(i:Int)(pre post:List Int)(e:List (List Int)):∀(f:List (List Int)) (out:List Ar),(f++(pre++i::post)::e).flatten.Nodup→(∀j∈(f++(pre++i::post)::e).flatten,0≤j∧j<(out.length:Int))→
  (Ge y w c (f++(pre++i::post)::e) out)[i.toNat]?=some (Dx y w (EU y i) (max (Lu y w c pre 0) (DQ c i)))
 |[],out,a,b=>by
  rw[List.nil_append,List.flatten_cons] at a b;have hm:i∈pre++i::post:=List.mem_append_right _ (List.mem_cons_self ..);have h0:=(b i (List.mem_append_left _ hm)).1;rw[List.nodup_append] at a;rw[List.nil_append,Ge,KO y w c i.toNat e _ (fun j d=>(b j (List.mem_append_right _ d)).1) (by rw[Int.toNat_of_nonneg h0];exact fun d=>a.2.2 i hm i d rfl),Np y w c pre i post 0 out a.1 fun j d=>b j (List.mem_append_left _ d)]
 |l::f,out,a,b=>by
  rw[List.cons_append,List.flatten_cons] at a b;rw[List.nodup_append] at a;rw[List.cons_append,Ge];exact Nq y w c i pre post e f _ a.2.1 fun j d=>by rw[Hr];exact b j (List.mem_append_right _ d)
theorem Pg{y:Ao}{o:List (List Int)}(h:Dn y o=true):o.flatten.Nodup:=(E2.1 h).2.nodup_iff.2 (Pf _)
theorem QS{y:Ao}{o:List (List Int)}(h:Dn y o=true){i:Int}:i∈o.flatten↔0≤i∧i<(y.Ac.length:Int):=by rw[(E2.1 h).2.mem_iff,M9]
theorem QT{y:Ao}{o:List (List Int)}{b c:List (List Int)}{pre post:List Int}{i:Int}(h:Dn y o=true)(e:o=b++(pre++i::post)::c)(t:AS):
  (BO y o t)[i.toNat]?=some (Dx y t.An (EU y i) (max (Lu y t.An t.Comes pre 0) (DQ t.Comes i))):=by
 have h1:=Pg h;have d:∀j∈o.flatten,0≤j∧j<(y.Ac.length:Int):=fun j a=>(QS h).1 a;subst e;unfold BO Gf;exact Nq y t.An t.Comes i pre post c b _ h1 fun j a=>by rw[List.length_replicate];exact d j a
theorem RW {y:Ao} {o:List (List Int)} (h:Dn y o=true) {i:Nat} (hi:i<y.Ac.length) {a b:List (List Int)} {pre post:List Int} (e:o=a++(pre++(i:Int)::post)::b) (t:AS):
  IC y o t i=Dx y t.An (Dr y i) (max (Lu y t.An t.Comes pre 0) (DQ t.Comes i)):=by
 have h1:=QT h e t;rw[Int.toNat_natCast] at h1;unfold IC;rw[List.getD_eq_getElem?_getD,h1];show Dx y t.An (EU y (i:Int)) _=_;unfold EU Dr;rw[Int.toNat_natCast]
theorem Ke{W R W' R':Int}(a:W≤W')(b:R≤R'):∀(l:List Bool) (s r:Int),okW W R l s r=true→okW W' R' l s r=true
 |[],_,_,_=>rfl
 |false::l,s,r,h=>Ke a b l s 0 h
 |true::l,s,r,h=>by
  rw[okW,Bool.and_eq_true,Bool.and_eq_true,decide_eq_true_eq,decide_eq_true_eq] at h⊢;exact⟨by omega,by omega,Ke a b l _ _ h.2.2⟩
theorem Lv:∀{ls:List AX} {cs:List Int},Dq ls cs=true→∀i,i<ls.length→FL (cs.getD i 0) (ls.getD i Hq).Aq (ls.getD i Hq).AA=true
 |[],_,_,i,hi=>by cases hi
 |l::ls,[],h,_,_=>by cases h
 |l::ls,c::cs,h,0,_=>by rw[Dq,Bool.and_eq_true] at h;exact h.1
 |l::ls,c::cs,h,i+1,hi=>by
  rw[Dq,Bool.and_eq_true] at h;exact Lv h.2 i (by simpa using hi)
theorem GR{y:Ao}{t:AS}:Eh y t=true↔(t.An.length:Int)=y.Aj+1∧GY y t.An=true∧Dq y.Ac t.Comes=true:=by
 unfold Eh;rw[Bool.and_eq_true,Bool.and_eq_true,decide_eq_true_eq]
theorem K0{y:Ao}{i:Nat}(hi:i<y.Ac.length):Dr y i∈y.Ac:=by
 unfold Dr;rw[List.getD_eq_getElem?_getD,List.getElem?_eq_getElem hi];exact List.getElem_mem hi
theorem RX{y:Ao}(hy:Fg y){t:AS}(ht:Eh y t=true){i:Nat}(hi:i<y.Ac.length):0≤DQ t.Comes i∧DQ t.Comes i≤y.Aj:=by
 have h1:=Fu.1 (Lv (GR.1 ht).2.2 i hi);have a:=GN.1 (hy.KX _ (K0 hi));unfold Dr at a;unfold DQ;rw[Int.toNat_natCast];omega
end Go.Proofs.YtkljfdkmjdjpfaaGreat
end
section
namespace Go.Proofs.YtkljfdkmjdjpfaaGreat
structure Alike (y x:Ao):Prop where
 last:x.Aj=y.Aj
 len:x.Ac.length=y.Ac.length
 DY:∀i:Nat,(Dr x i).AI=(Dr y i).AI
 Vm:∀i:Nat,(Dr x i).B3=(Dr y i).B3
theorem Jt{l b:AX}(h1:b.AI=l.AI)(a:b.B3=l.B3)(d0:Int):∀(ws:List Bool) (d DY r:Int),Gm b d0 ws d DY r=Gm l d0 ws d DY r
 |[],_,_,_=>rfl
 |true::ws,d,DY,r=>by rw[Gm,Gm,h1,a,Jt h1 a d0 ws]
 |false::ws,d,DY,r=>by rw[Gm,Gm,h1,a,Jt h1 a d0 ws]
theorem NZ{y x:Ao}(h:x.Aj=y.Aj){l a:AX}(h1:a.AI=l.AI)(b:a.B3=l.B3)(w:List Bool)(d:Int):Dx x w a d=Dx y w l d:=by
 unfold Dx;rw[h,Jt h1 b]
theorem Alike.at{y x:Ao}(h:Alike y x)(w:List Bool)(i d:Int):Dx x w (EU x i) d=Dx y w (EU y i) d:=NZ h.last (h.DY i.toNat) (h.Vm i.toNat) w d
theorem KP{y x:Ao}(h:Alike y x)(w:List Bool)(c:List Int):∀(l:List Int) (f:Int) (out:List Ar),Gd x w c l f out=Gd y w c l f out
 |[],_,_=>rfl
 |i::r,f,out=>by
  rw[Gd,Gd];show Gd x w c r (cond ((Dx x w (EU x i) (max f (DQ c i))).Bc==-1) (x.Aj+1) _) _=_;rw[h.at,h.last,KP h w c r]
theorem KQ{y x:Ao}(h:Alike y x)(w:List Bool)(c:List Int):∀(o:List (List Int)) (out:List Ar),Ge x w c o out=Ge y w c o out
 |[],_=>rfl
 |l::o,out=>by rw[Ge,Ge,KP h,KQ h w c o]
theorem N0{y x:Ao}(h:Alike y x)(o:List (List Int))(t:AS):BO x o t=BO y o t:=by
 unfold BO Gf;rw[h.len,KQ h]
theorem Mo{p b:AX→Ar→Bool}:∀(ls a:List AX) (ss:List Ar),ls.length=a.length→(∀i s,i<ls.length→p (ls.getD i Hq) s=true→b (a.getD i Hq) s=true)→GZ p ls ss≤GZ b a ss
 |[],[],ss,_,_=>Nat.le_refl _
 |[],_::_,_,h,_=>by cases h
 |_::_,[],_,h,_=>by cases h
 |l::ls,c::a,[],_,_=>by simp[GZ]
 |l::ls,c::a,s::ss,d,h=>by
  have h1:=Mo ls a ss (by simpa using d) fun i s hi=>h (i+1) s (by simpa using hi);have e:p l s=true→b c s=true:=h 0 s (by simp);rw[GZ,GZ];cases f:p l s with
  |false=>simp only[cond_false];omega
  |true=>rw[e f];simp only[cond_true];omega
theorem Ph {l b:AX} (h:l.Ci≤b.Ci) {s:Ar} (a:Gp l s=true):Gp b s=true:=by
 unfold Gp at a⊢;rw[Bool.and_eq_true,decide_eq_true_eq] at a⊢;exact⟨a.1,by omega⟩
theorem P6{y x:Ao}(a:x.Ac.length=y.Ac.length)(b:∀i:Nat,(Dr x i).Ci≤(Dr y i).Ci)(ss:List Ar):DS y ss≤DS x ss:=by
 unfold DS;refine Mo _ _ ss a.symm fun i s _ h=>?_;unfold DF at h⊢;cases c:Gp (x.Ac.getD i Hq) s with
 |false=>rfl
 |true=>
  have:=Ph (b i) c;unfold Dr at this;rw[this] at h;cases h
theorem RY{y x:Ao}(hy:Fg y)(a:Fg x){o o':List (List Int)}(h:∀t,Eh y t=true→Eh x t=true∧DS y (BO y o t)≤DS x (BO x o' t)):(CX y o).1≤(CX x o').1:=by
 obtain⟨_,b,h3⟩:=HY hy o;obtain⟨c,_,_⟩:=HY a o';obtain⟨d,e⟩:=h _ b;have:=c _ d;omega
structure Rt(y x:Ao):Prop extends Alike y x where
 Lw:x.Ah=y.Ah
 due:∀i:Nat,(Dr x i).Ci=(Dr y i).Ci
 comes:∀i:Nat,(Dr x i).Aq≤(Dr y i).Aq∧(Dr y i).AA≤(Dr x i).AA
 C0:y.An≤x.An
 run:y.Av≤x.Av
theorem Hs:∀{ls a:List AX} {cs:List Int},a.length=ls.length→(∀i:Nat,(a.getD i Hq).Aq≤(ls.getD i Hq).Aq∧(ls.getD i Hq).AA≤(a.getD i Hq).AA)→Dq ls cs=true→Dq a cs=true
 |[],[],cs,_,_,h=>h
 |[],_::_,_,h,_,_=>by cases h
 |_::_,[],_,h,_,_=>by cases h
 |l::ls,b::a,[],_,_,h=>by cases h
 |l::ls,b::a,c::cs,d,hw,h=>by
  rw[Dq,Bool.and_eq_true] at h⊢;have h1:=Fu.1 h.1;have e:b.Aq≤l.Aq∧l.AA≤b.AA:=hw 0;exact⟨Fu.2 (by omega),Hs (by simpa using d) (fun i=>hw (i+1)) h.2⟩
theorem Rt.Ru{y x:Ao}(h:Rt y x){t:AS}(ht:Eh y t=true):Eh x t=true:=by
 obtain⟨h1,a,h3⟩:=GR.1 ht;exact GR.2 ⟨by rw[h.last];exact h1,Ke h.C0 h.run _ _ _ a,Hs h.len h.comes h3⟩
structure MA(y z:Ao):Prop extends Alike y z where
 Lw:z.Ah=y.Ah
 due:∀i:Nat,(Dr y i).Ci≤(Dr z i).Ci
 comes:∀i:Nat,(Dr z i).Aq=(Dr y i).Aq∧(Dr y i).AA=(Dr z i).AA
 C0:y.An=z.An
 run:y.Av=z.Av
theorem MA.Ru{y z:Ao}(h:MA y z){t:AS}:Eh z t=true↔Eh y t=true:=by
 rw[GR,GR,h.last];unfold GY;rw[h.C0,h.run];refine and_congr_right fun _=>and_congr_right fun _=>⟨fun a=>Hs h.len.symm (fun i=>?_) a,fun a=>Hs h.len (fun i=>?_) a⟩
 ·have:=h.comes i;unfold Dr at this;omega
 ·have:=h.comes i;unfold Dr at this;omega
theorem MA.VG{y z:Ao}(h:MA y z)(hy:Fg y)(a:Fg z)(o:List (List Int)):(CX z o).1≤(CX y o).1:=
 RY a hy fun t ht=>⟨h.Ru.1 ht,by rw[N0 h.toAlike];exact P6 h.len.symm h.due _⟩
end Go.Proofs.YtkljfdkmjdjpfaaGreat
end
section
namespace Go.Proofs.YtkljfdkmjdjpfaaGreat
theorem Ly(l:AX)(c:1≤l.B3)(d0:Int):∀(k:Nat) (d DY:Int),DY<l.AI→Gm l d0 (List.replicate k false) d DY 0=if l.AI-DY≤k then ⟨d0,d+(l.AI-DY)-1,true⟩ else ⟨d0,-1,false⟩
 |0,d,DY,h=>by rw[if_neg (by omega)];rfl
 |k+1,d,DY,h=>by
  rw[List.replicate_succ,Gm];cases a:(DY+1==l.AI) with
  |true=>
   have:=eq_of_beq a;rw[if_pos (by omega)];show(⟨d0,d,true⟩:Ar)=_
   congr 1;omega
  |false=>
   have f:DY+1≠l.AI:=by rw[beq_eq_false_iff_ne] at a;exact a
   have e:((0:Int)==l.B3)=false:=by rw[beq_eq_false_iff_ne];omega
   rw[e];show Gm l d0 (List.replicate k false) (d+1) (DY+1) 0=_;rw[Ly l c d0 k (d+1) (DY+1) (by omega)]
   by_cases b:l.AI-(DY+1)≤k
   ·rw[if_pos b,if_pos (by omega)];congr 1;omega
   ·rw[if_neg b,if_neg (by omega)]
theorem Oj(R:Int):∀(w:List Bool) (r:Int),okW 0 R w 0 r=true→w=List.replicate w.length false
 |[],_,_=>rfl
 |false::w,r,h=>by
  rw[okW] at h;rw[List.length_cons,List.replicate_succ,←Oj R w 0 h]
 |true::w,r,h=>by
  rw[okW,Bool.and_eq_true,decide_eq_true_eq] at h;omega
theorem N1 {y:Ao} (hy:Fg y) (hw:y.An=0) {t:AS} (ht:Eh y t=true) {i:Nat} (hi:i<y.Ac.length) {d:Int} (h0:0≤d) (h9:d≤y.Aj):
  Dx y t.An (Dr y i) d=if y.Aj<d+(Dr y i).AI-1 then ⟨d,-1,false⟩ else ⟨d,d+(Dr y i).AI-1,true⟩:=by
 obtain⟨h1,a,_⟩:=GR.1 ht;have c:=GN.1 (hy.KX _ (K0 hi));unfold GY at a;rw[hw] at a;have e:=Oj _ _ _ a;unfold Dx;rw[if_neg (by omega),e,List.drop_replicate,Ly _ (by omega) d _ d 0 (by omega)]
 by_cases b:y.Aj<d+(Dr y i).AI-1
 ·rw[if_pos b,if_neg (by omega)]
 ·rw[if_neg b,if_pos (by omega)]
  congr 1;omega
end Go.Proofs.YtkljfdkmjdjpfaaGreat
end
section
namespace Go.Proofs.YtkljfdkmjdjpfaaGreat
theorem Vn{x:Int}(h0:-9223372036854775808≤x)(h1:x≤9223372036854775807):Me .i64 x=some ():=by
 unfold Me;have:IntKind.i64.wrap x=x:=Hw ⟨by omega,by omega⟩;rw[if_pos this]
theorem RZ(K:Nat)(y:Ao)(h:y.Ac.length≤6):∀(k m i:Nat) (a:List AX),y.Ac.length=i+k→k<m→a=y.Ac.take i→
  DB K y m (i:Int) a=some y.Ac:=by
 intro k
 induction k with
 |zero=>
  intro m i a hi hm b;cases m with
  |zero=>omega
  |succ m=>rw[DB.eq_2,cf (df (by omega)),b,List.take_of_length_le (by omega)]
 |succ k ih=>
  intro m i a hi hm b;cases m with
  |zero=>omega
  |succ m=>
   have c:i<y.Ac.length:=by omega
   have d:a.length≤6:=by rw[b,List.length_take];omega
   rw[DB.eq_2,ct (dt (by omega)),Dm c,bd (show Gv K (⟨y.Ac[i].Aq,y.Ac[i].AA⟩:Cv)=some (⟨y.Ac[i].Aq,y.Ac[i].AA⟩:Cv) from rfl),FK (by simp only[List.length_cons,List.length_nil];omega),BM (by omega) (by omega),DJ];refine ih m (i+1) _ (by omega) (by omega) ?_;rw[b,List.take_add_one,List.getElem?_eq_getElem c];rfl
theorem R0{K:Nat}(hK:2000≤K)(y:Ao)(h:y.Ac.length≤6):ED K y=some y:=by
 unfold ED;have:=RZ K y h y.Ac.length K 0 [] (by omega) (by omega) (by simp);rw[Int.natCast_zero] at this;rw[bd this]
theorem QU(o:List (List Int))(h:o.length≤1000)(d:∀l∈o,l.length≤1000):∀(k m i:Nat) (a:List (List Int)),o.length=i+k→k<m→a=o.take i→
  Dl o m a (i:Int)=some o:=by
 intro k
 induction k with
 |zero=>
  intro m i a hi hm c;cases m with
  |zero=>omega
  |succ m=>rw[Dl.eq_2,cf (df (by omega)),c,List.take_of_length_le (by omega)]
 |succ k ih=>
  intro m i a hi hm c;cases m with
  |zero=>omega
  |succ m=>
   have b:i<o.length:=by omega
   have e:a.length≤1000:=by rw[c,List.length_take];omega
   have:=d _ (List.getElem_mem b);rw[Dl.eq_2,ct (dt (by omega)),Dm b,FK (by simp only[List.length_nil];omega),FK (by simp only[List.length_cons,List.length_nil];omega),BM (by omega) (by omega),DJ];refine ih m (i+1) _ (by omega) (by omega) ?_;rw[c,List.take_add_one,List.getElem?_eq_getElem b];rfl
theorem QV{K:Nat}(hK:2000≤K)(o:List (List Int))(h:o.length≤1000)(a:∀l∈o,l.length≤1000):Em K o=some o:=by
 unfold Em;have:=QU o h a o.length K 0 [] (by omega) (by omega) (by simp);rw[Int.natCast_zero] at this;rw[bd this]
theorem QW(K:Nat)(t:AS)(h1:t.Comes.length≤1000)(a:t.An.length≤1000):En K t=some t:=by
 unfold En;rw[FK (by simp only[List.length_nil];omega),FK (by simp only[List.length_nil];omega)];rfl
theorem Nr(a:Ar):Ga [.inl a.On,.inl a.Bc,.inr a.AI] [.inl a.On,.inl a.Bc,.inr a.AI]=true:=by
 simp[Ga]
theorem R1(a:List Int)(h:a.length≤1000):∀(k m i:Nat),a.length=i+k→k<m→DA a a m (i:Int)=some (.inr ()):=by
 intro k
 induction k with
 |zero=>
  intro m i hi hm;cases m with
  |zero=>omega
  |succ m=>rw[DA.eq_2,cf (df (by omega))]
 |succ k ih=>
  intro m i hi hm;cases m with
  |zero=>omega
  |succ m=>
   have b:i<a.length:=by omega
   rw[DA.eq_2,ct (dt (by omega)),Dm b,Dm b,cf (by simp),BM (by omega) (by omega),DJ];exact ih m (i+1) (by omega) (by omega)
theorem R3{K:Nat}(hK:2000≤K)(a:List Int)(h:a.length≤1000):Fj K a a=some true:=by
 unfold Fj;have:=R1 a h a.length K 0 (by omega) (by omega);rw[Int.natCast_zero] at this;rw[cf (by simp),bd this];rfl
theorem QX{K:Nat}(hK:2000≤K)(y:Ao):E5 K y=some (check y):=by
 unfold E5;rw[bd (Oh hK y)]
def LA (y:Ao):Bool:=cond (decide ((y.Ac.length:Int)≤6)) (cond (check y !=0) true (decide (F4 y≤60))) false
theorem R4{K:Nat}(hK:2000≤K)(y:Ao):Fk K y=some (LA y):=by
 unfold Fk LA;cases b:decide ((y.Ac.length:Int)≤6) with
 |false=>rfl
 |true=>
  rw[ct rfl,ct rfl,bd (Oh hK y)];cases a:(check y !=0) with
  |true=>rfl
  |false=>
   have h0:check y=0:=by simpa[bne] using a
   rw[cf rfl,cf rfl,bd (Oi y (Fo h0) hK)]
def IX(y:Ao):Bool:=cond (LA y) (check y==0) false
theorem Ns{K:Nat}(hK:2000≤K)(y:Ao):Eo K y=some (IX y):=by
 unfold Eo IX;rw[bd (R4 hK y)];cases LA y with
 |false=>rfl
 |true=>rw[ct rfl,ct rfl,bd (QX hK y)]
theorem Nt{y:Ao}(h:IX y=true):check y=0∧y.Ac.length≤4:=by
 unfold IX at h;cases a:LA y with
 |false=>rw[a] at h;cases h
 |true=>
  rw[a] at h;have h0:check y=0:=by simpa using h
  exact⟨h0,(Fo h0).n4⟩
theorem P7{y:Ao}(hy:Fg y):1≤F4 y:=by
 rw[←IW y hy];have:=List.length_pos_iff.2 (Ln hy);omega
theorem R5{K:Nat}(hK:2000≤K)(y:Ao)(hy:Fg y)(n:Int)(h0:0≤n)(h1:n≤65535):∃t,Fl K y n=some t∧Eh y t=true:=by
 unfold Fl;have hm:=P7 hy;rw[bd (Ls y hy.h0 hy.h9 hy.u0 hy.u1 hy.w0 hK),bd (Vn (by omega) (by omega)),bd (Oi y hy hK),M5 h0 hm];have h3:=Int.emod_nonneg n (show F4 y≠0 by omega);have b:=Int.emod_lt_of_pos n (show 0<F4 y by omega);obtain⟨k,a⟩:=Int.eq_ofNat_of_zero_le h3;rw[a,bd (UD y hy k (by omega) hK)];refine⟨_,rfl,(QR hy).1 ?_⟩;unfold QQ Kd;exact List.mem_map.2 ⟨k,by rw[List.mem_range'_1];omega,rfl⟩
end Go.Proofs.YtkljfdkmjdjpfaaGreat
end
section
namespace Go.Proofs.YtkljfdkmjdjpfaaGreat
section
variable{K:Nat}(hK:2000≤K){y:Ao}(h:check y=0)
theorem IY{o:List (List Int)}(h:check y=0)(a:Dn y o=true):o.length≤1000∧(∀l∈o,l.length≤1000)∧o.flatten.length≤1000:=J9 (Fo h) a
include hK h
theorem P8{o:List (List Int)}(a:Dn y o=true){t:AS}(ht:Eh y t=true):FD K y o t=some (BO y o t,0):=by
 obtain⟨h1,_,h3⟩:=IY h a;rw[PV y o t hK h1 h3,if_neg (by simp[h]),if_neg (by simp[a,ht])]
theorem Ol{o:List (List Int)}(a:Dn y o=true){i:Nat}(hi:i<y.Ac.length):ET K y o (i:Int)=some (verdict y o i,0):=by
 obtain⟨h1,_,h3⟩:=IY h a;have b:FL (i:Int) 0 ((y.Ac.length:Int)-1)=true:=Fu.2 (by omega);rw[RR y o i hK h1 h3,if_neg (by simp[h]),if_neg (by simp[a,b]),Int.toNat_natCast]
theorem Ty{o:List (List Int)}(a:Dn y o=true):F8 K y o=some ((CX y o).1,(CX y o).2,0):=by
 obtain⟨h1,_,h3⟩:=IY h a;rw[PX y o hK h1 h3,if_neg (by simp[h]),if_neg (by simp[a])]
theorem Tz:GF K y=some ((HH y).2,(HH y).1,0):=by rw[Ts y hK,if_neg (by simp[h])]
theorem TA:GG K y=some ((Lr y).2.2,(Lr y).1,0):=by rw[Tt y hK,if_neg (by simp[h])]
theorem Pj:Ft K y=some (F5 y 0 y.Ac.length,0):=by rw[Pc y hK,if_neg (by simp[h])]
theorem Nu{o:List (List Int)}(a:Dn y o=true)(n:Int):EX K y o n=some (decide ((CX y o).1≤n)):=by
 obtain⟨h1,_,h3⟩:=IY h a;rw[Nb y o n hK h1 h3,dt h,a];rfl
theorem N2{o:List (List Int)}(a:Dn y o=true){t:AS}(ht:Eh y t=true)(n:Int):Fe K y o t n=some (decide (n≤(DS y (BO y o t):Int))):=by
 obtain⟨h1,_,h3⟩:=IY h a;rw[NX y o t n hK h1 h3,dt h,a,ht];rfl
end
def y1:Ao:=⟨5,1,1,1,[⟨0,0,2,2,2⟩,⟨1,1,2,1,5⟩]⟩
def t3:AS:=⟨[0,1],[false,false,false,true,false,false]⟩
theorem HJ:check y1=0:=by decide+kernel
theorem Rv:Dn y1 [[0,1]]=true:=E2.2 ⟨rfl,by decide⟩
theorem Pk:Dn y1 [[1,0]]=true:=E2.2 ⟨rfl,by decide⟩
theorem UE:Eh y1 t3=true:=by decide+kernel
theorem UF:BO y1 [[0,1]] t3=[⟨0,1,true⟩,⟨2,3,false⟩]:=by
 have h:∀(a b:List Ar),a.map (fun s=>(s.On,s.Bc,s.AI))=b.map (fun s=>(s.On,s.Bc,s.AI))→a=b:=by
  intro a
  induction a with
  |nil=>intro b h;cases b with|nil=>rfl|cons x l=>cases h
  |cons x l ih=>
   intro b h;cases b with
   |nil=>cases h
   |cons x2 c=>
    have h1:=List.cons.inj h;obtain⟨a1,a2,a3⟩:=x;obtain⟨d,e,f⟩:=x2;have g:a1=d∧a2=e∧a3=f:=by simpa using h1.1
    obtain⟨rfl,rfl,rfl⟩:=g;rw[ih c h1.2]
 exact h _ _ (by decide+kernel)
theorem Pm{K:Nat}(hK:2000≤K):Dw K=some true:=by
 unfold Dw;have a:Cx K 1=some y1:=rfl;have b:Gb K 3=some t3:=rfl;have c:ET K y1 [[0,1]] 1=some (verdict y1 [[0,1]] 1,0):=Ol hK HJ Rv (i:=1) (by decide);have d:ET K y1 [[1,0]] 0=some (verdict y1 [[1,0]] 0,0):=Ol hK HJ Pk (i:=0) (by decide);have hy:=Fo HJ;obtain⟨_,e,h⟩:=HY hy [[1,0]];obtain⟨_,f,j⟩:=O9 hy;have v1:verdict y1 [[0,1]] 1=3:=by decide+kernel
 have v2:verdict y1 [[1,0]] 0=2:=by decide+kernel
 have v3:(CX y1 [[1,0]]).1=2:=by decide+kernel
 have v4:(HH y1).1=1:=by decide+kernel
 have v5:(Lr y1).1=1:=by decide+kernel
 have v6:F5 y1 0 y1.Ac.length=[1]:=by decide+kernel
 rw[bd a,bd b,bd (P8 hK HJ Rv UE),bd a,bd c,bd a,bd d,bd a,bd (Ty hK HJ Pk),bd a,bd (Tz hK HJ),bd a,bd (TA hK HJ),bd a,bd (Pj hK HJ),UF];rw[ct (by rfl)];have s1:CY K 0 1 true=some ⟨0,1,true⟩:=rfl;have s2:CY K 2 3 false=some ⟨2,3,false⟩:=rfl;have g:Gc K [⟨0,1,true⟩,⟨2,3,false⟩] ⟨0,1,true⟩ ⟨2,3,false⟩=some true:=rfl;rw[bd s1,bd s2,bd g,ct (by rfl),ct (by rfl),v1,ct (by rfl),ct (by rfl),v2,ct (by rfl),ct (by rfl),v3,ct (by rfl),bd a,bd (N2 hK HJ Pk e 2),ct (dt (by omega)),ct (by rfl),v4,ct (by rfl),bd a,bd (Nu hK HJ f 1),ct (dt (by omega)),ct (by rfl),v5,ct (by rfl),ct (by rfl),v6,bd (R3 hK [1] (by decide))]
end Go.Proofs.YtkljfdkmjdjpfaaGreat
end
section
namespace Go.Proofs.YtkljfdkmjdjpfaaGreat
namespace HF
theorem mixed:Tryz.prog.follows .mixedOrders=true:=by kernel_rfl
theorem Ju(b:Nat)(w:World):(Instr.fieldAt 154 (.pointer (some ⟨b,0,none⟩)) 1).run Tryz.prog w=.ok (.pointer (some ⟨b,1,none⟩)) w:=by kernel_rfl
theorem AW:One Tryz.prog 3:=by unfold One;exact⟨by kernel_rfl,by kernel_rfl⟩
theorem Jv(b:Nat)(w:World):(Instr.fieldAt 154 (.pointer (some ⟨b,0,none⟩)) 0).run Tryz.prog w=.ok (.pointer (some ⟨b,0,none⟩)) w:=by kernel_rfl
theorem IZ:Bi Tryz.prog 90:=by unfold Bi;kernel_rfl
theorem Jw(b:Nat)(w:World):(Instr.fieldAt 116 (.pointer (some ⟨b,0,none⟩)) 1).run Tryz.prog w=.ok (.pointer (some ⟨b,1,none⟩)) w:=by kernel_rfl
theorem Iq(b:Nat)(w:World):(Instr.fieldAt 116 (.pointer (some ⟨b,0,none⟩)) 0).run Tryz.prog w=.ok (.pointer (some ⟨b,0,none⟩)) w:=by kernel_rfl
theorem TB:(Tryz.prog.underlying 3).isSome=true:=by kernel_rfl
theorem GS:(Tryz.prog.info? 115).bind (·.zero)=some (.agg #[I 0,I 0,.bool false]):=by kernel_rfl
theorem DR:(Tryz.prog.info? 115).map (·.size)=some 3:=by kernel_rfl
theorem Db:Ds Tryz.prog 115 3:=by unfold Ds;exact⟨by kernel_rfl,by kernel_rfl⟩
theorem CS(b:Nat)(w:World):(Instr.fieldAt 75 (.pointer (some ⟨b,0,none⟩)) 4).run Tryz.prog w=.ok (.pointer (some ⟨b,4,none⟩)) w:=by kernel_rfl
theorem De:One Tryz.prog 73:=by unfold One;exact⟨by kernel_rfl,by kernel_rfl⟩
theorem QY(b:Nat)(w:World):(Instr.fieldAt 115 (.pointer (some ⟨b,0,none⟩)) 2).run Tryz.prog w=.ok (.pointer (some ⟨b,2,none⟩)) w:=by kernel_rfl
theorem Kw:One Tryz.prog 4:=by unfold One;exact⟨by kernel_rfl,by kernel_rfl⟩
theorem Jx(b:Nat)(w:World):(Instr.fieldAt 115 (.pointer (some ⟨b,0,none⟩)) 1).run Tryz.prog w=.ok (.pointer (some ⟨b,1,none⟩)) w:=by kernel_rfl
theorem Nv(b:Nat)(w:World):(Instr.fieldAt 156 (.pointer (some ⟨b,0,none⟩)) 3).run Tryz.prog w=.ok (.pointer (some ⟨b,4,none⟩)) w:=by kernel_rfl
theorem Hd:Ds Tryz.prog 156 5:=by unfold Ds;exact⟨by kernel_rfl,by kernel_rfl⟩
theorem Nw:Bi Tryz.prog 97:=by unfold Bi;kernel_rfl
theorem FF(b:Nat)(w:World):(Instr.fieldAt 63 (.pointer (some ⟨b,0,none⟩)) 0).run Tryz.prog w=.ok (.pointer (some ⟨b,0,none⟩)) w:=by kernel_rfl
theorem LB:Bi Tryz.prog 54:=by unfold Bi;kernel_rfl
theorem Kx(b:Nat)(w:World):(Instr.fieldAt 63 (.pointer (some ⟨b,0,none⟩)) 3).run Tryz.prog w=.ok (.pointer (some ⟨b,3,none⟩)) w:=by kernel_rfl
theorem Ky(b:Nat)(w:World):(Instr.fieldAt 63 (.pointer (some ⟨b,0,none⟩)) 2).run Tryz.prog w=.ok (.pointer (some ⟨b,2,none⟩)) w:=by kernel_rfl
theorem Fz:Ds Tryz.prog 63 5:=by unfold Ds;exact⟨by kernel_rfl,by kernel_rfl⟩
theorem TD:Bi Tryz.prog 95:=by unfold Bi;kernel_rfl
theorem Ht:(Tryz.prog.info? 3).map (fun i=>(i.zero,i.size,i.bytes))=some (some (I 0),1,8):=by kernel_rfl
theorem Om:Bi Tryz.prog 100:=by unfold Bi;kernel_rfl
theorem EG(b:Nat)(w:World):(Instr.fieldAt 63 (.pointer (some ⟨b,0,none⟩)) 4).run Tryz.prog w=.ok (.pointer (some ⟨b,4,none⟩)) w:=by kernel_rfl
theorem FA:One Tryz.prog 61:=by unfold One;exact⟨by kernel_rfl,by kernel_rfl⟩
theorem HM:(Tryz.prog.info? 118).map (·.size)=some 5:=by kernel_rfl
theorem Nx(b o:Nat)(w:World):(Instr.fieldAt 118 (.pointer (some ⟨b,o,none⟩)) 0).run Tryz.prog w=.ok (.pointer (some ⟨b,o,none⟩)) w:=by kernel_rfl
theorem I0:Ds Tryz.prog 116 2:=by unfold Ds;exact⟨by kernel_rfl,by kernel_rfl⟩
theorem LU:Bi Tryz.prog 136:=by unfold Bi;kernel_rfl
theorem I1(b:Nat)(w:World):(Instr.fieldAt 63 (.pointer (some ⟨b,0,none⟩)) 1).run Tryz.prog w=.ok (.pointer (some ⟨b,1,none⟩)) w:=by kernel_rfl
theorem Kf:Bi Tryz.prog 46:=by unfold Bi;kernel_rfl
theorem Oo:Ds Tryz.prog 118 5:=by unfold Ds;exact⟨by kernel_rfl,by kernel_rfl⟩
theorem Ny:(Tryz.prog.info? 118).bind (·.zero)=some (.agg #[I 0,I 0,I 0,I 0,I 0]):=by kernel_rfl
theorem Ir(b:Nat)(w:World):(Instr.fieldAt 118 (.pointer (some ⟨b,0,none⟩)) 0).run Tryz.prog w=.ok (.pointer (some ⟨b,0,none⟩)) w:=by kernel_rfl
theorem Nz(b:Nat)(w:World):(Instr.fieldAt 118 (.pointer (some ⟨b,0,none⟩)) 1).run Tryz.prog w=.ok (.pointer (some ⟨b,2,none⟩)) w:=by kernel_rfl
theorem NA(b:Nat)(w:World):(Instr.fieldAt 118 (.pointer (some ⟨b,0,none⟩)) 2).run Tryz.prog w=.ok (.pointer (some ⟨b,3,none⟩)) w:=by kernel_rfl
theorem NB(b:Nat)(w:World):(Instr.fieldAt 118 (.pointer (some ⟨b,0,none⟩)) 3).run Tryz.prog w=.ok (.pointer (some ⟨b,4,none⟩)) w:=by kernel_rfl
theorem NC:Bi Tryz.prog 81:=by unfold Bi;kernel_rfl
theorem Jy(b:Nat)(w:World):(Instr.fieldAt 156 (.pointer (some ⟨b,0,none⟩)) 0).run Tryz.prog w=.ok (.pointer (some ⟨b,0,none⟩)) w:=by kernel_rfl
theorem Kz:Ds Tryz.prog 154 2:=by unfold Ds;exact⟨by kernel_rfl,by kernel_rfl⟩
theorem He(b:Nat)(w:World):(Instr.fieldAt 75 (.pointer (some ⟨b,0,none⟩)) 0).run Tryz.prog w=.ok (.pointer (some ⟨b,0,none⟩)) w:=by kernel_rfl
theorem R6:Bi Tryz.prog 140:=by unfold Bi;kernel_rfl
theorem G9(b:Nat)(w:World):(Instr.fieldAt 156 (.pointer (some ⟨b,0,none⟩)) 1).run Tryz.prog w=.ok (.pointer (some ⟨b,2,none⟩)) w:=by kernel_rfl
theorem Oq:Bi Tryz.prog 141:=by unfold Bi;kernel_rfl
theorem K1(b:Nat)(w:World):(Instr.fieldAt 156 (.pointer (some ⟨b,0,none⟩)) 2).run Tryz.prog w=.ok (.pointer (some ⟨b,3,none⟩)) w:=by kernel_rfl
theorem Df:(Tryz.prog.info? 3).map (·.size)=some 1:=by kernel_rfl
theorem LW:(Tryz.prog.info? 75).bind (·.zero)=some (.agg #[I 0,I 0,I 0,I 0,.slice none 0 0]):=by kernel_rfl
theorem Pn:(Tryz.prog.info? 75).map (·.size)=some 5:=by kernel_rfl
theorem CH:Ds Tryz.prog 75 5:=by unfold Ds;exact⟨by kernel_rfl,by kernel_rfl⟩
theorem GH:(Tryz.prog.info? 78).bind (·.zero)=some (.agg #[.slice none 0 0,.slice none 0 0]):=by kernel_rfl
theorem Kg:(Tryz.prog.info? 4).map (fun i=>(i.zero,i.size,i.bytes))=some (some (.bool false),1,1):=by kernel_rfl
theorem GK:(Tryz.prog.info? 78).map (·.size)=some 2:=by kernel_rfl
theorem Hf(b:Nat)(w:World):(Instr.fieldAt 78 (.pointer (some ⟨b,0,none⟩)) 1).run Tryz.prog w=.ok (.pointer (some ⟨b,1,none⟩)) w:=by kernel_rfl
theorem Gs:One Tryz.prog 65:=by unfold One;exact⟨by kernel_rfl,by kernel_rfl⟩
theorem Kh:(Tryz.prog.info? 4).map (·.size)=some 1:=by kernel_rfl
theorem FM:Ds Tryz.prog 78 2:=by unfold Ds;exact⟨by kernel_rfl,by kernel_rfl⟩
theorem I2:Tryz.prog.eqGuardType Tryz.prog.depth 115=false:=by kernel_rfl
theorem Is:OW Tryz.prog 115 [true,true,false]:=NW Tryz.underlying115 (by kernel_rfl) (by kernel_rfl) AW Tryz.underlying3 Kw Tryz.underlying4
theorem QZ:(Tryz.prog.info? 154).bind (·.zero)=some (.agg #[I 0,I 0]):=by kernel_rfl
theorem TE:(Tryz.prog.info? 154).map (·.size)=some 2:=by kernel_rfl
theorem TF:Bi Tryz.prog 88:=by unfold Bi;kernel_rfl
theorem Q0:(Tryz.prog.info? 156).map (fun i=>(i.zero,i.size,i.bytes))=some (some (.agg #[I 0,I 0,I 0,I 0,I 0]),5,40):=by kernel_rfl
theorem UG:(Tryz.prog.info? 73).map (·.size)=some 1:=by kernel_rfl
theorem P9:Bi Tryz.prog 80:=by unfold Bi;kernel_rfl
theorem R7:One Tryz.prog 168:=by unfold One;exact⟨by kernel_rfl,by kernel_rfl⟩
theorem GU:(Tryz.prog.info? 156).map (·.size)=some 5:=by kernel_rfl
theorem R8:Bi Tryz.prog 175:=by unfold Bi;kernel_rfl
theorem R9:Bi Tryz.prog 143:=by unfold Bi;kernel_rfl
theorem Sa:Bi Tryz.prog 142:=by unfold Bi;kernel_rfl
theorem Sb:One Tryz.prog 237:=by unfold One;exact⟨by kernel_rfl,by kernel_rfl⟩
theorem Sc:Bi Tryz.prog 210:=by unfold Bi;kernel_rfl
theorem Sd:Bi Tryz.prog 198:=by unfold Bi;kernel_rfl
theorem Se:Bi Tryz.prog 197:=by unfold Bi;kernel_rfl
theorem Ot(b:Nat)(w:World):(Instr.fieldAt 75 (.pointer (some ⟨b,0,none⟩)) 2).run Tryz.prog w=.ok (.pointer (some ⟨b,2,none⟩)) w:=by kernel_rfl
theorem Ou(b:Nat)(w:World):(Instr.fieldAt 75 (.pointer (some ⟨b,0,none⟩)) 3).run Tryz.prog w=.ok (.pointer (some ⟨b,3,none⟩)) w:=by kernel_rfl
theorem It:(Tryz.prog.info? 3).bind (·.zero)=some (I 0):=by kernel_rfl
theorem Sf:Bi Tryz.prog 173:=by unfold Bi;kernel_rfl
theorem Sg:Bi Tryz.prog 172:=by unfold Bi;kernel_rfl
theorem Sh:Bi Tryz.prog 145:=by unfold Bi;kernel_rfl
theorem Ov:Bi Tryz.prog 138:=by unfold Bi;kernel_rfl
theorem I3(b:Nat)(w:World):(Instr.fieldAt 75 (.pointer (some ⟨b,0,none⟩)) 1).run Tryz.prog w=.ok (.pointer (some ⟨b,1,none⟩)) w:=by kernel_rfl
theorem TG:Bi Tryz.prog 89:=by unfold Bi;kernel_rfl
theorem TH:Bi Tryz.prog 91:=by unfold Bi;kernel_rfl
theorem Qa:Bi Tryz.prog 92:=by unfold Bi;kernel_rfl
theorem Ow:Bi Tryz.prog 144:=by unfold Bi;kernel_rfl
theorem K2:(Tryz.prog.info? 156).bind (·.zero)=some (.agg #[I 0,I 0,I 0,I 0,I 0]):=by kernel_rfl
theorem Qb:Bi Tryz.prog 94:=by unfold Bi;kernel_rfl
theorem TI:Bi Tryz.prog 93:=by unfold Bi;kernel_rfl
theorem Er:One Tryz.prog 23:=by unfold One;exact⟨by kernel_rfl,by kernel_rfl⟩
theorem Si:One Tryz.prog 161:=by unfold One;exact⟨by kernel_rfl,by kernel_rfl⟩
theorem ND(b o:Nat)(w:World):(Instr.fieldAt 156 (.pointer (some ⟨b,o,none⟩)) 0).run Tryz.prog w=.ok (.pointer (some ⟨b,o,none⟩)) w:=by kernel_rfl
theorem Q1(b o:Nat)(w:World):(Instr.fieldAt 154 (.pointer (some ⟨b,o,none⟩)) 0).run Tryz.prog w=.ok (.pointer (some ⟨b,o,none⟩)) w:=by kernel_rfl
theorem KA:One Tryz.prog 176:=by unfold One;exact⟨by kernel_rfl,by kernel_rfl⟩
theorem Ox:Bi Tryz.prog 200:=by unfold Bi;kernel_rfl
theorem Sj:(Tryz.prog.info? 23).bind (·.zero)=some (.slice none 0 0):=by kernel_rfl
theorem Fv:(Tryz.prog.info? 23).map (·.size)=some 1:=by kernel_rfl
theorem Sk:(Tryz.prog.info? 65).bind (·.zero)=some (.slice none 0 0):=by kernel_rfl
theorem Rw:(Tryz.prog.info? 65).map (·.size)=some 1:=by kernel_rfl
theorem NF:(Tryz.prog.info? 176).bind (·.zero)=some (.nilFunc):=by kernel_rfl
theorem Qc:(Tryz.prog.info? 176).map (·.size)=some 1:=by kernel_rfl
theorem Sm(w:World):(Op.equal 23 (.slice none 0 0) (.slice none 0 0)).run Tryz.prog w=.ok true w:=by kernel_rfl
theorem Sn(ad:Addr)(n c:Nat)(w:World):(Op.equal 23 (.slice (some ad) n c) (.slice none 0 0)).run Tryz.prog w=.ok false w:=by kernel_rfl
theorem LX:Bi Tryz.prog 149:=by unfold Bi;kernel_rfl
theorem Sp(w:World):(Op.equal 65 (.slice none 0 0) (.slice none 0 0)).run Tryz.prog w=.ok true w:=by kernel_rfl
theorem Sq(ad:Addr)(n c:Nat)(w:World):(Op.equal 65 (.slice (some ad) n c) (.slice none 0 0)).run Tryz.prog w=.ok false w:=by kernel_rfl
theorem LY:Bi Tryz.prog 150:=by unfold Bi;kernel_rfl
theorem I4:(Tryz.prog.info? 23).map (fun i=>(i.zero,i.size,i.bytes))=some (some (.slice none 0 0),1,24):=by kernel_rfl
theorem Sr(w:World):(Op.equal 64 (.slice none 0 0) (.slice none 0 0)).run Tryz.prog w=.ok true w:=by kernel_rfl
theorem Ss(ad:Addr)(n c:Nat)(w:World):(Op.equal 64 (.slice (some ad) n c) (.slice none 0 0)).run Tryz.prog w=.ok false w:=by kernel_rfl
theorem Su:Bi Tryz.prog 153:=by unfold Bi;kernel_rfl
theorem UH:∀(b c:Bool) (w:World),(Op.equal 4 (.bool b) (.bool c)).run Tryz.prog w=.ok (b==c) w:=by intro b c w;cases b<;>cases c<;>kernel_rfl
theorem HA(b:Nat)(w:World):(Instr.fieldAt 78 (.pointer (some ⟨b,0,none⟩)) 0).run Tryz.prog w=.ok (.pointer (some ⟨b,0,none⟩)) w:=by kernel_rfl
theorem Oy:KI Tryz.prog 220 2:=OQ 2 Tryz.underlying220 (by kernel_rfl) rfl rfl AW Tryz.underlying3
theorem NG:MM Tryz.prog 220 2:=NR 2 Tryz.underlying220 rfl rfl AW Tryz.underlying3
theorem Mp:Je Tryz.prog 220:=by unfold Je;kernel_rfl
theorem TJ:(Tryz.prog.info? 115).bind (·.zero)=some (.agg #[I 0,I 0,.bool false]):=by kernel_rfl
theorem Ha(b:Nat)(w:World):(Instr.fieldAt 220 (.pointer (some ⟨b,0,none⟩)) 1).run Tryz.prog w=.ok (.pointer (some ⟨b,1,none⟩)) w:=by kernel_rfl
theorem Iu(b o:Nat)(w:World):(Instr.fieldAt 165 (.pointer (some ⟨b,o,none⟩)) 0).run Tryz.prog w=.ok (.pointer (some ⟨b,o,none⟩)) w:=by kernel_rfl
theorem LZ(b o:Nat)(w:World):(Instr.fieldAt 75 (.pointer (some ⟨b,o,none⟩)) 0).run Tryz.prog w=.ok (.pointer (some ⟨b,o,none⟩)) w:=by kernel_rfl
theorem Oz(b o:Nat)(w:World):(Instr.fieldAt 75 (.pointer (some ⟨b,o,none⟩)) 4).run Tryz.prog w=.ok (.pointer (some ⟨b,o+4,none⟩)) w:=by kernel_rfl
theorem Q2(b:Nat)(w:World):(Instr.fieldAt 220 (.pointer (some ⟨b,0,none⟩)) 0).run Tryz.prog w=.ok (.pointer (some ⟨b,0,none⟩)) w:=by kernel_rfl
theorem NH(b o:Nat)(w:World):(Instr.fieldAt 165 (.pointer (some ⟨b,o,none⟩)) 1).run Tryz.prog w=.ok (.pointer (some ⟨b,o+5,none⟩)) w:=by kernel_rfl
theorem NI(b o:Nat)(w:World):(Instr.fieldAt 165 (.pointer (some ⟨b,o,none⟩)) 2).run Tryz.prog w=.ok (.pointer (some ⟨b,o+6,none⟩)) w:=by kernel_rfl
theorem OA:One Tryz.prog 163:=by unfold One;exact⟨by kernel_rfl,by kernel_rfl⟩
theorem L0:Ds Tryz.prog 220 2:=by unfold Ds;exact⟨by kernel_rfl,by kernel_rfl⟩
theorem Sv:Bi Tryz.prog 174:=by unfold Bi;kernel_rfl
theorem Q3:(Tryz.prog.info? 115).map (fun i=>(i.zero,i.size,i.bytes))=some (some (.agg #[I 0,I 0,.bool false]),3,24):=by kernel_rfl
theorem Sw:Bi Tryz.prog 139:=by unfold Bi;kernel_rfl
theorem Sx:Bi Tryz.prog 137:=by unfold Bi;kernel_rfl
theorem I5:Bi Tryz.prog 35:=by unfold Bi;kernel_rfl
theorem NJ:Bi Tryz.prog 85:=by unfold Bi;kernel_rfl
theorem TK:Bi Tryz.prog 86:=by unfold Bi;kernel_rfl
theorem LC:Bi Tryz.prog 87:=by unfold Bi;kernel_rfl
theorem NK:(Tryz.prog.info? 183).bind (·.zero)=some (.agg #[.nilFunc]):=by kernel_rfl
theorem Qd:(Tryz.prog.info? 183).map (·.size)=some 1:=by kernel_rfl
theorem NL(b:Nat)(w:World):(Instr.fieldAt 183 (.pointer (some ⟨b,0,none⟩)) 0).run Tryz.prog w=.ok (.pointer (some ⟨b,0,none⟩)) w:=by kernel_rfl
theorem OB:One Tryz.prog 180:=by unfold One;exact⟨by kernel_rfl,by kernel_rfl⟩
theorem OC:Bi Tryz.prog 107:=by unfold Bi;kernel_rfl
theorem OD:Bi Tryz.prog 103:=by unfold Bi;kernel_rfl
theorem Q4:(Tryz.prog.info? 162).bind (·.zero)=some (.pointer none):=by kernel_rfl
theorem Sy:Bi Tryz.prog 176:=by unfold Bi;kernel_rfl
theorem H5:One Tryz.prog 162:=by unfold One;exact⟨by kernel_rfl,by kernel_rfl⟩
theorem Qe(w:World):(Op.equal 162 (.pointer none) (.pointer none)).run Tryz.prog w=.ok true w:=by kernel_rfl
theorem Qf:(Tryz.prog.info? 162).map (·.size)=some 1:=by kernel_rfl
theorem L1:One Tryz.prog 223:=by unfold One;exact⟨by kernel_rfl,by kernel_rfl⟩
theorem F6:One Tryz.prog 64:=by unfold One;exact⟨by kernel_rfl,by kernel_rfl⟩
theorem Qg(ad:Addr)(w:World):(Op.equal 162 (.pointer (some ad)) (.pointer none)).run Tryz.prog w=.ok false w:=by kernel_rfl
theorem Sz:Bi Tryz.prog 177:=by unfold Bi;kernel_rfl
theorem SA:Bi Tryz.prog 199:=by unfold Bi;kernel_rfl
theorem Iv:(Tryz.prog.info? 178).bind (·.zero)=some (.agg #[I 0,I 0,I 0,I 0]):=by kernel_rfl
theorem SC:Bi Tryz.prog 147:=by unfold Bi;kernel_rfl
theorem OE:Bi Tryz.prog 146:=by unfold Bi;kernel_rfl
theorem H6:Ds Tryz.prog 178 4:=by unfold Ds;exact⟨by kernel_rfl,by kernel_rfl⟩
theorem I6:(Tryz.prog.info? 178).map (·.size)=some 4:=by kernel_rfl
theorem SD:Bi Tryz.prog 148:=by unfold Bi;kernel_rfl
theorem TL:Bi Tryz.prog 96:=by unfold Bi;kernel_rfl
theorem NM:Bi Tryz.prog 98:=by unfold Bi;kernel_rfl
theorem Qh:Bi Tryz.prog 99:=by unfold Bi;kernel_rfl
theorem Qi:Bi Tryz.prog 41:=by unfold Bi;kernel_rfl
theorem NN:Bi Tryz.prog 30:=by unfold Bi;kernel_rfl
theorem SE:Bi Tryz.prog 152:=by unfold Bi;kernel_rfl
theorem L2:Bi Tryz.prog 106:=by unfold Bi;kernel_rfl
theorem ID:(Tryz.prog.info? 64).map (·.size)=some 1:=by kernel_rfl
theorem SF:Ds Tryz.prog 183 1:=by unfold Ds;exact⟨by kernel_rfl,by kernel_rfl⟩
theorem SG:Tryz.prog.eqGuardType Tryz.prog.depth 178=false:=by kernel_rfl
theorem SH:KI Tryz.prog 178 4:=Pt Tryz.underlying178 AW Tryz.underlying3
theorem TM:One Tryz.prog 69:=by unfold One;exact⟨by kernel_rfl,by kernel_rfl⟩
theorem OF:Bi Tryz.prog 151:=by unfold Bi;kernel_rfl
theorem L3:(Tryz.prog.info? 64).bind (·.zero)=some (.slice none 0 0):=by kernel_rfl
theorem SI:Bi Tryz.prog 105:=by unfold Bi;kernel_rfl
theorem OG:Bi Tryz.prog 104:=by unfold Bi;kernel_rfl
theorem SJ:Bi Tryz.prog 108:=by unfold Bi;kernel_rfl
theorem KB:(Tryz.prog.info? 67).bind (·.zero)=some (.agg #[.slice none 0 0,.slice none 0 0]):=by kernel_rfl
theorem Q5:(Tryz.prog.info? 116).bind (·.zero)=some (.agg #[I 0,I 0]):=by kernel_rfl
theorem TN:(Tryz.prog.info? 116).map (·.size)=some 2:=by kernel_rfl
theorem H7(b:Nat)(w:World):(Instr.fieldAt 67 (.pointer (some ⟨b,0,none⟩)) 0).run Tryz.prog w=.ok (.pointer (some ⟨b,0,none⟩)) w:=by kernel_rfl
theorem L4(b:Nat)(w:World):(Instr.fieldAt 67 (.pointer (some ⟨b,0,none⟩)) 1).run Tryz.prog w=.ok (.pointer (some ⟨b,1,none⟩)) w:=by kernel_rfl
theorem LD:Ds Tryz.prog 67 2:=by unfold Ds;exact⟨by kernel_rfl,by kernel_rfl⟩
theorem Po:(Tryz.prog.info? 67).map (·.size)=some 2:=by kernel_rfl
theorem SK:Bi Tryz.prog 101:=by unfold Bi;kernel_rfl
theorem Q6(b o:Nat)(w:World):(Instr.fieldAt 118 (.pointer (some ⟨b,o,none⟩)) 1).run Tryz.prog w=.ok (.pointer (some ⟨b,o+2,none⟩)) w:=by kernel_rfl
theorem TO:Bi Tryz.prog 27:=by unfold Bi;kernel_rfl
theorem TP:Bi Tryz.prog 34:=by unfold Bi;kernel_rfl
theorem UI:(Tryz.prog.underlying 27).isSome=true:=by kernel_rfl
theorem Hu:Bi Tryz.prog 82:=by unfold Bi;kernel_rfl
theorem TQ:Bi Tryz.prog 83:=by unfold Bi;kernel_rfl
theorem Qj:Bi Tryz.prog 40:=by unfold Bi;kernel_rfl
theorem TR:Bi Tryz.prog 50:=by unfold Bi;kernel_rfl
theorem TS:Bi Tryz.prog 51:=by unfold Bi;kernel_rfl
theorem TU:Bi Tryz.prog 52:=by unfold Bi;kernel_rfl
theorem LF:Bi Tryz.prog 61:=by unfold Bi;kernel_rfl
theorem TV:Bi Tryz.prog 84:=by unfold Bi;kernel_rfl
theorem TW:Bi Tryz.prog 48:=by unfold Bi;kernel_rfl
theorem TX:Bi Tryz.prog 49:=by unfold Bi;kernel_rfl
theorem TY:Bi Tryz.prog 55:=by unfold Bi;kernel_rfl
theorem LG:Bi Tryz.prog 29:=by unfold Bi;kernel_rfl
theorem TZ:Bi Tryz.prog 31:=by unfold Bi;kernel_rfl
theorem T0:Bi Tryz.prog 32:=by unfold Bi;kernel_rfl
theorem T1:Bi Tryz.prog 33:=by unfold Bi;kernel_rfl
theorem Qk:Bi Tryz.prog 56:=by unfold Bi;kernel_rfl
theorem T3:Bi Tryz.prog 57:=by unfold Bi;kernel_rfl
theorem SL:(Tryz.prog.info? 63).bind (·.zero)=some (.agg #[I 0,I 0,I 0,I 0,.slice none 0 0]):=by kernel_rfl
theorem UJ:(Tryz.prog.info? 63).map (·.size)=some 5:=by kernel_rfl
theorem UK:(Tryz.prog.info? 61).map (·.size)=some 1:=by kernel_rfl
end HF
end Go.Proofs.YtkljfdkmjdjpfaaGreat
end
section
set_option linter.unusedVariables false
set_option linter.unusedSimpArgs false
namespace Go.Proofs.YtkljfdkmjdjpfaaGreat
open Go.RowKit Go.WideShapes
set_option maxRecDepth 20000
open HF
attribute [local irreducible] BD WL CC CW LV BJ Ea Ds One Bi
theorem OH(n:Nat)(b:Int)(e:Int)(f:Int)(Z:Nat→Prop)(w:World)(m:Bool)(d:D6 n b e f=some m):
 BJ Tryz.prog 90 #[I b,I e,I f] w (fun v w'=>Ext w w'∧BQ.R w' (ZZ FN [] Z w.heap.size []) v m):=by
 unfold D6 at d;refine A3 (N:=15) Tryz.func90 rfl rfl (by simp) ?_;intro o h p;have g:=AM (i:=0) (v:=I b) h rfl;have k:=AM (i:=1) (v:=I e) h rfl;have l:=AM (i:=2) (v:=I f) h rfl;clear h;have j:Hp FN [] w [] w:=Hp.start (BK.none w);refine Ad<|Ab<|wa rfl (v:=.bool false) rfl<|Ae<|Aa<|Ad<|Ab<|wm rfl (v:=I e) k<|wm rfl (v:=I b) g<|wd rfl (fun st=>Fp (ee st rfl) (ee st rfl))<|wm rfl (v:=.bool (decide (e≤b))) rfl ?_;rcases Ap (decide (e≤b)) with a|a
 ·replace d:=AG d a;refine Au rfl rfl (Af rfl a) rfl (by decide) (fun st=>A5 (v:=I b) (ee st g))<|Au rfl rfl (Af rfl a) rfl (by decide) (fun st=>A5 (v:=I f) (ee st l))<|Au rfl rfl (Af rfl a) rfl (by decide) (fun st=>Fp (ee st rfl) (ee st rfl))<|wd rfl (fun st=>AZ (v:=.bool (decide (b≤f))) (ee st rfl) a (ee st rfl))<|wa rfl (v:=.bool (decide (b≤f))) rfl<|Ae<|Aa<|AF ?_;obtain rfl:=Option.some.inj d;refine AR rfl rfl ?_;exact⟨j.Bq,rfl⟩
 ·replace d:=AH d a;refine Ai (c:=false) rfl rfl (Af rfl a) (by decide) rfl (by decide)<|Ai (c:=false) rfl rfl (Af rfl a) (by decide) rfl (by decide)<|Ai (c:=false) rfl rfl (Af rfl a) (by decide) rfl (by decide)<|wd rfl (fun st=>Bu (v:=.bool false) (ee st rfl) a (ee st rfl))<|wa rfl (v:=.bool false) rfl<|Ae<|Aa<|AF ?_;obtain rfl:=Option.some.inj d;refine AR rfl rfl ?_;exact⟨j.Bq,rfl⟩
theorem UR(m:Nat)(a:Cv)(Z:Nat→Prop)(w:World)(f:Int)(b:EW m a=some f):
 BJ Tryz.prog 94 #[.agg #[I a.Lo,I a.Hi]] w (fun v w'=>Ext w w'∧(Fi .i64).R w' (ZZ FN [] Z w.heap.size []) v f):=by
 unfold EW at b;refine A3 (N:=9) Tryz.func94 rfl rfl (by simp) ?_;intro n g o;have e:=AM (i:=0) (v:=.agg #[I a.Lo,I a.Hi]) g rfl;clear g;have d:Hp FN [] w [] w:=Hp.start (BK.none w);refine Ad<|Ab<|we rfl (fun st=>BX (v:=.agg #[I a.Lo,I a.Hi]) (cs:= #[I a.Lo,I a.Hi]) (ee st e) rfl) ?_;rintro _ w1 ⟨p,rfl,c⟩;have h:=d.nb c;have l:=d.BE c;refine wa rfl (v:=I 0) rfl<|Ae<|Aa<|Ad<|Ab<|wd rfl (fun st=>Am (ee st rfl) (Ju _ _))<|wd rfl (fun st=>As (v:=I a.Hi) AW (ee st rfl) c.bk rfl)<|wd rfl (fun st=>Am (ee st rfl) (Jv _ _))<|wd rfl (fun st=>As (v:=I a.Lo) AW (ee st rfl) c.bk rfl) ?_;replace b:=AU b;obtain⟨j,b⟩:=b;refine wd rfl (fun st=>Mt (ee st rfl) (ee st rfl) j) ?_;replace b:=AU b;obtain⟨k,b⟩:=b;refine wd rfl (fun st=>By (ee st rfl) (ee st rfl) k)<|wa rfl (v:=I ((a.Hi-a.Lo)+1)) rfl<|Ae<|Aa<|AF ?_;obtain rfl:=Option.some.inj b;refine AR rfl rfl ?_;exact⟨h.Bq,rfl⟩
theorem U4(p:Nat)(a:Cv)(g:Int)(Z:Nat→Prop)(w:World)(n:Bool)(e:GJ p a g=some n):
 BJ Tryz.prog 140 #[.agg #[I a.Lo,I a.Hi],I g] w (fun v w'=>Ext w w'∧BQ.R w' (ZZ FN [] Z w.heap.size []) v n):=by
 unfold GJ at e;refine A3 (N:=21) Tryz.func140 rfl rfl (by simp) ?_;intro q k r;have l:=AM (i:=0) (v:=.agg #[I a.Lo,I a.Hi]) k rfl;have m:=AM (i:=1) (v:=I g) k rfl;clear k;have j:Hp FN [] w [] w:=Hp.start (BK.none w);refine Ad<|Ab<|we rfl (fun st=>BX (v:=.agg #[I a.Lo,I a.Hi]) (cs:= #[I a.Lo,I a.Hi]) (ee st l) rfl) ?_;rintro _ w1 ⟨s,rfl,f⟩;have h:=j.nb f;have o:=j.BE f;refine wa rfl (v:=.bool false) rfl<|Ae<|Aa<|Ad<|Ab<|wd rfl (fun st=>Am (ee st rfl) (Jv _ _))<|wd rfl (fun st=>As (v:=I a.Lo) AW (ee st rfl) f.bk rfl)<|wd rfl (fun st=>Fp (ee st rfl) (ee st rfl))<|wm rfl (v:=.bool (decide ((0:Int)≤a.Lo))) rfl ?_;rcases Ap (decide ((0:Int)≤a.Lo)) with b|b
 ·replace e:=AG e b;refine Au rfl rfl (Af rfl b) rfl (by decide) (fun st=>Am (ee st rfl) (Jv _ _))<|Au rfl rfl (Af rfl b) rfl (by decide) (fun st=>As (v:=I a.Lo) AW (ee st rfl) f.bk rfl)<|Au rfl rfl (Af rfl b) rfl (by decide) (fun st=>Am (ee st rfl) (Ju _ _))<|Au rfl rfl (Af rfl b) rfl (by decide) (fun st=>As (v:=I a.Hi) AW (ee st rfl) f.bk rfl)<|Au rfl rfl (Af rfl b) rfl (by decide) (fun st=>Fp (ee st rfl) (ee st rfl))<|wd rfl (fun st=>AZ (v:=.bool (decide (a.Lo≤a.Hi))) (ee st rfl) b (ee st rfl))<|wm rfl (v:=.bool (decide (a.Lo≤a.Hi))) rfl ?_;rcases Ap (decide (a.Lo≤a.Hi)) with d|d
  ·replace e:=AG e d;refine Au rfl rfl (Af rfl d) rfl (by decide) (fun st=>Am (ee st rfl) (Ju _ _))<|Au rfl rfl (Af rfl d) rfl (by decide) (fun st=>As (v:=I a.Hi) AW (ee st rfl) f.bk rfl)<|Au rfl rfl (Af rfl d) rfl (by decide) (fun st=>A5 (v:=I g) (ee st m))<|Au rfl rfl (Af rfl d) rfl (by decide) (fun st=>Fp (ee st rfl) (ee st rfl))<|wd rfl (fun st=>AZ (v:=.bool (decide (a.Hi≤g))) (ee st rfl) d (ee st rfl))<|wa rfl (v:=.bool (decide (a.Hi≤g))) rfl<|Ae<|Aa<|AF ?_;obtain rfl:=Option.some.inj e;refine AR rfl rfl ?_;exact⟨h.Bq,rfl⟩
  ·replace e:=AH e d;refine Ai (c:=false) rfl rfl (Af rfl d) (by decide) rfl (by decide)<|Ai (c:=false) rfl rfl (Af rfl d) (by decide) rfl (by decide)<|Ai (c:=false) rfl rfl (Af rfl d) (by decide) rfl (by decide)<|Ai (c:=false) rfl rfl (Af rfl d) (by decide) rfl (by decide)<|wd rfl (fun st=>Bu (v:=.bool false) (ee st rfl) d (ee st rfl))<|wa rfl (v:=.bool false) rfl<|Ae<|Aa<|AF ?_;obtain rfl:=Option.some.inj e;refine AR rfl rfl ?_;exact⟨h.Bq,rfl⟩
 ·replace e:=AH e b;refine Ai (c:=false) rfl rfl (Af rfl b) (by decide) rfl (by decide)<|Ai (c:=false) rfl rfl (Af rfl b) (by decide) rfl (by decide)<|Ai (c:=false) rfl rfl (Af rfl b) (by decide) rfl (by decide)<|Ai (c:=false) rfl rfl (Af rfl b) (by decide) rfl (by decide)<|Ai (c:=false) rfl rfl (Af rfl b) (by decide) rfl (by decide)<|wd rfl (fun st=>Bu (v:=.bool false) (ee st rfl) b (ee st rfl))<|wm rfl (v:=.bool false) rfl<|Ai rfl rfl rfl (by decide) rfl (by decide)<|Ai rfl rfl rfl (by decide) rfl (by decide)<|Ai rfl rfl rfl (by decide) rfl (by decide)<|Ai rfl rfl rfl (by decide) rfl (by decide)<|wd rfl (fun st=>Bu (v:=.bool false) (ee st rfl) rfl (ee st rfl))<|wa rfl (v:=.bool false) rfl<|Ae<|Aa<|AF ?_;obtain rfl:=Option.some.inj e;refine AR rfl rfl ?_;exact⟨h.Bq,rfl⟩
theorem a141(d:Nat)(b:Int)(Z:Nat→Prop)(w:World)(e:Bool)(a:GA d b=some e):
 BJ Tryz.prog 141 #[I b] w (fun v w'=>Ext w w'∧BQ.R w' (ZZ FN [] Z w.heap.size []) v e):=by
 unfold GA at a;refine A3 (N:=5) Tryz.func141 rfl rfl (by simp) ?_;intro l f m;have c:=AM (i:=0) (v:=I b) f rfl;clear f;have g:Hp FN [] w [] w:=Hp.start (BK.none w);refine Ad<|Ab<|wa rfl (v:=.bool false) rfl<|Ae<|Aa<|Ad<|Ab<|wm rfl (v:=I b) c ?_;replace a:=bind_some a;obtain⟨r1,h,a⟩:=a;refine we rfl (fun st=>AO IZ (ee st rfl) (Ff (ee st rfl) (ee st rfl) (ee st rfl)) (OH d b 1 5 ZA _ r1 h)) ?_;rintro _ w2 ⟨j,rfl⟩;have k:=g.ext j;refine wa rfl (v:=.bool r1) rfl<|Ae<|Aa<|AF ?_;obtain rfl:=Option.some.inj a;refine AR rfl rfl ?_;exact⟨k.Bq,rfl⟩
theorem a46(n:Nat)(b:Int)(e:Int)(f:Int)(Z:Nat→Prop)(w:World)(m:Bool)(d:DL n b e f=some m):
 BJ Tryz.prog 46 #[I b,I e,I f] w (fun v w'=>Ext w w'∧BQ.R w' (ZZ FN [] Z w.heap.size []) v m):=by
 unfold DL at d;refine A3 (N:=15) Tryz.func46 rfl rfl (by simp) ?_;intro o h p;have g:=AM (i:=0) (v:=I b) h rfl;have k:=AM (i:=1) (v:=I e) h rfl;have l:=AM (i:=2) (v:=I f) h rfl;clear h;have j:Hp FN [] w [] w:=Hp.start (BK.none w);refine Ad<|Ab<|wa rfl (v:=.bool false) rfl<|Ae<|Aa<|Ad<|Ab<|wm rfl (v:=I b) g<|wm rfl (v:=I e) k<|wd rfl (fun st=>K8 (ee st rfl) (ee st rfl))<|wm rfl (v:=.bool (decide (e≤b))) rfl ?_;rcases Ap (decide (e≤b)) with a|a
 ·replace d:=AG d a;refine Au rfl rfl (Af rfl a) rfl (by decide) (fun st=>A5 (v:=I b) (ee st g))<|Au rfl rfl (Af rfl a) rfl (by decide) (fun st=>A5 (v:=I f) (ee st l))<|Au rfl rfl (Af rfl a) rfl (by decide) (fun st=>Fp (ee st rfl) (ee st rfl))<|wd rfl (fun st=>AZ (v:=.bool (decide (b≤f))) (ee st rfl) a (ee st rfl))<|wa rfl (v:=.bool (decide (b≤f))) rfl<|Ae<|Aa<|AF ?_;obtain rfl:=Option.some.inj d;refine AR rfl rfl ?_;exact⟨j.Bq,rfl⟩
 ·replace d:=AH d a;refine Ai (c:=false) rfl rfl (Af rfl a) (by decide) rfl (by decide)<|Ai (c:=false) rfl rfl (Af rfl a) (by decide) rfl (by decide)<|Ai (c:=false) rfl rfl (Af rfl a) (by decide) rfl (by decide)<|wd rfl (fun st=>Bu (v:=.bool false) (ee st rfl) a (ee st rfl))<|wa rfl (v:=.bool false) rfl<|Ae<|Aa<|AF ?_;obtain rfl:=Option.some.inj d;refine AR rfl rfl ?_;exact⟨j.Bq,rfl⟩
theorem Q7(m:Nat)(a:Cv)(Z:Nat→Prop)(w:World)(f:Int)(b:D2 m a=some f):
 BJ Tryz.prog 136 #[.agg #[I a.Lo,I a.Hi]] w (fun v w'=>Ext w w'∧(Fi .i64).R w' (ZZ FN [] Z w.heap.size []) v f):=by
 unfold D2 at b;refine A3 (N:=9) Tryz.func136 rfl rfl (by simp) ?_;intro n g o;have e:=AM (i:=0) (v:=.agg #[I a.Lo,I a.Hi]) g rfl;clear g;have d:Hp FN [] w [] w:=Hp.start (BK.none w);refine Ad<|Ab<|we rfl (fun st=>BX (v:=.agg #[I a.Lo,I a.Hi]) (cs:= #[I a.Lo,I a.Hi]) (ee st e) rfl) ?_;rintro _ w1 ⟨p,rfl,c⟩;have h:=d.nb c;have l:=d.BE c;refine wa rfl (v:=I 0) rfl<|Ae<|Aa<|Ad<|Ab<|wd rfl (fun st=>Am (ee st rfl) (Jw _ _))<|wd rfl (fun st=>As (v:=I a.Hi) AW (ee st rfl) c.bk rfl)<|wd rfl (fun st=>Am (ee st rfl) (Iq _ _))<|wd rfl (fun st=>As (v:=I a.Lo) AW (ee st rfl) c.bk rfl) ?_;replace b:=AU b;obtain⟨j,b⟩:=b;refine wd rfl (fun st=>Mt (ee st rfl) (ee st rfl) j) ?_;replace b:=AU b;obtain⟨k,b⟩:=b;refine wd rfl (fun st=>By (ee st rfl) (ee st rfl) k)<|wa rfl (v:=I ((a.Hi-a.Lo)+1)) rfl<|Ae<|Aa<|AF ?_;obtain rfl:=Option.some.inj b;refine AR rfl rfl ?_;exact⟨h.Bq,rfl⟩
theorem Rx(n:Nat)(b:Int)(c:Int)(Z:Nat→Prop)(w:World)(h:Bool)(a:DW n b c=some h):
 BJ Tryz.prog 54 #[I b,I c] w (fun v w'=>Ext w w'∧BQ.R w' (ZZ FN [] Z w.heap.size []) v h):=by
 unfold DW at a;refine A3 (N:=11) Tryz.func54 rfl rfl (by simp) ?_;intro o e p;have f:=AM (i:=0) (v:=I b) e rfl;have g:=AM (i:=1) (v:=I c) e rfl;clear e;have j:Hp FN [] w [] w:=Hp.start (BK.none w);refine Ad<|Ab<|wa rfl (v:=.bool false) rfl<|Ae<|Aa<|Ad<|Ab<|wm rfl (v:=I b) f<|wm rfl (v:=I c) g ?_;replace a:=KT a;obtain⟨l,a⟩:=a;refine wd rfl (fun st=>MD (k:=.u64) TB Tryz.underlying32 (ee st rfl) l) ?_;replace a:=Md a;obtain⟨m,a⟩:=a;refine wd rfl (fun st=>Rm (ee st rfl) (ee st rfl) m) ?_;replace a:=Ii a;obtain⟨d,a⟩:=a;refine wd rfl (fun st=>K7 (ee st rfl) (ee st rfl) d.1 d.2)<|wd rfl (fun st=>CT (ee st rfl) (ee st rfl))<|wa rfl (v:=.bool (((E9 b c)%2)==1)) rfl<|Ae<|Aa<|AF ?_;obtain rfl:=Option.some.inj a;refine AR rfl rfl ?_;exact⟨j.Bq,rfl⟩
theorem Ry(s:Nat)(a:Int)(b:Int)(c:Bool)(Z:Nat→Prop)(w:World)(m:Ar)(o:CY s a b c=some m):
 BJ Tryz.prog 61 #[I a,I b,.bool c] w (fun v w'=>Ext w w'∧(C5 BY).R w' (ZZ FN [] Z w.heap.size []) v m):=by
 unfold CY at o;refine A3 (N:=11) Tryz.func61 rfl rfl (by simp) ?_;intro t e u;have h:=AM (i:=0) (v:=I a) e rfl;have j:=AM (i:=1) (v:=I b) e rfl;have k:=AM (i:=2) (v:=.bool c) e rfl;clear e;have f:Hp FN [] w [] w:=Hp.start (BK.none w);refine Ad<|Ab<|we rfl (fun st=>BF (cs:= #[I 0,I 0,.bool false]) GS rfl) ?_;rintro _ w1 ⟨x,rfl,d⟩;have p:=f.nb d;have r:=f.BE d;refine Ae<|Aa<|Ad<|Ab<|wm rfl (v:=I a) h<|wm rfl (v:=I b) j<|wm rfl (v:=.bool c) k<|wd rfl (fun st=>CR (vs:= #[(0,I a),(1,I b),(2,.bool c)]) (v:=.agg #[I a,I b,.bool c]) (JH (ee st rfl) (ee st rfl) (ee st rfl)) (by kernel_rfl))<|Bg rfl rfl (fun st=>A8 (n:=3) (l:=[I a,I b,.bool c]) (B4:= #[I a,I b,.bool c]) (ee st rfl) (ee st rfl) DR d.bk rfl rfl (show 0+3≤3 by decide) (AN rfl) rfl) ?_;rintro _ w2 g;have q:=p.gr g.gr 0 rfl;refine Ae<|Aa<|AF ?_;obtain rfl:=Option.some.inj o;refine FE (v:=.agg #[I a,I b,.bool c]) rfl rfl (CA Db g.bk rfl rfl) ?_;exact⟨q.Bq,⟨_,rfl,rfl⟩⟩
theorem Vo(n:Nat)(a:Ao)(e:Int)(b:Option Addr)(c:Nat)(Z:Nat→Prop)(w:World)(g:Sl AJ w Z b c a.Ac)(o:Bool)(d:Fx n a e=some o):
 BJ Tryz.prog 96 #[.agg #[I a.Aj,I a.Ah,I a.An,I a.Av,.slice b a.Ac.length c],I e] w (fun v w'=>Ext w w'∧BQ.R w' (ZZ FN [] Z w.heap.size []) v o):=by
 unfold Fx at d;refine A3 (N:=11) Tryz.func96 rfl rfl (by simp) ?_;intro y j z;have k:=AM (i:=0) (v:=.agg #[I a.Aj,I a.Ah,I a.An,I a.Av,.slice b a.Ac.length c]) j rfl;have l:=AM (i:=1) (v:=I e) j rfl;clear j;have h:Hp FN [] w [] w:=Hp.start (BK.none w);have m:=g.mv (Bn (Z:=Z) (L:=[]) w);refine Ad<|Ab<|we rfl (fun st=>BX (v:=.agg #[I a.Aj,I a.Ah,I a.An,I a.Av,.slice b a.Ac.length c]) (cs:= #[I a.Aj,I a.Ah,I a.An,I a.Av,.slice b a.Ac.length c]) (ee st k) rfl) ?_;rintro _ w1 ⟨aA,rfl,f⟩;have p:=h.nb f;have x:=h.BE f;refine wa rfl (v:=.bool false) rfl<|Ae<|Aa<|Ad<|Ab<|wm rfl (v:=I e) l<|wd rfl (fun st=>Am (ee st rfl) (CS _ _))<|wd rfl (fun st=>As (v:=.slice b a.Ac.length c) De (ee st rfl) f.bk rfl)<|wd rfl (fun st=>BT Tryz.underlying73 (ee st rfl)) ?_;replace d:=AU d;obtain⟨q,d⟩:=d;refine wd rfl (fun st=>Mt (ee st rfl) (ee st rfl) q) ?_;replace d:=bind_some d;obtain⟨r,s,d⟩:=d;refine we rfl (fun st=>AO IZ (ee st rfl) (Ff (ee st rfl) (ee st rfl) (ee st rfl)) (OH n e 0 ((a.Ac.length:Int)-1) ZA _ r s)) ?_;rintro _ aB ⟨t,rfl⟩;have u:=p.ext t;refine wa rfl (v:=.bool r) rfl<|Ae<|Aa<|AF ?_;obtain rfl:=Option.some.inj d;refine AR rfl rfl ?_;exact⟨u.Bq,rfl⟩
theorem T4(s:Nat)(a:AX)(d:Ar)(Z:Nat→Prop)(w:World)(p:Bool)(f:C2 s a d=some p):
 BJ Tryz.prog 97 #[.agg #[I a.Aq,I a.AA,I a.AI,I a.B3,I a.Ci],.agg #[I d.On,I d.Bc,.bool d.AI]] w (fun v w'=>Ext w w'∧BQ.R w' (ZZ FN [] Z w.heap.size []) v p):=by
 unfold C2 at f;refine A3 (N:=14) Tryz.func97 rfl rfl (by simp) ?_;intro t m u;have n:=AM (i:=0) (v:=.agg #[I a.Aq,I a.AA,I a.AI,I a.B3,I a.Ci]) m rfl;have o:=AM (i:=1) (v:=.agg #[I d.On,I d.Bc,.bool d.AI]) m rfl;clear m;have j:Hp FN [] w [] w:=Hp.start (BK.none w);refine Ad<|Ab<|we rfl (fun st=>BX (v:=.agg #[I a.Aq,I a.AA,I a.AI,I a.B3,I a.Ci]) (cs:= #[I a.Aq,I a.AA,I a.AI,I a.B3,I a.Ci]) (ee st n) rfl) ?_;rintro _ w1 ⟨x,rfl,g⟩;have k:=j.nb g;have q:=j.BE g;refine we rfl (fun st=>BX (v:=.agg #[I d.On,I d.Bc,.bool d.AI]) (cs:= #[I d.On,I d.Bc,.bool d.AI]) (ee st o) rfl) ?_;rintro _ w2 ⟨y,rfl,e⟩;have l:=k.nb e;have r:=k.BE e;refine wa rfl (v:=.bool false) rfl<|Ae<|Aa<|Ad<|Ab<|wd rfl (fun st=>Am (ee st rfl) (QY _ _))<|wd rfl (fun st=>As (v:=.bool d.AI) Kw (ee st rfl) e.bk rfl)<|wm rfl (v:=.bool d.AI) rfl ?_;rcases Ap (d.AI) with b|b
 ·replace f:=AG f b;refine Au rfl rfl (Af rfl b) rfl (by decide) (fun st=>Am (ee st rfl) (Jx _ _))<|Au rfl rfl (Af rfl b) rfl (by decide) (fun st=>As (v:=I d.Bc) AW (ee st rfl) e.bk rfl)<|Au rfl rfl (Af rfl b) rfl (by decide) (fun st=>Am (ee st rfl) (Nv _ _)) ?_;have h:=(g.bk.ext e.gr);refine Au rfl rfl (Af rfl b) rfl (by decide) (fun st=>As (v:=I a.Ci) AW (ee st rfl) h rfl)<|Au rfl rfl (Af rfl b) rfl (by decide) (fun st=>Fp (ee st rfl) (ee st rfl))<|wd rfl (fun st=>AZ (v:=.bool (decide (d.Bc≤a.Ci))) (ee st rfl) b (ee st rfl))<|wa rfl (v:=.bool (decide (d.Bc≤a.Ci))) rfl<|Ae<|Aa<|AF ?_;obtain rfl:=Option.some.inj f;refine AR rfl rfl ?_;exact⟨l.Bq,rfl⟩
 ·replace f:=AH f b;refine Ai (c:=false) rfl rfl (Af rfl b) (by decide) rfl (by decide)<|Ai (c:=false) rfl rfl (Af rfl b) (by decide) rfl (by decide)<|Ai (c:=false) rfl rfl (Af rfl b) (by decide) rfl (by decide)<|Ai (c:=false) rfl rfl (Af rfl b) (by decide) rfl (by decide)<|Ai (c:=false) rfl rfl (Af rfl b) (by decide) rfl (by decide)<|wd rfl (fun st=>Bu (v:=.bool false) (ee st rfl) b (ee st rfl))<|wa rfl (v:=.bool false) rfl<|Ae<|Aa<|AF ?_;obtain rfl:=Option.some.inj f;refine AR rfl rfl ?_;exact⟨l.Bq,rfl⟩
theorem a107(n:Nat)(a:AX)(b:Ar)(Z:Nat→Prop)(w:World)(o:Bool)(d:D4 n a b=some o):
 BJ Tryz.prog 107 #[.agg #[I a.Aq,I a.AA,I a.AI,I a.B3,I a.Ci],.agg #[I b.On,I b.Bc,.bool b.AI]] w (fun v w'=>Ext w w'∧BQ.R w' (ZZ FN [] Z w.heap.size []) v o):=by
 unfold D4 at d;refine A3 (N:=9) Tryz.func107 rfl rfl (by simp) ?_;intro y j z;have k:=AM (i:=0) (v:=.agg #[I a.Aq,I a.AA,I a.AI,I a.B3,I a.Ci]) j rfl;have m:=AM (i:=1) (v:=.agg #[I b.On,I b.Bc,.bool b.AI]) j rfl;clear j;have g:Hp FN [] w [] w:=Hp.start (BK.none w);refine Ad<|Ab<|we rfl (fun st=>BX (v:=.agg #[I a.Aq,I a.AA,I a.AI,I a.B3,I a.Ci]) (cs:= #[I a.Aq,I a.AA,I a.AI,I a.B3,I a.Ci]) (ee st k) rfl) ?_;rintro _ w1 ⟨aA,rfl,e⟩;have h:=g.nb e;have u:=g.BE e;refine we rfl (fun st=>BX (v:=.agg #[I b.On,I b.Bc,.bool b.AI]) (cs:= #[I b.On,I b.Bc,.bool b.AI]) (ee st m) rfl) ?_;rintro _ w2 ⟨aB,rfl,c⟩;have p:=h.nb c;have x:=h.BE c;refine wa rfl (v:=.bool false) rfl<|Ae<|Aa<|Ad<|Ab ?_;have f:=(e.bk.ext c.gr);refine wd rfl (fun st=>Bd (l:=[I a.Aq,I a.AA,I a.AI,I a.B3,I a.Ci]) Hd (ee st rfl) f rfl rfl)<|wd rfl (fun st=>Bd (l:=[I b.On,I b.Bc,.bool b.AI]) Db (ee st rfl) c.bk rfl rfl) ?_;replace d:=bind_some d;obtain⟨q,r,d⟩:=d;refine we rfl (fun st=>AO Nw (ee st rfl) (EZ (ee st rfl) (ee st rfl)) (T4 n a b ZA _ q r)) ?_;rintro _ aC ⟨s,rfl⟩;have t:=p.ext s;refine wd rfl (fun st=>DE (ee st rfl))<|wa rfl (v:=.bool !q) rfl<|Ae<|Aa<|AF ?_;obtain rfl:=Option.some.inj d;refine AR rfl rfl ?_;exact⟨t.Bq,rfl⟩
end Go.Proofs.YtkljfdkmjdjpfaaGreat
end
section
set_option linter.unusedVariables false
set_option linter.unusedSimpArgs false
namespace Go.Proofs.YtkljfdkmjdjpfaaGreat
open Go.RowKit Go.WideShapes
set_option maxRecDepth 20000
open HF
attribute [local irreducible] BD WL CC CW LV BJ Ea Ds One Bi
theorem Vp(aW:Nat)(b:Ao)(z:Int)(h:Option Addr)(j:Nat)(Z:Nat→Prop)(w:World)(cA:Sl AJ w Z h j b.Ac)(c8:Bool)(a:Ee aW b z=some c8):
 BJ Tryz.prog 95 #[.agg #[I b.Aj,I b.Ah,I b.An,I b.Av,.slice h b.Ac.length j],I z] w (fun v w'=>Ext w w'∧BQ.R w' (ZZ FN [] Z w.heap.size []) v c8):=by
 unfold Ee at a;refine A3 (N:=46) Tryz.func95 rfl rfl (by simp) ?_;intro dV cL dW;have cM:=AM (i:=0) (v:=.agg #[I b.Aj,I b.Ah,I b.An,I b.Av,.slice h b.Ac.length j]) cL rfl;have cN:=AM (i:=1) (v:=I z) cL rfl;clear cL;have cI:Hp FN [] w [] w:=Hp.start (BK.none w);have bM:=cA.mv (Bn (Z:=Z) (L:=[]) w);refine Ad<|Ab<|we rfl (fun st=>BX (v:=.agg #[I b.Aj,I b.Ah,I b.An,I b.Av,.slice h b.Ac.length j]) (cs:= #[I b.Aj,I b.Ah,I b.An,I b.Av,.slice h b.Ac.length j]) (ee st cM) rfl) ?_;rintro _ w1 ⟨m,rfl,bF⟩;have c9:=cI.nb bF;have dO:=cI.BE bF;refine wa rfl (v:=.bool false) rfl<|Ae<|Aa<|Ad<|Ab<|wa rfl (v:=I 0) rfl<|Ae<|Aa<|Ad<|Ad<|Ab<|wa rfl (v:=I 0) rfl<|Ae<|Aa<|Ba ?_;replace a:=bind_some a;obtain⟨z2,aX,a⟩:=a;refine Co (fun aZ d o=>(aZ=.ret∧∃aI,z2=.inl aI∧d.tmps.size=46∧d.defers=(X0).ds∧sl d 4=.bool aI∧Hp FN [] w [some m] o)∨(aZ=.exit 0∧∃aI,z2=.inr aI∧d.tmps.size=46∧d.defers=(X0).ds∧sl d 2=pt m 0∧sl d 5=I aI∧Hp FN [] w [some m] o∧Bk o m 63 #[I b.Aj,I b.Ah,I b.An,I b.Av,.slice h b.Ac.length j]∧Sl AJ o (ZZ FN [] Z w.heap.size [some m]) h j b.Ac)) ?dA ?dB
 case dA=>
  clear a;refine Cn (fun(aG:Nat) (d:Act) (o:World)=>∃n,∃e,Cw aW b z aG n e=some z2∧d.tmps.size=46∧d.defers=(X0).ds∧sl d 1=I z∧sl d 2=pt m 0∧sl d 5=I n∧sl d 6=I e∧Hp FN [] w [some m] o∧Bk o m 63 #[I b.Aj,I b.Ah,I b.An,I b.Av,.slice h b.Ac.length j]∧Sl AJ o (ZZ FN [] Z w.heap.size [some m]) h j b.Ac) aW ?dC ?dD
  case dC=>
   intro st;have bN:=(bM.mv (Aw bF));exact⟨(0:Int),(0:Int),aX,qz st,qd st,sp st 1 cN,sp st 2 rfl,sp st 5 rfl,sp st 6 rfl,c9,bF.bk,bN⟩
  case dD=>
   rintro(_|aG) dX dY ⟨n,e,aX,cO,cP,a0,aQ,a2,aC,cJ,aJ,aH⟩
   ·exact absurd (show none=some _ from aX) (by simp)
   rw[Cw.eq_2] at aX;have a:=aX;clear aX;refine B5 (N:=46) cO cP<|Ad<|Ad<|Ab<|wm rfl (v:=I e) aC<|wd rfl (fun st=>Am (ee st aQ) (FF _ _))<|wd rfl (fun st=>As (v:=I b.Aj) AW (ee st rfl) aJ rfl)<|wd rfl (fun st=>Fp (ee st rfl) (ee st rfl))<|Ae<|Aa ?_;rcases Ap (decide (e≤b.Aj)) with a6|a6
   ·replace a:=AG a a6;refine Az rfl a6<|AV<|Aa<|Ad<|Ba<|Ad<|Ad<|Ab<|wm rfl (v:=I z) a0<|wm rfl (v:=I e) aC ?_;replace a:=bind_some a;obtain⟨dE,dF,a⟩:=a;refine we rfl (fun st=>AO LB (ee st rfl) (EZ (ee st rfl) (ee st rfl)) (Rx aW z e ZA _ dE dF)) ?_;rintro _ d5 ⟨a7,rfl⟩;have cK:=cJ.ext a7;refine Ae<|Aa ?_;rcases Ap (dE) with a8|a8
    ·replace a:=AG a a8;refine Az rfl a8<|Ab<|wm rfl (v:=I n) a2 ?_;replace a:=AU a;obtain⟨dG,a⟩:=a;refine wd rfl (fun st=>By (ee st rfl) (ee st rfl) dG)<|wa rfl (v:=I (n+1)) rfl<|Ae<|Aa<|Ad<|Ab<|wa rfl (v:=.bool true) rfl<|Ae<|Aa<|Ad<|Ad<|Ab<|wm rfl (v:=I e) aC<|wa rfl (v:=I e) rfl<|Ae<|Aa<|Ba ?_;replace a:=bind_some a;obtain⟨cB,aY,a⟩:=a;refine Co (fun aZ d o=>(aZ=.exit 2∧d.tmps.size=46∧d.defers=(X0).ds∧sl d 1=I z∧sl d 2=pt m 0∧sl d 5=I (n+1)∧sl d 6=I e∧sl d 7=.bool cB∧Hp FN [] w [some m] o∧Bk o m 63 #[I b.Aj,I b.Ah,I b.An,I b.Av,.slice h b.Ac.length j]∧Sl AJ o (ZZ FN [] Z w.heap.size [some m]) h j b.Ac)) ?dH ?dI
     case dH=>
      clear a;refine Cn (fun(aG:Nat) (d:Act) (o:World)=>∃aN,∃g,Cm aW b z e aG aN g=some cB∧d.tmps.size=46∧d.defers=(X0).ds∧sl d 1=I z∧sl d 2=pt m 0∧sl d 5=I (n+1)∧sl d 6=I e∧sl d 7=.bool aN∧sl d 8=I g∧Hp FN [] w [some m] o∧Bk o m 63 #[I b.Aj,I b.Ah,I b.An,I b.Av,.slice h b.Ac.length j]∧Sl AJ o (ZZ FN [] Z w.heap.size [some m]) h j b.Ac) aW ?dJ ?dK
      case dJ=>
       intro st;have a3:=(aJ.ext a7);have aO:=(aH.mv (Ak a7));exact⟨true,e,aY,qz st,qd st,sp st 1 a0,sp st 2 aQ,sp st 5 rfl,sp st 6 aC,sp st 7 rfl,sp st 8 rfl,cK,a3,aO⟩
      case dK=>
       rintro(_|aG) dZ d0 ⟨aN,g,aY,cQ,cR,aK,aD,aR,aL,bG,aE,bH,t,y⟩
       ·exact absurd (show none=some _ from aY) (by simp)
       rw[Cm.eq_2] at aY;have a:=aY;clear aY;refine B5 (N:=46) cQ cR<|Ad<|Ad<|Ab<|wm rfl (v:=I g) aE<|wm rfl (v:=I e) aL<|wd rfl (fun st=>Am (ee st aD) (Kx _ _))<|wd rfl (fun st=>As (v:=I b.Av) AW (ee st rfl) t rfl) ?_;replace a:=AU a;obtain⟨dL,a⟩:=a;refine wd rfl (fun st=>By (ee st rfl) (ee st rfl) dL)<|wd rfl (fun st=>Fp (ee st rfl) (ee st rfl))<|Ae<|Aa ?_;rcases Ap (decide (g≤(e+b.Av))) with aS|aS
       ·replace a:=AG a aS;refine Az rfl aS<|AV<|Aa<|Ad<|Ba<|Ab<|wm rfl (v:=.bool aN) bG<|wm rfl (v:=.bool aN) rfl ?_;rcases Ap (aN) with k|k
        ·replace a:=AG a k;refine Au rfl rfl (Af rfl k) rfl (by decide) (fun st=>A5 (v:=I g) (ee st aE))<|Au rfl rfl (Af rfl k) rfl (by decide) (fun st=>Am (ee st aD) (FF _ _))<|Au rfl rfl (Af rfl k) rfl (by decide) (fun st=>As (v:=I b.Aj) AW (ee st rfl) t rfl)<|Au rfl rfl (Af rfl k) rfl (by decide) (fun st=>Fp (ee st rfl) (ee st rfl))<|wd rfl (fun st=>AZ (v:=.bool (decide (g≤b.Aj))) (ee st rfl) k (ee st rfl))<|wm rfl (v:=.bool (decide (g≤b.Aj))) rfl ?_;rcases Ap (decide (g≤b.Aj)) with q|q
         ·replace a:=AG a q;refine Au rfl rfl (Af rfl q) rfl (by decide) (fun st=>A5 (v:=I z) (ee st aK))<|Au rfl rfl (Af rfl q) rfl (by decide) (fun st=>A5 (v:=I g) (ee st aE)) ?_;replace a:=bind_some a;obtain⟨bI,cS,a⟩:=a;refine D0 rfl rfl (Af rfl q) rfl (by decide) (fun st=>AO LB (ee st rfl) (EZ (ee st rfl) (ee st rfl)) (Rx aW z g ZA _ bI cS)) ?_;rintro _ d1 ⟨bB,rfl⟩;have dM:=bH.ext bB;refine wd rfl (fun st=>AZ (v:=.bool bI) (ee st rfl) q (ee st rfl))<|wa rfl (v:=.bool bI) rfl<|Ae<|Bp<|Aa<|Ab<|wm rfl (v:=I g) aE ?_;replace a:=AU a;obtain⟨cT,a⟩:=a;refine wd rfl (fun st=>By (ee st rfl) (ee st rfl) cT)<|wa rfl (v:=I (g+1)) rfl<|Ae ?_;have cC:=(t.ext bB);have bO:=(y.mv (Ak bB));refine Bx aG (Nat.lt_succ_self _) (fun st=>?_);exact⟨bI,(g+1),a,qz st,qd st,sp st 1 aK,sp st 2 aD,sp st 5 aR,sp st 6 aL,sp st 7 rfl,sp st 8 rfl,dM,cC,bO⟩
         ·replace a:=AH a q;refine Ai (c:=false) rfl rfl (Af rfl q) (by decide) rfl (by decide)<|Ai (c:=false) rfl rfl (Af rfl q) (by decide) rfl (by decide)<|Ai (c:=false) rfl rfl (Af rfl q) (by decide) rfl (by decide)<|wd rfl (fun st=>Bu (v:=.bool false) (ee st rfl) q (ee st rfl))<|wa rfl (v:=.bool false) rfl<|Ae<|Bp<|Aa<|Ab<|wm rfl (v:=I g) aE ?_;replace a:=AU a;obtain⟨cU,a⟩:=a;refine wd rfl (fun st=>By (ee st rfl) (ee st rfl) cU)<|wa rfl (v:=I (g+1)) rfl<|Ae ?_;refine Bx aG (Nat.lt_succ_self _) (fun st=>?_);exact⟨false,(g+1),a,qz st,qd st,sp st 1 aK,sp st 2 aD,sp st 5 aR,sp st 6 aL,sp st 7 rfl,sp st 8 rfl,bH,t,y⟩
        ·replace a:=AH a k;refine Ai (c:=false) rfl rfl (Af rfl k) (by decide) rfl (by decide)<|Ai (c:=false) rfl rfl (Af rfl k) (by decide) rfl (by decide)<|Ai (c:=false) rfl rfl (Af rfl k) (by decide) rfl (by decide)<|Ai (c:=false) rfl rfl (Af rfl k) (by decide) rfl (by decide)<|wd rfl (fun st=>Bu (v:=.bool false) (ee st rfl) k (ee st rfl))<|wm rfl (v:=.bool false) rfl<|Ai rfl rfl rfl (by decide) rfl (by decide)<|Ai rfl rfl rfl (by decide) rfl (by decide)<|Ai rfl rfl rfl (by decide) rfl (by decide)<|wd rfl (fun st=>Bu (v:=.bool false) (ee st rfl) rfl (ee st rfl))<|wa rfl (v:=.bool false) rfl<|Ae<|Bp<|Aa<|Ab<|wm rfl (v:=I g) aE ?_;replace a:=AU a;obtain⟨cV,a⟩:=a;refine wd rfl (fun st=>By (ee st rfl) (ee st rfl) cV)<|wa rfl (v:=I (g+1)) rfl<|Ae ?_;refine Bx aG (Nat.lt_succ_self _) (fun st=>?_);exact⟨false,(g+1),a,qz st,qd st,sp st 1 aK,sp st 2 aD,sp st 5 aR,sp st 6 aL,sp st 7 rfl,sp st 8 rfl,bH,t,y⟩
       ·replace a:=AH a aS;refine AL rfl aS<|Cj<|AQ<|AQ ?_;obtain rfl:=Option.some.inj a;refine BZ (fun st=>?_);exact⟨rfl,qz st,qd st,sp st 1 aK,sp st 2 aD,sp st 5 aR,sp st 6 aL,sp st 7 bG,bH,t,y⟩
     case dI=>
      rintro aZ dQ d2 (⟨rfl,cD,cE,bW,bX,bY,bZ,b1,b2,b3,bC⟩);refine Cq (X:=X0) (N:=46) cD cE<|Bt<|Aa<|Ad<|Ab<|wm rfl (v:=.bool cB) b1<|Ae<|Aa ?_;rcases Ap (cB) with aT|aT
      ·replace a:=AG a aT;refine Az rfl aT<|Ad<|Ab<|wa rfl (v:=.bool false) rfl<|Ae<|Aa<|AF<|AY<|Ax<|Ax ?_;obtain rfl:=Option.some.inj a;refine BZ (fun st=>?_);exact .inl ⟨rfl,false,rfl,qz st,qd st,sp st 4 rfl,b2⟩
      ·replace a:=AH a aT;refine AL rfl aT<|AV<|Bp<|Aa<|Ab<|wm rfl (v:=I e) bZ ?_;replace a:=AU a;obtain⟨cW,a⟩:=a;refine wd rfl (fun st=>By (ee st rfl) (ee st rfl) cW)<|wa rfl (v:=I (e+1)) rfl<|Ae ?_;refine Bx aG (Nat.lt_succ_self _) (fun st=>?_);exact⟨(n+1),(e+1),a,qz st,qd st,sp st 1 bW,sp st 2 bX,sp st 5 bY,sp st 6 rfl,b2,b3,bC⟩
    ·replace a:=AH a a8;refine AL rfl a8<|AV<|Aa<|Ad<|Ab<|wa rfl (v:=.bool true) rfl<|Ae<|Aa<|Ad<|Ad<|Ab<|wm rfl (v:=I e) aC<|wa rfl (v:=I e) rfl<|Ae<|Aa<|Ba ?_;replace a:=bind_some a;obtain⟨z20,aP,a⟩:=a;refine Co (fun aZ d o=>(aZ=.exit 2∧d.tmps.size=46∧d.defers=(X0).ds∧sl d 1=I z∧sl d 2=pt m 0∧sl d 5=I n∧sl d 6=I e∧sl d 7=.bool z20∧Hp FN [] w [some m] o∧Bk o m 63 #[I b.Aj,I b.Ah,I b.An,I b.Av,.slice h b.Ac.length j]∧Sl AJ o (ZZ FN [] Z w.heap.size [some m]) h j b.Ac)) ?cX ?cY
     case cX=>
      clear a;refine Cn (fun(aG:Nat) (d:Act) (o:World)=>∃aF,∃f,Cg aW b z e aG aF f=some z20∧d.tmps.size=46∧d.defers=(X0).ds∧sl d 1=I z∧sl d 2=pt m 0∧sl d 5=I n∧sl d 6=I e∧sl d 7=.bool aF∧sl d 8=I f∧Hp FN [] w [some m] o∧Bk o m 63 #[I b.Aj,I b.Ah,I b.An,I b.Av,.slice h b.Ac.length j]∧Sl AJ o (ZZ FN [] Z w.heap.size [some m]) h j b.Ac) aW ?cZ ?c0
      case cZ=>
       intro st;have a3:=(aJ.ext a7);have aO:=(aH.mv (Ak a7));exact⟨true,e,aP,qz st,qd st,sp st 1 a0,sp st 2 aQ,sp st 5 a2,sp st 6 aC,sp st 7 rfl,sp st 8 rfl,cK,a3,aO⟩
      case c0=>
       rintro(_|aG) dR dS ⟨aF,f,aP,cF,cG,aA,u,aM,aB,a9,x,bJ,p,s⟩
       ·exact absurd (show none=some _ from aP) (by simp)
       rw[Cg.eq_2] at aP;have a:=aP;clear aP;refine B5 (N:=46) cF cG<|Ad<|Ad<|Ab<|wm rfl (v:=I f) x<|wm rfl (v:=I e) aB<|wd rfl (fun st=>Am (ee st u) (Kx _ _))<|wd rfl (fun st=>As (v:=I b.Av) AW (ee st rfl) p rfl) ?_;replace a:=AU a;obtain⟨c1,a⟩:=a;refine wd rfl (fun st=>By (ee st rfl) (ee st rfl) c1)<|wd rfl (fun st=>Fp (ee st rfl) (ee st rfl))<|Ae<|Aa ?_;rcases Ap (decide (f≤(e+b.Av))) with aU|aU
       ·replace a:=AG a aU;refine Az rfl aU<|AV<|Aa<|Ad<|Ba<|Ab<|wm rfl (v:=.bool aF) a9<|wm rfl (v:=.bool aF) rfl ?_;rcases Ap (aF) with l|l
        ·replace a:=AG a l;refine Au rfl rfl (Af rfl l) rfl (by decide) (fun st=>A5 (v:=I f) (ee st x))<|Au rfl rfl (Af rfl l) rfl (by decide) (fun st=>Am (ee st u) (FF _ _))<|Au rfl rfl (Af rfl l) rfl (by decide) (fun st=>As (v:=I b.Aj) AW (ee st rfl) p rfl)<|Au rfl rfl (Af rfl l) rfl (by decide) (fun st=>Fp (ee st rfl) (ee st rfl))<|wd rfl (fun st=>AZ (v:=.bool (decide (f≤b.Aj))) (ee st rfl) l (ee st rfl))<|wm rfl (v:=.bool (decide (f≤b.Aj))) rfl ?_;rcases Ap (decide (f≤b.Aj)) with r|r
         ·replace a:=AG a r;refine Au rfl rfl (Af rfl r) rfl (by decide) (fun st=>A5 (v:=I z) (ee st aA))<|Au rfl rfl (Af rfl r) rfl (by decide) (fun st=>A5 (v:=I f) (ee st x)) ?_;replace a:=bind_some a;obtain⟨bK,c2,a⟩:=a;refine D0 rfl rfl (Af rfl r) rfl (by decide) (fun st=>AO LB (ee st rfl) (EZ (ee st rfl) (ee st rfl)) (Rx aW z f ZA _ bK c2)) ?_;rintro _ d3 ⟨bD,rfl⟩;have dN:=bJ.ext bD;refine wd rfl (fun st=>AZ (v:=.bool bK) (ee st rfl) r (ee st rfl))<|wa rfl (v:=.bool bK) rfl<|Ae<|Bp<|Aa<|Ab<|wm rfl (v:=I f) x ?_;replace a:=AU a;obtain⟨c3,a⟩:=a;refine wd rfl (fun st=>By (ee st rfl) (ee st rfl) c3)<|wa rfl (v:=I (f+1)) rfl<|Ae ?_;have cH:=(p.ext bD);have bP:=(s.mv (Ak bD));refine Bx aG (Nat.lt_succ_self _) (fun st=>?_);exact⟨bK,(f+1),a,qz st,qd st,sp st 1 aA,sp st 2 u,sp st 5 aM,sp st 6 aB,sp st 7 rfl,sp st 8 rfl,dN,cH,bP⟩
         ·replace a:=AH a r;refine Ai (c:=false) rfl rfl (Af rfl r) (by decide) rfl (by decide)<|Ai (c:=false) rfl rfl (Af rfl r) (by decide) rfl (by decide)<|Ai (c:=false) rfl rfl (Af rfl r) (by decide) rfl (by decide)<|wd rfl (fun st=>Bu (v:=.bool false) (ee st rfl) r (ee st rfl))<|wa rfl (v:=.bool false) rfl<|Ae<|Bp<|Aa<|Ab<|wm rfl (v:=I f) x ?_;replace a:=AU a;obtain⟨c4,a⟩:=a;refine wd rfl (fun st=>By (ee st rfl) (ee st rfl) c4)<|wa rfl (v:=I (f+1)) rfl<|Ae ?_;refine Bx aG (Nat.lt_succ_self _) (fun st=>?_);exact⟨false,(f+1),a,qz st,qd st,sp st 1 aA,sp st 2 u,sp st 5 aM,sp st 6 aB,sp st 7 rfl,sp st 8 rfl,bJ,p,s⟩
        ·replace a:=AH a l;refine Ai (c:=false) rfl rfl (Af rfl l) (by decide) rfl (by decide)<|Ai (c:=false) rfl rfl (Af rfl l) (by decide) rfl (by decide)<|Ai (c:=false) rfl rfl (Af rfl l) (by decide) rfl (by decide)<|Ai (c:=false) rfl rfl (Af rfl l) (by decide) rfl (by decide)<|wd rfl (fun st=>Bu (v:=.bool false) (ee st rfl) l (ee st rfl))<|wm rfl (v:=.bool false) rfl<|Ai rfl rfl rfl (by decide) rfl (by decide)<|Ai rfl rfl rfl (by decide) rfl (by decide)<|Ai rfl rfl rfl (by decide) rfl (by decide)<|wd rfl (fun st=>Bu (v:=.bool false) (ee st rfl) rfl (ee st rfl))<|wa rfl (v:=.bool false) rfl<|Ae<|Bp<|Aa<|Ab<|wm rfl (v:=I f) x ?_;replace a:=AU a;obtain⟨c5,a⟩:=a;refine wd rfl (fun st=>By (ee st rfl) (ee st rfl) c5)<|wa rfl (v:=I (f+1)) rfl<|Ae ?_;refine Bx aG (Nat.lt_succ_self _) (fun st=>?_);exact⟨false,(f+1),a,qz st,qd st,sp st 1 aA,sp st 2 u,sp st 5 aM,sp st 6 aB,sp st 7 rfl,sp st 8 rfl,bJ,p,s⟩
       ·replace a:=AH a aU;refine AL rfl aU<|Cj<|AQ<|AQ ?_;obtain rfl:=Option.some.inj a;refine BZ (fun st=>?_);exact⟨rfl,qz st,qd st,sp st 1 aA,sp st 2 u,sp st 5 aM,sp st 6 aB,sp st 7 a9,bJ,p,s⟩
     case cY=>
      rintro aZ dP dT (⟨rfl,b4,b5,bQ,bR,bS,bT,bU,bL,bV,bA⟩);refine Cq (X:=X0) (N:=46) b4 b5<|Bt<|Aa<|Ad<|Ab<|wm rfl (v:=.bool z20) bU<|Ae<|Aa ?_;rcases Ap (z20) with aV|aV
      ·replace a:=AG a aV;refine Az rfl aV<|Ad<|Ab<|wa rfl (v:=.bool false) rfl<|Ae<|Aa<|AF<|AY<|Ax<|Ax ?_;obtain rfl:=Option.some.inj a;refine BZ (fun st=>?_);exact .inl ⟨rfl,false,rfl,qz st,qd st,sp st 4 rfl,bL⟩
      ·replace a:=AH a aV;refine AL rfl aV<|AV<|Bp<|Aa<|Ab<|wm rfl (v:=I e) bT ?_;replace a:=AU a;obtain⟨c6,a⟩:=a;refine wd rfl (fun st=>By (ee st rfl) (ee st rfl) c6)<|wa rfl (v:=I (e+1)) rfl<|Ae ?_;refine Bx aG (Nat.lt_succ_self _) (fun st=>?_);exact⟨n,(e+1),a,qz st,qd st,sp st 1 bQ,sp st 2 bR,sp st 5 bS,sp st 6 rfl,bL,bV,bA⟩
   ·replace a:=AH a a6;refine AL rfl a6<|Cj<|AQ<|AQ ?_;obtain rfl:=Option.some.inj a;refine BZ (fun st=>?_);exact .inr ⟨rfl,n,rfl,qz st,qd st,sp st 2 aQ,sp st 5 a2,cJ,aJ,aH⟩
 case dB=>
  rintro aZ dU d4 (⟨rfl,aI,rfl,a4,a5,b6,bE⟩|⟨rfl,aI,rfl,a4,a5,b7,b8,bE,b9,c7⟩)
  ·skip
   replace a:=EL a;refine Cq (X:=X0) (N:=46) a4 a5<|AY<|Ax ?_;obtain rfl:=Option.some.inj a;refine AR rfl b6 ?_;exact⟨bE.Bq,rfl⟩
  ·skip
   replace a:=EM a;refine Cq (X:=X0) (N:=46) a4 a5<|Bt<|Aa<|Ad<|Ab<|wm rfl (v:=I aI) b8<|wd rfl (fun st=>Am (ee st b7) (Ky _ _))<|wd rfl (fun st=>As (v:=I b.An) AW (ee st rfl) b9 rfl)<|wd rfl (fun st=>Fp (ee st rfl) (ee st rfl))<|wa rfl (v:=.bool (decide (aI≤b.An))) rfl<|Ae<|Aa<|AF ?_;obtain rfl:=Option.some.inj a;refine AR rfl rfl ?_;exact⟨bE.Bq,rfl⟩
theorem T5(aY:Nat)(c:Ao)(h:Option Addr)(j:Nat)(Z:Nat→Prop)(w:World)(aZ:Sl AJ w Z h j c.Ac)(bH:(List Int))(a:DU aY c=some bH):
 BJ Tryz.prog 100 #[.agg #[I c.Aj,I c.Ah,I c.An,I c.Av,.slice h c.Ac.length j]] w (fun v w'=>Ext w w'∧(E0 (Ay .i64)).R w' (ZZ FN [] Z w.heap.size []) v bH):=by
 unfold DU at a;refine A3 (N:=22) Tryz.func100 rfl rfl (by simp) ?_;intro b4 bI b5;have a9:=AM (i:=0) (v:=.agg #[I c.Aj,I c.Ah,I c.An,I c.Av,.slice h c.Ac.length j]) bI rfl;clear bI;have a7:Hp FN [] w [] w:=Hp.start (BK.none w);have aM:=aZ.mv (Bn (Z:=Z) (L:=[]) w);refine Ad<|Ab<|we rfl (fun st=>BX (v:=.agg #[I c.Aj,I c.Ah,I c.An,I c.Av,.slice h c.Ac.length j]) (cs:= #[I c.Aj,I c.Ah,I c.An,I c.Av,.slice h c.Ac.length j]) (ee st a9) rfl) ?_;rintro _ w1 ⟨o,rfl,aK⟩;have bJ:=a7.nb aK;have b1:=a7.BE aK;refine wa rfl (v:=.slice none 0 0) rfl<|Ae<|Aa<|Ad<|Ab<|wa rfl (v:=.slice none 0 0) rfl<|Ae<|Aa<|Ad<|Ad<|Ab<|wa rfl (v:=I 0) rfl<|Ae<|Aa<|Ba ?_;have bK:Hp FN [] w [none,some o] w1:=bJ.nil;have bL:AB (Ay .i64) 3 w.heap.size w1 (ZZ FN [] Z w.heap.size [none,some o]) none 0 ([]:List Int):=AB.nil _ _ _ _ _;replace a:=bind_some a;obtain⟨z2,aC,a⟩:=a;refine Co (fun bM s aI=>(bM=.exit 0∧∃f m,s.tmps.size=22∧s.defers=(X0).ds∧sl s 3=.slice f z2.length m∧Hp FN [] w [ob f,some o] aI∧AB (Ay .i64) 3 w.heap.size aI (ZZ FN [] Z w.heap.size [ob f,some o]) f m z2)) ?bN ?bO
 case bN=>
  clear a;refine Cn (fun(a0:Nat) (s:Act) (aI:World)=>∃g,∃b,∃d n,CE aY c a0 g b=some z2∧s.tmps.size=22∧s.defers=(X0).ds∧sl s 1=pt o 0∧sl s 3=.slice d g.length n∧sl s 4=I b∧Hp FN [] w [ob d,some o] aI∧AB (Ay .i64) 3 w.heap.size aI (ZZ FN [] Z w.heap.size [ob d,some o]) d n g∧Bk aI o 63 #[I c.Aj,I c.Ah,I c.An,I c.Av,.slice h c.Ac.length j]∧Sl AJ aI (ZZ FN [] Z w.heap.size [ob d,some o]) h j c.Ac) aY ?bP ?bQ
  case bP=>
   intro st;have a2:=aK.bk;have aN:Sl AJ w1 (ZZ FN [] Z w.heap.size [none,some o]) h j c.Ac:=((aM.mv (Aw aK)).mv B0);exact⟨([]:List Int),(0:Int),none,0,aC,qz st,qd st,sp st 1 rfl,sp st 3 rfl,sp st 4 rfl,bK,bL,a2,aN⟩
  case bQ=>
   rintro(_|a0) b6 b7 ⟨g,b,d,n,aC,bA,bB,z,aD,t,a8,p,u,q⟩
   ·exact absurd (show none=some _ from aC) (by simp)
   rw[CE.eq_2] at aC;have a:=aC;clear aC;refine B5 (N:=22) bA bB<|Ad<|Ad<|Ab<|wm rfl (v:=I b) t<|wd rfl (fun st=>Am (ee st z) (FF _ _))<|wd rfl (fun st=>As (v:=I c.Aj) AW (ee st rfl) u rfl) ?_;replace a:=AU a;obtain⟨bR,a⟩:=a;refine wd rfl (fun st=>By (ee st rfl) (ee st rfl) bR) ?_;replace a:=KT a;obtain⟨bS,a⟩:=a;refine wd rfl (fun st=>MD (k:=.u64) TB Tryz.underlying32 (ee st rfl) bS) ?_;replace a:=Mc a;obtain⟨bT,a⟩:=a;refine wd rfl (fun st=>Rl (ee st rfl) (ee st rfl) bT)<|wd rfl (fun st=>CB (ee st rfl) (ee st rfl))<|Ae<|Aa ?_;rcases Ap (decide (b<(G4 (1:Int) (c.Aj+1)))) with aF|aF
   ·replace a:=AG a aF;refine Az rfl aF<|AV<|Aa<|Ad<|Ba<|Ad<|Ab<|wd rfl (fun st=>Bd (l:=[I c.Aj,I c.Ah,I c.An,I c.Av,.slice h c.Ac.length j]) Fz (ee st z) u rfl rfl)<|wm rfl (v:=I b) t ?_;replace a:=bind_some a;obtain⟨bU,bV,a⟩:=a;refine we rfl (fun st=>AO TD (ee st rfl) (EZ (ee st rfl) (ee st rfl)) (Vp aY c b h j ZA _ q.all bU bV)) ?_;rintro _ b2 ⟨x,rfl⟩;have aS:=a8.ext x;refine Ae<|Aa ?_;rcases Ap (bU) with aA|aA
    ·replace a:=AG a aA;refine Az rfl aA<|Ab<|wm rfl (v:=.slice d g.length n) aD<|wm rfl (v:=I b) t<|we rfl (fun st=>BH (e:=3) (vs:= #[(0,I b)]) (cs:= #[I b]) (Hb (ee st rfl)) (by kernel_rfl)) ?_;rintro _ bW ⟨aT,rfl,r⟩;have aG:=aS.nb r;have bX:=aS.BE r;have aO:AB (Ay .i64) 3 w.heap.size bW (ZZ FN [] Z w.heap.size [some aT,ob d,some o]) d n g:=((p.ext x (Ak x)).ext r.gr (Aw r));replace a:=CU a;obtain⟨aU,a⟩:=a;refine we rfl (fun st=>JR (ys:=[b]) Tryz.underlying23 Ht rfl rfl (by decide) (ee st rfl) rfl (ee st rfl) aO (LI (Be:=[[I b]]) r.bk ⟨rfl,trivial⟩ rfl) (by have:=aU;simp only[maxLen];omega) (by have:=aU;omega) aG.sz (by simp)) ?_;rintro _ aH ⟨y,aL,rfl,aE,aJ,bC⟩;have bY:Hp FN [] w [some aT,ob y,some o] aH:=aG.row aE 1 rfl aJ;have bD:AB (Ay .i64) 3 w.heap.size aH (ZZ FN [] Z w.heap.size [some aT,ob y,some o]) y aL (g++[b]):=Fq bC (aG.D1 aE 1 rfl (fun k bE=>(aJ k bE).1));refine wa rfl (v:=.slice y ((g++[b]).length) aL) rfl<|Ae<|Bp<|Aa<|Ab<|wm rfl (v:=I b) t ?_;replace a:=AU a;obtain⟨bF,a⟩:=a;refine wd rfl (fun st=>By (ee st rfl) (ee st rfl) bF)<|wa rfl (v:=I (b+1)) rfl<|Ae ?_;have bZ:Hp FN [] w [ob y,some o] aH:=bY.erase 0;have aV:AB (Ay .i64) 3 w.heap.size aH (ZZ FN [] Z w.heap.size [ob y,some o]) y aL (g++[b]):=(bD.up (AK 0));have a3:=(((u.ext x).ext r.gr).gr aE (aG.ne 2 1 rfl rfl rfl));have aP:Sl AJ aH (ZZ FN [] Z w.heap.size [ob y,some o]) h j c.Ac:=((((q.mv (Ak x)).mv (Aw r)).mv (aG.D1 aE 1 rfl (fun k bE=>(aJ k bE).1))).mv (AK 0));refine Bx a0 (Nat.lt_succ_self _) (fun st=>?_);exact⟨(g++[b]),(b+1),y,aL,a,qz st,qd st,sp st 1 z,sp st 3 rfl,sp st 4 rfl,bZ,aV,a3,aP⟩
    ·replace a:=AH a aA;refine AL rfl aA<|AV<|Bp<|Aa<|Ab<|wm rfl (v:=I b) t ?_;replace a:=AU a;obtain⟨bG,a⟩:=a;refine wd rfl (fun st=>By (ee st rfl) (ee st rfl) bG)<|wa rfl (v:=I (b+1)) rfl<|Ae ?_;have aQ:AB (Ay .i64) 3 w.heap.size b2 (ZZ FN [] Z w.heap.size [ob d,some o]) d n g:=(p.ext x (Ak x));have a4:=(u.ext x);have aR:=(q.mv (Ak x));refine Bx a0 (Nat.lt_succ_self _) (fun st=>?_);exact⟨g,(b+1),d,n,a,qz st,qd st,sp st 1 z,sp st 3 aD,sp st 4 rfl,aS,aQ,a4,aR⟩
   ·replace a:=AH a aF;refine AL rfl aF<|Cj<|AQ<|AQ ?_;obtain rfl:=Option.some.inj a;refine BZ (fun st=>?_);exact⟨rfl,d,n,qz st,qd st,sp st 3 aD,a8,p⟩
 case bO=>
  rintro bM b3 b8 (⟨rfl,f,m,a5,a6,aW,aX,aB⟩);refine Cq (X:=X0) (N:=22) a5 a6<|Bt<|Aa<|Ad<|Ab<|wm rfl (v:=.slice f z2.length m) aW<|wa rfl (v:=.slice f z2.length m) rfl<|Ae<|Aa<|AF ?_;obtain rfl:=Option.some.inj a;refine AR rfl rfl ?_;exact⟨aX.Bq,⟨_,_,rfl,aX.IJ (M:=[]) 0 rfl [] rfl trivial aB⟩⟩
theorem T6(aA:Nat)(a:Ao)(c:Option Addr)(d:Nat)(Z:Nat→Prop)(w:World)(aF:Sl AJ w Z c d a.Ac)(aV:Int)(b:Dd aA a=some aV):
 BJ Tryz.prog 81 #[.agg #[I a.Aj,I a.Ah,I a.An,I a.Av,.slice c a.Ac.length d]] w (fun v w'=>Ext w w'∧(Fi .i64).R w' (ZZ FN [] Z w.heap.size []) v aV):=by
 unfold Dd at b;refine A3 (N:=26) Tryz.func81 rfl rfl (by simp) ?_;intro bH aW bI;have aO:=AM (i:=0) (v:=.agg #[I a.Aj,I a.Ah,I a.An,I a.Av,.slice c a.Ac.length d]) aW rfl;clear aW;have aL:Hp FN [] w [] w:=Hp.start (BK.none w);have u:=aF.mv (Bn (Z:=Z) (L:=[]) w);refine Ad<|Ab<|we rfl (fun st=>BX (v:=.agg #[I a.Aj,I a.Ah,I a.An,I a.Av,.slice c a.Ac.length d]) (cs:= #[I a.Aj,I a.Ah,I a.An,I a.Av,.slice c a.Ac.length d]) (ee st aO) rfl) ?_;rintro _ w1 ⟨x,rfl,q⟩;have aM:=aL.nb q;have bD:=aL.BE q;refine wa rfl (v:=I 0) rfl<|Ae<|Aa<|Ad<|Ab<|wd rfl (fun st=>Bd (l:=[I a.Aj,I a.Ah,I a.An,I a.Av,.slice c a.Ac.length d]) Fz (ee st rfl) q.bk rfl rfl) ?_;have m:=(u.mv (Aw q));replace b:=bind_some b;obtain⟨r2,aX,b⟩:=b;refine we rfl (fun st=>AO Om (ee st rfl) (CD (ee st rfl)) (T5 aA a c d (ZZ FN [] Z w.heap.size [some x]) _ m r2 aX)) ?_;rintro _ bM ⟨aB,⟨bE,bF,rfl,r⟩⟩;have aY:=aM.ext aB;have r:=r.mv (aM.Dp (Nat.le_refl _));refine wd rfl (fun st=>BT Tryz.underlying23 (ee st rfl))<|wa rfl (v:=I (r2.length:Int)) rfl<|Ae<|Aa<|Ad<|Ad<|Ab<|wa rfl (v:=I 0) rfl<|Ae<|Aa<|Ba ?_;replace b:=bind_some b;obtain⟨z4,n,b⟩:=b;refine Co (fun aZ f aC=>(aZ=.exit 0∧f.tmps.size=26∧f.defers=(X0).ds∧sl f 3=I z4∧Hp FN [] w [some x] aC)) ?a0 ?a2
 case a0=>
  clear b;refine Cn (fun(aP:Nat) (f:Act) (aC:World)=>∃g,∃e,Dz aA a aP g e=some z4∧f.tmps.size=26∧f.defers=(X0).ds∧sl f 1=pt x 0∧sl f 3=I g∧sl f 4=I e∧Hp FN [] w [some x] aC∧Bk aC x 63 #[I a.Aj,I a.Ah,I a.An,I a.Av,.slice c a.Ac.length d]∧Sl AJ aC (ZZ FN [] Z w.heap.size [some x]) c d a.Ac) aA ?a3 ?a4
  case a3=>
   intro st;have aG:=(q.bk.ext aB);have y:=(m.mv (Ak aB));exact⟨(r2.length:Int),(0:Int),n,qz st,qd st,sp st 1 rfl,sp st 3 rfl,sp st 4 rfl,aY,aG,y⟩
  case a4=>
   rintro(_|aP) bJ bK ⟨g,e,n,aQ,aR,o,t,p,aN,h,j⟩
   ·exact absurd (show none=some _ from n) (by simp)
   rw[Dz.eq_2] at n;have b:=n;clear n;refine B5 (N:=26) aQ aR<|Ad<|Ad<|Ab<|wm rfl (v:=I e) p<|wd rfl (fun st=>Am (ee st o) (EG _ _))<|wd rfl (fun st=>As (v:=.slice c a.Ac.length d) FA (ee st rfl) h rfl)<|wd rfl (fun st=>BT Tryz.underlying61 (ee st rfl))<|wd rfl (fun st=>CB (ee st rfl) (ee st rfl))<|Ae<|Aa ?_;rcases Ap (decide (e<(a.Ac.length:Int))) with s|s
   ·replace b:=AG b s;refine Az rfl s<|AV<|Aa<|Ad<|Ba<|Ab<|wm rfl (v:=I g) t<|wd rfl (fun st=>Am (ee st o) (EG _ _))<|wd rfl (fun st=>As (v:=.slice c a.Ac.length d) FA (ee st rfl) h rfl)<|wm rfl (v:=I e) p ?_;replace b:=Br b;obtain⟨i6,aH,a5,a6,a7,b⟩:=b;obtain⟨bN,bO,_,a8,rfl,a9⟩:=Sl.elem j (by decide) a6;refine wd rfl (fun st=>Ck (k:=i6) Tryz.underlying61 HM (ee st rfl) a8 (ee st rfl) a5 a7)<|wd rfl (fun st=>Am (ee st rfl) (Nx _ _ _))<|wd rfl (fun st=>C3 (l:=[I aH.Aq,I aH.AA]) I0 (ee st rfl) a9 rfl rfl) ?_;replace b:=bind_some b;obtain⟨aS,bA,b⟩:=b;refine we rfl (fun st=>AO LU (ee st rfl) (CD (ee st rfl)) (Q7 aA (⟨aH.Aq,aH.AA⟩:Cv) ZA _ aS bA)) ?_;rintro _ bP ⟨aD,rfl⟩;have bB:=aN.ext aD;replace b:=AU b;obtain⟨bC,b⟩:=b;refine wd rfl (fun st=>Rf (ee st rfl) (ee st rfl) bC)<|wd rfl (fun st=>OM (ee st rfl) (ee st rfl))<|wa rfl (v:=I (min (3000:Int) (g*aS))) rfl<|Ae<|Bp<|Aa<|Ab<|wm rfl (v:=I e) p ?_;replace b:=AU b;obtain⟨aT,b⟩:=b;refine wd rfl (fun st=>By (ee st rfl) (ee st rfl) aT)<|wa rfl (v:=I (e+1)) rfl<|Ae ?_;have aI:=(h.ext aD);have z:=(j.mv (Ak aD));refine Bx aP (Nat.lt_succ_self _) (fun st=>?_);exact⟨(min (3000:Int) (g*aS)),(e+1),b,qz st,qd st,sp st 1 o,sp st 3 rfl,sp st 4 rfl,bB,aI,z⟩
   ·replace b:=AH b s;refine AL rfl s<|Cj<|AQ<|AQ ?_;obtain rfl:=Option.some.inj b;refine BZ (fun st=>?_);exact⟨rfl,qz st,qd st,sp st 3 t,aN⟩
 case a2=>
  rintro aZ bG bL (⟨rfl,aJ,aK,aE,aU⟩);refine Cq (X:=X0) (N:=26) aJ aK<|Bt<|Aa<|Ad<|Ab<|wm rfl (v:=I z4) aE<|wa rfl (v:=I z4) rfl<|Ae<|Aa<|AF ?_;obtain rfl:=Option.some.inj b;refine AR rfl rfl ?_;exact⟨aU.Bq,rfl⟩
theorem US(aS:Nat)(b:Ao)(j:Option Addr)(m:Nat)(Z:Nat→Prop)(w:World)(bR:Sl AJ w Z j m b.Ac)(cY:Int)(a:Ei aS b=some cY):
 BJ Tryz.prog 80 #[.agg #[I b.Aj,I b.Ah,I b.An,I b.Av,.slice j b.Ac.length m]] w (fun v w'=>Ext w w'∧(Fi .i64).R w' (ZZ FN [] Z w.heap.size []) v cY):=by
 unfold Ei at a;refine A3 (N:=101) Tryz.func80 rfl rfl (by simp) ?_;intro dD cZ dE;have bZ:=AM (i:=0) (v:=.agg #[I b.Aj,I b.Ah,I b.An,I b.Av,.slice j b.Ac.length m]) cZ rfl;clear cZ;have bV:Hp FN [] w [] w:=Hp.start (BK.none w);have a9:=bR.mv (Bn (Z:=Z) (L:=[]) w);refine Ad<|Ab<|we rfl (fun st=>BX (v:=.agg #[I b.Aj,I b.Ah,I b.An,I b.Av,.slice j b.Ac.length m]) (cs:= #[I b.Aj,I b.Ah,I b.An,I b.Av,.slice j b.Ac.length m]) (ee st bZ) rfl) ?_;rintro _ w1 ⟨x,rfl,y⟩;have aO:=bV.nb y;have c8:=bV.BE y;refine wa rfl (v:=I 0) rfl<|Ae<|Aa<|Ad<|Ad<|Ab<|wd rfl (fun st=>Am (ee st rfl) (FF _ _))<|wd rfl (fun st=>As (v:=I b.Aj) AW (ee st rfl) y.bk rfl)<|wd rfl (fun st=>FW (ee st rfl) (ee st rfl))<|wm rfl (v:=.bool (decide ((9:Int)<b.Aj))) rfl ?_;rcases Ap (decide ((9:Int)<b.Aj)) with z|z
 ·replace a:=AG a z;refine Ai (c:=true) rfl rfl (Af rfl z) (by decide) rfl (by decide)<|Ai (c:=true) rfl rfl (Af rfl z) (by decide) rfl (by decide)<|Ai (c:=true) rfl rfl (Af rfl z) (by decide) rfl (by decide)<|wd rfl (fun st=>AZ (v:=.bool true) (ee st rfl) z (ee st rfl))<|wm rfl (v:=.bool true) rfl<|Ai rfl rfl rfl (by decide) rfl (by decide)<|Ai rfl rfl rfl (by decide) rfl (by decide)<|Ai rfl rfl rfl (by decide) rfl (by decide)<|Ai rfl rfl rfl (by decide) rfl (by decide)<|wd rfl (fun st=>AZ (v:=.bool true) (ee st rfl) rfl (ee st rfl))<|Ae<|Aa<|Az rfl rfl<|Ad<|Ab<|wa rfl (v:=I 3) rfl<|Ae<|Aa<|AF<|Ax ?_;obtain rfl:=Option.some.inj a;refine AR rfl rfl ?_;exact⟨aO.Bq,rfl⟩
 ·replace a:=AH a z;refine Au rfl rfl (Af rfl z) rfl (by decide) (fun st=>Am (ee st rfl) (I1 _ _))<|Au rfl rfl (Af rfl z) rfl (by decide) (fun st=>As (v:=I b.Ah) AW (ee st rfl) y.bk rfl)<|Au rfl rfl (Af rfl z) rfl (by decide) (fun st=>FW (ee st rfl) (ee st rfl))<|wd rfl (fun st=>Bu (v:=.bool (decide ((2:Int)<b.Ah))) (ee st rfl) z (ee st rfl))<|wm rfl (v:=.bool (decide ((2:Int)<b.Ah))) rfl ?_;rcases Ap (decide ((2:Int)<b.Ah)) with s|s
  ·replace a:=AG a s;refine Ai (c:=true) rfl rfl (Af rfl s) (by decide) rfl (by decide)<|Ai (c:=true) rfl rfl (Af rfl s) (by decide) rfl (by decide)<|Ai (c:=true) rfl rfl (Af rfl s) (by decide) rfl (by decide)<|Ai (c:=true) rfl rfl (Af rfl s) (by decide) rfl (by decide)<|wd rfl (fun st=>AZ (v:=.bool true) (ee st rfl) s (ee st rfl))<|Ae<|Aa<|Az rfl rfl<|Ad<|Ab<|wa rfl (v:=I 3) rfl<|Ae<|Aa<|AF<|Ax ?_;obtain rfl:=Option.some.inj a;refine AR rfl rfl ?_;exact⟨aO.Bq,rfl⟩
  ·replace a:=AH a s;refine Au rfl rfl (Af rfl s) rfl (by decide) (fun st=>Am (ee st rfl) (EG _ _))<|Au rfl rfl (Af rfl s) rfl (by decide) (fun st=>As (v:=.slice j b.Ac.length m) FA (ee st rfl) y.bk rfl)<|Au rfl rfl (Af rfl s) rfl (by decide) (fun st=>BT Tryz.underlying61 (ee st rfl))<|Au rfl rfl (Af rfl s) rfl (by decide) (fun st=>FW (ee st rfl) (ee st rfl))<|wd rfl (fun st=>Bu (v:=.bool (decide ((4:Int)<(b.Ac.length:Int)))) (ee st rfl) s (ee st rfl))<|Ae<|Aa ?_;rcases Ap (decide ((4:Int)<(b.Ac.length:Int))) with aX|aX
   ·replace a:=AG a aX;refine Az rfl aX<|Ad<|Ab<|wa rfl (v:=I 3) rfl<|Ae<|Aa<|AF<|Ax ?_;obtain rfl:=Option.some.inj a;refine AR rfl rfl ?_;exact⟨aO.Bq,rfl⟩
   ·replace a:=AH a aX;refine AL rfl aX<|AV<|Aa<|Ad<|Ad<|Ab<|wd rfl (fun st=>Am (ee st rfl) (FF _ _))<|wd rfl (fun st=>As (v:=I b.Aj) AW (ee st rfl) y.bk rfl)<|wd rfl (fun st=>CB (ee st rfl) (ee st rfl))<|wm rfl (v:=.bool (decide (b.Aj<0))) rfl ?_;rcases Ap (decide (b.Aj<0)) with aA|aA
    ·replace a:=AG a aA;refine Ai (c:=true) rfl rfl (Af rfl aA) (by decide) rfl (by decide)<|Ai (c:=true) rfl rfl (Af rfl aA) (by decide) rfl (by decide)<|Ai (c:=true) rfl rfl (Af rfl aA) (by decide) rfl (by decide)<|wd rfl (fun st=>AZ (v:=.bool true) (ee st rfl) aA (ee st rfl))<|wm rfl (v:=.bool true) rfl<|Ai rfl rfl rfl (by decide) rfl (by decide)<|Ai rfl rfl rfl (by decide) rfl (by decide)<|Ai rfl rfl rfl (by decide) rfl (by decide)<|Ai rfl rfl rfl (by decide) rfl (by decide)<|Ai rfl rfl rfl (by decide) rfl (by decide)<|Ai rfl rfl rfl (by decide) rfl (by decide)<|Ai rfl rfl rfl (by decide) rfl (by decide)<|wd rfl (fun st=>AZ (v:=.bool true) (ee st rfl) rfl (ee st rfl))<|wm rfl (v:=.bool true) rfl<|Ai rfl rfl rfl (by decide) rfl (by decide)<|Ai rfl rfl rfl (by decide) rfl (by decide)<|Ai rfl rfl rfl (by decide) rfl (by decide)<|Ai rfl rfl rfl (by decide) rfl (by decide)<|Ai rfl rfl rfl (by decide) rfl (by decide)<|Ai rfl rfl rfl (by decide) rfl (by decide)<|Ai rfl rfl rfl (by decide) rfl (by decide)<|wd rfl (fun st=>AZ (v:=.bool true) (ee st rfl) rfl (ee st rfl))<|Ae<|Aa<|Az rfl rfl<|Ad<|Ab<|wa rfl (v:=I 1) rfl<|Ae<|Aa<|AF<|Ax ?_;obtain rfl:=Option.some.inj a;refine AR rfl rfl ?_;exact⟨aO.Bq,rfl⟩
    ·replace a:=AH a aA;refine Au rfl rfl (Af rfl aA) rfl (by decide) (fun st=>Am (ee st rfl) (I1 _ _))<|Au rfl rfl (Af rfl aA) rfl (by decide) (fun st=>As (v:=I b.Ah) AW (ee st rfl) y.bk rfl)<|Au rfl rfl (Af rfl aA) rfl (by decide) (fun st=>CB (ee st rfl) (ee st rfl))<|wd rfl (fun st=>Bu (v:=.bool (decide (b.Ah<1))) (ee st rfl) aA (ee st rfl))<|wm rfl (v:=.bool (decide (b.Ah<1))) rfl ?_;rcases Ap (decide (b.Ah<1)) with p|p
     ·replace a:=AG a p;refine Ai (c:=true) rfl rfl (Af rfl p) (by decide) rfl (by decide)<|Ai (c:=true) rfl rfl (Af rfl p) (by decide) rfl (by decide)<|Ai (c:=true) rfl rfl (Af rfl p) (by decide) rfl (by decide)<|Ai (c:=true) rfl rfl (Af rfl p) (by decide) rfl (by decide)<|Ai (c:=true) rfl rfl (Af rfl p) (by decide) rfl (by decide)<|Ai (c:=true) rfl rfl (Af rfl p) (by decide) rfl (by decide)<|Ai (c:=true) rfl rfl (Af rfl p) (by decide) rfl (by decide)<|wd rfl (fun st=>AZ (v:=.bool true) (ee st rfl) p (ee st rfl))<|wm rfl (v:=.bool true) rfl<|Ai rfl rfl rfl (by decide) rfl (by decide)<|Ai rfl rfl rfl (by decide) rfl (by decide)<|Ai rfl rfl rfl (by decide) rfl (by decide)<|Ai rfl rfl rfl (by decide) rfl (by decide)<|Ai rfl rfl rfl (by decide) rfl (by decide)<|Ai rfl rfl rfl (by decide) rfl (by decide)<|Ai rfl rfl rfl (by decide) rfl (by decide)<|wd rfl (fun st=>AZ (v:=.bool true) (ee st rfl) rfl (ee st rfl))<|Ae<|Aa<|Az rfl rfl<|Ad<|Ab<|wa rfl (v:=I 1) rfl<|Ae<|Aa<|AF<|Ax ?_;obtain rfl:=Option.some.inj a;refine AR rfl rfl ?_;exact⟨aO.Bq,rfl⟩
     ·replace a:=AH a p;refine Au rfl rfl (Af rfl p) rfl (by decide) (fun st=>Am (ee st rfl) (Ky _ _))<|Au rfl rfl (Af rfl p) rfl (by decide) (fun st=>As (v:=I b.An) AW (ee st rfl) y.bk rfl)<|Au rfl rfl (Af rfl p) rfl (by decide) (fun st=>Am (ee st rfl) (FF _ _))<|Au rfl rfl (Af rfl p) rfl (by decide) (fun st=>As (v:=I b.Aj) AW (ee st rfl) y.bk rfl) ?_;replace a:=AU a;obtain⟨c0,a⟩:=a;refine Au rfl rfl (Af rfl p) rfl (by decide) (fun st=>By (ee st rfl) (ee st rfl) c0) ?_;replace a:=bind_some a;obtain⟨bA,c1,a⟩:=a;refine D0 rfl rfl (Af rfl p) rfl (by decide) (fun st=>AO Kf (ee st rfl) (Ff (ee st rfl) (ee st rfl) (ee st rfl)) (a46 aS b.An 0 (b.Aj+1) ZA _ bA c1)) ?_;rintro _ dL ⟨bG,rfl⟩;have bW:=aO.ext bG;refine Au rfl rfl (Af rfl p) rfl (by decide) (fun st=>DE (ee st rfl))<|wd rfl (fun st=>Bu (v:=.bool !bA) (ee st rfl) p (ee st rfl))<|wm rfl (v:=.bool !bA) rfl ?_;rcases Ap (!bA) with e|e
      ·replace a:=AG a e;have cO:bA=false:=by simpa using e
       refine Ai (c:=true) rfl rfl (Af rfl e) (by decide) rfl (by decide)<|Ai (c:=true) rfl rfl (Af rfl e) (by decide) rfl (by decide)<|Ai (c:=true) rfl rfl (Af rfl e) (by decide) rfl (by decide)<|Ai (c:=true) rfl rfl (Af rfl e) (by decide) rfl (by decide)<|Ai (c:=true) rfl rfl (Af rfl e) (by decide) rfl (by decide)<|Ai (c:=true) rfl rfl (Af rfl e) (by decide) rfl (by decide)<|Ai (c:=true) rfl rfl (Af rfl e) (by decide) rfl (by decide)<|wd rfl (fun st=>AZ (v:=.bool true) (ee st rfl) e (ee st rfl))<|Ae<|Aa<|Az rfl rfl<|Ad<|Ab<|wa rfl (v:=I 1) rfl<|Ae<|Aa<|AF<|Ax ?_;obtain rfl:=Option.some.inj a;refine AR rfl rfl ?_;exact⟨bW.Bq,rfl⟩
      ·replace a:=AH a e;have cP:bA=true:=by simpa using e
       refine Au rfl rfl (Af rfl e) rfl (by decide) (fun st=>Am (ee st rfl) (Kx _ _)) ?_;have aT:=(y.bk.ext bG);refine Au rfl rfl (Af rfl e) rfl (by decide) (fun st=>As (v:=I b.Av) AW (ee st rfl) aT rfl)<|Au rfl rfl (Af rfl e) rfl (by decide) (fun st=>Am (ee st rfl) (FF _ _))<|Au rfl rfl (Af rfl e) rfl (by decide) (fun st=>As (v:=I b.Aj) AW (ee st rfl) aT rfl) ?_;replace a:=AU a;obtain⟨b1,a⟩:=a;refine Au rfl rfl (Af rfl e) rfl (by decide) (fun st=>By (ee st rfl) (ee st rfl) b1) ?_;replace a:=bind_some a;obtain⟨aY,b2,a⟩:=a;refine D0 rfl rfl (Af rfl e) rfl (by decide) (fun st=>AO Kf (ee st rfl) (Ff (ee st rfl) (ee st rfl) (ee st rfl)) (a46 aS b.Av 0 (b.Aj+1) ZA _ aY b2)) ?_;rintro _ dF ⟨a4,rfl⟩;have bX:=bW.ext a4;refine Au rfl rfl (Af rfl e) rfl (by decide) (fun st=>DE (ee st rfl))<|wd rfl (fun st=>Bu (v:=.bool !aY) (ee st rfl) e (ee st rfl))<|Ae<|Aa ?_;rcases Ap (!aY) with aE|aE
       ·replace a:=AG a aE;have cQ:aY=false:=by simpa using aE
        refine Az rfl aE<|Ad<|Ab<|wa rfl (v:=I 1) rfl<|Ae<|Aa<|AF<|Ax ?_;obtain rfl:=Option.some.inj a;refine AR rfl rfl ?_;exact⟨bX.Bq,rfl⟩
       ·replace a:=AH a aE;have cR:aY=true:=by simpa using aE
        refine AL rfl aE<|AV<|Aa<|Ad<|Ad<|Ab<|wa rfl (v:=I 0) rfl<|Ae<|Aa<|Ba ?_;replace a:=bind_some a;obtain⟨bH,aG,a⟩:=a;refine Co (fun b3 aB aZ=>(b3=.ret∧∃aH,bH=.inl aH∧aB.tmps.size=101∧aB.defers=(X0).ds∧sl aB 2=I aH∧Hp FN [] w [some x] aZ)∨(b3=.exit 0∧∃aH,bH=.inr aH∧aB.tmps.size=101∧aB.defers=(X0).ds∧sl aB 1=pt x 0∧Hp FN [] w [some x] aZ∧Bk aZ x 63 #[I b.Aj,I b.Ah,I b.An,I b.Av,.slice j b.Ac.length m]∧Sl AJ aZ (ZZ FN [] Z w.heap.size [some x]) j m b.Ac)) ?b4 ?b5
        case b4=>
         clear a;refine Cn (fun(b6:Nat) (aB:Act) (aZ:World)=>∃r,C6 aS b b6 r=some bH∧aB.tmps.size=101∧aB.defers=(X0).ds∧sl aB 1=pt x 0∧sl aB 3=I r∧Hp FN [] w [some x] aZ∧Bk aZ x 63 #[I b.Aj,I b.Ah,I b.An,I b.Av,.slice j b.Ac.length m]∧Sl AJ aZ (ZZ FN [] Z w.heap.size [some x]) j m b.Ac) aS ?b7 ?b8
         case b7=>
          intro st;have bS:=(aT.ext a4);have bB:=(((a9.mv (Aw y)).mv (Ak bG)).mv (Ak a4));exact⟨(0:Int),aG,qz st,qd st,sp st 1 rfl,sp st 3 rfl,bX,bS,bB⟩
         case b8=>
          rintro(_|b6) dA dB ⟨r,aG,bT,bU,t,aI,bI,aD,aC⟩
          ·exact absurd (show none=some _ from aG) (by simp)
          rw[C6.eq_2] at aG;have a:=aG;clear aG;refine B5 (N:=101) bT bU<|Ad<|Ad<|Ab<|wm rfl (v:=I r) aI<|wd rfl (fun st=>Am (ee st t) (EG _ _))<|wd rfl (fun st=>As (v:=.slice j b.Ac.length m) FA (ee st rfl) aD rfl)<|wd rfl (fun st=>BT Tryz.underlying61 (ee st rfl))<|wd rfl (fun st=>CB (ee st rfl) (ee st rfl))<|Ae<|Aa ?_;rcases Ap (decide (r<(b.Ac.length:Int))) with aJ|aJ
          ·replace a:=AG a aJ;refine Az rfl aJ<|AV<|Aa<|Ad<|Ba<|Ad<|Ab<|wd rfl (fun st=>Am (ee st t) (EG _ _))<|wd rfl (fun st=>As (v:=.slice j b.Ac.length m) FA (ee st rfl) aD rfl)<|wm rfl (v:=I r) aI ?_;replace a:=Br a;obtain⟨i21,d,b9,cA,cB,a⟩:=a;obtain⟨dG,dH,_,cC,rfl,cD⟩:=Sl.elem aC (by decide) cA;refine wd rfl (fun st=>Ck (k:=i21) Tryz.underlying61 HM (ee st rfl) cC (ee st rfl) b9 cB)<|wd rfl (fun st=>C3 (l:=[I d.Aq,I d.AA,I d.AI,I d.B3,I d.Ci]) Oo (ee st rfl) cD rfl rfl)<|we rfl (fun st=>BF (cs:= #[I 0,I 0,I 0,I 0,I 0]) Ny rfl) ?_;rintro _ dI ⟨dJ,rfl,aK⟩;have bJ:=bI.nb aK;have c2:=bI.BE aK;refine Bg rfl rfl (fun st=>A8 (n:=5) (l:=[I d.Aq,I d.AA,I d.AI,I d.B3,I d.Ci]) (B4:= #[I d.Aq,I d.AA,I d.AI,I d.B3,I d.Ci]) (ee st rfl) (ee st rfl) HM aK.bk rfl rfl (show 0+5≤5 by decide) (AN rfl) rfl) ?_;rintro _ bK u;have a7:=bJ.gr u.gr 0 rfl;refine Ae<|Aa<|Ad<|Ab<|wd rfl (fun st=>Am (ee st rfl) (Ir _ _))<|wd rfl (fun st=>Am (ee st rfl) (Iq _ _))<|wd rfl (fun st=>As (v:=I d.Aq) AW (ee st rfl) u.bk rfl)<|wd rfl (fun st=>CB (ee st rfl) (ee st rfl))<|wm rfl (v:=.bool (decide (d.Aq<0))) rfl ?_;rcases Ap (decide (d.Aq<0)) with f|f
           ·replace a:=AG a f;refine Ai (c:=true) rfl rfl (Af rfl f) (by decide) rfl (by decide)<|Ai (c:=true) rfl rfl (Af rfl f) (by decide) rfl (by decide)<|Ai (c:=true) rfl rfl (Af rfl f) (by decide) rfl (by decide)<|Ai (c:=true) rfl rfl (Af rfl f) (by decide) rfl (by decide)<|Ai (c:=true) rfl rfl (Af rfl f) (by decide) rfl (by decide)<|Ai (c:=true) rfl rfl (Af rfl f) (by decide) rfl (by decide)<|Ai (c:=true) rfl rfl (Af rfl f) (by decide) rfl (by decide)<|wd rfl (fun st=>AZ (v:=.bool true) (ee st rfl) f (ee st rfl))<|wm rfl (v:=.bool true) rfl<|Ai rfl rfl rfl (by decide) rfl (by decide)<|Ai rfl rfl rfl (by decide) rfl (by decide)<|Ai rfl rfl rfl (by decide) rfl (by decide)<|Ai rfl rfl rfl (by decide) rfl (by decide)<|Ai rfl rfl rfl (by decide) rfl (by decide)<|Ai rfl rfl rfl (by decide) rfl (by decide)<|wd rfl (fun st=>AZ (v:=.bool true) (ee st rfl) rfl (ee st rfl))<|wm rfl (v:=.bool true) rfl<|Ai rfl rfl rfl (by decide) rfl (by decide)<|Ai rfl rfl rfl (by decide) rfl (by decide)<|Ai rfl rfl rfl (by decide) rfl (by decide)<|Ai rfl rfl rfl (by decide) rfl (by decide)<|wd rfl (fun st=>AZ (v:=.bool true) (ee st rfl) rfl (ee st rfl))<|wm rfl (v:=.bool true) rfl<|Ai rfl rfl rfl (by decide) rfl (by decide)<|Ai rfl rfl rfl (by decide) rfl (by decide)<|Ai rfl rfl rfl (by decide) rfl (by decide)<|Ai rfl rfl rfl (by decide) rfl (by decide)<|wd rfl (fun st=>AZ (v:=.bool true) (ee st rfl) rfl (ee st rfl))<|wm rfl (v:=.bool true) rfl<|Ai rfl rfl rfl (by decide) rfl (by decide)<|Ai rfl rfl rfl (by decide) rfl (by decide)<|Ai rfl rfl rfl (by decide) rfl (by decide)<|Ai rfl rfl rfl (by decide) rfl (by decide)<|Ai rfl rfl rfl (by decide) rfl (by decide)<|Ai rfl rfl rfl (by decide) rfl (by decide)<|wd rfl (fun st=>AZ (v:=.bool true) (ee st rfl) rfl (ee st rfl))<|Ae<|Aa<|Az rfl rfl<|Ad ?_;refine Ab<|wa rfl (v:=I 1) rfl<|Ae<|Aa<|AF<|AY<|Ax<|Ax ?_;have c3:Hp FN [] w [some x] bK:=a7.erase 0;obtain rfl:=Option.some.inj a;refine BZ (fun st=>?_);exact .inl ⟨rfl,(1:Int),rfl,qz st,qd st,sp st 2 rfl,c3⟩
           ·replace a:=AH a f;refine Au rfl rfl (Af rfl f) rfl (by decide) (fun st=>Am (ee st rfl) (Ir _ _))<|Au rfl rfl (Af rfl f) rfl (by decide) (fun st=>Am (ee st rfl) (Iq _ _))<|Au rfl rfl (Af rfl f) rfl (by decide) (fun st=>As (v:=I d.Aq) AW (ee st rfl) u.bk rfl)<|Au rfl rfl (Af rfl f) rfl (by decide) (fun st=>Am (ee st rfl) (Ir _ _))<|Au rfl rfl (Af rfl f) rfl (by decide) (fun st=>Am (ee st rfl) (Jw _ _))<|Au rfl rfl (Af rfl f) rfl (by decide) (fun st=>As (v:=I d.AA) AW (ee st rfl) u.bk rfl)<|Au rfl rfl (Af rfl f) rfl (by decide) (fun st=>FW (ee st rfl) (ee st rfl))<|wd rfl (fun st=>Bu (v:=.bool (decide (d.AA<d.Aq))) (ee st rfl) f (ee st rfl))<|wm rfl (v:=.bool (decide (d.AA<d.Aq))) rfl ?_;rcases Ap (decide (d.AA<d.Aq)) with h|h
            ·replace a:=AG a h;refine Ai (c:=true) rfl rfl (Af rfl h) (by decide) rfl (by decide)<|Ai (c:=true) rfl rfl (Af rfl h) (by decide) rfl (by decide)<|Ai (c:=true) rfl rfl (Af rfl h) (by decide) rfl (by decide)<|Ai (c:=true) rfl rfl (Af rfl h) (by decide) rfl (by decide)<|Ai (c:=true) rfl rfl (Af rfl h) (by decide) rfl (by decide)<|Ai (c:=true) rfl rfl (Af rfl h) (by decide) rfl (by decide)<|wd rfl (fun st=>AZ (v:=.bool true) (ee st rfl) h (ee st rfl))<|wm rfl (v:=.bool true) rfl<|Ai rfl rfl rfl (by decide) rfl (by decide)<|Ai rfl rfl rfl (by decide) rfl (by decide)<|Ai rfl rfl rfl (by decide) rfl (by decide)<|Ai rfl rfl rfl (by decide) rfl (by decide)<|wd rfl (fun st=>AZ (v:=.bool true) (ee st rfl) rfl (ee st rfl))<|wm rfl (v:=.bool true) rfl<|Ai rfl rfl rfl (by decide) rfl (by decide)<|Ai rfl rfl rfl (by decide) rfl (by decide)<|Ai rfl rfl rfl (by decide) rfl (by decide)<|Ai rfl rfl rfl (by decide) rfl (by decide)<|wd rfl (fun st=>AZ (v:=.bool true) (ee st rfl) rfl (ee st rfl))<|wm rfl (v:=.bool true) rfl<|Ai rfl rfl rfl (by decide) rfl (by decide)<|Ai rfl rfl rfl (by decide) rfl (by decide)<|Ai rfl rfl rfl (by decide) rfl (by decide)<|Ai rfl rfl rfl (by decide) rfl (by decide)<|Ai rfl rfl rfl (by decide) rfl (by decide)<|Ai rfl rfl rfl (by decide) rfl (by decide)<|wd rfl (fun st=>AZ (v:=.bool true) (ee st rfl) rfl (ee st rfl))<|Ae<|Aa<|Az rfl rfl<|Ad<|Ab<|wa rfl (v:=I 1) rfl<|Ae<|Aa<|AF<|AY<|Ax<|Ax ?_;have c4:Hp FN [] w [some x] bK:=a7.erase 0;obtain rfl:=Option.some.inj a;refine BZ (fun st=>?_);exact .inl ⟨rfl,(1:Int),rfl,qz st,qd st,sp st 2 rfl,c4⟩
            ·replace a:=AH a h;refine Au rfl rfl (Af rfl h) rfl (by decide) (fun st=>Am (ee st rfl) (Ir _ _))<|Au rfl rfl (Af rfl h) rfl (by decide) (fun st=>Am (ee st rfl) (Jw _ _))<|Au rfl rfl (Af rfl h) rfl (by decide) (fun st=>As (v:=I d.AA) AW (ee st rfl) u.bk rfl)<|Au rfl rfl (Af rfl h) rfl (by decide) (fun st=>Am (ee st t) (FF _ _)) ?_;have a8:=((aD.ext aK.gr).gr u.gr (bJ.ne 1 0 rfl rfl rfl));refine Au rfl rfl (Af rfl h) rfl (by decide) (fun st=>As (v:=I b.Aj) AW (ee st rfl) a8 rfl)<|Au rfl rfl (Af rfl h) rfl (by decide) (fun st=>FW (ee st rfl) (ee st rfl))<|wd rfl (fun st=>Bu (v:=.bool (decide (b.Aj<d.AA))) (ee st rfl) h (ee st rfl))<|wm rfl (v:=.bool (decide (b.Aj<d.AA))) rfl ?_;rcases Ap (decide (b.Aj<d.AA)) with q|q
             ·replace a:=AG a q;refine Ai (c:=true) rfl rfl (Af rfl q) (by decide) rfl (by decide)<|Ai (c:=true) rfl rfl (Af rfl q) (by decide) rfl (by decide)<|Ai (c:=true) rfl rfl (Af rfl q) (by decide) rfl (by decide)<|Ai (c:=true) rfl rfl (Af rfl q) (by decide) rfl (by decide)<|wd rfl (fun st=>AZ (v:=.bool true) (ee st rfl) q (ee st rfl))<|wm rfl (v:=.bool true) rfl<|Ai rfl rfl rfl (by decide) rfl (by decide)<|Ai rfl rfl rfl (by decide) rfl (by decide)<|Ai rfl rfl rfl (by decide) rfl (by decide)<|Ai rfl rfl rfl (by decide) rfl (by decide)<|wd rfl (fun st=>AZ (v:=.bool true) (ee st rfl) rfl (ee st rfl))<|wm rfl (v:=.bool true) rfl<|Ai rfl rfl rfl (by decide) rfl (by decide)<|Ai rfl rfl rfl (by decide) rfl (by decide)<|Ai rfl rfl rfl (by decide) rfl (by decide)<|Ai rfl rfl rfl (by decide) rfl (by decide)<|Ai rfl rfl rfl (by decide) rfl (by decide)<|Ai rfl rfl rfl (by decide) rfl (by decide)<|wd rfl (fun st=>AZ (v:=.bool true) (ee st rfl) rfl (ee st rfl))<|Ae<|Aa<|Az rfl rfl<|Ad<|Ab<|wa rfl (v:=I 1) rfl<|Ae<|Aa<|AF<|AY<|Ax<|Ax ?_;have c5:Hp FN [] w [some x] bK:=a7.erase 0;obtain rfl:=Option.some.inj a;refine BZ (fun st=>?_);exact .inl ⟨rfl,(1:Int),rfl,qz st,qd st,sp st 2 rfl,c5⟩
             ·replace a:=AH a q;refine Au rfl rfl (Af rfl q) rfl (by decide) (fun st=>Am (ee st rfl) (Nz _ _))<|Au rfl rfl (Af rfl q) rfl (by decide) (fun st=>As (v:=I d.AI) AW (ee st rfl) u.bk rfl) ?_;replace a:=bind_some a;obtain⟨aP,cE,a⟩:=a;refine D0 rfl rfl (Af rfl q) rfl (by decide) (fun st=>AO Kf (ee st rfl) (Ff (ee st rfl) (ee st rfl) (ee st rfl)) (a46 aS d.AI 1 5 ZA _ aP cE)) ?_;rintro _ c6 ⟨aU,rfl⟩;have bL:=a7.ext aU;refine Au rfl rfl (Af rfl q) rfl (by decide) (fun st=>DE (ee st rfl))<|wd rfl (fun st=>Bu (v:=.bool !aP) (ee st rfl) q (ee st rfl))<|wm rfl (v:=.bool !aP) rfl ?_;rcases Ap (!aP) with o|o
              ·replace a:=AG a o;have cS:aP=false:=by simpa using o
               refine Ai (c:=true) rfl rfl (Af rfl o) (by decide) rfl (by decide)<|Ai (c:=true) rfl rfl (Af rfl o) (by decide) rfl (by decide)<|Ai (c:=true) rfl rfl (Af rfl o) (by decide) rfl (by decide)<|Ai (c:=true) rfl rfl (Af rfl o) (by decide) rfl (by decide)<|wd rfl (fun st=>AZ (v:=.bool true) (ee st rfl) o (ee st rfl))<|wm rfl (v:=.bool true) rfl<|Ai rfl rfl rfl (by decide) rfl (by decide)<|Ai rfl rfl rfl (by decide) rfl (by decide)<|Ai rfl rfl rfl (by decide) rfl (by decide)<|Ai rfl rfl rfl (by decide) rfl (by decide)<|Ai rfl rfl rfl (by decide) rfl (by decide)<|Ai rfl rfl rfl (by decide) rfl (by decide)<|wd rfl (fun st=>AZ (v:=.bool true) (ee st rfl) rfl (ee st rfl))<|Ae<|Aa<|Az rfl rfl<|Ad<|Ab<|wa rfl (v:=I 1) rfl<|Ae<|Aa<|AF<|AY<|Ax<|Ax ?_;have cF:Hp FN [] w [some x] c6:=bL.erase 0;obtain rfl:=Option.some.inj a;refine BZ (fun st=>?_);exact .inl ⟨rfl,(1:Int),rfl,qz st,qd st,sp st 2 rfl,cF⟩
              ·replace a:=AH a o;have cT:aP=true:=by simpa using o
               refine Au rfl rfl (Af rfl o) rfl (by decide) (fun st=>Am (ee st rfl) (NA _ _)) ?_;have aQ:=(u.bk.ext aU);refine Au rfl rfl (Af rfl o) rfl (by decide) (fun st=>As (v:=I d.B3) AW (ee st rfl) aQ rfl) ?_;replace a:=bind_some a;obtain⟨aR,cG,a⟩:=a;refine D0 rfl rfl (Af rfl o) rfl (by decide) (fun st=>AO Kf (ee st rfl) (Ff (ee st rfl) (ee st rfl) (ee st rfl)) (a46 aS d.B3 1 5 ZA _ aR cG)) ?_;rintro _ c7 ⟨aV,rfl⟩;have bM:=bL.ext aV;refine Au rfl rfl (Af rfl o) rfl (by decide) (fun st=>DE (ee st rfl))<|wd rfl (fun st=>Bu (v:=.bool !aR) (ee st rfl) o (ee st rfl))<|wm rfl (v:=.bool !aR) rfl ?_;rcases Ap (!aR) with g|g
               ·replace a:=AG a g;have cU:aR=false:=by simpa using g
                refine Ai (c:=true) rfl rfl (Af rfl g) (by decide) rfl (by decide)<|Ai (c:=true) rfl rfl (Af rfl g) (by decide) rfl (by decide)<|Ai (c:=true) rfl rfl (Af rfl g) (by decide) rfl (by decide)<|Ai (c:=true) rfl rfl (Af rfl g) (by decide) rfl (by decide)<|Ai (c:=true) rfl rfl (Af rfl g) (by decide) rfl (by decide)<|Ai (c:=true) rfl rfl (Af rfl g) (by decide) rfl (by decide)<|wd rfl (fun st=>AZ (v:=.bool true) (ee st rfl) g (ee st rfl))<|Ae<|Aa<|Az rfl rfl<|Ad<|Ab<|wa rfl (v:=I 1) rfl<|Ae<|Aa<|AF<|AY<|Ax<|Ax ?_;have cH:Hp FN [] w [some x] c7:=bM.erase 0;obtain rfl:=Option.some.inj a;refine BZ (fun st=>?_);exact .inl ⟨rfl,(1:Int),rfl,qz st,qd st,sp st 2 rfl,cH⟩
               ·replace a:=AH a g;have cV:aR=true:=by simpa using g
                refine Au rfl rfl (Af rfl g) rfl (by decide) (fun st=>Am (ee st rfl) (NB _ _)) ?_;have bC:=(aQ.ext aV);refine Au rfl rfl (Af rfl g) rfl (by decide) (fun st=>As (v:=I d.Ci) AW (ee st rfl) bC rfl)<|Au rfl rfl (Af rfl g) rfl (by decide) (fun st=>Am (ee st t) (FF _ _)) ?_;have a0:=((a8.ext aU).ext aV);refine Au rfl rfl (Af rfl g) rfl (by decide) (fun st=>As (v:=I b.Aj) AW (ee st rfl) a0 rfl) ?_;replace a:=bind_some a;obtain⟨a2,cI,a⟩:=a;refine D0 rfl rfl (Af rfl g) rfl (by decide) (fun st=>AO Kf (ee st rfl) (Ff (ee st rfl) (ee st rfl) (ee st rfl)) (a46 aS d.Ci 0 b.Aj ZA _ a2 cI)) ?_;rintro _ bN ⟨a5,rfl⟩;have bO:=bM.ext a5;refine Au rfl rfl (Af rfl g) rfl (by decide) (fun st=>DE (ee st rfl))<|wd rfl (fun st=>Bu (v:=.bool !a2) (ee st rfl) g (ee st rfl))<|Ae<|Aa ?_;rcases Ap (!a2) with aF|aF
                ·replace a:=AG a aF;have cW:a2=false:=by simpa using aF
                 refine Az rfl aF<|Ad<|Ab<|wa rfl (v:=I 1) rfl<|Ae<|Aa<|AF<|AY<|Ax<|Ax ?_;have cJ:Hp FN [] w [some x] bN:=bO.erase 0;obtain rfl:=Option.some.inj a;refine BZ (fun st=>?_);exact .inl ⟨rfl,(1:Int),rfl,qz st,qd st,sp st 2 rfl,cJ⟩
                ·replace a:=AH a aF;have cX:a2=true:=by simpa using aF
                 refine AL rfl aF<|AV<|Bp<|Aa<|Ab<|wm rfl (v:=I r) aI ?_;replace a:=AU a;obtain⟨cK,a⟩:=a;refine wd rfl (fun st=>By (ee st rfl) (ee st rfl) cK)<|wa rfl (v:=I (r+1)) rfl<|Ae ?_;have cL:Hp FN [] w [some x] bN:=bO.erase 0;have bP:=(a0.ext a5);have a6:Sl AJ bN (ZZ FN [] Z w.heap.size [some x]) j m b.Ac:=((((((aC.mv (Aw aK)).mv (bJ.AP u.gr 0 rfl)).mv (Ak aU)).mv (Ak aV)).mv (Ak a5)).mv (AK 0));refine Bx b6 (Nat.lt_succ_self _) (fun st=>?_);exact⟨(r+1),a,qz st,qd st,sp st 1 t,sp st 3 rfl,cL,bP,a6⟩
          ·replace a:=AH a aJ;refine AL rfl aJ<|Cj<|AQ<|AQ ?_;obtain rfl:=Option.some.inj a;refine BZ (fun st=>?_);exact .inr ⟨rfl,(),rfl,qz st,qd st,sp st 1 t,bI,aD,aC⟩
        case b5=>
         rintro b3 c9 dC (⟨rfl,aH,rfl,aL,aM,bD,aW⟩|⟨rfl,aH,rfl,aL,aM,bE,aW,bF,a3⟩)
         ·skip
          replace a:=EL a;refine Cq (X:=X0) (N:=101) aL aM<|AY<|Ax ?_;obtain rfl:=Option.some.inj a;refine AR rfl bD ?_;exact⟨aW.Bq,rfl⟩
         ·skip
          replace a:=EM a;refine Cq (X:=X0) (N:=101) aL aM<|Bt<|Aa<|Ad<|Ad<|Ab<|wd rfl (fun st=>Bd (l:=[I b.Aj,I b.Ah,I b.An,I b.Av,.slice j b.Ac.length m]) Fz (ee st bE) bF rfl rfl) ?_;replace a:=bind_some a;obtain⟨bY,cM,a⟩:=a;refine we rfl (fun st=>AO NC (ee st rfl) (CD (ee st rfl)) (T6 aS b j m ZA _ a3.all bY cM)) ?_;rintro _ dK ⟨cN,rfl⟩;have bQ:=aW.ext cN;refine wd rfl (fun st=>FW (ee st rfl) (ee st rfl))<|Ae<|Aa ?_;rcases Ap (decide ((1000:Int)<bY)) with aN|aN
          ·replace a:=AG a aN;refine Az rfl aN<|Ad<|Ab<|wa rfl (v:=I 3) rfl<|Ae<|Aa<|AF<|Ax ?_;obtain rfl:=Option.some.inj a;refine AR rfl rfl ?_;exact⟨bQ.Bq,rfl⟩
          ·replace a:=AH a aN;refine AL rfl aN<|AV<|Aa<|Ad<|Ab<|wa rfl (v:=I 0) rfl<|Ae<|Aa<|AF ?_;obtain rfl:=Option.some.inj a;refine AR rfl rfl ?_;exact⟨bQ.Bq,rfl⟩
theorem Vq(p:Nat)(e:Ao)(b:AX)(h:Option Addr)(j:Nat)(Z:Nat→Prop)(w:World)(x:Sl AJ w Z h j e.Ac)(aO:Bool)(a:EP p e b=some aO):
 BJ Tryz.prog 89 #[.agg #[I e.Aj,I e.Ah,I e.An,I e.Av,.slice h e.Ac.length j],.agg #[I b.Aq,I b.AA,I b.AI,I b.B3,I b.Ci]] w (fun v w'=>Ext w w'∧BQ.R w' (ZZ FN [] Z w.heap.size []) v aO):=by
 unfold EP at a;refine A3 (N:=27) Tryz.func89 rfl rfl (by simp) ?_;intro aW aH aX;have aI:=AM (i:=0) (v:=.agg #[I e.Aj,I e.Ah,I e.An,I e.Av,.slice h e.Ac.length j]) aH rfl;have aJ:=AM (i:=1) (v:=.agg #[I b.Aq,I b.AA,I b.AI,I b.B3,I b.Ci]) aH rfl;clear aH;have aC:Hp FN [] w [] w:=Hp.start (BK.none w);have aN:=x.mv (Bn (Z:=Z) (L:=[]) w);refine Ad<|Ab<|we rfl (fun st=>BX (v:=.agg #[I e.Aj,I e.Ah,I e.An,I e.Av,.slice h e.Ac.length j]) (cs:= #[I e.Aj,I e.Ah,I e.An,I e.Av,.slice h e.Ac.length j]) (ee st aI) rfl) ?_;rintro _ w1 ⟨a0,rfl,q⟩;have aD:=aC.nb q;have aU:=aC.BE q;refine we rfl (fun st=>BX (v:=.agg #[I b.Aq,I b.AA,I b.AI,I b.B3,I b.Ci]) (cs:= #[I b.Aq,I b.AA,I b.AI,I b.B3,I b.Ci]) (ee st aJ) rfl) ?_;rintro _ w2 ⟨a2,rfl,k⟩;have aP:=aD.nb k;have aV:=aD.BE k;refine wa rfl (v:=.bool false) rfl<|Ae<|Aa<|Ad<|Ab<|wd rfl (fun st=>Am (ee st rfl) (Jy _ _))<|wd rfl (fun st=>Bd (l:=[I b.Aq,I b.AA]) Kz (ee st rfl) k.bk rfl rfl)<|wd rfl (fun st=>Am (ee st rfl) (He _ _)) ?_;have m:=(q.bk.ext k.gr);refine wd rfl (fun st=>As (v:=I e.Aj) AW (ee st rfl) m rfl) ?_;replace a:=bind_some a;obtain⟨aK,aQ,a⟩:=a;refine we rfl (fun st=>AO R6 (ee st rfl) (EZ (ee st rfl) (ee st rfl)) (U4 p (⟨b.Aq,b.AA⟩:Cv) e.Aj ZA _ aK aQ)) ?_;rintro _ a3 ⟨r,rfl⟩;have aE:=aP.ext r;refine wm rfl (v:=.bool aK) rfl ?_;rcases Ap (aK) with f|f
 ·replace a:=AG a f;refine Au rfl rfl (Af rfl f) rfl (by decide) (fun st=>Am (ee st rfl) (G9 _ _)) ?_;have n:=(k.bk.ext r);refine Au rfl rfl (Af rfl f) rfl (by decide) (fun st=>As (v:=I b.AI) AW (ee st rfl) n rfl) ?_;replace a:=bind_some a;obtain⟨y,aR,a⟩:=a;refine D0 rfl rfl (Af rfl f) rfl (by decide) (fun st=>AO Oq (ee st rfl) (CD (ee st rfl)) (a141 p b.AI ZA _ y aR)) ?_;rintro _ a4 ⟨s,rfl⟩;have aF:=aE.ext s;refine wd rfl (fun st=>AZ (v:=.bool y) (ee st rfl) f (ee st rfl))<|wm rfl (v:=.bool y) rfl ?_;rcases Ap (y) with g|g
  ·replace a:=AG a g;refine Au rfl rfl (Af rfl g) rfl (by decide) (fun st=>Am (ee st rfl) (K1 _ _)) ?_;have o:=(n.ext s);refine Au rfl rfl (Af rfl g) rfl (by decide) (fun st=>As (v:=I b.B3) AW (ee st rfl) o rfl) ?_;replace a:=bind_some a;obtain⟨z,aS,a⟩:=a;refine D0 rfl rfl (Af rfl g) rfl (by decide) (fun st=>AO Oq (ee st rfl) (CD (ee st rfl)) (a141 p b.B3 ZA _ z aS)) ?_;rintro _ aY ⟨t,rfl⟩;have aG:=aF.ext t;refine wd rfl (fun st=>AZ (v:=.bool z) (ee st rfl) g (ee st rfl))<|wm rfl (v:=.bool z) rfl ?_;rcases Ap (z) with d|d
   ·replace a:=AG a d;refine Au rfl rfl (Af rfl d) rfl (by decide) (fun st=>Am (ee st rfl) (Nv _ _)) ?_;have aA:=(o.ext t);refine Au rfl rfl (Af rfl d) rfl (by decide) (fun st=>As (v:=I b.Ci) AW (ee st rfl) aA rfl)<|Au rfl rfl (Af rfl d) rfl (by decide) (fun st=>Am (ee st rfl) (He _ _)) ?_;have aB:=(((m.ext r).ext s).ext t);refine Au rfl rfl (Af rfl d) rfl (by decide) (fun st=>As (v:=I e.Aj) AW (ee st rfl) aB rfl) ?_;replace a:=bind_some a;obtain⟨u,aL,a⟩:=a;refine D0 rfl rfl (Af rfl d) rfl (by decide) (fun st=>AO IZ (ee st rfl) (Ff (ee st rfl) (ee st rfl) (ee st rfl)) (OH p b.Ci 0 e.Aj ZA _ u aL)) ?_;rintro _ aZ ⟨aM,rfl⟩;have aT:=aG.ext aM;refine wd rfl (fun st=>AZ (v:=.bool u) (ee st rfl) d (ee st rfl))<|wa rfl (v:=.bool u) rfl<|Ae<|Aa<|AF ?_;obtain rfl:=Option.some.inj a;refine AR rfl rfl ?_;exact⟨aT.Bq,rfl⟩
   ·replace a:=AH a d;refine Ai (c:=false) rfl rfl (Af rfl d) (by decide) rfl (by decide)<|Ai (c:=false) rfl rfl (Af rfl d) (by decide) rfl (by decide)<|Ai (c:=false) rfl rfl (Af rfl d) (by decide) rfl (by decide)<|Ai (c:=false) rfl rfl (Af rfl d) (by decide) rfl (by decide)<|Ai (c:=false) rfl rfl (Af rfl d) (by decide) rfl (by decide)<|wd rfl (fun st=>Bu (v:=.bool false) (ee st rfl) d (ee st rfl))<|wa rfl (v:=.bool false) rfl<|Ae<|Aa<|AF ?_;obtain rfl:=Option.some.inj a;refine AR rfl rfl ?_;exact⟨aG.Bq,rfl⟩
  ·replace a:=AH a g;refine Ai (c:=false) rfl rfl (Af rfl g) (by decide) rfl (by decide)<|Ai (c:=false) rfl rfl (Af rfl g) (by decide) rfl (by decide)<|Ai (c:=false) rfl rfl (Af rfl g) (by decide) rfl (by decide)<|wd rfl (fun st=>Bu (v:=.bool false) (ee st rfl) g (ee st rfl))<|wm rfl (v:=.bool false) rfl<|Ai rfl rfl rfl (by decide) rfl (by decide)<|Ai rfl rfl rfl (by decide) rfl (by decide)<|Ai rfl rfl rfl (by decide) rfl (by decide)<|Ai rfl rfl rfl (by decide) rfl (by decide)<|Ai rfl rfl rfl (by decide) rfl (by decide)<|wd rfl (fun st=>Bu (v:=.bool false) (ee st rfl) rfl (ee st rfl))<|wa rfl (v:=.bool false) rfl<|Ae<|Aa<|AF ?_;obtain rfl:=Option.some.inj a;refine AR rfl rfl ?_;exact⟨aF.Bq,rfl⟩
 ·replace a:=AH a f;refine Ai (c:=false) rfl rfl (Af rfl f) (by decide) rfl (by decide)<|Ai (c:=false) rfl rfl (Af rfl f) (by decide) rfl (by decide)<|Ai (c:=false) rfl rfl (Af rfl f) (by decide) rfl (by decide)<|wd rfl (fun st=>Bu (v:=.bool false) (ee st rfl) f (ee st rfl))<|wm rfl (v:=.bool false) rfl<|Ai rfl rfl rfl (by decide) rfl (by decide)<|Ai rfl rfl rfl (by decide) rfl (by decide)<|Ai rfl rfl rfl (by decide) rfl (by decide)<|wd rfl (fun st=>Bu (v:=.bool false) (ee st rfl) rfl (ee st rfl))<|wm rfl (v:=.bool false) rfl<|Ai rfl rfl rfl (by decide) rfl (by decide)<|Ai rfl rfl rfl (by decide) rfl (by decide)<|Ai rfl rfl rfl (by decide) rfl (by decide)<|Ai rfl rfl rfl (by decide) rfl (by decide)<|Ai rfl rfl rfl (by decide) rfl (by decide)<|wd rfl (fun st=>Bu (v:=.bool false) (ee st rfl) rfl (ee st rfl))<|wa rfl (v:=.bool false) rfl<|Ae<|Aa<|AF ?_;obtain rfl:=Option.some.inj a;refine AR rfl rfl ?_;exact⟨aE.Bq,rfl⟩
theorem Vr(aT:Nat)(h:List Int)(n:List Int)(c:Option Addr)(d:Nat)(f:Option Addr)(g:Nat)(Z:Nat→Prop)(w:World)(aJ:Sl (Ay .i64) w Z c d h)(aK:Sl (Ay .i64) w Z f g n)(aU:Bool)(a:Fj aT h n=some aU):
 BJ Tryz.prog 55 #[.slice c h.length d,.slice f n.length g] w (fun v w'=>Ext w w'∧BQ.R w' (ZZ FN [] Z w.heap.size []) v aU):=by
 unfold Fj at a;refine A3 (N:=26) Tryz.func55 rfl rfl (by simp) ?_;intro bI aO bJ;have aF:=AM (i:=0) (v:=.slice c h.length d) aO rfl;have aG:=AM (i:=1) (v:=.slice f n.length g) aO rfl;clear aO;have aL:Hp FN [] w [] w:=Hp.start (BK.none w);have aA:=aJ.mv (Bn (Z:=Z) (L:=[]) w);have aB:=aK.mv (Bn (Z:=Z) (L:=[]) w);refine Ad<|Ab<|wa rfl (v:=.bool false) rfl<|Ae<|Aa<|Ad<|Ad<|Ab<|wm rfl (v:=.slice c h.length d) aF<|wd rfl (fun st=>BT Tryz.underlying23 (ee st rfl))<|wm rfl (v:=.slice f n.length g) aG<|wd rfl (fun st=>BT Tryz.underlying23 (ee st rfl))<|wd rfl (fun st=>FV (ee st rfl) (ee st rfl))<|Ae<|Aa ?_;rcases Ap ((h.length:Int) !=(n.length:Int)) with t|t
 ·replace a:=AG a t;refine Az rfl t<|Ad<|Ab<|wa rfl (v:=.bool false) rfl<|Ae<|Aa<|AF<|Ax ?_;obtain rfl:=Option.some.inj a;refine AR rfl rfl ?_;exact⟨aL.Bq,rfl⟩
 ·replace a:=AH a t;refine AL rfl t<|AV<|Aa<|Ad<|Ad<|Ab<|wa rfl (v:=I 0) rfl<|Ae<|Aa<|Ba ?_;replace a:=bind_some a;obtain⟨z2,o,a⟩:=a;refine Co (fun aP e aC=>(aP=.ret∧∃p,z2=.inl p∧e.tmps.size=26∧e.defers=(X0).ds∧sl e 4=.bool p∧Hp FN [] w [] aC)∨(aP=.exit 0∧∃p,z2=.inr p∧e.tmps.size=26∧e.defers=(X0).ds∧Hp FN [] w [] aC)) ?aV ?aW
  case aV=>
   clear a;refine Cn (fun(aQ:Nat) (e:Act) (aC:World)=>∃b,DA h n aQ b=some z2∧e.tmps.size=26∧e.defers=(X0).ds∧sl e 0=.slice c h.length d∧sl e 1=.slice f n.length g∧sl e 5=I b∧Hp FN [] w [] aC∧Sl (Ay .i64) aC (ZZ FN [] Z w.heap.size []) c d h∧Sl (Ay .i64) aC (ZZ FN [] Z w.heap.size []) f g n) aT ?aX ?aY
   case aX=>
    intro st;exact⟨(0:Int),o,qz st,qd st,sp st 0 aF,sp st 1 aG,sp st 5 rfl,aL,aA,aB⟩
   case aY=>
    rintro(_|aQ) bK bL ⟨b,o,aR,aS,q,z,j,aM,l,m⟩
    ·exact absurd (show none=some _ from o) (by simp)
    rw[DA.eq_2] at o;have a:=o;clear o;refine B5 (N:=26) aR aS<|Ad<|Ad<|Ab<|wm rfl (v:=I b) j<|wm rfl (v:=.slice c h.length d) q<|wd rfl (fun st=>BT Tryz.underlying23 (ee st rfl))<|wd rfl (fun st=>CB (ee st rfl) (ee st rfl))<|Ae<|Aa ?_;rcases Ap (decide (b<(h.length:Int))) with u|u
    ·replace a:=AG a u;refine Az rfl u<|AV<|Aa<|Ad<|Ba<|Ad ?_;replace a:=Br a;obtain⟨i5,aZ,a0,a2,a3,a⟩:=a;obtain⟨bD,bE,_,a4,rfl,a5⟩:=Sl.EK l rfl a2;replace a:=Br a;obtain⟨i6,a6,a7,a8,a9,a⟩:=a;obtain⟨bF,bG,_,bA,rfl,bB⟩:=Sl.EK m rfl a8;refine CI 8 [Kc (.slice c h.length d),Kc (I b),Kc (pt bD (bE+i5)),Kc (I aZ),Kc (.slice f n.length g),Kc (I b),Kc (pt bF (bG+i6)),Kc (I a6)] mixed rfl rfl
         (Ag (od rfl (fun _=>rfl) (fun K=>A5 (es ((K.out 0 rfl).trans q))))
         (Ag (od rfl (fun _=>rfl) (fun K=>A5 (es ((K.out 5 rfl).trans j))))
         (Ag (od rfl (fun _=>rfl) (fun K=>BI (k:=i5) Tryz.underlying23 Df (es (K.AD 0 17 rfl rfl)) a4 (es (K.AD 1 18 rfl rfl)) a0 a3))
         (Ag (od rfl (fun _=>rfl) (fun K=>Ct AW (es (K.AD 2 19 rfl rfl)) (a5.mv (Ak K.Bj)) rfl))
         (Ag (od rfl (fun _=>rfl) (fun K=>A5 (es ((K.out 1 rfl).trans z))))
         (Ag (od rfl (fun _=>rfl) (fun K=>A5 (es ((K.out 5 rfl).trans j))))
         (Ag (od rfl (fun _=>rfl) (fun K=>BI (k:=i6) Tryz.underlying23 Df (es (K.AD 4 21 rfl rfl)) bA (es (K.AD 5 22 rfl rfl)) a7 a9))
         (Ag (od rfl (fun _=>rfl) (fun K=>Ct AW (es (K.AD 6 23 rfl rfl)) (bB.mv (Ak K.Bj)) rfl))
         (B7 _))))))))) ?_
     intro bN;rintro _ rfl _ rfl _ rfl _ rfl _ rfl _ rfl _ rfl _ rfl aH;have aN:=aM.ext aH;refine wd rfl (fun st=>FV (ee st rfl) (ee st rfl))<|Ae<|Aa ?_;rcases Ap (aZ !=a6) with x|x
     ·replace a:=AG a x;refine Az rfl x<|Ad<|Ab<|wa rfl (v:=.bool false) rfl<|Ae<|Aa<|AF<|AY<|Ax<|Ax ?_;obtain rfl:=Option.some.inj a;refine BZ (fun st=>?_);exact .inl ⟨rfl,false,rfl,qz st,qd st,sp st 4 rfl,aN⟩
     ·replace a:=AH a x;refine AL rfl x<|AV<|Bp<|Aa<|Ab<|wm rfl (v:=I b) j ?_;replace a:=AU a;obtain⟨bC,a⟩:=a;refine wd rfl (fun st=>By (ee st rfl) (ee st rfl) bC)<|wa rfl (v:=I (b+1)) rfl<|Ae ?_;have aD:=(l.mv (Ak aH));have aE:=(m.mv (Ak aH));refine Bx aQ (Nat.lt_succ_self _) (fun st=>?_);exact⟨(b+1),a,qz st,qd st,sp st 0 q,sp st 1 z,sp st 5 rfl,aN,aD,aE⟩
    ·replace a:=AH a u;refine AL rfl u<|Cj<|AQ<|AQ ?_;obtain rfl:=Option.some.inj a;refine BZ (fun st=>?_);exact .inr ⟨rfl,(),rfl,qz st,qd st,aM⟩
  case aW=>
   rintro aP bH bM (⟨rfl,p,rfl,r,s,aI,y⟩|⟨rfl,p,rfl,r,s,y⟩)
   ·skip
    replace a:=EL a;refine Cq (X:=X0) (N:=26) r s<|AY<|Ax ?_;obtain rfl:=Option.some.inj a;refine AR rfl aI ?_;exact⟨y.Bq,rfl⟩
   ·skip
    replace a:=EM a;refine Cq (X:=X0) (N:=26) r s<|Bt<|Aa<|Ad<|Ab<|wa rfl (v:=.bool true) rfl<|Ae<|Aa<|AF ?_;obtain rfl:=Option.some.inj a;refine AR rfl rfl ?_;exact⟨y.Bq,rfl⟩
theorem LH(y:Nat)(a:Int)(Z:Nat→Prop)(w:World)(s:Ao)(t:Cx y a=some s):
 BJ Tryz.prog 82 #[I a] w (fun v w'=>Ext w w'∧(C5 Hn).R w' (ZZ FN [] Z w.heap.size []) v s):=by
 unfold Cx at t;refine A3 (N:=9) Tryz.func82 rfl rfl (by simp) ?_;intro z u aA;have r:=AM (i:=0) (v:=I a) u rfl;clear u;have m:Hp FN [] w [] w:=Hp.start (BK.none w);refine Ad<|Ab<|we rfl (fun st=>BF (cs:= #[I 0,I 0,I 0,I 0,.slice none 0 0]) LW rfl) ?_;rintro _ w1 ⟨aB,rfl,c⟩;have o:=m.nb c;have x:=m.BE c;refine Ae<|Aa<|Ad<|Ab<|wm rfl (v:=I a) r<|wd rfl (fun st=>CR (vs:= #[(1,I 2),(2,I 2),(3,I 2)]) (v:=.agg #[I 0,I 0,I 2,I 2,I 2]) (JH (ee st rfl) (ee st rfl) (ee st rfl)) (by kernel_rfl))<|wd rfl (fun st=>CR (vs:= #[(0,I 1),(1,I 1)]) (v:=.agg #[I 1,I 1]) (H9 (ee st rfl) (ee st rfl)) (by kernel_rfl))<|wd rfl (fun st=>CR (vs:= #[(0,.agg #[I 1,I 1]),(1,I 2),(2,I 1),(3,I 5)]) (v:=.agg #[I 1,I 1,I 2,I 1,I 5]) (SZ (ee st rfl) (ee st rfl) (ee st rfl) (ee st rfl)) (by kernel_rfl))<|we rfl (fun st=>BH (e:=156) (vs:= #[(0,.agg #[I 0,I 0,I 2,I 2,I 2]),(1,.agg #[I 1,I 1,I 2,I 1,I 5])]) (cs:= #[I 0,I 0,I 2,I 2,I 2,I 1,I 1,I 2,I 1,I 5]) (H9 (ee st rfl) (ee st rfl)) (by kernel_rfl)) ?_;rintro _ w2 ⟨d,rfl,b⟩;have p:=o.nb b;have g:=o.BE b;refine wd rfl (fun st=>CR (vs:= #[(0,I 5),(1,I 1),(2,I a),(3,I 1),(4,.slice (some ⟨d,0,none⟩) 2 2)]) (v:=.agg #[I 5,I 1,I a,I 1,.slice (some ⟨d,0,none⟩) 2 2]) (Vl (ee st rfl) (ee st rfl) (ee st rfl) (ee st rfl) (ee st rfl)) (by kernel_rfl)) ?_;have j:=(c.bk.ext b.gr);refine Bg rfl rfl (fun st=>A8 (n:=5) (l:=[I 5,I 1,I a,I 1,.slice (some ⟨d,0,none⟩) 2 2]) (B4:= #[I 5,I 1,I a,I 1,.slice (some ⟨d,0,none⟩) 2 2]) (ee st rfl) (ee st rfl) Pn j rfl rfl (show 0+5≤5 by decide) (AN rfl) rfl) ?_;rintro _ aC f;have q:=p.gr f.gr 1 rfl;refine Ae<|Aa<|AF ?_;obtain rfl:=Option.some.inj t;refine FE (v:=.agg #[I 5,I 1,I a,I 1,.slice (some ⟨d,0,none⟩) 2 2]) rfl rfl (CA CH f.bk rfl rfl) ?_;have k:=(b.bk.gr f.gr (p.ne 0 1 rfl rfl rfl));exact⟨q.Bq,⟨_,rfl,_,_,rfl,FY (e:=AJ) (xs:=[(⟨0,0,2,2,2⟩:AX),(⟨1,1,2,1,5⟩:AX)]) (Be:=[[I 0,I 0,I 2,I 2,I 2],[I 1,I 1,I 2,I 1,I 5]]) k (.inr ⟨g,fun hm=>q.Bv (F':=FN) (M:=[]) 0 rfl [] rfl trivial (fun _ h=>h.elim) (.inr hm)⟩) ⟨rfl,rfl,trivial⟩ rfl (Nat.le_refl _)⟩⟩
theorem Vs(bA:Nat)(b:Int)(Z:Nat→Prop)(w:World)(aX:AS)(j:Gb bA b=some aX):
 BJ Tryz.prog 83 #[I b] w (fun v w'=>Ext w w'∧(C5 EV).R w' (ZZ FN [] Z w.heap.size []) v aX):=by
 unfold Gb at j;refine A3 (N:=12) Tryz.func83 rfl rfl (by simp) ?_;intro bH aY bI;have aQ:=AM (i:=0) (v:=I b) aY rfl;clear aY;have aI:Hp FN [] w [] w:=Hp.start (BK.none w);refine Ad<|Ab<|we rfl (fun st=>BF (cs:= #[.slice none 0 0,.slice none 0 0]) GH rfl) ?_;rintro _ w1 ⟨t,rfl,u⟩;have aJ:=aI.nb u;have a7:=aI.BE u;refine Ae<|Aa<|Ad<|Ab<|we rfl (fun st=>BH (e:=3) (vs:= #[(0,I 0),(1,I 1)]) (cs:= #[I 0,I 1]) (H9 (ee st rfl) (ee st rfl)) (by kernel_rfl)) ?_;rintro _ w2 ⟨c,rfl,q⟩;have x:=aJ.nb q;have aD:=aJ.BE q;replace j:=G5 j;obtain⟨aZ,j⟩:=j;refine we rfl (fun st=>Hy (e:=Bo) (z:=false) (zc:=[.bool false]) (n0:=w.heap.size) (b':=1) Tryz.underlying65 Kg rfl rfl (ee st rfl) (ee st rfl) aZ (fun _ _=>rfl) x.sz (by decide)) ?_;rintro _ a0 ⟨a,rfl,aK,aR,y,aS⟩;have aL:Hp FN [] w [some a,some c,some t] a0:=x.new y aK aR;have a8:w.heap.size≤a:=Nat.le_trans x.sz aK;have a2:AB Bo 4 w.heap.size a0 (ZZ FN [] Z w.heap.size [some a,some c,some t]) (some ⟨a,0,none⟩) ((6:Int).toNat) (List.replicate (6:Int).toNat false):=aS _;refine wd rfl (fun st=>CR (vs:= #[(0,.slice (some ⟨c,0,none⟩) 2 2),(1,.slice (some ⟨a,0,none⟩) ((List.replicate (6:Int).toNat false).length) ((6:Int).toNat))]) (v:=.agg #[.slice (some ⟨c,0,none⟩) 2 2,.slice (some ⟨a,0,none⟩) ((List.replicate (6:Int).toNat false).length) ((6:Int).toNat)]) (H9 (ee st rfl) (ee st rfl)) (by kernel_rfl))<|we rfl (fun st=>BF (cs:= #[.slice none 0 0,.slice none 0 0]) GH rfl) ?_;rintro _ bK ⟨aE,rfl,d⟩;have m:=aL.nb d;have a9:=aL.BE d;refine Bg rfl rfl (fun st=>A8 (n:=2) (l:=[.slice (some ⟨c,0,none⟩) 2 2,.slice (some ⟨a,0,none⟩) ((List.replicate (6:Int).toNat false).length) ((6:Int).toNat)]) (B4:= #[.slice (some ⟨c,0,none⟩) 2 2,.slice (some ⟨a,0,none⟩) ((List.replicate (6:Int).toNat false).length) ((6:Int).toNat)]) (ee st rfl) (ee st rfl) GK d.bk rfl rfl (show 0+2≤2 by decide) (AN rfl) rfl) ?_;rintro _ bB f;have o:=m.gr f.gr 0 rfl;refine Ae<|Aa<|Ad<|Ab<|wd rfl (fun st=>Am (ee st rfl) (Hf _ _))<|wd rfl (fun st=>As (v:=.slice (some ⟨a,0,none⟩) ((List.replicate (6:Int).toNat false).length) ((6:Int).toNat)) Gs (ee st rfl) f.bk rfl)<|wm rfl (v:=I b) aQ ?_;replace j:=Br j;obtain⟨i7,bL,aM,aN,aA,j⟩:=j;have r:AB Bo 4 w.heap.size bB (ZZ FN [] Z w.heap.size [some aE,some a,some c,some t]) (some ⟨a,0,none⟩) ((6:Int).toNat) (List.replicate (6:Int).toNat false):=((a2.ext d.gr (Aw d)).gr f.gr (fun k aT=>m.ne 1 0 rfl (congrArg some aT) rfl) (m.AP f.gr 0 rfl));obtain⟨bM,bN,_,aO,rfl,bJ⟩:=Sl.EK r.all rfl aN;refine wd rfl (fun st=>BI (k:=i7) Tryz.underlying65 Kh (ee st rfl) aO (ee st rfl) aM aA) ?_;have aP:b.toNat=i7:=by rw[aM,Int.toNat_natCast]
 refine Bg rfl rfl (fun st=>F1 (k:=i7) (z':=true) (l:=[.bool true]) r aN aO rfl (ee st rfl) (ee st rfl) Kh rfl rfl (AN rfl) rfl) ?_;rintro _ a3 ⟨p,a4⟩;have s:=o.gr p 1 rfl;have aU:AB Bo 4 w.heap.size a3 (ZZ FN [] Z w.heap.size [some aE,some a,some c,some t]) (some ⟨a,0,none⟩) ((6:Int).toNat) ((List.replicate (6:Int).toNat false).set b.toNat true):=by rw[show(List.replicate (6:Int).toNat false).set b.toNat true=(List.replicate (6:Int).toNat false).set i7 true from congrArg (fun aV=>(List.replicate (6:Int).toNat false).set aV true) aP];exact F7 a4 (o.AP p 1 rfl)
 have bC:((List.replicate (6:Int).toNat false).set b.toNat true)[i7]?=some true:=by rw[show(List.replicate (6:Int).toNat false).set b.toNat true=(List.replicate (6:Int).toNat false).set i7 true from congrArg (fun aV=>(List.replicate (6:Int).toNat false).set aV true) aP];exact List.getElem?_set_self aA
 have bD:i7<((List.replicate (6:Int).toNat false).set b.toNat true).length:=by rw[List.length_set];exact aA
 have bE:(.slice (some ⟨a,0,none⟩) ((List.replicate (6:Int).toNat false).length) ((6:Int).toNat):Value)=.slice (some ⟨a,0,none⟩) (((List.replicate (6:Int).toNat false).set b.toNat true).length) ((6:Int).toNat):=by simp only[List.length_set]
 have bF:(.agg #[.slice (some ⟨c,0,none⟩) 2 2,.slice (some ⟨a,0,none⟩) ((List.replicate (6:Int).toNat false).length) ((6:Int).toNat)]:Value)=.agg #[.slice (some ⟨c,0,none⟩) 2 2,.slice (some ⟨a,0,none⟩) (((List.replicate (6:Int).toNat false).set b.toNat true).length) ((6:Int).toNat)]:=by simp only[List.length_set]
 have bG:(.slice (some ⟨a,0,none⟩) ((List.replicate (6:Int).toNat false).length) ((6:Int).toNat):Value)=.slice (some ⟨a,0,none⟩) (((List.replicate (6:Int).toNat false).set b.toNat true).length) ((6:Int).toNat):=by simp only[List.length_set]
 have aF:=(f.bk.gr p (o.ne 0 1 rfl rfl rfl));have aW:Bk a3 aE 78 #[.slice (some ⟨c,0,none⟩) 2 2,.slice (some ⟨a,0,none⟩) (((List.replicate (6:Int).toNat false).set b.toNat true).length) ((6:Int).toNat)]:=by have a5:=aF;simp only[List.length_set] at a5⊢;exact a5
 refine Ae<|Aa<|Ad<|Ab<|wd rfl (fun st=>Bd (l:=[.slice (some ⟨c,0,none⟩) 2 2,.slice (some ⟨a,0,none⟩) (((List.replicate (6:Int).toNat false).set b.toNat true).length) ((6:Int).toNat)]) FM (ee st rfl) aW rfl rfl) ?_;have aG:=(((((u.bk.ext q.gr).ext y).ext d.gr).gr f.gr (m.ne 3 0 rfl rfl rfl)).gr p (o.ne 3 1 rfl rfl rfl));refine Bg rfl rfl (fun st=>A8 (n:=2) (l:=[.slice (some ⟨c,0,none⟩) 2 2,.slice (some ⟨a,0,none⟩) (((List.replicate (6:Int).toNat false).set b.toNat true).length) ((6:Int).toNat)]) (B4:= #[.slice (some ⟨c,0,none⟩) 2 2,.slice (some ⟨a,0,none⟩) (((List.replicate (6:Int).toNat false).set b.toNat true).length) ((6:Int).toNat)]) (ee st rfl) (ee st rfl) GK aG rfl rfl (show 0+2≤2 by decide) (AN rfl) rfl) ?_;rintro _ a6 g;have aB:=s.gr g.gr 3 rfl;refine Ae<|Aa<|AF ?_;obtain rfl:=Option.some.inj j;refine FE (v:=.agg #[.slice (some ⟨c,0,none⟩) 2 2,.slice (some ⟨a,0,none⟩) (((List.replicate (6:Int).toNat false).set b.toNat true).length) ((6:Int).toNat)]) rfl rfl (CA FM g.bk rfl rfl) ?_;have aH:=(((((q.bk.ext y).ext d.gr).gr f.gr (m.ne 2 0 rfl rfl rfl)).gr p (o.ne 2 1 rfl rfl rfl)).gr g.gr (s.ne 2 3 rfl rfl rfl));have aC:AB Bo 4 w.heap.size a6 (ZZ FN [] Z w.heap.size [some aE,some a,some c,some t]) (some ⟨a,0,none⟩) ((6:Int).toNat) ((List.replicate (6:Int).toNat false).set b.toNat true):=(aU.gr g.gr (fun k aT=>s.ne 1 3 rfl (congrArg some aT) rfl) (s.AP g.gr 3 rfl));exact⟨aB.Bq,⟨_,rfl,_,_,_,_,rfl,FY (e:=(Ay .i64)) (xs:=[0,1]) (Be:=[[I 0],[I 1]]) aH (.inr ⟨aD,fun hm=>aB.Bv (F':=FN) (M:=[]) 2 rfl [] rfl trivial (fun _ h=>h.elim) (.inr hm)⟩) ⟨rfl,rfl,trivial⟩ rfl (Nat.le_refl _),aB.IJ (M:=[]) 1 rfl [] rfl trivial aC⟩⟩
theorem Vt(aX:Nat)(g:List Ar)(a:Ar)(e:Ar)(j:Option Addr)(m:Nat)(Z:Nat→Prop)(w:World)(y:Sl BY w Z j m g)(aI:Bool)(h:Gc aX g a e=some aI):
 BJ Tryz.prog 84 #[.slice j g.length m,.agg #[I a.On,I a.Bc,.bool a.AI],.agg #[I e.On,I e.Bc,.bool e.AI]] w (fun v w'=>Ext w w'∧BQ.R w' (ZZ FN [] Z w.heap.size []) v aI):=by
 unfold Gc at h;refine A3 (N:=24) Tryz.func84 rfl rfl (by simp) ?_;intro a0 z a2;have o:=AM (i:=0) (v:=.slice j g.length m) z rfl;have aG:=AM (i:=1) (v:=.agg #[I a.On,I a.Bc,.bool a.AI]) z rfl;have aH:=AM (i:=2) (v:=.agg #[I e.On,I e.Bc,.bool e.AI]) z rfl;clear z;have aA:Hp FN [] w [] w:=Hp.start (BK.none w);have u:=y.mv (Bn (Z:=Z) (L:=[]) w);refine Ad<|Ab<|we rfl (fun st=>BX (v:=.agg #[I a.On,I a.Bc,.bool a.AI]) (cs:= #[I a.On,I a.Bc,.bool a.AI]) (ee st aG) rfl) ?_;rintro _ w1 ⟨a3,rfl,s⟩;have aB:=aA.nb s;have aV:=aA.BE s;refine we rfl (fun st=>BX (v:=.agg #[I e.On,I e.Bc,.bool e.AI]) (cs:= #[I e.On,I e.Bc,.bool e.AI]) (ee st aH) rfl) ?_;rintro _ w2 ⟨a4,rfl,q⟩;have x:=aB.nb q;have aW:=aB.BE q;refine wa rfl (v:=.bool false) rfl<|Ae<|Aa<|Ad ?_;rcases Ap ((g.length:Int)==2) with d|d
 ·replace h:=AG h d;replace h:=Br h;obtain⟨i5,b,aC,aJ,aD,h⟩:=h;have p:=((u.mv (Aw s)).mv (Aw q));obtain⟨aK,aL,_,aE,rfl,aF⟩:=Sl.elem p (by decide) aJ;have t:=(s.bk.ext q.gr);rcases Ap (Ga [.inl b.On,.inl b.Bc,.inr b.AI] [.inl a.On,.inl a.Bc,.inr a.AI]) with f|f
  ·replace h:=AG h f;replace h:=Br h;obtain⟨i7,n,aM,aN,aO,h⟩:=h;obtain⟨aY,aZ,_,aP,rfl,aQ⟩:=Sl.elem p (by decide) aN;refine CI 15 [Kc (.slice j g.length m),Kc (I (g.length:Int)),Kc (.bool ((g.length:Int)==2)),Kc (.bool ((g.length:Int)==2)),Kc (.slice j g.length m),Kc (pt aK (aL+i5*3)),Kc (.agg #[I b.On,I b.Bc,.bool b.AI]),Kc (.agg #[I a.On,I a.Bc,.bool a.AI]),Kc (.bool (Ga [.inl b.On,.inl b.Bc,.inr b.AI] [.inl a.On,.inl a.Bc,.inr a.AI])),Kc (.bool (Ga [.inl b.On,.inl b.Bc,.inr b.AI] [.inl a.On,.inl a.Bc,.inr a.AI])),Kc (.bool (Ga [.inl b.On,.inl b.Bc,.inr b.AI] [.inl a.On,.inl a.Bc,.inr a.AI])),Kc (.slice j g.length m),Kc (pt aY (aZ+i7*3)),Kc (.agg #[I n.On,I n.Bc,.bool n.AI]),Kc (.agg #[I e.On,I e.Bc,.bool e.AI])] mixed rfl rfl
       (Ag (od rfl (fun _=>rfl) (fun K=>A5 (es ((K.out 0 rfl).trans o))))
       (Ag (od rfl (fun _=>rfl) (fun K=>BT Tryz.underlying70 (es (K.AD 0 7 rfl rfl))))
       (Ag (od rfl (fun _=>rfl) (fun K=>CT (es (K.AD 1 8 rfl rfl)) (ec (v:=I 2))))
       (Ag (od rfl (fun _=>rfl) (fun K=>A5 (es (K.AD 2 9 rfl rfl))))
       (Ag (BV rfl rfl rfl (fun _=>rfl) (fun a' w' ph K=>Af (K.AD 3 10 rfl rfl) d) (fun a' w' ph K=>A5 (es ((K.out 0 rfl).trans o))))
       (Ag (BV rfl rfl rfl (fun _=>rfl) (fun a' w' ph K=>Af (K.AD 3 10 rfl rfl) d) (fun a' w' ph K=>Ck (k:=i5) Tryz.underlying70 DR (es (K.AD 4 11 rfl rfl)) aE (ec (v:=I 0)) aC aD))
       (Ag (BV rfl rfl rfl (fun _=>rfl) (fun a' w' ph K=>Af (K.AD 3 10 rfl rfl) d) (fun a' w' ph K=>C3 (l:=[I b.On,I b.Bc,.bool b.AI]) Db (es (K.AD 5 12 rfl rfl)) (aF.mv (Ak K.Bj)) rfl rfl))
       (Ag (BV rfl rfl rfl (fun _=>rfl) (fun a' w' ph K=>Af (K.AD 3 10 rfl rfl) d) (fun a' w' ph K=>Bd (l:=[I a.On,I a.Bc,.bool a.AI]) Db (es ((K.out 4 rfl).trans rfl)) (t.ext K.Bj) rfl rfl))
       (Ag (BV rfl rfl rfl (fun _=>rfl) (fun a' w' ph K=>Af (K.AD 3 10 rfl rfl) d) (fun a' w' ph K=>OX (x1:=[.inl b.On,.inl b.Bc,.inr b.AI]) (x2:=[.inl a.On,.inl a.Bc,.inr a.AI]) Is I2 (es (K.AD 6 13 rfl rfl)) (es (K.AD 7 14 rfl rfl)) rfl rfl rfl rfl))
       (Ag (od rfl (fun _=>rfl) (fun K=>AZ (es (K.AD 3 10 rfl rfl)) d (es (K.AD 8 15 rfl rfl))))
       (Ag (od rfl (fun _=>rfl) (fun K=>A5 (es (K.AD 9 16 rfl rfl))))
       (Ag (BV rfl rfl rfl (fun _=>rfl) (fun a' w' ph K=>Af (K.AD 10 17 rfl rfl) f) (fun a' w' ph K=>A5 (es ((K.out 0 rfl).trans o))))
       (Ag (BV rfl rfl rfl (fun _=>rfl) (fun a' w' ph K=>Af (K.AD 10 17 rfl rfl) f) (fun a' w' ph K=>Ck (k:=i7) Tryz.underlying70 DR (es (K.AD 11 18 rfl rfl)) aP (ec (v:=I 1)) aM aO))
       (Ag (BV rfl rfl rfl (fun _=>rfl) (fun a' w' ph K=>Af (K.AD 10 17 rfl rfl) f) (fun a' w' ph K=>C3 (l:=[I n.On,I n.Bc,.bool n.AI]) Db (es (K.AD 12 19 rfl rfl)) (aQ.mv (Ak K.Bj)) rfl rfl))
       (Ag (BV rfl rfl rfl (fun _=>rfl) (fun a' w' ph K=>Af (K.AD 10 17 rfl rfl) f) (fun a' w' ph K=>Bd (l:=[I e.On,I e.Bc,.bool e.AI]) Db (es ((K.out 5 rfl).trans rfl)) (q.bk.ext K.Bj) rfl rfl))
       (B7 _)))))))))))))))) ?_
   intro aR;rintro _ rfl _ rfl _ rfl _ rfl _ rfl _ rfl _ rfl _ rfl _ rfl _ rfl _ rfl _ rfl _ rfl _ rfl _ rfl r;have aS:=x.ext r;refine Au rfl rfl (Af rfl f) rfl (by decide) (fun st=>OX (x1:=[.inl n.On,.inl n.Bc,.inr n.AI]) (x2:=[.inl e.On,.inl e.Bc,.inr e.AI]) Is I2 (ee st rfl) (ee st rfl) rfl rfl rfl rfl)<|wd rfl (fun st=>AZ (v:=.bool (Ga [.inl n.On,.inl n.Bc,.inr n.AI] [.inl e.On,.inl e.Bc,.inr e.AI])) (ee st rfl) f (ee st rfl))<|wa rfl (v:=.bool (Ga [.inl n.On,.inl n.Bc,.inr n.AI] [.inl e.On,.inl e.Bc,.inr e.AI])) rfl<|Ae<|Aa<|AF ?_;obtain rfl:=Option.some.inj h;refine AR rfl rfl ?_;exact⟨aS.Bq,rfl⟩
  ·replace h:=AH h f;refine CI 15 [Kc (.slice j g.length m),Kc (I (g.length:Int)),Kc (.bool ((g.length:Int)==2)),Kc (.bool ((g.length:Int)==2)),Kc (.slice j g.length m),Kc (pt aK (aL+i5*3)),Kc (.agg #[I b.On,I b.Bc,.bool b.AI]),Kc (.agg #[I a.On,I a.Bc,.bool a.AI]),Kc (.bool (Ga [.inl b.On,.inl b.Bc,.inr b.AI] [.inl a.On,.inl a.Bc,.inr a.AI])),Kc (.bool (Ga [.inl b.On,.inl b.Bc,.inr b.AI] [.inl a.On,.inl a.Bc,.inr a.AI])),Kc (.bool (Ga [.inl b.On,.inl b.Bc,.inr b.AI] [.inl a.On,.inl a.Bc,.inr a.AI])),Kc undef,Kc undef,Kc undef,Kc undef] mixed rfl rfl
       (Ag (od rfl (fun _=>rfl) (fun K=>A5 (es ((K.out 0 rfl).trans o))))
       (Ag (od rfl (fun _=>rfl) (fun K=>BT Tryz.underlying70 (es (K.AD 0 7 rfl rfl))))
       (Ag (od rfl (fun _=>rfl) (fun K=>CT (es (K.AD 1 8 rfl rfl)) (ec (v:=I 2))))
       (Ag (od rfl (fun _=>rfl) (fun K=>A5 (es (K.AD 2 9 rfl rfl))))
       (Ag (BV rfl rfl rfl (fun _=>rfl) (fun a' w' ph K=>Af (K.AD 3 10 rfl rfl) d) (fun a' w' ph K=>A5 (es ((K.out 0 rfl).trans o))))
       (Ag (BV rfl rfl rfl (fun _=>rfl) (fun a' w' ph K=>Af (K.AD 3 10 rfl rfl) d) (fun a' w' ph K=>Ck (k:=i5) Tryz.underlying70 DR (es (K.AD 4 11 rfl rfl)) aE (ec (v:=I 0)) aC aD))
       (Ag (BV rfl rfl rfl (fun _=>rfl) (fun a' w' ph K=>Af (K.AD 3 10 rfl rfl) d) (fun a' w' ph K=>C3 (l:=[I b.On,I b.Bc,.bool b.AI]) Db (es (K.AD 5 12 rfl rfl)) (aF.mv (Ak K.Bj)) rfl rfl))
       (Ag (BV rfl rfl rfl (fun _=>rfl) (fun a' w' ph K=>Af (K.AD 3 10 rfl rfl) d) (fun a' w' ph K=>Bd (l:=[I a.On,I a.Bc,.bool a.AI]) Db (es ((K.out 4 rfl).trans rfl)) (t.ext K.Bj) rfl rfl))
       (Ag (BV rfl rfl rfl (fun _=>rfl) (fun a' w' ph K=>Af (K.AD 3 10 rfl rfl) d) (fun a' w' ph K=>OX (x1:=[.inl b.On,.inl b.Bc,.inr b.AI]) (x2:=[.inl a.On,.inl a.Bc,.inr a.AI]) Is I2 (es (K.AD 6 13 rfl rfl)) (es (K.AD 7 14 rfl rfl)) rfl rfl rfl rfl))
       (Ag (od rfl (fun _=>rfl) (fun K=>AZ (es (K.AD 3 10 rfl rfl)) d (es (K.AD 8 15 rfl rfl))))
       (Ag (od rfl (fun _=>rfl) (fun K=>A5 (es (K.AD 9 16 rfl rfl))))
       (Ag (Eb (c:=false) rfl rfl rfl (by decide) (fun a' w' ph K=>Af (K.AD 10 17 rfl rfl) f) (fun _=>rfl))
       (Ag (Eb (c:=false) rfl rfl rfl (by decide) (fun a' w' ph K=>Af (K.AD 10 17 rfl rfl) f) (fun _=>rfl))
       (Ag (Eb (c:=false) rfl rfl rfl (by decide) (fun a' w' ph K=>Af (K.AD 10 17 rfl rfl) f) (fun _=>rfl))
       (Ag (Eb (c:=false) rfl rfl rfl (by decide) (fun a' w' ph K=>Af (K.AD 10 17 rfl rfl) f) (fun _=>rfl))
       (B7 _)))))))))))))))) ?_
   intro aR;rintro _ rfl _ rfl _ rfl _ rfl _ rfl _ rfl _ rfl _ rfl _ rfl _ rfl _ rfl _ rfl _ rfl _ rfl _ rfl r;have aT:=x.ext r;refine Ai (c:=false) rfl rfl (Af rfl f) (by decide) rfl (by decide)<|wd rfl (fun st=>Bu (v:=.bool false) (ee st rfl) f (ee st rfl))<|wa rfl (v:=.bool false) rfl<|Ae<|Aa<|AF ?_;obtain rfl:=Option.some.inj h;refine AR rfl rfl ?_;exact⟨aT.Bq,rfl⟩
 ·replace h:=AH h d;refine CI 15 [Kc (.slice j g.length m),Kc (I (g.length:Int)),Kc (.bool ((g.length:Int)==2)),Kc (.bool ((g.length:Int)==2)),Kc undef,Kc undef,Kc undef,Kc undef,Kc undef,Kc (.bool false),Kc (.bool false),Kc undef,Kc undef,Kc undef,Kc undef] mixed rfl rfl
      (Ag (od rfl (fun _=>rfl) (fun K=>A5 (es ((K.out 0 rfl).trans o))))
      (Ag (od rfl (fun _=>rfl) (fun K=>BT Tryz.underlying70 (es (K.AD 0 7 rfl rfl))))
      (Ag (od rfl (fun _=>rfl) (fun K=>CT (es (K.AD 1 8 rfl rfl)) (ec (v:=I 2))))
      (Ag (od rfl (fun _=>rfl) (fun K=>A5 (es (K.AD 2 9 rfl rfl))))
      (Ag (Eb (c:=false) rfl rfl rfl (by decide) (fun a' w' ph K=>Af (K.AD 3 10 rfl rfl) d) (fun _=>rfl))
      (Ag (Eb (c:=false) rfl rfl rfl (by decide) (fun a' w' ph K=>Af (K.AD 3 10 rfl rfl) d) (fun _=>rfl))
      (Ag (Eb (c:=false) rfl rfl rfl (by decide) (fun a' w' ph K=>Af (K.AD 3 10 rfl rfl) d) (fun _=>rfl))
      (Ag (Eb (c:=false) rfl rfl rfl (by decide) (fun a' w' ph K=>Af (K.AD 3 10 rfl rfl) d) (fun _=>rfl))
      (Ag (Eb (c:=false) rfl rfl rfl (by decide) (fun a' w' ph K=>Af (K.AD 3 10 rfl rfl) d) (fun _=>rfl))
      (Ag (od rfl (fun _=>rfl) (fun K=>Bu (es (K.AD 3 10 rfl rfl)) d (ec (v:=.bool false))))
      (Ag (od rfl (fun _=>rfl) (fun K=>A5 (es (K.AD 9 16 rfl rfl))))
      (Ag (Eb (c:=false) rfl rfl rfl (by decide) (fun a' w' ph K=>(show sl a' 17=.bool false from K.AD 10 17 rfl rfl)) (fun _=>rfl))
      (Ag (Eb (c:=false) rfl rfl rfl (by decide) (fun a' w' ph K=>(show sl a' 17=.bool false from K.AD 10 17 rfl rfl)) (fun _=>rfl))
      (Ag (Eb (c:=false) rfl rfl rfl (by decide) (fun a' w' ph K=>(show sl a' 17=.bool false from K.AD 10 17 rfl rfl)) (fun _=>rfl))
      (Ag (Eb (c:=false) rfl rfl rfl (by decide) (fun a' w' ph K=>(show sl a' 17=.bool false from K.AD 10 17 rfl rfl)) (fun _=>rfl))
      (B7 _)))))))))))))))) ?_
  intro aR;rintro _ rfl _ rfl _ rfl _ rfl _ rfl _ rfl _ rfl _ rfl _ rfl _ rfl _ rfl _ rfl _ rfl _ rfl _ rfl r;have aU:=x.ext r;refine Ai rfl rfl rfl (by decide) rfl (by decide)<|wd rfl (fun st=>Bu (v:=.bool false) (ee st rfl) rfl (ee st rfl))<|wa rfl (v:=.bool false) rfl<|Ae<|Aa<|AF ?_;obtain rfl:=Option.some.inj h;refine AR rfl rfl ?_;exact⟨aU.Bq,rfl⟩
theorem Vu(s:Nat)(a:Cv)(Z:Nat→Prop)(w:World)(j:Cv)(k:Gv s a=some j):
 BJ Tryz.prog 88 #[.agg #[I a.Lo,I a.Hi]] w (fun v w'=>Ext w w'∧(C5 Ob).R w' (ZZ FN [] Z w.heap.size []) v j):=by
 unfold Gv at k;refine A3 (N:=8) Tryz.func88 rfl rfl (by simp) ?_;intro t m u;have h:=AM (i:=0) (v:=.agg #[I a.Lo,I a.Hi]) m rfl;clear m;have e:Hp FN [] w [] w:=Hp.start (BK.none w);refine Ad<|Ab<|we rfl (fun st=>BX (v:=.agg #[I a.Lo,I a.Hi]) (cs:= #[I a.Lo,I a.Hi]) (ee st h) rfl) ?_;rintro _ w1 ⟨x,rfl,d⟩;have f:=e.nb d;have q:=e.BE d;refine we rfl (fun st=>BF (cs:= #[I 0,I 0]) QZ rfl) ?_;rintro _ w2 ⟨y,rfl,b⟩;have o:=f.nb b;have r:=f.BE b;refine Ae<|Aa<|Ad<|Ab<|wd rfl (fun st=>Am (ee st rfl) (Iq _ _)) ?_;have c:=(d.bk.ext b.gr);refine wd rfl (fun st=>As (v:=I a.Lo) AW (ee st rfl) c rfl)<|wd rfl (fun st=>Am (ee st rfl) (Jw _ _))<|wd rfl (fun st=>As (v:=I a.Hi) AW (ee st rfl) c rfl)<|wd rfl (fun st=>CR (vs:= #[(0,I a.Lo),(1,I a.Hi)]) (v:=.agg #[I a.Lo,I a.Hi]) (H9 (ee st rfl) (ee st rfl)) (by kernel_rfl))<|Bg rfl rfl (fun st=>A8 (n:=2) (l:=[I a.Lo,I a.Hi]) (B4:= #[I a.Lo,I a.Hi]) (ee st rfl) (ee st rfl) TE b.bk rfl rfl (show 0+2≤2 by decide) (AN rfl) rfl) ?_;rintro _ z g;have p:=o.gr g.gr 0 rfl;refine Ae<|Aa<|AF ?_;obtain rfl:=Option.some.inj k;refine FE (v:=.agg #[I a.Lo,I a.Hi]) rfl rfl (CA Kz g.bk rfl rfl) ?_;exact⟨p.Bq,⟨_,rfl,rfl⟩⟩
theorem a31(bS:Nat)(a:Ao)(p:Option Addr)(q:Nat)(Z:Nat→Prop)(w:World)(bT:Sl AJ w Z p q a.Ac)(cJ:Ao)(m:ED bS a=some cJ):
 BJ Tryz.prog 31 #[.agg #[I a.Aj,I a.Ah,I a.An,I a.Av,.slice p a.Ac.length q]] w (fun v w'=>Ext w w'∧(C5 Hn).R w' (ZZ FN [] Z w.heap.size []) v cJ):=by
 unfold ED at m;refine A3 (N:=43) Tryz.func31 rfl rfl (by simp) ?_;intro c5 cK c6;have b6:=AM (i:=0) (v:=.agg #[I a.Aj,I a.Ah,I a.An,I a.Av,.slice p a.Ac.length q]) cK rfl;clear cK;have b1:Hp FN [] w [] w:=Hp.start (BK.none w);have bE:=bT.mv (Bn (Z:=Z) (L:=[]) w);refine Ad<|Ab<|we rfl (fun st=>BX (v:=.agg #[I a.Aj,I a.Ah,I a.An,I a.Av,.slice p a.Ac.length q]) (cs:= #[I a.Aj,I a.Ah,I a.An,I a.Av,.slice p a.Ac.length q]) (ee st b6) rfl) ?_;rintro _ w1 ⟨x,rfl,bA⟩;have b2:=b1.nb bA;have c0:=b1.BE bA;refine we rfl (fun st=>BF (cs:= #[I 0,I 0,I 0,I 0,.slice none 0 0]) LW rfl) ?_;rintro _ w2 ⟨t,rfl,aX⟩;have b3:=b2.nb aX;have c1:=b2.BE aX;refine Ae<|Aa<|Ad<|Ab<|wd rfl (fun st=>Am (ee st rfl) (FF _ _)) ?_;have aD:=(bA.bk.ext aX.gr);refine wd rfl (fun st=>As (v:=I a.Aj) AW (ee st rfl) aD rfl)<|wd rfl (fun st=>Am (ee st rfl) (I1 _ _))<|wd rfl (fun st=>As (v:=I a.Ah) AW (ee st rfl) aD rfl)<|wd rfl (fun st=>Am (ee st rfl) (Ky _ _))<|wd rfl (fun st=>As (v:=I a.An) AW (ee st rfl) aD rfl)<|wd rfl (fun st=>Am (ee st rfl) (Kx _ _))<|wd rfl (fun st=>As (v:=I a.Av) AW (ee st rfl) aD rfl)<|wd rfl (fun st=>CR (vs:= #[(0,I a.Aj),(1,I a.Ah),(2,I a.An),(3,I a.Av)]) (v:=.agg #[I a.Aj,I a.Ah,I a.An,I a.Av,.slice none 0 0]) (SZ (ee st rfl) (ee st rfl) (ee st rfl) (ee st rfl)) (by kernel_rfl))<|we rfl (fun st=>BF (cs:= #[I 0,I 0,I 0,I 0,.slice none 0 0]) LW rfl) ?_;rintro _ dB ⟨s,rfl,aQ⟩;have bB:=b3.nb aQ;have c2:=b3.BE aQ;refine Bg rfl rfl (fun st=>A8 (n:=5) (l:=[I a.Aj,I a.Ah,I a.An,I a.Av,.slice none 0 0]) (B4:= #[I a.Aj,I a.Ah,I a.An,I a.Av,.slice none 0 0]) (ee st rfl) (ee st rfl) Pn aQ.bk rfl rfl (show 0+5≤5 by decide) (AN rfl) rfl) ?_;rintro _ b7 aY;have cL:=bB.gr aY.gr 0 rfl;refine Ae<|Aa<|Ad<|Ad<|Ab<|wa rfl (v:=I 0) rfl<|Ae<|Aa<|Ba ?_;have cM:Hp FN [] w [none,some s,some t,some x] b7:=cL.nil;have cN:AB AJ 156 w.heap.size b7 (ZZ FN [] Z w.heap.size [none,some s,some t,some x]) none 0 ([]:List AX):=AB.nil _ _ _ _ _;replace m:=bind_some m;obtain⟨z5,aR,m⟩:=m;refine Co (fun cO z aJ=>(cO=.exit 0∧∃c g,z.tmps.size=43∧z.defers=(X0).ds∧sl z 2=pt t 0∧sl z 3=pt s 0∧Hp FN [] w [ob c,some s,some t,some x] aJ∧AB AJ 156 w.heap.size aJ (ZZ FN [] Z w.heap.size [ob c,some s,some t,some x]) c g z5∧Bk aJ t 75 #[I 0,I 0,I 0,I 0,.slice none 0 0]∧Bk aJ s 75 #[I a.Aj,I a.Ah,I a.An,I a.Av,.slice c z5.length g])) ?cP ?cQ
 case cP=>
  clear m;refine Cn (fun(b8:Nat) (z:Act) (aJ:World)=>∃y,∃j,∃f o,DB bS a b8 y j=some z5∧z.tmps.size=43∧z.defers=(X0).ds∧sl z 1=pt x 0∧sl z 2=pt t 0∧sl z 3=pt s 0∧sl z 4=I y∧Hp FN [] w [ob f,some s,some t,some x] aJ∧AB AJ 156 w.heap.size aJ (ZZ FN [] Z w.heap.size [ob f,some s,some t,some x]) f o j∧Bk aJ x 63 #[I a.Aj,I a.Ah,I a.An,I a.Av,.slice p a.Ac.length q]∧Bk aJ t 75 #[I 0,I 0,I 0,I 0,.slice none 0 0]∧Bk aJ s 75 #[I a.Aj,I a.Ah,I a.An,I a.Av,.slice f j.length o]∧Sl AJ aJ (ZZ FN [] Z w.heap.size [ob f,some s,some t,some x]) p q a.Ac) bS ?cR ?cS
  case cR=>
   intro st;have bU:=((aD.ext aQ.gr).gr aY.gr (bB.ne 2 0 rfl rfl rfl));have bV:=((aX.bk.ext aQ.gr).gr aY.gr (bB.ne 1 0 rfl rfl rfl));have bW:=aY.bk;have bF:Sl AJ b7 (ZZ FN [] Z w.heap.size [none,some s,some t,some x]) p q a.Ac:=(((((bE.mv (Aw bA)).mv (Aw aX)).mv (Aw aQ)).mv (bB.AP aY.gr 0 rfl)).mv B0);exact⟨(0:Int),([]:List AX),none,0,aR,qz st,qd st,sp st 1 rfl,sp st 2 rfl,sp st 3 rfl,sp st 4 rfl,cM,cN,bU,bV,bW,bF⟩
  case cS=>
   rintro(_|b8) c7 c8 ⟨y,j,f,o,aR,b9,cA,aS,bC,aI,aT,bH,aE,aK,aZ,a0,aL⟩
   ·exact absurd (show none=some _ from aR) (by simp)
   rw[DB.eq_2] at aR;have m:=aR;clear aR;refine B5 (N:=43) b9 cA<|Ad<|Ad<|Ab<|wm rfl (v:=I y) aT<|wd rfl (fun st=>Am (ee st aS) (EG _ _))<|wd rfl (fun st=>As (v:=.slice p a.Ac.length q) FA (ee st rfl) aK rfl)<|wd rfl (fun st=>BT Tryz.underlying61 (ee st rfl))<|wd rfl (fun st=>CB (ee st rfl) (ee st rfl))<|Ae<|Aa ?_;rcases Ap (decide (y<(a.Ac.length:Int))) with a2|a2
   ·replace m:=AG m a2;refine Az rfl a2<|AV<|Aa<|Ad<|Ba<|Ad<|Ab<|wd rfl (fun st=>Am (ee st aS) (EG _ _))<|wd rfl (fun st=>As (v:=.slice p a.Ac.length q) FA (ee st rfl) aK rfl)<|wm rfl (v:=I y) aT ?_;replace m:=Br m;obtain⟨i8,b,cT,cU,cV,m⟩:=m;obtain⟨dC,dD,_,cW,rfl,cX⟩:=Sl.elem aL (by decide) cU;refine wd rfl (fun st=>Ck (k:=i8) Tryz.underlying61 HM (ee st rfl) cW (ee st rfl) cT cV)<|wd rfl (fun st=>C3 (l:=[I b.Aq,I b.AA,I b.AI,I b.B3,I b.Ci]) Oo (ee st rfl) cX rfl rfl)<|we rfl (fun st=>BF (cs:= #[I 0,I 0,I 0,I 0,I 0]) Ny rfl) ?_;rintro _ dE ⟨aU,rfl,aF⟩;have aM:=bH.nb aF;have c3:=bH.BE aF;refine Bg rfl rfl (fun st=>A8 (n:=5) (l:=[I b.Aq,I b.AA,I b.AI,I b.B3,I b.Ci]) (B4:= #[I b.Aq,I b.AA,I b.AI,I b.B3,I b.Ci]) (ee st rfl) (ee st rfl) HM aF.bk rfl rfl (show 0+5≤5 by decide) (AN rfl) rfl) ?_;rintro _ c9 r;have b4:=aM.gr r.gr 0 rfl;refine Ae<|Aa ?_;have bD:=((a0.ext aF.gr).gr r.gr (aM.ne 2 0 rfl rfl rfl));replace m:=bind_some m;obtain⟨d,cB,m⟩:=m;refine CI 13 [Kc (pt s 4),Kc (.slice f j.length o),Kc (pt aU 0),Kc (.agg #[I b.Aq,I b.AA]),Kc (.agg #[I d.Lo,I d.Hi]),Kc (pt aU 2),Kc (I b.AI),Kc (pt aU 3),Kc (I b.B3),Kc (pt aU 4),Kc (I b.Ci),Kc (.agg #[I d.Lo,I d.Hi,I b.AI,I b.B3,I b.Ci]),Kv (E0 AJ) (ZZ FN [] Z w.heap.size [some aU,ob f,some s,some t,some x]) [(⟨d.Lo,d.Hi,b.AI,b.B3,b.Ci⟩:AX)]] mixed rfl rfl
        (Ag (od rfl (fun _=>rfl) (fun K=>Am (es ((K.out 3 rfl).trans aI)) (CS _ _)))
        (Ag (od rfl (fun _=>rfl) (fun K=>As De (es (K.AD 0 27 rfl rfl)) (bD.ext K.Bj) rfl))
        (Ag (od rfl (fun _=>rfl) (fun K=>Am (es ((K.out 5 rfl).trans rfl)) (Ir _ _)))
        (Ag (od rfl (fun _=>rfl) (fun K=>Bd (l:=[I b.Aq,I b.AA]) I0 (es (K.AD 2 29 rfl rfl)) (r.bk.ext K.Bj) rfl rfl))
        (Ag (DP rfl rfl (fun a' w' ph K=>(AO TF rfl (CD (es (K.AD 3 30 rfl rfl))) (Vu bS (⟨b.Aq,b.AA⟩:Cv) ZA _ d cB)).mono (fun _ _ h=>⟨(by obtain⟨_,rfl,rfl⟩:=h.2;rfl),h.1⟩)))
        (Ag (od rfl (fun _=>rfl) (fun K=>Am (es ((K.out 5 rfl).trans rfl)) (Nz _ _)))
        (Ag (od rfl (fun _=>rfl) (fun K=>As AW (es (K.AD 5 32 rfl rfl)) (r.bk.ext K.Bj) rfl))
        (Ag (od rfl (fun _=>rfl) (fun K=>Am (es ((K.out 5 rfl).trans rfl)) (NA _ _)))
        (Ag (od rfl (fun _=>rfl) (fun K=>As AW (es (K.AD 7 34 rfl rfl)) (r.bk.ext K.Bj) rfl))
        (Ag (od rfl (fun _=>rfl) (fun K=>Am (es ((K.out 5 rfl).trans rfl)) (NB _ _)))
        (Ag (od rfl (fun _=>rfl) (fun K=>As AW (es (K.AD 9 36 rfl rfl)) (r.bk.ext K.Bj) rfl))
        (Ag (od rfl (fun _=>rfl) (fun K=>CR (vs:= #[(0,.agg #[I d.Lo,I d.Hi]),(1,I b.AI),(2,I b.B3),(3,I b.Ci)]) (v:=.agg #[I d.Lo,I d.Hi,I b.AI,I b.B3,I b.Ci]) (SZ (es (K.AD 4 31 rfl rfl)) (es (K.AD 6 33 rfl rfl)) (es (K.AD 8 35 rfl rfl)) (es (K.AD 10 37 rfl rfl))) (by kernel_rfl)))
        (Ag (DP rfl rfl (fun a' w' ph K=>(BH (e:=156) (vs:= #[(0,.agg #[I d.Lo,I d.Hi,I b.AI,I b.B3,I b.Ci])]) (cs:= #[I d.Lo,I d.Hi,I b.AI,I b.B3,I b.Ci]) (Hb (es (K.AD 11 38 rfl rfl))) (by kernel_rfl)).mono (fun u Bm ⟨dF,hu,bX⟩=>⟨⟨_,_,hu,FY (xs:=[(⟨d.Lo,d.Hi,b.AI,b.B3,b.Ci⟩:AX)]) (Be:=[[I d.Lo,I d.Hi,I b.AI,I b.B3,I b.Ci]]) bX.bk ((b4.ext K.Bj).kn (Nat.le_of_eq bX.Ey.symm)) (R2.mv (Ak bX.gr) (show R2 AJ w' (ZZ FN [] Z w.heap.size [some aU,ob f,some s,some t,some x]) [[I d.Lo,I d.Hi,I b.AI,I b.B3,I b.Ci]] [(⟨d.Lo,d.Hi,b.AI,b.B3,b.Ci⟩:AX)] from⟨rfl,trivial⟩)) rfl (Nat.le_refl _)⟩,bX.gr⟩)))
        (B7 _)))))))))))))) ?_
    intro cY;rintro _ rfl _ rfl _ rfl _ rfl _ rfl _ rfl _ rfl _ rfl _ rfl _ rfl _ rfl _ rfl _ ⟨cH,cI,rfl,a6⟩ aB;have aN:=b4.ext aB;have a3:AB AJ 156 w.heap.size cY (ZZ FN [] Z w.heap.size [some aU,ob f,some s,some t,some x]) f o j:=(((aE.ext aF.gr (Aw aF)).gr r.gr (fun k aV=>aM.ne 1 0 rfl (congrArg some aV) rfl) (aM.AP r.gr 0 rfl)).ext aB (Ak aB));replace m:=CU m;obtain⟨bI,m⟩:=m;refine we rfl (fun st=>GM (ys:=[(⟨d.Lo,d.Hi,b.AI,b.B3,b.Ci⟩:AX)]) Tryz.underlying73 Q0 rfl rfl (by decide) (ee st rfl) rfl (ee st rfl) a3 a6.n (by have:=bI;simp only[maxLen];omega) (by have:=bI;omega) aN.sz) ?_;rintro _ b5 ⟨aA,a4,rfl,aG,a7,cC⟩;have aH:Hp FN [] w [some aU,ob aA,some s,some t,some x] b5:=aN.row aG 1 rfl a7;have cD:AB AJ 156 w.heap.size b5 (ZZ FN [] Z w.heap.size [some aU,ob aA,some s,some t,some x]) aA a4 (j++[(⟨d.Lo,d.Hi,b.AI,b.B3,b.Ci⟩:AX)]):=Fq cC (aN.D1 aG 1 rfl (fun k aV=>(a7 k aV).1));refine wd rfl (fun st=>Am (ee st aI) (CS _ _)) ?_;have bJ:=((bD.ext aB).gr aG (aN.ne 2 1 rfl rfl rfl));refine Bg rfl rfl (fun st=>A8 (n:=1) (l:=[.slice aA ((j++[(⟨d.Lo,d.Hi,b.AI,b.B3,b.Ci⟩:AX)]).length) a4]) (B4:= #[I a.Aj,I a.Ah,I a.An,I a.Av,.slice aA ((j++[(⟨d.Lo,d.Hi,b.AI,b.B3,b.Ci⟩:AX)]).length) a4]) (ee st rfl) (ee st rfl) UG bJ rfl rfl (show 4+1≤5 by decide) (AN rfl) rfl) ?_;rintro _ bK aC;have cE:=aH.gr aC.gr 2 rfl;refine Ae<|Bp<|Aa<|Ab<|wm rfl (v:=I y) aT ?_;replace m:=AU m;obtain⟨cF,m⟩:=m;refine wd rfl (fun st=>By (ee st rfl) (ee st rfl) cF)<|wa rfl (v:=I (y+1)) rfl<|Ae ?_;have cG:Hp FN [] w [ob aA,some s,some t,some x] bK:=cE.erase 0;have bG:AB AJ 156 w.heap.size bK (ZZ FN [] Z w.heap.size [ob aA,some s,some t,some x]) aA a4 (j++[(⟨d.Lo,d.Hi,b.AI,b.B3,b.Ci⟩:AX)]):=((cD.gr aC.gr (fun k aV=>aH.ne 1 2 rfl (congrArg some aV) rfl) (aH.AP aC.gr 2 rfl)).up (AK 0));have bL:=(((((aK.ext aF.gr).gr r.gr (aM.ne 4 0 rfl rfl rfl)).ext aB).gr aG (aN.ne 4 1 rfl rfl rfl)).gr aC.gr (aH.ne 4 2 rfl rfl rfl));have bM:=(((((aZ.ext aF.gr).gr r.gr (aM.ne 3 0 rfl rfl rfl)).ext aB).gr aG (aN.ne 3 1 rfl rfl rfl)).gr aC.gr (aH.ne 3 2 rfl rfl rfl));have bN:=aC.bk;have a8:Sl AJ bK (ZZ FN [] Z w.heap.size [ob aA,some s,some t,some x]) p q a.Ac:=((((((aL.mv (Aw aF)).mv (aM.AP r.gr 0 rfl)).mv (Ak aB)).mv (aN.D1 aG 1 rfl (fun k aV=>(a7 k aV).1))).mv (aH.AP aC.gr 2 rfl)).mv (AK 0));refine Bx b8 (Nat.lt_succ_self _) (fun st=>?_);exact⟨(y+1),(j++[(⟨d.Lo,d.Hi,b.AI,b.B3,b.Ci⟩:AX)]),aA,a4,m,qz st,qd st,sp st 1 aS,sp st 2 bC,sp st 3 aI,sp st 4 rfl,cG,bG,bL,bM,bN,a8⟩
   ·replace m:=AH m a2;refine AL rfl a2<|Cj<|AQ<|AQ ?_;obtain rfl:=Option.some.inj m;refine BZ (fun st=>?_);exact⟨rfl,f,o,qz st,qd st,sp st 2 bC,sp st 3 aI,bH,aE,aZ,a0⟩
 case cQ=>
  rintro cO c4 dA (⟨rfl,c,g,bY,bZ,a5,bO,a9,aO,bP,bQ⟩);refine Cq (X:=X0) (N:=43) bY bZ<|Bt<|Aa<|Ad<|Ab<|wd rfl (fun st=>Bd (l:=[I a.Aj,I a.Ah,I a.An,I a.Av,.slice c z5.length g]) CH (ee st bO) bQ rfl rfl)<|Bg rfl rfl (fun st=>A8 (n:=5) (l:=[I a.Aj,I a.Ah,I a.An,I a.Av,.slice c z5.length g]) (B4:= #[I a.Aj,I a.Ah,I a.An,I a.Av,.slice c z5.length g]) (ee st a5) (ee st rfl) Pn bP rfl rfl (show 0+5≤5 by decide) (AN rfl) rfl) ?_;rintro _ cZ aW;have bR:=a9.gr aW.gr 2 rfl;refine Ae<|Aa<|AF ?_;obtain rfl:=Option.some.inj m;refine FE (v:=.agg #[I a.Aj,I a.Ah,I a.An,I a.Av,.slice c z5.length g]) rfl a5 (CA CH aW.bk rfl rfl) ?_;have aP:AB AJ 156 w.heap.size cZ (ZZ FN [] Z w.heap.size [ob c,some s,some t,some x]) c g z5:=(aO.gr aW.gr (fun k aV=>a9.ne 0 2 rfl (congrArg some aV) rfl) (a9.AP aW.gr 2 rfl));exact⟨bR.Bq,⟨_,rfl,_,_,rfl,bR.IJ (M:=[]) 0 rfl [] rfl trivial aP⟩⟩
theorem Vv(m:Nat)(a:Ao)(b:Option Addr)(c:Nat)(Z:Nat→Prop)(w:World)(h:Sl AJ w Z b c a.Ac)(n:Int)(e:E5 m a=some n):
 BJ Tryz.prog 34 #[.agg #[I a.Aj,I a.Ah,I a.An,I a.Av,.slice b a.Ac.length c]] w (fun v w'=>Ext w w'∧(Fi .i64).R w' (ZZ FN [] Z w.heap.size []) v n):=by
 unfold E5 at e;refine A3 (N:=5) Tryz.func34 rfl rfl (by simp) ?_;intro u o x;have k:=AM (i:=0) (v:=.agg #[I a.Aj,I a.Ah,I a.An,I a.Av,.slice b a.Ac.length c]) o rfl;clear o;have j:Hp FN [] w [] w:=Hp.start (BK.none w);have f:=h.mv (Bn (Z:=Z) (L:=[]) w);refine Ad<|Ab<|we rfl (fun st=>BX (v:=.agg #[I a.Aj,I a.Ah,I a.An,I a.Av,.slice b a.Ac.length c]) (cs:= #[I a.Aj,I a.Ah,I a.An,I a.Av,.slice b a.Ac.length c]) (ee st k) rfl) ?_;rintro _ w1 ⟨y,rfl,d⟩;have p:=j.nb d;have t:=j.BE d;refine wa rfl (v:=I 0) rfl<|Ae<|Aa<|Ad<|Ab<|wd rfl (fun st=>Bd (l:=[I a.Aj,I a.Ah,I a.An,I a.Av,.slice b a.Ac.length c]) Fz (ee st rfl) d.bk rfl rfl) ?_;have g:=(f.mv (Aw d));replace e:=bind_some e;obtain⟨r2,q,e⟩:=e;refine we rfl (fun st=>AO P9 (ee st rfl) (CD (ee st rfl)) (US m a b c ZA _ g.all r2 q)) ?_;rintro _ z ⟨r,rfl⟩;have s:=p.ext r;refine wa rfl (v:=I r2) rfl<|Ae<|Aa<|AF ?_;obtain rfl:=Option.some.inj e;refine AR rfl rfl ?_;exact⟨s.Bq,rfl⟩
theorem Vw(u:Nat)(a:Ao)(d:Option Addr)(e:Nat)(Z:Nat→Prop)(w:World)(o:Sl AJ w Z d e a.Ac)(z:Bool)(f:Fk u a=some z):
 BJ Tryz.prog 27 #[.agg #[I a.Aj,I a.Ah,I a.An,I a.Av,.slice d a.Ac.length e]] w (fun v w'=>Ext w w'∧BQ.R w' (ZZ FN [] Z w.heap.size []) v z):=by
 unfold Fk at f;refine A3 (N:=17) Tryz.func27 rfl rfl (by simp) ?_;intro aG aA aH;have x:=AM (i:=0) (v:=.agg #[I a.Aj,I a.Ah,I a.An,I a.Av,.slice d a.Ac.length e]) aA rfl;clear aA;have r:Hp FN [] w [] w:=Hp.start (BK.none w);have k:=o.mv (Bn (Z:=Z) (L:=[]) w);refine Ad<|Ab<|we rfl (fun st=>BX (v:=.agg #[I a.Aj,I a.Ah,I a.An,I a.Av,.slice d a.Ac.length e]) (cs:= #[I a.Aj,I a.Ah,I a.An,I a.Av,.slice d a.Ac.length e]) (ee st x) rfl) ?_;rintro _ w1 ⟨aI,rfl,h⟩;have s:=r.nb h;have aF:=r.BE h;refine wa rfl (v:=.bool false) rfl<|Ae<|Aa<|Ad<|Ab<|wd rfl (fun st=>Am (ee st rfl) (EG _ _))<|wd rfl (fun st=>As (v:=.slice d a.Ac.length e) FA (ee st rfl) h.bk rfl)<|wd rfl (fun st=>BT Tryz.underlying61 (ee st rfl))<|wd rfl (fun st=>Fp (ee st rfl) (ee st rfl))<|wm rfl (v:=.bool (decide ((a.Ac.length:Int)≤6))) rfl ?_;rcases Ap (decide ((a.Ac.length:Int)≤6)) with b|b
 ·replace f:=AG f b;refine Au rfl rfl (Af rfl b) rfl (by decide) (fun st=>Bd (l:=[I a.Aj,I a.Ah,I a.An,I a.Av,.slice d a.Ac.length e]) Fz (ee st rfl) h.bk rfl rfl) ?_;have j:=(k.mv (Aw h));replace f:=bind_some f;obtain⟨y,aB,f⟩:=f;refine D0 rfl rfl (Af rfl b) rfl (by decide) (fun st=>AO P9 (ee st rfl) (CD (ee st rfl)) (US u a d e ZA _ j.all y aB)) ?_;rintro _ aJ ⟨n,rfl⟩;have t:=s.ext n;refine Au rfl rfl (Af rfl b) rfl (by decide) (fun st=>FV (ee st rfl) (ee st rfl))<|Au rfl rfl (Af rfl b) rfl (by decide) (fun st=>A5 (v:=.bool (y !=0)) (ee st rfl)) ?_;rcases Ap (y !=0) with g|g
  ·replace f:=AG f g;refine Ai (c:=true) rfl rfl (Af rfl g) (by decide) rfl (by decide)<|Ai (c:=true) rfl rfl (Af rfl g) (by decide) rfl (by decide)<|Ai (c:=true) rfl rfl (Af rfl g) (by decide) rfl (by decide)<|Au rfl rfl (Af rfl b) rfl (by decide) (fun st=>AZ (v:=.bool true) (ee st rfl) g (ee st rfl))<|wd rfl (fun st=>AZ (v:=.bool true) (ee st rfl) b (ee st rfl))<|wa rfl (v:=.bool true) rfl<|Ae<|Aa<|AF ?_;obtain rfl:=Option.some.inj f;refine AR rfl rfl ?_;exact⟨t.Bq,rfl⟩
  ·replace f:=AH f g;have p:=(h.bk.ext n);refine Au rfl rfl (Af rfl g) rfl (by decide) (fun st=>Bd (l:=[I a.Aj,I a.Ah,I a.An,I a.Av,.slice d a.Ac.length e]) Fz (ee st rfl) p rfl rfl) ?_;have m:=(j.mv (Ak n));replace f:=bind_some f;obtain⟨q,aC,f⟩:=f;refine D0 rfl rfl (Af rfl g) rfl (by decide) (fun st=>AO NC (ee st rfl) (CD (ee st rfl)) (T6 u a d e ZA _ m.all q aC)) ?_;rintro _ aK ⟨aD,rfl⟩;have aE:=t.ext aD;refine Au rfl rfl (Af rfl g) rfl (by decide) (fun st=>Fp (ee st rfl) (ee st rfl))<|Au rfl rfl (Af rfl b) rfl (by decide) (fun st=>Bu (v:=.bool (decide (q≤60))) (ee st rfl) g (ee st rfl))<|wd rfl (fun st=>AZ (v:=.bool (decide (q≤60))) (ee st rfl) b (ee st rfl))<|wa rfl (v:=.bool (decide (q≤60))) rfl<|Ae<|Aa<|AF ?_;obtain rfl:=Option.some.inj f;refine AR rfl rfl ?_;exact⟨aE.Bq,rfl⟩
 ·replace f:=AH f b;refine Ai (c:=false) rfl rfl (Af rfl b) (by decide) rfl (by decide)<|Ai (c:=false) rfl rfl (Af rfl b) (by decide) rfl (by decide)<|Ai (c:=false) rfl rfl (Af rfl b) (by decide) rfl (by decide)<|Ai (c:=false) rfl rfl (Af rfl b) (by decide) rfl (by decide)<|JD rfl rfl rfl rfl (by decide)<|JD rfl rfl rfl rfl (by decide)<|JD rfl rfl rfl rfl (by decide)<|Ai (c:=false) rfl rfl (Af rfl b) (by decide) rfl (by decide)<|wd rfl (fun st=>Bu (v:=.bool false) (ee st rfl) b (ee st rfl))<|wa rfl (v:=.bool false) rfl<|Ae<|Aa<|AF ?_;obtain rfl:=Option.some.inj f;refine AR rfl rfl ?_;exact⟨s.Bq,rfl⟩
end Go.Proofs.YtkljfdkmjdjpfaaGreat
end
