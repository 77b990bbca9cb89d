import Derived.Test.YtkljfdkmjdjpfaaGreatBB2
import Derived.WalkKit
import Derived.KernelRfl
import Derived.WalkSpells
import Derived.WalkLawsBesides
import Derived.Maps.AppendAt
import Derived.OrdersIn
import Derived.RangeFuncIn
import Derived.RangeFuncLeaves
import Derived.RangeFuncRecord
import Derived.RangeFuncSeq
import Derived.Scope
import Derived.DeepKeys3
import Derived.Laws.CopyRow
import Derived.Laws.OwnMore
import Derived.Laws.MakeOwn
import Derived.Laws.IdiomCopy
import Derived.Test.YtkljfdkmjdjpfaaGreatProg
/-
  The contracts of the functions of the program and of the reference, and the logic that they are proved in: the base that several claims of this seat share.
-/
set_option linter.all false
section
namespace Go.Proofs.YtkljfdkmjdjpfaaGreat
theorem Rg(n:Nat)(h:n<64):K0 .u64 (n:Int)=some ():=by
 refine if_pos ?_;show(n:Int)%(2^64:Int)=n;rw[show(2:Int)^64=18446744073709551616 from rfl];omega
theorem Pz(K b d:Nat)(h:d<64):Et K (b:Int) (d:Int)=some (b.testBit d):=by
 unfold Et;rw[bd (Rg d h),bd (P2 b d h),Ld (TD b d) (by omega),P1]
def lead:List Bool→Nat
 |true::l=>lead l+1
 |_=>0
def GQ(R:Int):List Bool→Bool
 |[]=>true
 |b::l=>decide ((lead (b::l):Int)≤R)&&GQ R l
def IC:List Bool→Nat
 |[]=>0
 |b::l=>(cond b 1 0)+IC l
theorem Li(r:Nat)(l:List Bool):lead (List.replicate r true++l)=r+lead l:=by
 induction r with
 |zero=>simp
 |succ r ih=>rw[List.replicate_succ,List.cons_append,lead,ih];omega
theorem ML(R:Int)(l:List Bool):∀r:Nat,(r:Int)≤R→GQ R (List.replicate r true++false::l)=(decide (0≤R)&&GQ R l)
 |0,_=>rfl
 |r+1,h=>by
  rw[List.replicate_succ,List.cons_append,GQ,ML R l r (by omega)];have:lead (true::(List.replicate r true++false::l))=r+1:=by
   rw[lead,Li];rfl
  rw[this,dt (by omega),Bool.true_and]
theorem NJ(W R:Int)(b:0≤R):∀(l:List Bool) (s:Int) (r:Nat),s≤W→(r:Int)≤R→okW W R l s r=(decide (s+(IC l:Int)≤W)&&GQ R (List.replicate r true++l))
 |[],s,r,c,a=>by
  have:∀q:Nat,(q:Int)≤R→GQ R (List.replicate q true)=true:=by
   intro q
   induction q with
   |zero=>intro _;rfl
   |succ q ih=>
    intro g;have e:=Li (q+1) [];rw[List.append_nil,List.replicate_succ] at e;have h:lead ([]:List Bool)=0:=rfl;rw[List.replicate_succ,GQ,e,ih (by omega),dt (by omega)];rfl
  rw[List.append_nil,this r a,okW,dt (by unfold IC;omega)];rfl
 |false::l,s,r,c,a=>by
  rw[okW,ML R l r a,dt b,Bool.true_and];have:=NJ W R b l s 0 c (by omega);rw[Int.natCast_zero] at this;rw[this,IC];simp
 |true::l,s,r,c,a=>by
  rw[okW];have e:List.replicate r true++true::l=List.replicate (r+1) true++l:=by
   rw[List.replicate_succ'];simp
  rw[e]
  by_cases d:s+1≤W
  ·by_cases f:(r:Int)+1≤R
   ·rw[dt d,dt f,Bool.true_and,Bool.true_and,DS,NJ W R b l (s+1) (r+1) d (by omega)]
    congr 2
    rw[IC];simp;omega
   ·rw[df f,Bool.false_and,Bool.and_false];have:GQ R (List.replicate (r+1) true++l)=false:=by
     rw[List.replicate_succ,List.cons_append,GQ];have e:=Li (r+1) l;rw[List.replicate_succ,List.cons_append] at e;rw[e,df (by omega)];rfl
    rw[this,Bool.and_false]
  ·rw[df d,Bool.false_and];have:¬(s+(IC (true::l):Int)≤W):=by rw[IC];simp;omega
   rw[df this];rfl
theorem Ml(n b i:Nat)(h:i<n):(wl n b).drop i=b.testBit i::(wl n b).drop (i+1):=by
 rw[List.drop_eq_getElem_cons (by rw[FZ];exact h)]
 congr 1
 simp[wl]
theorem TO(K:Nat)(y:Ao)(b a:Nat)(h0:0≤y.Aj)(h9:y.Aj≤9)(d:0≤y.Av)(f:y.Av≤y.Aj+1)(i:a≤9):∀(k m e:Nat) (g:Bool),(a:Int)+y.Av+1=e+k→k<m→
  Cm K y b (a:Int) m g (e:Int)=some (g&&decide (k≤lead ((wl (days y) b).drop e))):=by
 intro k
 induction k with
 |zero=>
  intro m e g h hm;cases m with
  |zero=>omega
  |succ m=>rw[Cm.eq_2,BU (by omega) (by omega),cf (df (by omega)),dt (Nat.zero_le _),Bool.and_true]
 |succ k ih=>
  intro m e g h hm;cases m with
  |zero=>omega
  |succ m=>
   rw[Cm.eq_2,BU (by omega) (by omega),ct (dt (by omega))];cases g with
   |false=>
    rw[cf rfl,BU (by omega) (by omega),DS,ih m (e+1) false (by omega) (by omega)];rfl
   |true=>
    rw[ct rfl,Bool.true_and]
    by_cases c:(e:Int)≤y.Aj
    ·rw[ct (dt c),bd (Pz K b e (by omega)),BU (by omega) (by omega),DS,ih m (e+1) _ (by omega) (by omega),Ml (days y) b e (by unfold days;omega)];cases b.testBit e with
     |false=>
      rw[Bool.false_and,df (show¬(k+1≤lead (false::_)) by show¬(k+1≤0);omega)]
     |true=>
      rw[Bool.true_and]
      congr 1
      rw[Bool.eq_iff_iff,decide_eq_true_eq,decide_eq_true_eq];show _↔k+1≤lead _+1;omega
    ·rw[cf (df c),BU (by omega) (by omega),DS,ih m (e+1) false (by omega) (by omega),show(wl (days y) b).drop e=[] from List.drop_eq_nil_of_le (by rw[FZ];unfold days;omega)];rw[Bool.false_and,df (show¬(k+1≤lead []) by show¬(k+1≤0);omega)]
theorem Sd(K:Nat)(y:Ao)(b a:Nat)(h0:0≤y.Aj)(h9:y.Aj≤9)(d:0≤y.Av)(f:y.Av≤y.Aj+1)(i:a≤9):∀(k m e:Nat) (g:Bool),(a:Int)+y.Av+1=e+k→k<m→
  Cj K y b (a:Int) m g (e:Int)=some (g&&decide (k≤lead ((wl (days y) b).drop e))):=by
 intro k
 induction k with
 |zero=>
  intro m e g h hm;cases m with
  |zero=>omega
  |succ m=>rw[Cj.eq_2,BU (by omega) (by omega),cf (df (by omega)),dt (Nat.zero_le _),Bool.and_true]
 |succ k ih=>
  intro m e g h hm;cases m with
  |zero=>omega
  |succ m=>
   rw[Cj.eq_2,BU (by omega) (by omega),ct (dt (by omega))];cases g with
   |false=>
    rw[cf rfl,BU (by omega) (by omega),DS,ih m (e+1) false (by omega) (by omega)];rfl
   |true=>
    rw[ct rfl,Bool.true_and]
    by_cases c:(e:Int)≤y.Aj
    ·rw[ct (dt c),bd (Pz K b e (by omega)),BU (by omega) (by omega),DS,ih m (e+1) _ (by omega) (by omega),Ml (days y) b e (by unfold days;omega)];cases b.testBit e with
     |false=>
      rw[Bool.false_and,df (show¬(k+1≤lead (false::_)) by show¬(k+1≤0);omega)]
     |true=>
      rw[Bool.true_and]
      congr 1
      rw[Bool.eq_iff_iff,decide_eq_true_eq,decide_eq_true_eq];show _↔k+1≤lead _+1;omega
    ·rw[cf (df c),BU (by omega) (by omega),DS,ih m (e+1) false (by omega) (by omega),show(wl (days y) b).drop e=[] from List.drop_eq_nil_of_le (by rw[FZ];unfold days;omega)];rw[Bool.false_and,df (show¬(k+1≤lead []) by show¬(k+1≤0);omega)]
theorem PA{K:Nat}(y:Ao)(b:Nat)(h0:0≤y.Aj)(h9:y.Aj≤9)(c:0≤y.Av)(f:y.Av≤y.Aj+1)(hK:2000≤K):∀(k m i:Nat) (s:Int),days y=i+k→k<m→0≤s→s≤i→
  CJ K y b m s (i:Int)=some (cond (GQ y.Av ((wl (days y) b).drop i)) (.inr (s+(IC ((wl (days y) b).drop i):Int))) (.inl false)):=by
 intro k
 induction k with
 |zero=>
  intro m i s h hm j l;cases m with
  |zero=>omega
  |succ m=>
   rw[CJ.eq_2,cf (df (by unfold days at h;omega)),List.drop_eq_nil_of_le (by rw[FZ];omega)];show _=some (Sum.inr (s+((0:Nat):Int)));rw[Int.natCast_zero,Int.add_zero]
 |succ k ih=>
  intro m i s h hm j l;cases m with
  |zero=>omega
  |succ m=>
   have p:days y≤10:=by unfold days;omega
   have hi:i<days y:=by omega
   have g:(i:Int)≤y.Aj:=by unfold days at hi;omega
   have d:=TO K y b i h0 h9 c f (by omega) (y.Av+1).toNat K i true (by omega) (by omega);have a:=Sd K y b i h0 h9 c f (by omega) (y.Av+1).toNat K i true (by omega) (by omega);have n:decide ((y.Av+1).toNat≤lead ((wl (days y) b).drop i))= !decide ((lead ((wl (days y) b).drop i):Int)≤y.Av):=by
    rw[←decide_not];congr 1;rw[eq_iff_iff];omega
   rw[Bool.true_and,n] at d a;rw[CJ.eq_2,ct (dt g),bd (Pz K b i (by omega))];have e:=Ml (days y) b i hi;have o:GQ y.Av ((wl (days y) b).drop i)=(decide ((lead ((wl (days y) b).drop i):Int)≤y.Av)&&GQ y.Av ((wl (days y) b).drop (i+1))):=by
    conv=>lhs;rw[e]
    rw[GQ,←e]
   have ec:IC ((wl (days y) b).drop i)=(cond (b.testBit i) 1 0)+IC ((wl (days y) b).drop (i+1)):=by rw[e,IC]
   rw[o,ec];cases q:b.testBit i with
   |true=>
    rw[ct rfl,BU (by omega) (by omega),bd d];cases decide ((lead ((wl (days y) b).drop i):Int)≤y.Av) with
    |false=>rw[Bool.false_and];rfl
    |true=>
     rw[nt,BU (by omega) (by omega),DS,ih m (i+1) (s+1) (by omega) (by omega) (by omega) (by omega),Bool.true_and]
     congr 2
     simp;omega
   |false=>
    rw[cf rfl,bd a];cases decide ((lead ((wl (days y) b).drop i):Int)≤y.Av) with
    |false=>rw[Bool.false_and];rfl
    |true=>
     rw[nt,BU (by omega) (by omega),DS,ih m (i+1) s (by omega) (by omega) (by omega) (by omega),Bool.true_and]
     congr 2
     simp
theorem Oh{K:Nat}(y:Ao)(b:Nat)(h0:0≤y.Aj)(h9:y.Aj≤9)(a:0≤y.Av)(d:y.Av≤y.Aj+1)(f:0≤y.Am)(hK:2000≤K):Er K y b=some (Hl y (wl (days y) b)):=by
 unfold Er;have g:days y≤10:=by unfold days;omega
 have e:=PA (K:=K) y b h0 h9 a d hK (days y) K 0 0 (by omega) (by omega) (by omega) (by omega);rw[Int.natCast_zero,List.drop_zero] at e;rw[bd e];have c:=NJ y.Am y.Av a (wl (days y) b) 0 0 f (by omega);rw[Int.natCast_zero] at c;unfold Hl;rw[c];show _=some (_&&GQ y.Av (wl (days y) b));cases GQ y.Av (wl (days y) b) with
 |true=>rw[Bool.and_true];rfl
 |false=>rw[Bool.and_false];rfl
def H4 (y:Ao) (k d:Nat):List Int:=((List.range' k d).filter fun b=>Hl y (wl (days y) b)).map fun b:Nat=>(b:Int)
theorem MU(y:Ao):(H4 y 0 (2^days y)).length=(CB y).length:=by
 unfold H4 CB;rw[List.length_map,List.range_eq_range',List.filter_map,List.length_map];rfl
theorem PB{K:Nat}(y:Ao)(h0:0≤y.Aj)(h9:y.Aj≤9)(d:0≤y.Av)(f:y.Av≤y.Aj+1)(g:0≤y.Am)(hK:2000≤K):∀(k m i:Nat) (a:List Int),2^days y=i+k→k<m→a.length≤i→
  CO K y m a (i:Int)=some (a++H4 y i k):=by
 intro k;have j:days y≤10:=by unfold days;omega
 have n:=IB _ j;have b:y.Aj+1=(days y:Int):=by unfold days;omega
 have c:Hf (1:Int) (days y:Int)=((2^days y:Nat):Int):=by
  unfold Hf;rw[Int.one_mul,Int.toNat_natCast,Int.natCast_pow];rfl
 have e:L8 (1:Int) (days y:Int)=some ():=by
  refine if_pos ⟨by omega,by omega,?_,?_⟩
  ·have:(0:Int)≤1*2^((days y:Nat):Int).toNat:=by rw[Int.one_mul];exact Int.le_of_lt (Int.pow_pos (by omega))
   exact Int.le_trans (by omega) this
  ·rw[Int.one_mul,Int.toNat_natCast];have:((2^days y:Nat):Int)≤1024:=by omega
   rw[Int.natCast_pow] at this;exact Int.le_trans this (by omega)
 induction k with
 |zero=>
  intro m i a h hm l;cases m with
  |zero=>omega
  |succ m=>
   rw[CO.eq_2,BU (by omega) (by omega),b,bd (Rg _ (by omega)),bd e,c,cf (df (by omega))];simp[H4]
 |succ k ih=>
  intro m i a h hm l;cases m with
  |zero=>omega
  |succ m=>
   rw[CO.eq_2,BU (by omega) (by omega),b,bd (Rg _ (by omega)),bd e,c,ct (dt (by omega)),bd (Oh y i h0 h9 d f g hK)];unfold H4;rw[List.range'_succ,List.filter_cons];cases Hl y (wl (days y) i) with
   |true=>
    rw[ct rfl,FT (by simp;omega),BU (by omega) (by omega),DS,ih m (i+1) _ (by omega) (by omega) (by simp;omega)];simp[H4]
   |false=>
    rw[cf rfl,BU (by omega) (by omega),DS,ih m (i+1) a (by omega) (by omega) (by omega)];simp[H4]
theorem PC{K:Nat}(y:Ao)(h0:0≤y.Aj)(h9:y.Aj≤9)(a:0≤y.Av)(b:y.Av≤y.Aj+1)(c:0≤y.Am)(hK:2000≤K):ED K y=some (H4 y 0 (2^days y)):=by
 unfold ED;have d:days y≤10:=by unfold days;omega
 have f:=IB _ d;have e:=PB (K:=K) y h0 h9 a b c hK (2^days y) K 0 [] (by omega) (by omega) (by simp);rw[Int.natCast_zero] at e;rw[bd e,List.nil_append]
theorem LQ{y:Ao}(h9:y.Aj≤9)(h:∀l∈y.Ac,FV y l=true):∀l∈y.Ac,sized l∧0≤l.As∧l.Az≤9:=fun l a=>by
 have:=GK.1 (h l a);exact⟨Le h9 (h l a),this.1,by omega⟩
theorem Qk{K:Nat}(y:Ao)(h0:0≤y.Aj)(h9:y.Aj≤9)(a:0≤y.Av)(b:y.Av≤y.Aj+1)(c:0≤y.Am)(d:y.Ac.length≤4)(f:∀l∈y.Ac,sized l∧0≤l.As∧l.Az≤9)(hK:2000≤K):
  DP K y=some (I1 3000 ((CB y).length:Int) y.Ac):=by
 unfold DP;have g:days y≤10:=by unfold days;omega
 have hw:=Km y g;have e:=TG y d f (K:=K) y.Ac.length K 0 ((CB y).length:Int) (by omega) (by omega) (by omega) (by omega);rw[Int.natCast_zero,List.drop_zero] at e;rw[bd (PC y h0 h9 a b c hK),MU,bd e]
theorem Se(K:Nat)(y:Ao)(d:y.Ac.length≤4):∀(k m i:Nat),y.Ac.length=i+k→k<m→
  Di K y m (i:Int)=some (cond ((y.Ac.drop i).all (FV y)) (.inr ()) (.inl 1)):=by
 intro k
 induction k with
 |zero=>
  intro m i h hm;cases m with
  |zero=>omega
  |succ m=>rw[Di.eq_2,cf (df (by omega)),List.drop_eq_nil_of_le (by omega)];rfl
 |succ k ih=>
  intro m i h hm;cases m with
  |zero=>omega
  |succ m=>
   have hi:i<y.Ac.length:=by omega
   rw[Di.eq_2,ct (dt (by omega)),Dy hi,List.drop_eq_getElem_cons hi,List.all_cons];unfold FV;generalize y.Ac[i]=l
   by_cases a:l.As<0
   ·rw[ct (dt a),df (show¬(0≤l.As) by omega)];rfl
   rw[cf (df a),dt (show 0≤l.As by omega)]
   by_cases b:l.Az<l.As
   ·rw[ct (dt b),df (show¬(l.As≤l.Az) by omega)];rfl
   rw[cf (df b),dt (show l.As≤l.Az by omega)]
   by_cases c:y.Aj<l.Az
   ·rw[ct (dt c),df (show¬(l.Az≤y.Aj) by omega)];rfl
   rw[cf (df c),dt (show l.Az≤y.Aj by omega),bd (Nt ..)];cases FF l.AO 1 5 with
   |false=>rfl
   |true=>
    rw[nt,bd (Nt ..)];cases FF l.BM 1 5 with
    |false=>rfl
    |true=>
     rw[nt,bd (Nt ..)];cases FF l.BP 0 y.Aj with
     |false=>rfl
     |true=>rw[nt,BU (by omega) (by omega),DS,ih m (i+1) (by omega) (by omega)];rfl
theorem OF{K:Nat}(hK:2000≤K)(y:Ao):Ey K y=some (check y):=by
 unfold Ey check
 by_cases g:9<y.Aj
 ·rw[ct (dt g),if_pos (.inl g)]
 rw[cf (df g)]
 by_cases i:2<y.Ah
 ·rw[ct (dt i),if_pos (.inr (.inl i))]
 rw[cf (df i)]
 by_cases j:4<(y.Ac.length:Int)
 ·rw[ct (dt j),if_pos (.inr (.inr j))]
 rw[cf (df j),if_neg (by omega)]
 by_cases a:y.Aj<0
 ·rw[ct (dt a),if_pos (.inl a)]
 rw[cf (df a)]
 by_cases b:y.Ah<1
 ·rw[ct (dt b),if_pos (.inr (.inl b))]
 rw[cf (df b),BU (by omega) (by omega),bd (Nt ..)];cases m:FF y.Am 0 (y.Aj+1) with
 |false=>rw[nf,if_pos (.inr (.inr (.inl rfl)))]
 |true=>
  rw[nt,BU (by omega) (by omega),bd (Nt ..)];cases n:FF y.Av 0 (y.Aj+1) with
  |false=>rw[nf,if_pos (.inr (.inr (.inr (.inl rfl))))]
  |true=>
   have e:=Se K y (by omega) y.Ac.length K 0 (by omega) (by omega);rw[Int.natCast_zero,List.drop_zero] at e;rw[nt,bd e];cases o:y.Ac.all (FV y) with
   |false=>rw[if_pos (.inr (.inr (.inr (.inr rfl))))];rfl
   |true=>
    have q:=Fb.1 m;have r:=Fb.1 n;have k:=LQ (y:=y) (by omega) (List.all_eq_true.1 o);rw[if_neg (by simp[a,b])];show(DP K y).bind _=_;rw[bd (Qk y (by omega) (by omega) (by omega) (by omega) (by omega) (by omega) k hK)];have f:=Me (c:=3000) (by omega) ((CB y).length:Int) (by omega) fun l p=>(k l p).1;unfold HD
    by_cases d:1000<((CB y).length:Int)*Eo y.Ac
    ·rw[ct (dt (f.2 d)),if_pos d]
    ·rw[cf (df fun h=>d (f.1 h)),if_neg d]
end Go.Proofs.YtkljfdkmjdjpfaaGreat
end
section
namespace Go.Proofs.YtkljfdkmjdjpfaaGreat
theorem Sf{K:Nat}(y:Ao)(a:D1 y)(hK:2000≤K):DP K y=some (HD y):=by
 have b:=LQ a.h9 a.Lg;rw[Qk y a.h0 a.h9 a.u0 a.u1 a.w0 a.n4 b hK];have:=a.many;unfold HD at this⊢;rw[OC (by omega) _ (by omega) (fun l c=>(b l c).1) this]
end Go.Proofs.YtkljfdkmjdjpfaaGreat
end
section
namespace Go.Proofs.YtkljfdkmjdjpfaaGreat
theorem PD(n:Nat):(iota n).Nodup:=by
 unfold iota;refine List.Pairwise.map _ (fun a b h=>?_) (List.nodup_range (n:=n));intro e;exact h (by omega)
end Go.Proofs.YtkljfdkmjdjpfaaGreat
end
section
namespace Go.Proofs.YtkljfdkmjdjpfaaGreat
theorem Sg(x:List Int)(a:Nat):CN x (0:Int) (a:Int)=x.take a:=by unfold CN;simp
theorem Sh(x:List Int)(a:Nat):CN x (a:Int) (x.length:Int)=x.drop a:=by unfold CN;simp
theorem TP{β:Type}{n:Nat}{a b:Int}{f:Unit→Option β}(h0:0≤a)(c:a≤b)(d:b≤n):(Nq n a b).bind f=f ():=bd (if_pos ⟨h0,c,d⟩)
theorem Si{o:List (List Int)}{r:Nat}(a:r<o.length):o.getD r []=o[r]:=by rw[List.getD_eq_getElem?_getD,List.getElem?_eq_getElem a];rfl
end Go.Proofs.YtkljfdkmjdjpfaaGreat
end
section
namespace Go.Proofs.YtkljfdkmjdjpfaaGreat
def TQ(y:Ao)(s:Ar):Int:=cond (s.Bn==-1) (y.Aj+1) (s.Bn+1)
end Go.Proofs.YtkljfdkmjdjpfaaGreat
end
section
namespace Go.Proofs.YtkljfdkmjdjpfaaGreat
theorem I3(y:Ao)(w:List Bool)(c:List Int)(j:Nat):∀(l:List Int) (free:Int) (out:List Ar),(∀i∈l,0≤i)→(j:Int)∉l→(Gv y w c l free out)[j]?=out[j]?
 |[],_,_,_,_=>rfl
 |i::r,free,out,h0,h=>by
  rw[Gv,I3 y w c j r _ _ (fun x a=>h0 x (List.mem_cons_of_mem _ a)) (fun b=>h (List.mem_cons_of_mem _ b)),List.getElem?_set_ne];intro e;have:=h0 i (List.mem_cons_self ..);exact h (by rw[←e,show((i.toNat:Nat):Int)=i by omega];exact List.mem_cons_self ..)
end Go.Proofs.YtkljfdkmjdjpfaaGreat
end
section
namespace Go.Proofs.YtkljfdkmjdjpfaaGreat
def LR (y:Ao) (w:List Bool) (c:List Int):List Int→Int→Int
 |[],f=>f
 |i::r,f=>LR y w c r (TQ y (DL y w (E5 y i) (max f (Dh c i))))
theorem NK(y:Ao)(w:List Bool)(c:List Int):∀(pre:List Int) (i:Int) (post:List Int) (free:Int) (out:List Ar),(pre++i::post).Nodup→(∀j∈pre++i::post,0≤j∧j<(out.length:Int))→
  (Gv y w c (pre++i::post) free out)[i.toNat]?=some (DL y w (E5 y i) (max (LR y w c pre free) (Dh c i)))
 |[],i,post,free,out,d,b=>by
  obtain⟨h0,g⟩:=b i (List.mem_append_right _ (List.mem_cons_self ..));have f:i∉post:=(List.nodup_cons.1 d).1;rw[List.nil_append,Gv,I3 y w c i.toNat post _ _ (fun j e=>(b j (List.mem_append_right _ (List.mem_cons_of_mem _ e))).1) (by rw[Int.toNat_of_nonneg h0];exact f),List.getElem?_set_self (by omega)];rfl
 |a::pre,i,post,free,out,d,b=>by
  rw[List.cons_append,Gv];exact NK y w c pre i post _ (out.set a.toNat _) (List.nodup_cons.1 d).2 fun j e=>by rw[List.length_set];exact b j (List.mem_cons_of_mem _ e)
theorem K6(y:Ao)(w:List Bool)(c:List Int)(j:Nat):∀(o:List (List Int)) (out:List Ar),(∀i∈o.flatten,0≤i)→(j:Int)∉o.flatten→(FI y w c o out)[j]?=out[j]?
 |[],out,_,_=>rfl
 |l::o,out,h0,h=>by
  rw[List.flatten_cons] at h0 h;rw[FI,K6 y w c j o _ (fun i hi=>h0 i (List.mem_append_right _ hi)) (fun hi=>h (List.mem_append_right _ hi)),I3 y w c j l _ _ (fun i hi=>h0 i (List.mem_append_left _ hi)) (fun hi=>h (List.mem_append_left _ hi))]
theorem NL(y:Ao)(w:List Bool)(c:List Int)(i:Int)(pre post:List Int)(e:List (List Int)):∀(o1:List (List Int)) (out:List Ar),(o1++(pre++i::post)::e).flatten.Nodup→(∀j∈(o1++(pre++i::post)::e).flatten,0≤j∧j<(out.length:Int))→
  (FI y w c (o1++(pre++i::post)::e) out)[i.toNat]?=some (DL y w (E5 y i) (max (LR y w c pre 0) (Dh c i)))
 |[],out,a,b=>by
  rw[List.nil_append,List.flatten_cons] at a b;have hm:i∈pre++i::post:=List.mem_append_right _ (List.mem_cons_self ..);have h0:=(b i (List.mem_append_left _ hm)).1;rw[List.nodup_append] at a;rw[List.nil_append,FI,K6 y w c i.toNat e _ (fun j d=>(b j (List.mem_append_right _ d)).1) (by rw[Int.toNat_of_nonneg h0];exact fun d=>a.2.2 i hm i d rfl),NK y w c pre i post 0 out a.1 fun j d=>b j (List.mem_append_left _ d)]
 |l::o1,out,a,b=>by
  rw[List.cons_append,List.flatten_cons] at a b;rw[List.nodup_append] at a;rw[List.cons_append,FI];exact NL y w c i pre post e o1 _ a.2.1 fun j d=>by rw[HE];exact b j (List.mem_append_right _ d)
theorem PE{y:Ao}{o:List (List Int)}(h:Cw y o=true):o.flatten.Nodup:=(DT.1 h).2.nodup_iff.2 (PD _)
theorem NM{y:Ao}{o:List (List Int)}(h:Cw y o=true){i:Int}:i∈o.flatten↔0≤i∧i<(y.Ac.length:Int):=by rw[(DT.1 h).2.mem_iff,Nw]
theorem Lj{y:Ao}{o:List (List Int)}{o1 b:List (List Int)}{pre post:List Int}{i:Int}(h:Cw y o=true)(e:o=o1++(pre++i::post)::b)(t:A5):
  (B2 y o t)[i.toNat]?=some (DL y t.Am (E5 y i) (max (LR y t.Am t.Comes pre 0) (Dh t.Comes i))):=by
 have c:=PE h;have d:∀j∈o.flatten,0≤j∧j<(y.Ac.length:Int):=fun j a=>(NM h).1 a;subst e;unfold B2 Gl;exact NL y t.Am t.Comes i pre post b o1 _ c fun j a=>by rw[List.length_replicate];exact d j a
theorem Rh{y:Ao}{o:List (List Int)}(h:Cw y o=true){i:Nat}(hi:i<y.Ac.length):∃o1 pre post a,o=o1++(pre++(i:Int)::post)::a:=by
 have hm:(i:Int)∈o.flatten:=(NM h).2 (by omega);obtain⟨l,c,b⟩:=List.mem_flatten.1 hm;obtain⟨o1,a,e⟩:=List.append_of_mem c;obtain⟨pre,post,d⟩:=List.append_of_mem b;exact⟨o1,pre,post,a,by rw[e,d]⟩
theorem OG {y:Ao} {o:List (List Int)} (h:Cw y o=true) {i:Nat} (hi:i<y.Ac.length) {o1 b:List (List Int)} {pre post:List Int} (e:o=o1++(pre++(i:Int)::post)::b) (t:A5):
  Ih y o t i=DL y t.Am (CY y i) (max (LR y t.Am t.Comes pre 0) (Dh t.Comes i)):=by
 have a:=Lj h e t;rw[Int.toNat_natCast] at a;unfold Ih;rw[List.getD_eq_getElem?_getD,a];show DL y t.Am (E5 y (i:Int)) _=_;unfold E5 CY;rw[Int.toNat_natCast]
theorem Ku{W R W' R':Int}(a:W≤W')(b:R≤R'):∀(l:List Bool) (s r:Int),okW W R l s r=true→okW W' R' l s r=true
 |[],_,_,_=>rfl
 |false::l,s,r,h=>Ku a b l s 0 h
 |true::l,s,r,h=>by
  rw[okW,Bool.and_eq_true,Bool.and_eq_true,decide_eq_true_eq,decide_eq_true_eq] at h⊢;exact⟨by omega,by omega,Ku a b l _ _ h.2.2⟩
theorem LS:∀{ls:List Ay} {cs:List Int},Ec ls cs=true→∀i,i<ls.length→FF (cs.getD i 0) (ls.getD i G2).As (ls.getD i G2).Az=true
 |[],_,_,i,hi=>by cases hi
 |l::ls,[],h,_,_=>by cases h
 |l::ls,c::cs,h,0,_=>by rw[Ec,Bool.and_eq_true] at h;exact h.1
 |l::ls,c::cs,h,i+1,hi=>by
  rw[Ec,Bool.and_eq_true] at h;exact LS h.2 i (by simpa using hi)
theorem ID{y:Ao}{t:A5}:E6 y t=true↔(t.Am.length:Int)=y.Aj+1∧Hl y t.Am=true∧Ec y.Ac t.Comes=true:=by
 unfold E6;rw[Bool.and_eq_true,Bool.and_eq_true,decide_eq_true_eq]
theorem Lk{y:Ao}{i:Nat}(hi:i<y.Ac.length):CY y i∈y.Ac:=by
 unfold CY;rw[List.getD_eq_getElem?_getD,List.getElem?_eq_getElem hi];exact List.getElem_mem hi
theorem OH{y:Ao}(a:D1 y){t:A5}(b:E6 y t=true){i:Nat}(hi:i<y.Ac.length):0≤Dh t.Comes i∧Dh t.Comes i≤y.Aj:=by
 have d:=Fb.1 (LS (ID.1 b).2.2 i hi);have c:=GK.1 (a.Lg _ (Lk hi));unfold CY at c;unfold Dh;rw[Int.toNat_natCast];omega
end Go.Proofs.YtkljfdkmjdjpfaaGreat
end
section
namespace Go.Proofs.YtkljfdkmjdjpfaaGreat
structure Alike (y x:Ao):Prop where
 last:x.Aj=y.Aj
 len:x.Ac.length=y.Ac.length
 ES:∀i:Nat,(CY x i).AO=(CY y i).AO
 RQ:∀i:Nat,(CY x i).BM=(CY y i).BM
theorem JJ{l c:Ay}(a:c.AO=l.AO)(b:c.BM=l.BM)(d0:Int):∀(ws:List Bool) (d ES r:Int),G6 c d0 ws d ES r=G6 l d0 ws d ES r
 |[],_,_,_=>rfl
 |true::ws,d,ES,r=>by rw[G6,G6,a,b,JJ a b d0 ws]
 |false::ws,d,ES,r=>by rw[G6,G6,a,b,JJ a b d0 ws]
theorem I4{y x:Ao}(h:x.Aj=y.Aj){l a:Ay}(b:a.AO=l.AO)(c:a.BM=l.BM)(w:List Bool)(d:Int):DL x w a d=DL y w l d:=by
 unfold DL;rw[h,JJ b c]
theorem Alike.at{y x:Ao}(h:Alike y x)(w:List Bool)(i d:Int):DL x w (E5 x i) d=DL y w (E5 y i) d:=I4 h.last (h.ES i.toNat) (h.RQ i.toNat) w d
theorem K7{y x:Ao}(h:Alike y x)(w:List Bool)(c:List Int):∀(l:List Int) (f:Int) (out:List Ar),Gv x w c l f out=Gv y w c l f out
 |[],_,_=>rfl
 |i::r,f,out=>by
  rw[Gv,Gv];show Gv x w c r (cond ((DL x w (E5 x i) (max f (Dh c i))).Bn==-1) (x.Aj+1) _) _=_;rw[h.at,h.last,K7 h w c r]
theorem K8{y x:Ao}(h:Alike y x)(w:List Bool)(c:List Int):∀(o:List (List Int)) (out:List Ar),FI x w c o out=FI y w c o out
 |[],_=>rfl
 |l::o,out=>by rw[FI,FI,K7 h,K8 h w c o]
theorem I5{y x:Ao}(h:Alike y x)(o:List (List Int))(t:A5):B2 x o t=B2 y o t:=by
 unfold B2 Gl;rw[h.len,K8 h]
theorem MM{p b:Ay→Ar→Bool}:∀(ls a:List Ay) (ss:List Ar),ls.length=a.length→(∀i s,i<ls.length→p (ls.getD i G2) s=true→b (a.getD i G2) s=true)→Hb p ls ss≤Hb b a ss
 |[],[],ss,_,_=>Nat.le_refl _
 |[],_::_,_,h,_=>by cases h
 |_::_,[],_,h,_=>by cases h
 |l::ls,c::a,[],_,_=>by simp[Hb]
 |l::ls,c::a,s::ss,d,h=>by
  have g:=MM ls a ss (by simpa using d) fun i s hi=>h (i+1) s (by simpa using hi);have e:p l s=true→b c s=true:=h 0 s (by simp);rw[Hb,Hb];cases f:p l s with
  |false=>simp only[cond_false];omega
  |true=>rw[e f];simp only[cond_true];omega
theorem LU {l b:Ay} (h:l.BP≤b.BP) {s:Ar} (a:E8 l s=true):E8 b s=true:=by
 unfold E8 at a⊢;rw[Bool.and_eq_true,decide_eq_true_eq] at a⊢;exact⟨a.1,by omega⟩
theorem Ql{y x:Ao}(a:x.Ac.length=y.Ac.length)(b:∀i:Nat,(CY x i).BP≤(CY y i).BP)(ss:List Ar):D5 y ss≤D5 x ss:=by
 unfold D5;refine MM _ _ ss a.symm fun i s _ h=>?_;unfold Cz at h⊢;cases c:E8 (x.Ac.getD i G2) s with
 |false=>rfl
 |true=>
  have:=LU (b i) c;unfold CY at this;rw[this] at h;cases h
theorem KN{y x:Ao}(a:D1 y)(b:D1 x){o o':List (List Int)}(h:∀t,E6 y t=true→E6 x t=true∧D5 y (B2 y o t)≤D5 x (B2 x o' t)):(CA y o).1≤(CA x o').1:=by
 obtain⟨_,c,f⟩:=Ii a o;obtain⟨d,_,_⟩:=Ii b o';obtain⟨e,g⟩:=h _ c;have:=d _ e;omega
theorem OI{y x:Ao}(a:x.Ac.length=y.Ac.length){o o':List (List Int)}(h:∀i:Nat,i<y.Ac.length→(∀t∈BZ x,GV x o' i t=true)→∀t∈BZ y,GV y o i t=true):GP x o'≤GP y o:=by
 unfold GP;rw[a];refine List.countP_mono_left fun i hi=>?_;rw[List.mem_range] at hi;rw[List.all_eq_true,List.all_eq_true];exact h i hi
theorem Sj{y x:Ao}(a:D1 y)(b:D1 x)(h:∀o,Cw x o=true→∃o',Cw y o'=true∧(CA y o').1≤(CA x o).1):(Ga y).1≤(Ga x).1:=by
 obtain⟨c,_,_⟩:=JI a;obtain⟨_,d,f⟩:=JI b;obtain⟨o',e,hle⟩:=h _ d;have:=c o' e;omega
theorem NN{y x:Ao}(a:D1 y)(b:D1 x)(h:∀o,Cw x o=true→∃o',Cw y o'=true∧GP x o≤GP y o'):(FJ x).1≤(FJ y).1:=by
 obtain⟨c,_,_⟩:=LP a;obtain⟨_,d,f⟩:=LP b;obtain⟨o',e,hle⟩:=h _ d;have:=c o' e;omega
theorem LW{y x:Ao}(a:x.Ah=y.Ah)(b:x.Ac.length=y.Ac.length)(o:List (List Int)):Cw x o=Cw y o:=by unfold Cw;rw[a,b]
theorem HJ {y:Ao} (a:D1 y) {k:Int}:k∈C6 y 0 y.Ac.length↔∃i:Nat,k=i∧i<y.Ac.length∧¬∀t,E6 y t=true→E8 (CY y i) (DL y t.Am (CY y i) (Dh t.Comes i))=true:=by
 unfold C6;rw[List.mem_map];constructor
 ·rintro⟨i,hi,rfl⟩;rw[List.mem_filter,List.mem_range'_1] at hi;refine⟨i,rfl,by omega,fun h=>?_⟩;have e:=hi.2;have:(BZ y).all (GV y (F9 y i) i)=true:=by
   rw[List.all_eq_true];intro t c;have d:=(F1 a.h0).1 c;have b:=h t d;have g:=OH a d (show i<y.Ac.length by omega);unfold GV;rw[OG (Ks a (show i<y.Ac.length by omega)) (show i<y.Ac.length by omega) (o1:=[]) (pre:=[]) (post:=GH y.Ac.length i 0) rfl];show E8 (CY y i) (DL y t.Am (CY y i) (max 0 (Dh t.Comes i)))=true;rw[show max 0 (Dh t.Comes i)=Dh t.Comes i by omega];exact b
  rw[this] at e;cases e
 ·rintro⟨i,rfl,hi,h⟩;refine⟨i,?_,rfl⟩;rw[List.mem_filter,List.mem_range'_1];refine⟨by omega,?_⟩;cases f:(BZ y).all (GV y (F9 y i) i) with
  |false=>rfl
  |true=>
   exfalso;refine h fun t c=>?_;rw[List.all_eq_true] at f;have b:=f t ((F1 a.h0).2 c);have g:=OH a c hi;unfold GV at b;rw[OG (Ks a hi) hi (o1:=[]) (pre:=[]) (post:=GH y.Ac.length i 0) rfl] at b;have j:E8 (CY y i) (DL y t.Am (CY y i) (max 0 (Dh t.Comes i)))=true:=b
   rwa[show max 0 (Dh t.Comes i)=Dh t.Comes i by omega] at j
structure IT(y x:Ao):Prop extends Alike y x where
 JK:x.Ah=y.Ah
 due:∀i:Nat,(CY x i).BP=(CY y i).BP
 comes:∀i:Nat,(CY x i).As≤(CY y i).As∧(CY y i).Az≤(CY x i).Az
 C5:y.Am≤x.Am
 run:y.Av≤x.Av
theorem HK:∀{ls a:List Ay} {cs:List Int},a.length=ls.length→(∀i:Nat,(a.getD i G2).As≤(ls.getD i G2).As∧(ls.getD i G2).Az≤(a.getD i G2).Az)→Ec ls cs=true→Ec a cs=true
 |[],[],cs,_,_,h=>h
 |[],_::_,_,h,_,_=>by cases h
 |_::_,[],_,h,_,_=>by cases h
 |l::ls,b::a,[],_,_,h=>by cases h
 |l::ls,b::a,c::cs,d,hw,h=>by
  rw[Ec,Bool.and_eq_true] at h⊢;have e:=Fb.1 h.1;have f:b.As≤l.As∧l.Az≤b.Az:=hw 0;exact⟨Fb.2 (by omega),HK (by simpa using d) (fun i=>hw (i+1)) h.2⟩
theorem IT.LX{y x:Ao}(h:IT y x){t:A5}(a:E6 y t=true):E6 x t=true:=by
 obtain⟨b,c,d⟩:=ID.1 a;exact ID.2 ⟨by rw[h.last];exact b,Ku h.C5 h.run _ _ _ c,HK h.len h.comes d⟩
theorem MN{l a:Ay}(h:a.BP=l.BP)(s:Ar):E8 a s=E8 l s:=by unfold E8;rw[h]
theorem IT.sv{y x:Ao}(h:IT y x)(o:List (List Int))(i:Nat)(t:A5):GV x o i t=GV y o i t:=by
 unfold GV Ih;rw[I5 h.toAlike,MN (h.due i)]
theorem IT.sure{y x:Ao}(h:IT y x)(a:D1 y)(b:D1 x):(FJ x).1≤(FJ y).1:=
 NN a b fun o c=>⟨o,by rw[←LW h.JK h.len];exact c,OI h.len fun i _ d t e=>by
  rw[←h.sv];exact d t ((F1 b.h0).2 (h.LX ((F1 a.h0).1 e)))⟩
theorem IT.U0{y x:Ao}(h:IT y x)(a:D1 y)(b:D1 x){k:Int}(c:k∈C6 y 0 y.Ac.length):k∈C6 x 0 x.Ac.length:=by
 obtain⟨i,rfl,hi,d⟩:=(HJ a).1 c;refine(HJ b).2 ⟨i,rfl,by rw[h.len];exact hi,fun e=>d fun t f=>?_⟩;have:=e t (h.LX f);rw[I4 h.last (h.ES i) (h.RQ i),MN (h.due i)] at this;exact this
structure JL(y z:Ao):Prop extends Alike y z where
 JK:z.Ah=y.Ah
 due:∀i:Nat,(CY y i).BP≤(CY z i).BP
 comes:∀i:Nat,(CY z i).As=(CY y i).As∧(CY y i).Az=(CY z i).Az
 C5:y.Am=z.Am
 run:y.Av=z.Av
theorem JL.LX{y z:Ao}(h:JL y z){t:A5}:E6 z t=true↔E6 y t=true:=by
 rw[ID,ID,h.last];unfold Hl;rw[h.C5,h.run];refine and_congr_right fun _=>and_congr_right fun _=>⟨fun a=>HK h.len.symm (fun i=>?_) a,fun a=>HK h.len (fun i=>?_) a⟩
 ·have:=h.comes i;unfold CY at this;omega
 ·have:=h.comes i;unfold CY at this;omega
theorem JL.Vd{y z:Ao}(h:JL y z)(a:D1 y)(b:D1 z)(o:List (List Int)):(CA z o).1≤(CA y o).1:=
 KN b a fun t c=>⟨h.LX.1 c,by rw[I5 h.toAlike];exact Ql h.len.symm h.due _⟩
theorem JL.U0{y z:Ao}(h:JL y z)(a:D1 y)(b:D1 z){k:Int}(c:k∈C6 z 0 z.Ac.length):k∈C6 y 0 y.Ac.length:=by
 obtain⟨i,rfl,hi,d⟩:=(HJ b).1 c;refine(HJ a).2 ⟨i,rfl,by rw[←h.len];exact hi,fun e=>d fun t f=>?_⟩;have:=e t (h.LX.1 f);rw[I4 h.last (h.ES i) (h.RQ i)];exact LU (h.due i) this
theorem LY{y:Ao}{o o':List (List Int)}(c:Cw y o=true)(d:Cw y o'=true)(h:∀l∈o,l∈o')(t:A5):B2 y o t=B2 y o' t:=by
 apply List.ext_getElem?;intro i
 by_cases hi:i<y.Ac.length
 ·obtain⟨o1,pre,post,g,e⟩:=Rh c hi;obtain⟨j,k,f⟩:=List.append_of_mem (h (pre++(i:Int)::post) (by rw[e];simp));have a:=Lj c e t;have b:=Lj d f t;rw[Int.toNat_natCast] at a b;rw[a,b]
 ·have a:(B2 y o t).length=y.Ac.length:=GG ..;have b:(B2 y o' t).length=y.Ac.length:=GG ..;rw[List.getElem?_eq_none (by omega),List.getElem?_eq_none (by omega)]
theorem Qm{y:Ao}(a:D1 y){o o':List (List Int)}(d:Cw y o=true)(b:Cw y o'=true)(h:∀l∈o,l∈o'):(CA y o).1=(CA y o').1:=by
 refine Int.le_antisymm (KN a a fun t c=>⟨c,?_⟩) (KN a a fun t c=>⟨c,?_⟩)
 ·rw[LY d b h];exact Nat.le_refl _
 ·rw[LY d b h];exact Nat.le_refl _
def Fy (y:Ao) (n:Int):Ao:=⟨y.Aj,n,y.Am,y.Av,y.Ac⟩
theorem Oi(y:Ao)(n:Int):Alike y (Fy y n):=⟨rfl,rfl,fun _=>rfl,fun _=>rfl⟩
theorem LZ(y:Ao)(w:List Bool)(c:List Int):∀(o:List (List Int)) (out:List Ar),FI y w c (o++[[]]) out=FI y w c o out
 |[],_=>rfl
 |l::o,out=>by rw[List.cons_append,FI,FI,LZ y w c o]
theorem L0(y:Ao)(n:Int)(o:List (List Int))(t:A5):B2 (Fy y n) (o++[[]]) t=B2 y o t:=by
 rw[I5 (Oi y n)];unfold B2 Gl;rw[LZ]
theorem NO{y:Ao}{o:List (List Int)}(h:Cw y o=true)(c:y.Ah=1):Cw (Fy y 2) (o++[[]])=true:=by
 obtain⟨a,b⟩:=DT.1 h;refine DT.2 ⟨by rw[List.length_append];show _=(2:Int);simp;omega,?_⟩;rw[List.flatten_append,show([[]]:List (List Int)).flatten=[] from rfl,List.append_nil];exact b
theorem Qn{y:Ao}(a:D1 y)(b:D1 (Fy y 2)):(Ga (Fy y 2)).1≤(Ga y).1:=by
 by_cases c:y.Ah=1
 ·exact Sj b a fun o d=>⟨o++[[]],NO d c,KN b a fun t f=>⟨f,by rw[L0];exact Nat.le_refl _⟩⟩
 ·have:=a.r1;have:=a.r2;have e:Fy y 2=y:=by
   unfold Fy;rw[show(2:Int)=y.Ah by omega]
  rw[e];exact Int.le_refl _
theorem Qo{y:Ao}(a:D1 y)(b:D1 (Fy y 2)):(FJ y).1≤(FJ (Fy y 2)).1:=by
 by_cases c:y.Ah=1
 ·refine NN b a fun o d=>⟨o++[[]],NO d c,OI (y:=Fy y 2) (x:=y) (o:=o++[[]]) (o':=o) rfl fun i _ f t g=>?_⟩;have:=f t g;unfold GV Ih at this⊢;rw[L0];exact this
 ·have:=a.r1;have:=a.r2;have e:Fy y 2=y:=by
   unfold Fy;rw[show(2:Int)=y.Ah by omega]
  rw[e];exact Int.le_refl _
end Go.Proofs.YtkljfdkmjdjpfaaGreat
end
section
namespace Go.Proofs.YtkljfdkmjdjpfaaGreat
theorem TR{x:Int}(h0:-9223372036854775808≤x)(a:x≤9223372036854775807):K0 .i64 x=some ():=by
 unfold K0;have:IntKind.i64.wrap x=x:=HP ⟨by omega,by omega⟩;rw[if_pos this]
theorem Sk(K:Nat)(y:Ao)(h:y.Ac.length≤6):∀(k m i:Nat) (a:List Ay),y.Ac.length=i+k→k<m→a=y.Ac.take i→
  DH K y m (i:Int) a=some y.Ac:=by
 intro k
 induction k with
 |zero=>
  intro m i a hi hm b;cases m with
  |zero=>omega
  |succ m=>rw[DH.eq_2,cf (df (by omega)),b,List.take_of_length_le (by omega)]
 |succ k ih=>
  intro m i a hi hm b;cases m with
  |zero=>omega
  |succ m=>
   have c:i<y.Ac.length:=by omega
   have d:a.length≤6:=by rw[b,List.length_take];omega
   rw[DH.eq_2,ct (dt (by omega)),Dy c,bd (show GN K (⟨y.Ac[i].As,y.Ac[i].Az⟩:CU)=some (⟨y.Ac[i].As,y.Ac[i].Az⟩:CU) from rfl),FT (by simp only[List.length_cons,List.length_nil];omega),BU (by omega) (by omega),DS];refine ih m (i+1) _ (by omega) (by omega) ?_;rw[b,List.take_add_one,List.getElem?_eq_getElem c];rfl
theorem Sm{K:Nat}(hK:2000≤K)(y:Ao)(h:y.Ac.length≤6):Bg K y=some y:=by
 unfold Bg;have:=Sk K y h y.Ac.length K 0 [] (by omega) (by omega) (by simp);rw[Int.natCast_zero] at this;rw[bd this]
theorem Ri(o:List (List Int))(h:o.length≤1000)(d:∀l∈o,l.length≤1000):∀(k m i:Nat) (a:List (List Int)),o.length=i+k→k<m→a=o.take i→
  Dw o m a (i:Int)=some o:=by
 intro k
 induction k with
 |zero=>
  intro m i a hi hm c;cases m with
  |zero=>omega
  |succ m=>rw[Dw.eq_2,cf (df (by omega)),c,List.take_of_length_le (by omega)]
 |succ k ih=>
  intro m i a hi hm c;cases m with
  |zero=>omega
  |succ m=>
   have b:i<o.length:=by omega
   have e:a.length≤1000:=by rw[c,List.length_take];omega
   have:=d _ (List.getElem_mem b);rw[Dw.eq_2,ct (dt (by omega)),Dy b,FT (by simp only[List.length_nil];omega),FT (by simp only[List.length_cons,List.length_nil];omega),BU (by omega) (by omega),DS];refine ih m (i+1) _ (by omega) (by omega) ?_;rw[c,List.take_add_one,List.getElem?_eq_getElem b];rfl
theorem Rj{K:Nat}(hK:2000≤K)(o:List (List Int))(h:o.length≤1000)(a:∀l∈o,l.length≤1000):Dg K o=some o:=by
 unfold Dg;have:=Ri o h a o.length K 0 [] (by omega) (by omega) (by simp);rw[Int.natCast_zero] at this;rw[bd this]
theorem Sn(a:List Int)(h:a.length≤1000):∀(k m i:Nat),a.length=i+k→k<m→DG a a m (i:Int)=some (.inr ()):=by
 intro k
 induction k with
 |zero=>
  intro m i hi hm;cases m with
  |zero=>omega
  |succ m=>rw[DG.eq_2,cf (df (by omega))]
 |succ k ih=>
  intro m i hi hm;cases m with
  |zero=>omega
  |succ m=>
   have b:i<a.length:=by omega
   rw[DG.eq_2,ct (dt (by omega)),Dy b,Dy b,cf (by simp),BU (by omega) (by omega),DS];exact ih m (i+1) (by omega) (by omega)
theorem Sp{K:Nat}(hK:2000≤K)(a:List Int)(h:a.length≤1000):FC K a a=some true:=by
 unfold FC;have:=Sn a h a.length K 0 (by omega) (by omega);rw[Int.natCast_zero] at this;rw[cf (by simp),bd this];rfl
theorem Qp(a b:List Int)(j:Nat)(g:j<a.length)(h:b.length≤1000):∀(k m i:Nat) (f:Bool),b.length=i+k→k<m→(f=true∨a[j]∈b.drop i)→C0 a b (j:Int) m f (i:Int)=some true:=by
 intro k
 induction k with
 |zero=>
  intro m i f hi hm c;cases m with
  |zero=>omega
  |succ m=>
   rw[C0.eq_2,cf (df (by omega))];rcases c with rfl|c
   ·rfl
   ·rw[List.drop_eq_nil_of_le (by omega)] at c;cases c
 |succ k ih=>
  intro m i f hi hm c;cases m with
  |zero=>omega
  |succ m=>
   have d:i<b.length:=by omega
   rw[C0.eq_2,ct (dt (by omega))];cases f with
   |true=>
    rw[ct rfl,BU (by omega) (by omega),DS];exact ih m (i+1) true (by omega) (by omega) (.inl rfl)
   |false=>
    rw[cf rfl,Dy g,Dy d,BU (by omega) (by omega),DS];refine ih m (i+1) _ (by omega) (by omega) ?_;rcases c with c|c
    ·cases c
    ·rw[List.drop_eq_getElem_cons d] at c;rcases List.mem_cons.1 c with e|c
     ·exact .inl (beq_iff_eq.2 e)
     ·exact .inr c
theorem Qq{K:Nat}(hK:2000≤K)(a b:List Int)(h:b.length≤1000)(f:a.length≤1000)(d:∀x∈a,x∈b):∀(k m i:Nat),a.length=i+k→k<m→Dj K a b m (i:Int)=some (.inr ()):=by
 intro k
 induction k with
 |zero=>
  intro m i hi hm;cases m with
  |zero=>omega
  |succ m=>rw[Dj.eq_2,cf (df (by omega))]
 |succ k ih=>
  intro m i hi hm;cases m with
  |zero=>omega
  |succ m=>
   have c:i<a.length:=by omega
   have e:=Qp a b i c h b.length K 0 false (by omega) (by omega) (.inr (by rw[List.drop_zero];exact d _ (List.getElem_mem c)));rw[Int.natCast_zero] at e;rw[Dj.eq_2,ct (dt (by omega)),bd e,nt,BU (by omega) (by omega),DS];exact ih m (i+1) (by omega) (by omega)
theorem MO{K:Nat}(hK:2000≤K)(a b:List Int)(h:b.length≤1000)(c:a.length≤1000)(d:∀x∈a,x∈b):En K a b=some true:=by
 unfold En;have:=Qq hK a b h c d a.length K 0 (by omega) (by omega);rw[Int.natCast_zero] at this;rw[bd this];rfl
theorem Rk{K:Nat}(hK:2000≤K)(y:Ao):Fi K y=some (check y):=by
 unfold Fi;rw[bd (OF hK y)]
def L1 (y:Ao):Bool:=cond (decide ((y.Ac.length:Int)≤6)) (cond (check y !=0) true (decide (HD y≤60))) false
theorem Sq{K:Nat}(hK:2000≤K)(y:Ao):FD K y=some (L1 y):=by
 unfold FD L1;cases b:decide ((y.Ac.length:Int)≤6) with
 |false=>rfl
 |true=>
  rw[ct rfl,ct rfl,bd (OF hK y)];cases a:(check y !=0) with
  |true=>rfl
  |false=>
   have h0:check y=0:=by simpa[bne] using a
   rw[cf rfl,cf rfl,bd (Sf y (E7 h0) hK)]
def Kw(y:Ao):Bool:=cond (L1 y) (check y==0) false
theorem Rl{K:Nat}(hK:2000≤K)(y:Ao):Fk K y=some (Kw y):=by
 unfold Fk Kw;rw[bd (Sq hK y)];cases L1 y with
 |false=>rfl
 |true=>rw[ct rfl,ct rfl,bd (Rk hK y)]
theorem Rm{y:Ao}(h:Kw y=true):check y=0∧y.Ac.length≤4:=by
 unfold Kw at h;cases a:L1 y with
 |false=>rw[a] at h;cases h
 |true=>
  rw[a] at h;have h0:check y=0:=by simpa using h
  exact⟨h0,(E7 h0).n4⟩
def W8(ws:List Int):Prop:=∀w∈ws,0≤w∧w≤255
theorem Sr(K:Nat)(ws:List Int)(h:W8 ws)(at_:Int)(h0:0≤at_):∃v:Int,FE K ws at_=some v∧0≤v∧v≤255:=by
 unfold FE
 by_cases b:ws.length=0
 ·rw[ct (by rw[b];rfl)];exact⟨0,rfl,by omega,by omega⟩
 ·rw[cf (by rw[beq_eq_false_iff_ne];omega),Ld h0 (by omega)];have c:=Int.emod_nonneg at_ (show(ws.length:Int)≠0 by omega);have e:=Int.emod_lt_of_pos at_ (show(0:Int)<(ws.length:Int) by omega);obtain⟨k,d⟩:=Int.eq_ofNat_of_zero_le c;have a:k<ws.length:=by omega
  rw[d,Dy a];have:=h _ (List.getElem_mem a);rw[bd (TR (by omega) (by omega))];exact⟨_,rfl,this⟩
theorem Rn{K:Nat}(y:Ao)(d:D1 y)(ws:List Int)(h:W8 ws):∀(k m i:Nat) (o:List (List Int)),y.Ac.length=i+k→k<m→(o.length:Int)=y.Ah→o.flatten.Perm (iota i)→
  ∃f,Dx K y ws m (i:Int) o=some f∧(f.length:Int)=y.Ah∧f.flatten.Perm (iota y.Ac.length):=by
 have x:=d.n4;have j:=d.r1;have w:=d.r2;intro k
 induction k with
 |zero=>
  intro m i o hi hm g c;cases m with
  |zero=>omega
  |succ m=>
   rw[Dx.eq_2,cf (df (by omega))];exact⟨o,rfl,g,by rw[show y.Ac.length=i by omega];exact c⟩
 |succ k ih=>
  intro m i o hi hm g c;cases m with
  |zero=>omega
  |succ m=>
   obtain⟨v,ev,v0,v1⟩:=Sr K ws h (i:Int) (by omega);rw[Dx.eq_2,ct (dt (by omega)),bd ev,Ld v0 j,Vc v0 (by omega),BU (by omega) (by omega)];have q:=Int.emod_nonneg v (show y.Ah≠0 by omega);have z:=Int.emod_lt_of_pos v (show 0<y.Ah by omega);obtain⟨r,s⟩:=Int.eq_ofNat_of_zero_le q;have b:r<o.length:=by omega
   rw[s];have hlen:o[r].length≤4:=by
    have l:=c.length_eq;rw[G0] at l;have:=(List.sublist_flatten_of_mem (List.getElem_mem b)).length_le;omega
   have t:=Int.emod_nonneg (v/4) (show((o[r].length:Int)+1)≠0 by omega);have l:=Int.emod_lt_of_pos (v/4) (show 0<(o[r].length:Int)+1 by omega);obtain⟨a,u⟩:=Int.eq_ofNat_of_zero_le t;rw[Dy b,BU (by omega) (by omega),Ld (by omega) (by omega),Dy b,u,TP (by omega) (by omega) (by omega)];have n:CN o[r] (0:Int) (a:Int)=o[r].take a:=Sg _ _;have p:CN o[r] (a:Int) (o[r].length:Int)=o[r].drop a:=Sh _ _;rw[n,FT (by simp only[List.length_nil,List.length_take];omega),FT (by simp only[List.length_append,List.length_cons,List.length_nil,List.length_take];omega),Dy b,TP (by omega) (by omega) (by omega),p,FT (by simp only[List.length_append,List.length_cons,List.length_nil,List.length_take,List.length_drop];omega),Dy b,BU (by omega) (by omega),DS,Int.toNat_natCast];have e:(([]:List Int)++o[r].take a++[(i:Int)])++o[r].drop a=CR (o.getD r []) (a:Int) (i:Int):=by
    unfold CR;rw[Si b,Int.toNat_natCast];simp
   rw[e];refine ih m (i+1) _ (by omega) (by omega) (by rw[List.length_set];exact g) ?_;refine(Hm (i:Int) o r (a:Int) b).trans ?_;rw[IS];exact(List.Perm.cons _ c).trans (List.perm_append_singleton _ _).symm
theorem Ro{K:Nat}(hK:2000≤K)(y:Ao)(a:D1 y)(ws:List Int)(h:W8 ws):∃o,EC K y ws=some o∧Cw y o=true:=by
 have g:=a.n4;have e:=a.r1;have f:=a.r2;unfold EC;obtain⟨o,b,c,d⟩:=Rn (K:=K) y a ws h y.Ac.length K 0 (List.replicate y.Ah.toNat []) (by omega) (by omega) (by rw[List.length_replicate];omega) (by
  have:∀n:Nat,(List.replicate n ([]:List Int)).flatten=[]:=fun n=>by
   induction n with
   |zero=>rfl
   |succ n ih=>rw[List.replicate_succ,List.flatten_cons,ih];rfl
  rw[this];exact List.Perm.refl _)
 rw[Int.natCast_zero] at b;rw[OA (by omega) (by omega) (by omega),bd b];exact⟨o,rfl,DT.2 ⟨c,d⟩⟩
end Go.Proofs.YtkljfdkmjdjpfaaGreat
end
section
namespace Go.Proofs.YtkljfdkmjdjpfaaGreat
section
variable{K:Nat}(hK:2000≤K){y:Ao}(h:check y=0)
theorem IE{o:List (List Int)}(h:check y=0)(a:Cw y o=true):o.length≤1000∧(∀l∈o,l.length≤1000)∧o.flatten.length≤1000:=Kr (E7 h) a
include hK h
theorem TS{o:List (List Int)}(a:Cw y o=true){t:A5}(b:E6 y t=true):Gr K y o t=some (B2 y o t,0):=by
 obtain⟨c,_,d⟩:=IE h a;rw[Qc y o t hK c d,if_neg (by simp[h]),if_neg (by simp[a,b])]
theorem OJ{o:List (List Int)}(a:Cw y o=true){i:Nat}(hi:i<y.Ac.length):E4 K y o (i:Int)=some (verdict y o i,0):=by
 obtain⟨b,_,c⟩:=IE h a;have d:FF (i:Int) 0 ((y.Ac.length:Int)-1)=true:=Fb.2 (by omega);rw[Sb y o i hK b c,if_neg (by simp[h]),if_neg (by simp[a,d]),Int.toNat_natCast]
theorem Je{o:List (List Int)}(a:Cw y o=true):DJ K y o=some ((CA y o).1,(CA y o).2,0):=by
 obtain⟨b,_,c⟩:=IE h a;rw[Qe y o hK b c,if_neg (by simp[h]),if_neg (by simp[a])]
theorem Kx:EV K y=some ((Ga y).2,(Ga y).1,0):=by rw[TL y hK,if_neg (by simp[h])]
theorem Ky:EW K y=some ((FJ y).2.2,(FJ y).1,0):=by rw[TM y hK,if_neg (by simp[h])]
theorem HL:DK K y=some (C6 y 0 y.Ac.length,0):=by rw[Py y hK,if_neg (by simp[h])]
theorem NP{o:List (List Int)}(a:Cw y o=true)(n:Int):Fa K y o n=some (decide ((CA y o).1≤n)):=by
 obtain⟨b,_,c⟩:=IE h a;rw[Ny y o n hK b c,dt h,a];rfl
theorem Oj{o:List (List Int)}(a:Cw y o=true){t:A5}(b:E6 y t=true)(n:Int):Fu K y o t n=some (decide (n≤(D5 y (B2 y o t):Int))):=by
 obtain⟨c,_,d⟩:=IE h a;rw[Og y o t n hK c d,dt h,a,b];rfl
end
def y1:Ao:=⟨5,1,1,1,[⟨0,0,2,2,2⟩,⟨1,1,2,1,5⟩]⟩
def t3:A5:=⟨[0,1],[false,false,false,true,false,false]⟩
theorem HZ:check y1=0:=by decide+kernel
theorem RR:Cw y1 [[0,1]]=true:=DT.2 ⟨rfl,by decide⟩
theorem PF:Cw y1 [[1,0]]=true:=DT.2 ⟨rfl,by decide⟩
theorem UM:E6 y1 t3=true:=by decide+kernel
theorem UN:B2 y1 [[0,1]] t3=[⟨0,1,true⟩,⟨2,3,false⟩]:=by
 have h:∀(a b:List Ar),a.map (fun s=>(s.On,s.Bn,s.AO))=b.map (fun s=>(s.On,s.Bn,s.AO))→a=b:=by
  intro a
  induction a with
  |nil=>intro b h;cases b with|nil=>rfl|cons x l=>cases h
  |cons x l ih=>
   intro b h;cases b with
   |nil=>cases h
   |cons x2 d=>
    have c:=List.cons.inj h;obtain⟨a1,a2,a3⟩:=x;obtain⟨e,f,g⟩:=x2;have i:a1=e∧a2=f∧a3=g:=by simpa using c.1
    obtain⟨rfl,rfl,rfl⟩:=i;rw[ih d c.2]
 exact h _ _ (by decide+kernel)
theorem L2{K:Nat}(hK:2000≤K):CM K=some true:=by
 unfold CM;have a:CK K 1=some y1:=rfl;have c:Gt K 3=some t3:=rfl;have d:E4 K y1 [[0,1]] 1=some (verdict y1 [[0,1]] 1,0):=OJ hK HZ RR (i:=1) (by decide);have e:E4 K y1 [[1,0]] 0=some (verdict y1 [[1,0]] 0,0):=OJ hK HZ PF (i:=0) (by decide);have b:=E7 HZ;obtain⟨_,f,j⟩:=Ii b [[1,0]];obtain⟨_,g,k⟩:=JI b;have v1:verdict y1 [[0,1]] 1=3:=by decide+kernel
 have v2:verdict y1 [[1,0]] 0=2:=by decide+kernel
 have v3:(CA y1 [[1,0]]).1=2:=by decide+kernel
 have v4:(Ga y1).1=1:=by decide+kernel
 have v5:(FJ y1).1=1:=by decide+kernel
 have v6:C6 y1 0 y1.Ac.length=[1]:=by decide+kernel
 rw[bd a,bd c,bd (TS hK HZ RR UM),bd a,bd d,bd a,bd e,bd a,bd (Je hK HZ PF),bd a,bd (Kx hK HZ),bd a,bd (Ky hK HZ),bd a,bd (HL hK HZ),UN];rw[ct (by rfl)];have s1:EO K 0 1 true=some ⟨0,1,true⟩:=rfl;have s2:EO K 2 3 false=some ⟨2,3,false⟩:=rfl;have h:Gu K [⟨0,1,true⟩,⟨2,3,false⟩] ⟨0,1,true⟩ ⟨2,3,false⟩=some true:=rfl;rw[bd s1,bd s2,bd h,ct (by rfl),ct (by rfl),v1,ct (by rfl),ct (by rfl),v2,ct (by rfl),ct (by rfl),v3,ct (by rfl),bd a,bd (Oj hK HZ PF f 2),ct (dt (by omega)),ct (by rfl),v4,ct (by rfl),bd a,bd (NP hK HZ g 1),ct (dt (by omega)),ct (by rfl),v5,ct (by rfl),ct (by rfl),v6,bd (Sp hK [1] (by decide))]
end Go.Proofs.YtkljfdkmjdjpfaaGreat
end
section
namespace Go.Proofs.YtkljfdkmjdjpfaaGreat
namespace HF
theorem mixed:Tryz.prog.follows .mixedOrders=true:=by kernel_rfl
theorem JM(b:Nat)(w:World):(Instr.fieldAt 154 (.pointer (some ⟨b,0,none⟩)) 1).run Tryz.prog w=.ok (.pointer (some ⟨b,1,none⟩)) w:=by kernel_rfl
theorem AY:One Tryz.prog 3:=by unfold One;exact⟨by kernel_rfl,by kernel_rfl⟩
theorem JN(b:Nat)(w:World):(Instr.fieldAt 154 (.pointer (some ⟨b,0,none⟩)) 0).run Tryz.prog w=.ok (.pointer (some ⟨b,0,none⟩)) w:=by kernel_rfl
theorem Jf:Bl Tryz.prog 90:=by unfold Bl;kernel_rfl
theorem JO(b:Nat)(w:World):(Instr.fieldAt 116 (.pointer (some ⟨b,0,none⟩)) 1).run Tryz.prog w=.ok (.pointer (some ⟨b,1,none⟩)) w:=by kernel_rfl
theorem JP(b:Nat)(w:World):(Instr.fieldAt 116 (.pointer (some ⟨b,0,none⟩)) 0).run Tryz.prog w=.ok (.pointer (some ⟨b,0,none⟩)) w:=by kernel_rfl
theorem TU:(Tryz.prog.underlying 3).isSome=true:=by kernel_rfl
theorem Hn:(Tryz.prog.info? 115).bind (·.zero)=some (.agg #[I 0,I 0,.bool false]):=by kernel_rfl
theorem EF:(Tryz.prog.info? 115).map (·.size)=some 3:=by kernel_rfl
theorem D6:DO Tryz.prog 115 3:=by unfold DO;exact⟨by kernel_rfl,by kernel_rfl⟩
theorem C3(b:Nat)(w:World):(Instr.fieldAt 75 (.pointer (some ⟨b,0,none⟩)) 4).run Tryz.prog w=.ok (.pointer (some ⟨b,4,none⟩)) w:=by kernel_rfl
theorem Dq:One Tryz.prog 73:=by unfold One;exact⟨by kernel_rfl,by kernel_rfl⟩
theorem Rp(b:Nat)(w:World):(Instr.fieldAt 115 (.pointer (some ⟨b,0,none⟩)) 2).run Tryz.prog w=.ok (.pointer (some ⟨b,2,none⟩)) w:=by kernel_rfl
theorem KO:One Tryz.prog 4:=by unfold One;exact⟨by kernel_rfl,by kernel_rfl⟩
theorem Ll(b:Nat)(w:World):(Instr.fieldAt 115 (.pointer (some ⟨b,0,none⟩)) 1).run Tryz.prog w=.ok (.pointer (some ⟨b,1,none⟩)) w:=by kernel_rfl
theorem NQ(b:Nat)(w:World):(Instr.fieldAt 156 (.pointer (some ⟨b,0,none⟩)) 3).run Tryz.prog w=.ok (.pointer (some ⟨b,4,none⟩)) w:=by kernel_rfl
theorem Hs:DO Tryz.prog 156 5:=by unfold DO;exact⟨by kernel_rfl,by kernel_rfl⟩
theorem NR:Bl Tryz.prog 97:=by unfold Bl;kernel_rfl
theorem Gg(b:Nat)(w:World):(Instr.fieldAt 63 (.pointer (some ⟨b,0,none⟩)) 0).run Tryz.prog w=.ok (.pointer (some ⟨b,0,none⟩)) w:=by kernel_rfl
theorem NS:Bl Tryz.prog 54:=by unfold Bl;kernel_rfl
theorem KP(b:Nat)(w:World):(Instr.fieldAt 63 (.pointer (some ⟨b,0,none⟩)) 3).run Tryz.prog w=.ok (.pointer (some ⟨b,3,none⟩)) w:=by kernel_rfl
theorem Mm(b:Nat)(w:World):(Instr.fieldAt 63 (.pointer (some ⟨b,0,none⟩)) 2).run Tryz.prog w=.ok (.pointer (some ⟨b,2,none⟩)) w:=by kernel_rfl
theorem De:DO Tryz.prog 63 5:=by unfold DO;exact⟨by kernel_rfl,by kernel_rfl⟩
theorem TV:Bl Tryz.prog 95:=by unfold Bl;kernel_rfl
theorem Gn:(Tryz.prog.info? 3).map (fun i=>(i.zero,i.size,i.bytes))=some (some (I 0),1,8):=by kernel_rfl
theorem Ss:Bl Tryz.prog 100:=by unfold Bl;kernel_rfl
theorem FK(b:Nat)(w:World):(Instr.fieldAt 63 (.pointer (some ⟨b,0,none⟩)) 4).run Tryz.prog w=.ok (.pointer (some ⟨b,4,none⟩)) w:=by kernel_rfl
theorem GI:One Tryz.prog 61:=by unfold One;exact⟨by kernel_rfl,by kernel_rfl⟩
theorem IF:(Tryz.prog.info? 118).map (·.size)=some 5:=by kernel_rfl
theorem Rq(b o:Nat)(w:World):(Instr.fieldAt 118 (.pointer (some ⟨b,o,none⟩)) 0).run Tryz.prog w=.ok (.pointer (some ⟨b,o,none⟩)) w:=by kernel_rfl
theorem OK:DO Tryz.prog 116 2:=by unfold DO;exact⟨by kernel_rfl,by kernel_rfl⟩
theorem Su:Bl Tryz.prog 136:=by unfold Bl;kernel_rfl
theorem Ht(b:Nat)(w:World):(Instr.fieldAt 63 (.pointer (some ⟨b,0,none⟩)) 1).run Tryz.prog w=.ok (.pointer (some ⟨b,1,none⟩)) w:=by kernel_rfl
theorem Kz:Bl Tryz.prog 46:=by unfold Bl;kernel_rfl
theorem OL:DO Tryz.prog 118 5:=by unfold DO;exact⟨by kernel_rfl,by kernel_rfl⟩
theorem NT:(Tryz.prog.info? 118).bind (·.zero)=some (.agg #[I 0,I 0,I 0,I 0,I 0]):=by kernel_rfl
theorem IG(b:Nat)(w:World):(Instr.fieldAt 118 (.pointer (some ⟨b,0,none⟩)) 0).run Tryz.prog w=.ok (.pointer (some ⟨b,0,none⟩)) w:=by kernel_rfl
theorem NU(b:Nat)(w:World):(Instr.fieldAt 118 (.pointer (some ⟨b,0,none⟩)) 1).run Tryz.prog w=.ok (.pointer (some ⟨b,2,none⟩)) w:=by kernel_rfl
theorem NV(b:Nat)(w:World):(Instr.fieldAt 118 (.pointer (some ⟨b,0,none⟩)) 2).run Tryz.prog w=.ok (.pointer (some ⟨b,3,none⟩)) w:=by kernel_rfl
theorem NW(b:Nat)(w:World):(Instr.fieldAt 118 (.pointer (some ⟨b,0,none⟩)) 3).run Tryz.prog w=.ok (.pointer (some ⟨b,4,none⟩)) w:=by kernel_rfl
theorem Qr:Bl Tryz.prog 81:=by unfold Bl;kernel_rfl
theorem JQ(b:Nat)(w:World):(Instr.fieldAt 156 (.pointer (some ⟨b,0,none⟩)) 0).run Tryz.prog w=.ok (.pointer (some ⟨b,0,none⟩)) w:=by kernel_rfl
theorem KQ:DO Tryz.prog 154 2:=by unfold DO;exact⟨by kernel_rfl,by kernel_rfl⟩
theorem Hu(b:Nat)(w:World):(Instr.fieldAt 75 (.pointer (some ⟨b,0,none⟩)) 0).run Tryz.prog w=.ok (.pointer (some ⟨b,0,none⟩)) w:=by kernel_rfl
theorem Sv:Bl Tryz.prog 140:=by unfold Bl;kernel_rfl
theorem Ho(b:Nat)(w:World):(Instr.fieldAt 156 (.pointer (some ⟨b,0,none⟩)) 1).run Tryz.prog w=.ok (.pointer (some ⟨b,2,none⟩)) w:=by kernel_rfl
theorem OM:Bl Tryz.prog 141:=by unfold Bl;kernel_rfl
theorem Lm(b:Nat)(w:World):(Instr.fieldAt 156 (.pointer (some ⟨b,0,none⟩)) 2).run Tryz.prog w=.ok (.pointer (some ⟨b,3,none⟩)) w:=by kernel_rfl
theorem Dn:(Tryz.prog.info? 3).map (·.size)=some 1:=by kernel_rfl
theorem Mn:(Tryz.prog.info? 75).bind (·.zero)=some (.agg #[I 0,I 0,I 0,I 0,.slice none 0 0]):=by kernel_rfl
theorem PG:(Tryz.prog.info? 75).map (·.size)=some 5:=by kernel_rfl
theorem CS:DO Tryz.prog 75 5:=by unfold DO;exact⟨by kernel_rfl,by kernel_rfl⟩
theorem Fv:(Tryz.prog.info? 78).bind (·.zero)=some (.agg #[.slice none 0 0,.slice none 0 0]):=by kernel_rfl
theorem NX:(Tryz.prog.info? 4).map (fun i=>(i.zero,i.size,i.bytes))=some (some (.bool false),1,1):=by kernel_rfl
theorem FW:(Tryz.prog.info? 78).map (·.size)=some 2:=by kernel_rfl
theorem Hv(b:Nat)(w:World):(Instr.fieldAt 78 (.pointer (some ⟨b,0,none⟩)) 1).run Tryz.prog w=.ok (.pointer (some ⟨b,1,none⟩)) w:=by kernel_rfl
theorem G7:One Tryz.prog 65:=by unfold One;exact⟨by kernel_rfl,by kernel_rfl⟩
theorem KA:(Tryz.prog.info? 4).map (·.size)=some 1:=by kernel_rfl
theorem Gp:DO Tryz.prog 78 2:=by unfold DO;exact⟨by kernel_rfl,by kernel_rfl⟩
theorem Mo:Tryz.prog.eqGuardType Tryz.prog.depth 115=false:=by kernel_rfl
theorem Ln:Q3 Tryz.prog 115 [true,true,false]:=Of Tryz.underlying115 (by kernel_rfl) (by kernel_rfl) AY Tryz.underlying3 KO Tryz.underlying4
theorem Rr:(Tryz.prog.info? 154).bind (·.zero)=some (.agg #[I 0,I 0]):=by kernel_rfl
theorem TW:(Tryz.prog.info? 154).map (·.size)=some 2:=by kernel_rfl
theorem TX:Bl Tryz.prog 88:=by unfold Bl;kernel_rfl
theorem Rs:(Tryz.prog.info? 156).map (fun i=>(i.zero,i.size,i.bytes))=some (some (.agg #[I 0,I 0,I 0,I 0,I 0]),5,40):=by kernel_rfl
theorem UO:(Tryz.prog.info? 73).map (·.size)=some 1:=by kernel_rfl
theorem Qs:Bl Tryz.prog 80:=by unfold Bl;kernel_rfl
theorem Sw:One Tryz.prog 168:=by unfold One;exact⟨by kernel_rfl,by kernel_rfl⟩
theorem G8:(Tryz.prog.info? 156).map (·.size)=some 5:=by kernel_rfl
theorem Sx:Bl Tryz.prog 175:=by unfold Bl;kernel_rfl
theorem Sy:Bl Tryz.prog 143:=by unfold Bl;kernel_rfl
theorem Sz:Bl Tryz.prog 142:=by unfold Bl;kernel_rfl
theorem SA:One Tryz.prog 237:=by unfold One;exact⟨by kernel_rfl,by kernel_rfl⟩
theorem SC:Bl Tryz.prog 210:=by unfold Bl;kernel_rfl
theorem SD:Bl Tryz.prog 198:=by unfold Bl;kernel_rfl
theorem SE:Bl Tryz.prog 197:=by unfold Bl;kernel_rfl
theorem ON(b:Nat)(w:World):(Instr.fieldAt 75 (.pointer (some ⟨b,0,none⟩)) 2).run Tryz.prog w=.ok (.pointer (some ⟨b,2,none⟩)) w:=by kernel_rfl
theorem OO(b:Nat)(w:World):(Instr.fieldAt 75 (.pointer (some ⟨b,0,none⟩)) 3).run Tryz.prog w=.ok (.pointer (some ⟨b,3,none⟩)) w:=by kernel_rfl
theorem IH:(Tryz.prog.info? 3).bind (·.zero)=some (I 0):=by kernel_rfl
theorem SF:Bl Tryz.prog 173:=by unfold Bl;kernel_rfl
theorem SG:Bl Tryz.prog 172:=by unfold Bl;kernel_rfl
theorem SH:Bl Tryz.prog 145:=by unfold Bl;kernel_rfl
theorem OP:Bl Tryz.prog 138:=by unfold Bl;kernel_rfl
theorem Jg(b:Nat)(w:World):(Instr.fieldAt 75 (.pointer (some ⟨b,0,none⟩)) 1).run Tryz.prog w=.ok (.pointer (some ⟨b,1,none⟩)) w:=by kernel_rfl
theorem TY:Bl Tryz.prog 89:=by unfold Bl;kernel_rfl
theorem TZ:Bl Tryz.prog 91:=by unfold Bl;kernel_rfl
theorem Qt:Bl Tryz.prog 92:=by unfold Bl;kernel_rfl
theorem OQ:Bl Tryz.prog 144:=by unfold Bl;kernel_rfl
theorem Lp:(Tryz.prog.info? 156).bind (·.zero)=some (.agg #[I 0,I 0,I 0,I 0,I 0]):=by kernel_rfl
theorem Qu:Bl Tryz.prog 94:=by unfold Bl;kernel_rfl
theorem T0:Bl Tryz.prog 93:=by unfold Bl;kernel_rfl
theorem Ej:One Tryz.prog 23:=by unfold One;exact⟨by kernel_rfl,by kernel_rfl⟩
theorem SI:One Tryz.prog 161:=by unfold One;exact⟨by kernel_rfl,by kernel_rfl⟩
theorem NY(b o:Nat)(w:World):(Instr.fieldAt 156 (.pointer (some ⟨b,o,none⟩)) 0).run Tryz.prog w=.ok (.pointer (some ⟨b,o,none⟩)) w:=by kernel_rfl
theorem Rt(b o:Nat)(w:World):(Instr.fieldAt 154 (.pointer (some ⟨b,o,none⟩)) 0).run Tryz.prog w=.ok (.pointer (some ⟨b,o,none⟩)) w:=by kernel_rfl
theorem KR:One Tryz.prog 176:=by unfold One;exact⟨by kernel_rfl,by kernel_rfl⟩
theorem OR:Bl Tryz.prog 200:=by unfold Bl;kernel_rfl
theorem SJ:(Tryz.prog.info? 23).bind (·.zero)=some (.slice none 0 0):=by kernel_rfl
theorem Ew:(Tryz.prog.info? 23).map (·.size)=some 1:=by kernel_rfl
theorem SK:(Tryz.prog.info? 65).bind (·.zero)=some (.slice none 0 0):=by kernel_rfl
theorem UP:(Tryz.prog.info? 65).map (·.size)=some 1:=by kernel_rfl
theorem NZ:(Tryz.prog.info? 176).bind (·.zero)=some (.nilFunc):=by kernel_rfl
theorem Qv:(Tryz.prog.info? 176).map (·.size)=some 1:=by kernel_rfl
theorem SL(w:World):(Op.equal 23 (.slice none 0 0) (.slice none 0 0)).run Tryz.prog w=.ok true w:=by kernel_rfl
theorem SM(ad:Addr)(n c:Nat)(w:World):(Op.equal 23 (.slice (some ad) n c) (.slice none 0 0)).run Tryz.prog w=.ok false w:=by kernel_rfl
theorem Mp:Bl Tryz.prog 149:=by unfold Bl;kernel_rfl
theorem SN(w:World):(Op.equal 65 (.slice none 0 0) (.slice none 0 0)).run Tryz.prog w=.ok true w:=by kernel_rfl
theorem SO(ad:Addr)(n c:Nat)(w:World):(Op.equal 65 (.slice (some ad) n c) (.slice none 0 0)).run Tryz.prog w=.ok false w:=by kernel_rfl
theorem Mq:Bl Tryz.prog 150:=by unfold Bl;kernel_rfl
theorem Jh:(Tryz.prog.info? 23).map (fun i=>(i.zero,i.size,i.bytes))=some (some (.slice none 0 0),1,24):=by kernel_rfl
theorem SP(w:World):(Op.equal 64 (.slice none 0 0) (.slice none 0 0)).run Tryz.prog w=.ok true w:=by kernel_rfl
theorem SQ(ad:Addr)(n c:Nat)(w:World):(Op.equal 64 (.slice (some ad) n c) (.slice none 0 0)).run Tryz.prog w=.ok false w:=by kernel_rfl
theorem SR:Bl Tryz.prog 153:=by unfold Bl;kernel_rfl
theorem UQ:∀(b c:Bool) (w:World),(Op.equal 4 (.bool b) (.bool c)).run Tryz.prog w=.ok (b==c) w:=by intro b c w;cases b<;>cases c<;>kernel_rfl
theorem HS(b:Nat)(w:World):(Instr.fieldAt 78 (.pointer (some ⟨b,0,none⟩)) 0).run Tryz.prog w=.ok (.pointer (some ⟨b,0,none⟩)) w:=by kernel_rfl
theorem OS:KZ Tryz.prog 220 2:=Pg 2 Tryz.underlying220 (by kernel_rfl) rfl rfl AY Tryz.underlying3
theorem N0:Nc Tryz.prog 220 2:=Oa 2 Tryz.underlying220 rfl rfl AY Tryz.underlying3
theorem MP:Jt Tryz.prog 220:=by unfold Jt;kernel_rfl
theorem T1:(Tryz.prog.info? 115).bind (·.zero)=some (.agg #[I 0,I 0,.bool false]):=by kernel_rfl
theorem Hq(b:Nat)(w:World):(Instr.fieldAt 220 (.pointer (some ⟨b,0,none⟩)) 1).run Tryz.prog w=.ok (.pointer (some ⟨b,1,none⟩)) w:=by kernel_rfl
theorem II(b o:Nat)(w:World):(Instr.fieldAt 165 (.pointer (some ⟨b,o,none⟩)) 0).run Tryz.prog w=.ok (.pointer (some ⟨b,o,none⟩)) w:=by kernel_rfl
theorem Mr(b o:Nat)(w:World):(Instr.fieldAt 75 (.pointer (some ⟨b,o,none⟩)) 0).run Tryz.prog w=.ok (.pointer (some ⟨b,o,none⟩)) w:=by kernel_rfl
theorem OT(b o:Nat)(w:World):(Instr.fieldAt 75 (.pointer (some ⟨b,o,none⟩)) 4).run Tryz.prog w=.ok (.pointer (some ⟨b,o+4,none⟩)) w:=by kernel_rfl
theorem Ru(b:Nat)(w:World):(Instr.fieldAt 220 (.pointer (some ⟨b,0,none⟩)) 0).run Tryz.prog w=.ok (.pointer (some ⟨b,0,none⟩)) w:=by kernel_rfl
theorem N1(b o:Nat)(w:World):(Instr.fieldAt 165 (.pointer (some ⟨b,o,none⟩)) 1).run Tryz.prog w=.ok (.pointer (some ⟨b,o+5,none⟩)) w:=by kernel_rfl
theorem N2(b o:Nat)(w:World):(Instr.fieldAt 165 (.pointer (some ⟨b,o,none⟩)) 2).run Tryz.prog w=.ok (.pointer (some ⟨b,o+6,none⟩)) w:=by kernel_rfl
theorem OU:One Tryz.prog 163:=by unfold One;exact⟨by kernel_rfl,by kernel_rfl⟩
theorem Ms:DO Tryz.prog 220 2:=by unfold DO;exact⟨by kernel_rfl,by kernel_rfl⟩
theorem SS:Bl Tryz.prog 174:=by unfold Bl;kernel_rfl
theorem Rv:(Tryz.prog.info? 115).map (fun i=>(i.zero,i.size,i.bytes))=some (some (.agg #[I 0,I 0,.bool false]),3,24):=by kernel_rfl
theorem SU:Bl Tryz.prog 139:=by unfold Bl;kernel_rfl
theorem SV:Bl Tryz.prog 137:=by unfold Bl;kernel_rfl
theorem Ji:Bl Tryz.prog 35:=by unfold Bl;kernel_rfl
theorem N3:Bl Tryz.prog 85:=by unfold Bl;kernel_rfl
theorem T3:Bl Tryz.prog 86:=by unfold Bl;kernel_rfl
theorem L3:Bl Tryz.prog 87:=by unfold Bl;kernel_rfl
theorem N4:(Tryz.prog.info? 183).bind (·.zero)=some (.agg #[.nilFunc]):=by kernel_rfl
theorem Qw:(Tryz.prog.info? 183).map (·.size)=some 1:=by kernel_rfl
theorem N5(b:Nat)(w:World):(Instr.fieldAt 183 (.pointer (some ⟨b,0,none⟩)) 0).run Tryz.prog w=.ok (.pointer (some ⟨b,0,none⟩)) w:=by kernel_rfl
theorem OV:One Tryz.prog 180:=by unfold One;exact⟨by kernel_rfl,by kernel_rfl⟩
theorem OW:Bl Tryz.prog 107:=by unfold Bl;kernel_rfl
theorem OX:Bl Tryz.prog 103:=by unfold Bl;kernel_rfl
theorem Rw:(Tryz.prog.info? 162).bind (·.zero)=some (.pointer none):=by kernel_rfl
theorem SW:Bl Tryz.prog 176:=by unfold Bl;kernel_rfl
theorem Io:One Tryz.prog 162:=by unfold One;exact⟨by kernel_rfl,by kernel_rfl⟩
theorem Qx(w:World):(Op.equal 162 (.pointer none) (.pointer none)).run Tryz.prog w=.ok true w:=by kernel_rfl
theorem Qy:(Tryz.prog.info? 162).map (·.size)=some 1:=by kernel_rfl
theorem Mt:One Tryz.prog 223:=by unfold One;exact⟨by kernel_rfl,by kernel_rfl⟩
theorem Gq:One Tryz.prog 64:=by unfold One;exact⟨by kernel_rfl,by kernel_rfl⟩
theorem Qz(ad:Addr)(w:World):(Op.equal 162 (.pointer (some ad)) (.pointer none)).run Tryz.prog w=.ok false w:=by kernel_rfl
theorem SX:Bl Tryz.prog 177:=by unfold Bl;kernel_rfl
theorem SY:Bl Tryz.prog 199:=by unfold Bl;kernel_rfl
theorem IJ:(Tryz.prog.info? 178).bind (·.zero)=some (.agg #[I 0,I 0,I 0,I 0]):=by kernel_rfl
theorem SZ:Bl Tryz.prog 147:=by unfold Bl;kernel_rfl
theorem OY:Bl Tryz.prog 146:=by unfold Bl;kernel_rfl
theorem Ip:DO Tryz.prog 178 4:=by unfold DO;exact⟨by kernel_rfl,by kernel_rfl⟩
theorem Jj:(Tryz.prog.info? 178).map (·.size)=some 4:=by kernel_rfl
theorem S0:Bl Tryz.prog 148:=by unfold Bl;kernel_rfl
theorem T4:Bl Tryz.prog 96:=by unfold Bl;kernel_rfl
theorem N6:Bl Tryz.prog 98:=by unfold Bl;kernel_rfl
theorem QA:Bl Tryz.prog 99:=by unfold Bl;kernel_rfl
theorem H5:Bl Tryz.prog 41:=by unfold Bl;kernel_rfl
theorem QB:Bl Tryz.prog 30:=by unfold Bl;kernel_rfl
theorem S1:Bl Tryz.prog 152:=by unfold Bl;kernel_rfl
theorem Mu:Bl Tryz.prog 106:=by unfold Bl;kernel_rfl
theorem IU:(Tryz.prog.info? 64).map (·.size)=some 1:=by kernel_rfl
theorem S2:DO Tryz.prog 183 1:=by unfold DO;exact⟨by kernel_rfl,by kernel_rfl⟩
theorem S3:Tryz.prog.eqGuardType Tryz.prog.depth 178=false:=by kernel_rfl
theorem S4:KZ Tryz.prog 178 4:=PL Tryz.underlying178 AY Tryz.underlying3
theorem T5:One Tryz.prog 69:=by unfold One;exact⟨by kernel_rfl,by kernel_rfl⟩
theorem OZ:Bl Tryz.prog 151:=by unfold Bl;kernel_rfl
theorem Mw:(Tryz.prog.info? 64).bind (·.zero)=some (.slice none 0 0):=by kernel_rfl
theorem S5:Bl Tryz.prog 105:=by unfold Bl;kernel_rfl
theorem O0:Bl Tryz.prog 104:=by unfold Bl;kernel_rfl
theorem S6:Bl Tryz.prog 108:=by unfold Bl;kernel_rfl
theorem T6:Bl Tryz.prog 27:=by unfold Bl;kernel_rfl
theorem T7:Bl Tryz.prog 34:=by unfold Bl;kernel_rfl
theorem Ve:(Tryz.prog.info? 5).map (·.size)=some 1:=by kernel_rfl
theorem UR:One Tryz.prog 5:=by unfold One;exact⟨by kernel_rfl,by kernel_rfl⟩
theorem Rx:(Tryz.prog.underlying 5).isSome=true:=by kernel_rfl
theorem S7:Bl Tryz.prog 110:=by unfold Bl;kernel_rfl
theorem N7(b o:Nat)(w:World):(Instr.fieldAt 118 (.pointer (some ⟨b,o,none⟩)) 3).run Tryz.prog w=.ok (.pointer (some ⟨b,o+4,none⟩)) w:=by kernel_rfl
theorem HM:Bl Tryz.prog 82:=by unfold Bl;kernel_rfl
theorem T8:Bl Tryz.prog 83:=by unfold Bl;kernel_rfl
theorem QC:Bl Tryz.prog 40:=by unfold Bl;kernel_rfl
theorem KB:Bl Tryz.prog 50:=by unfold Bl;kernel_rfl
theorem KC:Bl Tryz.prog 51:=by unfold Bl;kernel_rfl
theorem KD:Bl Tryz.prog 52:=by unfold Bl;kernel_rfl
theorem QD:Bl Tryz.prog 61:=by unfold Bl;kernel_rfl
theorem T9:Bl Tryz.prog 84:=by unfold Bl;kernel_rfl
theorem Ua:Bl Tryz.prog 48:=by unfold Bl;kernel_rfl
theorem Ub:Bl Tryz.prog 49:=by unfold Bl;kernel_rfl
theorem Uc:Bl Tryz.prog 55:=by unfold Bl;kernel_rfl
theorem KE:Bl Tryz.prog 29:=by unfold Bl;kernel_rfl
theorem Fl:Bl Tryz.prog 31:=by unfold Bl;kernel_rfl
theorem L4:Bl Tryz.prog 32:=by unfold Bl;kernel_rfl
theorem Ud:Bl Tryz.prog 56:=by unfold Bl;kernel_rfl
theorem QE:Bl Tryz.prog 59:=by unfold Bl;kernel_rfl
theorem O1:(Tryz.prog.info? 63).bind (·.zero)=some (.agg #[I 0,I 0,I 0,I 0,.slice none 0 0]):=by kernel_rfl
theorem RS:(Tryz.prog.info? 63).map (·.size)=some 5:=by kernel_rfl
theorem US:(Tryz.prog.info? 61).map (·.size)=some 1:=by kernel_rfl
theorem Ry:(Tryz.prog.info? 118).map (fun i=>(i.zero,i.size,i.bytes))=some (some (.agg #[I 0,I 0,I 0,I 0,I 0]),5,40):=by kernel_rfl
theorem QF:Bl Tryz.prog 60:=by unfold Bl;kernel_rfl
end HF
end Go.Proofs.YtkljfdkmjdjpfaaGreat
end
section
set_option linter.unusedVariables false
set_option linter.unusedSimpArgs false
namespace Go.Proofs.YtkljfdkmjdjpfaaGreat
open Go.RowKit Go.WideShapes
set_option maxRecDepth 20000
open HF
attribute [local irreducible] BJ WL CC CW LV BN Es DO One Bl
theorem O2(n:Nat)(b:Int)(e:Int)(f:Int)(Z:Nat→Prop)(w:World)(m:Bool)(d:El n b e f=some m):
 BN Tryz.prog 90 #[I b,I e,I f] w (fun v w'=>Ext w w'∧BW.R w' (ZZ FN [] Z w.heap.size []) v m):=by
 unfold El at d;refine Ba (N:=15) Tryz.func90 rfl rfl (by simp) ?_;intro o h p;have g:=AM (i:=0) (v:=I b) h rfl;have k:=AM (i:=1) (v:=I e) h rfl;have l:=AM (i:=2) (v:=I f) h rfl;clear h;have j:Hp FN [] w [] w:=Hp.start (BQ.none w);refine Ae<|Ab<|wa rfl (v:=.bool false) rfl<|Af<|Aa<|Ae<|Ab<|wm rfl (v:=I e) k<|wm rfl (v:=I b) g<|wd rfl (fun st=>FP (ee st rfl) (ee st rfl))<|wm rfl (v:=.bool (decide (e≤b))) rfl ?_;rcases Ap (decide (e≤b)) with a|a
 ·replace d:=AB d a;refine Aq rfl rfl (Ad rfl a) rfl (by decide) (fun st=>AR (v:=I b) (ee st g))<|Aq rfl rfl (Ad rfl a) rfl (by decide) (fun st=>AR (v:=I f) (ee st l))<|Aq rfl rfl (Ad rfl a) rfl (by decide) (fun st=>FP (ee st rfl) (ee st rfl))<|wd rfl (fun st=>AX (v:=.bool (decide (b≤f))) (ee st rfl) a (ee st rfl))<|wa rfl (v:=.bool (decide (b≤f))) rfl<|Af<|Aa<|AI ?_;obtain rfl:=Option.some.inj d;refine AS rfl rfl ?_;exact⟨j.Bs,rfl⟩
 ·replace d:=AD d a;refine Ak (c:=false) rfl rfl (Ad rfl a) (by decide) rfl (by decide)<|Ak (c:=false) rfl rfl (Ad rfl a) (by decide) rfl (by decide)<|Ak (c:=false) rfl rfl (Ad rfl a) (by decide) rfl (by decide)<|wd rfl (fun st=>Bh (v:=.bool false) (ee st rfl) a (ee st rfl))<|wa rfl (v:=.bool false) rfl<|Af<|Aa<|AI ?_;obtain rfl:=Option.some.inj d;refine AS rfl rfl ?_;exact⟨j.Bs,rfl⟩
theorem U1(m:Nat)(a:CU)(Z:Nat→Prop)(w:World)(f:Int)(b:E9 m a=some f):
 BN Tryz.prog 94 #[.agg #[I a.Lo,I a.Hi]] w (fun v w'=>Ext w w'∧(FQ .i64).R w' (ZZ FN [] Z w.heap.size []) v f):=by
 unfold E9 at b;refine Ba (N:=9) Tryz.func94 rfl rfl (by simp) ?_;intro n g o;have e:=AM (i:=0) (v:=.agg #[I a.Lo,I a.Hi]) g rfl;clear g;have d:Hp FN [] w [] w:=Hp.start (BQ.none w);refine Ae<|Ab<|we rfl (fun st=>B3 (v:=.agg #[I a.Lo,I a.Hi]) (cs:= #[I a.Lo,I a.Hi]) (ee st e) rfl) ?_;rintro _ w1 ⟨p,rfl,c⟩;have h:=d.nb c;have l:=d.BO c;refine wa rfl (v:=I 0) rfl<|Af<|Aa<|Ae<|Ab<|wd rfl (fun st=>An (ee st rfl) (JM _ _))<|wd rfl (fun st=>Au (v:=I a.Hi) AY (ee st rfl) c.bk rfl)<|wd rfl (fun st=>An (ee st rfl) (JN _ _))<|wd rfl (fun st=>Au (v:=I a.Lo) AY (ee st rfl) c.bk rfl) ?_;replace b:=AZ b;obtain⟨j,b⟩:=b;refine wd rfl (fun st=>O9 (ee st rfl) (ee st rfl) j) ?_;replace b:=AZ b;obtain⟨k,b⟩:=b;refine wd rfl (fun st=>BE (ee st rfl) (ee st rfl) k)<|wa rfl (v:=I ((a.Hi-a.Lo)+1)) rfl<|Af<|Aa<|AI ?_;obtain rfl:=Option.some.inj b;refine AS rfl rfl ?_;exact⟨h.Bs,rfl⟩
theorem Vf(p:Nat)(a:CU)(g:Int)(Z:Nat→Prop)(w:World)(n:Bool)(e:G5 p a g=some n):
 BN Tryz.prog 140 #[.agg #[I a.Lo,I a.Hi],I g] w (fun v w'=>Ext w w'∧BW.R w' (ZZ FN [] Z w.heap.size []) v n):=by
 unfold G5 at e;refine Ba (N:=21) Tryz.func140 rfl rfl (by simp) ?_;intro q k r;have l:=AM (i:=0) (v:=.agg #[I a.Lo,I a.Hi]) k rfl;have m:=AM (i:=1) (v:=I g) k rfl;clear k;have j:Hp FN [] w [] w:=Hp.start (BQ.none w);refine Ae<|Ab<|we rfl (fun st=>B3 (v:=.agg #[I a.Lo,I a.Hi]) (cs:= #[I a.Lo,I a.Hi]) (ee st l) rfl) ?_;rintro _ w1 ⟨s,rfl,f⟩;have h:=j.nb f;have o:=j.BO f;refine wa rfl (v:=.bool false) rfl<|Af<|Aa<|Ae<|Ab<|wd rfl (fun st=>An (ee st rfl) (JN _ _))<|wd rfl (fun st=>Au (v:=I a.Lo) AY (ee st rfl) f.bk rfl)<|wd rfl (fun st=>FP (ee st rfl) (ee st rfl))<|wm rfl (v:=.bool (decide ((0:Int)≤a.Lo))) rfl ?_;rcases Ap (decide ((0:Int)≤a.Lo)) with b|b
 ·replace e:=AB e b;refine Aq rfl rfl (Ad rfl b) rfl (by decide) (fun st=>An (ee st rfl) (JN _ _))<|Aq rfl rfl (Ad rfl b) rfl (by decide) (fun st=>Au (v:=I a.Lo) AY (ee st rfl) f.bk rfl)<|Aq rfl rfl (Ad rfl b) rfl (by decide) (fun st=>An (ee st rfl) (JM _ _))<|Aq rfl rfl (Ad rfl b) rfl (by decide) (fun st=>Au (v:=I a.Hi) AY (ee st rfl) f.bk rfl)<|Aq rfl rfl (Ad rfl b) rfl (by decide) (fun st=>FP (ee st rfl) (ee st rfl))<|wd rfl (fun st=>AX (v:=.bool (decide (a.Lo≤a.Hi))) (ee st rfl) b (ee st rfl))<|wm rfl (v:=.bool (decide (a.Lo≤a.Hi))) rfl ?_;rcases Ap (decide (a.Lo≤a.Hi)) with d|d
  ·replace e:=AB e d;refine Aq rfl rfl (Ad rfl d) rfl (by decide) (fun st=>An (ee st rfl) (JM _ _))<|Aq rfl rfl (Ad rfl d) rfl (by decide) (fun st=>Au (v:=I a.Hi) AY (ee st rfl) f.bk rfl)<|Aq rfl rfl (Ad rfl d) rfl (by decide) (fun st=>AR (v:=I g) (ee st m))<|Aq rfl rfl (Ad rfl d) rfl (by decide) (fun st=>FP (ee st rfl) (ee st rfl))<|wd rfl (fun st=>AX (v:=.bool (decide (a.Hi≤g))) (ee st rfl) d (ee st rfl))<|wa rfl (v:=.bool (decide (a.Hi≤g))) rfl<|Af<|Aa<|AI ?_;obtain rfl:=Option.some.inj e;refine AS rfl rfl ?_;exact⟨h.Bs,rfl⟩
  ·replace e:=AD e d;refine Ak (c:=false) rfl rfl (Ad rfl d) (by decide) rfl (by decide)<|Ak (c:=false) rfl rfl (Ad rfl d) (by decide) rfl (by decide)<|Ak (c:=false) rfl rfl (Ad rfl d) (by decide) rfl (by decide)<|Ak (c:=false) rfl rfl (Ad rfl d) (by decide) rfl (by decide)<|wd rfl (fun st=>Bh (v:=.bool false) (ee st rfl) d (ee st rfl))<|wa rfl (v:=.bool false) rfl<|Af<|Aa<|AI ?_;obtain rfl:=Option.some.inj e;refine AS rfl rfl ?_;exact⟨h.Bs,rfl⟩
 ·replace e:=AD e b;refine Ak (c:=false) rfl rfl (Ad rfl b) (by decide) rfl (by decide)<|Ak (c:=false) rfl rfl (Ad rfl b) (by decide) rfl (by decide)<|Ak (c:=false) rfl rfl (Ad rfl b) (by decide) rfl (by decide)<|Ak (c:=false) rfl rfl (Ad rfl b) (by decide) rfl (by decide)<|Ak (c:=false) rfl rfl (Ad rfl b) (by decide) rfl (by decide)<|wd rfl (fun st=>Bh (v:=.bool false) (ee st rfl) b (ee st rfl))<|wm rfl (v:=.bool false) rfl<|Ak rfl rfl rfl (by decide) rfl (by decide)<|Ak rfl rfl rfl (by decide) rfl (by decide)<|Ak rfl rfl rfl (by decide) rfl (by decide)<|Ak rfl rfl rfl (by decide) rfl (by decide)<|wd rfl (fun st=>Bh (v:=.bool false) (ee st rfl) rfl (ee st rfl))<|wa rfl (v:=.bool false) rfl<|Af<|Aa<|AI ?_;obtain rfl:=Option.some.inj e;refine AS rfl rfl ?_;exact⟨h.Bs,rfl⟩
theorem a141(d:Nat)(b:Int)(Z:Nat→Prop)(w:World)(e:Bool)(a:GU d b=some e):
 BN Tryz.prog 141 #[I b] w (fun v w'=>Ext w w'∧BW.R w' (ZZ FN [] Z w.heap.size []) v e):=by
 unfold GU at a;refine Ba (N:=5) Tryz.func141 rfl rfl (by simp) ?_;intro l f m;have c:=AM (i:=0) (v:=I b) f rfl;clear f;have g:Hp FN [] w [] w:=Hp.start (BQ.none w);refine Ae<|Ab<|wa rfl (v:=.bool false) rfl<|Af<|Aa<|Ae<|Ab<|wm rfl (v:=I b) c ?_;replace a:=bind_some a;obtain⟨r1,h,a⟩:=a;refine we rfl (fun st=>AG Jf (ee st rfl) (FX (ee st rfl) (ee st rfl) (ee st rfl)) (O2 d b 1 5 ZA _ r1 h)) ?_;rintro _ w2 ⟨j,rfl⟩;have k:=g.ext j;refine wa rfl (v:=.bool r1) rfl<|Af<|Aa<|AI ?_;obtain rfl:=Option.some.inj a;refine AS rfl rfl ?_;exact⟨k.Bs,rfl⟩
theorem a46(n:Nat)(b:Int)(e:Int)(f:Int)(Z:Nat→Prop)(w:World)(m:Bool)(d:DY n b e f=some m):
 BN Tryz.prog 46 #[I b,I e,I f] w (fun v w'=>Ext w w'∧BW.R w' (ZZ FN [] Z w.heap.size []) v m):=by
 unfold DY at d;refine Ba (N:=15) Tryz.func46 rfl rfl (by simp) ?_;intro o h p;have g:=AM (i:=0) (v:=I b) h rfl;have k:=AM (i:=1) (v:=I e) h rfl;have l:=AM (i:=2) (v:=I f) h rfl;clear h;have j:Hp FN [] w [] w:=Hp.start (BQ.none w);refine Ae<|Ab<|wa rfl (v:=.bool false) rfl<|Af<|Aa<|Ae<|Ab<|wm rfl (v:=I b) g<|wm rfl (v:=I e) k<|wd rfl (fun st=>Lv (ee st rfl) (ee st rfl))<|wm rfl (v:=.bool (decide (e≤b))) rfl ?_;rcases Ap (decide (e≤b)) with a|a
 ·replace d:=AB d a;refine Aq rfl rfl (Ad rfl a) rfl (by decide) (fun st=>AR (v:=I b) (ee st g))<|Aq rfl rfl (Ad rfl a) rfl (by decide) (fun st=>AR (v:=I f) (ee st l))<|Aq rfl rfl (Ad rfl a) rfl (by decide) (fun st=>FP (ee st rfl) (ee st rfl))<|wd rfl (fun st=>AX (v:=.bool (decide (b≤f))) (ee st rfl) a (ee st rfl))<|wa rfl (v:=.bool (decide (b≤f))) rfl<|Af<|Aa<|AI ?_;obtain rfl:=Option.some.inj d;refine AS rfl rfl ?_;exact⟨j.Bs,rfl⟩
 ·replace d:=AD d a;refine Ak (c:=false) rfl rfl (Ad rfl a) (by decide) rfl (by decide)<|Ak (c:=false) rfl rfl (Ad rfl a) (by decide) rfl (by decide)<|Ak (c:=false) rfl rfl (Ad rfl a) (by decide) rfl (by decide)<|wd rfl (fun st=>Bh (v:=.bool false) (ee st rfl) a (ee st rfl))<|wa rfl (v:=.bool false) rfl<|Af<|Aa<|AI ?_;obtain rfl:=Option.some.inj d;refine AS rfl rfl ?_;exact⟨j.Bs,rfl⟩
theorem Vg(m:Nat)(a:CU)(Z:Nat→Prop)(w:World)(f:Int)(b:FB m a=some f):
 BN Tryz.prog 136 #[.agg #[I a.Lo,I a.Hi]] w (fun v w'=>Ext w w'∧(FQ .i64).R w' (ZZ FN [] Z w.heap.size []) v f):=by
 unfold FB at b;refine Ba (N:=9) Tryz.func136 rfl rfl (by simp) ?_;intro n g o;have e:=AM (i:=0) (v:=.agg #[I a.Lo,I a.Hi]) g rfl;clear g;have d:Hp FN [] w [] w:=Hp.start (BQ.none w);refine Ae<|Ab<|we rfl (fun st=>B3 (v:=.agg #[I a.Lo,I a.Hi]) (cs:= #[I a.Lo,I a.Hi]) (ee st e) rfl) ?_;rintro _ w1 ⟨p,rfl,c⟩;have h:=d.nb c;have l:=d.BO c;refine wa rfl (v:=I 0) rfl<|Af<|Aa<|Ae<|Ab<|wd rfl (fun st=>An (ee st rfl) (JO _ _))<|wd rfl (fun st=>Au (v:=I a.Hi) AY (ee st rfl) c.bk rfl)<|wd rfl (fun st=>An (ee st rfl) (JP _ _))<|wd rfl (fun st=>Au (v:=I a.Lo) AY (ee st rfl) c.bk rfl) ?_;replace b:=AZ b;obtain⟨j,b⟩:=b;refine wd rfl (fun st=>O9 (ee st rfl) (ee st rfl) j) ?_;replace b:=AZ b;obtain⟨k,b⟩:=b;refine wd rfl (fun st=>BE (ee st rfl) (ee st rfl) k)<|wa rfl (v:=I ((a.Hi-a.Lo)+1)) rfl<|Af<|Aa<|AI ?_;obtain rfl:=Option.some.inj b;refine AS rfl rfl ?_;exact⟨h.Bs,rfl⟩
theorem Ue(n:Nat)(b:Int)(c:Int)(Z:Nat→Prop)(w:World)(h:Bool)(a:Et n b c=some h):
 BN Tryz.prog 54 #[I b,I c] w (fun v w'=>Ext w w'∧BW.R w' (ZZ FN [] Z w.heap.size []) v h):=by
 unfold Et at a;refine Ba (N:=11) Tryz.func54 rfl rfl (by simp) ?_;intro o e p;have f:=AM (i:=0) (v:=I b) e rfl;have g:=AM (i:=1) (v:=I c) e rfl;clear e;have j:Hp FN [] w [] w:=Hp.start (BQ.none w);refine Ae<|Ab<|wa rfl (v:=.bool false) rfl<|Af<|Aa<|Ae<|Ab<|wm rfl (v:=I b) f<|wm rfl (v:=I c) g ?_;replace a:=Ix a;obtain⟨l,a⟩:=a;refine wd rfl (fun st=>JX (k:=.u64) TU Tryz.underlying32 (ee st rfl) l) ?_;replace a:=MC a;obtain⟨m,a⟩:=a;refine wd rfl (fun st=>RK (ee st rfl) (ee st rfl) m) ?_;replace a:=Hd a;obtain⟨d,a⟩:=a;refine wd rfl (fun st=>Jm (ee st rfl) (ee st rfl) d.1 d.2)<|wd rfl (fun st=>CH (ee st rfl) (ee st rfl))<|wa rfl (v:=.bool (((Fp b c)%2)==1)) rfl<|Af<|Aa<|AI ?_;obtain rfl:=Option.some.inj a;refine AS rfl rfl ?_;exact⟨j.Bs,rfl⟩
theorem U2(s:Nat)(a:Int)(b:Int)(c:Bool)(Z:Nat→Prop)(w:World)(m:Ar)(o:EO s a b c=some m):
 BN Tryz.prog 61 #[I a,I b,.bool c] w (fun v w'=>Ext w w'∧(D4 Cu).R w' (ZZ FN [] Z w.heap.size []) v m):=by
 unfold EO at o;refine Ba (N:=11) Tryz.func61 rfl rfl (by simp) ?_;intro t e u;have h:=AM (i:=0) (v:=I a) e rfl;have j:=AM (i:=1) (v:=I b) e rfl;have k:=AM (i:=2) (v:=.bool c) e rfl;clear e;have f:Hp FN [] w [] w:=Hp.start (BQ.none w);refine Ae<|Ab<|we rfl (fun st=>BI (cs:= #[I 0,I 0,.bool false]) Hn rfl) ?_;rintro _ w1 ⟨x,rfl,d⟩;have p:=f.nb d;have r:=f.BO d;refine Af<|Aa<|Ae<|Ab<|wm rfl (v:=I a) h<|wm rfl (v:=I b) j<|wm rfl (v:=.bool c) k<|wd rfl (fun st=>C7 (vs:= #[(0,I a),(1,I b),(2,.bool c)]) (v:=.agg #[I a,I b,.bool c]) (JZ (ee st rfl) (ee st rfl) (ee st rfl)) (by kernel_rfl))<|Bj rfl rfl (fun st=>Bb (n:=3) (l:=[I a,I b,.bool c]) (B1:= #[I a,I b,.bool c]) (ee st rfl) (ee st rfl) EF d.bk rfl rfl (show 0+3≤3 by decide) (AQ rfl) rfl) ?_;rintro _ w2 g;have q:=p.gr g.gr 0 rfl;refine Af<|Aa<|AI ?_;obtain rfl:=Option.some.inj o;refine GW (v:=.agg #[I a,I b,.bool c]) rfl rfl (Db D6 g.bk rfl rfl) ?_;exact⟨q.Bs,⟨_,rfl,rfl⟩⟩
theorem Vz(n:Nat)(a:Ao)(e:Int)(b:Option Addr)(c:Nat)(Z:Nat→Prop)(w:World)(g:Sl AK w Z b c a.Ac)(o:Bool)(d:FM n a e=some o):
 BN Tryz.prog 96 #[.agg #[I a.Aj,I a.Ah,I a.Am,I a.Av,.slice b a.Ac.length c],I e] w (fun v w'=>Ext w w'∧BW.R w' (ZZ FN [] Z w.heap.size []) v o):=by
 unfold FM at d;refine Ba (N:=11) Tryz.func96 rfl rfl (by simp) ?_;intro y j z;have k:=AM (i:=0) (v:=.agg #[I a.Aj,I a.Ah,I a.Am,I a.Av,.slice b a.Ac.length c]) j rfl;have l:=AM (i:=1) (v:=I e) j rfl;clear j;have h:Hp FN [] w [] w:=Hp.start (BQ.none w);have m:=g.mv (Bp (Z:=Z) (L:=[]) w);refine Ae<|Ab<|we rfl (fun st=>B3 (v:=.agg #[I a.Aj,I a.Ah,I a.Am,I a.Av,.slice b a.Ac.length c]) (cs:= #[I a.Aj,I a.Ah,I a.Am,I a.Av,.slice b a.Ac.length c]) (ee st k) rfl) ?_;rintro _ w1 ⟨aA,rfl,f⟩;have p:=h.nb f;have x:=h.BO f;refine wa rfl (v:=.bool false) rfl<|Af<|Aa<|Ae<|Ab<|wm rfl (v:=I e) l<|wd rfl (fun st=>An (ee st rfl) (C3 _ _))<|wd rfl (fun st=>Au (v:=.slice b a.Ac.length c) Dq (ee st rfl) f.bk rfl)<|wd rfl (fun st=>BY Tryz.underlying73 (ee st rfl)) ?_;replace d:=AZ d;obtain⟨q,d⟩:=d;refine wd rfl (fun st=>O9 (ee st rfl) (ee st rfl) q) ?_;replace d:=bind_some d;obtain⟨r,s,d⟩:=d;refine we rfl (fun st=>AG Jf (ee st rfl) (FX (ee st rfl) (ee st rfl) (ee st rfl)) (O2 n e 0 ((a.Ac.length:Int)-1) ZA _ r s)) ?_;rintro _ aB ⟨t,rfl⟩;have u:=p.ext t;refine wa rfl (v:=.bool r) rfl<|Af<|Aa<|AI ?_;obtain rfl:=Option.some.inj d;refine AS rfl rfl ?_;exact⟨u.Bs,rfl⟩
theorem Uf(s:Nat)(a:Ay)(d:Ar)(Z:Nat→Prop)(w:World)(p:Bool)(f:Dd s a d=some p):
 BN Tryz.prog 97 #[.agg #[I a.As,I a.Az,I a.AO,I a.BM,I a.BP],.agg #[I d.On,I d.Bn,.bool d.AO]] w (fun v w'=>Ext w w'∧BW.R w' (ZZ FN [] Z w.heap.size []) v p):=by
 unfold Dd at f;refine Ba (N:=14) Tryz.func97 rfl rfl (by simp) ?_;intro t m u;have n:=AM (i:=0) (v:=.agg #[I a.As,I a.Az,I a.AO,I a.BM,I a.BP]) m rfl;have o:=AM (i:=1) (v:=.agg #[I d.On,I d.Bn,.bool d.AO]) m rfl;clear m;have j:Hp FN [] w [] w:=Hp.start (BQ.none w);refine Ae<|Ab<|we rfl (fun st=>B3 (v:=.agg #[I a.As,I a.Az,I a.AO,I a.BM,I a.BP]) (cs:= #[I a.As,I a.Az,I a.AO,I a.BM,I a.BP]) (ee st n) rfl) ?_;rintro _ w1 ⟨x,rfl,g⟩;have k:=j.nb g;have q:=j.BO g;refine we rfl (fun st=>B3 (v:=.agg #[I d.On,I d.Bn,.bool d.AO]) (cs:= #[I d.On,I d.Bn,.bool d.AO]) (ee st o) rfl) ?_;rintro _ w2 ⟨y,rfl,e⟩;have l:=k.nb e;have r:=k.BO e;refine wa rfl (v:=.bool false) rfl<|Af<|Aa<|Ae<|Ab<|wd rfl (fun st=>An (ee st rfl) (Rp _ _))<|wd rfl (fun st=>Au (v:=.bool d.AO) KO (ee st rfl) e.bk rfl)<|wm rfl (v:=.bool d.AO) rfl ?_;rcases Ap (d.AO) with b|b
 ·replace f:=AB f b;refine Aq rfl rfl (Ad rfl b) rfl (by decide) (fun st=>An (ee st rfl) (Ll _ _))<|Aq rfl rfl (Ad rfl b) rfl (by decide) (fun st=>Au (v:=I d.Bn) AY (ee st rfl) e.bk rfl)<|Aq rfl rfl (Ad rfl b) rfl (by decide) (fun st=>An (ee st rfl) (NQ _ _)) ?_;have h:=(g.bk.ext e.gr);refine Aq rfl rfl (Ad rfl b) rfl (by decide) (fun st=>Au (v:=I a.BP) AY (ee st rfl) h rfl)<|Aq rfl rfl (Ad rfl b) rfl (by decide) (fun st=>FP (ee st rfl) (ee st rfl))<|wd rfl (fun st=>AX (v:=.bool (decide (d.Bn≤a.BP))) (ee st rfl) b (ee st rfl))<|wa rfl (v:=.bool (decide (d.Bn≤a.BP))) rfl<|Af<|Aa<|AI ?_;obtain rfl:=Option.some.inj f;refine AS rfl rfl ?_;exact⟨l.Bs,rfl⟩
 ·replace f:=AD f b;refine Ak (c:=false) rfl rfl (Ad rfl b) (by decide) rfl (by decide)<|Ak (c:=false) rfl rfl (Ad rfl b) (by decide) rfl (by decide)<|Ak (c:=false) rfl rfl (Ad rfl b) (by decide) rfl (by decide)<|Ak (c:=false) rfl rfl (Ad rfl b) (by decide) rfl (by decide)<|Ak (c:=false) rfl rfl (Ad rfl b) (by decide) rfl (by decide)<|wd rfl (fun st=>Bh (v:=.bool false) (ee st rfl) b (ee st rfl))<|wa rfl (v:=.bool false) rfl<|Af<|Aa<|AI ?_;obtain rfl:=Option.some.inj f;refine AS rfl rfl ?_;exact⟨l.Bs,rfl⟩
theorem a107(n:Nat)(a:Ay)(b:Ar)(Z:Nat→Prop)(w:World)(o:Bool)(d:Eg n a b=some o):
 BN Tryz.prog 107 #[.agg #[I a.As,I a.Az,I a.AO,I a.BM,I a.BP],.agg #[I b.On,I b.Bn,.bool b.AO]] w (fun v w'=>Ext w w'∧BW.R w' (ZZ FN [] Z w.heap.size []) v o):=by
 unfold Eg at d;refine Ba (N:=9) Tryz.func107 rfl rfl (by simp) ?_;intro y j z;have k:=AM (i:=0) (v:=.agg #[I a.As,I a.Az,I a.AO,I a.BM,I a.BP]) j rfl;have m:=AM (i:=1) (v:=.agg #[I b.On,I b.Bn,.bool b.AO]) j rfl;clear j;have g:Hp FN [] w [] w:=Hp.start (BQ.none w);refine Ae<|Ab<|we rfl (fun st=>B3 (v:=.agg #[I a.As,I a.Az,I a.AO,I a.BM,I a.BP]) (cs:= #[I a.As,I a.Az,I a.AO,I a.BM,I a.BP]) (ee st k) rfl) ?_;rintro _ w1 ⟨aA,rfl,e⟩;have h:=g.nb e;have u:=g.BO e;refine we rfl (fun st=>B3 (v:=.agg #[I b.On,I b.Bn,.bool b.AO]) (cs:= #[I b.On,I b.Bn,.bool b.AO]) (ee st m) rfl) ?_;rintro _ w2 ⟨aB,rfl,c⟩;have p:=h.nb c;have x:=h.BO c;refine wa rfl (v:=.bool false) rfl<|Af<|Aa<|Ae<|Ab ?_;have f:=(e.bk.ext c.gr);refine wd rfl (fun st=>A8 (l:=[I a.As,I a.Az,I a.AO,I a.BM,I a.BP]) Hs (ee st rfl) f rfl rfl)<|wd rfl (fun st=>A8 (l:=[I b.On,I b.Bn,.bool b.AO]) D6 (ee st rfl) c.bk rfl rfl) ?_;replace d:=bind_some d;obtain⟨q,r,d⟩:=d;refine we rfl (fun st=>AG NR (ee st rfl) (Ee (ee st rfl) (ee st rfl)) (Uf n a b ZA _ q r)) ?_;rintro _ aC ⟨s,rfl⟩;have t:=p.ext s;refine wd rfl (fun st=>Dz (ee st rfl))<|wa rfl (v:=.bool !q) rfl<|Af<|Aa<|AI ?_;obtain rfl:=Option.some.inj d;refine AS rfl rfl ?_;exact⟨t.Bs,rfl⟩
end Go.Proofs.YtkljfdkmjdjpfaaGreat
end
section
set_option linter.unusedVariables false
set_option linter.unusedSimpArgs false
namespace Go.Proofs.YtkljfdkmjdjpfaaGreat
open Go.RowKit Go.WideShapes
set_option maxRecDepth 20000
open HF
attribute [local irreducible] BJ WL CC CW LV BN Es DO One Bl
theorem VA(aW:Nat)(b:Ao)(z:Int)(h:Option Addr)(j:Nat)(Z:Nat→Prop)(w:World)(cA:Sl AK w Z h j b.Ac)(c8:Bool)(a:Er aW b z=some c8):
 BN Tryz.prog 95 #[.agg #[I b.Aj,I b.Ah,I b.Am,I b.Av,.slice h b.Ac.length j],I z] w (fun v w'=>Ext w w'∧BW.R w' (ZZ FN [] Z w.heap.size []) v c8):=by
 unfold Er at a;refine Ba (N:=46) Tryz.func95 rfl rfl (by simp) ?_;intro dV cL dW;have cM:=AM (i:=0) (v:=.agg #[I b.Aj,I b.Ah,I b.Am,I b.Av,.slice h b.Ac.length j]) cL rfl;have cN:=AM (i:=1) (v:=I z) cL rfl;clear cL;have cI:Hp FN [] w [] w:=Hp.start (BQ.none w);have bM:=cA.mv (Bp (Z:=Z) (L:=[]) w);refine Ae<|Ab<|we rfl (fun st=>B3 (v:=.agg #[I b.Aj,I b.Ah,I b.Am,I b.Av,.slice h b.Ac.length j]) (cs:= #[I b.Aj,I b.Ah,I b.Am,I b.Av,.slice h b.Ac.length j]) (ee st cM) rfl) ?_;rintro _ w1 ⟨m,rfl,bF⟩;have c9:=cI.nb bF;have dO:=cI.BO bF;refine wa rfl (v:=.bool false) rfl<|Af<|Aa<|Ae<|Ab<|wa rfl (v:=I 0) rfl<|Af<|Aa<|Ae<|Ae<|Ab<|wa rfl (v:=I 0) rfl<|Af<|Aa<|Be ?_;replace a:=bind_some a;obtain⟨z2,aX,a⟩:=a;refine Cr (fun aZ d o=>(aZ=.ret∧∃aI,z2=.inl aI∧d.tmps.size=46∧d.defers=(X0).ds∧sl d 4=.bool aI∧Hp FN [] w [some m] o)∨(aZ=.exit 0∧∃aI,z2=.inr aI∧d.tmps.size=46∧d.defers=(X0).ds∧sl d 2=pt m 0∧sl d 5=I aI∧Hp FN [] w [some m] o∧Bk o m 63 #[I b.Aj,I b.Ah,I b.Am,I b.Av,.slice h b.Ac.length j]∧Sl AK o (ZZ FN [] Z w.heap.size [some m]) h j b.Ac)) ?dA ?dB
 case dA=>
  clear a;refine Cq (fun(aG:Nat) (d:Act) (o:World)=>∃n,∃e,CJ aW b z aG n e=some z2∧d.tmps.size=46∧d.defers=(X0).ds∧sl d 1=I z∧sl d 2=pt m 0∧sl d 5=I n∧sl d 6=I e∧Hp FN [] w [some m] o∧Bk o m 63 #[I b.Aj,I b.Ah,I b.Am,I b.Av,.slice h b.Ac.length j]∧Sl AK o (ZZ FN [] Z w.heap.size [some m]) h j b.Ac) aW ?dC ?dD
  case dC=>
   intro st;have bN:=(bM.mv (Aw bF));exact⟨(0:Int),(0:Int),aX,qz st,qd st,sp st 1 cN,sp st 2 rfl,sp st 5 rfl,sp st 6 rfl,c9,bF.bk,bN⟩
  case dD=>
   rintro(_|aG) dX dY ⟨n,e,aX,cO,cP,a0,aQ,a2,aC,cJ,aJ,aH⟩
   ·exact absurd (show none=some _ from aX) (by simp)
   rw[CJ.eq_2] at aX;have a:=aX;clear aX;refine Ca (N:=46) cO cP<|Ae<|Ae<|Ab<|wm rfl (v:=I e) aC<|wd rfl (fun st=>An (ee st aQ) (Gg _ _))<|wd rfl (fun st=>Au (v:=I b.Aj) AY (ee st rfl) aJ rfl)<|wd rfl (fun st=>FP (ee st rfl) (ee st rfl))<|Af<|Aa ?_;rcases Ap (decide (e≤b.Aj)) with a6|a6
   ·replace a:=AB a a6;refine AE rfl a6<|AV<|Aa<|Ae<|Be<|Ae<|Ae<|Ab<|wm rfl (v:=I z) a0<|wm rfl (v:=I e) aC ?_;replace a:=bind_some a;obtain⟨dE,dF,a⟩:=a;refine we rfl (fun st=>AG NS (ee st rfl) (Ee (ee st rfl) (ee st rfl)) (Ue aW z e ZA _ dE dF)) ?_;rintro _ d5 ⟨a7,rfl⟩;have cK:=cJ.ext a7;refine Af<|Aa ?_;rcases Ap (dE) with a8|a8
    ·replace a:=AB a a8;refine AE rfl a8<|Ab<|wm rfl (v:=I n) a2 ?_;replace a:=AZ a;obtain⟨dG,a⟩:=a;refine wd rfl (fun st=>BE (ee st rfl) (ee st rfl) dG)<|wa rfl (v:=I (n+1)) rfl<|Af<|Aa<|Ae<|Ab<|wa rfl (v:=.bool true) rfl<|Af<|Aa<|Ae<|Ae<|Ab<|wm rfl (v:=I e) aC<|wa rfl (v:=I e) rfl<|Af<|Aa<|Be ?_;replace a:=bind_some a;obtain⟨cB,aY,a⟩:=a;refine Cr (fun aZ d o=>(aZ=.exit 2∧d.tmps.size=46∧d.defers=(X0).ds∧sl d 1=I z∧sl d 2=pt m 0∧sl d 5=I (n+1)∧sl d 6=I e∧sl d 7=.bool cB∧Hp FN [] w [some m] o∧Bk o m 63 #[I b.Aj,I b.Ah,I b.Am,I b.Av,.slice h b.Ac.length j]∧Sl AK o (ZZ FN [] Z w.heap.size [some m]) h j b.Ac)) ?dH ?dI
     case dH=>
      clear a;refine Cq (fun(aG:Nat) (d:Act) (o:World)=>∃aN,∃g,Cm aW b z e aG aN g=some cB∧d.tmps.size=46∧d.defers=(X0).ds∧sl d 1=I z∧sl d 2=pt m 0∧sl d 5=I (n+1)∧sl d 6=I e∧sl d 7=.bool aN∧sl d 8=I g∧Hp FN [] w [some m] o∧Bk o m 63 #[I b.Aj,I b.Ah,I b.Am,I b.Av,.slice h b.Ac.length j]∧Sl AK o (ZZ FN [] Z w.heap.size [some m]) h j b.Ac) aW ?dJ ?dK
      case dJ=>
       intro st;have a3:=(aJ.ext a7);have aO:=(aH.mv (Ag a7));exact⟨true,e,aY,qz st,qd st,sp st 1 a0,sp st 2 aQ,sp st 5 rfl,sp st 6 aC,sp st 7 rfl,sp st 8 rfl,cK,a3,aO⟩
      case dK=>
       rintro(_|aG) dZ d0 ⟨aN,g,aY,cQ,cR,aK,aD,aR,aL,bG,aE,bH,t,y⟩
       ·exact absurd (show none=some _ from aY) (by simp)
       rw[Cm.eq_2] at aY;have a:=aY;clear aY;refine Ca (N:=46) cQ cR<|Ae<|Ae<|Ab<|wm rfl (v:=I g) aE<|wm rfl (v:=I e) aL<|wd rfl (fun st=>An (ee st aD) (KP _ _))<|wd rfl (fun st=>Au (v:=I b.Av) AY (ee st rfl) t rfl) ?_;replace a:=AZ a;obtain⟨dL,a⟩:=a;refine wd rfl (fun st=>BE (ee st rfl) (ee st rfl) dL)<|wd rfl (fun st=>FP (ee st rfl) (ee st rfl))<|Af<|Aa ?_;rcases Ap (decide (g≤(e+b.Av))) with aS|aS
       ·replace a:=AB a aS;refine AE rfl aS<|AV<|Aa<|Ae<|Be<|Ab<|wm rfl (v:=.bool aN) bG<|wm rfl (v:=.bool aN) rfl ?_;rcases Ap (aN) with k|k
        ·replace a:=AB a k;refine Aq rfl rfl (Ad rfl k) rfl (by decide) (fun st=>AR (v:=I g) (ee st aE))<|Aq rfl rfl (Ad rfl k) rfl (by decide) (fun st=>An (ee st aD) (Gg _ _))<|Aq rfl rfl (Ad rfl k) rfl (by decide) (fun st=>Au (v:=I b.Aj) AY (ee st rfl) t rfl)<|Aq rfl rfl (Ad rfl k) rfl (by decide) (fun st=>FP (ee st rfl) (ee st rfl))<|wd rfl (fun st=>AX (v:=.bool (decide (g≤b.Aj))) (ee st rfl) k (ee st rfl))<|wm rfl (v:=.bool (decide (g≤b.Aj))) rfl ?_;rcases Ap (decide (g≤b.Aj)) with q|q
         ·replace a:=AB a q;refine Aq rfl rfl (Ad rfl q) rfl (by decide) (fun st=>AR (v:=I z) (ee st aK))<|Aq rfl rfl (Ad rfl q) rfl (by decide) (fun st=>AR (v:=I g) (ee st aE)) ?_;replace a:=bind_some a;obtain⟨bI,cS,a⟩:=a;refine DA rfl rfl (Ad rfl q) rfl (by decide) (fun st=>AG NS (ee st rfl) (Ee (ee st rfl) (ee st rfl)) (Ue aW z g ZA _ bI cS)) ?_;rintro _ d1 ⟨bB,rfl⟩;have dM:=bH.ext bB;refine wd rfl (fun st=>AX (v:=.bool bI) (ee st rfl) q (ee st rfl))<|wa rfl (v:=.bool bI) rfl<|Af<|Bq<|Aa<|Ab<|wm rfl (v:=I g) aE ?_;replace a:=AZ a;obtain⟨cT,a⟩:=a;refine wd rfl (fun st=>BE (ee st rfl) (ee st rfl) cT)<|wa rfl (v:=I (g+1)) rfl<|Af ?_;have cC:=(t.ext bB);have bO:=(y.mv (Ag bB));refine BD aG (Nat.lt_succ_self _) (fun st=>?_);exact⟨bI,(g+1),a,qz st,qd st,sp st 1 aK,sp st 2 aD,sp st 5 aR,sp st 6 aL,sp st 7 rfl,sp st 8 rfl,dM,cC,bO⟩
         ·replace a:=AD a q;refine Ak (c:=false) rfl rfl (Ad rfl q) (by decide) rfl (by decide)<|Ak (c:=false) rfl rfl (Ad rfl q) (by decide) rfl (by decide)<|Ak (c:=false) rfl rfl (Ad rfl q) (by decide) rfl (by decide)<|wd rfl (fun st=>Bh (v:=.bool false) (ee st rfl) q (ee st rfl))<|wa rfl (v:=.bool false) rfl<|Af<|Bq<|Aa<|Ab<|wm rfl (v:=I g) aE ?_;replace a:=AZ a;obtain⟨cU,a⟩:=a;refine wd rfl (fun st=>BE (ee st rfl) (ee st rfl) cU)<|wa rfl (v:=I (g+1)) rfl<|Af ?_;refine BD aG (Nat.lt_succ_self _) (fun st=>?_);exact⟨false,(g+1),a,qz st,qd st,sp st 1 aK,sp st 2 aD,sp st 5 aR,sp st 6 aL,sp st 7 rfl,sp st 8 rfl,bH,t,y⟩
        ·replace a:=AD a k;refine Ak (c:=false) rfl rfl (Ad rfl k) (by decide) rfl (by decide)<|Ak (c:=false) rfl rfl (Ad rfl k) (by decide) rfl (by decide)<|Ak (c:=false) rfl rfl (Ad rfl k) (by decide) rfl (by decide)<|Ak (c:=false) rfl rfl (Ad rfl k) (by decide) rfl (by decide)<|wd rfl (fun st=>Bh (v:=.bool false) (ee st rfl) k (ee st rfl))<|wm rfl (v:=.bool false) rfl<|Ak rfl rfl rfl (by decide) rfl (by decide)<|Ak rfl rfl rfl (by decide) rfl (by decide)<|Ak rfl rfl rfl (by decide) rfl (by decide)<|wd rfl (fun st=>Bh (v:=.bool false) (ee st rfl) rfl (ee st rfl))<|wa rfl (v:=.bool false) rfl<|Af<|Bq<|Aa<|Ab<|wm rfl (v:=I g) aE ?_;replace a:=AZ a;obtain⟨cV,a⟩:=a;refine wd rfl (fun st=>BE (ee st rfl) (ee st rfl) cV)<|wa rfl (v:=I (g+1)) rfl<|Af ?_;refine BD aG (Nat.lt_succ_self _) (fun st=>?_);exact⟨false,(g+1),a,qz st,qd st,sp st 1 aK,sp st 2 aD,sp st 5 aR,sp st 6 aL,sp st 7 rfl,sp st 8 rfl,bH,t,y⟩
       ·replace a:=AD a aS;refine AL rfl aS<|Cn<|AT<|AT ?_;obtain rfl:=Option.some.inj a;refine B5 (fun st=>?_);exact⟨rfl,qz st,qd st,sp st 1 aK,sp st 2 aD,sp st 5 aR,sp st 6 aL,sp st 7 bG,bH,t,y⟩
     case dI=>
      rintro aZ dQ d2 (⟨rfl,cD,cE,bW,bX,bY,bZ,b1,b2,b3,bC⟩);refine Cx (X:=X0) (N:=46) cD cE<|Bw<|Aa<|Ae<|Ab<|wm rfl (v:=.bool cB) b1<|Af<|Aa ?_;rcases Ap (cB) with aT|aT
      ·replace a:=AB a aT;refine AE rfl aT<|Ae<|Ab<|wa rfl (v:=.bool false) rfl<|Af<|Aa<|AI<|A6<|AA<|AA ?_;obtain rfl:=Option.some.inj a;refine B5 (fun st=>?_);exact .inl ⟨rfl,false,rfl,qz st,qd st,sp st 4 rfl,b2⟩
      ·replace a:=AD a aT;refine AL rfl aT<|AV<|Bq<|Aa<|Ab<|wm rfl (v:=I e) bZ ?_;replace a:=AZ a;obtain⟨cW,a⟩:=a;refine wd rfl (fun st=>BE (ee st rfl) (ee st rfl) cW)<|wa rfl (v:=I (e+1)) rfl<|Af ?_;refine BD aG (Nat.lt_succ_self _) (fun st=>?_);exact⟨(n+1),(e+1),a,qz st,qd st,sp st 1 bW,sp st 2 bX,sp st 5 bY,sp st 6 rfl,b2,b3,bC⟩
    ·replace a:=AD a a8;refine AL rfl a8<|AV<|Aa<|Ae<|Ab<|wa rfl (v:=.bool true) rfl<|Af<|Aa<|Ae<|Ae<|Ab<|wm rfl (v:=I e) aC<|wa rfl (v:=I e) rfl<|Af<|Aa<|Be ?_;replace a:=bind_some a;obtain⟨z20,aP,a⟩:=a;refine Cr (fun aZ d o=>(aZ=.exit 2∧d.tmps.size=46∧d.defers=(X0).ds∧sl d 1=I z∧sl d 2=pt m 0∧sl d 5=I n∧sl d 6=I e∧sl d 7=.bool z20∧Hp FN [] w [some m] o∧Bk o m 63 #[I b.Aj,I b.Ah,I b.Am,I b.Av,.slice h b.Ac.length j]∧Sl AK o (ZZ FN [] Z w.heap.size [some m]) h j b.Ac)) ?cX ?cY
     case cX=>
      clear a;refine Cq (fun(aG:Nat) (d:Act) (o:World)=>∃aF,∃f,Cj aW b z e aG aF f=some z20∧d.tmps.size=46∧d.defers=(X0).ds∧sl d 1=I z∧sl d 2=pt m 0∧sl d 5=I n∧sl d 6=I e∧sl d 7=.bool aF∧sl d 8=I f∧Hp FN [] w [some m] o∧Bk o m 63 #[I b.Aj,I b.Ah,I b.Am,I b.Av,.slice h b.Ac.length j]∧Sl AK o (ZZ FN [] Z w.heap.size [some m]) h j b.Ac) aW ?cZ ?c0
      case cZ=>
       intro st;have a3:=(aJ.ext a7);have aO:=(aH.mv (Ag a7));exact⟨true,e,aP,qz st,qd st,sp st 1 a0,sp st 2 aQ,sp st 5 a2,sp st 6 aC,sp st 7 rfl,sp st 8 rfl,cK,a3,aO⟩
      case c0=>
       rintro(_|aG) dR dS ⟨aF,f,aP,cF,cG,aA,u,aM,aB,a9,x,bJ,p,s⟩
       ·exact absurd (show none=some _ from aP) (by simp)
       rw[Cj.eq_2] at aP;have a:=aP;clear aP;refine Ca (N:=46) cF cG<|Ae<|Ae<|Ab<|wm rfl (v:=I f) x<|wm rfl (v:=I e) aB<|wd rfl (fun st=>An (ee st u) (KP _ _))<|wd rfl (fun st=>Au (v:=I b.Av) AY (ee st rfl) p rfl) ?_;replace a:=AZ a;obtain⟨c1,a⟩:=a;refine wd rfl (fun st=>BE (ee st rfl) (ee st rfl) c1)<|wd rfl (fun st=>FP (ee st rfl) (ee st rfl))<|Af<|Aa ?_;rcases Ap (decide (f≤(e+b.Av))) with aU|aU
       ·replace a:=AB a aU;refine AE rfl aU<|AV<|Aa<|Ae<|Be<|Ab<|wm rfl (v:=.bool aF) a9<|wm rfl (v:=.bool aF) rfl ?_;rcases Ap (aF) with l|l
        ·replace a:=AB a l;refine Aq rfl rfl (Ad rfl l) rfl (by decide) (fun st=>AR (v:=I f) (ee st x))<|Aq rfl rfl (Ad rfl l) rfl (by decide) (fun st=>An (ee st u) (Gg _ _))<|Aq rfl rfl (Ad rfl l) rfl (by decide) (fun st=>Au (v:=I b.Aj) AY (ee st rfl) p rfl)<|Aq rfl rfl (Ad rfl l) rfl (by decide) (fun st=>FP (ee st rfl) (ee st rfl))<|wd rfl (fun st=>AX (v:=.bool (decide (f≤b.Aj))) (ee st rfl) l (ee st rfl))<|wm rfl (v:=.bool (decide (f≤b.Aj))) rfl ?_;rcases Ap (decide (f≤b.Aj)) with r|r
         ·replace a:=AB a r;refine Aq rfl rfl (Ad rfl r) rfl (by decide) (fun st=>AR (v:=I z) (ee st aA))<|Aq rfl rfl (Ad rfl r) rfl (by decide) (fun st=>AR (v:=I f) (ee st x)) ?_;replace a:=bind_some a;obtain⟨bK,c2,a⟩:=a;refine DA rfl rfl (Ad rfl r) rfl (by decide) (fun st=>AG NS (ee st rfl) (Ee (ee st rfl) (ee st rfl)) (Ue aW z f ZA _ bK c2)) ?_;rintro _ d3 ⟨bD,rfl⟩;have dN:=bJ.ext bD;refine wd rfl (fun st=>AX (v:=.bool bK) (ee st rfl) r (ee st rfl))<|wa rfl (v:=.bool bK) rfl<|Af<|Bq<|Aa<|Ab<|wm rfl (v:=I f) x ?_;replace a:=AZ a;obtain⟨c3,a⟩:=a;refine wd rfl (fun st=>BE (ee st rfl) (ee st rfl) c3)<|wa rfl (v:=I (f+1)) rfl<|Af ?_;have cH:=(p.ext bD);have bP:=(s.mv (Ag bD));refine BD aG (Nat.lt_succ_self _) (fun st=>?_);exact⟨bK,(f+1),a,qz st,qd st,sp st 1 aA,sp st 2 u,sp st 5 aM,sp st 6 aB,sp st 7 rfl,sp st 8 rfl,dN,cH,bP⟩
         ·replace a:=AD a r;refine Ak (c:=false) rfl rfl (Ad rfl r) (by decide) rfl (by decide)<|Ak (c:=false) rfl rfl (Ad rfl r) (by decide) rfl (by decide)<|Ak (c:=false) rfl rfl (Ad rfl r) (by decide) rfl (by decide)<|wd rfl (fun st=>Bh (v:=.bool false) (ee st rfl) r (ee st rfl))<|wa rfl (v:=.bool false) rfl<|Af<|Bq<|Aa<|Ab<|wm rfl (v:=I f) x ?_;replace a:=AZ a;obtain⟨c4,a⟩:=a;refine wd rfl (fun st=>BE (ee st rfl) (ee st rfl) c4)<|wa rfl (v:=I (f+1)) rfl<|Af ?_;refine BD aG (Nat.lt_succ_self _) (fun st=>?_);exact⟨false,(f+1),a,qz st,qd st,sp st 1 aA,sp st 2 u,sp st 5 aM,sp st 6 aB,sp st 7 rfl,sp st 8 rfl,bJ,p,s⟩
        ·replace a:=AD a l;refine Ak (c:=false) rfl rfl (Ad rfl l) (by decide) rfl (by decide)<|Ak (c:=false) rfl rfl (Ad rfl l) (by decide) rfl (by decide)<|Ak (c:=false) rfl rfl (Ad rfl l) (by decide) rfl (by decide)<|Ak (c:=false) rfl rfl (Ad rfl l) (by decide) rfl (by decide)<|wd rfl (fun st=>Bh (v:=.bool false) (ee st rfl) l (ee st rfl))<|wm rfl (v:=.bool false) rfl<|Ak rfl rfl rfl (by decide) rfl (by decide)<|Ak rfl rfl rfl (by decide) rfl (by decide)<|Ak rfl rfl rfl (by decide) rfl (by decide)<|wd rfl (fun st=>Bh (v:=.bool false) (ee st rfl) rfl (ee st rfl))<|wa rfl (v:=.bool false) rfl<|Af<|Bq<|Aa<|Ab<|wm rfl (v:=I f) x ?_;replace a:=AZ a;obtain⟨c5,a⟩:=a;refine wd rfl (fun st=>BE (ee st rfl) (ee st rfl) c5)<|wa rfl (v:=I (f+1)) rfl<|Af ?_;refine BD aG (Nat.lt_succ_self _) (fun st=>?_);exact⟨false,(f+1),a,qz st,qd st,sp st 1 aA,sp st 2 u,sp st 5 aM,sp st 6 aB,sp st 7 rfl,sp st 8 rfl,bJ,p,s⟩
       ·replace a:=AD a aU;refine AL rfl aU<|Cn<|AT<|AT ?_;obtain rfl:=Option.some.inj a;refine B5 (fun st=>?_);exact⟨rfl,qz st,qd st,sp st 1 aA,sp st 2 u,sp st 5 aM,sp st 6 aB,sp st 7 a9,bJ,p,s⟩
     case cY=>
      rintro aZ dP dT (⟨rfl,b4,b5,bQ,bR,bS,bT,bU,bL,bV,bA⟩);refine Cx (X:=X0) (N:=46) b4 b5<|Bw<|Aa<|Ae<|Ab<|wm rfl (v:=.bool z20) bU<|Af<|Aa ?_;rcases Ap (z20) with aV|aV
      ·replace a:=AB a aV;refine AE rfl aV<|Ae<|Ab<|wa rfl (v:=.bool false) rfl<|Af<|Aa<|AI<|A6<|AA<|AA ?_;obtain rfl:=Option.some.inj a;refine B5 (fun st=>?_);exact .inl ⟨rfl,false,rfl,qz st,qd st,sp st 4 rfl,bL⟩
      ·replace a:=AD a aV;refine AL rfl aV<|AV<|Bq<|Aa<|Ab<|wm rfl (v:=I e) bT ?_;replace a:=AZ a;obtain⟨c6,a⟩:=a;refine wd rfl (fun st=>BE (ee st rfl) (ee st rfl) c6)<|wa rfl (v:=I (e+1)) rfl<|Af ?_;refine BD aG (Nat.lt_succ_self _) (fun st=>?_);exact⟨n,(e+1),a,qz st,qd st,sp st 1 bQ,sp st 2 bR,sp st 5 bS,sp st 6 rfl,bL,bV,bA⟩
   ·replace a:=AD a a6;refine AL rfl a6<|Cn<|AT<|AT ?_;obtain rfl:=Option.some.inj a;refine B5 (fun st=>?_);exact .inr ⟨rfl,n,rfl,qz st,qd st,sp st 2 aQ,sp st 5 a2,cJ,aJ,aH⟩
 case dB=>
  rintro aZ dU d4 (⟨rfl,aI,rfl,a4,a5,b6,bE⟩|⟨rfl,aI,rfl,a4,a5,b7,b8,bE,b9,c7⟩)
  ·skip
   replace a:=EX a;refine Cx (X:=X0) (N:=46) a4 a5<|A6<|AA ?_;obtain rfl:=Option.some.inj a;refine AS rfl b6 ?_;exact⟨bE.Bs,rfl⟩
  ·skip
   replace a:=EY a;refine Cx (X:=X0) (N:=46) a4 a5<|Bw<|Aa<|Ae<|Ab<|wm rfl (v:=I aI) b8<|wd rfl (fun st=>An (ee st b7) (Mm _ _))<|wd rfl (fun st=>Au (v:=I b.Am) AY (ee st rfl) b9 rfl)<|wd rfl (fun st=>FP (ee st rfl) (ee st rfl))<|wa rfl (v:=.bool (decide (aI≤b.Am))) rfl<|Af<|Aa<|AI ?_;obtain rfl:=Option.some.inj a;refine AS rfl rfl ?_;exact⟨bE.Bs,rfl⟩
theorem Vh(aY:Nat)(c:Ao)(h:Option Addr)(j:Nat)(Z:Nat→Prop)(w:World)(aZ:Sl AK w Z h j c.Ac)(bH:(List Int))(a:ED aY c=some bH):
 BN Tryz.prog 100 #[.agg #[I c.Aj,I c.Ah,I c.Am,I c.Av,.slice h c.Ac.length j]] w (fun v w'=>Ext w w'∧(Gh (Ax .i64)).R w' (ZZ FN [] Z w.heap.size []) v bH):=by
 unfold ED at a;refine Ba (N:=22) Tryz.func100 rfl rfl (by simp) ?_;intro b4 bI b5;have a9:=AM (i:=0) (v:=.agg #[I c.Aj,I c.Ah,I c.Am,I c.Av,.slice h c.Ac.length j]) bI rfl;clear bI;have a7:Hp FN [] w [] w:=Hp.start (BQ.none w);have aM:=aZ.mv (Bp (Z:=Z) (L:=[]) w);refine Ae<|Ab<|we rfl (fun st=>B3 (v:=.agg #[I c.Aj,I c.Ah,I c.Am,I c.Av,.slice h c.Ac.length j]) (cs:= #[I c.Aj,I c.Ah,I c.Am,I c.Av,.slice h c.Ac.length j]) (ee st a9) rfl) ?_;rintro _ w1 ⟨o,rfl,aK⟩;have bJ:=a7.nb aK;have b1:=a7.BO aK;refine wa rfl (v:=.slice none 0 0) rfl<|Af<|Aa<|Ae<|Ab<|wa rfl (v:=.slice none 0 0) rfl<|Af<|Aa<|Ae<|Ae<|Ab<|wa rfl (v:=I 0) rfl<|Af<|Aa<|Be ?_;have bK:Hp FN [] w [none,some o] w1:=bJ.nil;have bL:AH (Ax .i64) 3 w.heap.size w1 (ZZ FN [] Z w.heap.size [none,some o]) none 0 ([]:List Int):=AH.nil _ _ _ _ _;replace a:=bind_some a;obtain⟨z2,aC,a⟩:=a;refine Cr (fun bM s aI=>(bM=.exit 0∧∃f m,s.tmps.size=22∧s.defers=(X0).ds∧sl s 3=.slice f z2.length m∧Hp FN [] w [ob f,some o] aI∧AH (Ax .i64) 3 w.heap.size aI (ZZ FN [] Z w.heap.size [ob f,some o]) f m z2)) ?bN ?bO
 case bN=>
  clear a;refine Cq (fun(a0:Nat) (s:Act) (aI:World)=>∃g,∃b,∃d n,CO aY c a0 g b=some z2∧s.tmps.size=22∧s.defers=(X0).ds∧sl s 1=pt o 0∧sl s 3=.slice d g.length n∧sl s 4=I b∧Hp FN [] w [ob d,some o] aI∧AH (Ax .i64) 3 w.heap.size aI (ZZ FN [] Z w.heap.size [ob d,some o]) d n g∧Bk aI o 63 #[I c.Aj,I c.Ah,I c.Am,I c.Av,.slice h c.Ac.length j]∧Sl AK aI (ZZ FN [] Z w.heap.size [ob d,some o]) h j c.Ac) aY ?bP ?bQ
  case bP=>
   intro st;have a2:=aK.bk;have aN:Sl AK w1 (ZZ FN [] Z w.heap.size [none,some o]) h j c.Ac:=((aM.mv (Aw aK)).mv BB);exact⟨([]:List Int),(0:Int),none,0,aC,qz st,qd st,sp st 1 rfl,sp st 3 rfl,sp st 4 rfl,bK,bL,a2,aN⟩
  case bQ=>
   rintro(_|a0) b6 b7 ⟨g,b,d,n,aC,bA,bB,z,aD,t,a8,p,u,q⟩
   ·exact absurd (show none=some _ from aC) (by simp)
   rw[CO.eq_2] at aC;have a:=aC;clear aC;refine Ca (N:=22) bA bB<|Ae<|Ae<|Ab<|wm rfl (v:=I b) t<|wd rfl (fun st=>An (ee st z) (Gg _ _))<|wd rfl (fun st=>Au (v:=I c.Aj) AY (ee st rfl) u rfl) ?_;replace a:=AZ a;obtain⟨bR,a⟩:=a;refine wd rfl (fun st=>BE (ee st rfl) (ee st rfl) bR) ?_;replace a:=Ix a;obtain⟨bS,a⟩:=a;refine wd rfl (fun st=>JX (k:=.u64) TU Tryz.underlying32 (ee st rfl) bS) ?_;replace a:=MB a;obtain⟨bT,a⟩:=a;refine wd rfl (fun st=>RJ (ee st rfl) (ee st rfl) bT)<|wd rfl (fun st=>CI (ee st rfl) (ee st rfl))<|Af<|Aa ?_;rcases Ap (decide (b<(Hf (1:Int) (c.Aj+1)))) with aF|aF
   ·replace a:=AB a aF;refine AE rfl aF<|AV<|Aa<|Ae<|Be<|Ae<|Ab<|wd rfl (fun st=>A8 (l:=[I c.Aj,I c.Ah,I c.Am,I c.Av,.slice h c.Ac.length j]) De (ee st z) u rfl rfl)<|wm rfl (v:=I b) t ?_;replace a:=bind_some a;obtain⟨bU,bV,a⟩:=a;refine we rfl (fun st=>AG TV (ee st rfl) (Ee (ee st rfl) (ee st rfl)) (VA aY c b h j ZA _ q.all bU bV)) ?_;rintro _ b2 ⟨x,rfl⟩;have aS:=a8.ext x;refine Af<|Aa ?_;rcases Ap (bU) with aA|aA
    ·replace a:=AB a aA;refine AE rfl aA<|Ab<|wm rfl (v:=.slice d g.length n) aD<|wm rfl (v:=I b) t<|we rfl (fun st=>Bz (e:=3) (vs:= #[(0,I b)]) (cs:= #[I b]) (HN (ee st rfl)) (by kernel_rfl)) ?_;rintro _ bW ⟨aT,rfl,r⟩;have aG:=aS.nb r;have bX:=aS.BO r;have aO:AH (Ax .i64) 3 w.heap.size bW (ZZ FN [] Z w.heap.size [some aT,ob d,some o]) d n g:=((p.ext x (Ag x)).ext r.gr (Aw r));replace a:=CF a;obtain⟨aU,a⟩:=a;refine we rfl (fun st=>Ka (ys:=[b]) Tryz.underlying23 Gn rfl rfl (by decide) (ee st rfl) rfl (ee st rfl) aO (L7 (Bc:=[[I b]]) r.bk ⟨rfl,trivial⟩ rfl) (by have:=aU;simp only[maxLen];omega) (by have:=aU;omega) aG.sz (by simp)) ?_;rintro _ aH ⟨y,aL,rfl,aE,aJ,bC⟩;have bY:Hp FN [] w [some aT,ob y,some o] aH:=aG.row aE 1 rfl aJ;have bD:AH (Ax .i64) 3 w.heap.size aH (ZZ FN [] Z w.heap.size [some aT,ob y,some o]) y aL (g++[b]):=Ex bC (aG.Bo aE 1 rfl (fun k bE=>(aJ k bE).1));refine wa rfl (v:=.slice y ((g++[b]).length) aL) rfl<|Af<|Bq<|Aa<|Ab<|wm rfl (v:=I b) t ?_;replace a:=AZ a;obtain⟨bF,a⟩:=a;refine wd rfl (fun st=>BE (ee st rfl) (ee st rfl) bF)<|wa rfl (v:=I (b+1)) rfl<|Af ?_;have bZ:Hp FN [] w [ob y,some o] aH:=bY.erase 0;have aV:AH (Ax .i64) 3 w.heap.size aH (ZZ FN [] Z w.heap.size [ob y,some o]) y aL (g++[b]):=(bD.up (AP 0));have a3:=(((u.ext x).ext r.gr).gr aE (aG.ne 2 1 rfl rfl rfl));have aP:Sl AK aH (ZZ FN [] Z w.heap.size [ob y,some o]) h j c.Ac:=((((q.mv (Ag x)).mv (Aw r)).mv (aG.Bo aE 1 rfl (fun k bE=>(aJ k bE).1))).mv (AP 0));refine BD a0 (Nat.lt_succ_self _) (fun st=>?_);exact⟨(g++[b]),(b+1),y,aL,a,qz st,qd st,sp st 1 z,sp st 3 rfl,sp st 4 rfl,bZ,aV,a3,aP⟩
    ·replace a:=AD a aA;refine AL rfl aA<|AV<|Bq<|Aa<|Ab<|wm rfl (v:=I b) t ?_;replace a:=AZ a;obtain⟨bG,a⟩:=a;refine wd rfl (fun st=>BE (ee st rfl) (ee st rfl) bG)<|wa rfl (v:=I (b+1)) rfl<|Af ?_;have aQ:AH (Ax .i64) 3 w.heap.size b2 (ZZ FN [] Z w.heap.size [ob d,some o]) d n g:=(p.ext x (Ag x));have a4:=(u.ext x);have aR:=(q.mv (Ag x));refine BD a0 (Nat.lt_succ_self _) (fun st=>?_);exact⟨g,(b+1),d,n,a,qz st,qd st,sp st 1 z,sp st 3 aD,sp st 4 rfl,aS,aQ,a4,aR⟩
   ·replace a:=AD a aF;refine AL rfl aF<|Cn<|AT<|AT ?_;obtain rfl:=Option.some.inj a;refine B5 (fun st=>?_);exact⟨rfl,d,n,qz st,qd st,sp st 3 aD,a8,p⟩
 case bO=>
  rintro bM b3 b8 (⟨rfl,f,m,a5,a6,aW,aX,aB⟩);refine Cx (X:=X0) (N:=22) a5 a6<|Bw<|Aa<|Ae<|Ab<|wm rfl (v:=.slice f z2.length m) aW<|wa rfl (v:=.slice f z2.length m) rfl<|Af<|Aa<|AI ?_;obtain rfl:=Option.some.inj a;refine AS rfl rfl ?_;exact⟨aX.Bs,⟨_,_,rfl,aX.La (M:=[]) 0 rfl [] rfl trivial aB⟩⟩
theorem U3(aA:Nat)(a:Ao)(c:Option Addr)(d:Nat)(Z:Nat→Prop)(w:World)(aF:Sl AK w Z c d a.Ac)(aV:Int)(b:DP aA a=some aV):
 BN Tryz.prog 81 #[.agg #[I a.Aj,I a.Ah,I a.Am,I a.Av,.slice c a.Ac.length d]] w (fun v w'=>Ext w w'∧(FQ .i64).R w' (ZZ FN [] Z w.heap.size []) v aV):=by
 unfold DP at b;refine Ba (N:=26) Tryz.func81 rfl rfl (by simp) ?_;intro bH aW bI;have aO:=AM (i:=0) (v:=.agg #[I a.Aj,I a.Ah,I a.Am,I a.Av,.slice c a.Ac.length d]) aW rfl;clear aW;have aL:Hp FN [] w [] w:=Hp.start (BQ.none w);have u:=aF.mv (Bp (Z:=Z) (L:=[]) w);refine Ae<|Ab<|we rfl (fun st=>B3 (v:=.agg #[I a.Aj,I a.Ah,I a.Am,I a.Av,.slice c a.Ac.length d]) (cs:= #[I a.Aj,I a.Ah,I a.Am,I a.Av,.slice c a.Ac.length d]) (ee st aO) rfl) ?_;rintro _ w1 ⟨x,rfl,q⟩;have aM:=aL.nb q;have bD:=aL.BO q;refine wa rfl (v:=I 0) rfl<|Af<|Aa<|Ae<|Ab<|wd rfl (fun st=>A8 (l:=[I a.Aj,I a.Ah,I a.Am,I a.Av,.slice c a.Ac.length d]) De (ee st rfl) q.bk rfl rfl) ?_;have m:=(u.mv (Aw q));replace b:=bind_some b;obtain⟨r2,aX,b⟩:=b;refine we rfl (fun st=>AG Ss (ee st rfl) (B4 (ee st rfl)) (Vh aA a c d (ZZ FN [] Z w.heap.size [some x]) _ m r2 aX)) ?_;rintro _ bM ⟨aB,⟨bE,bF,rfl,r⟩⟩;have aY:=aM.ext aB;have r:=r.mv (aM.BS (Nat.le_refl _));refine wd rfl (fun st=>BY Tryz.underlying23 (ee st rfl))<|wa rfl (v:=I (r2.length:Int)) rfl<|Af<|Aa<|Ae<|Ae<|Ab<|wa rfl (v:=I 0) rfl<|Af<|Aa<|Be ?_;replace b:=bind_some b;obtain⟨z4,n,b⟩:=b;refine Cr (fun aZ f aC=>(aZ=.exit 0∧f.tmps.size=26∧f.defers=(X0).ds∧sl f 3=I z4∧Hp FN [] w [some x] aC)) ?a0 ?a2
 case a0=>
  clear b;refine Cq (fun(aP:Nat) (f:Act) (aC:World)=>∃g,∃e,DF aA a aP g e=some z4∧f.tmps.size=26∧f.defers=(X0).ds∧sl f 1=pt x 0∧sl f 3=I g∧sl f 4=I e∧Hp FN [] w [some x] aC∧Bk aC x 63 #[I a.Aj,I a.Ah,I a.Am,I a.Av,.slice c a.Ac.length d]∧Sl AK aC (ZZ FN [] Z w.heap.size [some x]) c d a.Ac) aA ?a3 ?a4
  case a3=>
   intro st;have aG:=(q.bk.ext aB);have y:=(m.mv (Ag aB));exact⟨(r2.length:Int),(0:Int),n,qz st,qd st,sp st 1 rfl,sp st 3 rfl,sp st 4 rfl,aY,aG,y⟩
  case a4=>
   rintro(_|aP) bJ bK ⟨g,e,n,aQ,aR,o,t,p,aN,h,j⟩
   ·exact absurd (show none=some _ from n) (by simp)
   rw[DF.eq_2] at n;have b:=n;clear n;refine Ca (N:=26) aQ aR<|Ae<|Ae<|Ab<|wm rfl (v:=I e) p<|wd rfl (fun st=>An (ee st o) (FK _ _))<|wd rfl (fun st=>Au (v:=.slice c a.Ac.length d) GI (ee st rfl) h rfl)<|wd rfl (fun st=>BY Tryz.underlying61 (ee st rfl))<|wd rfl (fun st=>CI (ee st rfl) (ee st rfl))<|Af<|Aa ?_;rcases Ap (decide (e<(a.Ac.length:Int))) with s|s
   ·replace b:=AB b s;refine AE rfl s<|AV<|Aa<|Ae<|Be<|Ab<|wm rfl (v:=I g) t<|wd rfl (fun st=>An (ee st o) (FK _ _))<|wd rfl (fun st=>Au (v:=.slice c a.Ac.length d) GI (ee st rfl) h rfl)<|wm rfl (v:=I e) p ?_;replace b:=Br b;obtain⟨i6,aH,a5,a6,a7,b⟩:=b;obtain⟨bN,bO,_,a8,rfl,a9⟩:=Sl.elem j (by decide) a6;refine wd rfl (fun st=>CD (k:=i6) Tryz.underlying61 IF (ee st rfl) a8 (ee st rfl) a5 a7)<|wd rfl (fun st=>An (ee st rfl) (Rq _ _ _))<|wd rfl (fun st=>DX (l:=[I aH.As,I aH.Az]) OK (ee st rfl) a9 rfl rfl) ?_;replace b:=bind_some b;obtain⟨aS,bA,b⟩:=b;refine we rfl (fun st=>AG Su (ee st rfl) (B4 (ee st rfl)) (Vg aA (⟨aH.As,aH.Az⟩:CU) ZA _ aS bA)) ?_;rintro _ bP ⟨aD,rfl⟩;have bB:=aN.ext aD;replace b:=AZ b;obtain⟨bC,b⟩:=b;refine wd rfl (fun st=>RF (ee st rfl) (ee st rfl) bC)<|wd rfl (fun st=>Pc (ee st rfl) (ee st rfl))<|wa rfl (v:=I (min (3000:Int) (g*aS))) rfl<|Af<|Bq<|Aa<|Ab<|wm rfl (v:=I e) p ?_;replace b:=AZ b;obtain⟨aT,b⟩:=b;refine wd rfl (fun st=>BE (ee st rfl) (ee st rfl) aT)<|wa rfl (v:=I (e+1)) rfl<|Af ?_;have aI:=(h.ext aD);have z:=(j.mv (Ag aD));refine BD aP (Nat.lt_succ_self _) (fun st=>?_);exact⟨(min (3000:Int) (g*aS)),(e+1),b,qz st,qd st,sp st 1 o,sp st 3 rfl,sp st 4 rfl,bB,aI,z⟩
   ·replace b:=AD b s;refine AL rfl s<|Cn<|AT<|AT ?_;obtain rfl:=Option.some.inj b;refine B5 (fun st=>?_);exact⟨rfl,qz st,qd st,sp st 3 t,aN⟩
 case a2=>
  rintro aZ bG bL (⟨rfl,aJ,aK,aE,aU⟩);refine Cx (X:=X0) (N:=26) aJ aK<|Bw<|Aa<|Ae<|Ab<|wm rfl (v:=I z4) aE<|wa rfl (v:=I z4) rfl<|Af<|Aa<|AI ?_;obtain rfl:=Option.some.inj b;refine AS rfl rfl ?_;exact⟨aU.Bs,rfl⟩
theorem U4(aS:Nat)(b:Ao)(j:Option Addr)(m:Nat)(Z:Nat→Prop)(w:World)(bR:Sl AK w Z j m b.Ac)(cY:Int)(a:Ey aS b=some cY):
 BN Tryz.prog 80 #[.agg #[I b.Aj,I b.Ah,I b.Am,I b.Av,.slice j b.Ac.length m]] w (fun v w'=>Ext w w'∧(FQ .i64).R w' (ZZ FN [] Z w.heap.size []) v cY):=by
 unfold Ey at a;refine Ba (N:=101) Tryz.func80 rfl rfl (by simp) ?_;intro dD cZ dE;have bZ:=AM (i:=0) (v:=.agg #[I b.Aj,I b.Ah,I b.Am,I b.Av,.slice j b.Ac.length m]) cZ rfl;clear cZ;have bV:Hp FN [] w [] w:=Hp.start (BQ.none w);have a9:=bR.mv (Bp (Z:=Z) (L:=[]) w);refine Ae<|Ab<|we rfl (fun st=>B3 (v:=.agg #[I b.Aj,I b.Ah,I b.Am,I b.Av,.slice j b.Ac.length m]) (cs:= #[I b.Aj,I b.Ah,I b.Am,I b.Av,.slice j b.Ac.length m]) (ee st bZ) rfl) ?_;rintro _ w1 ⟨x,rfl,y⟩;have aO:=bV.nb y;have c8:=bV.BO y;refine wa rfl (v:=I 0) rfl<|Af<|Aa<|Ae<|Ae<|Ab<|wd rfl (fun st=>An (ee st rfl) (Gg _ _))<|wd rfl (fun st=>Au (v:=I b.Aj) AY (ee st rfl) y.bk rfl)<|wd rfl (fun st=>Fw (ee st rfl) (ee st rfl))<|wm rfl (v:=.bool (decide ((9:Int)<b.Aj))) rfl ?_;rcases Ap (decide ((9:Int)<b.Aj)) with z|z
 ·replace a:=AB a z;refine Ak (c:=true) rfl rfl (Ad rfl z) (by decide) rfl (by decide)<|Ak (c:=true) rfl rfl (Ad rfl z) (by decide) rfl (by decide)<|Ak (c:=true) rfl rfl (Ad rfl z) (by decide) rfl (by decide)<|wd rfl (fun st=>AX (v:=.bool true) (ee st rfl) z (ee st rfl))<|wm rfl (v:=.bool true) rfl<|Ak rfl rfl rfl (by decide) rfl (by decide)<|Ak rfl rfl rfl (by decide) rfl (by decide)<|Ak rfl rfl rfl (by decide) rfl (by decide)<|Ak rfl rfl rfl (by decide) rfl (by decide)<|wd rfl (fun st=>AX (v:=.bool true) (ee st rfl) rfl (ee st rfl))<|Af<|Aa<|AE rfl rfl<|Ae<|Ab<|wa rfl (v:=I 3) rfl<|Af<|Aa<|AI<|AA ?_;obtain rfl:=Option.some.inj a;refine AS rfl rfl ?_;exact⟨aO.Bs,rfl⟩
 ·replace a:=AD a z;refine Aq rfl rfl (Ad rfl z) rfl (by decide) (fun st=>An (ee st rfl) (Ht _ _))<|Aq rfl rfl (Ad rfl z) rfl (by decide) (fun st=>Au (v:=I b.Ah) AY (ee st rfl) y.bk rfl)<|Aq rfl rfl (Ad rfl z) rfl (by decide) (fun st=>Fw (ee st rfl) (ee st rfl))<|wd rfl (fun st=>Bh (v:=.bool (decide ((2:Int)<b.Ah))) (ee st rfl) z (ee st rfl))<|wm rfl (v:=.bool (decide ((2:Int)<b.Ah))) rfl ?_;rcases Ap (decide ((2:Int)<b.Ah)) with s|s
  ·replace a:=AB a s;refine Ak (c:=true) rfl rfl (Ad rfl s) (by decide) rfl (by decide)<|Ak (c:=true) rfl rfl (Ad rfl s) (by decide) rfl (by decide)<|Ak (c:=true) rfl rfl (Ad rfl s) (by decide) rfl (by decide)<|Ak (c:=true) rfl rfl (Ad rfl s) (by decide) rfl (by decide)<|wd rfl (fun st=>AX (v:=.bool true) (ee st rfl) s (ee st rfl))<|Af<|Aa<|AE rfl rfl<|Ae<|Ab<|wa rfl (v:=I 3) rfl<|Af<|Aa<|AI<|AA ?_;obtain rfl:=Option.some.inj a;refine AS rfl rfl ?_;exact⟨aO.Bs,rfl⟩
  ·replace a:=AD a s;refine Aq rfl rfl (Ad rfl s) rfl (by decide) (fun st=>An (ee st rfl) (FK _ _))<|Aq rfl rfl (Ad rfl s) rfl (by decide) (fun st=>Au (v:=.slice j b.Ac.length m) GI (ee st rfl) y.bk rfl)<|Aq rfl rfl (Ad rfl s) rfl (by decide) (fun st=>BY Tryz.underlying61 (ee st rfl))<|Aq rfl rfl (Ad rfl s) rfl (by decide) (fun st=>Fw (ee st rfl) (ee st rfl))<|wd rfl (fun st=>Bh (v:=.bool (decide ((4:Int)<(b.Ac.length:Int)))) (ee st rfl) s (ee st rfl))<|Af<|Aa ?_;rcases Ap (decide ((4:Int)<(b.Ac.length:Int))) with aX|aX
   ·replace a:=AB a aX;refine AE rfl aX<|Ae<|Ab<|wa rfl (v:=I 3) rfl<|Af<|Aa<|AI<|AA ?_;obtain rfl:=Option.some.inj a;refine AS rfl rfl ?_;exact⟨aO.Bs,rfl⟩
   ·replace a:=AD a aX;refine AL rfl aX<|AV<|Aa<|Ae<|Ae<|Ab<|wd rfl (fun st=>An (ee st rfl) (Gg _ _))<|wd rfl (fun st=>Au (v:=I b.Aj) AY (ee st rfl) y.bk rfl)<|wd rfl (fun st=>CI (ee st rfl) (ee st rfl))<|wm rfl (v:=.bool (decide (b.Aj<0))) rfl ?_;rcases Ap (decide (b.Aj<0)) with aA|aA
    ·replace a:=AB a aA;refine Ak (c:=true) rfl rfl (Ad rfl aA) (by decide) rfl (by decide)<|Ak (c:=true) rfl rfl (Ad rfl aA) (by decide) rfl (by decide)<|Ak (c:=true) rfl rfl (Ad rfl aA) (by decide) rfl (by decide)<|wd rfl (fun st=>AX (v:=.bool true) (ee st rfl) aA (ee st rfl))<|wm rfl (v:=.bool true) rfl<|Ak rfl rfl rfl (by decide) rfl (by decide)<|Ak rfl rfl rfl (by decide) rfl (by decide)<|Ak rfl rfl rfl (by decide) rfl (by decide)<|Ak rfl rfl rfl (by decide) rfl (by decide)<|Ak rfl rfl rfl (by decide) rfl (by decide)<|Ak rfl rfl rfl (by decide) rfl (by decide)<|Ak rfl rfl rfl (by decide) rfl (by decide)<|wd rfl (fun st=>AX (v:=.bool true) (ee st rfl) rfl (ee st rfl))<|wm rfl (v:=.bool true) rfl<|Ak rfl rfl rfl (by decide) rfl (by decide)<|Ak rfl rfl rfl (by decide) rfl (by decide)<|Ak rfl rfl rfl (by decide) rfl (by decide)<|Ak rfl rfl rfl (by decide) rfl (by decide)<|Ak rfl rfl rfl (by decide) rfl (by decide)<|Ak rfl rfl rfl (by decide) rfl (by decide)<|Ak rfl rfl rfl (by decide) rfl (by decide)<|wd rfl (fun st=>AX (v:=.bool true) (ee st rfl) rfl (ee st rfl))<|Af<|Aa<|AE rfl rfl<|Ae<|Ab<|wa rfl (v:=I 1) rfl<|Af<|Aa<|AI<|AA ?_;obtain rfl:=Option.some.inj a;refine AS rfl rfl ?_;exact⟨aO.Bs,rfl⟩
    ·replace a:=AD a aA;refine Aq rfl rfl (Ad rfl aA) rfl (by decide) (fun st=>An (ee st rfl) (Ht _ _))<|Aq rfl rfl (Ad rfl aA) rfl (by decide) (fun st=>Au (v:=I b.Ah) AY (ee st rfl) y.bk rfl)<|Aq rfl rfl (Ad rfl aA) rfl (by decide) (fun st=>CI (ee st rfl) (ee st rfl))<|wd rfl (fun st=>Bh (v:=.bool (decide (b.Ah<1))) (ee st rfl) aA (ee st rfl))<|wm rfl (v:=.bool (decide (b.Ah<1))) rfl ?_;rcases Ap (decide (b.Ah<1)) with p|p
     ·replace a:=AB a p;refine Ak (c:=true) rfl rfl (Ad rfl p) (by decide) rfl (by decide)<|Ak (c:=true) rfl rfl (Ad rfl p) (by decide) rfl (by decide)<|Ak (c:=true) rfl rfl (Ad rfl p) (by decide) rfl (by decide)<|Ak (c:=true) rfl rfl (Ad rfl p) (by decide) rfl (by decide)<|Ak (c:=true) rfl rfl (Ad rfl p) (by decide) rfl (by decide)<|Ak (c:=true) rfl rfl (Ad rfl p) (by decide) rfl (by decide)<|Ak (c:=true) rfl rfl (Ad rfl p) (by decide) rfl (by decide)<|wd rfl (fun st=>AX (v:=.bool true) (ee st rfl) p (ee st rfl))<|wm rfl (v:=.bool true) rfl<|Ak rfl rfl rfl (by decide) rfl (by decide)<|Ak rfl rfl rfl (by decide) rfl (by decide)<|Ak rfl rfl rfl (by decide) rfl (by decide)<|Ak rfl rfl rfl (by decide) rfl (by decide)<|Ak rfl rfl rfl (by decide) rfl (by decide)<|Ak rfl rfl rfl (by decide) rfl (by decide)<|Ak rfl rfl rfl (by decide) rfl (by decide)<|wd rfl (fun st=>AX (v:=.bool true) (ee st rfl) rfl (ee st rfl))<|Af<|Aa<|AE rfl rfl<|Ae<|Ab<|wa rfl (v:=I 1) rfl<|Af<|Aa<|AI<|AA ?_;obtain rfl:=Option.some.inj a;refine AS rfl rfl ?_;exact⟨aO.Bs,rfl⟩
     ·replace a:=AD a p;refine Aq rfl rfl (Ad rfl p) rfl (by decide) (fun st=>An (ee st rfl) (Mm _ _))<|Aq rfl rfl (Ad rfl p) rfl (by decide) (fun st=>Au (v:=I b.Am) AY (ee st rfl) y.bk rfl)<|Aq rfl rfl (Ad rfl p) rfl (by decide) (fun st=>An (ee st rfl) (Gg _ _))<|Aq rfl rfl (Ad rfl p) rfl (by decide) (fun st=>Au (v:=I b.Aj) AY (ee st rfl) y.bk rfl) ?_;replace a:=AZ a;obtain⟨c0,a⟩:=a;refine Aq rfl rfl (Ad rfl p) rfl (by decide) (fun st=>BE (ee st rfl) (ee st rfl) c0) ?_;replace a:=bind_some a;obtain⟨bA,c1,a⟩:=a;refine DA rfl rfl (Ad rfl p) rfl (by decide) (fun st=>AG Kz (ee st rfl) (FX (ee st rfl) (ee st rfl) (ee st rfl)) (a46 aS b.Am 0 (b.Aj+1) ZA _ bA c1)) ?_;rintro _ dL ⟨bG,rfl⟩;have bW:=aO.ext bG;refine Aq rfl rfl (Ad rfl p) rfl (by decide) (fun st=>Dz (ee st rfl))<|wd rfl (fun st=>Bh (v:=.bool !bA) (ee st rfl) p (ee st rfl))<|wm rfl (v:=.bool !bA) rfl ?_;rcases Ap (!bA) with e|e
      ·replace a:=AB a e;have cO:bA=false:=by simpa using e
       refine Ak (c:=true) rfl rfl (Ad rfl e) (by decide) rfl (by decide)<|Ak (c:=true) rfl rfl (Ad rfl e) (by decide) rfl (by decide)<|Ak (c:=true) rfl rfl (Ad rfl e) (by decide) rfl (by decide)<|Ak (c:=true) rfl rfl (Ad rfl e) (by decide) rfl (by decide)<|Ak (c:=true) rfl rfl (Ad rfl e) (by decide) rfl (by decide)<|Ak (c:=true) rfl rfl (Ad rfl e) (by decide) rfl (by decide)<|Ak (c:=true) rfl rfl (Ad rfl e) (by decide) rfl (by decide)<|wd rfl (fun st=>AX (v:=.bool true) (ee st rfl) e (ee st rfl))<|Af<|Aa<|AE rfl rfl<|Ae<|Ab<|wa rfl (v:=I 1) rfl<|Af<|Aa<|AI<|AA ?_;obtain rfl:=Option.some.inj a;refine AS rfl rfl ?_;exact⟨bW.Bs,rfl⟩
      ·replace a:=AD a e;have cP:bA=true:=by simpa using e
       refine Aq rfl rfl (Ad rfl e) rfl (by decide) (fun st=>An (ee st rfl) (KP _ _)) ?_;have aT:=(y.bk.ext bG);refine Aq rfl rfl (Ad rfl e) rfl (by decide) (fun st=>Au (v:=I b.Av) AY (ee st rfl) aT rfl)<|Aq rfl rfl (Ad rfl e) rfl (by decide) (fun st=>An (ee st rfl) (Gg _ _))<|Aq rfl rfl (Ad rfl e) rfl (by decide) (fun st=>Au (v:=I b.Aj) AY (ee st rfl) aT rfl) ?_;replace a:=AZ a;obtain⟨b1,a⟩:=a;refine Aq rfl rfl (Ad rfl e) rfl (by decide) (fun st=>BE (ee st rfl) (ee st rfl) b1) ?_;replace a:=bind_some a;obtain⟨aY,b2,a⟩:=a;refine DA rfl rfl (Ad rfl e) rfl (by decide) (fun st=>AG Kz (ee st rfl) (FX (ee st rfl) (ee st rfl) (ee st rfl)) (a46 aS b.Av 0 (b.Aj+1) ZA _ aY b2)) ?_;rintro _ dF ⟨a4,rfl⟩;have bX:=bW.ext a4;refine Aq rfl rfl (Ad rfl e) rfl (by decide) (fun st=>Dz (ee st rfl))<|wd rfl (fun st=>Bh (v:=.bool !aY) (ee st rfl) e (ee st rfl))<|Af<|Aa ?_;rcases Ap (!aY) with aE|aE
       ·replace a:=AB a aE;have cQ:aY=false:=by simpa using aE
        refine AE rfl aE<|Ae<|Ab<|wa rfl (v:=I 1) rfl<|Af<|Aa<|AI<|AA ?_;obtain rfl:=Option.some.inj a;refine AS rfl rfl ?_;exact⟨bX.Bs,rfl⟩
       ·replace a:=AD a aE;have cR:aY=true:=by simpa using aE
        refine AL rfl aE<|AV<|Aa<|Ae<|Ae<|Ab<|wa rfl (v:=I 0) rfl<|Af<|Aa<|Be ?_;replace a:=bind_some a;obtain⟨bH,aG,a⟩:=a;refine Cr (fun b3 aB aZ=>(b3=.ret∧∃aH,bH=.inl aH∧aB.tmps.size=101∧aB.defers=(X0).ds∧sl aB 2=I aH∧Hp FN [] w [some x] aZ)∨(b3=.exit 0∧∃aH,bH=.inr aH∧aB.tmps.size=101∧aB.defers=(X0).ds∧sl aB 1=pt x 0∧Hp FN [] w [some x] aZ∧Bk aZ x 63 #[I b.Aj,I b.Ah,I b.Am,I b.Av,.slice j b.Ac.length m]∧Sl AK aZ (ZZ FN [] Z w.heap.size [some x]) j m b.Ac)) ?b4 ?b5
        case b4=>
         clear a;refine Cq (fun(b6:Nat) (aB:Act) (aZ:World)=>∃r,Di aS b b6 r=some bH∧aB.tmps.size=101∧aB.defers=(X0).ds∧sl aB 1=pt x 0∧sl aB 3=I r∧Hp FN [] w [some x] aZ∧Bk aZ x 63 #[I b.Aj,I b.Ah,I b.Am,I b.Av,.slice j b.Ac.length m]∧Sl AK aZ (ZZ FN [] Z w.heap.size [some x]) j m b.Ac) aS ?b7 ?b8
         case b7=>
          intro st;have bS:=(aT.ext a4);have bB:=(((a9.mv (Aw y)).mv (Ag bG)).mv (Ag a4));exact⟨(0:Int),aG,qz st,qd st,sp st 1 rfl,sp st 3 rfl,bX,bS,bB⟩
         case b8=>
          rintro(_|b6) dA dB ⟨r,aG,bT,bU,t,aI,bI,aD,aC⟩
          ·exact absurd (show none=some _ from aG) (by simp)
          rw[Di.eq_2] at aG;have a:=aG;clear aG;refine Ca (N:=101) bT bU<|Ae<|Ae<|Ab<|wm rfl (v:=I r) aI<|wd rfl (fun st=>An (ee st t) (FK _ _))<|wd rfl (fun st=>Au (v:=.slice j b.Ac.length m) GI (ee st rfl) aD rfl)<|wd rfl (fun st=>BY Tryz.underlying61 (ee st rfl))<|wd rfl (fun st=>CI (ee st rfl) (ee st rfl))<|Af<|Aa ?_;rcases Ap (decide (r<(b.Ac.length:Int))) with aJ|aJ
          ·replace a:=AB a aJ;refine AE rfl aJ<|AV<|Aa<|Ae<|Be<|Ae<|Ab<|wd rfl (fun st=>An (ee st t) (FK _ _))<|wd rfl (fun st=>Au (v:=.slice j b.Ac.length m) GI (ee st rfl) aD rfl)<|wm rfl (v:=I r) aI ?_;replace a:=Br a;obtain⟨i21,d,b9,cA,cB,a⟩:=a;obtain⟨dG,dH,_,cC,rfl,cD⟩:=Sl.elem aC (by decide) cA;refine wd rfl (fun st=>CD (k:=i21) Tryz.underlying61 IF (ee st rfl) cC (ee st rfl) b9 cB)<|wd rfl (fun st=>DX (l:=[I d.As,I d.Az,I d.AO,I d.BM,I d.BP]) OL (ee st rfl) cD rfl rfl)<|we rfl (fun st=>BI (cs:= #[I 0,I 0,I 0,I 0,I 0]) NT rfl) ?_;rintro _ dI ⟨dJ,rfl,aK⟩;have bJ:=bI.nb aK;have c2:=bI.BO aK;refine Bj rfl rfl (fun st=>Bb (n:=5) (l:=[I d.As,I d.Az,I d.AO,I d.BM,I d.BP]) (B1:= #[I d.As,I d.Az,I d.AO,I d.BM,I d.BP]) (ee st rfl) (ee st rfl) IF aK.bk rfl rfl (show 0+5≤5 by decide) (AQ rfl) rfl) ?_;rintro _ bK u;have a7:=bJ.gr u.gr 0 rfl;refine Af<|Aa<|Ae<|Ab<|wd rfl (fun st=>An (ee st rfl) (IG _ _))<|wd rfl (fun st=>An (ee st rfl) (JP _ _))<|wd rfl (fun st=>Au (v:=I d.As) AY (ee st rfl) u.bk rfl)<|wd rfl (fun st=>CI (ee st rfl) (ee st rfl))<|wm rfl (v:=.bool (decide (d.As<0))) rfl ?_;rcases Ap (decide (d.As<0)) with f|f
           ·replace a:=AB a f;refine Ak (c:=true) rfl rfl (Ad rfl f) (by decide) rfl (by decide)<|Ak (c:=true) rfl rfl (Ad rfl f) (by decide) rfl (by decide)<|Ak (c:=true) rfl rfl (Ad rfl f) (by decide) rfl (by decide)<|Ak (c:=true) rfl rfl (Ad rfl f) (by decide) rfl (by decide)<|Ak (c:=true) rfl rfl (Ad rfl f) (by decide) rfl (by decide)<|Ak (c:=true) rfl rfl (Ad rfl f) (by decide) rfl (by decide)<|Ak (c:=true) rfl rfl (Ad rfl f) (by decide) rfl (by decide)<|wd rfl (fun st=>AX (v:=.bool true) (ee st rfl) f (ee st rfl))<|wm rfl (v:=.bool true) rfl<|Ak rfl rfl rfl (by decide) rfl (by decide)<|Ak rfl rfl rfl (by decide) rfl (by decide)<|Ak rfl rfl rfl (by decide) rfl (by decide)<|Ak rfl rfl rfl (by decide) rfl (by decide)<|Ak rfl rfl rfl (by decide) rfl (by decide)<|Ak rfl rfl rfl (by decide) rfl (by decide)<|wd rfl (fun st=>AX (v:=.bool true) (ee st rfl) rfl (ee st rfl))<|wm rfl (v:=.bool true) rfl<|Ak rfl rfl rfl (by decide) rfl (by decide)<|Ak rfl rfl rfl (by decide) rfl (by decide)<|Ak rfl rfl rfl (by decide) rfl (by decide)<|Ak rfl rfl rfl (by decide) rfl (by decide)<|wd rfl (fun st=>AX (v:=.bool true) (ee st rfl) rfl (ee st rfl))<|wm rfl (v:=.bool true) rfl<|Ak rfl rfl rfl (by decide) rfl (by decide)<|Ak rfl rfl rfl (by decide) rfl (by decide)<|Ak rfl rfl rfl (by decide) rfl (by decide)<|Ak rfl rfl rfl (by decide) rfl (by decide)<|wd rfl (fun st=>AX (v:=.bool true) (ee st rfl) rfl (ee st rfl))<|wm rfl (v:=.bool true) rfl<|Ak rfl rfl rfl (by decide) rfl (by decide)<|Ak rfl rfl rfl (by decide) rfl (by decide)<|Ak rfl rfl rfl (by decide) rfl (by decide)<|Ak rfl rfl rfl (by decide) rfl (by decide)<|Ak rfl rfl rfl (by decide) rfl (by decide)<|Ak rfl rfl rfl (by decide) rfl (by decide)<|wd rfl (fun st=>AX (v:=.bool true) (ee st rfl) rfl (ee st rfl))<|Af<|Aa<|AE rfl rfl<|Ae ?_;refine Ab<|wa rfl (v:=I 1) rfl<|Af<|Aa<|AI<|A6<|AA<|AA ?_;have c3:Hp FN [] w [some x] bK:=a7.erase 0;obtain rfl:=Option.some.inj a;refine B5 (fun st=>?_);exact .inl ⟨rfl,(1:Int),rfl,qz st,qd st,sp st 2 rfl,c3⟩
           ·replace a:=AD a f;refine Aq rfl rfl (Ad rfl f) rfl (by decide) (fun st=>An (ee st rfl) (IG _ _))<|Aq rfl rfl (Ad rfl f) rfl (by decide) (fun st=>An (ee st rfl) (JP _ _))<|Aq rfl rfl (Ad rfl f) rfl (by decide) (fun st=>Au (v:=I d.As) AY (ee st rfl) u.bk rfl)<|Aq rfl rfl (Ad rfl f) rfl (by decide) (fun st=>An (ee st rfl) (IG _ _))<|Aq rfl rfl (Ad rfl f) rfl (by decide) (fun st=>An (ee st rfl) (JO _ _))<|Aq rfl rfl (Ad rfl f) rfl (by decide) (fun st=>Au (v:=I d.Az) AY (ee st rfl) u.bk rfl)<|Aq rfl rfl (Ad rfl f) rfl (by decide) (fun st=>Fw (ee st rfl) (ee st rfl))<|wd rfl (fun st=>Bh (v:=.bool (decide (d.Az<d.As))) (ee st rfl) f (ee st rfl))<|wm rfl (v:=.bool (decide (d.Az<d.As))) rfl ?_;rcases Ap (decide (d.Az<d.As)) with h|h
            ·replace a:=AB a h;refine Ak (c:=true) rfl rfl (Ad rfl h) (by decide) rfl (by decide)<|Ak (c:=true) rfl rfl (Ad rfl h) (by decide) rfl (by decide)<|Ak (c:=true) rfl rfl (Ad rfl h) (by decide) rfl (by decide)<|Ak (c:=true) rfl rfl (Ad rfl h) (by decide) rfl (by decide)<|Ak (c:=true) rfl rfl (Ad rfl h) (by decide) rfl (by decide)<|Ak (c:=true) rfl rfl (Ad rfl h) (by decide) rfl (by decide)<|wd rfl (fun st=>AX (v:=.bool true) (ee st rfl) h (ee st rfl))<|wm rfl (v:=.bool true) rfl<|Ak rfl rfl rfl (by decide) rfl (by decide)<|Ak rfl rfl rfl (by decide) rfl (by decide)<|Ak rfl rfl rfl (by decide) rfl (by decide)<|Ak rfl rfl rfl (by decide) rfl (by decide)<|wd rfl (fun st=>AX (v:=.bool true) (ee st rfl) rfl (ee st rfl))<|wm rfl (v:=.bool true) rfl<|Ak rfl rfl rfl (by decide) rfl (by decide)<|Ak rfl rfl rfl (by decide) rfl (by decide)<|Ak rfl rfl rfl (by decide) rfl (by decide)<|Ak rfl rfl rfl (by decide) rfl (by decide)<|wd rfl (fun st=>AX (v:=.bool true) (ee st rfl) rfl (ee st rfl))<|wm rfl (v:=.bool true) rfl<|Ak rfl rfl rfl (by decide) rfl (by decide)<|Ak rfl rfl rfl (by decide) rfl (by decide)<|Ak rfl rfl rfl (by decide) rfl (by decide)<|Ak rfl rfl rfl (by decide) rfl (by decide)<|Ak rfl rfl rfl (by decide) rfl (by decide)<|Ak rfl rfl rfl (by decide) rfl (by decide)<|wd rfl (fun st=>AX (v:=.bool true) (ee st rfl) rfl (ee st rfl))<|Af<|Aa<|AE rfl rfl<|Ae<|Ab<|wa rfl (v:=I 1) rfl<|Af<|Aa<|AI<|A6<|AA<|AA ?_;have c4:Hp FN [] w [some x] bK:=a7.erase 0;obtain rfl:=Option.some.inj a;refine B5 (fun st=>?_);exact .inl ⟨rfl,(1:Int),rfl,qz st,qd st,sp st 2 rfl,c4⟩
            ·replace a:=AD a h;refine Aq rfl rfl (Ad rfl h) rfl (by decide) (fun st=>An (ee st rfl) (IG _ _))<|Aq rfl rfl (Ad rfl h) rfl (by decide) (fun st=>An (ee st rfl) (JO _ _))<|Aq rfl rfl (Ad rfl h) rfl (by decide) (fun st=>Au (v:=I d.Az) AY (ee st rfl) u.bk rfl)<|Aq rfl rfl (Ad rfl h) rfl (by decide) (fun st=>An (ee st t) (Gg _ _)) ?_;have a8:=((aD.ext aK.gr).gr u.gr (bJ.ne 1 0 rfl rfl rfl));refine Aq rfl rfl (Ad rfl h) rfl (by decide) (fun st=>Au (v:=I b.Aj) AY (ee st rfl) a8 rfl)<|Aq rfl rfl (Ad rfl h) rfl (by decide) (fun st=>Fw (ee st rfl) (ee st rfl))<|wd rfl (fun st=>Bh (v:=.bool (decide (b.Aj<d.Az))) (ee st rfl) h (ee st rfl))<|wm rfl (v:=.bool (decide (b.Aj<d.Az))) rfl ?_;rcases Ap (decide (b.Aj<d.Az)) with q|q
             ·replace a:=AB a q;refine Ak (c:=true) rfl rfl (Ad rfl q) (by decide) rfl (by decide)<|Ak (c:=true) rfl rfl (Ad rfl q) (by decide) rfl (by decide)<|Ak (c:=true) rfl rfl (Ad rfl q) (by decide) rfl (by decide)<|Ak (c:=true) rfl rfl (Ad rfl q) (by decide) rfl (by decide)<|wd rfl (fun st=>AX (v:=.bool true) (ee st rfl) q (ee st rfl))<|wm rfl (v:=.bool true) rfl<|Ak rfl rfl rfl (by decide) rfl (by decide)<|Ak rfl rfl rfl (by decide) rfl (by decide)<|Ak rfl rfl rfl (by decide) rfl (by decide)<|Ak rfl rfl rfl (by decide) rfl (by decide)<|wd rfl (fun st=>AX (v:=.bool true) (ee st rfl) rfl (ee st rfl))<|wm rfl (v:=.bool true) rfl<|Ak rfl rfl rfl (by decide) rfl (by decide)<|Ak rfl rfl rfl (by decide) rfl (by decide)<|Ak rfl rfl rfl (by decide) rfl (by decide)<|Ak rfl rfl rfl (by decide) rfl (by decide)<|Ak rfl rfl rfl (by decide) rfl (by decide)<|Ak rfl rfl rfl (by decide) rfl (by decide)<|wd rfl (fun st=>AX (v:=.bool true) (ee st rfl) rfl (ee st rfl))<|Af<|Aa<|AE rfl rfl<|Ae<|Ab<|wa rfl (v:=I 1) rfl<|Af<|Aa<|AI<|A6<|AA<|AA ?_;have c5:Hp FN [] w [some x] bK:=a7.erase 0;obtain rfl:=Option.some.inj a;refine B5 (fun st=>?_);exact .inl ⟨rfl,(1:Int),rfl,qz st,qd st,sp st 2 rfl,c5⟩
             ·replace a:=AD a q;refine Aq rfl rfl (Ad rfl q) rfl (by decide) (fun st=>An (ee st rfl) (NU _ _))<|Aq rfl rfl (Ad rfl q) rfl (by decide) (fun st=>Au (v:=I d.AO) AY (ee st rfl) u.bk rfl) ?_;replace a:=bind_some a;obtain⟨aP,cE,a⟩:=a;refine DA rfl rfl (Ad rfl q) rfl (by decide) (fun st=>AG Kz (ee st rfl) (FX (ee st rfl) (ee st rfl) (ee st rfl)) (a46 aS d.AO 1 5 ZA _ aP cE)) ?_;rintro _ c6 ⟨aU,rfl⟩;have bL:=a7.ext aU;refine Aq rfl rfl (Ad rfl q) rfl (by decide) (fun st=>Dz (ee st rfl))<|wd rfl (fun st=>Bh (v:=.bool !aP) (ee st rfl) q (ee st rfl))<|wm rfl (v:=.bool !aP) rfl ?_;rcases Ap (!aP) with o|o
              ·replace a:=AB a o;have cS:aP=false:=by simpa using o
               refine Ak (c:=true) rfl rfl (Ad rfl o) (by decide) rfl (by decide)<|Ak (c:=true) rfl rfl (Ad rfl o) (by decide) rfl (by decide)<|Ak (c:=true) rfl rfl (Ad rfl o) (by decide) rfl (by decide)<|Ak (c:=true) rfl rfl (Ad rfl o) (by decide) rfl (by decide)<|wd rfl (fun st=>AX (v:=.bool true) (ee st rfl) o (ee st rfl))<|wm rfl (v:=.bool true) rfl<|Ak rfl rfl rfl (by decide) rfl (by decide)<|Ak rfl rfl rfl (by decide) rfl (by decide)<|Ak rfl rfl rfl (by decide) rfl (by decide)<|Ak rfl rfl rfl (by decide) rfl (by decide)<|Ak rfl rfl rfl (by decide) rfl (by decide)<|Ak rfl rfl rfl (by decide) rfl (by decide)<|wd rfl (fun st=>AX (v:=.bool true) (ee st rfl) rfl (ee st rfl))<|Af<|Aa<|AE rfl rfl<|Ae<|Ab<|wa rfl (v:=I 1) rfl<|Af<|Aa<|AI<|A6<|AA<|AA ?_;have cF:Hp FN [] w [some x] c6:=bL.erase 0;obtain rfl:=Option.some.inj a;refine B5 (fun st=>?_);exact .inl ⟨rfl,(1:Int),rfl,qz st,qd st,sp st 2 rfl,cF⟩
              ·replace a:=AD a o;have cT:aP=true:=by simpa using o
               refine Aq rfl rfl (Ad rfl o) rfl (by decide) (fun st=>An (ee st rfl) (NV _ _)) ?_;have aQ:=(u.bk.ext aU);refine Aq rfl rfl (Ad rfl o) rfl (by decide) (fun st=>Au (v:=I d.BM) AY (ee st rfl) aQ rfl) ?_;replace a:=bind_some a;obtain⟨aR,cG,a⟩:=a;refine DA rfl rfl (Ad rfl o) rfl (by decide) (fun st=>AG Kz (ee st rfl) (FX (ee st rfl) (ee st rfl) (ee st rfl)) (a46 aS d.BM 1 5 ZA _ aR cG)) ?_;rintro _ c7 ⟨aV,rfl⟩;have bM:=bL.ext aV;refine Aq rfl rfl (Ad rfl o) rfl (by decide) (fun st=>Dz (ee st rfl))<|wd rfl (fun st=>Bh (v:=.bool !aR) (ee st rfl) o (ee st rfl))<|wm rfl (v:=.bool !aR) rfl ?_;rcases Ap (!aR) with g|g
               ·replace a:=AB a g;have cU:aR=false:=by simpa using g
                refine Ak (c:=true) rfl rfl (Ad rfl g) (by decide) rfl (by decide)<|Ak (c:=true) rfl rfl (Ad rfl g) (by decide) rfl (by decide)<|Ak (c:=true) rfl rfl (Ad rfl g) (by decide) rfl (by decide)<|Ak (c:=true) rfl rfl (Ad rfl g) (by decide) rfl (by decide)<|Ak (c:=true) rfl rfl (Ad rfl g) (by decide) rfl (by decide)<|Ak (c:=true) rfl rfl (Ad rfl g) (by decide) rfl (by decide)<|wd rfl (fun st=>AX (v:=.bool true) (ee st rfl) g (ee st rfl))<|Af<|Aa<|AE rfl rfl<|Ae<|Ab<|wa rfl (v:=I 1) rfl<|Af<|Aa<|AI<|A6<|AA<|AA ?_;have cH:Hp FN [] w [some x] c7:=bM.erase 0;obtain rfl:=Option.some.inj a;refine B5 (fun st=>?_);exact .inl ⟨rfl,(1:Int),rfl,qz st,qd st,sp st 2 rfl,cH⟩
               ·replace a:=AD a g;have cV:aR=true:=by simpa using g
                refine Aq rfl rfl (Ad rfl g) rfl (by decide) (fun st=>An (ee st rfl) (NW _ _)) ?_;have bC:=(aQ.ext aV);refine Aq rfl rfl (Ad rfl g) rfl (by decide) (fun st=>Au (v:=I d.BP) AY (ee st rfl) bC rfl)<|Aq rfl rfl (Ad rfl g) rfl (by decide) (fun st=>An (ee st t) (Gg _ _)) ?_;have a0:=((a8.ext aU).ext aV);refine Aq rfl rfl (Ad rfl g) rfl (by decide) (fun st=>Au (v:=I b.Aj) AY (ee st rfl) a0 rfl) ?_;replace a:=bind_some a;obtain⟨a2,cI,a⟩:=a;refine DA rfl rfl (Ad rfl g) rfl (by decide) (fun st=>AG Kz (ee st rfl) (FX (ee st rfl) (ee st rfl) (ee st rfl)) (a46 aS d.BP 0 b.Aj ZA _ a2 cI)) ?_;rintro _ bN ⟨a5,rfl⟩;have bO:=bM.ext a5;refine Aq rfl rfl (Ad rfl g) rfl (by decide) (fun st=>Dz (ee st rfl))<|wd rfl (fun st=>Bh (v:=.bool !a2) (ee st rfl) g (ee st rfl))<|Af<|Aa ?_;rcases Ap (!a2) with aF|aF
                ·replace a:=AB a aF;have cW:a2=false:=by simpa using aF
                 refine AE rfl aF<|Ae<|Ab<|wa rfl (v:=I 1) rfl<|Af<|Aa<|AI<|A6<|AA<|AA ?_;have cJ:Hp FN [] w [some x] bN:=bO.erase 0;obtain rfl:=Option.some.inj a;refine B5 (fun st=>?_);exact .inl ⟨rfl,(1:Int),rfl,qz st,qd st,sp st 2 rfl,cJ⟩
                ·replace a:=AD a aF;have cX:a2=true:=by simpa using aF
                 refine AL rfl aF<|AV<|Bq<|Aa<|Ab<|wm rfl (v:=I r) aI ?_;replace a:=AZ a;obtain⟨cK,a⟩:=a;refine wd rfl (fun st=>BE (ee st rfl) (ee st rfl) cK)<|wa rfl (v:=I (r+1)) rfl<|Af ?_;have cL:Hp FN [] w [some x] bN:=bO.erase 0;have bP:=(a0.ext a5);have a6:Sl AK bN (ZZ FN [] Z w.heap.size [some x]) j m b.Ac:=((((((aC.mv (Aw aK)).mv (bJ.AN u.gr 0 rfl)).mv (Ag aU)).mv (Ag aV)).mv (Ag a5)).mv (AP 0));refine BD b6 (Nat.lt_succ_self _) (fun st=>?_);exact⟨(r+1),a,qz st,qd st,sp st 1 t,sp st 3 rfl,cL,bP,a6⟩
          ·replace a:=AD a aJ;refine AL rfl aJ<|Cn<|AT<|AT ?_;obtain rfl:=Option.some.inj a;refine B5 (fun st=>?_);exact .inr ⟨rfl,(),rfl,qz st,qd st,sp st 1 t,bI,aD,aC⟩
        case b5=>
         rintro b3 c9 dC (⟨rfl,aH,rfl,aL,aM,bD,aW⟩|⟨rfl,aH,rfl,aL,aM,bE,aW,bF,a3⟩)
         ·skip
          replace a:=EX a;refine Cx (X:=X0) (N:=101) aL aM<|A6<|AA ?_;obtain rfl:=Option.some.inj a;refine AS rfl bD ?_;exact⟨aW.Bs,rfl⟩
         ·skip
          replace a:=EY a;refine Cx (X:=X0) (N:=101) aL aM<|Bw<|Aa<|Ae<|Ae<|Ab<|wd rfl (fun st=>A8 (l:=[I b.Aj,I b.Ah,I b.Am,I b.Av,.slice j b.Ac.length m]) De (ee st bE) bF rfl rfl) ?_;replace a:=bind_some a;obtain⟨bY,cM,a⟩:=a;refine we rfl (fun st=>AG Qr (ee st rfl) (B4 (ee st rfl)) (U3 aS b j m ZA _ a3.all bY cM)) ?_;rintro _ dK ⟨cN,rfl⟩;have bQ:=aW.ext cN;refine wd rfl (fun st=>Fw (ee st rfl) (ee st rfl))<|Af<|Aa ?_;rcases Ap (decide ((1000:Int)<bY)) with aN|aN
          ·replace a:=AB a aN;refine AE rfl aN<|Ae<|Ab<|wa rfl (v:=I 3) rfl<|Af<|Aa<|AI<|AA ?_;obtain rfl:=Option.some.inj a;refine AS rfl rfl ?_;exact⟨bQ.Bs,rfl⟩
          ·replace a:=AD a aN;refine AL rfl aN<|AV<|Aa<|Ae<|Ab<|wa rfl (v:=I 0) rfl<|Af<|Aa<|AI ?_;obtain rfl:=Option.some.inj a;refine AS rfl rfl ?_;exact⟨bQ.Bs,rfl⟩
theorem VB(p:Nat)(e:Ao)(b:Ay)(h:Option Addr)(j:Nat)(Z:Nat→Prop)(w:World)(x:Sl AK w Z h j e.Ac)(aO:Bool)(a:E1 p e b=some aO):
 BN Tryz.prog 89 #[.agg #[I e.Aj,I e.Ah,I e.Am,I e.Av,.slice h e.Ac.length j],.agg #[I b.As,I b.Az,I b.AO,I b.BM,I b.BP]] w (fun v w'=>Ext w w'∧BW.R w' (ZZ FN [] Z w.heap.size []) v aO):=by
 unfold E1 at a;refine Ba (N:=27) Tryz.func89 rfl rfl (by simp) ?_;intro aW aH aX;have aI:=AM (i:=0) (v:=.agg #[I e.Aj,I e.Ah,I e.Am,I e.Av,.slice h e.Ac.length j]) aH rfl;have aJ:=AM (i:=1) (v:=.agg #[I b.As,I b.Az,I b.AO,I b.BM,I b.BP]) aH rfl;clear aH;have aC:Hp FN [] w [] w:=Hp.start (BQ.none w);have aN:=x.mv (Bp (Z:=Z) (L:=[]) w);refine Ae<|Ab<|we rfl (fun st=>B3 (v:=.agg #[I e.Aj,I e.Ah,I e.Am,I e.Av,.slice h e.Ac.length j]) (cs:= #[I e.Aj,I e.Ah,I e.Am,I e.Av,.slice h e.Ac.length j]) (ee st aI) rfl) ?_;rintro _ w1 ⟨a0,rfl,q⟩;have aD:=aC.nb q;have aU:=aC.BO q;refine we rfl (fun st=>B3 (v:=.agg #[I b.As,I b.Az,I b.AO,I b.BM,I b.BP]) (cs:= #[I b.As,I b.Az,I b.AO,I b.BM,I b.BP]) (ee st aJ) rfl) ?_;rintro _ w2 ⟨a2,rfl,k⟩;have aP:=aD.nb k;have aV:=aD.BO k;refine wa rfl (v:=.bool false) rfl<|Af<|Aa<|Ae<|Ab<|wd rfl (fun st=>An (ee st rfl) (JQ _ _))<|wd rfl (fun st=>A8 (l:=[I b.As,I b.Az]) KQ (ee st rfl) k.bk rfl rfl)<|wd rfl (fun st=>An (ee st rfl) (Hu _ _)) ?_;have m:=(q.bk.ext k.gr);refine wd rfl (fun st=>Au (v:=I e.Aj) AY (ee st rfl) m rfl) ?_;replace a:=bind_some a;obtain⟨aK,aQ,a⟩:=a;refine we rfl (fun st=>AG Sv (ee st rfl) (Ee (ee st rfl) (ee st rfl)) (Vf p (⟨b.As,b.Az⟩:CU) e.Aj ZA _ aK aQ)) ?_;rintro _ a3 ⟨r,rfl⟩;have aE:=aP.ext r;refine wm rfl (v:=.bool aK) rfl ?_;rcases Ap (aK) with f|f
 ·replace a:=AB a f;refine Aq rfl rfl (Ad rfl f) rfl (by decide) (fun st=>An (ee st rfl) (Ho _ _)) ?_;have n:=(k.bk.ext r);refine Aq rfl rfl (Ad rfl f) rfl (by decide) (fun st=>Au (v:=I b.AO) AY (ee st rfl) n rfl) ?_;replace a:=bind_some a;obtain⟨y,aR,a⟩:=a;refine DA rfl rfl (Ad rfl f) rfl (by decide) (fun st=>AG OM (ee st rfl) (B4 (ee st rfl)) (a141 p b.AO ZA _ y aR)) ?_;rintro _ a4 ⟨s,rfl⟩;have aF:=aE.ext s;refine wd rfl (fun st=>AX (v:=.bool y) (ee st rfl) f (ee st rfl))<|wm rfl (v:=.bool y) rfl ?_;rcases Ap (y) with g|g
  ·replace a:=AB a g;refine Aq rfl rfl (Ad rfl g) rfl (by decide) (fun st=>An (ee st rfl) (Lm _ _)) ?_;have o:=(n.ext s);refine Aq rfl rfl (Ad rfl g) rfl (by decide) (fun st=>Au (v:=I b.BM) AY (ee st rfl) o rfl) ?_;replace a:=bind_some a;obtain⟨z,aS,a⟩:=a;refine DA rfl rfl (Ad rfl g) rfl (by decide) (fun st=>AG OM (ee st rfl) (B4 (ee st rfl)) (a141 p b.BM ZA _ z aS)) ?_;rintro _ aY ⟨t,rfl⟩;have aG:=aF.ext t;refine wd rfl (fun st=>AX (v:=.bool z) (ee st rfl) g (ee st rfl))<|wm rfl (v:=.bool z) rfl ?_;rcases Ap (z) with d|d
   ·replace a:=AB a d;refine Aq rfl rfl (Ad rfl d) rfl (by decide) (fun st=>An (ee st rfl) (NQ _ _)) ?_;have aA:=(o.ext t);refine Aq rfl rfl (Ad rfl d) rfl (by decide) (fun st=>Au (v:=I b.BP) AY (ee st rfl) aA rfl)<|Aq rfl rfl (Ad rfl d) rfl (by decide) (fun st=>An (ee st rfl) (Hu _ _)) ?_;have aB:=(((m.ext r).ext s).ext t);refine Aq rfl rfl (Ad rfl d) rfl (by decide) (fun st=>Au (v:=I e.Aj) AY (ee st rfl) aB rfl) ?_;replace a:=bind_some a;obtain⟨u,aL,a⟩:=a;refine DA rfl rfl (Ad rfl d) rfl (by decide) (fun st=>AG Jf (ee st rfl) (FX (ee st rfl) (ee st rfl) (ee st rfl)) (O2 p b.BP 0 e.Aj ZA _ u aL)) ?_;rintro _ aZ ⟨aM,rfl⟩;have aT:=aG.ext aM;refine wd rfl (fun st=>AX (v:=.bool u) (ee st rfl) d (ee st rfl))<|wa rfl (v:=.bool u) rfl<|Af<|Aa<|AI ?_;obtain rfl:=Option.some.inj a;refine AS rfl rfl ?_;exact⟨aT.Bs,rfl⟩
   ·replace a:=AD a d;refine Ak (c:=false) rfl rfl (Ad rfl d) (by decide) rfl (by decide)<|Ak (c:=false) rfl rfl (Ad rfl d) (by decide) rfl (by decide)<|Ak (c:=false) rfl rfl (Ad rfl d) (by decide) rfl (by decide)<|Ak (c:=false) rfl rfl (Ad rfl d) (by decide) rfl (by decide)<|Ak (c:=false) rfl rfl (Ad rfl d) (by decide) rfl (by decide)<|wd rfl (fun st=>Bh (v:=.bool false) (ee st rfl) d (ee st rfl))<|wa rfl (v:=.bool false) rfl<|Af<|Aa<|AI ?_;obtain rfl:=Option.some.inj a;refine AS rfl rfl ?_;exact⟨aG.Bs,rfl⟩
  ·replace a:=AD a g;refine Ak (c:=false) rfl rfl (Ad rfl g) (by decide) rfl (by decide)<|Ak (c:=false) rfl rfl (Ad rfl g) (by decide) rfl (by decide)<|Ak (c:=false) rfl rfl (Ad rfl g) (by decide) rfl (by decide)<|wd rfl (fun st=>Bh (v:=.bool false) (ee st rfl) g (ee st rfl))<|wm rfl (v:=.bool false) rfl<|Ak rfl rfl rfl (by decide) rfl (by decide)<|Ak rfl rfl rfl (by decide) rfl (by decide)<|Ak rfl rfl rfl (by decide) rfl (by decide)<|Ak rfl rfl rfl (by decide) rfl (by decide)<|Ak rfl rfl rfl (by decide) rfl (by decide)<|wd rfl (fun st=>Bh (v:=.bool false) (ee st rfl) rfl (ee st rfl))<|wa rfl (v:=.bool false) rfl<|Af<|Aa<|AI ?_;obtain rfl:=Option.some.inj a;refine AS rfl rfl ?_;exact⟨aF.Bs,rfl⟩
 ·replace a:=AD a f;refine Ak (c:=false) rfl rfl (Ad rfl f) (by decide) rfl (by decide)<|Ak (c:=false) rfl rfl (Ad rfl f) (by decide) rfl (by decide)<|Ak (c:=false) rfl rfl (Ad rfl f) (by decide) rfl (by decide)<|wd rfl (fun st=>Bh (v:=.bool false) (ee st rfl) f (ee st rfl))<|wm rfl (v:=.bool false) rfl<|Ak rfl rfl rfl (by decide) rfl (by decide)<|Ak rfl rfl rfl (by decide) rfl (by decide)<|Ak rfl rfl rfl (by decide) rfl (by decide)<|wd rfl (fun st=>Bh (v:=.bool false) (ee st rfl) rfl (ee st rfl))<|wm rfl (v:=.bool false) rfl<|Ak rfl rfl rfl (by decide) rfl (by decide)<|Ak rfl rfl rfl (by decide) rfl (by decide)<|Ak rfl rfl rfl (by decide) rfl (by decide)<|Ak rfl rfl rfl (by decide) rfl (by decide)<|Ak rfl rfl rfl (by decide) rfl (by decide)<|wd rfl (fun st=>Bh (v:=.bool false) (ee st rfl) rfl (ee st rfl))<|wa rfl (v:=.bool false) rfl<|Af<|Aa<|AI ?_;obtain rfl:=Option.some.inj a;refine AS rfl rfl ?_;exact⟨aE.Bs,rfl⟩
theorem VC(aT:Nat)(h:List Int)(n:List Int)(c:Option Addr)(d:Nat)(f:Option Addr)(g:Nat)(Z:Nat→Prop)(w:World)(aJ:Sl (Ax .i64) w Z c d h)(aK:Sl (Ax .i64) w Z f g n)(aU:Bool)(a:FC aT h n=some aU):
 BN Tryz.prog 55 #[.slice c h.length d,.slice f n.length g] w (fun v w'=>Ext w w'∧BW.R w' (ZZ FN [] Z w.heap.size []) v aU):=by
 unfold FC at a;refine Ba (N:=26) Tryz.func55 rfl rfl (by simp) ?_;intro bI aO bJ;have aF:=AM (i:=0) (v:=.slice c h.length d) aO rfl;have aG:=AM (i:=1) (v:=.slice f n.length g) aO rfl;clear aO;have aL:Hp FN [] w [] w:=Hp.start (BQ.none w);have aA:=aJ.mv (Bp (Z:=Z) (L:=[]) w);have aB:=aK.mv (Bp (Z:=Z) (L:=[]) w);refine Ae<|Ab<|wa rfl (v:=.bool false) rfl<|Af<|Aa<|Ae<|Ae<|Ab<|wm rfl (v:=.slice c h.length d) aF<|wd rfl (fun st=>BY Tryz.underlying23 (ee st rfl))<|wm rfl (v:=.slice f n.length g) aG<|wd rfl (fun st=>BY Tryz.underlying23 (ee st rfl))<|wd rfl (fun st=>DW (ee st rfl) (ee st rfl))<|Af<|Aa ?_;rcases Ap ((h.length:Int) !=(n.length:Int)) with t|t
 ·replace a:=AB a t;refine AE rfl t<|Ae<|Ab<|wa rfl (v:=.bool false) rfl<|Af<|Aa<|AI<|AA ?_;obtain rfl:=Option.some.inj a;refine AS rfl rfl ?_;exact⟨aL.Bs,rfl⟩
 ·replace a:=AD a t;refine AL rfl t<|AV<|Aa<|Ae<|Ae<|Ab<|wa rfl (v:=I 0) rfl<|Af<|Aa<|Be ?_;replace a:=bind_some a;obtain⟨z2,o,a⟩:=a;refine Cr (fun aP e aC=>(aP=.ret∧∃p,z2=.inl p∧e.tmps.size=26∧e.defers=(X0).ds∧sl e 4=.bool p∧Hp FN [] w [] aC)∨(aP=.exit 0∧∃p,z2=.inr p∧e.tmps.size=26∧e.defers=(X0).ds∧Hp FN [] w [] aC)) ?aV ?aW
  case aV=>
   clear a;refine Cq (fun(aQ:Nat) (e:Act) (aC:World)=>∃b,DG h n aQ b=some z2∧e.tmps.size=26∧e.defers=(X0).ds∧sl e 0=.slice c h.length d∧sl e 1=.slice f n.length g∧sl e 5=I b∧Hp FN [] w [] aC∧Sl (Ax .i64) aC (ZZ FN [] Z w.heap.size []) c d h∧Sl (Ax .i64) aC (ZZ FN [] Z w.heap.size []) f g n) aT ?aX ?aY
   case aX=>
    intro st;exact⟨(0:Int),o,qz st,qd st,sp st 0 aF,sp st 1 aG,sp st 5 rfl,aL,aA,aB⟩
   case aY=>
    rintro(_|aQ) bK bL ⟨b,o,aR,aS,q,z,j,aM,l,m⟩
    ·exact absurd (show none=some _ from o) (by simp)
    rw[DG.eq_2] at o;have a:=o;clear o;refine Ca (N:=26) aR aS<|Ae<|Ae<|Ab<|wm rfl (v:=I b) j<|wm rfl (v:=.slice c h.length d) q<|wd rfl (fun st=>BY Tryz.underlying23 (ee st rfl))<|wd rfl (fun st=>CI (ee st rfl) (ee st rfl))<|Af<|Aa ?_;rcases Ap (decide (b<(h.length:Int))) with u|u
    ·replace a:=AB a u;refine AE rfl u<|AV<|Aa<|Ae<|Be<|Ae ?_;replace a:=Br a;obtain⟨i5,aZ,a0,a2,a3,a⟩:=a;obtain⟨bD,bE,_,a4,rfl,a5⟩:=Sl.Ev l rfl a2;replace a:=Br a;obtain⟨i6,a6,a7,a8,a9,a⟩:=a;obtain⟨bF,bG,_,bA,rfl,bB⟩:=Sl.Ev m rfl a8;refine Dc 8 [Kc (.slice c h.length d),Kc (I b),Kc (pt bD (bE+i5)),Kc (I aZ),Kc (.slice f n.length g),Kc (I b),Kc (pt bF (bG+i6)),Kc (I a6)] mixed rfl rfl
         (Ai (od rfl (fun _=>rfl) (fun K=>AR (es ((K.out 0 rfl).trans q))))
         (Ai (od rfl (fun _=>rfl) (fun K=>AR (es ((K.out 5 rfl).trans j))))
         (Ai (od rfl (fun _=>rfl) (fun K=>Bv (k:=i5) Tryz.underlying23 Dn (es (K.AF 0 17 rfl rfl)) a4 (es (K.AF 1 18 rfl rfl)) a0 a3))
         (Ai (od rfl (fun _=>rfl) (fun K=>B8 AY (es (K.AF 2 19 rfl rfl)) (a5.mv (Ag K.Bt)) rfl))
         (Ai (od rfl (fun _=>rfl) (fun K=>AR (es ((K.out 1 rfl).trans z))))
         (Ai (od rfl (fun _=>rfl) (fun K=>AR (es ((K.out 5 rfl).trans j))))
         (Ai (od rfl (fun _=>rfl) (fun K=>Bv (k:=i6) Tryz.underlying23 Dn (es (K.AF 4 21 rfl rfl)) bA (es (K.AF 5 22 rfl rfl)) a7 a9))
         (Ai (od rfl (fun _=>rfl) (fun K=>B8 AY (es (K.AF 6 23 rfl rfl)) (bB.mv (Ag K.Bt)) rfl))
         (Ck _))))))))) ?_
     intro bN;rintro _ rfl _ rfl _ rfl _ rfl _ rfl _ rfl _ rfl _ rfl aH;have aN:=aM.ext aH;refine wd rfl (fun st=>DW (ee st rfl) (ee st rfl))<|Af<|Aa ?_;rcases Ap (aZ !=a6) with x|x
     ·replace a:=AB a x;refine AE rfl x<|Ae<|Ab<|wa rfl (v:=.bool false) rfl<|Af<|Aa<|AI<|A6<|AA<|AA ?_;obtain rfl:=Option.some.inj a;refine B5 (fun st=>?_);exact .inl ⟨rfl,false,rfl,qz st,qd st,sp st 4 rfl,aN⟩
     ·replace a:=AD a x;refine AL rfl x<|AV<|Bq<|Aa<|Ab<|wm rfl (v:=I b) j ?_;replace a:=AZ a;obtain⟨bC,a⟩:=a;refine wd rfl (fun st=>BE (ee st rfl) (ee st rfl) bC)<|wa rfl (v:=I (b+1)) rfl<|Af ?_;have aD:=(l.mv (Ag aH));have aE:=(m.mv (Ag aH));refine BD aQ (Nat.lt_succ_self _) (fun st=>?_);exact⟨(b+1),a,qz st,qd st,sp st 0 q,sp st 1 z,sp st 5 rfl,aN,aD,aE⟩
    ·replace a:=AD a u;refine AL rfl u<|Cn<|AT<|AT ?_;obtain rfl:=Option.some.inj a;refine B5 (fun st=>?_);exact .inr ⟨rfl,(),rfl,qz st,qd st,aM⟩
  case aW=>
   rintro aP bH bM (⟨rfl,p,rfl,r,s,aI,y⟩|⟨rfl,p,rfl,r,s,y⟩)
   ·skip
    replace a:=EX a;refine Cx (X:=X0) (N:=26) r s<|A6<|AA ?_;obtain rfl:=Option.some.inj a;refine AS rfl aI ?_;exact⟨y.Bs,rfl⟩
   ·skip
    replace a:=EY a;refine Cx (X:=X0) (N:=26) r s<|Bw<|Aa<|Ae<|Ab<|wa rfl (v:=.bool true) rfl<|Af<|Aa<|AI ?_;obtain rfl:=Option.some.inj a;refine AS rfl rfl ?_;exact⟨y.Bs,rfl⟩
theorem U5(a6:Nat)(p:List Int)(q:List Int)(g:Option Addr)(h:Nat)(j:Option Addr)(l:Nat)(Z:Nat→Prop)(w:World)(a7:Sl (Ax .i64) w Z g h p)(a8:Sl (Ax .i64) w Z j l q)(bR:Bool)(a:En a6 p q=some bR):
 BN Tryz.prog 60 #[.slice g p.length h,.slice j q.length l] w (fun v w'=>Ext w w'∧BW.R w' (ZZ FN [] Z w.heap.size []) v bR):=by
 unfold En at a;refine Ba (N:=34) Tryz.func60 rfl rfl (by simp) ?_;intro cM bF cN;have bG:=AM (i:=0) (v:=.slice g p.length h) bF rfl;have bH:=AM (i:=1) (v:=.slice j q.length l) bF rfl;clear bF;have bS:Hp FN [] w [] w:=Hp.start (BQ.none w);have aR:=a7.mv (Bp (Z:=Z) (L:=[]) w);have aS:=a8.mv (Bp (Z:=Z) (L:=[]) w);refine Ae<|Ab<|wa rfl (v:=.bool false) rfl<|Af<|Aa<|Ae<|Ae<|Ab<|wa rfl (v:=I 0) rfl<|Af<|Aa<|Be ?_;replace a:=bind_some a;obtain⟨bI,aB,a⟩:=a;refine Cr (fun aT b s=>(aT=.ret∧∃aC,bI=.inl aC∧b.tmps.size=34∧b.defers=(X0).ds∧sl b 4=.bool aC∧Hp FN [] w [] s)∨(aT=.exit 0∧∃aC,bI=.inr aC∧b.tmps.size=34∧b.defers=(X0).ds∧Hp FN [] w [] s)) ?bT ?bU
 case bT=>
  clear a;refine Cq (fun(aH:Nat) (b:Act) (s:World)=>∃e,Dj a6 p q aH e=some bI∧b.tmps.size=34∧b.defers=(X0).ds∧sl b 0=.slice g p.length h∧sl b 1=.slice j q.length l∧sl b 5=I e∧Hp FN [] w [] s∧Sl (Ax .i64) s (ZZ FN [] Z w.heap.size []) g h p∧Sl (Ax .i64) s (ZZ FN [] Z w.heap.size []) j l q) a6 ?bV ?bW
  case bV=>
   intro st;exact⟨(0:Int),aB,qz st,qd st,sp st 0 bG,sp st 1 bH,sp st 5 rfl,bS,aR,aS⟩
  case bW=>
   rintro(_|aH) cO cP ⟨e,aB,bJ,bK,aP,a9,aQ,bE,aK,aL⟩
   ·exact absurd (show none=some _ from aB) (by simp)
   rw[Dj.eq_2] at aB;have a:=aB;clear aB;refine Ca (N:=34) bJ bK<|Ae<|Ae<|Ab<|wm rfl (v:=I e) aQ<|wm rfl (v:=.slice g p.length h) aP<|wd rfl (fun st=>BY Tryz.underlying23 (ee st rfl))<|wd rfl (fun st=>CI (ee st rfl) (ee st rfl))<|Af<|Aa ?_;rcases Ap (decide (e<(p.length:Int))) with aI|aI
   ·replace a:=AB a aI;refine AE rfl aI<|AV<|Aa<|Ae<|Be<|Ae<|Ab<|wa rfl (v:=.bool false) rfl<|Af<|Aa<|Ae<|Ae<|Ab<|wa rfl (v:=I 0) rfl<|Af<|Aa<|Be ?_;replace a:=bind_some a;obtain⟨z3,aD,a⟩:=a;refine Cr (fun aT b s=>(aT=.exit 2∧b.tmps.size=34∧b.defers=(X0).ds∧sl b 0=.slice g p.length h∧sl b 1=.slice j q.length l∧sl b 5=I e∧sl b 6=.bool z3∧Hp FN [] w [] s∧Sl (Ax .i64) s (ZZ FN [] Z w.heap.size []) g h p∧Sl (Ax .i64) s (ZZ FN [] Z w.heap.size []) j l q)) ?bX ?bY
    case bX=>
     clear a;refine Cq (fun(aH:Nat) (b:Act) (s:World)=>∃o,∃f,C0 p q e aH o f=some z3∧b.tmps.size=34∧b.defers=(X0).ds∧sl b 0=.slice g p.length h∧sl b 1=.slice j q.length l∧sl b 5=I e∧sl b 6=.bool o∧sl b 7=I f∧Hp FN [] w [] s∧Sl (Ax .i64) s (ZZ FN [] Z w.heap.size []) g h p∧Sl (Ax .i64) s (ZZ FN [] Z w.heap.size []) j l q) a6 ?bZ ?b1
     case bZ=>
      intro st;exact⟨false,(0:Int),aD,qz st,qd st,sp st 0 aP,sp st 1 a9,sp st 5 aQ,sp st 6 rfl,sp st 7 rfl,bE,aK,aL⟩
     case b1=>
      rintro(_|aH) cQ cR ⟨o,f,aD,bL,bM,x,u,y,aE,z,aY,m,n⟩
      ·exact absurd (show none=some _ from aD) (by simp)
      rw[C0.eq_2] at aD;have a:=aD;clear aD;refine Ca (N:=34) bL bM<|Ae<|Ae<|Ab<|wm rfl (v:=I f) z<|wm rfl (v:=.slice j q.length l) u<|wd rfl (fun st=>BY Tryz.underlying23 (ee st rfl))<|wd rfl (fun st=>CI (ee st rfl) (ee st rfl))<|Af<|Aa ?_;rcases Ap (decide (f<(q.length:Int))) with aJ|aJ
      ·replace a:=AB a aJ;refine AE rfl aJ<|AV<|Aa<|Ae<|Be ?_;rcases Ap (o) with d|d
       ·replace a:=AB a d;refine Dc 10 [Kc (.bool o),Kc (.bool o),Kc undef,Kc undef,Kc undef,Kc undef,Kc undef,Kc undef,Kc undef,Kc undef] mixed rfl rfl
            (Ai (od rfl (fun _=>rfl) (fun K=>AR (es (t:=6) ((K.later 12 6 _ rfl rfl rfl).trans aE))))
            (Ai (od rfl (fun _=>rfl) (fun K=>AR (es (K.AF 0 20 rfl rfl))))
            (Ai (C8 (c:=true) rfl rfl rfl (by decide) (fun a' w' ph K=>Ad (K.AF 1 21 rfl rfl) d) (fun _=>rfl))
            (Ai (C8 (c:=true) rfl rfl rfl (by decide) (fun a' w' ph K=>Ad (K.AF 1 21 rfl rfl) d) (fun _=>rfl))
            (Ai (C8 (c:=true) rfl rfl rfl (by decide) (fun a' w' ph K=>Ad (K.AF 1 21 rfl rfl) d) (fun _=>rfl))
            (Ai (C8 (c:=true) rfl rfl rfl (by decide) (fun a' w' ph K=>Ad (K.AF 1 21 rfl rfl) d) (fun _=>rfl))
            (Ai (C8 (c:=true) rfl rfl rfl (by decide) (fun a' w' ph K=>Ad (K.AF 1 21 rfl rfl) d) (fun _=>rfl))
            (Ai (C8 (c:=true) rfl rfl rfl (by decide) (fun a' w' ph K=>Ad (K.AF 1 21 rfl rfl) d) (fun _=>rfl))
            (Ai (C8 (c:=true) rfl rfl rfl (by decide) (fun a' w' ph K=>Ad (K.AF 1 21 rfl rfl) d) (fun _=>rfl))
            (Ai (C8 (c:=true) rfl rfl rfl (by decide) (fun a' w' ph K=>Ad (K.AF 1 21 rfl rfl) d) (fun _=>rfl))
            (Ck _))))))))))) ?_
        intro cF;rintro _ rfl _ rfl _ rfl _ rfl _ rfl _ rfl _ rfl _ rfl _ rfl _ rfl aA;have b2:=aY.ext aA;refine Ak (c:=true) rfl rfl (Ad rfl d) (by decide) rfl (by decide)<|wd rfl (fun st=>AX (v:=.bool true) (ee st rfl) d (ee st rfl))<|wa rfl (v:=.bool true) rfl<|Af<|Bq<|Aa<|Ab<|wm rfl (v:=I f) z ?_;replace a:=AZ a;obtain⟨b3,a⟩:=a;refine wd rfl (fun st=>BE (ee st rfl) (ee st rfl) b3)<|wa rfl (v:=I (f+1)) rfl<|Af ?_;have aU:=(m.mv (Ag aA));have aV:=(n.mv (Ag aA));refine BD aH (Nat.lt_succ_self _) (fun st=>?_);exact⟨true,(f+1),a,qz st,qd st,sp st 0 x,sp st 1 u,sp st 5 y,sp st 6 rfl,sp st 7 rfl,b2,aU,aV⟩
       ·replace a:=AD a d;replace a:=Br a;obtain⟨i8,bA,b4,b5,b6,a⟩:=a;obtain⟨cG,cH,_,b7,rfl,b8⟩:=Sl.Ev m rfl b5;replace a:=Br a;obtain⟨i9,bB,b9,cA,cB,a⟩:=a;obtain⟨cI,cJ,_,cC,rfl,cD⟩:=Sl.Ev n rfl cA;refine Dc 10 [Kc (.bool o),Kc (.bool o),Kc (.slice g p.length h),Kc (I e),Kc (pt cG (cH+i8)),Kc (I bA),Kc (.slice j q.length l),Kc (I f),Kc (pt cI (cJ+i9)),Kc (I bB)] mixed rfl rfl
            (Ai (od rfl (fun _=>rfl) (fun K=>AR (es (t:=6) ((K.later 12 6 _ rfl rfl rfl).trans aE))))
            (Ai (od rfl (fun _=>rfl) (fun K=>AR (es (K.AF 0 20 rfl rfl))))
            (Ai (BL rfl rfl rfl (fun _=>rfl) (fun a' w' ph K=>Ad (K.AF 1 21 rfl rfl) d) (fun a' w' ph K=>AR (es ((K.out 0 rfl).trans x))))
            (Ai (BL rfl rfl rfl (fun _=>rfl) (fun a' w' ph K=>Ad (K.AF 1 21 rfl rfl) d) (fun a' w' ph K=>AR (es ((K.out 5 rfl).trans y))))
            (Ai (BL rfl rfl rfl (fun _=>rfl) (fun a' w' ph K=>Ad (K.AF 1 21 rfl rfl) d) (fun a' w' ph K=>Bv (k:=i8) Tryz.underlying23 Dn (es (K.AF 2 22 rfl rfl)) b7 (es (K.AF 3 23 rfl rfl)) b4 b6))
            (Ai (BL rfl rfl rfl (fun _=>rfl) (fun a' w' ph K=>Ad (K.AF 1 21 rfl rfl) d) (fun a' w' ph K=>B8 AY (es (K.AF 4 24 rfl rfl)) (b8.mv (Ag K.Bt)) rfl))
            (Ai (BL rfl rfl rfl (fun _=>rfl) (fun a' w' ph K=>Ad (K.AF 1 21 rfl rfl) d) (fun a' w' ph K=>AR (es ((K.out 1 rfl).trans u))))
            (Ai (BL rfl rfl rfl (fun _=>rfl) (fun a' w' ph K=>Ad (K.AF 1 21 rfl rfl) d) (fun a' w' ph K=>AR (es ((K.out 7 rfl).trans z))))
            (Ai (BL rfl rfl rfl (fun _=>rfl) (fun a' w' ph K=>Ad (K.AF 1 21 rfl rfl) d) (fun a' w' ph K=>Bv (k:=i9) Tryz.underlying23 Dn (es (K.AF 6 26 rfl rfl)) cC (es (K.AF 7 27 rfl rfl)) b9 cB))
            (Ai (BL rfl rfl rfl (fun _=>rfl) (fun a' w' ph K=>Ad (K.AF 1 21 rfl rfl) d) (fun a' w' ph K=>B8 AY (es (K.AF 8 28 rfl rfl)) (cD.mv (Ag K.Bt)) rfl))
            (Ck _))))))))))) ?_
        intro cF;rintro _ rfl _ rfl _ rfl _ rfl _ rfl _ rfl _ rfl _ rfl _ rfl _ rfl aA;have cE:=aY.ext aA;refine Aq rfl rfl (Ad rfl d) rfl (by decide) (fun st=>CH (ee st rfl) (ee st rfl))<|wd rfl (fun st=>Bh (v:=.bool (bA==bB)) (ee st rfl) d (ee st rfl))<|wa rfl (v:=.bool (bA==bB)) rfl<|Af<|Bq<|Aa<|Ab<|wm rfl (v:=I f) z ?_;replace a:=AZ a;obtain⟨bN,a⟩:=a;refine wd rfl (fun st=>BE (ee st rfl) (ee st rfl) bN)<|wa rfl (v:=I (f+1)) rfl<|Af ?_;have aW:=(m.mv (Ag aA));have aX:=(n.mv (Ag aA));refine BD aH (Nat.lt_succ_self _) (fun st=>?_);exact⟨(bA==bB),(f+1),a,qz st,qd st,sp st 0 x,sp st 1 u,sp st 5 y,sp st 6 rfl,sp st 7 rfl,cE,aW,aX⟩
      ·replace a:=AD a aJ;refine AL rfl aJ<|Cn<|AT<|AT ?_;obtain rfl:=Option.some.inj a;refine B5 (fun st=>?_);exact⟨rfl,qz st,qd st,sp st 0 x,sp st 1 u,sp st 5 y,sp st 6 aE,aY,m,n⟩
    case bY=>
     rintro aT cK cS (⟨rfl,bC,bD,aZ,a0,a2,a3,a4,aM,aN⟩);refine Cx (X:=X0) (N:=34) bC bD<|Bw<|Aa<|Ae<|Ab<|wm rfl (v:=.bool z3) a3<|wd rfl (fun st=>Dz (ee st rfl))<|Af<|Aa ?_;rcases Ap (!z3) with r|r
     ·replace a:=AB a r;have bP:z3=false:=by simpa using r
      refine AE rfl r<|Ae<|Ab<|wa rfl (v:=.bool false) rfl<|Af<|Aa<|AI<|A6<|AA<|AA ?_;obtain rfl:=Option.some.inj a;refine B5 (fun st=>?_);exact .inl ⟨rfl,false,rfl,qz st,qd st,sp st 4 rfl,a4⟩
     ·replace a:=AD a r;have bQ:z3=true:=by simpa using r
      refine AL rfl r<|AV<|Bq<|Aa<|Ab<|wm rfl (v:=I e) a2 ?_;replace a:=AZ a;obtain⟨bO,a⟩:=a;refine wd rfl (fun st=>BE (ee st rfl) (ee st rfl) bO)<|wa rfl (v:=I (e+1)) rfl<|Af ?_;refine BD aH (Nat.lt_succ_self _) (fun st=>?_);exact⟨(e+1),a,qz st,qd st,sp st 0 aZ,sp st 1 a0,sp st 5 rfl,a4,aM,aN⟩
   ·replace a:=AD a aI;refine AL rfl aI<|Cn<|AT<|AT ?_;obtain rfl:=Option.some.inj a;refine B5 (fun st=>?_);exact .inr ⟨rfl,(),rfl,qz st,qd st,bE⟩
 case bU=>
  rintro aT cL cT (⟨rfl,aC,rfl,aF,aG,a5,aO⟩|⟨rfl,aC,rfl,aF,aG,aO⟩)
  ·skip
   replace a:=EX a;refine Cx (X:=X0) (N:=34) aF aG<|A6<|AA ?_;obtain rfl:=Option.some.inj a;refine AS rfl a5 ?_;exact⟨aO.Bs,rfl⟩
  ·skip
   replace a:=EY a;refine Cx (X:=X0) (N:=34) aF aG<|Bw<|Aa<|Ae<|Ab<|wa rfl (v:=.bool true) rfl<|Af<|Aa<|AI ?_;obtain rfl:=Option.some.inj a;refine AS rfl rfl ?_;exact⟨aO.Bs,rfl⟩
theorem L5(y:Nat)(a:Int)(Z:Nat→Prop)(w:World)(s:Ao)(t:CK y a=some s):
 BN Tryz.prog 82 #[I a] w (fun v w'=>Ext w w'∧(D4 IA).R w' (ZZ FN [] Z w.heap.size []) v s):=by
 unfold CK at t;refine Ba (N:=9) Tryz.func82 rfl rfl (by simp) ?_;intro z u aA;have r:=AM (i:=0) (v:=I a) u rfl;clear u;have m:Hp FN [] w [] w:=Hp.start (BQ.none w);refine Ae<|Ab<|we rfl (fun st=>BI (cs:= #[I 0,I 0,I 0,I 0,.slice none 0 0]) Mn rfl) ?_;rintro _ w1 ⟨aB,rfl,c⟩;have o:=m.nb c;have x:=m.BO c;refine Af<|Aa<|Ae<|Ab<|wm rfl (v:=I a) r<|wd rfl (fun st=>C7 (vs:= #[(1,I 2),(2,I 2),(3,I 2)]) (v:=.agg #[I 0,I 0,I 2,I 2,I 2]) (JZ (ee st rfl) (ee st rfl) (ee st rfl)) (by kernel_rfl))<|wd rfl (fun st=>C7 (vs:= #[(0,I 1),(1,I 1)]) (v:=.agg #[I 1,I 1]) (H8 (ee st rfl) (ee st rfl)) (by kernel_rfl))<|wd rfl (fun st=>C7 (vs:= #[(0,.agg #[I 1,I 1]),(1,I 2),(2,I 1),(3,I 5)]) (v:=.agg #[I 1,I 1,I 2,I 1,I 5]) (Tg (ee st rfl) (ee st rfl) (ee st rfl) (ee st rfl)) (by kernel_rfl))<|we rfl (fun st=>Bz (e:=156) (vs:= #[(0,.agg #[I 0,I 0,I 2,I 2,I 2]),(1,.agg #[I 1,I 1,I 2,I 1,I 5])]) (cs:= #[I 0,I 0,I 2,I 2,I 2,I 1,I 1,I 2,I 1,I 5]) (H8 (ee st rfl) (ee st rfl)) (by kernel_rfl)) ?_;rintro _ w2 ⟨d,rfl,b⟩;have p:=o.nb b;have g:=o.BO b;refine wd rfl (fun st=>C7 (vs:= #[(0,I 5),(1,I 1),(2,I a),(3,I 1),(4,.slice (some ⟨d,0,none⟩) 2 2)]) (v:=.agg #[I 5,I 1,I a,I 1,.slice (some ⟨d,0,none⟩) 2 2]) (Vy (ee st rfl) (ee st rfl) (ee st rfl) (ee st rfl) (ee st rfl)) (by kernel_rfl)) ?_;have j:=(c.bk.ext b.gr);refine Bj rfl rfl (fun st=>Bb (n:=5) (l:=[I 5,I 1,I a,I 1,.slice (some ⟨d,0,none⟩) 2 2]) (B1:= #[I 5,I 1,I a,I 1,.slice (some ⟨d,0,none⟩) 2 2]) (ee st rfl) (ee st rfl) PG j rfl rfl (show 0+5≤5 by decide) (AQ rfl) rfl) ?_;rintro _ aC f;have q:=p.gr f.gr 1 rfl;refine Af<|Aa<|AI ?_;obtain rfl:=Option.some.inj t;refine GW (v:=.agg #[I 5,I 1,I a,I 1,.slice (some ⟨d,0,none⟩) 2 2]) rfl rfl (Db CS f.bk rfl rfl) ?_;have k:=(b.bk.gr f.gr (p.ne 0 1 rfl rfl rfl));exact⟨q.Bs,⟨_,rfl,_,_,rfl,GM (e:=AK) (xs:=[(⟨0,0,2,2,2⟩:Ay),(⟨1,1,2,1,5⟩:Ay)]) (Bc:=[[I 0,I 0,I 2,I 2,I 2],[I 1,I 1,I 2,I 1,I 5]]) k (.inr ⟨g,fun hm=>q.By (F':=FN) (M:=[]) 0 rfl [] rfl trivial (fun _ h=>h.elim) (.inr hm)⟩) ⟨rfl,rfl,trivial⟩ rfl (Nat.le_refl _)⟩⟩
theorem VD(bA:Nat)(b:Int)(Z:Nat→Prop)(w:World)(aX:A5)(j:Gt bA b=some aX):
 BN Tryz.prog 83 #[I b] w (fun v w'=>Ext w w'∧(D4 GB).R w' (ZZ FN [] Z w.heap.size []) v aX):=by
 unfold Gt at j;refine Ba (N:=12) Tryz.func83 rfl rfl (by simp) ?_;intro bH aY bI;have aQ:=AM (i:=0) (v:=I b) aY rfl;clear aY;have aI:Hp FN [] w [] w:=Hp.start (BQ.none w);refine Ae<|Ab<|we rfl (fun st=>BI (cs:= #[.slice none 0 0,.slice none 0 0]) Fv rfl) ?_;rintro _ w1 ⟨t,rfl,u⟩;have aJ:=aI.nb u;have a7:=aI.BO u;refine Af<|Aa<|Ae<|Ab<|we rfl (fun st=>Bz (e:=3) (vs:= #[(0,I 0),(1,I 1)]) (cs:= #[I 0,I 1]) (H8 (ee st rfl) (ee st rfl)) (by kernel_rfl)) ?_;rintro _ w2 ⟨c,rfl,q⟩;have x:=aJ.nb q;have aD:=aJ.BO q;replace j:=Hg j;obtain⟨aZ,j⟩:=j;refine we rfl (fun st=>HR (e:=Bx) (z:=false) (zc:=[.bool false]) (n0:=w.heap.size) (b':=1) Tryz.underlying65 NX rfl rfl (ee st rfl) (ee st rfl) aZ (fun _ _=>rfl) x.sz (by decide)) ?_;rintro _ a0 ⟨a,rfl,aK,aR,y,aS⟩;have aL:Hp FN [] w [some a,some c,some t] a0:=x.new y aK aR;have a8:w.heap.size≤a:=Nat.le_trans x.sz aK;have a2:AH Bx 4 w.heap.size a0 (ZZ FN [] Z w.heap.size [some a,some c,some t]) (some ⟨a,0,none⟩) ((6:Int).toNat) (List.replicate (6:Int).toNat false):=aS _;refine wd rfl (fun st=>C7 (vs:= #[(0,.slice (some ⟨c,0,none⟩) 2 2),(1,.slice (some ⟨a,0,none⟩) ((List.replicate (6:Int).toNat false).length) ((6:Int).toNat))]) (v:=.agg #[.slice (some ⟨c,0,none⟩) 2 2,.slice (some ⟨a,0,none⟩) ((List.replicate (6:Int).toNat false).length) ((6:Int).toNat)]) (H8 (ee st rfl) (ee st rfl)) (by kernel_rfl))<|we rfl (fun st=>BI (cs:= #[.slice none 0 0,.slice none 0 0]) Fv rfl) ?_;rintro _ bK ⟨aE,rfl,d⟩;have m:=aL.nb d;have a9:=aL.BO d;refine Bj rfl rfl (fun st=>Bb (n:=2) (l:=[.slice (some ⟨c,0,none⟩) 2 2,.slice (some ⟨a,0,none⟩) ((List.replicate (6:Int).toNat false).length) ((6:Int).toNat)]) (B1:= #[.slice (some ⟨c,0,none⟩) 2 2,.slice (some ⟨a,0,none⟩) ((List.replicate (6:Int).toNat false).length) ((6:Int).toNat)]) (ee st rfl) (ee st rfl) FW d.bk rfl rfl (show 0+2≤2 by decide) (AQ rfl) rfl) ?_;rintro _ bB f;have o:=m.gr f.gr 0 rfl;refine Af<|Aa<|Ae<|Ab<|wd rfl (fun st=>An (ee st rfl) (Hv _ _))<|wd rfl (fun st=>Au (v:=.slice (some ⟨a,0,none⟩) ((List.replicate (6:Int).toNat false).length) ((6:Int).toNat)) G7 (ee st rfl) f.bk rfl)<|wm rfl (v:=I b) aQ ?_;replace j:=Br j;obtain⟨i7,bL,aM,aN,aA,j⟩:=j;have r:AH Bx 4 w.heap.size bB (ZZ FN [] Z w.heap.size [some aE,some a,some c,some t]) (some ⟨a,0,none⟩) ((6:Int).toNat) (List.replicate (6:Int).toNat false):=((a2.ext d.gr (Aw d)).gr f.gr (fun k aT=>m.ne 1 0 rfl (congrArg some aT) rfl) (m.AN f.gr 0 rfl));obtain⟨bM,bN,_,aO,rfl,bJ⟩:=Sl.Ev r.all rfl aN;refine wd rfl (fun st=>Bv (k:=i7) Tryz.underlying65 KA (ee st rfl) aO (ee st rfl) aM aA) ?_;have aP:b.toNat=i7:=by rw[aM,Int.toNat_natCast]
 refine Bj rfl rfl (fun st=>Gj (k:=i7) (z':=true) (l:=[.bool true]) r aN aO rfl (ee st rfl) (ee st rfl) KA rfl rfl (AQ rfl) rfl) ?_;rintro _ a3 ⟨p,a4⟩;have s:=o.gr p 1 rfl;have aU:AH Bx 4 w.heap.size a3 (ZZ FN [] Z w.heap.size [some aE,some a,some c,some t]) (some ⟨a,0,none⟩) ((6:Int).toNat) ((List.replicate (6:Int).toNat false).set b.toNat true):=by rw[show(List.replicate (6:Int).toNat false).set b.toNat true=(List.replicate (6:Int).toNat false).set i7 true from congrArg (fun aV=>(List.replicate (6:Int).toNat false).set aV true) aP];exact F3 a4 (o.AN p 1 rfl)
 have bC:((List.replicate (6:Int).toNat false).set b.toNat true)[i7]?=some true:=by rw[show(List.replicate (6:Int).toNat false).set b.toNat true=(List.replicate (6:Int).toNat false).set i7 true from congrArg (fun aV=>(List.replicate (6:Int).toNat false).set aV true) aP];exact List.getElem?_set_self aA
 have bD:i7<((List.replicate (6:Int).toNat false).set b.toNat true).length:=by rw[List.length_set];exact aA
 have bE:(.slice (some ⟨a,0,none⟩) ((List.replicate (6:Int).toNat false).length) ((6:Int).toNat):Value)=.slice (some ⟨a,0,none⟩) (((List.replicate (6:Int).toNat false).set b.toNat true).length) ((6:Int).toNat):=by simp only[List.length_set]
 have bF:(.agg #[.slice (some ⟨c,0,none⟩) 2 2,.slice (some ⟨a,0,none⟩) ((List.replicate (6:Int).toNat false).length) ((6:Int).toNat)]:Value)=.agg #[.slice (some ⟨c,0,none⟩) 2 2,.slice (some ⟨a,0,none⟩) (((List.replicate (6:Int).toNat false).set b.toNat true).length) ((6:Int).toNat)]:=by simp only[List.length_set]
 have bG:(.slice (some ⟨a,0,none⟩) ((List.replicate (6:Int).toNat false).length) ((6:Int).toNat):Value)=.slice (some ⟨a,0,none⟩) (((List.replicate (6:Int).toNat false).set b.toNat true).length) ((6:Int).toNat):=by simp only[List.length_set]
 have aF:=(f.bk.gr p (o.ne 0 1 rfl rfl rfl));have aW:Bk a3 aE 78 #[.slice (some ⟨c,0,none⟩) 2 2,.slice (some ⟨a,0,none⟩) (((List.replicate (6:Int).toNat false).set b.toNat true).length) ((6:Int).toNat)]:=by have a5:=aF;simp only[List.length_set] at a5⊢;exact a5
 refine Af<|Aa<|Ae<|Ab<|wd rfl (fun st=>A8 (l:=[.slice (some ⟨c,0,none⟩) 2 2,.slice (some ⟨a,0,none⟩) (((List.replicate (6:Int).toNat false).set b.toNat true).length) ((6:Int).toNat)]) Gp (ee st rfl) aW rfl rfl) ?_;have aG:=(((((u.bk.ext q.gr).ext y).ext d.gr).gr f.gr (m.ne 3 0 rfl rfl rfl)).gr p (o.ne 3 1 rfl rfl rfl));refine Bj rfl rfl (fun st=>Bb (n:=2) (l:=[.slice (some ⟨c,0,none⟩) 2 2,.slice (some ⟨a,0,none⟩) (((List.replicate (6:Int).toNat false).set b.toNat true).length) ((6:Int).toNat)]) (B1:= #[.slice (some ⟨c,0,none⟩) 2 2,.slice (some ⟨a,0,none⟩) (((List.replicate (6:Int).toNat false).set b.toNat true).length) ((6:Int).toNat)]) (ee st rfl) (ee st rfl) FW aG rfl rfl (show 0+2≤2 by decide) (AQ rfl) rfl) ?_;rintro _ a6 g;have aB:=s.gr g.gr 3 rfl;refine Af<|Aa<|AI ?_;obtain rfl:=Option.some.inj j;refine GW (v:=.agg #[.slice (some ⟨c,0,none⟩) 2 2,.slice (some ⟨a,0,none⟩) (((List.replicate (6:Int).toNat false).set b.toNat true).length) ((6:Int).toNat)]) rfl rfl (Db Gp g.bk rfl rfl) ?_;have aH:=(((((q.bk.ext y).ext d.gr).gr f.gr (m.ne 2 0 rfl rfl rfl)).gr p (o.ne 2 1 rfl rfl rfl)).gr g.gr (s.ne 2 3 rfl rfl rfl));have aC:AH Bx 4 w.heap.size a6 (ZZ FN [] Z w.heap.size [some aE,some a,some c,some t]) (some ⟨a,0,none⟩) ((6:Int).toNat) ((List.replicate (6:Int).toNat false).set b.toNat true):=(aU.gr g.gr (fun k aT=>s.ne 1 3 rfl (congrArg some aT) rfl) (s.AN g.gr 3 rfl));exact⟨aB.Bs,⟨_,rfl,_,_,_,_,rfl,GM (e:=(Ax .i64)) (xs:=[0,1]) (Bc:=[[I 0],[I 1]]) aH (.inr ⟨aD,fun hm=>aB.By (F':=FN) (M:=[]) 2 rfl [] rfl trivial (fun _ h=>h.elim) (.inr hm)⟩) ⟨rfl,rfl,trivial⟩ rfl (Nat.le_refl _),aB.La (M:=[]) 1 rfl [] rfl trivial aC⟩⟩
theorem VF(aX:Nat)(g:List Ar)(a:Ar)(e:Ar)(j:Option Addr)(m:Nat)(Z:Nat→Prop)(w:World)(y:Sl Cu w Z j m g)(aI:Bool)(h:Gu aX g a e=some aI):
 BN Tryz.prog 84 #[.slice j g.length m,.agg #[I a.On,I a.Bn,.bool a.AO],.agg #[I e.On,I e.Bn,.bool e.AO]] w (fun v w'=>Ext w w'∧BW.R w' (ZZ FN [] Z w.heap.size []) v aI):=by
 unfold Gu at h;refine Ba (N:=24) Tryz.func84 rfl rfl (by simp) ?_;intro a0 z a2;have o:=AM (i:=0) (v:=.slice j g.length m) z rfl;have aG:=AM (i:=1) (v:=.agg #[I a.On,I a.Bn,.bool a.AO]) z rfl;have aH:=AM (i:=2) (v:=.agg #[I e.On,I e.Bn,.bool e.AO]) z rfl;clear z;have aA:Hp FN [] w [] w:=Hp.start (BQ.none w);have u:=y.mv (Bp (Z:=Z) (L:=[]) w);refine Ae<|Ab<|we rfl (fun st=>B3 (v:=.agg #[I a.On,I a.Bn,.bool a.AO]) (cs:= #[I a.On,I a.Bn,.bool a.AO]) (ee st aG) rfl) ?_;rintro _ w1 ⟨a3,rfl,s⟩;have aB:=aA.nb s;have aV:=aA.BO s;refine we rfl (fun st=>B3 (v:=.agg #[I e.On,I e.Bn,.bool e.AO]) (cs:= #[I e.On,I e.Bn,.bool e.AO]) (ee st aH) rfl) ?_;rintro _ w2 ⟨a4,rfl,q⟩;have x:=aB.nb q;have aW:=aB.BO q;refine wa rfl (v:=.bool false) rfl<|Af<|Aa<|Ae ?_;rcases Ap ((g.length:Int)==2) with d|d
 ·replace h:=AB h d;replace h:=Br h;obtain⟨i5,b,aC,aJ,aD,h⟩:=h;have p:=((u.mv (Aw s)).mv (Aw q));obtain⟨aK,aL,_,aE,rfl,aF⟩:=Sl.elem p (by decide) aJ;have t:=(s.bk.ext q.gr);rcases Ap (Hz [.inl b.On,.inl b.Bn,.inr b.AO] [.inl a.On,.inl a.Bn,.inr a.AO]) with f|f
  ·replace h:=AB h f;replace h:=Br h;obtain⟨i7,n,aM,aN,aO,h⟩:=h;obtain⟨aY,aZ,_,aP,rfl,aQ⟩:=Sl.elem p (by decide) aN;refine Dc 15 [Kc (.slice j g.length m),Kc (I (g.length:Int)),Kc (.bool ((g.length:Int)==2)),Kc (.bool ((g.length:Int)==2)),Kc (.slice j g.length m),Kc (pt aK (aL+i5*3)),Kc (.agg #[I b.On,I b.Bn,.bool b.AO]),Kc (.agg #[I a.On,I a.Bn,.bool a.AO]),Kc (.bool (Hz [.inl b.On,.inl b.Bn,.inr b.AO] [.inl a.On,.inl a.Bn,.inr a.AO])),Kc (.bool (Hz [.inl b.On,.inl b.Bn,.inr b.AO] [.inl a.On,.inl a.Bn,.inr a.AO])),Kc (.bool (Hz [.inl b.On,.inl b.Bn,.inr b.AO] [.inl a.On,.inl a.Bn,.inr a.AO])),Kc (.slice j g.length m),Kc (pt aY (aZ+i7*3)),Kc (.agg #[I n.On,I n.Bn,.bool n.AO]),Kc (.agg #[I e.On,I e.Bn,.bool e.AO])] mixed rfl rfl
       (Ai (od rfl (fun _=>rfl) (fun K=>AR (es ((K.out 0 rfl).trans o))))
       (Ai (od rfl (fun _=>rfl) (fun K=>BY Tryz.underlying70 (es (K.AF 0 7 rfl rfl))))
       (Ai (od rfl (fun _=>rfl) (fun K=>CH (es (K.AF 1 8 rfl rfl)) (ec (v:=I 2))))
       (Ai (od rfl (fun _=>rfl) (fun K=>AR (es (K.AF 2 9 rfl rfl))))
       (Ai (BL rfl rfl rfl (fun _=>rfl) (fun a' w' ph K=>Ad (K.AF 3 10 rfl rfl) d) (fun a' w' ph K=>AR (es ((K.out 0 rfl).trans o))))
       (Ai (BL rfl rfl rfl (fun _=>rfl) (fun a' w' ph K=>Ad (K.AF 3 10 rfl rfl) d) (fun a' w' ph K=>CD (k:=i5) Tryz.underlying70 EF (es (K.AF 4 11 rfl rfl)) aE (ec (v:=I 0)) aC aD))
       (Ai (BL rfl rfl rfl (fun _=>rfl) (fun a' w' ph K=>Ad (K.AF 3 10 rfl rfl) d) (fun a' w' ph K=>DX (l:=[I b.On,I b.Bn,.bool b.AO]) D6 (es (K.AF 5 12 rfl rfl)) (aF.mv (Ag K.Bt)) rfl rfl))
       (Ai (BL rfl rfl rfl (fun _=>rfl) (fun a' w' ph K=>Ad (K.AF 3 10 rfl rfl) d) (fun a' w' ph K=>A8 (l:=[I a.On,I a.Bn,.bool a.AO]) D6 (es ((K.out 4 rfl).trans rfl)) (t.ext K.Bt) rfl rfl))
       (Ai (BL rfl rfl rfl (fun _=>rfl) (fun a' w' ph K=>Ad (K.AF 3 10 rfl rfl) d) (fun a' w' ph K=>Pn (x1:=[.inl b.On,.inl b.Bn,.inr b.AO]) (x2:=[.inl a.On,.inl a.Bn,.inr a.AO]) Ln Mo (es (K.AF 6 13 rfl rfl)) (es (K.AF 7 14 rfl rfl)) rfl rfl rfl rfl))
       (Ai (od rfl (fun _=>rfl) (fun K=>AX (es (K.AF 3 10 rfl rfl)) d (es (K.AF 8 15 rfl rfl))))
       (Ai (od rfl (fun _=>rfl) (fun K=>AR (es (K.AF 9 16 rfl rfl))))
       (Ai (BL rfl rfl rfl (fun _=>rfl) (fun a' w' ph K=>Ad (K.AF 10 17 rfl rfl) f) (fun a' w' ph K=>AR (es ((K.out 0 rfl).trans o))))
       (Ai (BL rfl rfl rfl (fun _=>rfl) (fun a' w' ph K=>Ad (K.AF 10 17 rfl rfl) f) (fun a' w' ph K=>CD (k:=i7) Tryz.underlying70 EF (es (K.AF 11 18 rfl rfl)) aP (ec (v:=I 1)) aM aO))
       (Ai (BL rfl rfl rfl (fun _=>rfl) (fun a' w' ph K=>Ad (K.AF 10 17 rfl rfl) f) (fun a' w' ph K=>DX (l:=[I n.On,I n.Bn,.bool n.AO]) D6 (es (K.AF 12 19 rfl rfl)) (aQ.mv (Ag K.Bt)) rfl rfl))
       (Ai (BL rfl rfl rfl (fun _=>rfl) (fun a' w' ph K=>Ad (K.AF 10 17 rfl rfl) f) (fun a' w' ph K=>A8 (l:=[I e.On,I e.Bn,.bool e.AO]) D6 (es ((K.out 5 rfl).trans rfl)) (q.bk.ext K.Bt) rfl rfl))
       (Ck _)))))))))))))))) ?_
   intro aR;rintro _ rfl _ rfl _ rfl _ rfl _ rfl _ rfl _ rfl _ rfl _ rfl _ rfl _ rfl _ rfl _ rfl _ rfl _ rfl r;have aS:=x.ext r;refine Aq rfl rfl (Ad rfl f) rfl (by decide) (fun st=>Pn (x1:=[.inl n.On,.inl n.Bn,.inr n.AO]) (x2:=[.inl e.On,.inl e.Bn,.inr e.AO]) Ln Mo (ee st rfl) (ee st rfl) rfl rfl rfl rfl)<|wd rfl (fun st=>AX (v:=.bool (Hz [.inl n.On,.inl n.Bn,.inr n.AO] [.inl e.On,.inl e.Bn,.inr e.AO])) (ee st rfl) f (ee st rfl))<|wa rfl (v:=.bool (Hz [.inl n.On,.inl n.Bn,.inr n.AO] [.inl e.On,.inl e.Bn,.inr e.AO])) rfl<|Af<|Aa<|AI ?_;obtain rfl:=Option.some.inj h;refine AS rfl rfl ?_;exact⟨aS.Bs,rfl⟩
  ·replace h:=AD h f;refine Dc 15 [Kc (.slice j g.length m),Kc (I (g.length:Int)),Kc (.bool ((g.length:Int)==2)),Kc (.bool ((g.length:Int)==2)),Kc (.slice j g.length m),Kc (pt aK (aL+i5*3)),Kc (.agg #[I b.On,I b.Bn,.bool b.AO]),Kc (.agg #[I a.On,I a.Bn,.bool a.AO]),Kc (.bool (Hz [.inl b.On,.inl b.Bn,.inr b.AO] [.inl a.On,.inl a.Bn,.inr a.AO])),Kc (.bool (Hz [.inl b.On,.inl b.Bn,.inr b.AO] [.inl a.On,.inl a.Bn,.inr a.AO])),Kc (.bool (Hz [.inl b.On,.inl b.Bn,.inr b.AO] [.inl a.On,.inl a.Bn,.inr a.AO])),Kc undef,Kc undef,Kc undef,Kc undef] mixed rfl rfl
       (Ai (od rfl (fun _=>rfl) (fun K=>AR (es ((K.out 0 rfl).trans o))))
       (Ai (od rfl (fun _=>rfl) (fun K=>BY Tryz.underlying70 (es (K.AF 0 7 rfl rfl))))
       (Ai (od rfl (fun _=>rfl) (fun K=>CH (es (K.AF 1 8 rfl rfl)) (ec (v:=I 2))))
       (Ai (od rfl (fun _=>rfl) (fun K=>AR (es (K.AF 2 9 rfl rfl))))
       (Ai (BL rfl rfl rfl (fun _=>rfl) (fun a' w' ph K=>Ad (K.AF 3 10 rfl rfl) d) (fun a' w' ph K=>AR (es ((K.out 0 rfl).trans o))))
       (Ai (BL rfl rfl rfl (fun _=>rfl) (fun a' w' ph K=>Ad (K.AF 3 10 rfl rfl) d) (fun a' w' ph K=>CD (k:=i5) Tryz.underlying70 EF (es (K.AF 4 11 rfl rfl)) aE (ec (v:=I 0)) aC aD))
       (Ai (BL rfl rfl rfl (fun _=>rfl) (fun a' w' ph K=>Ad (K.AF 3 10 rfl rfl) d) (fun a' w' ph K=>DX (l:=[I b.On,I b.Bn,.bool b.AO]) D6 (es (K.AF 5 12 rfl rfl)) (aF.mv (Ag K.Bt)) rfl rfl))
       (Ai (BL rfl rfl rfl (fun _=>rfl) (fun a' w' ph K=>Ad (K.AF 3 10 rfl rfl) d) (fun a' w' ph K=>A8 (l:=[I a.On,I a.Bn,.bool a.AO]) D6 (es ((K.out 4 rfl).trans rfl)) (t.ext K.Bt) rfl rfl))
       (Ai (BL rfl rfl rfl (fun _=>rfl) (fun a' w' ph K=>Ad (K.AF 3 10 rfl rfl) d) (fun a' w' ph K=>Pn (x1:=[.inl b.On,.inl b.Bn,.inr b.AO]) (x2:=[.inl a.On,.inl a.Bn,.inr a.AO]) Ln Mo (es (K.AF 6 13 rfl rfl)) (es (K.AF 7 14 rfl rfl)) rfl rfl rfl rfl))
       (Ai (od rfl (fun _=>rfl) (fun K=>AX (es (K.AF 3 10 rfl rfl)) d (es (K.AF 8 15 rfl rfl))))
       (Ai (od rfl (fun _=>rfl) (fun K=>AR (es (K.AF 9 16 rfl rfl))))
       (Ai (C8 (c:=false) rfl rfl rfl (by decide) (fun a' w' ph K=>Ad (K.AF 10 17 rfl rfl) f) (fun _=>rfl))
       (Ai (C8 (c:=false) rfl rfl rfl (by decide) (fun a' w' ph K=>Ad (K.AF 10 17 rfl rfl) f) (fun _=>rfl))
       (Ai (C8 (c:=false) rfl rfl rfl (by decide) (fun a' w' ph K=>Ad (K.AF 10 17 rfl rfl) f) (fun _=>rfl))
       (Ai (C8 (c:=false) rfl rfl rfl (by decide) (fun a' w' ph K=>Ad (K.AF 10 17 rfl rfl) f) (fun _=>rfl))
       (Ck _)))))))))))))))) ?_
   intro aR;rintro _ rfl _ rfl _ rfl _ rfl _ rfl _ rfl _ rfl _ rfl _ rfl _ rfl _ rfl _ rfl _ rfl _ rfl _ rfl r;have aT:=x.ext r;refine Ak (c:=false) rfl rfl (Ad rfl f) (by decide) rfl (by decide)<|wd rfl (fun st=>Bh (v:=.bool false) (ee st rfl) f (ee st rfl))<|wa rfl (v:=.bool false) rfl<|Af<|Aa<|AI ?_;obtain rfl:=Option.some.inj h;refine AS rfl rfl ?_;exact⟨aT.Bs,rfl⟩
 ·replace h:=AD h d;refine Dc 15 [Kc (.slice j g.length m),Kc (I (g.length:Int)),Kc (.bool ((g.length:Int)==2)),Kc (.bool ((g.length:Int)==2)),Kc undef,Kc undef,Kc undef,Kc undef,Kc undef,Kc (.bool false),Kc (.bool false),Kc undef,Kc undef,Kc undef,Kc undef] mixed rfl rfl
      (Ai (od rfl (fun _=>rfl) (fun K=>AR (es ((K.out 0 rfl).trans o))))
      (Ai (od rfl (fun _=>rfl) (fun K=>BY Tryz.underlying70 (es (K.AF 0 7 rfl rfl))))
      (Ai (od rfl (fun _=>rfl) (fun K=>CH (es (K.AF 1 8 rfl rfl)) (ec (v:=I 2))))
      (Ai (od rfl (fun _=>rfl) (fun K=>AR (es (K.AF 2 9 rfl rfl))))
      (Ai (C8 (c:=false) rfl rfl rfl (by decide) (fun a' w' ph K=>Ad (K.AF 3 10 rfl rfl) d) (fun _=>rfl))
      (Ai (C8 (c:=false) rfl rfl rfl (by decide) (fun a' w' ph K=>Ad (K.AF 3 10 rfl rfl) d) (fun _=>rfl))
      (Ai (C8 (c:=false) rfl rfl rfl (by decide) (fun a' w' ph K=>Ad (K.AF 3 10 rfl rfl) d) (fun _=>rfl))
      (Ai (C8 (c:=false) rfl rfl rfl (by decide) (fun a' w' ph K=>Ad (K.AF 3 10 rfl rfl) d) (fun _=>rfl))
      (Ai (C8 (c:=false) rfl rfl rfl (by decide) (fun a' w' ph K=>Ad (K.AF 3 10 rfl rfl) d) (fun _=>rfl))
      (Ai (od rfl (fun _=>rfl) (fun K=>Bh (es (K.AF 3 10 rfl rfl)) d (ec (v:=.bool false))))
      (Ai (od rfl (fun _=>rfl) (fun K=>AR (es (K.AF 9 16 rfl rfl))))
      (Ai (C8 (c:=false) rfl rfl rfl (by decide) (fun a' w' ph K=>(show sl a' 17=.bool false from K.AF 10 17 rfl rfl)) (fun _=>rfl))
      (Ai (C8 (c:=false) rfl rfl rfl (by decide) (fun a' w' ph K=>(show sl a' 17=.bool false from K.AF 10 17 rfl rfl)) (fun _=>rfl))
      (Ai (C8 (c:=false) rfl rfl rfl (by decide) (fun a' w' ph K=>(show sl a' 17=.bool false from K.AF 10 17 rfl rfl)) (fun _=>rfl))
      (Ai (C8 (c:=false) rfl rfl rfl (by decide) (fun a' w' ph K=>(show sl a' 17=.bool false from K.AF 10 17 rfl rfl)) (fun _=>rfl))
      (Ck _)))))))))))))))) ?_
  intro aR;rintro _ rfl _ rfl _ rfl _ rfl _ rfl _ rfl _ rfl _ rfl _ rfl _ rfl _ rfl _ rfl _ rfl _ rfl _ rfl r;have aU:=x.ext r;refine Ak rfl rfl rfl (by decide) rfl (by decide)<|wd rfl (fun st=>Bh (v:=.bool false) (ee st rfl) rfl (ee st rfl))<|wa rfl (v:=.bool false) rfl<|Af<|Aa<|AI ?_;obtain rfl:=Option.some.inj h;refine AS rfl rfl ?_;exact⟨aU.Bs,rfl⟩
theorem VG(s:Nat)(a:CU)(Z:Nat→Prop)(w:World)(j:CU)(k:GN s a=some j):
 BN Tryz.prog 88 #[.agg #[I a.Lo,I a.Hi]] w (fun v w'=>Ext w w'∧(D4 Oz).R w' (ZZ FN [] Z w.heap.size []) v j):=by
 unfold GN at k;refine Ba (N:=8) Tryz.func88 rfl rfl (by simp) ?_;intro t m u;have h:=AM (i:=0) (v:=.agg #[I a.Lo,I a.Hi]) m rfl;clear m;have e:Hp FN [] w [] w:=Hp.start (BQ.none w);refine Ae<|Ab<|we rfl (fun st=>B3 (v:=.agg #[I a.Lo,I a.Hi]) (cs:= #[I a.Lo,I a.Hi]) (ee st h) rfl) ?_;rintro _ w1 ⟨x,rfl,d⟩;have f:=e.nb d;have q:=e.BO d;refine we rfl (fun st=>BI (cs:= #[I 0,I 0]) Rr rfl) ?_;rintro _ w2 ⟨y,rfl,b⟩;have o:=f.nb b;have r:=f.BO b;refine Af<|Aa<|Ae<|Ab<|wd rfl (fun st=>An (ee st rfl) (JP _ _)) ?_;have c:=(d.bk.ext b.gr);refine wd rfl (fun st=>Au (v:=I a.Lo) AY (ee st rfl) c rfl)<|wd rfl (fun st=>An (ee st rfl) (JO _ _))<|wd rfl (fun st=>Au (v:=I a.Hi) AY (ee st rfl) c rfl)<|wd rfl (fun st=>C7 (vs:= #[(0,I a.Lo),(1,I a.Hi)]) (v:=.agg #[I a.Lo,I a.Hi]) (H8 (ee st rfl) (ee st rfl)) (by kernel_rfl))<|Bj rfl rfl (fun st=>Bb (n:=2) (l:=[I a.Lo,I a.Hi]) (B1:= #[I a.Lo,I a.Hi]) (ee st rfl) (ee st rfl) TW b.bk rfl rfl (show 0+2≤2 by decide) (AQ rfl) rfl) ?_;rintro _ z g;have p:=o.gr g.gr 0 rfl;refine Af<|Aa<|AI ?_;obtain rfl:=Option.some.inj k;refine GW (v:=.agg #[I a.Lo,I a.Hi]) rfl rfl (Db KQ g.bk rfl rfl) ?_;exact⟨p.Bs,⟨_,rfl,rfl⟩⟩
theorem a31(bS:Nat)(a:Ao)(p:Option Addr)(q:Nat)(Z:Nat→Prop)(w:World)(bT:Sl AK w Z p q a.Ac)(cJ:Ao)(m:Bg bS a=some cJ):
 BN Tryz.prog 31 #[.agg #[I a.Aj,I a.Ah,I a.Am,I a.Av,.slice p a.Ac.length q]] w (fun v w'=>Ext w w'∧(D4 IA).R w' (ZZ FN [] Z w.heap.size []) v cJ):=by
 unfold Bg at m;refine Ba (N:=43) Tryz.func31 rfl rfl (by simp) ?_;intro c5 cK c6;have b6:=AM (i:=0) (v:=.agg #[I a.Aj,I a.Ah,I a.Am,I a.Av,.slice p a.Ac.length q]) cK rfl;clear cK;have b1:Hp FN [] w [] w:=Hp.start (BQ.none w);have bE:=bT.mv (Bp (Z:=Z) (L:=[]) w);refine Ae<|Ab<|we rfl (fun st=>B3 (v:=.agg #[I a.Aj,I a.Ah,I a.Am,I a.Av,.slice p a.Ac.length q]) (cs:= #[I a.Aj,I a.Ah,I a.Am,I a.Av,.slice p a.Ac.length q]) (ee st b6) rfl) ?_;rintro _ w1 ⟨x,rfl,bA⟩;have b2:=b1.nb bA;have c0:=b1.BO bA;refine we rfl (fun st=>BI (cs:= #[I 0,I 0,I 0,I 0,.slice none 0 0]) Mn rfl) ?_;rintro _ w2 ⟨t,rfl,aX⟩;have b3:=b2.nb aX;have c1:=b2.BO aX;refine Af<|Aa<|Ae<|Ab<|wd rfl (fun st=>An (ee st rfl) (Gg _ _)) ?_;have aD:=(bA.bk.ext aX.gr);refine wd rfl (fun st=>Au (v:=I a.Aj) AY (ee st rfl) aD rfl)<|wd rfl (fun st=>An (ee st rfl) (Ht _ _))<|wd rfl (fun st=>Au (v:=I a.Ah) AY (ee st rfl) aD rfl)<|wd rfl (fun st=>An (ee st rfl) (Mm _ _))<|wd rfl (fun st=>Au (v:=I a.Am) AY (ee st rfl) aD rfl)<|wd rfl (fun st=>An (ee st rfl) (KP _ _))<|wd rfl (fun st=>Au (v:=I a.Av) AY (ee st rfl) aD rfl)<|wd rfl (fun st=>C7 (vs:= #[(0,I a.Aj),(1,I a.Ah),(2,I a.Am),(3,I a.Av)]) (v:=.agg #[I a.Aj,I a.Ah,I a.Am,I a.Av,.slice none 0 0]) (Tg (ee st rfl) (ee st rfl) (ee st rfl) (ee st rfl)) (by kernel_rfl))<|we rfl (fun st=>BI (cs:= #[I 0,I 0,I 0,I 0,.slice none 0 0]) Mn rfl) ?_;rintro _ dB ⟨s,rfl,aQ⟩;have bB:=b3.nb aQ;have c2:=b3.BO aQ;refine Bj rfl rfl (fun st=>Bb (n:=5) (l:=[I a.Aj,I a.Ah,I a.Am,I a.Av,.slice none 0 0]) (B1:= #[I a.Aj,I a.Ah,I a.Am,I a.Av,.slice none 0 0]) (ee st rfl) (ee st rfl) PG aQ.bk rfl rfl (show 0+5≤5 by decide) (AQ rfl) rfl) ?_;rintro _ b7 aY;have cL:=bB.gr aY.gr 0 rfl;refine Af<|Aa<|Ae<|Ae<|Ab<|wa rfl (v:=I 0) rfl<|Af<|Aa<|Be ?_;have cM:Hp FN [] w [none,some s,some t,some x] b7:=cL.nil;have cN:AH AK 156 w.heap.size b7 (ZZ FN [] Z w.heap.size [none,some s,some t,some x]) none 0 ([]:List Ay):=AH.nil _ _ _ _ _;replace m:=bind_some m;obtain⟨z5,aR,m⟩:=m;refine Cr (fun cO z aJ=>(cO=.exit 0∧∃c g,z.tmps.size=43∧z.defers=(X0).ds∧sl z 2=pt t 0∧sl z 3=pt s 0∧Hp FN [] w [ob c,some s,some t,some x] aJ∧AH AK 156 w.heap.size aJ (ZZ FN [] Z w.heap.size [ob c,some s,some t,some x]) c g z5∧Bk aJ t 75 #[I 0,I 0,I 0,I 0,.slice none 0 0]∧Bk aJ s 75 #[I a.Aj,I a.Ah,I a.Am,I a.Av,.slice c z5.length g])) ?cP ?cQ
 case cP=>
  clear m;refine Cq (fun(b8:Nat) (z:Act) (aJ:World)=>∃y,∃j,∃f o,DH bS a b8 y j=some z5∧z.tmps.size=43∧z.defers=(X0).ds∧sl z 1=pt x 0∧sl z 2=pt t 0∧sl z 3=pt s 0∧sl z 4=I y∧Hp FN [] w [ob f,some s,some t,some x] aJ∧AH AK 156 w.heap.size aJ (ZZ FN [] Z w.heap.size [ob f,some s,some t,some x]) f o j∧Bk aJ x 63 #[I a.Aj,I a.Ah,I a.Am,I a.Av,.slice p a.Ac.length q]∧Bk aJ t 75 #[I 0,I 0,I 0,I 0,.slice none 0 0]∧Bk aJ s 75 #[I a.Aj,I a.Ah,I a.Am,I a.Av,.slice f j.length o]∧Sl AK aJ (ZZ FN [] Z w.heap.size [ob f,some s,some t,some x]) p q a.Ac) bS ?cR ?cS
  case cR=>
   intro st;have bU:=((aD.ext aQ.gr).gr aY.gr (bB.ne 2 0 rfl rfl rfl));have bV:=((aX.bk.ext aQ.gr).gr aY.gr (bB.ne 1 0 rfl rfl rfl));have bW:=aY.bk;have bF:Sl AK b7 (ZZ FN [] Z w.heap.size [none,some s,some t,some x]) p q a.Ac:=(((((bE.mv (Aw bA)).mv (Aw aX)).mv (Aw aQ)).mv (bB.AN aY.gr 0 rfl)).mv BB);exact⟨(0:Int),([]:List Ay),none,0,aR,qz st,qd st,sp st 1 rfl,sp st 2 rfl,sp st 3 rfl,sp st 4 rfl,cM,cN,bU,bV,bW,bF⟩
  case cS=>
   rintro(_|b8) c7 c8 ⟨y,j,f,o,aR,b9,cA,aS,bC,aI,aT,bH,aE,aK,aZ,a0,aL⟩
   ·exact absurd (show none=some _ from aR) (by simp)
   rw[DH.eq_2] at aR;have m:=aR;clear aR;refine Ca (N:=43) b9 cA<|Ae<|Ae<|Ab<|wm rfl (v:=I y) aT<|wd rfl (fun st=>An (ee st aS) (FK _ _))<|wd rfl (fun st=>Au (v:=.slice p a.Ac.length q) GI (ee st rfl) aK rfl)<|wd rfl (fun st=>BY Tryz.underlying61 (ee st rfl))<|wd rfl (fun st=>CI (ee st rfl) (ee st rfl))<|Af<|Aa ?_;rcases Ap (decide (y<(a.Ac.length:Int))) with a2|a2
   ·replace m:=AB m a2;refine AE rfl a2<|AV<|Aa<|Ae<|Be<|Ae<|Ab<|wd rfl (fun st=>An (ee st aS) (FK _ _))<|wd rfl (fun st=>Au (v:=.slice p a.Ac.length q) GI (ee st rfl) aK rfl)<|wm rfl (v:=I y) aT ?_;replace m:=Br m;obtain⟨i8,b,cT,cU,cV,m⟩:=m;obtain⟨dC,dD,_,cW,rfl,cX⟩:=Sl.elem aL (by decide) cU;refine wd rfl (fun st=>CD (k:=i8) Tryz.underlying61 IF (ee st rfl) cW (ee st rfl) cT cV)<|wd rfl (fun st=>DX (l:=[I b.As,I b.Az,I b.AO,I b.BM,I b.BP]) OL (ee st rfl) cX rfl rfl)<|we rfl (fun st=>BI (cs:= #[I 0,I 0,I 0,I 0,I 0]) NT rfl) ?_;rintro _ dE ⟨aU,rfl,aF⟩;have aM:=bH.nb aF;have c3:=bH.BO aF;refine Bj rfl rfl (fun st=>Bb (n:=5) (l:=[I b.As,I b.Az,I b.AO,I b.BM,I b.BP]) (B1:= #[I b.As,I b.Az,I b.AO,I b.BM,I b.BP]) (ee st rfl) (ee st rfl) IF aF.bk rfl rfl (show 0+5≤5 by decide) (AQ rfl) rfl) ?_;rintro _ c9 r;have b4:=aM.gr r.gr 0 rfl;refine Af<|Aa ?_;have bD:=((a0.ext aF.gr).gr r.gr (aM.ne 2 0 rfl rfl rfl));replace m:=bind_some m;obtain⟨d,cB,m⟩:=m;refine Dc 13 [Kc (pt s 4),Kc (.slice f j.length o),Kc (pt aU 0),Kc (.agg #[I b.As,I b.Az]),Kc (.agg #[I d.Lo,I d.Hi]),Kc (pt aU 2),Kc (I b.AO),Kc (pt aU 3),Kc (I b.BM),Kc (pt aU 4),Kc (I b.BP),Kc (.agg #[I d.Lo,I d.Hi,I b.AO,I b.BM,I b.BP]),Kv (Gh AK) (ZZ FN [] Z w.heap.size [some aU,ob f,some s,some t,some x]) [(⟨d.Lo,d.Hi,b.AO,b.BM,b.BP⟩:Ay)]] mixed rfl rfl
        (Ai (od rfl (fun _=>rfl) (fun K=>An (es ((K.out 3 rfl).trans aI)) (C3 _ _)))
        (Ai (od rfl (fun _=>rfl) (fun K=>Au Dq (es (K.AF 0 27 rfl rfl)) (bD.ext K.Bt) rfl))
        (Ai (od rfl (fun _=>rfl) (fun K=>An (es ((K.out 5 rfl).trans rfl)) (IG _ _)))
        (Ai (od rfl (fun _=>rfl) (fun K=>A8 (l:=[I b.As,I b.Az]) OK (es (K.AF 2 29 rfl rfl)) (r.bk.ext K.Bt) rfl rfl))
        (Ai (GR rfl rfl (fun a' w' ph K=>(AG TX rfl (B4 (es (K.AF 3 30 rfl rfl))) (VG bS (⟨b.As,b.Az⟩:CU) ZA _ d cB)).mono (fun _ _ h=>⟨(by obtain⟨_,rfl,rfl⟩:=h.2;rfl),h.1⟩)))
        (Ai (od rfl (fun _=>rfl) (fun K=>An (es ((K.out 5 rfl).trans rfl)) (NU _ _)))
        (Ai (od rfl (fun _=>rfl) (fun K=>Au AY (es (K.AF 5 32 rfl rfl)) (r.bk.ext K.Bt) rfl))
        (Ai (od rfl (fun _=>rfl) (fun K=>An (es ((K.out 5 rfl).trans rfl)) (NV _ _)))
        (Ai (od rfl (fun _=>rfl) (fun K=>Au AY (es (K.AF 7 34 rfl rfl)) (r.bk.ext K.Bt) rfl))
        (Ai (od rfl (fun _=>rfl) (fun K=>An (es ((K.out 5 rfl).trans rfl)) (NW _ _)))
        (Ai (od rfl (fun _=>rfl) (fun K=>Au AY (es (K.AF 9 36 rfl rfl)) (r.bk.ext K.Bt) rfl))
        (Ai (od rfl (fun _=>rfl) (fun K=>C7 (vs:= #[(0,.agg #[I d.Lo,I d.Hi]),(1,I b.AO),(2,I b.BM),(3,I b.BP)]) (v:=.agg #[I d.Lo,I d.Hi,I b.AO,I b.BM,I b.BP]) (Tg (es (K.AF 4 31 rfl rfl)) (es (K.AF 6 33 rfl rfl)) (es (K.AF 8 35 rfl rfl)) (es (K.AF 10 37 rfl rfl))) (by kernel_rfl)))
        (Ai (GR rfl rfl (fun a' w' ph K=>(Bz (e:=156) (vs:= #[(0,.agg #[I d.Lo,I d.Hi,I b.AO,I b.BM,I b.BP])]) (cs:= #[I d.Lo,I d.Hi,I b.AO,I b.BM,I b.BP]) (HN (es (K.AF 11 38 rfl rfl))) (by kernel_rfl)).mono (fun u Bf ⟨dF,hu,bX⟩=>⟨⟨_,_,hu,GM (xs:=[(⟨d.Lo,d.Hi,b.AO,b.BM,b.BP⟩:Ay)]) (Bc:=[[I d.Lo,I d.Hi,I b.AO,I b.BM,I b.BP]]) bX.bk ((b4.ext K.Bt).kn (Nat.le_of_eq bX.DV.symm)) (R2.mv (Ag bX.gr) (show R2 AK w' (ZZ FN [] Z w.heap.size [some aU,ob f,some s,some t,some x]) [[I d.Lo,I d.Hi,I b.AO,I b.BM,I b.BP]] [(⟨d.Lo,d.Hi,b.AO,b.BM,b.BP⟩:Ay)] from⟨rfl,trivial⟩)) rfl (Nat.le_refl _)⟩,bX.gr⟩)))
        (Ck _)))))))))))))) ?_
    intro cY;rintro _ rfl _ rfl _ rfl _ rfl _ rfl _ rfl _ rfl _ rfl _ rfl _ rfl _ rfl _ rfl _ ⟨cH,cI,rfl,a6⟩ aB;have aN:=b4.ext aB;have a3:AH AK 156 w.heap.size cY (ZZ FN [] Z w.heap.size [some aU,ob f,some s,some t,some x]) f o j:=(((aE.ext aF.gr (Aw aF)).gr r.gr (fun k aV=>aM.ne 1 0 rfl (congrArg some aV) rfl) (aM.AN r.gr 0 rfl)).ext aB (Ag aB));replace m:=CF m;obtain⟨bI,m⟩:=m;refine we rfl (fun st=>F6 (ys:=[(⟨d.Lo,d.Hi,b.AO,b.BM,b.BP⟩:Ay)]) Tryz.underlying73 Rs rfl rfl (by decide) (ee st rfl) rfl (ee st rfl) a3 a6.n (by have:=bI;simp only[maxLen];omega) (by have:=bI;omega) aN.sz) ?_;rintro _ b5 ⟨aA,a4,rfl,aG,a7,cC⟩;have aH:Hp FN [] w [some aU,ob aA,some s,some t,some x] b5:=aN.row aG 1 rfl a7;have cD:AH AK 156 w.heap.size b5 (ZZ FN [] Z w.heap.size [some aU,ob aA,some s,some t,some x]) aA a4 (j++[(⟨d.Lo,d.Hi,b.AO,b.BM,b.BP⟩:Ay)]):=Ex cC (aN.Bo aG 1 rfl (fun k aV=>(a7 k aV).1));refine wd rfl (fun st=>An (ee st aI) (C3 _ _)) ?_;have bJ:=((bD.ext aB).gr aG (aN.ne 2 1 rfl rfl rfl));refine Bj rfl rfl (fun st=>Bb (n:=1) (l:=[.slice aA ((j++[(⟨d.Lo,d.Hi,b.AO,b.BM,b.BP⟩:Ay)]).length) a4]) (B1:= #[I a.Aj,I a.Ah,I a.Am,I a.Av,.slice aA ((j++[(⟨d.Lo,d.Hi,b.AO,b.BM,b.BP⟩:Ay)]).length) a4]) (ee st rfl) (ee st rfl) UO bJ rfl rfl (show 4+1≤5 by decide) (AQ rfl) rfl) ?_;rintro _ bK aC;have cE:=aH.gr aC.gr 2 rfl;refine Af<|Bq<|Aa<|Ab<|wm rfl (v:=I y) aT ?_;replace m:=AZ m;obtain⟨cF,m⟩:=m;refine wd rfl (fun st=>BE (ee st rfl) (ee st rfl) cF)<|wa rfl (v:=I (y+1)) rfl<|Af ?_;have cG:Hp FN [] w [ob aA,some s,some t,some x] bK:=cE.erase 0;have bG:AH AK 156 w.heap.size bK (ZZ FN [] Z w.heap.size [ob aA,some s,some t,some x]) aA a4 (j++[(⟨d.Lo,d.Hi,b.AO,b.BM,b.BP⟩:Ay)]):=((cD.gr aC.gr (fun k aV=>aH.ne 1 2 rfl (congrArg some aV) rfl) (aH.AN aC.gr 2 rfl)).up (AP 0));have bL:=(((((aK.ext aF.gr).gr r.gr (aM.ne 4 0 rfl rfl rfl)).ext aB).gr aG (aN.ne 4 1 rfl rfl rfl)).gr aC.gr (aH.ne 4 2 rfl rfl rfl));have bM:=(((((aZ.ext aF.gr).gr r.gr (aM.ne 3 0 rfl rfl rfl)).ext aB).gr aG (aN.ne 3 1 rfl rfl rfl)).gr aC.gr (aH.ne 3 2 rfl rfl rfl));have bN:=aC.bk;have a8:Sl AK bK (ZZ FN [] Z w.heap.size [ob aA,some s,some t,some x]) p q a.Ac:=((((((aL.mv (Aw aF)).mv (aM.AN r.gr 0 rfl)).mv (Ag aB)).mv (aN.Bo aG 1 rfl (fun k aV=>(a7 k aV).1))).mv (aH.AN aC.gr 2 rfl)).mv (AP 0));refine BD b8 (Nat.lt_succ_self _) (fun st=>?_);exact⟨(y+1),(j++[(⟨d.Lo,d.Hi,b.AO,b.BM,b.BP⟩:Ay)]),aA,a4,m,qz st,qd st,sp st 1 aS,sp st 2 bC,sp st 3 aI,sp st 4 rfl,cG,bG,bL,bM,bN,a8⟩
   ·replace m:=AD m a2;refine AL rfl a2<|Cn<|AT<|AT ?_;obtain rfl:=Option.some.inj m;refine B5 (fun st=>?_);exact⟨rfl,f,o,qz st,qd st,sp st 2 bC,sp st 3 aI,bH,aE,aZ,a0⟩
 case cQ=>
  rintro cO c4 dA (⟨rfl,c,g,bY,bZ,a5,bO,a9,aO,bP,bQ⟩);refine Cx (X:=X0) (N:=43) bY bZ<|Bw<|Aa<|Ae<|Ab<|wd rfl (fun st=>A8 (l:=[I a.Aj,I a.Ah,I a.Am,I a.Av,.slice c z5.length g]) CS (ee st bO) bQ rfl rfl)<|Bj rfl rfl (fun st=>Bb (n:=5) (l:=[I a.Aj,I a.Ah,I a.Am,I a.Av,.slice c z5.length g]) (B1:= #[I a.Aj,I a.Ah,I a.Am,I a.Av,.slice c z5.length g]) (ee st a5) (ee st rfl) PG bP rfl rfl (show 0+5≤5 by decide) (AQ rfl) rfl) ?_;rintro _ cZ aW;have bR:=a9.gr aW.gr 2 rfl;refine Af<|Aa<|AI ?_;obtain rfl:=Option.some.inj m;refine GW (v:=.agg #[I a.Aj,I a.Ah,I a.Am,I a.Av,.slice c z5.length g]) rfl a5 (Db CS aW.bk rfl rfl) ?_;have aP:AH AK 156 w.heap.size cZ (ZZ FN [] Z w.heap.size [ob c,some s,some t,some x]) c g z5:=(aO.gr aW.gr (fun k aV=>a9.ne 0 2 rfl (congrArg some aV) rfl) (a9.AN aW.gr 2 rfl));exact⟨bR.Bs,⟨_,rfl,_,_,rfl,bR.La (M:=[]) 0 rfl [] rfl trivial aP⟩⟩
theorem VH(m:Nat)(a:Ao)(b:Option Addr)(c:Nat)(Z:Nat→Prop)(w:World)(h:Sl AK w Z b c a.Ac)(n:Int)(e:Fi m a=some n):
 BN Tryz.prog 34 #[.agg #[I a.Aj,I a.Ah,I a.Am,I a.Av,.slice b a.Ac.length c]] w (fun v w'=>Ext w w'∧(FQ .i64).R w' (ZZ FN [] Z w.heap.size []) v n):=by
 unfold Fi at e;refine Ba (N:=5) Tryz.func34 rfl rfl (by simp) ?_;intro u o x;have k:=AM (i:=0) (v:=.agg #[I a.Aj,I a.Ah,I a.Am,I a.Av,.slice b a.Ac.length c]) o rfl;clear o;have j:Hp FN [] w [] w:=Hp.start (BQ.none w);have f:=h.mv (Bp (Z:=Z) (L:=[]) w);refine Ae<|Ab<|we rfl (fun st=>B3 (v:=.agg #[I a.Aj,I a.Ah,I a.Am,I a.Av,.slice b a.Ac.length c]) (cs:= #[I a.Aj,I a.Ah,I a.Am,I a.Av,.slice b a.Ac.length c]) (ee st k) rfl) ?_;rintro _ w1 ⟨y,rfl,d⟩;have p:=j.nb d;have t:=j.BO d;refine wa rfl (v:=I 0) rfl<|Af<|Aa<|Ae<|Ab<|wd rfl (fun st=>A8 (l:=[I a.Aj,I a.Ah,I a.Am,I a.Av,.slice b a.Ac.length c]) De (ee st rfl) d.bk rfl rfl) ?_;have g:=(f.mv (Aw d));replace e:=bind_some e;obtain⟨r2,q,e⟩:=e;refine we rfl (fun st=>AG Qs (ee st rfl) (B4 (ee st rfl)) (U4 m a b c ZA _ g.all r2 q)) ?_;rintro _ z ⟨r,rfl⟩;have s:=p.ext r;refine wa rfl (v:=I r2) rfl<|Af<|Aa<|AI ?_;obtain rfl:=Option.some.inj e;refine AS rfl rfl ?_;exact⟨s.Bs,rfl⟩
theorem VI(u:Nat)(a:Ao)(d:Option Addr)(e:Nat)(Z:Nat→Prop)(w:World)(o:Sl AK w Z d e a.Ac)(z:Bool)(f:FD u a=some z):
 BN Tryz.prog 27 #[.agg #[I a.Aj,I a.Ah,I a.Am,I a.Av,.slice d a.Ac.length e]] w (fun v w'=>Ext w w'∧BW.R w' (ZZ FN [] Z w.heap.size []) v z):=by
 unfold FD at f;refine Ba (N:=17) Tryz.func27 rfl rfl (by simp) ?_;intro aG aA aH;have x:=AM (i:=0) (v:=.agg #[I a.Aj,I a.Ah,I a.Am,I a.Av,.slice d a.Ac.length e]) aA rfl;clear aA;have r:Hp FN [] w [] w:=Hp.start (BQ.none w);have k:=o.mv (Bp (Z:=Z) (L:=[]) w);refine Ae<|Ab<|we rfl (fun st=>B3 (v:=.agg #[I a.Aj,I a.Ah,I a.Am,I a.Av,.slice d a.Ac.length e]) (cs:= #[I a.Aj,I a.Ah,I a.Am,I a.Av,.slice d a.Ac.length e]) (ee st x) rfl) ?_;rintro _ w1 ⟨aI,rfl,h⟩;have s:=r.nb h;have aF:=r.BO h;refine wa rfl (v:=.bool false) rfl<|Af<|Aa<|Ae<|Ab<|wd rfl (fun st=>An (ee st rfl) (FK _ _))<|wd rfl (fun st=>Au (v:=.slice d a.Ac.length e) GI (ee st rfl) h.bk rfl)<|wd rfl (fun st=>BY Tryz.underlying61 (ee st rfl))<|wd rfl (fun st=>FP (ee st rfl) (ee st rfl))<|wm rfl (v:=.bool (decide ((a.Ac.length:Int)≤6))) rfl ?_;rcases Ap (decide ((a.Ac.length:Int)≤6)) with b|b
 ·replace f:=AB f b;refine Aq rfl rfl (Ad rfl b) rfl (by decide) (fun st=>A8 (l:=[I a.Aj,I a.Ah,I a.Am,I a.Av,.slice d a.Ac.length e]) De (ee st rfl) h.bk rfl rfl) ?_;have j:=(k.mv (Aw h));replace f:=bind_some f;obtain⟨y,aB,f⟩:=f;refine DA rfl rfl (Ad rfl b) rfl (by decide) (fun st=>AG Qs (ee st rfl) (B4 (ee st rfl)) (U4 u a d e ZA _ j.all y aB)) ?_;rintro _ aJ ⟨n,rfl⟩;have t:=s.ext n;refine Aq rfl rfl (Ad rfl b) rfl (by decide) (fun st=>DW (ee st rfl) (ee st rfl))<|Aq rfl rfl (Ad rfl b) rfl (by decide) (fun st=>AR (v:=.bool (y !=0)) (ee st rfl)) ?_;rcases Ap (y !=0) with g|g
  ·replace f:=AB f g;refine Ak (c:=true) rfl rfl (Ad rfl g) (by decide) rfl (by decide)<|Ak (c:=true) rfl rfl (Ad rfl g) (by decide) rfl (by decide)<|Ak (c:=true) rfl rfl (Ad rfl g) (by decide) rfl (by decide)<|Aq rfl rfl (Ad rfl b) rfl (by decide) (fun st=>AX (v:=.bool true) (ee st rfl) g (ee st rfl))<|wd rfl (fun st=>AX (v:=.bool true) (ee st rfl) b (ee st rfl))<|wa rfl (v:=.bool true) rfl<|Af<|Aa<|AI ?_;obtain rfl:=Option.some.inj f;refine AS rfl rfl ?_;exact⟨t.Bs,rfl⟩
  ·replace f:=AD f g;have p:=(h.bk.ext n);refine Aq rfl rfl (Ad rfl g) rfl (by decide) (fun st=>A8 (l:=[I a.Aj,I a.Ah,I a.Am,I a.Av,.slice d a.Ac.length e]) De (ee st rfl) p rfl rfl) ?_;have m:=(j.mv (Ag n));replace f:=bind_some f;obtain⟨q,aC,f⟩:=f;refine DA rfl rfl (Ad rfl g) rfl (by decide) (fun st=>AG Qr (ee st rfl) (B4 (ee st rfl)) (U3 u a d e ZA _ m.all q aC)) ?_;rintro _ aK ⟨aD,rfl⟩;have aE:=t.ext aD;refine Aq rfl rfl (Ad rfl g) rfl (by decide) (fun st=>FP (ee st rfl) (ee st rfl))<|Aq rfl rfl (Ad rfl b) rfl (by decide) (fun st=>Bh (v:=.bool (decide (q≤60))) (ee st rfl) g (ee st rfl))<|wd rfl (fun st=>AX (v:=.bool (decide (q≤60))) (ee st rfl) b (ee st rfl))<|wa rfl (v:=.bool (decide (q≤60))) rfl<|Af<|Aa<|AI ?_;obtain rfl:=Option.some.inj f;refine AS rfl rfl ?_;exact⟨aE.Bs,rfl⟩
 ·replace f:=AD f b;refine Ak (c:=false) rfl rfl (Ad rfl b) (by decide) rfl (by decide)<|Ak (c:=false) rfl rfl (Ad rfl b) (by decide) rfl (by decide)<|Ak (c:=false) rfl rfl (Ad rfl b) (by decide) rfl (by decide)<|Ak (c:=false) rfl rfl (Ad rfl b) (by decide) rfl (by decide)<|JU rfl rfl rfl rfl (by decide)<|JU rfl rfl rfl rfl (by decide)<|JU rfl rfl rfl rfl (by decide)<|Ak (c:=false) rfl rfl (Ad rfl b) (by decide) rfl (by decide)<|wd rfl (fun st=>Bh (v:=.bool false) (ee st rfl) b (ee st rfl))<|wa rfl (v:=.bool false) rfl<|Af<|Aa<|AI ?_;obtain rfl:=Option.some.inj f;refine AS rfl rfl ?_;exact⟨s.Bs,rfl⟩
end Go.Proofs.YtkljfdkmjdjpfaaGreat
end
