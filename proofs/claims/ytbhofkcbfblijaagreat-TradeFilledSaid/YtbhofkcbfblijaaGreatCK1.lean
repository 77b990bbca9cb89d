import Derived.WalkKit
import Derived.KernelRfl
import Derived.WalkSpells
import Derived.WalkLawsBesides
import Derived.Maps.AppendAt
import Derived.OrdersIn
import Derived.RangeFuncIn
import Derived.RangeFuncLeaves
import Derived.RangeFuncRecord
import Derived.RangeFuncSeq
import Derived.Scope
import Derived.DeepKeys3
import Derived.Laws.CopyRow
import Derived.Laws.OwnMore
import Derived.Laws.MakeOwn
import Derived.Laws.IdiomCopy
/-
  The contracts of the functions of the program and of the reference, and the logic that they are proved in: the base that several claims of this seat share.
-/
set_option linter.all false
section
namespace Go.Proofs.YtbhofkcbfblijaaGreat
open Go.RowKit
abbrev Env:=List (Nat×Value)
def B8(a:Act):Env→Act
 |[]=>a
 |(d,v)::l=>(B8 a l).put (some d) v
def sl(a:Act)(s:Nat):Value:=a.tmps.getD s undef
def lk(b:Value):Env→Nat→Value
 |[],_=>b
 |(d,v)::l,s=>match Nat.beq d s with|true=>v|false=>lk b l s
def ev(a:Act)(l:Env):Operand→Value
 |.tmp t=>lk (sl a t) l t
 |.const v=>v
 |.global g=>.pointer (some ⟨g,0,none⟩)
 |.func f=>.func (.func f) #[] #[]
structure Ctx where
 ro:Option Nat
 ds:List Deferred
abbrev X0:Ctx:=⟨none,[]⟩
def Wd:Option Nat→Fence
 |none=>Fence.wide
 |some r=>Fence.wide.inRound r
theorem NY(ro:Option Nat)(f:FuncId):(Wd ro).fn f:=by cases ro<;>trivial
theorem T5(ro:Option Nat):(Wd ro).depth=none:=by cases ro<;>rfl
theorem T6(ro:Option Nat){n:Nat}:(Wd ro).depth.isSome=true→1≤n:=fun h=>by rw[T5] at h;cases h
structure St(X:Ctx)(N:Nat)(a:Act)(l:Env):Prop where
 sz:a.tmps.size=N
 df:a.defers=X.ds
 lt:∀p∈l,p.1<N
theorem Kr(a:Act)(l:Env):(B8 a l).tmps.size=a.tmps.size:=by
 induction l with
 |nil=>rfl
 |cons p l ih=>simp[B8,Act.put,ih]
theorem El(a:Act)(l:Env):(B8 a l).defers=a.defers:=by
 induction l with
 |nil=>rfl
 |cons p l ih=>simp[B8,Act.put,ih]
theorem St.cons{X:Ctx}{N:Nat}{a:Act}{l:Env}(h:St X N a l){d:Nat}(c:d<N)(v:Value):St X N a ((d,v)::l):=
 ⟨h.sz,h.df,fun p b=>by
  rcases List.mem_cons.1 b with rfl|b
  ·exact c
  ·exact h.lt p b⟩
theorem KN{X:Ctx}{N:Nat}{a:Act}:∀{l:Env},St X N a l→∀s,sl (B8 a l) s=lk (sl a s) l s
 |[],_,_=>rfl
 |(d,v)::l,h,s=>by
  have c:St X N a l:=⟨h.sz,h.df,fun p e=>h.lt p (List.mem_cons_of_mem _ e)⟩;have ih:=KN c s;have f:d<N:=h.lt (d,v) (List.mem_cons_self ..);unfold sl at*;simp only[B8,Act.put,lk];cases hb:Nat.beq d s with
  |true=>
   obtain rfl:d=s:=Nat.eq_of_beq_eq_true hb;simp[Kr,h.sz,f]
  |false=>
   have b:d≠s:=Nat.ne_of_beq_eq_false hb;rw[←ih];simp[Array.getElem?_setIfInBounds_ne b]
theorem VB{X:Ctx}{N:Nat}{a:Act}{l:Env}(h:St X N a l)(x:Operand):(B8 a l).eval x=ev a l x:=by
 cases x with
 |tmp t=>exact KN h t
 |_=>rfl
theorem ee{X:Ctx}{N:Nat}{a:Act}{l:Env}{x:Operand}{v:Value}(h:St X N a l)(b:ev a l x=v):(B8 a l).eval x=v:=(VB h x).trans b
def Ce (P:Program) (o:Oper) (a:Act) (w:World) (R:Value→World→Prop):Prop:=
 match (execOp a.eval o).run P w with
 |.ok (.value v) w'=>R v w'
 |.ok .skip w'=>R undef w'
 |.ok (.enter f args) w'=>Calls P f args w' (fun e BD=>∃v,e=.returned v∧R v BD)
 |.ok (.round l f tmps assign body) w'=>RoundIn Fence.wide 0 P l f tmps assign body w' (fun e BD=>∃v,e=.returned v∧R v BD)
 |_=>False
theorem Ce.VC{P:Program}{o:Oper}{a:Act}{w:World}{R:Value→World→Prop}(h:Ce P o a w R):∀c,o.op≠.defer c:=by
 intro c b;unfold Ce at h;have he:execOp a.eval o=(do pure (.defer (←resolve a.eval c o.type))):=by
  unfold execOp;rw[b]
 rw[he,Sem.run_bind] at h;cases d:(resolve a.eval c o.type).run P w<;>simp[d,Result.andThen] at h
theorem Ce.wp{P:Program}{ro:Option Nat}{o:Oper}{a:Act}{w:World}{R:Value→World→Prop}{K:Act→World→Prop}{Q:Exit→Act→World→Prop}
  (h:Ce P o a w R)(b:∀v w',R v w'→K (a.put o.dst v) w'):o.wpIn (Wd ro) 0 P a w K Q:=by
 refine⟨fun f _=>NY ro f,?_⟩;rw[Oper.semAt_eq _ _ _ h.VC];unfold Ce at h;generalize (execOp a.eval o).run P w=r at*;cases r with
 |ok n w'=>
  cases n<;>simp only[Oper.uponIn] at h⊢
  case value=>exact b _ _ h
  case skip=>exact b _ _ h
  case enter f args=>
   refine⟨T6 ro,?_⟩;have c:CallsIn Fence.wide (0-1) P f args w' (fun e BD=>∃v,e=.returned v∧R v BD):=callsIn_wide.2 h;have g:CallsIn (Wd ro) (0-1) P f args w' (fun e BD=>∃v,e=.returned v∧R v BD):=by cases ro<;>exact c
   refine g.mono ?_;rintro e BD ⟨v,rfl,d⟩;exact b _ _ d
  case round l f tmps assign body=>
   refine⟨T6 ro,?_⟩;have c:RoundIn (Wd ro) (0-1) P l f tmps assign body w' (fun e BD=>∃v,e=.returned v∧R v BD):=by cases ro<;>exact h
   refine c.mono ?_;rintro e BD ⟨v,rfl,d⟩;exact b _ _ d
 |halt=>exact h.elim
theorem Ce.mono{P:Program}{o:Oper}{a:Act}{w:World}{R R':Value→World→Prop}(h:Ce P o a w R)(b:∀v w',R v w'→R' v w'):Ce P o a w R':=by
 unfold Ce at*;generalize (execOp a.eval o).run P w=r at*;cases r with
 |ok n w'=>
  cases n<;>simp only[] at h⊢
  case value=>exact b _ _ h
  case skip=>exact b _ _ h
  case enter f args=>
   refine h.mono ?_;rintro e BD ⟨v,rfl,c⟩;exact⟨v,rfl,b _ _ c⟩
  case round=>
   refine h.mono ?_;rintro e BD ⟨v,rfl,c⟩;exact⟨v,rfl,b _ _ c⟩
 |halt=>exact h.elim
def WL(P:Program)(X:Ctx)(N:Nat)(ops:Array Oper)(Q:Exit→Act→World→Prop)(rest:List Oper)(a:Act)(l:Env)(w:World):Prop:=
 St X N a l→wpListIn (Wd X.ro) 0 P ops Q rest (B8 a l) w
section
variable{P:Program}{X:Ctx}{N:Nat}{ops:Array Oper}{Q:Exit→Act→World→Prop}{rest:List Oper}{a:Act}{l:Env}{w:World}{o:Oper}
theorem Vd{R:Value→World→Prop}{d:Nat}(b:o.guard=none)(c:o.dst=some d)(e:d<N)
  (f:St X N a l→Ce P o (B8 a l) w R)(g:∀v w',R v w'→WL P X N ops Q rest a ((d,v)::l) w'):WL P X N ops Q (o::rest) a l w:=fun s=>
 wpListIn_plain b fun K hK=>(f s).wp fun v w' h=>hK _ _ (by rw[c];exact g v w' h (s.cons e v))
theorem BH{R:Value→World→Prop}(b:o.guard=none)(c:o.dst=none)
  (d:St X N a l→Ce P o (B8 a l) w R)(e:∀v w',R v w'→WL P X N ops Q rest a l w'):WL P X N ops Q (o::rest) a l w:=fun s=>
 wpListIn_plain b fun K hK=>(d s).wp fun v w' f=>hK _ _ (by rw[c];exact e v w' f s)
theorem XT {d:Nat} {v:Value} {w':World} (b:o.guard=none) (c:o.dst=some d) (e:d<N)
  (f:St X N a l→Ce P o (B8 a l) w (fun u BD=>u=v∧BD=w')) (g:WL P X N ops Q rest a ((d,v)::l) w'):WL P X N ops Q (o::rest) a l w:=
 Vd b c e f (by rintro _ _ ⟨rfl,rfl⟩;exact g)
theorem NZ{j d:Nat}{b:Bool}(s:St X N a l)(hj:(ops[j]?).bind (·.dst)=some d)(f:ev a l (.tmp d)=.bool b):yielded ops (B8 a l).tmps j=some b:=by
 have h:=ee s f;unfold yielded;simp only[hj,Option.bind_some];have c:(B8 a l).tmps.getD d undef=.bool b:=h;rw[Array.getD_eq_getD_getElem?] at c;cases e:(B8 a l).tmps[d]? with
 |none=>rw[e] at c;simp[undef] at c
 |some u=>rw[e] at c;simp at c;rw[c]
theorem S1 {R:Value→World→Prop} {d j dj:Nat} {b:Bool} (c:o.guard=some (j,b)) (hj:(ops[j]?).bind (·.dst)=some dj) (e:ev a l (.tmp dj)=.bool b)
  (f:o.dst=some d) (g:d<N) (h:St X N a l→Ce P o (B8 a l) w R) (i:∀v w',R v w'→WL P X N ops Q rest a ((d,v)::l) w'):WL P X N ops Q (o::rest) a l w:=fun s=>by
 have hw:Region.wanted o (yielded ops (B8 a l).tmps)=true:=by
  unfold Region.wanted;rw[c];simp[NZ s hj e]
 exact wpListIn_step fun K hK=>by rw[if_pos hw];exact(h s).wp fun v w' k=>hK _ _ (by rw[f];exact i v w' k (s.cons g v))
theorem M5{d j dj:Nat}{b:Bool}{v:Value}{w':World}(c:o.guard=some (j,b))(hj:(ops[j]?).bind (·.dst)=some dj)(e:ev a l (.tmp dj)=.bool b)
  (f:o.dst=some d)(g:d<N)(h:St X N a l→Ce P o (B8 a l) w (fun u BD=>u=v∧BD=w'))(i:WL P X N ops Q rest a ((d,v)::l) w'):WL P X N ops Q (o::rest) a l w:=
 S1 c hj e f g h (by rintro _ _ ⟨rfl,rfl⟩;exact i)
theorem Rl {d j dj:Nat} {b c:Bool} (e:o.guard=some (j,b)) (hj:(ops[j]?).bind (·.dst)=some dj) (g:ev a l (.tmp dj)=.bool c) (h:c≠b)
  (i:o.dst=some d) (k:d<N) (m:WL P X N ops Q rest a ((d,undef)::l) w):WL P X N ops Q (o::rest) a l w:=fun s=>by
 have hw:Region.wanted o (yielded ops (B8 a l).tmps)=false:=by
  unfold Region.wanted;rw[e];simp[NZ s hj g,h]
 exact wpListIn_step fun K hK=>by rw[if_neg (by rw[hw];simp)];exact⟨fun f _=>NY X.ro f,hK _ _ (by rw[i];exact m (s.cons k undef))⟩
theorem Ks {d j dj:Nat} {b:Bool} (e:o.guard=some (j,b)) (hj:(ops[j]?).bind (·.dst)=some dj) (g:ev a l (.tmp dj)=undef)
  (i:o.dst=some d) (k:d<N) (m:WL P X N ops Q rest a ((d,undef)::l) w):WL P X N ops Q (o::rest) a l w:=fun s=>by
 have hw:Region.wanted o (yielded ops (B8 a l).tmps)=false:=by
  have h:=ee s g;have n:yielded ops (B8 a l).tmps j=none:=by
   unfold yielded;simp only[hj,Option.bind_some];have c:(B8 a l).tmps.getD dj undef=undef:=h;rw[Array.getD_eq_getD_getElem?] at c;cases p:(B8 a l).tmps[dj]? with
   |none=>rfl
   |some u=>rw[p] at c;simp at c;rw[c];rfl
  unfold Region.wanted;rw[e];simp[n]
 exact wpListIn_step fun K hK=>by rw[if_neg (by rw[hw];simp)];exact⟨fun f _=>NY X.ro f,hK _ _ (by rw[i];exact m (s.cons k undef))⟩
end
def CW(P:Program)(ro:Option Nat)(c:Code)(Q:Exit→Act→World→Prop)(a:Act)(w:World):Prop:=c.wpIn (Wd ro) 0 P Q a w
def CC(P:Program)(X:Ctx)(N:Nat)(c:Code)(Q:Exit→Act→World→Prop)(a:Act)(l:Env)(w:World):Prop:=
 St X N a l→CW P X.ro c Q (B8 a l) w
section
variable{P:Program}{X:Ctx}{N:Nat}{Q:Exit→Act→World→Prop}{a:Act}{l:Env}{w:World}
def LV (X:Ctx) (N:Nat) (Q:Exit→Act→World→Prop) (e:Exit) (a:Act) (l:Env) (w:World):Prop:=St X N a l→Q e (B8 a l) w
theorem Af{x y:Code}(h:CC P X N x (Exit.then (CW P X.ro y Q) Q) a l w):CC P X N (.seq x y) Q a l w:=fun s=>wpIn_seq (h s)
theorem An{id:Nat}{L:List Oper}(h:WL P X N L.toArray Q L a l w):CC P X N (.region id L.toArray false) Q a l w:=fun s=>wpIn_region_lit (h s)
theorem Bn{ops:Array Oper}(h:LV X N Q .normal a l w):WL P X N ops Q [] a l w:=fun s=>wpListIn_nil (h s)
theorem Cm(h:LV X N Q .normal a l w):CC P X N .skip Q a l w:=fun s=>wpIn_skip (h s)
theorem Lt{id:Nat}(h:LV X N Q (.exit id) a l w):CC P X N (.exit id) Q a l w:=fun s=>wpIn_exit (h s)
theorem Ak(h:LV X N Q .ret a l w):CC P X N .ret Q a l w:=fun s=>wpIn_ret (h s)
theorem AL{id:Nat}{c:Code}(h:CC P X N c (Exit.inBlock id Q) a l w):CC P X N (.block id c) Q a l w:=fun s=>wpIn_block (h s)
theorem Ai{c:Operand}{x y:Code}{t:Bool}(b:ev a l c=.bool t)(h:t=true)(d:CC P X N x Q a l w):CC P X N (.cond c x y) Q a l w:=fun s=>wpIn_cond_true (by rw[ee s b,h]) (d s)
theorem Au{c:Operand}{x y:Code}{t:Bool}(b:ev a l c=.bool t)(h:t=false)(d:CC P X N y Q a l w):CC P X N (.cond c x y) Q a l w:=fun s=>wpIn_cond_false (by rw[ee s b,h]) (d s)
theorem BM {y:Code} (h:CC P X N y Q a l w):LV X N (Exit.then (CW P X.ro y Q) Q) .normal a l w:=fun s=>h s
theorem G0{K:Act→World→Prop}{id:Nat}(h:LV X N Q (.exit id) a l w):LV X N (Exit.then K Q) (.exit id) a l w:=h
theorem AI{K:Act→World→Prop}(h:LV X N Q .ret a l w):LV X N (Exit.then K Q) .ret a l w:=h
theorem IV{id:Nat}(h:LV X N Q .normal a l w):LV X N (Exit.inBlock id Q) .normal a l w:=h
theorem IW{id:Nat}(h:LV X N Q .ret a l w):LV X N (Exit.inBlock id Q) .ret a l w:=h
theorem Bi{id:Nat}(h:LV X N Q .normal a l w):LV X N (Exit.inBlock id Q) (.exit id) a l w:=fun s=>by
 show(if id=id then Q .normal _ _ else Q (.exit id) _ _);rw[if_pos rfl];exact h s
theorem Mg{id k:Nat}(b:k≠id)(h:LV X N Q (.exit k) a l w):LV X N (Exit.inBlock id Q) (.exit k) a l w:=fun s=>by
 show(if k=id then Q .normal _ _ else Q (.exit k) _ _);rw[if_neg b];exact h s
theorem S2 {c:Code} (I:Nat→Act→World→Prop) (m:Nat) (h0:I m a w)
  (t:∀m a w,I m a w→CW P X.ro c (Exit.then (fun a' w'=>∃j,j<m∧I j a' w') Q) a w):CW P X.ro (Code.loop c) Q a w:=by
 intro b k cs p hb i;have key:∀n a w,I n a w→∃e a' w',Q e a' w'∧ArrivesIn (Machine.fenced P (Wd X.ro)) P (lone (b.atR a (.code c::.inLoop c::k)) cs w) b k cs e a' w':=by
  intro n
  induction n using Nat.strongRecOn with
  |_ n ih=>
   intro a w u;obtain⟨e,g,h,f,d⟩:=t n a w u b (.inLoop c::k) cs p hb i;cases e with
   |normal=>
    obtain⟨j,q,r⟩:=f;obtain⟨v,y,z,s,o⟩:=ih j q g h r;exact⟨v,y,z,s,.of_steps (StepsIn.trans d (.one (fenced_calm hb i rfl) stepR_inLoop)) o⟩
   |exit id=>exact⟨_,g,h,f,.pass (x:=.inLoop c) rfl (fun _ _=>.inl (by simp)) d⟩
   |goto l=>exact⟨_,g,h,f,.pass (x:=.inLoop c) rfl (fun _ _=>.inl (by simp)) d⟩
   |ret=>exact⟨_,g,h,f,.pass (x:=.inLoop c) rfl (fun _ _=>.inl (by simp)) d⟩
   |panic ch=>exact⟨_,g,h,f,.pass (x:=.inLoop c) rfl (fun _ _=>.inl (by simp)) d⟩
   |outgrown=>exact⟨_,g,h,f,.pass (x:=.inLoop c) rfl (fun _ _=>.inl (by simp)) d⟩
 obtain⟨e,a',w',f,d⟩:=key m a w h0;exact⟨e,a',w',f,.of_steps (.one (fenced_calm hb i rfl) stepR_loop) d⟩
theorem BW{c:Code}(I:Nat→Act→World→Prop)(m:Nat)(h0:St X N a l→I m (B8 a l) w)
  (d:∀m a w,I m a w→CW P X.ro c (Exit.then (fun a' w'=>∃b,b<m∧I b a' w') Q) a w):CC P X N (.loop c) Q a l w:=fun s=>
 S2 I m (h0 s) d
theorem T7 {c:Code} (b:a.tmps.size=N) (d:a.defers=X.ds) (h:CC P X N c Q a [] w):CW P X.ro c Q a w:=
 h ⟨b,d,fun _ e=>by cases e⟩
theorem Bz{I:Nat→Act→World→Prop}{m:Nat}(b:Nat)(c:b<m)(h:St X N a l→I b (B8 a l) w):LV X N (Exit.then (fun a' w'=>∃b,b<m∧I b a' w') Q) .normal a l w:=
 fun s=>⟨b,c,h s⟩
end
def Bk (w:World) (b:Nat) (t:TypeId) (cs:Array Value):Prop:=w.heap[b]?=some (.cells cs t (0,0))
abbrev Ext (w w':World):Prop:=w.grownBy w' none
abbrev Jl (b:Nat) (w w':World):Prop:=w.grownBy w' (some b)
structure LN(w w':World)(b:Nat)(t:TypeId)(cs:Array Value):Prop where
 E9:b=w.heap.size
 sz:w'.heap.size=b+1
 bk:Bk w' b t cs
 gr:Ext w w'
structure PD(w w':World)(b:Nat)(t:TypeId)(cs:Array Value):Prop where
 sz:w'.heap.size=w.heap.size
 bk:Bk w' b t cs
 gr:Jl b w w'
section
variable{w w':World}{b b':Nat}{t:TypeId}{cs:Array Value}
theorem Bk.lt(h:Bk w b t cs):b<w.heap.size:=lt_of_block h
theorem Bk.cell(h:Bk w b t cs)(i:Nat):w.cell? ⟨b,i,none⟩=cs[i]?:=cell_of_row w b i cs t (0,0) h
theorem Bk.frozen(h:Bk w b t cs)(i:Nat):w.frozen? ⟨b,i,none⟩=false:=frozen_of_row w b i cs t h
theorem Bk.ext(h:Bk w b t cs)(g:Ext w w'):Bk w' b t cs:=(g.block b h.lt (by simp)).trans h
theorem Bk.PE(h:Bk w b t cs)(g:Jl b' w w')(a:b≠b'):Bk w' b t cs:=(g.block b h.lt (by simpa using a)).trans h
theorem Ml(h:Ext w w'):Below w.heap.size w w':=⟨h.os,h.tape,h.output,h.size,fun k a=>h.block k a (by simp)⟩
theorem Ext.refl(w:World):Ext w w:=World.grownBy.refl w _
theorem Ext.trans{a b c:World}(h:Ext a b)(k:Ext b c):Ext a c:=World.grownBy.trans h k
theorem KH(w:World)(t:TypeId)(cs:Array Value):LN w (w.alloc (.cells cs t)) w.heap.size t cs:=
 ⟨rfl,by simp,heap_alloc_new w _,World.grownBy_alloc w _ _⟩
def Rd (w:World) (lo hi:Nat) (A:Option Addr) (cs:List Value):Prop:=
 hi≤w.heap.size∧(cs=[]∨∃b o,A=some ⟨b,o,none⟩∧lo≤b∧b<hi∧∀j u,cs[j]?=some u→w.cell? ⟨b,o+j,none⟩=some u)
section
variable{lo hi:Nat}{A:Option Addr}{cs:List Value}
theorem Rd.le(h:Rd w lo hi A cs):hi≤w.heap.size:=h.1
theorem Rd.ext(h:Rd w lo hi A cs)(g:Ext w w'):Rd w' lo hi A cs:=
 ⟨Nat.le_trans h.1 g.size,h.2.imp id fun⟨b,o,d,hl,c,e⟩=>⟨b,o,d,hl,c,fun j u hu=>
  (World.cell?_of_block (a:=⟨b,o+j,none⟩) (g.block b (Nat.lt_of_lt_of_le c h.1) (by simp))).trans (e j u hu)⟩⟩
theorem Rd.PE(h:Rd w lo hi A cs)(g:Jl b' w w')(f:b'<lo∨hi≤b'):Rd w' lo hi A cs:=
 ⟨Nat.le_trans h.1 g.size,h.2.imp id fun⟨b,o,d,hl,c,e⟩=>⟨b,o,d,hl,c,fun j u hu=>
  (World.cell?_of_block (a:=⟨b,o+j,none⟩) (g.block b (Nat.lt_of_lt_of_le c h.1) (by simp;omega))).trans (e j u hu)⟩⟩
theorem Rd.mono{c a:Nat}(h:Rd w lo hi A cs)(hl:c≤lo)(f:hi≤a)(hs:a≤w.heap.size):Rd w c a A cs:=
 ⟨hs,h.2.imp id fun⟨b,o,d,h1,h2,e⟩=>⟨b,o,d,by omega,by omega,e⟩⟩
theorem Rd.wide(h:Rd w lo hi A cs):Rd w 0 w.heap.size A cs:=h.mono (Nat.zero_le _) h.le (Nat.le_refl _)
theorem Rd.nil{A:Option Addr}(a:hi≤w.heap.size):Rd w lo hi A []:=⟨a,.inl rfl⟩
theorem Rd.PF{w0:World}(h:Rd w0 lo hi A cs){B:Nat}(g:Below B w0 w')(c:hi≤B):Rd w' lo hi A cs:=
 ⟨Nat.le_trans h.1 g.size,h.2.imp id fun⟨b,o,d,hl,a,e⟩=>⟨b,o,d,hl,a,fun j u hu=>
  (g.cell (p:=⟨b,o+j,none⟩) (Nat.lt_of_lt_of_le a c)).trans (e j u hu)⟩⟩
theorem Bk.PF{w0:World}{xs:Array Value}(h:Bk w0 b t xs){B:Nat}(g:Below B w0 w')(a:b<B):Bk w' b t xs:=(g.block b a).trans h
theorem Rd.cells(h:Rd w lo hi A cs){b o:Nat}(c:A=some ⟨b,o,none⟩):∀j u,cs[j]?=some u→w.cell? ⟨b,o+j,none⟩=some u:=by
 rcases h.2 with rfl|⟨b',o',a,_,_,d⟩
 ·simp
 ·rw[c] at a;injection a with a
  injection a with h1 h2
  subst h1;subst h2;exact d
theorem Rd.at_ (h:Rd w lo hi A cs) {k:Nat} {u:Value} (hu:cs[k]?=some u):∃b o,A=some ⟨b,o,none⟩∧lo≤b∧b<hi∧∀j u,cs[j]?=some u→w.cell? ⟨b,o+j,none⟩=some u:=by
 rcases h.2 with rfl|h
 ·simp at hu
 ·exact h
end
end
section
variable{P:Program}{a:Act}{w:World}{dst:Option Tmp}{ty:TypeId}{pos:String}{B9:Array Edge}{g:Option (Nat×Bool)}
theorem C9{o:Oper}{v:Value}{w':World}(h:(execOp a.eval o).run P w=.ok (.value v) w'):Ce P o a w (fun u BD=>u=v∧BD=w'):=by
 unfold Ce;rw[h];exact⟨rfl,rfl⟩
theorem AA{x:Operand}{v:Value}(b:a.eval x=v):Ce P ⟨dst,.move x,ty,pos,B9,g⟩ a w (fun u w'=>u=v∧w'=w):=⟨b,rfl⟩
theorem J0{x:Operand}{v:Value}(b:a.eval x=v):Ce P ⟨dst,.assign x,ty,pos,B9,g⟩ a w (fun u w'=>u=v∧w'=w):=⟨b,rfl⟩
theorem Bc{c x y:Operand}{t:Bool}{v:Value}(b:a.eval c=.bool t)(d:t=true)(e:a.eval x=v):Ce P ⟨dst,.pick c x y,ty,pos,B9,g⟩ a w (fun u w'=>u=v∧w'=w):=
 C9 (by subst d;simp[execOp,b,asBool,e])
theorem Bt{c x y:Operand}{t:Bool}{v:Value}(b:a.eval c=.bool t)(d:t=false)(e:a.eval y=v):Ce P ⟨dst,.pick c x y,ty,pos,B9,g⟩ a w (fun u w'=>u=v∧w'=w):=
 C9 (by subst d;simp[execOp,b,asBool,e])
theorem B5{e:TypeId}{z:Value}{cs:Array Value}(d:(P.info? e).bind (·.zero)=some z)(f:z.cells=cs):
  Ce P ⟨dst,.alloc e,ty,pos,B9,g⟩ a w (fun u w'=>∃b,u=.pointer (some ⟨b,0,none⟩)∧LN w w' b e cs):=by
 have h:(Instr.alloc e true (.tuple #[])).run P w=.ok (.pointer (some ⟨w.heap.size,0,none⟩)) (w.alloc (.cells cs e)):=by
  obtain⟨i,hi,c⟩:=Option.bind_eq_some_iff.1 d;simp[Instr.alloc,zeroValue,typeInfo,hi,c,newVar,newRow,newObj,program,Sem.run,f]
 unfold Ce;simp only[execOp,Sem.run_bind,h,Result.andThen_ok,Sem.run_pure];exact⟨_,rfl,KH w e cs⟩
theorem BL{e:TypeId}{x:Operand}{v:Value}{cs:Array Value}(c:a.eval x=v)(d:v.cells=cs):
  Ce P ⟨dst,.box e x,ty,pos,B9,g⟩ a w (fun u w'=>∃b,u=.pointer (some ⟨b,0,none⟩)∧LN w w' b e cs):=by
 have h:(Instr.box e (a.eval x)).run P w=.ok (.pointer (some ⟨w.heap.size,0,none⟩)) (w.alloc (.cells cs e)):=by
  simp[Instr.box,newVar,newRow,newObj,Sem.run,c,d]
 unfold Ce;simp only[execOp,Sem.run_bind,h,Result.andThen_ok,Sem.run_pure];exact⟨_,rfl,KH w e cs⟩
theorem KI{o:Oper}{S:Sem Value}{v:Value}{w':World}(b:execOp a.eval o=(do pure (.value (←S))))(h:S.run P w=.ok v w'):Ce P o a w (fun u BD=>u=v∧BD=w'):=
 C9 (by rw[b];simp[h])
theorem DI{t:TypeId}{ps:Array (Nat×Operand)}{vs:Array (Nat×Value)}{v:Value}(b:ps.map (fun(i,x)=>(i,a.eval x))=vs)(h:(Instr.build t vs).run P w=.ok v w):
  Ce P ⟨dst,.build t ps,ty,pos,B9,g⟩ a w (fun u w'=>u=v∧w'=w):=KI (S:=Instr.build t vs) (by simp only[execOp];rw[b]) h
theorem BQ{t e:TypeId}{n:Nat}{ps:Array (Nat×Operand)}{vs:Array (Nat×Value)}{cs:Array Value}(c:ps.map (fun(i,x)=>(i,a.eval x))=vs)
  (h:(Instr.buildSlice t n vs).run P w=.ok (.slice (some ⟨w.heap.size,0,none⟩) n n) (w.alloc (.cells cs e))):
  Ce P ⟨dst,.buildSlice t n ps,ty,pos,B9,g⟩ a w (fun u w'=>∃b,u=.slice (some ⟨b,0,none⟩) n n∧LN w w' b e cs):=
 (KI (S:=Instr.buildSlice t n vs) (by simp only[execOp];rw[c]) h).mono fun u w' ⟨hu,hw⟩=>⟨_,hu,by rw[hw];exact KH w e cs⟩
def E8(P:Program)(t:TypeId)(n:Nat):Prop:=(match P.underlying t with|some (.struct _)|some (.array ..)=>true|_=>false)=true∧(P.info? t).map (·.size)=some n
def One(P:Program)(t:TypeId):Prop:=(match P.underlying t with|some (.struct _)|some (.array ..)|none=>false|_=>true)=true∧(P.info? t).map (·.size)=some 1
theorem Q3{t:TypeId}{n:Nat}(h:E8 P t n):(isAgg t).run P w=.ok true w:=by
 unfold isAgg;cases hu:P.underlying t with
 |none=>simp[E8,hu] at h
 |some d=>cases d<;>simp[E8,hu] at h<;>simp[underlying,program,Sem.run,hu]
theorem Nk{t:TypeId}(h:One P t):(isAgg t).run P w=.ok false w:=by
 unfold isAgg;cases hu:P.underlying t with
 |none=>simp[One,hu] at h
 |some d=>cases d<;>simp[One,hu] at h<;>simp[underlying,program,Sem.run,hu]
theorem Ju{t:TypeId}{n:Nat}(h:(P.info? t).map (·.size)=some n):(sizeOf t).run P w=.ok n w:=by
 obtain⟨i,hi,hs⟩:=Option.map_eq_some_iff.1 h;simp[sizeOf,typeInfo,program,Sem.run,hi,hs]
theorem Ge(b o j:Nat):(⟨b,o,none⟩:Addr).add j=⟨b,o+j,none⟩:=by unfold Addr.add;split<;>simp_all
theorem FH{t:TypeId}{ad:Addr}{v:Value}(h:One P t)(a:w.cell? ad=some v):(loadVar t ad).run P w=.ok v w:=by
 simp[loadVar,Nk h,load,Sem.run,a]
theorem Mm{t:TypeId}{n b o:Nat}{cs:List Value}(h:E8 P t n)(a:cs.length=n)(c:∀j u,cs[j]?=some u→w.cell? ⟨b,o+j,none⟩=some u):(loadVar t ⟨b,o,none⟩).run P w=.ok (.agg cs.toArray) w:=by
 have h1:=run_loadCells_list (P:=P) (w:=w) ⟨b,o,none⟩ cs (fun j v d=>by rw[Ge];exact c j v d);subst a;simp[loadVar,Q3 h,Ju h.2,h1]
theorem N0{t:TypeId}{x:Operand}{ad:Addr}{v:Value}(b:a.eval x=.pointer (some ad))(h:(loadVar t ad).run P w=.ok v w):Ce P ⟨dst,.load t x,ty,pos,B9,g⟩ a w (fun u w'=>u=v∧w'=w):=
 KI (S:=Instr.loadAt t (a.eval x)) rfl (by simp[Instr.loadAt,Instr.sureAddr,b,h])
theorem Ag {t c:TypeId} {x:Operand} {b o:Nat} {cs:Array Value} {v:Value} (h:One P t) (d:a.eval x=.pointer (some ⟨b,o,none⟩)) (hb:Bk w b c cs) (e:cs.toList[o]?=some v):
  Ce P ⟨dst,.load t x,ty,pos,B9,g⟩ a w (fun u w'=>u=v∧w'=w):=N0 d (FH h ((hb.cell o).trans (by simpa using e)))
theorem Bd {t c:TypeId} {x:Operand} {n b o:Nat} {cs:Array Value} {l:List Value} (h:E8 P t n) (d:a.eval x=.pointer (some ⟨b,o,none⟩)) (hb:Bk w b c cs) (hl:(cs.toList.drop o).take n=l) (e:l.length=n):
  Ce P ⟨dst,.load t x,ty,pos,B9,g⟩ a w (fun u w'=>u=.agg l.toArray∧w'=w):=N0 d (Mm h e fun j u hu=>by
 rw[hb.cell];subst hl;rw[List.getElem?_take] at hu;split at hu
 ·simpa using hu
 ·cases hu)
theorem O8 {t:TypeId} {x:Operand} {b o k:Nat} {cs:List Value} {v:Value} (h:One P t) (c:a.eval x=.pointer (some ⟨b,o+k,none⟩)) (d:∀j u,cs[j]?=some u→w.cell? ⟨b,o+j,none⟩=some u) (e:cs[k]?=some v):
  Ce P ⟨dst,.load t x,ty,pos,B9,g⟩ a w (fun u w'=>u=v∧w'=w):=N0 c (FH h (d k v e))
theorem N1 {t:TypeId} {x:Operand} {n b o k:Nat} {cs l:List Value} (h:E8 P t n) (c:a.eval x=.pointer (some ⟨b,o+k,none⟩)) (d:∀j u,cs[j]?=some u→w.cell? ⟨b,o+j,none⟩=some u)
  (hl:(cs.drop k).take n=l) (e:l.length=n):Ce P ⟨dst,.load t x,ty,pos,B9,g⟩ a w (fun u w'=>u=.agg l.toArray∧w'=w):=N0 c (Mm h e fun j u hu=>by
 rw[Nat.add_assoc];refine d _ _ ?_;subst hl;rw[List.getElem?_take] at hu;split at hu
 ·simpa using hu
 ·cases hu)
def setCells(cs:Array Value)(o:Nat):List Value→Array Value
 |[]=>cs
 |v::l=>setCells (cs.setIfInBounds o v) (o+1) l
theorem Mh(o:Nat):∀(l:List Value) (cs:Array Value) (o:Nat),(setCells cs o l).size=cs.size
 |[],_,_=>rfl
 |v::l,cs,o=>by simp[setCells,Mh o l]
theorem KG{b:Nat}{t:TypeId}{o:Nat}:∀(l:List Value) (i:Nat) (cs:Array Value) (w:World),Bk w b t cs→o+i+l.length≤cs.size→(∀u∈l,u.oneCell'=true)→
  ∃w',(storeCells ⟨b,o,none⟩ l i).run P w=.ok () w'∧PD w w' b t (setCells cs (o+i) l)
 |[],i,cs,w,h,_,_=>⟨w,by simp[storeCells],rfl,h,World.grownBy.refl w _⟩
 |v::l,i,cs,w,h,hle,h1=>by
  have c:o+i<cs.size:=by simp at hle;omega
  have f:=h1 v (List.mem_cons_self ..);have a:w.cell? ⟨b,o+i,none⟩=some cs[o+i]:=by rw[h.cell];simp[c]
  have d:(store ((⟨b,o,none⟩:Addr).add i) v).run P w=.ok () (w.setCell ⟨b,o+i,none⟩ v):=by
   rw[Ge];cases v<;>simp[Value.oneCell'] at f<;>simp[store,Sem.run,a,h.frozen]
  have hb:Bk (w.setCell ⟨b,o+i,none⟩ v) b t (cs.setIfInBounds (o+i) v):=by
   unfold Bk at h⊢;simp[World.setCell,Array.getElem?_modify,h]
  obtain⟨w',g,s1,s2,j⟩:=KG (o:=o) l (i+1) _ _ hb (by simp at hle⊢;omega) (fun u hu=>h1 u (List.mem_cons_of_mem _ hu));refine⟨w',?_,by rw[s1];simp,s2,?_⟩
  ·simp only[storeCells,Sem.run_bind,d,Result.andThen_ok,g]
  ·have g1:Jl b w (w.setCell ⟨b,o+i,none⟩ v):=⟨rfl,rfl,rfl,by simp,fun k _ e=>Below.heap_setCell w ⟨b,o+i,none⟩ v k (by simpa using e)⟩;exact World.grownBy.trans g1 j
theorem Bv{t d:TypeId}{x y:Operand}{n b o:Nat}{v:Value}{cs Cv:Array Value}{l:List Value}(f:a.eval x=.pointer (some ⟨b,o,none⟩))(i:a.eval y=v)(hs:(P.info? t).map (·.size)=some n)(hb:Bk w b d cs)
  (hl:v.cells.toList=l)(j:l.length=n)(hle:o+n≤cs.size)(h1:∀u∈l,u.oneCell'=true)(k:setCells cs o l=Cv):
  Ce P ⟨dst,.store t x y,ty,pos,B9,g⟩ a w (fun _ w'=>PD w w' b d Cv):=by
 obtain⟨w',m,c⟩:=KG (P:=P) (t:=d) (o:=o) l 0 cs w hb (by omega) h1;have e:v.cells.size=n:=by rw[←j,←hl];simp
 have h:(Instr.storeAt t (a.eval x) (a.eval y)).run P w=.ok () w':=by
  simp[Instr.storeAt,Instr.sureAddr,f,i,storeVar,Ju hs,e,hl,m]
 unfold Ce;simp only[execOp,Sem.run_bind,h,Result.andThen_ok,Sem.run_pure];rw[Nat.add_zero,k] at c;exact c
theorem Cw{x:Operand}{ad:Addr}(b:a.eval x=.pointer (some ad)):Ce P ⟨dst,.nilCheck x,ty,pos,B9,g⟩ a w (fun u w'=>u=.pointer (some ad)∧w'=w):=
 C9 (by simp[execOp,b])
def fits(x:Int):Prop:=-9223372036854775808≤x∧x≤9223372036854775807
theorem Jv{x:Int}(h:fits x):IntKind.i64.wrap x=x:=by
 rw[IntKind.wrap_i64];unfold fits at h;omega
theorem BR{x y:Operand}{m n:Int}{t b:TypeId}(c:a.eval x=.int .i64 m)(d:a.eval y=.int .i64 n)(e:fits (m+n)):Ce P ⟨dst,.binOp .add t x y b,ty,pos,B9,g⟩ a w (fun u w'=>u=.int .i64 (m+n)∧w'=w):=
 C9 (by simp[execOp,c,d,eqGuard,binOp,Op.intArith,Jv e])
theorem EC{x y:Operand}{m n:Int}{t b:TypeId}(c:a.eval x=.int .i64 m)(d:a.eval y=.int .i64 n)(e:fits (m-n)):Ce P ⟨dst,.binOp .sub t x y b,ty,pos,B9,g⟩ a w (fun u w'=>u=.int .i64 (m-n)∧w'=w):=
 C9 (by simp[execOp,c,d,eqGuard,binOp,Op.intArith,Jv e])
theorem LO{x y:Operand}{m n:Int}{t b:TypeId}(c:a.eval x=.int .i64 m)(d:a.eval y=.int .i64 n)(e:fits (m*n)):Ce P ⟨dst,.binOp .mul t x y b,ty,pos,B9,g⟩ a w (fun u w'=>u=.int .i64 (m*n)∧w'=w):=
 C9 (by simp[execOp,c,d,eqGuard,binOp,Op.intArith,Jv e])
theorem M6{x y:Operand}{k:IntKind}{m n:Int}{t b:TypeId}(c:a.eval x=.int k m)(d:a.eval y=.int k n)(h0:0≤m)(h1:1≤n):Ce P ⟨dst,.binOp .rem t x y b,ty,pos,B9,g⟩ a w (fun u w'=>u=.int k (m%n)∧w'=w):=
 C9 (by
  have e:m.tmod n=m%n:=Int.tmod_eq_emod_of_nonneg h0;have f:¬n=0:=by omega
  simp[execOp,c,d,eqGuard,binOp,Op.intDiv,f,e])
theorem Rm(op:BinOp)(t:TypeId)(x y:Operand)(k:IntKind)(m n:Int):(eqGuard op t x y (.int k m) (.int k n)).run P w=.ok () w:=by
 unfold eqGuard;cases op<;>rfl
theorem D0{x y:Operand}{k:IntKind}{m n:Int}{t b:TypeId}(c:a.eval x=.int k m)(d:a.eval y=.int k n):Ce P ⟨dst,.binOp .eql t x y b,ty,pos,B9,g⟩ a w (fun u w'=>u=.bool (m==n)∧w'=w):=
 C9 (by simp[execOp,c,d,Rm,binOp,Op.intCmp])
theorem DU{x y:Operand}{k:IntKind}{m n:Int}{t b:TypeId}(c:a.eval x=.int k m)(d:a.eval y=.int k n):Ce P ⟨dst,.binOp .neq t x y b,ty,pos,B9,g⟩ a w (fun u w'=>u=.bool (m !=n)∧w'=w):=
 C9 (by simp[execOp,c,d,Rm,binOp,Op.intCmp])
theorem B6{x y:Operand}{k:IntKind}{m n:Int}{t b:TypeId}(c:a.eval x=.int k m)(d:a.eval y=.int k n):Ce P ⟨dst,.binOp .lss t x y b,ty,pos,B9,g⟩ a w (fun u w'=>u=.bool (decide (m<n))∧w'=w):=
 C9 (by simp[execOp,c,d,Rm,binOp,Op.intCmp])
theorem Hv{x y:Operand}{k:IntKind}{m n:Int}{t b:TypeId}(c:a.eval x=.int k m)(d:a.eval y=.int k n):Ce P ⟨dst,.binOp .leq t x y b,ty,pos,B9,g⟩ a w (fun u w'=>u=.bool (decide (m≤n))∧w'=w):=
 C9 (by simp[execOp,c,d,Rm,binOp,Op.intCmp])
theorem FY{x y:Operand}{k:IntKind}{m n:Int}{t b:TypeId}(c:a.eval x=.int k m)(d:a.eval y=.int k n):Ce P ⟨dst,.binOp .gtr t x y b,ty,pos,B9,g⟩ a w (fun u w'=>u=.bool (decide (n<m))∧w'=w):=
 C9 (by simp[execOp,c,d,Rm,binOp,Op.intCmp])
theorem Ir{x y:Operand}{k:IntKind}{m n:Int}{t b:TypeId}(c:a.eval x=.int k m)(d:a.eval y=.int k n):Ce P ⟨dst,.binOp .geq t x y b,ty,pos,B9,g⟩ a w (fun u w'=>u=.bool (decide (n≤m))∧w'=w):=
 C9 (by simp[execOp,c,d,Rm,binOp,Op.intCmp])
theorem Ve {op:BinOp} {x y:Operand} {v v1 v2:Value} {t b:TypeId} (c:a.eval x=v1) (d:a.eval y=v2) (h:(do eqGuard op t x y v1 v2;binOp op t v1 v2:Sem Value).run P w=.ok v w):Ce P ⟨dst,.binOp op t x y b,ty,pos,B9,g⟩ a w (fun u w'=>u=v∧w'=w):=
 KI (S:=do eqGuard op t x y v1 v2;binOp op t v1 v2) (by simp only[execOp,c,d]) h
theorem B7{x:Operand}{b:Bool}{t:TypeId}(c:a.eval x=.bool b):Ce P ⟨dst,.unOp .not t x,ty,pos,B9,g⟩ a w (fun u w'=>u=.bool (!b)∧w'=w):=
 C9 (by simp[execOp,c,Op.unary])
theorem Mn{s t:TypeId}{k k':IntKind}{x:Operand}{n:Int}(hs:(P.underlying s).isSome=true)(b:P.underlying t=some (.int k))(c:a.eval x=.int k' n)(e:k.wrap n=n):Ce P ⟨dst,.convert s t x,ty,pos,B9,g⟩ a w (fun u w'=>u=.int k n∧w'=w):=by
 obtain⟨d,f⟩:=Option.isSome_iff_exists.1 hs;exact C9 (by cases d<;>simp[execOp,c,convert,underlying,program,Sem.run,f,b,Conv.intToInt,e])
theorem Da{fn:Fn}{b cs:Array Operand}{vs us:Array Value}(c:b.map a.eval=vs)(d:cs.map a.eval=us):Ce P ⟨dst,.makeFunc fn b cs,ty,pos,B9,g⟩ a w (fun u w'=>u=.func fn vs us∧w'=w):=
 C9 (by simp[execOp,Instr.makeFunc,c,d])
theorem Ad{s:TypeId}{x:Operand}{i:Nat}{ad b:Addr}(c:a.eval x=.pointer (some ad))(h:(Instr.fieldAt s (.pointer (some ad)) i).run P w=.ok (.pointer (some b)) w):Ce P ⟨dst,.fieldAddr s x i,ty,pos,B9,g⟩ a w (fun u w'=>u=.pointer (some b)∧w'=w):=
 KI (S:=Instr.fieldAt s (.pointer (some ad)) i) (by simp only[execOp,c]) h
theorem Rn{s:TypeId}{x:Operand}{i:Nat}{v v':Value}(b:a.eval x=v)(h:(Instr.field s v i).run P w=.ok v' w):Ce P ⟨dst,.field s x i,ty,pos,B9,g⟩ a w (fun u w'=>u=v'∧w'=w):=
 KI (S:=Instr.field s v i) (by simp only[execOp,b]) h
theorem BA{x:Operand}{i:Nat}{vs:Array Value}{v:Value}(b:a.eval x=.tuple vs)(h:vs[i]?=some v):Ce P ⟨dst,.extract x i,ty,pos,B9,g⟩ a w (fun u w'=>u=v∧w'=w):=
 C9 (by simp[execOp,b,Instr.extract,h])
theorem OE{t:TypeId}{x:Operand}{lo hi:Option Operand}{v:Value}{b c:Option Value}{v':Value}(d:a.eval x=v)(hl:lo.map a.eval=b)(e:hi.map a.eval=c)(h:(Instr.sliceAt t v b c none).run P w=.ok v' w):Ce P ⟨dst,.slice t x lo hi none,ty,pos,B9,g⟩ a w (fun u w'=>u=v'∧w'=w):=
 KI (S:=Instr.sliceAt t v b c none) (by simp only[execOp,d,hl,e,Option.map_none]) h
theorem Nl {t e:TypeId} {x y:Operand} {sz b o n c k:Nat} {i:Int} {d:IntKind} (f:P.underlying t=some (.slice e)) (hs:(P.info? e).map (·.size)=some sz) (h:a.eval x=.slice (some ⟨b,o,none⟩) n c) (j:a.eval y=.int d i)
  (hi:i=k) (l:k<n):Ce P ⟨dst,.indexAddr t x y,ty,pos,B9,g⟩ a w (fun u w'=>u=.pointer (some ⟨b,o+k*sz,none⟩)∧w'=w):=
 C9 (by
  subst hi;have h2:(0:Int)≤k∧(k:Int)<n:=⟨by omega,by omega⟩;have m:¬n≤k:=by omega
  simp[execOp,h,j,Instr.indexAt,asIntOf,underlying,program,Sem.run,f,h2,Ju hs,Ge,l,m])
theorem PG {t e:TypeId} {x y:Operand} {sz b o n k:Nat} {i:Int} {c:IntKind} (d:P.underlying t=some (.array n e)) (hs:(P.info? e).map (·.size)=some sz) (f:a.eval x=.pointer (some ⟨b,o,none⟩)) (h:a.eval y=.int c i)
  (hi:i=k) (j:k<n):Ce P ⟨dst,.indexAddr t x y,ty,pos,B9,g⟩ a w (fun u w'=>u=.pointer (some ⟨b,o+k*sz,none⟩)∧w'=w):=
 C9 (by
  subst hi;have h2:(0:Int)≤k∧(k:Int)<n:=⟨by omega,by omega⟩;have l:¬n≤k:=by omega
  simp[execOp,f,h,Instr.indexAt,asIntOf,underlying,program,Sem.run,d,h2,Ju hs,Ge,Instr.sureAddr,j,l])
theorem Bo{t e:TypeId}{x:Operand}{A:Option Addr}{n c:Nat}(b:P.underlying t=some (.slice e))(d:a.eval x=.slice A n c):Ce P ⟨dst,.call {callee:=.builtin .len,args:= #[x],argTypes:= #[t]},ty,pos,B9,g⟩ a w (fun u w'=>u=.int .i64 n∧w'=w):=
 C9 (by simp[execOp,resolve,invoke,builtin,Builtin.len_,d,underlying,program,Sem.run,b,goInt])
theorem Sv{x y:Operand}{m n:Int}{t b:TypeId}(c:a.eval x=.int .i64 m)(d:a.eval y=.int .i64 n):Ce P ⟨dst,.call {callee:=.builtin .max,args:= #[x,y],argTypes:= #[t,b]},ty,pos,B9,g⟩ a w (fun u w'=>u=.int .i64 (max m n)∧w'=w):=
 C9 (by
  have e:(if m<n then n else m)=max m n:=by omega
  simp[execOp,resolve,invoke,builtin,Builtin.max_,c,d,Builtin.max2,e])
theorem Vf{x y:Operand}{m n:Int}{t b:TypeId}(c:a.eval x=.int .i64 m)(d:a.eval y=.int .i64 n):Ce P ⟨dst,.call {callee:=.builtin .min,args:= #[x,y],argTypes:= #[t,b]},ty,pos,B9,g⟩ a w (fun u w'=>u=.int .i64 (min m n)∧w'=w):=
 C9 (by
  have e:(if n<m then n else m)=min m n:=by omega
  simp[execOp,resolve,invoke,builtin,Builtin.min_,c,d,Builtin.min2,e])
def BN (P:Program) (f:FuncId) (args:Array Value) (w:World) (R:Value→World→Prop):Prop:=Calls P f args w (fun e w'=>∃v,e=.returned v∧R v w')
theorem BN.mono{f:FuncId}{args:Array Value}{R R':Value→World→Prop}(h:BN P f args w R)(a:∀v w',R v w'→R' v w'):BN P f args w R':=
 Calls.mono h fun _ _ ⟨v,he,b⟩=>⟨v,he,a _ _ b⟩
def Bb (P:Program) (f:FuncId):Prop:=(match P.funcs[f]? with|some fn=>fn.name !="runtime.NumGoroutine"&&fn.body.isSome|none=>false)=true
theorem Mo{f:FuncId}(h:Bb P f)(args:Array Value):(callFunc f args).run P w=.ok (.enter f args) w:=by
 unfold Bb at h;unfold callFunc;cases a:P.funcs[f]? with
 |none=>simp[a] at h
 |some fn=>
  simp only[a,Bool.and_eq_true,bne_iff_ne,ne_eq] at h;obtain⟨h1,h2⟩:=h;have c:fn.body.isNone=false:=by cases hb:fn.body<;>simp_all
  have b:¬fn.body=none:=by intro h;simp[h] at h2
  simp[program,Sem.run,a,h1,b]
theorem IX{f:Operand}{xs:Array Operand}{b:Array TypeId}{fn:FuncId}{first cap vs all:Array Value}{R:Value→World→Prop}(c:Bb P fn)(d:a.eval f=.func (.func fn) first cap)(e:xs.map a.eval=vs)(ha:first++vs++cap=all)
  (h:BN P fn all w R):Ce P ⟨dst,.call {callee:=.value f,args:=xs,argTypes:=b},ty,pos,B9,g⟩ a w R:=by
 have i:(execOp a.eval ⟨dst,.call {callee:=.value f,args:=xs,argTypes:=b},ty,pos,B9,g⟩).run P w=.ok (.enter fn all) w:=by
  simp only[execOp,resolve,d,e,Deferred.ofValue];simp only[Sem.run_bind,Sem.run_pure,Result.andThen_ok,invoke,Mo c,ha]
 unfold Ce;rw[i];exact h
theorem HO{f:Operand→Value}:(#[]:Array Operand).map f= #[]:=by simp
theorem Cj{f:Operand→Value}{a:Operand}{v0:Value}(h0:f a=v0): #[a].map f= #[v0]:=by simp[h0]
theorem Cf{f:Operand→Value}{a x1:Operand}{v0 v1:Value}(h0:f a=v0)(h1:f x1=v1): #[a,x1].map f= #[v0,v1]:=by simp[h0,h1]
theorem Ev{f:Operand→Value}{a x1 x2:Operand}{v0 v1 v2:Value}(h0:f a=v0)(h1:f x1=v1)(h2:f x2=v2): #[a,x1,x2].map f= #[v0,v1,v2]:=by simp[h0,h1,h2]
theorem XU{f:Operand→Value}{a x1 x2 b:Operand}{v0 v1 v2 v3:Value}(h0:f a=v0)(h1:f x1=v1)(h2:f x2=v2)(c:f b=v3): #[a,x1,x2,b].map f= #[v0,v1,v2,v3]:=by simp[h0,h1,h2,c]
theorem Vg{f:Operand→Value}:(#[]:Array (Nat×Operand)).map (fun(i,x)=>(i,f x))= #[]:=by simp
theorem HW{f:Operand→Value}{i0:Nat}{a:Operand}{v0:Value}(h0:f a=v0): #[(i0,a)].map (fun(i,x)=>(i,f x))= #[(i0,v0)]:=by simp[h0]
theorem He{f:Operand→Value}{i0 i1:Nat}{a x1:Operand}{v0 v1:Value}(h0:f a=v0)(h1:f x1=v1): #[(i0,a),(i1,x1)].map (fun(i,x)=>(i,f x))= #[(i0,v0),(i1,v1)]:=by simp[h0,h1]
theorem ZR{f:Operand→Value}{i0 i1 i2:Nat}{a x1 x2:Operand}{v0 v1 v2:Value}(h0:f a=v0)(h1:f x1=v1)(h2:f x2=v2): #[(i0,a),(i1,x1),(i2,x2)].map (fun(i,x)=>(i,f x))= #[(i0,v0),(i1,v1),(i2,v2)]:=by simp[h0,h1,h2]
theorem S3 {f:FuncId} {fn:Func} {c:Code} {args:Array Value} {N:Nat} {R:Value→World→Prop} (b:P.funcs[f]?=some fn) (hb:fn.body=some c) (d:fn.ntmps=N) (ha:args.size≤N)
  (h:∀a:Act,a.tmps=args++Array.replicate (N-args.size) undef→a.defers=[]→CC P X0 N c (bodyPost P fn (fun e w'=>∃v,e=.returned v∧R v w')) a [] w):BN P f args w R:=by
 refine calls_of_wp b hb ?_;rw[d];have:=h {tmps:=args++Array.replicate (N-args.size) undef,defers:=[]} rfl rfl;exact wpIn_wide.1 (this ⟨by simp;omega,rfl,fun _ g=>by cases g⟩)
theorem Lu{a:Act}{args:Array Value}{n i:Nat}{v:Value}(h:a.tmps=args++Array.replicate n undef)(hi:args[i]?=some v):sl a i=v:=by
 obtain⟨b,he⟩:=Array.getElem?_eq_some_iff.1 hi;unfold sl;rw[h,Array.getD_eq_getD_getElem?,Array.getElem?_append_left b,hi];rfl
theorem Aw {fn:Func} {N t:Nat} {a:Act} {l:Env} {v:Value} {R:Value→World→Prop} (b:fn.results= #[.tmp t]) (c:ev a l (.tmp t)=v) (h:R v w):LV X0 N (bodyPost P fn (fun e w'=>∃v,e=.returned v∧R v w')) .ret a l w:=fun s=>
 bodyPost_ret (results_tmp b _ _ _) (by rw[El,s.df]) ⟨_,rfl,by rw[show(B8 a l).tmps.getD t undef=v from ee s c];exact h⟩
theorem Dl{fn:Func}{N t u:Nat}{a:Act}{l:Env}{v v':Value}{R:Value→World→Prop}(b:fn.results= #[.tmp t,.tmp u])(c:ev a l (.tmp t)=v)(hu:ev a l (.tmp u)=v')(h:R (.tuple #[v,v']) w):
  LV X0 N (bodyPost P fn (fun e w'=>∃v,e=.returned v∧R v w')) .ret a l w:=fun s=>
 bodyPost_ret (results_tmp2 b _ _ _) (by rw[El,s.df]) ⟨_,rfl,by rw[show(B8 a l).tmps.getD t undef=v from ee s c,show(B8 a l).tmps.getD u undef=v' from ee s hu];exact h⟩
theorem Gt {fn:Func} {N p:Nat} {t:TypeId} {a:Act} {l:Env} {ad:Addr} {v:Value} {R:Value→World→Prop} (c:fn.results= #[.cell p t]) (d:ev a l (.tmp p)=.pointer (some ad)) (hl:(loadVar t ad).run P w=.ok v w) (h:R v w):
  LV X0 N (bodyPost P fn (fun e w'=>∃v,e=.returned v∧R v w')) .ret a l w:=fun s=>by
 have b:(B8 a l).tmps.getD p undef=.pointer (some ad):=ee s d;refine bodyPost_ret (v:=v) ?_ (by rw[El,s.df]) ⟨_,rfl,h⟩;simp only[Array.getD_eq_getD_getElem?] at b;simp[results,c,b,asAddr,hl]
theorem M7{fn:Func}{N:Nat}{a:Act}{l:Env}{R:Value→World→Prop}(b:fn.results= #[])(h:R (.tuple #[]) w):LV X0 N (bodyPost P fn (fun e w'=>∃v,e=.returned v∧R v w')) .normal a l w:=fun s=>
 bodyPost_end (results_none b _ _ _) (by rw[El,s.df]) ⟨_,rfl,h⟩
end
section
variable{P:Program}{a:Act}{w:World}{dst:Option Tmp}{ty:TypeId}{pos:String}{B9:Array Edge}{g:Option (Nat×Bool)}
def IN(l:List Int):List Value:=l.map (Value.int .i64)
def Fj(l:List Int):Value:=.agg (IN l).toArray
theorem VD(l:List Int)(k:Nat)(h:k<l.length):(IN l)[k]?=some (.int .i64 (l.getD k 0)):=by
 simp[IN,List.getElem?_eq_getElem h]
theorem T8(l:List Int)(k:Nat)(h:k<l.length):(IN l).toArray[k]?=some (.int .i64 (l.getD k 0)):=by
 simpa using VD l k h
theorem Dv{t a:TypeId}{n b o:Nat}{cs:Array Value}{l:List Value}(h:E8 P t n)(hb:Bk w b a cs)(hl:(cs.toList.drop o).take n=l)(c:l.length=n):(loadVar t ⟨b,o,none⟩).run P w=.ok (.agg l.toArray) w:=
 Mm h c fun j u hu=>by
  rw[hb.cell];subst hl;rw[List.getElem?_take] at hu;split at hu
  ·simpa using hu
  ·cases hu
theorem Al{f:Operand}{xs:Array Operand}{b:Array TypeId}{fn:FuncId}{vs:Array Value}{R:Value→World→Prop}(c:Bb P fn)(d:a.eval f=.func (.func fn) #[] #[])(e:xs.map a.eval=vs)
  (h:BN P fn vs w R):Ce P ⟨dst,.call {callee:=.value f,args:=xs,argTypes:=b},ty,pos,B9,g⟩ a w R:=
 IX c d e (by simp) h
theorem Gw {t e:TypeId} {x y:Operand} {b n k:Nat} {i:Int} {c:IntKind} (d:P.underlying t=some (.array n e)) (hs:(P.info? e).map (·.size)=some 1) (f:a.eval x=.pointer (some ⟨b,0,none⟩)) (h:a.eval y=.int c i)
  (hi:i=k) (j:k<n):Ce P ⟨dst,.indexAddr t x y,ty,pos,B9,g⟩ a w (fun u w'=>u=.pointer (some ⟨b,k,none⟩)∧w'=w):=by
 have:=PG (P:=P) (a:=a) (w:=w) (dst:=dst) (ty:=ty) (pos:=pos) (B9:=B9) (g:=g) d hs f h hi j;simpa using this
theorem Bp{t e:TypeId}{x y:Operand}{b o n c k:Nat}{A:Option Addr}{i:Int}{d:IntKind}(f:P.underlying t=some (.slice e))(hs:(P.info? e).map (·.size)=some 1)(h:a.eval x=.slice A n c)(j:A=some ⟨b,o,none⟩)(l:a.eval y=.int d i)
  (hi:i=k)(m:k<n):Ce P ⟨dst,.indexAddr t x y,ty,pos,B9,g⟩ a w (fun u w'=>u=.pointer (some ⟨b,o+k,none⟩)∧w'=w):=by
 subst j;have:=Nl (P:=P) (a:=a) (w:=w) (dst:=dst) (ty:=ty) (pos:=pos) (B9:=B9) (g:=g) f hs h l hi m;simpa using this
theorem Bu{t e:TypeId}{x y:Operand}{sz b o n c k:Nat}{A:Option Addr}{i:Int}{d:IntKind}(f:P.underlying t=some (.slice e))(hs:(P.info? e).map (·.size)=some sz)(h:a.eval x=.slice A n c)(j:A=some ⟨b,o,none⟩)(l:a.eval y=.int d i)
  (hi:i=k)(m:k<n):Ce P ⟨dst,.indexAddr t x y,ty,pos,B9,g⟩ a w (fun u w'=>u=.pointer (some ⟨b,o+k*sz,none⟩)∧w'=w):=by
 subst j;exact Nl f hs h l hi m
theorem Ae(b:Bool):b=true∨b=false:=by cases b<;>simp
theorem Be{l:List Value}(h:l.all (·.oneCell')=true):∀u∈l,u.oneCell'=true:=by simpa using h
theorem ec{a:Act}{v:Value}:a.eval (.const v)=v:=rfl
theorem es{a:Act}{t:Nat}{v:Value}(h:sl a t=v):a.eval (.tmp t)=v:=h
theorem IY{v:Value}{b c:Bool}(h:v=.bool b)(hb:b=c):v=.bool c:=by rw[h,hb]
theorem T9{fn:Func}{N:Nat}{a:Act}{l:Env}{R:Value→World→Prop}(b:fn.results= #[])(h:R (.tuple #[]) w):LV X0 N (bodyPost P fn (fun e w'=>∃v,e=.returned v∧R v w')) .ret a l w:=fun s=>
 bodyPost_ret (results_none b _ _ _) (by rw[El,s.df]) ⟨_,rfl,h⟩
def flat{α:Type}(enc:α→List Value)(xs:List α):List Value:=xs.flatMap enc
theorem PH{α:Type}(enc:α→List Value)(sz:Nat)(he:∀x,(enc x).length=sz):∀xs:List α,(flat enc xs).length=xs.length*sz
 |[]=>by simp[flat]
 |x::xs=>by
  have:=PH enc sz he xs;unfold flat at*;simp only[List.flatMap_cons,List.length_append,he,this,List.length_cons,Nat.add_mul,Nat.one_mul];omega
theorem Rd.elem {α:Type} {enc:α→List Value} {sz:Nat} (he:∀x,(enc x).length=sz) (a:0<sz) {w:World} {lo hi:Nat} {A:Option Addr} {xs:List α} (h:Rd w lo hi A (flat enc xs)) {k:Nat} (d:k<xs.length):
  ∃b o,A=some ⟨b,o,none⟩∧lo≤b∧b<hi∧∀j u,(flat enc xs)[j]?=some u→w.cell? ⟨b,o+j,none⟩=some u:=by
 have hl:=PH enc sz he xs;have c:0<(flat enc xs).length:=by rw[hl];exact Nat.mul_pos (by omega) a
 exact h.at_ (k:=0) (u:=(flat enc xs)[0]) (List.getElem?_eq_getElem c)
theorem Rd.CB{w:World}{lo hi:Nat}{A:Option Addr}{cs:List Value}(h:Rd w lo hi A cs){k:Nat}(a:k<cs.length):
  ∃b o,A=some ⟨b,o,none⟩∧lo≤b∧b<hi∧∀j u,cs[j]?=some u→w.cell? ⟨b,o+j,none⟩=some u:=h.at_ (List.getElem?_eq_getElem a)
end
def Fv(o:Oper)(j:Nat):Bool:=o.after.toList.any fun e=>Region.binds .any e&&Nat.beq e.on j
def Cn(L:List Oper)(j:Nat):Option Nat:=(L[j]?).bind (·.dst)
def isDst(L:List Oper)(s:Nat):Bool:=L.any fun o=>match o.dst with|some d=>Nat.beq d s|none=>false
def Ku:Nat→List Oper→Bool
 |_,[]=>true
 |k,o::L=>(o.after.toList.all fun e=> !Region.binds .any e||Nat.blt e.on k)&&Ku (k+1) L
def Mp(N:Nat):List Oper→Bool
 |[]=>true
 |o::L=>(match o.dst with|some d=>Nat.blt d N&& !isDst L d|none=>true)&&Mp N L
def Lv(L:List Oper):List Nat→Bool
 |[]=>true
 |[k]=>Nat.blt k L.length
 |k::j::r=>Nat.blt k j&&(match L[j]? with|some o=>Fv o k|none=>false)&&Lv L (j::r)
def M8(N:Nat)(L:List Oper)(sp:List Nat):Bool:=Ku 0 L&&Mp N L&&Lv L sp
theorem Mq{L:List Oper}{s:Nat}:isDst L s=true↔∃j,Cn L j=some s:=by
 unfold isDst Cn;rw[List.any_eq_true];constructor
 ·rintro⟨o,a,h⟩;obtain⟨j,hj,rfl⟩:=List.mem_iff_getElem.1 a;refine⟨j,?_⟩;rw[List.getElem?_eq_getElem hj];cases b:L[j].dst with
  |none=>simp[b] at h
  |some d=>simp only[b] at h;simp[b,Nat.eq_of_beq_eq_true h]
 ·rintro⟨j,hj⟩;cases a:L[j]? with
  |none=>simp[a] at hj
  |some o=>
   refine⟨o,List.mem_of_getElem? a,?_⟩;simp only[a,Option.bind_some] at hj;simp[hj]
theorem Kj{N:Nat}:∀{L:List Oper},Mp N L=true→∀i j d,Cn L i=some d→d<N∧(Cn L j=some d→i=j)
 |[],_,i,j,d,hi=>by simp[Cn] at hi
 |o::L,h,i,j,d,hi=>by
  simp only[Mp,Bool.and_eq_true] at h;obtain⟨h1,h2⟩:=h;have ih:=Kj h2;have b:∀d,o.dst=some d→d<N∧∀j,Cn L j≠some d:=by
   intro d c;rw[c] at h1;simp only[Bool.and_eq_true,Bool.not_eq_true'] at h1;refine⟨by simpa[Nat.blt_eq] using h1.1,fun j hj=>?_⟩;have:=Mq.2 ⟨j,hj⟩;rw[this] at h1;cases h1.2
  cases i with
  |zero=>
   have a:o.dst=some d:=by simpa[Cn] using hi
   refine⟨(b d a).1,fun hj=>?_⟩;cases j with
   |zero=>rfl
   |succ j=>exact absurd (by simpa[Cn] using hj) ((b d a).2 j)
  |succ i=>
   have a:Cn L i=some d:=by simpa[Cn] using hi
   cases j with
   |zero=>
    refine⟨(ih i i d a).1,fun hj=>?_⟩;exact absurd a ((b d (by simpa[Cn] using hj)).2 i)
   |succ j=>
    refine⟨(ih i j d a).1,fun hj=>?_⟩;rw[(ih i j d a).2 (by simpa[Cn] using hj)]
theorem Fw:∀{L:List Oper} {k:Nat},Ku k L=true→∀i o,L[i]?=some o→∀e∈o.after,Region.binds .any e=true→e.on<k+i
 |[],_,_,i,o,a=>by simp at a
 |o'::L,k,h,i,o,a=>by
  simp only[Ku,Bool.and_eq_true,List.all_eq_true] at h;cases i with
  |zero=>
   obtain rfl:o'=o:=by simpa using a
   intro e he hb;have:=h.1 e (by simpa using he);simp only[Bool.or_eq_true,Bool.not_eq_true',hb,Bool.true_eq_false,false_or] at this;simpa[Nat.blt_eq] using this
  |succ i=>
   intro e he hb;have:=Fw h.2 i o (by simpa using a) e he hb;omega
theorem F1{o:Oper}{j:Nat}:Fv o j=true↔∃e∈o.after,Region.binds .any e=true∧e.on=j:=by
 unfold Fv;rw[List.any_eq_true];constructor
 ·rintro⟨e,he,h⟩;simp only[Bool.and_eq_true] at h;exact⟨e,by simpa using he,h.1,Nat.eq_of_beq_eq_true h.2⟩
 ·rintro⟨e,he,hb,rfl⟩;exact⟨e,by simpa using he,by simp[hb]⟩
theorem Mr{L:List Oper}:∀{sp:List Nat},Lv L sp=true→
  (∀(i k j:Nat),sp[i]?=some k→sp[i+1]?=some j→∃o,L[j]?=some o∧Fv o k=true)∧(∀(i j k:Nat),sp[i]?=some k→sp[j]?=some k→i=j)∧(∀k∈sp,k<L.length)∧(∀k∈sp,∀(e:Nat),sp[0]?=some e→e≤k)
 |[],_=>⟨by simp,by simp,by simp,by simp⟩
 |[k],h=>by
  have n:k<L.length:=by simpa[Lv,Nat.blt_eq] using h
  refine⟨by simp,?_,by simpa using n,by simp⟩;intro i j x hi hj;cases i<;>cases j<;>simp_all
 |k::j::r,h=>by
  simp only[Lv,Bool.and_eq_true] at h;obtain⟨⟨h1,h2⟩,p⟩:=h;obtain⟨a1,a2,a3,a4⟩:=Mr p;have q:k<j:=by simpa[Nat.blt_eq] using h1
  refine⟨?_,?_,?_,?_⟩
  ·intro i x y a f;cases i with
   |zero=>
    obtain rfl:k=x:=by simpa using a
    obtain rfl:j=y:=by simpa using f
    cases g:L[j]? with
    |none=>simp[g] at h2
    |some o=>exact⟨o,rfl,by simpa[g] using h2⟩
   |succ i=>exact a1 i x y (by simpa using a) (by simpa using f)
  ·intro i b x a c;have d:∀m,(j::r)[m]?=some x→j≤x:=fun m hm=>a4 x (List.mem_of_getElem? hm) j (by simp);cases i with
   |zero=>
    obtain rfl:k=x:=by simpa using a
    cases b with
    |zero=>rfl
    |succ b=>have:=d b (by simpa using c);omega
   |succ i=>
    cases b with
    |zero=>
     obtain rfl:k=x:=by simpa using c
     have:=d i (by simpa using a);omega
    |succ b=>rw[a2 i b x (by simpa using a) (by simpa using c)]
  ·intro x a;rcases List.mem_cons.1 a with rfl|a
   ·have:=a3 j (by simp);omega
   ·exact a3 x a
  ·intro x a e l;obtain rfl:k=e:=by simpa using l
   rcases List.mem_cons.1 a with rfl|a
   ·exact Nat.le_refl _
   ·have:=a4 x a j (by simp);omega
section
variable(P:Program)(X:Ctx)(N:Nat)(L:List Oper)(a:Act)(l:Env)(S:Nat→World→World→Prop)(T:Nat→Act→World→Prop)(Φ:Nat→Value→World→Prop)(sp:List Nat)
structure HQ (k:Nat) (o:Oper) (a':Act) (w':World) (ph:Nat):Prop where
 out:∀s,isDst L s=false→sl a' s=lk (sl a s) l s
 later:∀(j d:Nat) (o':Oper),L[j]?=some o'→o'.dst=some d→Fv o' k=true→sl a' d=lk (sl a d) l d
 Vh:∀(j d:Nat),Fv o j=true→Cn L j=some d→Φ j (sl a' d) w'
 AV:T ph a' w'
 XV:∀(i:Nat),sp[i]?=some k→ph=i
 lat:∀(i j:Nat) (o':Oper),sp[i]?=some j→L[j]?=some o'→Fv o' k=true→ph≤i
def Hh(k:Nat)(o:Oper):Prop:=∀a' w' ph,HQ L a l T Φ sp k o a' w' ph→
 (Region.wanted o (yielded L.toArray a'.tmps)=true∧Ce P o a' w' (fun v BD=>Φ k v BD∧(if k∈sp then S k w' BD∧T (ph+1) (a'.put o.dst v) BD else Ext w' BD)))∨
 (Region.wanted o (yielded L.toArray a'.tmps)=false∧Φ k undef w'∧k∉sp)
def Ms:Nat→Nat→List Oper→Prop
 |0,_,_=>True
 |_+1,_,[]=>True
 |m+1,k,o::R=>Hh P L a l S T Φ sp k o∧Ms m (k+1) R
end
def LP(X:Ctx)(N:Nat)(a:Act)(Φ:Nat→Value→World→Prop)(b:Act→World→Prop)(G:Env→Prop)(w':World):Nat→Nat→List Oper→Env→Prop
 |0,_,_,l'=>b (B8 a l') w'→G l'
 |_+1,_,[],l'=>b (B8 a l') w'→G l'
 |m+1,k,o::R,l'=>match o.dst with
  |some d=>∀v,Φ k v w'→LP X N a Φ b G w' m (k+1) R ((d,v)::l')
  |none=>LP X N a Φ b G w' m (k+1) R l'
def okD (L:List Oper) (sp:List Nat) (D:Nat→List Nat):Bool:=
 (List.range (sp.length+1)).all fun ph=>(D ph).all fun s=>(List.range L.length).all fun i=>match Cn L i with
  |some d=> !Nat.beq d s||(sp.take ph).any fun k=>Nat.beq k i||(match L[k]? with|some o=>Fv o i|none=>false)
  |none=>true
theorem Ua{L:List Oper}{sp:List Nat}{D:Nat→List Nat}(h:okD L sp D=true){ph:Nat}(g:ph≤sp.length){i s:Nat}(hs:s∈D ph)(hi:Cn L i=some s):
  ∃m k,m<ph∧sp[m]?=some k∧(k=i∨∃o,L[k]?=some o∧Fv o i=true):=by
 have b:i<L.length:=by
  rcases Nat.lt_or_ge i L.length with h|h
  ·exact h
  ·simp[Cn,List.getElem?_eq_none h] at hi
 simp only[okD,List.all_eq_true,List.mem_range] at h;have:=h ph (by omega) s hs i b;rw[hi] at this;simp only[Nat.beq_refl,Bool.not_true,Bool.false_or,List.any_eq_true] at this;obtain⟨k,e,f⟩:=this;obtain⟨m,hm,c⟩:=List.mem_iff_getElem.1 e;have a:m<ph∧m<sp.length:=by simp at hm;omega
 refine⟨m,k,a.1,?_,?_⟩
 ·rw[←c,List.getElem_take,List.getElem?_eq_getElem a.2]
 ·rcases Bool.or_eq_true _ _▸f with h1|h1
  ·exact .inl (Nat.eq_of_beq_eq_true h1)
  ·cases d:L[k]? with
   |none=>simp[d] at h1
   |some o=>exact .inr ⟨o,rfl,by simpa[d] using h1⟩
section
variable{P:Program}{X:Ctx}{N:Nat}{L:List Oper}{a:Act}{l:Env}{S:Nat→World→World→Prop}{T:Nat→Act→World→Prop}{Φ:Nat→Value→World→Prop}{sp:List Nat}{Q:Exit→Act→World→Prop}{w:World}{k:Nat}{o:Oper}{R:List Oper}
structure Inv(listed:Array Bool)(a':Act)(w':World):Prop where
 PI:listed.size=L.length
 sz:a'.tmps.size=N
 df:a'.defers=X.ds
 out:∀s,(∀j,Cn L j=some s→listed.getD j false=false)→sl a' s=lk (sl a s) l s
 done:∀(j d:Nat),listed.getD j false=true→Cn L j=some d→Φ j (sl a' d) w'
 down:∀(j:Nat) (o:Oper),L[j]?=some o→listed.getD j false=true→∀e∈o.after,Region.binds .any e=true→listed.getD e.on false=true
 ph:∃ph,T ph a' w'∧ph≤sp.length∧∀(i k:Nat),sp[i]?=some k→(listed.getD k false=true↔i<ph)
theorem VF{x y:Act}(hs:x.tmps.size=y.tmps.size)(a:x.defers=y.defers)(h:∀s,sl x s=sl y s):x=y:=by
 obtain⟨t,d⟩:=x;obtain⟨b,d'⟩:=y;simp only at a hs;subst a;have:t=b:=by
  apply Array.ext hs;intro i h1 h2;have:=h i;unfold sl at this;simp only[Array.getD_eq_getD_getElem?,Array.getElem?_eq_getElem h1,Array.getElem?_eq_getElem h2,Option.getD_some] at this;exact this
 rw[this]
theorem M9(p:Act→World→Prop)(G:Env→Prop)(w':World)(a':Act)(b:p a' w')(c:a'.tmps.size=N)(e:a'.defers=X.ds){K:Prop}(t:∀l',St X N a l'→G l'→a'=B8 a l'→K):
  ∀(m:Nat) (R:List Oper) (k:Nat) (l':Env),St X N a l'→m≤R.length→(∀i d,Cn R i=some d→d<N)→(∀i j d,Cn R i=some d→Cn R j=some d→i=j)→LP X N a Φ p G w' m k R l'→
   (∀i d,i<m→Cn R i=some d→Φ (k+i) (sl a' d) w')→(∀s,(∀i,i<m→Cn R i≠some s)→sl a' s=lk (sl a s) l' s)→K
 |0,R,k,l',st,_,_,_,h,_,f=>by
  have:a'=B8 a l':=VF (by rw[Kr,st.sz,c]) (by rw[El,st.df,e]) (fun s=>by rw[KN st s];exact f s (fun i hi=>absurd hi (by omega)));exact t l' st (h (by rw[←this];exact b)) this
 |m+1,[],k,l',st,hm,_,_,h,_,f=>by simp at hm
 |m+1,o::R,k,l',st,hm,q,u,h,v,f=>by
  have g:∀i d,Cn R i=some d→d<N:=fun i d hi=>q (i+1) d (by simpa[Cn] using hi);have l:∀i j d,Cn R i=some d→Cn R j=some d→i=j:=fun i j d hi hj=>by
   have:=u (i+1) (j+1) d (by simpa[Cn] using hi) (by simpa[Cn] using hj);omega
  have r:∀i d,i<m→Cn R i=some d→Φ (k+1+i) (sl a' d) w':=fun i d w hi=>by
   have:=v (i+1) d (by omega) (by simpa[Cn] using hi);rw[show k+1+i=k+(i+1) from by omega];exact this
  simp only[LP] at h;cases n:o.dst with
  |none=>
   rw[n] at h;refine M9 p G w' a' b c e t m R (k+1) l' st (by simpa using hm) g l h r fun s hs=>f s fun i hi=>?_;cases i with
   |zero=>simp[Cn,n]
   |succ i=>simpa[Cn] using hs i (by omega)
  |some d=>
   rw[n] at h;have h0:Cn (o::R) 0=some d:=by simp[Cn,n]
   refine M9 p G w' a' b c e t m R (k+1) _ (st.cons (q 0 d h0) (sl a' d)) (by simpa using hm) g l (h _ (v 0 d (by omega) h0)) r fun s hs=>?_;simp only[lk];cases hb:Nat.beq d s with
   |true=>
    obtain rfl:d=s:=Nat.eq_of_beq_eq_true hb;rfl
   |false=>
    refine f s fun i hi=>?_;cases i with
    |zero=>simp[Cn,n,Nat.ne_of_beq_eq_false hb]
    |succ i=>simpa[Cn] using hs i (by omega)
theorem PJ:∀{m:Nat} {R:List Oper} {k:Nat},Ms P L a l S T Φ sp m k R→∀(i:Nat) (o:Oper),i<m→R[i]?=some o→Hh P L a l S T Φ sp (k+i) o
 |0,_,_,_,i,o,hi,_=>absurd hi (by omega)
 |_+1,[],_,_,i,o,_,b=>by simp at b
 |m+1,o'::R,k,h,i,o,hi,b=>by
  cases i with
  |zero=>
   obtain rfl:o'=o:=by simpa using b
   exact h.1
  |succ i=>
   have:=PJ h.2 i o (by omega) (by simpa using b);rw[Nat.add_assoc,Nat.add_comm 1 i] at this;exact this
variable(P) in
theorem BY:Ms P L a l S T Φ sp 0 k R:=trivial
theorem Aa{m:Nat}(h:Hh P L a l S T Φ sp k o)(b:Ms P L a l S T Φ sp m (k+1) R):Ms P L a l S T Φ sp (m+1) k (o::R):=⟨h,b⟩
theorem Nn{x:Act}{d:Nat}{v:Value}(h:d<x.tmps.size):sl (x.put (some d) v) d=v:=by
 unfold sl Act.put;simp[h]
theorem Mt{x:Act}{d s:Nat}{v:Value}(h:d≠s):sl (x.put (some d) v) s=sl x s:=by
 unfold sl Act.put;simp[Array.getElem?_setIfInBounds_ne h]
theorem Hj{listed:Array Bool}{i:Nat}(h:i<listed.size):(listed.setIfInBounds i true).getD i false=true:=by simp[h]
theorem Ec{listed:Array Bool}{i j:Nat}(h:i≠j):(listed.setIfInBounds i true).getD j false=listed.getD j false:=by
 simp[Array.getElem?_setIfInBounds_ne h]
inductive PK (L:List Oper):Nat→Nat→Prop
 |one {i j:Nat} {o:Oper}:L[i]?=some o→Fv o j=true→PK L i j
 |step {i d j:Nat} {o:Oper}:L[i]?=some o→Fv o d=true→PK L d j→PK L i j
theorem LQ{L:List Oper}{p:Nat→Prop}(a:∀d o,L[d]?=some o→p d→∀k,Fv o k=true→p k){i j:Nat}(h:PK L i j):(∀o,L[i]?=some o→∀k,Fv o k=true→p k)→p j:=by
 induction h with
 |one b c=>exact fun hi=>hi _ b _ c
 |step b c _ ih=>exact fun hi=>ih fun o' e k f=>a _ o' e (hi _ b _ c) k f
def Sw (acc:List Nat) (m:Nat) (e:Edge):Nat:=if Region.binds .any e then m|||(2^e.on|||acc.getD e.on 0) else m
def N2(acc:List Nat)(o:Oper):Nat:=o.after.toList.foldl (Sw acc) 0
def Pz:List Oper→List Nat→List Nat
 |[],acc=>acc
 |o::R,acc=>Pz R (acc++[N2 acc o])
def KU (L:List Oper) (m:Nat):Bool:=(List.range L.length).all fun i=>Nat.blt i m||(List.range i).all fun j=>(match L[i]? with|some o=>Fv o j|none=>false)||((Pz L []).getD i 0).testBit j
theorem Sx{acc:List Nat}{o:Oper}{j:Nat}(h:(N2 acc o).testBit j=true):∃d,Fv o d=true∧(d=j∨(acc.getD d 0).testBit j=true):=by
 have key:∀(es:List Edge) (m:Nat),(es.foldl (Sw acc) m).testBit j=true→m.testBit j=true∨∃e∈es,Region.binds .any e=true∧(e.on=j∨(acc.getD e.on 0).testBit j=true):=by
  intro es
  induction es with
  |nil=>intro m h;exact .inl h
  |cons e es ih=>
   intro m h;rw[List.foldl_cons] at h;rcases ih _ h with h1|⟨b,a,h1⟩
   ·unfold Sw at h1;split at h1
    ·rename_i hb
     rw[Nat.testBit_or,Nat.testBit_or,Bool.or_eq_true,Bool.or_eq_true,Nat.testBit_two_pow,decide_eq_true_eq] at h1;rcases h1 with h1|h1
     ·exact .inl h1
     ·exact .inr ⟨e,List.mem_cons_self ..,hb,h1⟩
    ·exact .inl h1
   ·exact .inr ⟨b,List.mem_cons_of_mem _ a,h1⟩
 rcases key _ _ h with h1|⟨e,he,hb,h1⟩
 ·simp at h1
 ·exact⟨e.on,F1.2 ⟨e,by simpa using he,hb,rfl⟩,h1⟩
theorem N3{L:List Oper}:∀(R:List Oper) (acc:List Nat),L.drop acc.length=R→(∀i j,(acc.getD i 0).testBit j=true→PK L i j)→∀i j,((Pz R acc).getD i 0).testBit j=true→PK L i j
 |[],acc,_,h=>h
 |o::R,acc,a,h=>by
  unfold Pz;have b:L[acc.length]?=some o:=by
   have:(L.drop acc.length)[0]?=some o:=by rw[a];rfl
   simpa using this
  refine N3 R _ (by rw[List.length_append,List.length_singleton,←List.tail_drop,a];rfl) fun i j hb=>?_;rcases Nat.lt_trichotomy i acc.length with hi|hi|hi
  ·rw[List.getD_eq_getElem?_getD,List.getElem?_append_left hi,←List.getD_eq_getElem?_getD] at hb;exact h i j hb
  ·subst hi;have:(acc++[N2 acc o]).getD acc.length 0=N2 acc o:=by simp
   rw[this] at hb;obtain⟨d,c,h1⟩:=Sx hb;rcases h1 with rfl|h1
   ·exact .one b c
   ·exact .step b c (h d j h1)
  ·have:(acc++[N2 acc o]).getD i 0=0:=by
    rw[List.getD_eq_getElem?_getD,List.getElem?_eq_none (by simp;omega)];rfl
   rw[this] at hb;simp at hb
theorem Ll{L:List Oper}{m:Nat}(h:KU L m=true){i:Nat}{o:Oper}(a:L[i]?=some o)(hi:m≤i):∀j,j<i→PK L i j:=by
 have b:i<L.length:=(List.getElem?_eq_some_iff.1 a).1;simp only[KU,List.all_eq_true,List.mem_range] at h;have h1:=h i b;rw[Bool.or_eq_true] at h1;rcases h1 with h1|h1
 ·have:i<m:=by simpa[Nat.blt_eq] using h1
  omega
 ·simp only[List.all_eq_true,List.mem_range,a,Bool.or_eq_true] at h1;exact fun j hj=>(h1 j hj).elim (fun h=>.one a h) fun h=>N3 L [] rfl (fun i j hb=>by simp at hb) i j h
theorem PL {m:Nat} (aM:KU L m=true) (c:Ku 0 L=true):∀(rest:List Oper) (j fuel:Nat) (listed:Array Bool) (a':Act) (w':World),L.drop j=rest→m≤j→rest.length≤fuel→listed.size=L.length→(∀i,i<L.length→(listed.getD i false=true↔i<j))→
  wpListIn (Wd X.ro) 0 P L.toArray Q rest a' w'→wpAnyIn (Wd X.ro) 0 P .any L.toArray Q fuel listed a' w':=by
 intro rest
 induction rest with
 |nil=>
  intro j fuel listed a' w' g hm s n hl h;have v:L.length≤j:=List.drop_eq_nil_iff.1 g;have t:Region.ready .any L.toArray listed=[]:=by
   rw[List.eq_nil_iff_forall_not_mem];intro i hi;obtain⟨h0,o,l,_⟩:=mem_ready.1 hi;have q:i<L.length:=by simpa using(Array.getElem?_eq_some_iff.1 l).1
   have h1:=(hl i q).2 (by omega);have f:i<listed.size:=by omega
   simp[f] at h0 h1;rw[h0] at h1;cases h1
  cases fuel with
  |zero=>exact⟨t,h⟩
  |succ fuel=>exact⟨fun _=>h,fun i hi=>by rw[t] at hi;cases hi⟩
 |cons o rest ih=>
  intro j fuel listed a' w' g hm s n hl h;have v:j<L.length:=by
   rcases Nat.lt_or_ge j L.length with h|h
   ·exact h
   ·rw[List.drop_of_length_le h] at g;cases g
  have l:L[j]?=some o:=by
   have:(L.drop j)[0]?=some o:=by rw[g];rfl
   simpa using this
  have y:L.drop (j+1)=rest:=by rw[←List.tail_drop,g];rfl
  cases fuel with
  |zero=>simp at s
  |succ fuel=>
   refine⟨fun t=>?_,fun i hi=>?_⟩
   ·exfalso;have hm:j∈Region.ready .any L.toArray listed:=mem_ready.2 ⟨by
     have:listed.getD j false=false:=by
      cases hb:listed.getD j false with
      |false=>rfl
      |true=>have:=(hl j v).1 hb;omega
     have aG:j<listed.size:=by omega
     simp[aG] at this⊢;exact this,o,by simpa using l,fun e he b=>by
      rcases Nat.lt_or_ge e.on L.length with q|aH
      ·refine(hl e.on q).2 ?_;exact Fw c j o l e he b|>fun h=>by omega
      ·have:=Fw c j o l e he b;omega⟩
    rw[t] at hm;cases hm
   ·obtain⟨h0,o',z,u⟩:=mem_ready.1 hi;have aI:i<L.length:=by simpa using(Array.getElem?_eq_some_iff.1 z).1
    have f:i<listed.size:=by omega
    have aA:listed.getD i false=false:=by simp[f] at h0⊢;exact h0
    have aH:j≤i:=by
     rcases Nat.lt_or_ge i j with h1|h1
     ·rw[(hl i aI).2 h1] at aA;cases aA
     ·exact h1
    have aJ:i=j:=by
     rcases Nat.lt_or_ge j i with h1|h1
     ·have r:L[i]?=some o':=by simpa using z
      have:=LQ (p:=fun x=>x<j) (fun d od aK aQ k aF=>by
       obtain⟨e,he,b,aB⟩:=F1.1 aF;have:=Fw c d od aK e he b;omega) (Ll aM r (by omega) j h1) (fun aN aC k aF=>by
       rw[r] at aC;obtain rfl:o'=aN:=by simpa using aC
       obtain⟨e,he,b,aB⟩:=F1.1 aF;have h2:=u e he b;rw[aB] at h2;have aR:=Fw c i o' r e he b;exact(hl k (by omega)).1 h2)
      omega
     ·omega
    subst aJ;unfold wpOpIn;have aL:L.toArray[i]?=some o:=by simpa using l
    simp only[aL];unfold wpListIn at h;have aD:∀x,x<L.length→((listed.setIfInBounds i true).getD x false=true↔x<i+1):=by
     intro x aO
     by_cases aE:i=x
     ·subst aE;simp only[Hj f,true_iff];omega
     ·rw[Ec aE,hl x aO];omega
    split
    ·rename_i hw
     rw[if_pos hw] at h;exact Oper.wpIn_mono (fun a w aP=>ih (i+1) fuel _ a w y (by omega) (by simpa using s) (by simpa using n) aD aP) h
    ·rename_i hw
     rw[if_neg hw] at h;exact⟨h.1,ih (i+1) fuel _ _ _ y (by omega) (by simpa using s) (by simpa using n) aD h.2⟩
theorem Ub{m:Nat}(bI:m≤L.length)(bB:KU L m=true)(bF:(sp.all fun k=>Nat.blt k m)=true)(aW:∀k w w',Ext w w'→S k w w')(b8:∀k j v w w',j≠k→(∀o,L[j]?=some o→Fv o k=false)→Φ j v w→S k w w'→Φ j v w')(D:Nat→List Nat)(b9:okD L sp D=true)(cA:∀k x w y w',T k x w→Ext w w'→(∀s,s∈D k→sl y s=sl x s)→T k y w')(aK:M8 N L sp=true)(bJ:St X N a l)
  (bK:Ms P L a l S T Φ sp m 0 L)(bG:∀w',LP X N a Φ (T sp.length) (fun l'=>WL P X N L.toArray Q (L.drop m) a l' w') w' m 0 L l):
  ∀(fuel:Nat) (listed:Array Bool) (a':Act) (w':World),listed.toList.count false≤fuel→Inv (X:=X) (N:=N) (L:=L) (a:=a) (l:=l) (T:=T) (Φ:=Φ) (sp:=sp) listed a' w'→(∀j,m≤j→listed.getD j false=false)→
   wpAnyIn (Wd X.ro) 0 P .any L.toArray Q fuel listed a' w':=by
 simp only[M8,Bool.and_eq_true] at aK;obtain⟨⟨bC,bL⟩,bM⟩:=aK;obtain⟨bN,cH,cI,_⟩:=Mr bM;have aC:=Kj bL
 
 have fin:∀(fuel:Nat) (listed:Array Bool) (a':Act) (w':World),listed.toList.count false≤fuel→Inv (X:=X) (N:=N) (L:=L) (a:=a) (l:=l) (T:=T) (Φ:=Φ) (sp:=sp) listed a' w'→(∀j,m≤j→listed.getD j false=false)→(∀j,j<m→listed.getD j false=true)→wpAnyIn (Wd X.ro) 0 P .any L.toArray Q fuel listed a' w':=by
  intro fuel listed a' w' aX b n Lc;obtain⟨ph,aR,hle,u⟩:=b.ph;have aY:ph=sp.length:=by
   rcases Nat.lt_or_ge ph sp.length with r|aZ
   ·have bO:sp[ph]<m:=by
     have:=List.all_eq_true.1 bF sp[ph] (List.getElem_mem r);simpa[Nat.blt_eq] using this
    have a8:=(u ph sp[ph] (List.getElem?_eq_getElem r)).1 (Lc _ bO);omega
   ·omega
  subst aY;have bP:wpListIn (Wd X.ro) 0 P L.toArray Q (L.drop m) a' w':=by
   refine M9 (T sp.length) (fun l'=>WL P X N L.toArray Q (L.drop m) a l' w') w' a' aR b.sz b.df (fun l' st cB e=>by rw[e];exact cB st) m L 0 l bJ bI (fun i d hi=>(aC i i d hi).1) (fun i j d hi hj=>(aC i j d hi).2 hj) (bG w') (fun i d a0 hi=>?_) (fun s hs=>?_)
   ·rw[Nat.zero_add];exact b.done i d (Lc i a0) hi
   ·refine b.out s fun j hj=>?_;rcases Nat.lt_or_ge j m with h|h
    ·exact absurd hj (hs j h)
    ·exact n j h
  refine PL bB bC (L.drop m) m fuel listed a' w' rfl (Nat.le_refl _) ?_ b.PI (fun i hi=>?_) bP
  ·
   refine Nat.le_trans ?_ aX;have cJ:listed.toList.length=L.length:=by simpa using b.PI
   have e:listed.toList.drop m=List.replicate (L.length-m) false:=by
    apply List.ext_getElem
    ·simp[b.PI]
    ·intro i h1 h2;simp at h1;have:=n (m+i) (by omega);rw[Array.getD_eq_getD_getElem?,Array.getElem?_eq_getElem (by omega)] at this;simpa using this
   have h2:(listed.toList.drop m).count false≤listed.toList.count false:=(List.drop_sublist m listed.toList).count_le false;rw[e,List.count_replicate_self] at h2;simpa using h2
  ·rcases Nat.lt_or_ge i m with h|h
   ·simp[Lc i h,h]
   ·simp only[n i h];constructor
    ·intro bQ;cases bQ
    ·intro bQ;omega
 intro fuel
 induction fuel with
 |zero=>
  intro listed a' w' aX b n;refine fin 0 listed a' w' aX b n fun j hj=>?_;have aM:j<listed.size:=by rw[b.PI];omega
  cases hb:listed[j] with
  |true=>simp[aM,hb]
  |false=>
   have:false∈listed.toList:=by rw[←hb];simp
   have:=List.count_pos_iff.2 this;omega
 |succ fuel ih=>
  intro listed a' w' aX b n
  by_cases aS:∀j,j<m→listed.getD j false=true
  ·exact fin (fuel+1) listed a' w' aX b n aS
  have hex:∃j,j<m∧listed.getD j false=false:=by
   false_or_by_contra
   rename_i bR
   refine aS fun j hj=>?_;cases hb:listed.getD j false with
   |true=>rfl
   |false=>exact absurd ⟨j,hj,hb⟩ bR
  constructor
  ·intro aD;exfalso;obtain⟨j,hj,hb⟩:=hex;refine absurd hb ?_;rw[Bool.not_eq_false];clear hb
   induction j using Nat.strongRecOn with
   |_ j bS=>
    cases hb:listed.getD j false with
    |true=>rfl
    |false=>
     exfalso;have aM:j<listed.size:=by rw[b.PI];omega
     have hm:j∈Region.ready .any L.toArray listed:=mem_ready.2 ⟨by simp[aM] at hb⊢;exact hb,L[j],by simp,fun e he c=>by
      have h1:=Fw bC j L[j] (List.getElem?_eq_getElem (by omega)) e he c;exact bS e.on (by omega) (by omega)⟩
     rw[aD] at hm;cases hm
  ·intro i hi;obtain⟨h0,o,bT,aB⟩:=mem_ready.1 hi;have z:L[i]?=some o:=by simpa using bT
   have bU:i<L.length:=(List.getElem?_eq_some_iff.1 z).1;have aI:i<listed.size:=by rw[b.PI];exact bU
   have aA:listed.getD i false=false:=by simp[aI] at h0⊢;exact h0
   have a0:i<m:=by
    rcases Nat.lt_or_ge i m with h|h
    ·exact h
    ·obtain⟨j,hj,hb⟩:=hex;have:=LQ (p:=fun x=>listed.getD x false=true) (fun d od bV aJ k aK=>by
      obtain⟨e,he,c,g⟩:=F1.1 aK;have:=b.down d od bV aJ e he c
      rwa[g] at this) (Ll bB z h j (by omega)) (fun cC bD k aK=>by
      rw[z] at bD;obtain rfl:o=cC:=by simpa using bD
      obtain⟨e,he,c,g⟩:=F1.1 aK;have:=aB e he c
      rwa[g] at this)
     rw[hb] at this;cases this
   obtain⟨ph,aR,hle,u⟩:=b.ph;have aL:∀q,sp[q]?=some i→ph=q:=by
    intro q aP;have aZ:¬q<ph:=fun r=>by
     have:=(u q i aP).2 r;rw[aA] at this;cases this
    cases q with
    |zero=>omega
    |succ m=>
     have hm:m<sp.length:=by
      have:=(List.getElem?_eq_some_iff.1 aP).1;omega
     obtain⟨bH,aT,bW⟩:=bN m sp[m] i (List.getElem?_eq_getElem hm) aP;rw[z] at aT;obtain rfl:o=bH:=by simpa using aT
     obtain⟨e,he,c,g⟩:=F1.1 bW;have:=aB e he c;rw[g] at this;have:=(u m sp[m] (List.getElem?_eq_getElem hm)).1 this;omega
   have a9:HQ L a l T Φ sp i o a' w' ph:=by
    refine⟨fun s hs=>b.out s fun j hj=>?_,fun j d o' hj aQ aE=>?_,fun j d hj aF=>?_,aR,aL,fun q j o' bX hj aE=>?_⟩
    rotate_left 3
    ·rcases Nat.lt_or_ge q ph with r|aZ
     ·have aU:=(u q j bX).2 r;obtain⟨e,he,c,g⟩:=F1.1 aE;have:=b.down j o' hj aU e he c;rw[g,aA] at this;cases this
     ·exact aZ
    ·have:=Mq.2 ⟨j,hj⟩;rw[hs] at this;cases this
    ·have bY:Cn L j=some d:=by simp[Cn,hj,aQ]
     refine b.out d fun cD aM=>?_;obtain rfl:=(aC j cD d bY).2 aM;cases hb:listed.getD j false with
     |false=>rfl
     |true=>
      obtain⟨e,he,c,g⟩:=F1.1 aE;have:=b.down j o' hj hb e he c;rw[g,aA] at this;cases this
    ·obtain⟨e,he,c,g⟩:=F1.1 hj;have:=aB e he c;rw[g] at this;exact b.done j d this aF
   
   have step:∀v BD,Φ i v BD→S i w' BD→(∃aG,T aG (a'.put o.dst v) BD∧aG≤sp.length∧∀(q k:Nat),sp[q]?=some k→((listed.setIfInBounds i true).getD k false=true↔q<aG))→
     wpAnyIn (Wd X.ro) 0 P .any L.toArray Q fuel (listed.setIfInBounds i true) (a'.put o.dst v) BD:=by
    intro v BD bA cE aY;have aJ:Cn L i=o.dst:=by simp[Cn,z]
    refine ih _ _ _ ?_ ?_ (fun j hj=>by rw[Ec (by omega)];exact n j hj)
    ·have r:i<listed.toList.length:=by simpa using aI
     have a2:listed.toList[i]=false:=by
      simp[aI] at aA;simpa using aA
     have bZ:(listed.setIfInBounds i true).toList=listed.toList.set i true:=by simp
     rw[bZ,List.count_set r,a2];have h1:0<listed.toList.count false:=List.count_pos_iff.2 (by rw[←a2];exact List.getElem_mem r);have cF:(if (false==false)=true then 1 else 0)=1:=rfl;have cG:(if (true==false)=true then 1 else 0)=0:=rfl;rw[cF,cG];omega
    ·have a3:∀s,(∀d,o.dst=some d→d≠s)→sl (a'.put o.dst v) s=sl a' s:=by
      intro s hs;cases aQ:o.dst with
      |none=>rfl
      |some d=>exact Mt (hs d aQ)
     refine⟨by simp[b.PI],?_,?_,?_,?_,?_,aY⟩
     ·cases o.dst<;>simp[Act.put,b.sz]
     ·cases o.dst<;>simp[Act.put,b.df]
     ·intro s hs;rw[a3 s (fun d aQ a4=>by
       subst a4;have:=hs i (by rw[aJ,aQ]);rw[Hj aI] at this;cases this)]
      refine b.out s fun j hj=>?_;have:=hs j hj
      by_cases t:i=j
      ·subst t;exact aA
      ·rwa[Ec t] at this
     ·intro j d hj aF
      by_cases t:i=j
      ·subst t;rw[aJ] at aF;have r:d<a'.tmps.size:=by rw[b.sz];exact(aC i i d (by rw[aJ,aF])).1
       rw[aF,Nn r];exact bA
      ·rw[Ec t] at hj;have h1:=b8 i j _ _ _ (Ne.symm t) (fun a5 b4=>by
        cases a6:Fv a5 i with
        |false=>rfl
        |true=>
         obtain⟨e,he,c,g⟩:=F1.1 a6;have:=b.down j a5 b4 hj e he c;rw[g,aA] at this;cases this) (b.done j d hj aF) cE
       have:sl (a'.put o.dst v) d=sl a' d:=by
        refine a3 d fun d' b5 a6=>?_;subst a6;exact t ((aC i j d' (by rw[aJ,b5])).2 aF)
       rw[this];exact h1
     ·intro j a5 hj aU e he c
      by_cases bE:i=e.on
      ·rw[←bE];exact Hj aI
      ·rw[Ec bE]
       by_cases t:i=j
       ·subst t;rw[z] at hj;obtain rfl:o=a5:=by simpa using hj
        exact aB e he c
       ·rw[Ec t] at aU;exact b.down j a5 hj aU e he c
   have a7:∀v BD,Ext w' BD→i∉sp→∃aG,T aG (a'.put o.dst v) BD∧aG≤sp.length∧∀(q k:Nat),sp[q]?=some k→((listed.setIfInBounds i true).getD k false=true↔q<aG):=by
    intro v BD a8 aN;refine⟨ph,cA _ _ _ _ _ aR a8 (fun s hs=>?_),hle,fun q k aH=>?_⟩
    ·cases aQ:o.dst with
     |none=>rfl
     |some d=>
      refine Mt fun a4=>?_;subst a4;obtain⟨m,k,hm,aK,b6⟩:=Ua b9 hle hs (i:=i) (by simp[Cn,z,aQ]);have b7:=(u m k aK).2 hm;rcases b6 with rfl|⟨bH,aT,aE⟩
      ·exact aN (List.mem_of_getElem? aK)
      ·obtain⟨e,he,c,g⟩:=F1.1 aE;have:=b.down k bH aT b7 e he c;rw[g,aA] at this;cases this
    rw[Ec (fun aO=>aN (by rw[aO];exact List.mem_of_getElem? aH))];exact u q k aH
   unfold wpOpIn;simp only[bT];rcases PJ bK i o a0 z a' w' ph (by rw[Nat.zero_add];exact a9) with⟨hw,a8⟩|⟨hw,hu,aN⟩
   ·rw[if_pos hw];refine(a8.wp fun v BD aD=>?_);rw[Nat.zero_add] at aD;obtain⟨bA,aD⟩:=aD
    by_cases hs:i∈sp
    ·rw[if_pos hs] at aD;refine step v BD bA aD.1 ⟨ph+1,aD.2,?_,fun q k aH=>?_⟩
     ·obtain⟨m,hm,aV⟩:=List.mem_iff_getElem.1 hs;have:=aL m (by rw[List.getElem?_eq_getElem hm,aV]);omega
     ·by_cases aO:i=k
      ·subst aO;have:=aL q aH;simp only[Hj aI,true_iff];omega
      ·rw[Ec aO,u q k aH];have cK:q≠ph:=by
        intro e;obtain⟨m,hm,aV⟩:=List.mem_iff_getElem.1 hs;have h1:=aL m (by rw[List.getElem?_eq_getElem hm,aV]);rw[e,h1,List.getElem?_eq_getElem hm,aV] at aH;exact aO (by simpa using aH)
       omega
    ·rw[if_neg hs] at aD;exact step v BD bA (aW _ _ _ aD) (a7 v BD aD hs)
   ·rw[if_neg (by rw[hw];simp)];rw[Nat.zero_add] at hu aN;exact⟨fun f _=>NY X.ro f,step undef w' hu (aW _ _ _ (Ext.refl _)) (a7 undef w' (Ext.refl _) aN)⟩
structure No (S:World→World→Prop) where
 p:Value→World→Prop
 st:∀v w w',p v w→S w w'→p v w'
def Kc {S:World→World→Prop} (c:Value):No S:=⟨fun v _=>v=c,fun _ _ _ h _=>h⟩
def Kt{S:World→World→Prop}:No S:=⟨fun _ _=>True,fun _ _ _ h _=>h⟩
def LR{S:World→World→Prop}(a:List (No S))(j:Nat):Value→World→Prop:=(a.getD j Kt).p
theorem CT(w:World):Ext w w.drew:=⟨rfl,rfl,rfl,Nat.le_refl _,fun _ _ _=>rfl⟩
theorem Ro(L:List Oper)(sp:List Nat):okD L sp (fun _=>[])=true:=by simp[okD]
def PN (L:List Oper) (k:Nat) (w w':World):Nat→List (No Ext)→Prop
 |_,[]=>True
 |i,x::xs=>(i≠k→(∀o,L[i]?=some o→Fv o k=false)→∀v,x.p v w→x.p v w')∧PN L k w w' (i+1) xs
def Vi(L:List Oper)(a:List (No Ext))(k:Nat)(w w':World):Prop:=∀j,j≠k→(∀o,L[j]?=some o→Fv o k=false)→∀v,LR a j v w→LR a j v w'
theorem XW{a:List (No Ext)}{k:Nat}{w w':World}(h:PN L k w w' 0 a):Vi L a k w w':=by
 have key:∀(a:List (No Ext)) (i:Nat),PN L k w w' i a→∀j,i+j≠k→(∀o,L[i+j]?=some o→Fv o k=false)→∀v,(a.getD j Kt).p v w→(a.getD j Kt).p v w':=by
  intro a
  induction a with
  |nil=>intro i _ j _ _ v h;simpa[Kt] using h
  |cons x xs ih=>
   intro i h j hj b v c;cases j with
   |zero=>exact h.1 hj b v c
   |succ j=>exact ih (i+1) h.2 j (by omega) (by rw[show i+1+j=i+(j+1) by omega];exact b) v c
 exact fun j hj b v c=>key a 0 h j (by omega) (by rw[Nat.zero_add];exact b) v c
theorem Rp {id:Nat} (m:Nat) (T:Nat→Act→World→Prop) (D:Nat→List Nat) (sp:List Nat) (c:List (No Ext)) (hm:P.follows .mixedOrders=true) (u:M8 N L sp=true) (b:(Nat.ble m L.length&&KU L m&&(sp.all fun k=>Nat.blt k m))=true)
  (z:okD L sp D=true) (aA:∀k x w y w',T k x w→Ext w w'→(∀s,s∈D k→sl y s=sl x s)→T k y w') (q:St X N a l→T 0 (B8 a l) w.drew)
  (r:Ms P L a l (Vi L c) T (LR c) sp m 0 L) (n:∀w',LP X N a (LR c) (T sp.length) (fun l'=>WL P X N L.toArray Q (L.drop m) a l' w') w' m 0 L l):CC P X N (.region id L.toArray true) Q a l w:=fun st=>
 wpIn_region_any hm (by
  simp only[Bool.and_eq_true] at b;have aB:Inv (X:=X) (N:=N) (L:=L) (a:=a) (l:=l) (T:=T) (Φ:=LR c) (sp:=sp) (Array.replicate L.length false) (B8 a l) w.drew:=by
   have p:∀j,(Array.replicate L.length false).getD j false=false:=by
    intro j;rw[Array.getD_eq_getD_getElem?];rcases Nat.lt_or_ge j L.length with h|h
    ·simp[h]
    ·simp[h]
   refine⟨by simp,by rw[Kr,st.sz],by rw[El,st.df],fun s _=>KN st s,fun j d h=>?_,fun j o _ h=>?_,⟨0,q st,Nat.zero_le _,fun i k _=>?_⟩⟩
   ·rw[p j] at h;cases h
   ·rw[p j] at h;cases h
   ·rw[p k];simp
  have f:=Ub (m:=m) (by simpa[Nat.ble_eq] using b.1.1) b.1.2 b.2 (S:=Vi L c) (fun _ w w' g j _ _ v=>fun h=>(c.getD j Kt).st v w w' h g) (fun k j v w w' t aC h hs=>hs j t aC v h) D z aA u st r n L.length (Array.replicate L.length false) (B8 a l) w.drew (by
   refine Nat.le_trans (List.count_le_length ..) (by simp)) aB (fun j _=>by
    rw[Array.getD_eq_getD_getElem?];rcases Nat.lt_or_ge j L.length with h|h
    ·simp[h]
    ·simp[h])
  have e:L.toArray.size=L.length:=by simp
  rw[e];exact f)
theorem BZ {id:Nat} (m:Nat) (b:List (No Ext)) (hm:P.follows .mixedOrders=true) (f:M8 N L []=true) (d:(Nat.ble m L.length&&KU L m&&true)=true)
  (e:Ms P L a l (Vi L b) (fun _ _ w'=>Ext w w') (LR b) [] m 0 L) (c:∀w',LP X N a (LR b) (fun _ w'=>Ext w w') (fun l'=>WL P X N L.toArray Q (L.drop m) a l' w') w' m 0 L l):CC P X N (.region id L.toArray true) Q a l w:=
 Rp m (fun _ _ w'=>Ext w w') (fun _=>[]) [] b hm f d (Ro L []) (fun _ _ _ _ _ h g _=>Ext.trans h g) (fun _=>CT w) e c
theorem Ij{k:Nat}{o:Oper}(c:o.guard=none)(hs:sp.contains k=false)(h:∀a' w' ph,HQ L a l T Φ sp k o a' w' ph→Ce P o a' w' (fun v BD=>Φ k v BD∧Ext w' BD)):Hh P L a l S T Φ sp k o:=fun a' w' ph hK=>
 .inl ⟨by unfold Region.wanted;rw[c],(h a' w' ph hK).mono fun v BD b=>⟨b.1,by
  have:k∉sp:=by simpa using hs
  rw[if_neg this];exact b.2⟩⟩
theorem XX{k:Nat}{o:Oper}{c:Value}(b:o.guard=none)(hs:sp.contains k=false)(d:∀w,Φ k c w)(h:∀a' w' ph,HQ L a l T Φ sp k o a' w' ph→Ce P o a' w' (fun u BD=>u=c∧BD=w')):Hh P L a l S T Φ sp k o:=
 Ij b hs fun a' w' ph hK=>(h a' w' ph hK).mono (by rintro _ _ ⟨rfl,rfl⟩;exact⟨d _,Ext.refl _⟩)
theorem VG{k:Nat}{o:Oper}(c:o.guard=none)(hs:sp.contains k=true)(h:∀a' w' ph,HQ L a l T Φ sp k o a' w' ph→Ce P o a' w' (fun v BD=>Φ k v BD∧S k w' BD∧T (ph+1) (a'.put o.dst v) BD)):Hh P L a l S T Φ sp k o:=fun a' w' ph hK=>
 .inl ⟨by unfold Region.wanted;rw[c],(h a' w' ph hK).mono fun v BD b=>⟨b.1,by
  have:k∈sp:=by simpa using hs
  rw[if_pos this];exact b.2⟩⟩
theorem Np{a':Act}{j d:Nat}{b:Bool}(hj:Cn L j=some d)(a:sl a' d=.bool b):yielded L.toArray a'.tmps j=some b:=by
 unfold yielded;unfold Cn at hj;have c:((L.toArray)[j]?).bind (·.dst)=some d:=by simpa using hj
 simp only[c,Option.bind_some];unfold sl at a;rw[Array.getD_eq_getD_getElem?] at a;cases e:a'.tmps[d]? with
 |none=>rw[e] at a;simp[undef] at a
 |some u=>rw[e] at a;simp at a;rw[a]
theorem J1{k j d:Nat}{o:Oper}{b:Bool}(e:o.guard=some (j,b))(hj:Cn L j=some d)(hs:sp.contains k=false)(f:∀a' w' ph,HQ L a l T Φ sp k o a' w' ph→sl a' d=.bool b)
  (h:∀a' w' ph,HQ L a l T Φ sp k o a' w' ph→Ce P o a' w' (fun v BD=>Φ k v BD∧Ext w' BD)):Hh P L a l S T Φ sp k o:=fun a' w' ph hK=>
 .inl ⟨by unfold Region.wanted;rw[e];simp[Np hj (f a' w' ph hK)],(h a' w' ph hK).mono fun v BD c=>⟨c.1,by
  have:k∉sp:=by simpa using hs
  rw[if_neg this];exact c.2⟩⟩
theorem VH{k j d:Nat}{o:Oper}{b:Bool}{c:Value}(e:o.guard=some (j,b))(hj:Cn L j=some d)(hs:sp.contains k=false)(f:∀w,Φ k c w)(g:∀a' w' ph,HQ L a l T Φ sp k o a' w' ph→sl a' d=.bool b)
  (h:∀a' w' ph,HQ L a l T Φ sp k o a' w' ph→Ce P o a' w' (fun u BD=>u=c∧BD=w')):Hh P L a l S T Φ sp k o:=
 J1 e hj hs g fun a' w' ph hK=>(h a' w' ph hK).mono (by rintro _ _ ⟨rfl,rfl⟩;exact⟨f _,Ext.refl _⟩)
theorem Rq{k j d:Nat}{o:Oper}{b c:Bool}(e:o.guard=some (j,b))(hj:Cn L j=some d)(hs:sp.contains k=false)(f:c≠b)(g:∀a' w' ph,HQ L a l T Φ sp k o a' w' ph→sl a' d=.bool c)(h:∀w,Φ k undef w):Hh P L a l S T Φ sp k o:=fun a' w' ph hK=>
 .inr ⟨by unfold Region.wanted;rw[e];simp[Np hj (g a' w' ph hK),f],h _,by simpa using hs⟩
theorem Pw{a':Act}{j d:Nat}(hj:Cn L j=some d)(a:sl a' d=undef):yielded L.toArray a'.tmps j=none:=by
 unfold yielded;unfold Cn at hj;have b:((L.toArray)[j]?).bind (·.dst)=some d:=by simpa using hj
 simp only[b,Option.bind_some];unfold sl at a;rw[Array.getD_eq_getD_getElem?] at a;cases c:a'.tmps[d]? with
 |none=>rfl
 |some u=>rw[c] at a;simp at a;rw[a];rfl
theorem S4{k j d:Nat}{o:Oper}{b:Bool}(c:o.guard=some (j,b))(hj:Cn L j=some d)(hs:sp.contains k=false)(e:∀a' w' ph,HQ L a l T Φ sp k o a' w' ph→sl a' d=undef)(f:∀w,Φ k undef w):Hh P L a l S T Φ sp k o:=fun a' w' ph hK=>
 .inr ⟨by unfold Region.wanted;rw[c];simp[Pw hj (e a' w' ph hK)],f _,by simpa using hs⟩
end
def T2 (w:World) (r:Nat) (M:World→Prop):Nat→World→Prop
 |0,w'=>Ext w w'
 |_+1,w'=>Jl r w w'∧M w'
theorem Sy{a b:World}{r:Nat}(h:Ext a b):Jl r a b:=⟨h.os,h.tape,h.output,h.size,fun k c _=>h.block k c (by simp)⟩
theorem PO{w w':World}{r ph:Nat}{M:World→Prop}(h:T2 w r M ph w'):Jl r w w':=by
 cases ph with
 |zero=>exact Sy h
 |succ=>exact h.1
theorem Bk.t2{w w':World}{r ph b:Nat}{t:TypeId}{cs:Array Value}{M:World→Prop}(h:Bk w b t cs)(g:T2 w r M ph w')(a:b≠r):Bk w' b t cs:=h.PE (PO g) a
theorem Rd.t2{w w':World}{r ph lo hi:Nat}{A:Option Addr}{cs:List Value}{M:World→Prop}(h:Rd w lo hi A cs)(g:T2 w r M ph w')(a:r<lo∨hi≤r):Rd w' lo hi A cs:=h.PE (PO g) a
abbrev I(n:Int):Value:=.int .i64 n
abbrev pt(b o:Nat):Value:=.pointer (some ⟨b,o,none⟩)
section
variable{P:Program}{X:Ctx}{N:Nat}{ops:Array Oper}{Q:Exit→Act→World→Prop}{rest:List Oper}{a:Act}{l:Env}{w:World}{op:Op}{ty:TypeId}{pos:String}{B9:Array Edge}{d:Nat}
theorem wd{v:Value}{w':World}(b:Nat.blt d N=true)(c:St X N a l→Ce P ⟨some d,op,ty,pos,B9,none⟩ (B8 a l) w (fun u BD=>u=v∧BD=w'))(e:WL P X N ops Q rest a ((d,v)::l) w'):WL P X N ops Q (⟨some d,op,ty,pos,B9,none⟩::rest) a l w:=
 XT rfl rfl (by simpa[Nat.blt_eq] using b) c e
theorem wm{x:Operand}{v:Value}(b:Nat.blt d N=true)(c:ev a l x=v)(e:WL P X N ops Q rest a ((d,v)::l) w):WL P X N ops Q (⟨some d,.move x,ty,pos,B9,none⟩::rest) a l w:=
 wd b (fun st=>AA (ee st c)) e
theorem wa{x:Operand}{v:Value}(b:Nat.blt d N=true)(c:ev a l x=v)(e:WL P X N ops Q rest a ((d,v)::l) w):WL P X N ops Q (⟨some d,.assign x,ty,pos,B9,none⟩::rest) a l w:=
 wd b (fun st=>J0 (ee st c)) e
theorem we{R:Value→World→Prop}(b:Nat.blt d N=true)(c:St X N a l→Ce P ⟨some d,op,ty,pos,B9,none⟩ (B8 a l) w R)(e:∀v w',R v w'→WL P X N ops Q rest a ((d,v)::l) w'):WL P X N ops Q (⟨some d,op,ty,pos,B9,none⟩::rest) a l w:=
 Vd rfl rfl (by simpa[Nat.blt_eq] using b) c e
end
section
variable{P:Program}{a:Act}{w:World}{dst:Option Tmp}{ty:TypeId}{pos:String}{B9:Array Edge}{g:Option (Nat×Bool)}
theorem VI{f:Operand}{xs:Array Operand}{b:Array TypeId}{l:Nat}{vs:Array Value}{R:Value→World→Prop}(c:a.eval f=.func (.yield l) #[] #[])(d:xs.map a.eval=vs)
  (h:YieldAt Fence.wide 0 P l vs w (fun e w'=>∃v,e=.returned v∧R v w')):Ce P ⟨dst,.call {callee:=.value f,args:=xs,argTypes:=b},ty,pos,B9,g⟩ a w R:=by
 obtain⟨fn,tmps,assign,body,i,j⟩:=h;have k:(execOp a.eval ⟨dst,.call {callee:=.value f,args:=xs,argTypes:=b},ty,pos,B9,g⟩).run P w=.ok (.round l fn tmps assign body) w:=by
  simp only[execOp,resolve,c,d,Deferred.ofValue];simp only[Sem.run_bind,Sem.run_pure,Result.andThen_ok,invoke];simpa using i
 unfold Ce;rw[k];exact j
end
theorem Gf{w w':World}{k:Nat}{o:Obj}(h:w.heap[k]?=some o)(g:Ext w w'):w'.heap[k]?=some o:=(g.block k (Array.getElem?_eq_some_iff.1 h).1 (by simp)).trans h
def mark(D:Nat):List Deferred:=[{target:=.collected D,args:= #[]}]
abbrev X1(D:Nat):Ctx:=⟨none,mark D⟩
abbrev XR(r:Nat):Ctx:=⟨some r,[]⟩
def KV(a:Act)(D:Nat):Act:={a with defers:=mark D}
theorem O9(a:Act)(D:Nat):∀l:Env,B8 (KV a D) l=KV (B8 a l) D
 |[]=>rfl
 |(d,v)::l=>by simp only[B8,O9 a D l];rfl
theorem St.KV{N:Nat}{a:Act}{l:Env}(s:St X0 N a l)(D:Nat):St (X1 D) N (KV a D) l:=⟨s.sz,rfl,s.lt⟩
theorem St.inr{N:Nat}{a:Act}{l:Env}(s:St X0 N a l)(r:Nat):St (XR r) N a l:=⟨s.sz,s.df,s.lt⟩
theorem Jb(w:World)(r:Nat)(o:Obj):Jl r w (w.putObj r o):=
 ⟨rfl,rfl,rfl,by simp,fun k _ a=>World.putObj_heap_other (fun e=>a (by rw[e]))⟩
section
variable{P:Program}{N:Nat}{Q:Exit→Act→World→Prop}{a:Act}{l:Env}{w:World}
def N4(a:Act)(l:Env)(fn:FuncId)(ps:Array Nat)(assign body:Code)(D:Nat):Loop:=
 {state:=.ready,pending:=none,fn,tmps:=(B8 a l).tmps,params:=ps,assign,body,defers:=D}
structure PQ(lp:Loop)(a:Act)(l:Env)(qs:Array Nat)(assign body:Code):Prop where
 st:lp.state=.ready
 pe:lp.pending=none
 tm:lp.tmps=(B8 a l).tmps
 ps:lp.params=qs
 ZS:lp.assign=assign
 bo:lp.body=body
theorem Uc{g:Operand}{p:Array Nat}{assign body:Code}{b:FuncId}{cap:Array Value}(q:Bb P b)(t:ev a l g=.func (.func b) #[] cap)
  (h:St X0 N a l→∀(lp:Loop) (w1:World),PQ lp a l p assign body→Ext w w1→w1.heap.size=w.heap.size+2→w1.heap[w.heap.size]?=some (.deferred (some []))→w1.heap[w.heap.size+1]?=some (.loop lp)→
   BN P b (#[.func (.yield (w.heap.size+1)) #[] #[]]++cap) w1 (fun _ f=>∃r,f.heap[w.heap.size+1]?=some (.loop r)∧r.state≠.busy∧
    (r.pending=none→∀d,Jl (w.heap.size+1) f d→LV (X1 w.heap.size) N Q .normal (KV a w.heap.size) l d)∧
    (∀c,r.pending=some c→∀d,Jl (w.heap.size+1) f d→CC P (X1 w.heap.size) N c Q (KV a w.heap.size) l d))):
  CC P X0 N (.rangeFunc g p assign body) Q a l w:=fun s=>by
 refine wpIn_rangeFunc (F:=Fence.wide) fun fn _=>?_;have j:(B8 a l).eval g=.func (.func b) #[] cap:=ee s t
 let w1:=(w.alloc (.deferred (some []))).alloc (.loop (N4 a l fn p assign body w.heap.size))
 have u:Ext w w1:=Ext.trans (World.grownBy_alloc w _ _) (World.grownBy_alloc _ _ _);have k:w1.heap.size=w.heap.size+2:=by simp[w1]
 have x:w1.heap[w.heap.size]?=some (.deferred (some [])):=by
  have h2:(w.alloc (.deferred (some []))).heap[w.heap.size]?=some (.deferred (some [])):=World.alloc_heap_new w _;exact(Below.heap_alloc _ _ _ (by simp)).trans h2
 have m:w1.heap[w.heap.size+1]?=some (.loop (N4 a l fn p assign body w.heap.size)):=by
  have:=World.alloc_heap_new (w.alloc (.deferred (some []))) (.loop (N4 a l fn p assign body w.heap.size));simpa[w1] using this
 have i:=h s (N4 a l fn p assign body w.heap.size) w1 ⟨rfl,rfl,rfl,rfl,rfl,rfl⟩ u k x m;refine⟨w.heap.size+1,mark w.heap.size,w1,⟨.fn (.func b) cap, #[]++ #[.func (.yield (w.heap.size+1)) #[] #[]]⟩,w1,b, #[.func (.yield (w.heap.size+1)) #[] #[]]++cap,w1,run_enterLoop_outer fn _ _ _ _,?_,fun _ _=>trivial,?_,T6 none,?_⟩
 ·have y:(#[Operand.const (.func (.yield (w.heap.size+1)) #[] #[])]).map (B8 a l).eval= #[.func (.yield (w.heap.size+1)) #[] #[]]:=Cj rfl;simp only[resolve,j,Deferred.ofValue,y];simp only[Sem.run_bind,Sem.run_pure,Result.andThen_ok]
 ·simp[invoke,Mo q]
 ·have z:CallsIn Fence.wide (0-1) P b (#[.func (.yield (w.heap.size+1)) #[] #[]]++cap) w1 _:=callsIn_wide.2 i;refine z.mono ?_;rintro e f ⟨v,rfl,r,aA,hb,aB,hs⟩;refine⟨r.pending,_,run_endLoop aA hb,?_⟩;have n:mark w.heap.size++(B8 a l).defers=mark w.heap.size:=by rw[El,s.df];rfl
  have he:({B8 a l with defers:=mark w.heap.size++(B8 a l).defers}:Act)=B8 (KV a w.heap.size) l:=by rw[O9,n];rfl
  cases o:r.pending with
  |none=>simp only[];rw[he];exact aB o _ (Jb _ _ _) (s.KV _)
  |some c=>simp only[];rw[he];exact hs c o _ (Jb _ _ _) (s.KV _)
theorem Ud {r:Nat} {lp:Loop} {p:Nat} {assign body:Code} {v:Value} {R:Value→World→Prop} (s:St X0 N a l) (f:w.heap[r]?=some (.loop lp)) (b:PQ lp a l #[p] assign body)
  (h:CC P (XR r) N assign (Exit.then (fun g i=>∃c,(Instr.beginRound r).run P i=.ok () c∧CW P (XR r).ro body (roundPost P r (fun e w'=>∃v,e=.returned v∧R v w')) g c) (fun _ _ _=>False)) a ((p,v)::l) w) (d:p<N):
  YieldAt Fence.wide 0 P r #[v] w (fun e w'=>∃v,e=.returned v∧R v w'):=by
 refine⟨_,_,_,_,run_yield f (by rw[b.ps];rfl),?_⟩;have j:((lp.params.zip #[v]).foldl (fun tmps (t,a)=>tmps.setIfInBounds t a) lp.tmps)=(B8 a ((p,v)::l)).tmps:=by
  rw[b.ps,b.tm];simp[B8,Act.put]
 rw[j,b.ZS,b.bo];refine roundIn_of_wpIn trivial ?_;have h2:=h ((s.inr r).cons d v);have k:({tmps:=(B8 a ((p,v)::l)).tmps,defers:=[]}:Act)=B8 a ((p,v)::l):=by
  have:(B8 a ((p,v)::l)).defers=[]:=by rw[El];exact s.df
  rw[←this]
 rw[k];exact h2
theorem Mu{r:Nat}{lp:Loop}{p q:Nat}{assign body:Code}{v u:Value}{R:Value→World→Prop}(s:St X0 N a l)(g:w.heap[r]?=some (.loop lp))(b:PQ lp a l #[p,q] assign body)
  (h:CC P (XR r) N assign (Exit.then (fun i j=>∃c,(Instr.beginRound r).run P j=.ok () c∧CW P (XR r).ro body (roundPost P r (fun e w'=>∃v,e=.returned v∧R v w')) i c) (fun _ _ _=>False)) a ((q,u)::(p,v)::l) w)(d:p<N)(f:q<N):
  YieldAt Fence.wide 0 P r #[v,u] w (fun e w'=>∃v,e=.returned v∧R v w'):=by
 refine⟨_,_,_,_,run_yield g (by rw[b.ps];rfl),?_⟩;have k:((lp.params.zip #[v,u]).foldl (fun tmps (t,a)=>tmps.setIfInBounds t a) lp.tmps)=(B8 a ((q,u)::(p,v)::l)).tmps:=by
  rw[b.ps,b.tm];simp[B8,Act.put]
 rw[k,b.ZS,b.bo];refine roundIn_of_wpIn trivial ?_;have h2:=h (((s.inr r).cons d v).cons f u);have m:({tmps:=(B8 a ((q,u)::(p,v)::l)).tmps,defers:=[]}:Act)=B8 a ((q,u)::(p,v)::l):=by
  have:(B8 a ((q,u)::(p,v)::l)).defers=[]:=by rw[El];exact s.df
  rw[←this]
 rw[m];exact h2
theorem LS{r:Nat}{lp:Loop}{body:Code}{R:Ending→World→Prop}(b:w.heap[r]?=some (.loop lp))(hs:lp.state=.ready)
  (h:∀w',Jl r w w'→w'.heap[r]?=some (.loop {lp with state:=.busy})→CC P (XR r) N body (roundPost P r R) a l w'):
  LV (XR r) N (Exit.then (fun d e=>∃c,(Instr.beginRound r).run P e=.ok () c∧CW P (XR r).ro body (roundPost P r R) d c) (fun _ _ _=>False)) .normal a l w:=fun s=>
 ⟨_,run_beginRound b hs,h _ (Jb _ _ _) (World.putObj_heap_same (Array.getElem?_eq_some_iff.1 b).1) s⟩
theorem J2{r:Nat}{lp:Loop}{R:Value→World→Prop}(b:w.heap[r]?=some (.loop lp))(h:∀w',Jl r w w'→w'.heap[r]?=some (.loop {lp with state:=.ready,pending:=none})→R (.bool true) w'):
  LV (XR r) N (roundPost P r (fun e w'=>∃v,e=.returned v∧R v w')) .normal a l w:=fun _=>⟨_,_,run_endRound none b,_,rfl,h _ (Jb _ _ _) (World.putObj_heap_same (Array.getElem?_eq_some_iff.1 b).1)⟩
theorem Nq{r:Nat}{lp:Loop}{R:Value→World→Prop}(b:w.heap[r]?=some (.loop lp))(h:∀w',Jl r w w'→w'.heap[r]?=some (.loop {lp with state:=.done,pending:=some .ret})→R (.bool false) w'):
  LV (XR r) N (roundPost P r (fun e w'=>∃v,e=.returned v∧R v w')) .ret a l w:=fun _=>⟨_,_,run_endRound (some .ret) b,_,rfl,h _ (Jb _ _ _) (World.putObj_heap_same (Array.getElem?_eq_some_iff.1 b).1)⟩
def PM (P:Program) (fn:Func) (R:Value→World→Prop):Exit→Act→World→Prop:=bodyPostM Fence.wide 0 P fn (fun e w'=>∃v,e=.returned v∧R v w')
theorem KJ{f:FuncId}{fn:Func}{c:Code}{args:Array Value}{N:Nat}{R:Value→World→Prop}(b:P.funcs[f]?=some fn)(hb:fn.body=some c)(d:fn.ntmps=N)(ha:args.size≤N)
  (h:∀a:Act,a.tmps=args++Array.replicate (N-args.size) undef→a.defers=[]→CC P X0 N c (PM P fn R) a [] w):BN P f args w R:=by
 refine callsIn_wide.1 (callsIn_of_wp_marks (n:=0) b hb trivial ?_);rw[d];exact h {tmps:=args++Array.replicate (N-args.size) undef,defers:=[]} rfl rfl ⟨by simp;omega,rfl,fun _ e=>by cases e⟩
theorem Zt {fn:Func} {R:Value→World→Prop} (h:LV X0 N (bodyPost P fn (fun e w'=>∃v,e=.returned v∧R v w')) .ret a l w):LV X0 N (PM P fn R) .ret a l w:=fun s=>by
 obtain⟨b,v,c,d⟩:=h s;show LeavesInM Fence.wide 0 P fn _ _ (B8 a l).defers .returning w;rw[b];exact⟨v,c,d⟩
end
section
variable{P:Program}{X:Ctx}{N:Nat}{Q:Exit→Act→World→Prop}{a:Act}{l:Env}{w:World}
theorem Ue{c:Code}(h:CC P X0 N c (Exit.noGoto Q) a l w):CC P X0 N (.scope c) Q a l w:=fun s=>wpIn_wide.2 (wp_scope_straight (wpIn_wide.1 (h s)))
theorem Uf{k:Nat}(h:LV X N Q .normal a l w):CC P X N (.label k) Q a l w:=fun s=>wpIn_label (h s)
theorem S5(h:LV X N Q .ret a l w):LV X N (Exit.noGoto Q) .ret a l w:=h
end
theorem J4{lp:Loop}{a:Act}{l:Env}{p:Array Nat}{assign body:Code}(h:PQ lp a l p assign body):({{lp with state:=.busy} with state:=.ready,pending:=none}:Loop)=lp:=by
 obtain⟨h1,h2,_⟩:=h;cases lp;simp only at h1 h2;subst h1;subst h2;rfl
section
variable{P:Program}{N:Nat}{Q:Exit→Act→World→Prop}{a:Act}{l:Env}{w:World}
theorem Ld {g:Operand} {p:Array Nat} {assign body:Code} {d:FuncId} {cap:Array Value} (i:Bb P d) (j:ev a l g=.func (.func d) #[] cap)
  (h:St X0 N a l→∀(lp:Loop) (w1:World) (D lo:Nat),PQ lp a l p assign body→Ext w w1→w.heap.size≤D→D<w1.heap.size→w.heap.size≤lo→lo<w1.heap.size→lo≠D→w1.heap[D]?=some (.deferred (some []))→w1.heap[lo]?=some (.loop lp)→
   BN P d (#[.func (.yield lo) #[] #[]]++cap) w1 (fun _ e=>∃r,e.heap[lo]?=some (.loop r)∧r.state≠.busy∧
    (r.pending=none→∀b,Jl lo e b→LV (X1 D) N Q .normal (KV a D) l b)∧
    (∀c,r.pending=some c→∀b,Jl lo e b→CC P (X1 D) N c Q (KV a D) l b))):
  CC P X0 N (.rangeFunc g p assign body) Q a l w:=
 Uc i j fun s lp w1 f k hs m hl=>h s lp w1 w.heap.size (w.heap.size+1) f k (Nat.le_refl _) (by omega) (by omega) (by omega) (by omega) m hl
end
end Go.Proofs.YtbhofkcbfblijaaGreat
end
section
namespace Go.Proofs.YtbhofkcbfblijaaGreat
open Go.RowKit Go.WideShapes
section
variable{P:Program}{w:World}
theorem KW{e:TypeId}(he:One P e)(x:List Int)(i:Nat)(hi:i<x.length):(part e (IN x).toArray i).run P w=.ok (.int .i64 (x.getD i 0)) w:=by
 have:(IN x).toArray[i]?=some (.int .i64 (x.getD i 0)):=T8 x i hi;simp only[part,Sem.run_bind,Nk he,Result.andThen_ok,this];rfl
theorem Nr{e:TypeId}(hu:P.underlying e=some (.int .i64))(d:Nat)(a b:Int):(Op.equalIn (d+1) e (.int .i64 a) (.int .i64 b)).run P w=.ok (a==b) w:=run_equalIn_int w d e .i64 .i64 a b hu
theorem Ns{e:TypeId}(he:One P e)(hu:P.underlying e=some (.int .i64))(d:Nat)(x y:List Int):∀is:List Nat,(∀i∈is,i<x.length∧i<y.length)→
  (Op.eqItems (d+1) e 1 (IN x).toArray (IN y).toArray is).run P w=.ok (is.all fun i=>x.getD i 0==y.getD i 0) w
 |[],_=>by simp[Op.eqItems]
 |i::is,h=>by
  have ih:=Ns he hu d x y is (fun j hj=>h j (List.mem_cons_of_mem _ hj));obtain⟨h1,h2⟩:=h i (List.mem_cons_self ..);simp only[Op.eqItems,Sem.run_bind,Nat.mul_one,KW he x i h1,KW he y i h2,Nr hu,Result.andThen_ok,List.all_cons];cases hb:(x.getD i 0==y.getD i 0)
  ·simp
  ·simpa using ih
theorem Mw(x y:List Int)(n:Nat)(a:x.length=n)(b:y.length=n):((List.range n).all fun i=>x.getD i 0==y.getD i 0)=(x==y):=by
 rw[Bool.eq_iff_iff];simp only[List.all_eq_true,List.mem_range,beq_iff_eq];constructor
 ·intro h;apply List.ext_getElem (by omega);intro i h1 h2;have:=h i (by omega);simpa[List.getElem?_eq_getElem h1,List.getElem?_eq_getElem h2] using this
 ·rintro rfl i _;rfl
def Mi (P:Program) (K:TypeId) (n:Nat):Prop:=∀(w:World) (x y:List Int),x.length=n→y.length=n→(Op.equal K (Fj x) (Fj y)).run P w=.ok (x==y) w
def PR(P:Program)(K:TypeId)(n:Nat):Prop:=∀(w:World) (em:Bool) (x:List Int),x.length=n→(Instr.checkKey em 10000 K (Fj x)).run P w=.ok () w
def LU(P:Program)(K:TypeId):Prop:=(match P.underlying K with|some (.array _ _)|some (.struct _)=>true|_=>false)=true
theorem S6{K e n:Nat}(hK:P.underlying K=some (.array n e))(he:One P e)(hu:P.underlying e=some (.int .i64)):Mi P K n:=by
 intro w x y b c;obtain⟨i,hi,hs⟩:=Option.map_eq_some_iff.1 he.2;have h:=run_equalIn_array w 9999 (IN x).toArray (IN y).toArray hK hi;have d:P.cellsOf e=1:=by unfold Program.cellsOf;rw[hi];simpa using hs
 rw[d,Ns he hu 9998 x y (List.range n) (fun i a=>by have:=List.mem_range.1 a;omega),Mw x y n b c] at h;exact h
end
def Pa (e:TypeId):Nat→List Field→Bool
 |_,[]=>true
 |i,f::a=>f.name !="_"&&Nat.beq f.type e&&Nat.beq f.offset i&&Pa e (i+1) a
theorem PS{e i:Nat}{f:Field}{a:List Field}(h:Pa e i (f::a)=true):f.name≠"_"∧f.type=e∧f.offset=i∧Pa e (i+1) a=true:=by
 simp only[Pa,Bool.and_eq_true] at h;exact⟨by simpa using h.1.1.1,Nat.eq_of_beq_eq_true h.1.1.2,Nat.eq_of_beq_eq_true h.1.2,h.2⟩
section
variable{P:Program}{w:World}
theorem Mx{e:TypeId}(he:One P e)(hu:P.underlying e=some (.int .i64))(d:Nat)(x y:List Int):∀(a:List Field) (i:Nat),Pa e i a=true→i+a.length≤x.length→i+a.length≤y.length→
  (Op.eqFields (d+1) (IN x).toArray (IN y).toArray a).run P w=.ok ((List.range' i a.length).all fun j=>x.getD j 0==y.getD j 0) w
 |[],i,_,_,_=>by simp[Op.eqFields]
 |f::a,i,h,b,c=>by
  obtain⟨h1,h2,g,k⟩:=PS h;simp only[List.length_cons] at b c;have ih:=Mx he hu d x y a (i+1) k (by omega) (by omega);simp only[Op.eqFields,h1,ne_eq,not_false_eq_true,if_true,Sem.run_bind,h2,g,KW he x i (by omega),KW he y i (by omega),Nr hu,Result.andThen_ok,List.length_cons,List.range'_succ,List.all_cons];cases hb:(x.getD i 0==y.getD i 0)
  ·simp
  ·simpa using ih
theorem N5{K e:Nat}{a:Array Field}(n:Nat)(hK:P.underlying K=some (.struct a))(hs:P.stoodInHeld K=false)(c:Pa e 0 a.toList=true)(d:a.toList.length=n)(he:One P e)(hu:P.underlying e=some (.int .i64)):Mi P K n:=by
 intro w x y f g;have b:P.fieldsOf K=a:=by simp[Program.fieldsOf,hK]
 have h:=run_equalIn_struct w 9999 K (IN x).toArray (IN y).toArray (by rw[b];exact hK) hs;rw[b,Mx he hu 9998 x y a.toList 0 c (by omega) (by omega),←List.range_eq_range',d,Mw x y n f g] at h;exact h
theorem Q4{K e:Nat}{a:Array Field}(n:Nat)(hK:P.underlying K=some (.struct a))(c:Pa e 0 a.toList=true)(j:a.toList.length=n)(he:One P e)(hu:P.underlying e=some (.int .i64)):PR P K n:=by
 intro w em x k;have b:∀v:Int,(Instr.checkKey em 9999 e (.int .i64 v)).run P w=.ok () w:=by
  intro v;rw[show(9999:Nat)=9998+1 from rfl,Instr.checkKey];simp only[Sem.run_bind,run_underlying hu,Result.andThen_ok];rfl
 rw[show(10000:Nat)=9999+1 from rfl,Fj,Instr.checkKey];simp only[Sem.run_bind,run_underlying hK,Result.andThen_ok];rw[←Array.forIn_toList];have key:∀(L:List Field) (i:Nat),Pa e i L=true→i+L.length≤x.length→(forIn L PUnit.unit (fun f (_:PUnit)=>do
   if f.name≠"_"then
    let v←part f.type (IN x).toArray f.offset
    Instr.checkKey em 9999 f.type v
    pure PUnit.unit
    pure (ForInStep.yield PUnit.unit)
   else pure (ForInStep.yield PUnit.unit)):Sem PUnit).run P w=.ok PUnit.unit w:=by
  intro L
  induction L with
  |nil=>intro i _ _;simp
  |cons f L ih=>
   intro i h hl;obtain⟨h1,h2,d,g⟩:=PS h;simp only[List.length_cons] at hl;simp only[List.forIn_cons,Sem.run_bind,h1,ne_eq,not_false_eq_true,if_true,h2,d,KW he x i (by omega),b,Result.andThen_ok,Sem.run_pure];exact ih (i+1) g (by omega)
 have:=key a.toList 0 c (by omega);simp at this;simp[this]
end
def KX (w:World) (r n:Nat) (L:List (List Int×Int)):Prop:=
 ∃es clock,w.heap[r]?=some (.map es clock)∧es.toList.map (fun e=>(e.key,e.val))=L.map (fun p=>(Fj p.1,Value.int .i64 p.2))∧∀p∈L,p.1.length=n
section
variable{w w':World}{r n b:Nat}{L:List (List Int×Int)}
theorem KX.lt(h:KX w r n L):r<w.heap.size:=by obtain⟨es,c,h,_⟩:=h;exact lt_of_block h
theorem KX.ext(h:KX w r n L)(g:Ext w w'):KX w' r n L:=by
 have hl:=h.lt;obtain⟨es,c,h1,h2⟩:=h;exact⟨es,c,(g.block r hl (by simp)).trans h1,h2⟩
theorem KX.PE(h:KX w r n L)(g:Jl b w w')(a:r≠b):KX w' r n L:=by
 have hl:=h.lt;obtain⟨es,c,h1,h2⟩:=h;exact⟨es,c,(g.block r hl (by simpa using a)).trans h1,h2⟩
end
section
variable{P:Program}{a:Act}{w:World}{dst:Option Tmp}{ty:TypeId}{pos:String}{B9:Array Edge}{g:Option (Nat×Bool)}{K E T r n:Nat}{L:List (List Int×Int)}{k:List Int}
theorem Q5{kind:TypeDesc}(a:match kind with|.array _ _|.struct _=>True|_=>False)(cs:Array Value):∀(es:List MapEntry) (i:Nat),(∀e∈es,∃ds,e.key=.agg ds)→es≠[]→Instr.findNow kind (.agg cs) es i=none
 |[],_,_,h=>absurd rfl h
 |e::es,i,he,_=>by
  obtain⟨ds,b⟩:=he e (List.mem_cons_self ..);unfold Instr.findNow;rw[b];cases kind<;>simp at a<;>simp[Instr.sameNow]
theorem N6{o:Obj}(h:w.heap[r]?=some o)(a:∀c e f,o≠.cells c e f):(getObj r).run P w=.ok o w:=by
 unfold getObj;cases o<;>first|exact absurd rfl (a _ _ _)|(simp only[Sem.run,h])
theorem PT(d:Nat)(x:List Int):Instr.sameBits (d+1) (Fj x) (Fj x)=true:=by
 unfold Fj Instr.sameBits;simp only[beq_self_eq_true,Bool.true_and,List.all_eq_true];rintro⟨u,v⟩ h;rw[List.mem_iff_getElem] at h;obtain⟨i,hi,he⟩:=h;simp only[List.getElem_zip,Prod.mk.injEq] at he;obtain⟨h1,h2⟩:=he;subst h1;subst h2;simp only[IN,List.getElem_map];cases d<;>simp[Instr.sameBits]
end
theorem KX.t2{w w':World}{r ph b n:Nat}{L:List (List Int×Int)}{M:World→Prop}(h:KX w b n L)(g:T2 w r M ph w')(a:b≠r):KX w' b n L:=h.PE (PO g) a
end Go.Proofs.YtbhofkcbfblijaaGreat
end
section
namespace Go.Proofs.YtbhofkcbfblijaaGreat
open Go.RowKit
def E4 (w:World) (base:Nat) (e:TypeId) (sz:Nat) (A:Option Addr) (n c:Nat) (xs:List Value):Prop:=w.ownsRow base e sz (.slice A n c) n xs
section
variable{w w':World}{base:Nat}{e:TypeId}{sz:Nat}{A:Option Addr}{n c:Nat}{xs:List Value}
theorem E4.nil(w:World)(base:Nat)(e:TypeId)(sz:Nat):E4 w base e sz none 0 0 []:=World.ownsRow_nil w base e sz
theorem E4.len(h:E4 w base e sz A n c xs):xs.length=n*sz:=h.1
theorem E4.rd(h:E4 w base e sz A n c xs):Rd w base w.heap.size A xs:=by
 refine⟨Nat.le_refl _,?_⟩;rcases h.2 with⟨_,h0⟩|⟨g,cap,cur,a,b,d,_,_,_,_⟩
 ·exact .inl (List.eq_nil_of_length_eq_zero (by rw[h.1,h0,Nat.zero_mul]))
 ·refine .inr ⟨g,0,?_,b,lt_of_block d,fun j u hu=>?_⟩
  ·cases a;rfl
  ·have:=World.ownsRow.cells h (g:=g) (by cases a;rfl) j u hu;rw[Ge] at this;exact this
theorem E4.kept(h:E4 w base e sz A n c xs){r:Option Nat}(g:w.grownBy w' r)(a:∀k,r=some k→∀o,A≠some ⟨k,o,none⟩):E4 w' base e sz A n c xs:=
 World.ownsRow.kept h g (by
  rcases h.2 with⟨h0,_⟩|⟨b,cap,cur,d,_⟩
  ·exact .inl (by rw[h0];rfl)
  ·refine .inr ?_;cases d;intro he;exact a b (by simpa[Value.ownBlock] using he.symm) 0 rfl)
theorem E4.ext(h:E4 w base e sz A n c xs)(g:Ext w w'):E4 w' base e sz A n c xs:=h.kept g (fun _ e=>by cases e)
theorem E4.JZ (h:E4 w base e sz A n c xs) {k o:Nat} (b:A=some ⟨k,o,none⟩):base≤k∧k<w.heap.size∧∃cur,w.heap[k]?=some (.cells cur e (0,0)):=by
 subst b;rcases h.2 with⟨h0,_⟩|⟨g,cap,cur,d,hb,a,_⟩
 ·cases h0
 ·cases d;exact⟨hb,lt_of_block a,cur,a⟩
theorem E4.PE{r:Nat}(h:E4 w base e sz A n c xs)(g:Jl r w w')(d:r<base):E4 w' base e sz A n c xs:=h.kept g (fun k a o b=>by
 cases a;have:=(h.JZ b).1;omega)
theorem Bk.bw{b B:Nat}{t:TypeId}{cs:Array Value}(h:Bk w b t cs)(g:Below B w w')(hb:b<B):Bk w' b t cs:=(g.block b hb).trans h
theorem Rd.bw{lo hi B:Nat}{A:Option Addr}{cs:List Value}(h:Rd w lo hi A cs)(g:Below B w w')(a:hi≤B):Rd w' lo hi A cs:=h.PF g a
theorem Bk.row {b:Nat} {t:TypeId} {cs:Array Value} (h:E4 w base e sz A n c xs) {w1 w2:World} (hb:Bk w1 b t cs) (f:w.heap.size≤b) (g:w1.grownBy w2 (Value.ownBlock (.slice A n c))):Bk w2 b t cs:=
 (g.block b hb.lt (fun e=>by
  cases A with
  |none=>cases e
  |some ad=>
   have:b=ad.block:=by simpa[Value.ownBlock] using e
   rcases h.2 with⟨h0,_⟩|⟨g,cap,cur,a,_,d,_⟩
   ·cases h0
   ·cases a;have:=lt_of_block d;simp only at*;omega)).trans hb
end
section
variable{P:Program}{a:Act}{w:World}{dst:Option Tmp}{ty:TypeId}{pos:String}{B9:Array Edge}{g:Option (Nat×Bool)}
theorem VJ {t e:TypeId} {i:TypeInfo} {z:Value} {sz:Nat} (r:P.underlying t=some (.slice e)) (hi:P.info? e=some i) (aA:i.zero=some z) (l:i.size=sz) (aH:z.cells.size=sz)
  {A s:Option Addr} {n c v base m cap:Nat} {xs news:List Value} {ad:Addr} {w':World} (d:E4 w base e sz A n c xs) (hl:news.length=m*sz) (a:∀j u,news[j]?=some u→w.cell? (ad.add j)=some u) (h1:∀u∈news,u.oneCell'=true)
  (aB:n+m≤maxLen) (b:(n+m)*i.bytes≤140737488355328) (h:(Builtin.append_ #[t,t] ty #[.slice A n c,.slice (some ad) m cap]).run P w=.ok (.slice s (n+m) v) w')
  (x:(Value.slice s (n+m) v=.slice none 0 0↔Value.slice A n c=.slice none 0 0∧m=0)):Ext w w'∨(s=A∧v=c):=by
 subst l;have aC:n+m≤9223372036854775807:=by simp only[maxLen] at aB;omega
 have q:∀o:Obj,Ext w (w.drew.alloc o):=fun o=>Ext.trans (CT w) (World.grownBy_alloc _ _ _);rcases d.2 with⟨k,h0⟩|⟨p,aF,cur,k,aI,aG,aJ,aK,aD,aE⟩
 ·cases k;rcases Nat.eq_zero_or_pos m with rfl|hm
  ·have:=x.2 ⟨rfl,rfl⟩;exact .inr (by cases this;exact⟨rfl,rfl⟩)
  ·have:=run_append_nil (P:=P) w t ty e i z r hi aA ad m cap news hl a (by omega) (by omega) (by have hb:=b;simp only[Nat.zero_add] at hb;omega);rw[this] at h;injection h with _ hw
   exact .inl (hw▸q _)
 ·cases k
  by_cases f:n+m≤c
  ·have y:n*i.size+news.length≤cur.size:=by rw[hl,aD,←Nat.add_mul];exact Nat.mul_le_mul_right _ f
   have:=run_append_room (P:=P) w t ty e i r hi p n c cur aG ad m cap news hl a h1 f y;rw[this] at h;injection h with k _
   exact .inr (by cases k;exact⟨rfl,rfl⟩)
  ·have holds:∀j u,xs[j]?=some u→w.cell? ((⟨p,0,none⟩:Addr).add j)=some u:=World.ownsRow.cells d (g:=p) rfl;have:=run_append_grow (P:=P) w t ty e i z r hi aA ⟨p,0,none⟩ n c xs d.1 holds ad m cap news hl a (by omega) (by omega) (growslice_fits (by omega) b);rw[this] at h;injection h with _ hw
   exact .inl (hw▸q _)
theorem S7 {s x:Operand} {t e:TypeId} {z:Value} {sz bytes:Nat} (aD:P.underlying t=some (.slice e)) (hi:(P.info? e).map (fun i=>(i.zero,i.size,i.bytes))=some (some z,sz,bytes)) (y:z.cells.size=sz) (aE:0<sz)
  {A:Option Addr} {n c base:Nat} {xs news:List Value} {m cap:Nat} {ad:Addr} (hs:a.eval s=.slice A n c) (aG:a.eval x=.slice (some ad) m cap) (p:E4 w base e sz A n c xs)
  (q:∀j u,news[j]?=some u→w.cell? (ad.add j)=some u)
  (hl:news.length=m*sz) (h1:∀u∈news,u.oneCell'=true) (aA:n+m≤maxLen) (f:(n+m)*bytes≤140737488355328) (r:base≤w.heap.size):
  Ce P ⟨dst,.call {callee:=.builtin .append,args:= #[s,x],argTypes:= #[t,t]},ty,pos,B9,g⟩ a w (fun v w'=>∃b l,v=.slice b (n+m) l∧E4 w' base e sz b (n+m) l (xs++news)∧w.grownBy w' (Value.ownBlock (.slice A n c))∧(Ext w w'∨(b=A∧l=c))∧(∀k o,b=some ⟨k,o,none⟩→(∃o',A=some ⟨k,o',none⟩)∨w.heap.size≤k)):=by
 cases d:P.info? e with
 |none=>simp[d] at hi
 |some i=>
  simp only[d,Option.map_some,Option.some.injEq,Prod.mk.injEq] at hi;obtain⟨v',w',aF,h2,aH,aI,aJ⟩:=run_append_own_at (P:=P) w base t ty e i z sz bytes aD d hi.1 hi.2.1 hi.2.2 y aE (.slice A n c) n xs p ad m cap news hl q h1 aA f r;have he:(execOp a.eval ⟨dst,.call {callee:=.builtin .append,args:= #[s,x],argTypes:= #[t,t]},ty,pos,B9,g⟩).run P w=.ok (.value v') w':=by
   unfold execOp;simp only[resolve,invoke,builtin,Sem.run_bind,Sem.run_pure,Result.andThen_ok,List.map_toArray,List.map_cons,List.map_nil,hs,aG,aF]
  have key:∃b l,v'=.slice b (n+m) l∧E4 w' base e sz b (n+m) l (xs++news):=by
   rcases h2.2 with⟨rfl,h0⟩|⟨aK,aB,cur,rfl,_⟩
   ·refine⟨none,0,by rw[h0],?_⟩;have:=h2;rw[h0] at this⊢;exact this
   ·exact⟨_,_,rfl,h2⟩
  obtain⟨b,l,rfl,aL⟩:=key;unfold Ce;rw[he];refine⟨b,l,rfl,aL,aH,VJ aD d hi.1 hi.2.1 y p hl q h1 aA (by rw[hi.2.2];exact f) aF aI,?_⟩;rintro k o rfl;rcases aJ with h|h
  ·left;cases A with
   |none=>simp[Value.ownBlock] at h
   |some ad=>
    have aM:k=ad.block:=by simpa[Value.ownBlock] using h
    rcases p.2 with⟨aC,_⟩|⟨aK,aB,cur,aC,_⟩
    ·cases aC
    ·cases aC;exact⟨0,by rw[aM]⟩
  ·right;have:k=w.heap.size:=by simpa[Value.ownBlock] using h
   omega
theorem E4.new{w w':World}{b base:Nat}{e:TypeId}{sz:Nat}(h:LN w w' b e #[])(hb:base≤w.heap.size):E4 w' base e sz (some ⟨b,0,none⟩) 0 0 []:=
 ⟨by simp,.inr ⟨b,0, #[],rfl,by rw[h.E9];exact hb,h.bk,Nat.le_refl _,by simp[maxLen],by simp,by simp⟩⟩
theorem Vj{x y:Operand}{t u:TypeId}{A B:Option Addr}{n c m d:Nat}{b:Bool}(e:a.eval x=.slice A n c)(f:a.eval y=.slice B m d)(h1:(eqGuard .eql t x y (.slice A n c) (.slice B m d)).run P w=.ok () w)(h2:(Op.equal t (.slice A n c) (.slice B m d)).run P w=.ok b w):Ce P ⟨dst,.binOp .eql t x y u,ty,pos,B9,g⟩ a w (fun v w'=>v=.bool b∧w'=w):=
 C9 (by simp[execOp,e,f,binOp,h1,h2])
end
structure Mv (w:World) (Z:Nat→Prop) (w':World) (Z':Nat→Prop):Prop where
 size:w.heap.size≤w'.heap.size
 stay:∀b,Z b→b<w.heap.size→Z' b∧w'.heap[b]?=w.heap[b]?
theorem Mv.refl(w:World)(Z:Nat→Prop):Mv w Z w Z:=⟨Nat.le_refl _,fun _ h _=>⟨h,rfl⟩⟩
theorem Mv.trans{w1 w2 a:World}{c d e:Nat→Prop}(h:Mv w1 c w2 d)(k:Mv w2 d a e):Mv w1 c a e:=
 ⟨Nat.le_trans h.size k.size,fun b hb hl=>by
  obtain⟨h1,h2⟩:=h.stay b hb hl;obtain⟨f,g⟩:=k.stay b h1 (Nat.lt_of_lt_of_le hl h.size);exact⟨f,g.trans h2⟩⟩
theorem Ac{w w':World}{Z:Nat→Prop}(h:Ext w w'):Mv w Z w' Z:=⟨h.size,fun b hb hl=>⟨hb,h.block b hl (by simp)⟩⟩
theorem KK{w:World}{Z Z':Nat→Prop}(h:∀b,Z b→b<w.heap.size→Z' b):Mv w Z w Z':=⟨Nat.le_refl _,fun b hb hl=>⟨h b hb hl,rfl⟩⟩
def ZA:Nat→Prop:=fun _=>True
theorem My{w:World}{Z:Nat→Prop}:Mv w Z w ZA:=KK fun _ _ _=>trivial
def Rz (w:World) (Z:Nat→Prop) (A:Option Addr) (cs:List Value):Prop:=
 cs=[]∨∃b o,A=some ⟨b,o,none⟩∧Z b∧b<w.heap.size∧∀j u,cs[j]?=some u→w.cell? ⟨b,o+j,none⟩=some u
theorem Rz.mv{w w':World}{Z Z':Nat→Prop}{A:Option Addr}{cs:List Value}(h:Rz w Z A cs)(g:Mv w Z w' Z'):Rz w' Z' A cs:=
 h.imp id fun⟨b,o,d,c,hl,e⟩=>⟨b,o,d,(g.stay b c hl).1,Nat.lt_of_lt_of_le hl g.size,fun j u hu=>
  (World.cell?_of_block (a:=⟨b,o+j,none⟩) (g.stay b c hl).2).trans (e j u hu)⟩
theorem Rz.cells{w:World}{Z:Nat→Prop}{b o:Nat}{cs:List Value}(h:Rz w Z (some ⟨b,o,none⟩) cs):∀j u,cs[j]?=some u→w.cell? ⟨b,o+j,none⟩=some u:=by
 rcases h with rfl|⟨b',o',a,_,_,c⟩
 ·simp
 ·cases a;exact c
theorem Rz.rd{w:World}{Z:Nat→Prop}{A:Option Addr}{cs:List Value}(h:Rz w Z A cs):Rd w 0 w.heap.size A cs:=
 ⟨Nat.le_refl _,h.imp id fun⟨b,o,a,_,hl,c⟩=>⟨b,o,a,Nat.zero_le _,hl,c⟩⟩
theorem PU{w:World}{lo hi:Nat}{A:Option Addr}{cs:List Value}{Z:Nat→Prop}(h:Rd w lo hi A cs)(a:∀b,lo≤b→b<hi→Z b):Rz w Z A cs:=
 h.2.imp id fun⟨b,o,c,h1,h2,d⟩=>⟨b,o,c,a b h1 h2,Nat.lt_of_lt_of_le h2 h.1,d⟩
structure Cx (α:Type) where
 sz:Nat
 R:World→(Nat→Prop)→List Value→α→Prop
 len:∀{w Z cs x},R w Z cs x→cs.length=sz
 one:∀{w Z cs x},R w Z cs x→∀u∈cs,u.oneCell'=true
 mv:∀{w Z w' Z' cs x},R w Z cs x→Mv w Z w' Z'→R w' Z' cs x
def R2{α:Type}(e:Cx α)(w:World)(Z:Nat→Prop):List (List Value)→List α→Prop
 |[],[]=>True
 |c::cs,x::xs=>e.R w Z c x∧R2 e w Z cs xs
 |_,_=>False
section
variable{α:Type}{e:Cx α}{w w':World}{Z Z':Nat→Prop}
theorem R2.len:∀{BE:List (List Value)} {xs:List α},R2 e w Z BE xs→BE.length=xs.length
 |[],[],_=>rfl
 |_::_,_::_,h=>by simp[R2.len h.2]
 |[],_::_,h=>h.elim
 |_::_,[],h=>h.elim
theorem R2.mv(g:Mv w Z w' Z'):∀{BE:List (List Value)} {xs:List α},R2 e w Z BE xs→R2 e w' Z' BE xs
 |[],[],_=>trivial
 |_::_,_::_,h=>⟨e.mv h.1 g,R2.mv g h.2⟩
 |[],_::_,h=>h.elim
 |_::_,[],h=>h.elim
theorem R2.one:∀{BE:List (List Value)} {xs:List α},R2 e w Z BE xs→∀u∈BE.flatten,u.oneCell'=true
 |[],[],_=>by simp
 |c::cs,_::_,h=>by
  intro u hu;rw[List.flatten_cons,List.mem_append] at hu;exact hu.elim (e.one h.1 u) (R2.one h.2 u)
 |[],_::_,h=>h.elim
 |_::_,[],h=>h.elim
theorem R2.Lm:∀{BE:List (List Value)} {xs:List α},R2 e w Z BE xs→BE.flatten.length=xs.length*e.sz
 |[],[],_=>by simp
 |c::cs,_::xs,h=>by
  rw[List.flatten_cons,List.length_append,e.len h.1,R2.Lm h.2,List.length_cons,Nat.add_mul,Nat.one_mul,Nat.add_comm]
 |[],_::_,h=>h.elim
 |_::_,[],h=>h.elim
theorem R2.get:∀{BE:List (List Value)} {xs:List α},R2 e w Z BE xs→∀{k:Nat} {x:α},xs[k]?=some x→∃c,BE[k]?=some c∧e.R w Z c x∧(BE.flatten.drop (k*e.sz)).take e.sz=c
 |[],[],_,k,x,a=>by simp at a
 |c::cs,y::xs,h,0,x,a=>by
  obtain rfl:y=x:=by simpa using a
  refine⟨c,rfl,h.1,?_⟩;have hl:=e.len h.1;rw[Nat.zero_mul,List.drop_zero,List.flatten_cons,List.take_append_of_le_length (by rw[hl];exact Nat.le_refl _),List.take_of_length_le (by rw[hl];exact Nat.le_refl _)]
 |c::cs,y::xs,h,k+1,x,a=>by
  obtain⟨b,h1,h2,d⟩:=R2.get h.2 (k:=k) (x:=x) (by simpa using a);refine⟨b,by simpa using h1,h2,?_⟩;rw[←d,List.flatten_cons,List.drop_append,e.len h.1,List.drop_of_length_le (by rw[e.len h.1,Nat.add_mul];omega),List.nil_append]
  congr 2
  rw[Nat.add_mul];omega
 |[],_::_,h,_,_,_=>h.elim
 |_::_,[],h,_,_,_=>h.elim
theorem R2.append:∀{BE a:List (List Value)} {xs ys:List α},R2 e w Z BE xs→R2 e w Z a ys→R2 e w Z (BE++a) (xs++ys)
 |[],_,[],_,_,h=>h
 |_::_,_,_::_,_,h,k=>⟨h.1,R2.append h.2 k⟩
 |[],_,_::_,_,h,_=>h.elim
 |_::_,_,[],_,h,_=>h.elim
theorem R2.drop:∀(k:Nat) {BE:List (List Value)} {xs:List α},R2 e w Z BE xs→R2 e w Z (BE.drop k) (xs.drop k)
 |0,_,_,h=>h
 |k+1,[],[],_=>trivial
 |k+1,_::cs,_::xs,h=>by simpa using R2.drop k h.2
 |_+1,[],_::_,h=>h.elim
 |_+1,_::_,[],h=>h.elim
theorem R2.take:∀(k:Nat) {BE:List (List Value)} {xs:List α},R2 e w Z BE xs→R2 e w Z (BE.take k) (xs.take k)
 |0,_,_,_=>trivial
 |k+1,[],[],_=>trivial
 |k+1,_::cs,_::xs,h=>⟨h.1,R2.take k h.2⟩
 |_+1,[],_::_,h=>h.elim
 |_+1,_::_,[],h=>h.elim
theorem R2.set{x:α}{c:List Value}(a:e.R w Z c x):∀(k:Nat) {BE:List (List Value)} {xs:List α},R2 e w Z BE xs→R2 e w Z (BE.set k c) (xs.set k x)
 |_,[],[],_=>trivial
 |0,_::_,_::_,h=>⟨a,h.2⟩
 |k+1,_::cs,_::xs,h=>⟨h.1,R2.set a k h.2⟩
 |_,[],_::_,h=>h.elim
 |_,_::_,[],h=>h.elim
theorem R2.Vk(h0:0<e.sz):∀(k:Nat) {BE:List (List Value)} {xs:List α},R2 e w Z BE xs→BE.flatten.drop (k*e.sz)=(BE.drop k).flatten
 |0,_,_,_=>by simp
 |k+1,[],[],_=>by simp
 |k+1,c::cs,_::xs,h=>by
  rw[List.drop_succ_cons,←R2.Vk h0 k h.2,List.flatten_cons,List.drop_append,e.len h.1,List.drop_of_length_le (by rw[e.len h.1,Nat.add_mul];omega),List.nil_append]
  congr 1
  rw[Nat.add_mul];omega
 |_+1,[],_::_,h=>h.elim
 |_+1,_::_,[],h=>h.elim
end
def Sl {α:Type} (e:Cx α) (w:World) (Z:Nat→Prop) (A:Option Addr) (c:Nat) (xs:List α):Prop:=
 xs.length≤c∧(A=none→c=0)∧∃BE,R2 e w Z BE xs∧Rz w Z A BE.flatten
section
variable{α:Type}{e:Cx α}{w w':World}{Z Z':Nat→Prop}{A:Option Addr}{c:Nat}{xs:List α}
theorem Sl.mv(h:Sl e w Z A c xs)(g:Mv w Z w' Z'):Sl e w' Z' A c xs:=⟨h.1,h.2.1,h.2.2.imp fun _ ⟨h1,h2⟩=>⟨h1.mv g,h2.mv g⟩⟩
theorem Sl.all(h:Sl e w Z A c xs):Sl e w ZA A c xs:=h.mv My
theorem Sl.nil(e:Cx α)(w:World)(Z:Nat→Prop):Sl e w Z none 0 []:=⟨Nat.le_refl _,fun _=>rfl,[],trivial,.inl rfl⟩
theorem Sl.elem (h:Sl e w Z A c xs) (h0:0<e.sz) {k:Nat} {x:α} (l:xs[k]?=some x):∃b o cs,A=some ⟨b,o,none⟩∧e.R w Z cs x∧Rz w Z (some ⟨b,o+k*e.sz,none⟩) cs:=by
 obtain⟨-,-,BE,h2,f⟩:=h;obtain⟨cs,m,g,a⟩:=h2.get l;have hl:=e.len g;have q:k<BE.length:=(List.getElem?_eq_some_iff.1 m).1;rcases f with f|⟨b,o,n,p,i,d⟩
 ·rw[f] at a;simp at a;subst a;simp at hl;omega
 ·refine⟨b,o,cs,n,g,.inr ⟨b,_,rfl,p,i,fun j u hu=>?_⟩⟩;rw[Nat.add_assoc];refine d _ _ ?_;subst a;rw[List.getElem?_take] at hu;split at hu
  ·simpa using hu
  ·cases hu
theorem Sl.CB(h:Sl e w Z A c xs)(h1:e.sz=1){k:Nat}{x:α}(d:xs[k]?=some x):∃b o cs,A=some ⟨b,o,none⟩∧e.R w Z cs x∧Rz w Z (some ⟨b,o+k,none⟩) cs:=by
 obtain⟨b,o,cs,h2,f,a⟩:=h.elem (by omega) d;rw[h1,Nat.mul_one] at a;exact⟨b,o,cs,h2,f,a⟩
end
def Ah(k:IntKind):Cx Int:=⟨1,fun _ _ cs x=>cs=[.int k x],fun h=>by rw[h];rfl,fun h=>by rw[h];simp[Value.oneCell'],fun h _=>h⟩
def Zu:Cx Bool:=⟨1,fun _ _ cs x=>cs=[.bool x],fun h=>by rw[h];rfl,fun h=>by rw[h];simp[Value.oneCell'],fun h _=>h⟩
def BG{α:Type}(e:Cx α):Cx (List α):=
 ⟨1,fun w Z cs xs=>∃A c,cs=[.slice A xs.length c]∧Sl e w Z A c xs,fun⟨_,_,h,_⟩=>by rw[h];rfl,fun⟨_,_,h,_⟩=>by rw[h];simp[Value.oneCell'],
  fun⟨A,c,h1,h2⟩ g=>⟨A,c,h1,h2.mv g⟩⟩
structure VE (α:Type) where
 R:World→(Nat→Prop)→Value→α→Prop
 mv:∀{w Z w' Z' v x},R w Z v x→Mv w Z w' Z'→R w' Z' v x
def Dh(k:IntKind):VE Int:=⟨fun _ _ v x=>v=.int k x,fun h _=>h⟩
def BC:VE Bool:=⟨fun _ _ v x=>v=.bool x,fun h _=>h⟩
def Fk{α:Type}(e:Cx α):VE (List α):=⟨fun w Z v xs=>∃A c,v=.slice A xs.length c∧Sl e w Z A c xs,fun⟨A,c,h1,h2⟩ g=>⟨A,c,h1,h2.mv g⟩⟩
def Ds{α:Type}(e:Cx α):VE α:=⟨fun w Z v x=>∃cs,v=.agg cs.toArray∧e.R w Z cs x,fun h g=>h.imp fun _ h=>⟨h.1,e.mv h.2 g⟩⟩
def Nt{α β:Type}(a:VE α)(b:VE β):VE (α×β):=⟨fun w Z v x=>∃u t,v=.tuple #[u,t]∧a.R w Z u x.1∧b.R w Z t x.2,fun⟨u,t,h,h1,h2⟩ g=>⟨u,t,h,a.mv h1 g,b.mv h2 g⟩⟩
def vT3{α β e:Type}(a:VE α)(b:VE β)(c:VE e):VE (α×β×e):=
 ⟨fun w Z v x=>∃u t s,v=.tuple #[u,t,s]∧a.R w Z u x.1∧b.R w Z t x.2.1∧c.R w Z s x.2.2,fun⟨u,t,s,h,h1,h2,d⟩ g=>⟨u,t,s,h,a.mv h1 g,b.mv h2 g,c.mv d g⟩⟩
def Kv{α:Type}(v:VE α)(Z:Nat→Prop)(x:α):No Ext:=⟨fun u w=>v.R w Z u x,fun _ _ _ h g=>v.mv h (Ac g)⟩
def ob:Option Addr→Option Nat:=Option.map (·.block)
theorem XY(A:Option Addr)(n c:Nat):Value.ownBlock (.slice A n c)=ob A:=by cases A<;>rfl
def FN:Nat→Prop:=fun _=>False
def FU (F:Nat→Prop) (M:List (Option Nat)):Nat→Prop:=fun k=>F k∨some k∈M
structure BO (D:Nat→Prop) (w w':World):Prop where
 os:w'.os=w.os
 tape:w'.tape=w.tape
 output:w'.output=w.output
 size:w.heap.size≤w'.heap.size
 block:∀k,k<w.heap.size→¬D k→w'.heap[k]?=w.heap[k]?
section
variable{D D' F F':Nat→Prop}{M M':List (Option Nat)}{w w' BD:World}
theorem BO.refl(D:Nat→Prop)(w:World):BO D w w:=⟨rfl,rfl,rfl,Nat.le_refl _,fun _ _ _=>rfl⟩
theorem BO.trans(h:BO D w w')(k:BO D w' BD):BO D w BD:=
 ⟨k.os.trans h.os,k.tape.trans h.tape,k.output.trans h.output,Nat.le_trans h.size k.size,fun b hb a=>(k.block b (Nat.lt_of_lt_of_le hb h.size) a).trans (h.block b hb a)⟩
theorem BO.mono(h:BO D w w')(a:∀k,D k→D' k):BO D' w w':=⟨h.os,h.tape,h.output,h.size,fun b hb c=>h.block b hb fun d=>c (a b d)⟩
theorem KY{r:Option Nat}(g:w.grownBy w' r)(a:∀k,r=some k→D k):BO D w w':=⟨g.os,g.tape,g.output,g.size,fun b hb c=>g.block b hb fun e=>c (a b e.symm)⟩
theorem FK(g:Ext w w'):BO D w w':=KY g fun _ e=>by cases e
theorem BO.gr{r:Option Nat}(g:BO (fun k=>some k=r) w w'):w.grownBy w' r:=⟨g.os,g.tape,g.output,g.size,fun b hb a=>g.block b hb a⟩
theorem BO.ext(g:BO (FU FN []) w w'):Ext w w':=⟨g.os,g.tape,g.output,g.size,fun b hb _=>g.block b hb (by rintro(h|h);exact h;cases h)⟩
theorem BO.fl{M2:List (Option Nat)}(g:BO (FU (FU F M) M2) w w'):BO (FU F (M++M2)) w w':=g.mono fun k h=>by
 rcases h with(h|h)|h
 ·exact .inl h
 ·exact .inr (List.mem_append_left _ h)
 ·exact .inr (List.mem_append_right _ h)
theorem Bk.Ci{b:Nat}{t:TypeId}{cs:Array Value}(h:Bk w b t cs)(g:BO D w w')(a:¬D b):Bk w' b t cs:=(g.block b h.lt a).trans h
theorem Bk.gr{b:Nat}{t:TypeId}{cs:Array Value}{r:Option Nat}(h:Bk w b t cs)(g:w.grownBy w' r)(a:some b≠r):Bk w' b t cs:=(g.block b h.lt a).trans h
end
def ZZ (F:Nat→Prop) (B:List (Option Nat)) (Z:Nat→Prop) (n0:Nat) (L:List (Option Nat)):Nat→Prop:=fun b=>(b<n0∧Z b∧¬F b∧some b∉B)∨(n0≤b∧some b∉L)
def ZC (F:Nat→Prop) (M:List (Option Nat)):Nat→Prop:=fun b=>¬F b∧some b∉M
theorem FI{F:Nat→Prop}{M:List (Option Nat)}:∀b,ZC F M b→¬F b∧some b∉M:=fun _ h=>h
def HX (L:List (Option Nat)):List Nat→List (Option Nat)→Prop
 |[],[]=>True
 |j::a,m::M=>L[j]?=some m∧HX L a M
 |_,_=>False
theorem HX.mem{L:List (Option Nat)}:∀{b:List Nat} {M:List (Option Nat)},HX L b M→∀x∈M,∃j∈b,L[j]?=some x
 |[],[],_,x,a=>by cases a
 |j::b,m::M,h,x,a=>by
  rcases List.mem_cons.1 a with rfl|a
  ·exact⟨j,List.mem_cons_self ..,h.1⟩
  ·obtain⟨i,hi,he⟩:=HX.mem h.2 x a;exact⟨i,List.mem_cons_of_mem _ hi,he⟩
 |[],_::_,h,_,_=>h.elim
 |_::_,[],h,_,_=>h.elim
theorem HX.get{L:List (Option Nat)}:∀{b:List Nat} {M:List (Option Nat)},HX L b M→∀(i:Nat) x,M[i]?=some x→∃j,b[i]?=some j∧L[j]?=some x
 |[],[],_,i,x,a=>by simp at a
 |j::b,m::M,h,0,x,a=>by
  obtain rfl:m=x:=by simpa using a
  exact⟨j,rfl,h.1⟩
 |j::b,m::M,h,i+1,x,a=>by
  obtain⟨k,c,he⟩:=HX.get h.2 i x (by simpa using a);exact⟨k,by simpa using c,he⟩
 |[],_::_,h,_,_,_=>h.elim
 |_::_,[],h,_,_,_=>h.elim
theorem HX.sub{L:List (Option Nat)}{a:List Nat}{M:List (Option Nat)}(h:HX L a M):∀x∈M,x∈L:=fun x b=>by
 obtain⟨j,_,he⟩:=h.mem x b;exact List.mem_of_getElem? he
def Lw:List Nat→Bool
 |[]=>true
 |x::l=>l.all (fun y=> !Nat.beq x y)&&Lw l
theorem LW:∀{l:List Nat},Lw l=true→∀(i j k:Nat),l[i]?=some k→l[j]?=some k→i=j
 |[],_,i,j,k,hi,_=>by simp at hi
 |x::l,h,i,j,k,hi,hj=>by
  simp only[Lw,Bool.and_eq_true,List.all_eq_true] at h;have key:∀(m:Nat),l[m]?=some x→False:=fun m hm=>by
   have:=h.1 x (List.mem_of_getElem? hm);rw[Nat.beq_refl] at this;cases this
  cases i with
  |zero=>
   obtain rfl:x=k:=by simpa using hi
   cases j with
   |zero=>rfl
   |succ j=>exact(key j (by simpa using hj)).elim
  |succ i=>
   cases j with
   |zero=>
    obtain rfl:x=k:=by simpa using hj
    exact(key i (by simpa using hi)).elim
   |succ j=>rw[LW h.2 i j k (by simpa using hi) (by simpa using hj)]
structure By (F:Nat→Prop) (B:List (Option Nat)) (w:World):Prop where
 lt:∀k,some k∈B→k<w.heap.size∧¬F k
 ap:∀(i j:Nat) (x:Nat),i≠j→B[i]?=some (some x)→B[j]?≠some (some x)
 ff:∀k,F k→k<w.heap.size
theorem By.none(w:World):By FN [] w:=⟨fun _ h=>(by cases h),fun _ _ _ _ h=>by simp at h,fun _ h=>h.elim⟩
theorem By.grow{F:Nat→Prop}{B:List (Option Nat)}{w w':World}(h:By F B w)(hs:w.heap.size≤w'.heap.size):By F B w':=
 ⟨fun k a=>⟨Nat.lt_of_lt_of_le (h.lt k a).1 hs,(h.lt k a).2⟩,h.ap,fun k a=>Nat.lt_of_lt_of_le (h.ff k a) hs⟩
structure Hp (F:Nat→Prop) (B:List (Option Nat)) (w0:World) (L:List (Option Nat)) (w:World):Prop where
 ch:BO (FU F B) w0 w
 lo:∀k,some k∈L→k<w.heap.size∧¬F k∧(k<w0.heap.size→some k∈B)
 ap:∀(i j:Nat) (x:Nat),i≠j→L[i]?=some (some x)→L[j]?≠some (some x)
 ff:∀k,F k→k<w0.heap.size
theorem Hp.start{F:Nat→Prop}{B:List (Option Nat)}{w:World}(h:By F B w):Hp F B w B w:=⟨BO.refl _ _,fun k a=>⟨(h.lt k a).1,(h.lt k a).2,fun _=>a⟩,h.ap,h.ff⟩
section
variable{F F':Nat→Prop}{B:List (Option Nat)}{w0 w w':World}{Z Z':Nat→Prop}{L L' M:List (Option Nat)}
theorem Hp.sz(h:Hp F B w0 L w):w0.heap.size≤w.heap.size:=h.ch.size
theorem Hp.Ci(h:Hp F B w0 L w){D:Nat→Prop}(g:BO D w w')(c:∀k,D k→F k∨some k∈L):Hp F B w0 L w':=by
 refine⟨⟨g.os.trans h.ch.os,g.tape.trans h.ch.tape,g.output.trans h.ch.output,Nat.le_trans h.sz g.size,fun k a b=>?_⟩,fun k a=>⟨Nat.lt_of_lt_of_le (h.lo k a).1 g.size,(h.lo k a).2⟩,h.ap,h.ff⟩;refine(g.block k (Nat.lt_of_lt_of_le a h.sz) fun d=>?_).trans (h.ch.block k a b);rcases c k d with h1|h1
 ·exact b (.inl h1)
 ·exact b (.inr ((h.lo k h1).2.2 a))
theorem Hp.ext(h:Hp F B w0 L w)(g:Ext w w'):Hp F B w0 L w':=h.Ci (D:=FN) (FK g) fun _ h=>h.elim
theorem Hp.gr(h:Hp F B w0 L w){r:Option Nat}(g:w.grownBy w' r)(i:Nat)(hi:L[i]?=some r):Hp F B w0 L w':=
 h.Ci (D:=fun k=>some k=r) (KY g fun _ e=>e.symm) fun k e=>.inr (by rw[e];exact List.mem_of_getElem? hi)
theorem Hp.new(h:Hp F B w0 L w)(g:Ext w w'){b:Nat}(hb:w.heap.size≤b)(hs:b<w'.heap.size):Hp F B w0 (some b::L) w':=by
 have d:=h.ext g;refine⟨d.ch,fun k a=>?_,?_,h.ff⟩
 ·rcases List.mem_cons.1 a with e|a
  ·cases e;exact⟨hs,fun l=>absurd (h.ff _ l) (by have:=h.sz;omega),fun hl=>absurd hl (by have:=h.sz;omega)⟩
  ·exact d.lo k a
 ·have key:∀(j:Nat) (x:Nat),L[j]?=some (some x)→x≠b:=fun j x m e=>by
   have:=(h.lo x (List.mem_of_getElem? m)).1;omega
  intro i j x f hi hj;cases i with
  |zero=>
   cases j with
   |zero=>exact f rfl
   |succ j=>
    have c:b=x:=by simpa using hi
    exact key j x (by simpa using hj) c.symm
  |succ i=>
   cases j with
   |zero=>
    have c:b=x:=by simpa using hj
    exact key i x (by simpa using hi) c.symm
   |succ j=>exact h.ap i j x (by omega) (by simpa using hi) (by simpa using hj)
theorem Hp.nil(h:Hp F B w0 L w):Hp F B w0 (none::L) w:=by
 refine⟨h.ch,fun k a=>h.lo k (by simpa using a),?_,h.ff⟩;intro i j x b hi hj;cases i with
 |zero=>simp at hi
 |succ i=>
  cases j with
  |zero=>simp at hj
  |succ j=>exact h.ap i j x (by omega) (by simpa using hi) (by simpa using hj)
theorem Hp.Em (h:Hp F B w0 L w) {D:Nat→Prop} (g:BO D w w') (r:∀k,D k→F k∨some k∈L) (i:Nat) {x y:Option Nat} (hi:L[i]?=some x) (n:∀k,y=some k→(x=some k∨w.heap.size≤k)∧k<w'.heap.size):Hp F B w0 (L.set i y) w':=by
 have f:=h.Ci g r;refine⟨f.ch,fun k l=>?_,?_,h.ff⟩
 ·rcases List.mem_or_eq_of_mem_set l with l|e
  ·exact f.lo k l
  ·obtain⟨h1,h2⟩:=n k e.symm;rcases h1 with h1|h1
   ·exact f.lo k (by rw[←h1];exact List.mem_of_getElem? hi)
   ·exact⟨h2,fun s=>absurd (h.ff _ s) (by have:=h.sz;omega),fun hl=>absurd hl (by have:=h.sz;omega)⟩
 ·have c:i<L.length:=(List.getElem?_eq_some_iff.1 hi).1;have key:∀(j z:Nat),j≠i→L[j]?=some (some z)→y≠some z:=fun j z hj o e=>by
   rcases(n z e).1 with h1|h1
   ·exact h.ap j i z hj o (by rw[hi,h1])
   ·have:=(h.lo z (List.mem_of_getElem? o)).1;omega
  intro a b z p ha hb
  by_cases d:a=i
  ·subst d;have m:y=some z:=by simpa[List.getElem?_set,c] using ha
   rw[List.getElem?_set_ne (by omega)] at hb;exact key b z (by omega) hb m
  ·rw[List.getElem?_set_ne (by omega)] at ha
   by_cases q:b=i
   ·subst q;have m:y=some z:=by simpa[List.getElem?_set,c] using hb
    exact key a z d ha m
   ·rw[List.getElem?_set_ne (by omega)] at hb;exact h.ap a b z p ha hb
theorem Hp.row(h:Hp F B w0 L w){x:Option Nat}(g:w.grownBy w' x)(i:Nat){y:Option Nat}(hi:L[i]?=some x)(a:∀k,y=some k→(x=some k∨w.heap.size≤k)∧k<w'.heap.size):Hp F B w0 (L.set i y) w':=
 h.Em (D:=fun k=>some k=x) (KY g fun _ e=>e.symm) (fun k e=>.inr (by rw[e];exact List.mem_of_getElem? hi)) i hi a
theorem Hp.erase(h:Hp F B w0 L w)(i:Nat):Hp F B w0 (L.eraseIdx i) w:=by
 refine⟨h.ch,fun k d=>h.lo k (List.mem_of_mem_eraseIdx d),fun a b x c ha hb=>?_,h.ff⟩;rw[List.getElem?_eraseIdx] at ha hb;split at ha<;>split at hb
 ·exact h.ap a b x c ha hb
 ·exact h.ap a (b+1) x (by omega) ha hb
 ·exact h.ap (a+1) b x (by omega) ha hb
 ·exact h.ap (a+1) (b+1) x (by omega) ha hb
theorem Hp.ne(h:Hp F B w0 L w)(i j:Nat){x:Option Nat}{b:Nat}(a:(i==j)=false)(hi:L[i]?=some (some b))(hj:L[j]?=some x):some b≠x:=fun e=>h.ap i j b (by simpa using a) hi (by rw[hj,e])
theorem Hp.Cz (h:Hp F B w0 L w) (i:Nat) {b:Nat} (hi:L[i]?=some (some b)) (a:List Nat) (hj:(a.all fun j=> !Nat.beq i j)=true) (d:HX L a M) (f:∀k,F' k→F k):¬FU F' M b:=by
 rintro(h1|h1)
 ·exact(h.lo b (List.mem_of_getElem? hi)).2.1 (f b h1)
 ·obtain⟨j,c,he⟩:=d.mem _ h1;have:=List.all_eq_true.1 hj j c;refine h.ap i j b (fun e=>?_) hi he;rw[e,Nat.beq_refl] at this;cases this
theorem XZ(a:∀x∈M,x∈L)(b:∀k,F' k→F k):∀k,FU F' M k→F k∨some k∈L:=fun k h=>h.imp (b k) (a _)
theorem Hp.Cy (h:Hp F B w0 L w) (c l:List Nat) {C:List (Option Nat)} (m:Lw (c++l)=true) (d:HX L c M) (n:HX L l C) (o:∀k,F' k→F k∨some k∈C):By F' M w:=by
 refine⟨fun k f=>⟨(h.lo k (d.sub _ f)).1,fun aA=>?_⟩,fun i j x p hi hj=>?_,fun k f=>?_⟩
 ·rcases o k aA with h1|h1
  ·exact(h.lo k (d.sub _ f)).2.1 h1
  ·obtain⟨i,hi⟩:=List.mem_iff_getElem?.1 f;obtain⟨q,r⟩:=List.mem_iff_getElem?.1 h1;obtain⟨j,hj,he⟩:=d.get i _ hi;obtain⟨s,t,u⟩:=n.get q _ r;have e:j=s:=by
    refine Decidable.byContradiction fun g=>h.ap j s k g he u
   subst e;have v:i<c.length:=(List.getElem?_eq_some_iff.1 hj).1;have h2:=LW m i (c.length+q) j (by rw[List.getElem?_append_left v];exact hj) (by rw[List.getElem?_append_right (by omega)];simpa using t);omega
 ·obtain⟨a,ha,y⟩:=d.get i _ hi;obtain⟨b,hb,z⟩:=d.get j _ hj;have e:a=b:=Decidable.byContradiction fun g=>h.ap a b x g y z;subst e;have aB:i<c.length:=(List.getElem?_eq_some_iff.1 ha).1;have aC:j<c.length:=(List.getElem?_eq_some_iff.1 hb).1;exact p (LW m i j a (by rw[List.getElem?_append_left aB];exact ha) (by rw[List.getElem?_append_left aC];exact hb))
 ·rcases o k f with h1|h1
  ·exact Nat.lt_of_lt_of_le (h.ff k h1) h.sz
  ·exact(h.lo k (n.sub _ h1)).1
theorem Hp.S8 (h:Hp F B w0 L w) {D:Nat→Prop} (c:∀k,D k→F k∨some k∈L):∀b,ZZ F B Z w0.heap.size L b→¬D b:=fun b hb d=>by
 rcases hb with⟨h1,h2,e,f⟩|⟨h1,h2⟩
 ·rcases c b d with a|a
  ·exact e a
  ·exact f ((h.lo b a).2.2 h1)
 ·rcases c b d with a|a
  ·have:=h.ff b a;omega
  ·exact h2 a
theorem Hp.zc(h:Hp F B w0 L w)(a:∀x∈M,x∈L)(c:∀k,F' k→F k∨some k∈L):∀b,ZZ F B Z w0.heap.size L b→¬F' b∧some b∉M:=fun b hb=>
 ⟨h.S8 (D:=F') c b hb,fun hm=>h.S8 (D:=fun k=>some k∈M) (fun k d=>.inr (a _ d)) b hb hm⟩
theorem D1(h:∀b,Z b→Z' b):Mv w Z w Z':=KK fun b hb _=>h b hb
theorem Hp.DH (h:Hp F B w0 L w) {D:Nat→Prop} (g:BO D w w') (a:∀k,D k→F k∨some k∈L):Mv w (ZZ F B Z w0.heap.size L) w' (ZZ F B Z w0.heap.size L):=
 ⟨g.size,fun b hb hl=>⟨hb,g.block b hl (h.S8 a b hb)⟩⟩
theorem Hp.Bx(h:Hp F B w0 L w){r:Option Nat}(g:w.grownBy w' r)(i:Nat)(hi:L[i]?=some r):Mv w (ZZ F B Z w0.heap.size L) w' (ZZ F B Z w0.heap.size L):=
 h.DH (D:=fun k=>some k=r) (KY g fun _ e=>e.symm) fun k e=>.inr (by rw[e];exact List.mem_of_getElem? hi)
theorem Hp.Hk(h:Hp F B w0 L w){D:Nat→Prop}(g:BO D w w')(c:∀k,D k→F k∨some k∈L)(i:Nat){x:Option Nat}(hi:L[i]?=some x){y:Option Nat}(d:∀k,y=some k→(x=some k∨w.heap.size≤k)):Mv w (ZZ F B Z w0.heap.size L) w' (ZZ F B Z w0.heap.size (L.set i y)):=
 ⟨g.size,fun b hb hl=>⟨hb.imp id fun⟨h1,h2⟩=>⟨h1,fun hm=>by
  rcases List.mem_or_eq_of_mem_set hm with hm|e
  ·exact h2 hm
  ·rcases d b e.symm with a|a
   ·exact h2 (by rw[←a];exact List.mem_of_getElem? hi)
   ·omega⟩,g.block b hl (h.S8 c b hb)⟩⟩
theorem Hp.CA(h:Hp F B w0 L w){r:Option Nat}(g:w.grownBy w' r)(i:Nat)(hi:L[i]?=some r){y:Option Nat}(a:∀k,y=some k→(r=some k∨w.heap.size≤k)):Mv w (ZZ F B Z w0.heap.size L) w' (ZZ F B Z w0.heap.size (L.set i y)):=
 h.Hk (D:=fun k=>some k=r) (KY g fun _ e=>e.symm) (fun k e=>.inr (by rw[e];exact List.mem_of_getElem? hi)) i hi a
theorem Mz{n0:Nat}(g:Ext w w'){b:Nat}(hb:w.heap.size≤b):Mv w (ZZ F B Z n0 L) w' (ZZ F B Z n0 (some b::L)):=
 ⟨g.size,fun k a hl=>⟨a.imp id fun⟨h1,h2⟩=>⟨h1,fun hm=>by
  rcases List.mem_cons.1 hm with e|hm
  ·cases e;omega
  ·exact h2 hm⟩,g.block k hl (by simp)⟩⟩
theorem Bq{n0:Nat}:Mv w (ZZ F B Z n0 L) w (ZZ F B Z n0 (none::L)):=KK fun b hb _=>hb.imp id fun⟨h1,h2⟩=>⟨h1,by simpa using h2⟩
theorem X3{n0:Nat}(h:∀x∈L',x∈L):Mv w (ZZ F B Z n0 L) w (ZZ F B Z n0 L'):=KK fun b hb _=>hb.imp id fun⟨h1,h2⟩=>⟨h1,fun hm=>h2 (h _ hm)⟩
theorem AD{n0:Nat}(i:Nat):Mv w (ZZ F B Z n0 L) w (ZZ F B Z n0 (L.eraseIdx i)):=X3 fun _ h=>List.mem_of_mem_eraseIdx h
theorem AQ(a:∀b,Z b→¬F b∧some b∉B)(w:World):Mv w Z w (ZZ F B Z w.heap.size L):=KK fun b hb hl=>.inl ⟨hl,hb,a b hb⟩
theorem AS {n0:Nat} (a:∀x∈M,x∈L):Mv w (ZZ F B Z n0 L) w (ZZ FN [] Z n0 M):=KK fun b hb _=>by
 rcases hb with⟨h1,h2,_⟩|⟨h1,h2⟩
 ·exact .inl ⟨h1,h2,id,by simp⟩
 ·exact .inr ⟨h1,fun hm=>h2 (a _ hm)⟩
theorem Hp.call (h:Hp F B w0 L w) {c:Nat} (hs:w.heap.size≤c) (i:∀k,some k∈M→some k∈L∨c≤k) (e:∀x∈L',x∈L∨x∈M):Mv w' (ZZ FN [] (ZZ F B Z w0.heap.size L) c M) w' (ZZ F B Z w0.heap.size L'):=
 KK fun b hb _=>by
  have h0:=h.sz;rcases hb with⟨h1,h2,_⟩|⟨h1,h2⟩
  ·rcases h2 with d|⟨d,f⟩
   ·exact .inl d
   ·refine .inr ⟨d,fun hm=>?_⟩;rcases e _ hm with a|a
    ·exact f a
    ·rcases i b a with g|g
     ·exact f g
     ·omega
  ·refine .inr ⟨by omega,fun hm=>?_⟩;rcases e _ hm with a|a
   ·have:=(h.lo b a).1;omega
   ·exact h2 a
theorem Hp.Ed(h:Hp F B w0 L w){a:Nat}(hs:w.heap.size≤a):Mv w' (ZZ FN [] (ZZ F B Z w0.heap.size L) a []) w' (ZZ F B Z w0.heap.size L):=h.call hs (fun _ h=>by cases h) (fun _ h=>.inl h)
theorem Hp.fin(h:Hp F B w0 L w):BO (FU F B) w0 w:=h.ch
theorem Hp.Bf(h:Hp FN [] w0 L w):Ext w0 w:=h.ch.ext
theorem Hp.lit{b:Nat}(h:Hp F B w0 L w)(i:Nat)(hi:L[i]?=some (some b))(a:w0.heap.size≤b):ZZ F B Z w0.heap.size (L.eraseIdx i) b:=
 .inr ⟨a,fun hm=>by
  obtain⟨j,hj⟩:=List.mem_iff_getElem?.1 hm;rw[List.getElem?_eraseIdx] at hj;split at hj
  ·exact h.ap i j b (by omega) hi hj
  ·exact h.ap i (j+1) b (by omega) hi hj⟩
theorem Hp.own {b:Nat} (h:Hp F B w0 L w) (i:Nat) (hi:L[i]?=some (some b)) (a:some b∉B):w0.heap.size≤b:=by
 rcases Nat.lt_or_ge b w0.heap.size with h1|h1
 ·exact absurd ((h.lo b (List.mem_of_getElem? hi)).2.2 h1) a
 ·exact h1
end
def Bj {α:Type} (e:Cx α) (t:TypeId) (n0:Nat) (w:World) (Z:Nat→Prop) (A:Option Addr) (c:Nat) (xs:List α):Prop:=
 ∃BE,R2 e w Z BE xs∧E4 w n0 t e.sz A xs.length c BE.flatten
section
variable{α:Type}{e:Cx α}{t:TypeId}{n0:Nat}{w w':World}{Z Z':Nat→Prop}{A:Option Addr}{c:Nat}{xs:List α}
theorem Bj.nil(e:Cx α)(t:TypeId)(n0:Nat)(w:World)(Z:Nat→Prop):Bj e t n0 w Z none 0 []:=⟨[],trivial,E4.nil _ _ _ _⟩
theorem Bj.gr(h:Bj e t n0 w Z A c xs){r:Option Nat}(g:w.grownBy w' r)(a:∀k,ob A=some k→some k≠r)(hm:Mv w Z w' Z'):Bj e t n0 w' Z' A c xs:=by
 obtain⟨BE,h1,h2⟩:=h;exact⟨BE,h1.mv hm,h2.kept g fun k b o d=>a k (by rw[d];rfl) b.symm⟩
theorem Bj.ext(h:Bj e t n0 w Z A c xs)(g:Ext w w')(hm:Mv w Z w' Z'):Bj e t n0 w' Z' A c xs:=h.gr g (fun _ _ e=>by cases e) hm
theorem Bj.up(h:Bj e t n0 w Z A c xs)(hm:Mv w Z w Z'):Bj e t n0 w Z' A c xs:=by
 obtain⟨BE,h1,h2⟩:=h;exact⟨BE,h1.mv hm,h2⟩
theorem Bj.sl(h:Bj e t n0 w Z A c xs)(i:∀k,ob A=some k→n0≤k→Z k):Sl e w Z A c xs:=by
 obtain⟨BE,h1,h2⟩:=h;have l:=h2;rcases h2.2 with⟨a,h0⟩|⟨g,cap,cur,a,d,m,f,_,_,_⟩
 ·have:xs=[]:=List.eq_nil_of_length_eq_zero h0;subst this;cases a;exact Sl.nil _ _ _
 ·cases a;refine⟨f,(fun e=>by cases e),BE,h1,?_⟩;refine PU (hi:=g+1) (lo:=g) ?_ (fun b h1 h2=>by
   obtain rfl:b=g:=by omega
   exact i b rfl d)
  refine⟨lt_of_block m,.inr ⟨g,0,rfl,Nat.le_refl _,Nat.lt_succ_self _,fun j u hu=>?_⟩⟩;have:=World.ownsRow.cells l (g:=g) rfl j u hu;rw[Ge] at this;exact this
theorem Bj.all(h:Bj e t n0 w Z A c xs):Sl e w ZA A c xs:=(h.up My).sl fun _ _ _=>trivial
theorem Bj.JZ(h:Bj e t n0 w Z A c xs):∀k,ob A=some k→k<w.heap.size:=by
 obtain⟨BE,h1,h2⟩:=h;intro k b;rcases h2.2 with⟨a,h0⟩|⟨g,cap,cur,a,f,d,_⟩
 ·obtain⟨rfl,-,-⟩:=Value.slice.inj a;cases b
 ·cases a;cases b;exact lt_of_block d
end
section
variable{α:Type}{e:Cx α}{t:TypeId}{F F':Nat→Prop}{B L M:List (Option Nat)}{n0 n1:Nat}{w0 w w':World}{Z Z':Nat→Prop}{A:Option Addr}{c:Nat}{xs:List α}
theorem Bj.Ci(h:Bj e t n0 w Z A c xs){D:Nat→Prop}(g:BO D w w')(f:∀k,ob A=some k→¬D k)(hm:Mv w Z w' Z'):Bj e t n0 w' Z' A c xs:=by
 obtain⟨BE,h1,h2⟩:=h;refine⟨BE,h1.mv hm,h2.1,h2.2.imp id ?_⟩;rintro⟨b,cap,cur,a,hb,d,i⟩;refine⟨b,cap,cur,a,hb,?_,i⟩;cases a;exact(g.block b (lt_of_block d) (f b rfl)).trans d
theorem Bj.base(h:Bj e t n0 w Z A c xs)(hb:∀k,ob A=some k→n1≤k):Bj e t n1 w Z A c xs:=by
 obtain⟨BE,h1,h2⟩:=h;refine⟨BE,h1,h2.1,h2.2.imp id ?_⟩;rintro⟨b,cap,cur,a,_,d⟩;cases a;exact⟨b,_,cur,rfl,hb b rfl,d⟩
theorem Bj.ge(h:Bj e t n0 w Z A c xs):∀k,ob A=some k→n0≤k:=by
 obtain⟨BE,h1,h2⟩:=h;intro k d;rcases h2.2 with⟨a,_⟩|⟨b,cap,cur,a,hb,_⟩
 ·obtain⟨rfl,-,-⟩:=Value.slice.inj a;cases d
 ·cases a;cases d;exact hb
theorem Hp.Nu (h:Hp F B w0 L w) (i:Nat) (hi:L[i]?=some (ob A)) (b:Bj e t w0.heap.size w (ZZ F B Z w0.heap.size L) A c xs):Sl e w (ZZ F B Z w0.heap.size (L.eraseIdx i)) A c xs:=
 (b.up (AD i)).sl fun k a h0=>.inr ⟨h0,fun hm=>by
  obtain⟨j,hj⟩:=List.mem_iff_getElem?.1 hm;rw[List.getElem?_eraseIdx] at hj;split at hj
  ·exact h.ap i j k (by omega) (by rw[hi,a]) hj
  ·exact h.ap i (j+1) k (by omega) (by rw[hi,a]) hj⟩
theorem Hp.IZ (h:Hp F B w0 L w) (i:Nat) (hi:L[i]?=some (ob A)) (a:List Nat) (hj:(a.all fun j=> !Nat.beq i j)=true) (b:HX L a M) (d:Bj e t w0.heap.size w (ZZ F B Z w0.heap.size L) A c xs):Sl e w (ZZ FN [] Z w0.heap.size M) A c xs:=
 (d.up (AS b.sub)).sl fun k f h0=>.inr ⟨h0,fun hm=>h.Cz (F':=FN) i (by rw[hi,f]) a hj b (fun _ h=>h.elim) (.inr hm)⟩
theorem Hp.kn{b:Nat}(h:Hp F B w0 L w)(hb:w.heap.size≤b):ZZ F B Z w0.heap.size L b:=
 .inr ⟨Nat.le_trans h.sz hb,fun hm=>absurd (h.lo b hm).1 (Nat.not_lt.2 hb)⟩
theorem Kw {b:Nat} {cs:Array Value} {BE:List (List Value)} (hb:Bk w b t cs) (c:n0≤b) (h:R2 e w Z BE xs) (d:BE.flatten=cs.toList) (hm:xs.length≤maxLen):Bj e t n0 w Z (some ⟨b,0,none⟩) xs.length xs:=by
 have hl:=h.Lm;have a:cs.size=xs.length*e.sz:=by rw[←hl,d];simp
 refine⟨BE,h,hl,.inr ⟨b,xs.length,cs,rfl,c,hb,Nat.le_refl _,hm,a,?_⟩⟩;rw[d,List.take_of_length_le (by simp[a])]
theorem Hp.hand (h:Hp F B w0 L w) {D:Nat→Prop} (g:BO D w w') (n:∀k,D k→F k∨some k∈L) (d:Bj e t w.heap.size w' Z' A c xs):Hp F B w0 (ob A::L) w':=by
 have h1:=h.Ci g n;cases f:ob A with
 |none=>exact h1.nil
 |some k=>
  have p:=d.ge k f;have l:=d.JZ k f;refine⟨h1.ch,fun x a=>?_,?_,h.ff⟩
  ·rcases List.mem_cons.1 a with e|a
   ·cases e;have hs:=h.sz;exact⟨l,fun o=>absurd (h.ff _ o) (by omega),fun hl=>absurd hl (by omega)⟩
   ·exact h1.lo x a
  ·have key:∀(j:Nat) (x:Nat),L[j]?=some (some x)→x≠k:=fun j x a e=>by
    have:=(h.lo x (List.mem_of_getElem? a)).1;omega
   intro i j x m hi hj;cases i with
   |zero=>
    cases j with
    |zero=>exact m rfl
    |succ j=>
     have b:k=x:=by simpa using hi
     exact key j x (by simpa using hj) b.symm
   |succ i=>
    cases j with
    |zero=>
     have b:k=x:=by simpa using hj
     exact key i x (by simpa using hi) b.symm
    |succ j=>exact h.ap i j x (by omega) (by simpa using hi) (by simpa using hj)
theorem Hp.PV(h:Hp F B w0 L w){D:Nat→Prop}(g:BO D w w')(d:∀k,D k→F k∨some k∈L)(f:Bj e t w.heap.size w' Z' A c xs){a:Nat→Prop}:Mv w (ZZ F B a w0.heap.size L) w' (ZZ F B a w0.heap.size (ob A::L)):=by
 refine⟨g.size,fun b hb hl=>⟨hb.imp id fun⟨h1,h2⟩=>⟨h1,fun hm=>?_⟩,g.block b hl (h.S8 d b hb)⟩⟩;rcases List.mem_cons.1 hm with e|hm
 ·have:=f.ge b e.symm;omega
 ·exact h2 hm
end
def i64(x:Int):Option Int:=if-9223372036854775808≤x∧x≤9223372036854775807 then some x else none
theorem Ug{x y:Int}(h:i64 x=some y):y=x∧fits x:=by
 unfold i64 at h;split at h
 ·exact⟨(Option.some.inj h).symm,by assumption⟩
 ·cases h
theorem X5{x:Int}(h0:-9223372036854775808≤x)(h1:x≤9223372036854775807):i64 x=some x:=if_pos ⟨h0,h1⟩
def idx{α:Type}(xs:List α)(i:Int):Option α:=if 0≤i then xs[i.toNat]? else none
theorem Uh{α:Type}{xs:List α}{i:Int}{x:α}(h:idx xs i=some x):∃k:Nat,i=k∧xs[k]?=some x∧k<xs.length:=by
 unfold idx at h;split at h
 ·exact⟨i.toNat,by omega,h,(List.getElem?_eq_some_iff.1 h).1⟩
 ·cases h
theorem idx_eq{α:Type}{xs:List α}{k:Nat}(h:k<xs.length):idx xs (k:Int)=some xs[k]:=by
 unfold idx;rw[if_pos (by omega)];simp[h]
def quo(a b:Int):Option Int:=if 0≤a∧1≤b then some (a/b) else none
theorem Ui{a b y:Int}(h:quo a b=some y):y=a/b∧0≤a∧1≤b:=by
 unfold quo at h;split at h
 ·exact⟨(Option.some.inj h).symm,by assumption⟩
 ·cases h
def rem(a b:Int):Option Int:=if 0≤a∧1≤b then some (a%b) else none
theorem Uj{a b y:Int}(h:rem a b=some y):y=a%b∧0≤a∧1≤b:=by
 unfold rem at h;split at h
 ·exact⟨(Option.some.inj h).symm,by assumption⟩
 ·cases h
theorem AN{α:Type}{x:Int}{f:Int→Option α}{r:α}(h:(i64 x).bind f=some r):fits x∧f x=some r:=by
 obtain⟨y,h1,h2⟩:=Option.bind_eq_some_iff.1 h;obtain⟨rfl,a⟩:=Ug h1;exact⟨a,h2⟩
theorem AX{α β:Type}{xs:List α}{i:Int}{f:α→Option β}{r:β}(h:(idx xs i).bind f=some r):∃(k:Nat) (x:α),i=k∧xs[k]?=some x∧k<xs.length∧f x=some r:=by
 obtain⟨x,h1,h2⟩:=Option.bind_eq_some_iff.1 h;obtain⟨k,a,b,c⟩:=Uh h1;exact⟨k,x,a,b,c,h2⟩
theorem NC{α:Type}{a b:Int}{f:Int→Option α}{r:α}(h:(quo a b).bind f=some r):(0≤a∧1≤b)∧f (a/b)=some r:=by
 obtain⟨y,h1,h2⟩:=Option.bind_eq_some_iff.1 h;obtain⟨rfl,c⟩:=Ui h1;exact⟨c,h2⟩
theorem J5{α:Type}{a b:Int}{f:Int→Option α}{r:α}(h:(rem a b).bind f=some r):(0≤a∧1≤b)∧f (a%b)=some r:=by
 obtain⟨y,h1,h2⟩:=Option.bind_eq_some_iff.1 h;obtain⟨rfl,c⟩:=Uj h1;exact⟨c,h2⟩
def FJ (p:Prop) [Decidable p]:Option Unit:=if p then some () else none
theorem Cu{α:Type}{p:Prop}[Decidable p]{f:Unit→Option α}{r:α}(h:(FJ p).bind f=some r):p∧f ()=some r:=by
 unfold FJ at h;split at h
 ·exact⟨by assumption,h⟩
 ·cases h
theorem Aq{α:Type}{b:Bool}{x y:Option α}{r:α}(h:cond b x y=some r)(hb:b=true):x=some r:=by subst hb;exact h
theorem Ar{α:Type}{b:Bool}{x y:Option α}{r:α}(h:cond b x y=some r)(hb:b=false):y=some r:=by subst hb;exact h
theorem bind_some{α β:Type}{x:Option α}{f:α→Option β}{r:β}(h:x.bind f=some r):∃a,x=some a∧f a=some r:=Option.bind_eq_some_iff.1 h
theorem CU{α β a:Type}{x:α}{f:α→Option a}{g:β→Option a}{r:a}(h:Sum.elim f g (.inl x)=some r):f x=some r:=h
theorem CV{α β a:Type}{x:β}{f:α→Option a}{g:β→Option a}{r:a}(h:Sum.elim f g (.inr x)=some r):g x=some r:=h
theorem VK{P:Program}{ro:Option Nat}{c:Code}{Q d:Exit→Act→World→Prop}{a:Act}{w:World}(h:CW P ro c Q a w)(i:∀e a w,Q e a w→d e a w):CW P ro c d a w:=by
 intro b k cs f hb g;obtain⟨e,j,l,h1,h2⟩:=h b k cs f hb g;exact⟨e,j,l,i _ _ _ h1,h2⟩
theorem BX {P:Program} {X:Ctx} {N:Nat} {c:Code} {Q:Exit→Act→World→Prop} {a:Act} {l:Env} {w:World} (d:Exit→Act→World→Prop) (h:CC P X N c d a l w) (b:∀e a w,d e a w→Q e a w):CC P X N c Q a l w:=
 fun s=>VK (h s) b
theorem Zv{X:Ctx}{N:Nat}{Q:Exit→Act→World→Prop}{e:Exit}{a:Act}{w:World}(b:a.tmps.size=N)(c:a.defers=X.ds)(h:LV X N Q e a [] w):Q e a w:=h ⟨b,c,fun _ d=>by cases d⟩
theorem BF{X:Ctx}{N:Nat}{Q:Exit→Act→World→Prop}{e:Exit}{a:Act}{l:Env}{w:World}(h:St X N a l→Q e (B8 a l) w):LV X N Q e a l w:=h
section
variable{P:Program}{a:Act}{w:World}{dst:Option Tmp}{ty:TypeId}{pos:String}{B9:Array Edge}{g:Option (Nat×Bool)}
theorem DD {t:TypeId} {x:Operand} {Z:Nat→Prop} {b o k:Nat} {cs:List Value} {v:Value} (h:One P t) (c:a.eval x=.pointer (some ⟨b,o+k,none⟩)) (d:Rz w Z (some ⟨b,o,none⟩) cs) (e:cs[k]?=some v):
  Ce P ⟨dst,.load t x,ty,pos,B9,g⟩ a w (fun u w'=>u=v∧w'=w):=O8 h c d.cells e
theorem Bs{t:TypeId}{x:Operand}{Z:Nat→Prop}{b o:Nat}{cs:List Value}{v:Value}(h:One P t)(c:a.eval x=.pointer (some ⟨b,o,none⟩))(d:Rz w Z (some ⟨b,o,none⟩) cs)(e:cs[0]?=some v):
  Ce P ⟨dst,.load t x,ty,pos,B9,g⟩ a w (fun u w'=>u=v∧w'=w):=O8 (k:=0) h c d.cells e
theorem MA{t:TypeId}{x:Operand}{Z:Nat→Prop}{n b o k:Nat}{cs l:List Value}(h:E8 P t n)(c:a.eval x=.pointer (some ⟨b,o+k,none⟩))(d:Rz w Z (some ⟨b,o,none⟩) cs)
  (hl:(cs.drop k).take n=l)(e:l.length=n):Ce P ⟨dst,.load t x,ty,pos,B9,g⟩ a w (fun u w'=>u=.agg l.toArray∧w'=w):=N1 h c d.cells hl e
theorem CD{t:TypeId}{x:Operand}{Z:Nat→Prop}{n b o:Nat}{cs l:List Value}(h:E8 P t n)(c:a.eval x=.pointer (some ⟨b,o,none⟩))(d:Rz w Z (some ⟨b,o,none⟩) cs)
  (hl:cs.take n=l)(e:l.length=n):Ce P ⟨dst,.load t x,ty,pos,B9,g⟩ a w (fun u w'=>u=.agg l.toArray∧w'=w):=N1 (k:=0) h c d.cells (by simpa using hl) e
theorem ID {α:Type} {e:Cx α} {s x:Operand} {t r:TypeId} {z:Value} {sz bytes:Nat} (aP:P.underlying t=some (.slice r)) (hi:(P.info? r).map (fun i=>(i.zero,i.size,i.bytes))=some (some z,sz,bytes)) (aE:z.cells.size=sz) (aF:e.sz=sz) (h0:0<sz)
  {n0:Nat} {Z:Nat→Prop} {A B:Option Addr} {c d n:Nat} {xs ys:List α} (hs:a.eval s=.slice A n c) (aQ:xs.length=n) (aR:a.eval x=.slice B ys.length d) (aC:Bj e r n0 w Z A c xs) (aG:∃BE,R2 e w Z BE ys∧Rz w ZA B BE.flatten)
  (aH:xs.length+ys.length≤maxLen) (l:(xs.length+ys.length)*bytes≤140737488355328) (y:n0≤w.heap.size) (aI:ys≠[]):
  Ce P ⟨dst,.call {callee:=.builtin .append,args:= #[s,x],argTypes:= #[t,t]},ty,pos,B9,g⟩ a w (fun v w'=>∃p aA,v=.slice p (xs++ys).length aA∧w.grownBy w' (ob A)∧(∀k,ob p=some k→(ob A=some k∨w.heap.size≤k)∧k<w'.heap.size)∧
   ∃BE f,R2 e w Z BE xs∧R2 e w Z f ys∧E4 w' n0 r e.sz p (xs++ys).length aA (BE++f).flatten):=by
 obtain⟨BE,h2,aS⟩:=aC;obtain⟨f,aB,aT⟩:=aG;subst aF;subst aQ;have aJ:f.flatten≠[]:=fun aU=>by
  have:=aB.Lm;rw[aU] at this;have hl:0<ys.length:=List.length_pos_iff.2 aI;have:=Nat.mul_pos hl h0;simp at*;omega
 obtain⟨b,o,rfl,-,-,aV⟩:=aT.resolve_left aJ;refine(S7 (ad:=⟨b,o,none⟩) (news:=f.flatten) (m:=ys.length) aP hi aE h0 hs aR aS (fun j u hu=>by rw[Ge];exact aV j u hu) aB.Lm aB.one aH l y).mono ?_;rintro v w' ⟨p,aA,rfl,q,aK,-,aW⟩;rw[XY] at aK;refine⟨p,aA,by rw[List.length_append],aK,fun k aL=>?_,BE,f,h2,aB,by rw[List.length_append,List.flatten_append];exact q⟩;have a0:=q.JZ (k:=k) (o:=0);rcases q.2 with⟨aD,_⟩|⟨aM,aX,aY,aD,_,aN,_⟩
 ·obtain⟨rfl,-,-⟩:=Value.slice.inj aD;cases aL
 ·cases aD;have aO:aM=k:=by simpa[ob] using aL
  subst aO;refine⟨?_,lt_of_block aN⟩;rcases aW aM 0 rfl with⟨o',aZ⟩|h
  ·left;rw[aZ];rfl
  ·exact .inr h
theorem DJ{α:Type}{e:Cx α}{t:TypeId}{n0:Nat}{w w':World}{Z Z':Nat→Prop}{A:Option Addr}{c:Nat}{xs ys:List α}
  (h:∃BE a,R2 e w Z BE xs∧R2 e w Z a ys∧E4 w' n0 t e.sz A (xs++ys).length c (BE++a).flatten)(hm:Mv w Z w' Z'):Bj e t n0 w' Z' A c (xs++ys):=by
 obtain⟨BE,a,h1,h2,b⟩:=h;exact⟨BE++a,(h1.mv hm).append (h2.mv hm),b⟩
theorem Sl.news{α:Type}{e:Cx α}{Z:Nat→Prop}{A:Option Addr}{c:Nat}{xs:List α}(h:Sl e w Z A c xs):∃BE,R2 e w Z BE xs∧Rz w ZA A BE.flatten:=by
 obtain⟨_,_,BE,h1,h2⟩:=h;exact⟨BE,h1,h2.mv My⟩
theorem II {α:Type} {e:Cx α} {Z:Nat→Prop} {b:Nat} {t:TypeId} {cs:Array Value} {BE:List (List Value)} {xs:List α} (hb:Bk w b t cs) (h:R2 e w Z BE xs) (a:BE.flatten=cs.toList):∃BE,R2 e w Z BE xs∧Rz w ZA (some ⟨b,0,none⟩) BE.flatten:=
 ⟨BE,h,.inr ⟨b,0,rfl,trivial,hb.lt,fun j u hu=>by rw[Nat.zero_add,hb.cell];rw[a] at hu;simpa using hu⟩⟩
theorem FZ{α:Type}{e:Cx α}{Z:Nat→Prop}{b:Nat}{t:TypeId}{cs:Array Value}{BE:List (List Value)}{xs:List α}(hb:Bk w b t cs)(a:Z b)(h:R2 e w Z BE xs)(d:BE.flatten=cs.toList){c:Nat}(hl:xs.length≤c):Sl e w Z (some ⟨b,0,none⟩) c xs:=
 ⟨hl,(fun e=>by cases e),BE,h,.inr ⟨b,0,rfl,a,hb.lt,fun j u hu=>by rw[Nat.zero_add,hb.cell];rw[d] at hu;simpa using hu⟩⟩
end
def LX(D:Nat→Bool)(i:Nat):Nat→Bool:=fun j=>cond (Nat.beq j i) true (D j)
def LY(V:Nat→Value)(i:Nat)(v:Value):Nat→Value:=fun j=>cond (Nat.beq j i) v (V j)
theorem S9(D:Nat→Bool)(i:Nat):LX D i i=true:=by unfold LX;rw[Nat.beq_refl];rfl
theorem VM(D:Nat→Bool){i j:Nat}(h:j≠i):LX D i j=D j:=by
 have:Nat.beq j i=false:=by
  cases hb:Nat.beq j i with
  |false=>rfl
  |true=>exact absurd (Nat.eq_of_beq_eq_true hb) h
 unfold LX;rw[this];rfl
theorem Ta(V:Nat→Value)(i:Nat)(v:Value):LY V i v i=v:=by unfold LY;rw[Nat.beq_refl];rfl
theorem VN(V:Nat→Value){i j:Nat}(v:Value)(h:j≠i):LY V i v j=V j:=by
 have:Nat.beq j i=false:=by
  cases hb:Nat.beq j i with
  |false=>rfl
  |true=>exact absurd (Nat.eq_of_beq_eq_true hb) h
 unfold LY;rw[this];rfl
structure Kk (L:List Oper) (a:Act) (l:Env) (D:Nat→Bool) (V:Nat→Value) (k:Nat) (o:Oper) (a':Act):Prop where
 out:∀s,isDst L s=false→sl a' s=lk (sl a s) l s
 Vh:∀j d,Fv o j=true→Cn L j=some d→sl a' d=V j
 dn:∀j,Fv o j=true→D j=true
 me:D k=false
 down:∀j o',L[j]?=some o'→D j=true→∀k',Fv o' k'=true→D k'=true
theorem Kk.no{L:List Oper}{a:Act}{l:Env}{D:Nat→Bool}{V:Nat→Value}{k:Nat}{o:Oper}{a':Act}(K:Kk L a l D V k o a')(j:Nat)(o':Oper)(hj:L[j]?=some o')(h:Fv o' k=true):D j=false:=by
 cases hb:D j with
 |false=>rfl
 |true=>have:=K.down j o' hj hb k h;rw[K.me] at this;cases this
theorem Kk.later {N:Nat} {L:List Oper} {a:Act} {l:Env} {D:Nat→Bool} {V:Nat→Value} {k:Nat} {o:Oper} {a':Act} (K:Kk L a l D V k o a') (f:Mp N L=true) (e:∀s,(∀j,Cn L j=some s→D j=false)→sl a' s=lk (sl a s) l s)
  (j d:Nat) (o':Oper) (hj:L[j]?=some o') (b:o'.dst=some d) (c:Fv o' k=true):sl a' d=lk (sl a d) l d:=e d fun i hi=>by
 have h1:Cn L j=some d:=by simp[Cn,hj,b]
 obtain rfl:=(Kj f j i d h1).2 hi;exact K.no j o' hj c
section
variable(P:Program)(L:List Oper)(a:Act)(l:Env)(I:(Nat→Bool)→(Nat→Value)→World→Prop)
structure Sz (D:Nat→Bool) (V:Nat→Value) (k:Nat) (o:Oper) (a':Act):Prop extends Kk L a l D V k o a' where
 later:∀(j d:Nat) (o':Oper),L[j]?=some o'→o'.dst=some d→Fv o' k=true→sl a' d=lk (sl a d) l d
def SA(k:Nat)(o:Oper):Prop:=∀D V a' w',Sz L a l D V k o a'→I D V w'→
 (Region.wanted o (yielded L.toArray a'.tmps)=true∧Ce P o a' w' (fun v BD=>I (LX D k) (LY V k v) BD))∨
 (Region.wanted o (yielded L.toArray a'.tmps)=false∧I (LX D k) (LY V k undef) w')
def PW:Nat→Nat→List Oper→Prop
 |0,_,_=>True
 |_+1,_,[]=>True
 |m+1,k,o::R=>SA P L a l I k o∧PW m (k+1) R
def PX:Nat→Nat→List Oper→(Nat→Value)→Env→Env
 |0,_,_,_,l=>l
 |_+1,_,[],_,l=>l
 |m+1,k,o::R,V,l=>match o.dst with
  |some d=>PX m (k+1) R V ((d,V k)::l)
  |none=>PX m (k+1) R V l
end
section
variable{P:Program}{X:Ctx}{N:Nat}{L:List Oper}{Q:Exit→Act→World→Prop}{a:Act}{l:Env}{w:World}{I:(Nat→Bool)→(Nat→Value)→World→Prop}{k:Nat}{o:Oper}
theorem sj(b:o.guard=none)(h:∀D V a' w',Sz L a l D V k o a'→I D V w'→Ce P o a' w' (fun v BD=>I (LX D k) (LY V k v) BD)):SA P L a l I k o:=
 fun D V a' w' K c=>.inl ⟨by unfold Region.wanted;rw[b],h D V a' w' K c⟩
theorem N7:∀{m:Nat} {R:List Oper} {k:Nat},PW P L a l I m k R→∀(i:Nat) (o:Oper),i<m→R[i]?=some o→SA P L a l I (k+i) o
 |0,_,_,_,i,o,hi,_=>absurd hi (by omega)
 |_+1,[],_,_,i,o,_,b=>by simp at b
 |m+1,o'::R,k,h,i,o,hi,b=>by
  cases i with
  |zero=>
   obtain rfl:o'=o:=by simpa using b
   exact h.1
  |succ i=>
   have:=N7 h.2 i o (by omega) (by simpa using b);rw[Nat.add_assoc,Nat.add_comm 1 i] at this;exact this
theorem PY{V:Nat→Value}{G:Env→Prop}{w':World}:∀(m:Nat) (R:List Oper) (k:Nat) (l':Env),G (PX m k R V l')→LP X N a (fun k v _=>v=V k) (fun _ _=>True) G w' m k R l'
 |0,_,_,_,h=>fun _=>h
 |_+1,[],_,_,h=>fun _=>h
 |m+1,o::R,k,l',h=>by
  simp only[LP];simp only[PX] at h;cases b:o.dst with
  |none=>rw[b] at h;exact PY m R (k+1) l' h
  |some d=>rw[b] at h;rintro v rfl;exact PY m R (k+1) _ h
theorem Jc{id:Nat}(m:Nat)(I:(Nat→Bool)→(Nat→Value)→World→Prop)(hm:P.follows .mixedOrders=true)(aR:M8 N L []=true)(a0:(Nat.ble m L.length&&KU L m)=true)(h0:I (fun _=>false) (fun _=>undef) w.drew)
  (hs:PW P L a l I m 0 L)(a9:∀D V w',(∀j,Nat.blt j m=true→D j=true)→I D V w'→WL P X N L.toArray Q (L.drop m) a (PX m 0 L V l) w'):CC P X N (.region id L.toArray true) Q a l w:=fun st=>
 wpIn_region_any hm (by
  have aL:=aR;simp only[M8,Bool.and_eq_true] at aL;obtain⟨⟨aM,a2⟩,_⟩:=aL;rw[Bool.and_eq_true] at a0;obtain⟨bA,a3⟩:=a0;have bB:m≤L.length:=Nat.le_of_ble_eq_true bA;have aE:=Kj a2;have fin:∀(fuel:Nat) (listed:Array Bool) (a':Act) (w':World) (D:Nat→Bool) (V:Nat→Value),listed.toList.count false≤fuel→listed.size=L.length→a'.tmps.size=N→a'.defers=X.ds→
    (∀s,(∀j,Cn L j=some s→listed.getD j false=false)→sl a' s=lk (sl a s) l s)→(∀j d,listed.getD j false=true→Cn L j=some d→sl a' d=V j)→(∀j,j<L.length→D j=listed.getD j false)→
    I D V w'→(∀j,m≤j→listed.getD j false=false)→(∀j,j<m→listed.getD j false=true)→wpAnyIn (Wd X.ro) 0 P .any L.toArray Q fuel listed a' w':=by
   intro fuel listed a' w' D V aS u y aC q n z aQ b Lc;have bC:wpListIn (Wd X.ro) 0 P L.toArray Q (L.drop m) a' w':=by
    refine M9 (K:=wpListIn (Wd X.ro) 0 P L.toArray Q (L.drop m) a' w') (X:=X) (N:=N) (Φ:=fun k v _=>v=V k) (fun _ _=>True) (fun l'=>WL P X N L.toArray Q (L.drop m) a l' w') w' a' trivial y aC (fun l' bD bR e=>by rw[e];exact bR bD) m L 0 l st bB (fun i d hi=>(aE i i d hi).1) (fun i j d hi hj=>(aE i j d hi).2 hj)
     (PY m L 0 l (a9 D V w' (fun j hj=>by
      have aH:j<m:=by simpa[Nat.blt_eq] using hj
      rw[z j (by omega)];exact Lc j aH) aQ)) (fun i d aT aK=>?_) (fun s r=>?_)
    ·rw[Nat.zero_add];exact n i d (Lc i aT) aK
    ·refine q s fun j hj=>?_;rcases Nat.lt_or_ge j m with h|h
     ·exact absurd hj (r j h)
     ·exact b j h
   refine PL a3 aM (L.drop m) m fuel listed a' w' rfl (Nat.le_refl _) ?_ u (fun i hi=>?_) bC
   ·refine Nat.le_trans ?_ aS;have e:listed.toList.drop m=List.replicate (L.length-m) false:=by
     apply List.ext_getElem
     ·simp[u]
     ·intro i h1 h2;simp at h1;have:=b (m+i) (by omega);rw[Array.getD_eq_getD_getElem?,Array.getElem?_eq_getElem (by omega)] at this;simpa using this
    have h2:(listed.toList.drop m).count false≤listed.toList.count false:=(List.drop_sublist m listed.toList).count_le false;rw[e,List.count_replicate_self] at h2;simpa using h2
   ·rcases Nat.lt_or_ge i m with h|h
    ·simp[Lc i h,h]
    ·simp only[b i h];constructor
     ·intro aU;cases aU
     ·intro aU;omega
  have main:∀(fuel:Nat) (listed:Array Bool) (a':Act) (w':World) (D:Nat→Bool) (V:Nat→Value),listed.toList.count false≤fuel→listed.size=L.length→a'.tmps.size=N→a'.defers=X.ds→
    (∀s,(∀j,Cn L j=some s→listed.getD j false=false)→sl a' s=lk (sl a s) l s)→(∀j d,listed.getD j false=true→Cn L j=some d→sl a' d=V j)→(∀j,j<L.length→D j=listed.getD j false)→
    (∀(j:Nat) (o:Oper),L[j]?=some o→listed.getD j false=true→∀e∈o.after,Region.binds .any e=true→listed.getD e.on false=true)→I D V w'→(∀j,m≤j→listed.getD j false=false)→wpAnyIn (Wd X.ro) 0 P .any L.toArray Q fuel listed a' w':=by
   intro fuel
   induction fuel with
   |zero=>
    intro listed a' w' D V aS u y aC q n z t aQ b;refine fin 0 listed a' w' D V aS u y aC q n z aQ b fun j hj=>?_;have aH:j<listed.size:=by omega
    cases hb:listed[j] with
    |true=>simp[aH,hb]
    |false=>
     have:false∈listed.toList:=by rw[←hb];simp
     have:=List.count_pos_iff.2 this;omega
   |succ fuel ih=>
    intro listed a' w' D V aS u y aC q n z t aQ b
    by_cases aN:∀j,j<m→listed.getD j false=true
    ·exact fin (fuel+1) listed a' w' D V aS u y aC q n z aQ b aN
    have hex:∃j,j<m∧listed.getD j false=false:=by
     false_or_by_contra
     rename_i bE
     refine aN fun j hj=>?_;cases hb:listed.getD j false with
     |true=>rfl
     |false=>exact absurd ⟨j,hj,hb⟩ bE
    constructor
    ·intro bS;exfalso;obtain⟨j,hj,hb⟩:=hex;refine absurd hb ?_;rw[Bool.not_eq_false];clear hb
     induction j using Nat.strongRecOn with
     |_ j bF=>
      cases hb:listed.getD j false with
      |true=>rfl
      |false=>
       exfalso;have aH:j<listed.size:=by omega
       have hm:j∈Region.ready .any L.toArray listed:=mem_ready.2 ⟨by simp[aH] at hb⊢;exact hb,L[j],by simp,fun e he c=>by
        have h1:=Fw aM j L[j] (List.getElem?_eq_getElem (by omega)) e he c;exact bF e.on (by omega) (by omega)⟩
       rw[bS] at hm;cases hm
    ·intro i hi;obtain⟨h0,o,bG,aF⟩:=mem_ready.1 hi;have aA:L[i]?=some o:=by simpa using bG
     have bH:i<L.length:=(List.getElem?_eq_some_iff.1 aA).1;have aD:i<listed.size:=by omega
     have aO:listed.getD i false=false:=by simp[aD] at h0⊢;exact h0
     have aT:i<m:=by
      rcases Nat.lt_or_ge i m with h|h
      ·exact h
      ·obtain⟨j,hj,hb⟩:=hex;have:=LQ (p:=fun x=>listed.getD x false=true) (fun d od bI aI k aR=>by
        obtain⟨e,he,c,aB⟩:=F1.1 aR;have:=t d od bI aI e he c
        rwa[aB] at this) (Ll a3 aA h j (by omega)) (fun bT a4 k aR=>by
        rw[aA] at a4;obtain rfl:o=bT:=by simpa using a4
        obtain⟨e,he,c,aB⟩:=F1.1 aR;have:=aF e he c
        rwa[aB] at this)
       rw[hb] at this;cases this
     have aI:∀j,Fv o j=true→listed.getD j false=true∧j<L.length:=fun j hj=>by
      obtain⟨e,he,c,aB⟩:=F1.1 hj;have h1:=aF e he c;have h2:=Fw aM i o aA e he c;rw[aB] at h1 h2;exact⟨h1,by omega⟩
     have a5:Kk L a l D V i o a':=by
      refine⟨fun s r=>q s fun j hj=>?_,fun j d hj aK=>n j d (aI j hj).1 aK,fun j hj=>by rw[z j (aI j hj).2];exact(aI j hj).1,by rw[z i bH];exact aO,fun j bJ hj a6 k' aL=>?_⟩
      ·have:=Mq.2 ⟨j,hj⟩;rw[r] at this;cases this
      ·have aV:j<L.length:=(List.getElem?_eq_some_iff.1 hj).1;rw[z j aV] at a6;obtain⟨e,he,c,aB⟩:=F1.1 aL;have h1:=t j bJ hj a6 e he c;have h2:=Fw aM j bJ hj e he c;rw[aB] at h1 h2;rw[z k' (by omega)];exact h1
     have hK:Sz L a l D V i o a':=⟨a5,a5.later a2 fun s r=>q s fun j hj=>by
      have aV:j<L.length:=by
       unfold Cn at hj;cases bK:L[j]? with
       |none=>rw[bK] at hj;cases hj
       |some o=>exact(List.getElem?_eq_some_iff.1 bK).1
      rw[←z j aV];exact r j hj⟩
     have aG:Cn L i=o.dst:=by simp[Cn,aA]
     have step:∀v BD,I (LX D i) (LY V i v) BD→wpAnyIn (Wd X.ro) 0 P .any L.toArray Q fuel (listed.setIfInBounds i true) (a'.put o.dst v) BD:=by
      intro v BD aW;have aX:∀s,(∀d,o.dst=some d→d≠s)→sl (a'.put o.dst v) s=sl a' s:=by
       intro s r;cases aK:o.dst with
       |none=>rfl
       |some d=>exact Mt (r d aK)
      refine ih _ _ _ (LX D i) (LY V i v) ?_ (by simp[u]) ?_ ?_ ?_ ?_ ?_ ?_ aW (fun j hj=>by rw[Ec (by omega)];exact b j hj)
      ·have aP:i<listed.toList.length:=by simpa using aD
       have aY:listed.toList[i]=false:=by
        simp[aD] at aO;simpa using aO
       have bL:(listed.setIfInBounds i true).toList=listed.toList.set i true:=by simp
       rw[bL,List.count_set aP,aY];have h1:0<listed.toList.count false:=List.count_pos_iff.2 (by rw[←aY];exact List.getElem_mem aP);have bU:(if (false==false)=true then 1 else 0)=1:=rfl;have bV:(if (true==false)=true then 1 else 0)=0:=rfl;rw[bU,bV];omega
      ·cases o.dst<;>simp[Act.put,y]
      ·cases o.dst<;>simp[Act.put,aC]
      ·intro s r;rw[aX s (fun d aK bM=>by
        subst bM;have:=r i (by rw[aG,aK]);rw[Hj aD] at this;cases this)]
       refine q s fun j hj=>?_;have:=r j hj
       by_cases g:i=j
       ·subst g;exact aO
       ·rwa[Ec g] at this
      ·intro j d hj aJ
       by_cases g:i=j
       ·subst g;rw[aG] at aJ;have aP:d<a'.tmps.size:=by rw[y];exact(aE i i d (by rw[aG,aJ])).1
        rw[aJ,Nn aP,Ta]
       ·rw[Ec g] at hj;have:sl (a'.put o.dst v) d=sl a' d:=by
         refine aX d fun d' bN bO=>?_;subst bO;exact g ((aE i j d' (by rw[aG,bN])).2 aJ)
        rw[this,VN _ _ (Ne.symm g)];exact n j d hj aJ
      ·intro j hj
       by_cases g:i=j
       ·subst g;rw[S9,Hj aD]
       ·rw[VM _ (Ne.symm g),Ec g];exact z j hj
      ·intro j bP hj a7 e he c
       by_cases a8:i=e.on
       ·rw[←a8];exact Hj aD
       ·rw[Ec a8]
        by_cases g:i=j
        ·subst g;rw[aA] at hj;obtain rfl:o=bP:=by simpa using hj
         exact aF e he c
        ·rw[Ec g] at a7;exact t j bP hj a7 e he c
     have bW:=N7 hs i o aT aA;unfold wpOpIn;simp only[bG];rcases bW D V a' w' (by rw[Nat.zero_add];exact hK) aQ with⟨hw,bQ⟩|⟨hw,hu⟩
     ·rw[if_pos hw];rw[Nat.zero_add] at bQ;exact bQ.wp fun v BD aW=>step v BD aW
     ·rw[if_neg (by rw[hw];simp)];rw[Nat.zero_add] at hu;exact⟨fun f _=>NY X.ro f,step undef w' hu⟩
  have aZ:∀j,(Array.replicate L.length false).getD j false=false:=by
   intro j;rw[Array.getD_eq_getD_getElem?];rcases Nat.lt_or_ge j L.length with h|h
   ·simp[h]
   ·simp[h]
  have e:L.toArray.size=L.length:=by simp
  rw[e];refine main L.length (Array.replicate L.length false) (B8 a l) w.drew (fun _=>false) (fun _=>undef) (Nat.le_trans (List.count_le_length ..) (by simp)) (by simp) (by rw[Kr,st.sz]) (by rw[El,st.df]) (fun s _=>KN st s) (fun j d h=>?_) (fun j _=>(aZ j).symm) (fun j o h aU=>?_) h0 (fun j _=>aZ j)
  ·rw[aZ j] at h;cases h
  ·rw[aZ j] at aU;cases aU)
end
end Go.Proofs.YtbhofkcbfblijaaGreat
end
section
namespace Go.Proofs.YtbhofkcbfblijaaGreat
open Go.RowKit Go.WideShapes
section
variable{P:Program}{L:List Oper}{a:Act}{l:Env}{T:Nat→Act→World→Prop}{Φ:Nat→Value→World→Prop}{sp:List Nat}{S:Nat→World→World→Prop}{k:Nat}{op:Op}{ty:TypeId}{pos:String}{B9:Array Edge}{dst:Option Nat}
theorem od{c:Value}(hs:sp.contains k=false)(b:∀w,Φ k c w)(h:∀{a' w' ph},HQ L a l T Φ sp k ⟨dst,op,ty,pos,B9,none⟩ a' w' ph→Ce P ⟨dst,op,ty,pos,B9,none⟩ a' w' (fun u BD=>u=c∧BD=w')):Hh P L a l S T Φ sp k ⟨dst,op,ty,pos,B9,none⟩:=
 XX rfl hs b fun _ _ _ K=>h K
end
def PZ(P:Program)(a:Act)(l:Env)(w:World):ResultVar→Value→Prop
 |.tmp t,v=>ev a l (.tmp t)=v
 |.cell p t,v=>∃ad,ev a l (.tmp p)=.pointer (some ad)∧(loadVar t ad).run P w=.ok v w
section
variable{P:Program}{N:Nat}{a:Act}{l:Env}{w:World}
theorem Jw{fn:Func}{i d:ResultVar}{v v':Value}{R:Value→World→Prop}(f:fn.results= #[i,d])(h1:PZ P a l w i v)(h2:PZ P a l w d v')(h:R (.tuple #[v,v']) w):
  LV X0 N (bodyPost P fn (fun e w'=>∃v,e=.returned v∧R v w')) .ret a l w:=fun s=>by
 refine bodyPost_ret (v:=.tuple #[v,v']) ?_ (by rw[El,s.df]) ⟨_,rfl,h⟩;cases i with
 |tmp t=>
  have c:(B8 a l).tmps.getD t undef=v:=ee s h1;simp only[Array.getD_eq_getD_getElem?] at c;cases d with
  |tmp u=>
   have b:(B8 a l).tmps.getD u undef=v':=ee s h2;simp only[Array.getD_eq_getD_getElem?] at b;simp[results,f,c,b]
  |cell p t=>
   obtain⟨ad,j,g⟩:=h2;have b:(B8 a l).tmps.getD p undef=.pointer (some ad):=ee s j;simp only[Array.getD_eq_getD_getElem?] at b;simp[results,f,c,b,asAddr,g]
 |cell q t=>
  obtain⟨k,j,g⟩:=h1;have c:(B8 a l).tmps.getD q undef=.pointer (some k):=ee s j;simp only[Array.getD_eq_getD_getElem?] at c;cases d with
  |tmp u=>
   have b:(B8 a l).tmps.getD u undef=v':=ee s h2;simp only[Array.getD_eq_getD_getElem?] at b;simp[results,f,c,b,asAddr,g]
  |cell p t=>
   obtain⟨ad,m,n⟩:=h2;have b:(B8 a l).tmps.getD p undef=.pointer (some ad):=ee s m;simp only[Array.getD_eq_getD_getElem?] at b;simp[results,f,c,b,asAddr,g,n]
end
def J6(a n:Int):Int:=a*2^n.toNat
def OF(a n:Int):Option Unit:=if 0≤n∧n<64∧-9223372036854775808≤a*2^n.toNat∧a*2^n.toNat≤9223372036854775807 then some () else none
theorem Pb{α:Type}{a n:Int}{f:Unit→Option α}{r:α}(h:(OF a n).bind f=some r):(0≤n∧n<64∧fits (J6 a n))∧f ()=some r:=by
 unfold OF at h;split at h
 ·rename_i h1;exact⟨⟨h1.1,h1.2.1,h1.2.2⟩,h⟩
 ·cases h
def SC(a b:Int):Option Unit:=if (0≤a∧a≤9223372036854775807)∧(0≤b∧b≤9223372036854775807) then some () else none
theorem Tb{α:Type}{a b:Int}{f:Unit→Option α}{r:α}(h:(SC a b).bind f=some r):((0≤a∧a≤9223372036854775807)∧(0≤b∧b≤9223372036854775807))∧f ()=some r:=by
 unfold SC at h;split at h
 ·exact⟨by assumption,h⟩
 ·cases h
def P0(a b:Int):Int:=((a.toNat|||b.toNat:Nat):Int)
def MB(k:IntKind)(n:Int):Option Unit:=if k.wrap n=n then some () else none
theorem KZ{α:Type}{k:IntKind}{n:Int}{f:Unit→Option α}{r:α}(h:(MB k n).bind f=some r):k.wrap n=n∧f ()=some r:=by
 unfold MB at h;split at h
 ·exact⟨by assumption,h⟩
 ·cases h
section
variable{P:Program}{a:Act}{w:World}{dst:Option Tmp}{ty:TypeId}{pos:String}{B9:Array Edge}{g:Option (Nat×Bool)}
theorem P1{x y:Operand}{m n:Int}{t b:TypeId}(c:a.eval x=.int .i64 m)(d:a.eval y=.int .i64 n)(h0:0≤m)(h1:1≤n)(f:fits (m/n)):Ce P ⟨dst,.binOp .quo t x y b,ty,pos,B9,g⟩ a w (fun u w'=>u=.int .i64 (m/n)∧w'=w):=
 C9 (by
  have e:m.tdiv n=m/n:=Int.tdiv_eq_ediv_of_nonneg h0;have h:¬n=0:=by omega
  simp[execOp,c,d,eqGuard,binOp,Op.intDiv,h,e,Jv f])
theorem Vl{x y:Operand}{m n:Int}{k:IntKind}{t b:TypeId}(c:a.eval x=.int .i64 m)(d:a.eval y=.int k n)(h:0≤n∧n<64∧fits (J6 m n)):Ce P ⟨dst,.binOp .shl t x y b,ty,pos,B9,g⟩ a w (fun u w'=>u=.int .i64 (J6 m n)∧w'=w):=
 C9 (by
  have e:¬n<0:=by omega
  have hb:min n.toNat IntKind.i64.bits=n.toNat:=by
   have:IntKind.i64.bits=64:=rfl;omega
  have f:IntKind.i64.wrap (m*2^n.toNat)=m*2^n.toNat:=Jv h.2.2;simp[execOp,c,d,eqGuard,binOp,Op.shift,e,hb,f,J6])
theorem Vm{m:Int}(h0:0≤m)(h1:m≤9223372036854775807):(BitVec.ofInt 64 m).toNat=m.toNat:=by
 rw[BitVec.toNat_ofInt];omega
theorem Uk{k:Nat}(h:k≤9223372036854775807):IntKind.i64.wrap (k:Int)=k:=Jv ⟨by omega,by omega⟩
theorem Z5{x y:Operand}{m n:Int}{t b:TypeId}(c:a.eval x=.int .i64 m)(d:a.eval y=.int .i64 n)(h:(0≤m∧m≤9223372036854775807)∧(0≤n∧n≤9223372036854775807)):Ce P ⟨dst,.binOp .or t x y b,ty,pos,B9,g⟩ a w (fun u w'=>u=.int .i64 (P0 m n)∧w'=w):=
 C9 (by
  have e:(BitVec.ofInt 64 m|||BitVec.ofInt 64 n).toNat=m.toNat|||n.toNat:=by rw[BitVec.toNat_or,Vm h.1.1 h.1.2,Vm h.2.1 h.2.2]
  have i:m.toNat|||n.toNat<2^63:=Nat.or_lt_two_pow (by omega) (by omega);have f:IntKind.i64.wrap ((m.toNat|||n.toNat:Nat):Int)=((m.toNat|||n.toNat:Nat):Int):=Uk (by omega);have key:(Op.intBits .or .i64 m n).run P w=.ok (.int .i64 (P0 m n)) w:=by
   show(pure (Value.int .i64 (IntKind.i64.wrap ((BitVec.ofInt 64 m|||BitVec.ofInt 64 n).toNat:Int))):Sem Value).run P w=_;rw[e,f];rfl
  simp[execOp,c,d,eqGuard,binOp,key])
theorem SD {x y:Operand} {v1 v2:Value} {x1 x2:List Int} {n:Nat} {t c:TypeId} (d:Mi P t n) (b:P.eqGuardType P.depth t=false) (e:a.eval x=v1) (f:a.eval y=v2) (h1:v1=Fj x1) (h2:v2=Fj x2) (h:x1.length=n) (i:x2.length=n):
  Ce P ⟨dst,.binOp .eql t x y c,ty,pos,B9,g⟩ a w (fun u w'=>u=.bool (x1==x2)∧w'=w):=by
 refine Ve e f ?_;subst h1;subst h2;have j:=d w x1 x2 h i;have k:(eqGuard .eql t x y (Fj x1) (Fj x2)).run P w=.ok () w:=by
  simp[eqGuard,Fj,program,Sem.run,b]
 simp only[Sem.run_bind,k,Result.andThen_ok];show(do pure (Value.bool (←Op.equal t (Fj x1) (Fj x2))):Sem Value).run P w=_;simp only[Sem.run_bind,j,Result.andThen_ok,Sem.run_pure]
theorem Zw{x y:Operand}{v1 v2:Value}{x1 x2:List Int}{n:Nat}{t c:TypeId}(d:Mi P t n)(b:P.eqGuardType P.depth t=false)(e:a.eval x=v1)(f:a.eval y=v2)(h1:v1=Fj x1)(h2:v2=Fj x2)(h:x1.length=n)(i:x2.length=n):
  Ce P ⟨dst,.binOp .neq t x y c,ty,pos,B9,g⟩ a w (fun u w'=>u=.bool (x1 !=x2)∧w'=w):=by
 refine Ve e f ?_;subst h1;subst h2;have j:=d w x1 x2 h i;have k:(eqGuard .neq t x y (Fj x1) (Fj x2)).run P w=.ok () w:=by
  simp[eqGuard,Fj,program,Sem.run,b]
 simp only[Sem.run_bind,k,Result.andThen_ok];show(do pure (Value.bool (!(←Op.equal t (Fj x1) (Fj x2)))):Sem Value).run P w=_;simp only[Sem.run_bind,j,Result.andThen_ok,Sem.run_pure];rfl
theorem N8 {t t2 e:TypeId} (b:P.underlying t=some (.slice e)) {i:TypeInfo} (hi:P.info? e=some i) {A B:Option Addr} {n c d:Nat} (f:n≤c) (h:A=none→n=0) (a:P.underlying t2=some (.slice e)):
  (Builtin.append_ #[t,t2] ty #[.slice A n c,.slice B 0 d]).run P w=.ok (.slice A n c) w:=by
 have g:(Builtin.firstCells i.size 0 (.slice B 0 d)).run P w=.ok #[] w:=by
  cases B with
  |none=>simp[Builtin.firstCells]
  |some ad=>simp[Builtin.firstCells,loadCells,loadCellsFrom]
 cases A with
 |none=>simp[Builtin.append_,run_underlying b,run_underlying a,sizeOf,typeInfo,program,Sem.run,hi,Builtin.lenOf,f,g]
 |some ad=>simp[Builtin.append_,run_underlying b,run_underlying a,sizeOf,typeInfo,program,Sem.run,hi,Builtin.lenOf,f,g,storeCells]
theorem X6 {α:Type} {e:Cx α} {s x:Operand} {t h:TypeId} {z:Value} {sz bytes:Nat} (q:P.underlying t=some (.slice h)) (hi:(P.info? h).map (fun i=>(i.zero,i.size,i.bytes))=some (some z,sz,bytes)) (y:z.cells.size=sz) (aA:e.sz=sz) (h0:0<sz)
  {n0:Nat} {Z:Nat→Prop} {A B:Option Addr} {c d n:Nat} {xs ys:List α} (hs:a.eval s=.slice A n c) (aB:xs.length=n) (aC:a.eval x=.slice B ys.length d) (b:Bj e h n0 w Z A c xs) (aI:Sl e w Z B d ys)
  (aD:xs.length+ys.length≤maxLen) (j:(xs.length+ys.length)*bytes≤140737488355328) (m:n0≤w.heap.size):
  Ce P ⟨dst,.call {callee:=.builtin .append,args:= #[s,x],argTypes:= #[t,t]},ty,pos,B9,g⟩ a w (fun v w'=>∃r aE,v=.slice r (xs++ys).length aE∧w.grownBy w' (ob A)∧(∀k,ob r=some k→(ob A=some k∨w.heap.size≤k)∧k<w'.heap.size)∧
   ∃BE o,R2 e w Z BE xs∧R2 e w Z o ys∧E4 w' n0 h e.sz r (xs++ys).length aE (BE++o).flatten):=by
 by_cases p:ys=[]
 ·subst p;subst aB;obtain⟨BE,h2,aF⟩:=id b;have f:xs.length≤c∧(A=none→xs.length=0):=by
   rcases aF.2 with⟨u,h0⟩|⟨g,cap,cur,u,_,_,f,_⟩
   ·obtain⟨rfl,-,rfl⟩:=Value.slice.inj u;exact⟨by omega,fun _=>h0⟩
   ·cases u;exact⟨f,fun e=>by cases e⟩
  cases l:P.info? h with
  |none=>simp[l] at hi
  |some i=>
   have aJ:=N8 (P:=P) (w:=w) (ty:=ty) (B:=B) (d:=d) q l f.1 f.2 q;have he:(execOp a.eval ⟨dst,.call {callee:=.builtin .append,args:= #[s,x],argTypes:= #[t,t]},ty,pos,B9,g⟩).run P w=.ok (.value (.slice A xs.length c)) w:=by
    have aG:a.eval x=.slice B 0 d:=aC;unfold execOp;simp only[resolve,invoke,builtin,Sem.run_bind,Sem.run_pure,Result.andThen_ok,List.map_toArray,List.map_cons,List.map_nil,hs,aG,aJ]
   unfold Ce;rw[he];refine⟨A,c,by rw[List.append_nil],World.grownBy.refl w _,fun k aH=>⟨.inl aH,b.JZ k aH⟩,BE,[],h2,trivial,?_⟩;rw[List.append_nil,List.append_nil];exact aF
 ·exact ID q hi y aA h0 hs aB aC b aI.news aD j m p
end
theorem MC:∀(l:List Value) (cs:Array Value) (o j:Nat),o+l.length≤cs.size→(setCells cs o l)[j]?=if o≤j∧j<o+l.length then l[j-o]? else cs[j]?
 |[],cs,o,j,_=>by
  rw[if_neg (by simp only[List.length_nil];omega)];rfl
 |v::l,cs,o,j,h=>by
  rw[List.length_cons] at h;unfold setCells;rw[MC l _ (o+1) j (by simp;omega)]
  by_cases h1:o+1≤j∧j<o+1+l.length
  ·rw[if_pos h1,if_pos (by simp;omega),show j-o=(j-(o+1))+1 by omega,List.getElem?_cons_succ]
  ·rw[if_neg h1,Array.getElem?_setIfInBounds]
   by_cases h2:o=j
   ·subst h2;rw[if_pos rfl,if_pos (by omega),if_pos (by rw[List.length_cons];omega)];simp
   ·rw[if_neg h2,if_neg (by rw[List.length_cons];omega)]
theorem P2{sz:Nat}{a:List Value}(b:a.length=sz)(h0:0<sz):∀(k:Nat) (BE:List (List Value)) (j:Nat),(∀c∈BE,c.length=sz)→k<BE.length→(BE.set k a).flatten[j]?=if k*sz≤j∧j<k*sz+sz then a[j-k*sz]? else BE.flatten[j]?
 |_,[],_,_,h=>by simp at h
 |0,c::BE,j,hs,_=>by
  have h1:=hs c (List.mem_cons_self ..);rw[List.set_cons_zero,List.flatten_cons,List.flatten_cons]
  by_cases h:j<sz
  ·rw[if_pos (by omega),List.getElem?_append_left (by omega)];simp
  ·rw[if_neg (by omega),List.getElem?_append_right (by omega),List.getElem?_append_right (by omega),b,h1]
 |k+1,c::BE,j,hs,h=>by
  have h1:=hs c (List.mem_cons_self ..);rw[List.set_cons_succ,List.flatten_cons,List.flatten_cons];have e:(k+1)*sz=k*sz+sz:=by rw[Nat.add_mul];omega
  by_cases hj:j<sz
  ·rw[if_neg (by omega),List.getElem?_append_left (by omega),List.getElem?_append_left (by omega)]
  ·rw[List.getElem?_append_right (by omega),List.getElem?_append_right (by omega),h1,P2 b h0 k BE (j-sz) (fun c hm=>hs c (List.mem_cons_of_mem _ hm)) (by simpa using h)]
   by_cases h2:k*sz≤j-sz∧j-sz<k*sz+sz
   ·rw[if_pos h2,if_pos (by omega),show j-sz-k*sz=j-(k+1)*sz by omega]
   ·rw[if_neg h2,if_neg (by omega)]
section
variable{α:Type}{e:Cx α}{n0:Nat}{w w':World}{Z Z':Nat→Prop}
theorem R2.lens:∀{BE:List (List Value)} {xs:List α},R2 e w Z BE xs→∀c∈BE,c.length=e.sz
 |[],[],_=>by simp
 |c::cs,_::_,h=>by
  intro d a;rcases List.mem_cons.1 a with rfl|a
  ·exact e.len h.1
  ·exact R2.lens h.2 d a
 |[],_::_,h=>h.elim
 |_::_,[],h=>h.elim
theorem R2.free(a:∀w Z w' Z' cs x,e.R w Z cs x→e.R w' Z' cs x):∀{BE:List (List Value)} {xs:List α},R2 e w Z BE xs→R2 e w' Z' BE xs
 |[],[],_=>trivial
 |_::_,_::_,h=>⟨a _ _ _ _ _ _ h.1,R2.free a h.2⟩
 |[],_::_,h=>h.elim
 |_::_,[],h=>h.elim
end
section
variable{P:Program}{a:Act}{w:World}{dst:Option Tmp}{ty:TypeId}{pos:String}{B9:Array Edge}{g:Option (Nat×Bool)}
theorem Ul{α:Type}{e:Cx α}{t:TypeId}{n0:Nat}{w w':World}{Z Z':Nat→Prop}{A:Option Addr}{c:Nat}{xs:List α}
  (h:∃BE,R2 e w Z BE xs∧E4 w' n0 t e.sz A xs.length c BE.flatten)(hm:Mv w Z w' Z'):Bj e t n0 w' Z' A c xs:=by
 obtain⟨BE,h1,h2⟩:=h;exact⟨BE,h1.mv hm,h2⟩
end
def LZ (P:Program) (fv:Value) (vs:Array Value) (w:World) (R:Value→World→Prop):Prop:=
 ∀(a:Act) (dst:Option Tmp) (f:Operand) (xs:Array Operand) (b:Array TypeId) (ty:TypeId) (pos:String) (B9:Array Edge) (g:Option (Nat×Bool)),a.eval f=fv→xs.map a.eval=vs→
  Ce P ⟨dst,.call {callee:=.value f,args:=xs,argTypes:=b},ty,pos,B9,g⟩ a w R
section
variable{P:Program}{fv:Value}{vs:Array Value}{w:World}{R R':Value→World→Prop}
theorem EG{fn:FuncId}{first cap all:Array Value}(a:Bb P fn)(ha:first++vs++cap=all)(h:BN P fn all w R):LZ P (.func (.func fn) first cap) vs w R:=fun _ _ _ _ _ _ _ _ _ b c=>IX a b c ha h
theorem Kl{l:Nat}(h:YieldAt Fence.wide 0 P l vs w (fun e w'=>∃v,e=.returned v∧R v w')):LZ P (.func (.yield l) #[] #[]) vs w R:=fun _ _ _ _ _ _ _ _ _ a b=>VI a b h
theorem LZ.mono(h:LZ P fv vs w R)(b:∀v w',R v w'→R' v w'):LZ P fv vs w R':=fun a dst f xs c ty pos B9 g d e=>(h a dst f xs c ty pos B9 g d e).mono b
theorem Fl{F:Nat→Prop}{M:List (Option Nat)}{b:Nat}(h:¬FU F M b):¬F b∧some b∉M:=⟨fun h1=>h (.inl h1),fun h1=>h (.inr h1)⟩
theorem Fx{a:Act}{dst:Option Tmp}{f:Operand}{xs:Array Operand}{b:Array TypeId}{ty:TypeId}{pos:String}{B9:Array Edge}{g:Option (Nat×Bool)}(h:LZ P fv vs w R)(c:a.eval f=fv)(d:xs.map a.eval=vs):
  Ce P ⟨dst,.call {callee:=.value f,args:=xs,argTypes:=b},ty,pos,B9,g⟩ a w R:=h a dst f xs b ty pos B9 g c d
end
structure VL (α:Type) where
 R:World→(Nat→Prop)→Array Value→α→Prop
def v0:VL Unit:=⟨fun _ _ vs _=>vs= #[]⟩
def v1{α:Type}(a:VE α):VL α:=⟨fun w Z vs x=>∃v,vs= #[v]∧a.R w Z v x⟩
def v2{α β:Type}(a:VE α)(b:VE β):VL (α×β):=⟨fun w Z vs x=>∃v u,vs= #[v,u]∧a.R w Z v x.1∧b.R w Z u x.2⟩
def v3{α β d:Type}(a:VE α)(b:VE β)(c:VE d):VL (α×β×d):=⟨fun w Z vs x=>∃v u t,vs= #[v,u,t]∧a.R w Z v x.1∧b.R w Z u x.2.1∧c.R w Z t x.2.2⟩
def SE:VE Unit:=⟨fun _ _ v _=>v=.tuple #[],fun h _=>h⟩
structure Cb (P:Program) {σ α β:Type} (fv:Value) (F:Nat→Prop) (n:Nat) (I:σ→World→(Nat→Prop)→Option Nat→Prop) (ea:VL α) (er:VE β) (cb:σ→α→Option (β×σ)):Prop where
 fc:fv.cells= #[fv]
 f1:fv.oneCell'=true
 ff:∀k,F k→k<n
 call:∀(s:σ) (x:α) (r:β×σ) (w:World) (Z Za:Nat→Prop) (o:Option Nat) (vs:Array Value),n≤w.heap.size→(∀b,Z b→Za b)→(∀b,Za b→¬F b∧some b≠o)→I s w Z o→ea.R w Za vs x→cb s x=some r→
  LZ P fv vs w (fun v w'=>∃o',BO (FU F [o]) w w'∧(∀k,o'=some k→(o=some k∨w.heap.size≤k)∧k<w'.heap.size)∧er.R w' (ZZ FN [] Z w.heap.size [o']) v r.1∧I r.2 w' (ZZ FN [] Z w.heap.size [o']) o')
 KC:∀(s:σ) (w w':World) (Z Z':Nat→Prop) (o:Option Nat),I s w Z o→Mv w Z w' Z'→(∀b,FU F [o] b→w'.heap[b]?=w.heap[b]?)→I s w' Z' o
 lt:∀(s:σ) (w:World) (Z:Nat→Prop) (o:Option Nat),I s w Z o→∀k,o=some k→k<w.heap.size∧¬F k
section
variable{P:Program}{σ α β:Type}{fv:Value}{F:Nat→Prop}{n:Nat}{I:σ→World→(Nat→Prop)→Option Nat→Prop}{ea:VL α}{er:VE β}{cb:σ→α→Option (β×σ)}
variable{B:List (Option Nat)}{w0 w w':World}{Z:Nat→Prop}{L:List (Option Nat)}
theorem Cb.DH (h:Cb P fv F n I ea er cb) {s:σ} {o:Option Nat} (c:I s w (ZZ F B Z w0.heap.size L) o) (a:Hp F B w0 L w) {D:Nat→Prop} (g:BO D w w') (d:∀k,D k→some k∈L) (i:Nat) (hi:L[i]?=some o) (e:∀k,o=some k→¬D k) {Z':Nat→Prop} (hm:Mv w (ZZ F B Z w0.heap.size L) w' Z'):
  I s w' Z' o:=h.KC s w w' _ _ o c hm fun b hb=>by
 rcases hb with hb|hb
 ·exact g.block b (Nat.lt_of_lt_of_le (a.ff b hb) a.sz) fun f=>(a.lo b (d b f)).2.1 hb
 ·rw[List.mem_singleton] at hb;exact g.block b (h.lt s w _ o c b hb.symm).1 (e b hb.symm)
theorem Cb.me(h:Cb P fv F n I ea er cb){s:σ}{o:Option Nat}(a:I s w (ZZ F B Z w0.heap.size L) o)(c:Hp F B w0 L w)(g:Ext w w'){Z':Nat→Prop}(hm:Mv w (ZZ F B Z w0.heap.size L) w' Z'):I s w' Z' o:=
 h.KC s w w' _ _ o a hm fun b hb=>g.block b (by
  rcases hb with hb|hb
  ·exact Nat.lt_of_lt_of_le (c.ff b hb) c.sz
  ·rw[List.mem_singleton] at hb;exact(h.lt s w _ o a b hb.symm).1) (by simp)
theorem Cb.mz(h:Cb P fv F n I ea er cb){s:σ}{o:Option Nat}{a Z':Nat→Prop}(b:I s w a o)(hm:Mv w a w Z'):I s w Z' o:=h.KC s w w _ _ o b hm fun _ _=>rfl
theorem Cb.mg(h:Cb P fv F n I ea er cb){s:σ}{o r:Option Nat}(c:I s w (ZZ F B Z w0.heap.size L) o)(a:Hp F B w0 L w)(g:w.grownBy w' r)(j:Nat)(hj:L[j]?=some r)(i:Nat)(hi:L[i]?=some o)(b:(i==j)=false){Z':Nat→Prop}(hm:Mv w (ZZ F B Z w0.heap.size L) w' Z'):I s w' Z' o:=
 h.DH c a (D:=fun k=>some k=r) (KY g fun _ e=>e.symm) (fun k e=>by rw[e];exact List.mem_of_getElem? hj) i hi (fun k d e=>a.ap i j k (by simpa using b) (by rw[hi,d]) (by rw[hj,e])) hm
theorem Cb.mm(h:Cb P fv F n I ea er cb){s:σ}{o:Option Nat}{M:List (Option Nat)}(f:I s w (ZZ F B Z w0.heap.size L) o)(c:Hp F B w0 L w)(g:BO (FU FN M) w w')(b:List Nat)(d:HX L b M)(i:Nat)(hi:L[i]?=some o)(e:(b.all fun j=> !Nat.beq i j)=true){Z':Nat→Prop}(hm:Mv w (ZZ F B Z w0.heap.size L) w' Z'):I s w' Z' o:=
 h.DH f c g (fun k a=>by
  rcases a with a|a
  ·exact a.elim
  ·exact d.sub _ a) i hi (fun k a=>c.Cz (F':=FN) i (by rw[hi,a]) b e d (fun _ h=>h.elim)) hm
end
def Ct {α:Type} (ev:α→Value) (w:World) (r n:Nat) (L:List (List Int×α)):Prop:=
 ∃es clock,w.heap[r]?=some (.map es clock)∧es.toList.map (fun e=>(e.key,e.val))=L.map (fun p=>(Fj p.1,ev p.2))∧∀p∈L,p.1.length=n
def Ep{α:Type}(L:List (List Int×α))(k:List Int):Option α:=(L.find? fun p=>k==p.1).map (·.2)
def Km{α:Type}(L:List (List Int×α))(k:List Int)(v:α):List (List Int×α):=match L.findIdx? (fun p=>k==p.1) with|some i=>L.set i (k,v)|none=>L++[(k,v)]
structure Z6{α:Type}(ev:α→Value)(w w':World)(r n:Nat):Prop where
 E9:r=w.heap.size
 sz:w'.heap.size=r+1
 mp:Ct ev w' r n []
 gr:Ext w w'
structure Z7{α:Type}(ev:α→Value)(w w':World)(r n:Nat)(L:List (List Int×α)):Prop where
 sz:w'.heap.size=w.heap.size
 mp:Ct ev w' r n L
 gr:Jl r w w'
section
variable{α:Type}{ev:α→Value}{w w':World}{r n b:Nat}{L:List (List Int×α)}
theorem Ct.lt(h:Ct ev w r n L):r<w.heap.size:=by obtain⟨es,c,h,_⟩:=h;exact lt_of_block h
theorem Ct.ext(h:Ct ev w r n L)(g:Ext w w'):Ct ev w' r n L:=by
 have hl:=h.lt;obtain⟨es,c,h1,h2⟩:=h;exact⟨es,c,(g.block r hl (by simp)).trans h1,h2⟩
theorem Ct.PE(h:Ct ev w r n L)(g:Jl b w w')(a:r≠b):Ct ev w' r n L:=by
 have hl:=h.lt;obtain⟨es,c,h1,h2⟩:=h;exact⟨es,c,(g.block r hl (by simpa using a)).trans h1,h2⟩
end
section
variable{α:Type}{ev:α→Value}{z:α}{P:Program}{a:Act}{w:World}{dst:Option Tmp}{ty:TypeId}{pos:String}{B9:Array Edge}{g:Option (Nat×Bool)}{K E T r n:Nat}{L:List (List Int×α)}{k:List Int}
theorem Le(z:α)(a:Mi P K n)(b:k.length=n):∀(es:List MapEntry) (L:List (List Int×α)) (i:Nat),es.map (fun e=>(e.key,e.val))=L.map (fun p=>(Fj p.1,ev p.2))→(∀p∈L,p.1.length=n)→
  (Instr.findAsking K (Fj k) es i).run P w=.ok (match L.findIdx? (fun p=>k==p.1) with|some j=>some (i+j,ev ((L.getD j ([],z)).2))|none=>none) w
 |[],[],i,_,_=>by simp[Instr.findAsking]
 |[],p::L,i,h,_=>by simp at h
 |e::es,[],i,h,_=>by simp at h
 |e::es,p::L,i,h,hl=>by
  simp only[List.map_cons,List.cons.injEq,Prod.mk.injEq] at h;obtain⟨⟨h1,h2⟩,c⟩:=h;have ih:=Le z a b es L (i+1) c (fun q a=>hl q (List.mem_cons_of_mem _ a));have he:=a w k p.1 b (hl p (List.mem_cons_self ..));simp only[Instr.findAsking,Sem.run_bind,h1,he,Result.andThen_ok,List.findIdx?_cons];cases hb:(k==p.1)
  ·simp only[Bool.false_eq_true,if_false,ih];cases List.findIdx? (fun p=>k==p.1) L with
   |none=>rfl
   |some j=>simp[Nat.add_assoc,Nat.add_comm 1 j]
  ·simp[h2]
theorem MD(z:α)(f:Mi P K n)(hw:LU P K)(g:k.length=n){es:List MapEntry}(h:es.map (fun e=>(e.key,e.val))=L.map (fun p=>(Fj p.1,ev p.2)))(hl:∀p∈L,p.1.length=n):
  (Instr.findKey K (Fj k) es).run P w=.ok (match L.findIdx? (fun p=>k==p.1) with|some j=>some (j,ev ((L.getD j ([],z)).2))|none=>none) w:=by
 unfold LU at hw;cases hu:P.underlying K with
 |none=>simp[hu] at hw
 |some d=>
  unfold Instr.findKey;simp only[Sem.run_bind,run_underlying hu,Result.andThen_ok];cases es with
  |nil=>
   have:L=[]:=by cases L with|nil=>rfl|cons _ _=>simp at h
   subst this;simp[Instr.findNow]
  |cons e es=>
   have i:Instr.findNow d (Fj k) (e::es) 0=none:=by
    refine Q5 ?_ _ _ _ (fun a b=>?_) (by simp)
    ·rw[hu] at hw;cases d<;>simp at hw<;>trivial
    ·have:(a.key,a.val)∈(e::es).map (fun e=>(e.key,e.val)):=List.mem_map.2 ⟨a,b,rfl⟩;rw[h] at this;obtain⟨p,_,c⟩:=List.mem_map.1 this;exact⟨(IN p.1).toArray,by simp only[Prod.mk.injEq] at c;exact c.1.symm⟩
   rw[i];have:=Le z (P:=P) (w:=w) f g (e::es) L 0 h hl;simpa using this
theorem Tc(z:α)(L:List (List Int×α))(k:List Int):Ep L k=(L.findIdx? (fun p=>k==p.1)).map (fun j=>(L.getD j ([],z)).2):=by
 unfold Ep
 induction L with
 |nil=>rfl
 |cons p L ih=>
  simp only[List.find?_cons,List.findIdx?_cons];cases hb:(k==p.1)
  ·simp only[Bool.false_eq_true,if_false,ih];cases List.findIdx? (fun p=>k==p.1) L<;>simp
  ·simp
theorem Q6(d:P.underlying T=some (.map K E))(g:(P.info? E).bind (·.zero)=some (ev z))(l:Mi P K n)(m:PR P K n)(hw:LU P K)(a:k.length=n)(hm:Ct ev w r n L)(ok:Bool):
  (Instr.lookup T (.map (some r)) (Fj k) ok).run P w=.ok (if ok then .tuple #[ev ((Ep L k).getD z),.bool (Ep L k).isSome] else ev ((Ep L k).getD z)) w:=by
 obtain⟨es,clock,o,he,hl⟩:=hm;obtain⟨i,hi,b⟩:=Option.bind_eq_some_iff.1 g;have h1:=N6 (P:=P) o (by intro c e f h;cases h);have h2:=MD z (P:=P) (w:=w) l hw a he hl;have q:(zeroValue E).run P w=.ok (ev z) w:=by simp[zeroValue,typeInfo,program,Sem.run,hi,b]
 unfold Instr.lookup;simp only[Sem.run_bind,run_underlying d,Result.andThen_ok,h1,m w es.isEmpty k a,h2,Tc z,Sem.run_pure];cases List.findIdx? (fun p=>k==p.1) L with
 |none=>cases ok<;>simp[q]
 |some j=>cases ok<;>simp
theorem P3{x y:Operand}(b:P.underlying T=some (.map K E))(c:(P.info? E).bind (·.zero)=some (ev z))(d:Mi P K n)(e:PR P K n)(hw:LU P K)(f:a.eval x=.map (some r))(h:a.eval y=Fj k)(i:k.length=n)(hm:Ct ev w r n L):
  Ce P ⟨dst,.lookup T x y true,ty,pos,B9,g⟩ a w (fun u w'=>u=.tuple #[ev ((Ep L k).getD z),.bool (Ep L k).isSome]∧w'=w):=
 KI (S:=Instr.lookup T (.map (some r)) (Fj k) true) (by simp only[execOp,f,h]) (Q6 b c d e hw i hm true)
theorem N9{T:TypeId}:Ce P ⟨dst,.makeMap T none,ty,pos,B9,g⟩ a w (fun u w'=>∃r,u=.map (some r)∧Z6 ev w w' r n):=by
 unfold Ce;simp only[execOp,Option.map_none,Sem.run_bind,run_makeMap,Result.andThen_ok,Sem.run_pure];exact⟨_,rfl,rfl,by simp,⟨#[],0,heap_alloc_new w _,rfl,by simp⟩,World.grownBy_alloc w _ _⟩
theorem P4{x y aB:Operand}{v:α}(aK:P.underlying T=some (.map K E))(aL:Mi P K n)(aM:PR P K n)(hw:LU P K)(aN:a.eval x=.map (some r))(aO:a.eval y=Fj k)(aP:a.eval aB=ev v)(q:k.length=n)(hm:Ct ev w r n L):
  Ce P ⟨dst,.mapUpdate T x y aB,ty,pos,B9,g⟩ a w (fun _ w'=>Z7 ev w w' r n (Km L k v)):=by
 have s:=hm.lt;obtain⟨es,clock,aC,he,hl⟩:=hm;have h1:=N6 (P:=P) aC (by intro c e f h;cases h);have h2:=MD v (P:=P) (w:=w) aL hw q he hl;have d:∀o:Obj,(setObj r o).run P w=.ok () {w with heap:=w.heap.setIfInBounds r o}:=by
  intro o;unfold setObj;simp only[Sem.run,aC]
 have t:∀o:Obj,Jl r w {w with heap:=w.heap.setIfInBounds r o}:=fun o=>⟨rfl,rfl,rfl,by simp,fun j _ aD=>by
  have:¬r=j:=fun e=>aD (by rw[e]);simp[Array.getElem?_setIfInBounds,this]⟩
 have hlen:es.toList.length=L.length:=by have:=congrArg List.length he;simpa using this
 unfold Ce;simp only[execOp,aN,aO,aP,Sem.run_bind,Instr.mapUpdate,run_underlying aK,Result.andThen_ok,h1,aM w false k q,h2];cases m:List.findIdx? (fun p=>k==p.1) L with
 |none=>
  simp only[d,Result.andThen_ok,Sem.run_pure];refine⟨by simp,⟨_,_,by simp[s];exact⟨rfl,rfl⟩,?_,?_⟩,t _⟩
  ·simp[Km,m,he]
  ·intro p b;simp only[Km,m,List.mem_append,List.mem_singleton] at b;rcases b with b|rfl
   ·exact hl p b
   ·exact q
 |some j=>
  have hj:=List.findIdx?_eq_some_iff_getElem.1 m;obtain⟨aE,aF,_⟩:=hj;have u:j<es.toList.length:=by omega
  have aA:(es.toList[j]).key=Fj k:=by
   have:=congrArg (fun l=>l[j]?) he;simp only[List.getElem?_map,List.getElem?_eq_getElem u,List.getElem?_eq_getElem aE,Option.map_some,Option.some.injEq,Prod.mk.injEq] at this;rw[this.1,←eq_of_beq aF]
  have aG:((es[j]?).map (·.key)).getD (Fj k)=Fj k:=by
   have aH:j<es.size:=by simpa using u
   rw[Array.getElem?_eq_getElem aH];simpa using aA
  simp only[aG,Instr.keyThatStays,PT 9999 k,if_true,Sem.run_pure,Result.andThen_ok,d,Sem.run_bind];refine⟨by simp,⟨_,_,by simp[s];exact⟨rfl,rfl⟩,?_,?_⟩,t _⟩
  ·simp only[Km,m];apply List.ext_getElem
   ·simp[hlen]
   ·intro i aQ aR;have aI:i<es.toList.length:=by simpa using aQ
    have aJ:i<L.length:=by omega
    have:=congrArg (fun l=>l[i]?) he;simp only[List.getElem?_map,List.getElem?_eq_getElem aI,List.getElem?_eq_getElem aJ,Option.map_some,Option.some.injEq,Prod.mk.injEq] at this
    by_cases z:j=i
    ·subst z;simp
    ·simpa[Array.getElem_modify,z,List.getElem_set] using this
  ·intro p b;simp only[Km,m] at b;rcases List.mem_or_eq_of_mem_set b with b|rfl
   ·exact hl p b
   ·exact q
end
section
variable{α:Type}{ev:α→Value}{w w':World}{r n:Nat}{L:List (List Int×α)}
theorem Ct.of(h:Ct ev w r n L)(e:w'.heap[r]?=w.heap[r]?):Ct ev w' r n L:=by
 obtain⟨es,c,h1,h2⟩:=h;exact⟨es,c,e.trans h1,h2⟩
theorem Ct.gr{x:Option Nat}(h:Ct ev w r n L)(g:w.grownBy w' x)(a:some r≠x):Ct ev w' r n L:=h.of (g.block r h.lt a)
end
theorem Q7{α:Type}(L:List (List Int×α))(k k':List Int)(v:α):Ep (Km L k v) k'=if k'=k then some v else Ep L k':=by
 induction L with
 |nil=>
  unfold Ep Km
  by_cases h:k'=k
  ·subst h;simp
  ·have:(k'==k)=false:=by simpa using h
   simp[h]
 |cons p L ih=>
  unfold Ep Km at*;simp only[List.findIdx?_cons];cases hb:(k==p.1)
  ·simp only[Bool.false_eq_true,if_false];cases c:List.findIdx? (fun p=>k==p.1) L with
   |none=>
    rw[c] at ih;simp only[Option.map_none,List.cons_append,List.find?_cons];cases a:(k'==p.1)
    ·simpa using ih
    ·have b:k'≠k:=by
      intro e;rw[e,hb] at a;cases a
     simp[b]
   |some j=>
    rw[c] at ih;simp only[Option.map_some,List.set_cons_succ,List.find?_cons];cases a:(k'==p.1)
    ·simpa using ih
    ·have b:k'≠k:=by
      intro e;rw[e,hb] at a;cases a
     simp[b]
  ·have d:=eq_of_beq hb;simp only[if_true,List.set_cons_zero,List.find?_cons]
   by_cases h:k'=k
   ·subst h;simp
   ·have h1:(k'==k)=false:=by simpa using h
    have h2:(k'==p.1)=false:=by rw[←d];exact h1
    simp[h,h1,h2]
theorem pm5{f:Operand→Value}{i0 i1 i2 i3 i4:Nat}{a x1 x2 b c:Operand}{v0 v1 v2 v3 v4:Value}(h0:f a=v0)(h1:f x1=v1)(h2:f x2=v2)(d:f b=v3)(e:f c=v4): #[(i0,a),(i1,x1),(i2,x2),(i3,b),(i4,c)].map (fun(i,x)=>(i,f x))= #[(i0,v0),(i1,v1),(i2,v2),(i3,v3),(i4,v4)]:=by simp[h0,h1,h2,d,e]
section
variable{F F' F0:Nat→Prop}{B:List (Option Nat)}{w0 w w' w1 w2:World}{Z Z':Nat→Prop}{L L' M C:List (Option Nat)}{D:Nat→Prop}
theorem Bw(a:List Nat)(h:HX L a M):∀x∈M,x∈L:=h.sub
theorem AM(a:List Nat)(h:HX L a M)(b:∀k,F' k→F k):∀k,FU F' M k→F k∨some k∈L:=XZ h.sub b
theorem Ck(h:∀k,F0 k→F k):∀k,FU F0 C k→F k∨some k∈C:=fun k a=>a.imp (h k) id
theorem GB{k:Nat}{o:Obj}{r:Option Nat}(h:w.heap[k]?=some o)(g:w.grownBy w' r)(a:some k≠r):w'.heap[k]?=some o:=(g.block k (Array.getElem?_eq_some_iff.1 h).1 a).trans h
theorem Jm{k:Nat}{o:Obj}(h:w.heap[k]?=some o)(g:BO D w w')(a:¬D k):w'.heap[k]?=some o:=(g.block k (Array.getElem?_eq_some_iff.1 h).1 a).trans h
theorem Ct.Ci{α:Type}{ev:α→Value}{r n:Nat}{a:List (List Int×α)}(h:Ct ev w r n a)(g:BO D w w')(b:¬D r):Ct ev w' r n a:=h.of (g.block r h.lt b)
theorem Ct.HA{α:Type}{ev:α→Value}{r n:Nat}{a:List (List Int×α)}(h:Ct ev w r n a)(e:w'.heap[r]?=w.heap[r]?):Ct ev w' r n a:=h.of e
theorem Bk.HA{b:Nat}{t:TypeId}{cs:Array Value}(h:Bk w b t cs)(e:w'.heap[b]?=w.heap[b]?):Bk w' b t cs:=e.trans h
theorem Hp.zz(h:Hp F B w0 L w)(a c:List Nat)(d:HX L a M)(e:HX L c C)(f:∀k,F' k→F k∨some k∈C):∀b,ZZ F B Z w0.heap.size L b→¬F' b∧some b∉M:=h.zc d.sub fun k g=>(f k g).imp id (e.sub _)
theorem Hp.mz(h:Hp F B w0 L w)(a b:List Nat)(c:HX L a M)(d:HX L b C)(e:∀k,F' k→F k∨some k∈C):Mv w (ZZ F B Z w0.heap.size L) w (ZC F' M):=D1 (h.zz a b c d e)
theorem Rr{i:Nat}{a b:List Nat}(h:((a++b).all fun j=> !Nat.beq i j)=true):(a.all fun j=> !Nat.beq i j)=true∧(b.all fun j=> !Nat.beq i j)=true:=by
 rw[List.all_append,Bool.and_eq_true] at h;exact h
theorem Hp.bz(h:Hp F B w0 L w)(i:Nat){b:Nat}(hi:L[i]?=some (some b))(a c:List Nat)(d:HX L a M)(e:HX L c C)(f:∀k,F' k→F k∨some k∈C)(hj:((a++c).all fun j=> !Nat.beq i j)=true):ZC F' M b:=by
 have h1:=h.Cz (F':=F) i hi a (Rr hj).1 d (fun _ h=>h);have h2:=h.Cz (F':=F) i hi c (Rr hj).2 e (fun _ h=>h);exact⟨fun hb=>h2 ((f b hb).imp id id),fun hm=>h1 (.inr hm)⟩
theorem Hp.rz{α:Type}{e:Cx α}{t:TypeId}{n0:Nat}{A:Option Addr}{c:Nat}{xs:List α}(h:Hp F B w0 L w)(i:Nat)(hi:L[i]?=some (ob A))(a b:List Nat)(d:HX L a M)(f:HX L b C)(g:∀k,F' k→F k∨some k∈C)(hj:((a++b).all fun j=> !Nat.beq i j)=true)
  (l:Bj e t n0 w (ZZ F B Z w0.heap.size L) A c xs):Sl e w (ZC F' M) A c xs:=
 (l.up (h.mz a b d f g)).sl fun k m _=>h.bz i (by rw[hi,m]) a b d f g hj
theorem BB{Z:Nat→Prop}(w:World):Mv w Z w (ZZ FN [] Z w.heap.size L):=AQ (fun _ _=>⟨id,by simp⟩) w
theorem CI(h:Mv w Z w' Z):Mv w Z w' (ZZ FN [] Z w.heap.size M):=⟨h.size,fun b hb hl=>⟨.inl ⟨hl,hb,id,by simp⟩,(h.stay b hb hl).2⟩⟩
theorem I0{n:Nat}{o:Option Nat}(h:o∈M:=by simp):Mv w (ZZ FN [] Z n M) w (ZZ FN [] Z n [o]):=KK fun b hb _=>hb.imp id fun⟨h1,h2⟩=>⟨h1,fun hm=>by
 rw[List.mem_singleton] at hm;exact h2 (by rw[hm];exact h)⟩
theorem Ew(g:BO D w w')(h:∀b,Z b→¬D b):Mv w Z w' Z:=⟨g.size,fun b hb hl=>⟨hb,g.block b hl (h b hb)⟩⟩
theorem Dk{b:Nat}{o:Option Nat}(h:¬FU FN C b∧some b≠o):¬FU FN C b:=h.1
theorem Dz{b:Nat}{o:Option Nat}(h:¬FU F C b)(k:some b≠o):¬F b∧some b∉C++[o]:=
 ⟨fun h1=>h (.inl h1),fun h1=>by
  rcases List.mem_append.1 h1 with h2|h2
  ·exact h (.inr h2)
  ·exact k (by simpa using h2)⟩
theorem BO.lf{o:Option Nat}(g:BO (FU F (C++[o])) w w'):BO (FU (FU F C) [o]) w w':=g.mono fun k h=>by
 rcases h with h|h
 ·exact .inl (.inl h)
 ·rcases List.mem_append.1 h with h2|h2
  ·exact .inl (.inr h2)
  ·exact .inr h2
theorem BO.Oa{o:Option Nat}(g:BO (FU F C) w w'):BO (FU (FU F C) [o]) w w':=g.mono fun _ h=>.inl h
theorem BO.cl{M1 M2:List (Option Nat)}(g:BO (FU (FU F M1) M2) w w'):BO (FU F (M1++M2)) w w':=g.fl
theorem Hp.IP(h:Hp F B w0 L w)(b:List Nat)(c:HX L b C)(d:∀k,F0 k→F k):∀k,FU F0 C k→k<w.heap.size:=fun k a=>by
 rcases a with a|a
 ·exact Nat.lt_of_lt_of_le (h.ff k (d k a)) h.sz
 ·exact(h.lo k (c.sub _ a)).1
theorem Hp.Nv(h:Hp F B w0 L w)(i:Nat){k:Nat}(hi:L[i]?=some (some k))(a:List Nat)(hj:(a.all fun j=> !Nat.beq i j)=true)(b:HX L a C):k<w.heap.size∧¬FU F C k:=
 ⟨(h.lo k (List.mem_of_getElem? hi)).1,h.Cz (F':=F) i hi a hj b fun _ h=>h⟩
theorem Hp.X7{x c:Option Nat}(h:Hp F B w0 L w)(i:Nat)(hi:L[i]?=some x)(a:List Nat)(hj:(a.all fun j=> !Nat.beq i j)=true)(e:HX L a M)(f:∀y∈B,y=c∨y∈M):∀k,x=some k→(c=some k∨w0.heap.size≤k)∧k<w.heap.size:=fun k d=>by
 have h1:=h.lo k (List.mem_of_getElem? (by rw[hi,d]));refine⟨?_,h1.1⟩;rcases Nat.lt_or_ge k w0.heap.size with h2|h2
 ·left;rcases f _ (h1.2.2 h2) with b|b
  ·exact b.symm
  ·exact absurd (.inr b) (h.Cz (F':=F) i (by rw[hi,d]) a hj e fun _ h=>h)
 ·exact .inr h2
theorem By.snoc{o:Option Nat}(h:By F C w)(e:∀k,o=some k→k<w.heap.size∧¬FU F C k):By F (C++[o]) w:=by
 refine⟨fun k m=>?_,fun i j x f hi hj=>?_,h.ff⟩
 ·rcases List.mem_append.1 m with h1|h1
  ·exact h.lt k h1
  ·have h2:=e k (by rw[List.mem_singleton] at h1;exact h1.symm);exact⟨h2.1,fun n=>h2.2 (.inl n)⟩
 ·have key:∀(a b:Nat),a<C.length→¬b<C.length→(C++[o])[a]?=some (some x)→(C++[o])[b]?=some (some x)→False:=fun a b ha hb h1 h2=>by
   rw[List.getElem?_append_left ha] at h1;rw[List.getElem?_append_right (by omega)] at h2;have g:b-C.length=0:=by
    rcases Nat.eq_zero_or_pos (b-C.length) with h|h
    ·exact h
    ·rw[List.getElem?_eq_none (by simp;omega)] at h2;cases h2
   rw[g] at h2;have l:o=some x:=by simpa using h2
   exact(e x l).2 (.inr (List.mem_of_getElem? h1))
  by_cases d:i<C.length
  ·by_cases c:j<C.length
   ·rw[List.getElem?_append_left d] at hi;rw[List.getElem?_append_left c] at hj;exact h.ap i j x f hi hj
   ·exact key i j d c hi hj
  ·by_cases c:j<C.length
   ·exact key j i c d hj hi
   ·have hl:(C++[o]).length=C.length+1:=by simp
    have h1:=(List.getElem?_eq_some_iff.1 hi).1;have h2:=(List.getElem?_eq_some_iff.1 hj).1;omega
theorem By.keep{o o':Option Nat}(h:By F C w)(e:w.heap.size≤w1.heap.size)(b:∀k,o=some k→k<w1.heap.size∧¬FU F C k)(c:∀k,o'=some k→(o=some k∨w1.heap.size≤k)∧k<w2.heap.size):∀k,o'=some k→k<w2.heap.size∧¬FU F C k:=fun k d=>by
 obtain⟨h1,h2⟩:=c k d;refine⟨h2,?_⟩;rcases h1 with h1|h1
 ·exact(b k h1).2
 ·rintro(a|a)
  ·have:=h.ff k a;omega
  ·have:=(h.lt k a).1;omega
def ZT(L:List (Option Nat))(n:Nat):List (Option Nat)→Prop
 |[]=>True
 |x::M=>((∃j:Nat,L[j]?=some x)∨∀k,x=some k→some k∈L∨n≤k)∧ZT L n M
theorem Ca{n:Nat}:∀{M:List (Option Nat)},ZT L n M→∀k,some k∈M→some k∈L∨n≤k
 |[],_,_,h=>by cases h
 |x::M,h,k,a=>by
  rcases List.mem_cons.1 a with e|a
  ·rcases h.1 with⟨j,hj⟩|h1
   ·left;rw[e];exact List.mem_of_getElem? hj
   ·exact h1 k e.symm
  ·exact Ca h.2 k a
theorem CJ{y:Option Nat}(i:Nat)(h:y∈M):∀x∈L.set i y,x∈L∨x∈M:=fun x a=>by
 rcases List.mem_or_eq_of_mem_set a with h1|e
 ·exact .inl h1
 ·exact .inr (by rw[e];exact h)
theorem Is{o:Option Nat}:∀b,ZC F [o] b→¬F b∧some b≠o:=fun _ h=>⟨h.1,fun e=>h.2 (by rw[e];exact List.mem_singleton_self _)⟩
end
theorem Rs{F:Nat→Prop}{B L:List (Option Nat)}{n:Nat}{Z Z':Nat→Prop}(h:∀b,Z b→Z' b):∀b,ZZ F B Z n L b→ZZ F B Z' n L b:=fun b hb=>hb.imp (fun⟨h1,h2,a⟩=>⟨h1,h b h2,a⟩) id
def Nw{α:Type}(e:Cx α)(w:World)(Z:Nat→Prop)(A:Option Addr)(c:Nat)(xs:List α):Prop:=
 xs.length≤c∧(A=none→c=0)∧∃BE,R2 e w Z BE xs∧Rz w ZA A BE.flatten
section
variable{α:Type}{e:Cx α}{t:TypeId}{n0:Nat}{w w':World}{Z Z':Nat→Prop}{A:Option Addr}{c:Nat}{xs:List α}
theorem Nw.ext(h:Nw e w Z A c xs)(g:Ext w w')(hm:Mv w Z w' Z'):Nw e w' Z' A c xs:=⟨h.1,h.2.1,h.2.2.imp fun _ h=>⟨h.1.mv hm,h.2.mv (Ac g)⟩⟩
theorem Bj.n(h:Bj e t n0 w Z A c xs):Nw e w Z A c xs:=by
 have h2:=h.all;obtain⟨BE,a,b⟩:=h;refine⟨h2.1,h2.2.1,BE,a,?_⟩;have d:=b.rd;exact PU d fun _ _ _=>trivial
theorem Sl.n(h:Sl e w Z A c xs):Nw e w Z A c xs:=⟨h.1,h.2.1,h.2.2.imp fun _ h=>⟨h.1,h.2.mv My⟩⟩
theorem Sl.Jd(a:∀w Z w' Z' cs x,e.R w Z cs x→e.R w' Z' cs x)(h:Sl e w Z A c xs):Nw e w Z' A c xs:=⟨h.1,h.2.1,h.2.2.imp fun _ h=>⟨h.1.free a,h.2.mv My⟩⟩
theorem Bj.Jd(a:∀w Z w' Z' cs x,e.R w Z cs x→e.R w' Z' cs x)(h:Bj e t n0 w Z A c xs):Nw e w Z' A c xs:=h.all.Jd a
end
section
variable{P:Program}{a:Act}{w:World}{dst:Option Tmp}{ty:TypeId}{pos:String}{B9:Array Edge}{g:Option (Nat×Bool)}
theorem GD{α:Type}{e:Cx α}{s x:Operand}{t j:TypeId}{z:Value}{sz bytes:Nat}(y:P.underlying t=some (.slice j))(hi:(P.info? j).map (fun i=>(i.zero,i.size,i.bytes))=some (some z,sz,bytes))(l:z.cells.size=sz)(m:e.sz=sz)(h0:0<sz)
  {n0:Nat}{Z:Nat→Prop}{A B:Option Addr}{c d n:Nat}{xs ys:List α}(hs:a.eval s=.slice A n c)(aA:xs.length=n)(aB:a.eval x=.slice B ys.length d)(h:Bj e j n0 w Z A c xs)(r:Nw e w Z B d ys)
  (o:xs.length+ys.length≤maxLen)(b:(xs.length+ys.length)*bytes≤140737488355328)(f:n0≤w.heap.size):
  Ce P ⟨dst,.call {callee:=.builtin .append,args:= #[s,x],argTypes:= #[t,t]},ty,pos,B9,g⟩ a w (fun v w'=>∃u aC,v=.slice u (xs++ys).length aC∧w.grownBy w' (ob A)∧(∀k,ob u=some k→(ob A=some k∨w.heap.size≤k)∧k<w'.heap.size)∧
   ∃BE p,R2 e w Z BE xs∧R2 e w Z p ys∧E4 w' n0 j e.sz u (xs++ys).length aC (BE++p).flatten):=by
 by_cases q:ys=[]
 ·refine X6 y hi l m h0 hs aA aB h ?_ o b f;subst q;exact⟨r.1,r.2.1,[],trivial,.inl rfl⟩
 ·obtain⟨_,_,BE,h1,h2⟩:=r;exact ID y hi l m h0 hs aA aB h ⟨BE,h1,h2⟩ o b f q
end
section
variable{α:Type}{e:Cx α}{t:TypeId}{n0:Nat}{w w':World}{Z Z':Nat→Prop}{A:Option Addr}{c:Nat}{xs:List α}
theorem Bj.Zx(a:∀w Z w' Z' cs x,e.R w Z cs x→e.R w' Z' cs x)(h:Bj e t n0 w Z A c xs):Bj e t n0 w Z' A c xs:=by
 obtain⟨BE,h1,h2⟩:=h;exact⟨BE,h1.free a,h2⟩
theorem Bj.Z8(h:Bj e t n0 w Z A c xs):A=none→c=0:=h.all.2.1
theorem Bj.keep(h:Bj e t n0 w Z A c xs)(hm:Mv w Z w' Z')(a:∀k,ob A=some k→w'.heap[k]?=w.heap[k]?):Bj e t n0 w' Z' A c xs:=by
 obtain⟨BE,h1,h2⟩:=h;refine⟨BE,h1.mv hm,h2.1,h2.2.imp id ?_⟩;rintro⟨b,cap,cur,d,f,g,i⟩;cases d;exact⟨b,_,cur,rfl,f,(a b rfl).trans g,i⟩
end
def Ff{α:Type}(xs:List α)(l h:Int):List α:=(xs.take h.toNat).drop l.toNat
def L2(n:Nat)(l h:Int):Option Unit:=if 0≤l∧l≤h∧h≤(n:Int) then some () else none
theorem Kx{α:Type}{n:Nat}{l h:Int}{f:Unit→Option α}{r:α}(a:(L2 n l h).bind f=some r):(0≤l∧l≤h∧h≤(n:Int))∧f ()=some r:=by
 unfold L2 at a;split at a
 ·exact⟨by assumption,a⟩
 ·cases a
def SB(a:Act)(o:Option Operand)(v d:Int):Prop:=(o=none∧v=d)∨∃x k,o=some x∧a.eval x=.int k v
theorem P5{a:Act}{d:Int}:SB a none d d:=.inl ⟨rfl,rfl⟩
theorem SF{a:Act}{x:Operand}{k:IntKind}{v d:Int}(h:a.eval x=.int k v):SB a (some x) v d:=.inr ⟨x,k,rfl,h⟩
theorem JH{P:Program}(w:World)(k:IntKind)(i:Int)(y:Nat)(code:BoundsCode)(h0:0≤i)(h1:i≤(y:Int)):(Instr.sliceBound (.int k i) y code).run P w=.ok i.toNat w:=by
 simp[Instr.sliceBound,asIntOf,h0,h1]
section
variable{P:Program}{a:Act}{w:World}{dst:Option Tmp}{ty:TypeId}{pos:String}{B9:Array Edge}{g:Option (Nat×Bool)}
theorem P6{α:Type}{e:Cx α}{Z:Nat→Prop}{xs:List α}{t s:TypeId}{sz:Nat}{x:Operand}{A:Option Addr}{c:Nat}{lo hi:Option Operand}{l h:Int}(aH:P.underlying t=some (.slice s))(hs:(P.info? s).map (·.size)=some sz)(v:e.sz=sz)
  (aI:a.eval x=.slice A xs.length c)(i:SB a lo l 0)(z:SB a hi h xs.length)(aJ:Sl e w Z A c xs)(hb:0≤l∧l≤h∧h≤(xs.length:Int)):
  Ce P ⟨dst,.slice t x lo hi none,ty,pos,B9,g⟩ a w (fun u w'=>(∃aA aB,u=.slice aA (Ff xs l h).length aB∧Sl e w Z aA aB (Ff xs l h))∧w'=w):=by
 subst v;obtain⟨aQ,m,BE,h2,aK⟩:=aJ;obtain⟨b1,b2,b3⟩:=hb;have hlen:(Ff xs l h).length=h.toNat-l.toNat:=by
  unfold Ff;rw[List.length_drop,List.length_take];omega
 have n:(Instr.sliceAt t (.slice A xs.length c) (lo.map a.eval) (hi.map a.eval) none).run P w=.ok (.slice (if c=l.toNat then A else A.map (·.add (l.toNat*e.sz))) (h.toNat-l.toNat) (c-l.toNat)) w:=by
  have aL:(Instr.sliceBounds true xs.length c (lo.map a.eval) (hi.map a.eval) none).run P w=.ok (l.toNat,h.toNat,c) w:=by
   unfold Instr.sliceBounds;rcases z with⟨rfl,rfl⟩|⟨y,k,rfl,aC⟩
   ·rcases i with⟨rfl,rfl⟩|⟨aM,k',rfl,d⟩
    ·simp
    ·simp[d,JH w k' l xs.length _ (by omega) (by omega)]
   ·have q1:=fun code=>JH (P:=P) w k h c code (by omega) (by omega);rcases i with⟨rfl,rfl⟩|⟨aM,k',rfl,d⟩
    ·simp[aC,q1]
    ·simp[aC,d,q1,JH w k' l h.toNat _ (by omega) (by omega)]
  simp[Instr.sliceAt,Instr.slice,underlying,program,Sem.run,aH,aL,Ju hs]
 refine(OE aI rfl rfl n).mono ?_;rintro u w' ⟨rfl,rfl⟩;refine⟨⟨_,_,by rw[hlen],?_⟩,rfl⟩;have p:=(h2.take h.toNat).drop l.toNat;have aD:((BE.take h.toNat).drop l.toNat).flatten=[]∨(0<e.sz∧l.toNat<h.toNat):=by
  rcases Nat.eq_zero_or_pos e.sz with h0|h0
  ·left;exact List.eq_nil_of_length_eq_zero (by rw[p.Lm,h0,Nat.mul_zero])
  ·rcases Nat.lt_or_ge l.toNat h.toNat with q|q
   ·exact .inr ⟨h0,q⟩
   ·left;exact List.eq_nil_of_length_eq_zero (by rw[p.Lm,List.length_drop,List.length_take,show min h.toNat xs.length-l.toNat=0 by omega,Nat.zero_mul])
 refine⟨by rw[hlen];omega,fun r=>?_,_,p,?_⟩
 ·split at r
  ·have:=m r;omega
  ·have:=m (by simpa using r);omega
 ·rcases aD with h0|⟨h0,q⟩
  ·exact .inl h0
  ·rcases aK with aN|⟨b,o,rfl,aO,aE,f⟩
   ·left;have aF:=h2.Lm;rw[aN] at aF;simp only[List.length_nil] at aF;have aR:0<xs.length*e.sz:=Nat.mul_pos (by omega) h0;omega
   ·right;have aG:¬c=l.toNat:=by omega
    refine⟨b,o+l.toNat*e.sz,by simp[aG,Ge],aO,aE,fun j u hu=>?_⟩;rw[Nat.add_assoc];refine f _ _ ?_;rw[←(h2.take h.toNat).Vk h0,List.getElem?_drop] at hu;have aP:BE.flatten=(BE.take h.toNat).flatten++(BE.drop h.toNat).flatten:=by rw[←List.flatten_append,List.take_append_drop]
    rw[aP,List.getElem?_append_left (List.getElem?_eq_some_iff.1 hu).1];exact hu
end
def Vn(n:Int)(b:Nat):Option Unit:=if 0≤n∧n*b≤140737488355328∧n≤140737488355328 then some () else none
theorem Um{α:Type}{n:Int}{b:Nat}{f:Unit→Option α}{r:α}(h:(Vn n b).bind f=some r):(0≤n∧n*b≤140737488355328∧n≤140737488355328)∧f ()=some r:=by
 unfold Vn at h;split at h
 ·exact⟨by assumption,h⟩
 ·cases h
theorem ME(z:Array Value):∀m:Nat,(madeCells z (m*z.size)).toList=(List.replicate m z.toList).flatten
 |0=>by simp[madeCells]
 |m+1=>by
  have ih:=ME z m;have e:∀k,(madeCells z k).toList=(List.range k).map (z[· %z.size]!):=fun k=>by simp[madeCells]
  rw[e] at ih⊢;rw[Nat.add_mul,Nat.one_mul,List.range_add,List.map_append,ih,List.replicate_succ',List.flatten_append]
  congr 1
  simp only[List.map_map,List.flatten_cons,List.flatten_nil,List.append_nil];refine List.ext_getElem (by simp) fun i h1 h2=>?_;simp only[List.getElem_map,List.getElem_range,Function.comp];have hi:i<z.size:=by simpa using h2
  rw[Nat.add_comm,Nat.add_mul_mod_self_right,Nat.mod_eq_of_lt hi];simp[hi]
theorem R2.ZU{α:Type}{e:Cx α}{w:World}{Z:Nat→Prop}{c:List Value}{x:α}(h:e.R w Z c x):∀m:Nat,R2 e w Z (List.replicate m c) (List.replicate m x)
 |0=>trivial
 |m+1=>⟨h,R2.ZU h m⟩
section
variable{P:Program}{a:Act}{w:World}{dst:Option Tmp}{ty:TypeId}{pos:String}{B9:Array Edge}{g:Option (Nat×Bool)}
theorem VO{α:Type}{e:Cx α}{z:α}{zc:List Value}{n0:Nat}{t j:TypeId}{d:Value}{sz bytes:Nat}{n:Int}{x y:Operand}{m o:IntKind}{b':Nat}(aA:P.underlying t=some (.slice j))(hi:(P.info? j).map (fun i=>(i.zero,i.size,i.bytes))=some (some d,sz,bytes))
  (p:d.cells.toList=zc)(c:e.sz=sz)(aB:a.eval x=.int m n)(aC:a.eval y=.int o n)(hm:0≤n∧n*b'≤140737488355328∧n≤140737488355328)(q:∀w Z,e.R w Z zc z)(hb:n0≤w.heap.size)(aG:bytes≤b'):
  Ce P ⟨dst,.makeSlice t x y,ty,pos,B9,g⟩ a w (fun u w'=>∃b,u=.slice (some ⟨b,0,none⟩) (List.replicate n.toNat z).length n.toNat∧w.heap.size≤b∧b<w'.heap.size∧Ext w w'∧∀Z,Bj e j n0 w' Z (some ⟨b,0,none⟩) n.toNat (List.replicate n.toNat z)):=by
 subst p;subst c;cases f:P.info? j with
 |none=>simp[f] at hi
 |some i=>
  rw[f] at hi;simp only[Option.map_some,Option.some.injEq,Prod.mk.injEq] at hi;obtain⟨h1,h2,aD⟩:=hi;obtain⟨r,aH,aI⟩:=hm;have s:d.cells.toList.length=e.sz:=e.len (q w ZA);have c:d.cells.size=e.sz:=by simpa using s
  have v:(i.bytes:Int)*n≤281474976710656:=by
   rw[aD];have aE:(bytes:Int)*n≤(b':Int)*n:=Int.mul_le_mul_of_nonneg_right (by omega) r;rw[Int.mul_comm (b':Int)] at aE;omega
  have aF:=run_make (P:=P) w t j i d aA f h1 m o n n r (Int.le_refl _) v (by omega);refine(KI (S:=Instr.makeSlice t (a.eval x) (a.eval y)) rfl (by rw[aB,aC];exact aF)).mono fun u w' h=>?_;obtain⟨rfl,rfl⟩:=h;have l:=KH w j (madeCells d.cells (n.toNat*i.size));refine⟨w.heap.size,by rw[List.length_replicate],Nat.le_refl _,by rw[l.sz];exact Nat.lt_succ_self _,l.gr,fun Z=>⟨_,R2.ZU (q _ Z) n.toNat,?_⟩⟩;rw[List.length_replicate];have k:(List.replicate n.toNat d.cells.toList).flatten.length=n.toNat*e.sz:=by rw[←ME,←c];simp[size_madeCells]
  refine⟨k,.inr ⟨w.heap.size,n.toNat,_,rfl,hb,l.bk,Nat.le_refl _,by simp only[maxLen];omega,by rw[size_madeCells,h2],?_⟩⟩;rw[h2,←c,ME,List.take_of_length_le (by rw[k,c];exact Nat.le_refl _)]
end
section
variable{P:Program}{a:Act}{w:World}{dst:Option Tmp}{ty:TypeId}{pos:String}{B9:Array Edge}{g:Option (Nat×Bool)}
theorem Un {α:Type} {e:Cx α} {r t:TypeId} {x y:Operand} {b o k p c:Nat} {v:Value} {n0:Nat} {Z:Nat→Prop} {A:Option Addr} {xs:List α} {z z':α} {l:List Value} {n:Nat}
  (s:Bj e r n0 w Z A c xs) (aB:xs[k]?=some z) (aK:A=some ⟨b,o,none⟩) (aL:p=o+k*e.sz) (aM:a.eval x=.pointer (some ⟨b,p,none⟩)) (aN:a.eval y=v) (hs:(P.info? t).map (·.size)=some n) (hl:v.cells.toList=l) (aO:l.length=n)
  (h1:∀u∈l,u.oneCell'=true) (aC:e.R w Z l z'):
  Ce P ⟨dst,.store t x y,ty,pos,B9,g⟩ a w (fun _ w'=>w.grownBy w' (ob A)∧∃BE,R2 e w Z BE (xs.set k z')∧E4 w' n0 r e.sz A (xs.set k z').length c BE.flatten):=by
 obtain⟨BE,h2,aP⟩:=s;obtain⟨aY,aT,aD,aU⟩:=h2.get aB;have aV:=e.len aD;have aE:=e.len aC;subst aK;subst aL;have aF:k<xs.length:=(List.getElem?_eq_some_iff.1 aB).1;have hlen:=h2.len;have f:=h2.lens;rcases aP.2 with⟨aG,h0⟩|⟨aZ,cap,cur,aG,aH,aQ,i,aI,aA,h⟩
 ·omega
 ·cases aG;have aW:k*e.sz+e.sz≤xs.length*e.sz:=by
   have:(k+1)*e.sz≤xs.length*e.sz:=Nat.mul_le_mul_right _ aF;rw[Nat.add_mul,Nat.one_mul] at this;exact this
  have aX:xs.length*e.sz≤c*e.sz:=Nat.mul_le_mul_right _ i;have aJ:Bk w b r cur:=aQ;refine(Bv (Cv:=setCells cur (0+k*e.sz) l) aM aN hs aJ hl aO (by omega) h1 rfl).mono ?_;rintro _ w' ⟨s1,s2,aR⟩;have d:=h2.set aC k;refine⟨aR,_,d,by rw[d.Lm],.inr ⟨b,c,setCells cur (0+k*e.sz) l,rfl,aH,s2,by rw[List.length_set];exact i,aI,by rw[Mh 0];exact aA,?_⟩⟩;rw[List.length_set];rcases Nat.eq_zero_or_pos e.sz with h0|h0
  ·have aS:(BE.set k l).flatten=[]:=List.eq_nil_of_length_eq_zero (by rw[d.Lm,h0,Nat.mul_zero]);rw[aS,h0,Nat.mul_zero,List.take_zero]
  ·refine List.ext_getElem? fun j=>?_;rw[P2 aE h0 k BE j f (by omega),List.getElem?_take,Array.getElem?_toList,MC _ _ _ _ (by omega)];have m:∀j:Nat,BE.flatten[j]?=if j<xs.length*e.sz then cur[j]? else none:=fun j=>by
    rw[←h,List.getElem?_take,Array.getElem?_toList]
   by_cases hj:j<xs.length*e.sz
   ·rw[if_pos hj]
    by_cases q:k*e.sz≤j∧j<k*e.sz+e.sz
    ·rw[if_pos (by omega),if_pos q,show j-(0+k*e.sz)=j-k*e.sz by omega]
    ·rw[if_neg (by omega),if_neg q,m,if_pos hj]
   ·rw[if_neg hj,if_neg (by omega),m,if_neg hj]
theorem Td{α:Type}{e:Cx α}{f t:TypeId}{x y:Operand}{b o k p c:Nat}{v:Value}{n0:Nat}{Z:Nat→Prop}{A:Option Addr}{xs:List α}{z z':α}{l:List Value}{n:Nat}
  (d:Bj e f n0 w Z A c xs)(i:xs[k]?=some z)(j:A=some ⟨b,o,none⟩)(m:p=o+k)(q:a.eval x=.pointer (some ⟨b,p,none⟩))(r:a.eval y=v)(hs:(P.info? t).map (·.size)=some n)(hl:v.cells.toList=l)(s:l.length=n)
  (h1:∀u∈l,u.oneCell'=true)(aA:e.R w Z l z')(h:e.sz=1:=by rfl):
  Ce P ⟨dst,.store t x y,ty,pos,B9,g⟩ a w (fun _ w'=>w.grownBy w' (ob A)∧∃BE,R2 e w Z BE (xs.set k z')∧E4 w' n0 f e.sz A (xs.set k z').length c BE.flatten):=
 Un d i j (by rw[h,Nat.mul_one];exact m) q r hs hl s h1 aA
end
theorem K0{l:List Int}{i:Nat}{x:Int}(h:l[i]?=some x):(l.map fun n=>Value.int .i64 n)[i]?=some (.int .i64 x):=by rw[List.getElem?_map,h];rfl
def TC(w:World)(D:Nat→Prop)(M:World→Prop):Nat→World→Prop
 |0,w'=>Ext w w'
 |_+1,w'=>BO D w w'∧M w'
section
variable{w w' BD:World}{D:Nat→Prop}{M:World→Prop}{ph:Nat}
theorem X8(h:TC w D M ph w'):BO D w w':=by
 cases ph with
 |zero=>exact FK h
 |succ=>exact h.1
theorem OG(h:TC w D M ph w')(a:ph=0):Ext w w':=by subst a;exact h
theorem X9(c:∀a b,M a→Ext a b→M b)(h:TC w D M ph w')(g:Ext w' BD):TC w D M ph BD:=by
 cases ph with
 |zero=>exact Ext.trans h g
 |succ=>exact⟨(show BO D w w' from h.1).trans (FK g),c _ _ h.2 g⟩
theorem Zy(h:TC w D M ph w')(a:ph=0)(g:BO D w' BD)(b:M BD):TC w D M (ph+1) BD:=by
 subst a;exact⟨(FK h).trans g,b⟩
theorem VP{r:Option Nat}(g:w.grownBy w' r):BO (FU FN [r]) w w':=KY g fun k e=>.inr (by rw[e];exact List.mem_singleton_self _)
end
section
variable{F F':Nat→Prop}{B:List (Option Nat)}{w0 w w':World}{L M:List (Option Nat)}
theorem Hp.Ob{α:Type}{e:Cx α}{t:TypeId}{A:Option Addr}{c:Nat}{xs:List α}{Z Z':Nat→Prop}(h:Hp F B w0 L w)(b:∀w Z w' Z' cs x,e.R w Z cs x→e.R w' Z' cs x)(a:Bj e t w.heap.size w' Z' A c xs):Bj e t w0.heap.size w' Z A c xs:=
 Bj.Zx b (a.base (n1:=w0.heap.size) fun k d=>Nat.le_trans h.sz (a.ge k d))
end
def SG(w:World)(R:World→Value→World→Prop)(a:World):Prop:=∃v w1 w2,Ext w w1∧R w1 v w2∧Ext w2 a
theorem Te{w:World}{R:World→Value→World→Prop}:∀a b,SG w R a→Ext a b→SG w R b:=fun _ _ ⟨v,w1,w2,h1,h2,c⟩ g=>⟨v,w1,w2,h1,h2,Ext.trans c g⟩
def GA(n:Nat)(w:World):List Nat→Prop
 |[]=>True
 |b::l=>n≤b∧b<w.heap.size∧(l.all fun x=> !Nat.beq b x)=true∧GA n w l
section
variable{F F':Nat→Prop}{B:List (Option Nat)}{w0 w w':World}{L M:List (Option Nat)}{Z:Nat→Prop}
theorem GA.mem{n:Nat}:∀{l:List Nat},GA n w l→∀b∈l,n≤b∧b<w.heap.size
 |[],_,_,h=>by cases h
 |x::l,h,b,hb=>by
  rcases List.mem_cons.1 hb with rfl|hb
  ·exact⟨h.1,h.2.1⟩
  ·exact GA.mem h.2.2.2 b hb
theorem GA.grow{n a:Nat}(b:a≤n)(hs:w.heap.size≤w'.heap.size):∀{l:List Nat},GA n w l→GA a w' l
 |[],_=>trivial
 |_::_,h=>⟨Nat.le_trans b h.1,Nat.lt_of_lt_of_le h.2.1 hs,h.2.2.1,GA.grow b hs h.2.2.2⟩
theorem Hp.P7(h:Hp F B w0 L w):∀{l:List Nat},Hp F B w0 L w'→GA w.heap.size w' l→Hp F B w0 (l.map some++L) w'
 |[],a,_=>a
 |b::l,a,hl=>by
  have h2:=Hp.P7 h a hl.2.2.2;refine⟨h2.ch,fun k c=>?_,?_,h.ff⟩
  ·rcases List.mem_cons.1 c with e|c
   ·cases e;exact⟨hl.2.1,fun m=>absurd (h.ff _ m) (by have:=h.sz;have:=hl.1;omega),fun f=>absurd f (by have:=h.sz;have:=hl.1;omega)⟩
   ·exact h2.lo k c
  ·have key:∀(j:Nat) (x:Nat),(l.map some++L)[j]?=some (some x)→x≠b:=fun j x n e=>by
    subst e;have hm:=List.mem_of_getElem? n;rcases List.mem_append.1 hm with hm|hm
    ·obtain⟨y,o,e⟩:=List.mem_map.1 hm;cases e;have:=List.all_eq_true.1 hl.2.2.1 x o;rw[Nat.beq_refl] at this;cases this
    ·have:=(h.lo x hm).1;have:=hl.1;omega
   intro i j x g hi hj;cases i with
   |zero=>
    cases j with
    |zero=>exact g rfl
    |succ j=>
     have d:b=x:=by simpa using hi
     exact key j x (by simpa using hj) d.symm
   |succ i=>
    cases j with
    |zero=>
     have d:b=x:=by simpa using hj
     exact key i x (by simpa using hi) d.symm
    |succ j=>exact h2.ap i j x (by omega) (by simpa using hi) (by simpa using hj)
theorem Hp.H6(h:Hp F B w0 L w)(g:Ext w w'){l:List Nat}(hl:GA w.heap.size w' l):Hp F B w0 (l.map some++L) w':=h.P7 (h.ext g) hl
theorem Cd{n0:Nat}{l:List Nat}(hm:Mv w (ZZ F B Z n0 L) w' (ZZ F B Z n0 L))(hl:GA w.heap.size w' l):Mv w (ZZ F B Z n0 L) w' (ZZ F B Z n0 (l.map some++L)):=
 ⟨hm.size,fun k c b=>⟨(hm.stay k c b).1.imp id fun⟨h1,h2⟩=>⟨h1,fun a=>by
  rcases List.mem_append.1 a with a|a
  ·obtain⟨y,d,e⟩:=List.mem_map.1 a;cases e;have:=(hl.mem k d).1;omega
  ·exact h2 a⟩,(hm.stay k c b).2⟩⟩
theorem PA{b c:Nat}(hb:w.heap.size≤b)(a:b<w'.heap.size)(f:w.heap.size≤c)(d:c<w'.heap.size)(e:b≠c):GA w.heap.size w' [b,c]:=
 ⟨hb,a,by
  have:Nat.beq b c=false:=by
   cases h:Nat.beq b c with
   |false=>rfl
   |true=>exact absurd (Nat.eq_of_beq_eq_true h) e
  simp[this],f,d,rfl,trivial⟩
theorem Hp.MF (h:Hp F B w0 L w):∀(l:List Nat) (c:List Nat),HX L c (l.map some)→Lw c=true→(∀b∈l,w0.heap.size≤b)→GA w0.heap.size w l
 |[],_,_,_,_=>trivial
 |b::l,[],a,_,_=>a.elim
 |b::l,j::c,a,e,d=>by
  simp only[Lw,Bool.and_eq_true] at e;refine⟨d b (List.mem_cons_self ..),(h.lo b (List.mem_of_getElem? a.1)).1,?_,h.MF l c a.2 e.2 fun x f=>d x (List.mem_cons_of_mem _ f)⟩;rw[List.all_eq_true];intro x f;cases hb:Nat.beq b x with
  |false=>rfl
  |true=>
   have g:=Nat.eq_of_beq_eq_true hb;subst g;have h1:=h.Cz (F':=FN) j a.1 c e.1 a.2 (fun _ h=>h.elim);exact absurd (.inr (List.mem_map.2 ⟨b,f,rfl⟩)) h1
theorem FL{n0:Nat}:Mv w (ZZ F B Z n0 L) w (ZZ FN [] Z n0 [none]):=KK fun b hb _=>by
 rcases hb with⟨h1,h2,_⟩|⟨h1,_⟩
 ·exact .inl ⟨h1,h2,id,by simp⟩
 ·exact .inr ⟨h1,by simp⟩
end
section
variable{P:Program}{N:Nat}{Q:Exit→Act→World→Prop}{a:Act}{l:Env}{w:World}
def SH(a:Act):Act:={a with defers:=[]}
theorem Pc(a:Act):∀l:Env,B8 (SH a) l=SH (B8 a l)
 |[]=>rfl
 |(d,v)::l=>by simp only[B8,Pc a l];rfl
theorem Ly{D:Nat}{fn:Func}{R:Value→World→Prop}(c:w.heap[D]?=some (.deferred (some [])))(h:∀w',Jl D w w'→LV X0 N (bodyPost P fn (fun e w'=>∃v,e=.returned v∧R v w')) .ret (SH a) l w'):
  LV (X1 D) N (PM P fn R) .ret a l w:=fun s=>by
 have hs:St X0 N (SH a) l:=⟨s.sz,rfl,s.lt⟩;obtain⟨_,v,b,d⟩:=h _ (Jb w D (.deferred none)) hs;show LeavesInM Fence.wide 0 P fn _ _ (B8 a l).defers .returning w;rw[El,show a.defers=mark D from s.df];refine⟨by simp,.inl ⟨D,_,rfl,run_takeDeferred c,?_⟩⟩;rw[Pc] at b;exact⟨v,b,d⟩
end
theorem Rt{α:Type}{b:Bool}{x:Option α}{r:α}(h:cond b none x=some r):b=false∧x=some r:=by
 cases b with
 |true=>cases h
 |false=>exact⟨rfl,h⟩
def Gg(xs:List Int):List Int:=xs.mergeSort fun x y=>decide (x≤y)
theorem K1(xs:List Int):(Gg xs).length=xs.length:=List.length_mergeSort _
theorem Tf{w:World}{Z:Nat→Prop}:∀{BE:List (List Value)} {xs:List Int},R2 (Ah .i64) w Z BE xs→BE.flatten=IN xs
 |[],[],_=>rfl
 |c::BE,x::xs,h=>by
  have h1:c=[.int .i64 x]:=h.1;rw[List.flatten_cons,Tf h.2,h1];rfl
 |[],_::_,h=>h.elim
 |_::_,[],h=>h.elim
theorem Tg{w:World}{Z:Nat→Prop}:∀xs:List Int,R2 (Ah .i64) w Z (xs.map fun x=>[.int .i64 x]) xs
 |[]=>trivial
 |_::xs=>⟨rfl,Tg xs⟩
theorem Uo(xs:List Int):(xs.map fun x=>[Value.int .i64 x]).flatten=IN xs:=by
 induction xs with
 |nil=>rfl
 |cons x xs ih=>rw[List.map_cons,List.flatten_cons,ih];rfl
theorem SI{t:TypeId}{n0:Nat}{w:World}{Z:Nat→Prop}{A:Option Addr}{c:Nat}{xs:List Int}(h:Bj (Ah .i64) t n0 w Z A c xs):E4 w n0 t 1 A xs.length c (IN xs):=by
 obtain⟨BE,h1,h2⟩:=h;rw[←Tf h1];exact h2
theorem PB{t:TypeId}{n0:Nat}{w:World}{Z:Nat→Prop}{A:Option Addr}{c:Nat}{xs:List Int}(h:E4 w n0 t 1 A xs.length c (IN xs)):Bj (Ah .i64) t n0 w Z A c xs:=
 ⟨_,Tg xs,by rw[Uo];exact h⟩
section
variable{P:Program}{N:Nat}{a:Act}{l:Env}{w:World}
theorem ND{fn:Func}{t q n:ResultVar}{v v' NB:Value}{R:Value→World→Prop}(g:fn.results= #[t,q,n])(h1:PZ P a l w t v)(h2:PZ P a l w q v')(i:PZ P a l w n NB)(h:R (.tuple #[v,v',NB]) w):
  LV X0 N (bodyPost P fn (fun e w'=>∃v,e=.returned v∧R v w')) .ret a l w:=fun s=>by
 refine bodyPost_ret (v:=.tuple #[v,v',NB]) ?_ (by rw[El,s.df]) ⟨_,rfl,h⟩;cases t with
 |tmp t0=>
  have d:(B8 a l).tmps.getD t0 undef=v:=ee s h1;simp only[Array.getD_eq_getD_getElem?] at d;cases q with
  |tmp t1=>
   have c:(B8 a l).tmps.getD t1 undef=v':=ee s h2;simp only[Array.getD_eq_getD_getElem?] at c;cases n with
   |tmp t2=>
    have b:(B8 a l).tmps.getD t2 undef=NB:=ee s i;simp only[Array.getD_eq_getD_getElem?] at b;simp[results,g,d,c,b]
   |cell j t2=>
    obtain⟨f,k,m⟩:=i;have b:(B8 a l).tmps.getD j undef=.pointer (some f):=ee s k;simp only[Array.getD_eq_getD_getElem?] at b;simp[results,g,d,c,b,asAddr,m]
  |cell u t1=>
   obtain⟨o,x,p⟩:=h2;have c:(B8 a l).tmps.getD u undef=.pointer (some o):=ee s x;simp only[Array.getD_eq_getD_getElem?] at c;cases n with
   |tmp t2=>
    have b:(B8 a l).tmps.getD t2 undef=NB:=ee s i;simp only[Array.getD_eq_getD_getElem?] at b;simp[results,g,d,c,asAddr,p,b]
   |cell j t2=>
    obtain⟨f,k,m⟩:=i;have b:(B8 a l).tmps.getD j undef=.pointer (some f):=ee s k;simp only[Array.getD_eq_getD_getElem?] at b;simp[results,g,d,c,asAddr,p,b,asAddr,m]
 |cell z t0=>
  obtain⟨y,aA,r⟩:=h1;have d:(B8 a l).tmps.getD z undef=.pointer (some y):=ee s aA;simp only[Array.getD_eq_getD_getElem?] at d;cases q with
  |tmp t1=>
   have c:(B8 a l).tmps.getD t1 undef=v':=ee s h2;simp only[Array.getD_eq_getD_getElem?] at c;cases n with
   |tmp t2=>
    have b:(B8 a l).tmps.getD t2 undef=NB:=ee s i;simp only[Array.getD_eq_getD_getElem?] at b;simp[results,g,d,asAddr,r,c,b]
   |cell j t2=>
    obtain⟨f,k,m⟩:=i;have b:(B8 a l).tmps.getD j undef=.pointer (some f):=ee s k;simp only[Array.getD_eq_getD_getElem?] at b;simp[results,g,d,asAddr,r,c,b,asAddr,m]
  |cell u t1=>
   obtain⟨o,x,p⟩:=h2;have c:(B8 a l).tmps.getD u undef=.pointer (some o):=ee s x;simp only[Array.getD_eq_getD_getElem?] at c;cases n with
   |tmp t2=>
    have b:(B8 a l).tmps.getD t2 undef=NB:=ee s i;simp only[Array.getD_eq_getD_getElem?] at b;simp[results,g,d,asAddr,r,c,asAddr,p,b]
   |cell j t2=>
    obtain⟨f,k,m⟩:=i;have b:(B8 a l).tmps.getD j undef=.pointer (some f):=ee s k;simp only[Array.getD_eq_getD_getElem?] at b;simp[results,g,d,asAddr,r,c,asAddr,p,b,asAddr,m]
end
end Go.Proofs.YtbhofkcbfblijaaGreat
end
section
namespace Go.Proofs.YtbhofkcbfblijaaGreat
open Go.RowKit
theorem P8{b:Bool}(h:b=true→False):b=false:=by cases b<;>simp_all
theorem MG{b:Bool}(h:b=false)(k:b=true):False:=by rw[h] at k;cases k
section
variable{F F':Nat→Prop}{B:List (Option Nat)}{w0 w w' BD:World}{Z:Nat→Prop}{L M:List (Option Nat)}
theorem NF(h:Ext w w'){r:Option Nat}(g:w'.grownBy BD r)(b:∀k,r=some k→w.heap.size≤k):Ext w BD:=
 ⟨g.os.trans h.os,g.tape.trans h.tape,g.output.trans h.output,Nat.le_trans h.size g.size,fun k a _=>(g.block k (Nat.lt_of_lt_of_le a h.size) (fun e=>by have:=b k e.symm;omega)).trans (h.block k a (by simp))⟩
theorem I1{D:Nat→Prop}(h:BO D w w'){r:Option Nat}(g:w'.grownBy BD r)(c:∀k,r=some k→D k∨w.heap.size≤k):BO D w BD:=
 ⟨g.os.trans h.os,g.tape.trans h.tape,g.output.trans h.output,Nat.le_trans h.size g.size,fun k a b=>(g.block k (Nat.lt_of_lt_of_le a h.size) (fun e=>by
  rcases c k e.symm with h1|h1
  ·exact b h1
  ·omega)).trans (h.block k a b)⟩
theorem Hx{x y:Option Nat}{n:Nat}(hl:∀k,x=some k→n≤k)(hs:n≤w'.heap.size)(a:∀k,y=some k→(x=some k∨w'.heap.size≤k)∧k<BD.heap.size):∀k,y=some k→n≤k:=fun k b=>
 (a k b).1.elim (hl k) (fun h=>Nat.le_trans hs h)
theorem NG{x y a:Option Nat}{n:Nat}(hl:∀k,x=some k→a=some k∨n≤k)(hs:n≤w'.heap.size)(b:∀k,y=some k→(x=some k∨w'.heap.size≤k)∧k<BD.heap.size):∀k,y=some k→a=some k∨n≤k:=fun k c=>
 (b k c).1.elim (hl k) (fun h=>.inr (Nat.le_trans hs h))
theorem K2{b:Nat}{t:TypeId}{cs:Array Value}(nb:LN w' BD b t cs):∀k,ob (some ⟨b,0,none⟩)=some k→((none:Option Nat)=some k∨w'.heap.size≤k)∧k<BD.heap.size:=fun k e=>by
 cases e;exact⟨.inr (Nat.le_of_eq nb.E9.symm),nb.bk.lt⟩
theorem P9{α:Type}{e:Cx α}{t:TypeId}{A:Option Addr}{c:Nat}{xs:List α}{Z:Nat→Prop}(h:Bj e t w'.heap.size BD Z A c xs):∀k,ob A=some k→((none:Option Nat)=some k∨w'.heap.size≤k)∧k<BD.heap.size:=fun k e=>⟨.inr (h.ge k e),h.JZ k e⟩
end
theorem qz{X:Ctx}{N:Nat}{a:Act}{l:Env}(st:St X N a l):(B8 a l).tmps.size=N:=(Kr _ _).trans st.sz
theorem qd{X:Ctx}{N:Nat}{a:Act}{l:Env}(st:St X N a l):(B8 a l).defers=X.ds:=(El _ _).trans st.df
theorem sp{X:Ctx}{N:Nat}{a:Act}{l:Env}(st:St X N a l)(k:Nat){v:Value}(h:lk (sl a k) l k=v):sl (B8 a l) k=v:=(KN st k).trans h
theorem Hp.nb{F:Nat→Prop}{B L:List (Option Nat)}{w0 w w':World}{b:Nat}{t:TypeId}{cs:Array Value}(h:Hp F B w0 L w)(n:LN w w' b t cs):Hp F B w0 (some b::L) w':=h.new n.gr (Nat.le_of_eq n.E9.symm) (Nat.lt_of_lt_of_eq (Nat.lt_succ_self _) n.sz.symm)
theorem Hp.BJ{F:Nat→Prop}{B L:List (Option Nat)}{w0 w w':World}{b:Nat}{t:TypeId}{cs:Array Value}(h:Hp F B w0 L w)(n:LN w w' b t cs):w0.heap.size≤b:=by rw[n.E9];exact h.sz
theorem Ax{F:Nat→Prop}{B L:List (Option Nat)}{Z:Nat→Prop}{w w':World}{n0 b:Nat}{t:TypeId}{cs:Array Value}(n:LN w w' b t cs):Mv w (ZZ F B Z n0 L) w' (ZZ F B Z n0 (some b::L)):=Mz n.gr (Nat.le_of_eq n.E9.symm)
theorem X2{b c:Sort _}{p:b→c→Prop}{C:Prop}(h:∃a x1,p a x1)(k:∀a x1,p a x1→C):C:=h.elim fun a h=>h.elim fun x1 h=>k a x1 h
theorem X4{c d e f:Sort _}{p:c→d→e→f→Prop}{C:Prop}(h:∃a x1 x2 b,p a x1 x2 b)(k:∀a x1 x2 b,p a x1 x2 b→C):C:=h.elim fun a h=>h.elim fun x1 h=>h.elim fun x2 h=>h.elim fun b h=>k a x1 x2 b h
theorem Y2{a0 a1 r C:Prop}(h:a0∧a1∧r)(k:a0→a1→r→C):C:=h.elim fun a h=>h.elim fun x1 h=>k a x1 h
theorem Y4{a0 a1 a2 a3 r C:Prop}(h:a0∧a1∧a2∧a3∧r)(k:a0→a1→a2→a3→r→C):C:=h.elim fun a h=>h.elim fun x1 h=>h.elim fun x2 h=>h.elim fun b h=>k a x1 x2 b h
theorem Y8{a0 a1 a2 a3 a4 a5 a b r C:Prop}(h:a0∧a1∧a2∧a3∧a4∧a5∧a∧b∧r)(k:a0→a1→a2→a3→a4→a5→a→b→r→C):C:=h.elim fun c h=>h.elim fun x1 h=>h.elim fun x2 h=>h.elim fun d h=>h.elim fun e h=>h.elim fun f h=>h.elim fun g h=>h.elim fun i h=>k c x1 x2 d e f g i h
theorem Ln{α β:Type}{o:Option α}{A:Option β}{f:α→Option β}{r:β}(h:o=none)(a:Option.elim o A f=some r):A=some r:=by rw[h] at a;exact a
theorem Lp{α β:Type}{o:Option α}{A:Option β}{f:α→Option β}{r:β}{x:α}(h:o=some x)(a:Option.elim o A f=some r):f x=some r:=by rw[h] at a;exact a
theorem Hp.JI{F:Nat→Prop}{B L:List (Option Nat)}{Z:Nat→Prop}{w0 w w':World}{b r:Nat}(h:Hp F B w0 L w)(c:GA w.heap.size w' [b,r]):Mv w' (ZZ FN [] (ZZ F B Z w0.heap.size L) w.heap.size [some b,some r]) w' (ZZ F B Z w0.heap.size (some b::some r::L)):=
 h.call (Nat.le_refl _) (fun k d=>.inr (by
  have e:k=b∨k=r:=by simpa using d
  rcases e with e|e<;>rw[e]
  ·exact(c.mem _ (by simp)).1
  ·exact(c.mem _ (by simp)).1)) (fun x a=>by
  simp only[List.mem_cons] at a;rcases a with rfl|rfl|a
  ·right;simp
  ·right;simp
  ·left;exact a)
theorem Hp.Ya{F:Nat→Prop}{B L:List (Option Nat)}{Z:Nat→Prop}{w0 w w':World}{b r n:Nat}(h:Hp F B w0 L w)(hs:w.heap.size≤n)(c:GA n w' [b,r]):Mv w' (ZZ FN [] (ZZ F B Z w0.heap.size L) n [some b,some r]) w' (ZZ F B Z w0.heap.size (some b::some r::L)):=
 h.call hs (fun k d=>.inr (by
  have e:k=b∨k=r:=by simpa using d
  rcases e with e|e<;>rw[e]
  ·exact(c.mem _ (by simp)).1
  ·exact(c.mem _ (by simp)).1)) (fun x a=>by
  simp only[List.mem_cons] at a;rcases a with rfl|rfl|a
  ·right;simp
  ·right;simp
  ·left;exact a)
theorem JJ{w:World}{Z:Nat→Prop}{b:Nat}{t:TypeId}{cs:Array Value}{l:List Value}(h:Bk w b t cs)(a:Z b)(hl:l=cs.toList):Rz w Z (some ⟨b,0,none⟩) l:=
 .inr ⟨b,0,rfl,a,h.lt,fun j u hu=>by rw[Nat.zero_add,h.cell];subst hl;simpa using hu⟩
theorem Zz{w w':World}{b:Nat}(hb:w.heap.size≤b)(hs:b<w'.heap.size):GA w.heap.size w' [b]:=⟨hb,hs,(by simp),trivial⟩
theorem VQ{n b r:Nat}{w:World}(c:GA n w [b,r]):By FN [some r] w:=⟨fun k d=>by
  have e:k=r:=by simpa using d
  rw[e];exact⟨(c.mem r (by simp)).2,fun h=>h⟩,fun i j k a hi hj=>by
  cases i with
  |zero=>cases j with
   |zero=>exact absurd rfl a
   |succ j=>simp at hj
  |succ i=>simp at hi,fun _ h=>h.elim⟩
theorem Yb{n b r:Nat}{w:World}(a:GA n w [b,r]):b≠r:=fun e=>by
 have h:=a.2.2.1;simp[e] at h
theorem Z9{n b r:Nat}{w:World}(a:GA n w [b,r]):ZC FN [some r] b:=⟨fun h=>h,fun hm=>Yb a (by simpa using hm)⟩
theorem Lf{n b r:Nat}{w:World}{Z:Nat→Prop}(a:GA n w [b,r]):∀k,ZZ FN [] Z n [some b,some r] k→ZC FN [some r] k:=fun k c=>⟨fun h=>h,fun hm=>by
 have e:k=r:=by simpa using hm
 have h1:=(a.mem r (by simp)).1;rcases c with⟨h,_⟩|⟨_,h⟩
 ·omega
 ·exact h (by rw[e];simp)⟩
theorem Q8{w0 w w':World}{r:Nat}(h:Ext w0 w)(g:BO (FU FN [some r]) w w')(c:w0.heap.size≤r):Ext w0 w':=⟨g.os.trans h.os,g.tape.trans h.tape,g.output.trans h.output,Nat.le_trans h.size g.size,fun b hb _=>by
 have h1:=h.block b hb (by simp);have h2:=g.block b (Nat.lt_of_lt_of_le hb h.size) (fun a=>by
  rcases a with a|a
  ·exact a
  ·have e:b=r:=by simpa using a
   omega)
 exact h2.trans h1⟩
theorem ZB{α:Type}{ev:α→Value}{n:Nat}{L:List (List Int×α)}{w:World}{b r:Nat}{t:TypeId}{cs:Array Value}(h:Bk w b t cs)(hm:Ct ev w r n L):¬FU FN [some r] b:=by
 rintro(a|a)
 ·exact a
 ·have e:b=r:=by simpa using a
  obtain⟨es,cl,h1,_⟩:=hm;rw[←e] at h1;have h2:w.heap[b]?=some (.cells cs t (0,0)):=h;rw[h2] at h1;cases h1
theorem E4.cut{w:World}{base e sz n c k:Nat}{A:Option Addr}{xs:List Value}(h:E4 w base e sz A n c xs)(f:k≤n):E4 w base e sz A k c (xs.take (k*sz)):=by
 have hl:=h.1;have hle:k*sz≤n*sz:=Nat.mul_le_mul_right _ f;refine⟨by rw[List.length_take];omega,?_⟩;rcases h.2 with⟨a,h0⟩|⟨g,cap,cur,a,hb,i,l,b,d,j⟩
 ·have:k=0:=by omega
  subst this;subst h0;cases a;exact .inl ⟨rfl,rfl⟩
 ·cases a;refine .inr ⟨g,c,cur,rfl,hb,i,by omega,b,d,?_⟩;rw[←j,List.take_take,Nat.min_eq_left hle]
section
variable{α:Type}{e:Cx α}{t:TypeId}{n0:Nat}{w w':World}{Z Z':Nat→Prop}{A:Option Addr}{c:Nat}{xs:List α}
theorem R2.PC:∀(k:Nat) {BE:List (List Value)} {xs:List α},R2 e w Z BE xs→k≤xs.length→BE.flatten.take (k*e.sz)=(BE.take k).flatten
 |0,_,_,_,_=>by simp
 |k+1,[],[],_,a=>by simp at a
 |k+1,[],_::_,h,_=>by cases h
 |k+1,_::_,[],h,_=>by cases h
 |k+1,cs::BE,x::xs,h,a=>by
  have h1:cs.length=e.sz:=e.len h.1;have ih:=R2.PC k h.2 (by simpa using a);rw[List.flatten_cons,List.take_succ_cons,List.flatten_cons,←ih,Nat.succ_mul,Nat.add_comm,List.take_append,h1,List.take_of_length_le (by omega)]
  congr 2
  omega
theorem Bj.cut(h:Bj e t n0 w Z A c xs){k:Nat}(a:k≤xs.length):Bj e t n0 w Z A c (xs.take k):=by
 obtain⟨BE,h1,h2⟩:=h;refine⟨BE.take k,h1.take k,?_⟩;have b:=h2.cut a;rw[R2.PC k h1 a] at b
 rwa[List.length_take,Nat.min_eq_left a]
end
section
variable{P:Program}{a:Act}{w:World}{dst:Option Tmp}{ty:TypeId}{pos:String}{B9:Array Edge}{g:Option (Nat×Bool)}
theorem Yc {α:Type} {e:Cx α} {n0:Nat} {Z:Nat→Prop} {xs:List α} {t b:TypeId} {sz:Nat} {x y:Operand} {A:Option Addr} {c:Nat} {k:IntKind} {h:Int} (i:P.underlying t=some (.slice b)) (hs:(P.info? b).map (·.size)=some sz)
  (j:a.eval x=.slice A xs.length c) (l:a.eval y=.int k h) (m:Bj e b n0 w Z A c xs) (hb:0≤(0:Int)∧(0:Int)≤h∧h≤(xs.length:Int)):
  Ce P ⟨dst,.slice t x none (some y) none,ty,pos,B9,g⟩ a w (fun u w'=>u=.slice A (Ff xs 0 h).length c∧w'=w):=by
 obtain⟨_,b2,b3⟩:=hb;have p:xs.length≤c:=by
  obtain⟨BE,_,h2⟩:=m;rcases h2.2 with⟨d,h0⟩|⟨g,cap,cur,d,_,_,f,_⟩
  ·omega
  ·cases d;exact f
 have q:c=0→A=none∨A.map (·.add 0)=A:=fun _=>by
  cases A with
  |none=>exact .inl rfl
  |some ad=>right;simp[Addr.add]
 have o:A.map (·.add (0*sz))=A:=by
  cases A with
  |none=>rfl
  |some ad=>simp[Addr.add]
 have hlen:(Ff xs 0 h).length=h.toNat:=by
  unfold Ff;rw[List.length_drop,List.length_take];show min h.toNat xs.length-0=_;omega
 have n:(Instr.sliceBounds true xs.length c none (some (.int k h)) none).run P w=.ok (0,h.toNat,c) w:=by
  unfold Instr.sliceBounds;simp[JH (P:=P) w k h c _ b2 (by omega)]
 refine OE j rfl (by simp[l];rfl) ?_;rw[hlen];simp[Instr.sliceAt,Instr.slice,underlying,program,Sem.run,i,n,Ju hs];intro _;cases A with
 |none=>rfl
 |some ad=>simp[Addr.add]
theorem Qa {v:Value} {n:Nat} {t c:TypeId} {sz:Nat} {x:Operand} {b:Nat} {hi:Option Operand} {h:Int} (f:P.underlying t=some (.array n c)) (hs:(P.info? c).map (·.size)=some sz) (p:0<n)
  (i:a.eval x=.pointer (some ⟨b,0,none⟩)) (d:SB a hi h n) (hb:0≤h∧h≤(n:Int)) (j:Value.slice (some ⟨b,0,none⟩) h.toNat n=v):
  Ce P ⟨dst,.slice t x none hi none,ty,pos,B9,g⟩ a w (fun u w'=>u=v∧w'=w):=by
 subst j;have l:(Instr.sliceBounds false n n none (hi.map a.eval) none).run P w=.ok (0,h.toNat,n) w:=by
  unfold Instr.sliceBounds;rcases d with⟨rfl,rfl⟩|⟨y,k,rfl,m⟩
  ·simp
  ·have q1:=fun code=>JH (P:=P) w k h n code hb.1 hb.2;simp[m,q1]
 refine OE i rfl rfl ?_;have e:n≠0:=by omega
 have o:(Instr.sureAddr (.pointer (some ⟨b,0,none⟩))).run P w=.ok ⟨b,0,none⟩ w:=rfl;simp only[Instr.sliceAt,Sem.run_bind,run_underlying f,Result.andThen_ok,o,l,Ju hs,Sem.run_pure,Option.map_none];simp[e,Ge]
theorem Yd {α:Type} {e:Cx α} {Z:Nat→Prop} {A:Option Addr} {c:Nat} {xs:List α} {h:Int} (k:Sl e w Z A c xs) (hb:0≤(0:Int)∧(0:Int)≤h∧h≤(xs.length:Int)):Sl e w Z A c (Ff xs 0 h):=by
 obtain⟨p,f,BE,h2,d⟩:=k;have hlen:(Ff xs 0 h).length≤xs.length:=by unfold Ff;rw[List.length_drop,List.length_take];omega
 have l:(0:Int).toNat=0:=rfl;have g:h.toNat≤xs.length:=by omega
 refine⟨by omega,f,BE.take h.toNat,?_,?_⟩
 ·have:=h2.take h.toNat;unfold Ff
  rwa[l,List.drop_zero]
 ·rcases d with d|⟨b,o,rfl,m,i,a⟩
  ·left;have n:=R2.PC h.toNat h2 g;rw[←n,d];simp
  ·refine .inr ⟨b,o,rfl,m,i,fun j u hu=>a j u ?_⟩;rw[←R2.PC h.toNat h2 g] at hu;exact List.getElem?_eq_some_iff.2 (by
    obtain⟨hj,he⟩:=List.getElem?_eq_some_iff.1 hu;rw[List.length_take] at hj;exact⟨by omega,by rw[←he,List.getElem_take]⟩)
def vI(x:Int):Value:=.int .i64 x
def Ru (xs ys:List Int):List Int:=xs.take ys.length++ys.drop xs.length
theorem Rv{d s:Operand}{t e:TypeId}(x:P.underlying t=some (.slice e))(hs:(P.info? e).map (·.size)=some 1){b:Nat}{l:TypeId}{Z:Nat→Prop}{A:Option Addr}{xs ys:List Int}{c n:Nat}{cs Cv:Array Value}(z:ys.length=n)
  (aH:a.eval d=.slice (some ⟨b,0,none⟩) n n)(aI:a.eval s=.slice A xs.length c)(hb:Bk w b l cs)(m:cs.toList=ys.map vI)(aA:Sl (Ah .i64) w Z A c xs)(p:Cv.toList=(Ru xs ys).map vI):
  Ce P ⟨dst,.call {callee:=.builtin .copy,args:= #[d,s],argTypes:= #[t,t]},ty,pos,B9,g⟩ a w (fun _ w'=>PD w w' b l Cv):=by
 have fin:∀(v:Int) (w':World),(Builtin.copy_ #[t,t] ty #[.slice (some ⟨b,0,none⟩) n n,.slice A xs.length c]).run P w=.ok (.int .i64 v) w'→PD w w' b l Cv→Ce P ⟨dst,.call {callee:=.builtin .copy,args:= #[d,s],argTypes:= #[t,t]},ty,pos,B9,g⟩ a w (fun _ w'=>PD w w' b l Cv):=by
  intro v w' f h;have hex:(execOp a.eval ⟨dst,.call {callee:=.builtin .copy,args:= #[d,s],argTypes:= #[t,t]},ty,pos,B9,g⟩).run P w=.ok (.value (.int .i64 v)) w':=by
   unfold execOp;simp only[resolve,invoke,builtin,Sem.run_bind,Sem.run_pure,Result.andThen_ok,List.map_toArray,List.map_cons,List.map_nil,aH,aI,f]
  unfold Ce;rw[hex];exact h
 by_cases h0:Nat.min xs.length n=0
 ·have f:=run_copy_none (P:=P) w t t ty e (some ⟨b,0,none⟩) A n n xs.length c x hs h0;have he:Cv=cs:=by
   apply Array.toList_inj.1;rw[p,m];have aB:min xs.length n=0:=h0;have h1:xs.length=0∨n=0:=by omega
   rcases h1 with h1|h1
   ·have:xs=[]:=List.eq_nil_of_length_eq_zero h1;subst this;simp[Ru]
   ·have:ys=[]:=List.eq_nil_of_length_eq_zero (by omega);subst this;simp[Ru]
  exact fin 0 w f ⟨rfl,by rw[he];exact hb,World.grownBy.refl _ _⟩
 ·have aC:0<xs.length:=by
   have aB:¬min xs.length n=0:=h0;omega
  obtain⟨aD,o,_,aJ,_,_⟩:=Sl.CB aA rfl (List.getElem?_eq_getElem aC);subst aJ;have q:∀(j:Nat) (v:Value),((xs.map vI).take n)[j]?=some v→w.cell? ((⟨aD,o,none⟩:Addr).add j)=some v:=by
   intro j v r;have i:(xs.map vI)[j]?=some v:=by
    obtain⟨hj,he⟩:=List.getElem?_eq_some_iff.1 r;rw[List.length_take] at hj;exact List.getElem?_eq_some_iff.2 ⟨by omega,by rw[←he,List.getElem_take]⟩
   rw[List.getElem?_map] at i;cases u:xs[j]? with
   |none=>rw[u] at i;cases i
   |some y=>
    rw[u] at i;obtain⟨b2,aO,aK,aE,aL,aM⟩:=Sl.CB aA rfl u;cases aE;have aF:aK=[.int .i64 y]:=aL;subst aF;have:=aM.cells 0 (.int .i64 y) rfl;rw[Ge];rw[Nat.add_zero] at this;rw[this];exact i
  have hlen:((xs.map vI).take n).length=Nat.min xs.length n:=by rw[List.length_take,List.length_map];exact Nat.min_comm _ _
  have aG:cs.size=n:=by rw[←Array.length_toList,m,List.length_map,z]
  have f:=run_copy_row (P:=P) w t t ty e b 0 n n ⟨aD,o,none⟩ xs.length c cs l ((xs.map vI).take n) x hs hb hlen q (by rw[hlen,aG,Nat.zero_add];exact Nat.min_le_right _ _) (fun v r=>by
   have:=List.mem_of_mem_take r;obtain⟨y,_,rfl⟩:=List.mem_map.1 this;rfl)
  have he:(cs.toList.take 0++(xs.map vI).take n++cs.toList.drop (0+((xs.map vI).take n).length)).toArray=Cv:=by
   apply Array.toList_inj.1;rw[p,m];unfold Ru;rw[z];simp only[List.take_zero,List.nil_append,Nat.zero_add,hlen];rw[List.map_append,List.map_take,List.map_drop];show List.take n (List.map vI xs)++List.drop (min xs.length n) (List.map vI ys)=_
   congr 1
   rcases Nat.le_total xs.length n with h|h
   ·rw[Nat.min_eq_left h]
   ·rw[Nat.min_eq_right h,List.drop_of_length_le (by rw[List.length_map];omega),List.drop_of_length_le (by rw[List.length_map];omega)]
  rw[he] at f;exact fin _ _ f ⟨by simp[World.setRow],setRow_heap w b _ _ l _ hb,⟨rfl,rfl,rfl,by simp[World.setRow],fun k _ aN=>setRow_other w b k _ (fun e=>aN (by rw[e]))⟩⟩
end
theorem VR{α:Type}{xs:List α}{h:Int}(hb:0≤(0:Int)∧(0:Int)≤h∧h≤(xs.length:Int)):(Ff xs 0 h).length=h.toNat:=by
 unfold Ff;rw[List.length_drop,List.length_take];show min h.toNat xs.length-0=_;omega
theorem Bj.Ff{α:Type}{e:Cx α}{t:TypeId}{n0:Nat}{w:World}{Z:Nat→Prop}{A:Option Addr}{c:Nat}{xs:List α}{k:Int}(h:Bj e t n0 w Z A c xs)(hb:0≤(0:Int)∧(0:Int)≤k∧k≤(xs.length:Int)):Bj e t n0 w Z A c (Ff xs 0 k):=by
 unfold Go.Proofs.YtbhofkcbfblijaaGreat.Ff;exact h.cut (by omega)
theorem eL{P:Nat→Prop}:∀k,FN k→P k:=fun _ h=>h.elim
theorem oi{α:Type}{a b:α}(h:some a=some b):a=b:=Option.some.inj h
abbrev zf(Z:Nat→Prop)(w:World)(L:List (Option Nat)):Nat→Prop:=ZZ FN [] Z w.heap.size L
abbrev zb(B:List (Option Nat))(Z:Nat→Prop)(w:World)(L:List (Option Nat)):Nat→Prop:=ZZ FN B Z w.heap.size L
theorem mt{w w1 w2:World}{Z a b:Nat→Prop}(h:Mv w Z w1 a)(g:Mv w1 a w2 b):Mv w Z w2 b:=h.trans g
theorem K3{a:Type}{b:Type}{w w':World}{Z Z':Nat→Prop}{c:Cx a}{d:Option Addr}{e:Nat}{f:List a}{g:Cx b}{h:Option Addr}{i:Nat}{x1:List b}(h0:Sl c w Z d e f)(h1:Sl g w Z h i x1)(m:Mv w Z w' Z'):Sl c w' Z' d e f∧Sl g w' Z' h i x1:=⟨h0.mv m,h1.mv m⟩
theorem Ee{a:Type}{b:Type}{c:Type}{w w':World}{Z Z':Nat→Prop}{d:Cx a}{e:Option Addr}{f:Nat}{g:List a}{h:Cx b}{i:Option Addr}{j:Nat}{x1:List b}{k:Cx c}{l:Option Addr}{n:Nat}{x2:List c}(h0:Sl d w Z e f g)(h1:Sl h w Z i j x1)(h2:Sl k w Z l n x2)(m:Mv w Z w' Z'):Sl d w' Z' e f g∧Sl h w' Z' i j x1∧Sl k w' Z' l n x2:=⟨h0.mv m,h1.mv m,h2.mv m⟩
theorem HY{a:Type}{b:Type}{c:Type}{d:Type}{w w':World}{Z Z':Nat→Prop}{e:Cx a}{f:Option Addr}{g:Nat}{h:List a}{i:Cx b}{j:Option Addr}{k:Nat}{x1:List b}{l:Cx c}{n:Option Addr}{o:Nat}{x2:List c}{p:Cx d}{q:Option Addr}{r:Nat}{s:List d}(h0:Sl e w Z f g h)(h1:Sl i w Z j k x1)(h2:Sl l w Z n o x2)(t:Sl p w Z q r s)(m:Mv w Z w' Z'):Sl e w' Z' f g h∧Sl i w' Z' j k x1∧Sl l w' Z' n o x2∧Sl p w' Z' q r s:=⟨h0.mv m,h1.mv m,h2.mv m,t.mv m⟩
theorem Ye{a:Type}{b:Type}{c:Type}{d:Type}{e:Type}{w w':World}{Z Z':Nat→Prop}{f:Cx a}{g:Option Addr}{h:Nat}{i:List a}{j:Cx b}{k:Option Addr}{l:Nat}{x1:List b}{n:Cx c}{o:Option Addr}{p:Nat}{x2:List c}{q:Cx d}{r:Option Addr}{s:Nat}{t:List d}{u:Cx e}{v:Option Addr}{x:Nat}{y:List e}(h0:Sl f w Z g h i)(h1:Sl j w Z k l x1)(h2:Sl n w Z o p x2)(z:Sl q w Z r s t)(aA:Sl u w Z v x y)(m:Mv w Z w' Z'):Sl f w' Z' g h i∧Sl j w' Z' k l x1∧Sl n w' Z' o p x2∧Sl q w' Z' r s t∧Sl u w' Z' v x y:=⟨h0.mv m,h1.mv m,h2.mv m,z.mv m,aA.mv m⟩
theorem CF{a:Type}{b:Type}{c:Type}{d:Type}{e:Type}{f:Type}{w w':World}{Z Z':Nat→Prop}{g:Cx a}{h:Option Addr}{i:Nat}{j:List a}{k:Cx b}{l:Option Addr}{n:Nat}{x1:List b}{o:Cx c}{p:Option Addr}{q:Nat}{x2:List c}{r:Cx d}{s:Option Addr}{t:Nat}{u:List d}{v:Cx e}{x:Option Addr}{y:Nat}{z:List e}{aA:Cx f}{aB:Option Addr}{aC:Nat}{aD:List f}(h0:Sl g w Z h i j)(h1:Sl k w Z l n x1)(h2:Sl o w Z p q x2)(aE:Sl r w Z s t u)(aF:Sl v w Z x y z)(aG:Sl aA w Z aB aC aD)(m:Mv w Z w' Z'):Sl g w' Z' h i j∧Sl k w' Z' l n x1∧Sl o w' Z' p q x2∧Sl r w' Z' s t u∧Sl v w' Z' x y z∧Sl aA w' Z' aB aC aD:=⟨h0.mv m,h1.mv m,h2.mv m,aE.mv m,aF.mv m,aG.mv m⟩
theorem I2{a:Type}{b:Type}{c:Type}{d:Type}{e:Type}{f:Type}{g:Type}{w w':World}{Z Z':Nat→Prop}{h:Cx a}{i:Option Addr}{j:Nat}{k:List a}{l:Cx b}{n:Option Addr}{o:Nat}{x1:List b}{p:Cx c}{q:Option Addr}{r:Nat}{x2:List c}{s:Cx d}{t:Option Addr}{u:Nat}{v:List d}{x:Cx e}{y:Option Addr}{z:Nat}{aA:List e}{aB:Cx f}{aC:Option Addr}{aD:Nat}{aE:List f}{aF:Cx g}{aG:Option Addr}{aH:Nat}{aI:List g}(h0:Sl h w Z i j k)(h1:Sl l w Z n o x1)(h2:Sl p w Z q r x2)(aJ:Sl s w Z t u v)(aK:Sl x w Z y z aA)(aL:Sl aB w Z aC aD aE)(aM:Sl aF w Z aG aH aI)(m:Mv w Z w' Z'):Sl h w' Z' i j k∧Sl l w' Z' n o x1∧Sl p w' Z' q r x2∧Sl s w' Z' t u v∧Sl x w' Z' y z aA∧Sl aB w' Z' aC aD aE∧Sl aF w' Z' aG aH aI:=⟨h0.mv m,h1.mv m,h2.mv m,aJ.mv m,aK.mv m,aL.mv m,aM.mv m⟩
theorem Ex{a:Type}{b:Type}{c:Type}{d:Type}{e:Type}{f:Type}{g:Type}{h:Type}{w w':World}{Z Z':Nat→Prop}{i:Cx a}{j:Option Addr}{k:Nat}{l:List a}{n:Cx b}{o:Option Addr}{p:Nat}{x1:List b}{q:Cx c}{r:Option Addr}{s:Nat}{x2:List c}{t:Cx d}{u:Option Addr}{v:Nat}{x:List d}{y:Cx e}{z:Option Addr}{aA:Nat}{aB:List e}{aC:Cx f}{aD:Option Addr}{aE:Nat}{aF:List f}{aG:Cx g}{aH:Option Addr}{aI:Nat}{aJ:List g}{aK:Cx h}{aL:Option Addr}{aM:Nat}{aN:List h}(h0:Sl i w Z j k l)(h1:Sl n w Z o p x1)(h2:Sl q w Z r s x2)(aO:Sl t w Z u v x)(aP:Sl y w Z z aA aB)(aQ:Sl aC w Z aD aE aF)(aR:Sl aG w Z aH aI aJ)(aS:Sl aK w Z aL aM aN)(m:Mv w Z w' Z'):Sl i w' Z' j k l∧Sl n w' Z' o p x1∧Sl q w' Z' r s x2∧Sl t w' Z' u v x∧Sl y w' Z' z aA aB∧Sl aC w' Z' aD aE aF∧Sl aG w' Z' aH aI aJ∧Sl aK w' Z' aL aM aN:=⟨h0.mv m,h1.mv m,h2.mv m,aO.mv m,aP.mv m,aQ.mv m,aR.mv m,aS.mv m⟩
theorem MH{a:Type}{b:Type}{c:Type}{d:Type}{e:Type}{f:Type}{g:Type}{h:Type}{i:Type}{w w':World}{Z Z':Nat→Prop}{j:Cx a}{k:Option Addr}{l:Nat}{n:List a}{o:Cx b}{p:Option Addr}{q:Nat}{x1:List b}{r:Cx c}{s:Option Addr}{t:Nat}{x2:List c}{u:Cx d}{v:Option Addr}{x:Nat}{y:List d}{z:Cx e}{aA:Option Addr}{aB:Nat}{aC:List e}{aD:Cx f}{aE:Option Addr}{aF:Nat}{aG:List f}{aH:Cx g}{aI:Option Addr}{aJ:Nat}{aK:List g}{aL:Cx h}{aM:Option Addr}{aN:Nat}{aO:List h}{aP:Cx i}{aQ:Option Addr}{aR:Nat}{aS:List i}(h0:Sl j w Z k l n)(h1:Sl o w Z p q x1)(h2:Sl r w Z s t x2)(aT:Sl u w Z v x y)(aU:Sl z w Z aA aB aC)(aV:Sl aD w Z aE aF aG)(aW:Sl aH w Z aI aJ aK)(aX:Sl aL w Z aM aN aO)(aY:Sl aP w Z aQ aR aS)(m:Mv w Z w' Z'):Sl j w' Z' k l n∧Sl o w' Z' p q x1∧Sl r w' Z' s t x2∧Sl u w' Z' v x y∧Sl z w' Z' aA aB aC∧Sl aD w' Z' aE aF aG∧Sl aH w' Z' aI aJ aK∧Sl aL w' Z' aM aN aO∧Sl aP w' Z' aQ aR aS:=⟨h0.mv m,h1.mv m,h2.mv m,aT.mv m,aU.mv m,aV.mv m,aW.mv m,aX.mv m,aY.mv m⟩
theorem Up{a:Type}{b:Type}{c:Type}{d:Type}{e:Type}{f:Type}{g:Type}{h:Type}{i:Type}{j:Type}{w w':World}{Z Z':Nat→Prop}{k:Cx a}{l:Option Addr}{n:Nat}{o:List a}{p:Cx b}{q:Option Addr}{r:Nat}{x1:List b}{s:Cx c}{t:Option Addr}{u:Nat}{x2:List c}{v:Cx d}{x:Option Addr}{y:Nat}{z:List d}{aA:Cx e}{aB:Option Addr}{aC:Nat}{aD:List e}{aE:Cx f}{aF:Option Addr}{aG:Nat}{aH:List f}{aI:Cx g}{aJ:Option Addr}{aK:Nat}{aL:List g}{aM:Cx h}{aN:Option Addr}{aO:Nat}{aP:List h}{aQ:Cx i}{aR:Option Addr}{aS:Nat}{aT:List i}{aU:Cx j}{aV:Option Addr}{aW:Nat}{aX:List j}(h0:Sl k w Z l n o)(h1:Sl p w Z q r x1)(h2:Sl s w Z t u x2)(aY:Sl v w Z x y z)(aZ:Sl aA w Z aB aC aD)(a0:Sl aE w Z aF aG aH)(a2:Sl aI w Z aJ aK aL)(a3:Sl aM w Z aN aO aP)(a4:Sl aQ w Z aR aS aT)(a5:Sl aU w Z aV aW aX)(m:Mv w Z w' Z'):Sl k w' Z' l n o∧Sl p w' Z' q r x1∧Sl s w' Z' t u x2∧Sl v w' Z' x y z∧Sl aA w' Z' aB aC aD∧Sl aE w' Z' aF aG aH∧Sl aI w' Z' aJ aK aL∧Sl aM w' Z' aN aO aP∧Sl aQ w' Z' aR aS aT∧Sl aU w' Z' aV aW aX:=⟨h0.mv m,h1.mv m,h2.mv m,aY.mv m,aZ.mv m,a0.mv m,a2.mv m,a3.mv m,a4.mv m,a5.mv m⟩
theorem eR{X:Ctx}{N:Nat}{a:Act}{l:Env}{x:Operand}{v:Value}(h:St X N a l)(b:ev a l x=v:=by exact rfl):(B8 a l).eval x=v:=ee h b
theorem sA(i:Nat){a:Act}{args:Array Value}{n:Nat}{v:Value}(h:a.tmps=args++Array.replicate n undef)(hi:args[i]?=some v:=by exact rfl):sl a i=v:=Lu h hi
theorem Hp.nq{F:Nat→Prop}{B L:List (Option Nat)}{w0 w:World}(h:Hp F B w0 L w)(i j:Nat){x:Option Nat}{b:Nat}(a:(i==j)=false:=by exact rfl)(hi:L[i]?=some (some b):=by exact rfl)(hj:L[j]?=some x:=by exact rfl):some b≠x:=h.ne i j a hi hj
theorem Kk.dq{L:List Oper}{a:Act}{l:Env}{D:Nat→Bool}{V:Nat→Value}{k:Nat}{o:Oper}{a':Act}(K:Kk L a l D V k o a')(j d:Nat)(h1:Fv o j=true:=by exact rfl)(h2:Cn L j=some d:=by exact rfl):sl a' d=V j:=K.Vh j d h1 h2
theorem HQ.dq{L:List Oper}{a:Act}{l:Env}{T:Nat→Act→World→Prop}{Φ:Nat→Value→World→Prop}{sp:List Nat}{k:Nat}{o:Oper}{a':Act}{w':World}{ph:Nat}(K:HQ L a l T Φ sp k o a' w' ph)(j d:Nat)(h1:Fv o j=true:=by exact rfl)(h2:Cn L j=some d:=by exact rfl):Φ j (sl a' d) w':=K.Vh j d h1 h2
section
variable{P:Program}{X:Ctx}{N:Nat}{ops:Array Oper}{Q:Exit→Act→World→Prop}{rest:List Oper}{a:Act}{l:Env}{w:World}{op:Op}{ty:TypeId}{pos:String}{B9:Array Edge}{d:Nat}
theorem wD{v:Value}{w':World}(b:St X N a l→Ce P ⟨some d,op,ty,pos,B9,none⟩ (B8 a l) w (fun u BD=>u=v∧BD=w'))(c:WL P X N ops Q rest a ((d,v)::l) w')(e:Nat.blt d N=true:=by exact rfl):WL P X N ops Q (⟨some d,op,ty,pos,B9,none⟩::rest) a l w:=wd e b c
theorem wM{x:Operand}{v:Value}(b:ev a l x=v)(c:WL P X N ops Q rest a ((d,v)::l) w)(e:Nat.blt d N=true:=by exact rfl):WL P X N ops Q (⟨some d,.move x,ty,pos,B9,none⟩::rest) a l w:=wm e b c
theorem wA{x:Operand}{v:Value}(b:ev a l x=v)(c:WL P X N ops Q rest a ((d,v)::l) w)(e:Nat.blt d N=true:=by exact rfl):WL P X N ops Q (⟨some d,.assign x,ty,pos,B9,none⟩::rest) a l w:=wa e b c
theorem wE{R:Value→World→Prop}(b:St X N a l→Ce P ⟨some d,op,ty,pos,B9,none⟩ (B8 a l) w R)(c:∀v w',R v w'→WL P X N ops Q rest a ((d,v)::l) w')(e:Nat.blt d N=true:=by exact rfl):WL P X N ops Q (⟨some d,op,ty,pos,B9,none⟩::rest) a l w:=we e b c
end
section
variable{P:Program}{L:List Oper}{a:Act}{l:Env}{T:Nat→Act→World→Prop}{Φ:Nat→Value→World→Prop}{sp:List Nat}{S:Nat→World→World→Prop}{k:Nat}
theorem oD{op:Op}{ty:TypeId}{pos:String}{B9:Array Edge}{dst:Option Nat}{c:Value}(h:∀{a' w' ph},HQ L a l T Φ sp k ⟨dst,op,ty,pos,B9,none⟩ a' w' ph→Ce P ⟨dst,op,ty,pos,B9,none⟩ a' w' (fun u BD=>u=c∧BD=w'))(hs:sp.contains k=false:=by exact rfl)(b:∀w,Φ k c w:=by exact fun _=>rfl):Hh P L a l S T Φ sp k ⟨dst,op,ty,pos,B9,none⟩:=od hs b h
theorem oS{j d:Nat}{o:Oper}{b c:Bool}(e:∀a' w' ph,HQ L a l T Φ sp k o a' w' ph→sl a' d=.bool c)(f:o.guard=some (j,b):=by exact rfl)(hj:Cn L j=some d:=by exact rfl)(hs:sp.contains k=false:=by exact rfl)(g:c≠b:=by decide)(h:∀w,Φ k undef w:=by exact fun _=>rfl):Hh P L a l S T Φ sp k o:=Rq f hj hs g e h
end
theorem HP{F:Nat→Prop}{L:List (Option Nat)}{w:World}{Z:Nat→Prop}(a:By F L w)(c:∀b,Z b→¬F b∧some b∉L):∃B,B=L∧Hp F B w L w∧(∀b,Z b→¬F b∧some b∉B)∧∀w',BO (FU F B) w w'→BO (FU F L) w w':=⟨L,rfl,Hp.start a,c,fun _ h=>h⟩
theorem JK{F:Nat→Prop}{L:List (Option Nat)}{w:World}{Z Za:Nat→Prop}(c:By F L w)(d:∀b,Z b→¬F b∧some b∉L)(a:∀b,Za b→¬F b∧some b∉L):∃B,B=L∧Hp F B w L w∧(∀b,Z b→¬F b∧some b∉B)∧(∀b,Za b→¬F b∧some b∉B)∧∀w',BO (FU F B) w w'→BO (FU F L) w w':=⟨L,rfl,Hp.start c,d,a,fun _ h=>h⟩
section
variable{P:Program}{X:Ctx}{N:Nat}{ops:Array Oper}{Q:Exit→Act→World→Prop}{rest:List Oper}{a:Act}{l:Env}{w:World}{op:Op}{ty:TypeId}{pos:String}{B9:Array Edge}{d j dj:Nat}{b c x:Bool}
theorem wF(e:x=c)(f:WL P X N ops Q rest a ((d,undef)::l) w)(hj:(ops[j]?).bind (·.dst)=some dj:=by exact rfl)(g:ev a l (.tmp dj)=.bool x:=by exact rfl)(h:c≠b:=by decide)(i:Nat.blt d N=true:=by exact rfl):WL P X N ops Q (⟨some d,op,ty,pos,B9,some (j,b)⟩::rest) a l w:=Rl rfl hj (IY g e) h rfl (by simpa[Nat.blt_eq] using i) f
theorem wH(e:WL P X N ops Q rest a ((d,undef)::l) w)(hj:(ops[j]?).bind (·.dst)=some dj:=by exact rfl)(f:ev a l (.tmp dj)=.bool c:=by exact rfl)(g:c≠b:=by decide)(h:Nat.blt d N=true:=by exact rfl):WL P X N ops Q (⟨some d,op,ty,pos,B9,some (j,b)⟩::rest) a l w:=Rl rfl hj f g rfl (by simpa[Nat.blt_eq] using h) e
theorem wX{R:Value→World→Prop}(hb:x=b)(c:St X N a l→Ce P ⟨some d,op,ty,pos,B9,some (j,b)⟩ (B8 a l) w R)(e:∀v w',R v w'→WL P X N ops Q rest a ((d,v)::l) w')(hj:(ops[j]?).bind (·.dst)=some dj:=by exact rfl)(f:ev a l (.tmp dj)=.bool x:=by exact rfl)(g:Nat.blt d N=true:=by exact rfl):WL P X N ops Q (⟨some d,op,ty,pos,B9,some (j,b)⟩::rest) a l w:=S1 rfl hj (IY f hb) rfl (by simpa[Nat.blt_eq] using g) c e
theorem wG{v:Value}{w':World}(hb:x=b)(c:St X N a l→Ce P ⟨some d,op,ty,pos,B9,some (j,b)⟩ (B8 a l) w (fun u BD=>u=v∧BD=w'))(e:WL P X N ops Q rest a ((d,v)::l) w')(hj:(ops[j]?).bind (·.dst)=some dj:=by exact rfl)(f:ev a l (.tmp dj)=.bool x:=by exact rfl)(g:Nat.blt d N=true:=by exact rfl):WL P X N ops Q (⟨some d,op,ty,pos,B9,some (j,b)⟩::rest) a l w:=M5 rfl hj (IY f hb) rfl (by simpa[Nat.blt_eq] using g) c e
theorem wN{y:Operand}{v:Value}(hb:x=b)(c:ev a l y=v)(e:WL P X N ops Q rest a ((d,v)::l) w)(hj:(ops[j]?).bind (·.dst)=some dj:=by exact rfl)(f:ev a l (.tmp dj)=.bool x:=by exact rfl)(g:Nat.blt d N=true:=by exact rfl):WL P X N ops Q (⟨some d,.move y,ty,pos,B9,some (j,b)⟩::rest) a l w:=wG hb (fun st=>AA (ee st c)) e hj f g
theorem wn{y:Code}(h:CC P X N y Q a l w):WL P X N ops (Exit.then (CW P X.ro y Q) Q) [] a l w:=Bn (BM h)
theorem cr{id:Nat}{L:List Oper}{y:Code}(h:WL P X N L.toArray (Exit.then (CW P X.ro y Q) Q) L a l w):CC P X N (.seq (.region id L.toArray false) y) Q a l w:=Af (An h)
theorem wr{id:Nat}{L:List Oper}{y:Code}(h:WL P X N L.toArray (Exit.then (CW P X.ro y Q) Q) L a l w):WL P X N ops (Exit.then (CW P X.ro (.seq (.region id L.toArray false) y) Q) Q) [] a l w:=wn (cr h)
theorem cn{y:Code}(h:CC P X N y Q a l w):CC P X N .skip (Exit.then (CW P X.ro y Q) Q) a l w:=Cm (BM h)
theorem CH{id:Nat}{K:Act→World→Prop}(h:LV X N Q .ret a l w):LV X N (Exit.inBlock id (Exit.then K Q)) .ret a l w:=IW (AI h)
theorem C5{id:Nat}{y:Code}(h:CC P X N y Q a l w):LV X N (Exit.inBlock id (Exit.then (CW P X.ro y Q) Q)) .normal a l w:=IV (BM h)
theorem Dy{id:Nat}{K b:Act→World→Prop}(h:LV X N Q (.exit id) a l w):CC P X N (.exit id) (Exit.then K (Exit.then b Q)) a l w:=Lt (G0 (G0 h))
abbrev Fo(X:Ctx)(N:Nat)(a:Act):Prop:=a.tmps.size=N∧a.defers=X.ds
theorem qo(st:St X N a l):Fo X N (B8 a l):=⟨qz st,qd st⟩
theorem ro{c:Code}(b:Fo X N a)(h:CC P X N c Q a [] w):CW P X.ro c Q a w:=T7 b.1 b.2 h
theorem lf{e:Exit}(b:Fo X N a)(h:LV X N Q e a [] w):Q e a w:=Zv b.1 b.2 h
end
theorem rq{P:Program}{w:World}{f:FuncId}{fn:Func}{c:Code}{args:Array Value}{N:Nat}{R:Value→World→Prop}(b:P.funcs[f]?=some fn)
  (h:∀a:Act,a.tmps=args++Array.replicate (N-args.size) undef→a.defers=[]→CC P X0 N c (bodyPost P fn (fun e w'=>∃v,e=.returned v∧R v w')) a [] w)(hb:fn.body=some c:=by exact rfl)(d:fn.ntmps=N:=by exact rfl)(ha:args.size≤N:=by simp):BN P f args w R:=S3 b hb d ha h
section
variable{P:Program}{L:List Oper}{a:Act}{l:Env}{T:Nat→Act→World→Prop}{Φ:Nat→Value→World→Prop}{sp:List Nat}{S:Nat→World→World→Prop}{k j d:Nat}{o:Oper}{b c x:Bool}
theorem oV{v:Value}(f:o.guard=some (j,b))(hj:Cn L j=some d)(c:Fv o j=true)(e:∀u w,Φ j u w→u=v):∀a' w' ph,HQ L a l T Φ sp k o a' w' ph→sl a' d=v:=fun _ _ _ K=>e _ _ (K.Vh j d c hj)
theorem oT(f:x=c)(e:o.guard=some (j,b):=by exact rfl)(hj:Cn L j=some d:=by exact rfl)(g:Fv o j=true:=by exact rfl)(i:∀u w,Φ j u w→u=.bool x:=by exact fun _ _ h=>h)(hs:sp.contains k=false:=by exact rfl)(m:c≠b:=by decide)(n:∀w,Φ k undef w:=by exact fun _=>rfl):Hh P L a l S T Φ sp k o:=Rq e hj hs m (by rw[←f];exact oV e hj g i) n
theorem oU(c:o.guard=some (j,b):=by exact rfl)(hj:Cn L j=some d:=by exact rfl)(e:Fv o j=true:=by exact rfl)(f:∀u w,Φ j u w→u=undef:=by exact fun _ _ h=>h)(hs:sp.contains k=false:=by exact rfl)(g:∀w,Φ k undef w:=by exact fun _=>rfl):Hh P L a l S T Φ sp k o:=S4 c hj hs (oV c hj e f) g
theorem oX(e:x=b)(h:∀{a' w' ph},HQ L a l T Φ sp k o a' w' ph→Ce P o a' w' (fun v BD=>Φ k v BD∧Ext w' BD))(c:o.guard=some (j,b):=by exact rfl)(hj:Cn L j=some d:=by exact rfl)(f:Fv o j=true:=by exact rfl)(g:∀u w,Φ j u w→u=.bool x:=by exact fun _ _ h=>h)(hs:sp.contains k=false:=by exact rfl):Hh P L a l S T Φ sp k o:=J1 c hj hs (by rw[←e];exact oV c hj f g) fun _ _ _ K=>h K
theorem oG{v:Value}(e:x=b)(h:∀{a' w' ph},HQ L a l T Φ sp k o a' w' ph→Ce P o a' w' (fun u BD=>u=v∧BD=w'))(c:o.guard=some (j,b):=by exact rfl)(hj:Cn L j=some d:=by exact rfl)(f:Fv o j=true:=by exact rfl)(g:∀u w,Φ j u w→u=.bool x:=by exact fun _ _ h=>h)(hs:sp.contains k=false:=by exact rfl)(i:∀w,Φ k v w:=by exact fun _=>rfl):Hh P L a l S T Φ sp k o:=VH c hj hs i (by rw[←e];exact oV c hj f g) fun _ _ _ K=>h K
theorem oE(h:∀{a' w' ph},HQ L a l T Φ sp k o a' w' ph→Ce P o a' w' (fun v BD=>Φ k v BD∧Ext w' BD))(b:o.guard=none:=by exact rfl)(hs:sp.contains k=false:=by exact rfl):Hh P L a l S T Φ sp k o:=Ij b hs fun _ _ _ K=>h K
theorem HQ.kO{a':Act}{w':World}{ph:Nat}{v:Value}(K:HQ L a l T Φ sp k o a' w' ph)(s:Nat)(h:isDst L s=false:=by exact rfl)(b:lk (sl a s) l s=v:=by exact rfl):a'.eval (.tmp s)=v:=es ((K.out s h).trans b)
theorem Kk.kO{D:Nat→Bool}{V:Nat→Value}{a':Act}{v:Value}(K:Kk L a l D V k o a')(s:Nat)(h:isDst L s=false:=by exact rfl)(b:lk (sl a s) l s=v:=by exact rfl):a'.eval (.tmp s)=v:=es ((K.out s h).trans b)
end
abbrev IT(σ:Type):=σ→World→(Nat→Prop)→Option Nat→Prop
theorem gm{α:Type}{L:List α}{x:α}(i:Nat)(h:L[i]?=some x:=by exact rfl):x∈L:=List.mem_of_getElem? h
theorem hw{L:List (Option Nat)}{o o':Option Nat}{n:Nat}{p:Nat→Prop}(a:∀k,o'=some k→(o=some k∨n≤k)∧p k)(i:Nat)(h:L[i]?=some o:=by exact rfl):∀k,o'=some k→some k∈L∨n≤k:=fun k b=>(a k b).1.imp (fun e=>by rw[←e];exact gm i h) id
theorem Hp.mq{F:Nat→Prop}{B b L M:List (Option Nat)}{w0 w:World}{x c:Option Nat}(h:Hp F B w0 L w)(i:Nat)(a:List Nat)(e:HX L a M)(d:B=b)(hi:L[i]?=some x:=by exact rfl)(hj:(a.all fun j=> !Nat.beq i j)=true:=by exact rfl)(f:∀y∈b,y=c∨y∈M:=by simp):∀k,x=some k→(c=some k∨w0.heap.size≤k)∧k<w.heap.size:=h.X7 i hi a hj e (by rw[d];exact f)
end Go.Proofs.YtbhofkcbfblijaaGreat
end
section
namespace Go.Proofs.YtbhofkcbfblijaaGreat
open Go.RowKit Go.WideShapes
structure AP where
 Lo:Int
 Hi:Int
structure Cp where
 BP:Bool
 Number:Int
 Bg:Int
 Bh:Int
structure BI where
 AT:Int
 BT:Int
structure BS where
 Cr:Int
 Cc:Int
structure B2 where
 BP:Int
 Cg:Int
 Ch:Int
structure Br where
 a0:Int
 a1:Int
 a2:Int
def Br.set(x:Br)(k:Nat)(v:Int):Br:=⟨if k=0 then v else x.a0,if k=1 then v else x.a1,if k=2 then v else x.a2⟩
def Br.l(x:Br):List Int:=[x.a0,x.a1,x.a2]
theorem Br.Aaa(x:Br)(k:Nat)(v:Int)(h:k<3): #[.int .i64 (x.set k v).a0,.int .i64 (x.set k v).a1,.int .i64 (x.set k v).a2]=setCells #[.int .i64 x.a0,.int .i64 x.a1,.int .i64 x.a2] k [.int .i64 v]:=by
 match k,h with
 |0,_=>rfl
 |1,_=>rfl
 |2,_=>rfl
 |k+3,h=>omega
def Br.cp(x:Br)(l:List Int):Br:=⟨l.getD 0 x.a0,l.getD 1 x.a1,l.getD 2 x.a2⟩
theorem Br.ZV(x:Br)(l:List Int):(#[.int .i64 (x.cp l).a0,.int .i64 (x.cp l).a1,.int .i64 (x.cp l).a2]:Array Value).toList=(Ru l [x.a0,x.a1,x.a2]).map vI:=by
 match l with
 |[]=>rfl
 |[_]=>rfl
 |[_,_]=>rfl
 |_::_::_::_=>simp[Ru,vI,Br.cp]
structure B1 where
 Ao:List AP
 Ap:List (List Int)
 Am:List Cp
 BK:Int
 AF:List BI
 AG:List BS
 AU:List B2
 weights:List Int
 BU:List Br
 known:List (List Int×Int)
structure AZ where
 Av:List AP
 AW:List (List Int)
 AO:List Cp
structure NH where
 Aj:List AP
 Ab:List (List Int)
 As:List Cp
 BU:List Br
structure AJ where
 Aj:List AP
 Ab:List (List Int)
 As:List Cp
 Flat:Int
 Az:List BI
 AE:List BS
 AK:List B2
structure Oc where
 EA:Int
 CQ:Int
def Ay:Cx AP:=⟨2,fun _ _ cs x=>cs=[.int .i64 x.Lo,.int .i64 x.Hi],fun h=>by rw[h];rfl,fun h=>by rw[h];simp[Value.oneCell'],fun h _=>h⟩
def AH:Cx Cp:=⟨4,fun _ _ cs x=>cs=[.bool x.BP,.int .i64 x.Number,.int .i64 x.Bg,.int .i64 x.Bh],fun h=>by rw[h];rfl,fun h=>by rw[h];simp[Value.oneCell'],fun h _=>h⟩
def Cl:Cx Br:=⟨3,fun _ _ cs x=>cs=[.int .i64 x.a0,.int .i64 x.a1,.int .i64 x.a2],fun h=>by rw[h];rfl,fun h=>by rw[h];simp[Value.oneCell'],fun h _=>h⟩
def AY:Cx BI:=⟨2,fun _ _ cs x=>cs=[.int .i64 x.AT,.int .i64 x.BT],fun h=>by rw[h];rfl,fun h=>by rw[h];simp[Value.oneCell'],fun h _=>h⟩
def Ba:Cx BS:=⟨2,fun _ _ cs x=>cs=[.int .i64 x.Cr,.int .i64 x.Cc],fun h=>by rw[h];rfl,fun h=>by rw[h];simp[Value.oneCell'],fun h _=>h⟩
def Bm:Cx B2:=⟨3,fun _ _ cs x=>cs=[.int .i64 x.BP,.int .i64 x.Cg,.int .i64 x.Ch],fun h=>by rw[h];rfl,fun h=>by rw[h];simp[Value.oneCell'],fun h _=>h⟩
def Qb:Cx AZ:=⟨3,fun w Z cs x=>∃a b c d e f,cs=[.slice a x.Av.length b,.slice c x.AW.length d,.slice e x.AO.length f]∧Sl Ay w Z a b x.Av∧Sl (BG (Ah .i64)) w Z c d x.AW∧Sl AH w Z e f x.AO,fun⟨_,_,_,_,_,_,h,_⟩=>by rw[h];rfl,fun⟨_,_,_,_,_,_,h,_⟩=>by rw[h];simp[Value.oneCell'],fun⟨a,b,c,d,e,f,h,h0,h1,h2⟩ g=>⟨a,b,c,d,e,f,h,h0.mv g,h1.mv g,h2.mv g⟩⟩
def OH:Cx AJ:=⟨7,fun w Z cs x=>∃a b c d e f i j k l m n,cs=[.slice a x.Aj.length b,.slice c x.Ab.length d,.slice e x.As.length f,.int .i64 x.Flat,.slice i x.Az.length j,.slice k x.AE.length l,.slice m x.AK.length n]∧Sl Ay w Z a b x.Aj∧Sl (BG (Ah .i64)) w Z c d x.Ab∧Sl AH w Z e f x.As∧Sl AY w Z i j x.Az∧Sl Ba w Z k l x.AE∧Sl Bm w Z m n x.AK,fun⟨_,_,_,_,_,_,_,_,_,_,_,_,h,_⟩=>by rw[h];rfl,fun⟨_,_,_,_,_,_,_,_,_,_,_,_,h,_⟩=>by rw[h];simp[Value.oneCell'],fun⟨a,b,c,d,e,f,i,j,k,l,m,n,h,h0,h1,h2,o,p,q⟩ g=>⟨a,b,c,d,e,f,i,j,k,l,m,n,h,h0.mv g,h1.mv g,h2.mv g,o.mv g,p.mv g,q.mv g⟩⟩
abbrev CL(a:Option Addr)(b:Nat)(c:Option Addr)(d:Nat)(e:Option Addr)(f:Nat)(g:Option Addr)(h:Nat)(i:Option Addr)(j:Nat)(k:Option Addr)(l:Nat)(m:Option Addr)(n:Nat)(o:Option Addr)(p:Nat)(r:Nat)(x:B1):List Value:=[.slice a x.Ao.length b,.slice c x.Ap.length d,.slice e x.Am.length f,I x.BK,.slice g x.AF.length h,.slice i x.AG.length j,.slice k x.AU.length l,.slice m x.weights.length n,.slice o x.BU.length p,.map (some r)]
abbrev AR(a:Option Addr)(b:Nat)(c:Option Addr)(d:Nat)(e:Option Addr)(f:Nat)(x:AZ):List Value:=[.slice a x.Av.length b,.slice c x.AW.length d,.slice e x.AO.length f]
abbrev AB(a:Option Addr)(b:Nat)(c:Option Addr)(d:Nat)(e:Option Addr)(f:Nat)(g:Option Addr)(h:Nat)(i:Option Addr)(j:Nat)(k:Option Addr)(l:Nat)(x:AJ):List Value:=[.slice a x.Aj.length b,.slice c x.Ab.length d,.slice e x.As.length f,I x.Flat,.slice g x.Az.length h,.slice i x.AE.length j,.slice k x.AK.length l]
def MI(n:Nat)(w:World)(Z:Nat→Prop)(p:Value):Option NH→Prop
 |none=>p=.pointer none
 |some x=>∃(b:Nat) (a:Option Addr) (c:Nat) (d:Option Addr) (e:Nat) (f:Option Addr) (g:Nat) (h:Option Addr) (i:Nat),p=pt b 0∧GA n w [b]∧Bk w b 191 #[.slice a x.Aj.length c,.slice d x.Ab.length e,.slice f x.As.length g,.slice h x.BU.length i]∧Sl Ay w (ZZ FN [] Z n [some b]) a c x.Aj∧Sl (BG (Ah .i64)) w (ZZ FN [] Z n [some b]) d e x.Ab∧Sl AH w (ZZ FN [] Z n [some b]) f g x.As∧Sl Cl w (ZZ FN [] Z n [some b]) h i x.BU
theorem MI.cases{n:Nat}{w:World}{Z:Nat→Prop}{p:Value}:∀{o:Option NH},MI n w Z p o→(o=none∧p=.pointer none)∨(∃x,o=some x∧∃(b:Nat) (a:Option Addr) (c:Nat) (d:Option Addr) (e:Nat) (f:Option Addr) (g:Nat) (i:Option Addr) (j:Nat),p=pt b 0∧GA n w [b]∧Bk w b 191 #[.slice a x.Aj.length c,.slice d x.Ab.length e,.slice f x.As.length g,.slice i x.BU.length j]∧Sl Ay w (ZZ FN [] Z n [some b]) a c x.Aj∧Sl (BG (Ah .i64)) w (ZZ FN [] Z n [some b]) d e x.Ab∧Sl AH w (ZZ FN [] Z n [some b]) f g x.As∧Sl Cl w (ZZ FN [] Z n [some b]) i j x.BU)
 |none,h=>.inl ⟨rfl,h⟩
 |some x,h=>.inr ⟨x,rfl,h⟩
theorem MI.ext{n:Nat}{w w':World}{Z:Nat→Prop}{p:Value}:∀{o:Option NH},MI n w Z p o→Ext w w'→MI n w' Z p o
 |none,h,_=>h
 |some x,⟨b,a,c,d,f,i,j,k,l,e,m,hb,s0,s1,s2,q⟩,g=>⟨b,a,c,d,f,i,j,k,l,e,m.grow (Nat.le_refl _) g.size,hb.ext g,s0.mv (Ac g),s1.mv (Ac g),s2.mv (Ac g),q.mv (Ac g)⟩
def Fg(n:Nat)(w:World)(Z:Nat→Prop)(p:Value):Option B1→Prop
 |none=>p=.pointer none
 |some x=>∃(b r:Nat) (a:Option Addr) (c:Nat) (d:Option Addr) (e:Nat) (f:Option Addr) (g:Nat) (h:Option Addr) (i:Nat) (j:Option Addr) (k:Nat) (l:Option Addr) (m:Nat) (o:Option Addr) (q:Nat) (s:Option Addr) (t:Nat),p=pt b 0∧GA n w [b,r]∧Bk w b 162 #[.slice a x.Ao.length c,.slice d x.Ap.length e,.slice f x.Am.length g,I x.BK,.slice h x.AF.length i,.slice j x.AG.length k,.slice l x.AU.length m,.slice o x.weights.length q,.slice s x.BU.length t,.map (some r)]∧Ct (fun x:Int=>I x) w r 2 x.known∧Sl Ay w (ZZ FN [] Z n [some b,some r]) a c x.Ao∧Sl (BG (Ah .i64)) w (ZZ FN [] Z n [some b,some r]) d e x.Ap∧Sl AH w (ZZ FN [] Z n [some b,some r]) f g x.Am∧Sl AY w (ZZ FN [] Z n [some b,some r]) h i x.AF∧Sl Ba w (ZZ FN [] Z n [some b,some r]) j k x.AG∧Sl Bm w (ZZ FN [] Z n [some b,some r]) l m x.AU∧Sl (Ah .i64) w (ZZ FN [] Z n [some b,some r]) o q x.weights∧Sl Cl w (ZZ FN [] Z n [some b,some r]) s t x.BU
theorem Fg.cases{n:Nat}{w:World}{Z:Nat→Prop}{p:Value}:∀{o:Option B1},Fg n w Z p o→(o=none∧p=.pointer none)∨(∃x,o=some x∧∃(b r:Nat) (a:Option Addr) (c:Nat) (d:Option Addr) (e:Nat) (f:Option Addr) (g:Nat) (i:Option Addr) (j:Nat) (k:Option Addr) (l:Nat) (m:Option Addr) (q:Nat) (s:Option Addr) (t:Nat) (u:Option Addr) (v:Nat),p=pt b 0∧GA n w [b,r]∧Bk w b 162 #[.slice a x.Ao.length c,.slice d x.Ap.length e,.slice f x.Am.length g,I x.BK,.slice i x.AF.length j,.slice k x.AG.length l,.slice m x.AU.length q,.slice s x.weights.length t,.slice u x.BU.length v,.map (some r)]∧Ct (fun x:Int=>I x) w r 2 x.known∧Sl Ay w (ZZ FN [] Z n [some b,some r]) a c x.Ao∧Sl (BG (Ah .i64)) w (ZZ FN [] Z n [some b,some r]) d e x.Ap∧Sl AH w (ZZ FN [] Z n [some b,some r]) f g x.Am∧Sl AY w (ZZ FN [] Z n [some b,some r]) i j x.AF∧Sl Ba w (ZZ FN [] Z n [some b,some r]) k l x.AG∧Sl Bm w (ZZ FN [] Z n [some b,some r]) m q x.AU∧Sl (Ah .i64) w (ZZ FN [] Z n [some b,some r]) s t x.weights∧Sl Cl w (ZZ FN [] Z n [some b,some r]) u v x.BU)
 |none,h=>.inl ⟨rfl,h⟩
 |some x,h=>.inr ⟨x,rfl,h⟩
theorem Fg.ext{n:Nat}{w w':World}{Z:Nat→Prop}{p:Value}:∀{o:Option B1},Fg n w Z p o→Ext w w'→Fg n w' Z p o
 |none,h,_=>h
 |some x,⟨b,r,a,c,d,f,i,j,k,l,m,q,s,t,u,v,y,z,e,aA,hb,hm,s0,s1,s2,aB,aC,aD,aE,aF⟩,g=>⟨b,r,a,c,d,f,i,j,k,l,m,q,s,t,u,v,y,z,e,aA.grow (Nat.le_refl _) g.size,hb.ext g,hm.ext g,s0.mv (Ac g),s1.mv (Ac g),s2.mv (Ac g),aB.mv (Ac g),aC.mv (Ac g),aD.mv (Ac g),aE.mv (Ac g),aF.mv (Ac g)⟩
theorem Fg.use{n:Nat}{w:World}{Z:Nat→Prop}{p:Value}{x:B1}:Fg n w Z p (some x)→∃(b r:Nat) (c:Option Addr) (d:Nat) (f:Option Addr) (g:Nat) (h:Option Addr) (i:Nat) (j:Option Addr) (k:Nat) (l:Option Addr) (m:Nat) (o:Option Addr) (q:Nat) (s:Option Addr) (t:Nat) (u:Option Addr) (v:Nat),p=pt b 0∧By FN [some r] w∧n≤r∧Rz w (ZC FN [some r]) (some ⟨b,0,none⟩) [.slice c x.Ao.length d,.slice f x.Ap.length g,.slice h x.Am.length i,I x.BK,.slice j x.AF.length k,.slice l x.AG.length m,.slice o x.AU.length q,.slice s x.weights.length t,.slice u x.BU.length v,.map (some r)]∧Ct (fun x:Int=>I x) w r 2 x.known∧Sl Ay w (ZC FN [some r]) c d x.Ao∧Sl (BG (Ah .i64)) w (ZC FN [some r]) f g x.Ap∧Sl AH w (ZC FN [some r]) h i x.Am∧Sl AY w (ZC FN [some r]) j k x.AF∧Sl Ba w (ZC FN [some r]) l m x.AG∧Sl Bm w (ZC FN [some r]) o q x.AU∧Sl (Ah .i64) w (ZC FN [some r]) s t x.weights∧Sl Cl w (ZC FN [some r]) u v x.BU
 |⟨b,r,c,d,f,g,h,i,j,k,l,m,o,q,s,t,u,v,e,a,hb,hm,s0,s1,s2,y,z,aA,aB,aC⟩=>⟨b,r,c,d,f,g,h,i,j,k,l,m,o,q,s,t,u,v,e,VQ a,(a.mem _ (by simp)).1,JJ hb (Z9 a) rfl,hm,s0.mv (D1 (Lf a)),s1.mv (D1 (Lf a)),s2.mv (D1 (Lf a)),y.mv (D1 (Lf a)),z.mv (D1 (Lf a)),aA.mv (D1 (Lf a)),aB.mv (D1 (Lf a)),aC.mv (D1 (Lf a))⟩
def Gx(d:Nat)(a:Int)(b:Int)(c:Int):Option (Bool):=
 cond (decide (b≤a)) (some (decide (a≤c))) (some (false))
def Fa(b:Nat)(a:AP):Option (Bool):=
 cond (decide ((0:Int)≤a.Lo)) (cond (decide (a.Lo≤a.Hi)) (some (decide (a.Hi≤100))) (some (false))) (some (false))
def Ib(b:Nat)(a:AP):Option (Int):=
 (i64 (a.Hi-a.Lo)).bind fun _=>(i64 ((a.Hi-a.Lo)+1)).bind fun _=>some ((a.Hi-a.Lo)+1)
def Fm(b:Nat)(a:AP)(c:Int):Option (Bool):=
 (Gx b c a.Lo a.Hi).bind fun d=>some (d)
def IE(a:Nat)(b:Int):Option (Bool):=
 (Gx a b 0 30).bind fun c=>some (c)
def Fu(c:List Int):Nat→Int→Int→Option (Int)
 |0,_,_=>none
 |e+1,b,a=>cond (decide (a<(c.length:Int))) ((idx c a).bind fun d=>(i64 (b+d)).bind fun _=>(i64 (a+1)).bind fun _=>Fu c e (b+d) (a+1)) (some (b))
def Je(a:Nat)(b:List Int):Option (Int):=
 (Fu b a (0:Int) (0:Int)).bind fun c=>some (c)
def GF(c:Nat)(b:AZ)(a:Cp):Option (Int):=
 cond (a.BP) ((i64 ((b.Av.length:Int)+a.Number)).bind fun _=>some ((b.Av.length:Int)+a.Number)) (some (a.Number))
def FM(c:List Int):Nat→Int→Int→Option (Int)
 |0,_,_=>none
 |d+1,b,a=>cond (decide (a<(c.length:Int))) ((idx c a).bind fun e=>(i64 (a+1)).bind fun _=>FM c d (min b e) (a+1)) (some (b))
def GS(b:Nat)(a:List Int):Option (Int):=
 cond (decide ((a.length:Int)<1)) (none) ((idx a (0:Int)).bind fun x2=>(FM a b x2 (1:Int)).bind fun z3=>some (z3))
def Ik(a:Nat)(b:List Int):Option (Int):=
 (GS a b).bind fun c=>some (c)
def G1{a:Type}(f:Nat)(b:a→AP→Option (Bool×a))(d:AP)(e:a):Option (Bool×a):=
 (b e d).bind fun c=>some ((!c.1,c.2))
def ER{c:Type}(d:c→AP→Option (Bool×c))(e:List AP):Nat→Int→c→Option ((Int×c)⊕(c))
 |0,_,_=>none
 |g+1,a,b=>cond (decide (a<(e.length:Int))) ((idx e a).bind fun h=>(d b h).bind fun f=>cond (f.1) (some (.inl (a,f.2))) ((i64 (a+1)).bind fun _=>ER d e g (a+1) f.2)) (some (.inr b))
def HB{b:Type}(d:Nat)(c:b→AP→Option (Bool×b))(e:List AP)(f:b):Option (Int×b):=
 (ER c e d (0:Int) f).bind fun z=>Sum.elim (fun a=>some ((a.1,a.2))) (fun a=>some (((-1),a))) z
def G2{a:Type}(d:Nat)(b:a→AP→Option (Bool×a))(e:List AP)(f:a):Option (Bool×a):=
 (HB d b e f).bind fun c=>some ((decide ((0:Int)≤c.1),c.2))
def It{a:Type}(b:Nat)(c:a→AP→Option (Bool×a))(e:List AP)(f:a):Option (Bool×a):=
 (G2 b (fun(st:a) (x:AP)=>(G1 b c x st).bind fun r=>some (r.1,r.2)) e f).bind fun d=>some ((!d.1,d.2))
def Ho{a:Type}(f:Nat)(b:a→(List Int)→Option (Bool×a))(d:List Int)(e:a):Option (Bool×a):=
 (b e d).bind fun c=>some ((!c.1,c.2))
def E5{c:Type}(d:c→(List Int)→Option (Bool×c))(e:List (List Int)):Nat→Int→c→Option ((Int×c)⊕(c))
 |0,_,_=>none
 |g+1,a,b=>cond (decide (a<(e.length:Int))) ((idx e a).bind fun h=>(d b h).bind fun f=>cond (f.1) (some (.inl (a,f.2))) ((i64 (a+1)).bind fun _=>E5 d e g (a+1) f.2)) (some (.inr b))
def HR{b:Type}(d:Nat)(c:b→(List Int)→Option (Bool×b))(e:List (List Int))(f:b):Option (Int×b):=
 (E5 c e d (0:Int) f).bind fun z=>Sum.elim (fun a=>some ((a.1,a.2))) (fun a=>some (((-1),a))) z
def Hl{a:Type}(d:Nat)(b:a→(List Int)→Option (Bool×a))(e:List (List Int))(f:a):Option (Bool×a):=
 (HR d b e f).bind fun c=>some ((decide ((0:Int)≤c.1),c.2))
def IQ{a:Type}(b:Nat)(c:a→(List Int)→Option (Bool×a))(e:List (List Int))(f:a):Option (Bool×a):=
 (Hl b (fun(st:a) (x:(List Int))=>(Ho b c x st).bind fun r=>some (r.1,r.2)) e f).bind fun d=>some ((!d.1,d.2))
def G3{a:Type}(f:Nat)(b:a→Cp→Option (Bool×a))(d:Cp)(e:a):Option (Bool×a):=
 (b e d).bind fun c=>some ((!c.1,c.2))
def ES{c:Type}(d:c→Cp→Option (Bool×c))(e:List Cp):Nat→Int→c→Option ((Int×c)⊕(c))
 |0,_,_=>none
 |g+1,a,b=>cond (decide (a<(e.length:Int))) ((idx e a).bind fun h=>(d b h).bind fun f=>cond (f.1) (some (.inl (a,f.2))) ((i64 (a+1)).bind fun _=>ES d e g (a+1) f.2)) (some (.inr b))
def HC{b:Type}(d:Nat)(c:b→Cp→Option (Bool×b))(e:List Cp)(f:b):Option (Int×b):=
 (ES c e d (0:Int) f).bind fun z=>Sum.elim (fun a=>some ((a.1,a.2))) (fun a=>some (((-1),a))) z
def G4{a:Type}(d:Nat)(b:a→Cp→Option (Bool×a))(e:List Cp)(f:a):Option (Bool×a):=
 (HC d b e f).bind fun c=>some ((decide ((0:Int)≤c.1),c.2))
def Iu{a:Type}(b:Nat)(c:a→Cp→Option (Bool×a))(e:List Cp)(f:a):Option (Bool×a):=
 (G4 b (fun(st:a) (x:Cp)=>(G3 b c x st).bind fun r=>some (r.1,r.2)) e f).bind fun d=>some ((!d.1,d.2))
def HD{a:Type}(f:Nat)(b:a→Int→Option (Bool×a))(d:Int)(e:a):Option (Bool×a):=
 (b e d).bind fun c=>some ((!c.1,c.2))
def Er{c:Type}(d:c→Int→Option (Bool×c))(e:List Int):Nat→Int→c→Option ((Int×c)⊕(c))
 |0,_,_=>none
 |g+1,a,b=>cond (decide (a<(e.length:Int))) ((idx e a).bind fun h=>(d b h).bind fun f=>cond (f.1) (some (.inl (a,f.2))) ((i64 (a+1)).bind fun _=>Er d e g (a+1) f.2)) (some (.inr b))
def H7{b:Type}(d:Nat)(c:b→Int→Option (Bool×b))(e:List Int)(f:b):Option (Int×b):=
 (Er c e d (0:Int) f).bind fun z=>Sum.elim (fun a=>some ((a.1,a.2))) (fun a=>some (((-1),a))) z
def Gb{a:Type}(d:Nat)(b:a→Int→Option (Bool×a))(e:List Int)(f:a):Option (Bool×a):=
 (H7 d b e f).bind fun c=>some ((decide ((0:Int)≤c.1),c.2))
def Jf{a:Type}(b:Nat)(c:a→Int→Option (Bool×a))(e:List Int)(f:a):Option (Bool×a):=
 (Gb b (fun(st:a) (x:Int)=>(HD b c x st).bind fun r=>some (r.1,r.2)) e f).bind fun d=>some ((!d.1,d.2))
def F2(a:Nat)(c:AZ)(b:List Int):Option (Bool):=
 cond ((b.length:Int)==(c.Av.length:Int)) ((Jf a (fun(st:Unit) (x:Int)=>(IE a x).bind fun r=>some (r,())) b ()).bind fun d=>some (d.1)) (some (false))
def Fy(a:Nat)(c:AZ)(b:List Int):Option (Bool):=
 (F2 a c b).bind fun d=>cond (d) ((Je a b).bind fun e=>some (decide ((0:Int)<e))) (some (false))
def FO(b:Nat)(c:AZ)(a:Cp):Option (Bool):=
 cond (a.BP) ((i64 ((c.AW.length:Int)-1)).bind fun _=>(Gx b a.Number 0 ((c.AW.length:Int)-1)).bind fun f=>cond (f) ((Fa b (⟨a.Bg,a.Bh⟩:AP)).bind fun g=>some (g)) (some (false))) ((i64 ((c.Av.length:Int)-1)).bind fun _=>(Gx b a.Number 0 ((c.Av.length:Int)-1)).bind fun d=>cond (d) ((Fa b (⟨a.Bg,a.Bh⟩:AP)).bind fun e=>some (e)) (some (false)))
def CX(d:Nat)(e:AZ):Nat→Int→Int→Option (Int)
 |0,_,_=>none
 |h+1,b,a=>cond (decide (a<(e.Av.length:Int))) ((idx e.Av a).bind fun f=>(Ib d f).bind fun c=>(i64 (b*c)).bind fun _=>(Ik d [b*c,2001]).bind fun g=>(i64 (a+1)).bind fun _=>CX d e h g (a+1)) (some (b))
def Ef(b:Nat)(a:AZ):Option (Int):=
 cond (decide ((3:Int)<(a.Av.length:Int))) (some (3)) (cond (decide ((3:Int)<(a.AW.length:Int))) (some (3)) (cond (decide ((5:Int)<(a.AO.length:Int))) (some (3)) (cond ((a.Av.length:Int)==0) (some (1)) ((It b (fun(st:Unit) (x:AP)=>(Fa b x).bind fun r=>some (r,())) a.Av ()).bind fun e=>cond (!e.1) (some (1)) ((IQ b (fun(st:Unit) (x:(List Int))=>(Fy b a x).bind fun r=>some (r,())) a.AW ()).bind fun c=>cond (!c.1) (some (1)) ((Iu b (fun(st:Unit) (x:Cp)=>(FO b a x).bind fun r=>some (r,())) a.AO ()).bind fun d=>cond (!d.1) (some (1)) ((CX b a b (1:Int) (0:Int)).bind fun z25=>cond (decide ((2000:Int)<z25)) (some (3)) (some (0)))))))))
def EH(b:List Int)(c:Int):Nat→Int→Option ((Int)⊕(Unit))
 |0,_=>none
 |d+1,a=>cond (decide (a<(b.length:Int))) ((idx b a).bind fun e=>cond (c==e) (some (.inl a)) ((i64 (a+1)).bind fun _=>EH b c d (a+1))) (some (.inr ()))
def I3(b:Nat)(c:List Int)(d:Int):Option (Int):=
 (EH c d b (0:Int)).bind fun z=>Sum.elim (fun a=>some (a)) (fun a=>some ((-1))) z
def DV(a:Nat)(b:List Int)(c:Int):Option (Bool):=
 (I3 a b c).bind fun d=>some (decide ((0:Int)≤d))
def DT(c:Br)(d:List Int):Nat→Int→Int→Option (Int)
 |0,_,_=>none
 |g+1,b,a=>cond (decide (a<(d.length:Int))) ((idx d a).bind fun e=>(idx ([c.a0,c.a1,c.a2]:List Int) a).bind fun f=>(i64 (e*f)).bind fun _=>(i64 (b+(e*f))).bind fun _=>(i64 (a+1)).bind fun _=>DT c d g (b+(e*f)) (a+1)) (some (b))
def EI(b:Nat)(d:Br)(c:List Int):Option (Int):=
 (DT d c b (0:Int) (0:Int)).bind fun z2=>(Je b c).bind fun a=>(quo z2 a).bind fun _=>(i64 (z2/a)).bind fun _=>some (z2/a)
def HE(d:Nat)(a:AZ)(b:Br)(c:Int):Option (Int):=
 cond (decide ((a.Av.length:Int)≤c)) ((i64 (c-(a.Av.length:Int))).bind fun _=>(idx a.AW (c-(a.Av.length:Int))).bind fun e=>(EI d b e).bind fun f=>some (f)) ((idx ([b.a0,b.a1,b.a2]:List Int) c).bind fun g=>some (g))
def CY(b:Nat)(c:AZ)(d:Br)(e:List Int):Nat→Int→Option ((Bool)⊕(Unit))
 |0,_=>none
 |g+1,a=>cond (decide (a<(c.AO.length:Int))) ((idx c.AO a).bind fun f=>(DV b e a).bind fun k=>cond (!k) ((GF b c f).bind fun h=>(HE b c d h).bind fun i=>(Fm b (⟨f.Bg,f.Bh⟩:AP) i).bind fun j=>cond (!j) (some (.inl false)) ((i64 (a+1)).bind fun _=>CY b c d e g (a+1))) ((i64 (a+1)).bind fun _=>CY b c d e g (a+1))) (some (.inr ()))
def GG(b:Nat)(c:AZ)(d:Br)(e:List Int):Option (Bool):=
 (CY b c d e b (0:Int)).bind fun z=>Sum.elim (fun a=>some (a)) (fun a=>some (true)) z
def D2(c:Nat)(b:AZ)(d:List Int):Nat→Int→Option ((Bool)⊕(Unit))
 |0,_=>none
 |g+1,a=>cond (decide (a<(b.Av.length:Int))) ((idx b.Av a).bind fun h=>(idx d a).bind fun e=>(Fm c h e).bind fun f=>cond (!f) (some (.inl false)) ((i64 (a+1)).bind fun _=>D2 c b d g (a+1))) (some (.inr ()))
def Fz(c:Nat)(d:AZ)(b:List Int):Option (Br×Bool):=
 cond ((b.length:Int) !=(d.Av.length:Int)) (some (((⟨0,0,0⟩:Br),false))) ((D2 c d b c (0:Int)).bind fun z=>Sum.elim (fun a=>some (((⟨0,0,0⟩:Br),a))) (fun a=>some ((((⟨0,0,0⟩:Br).cp b),true))) z)
def Gh(e:Nat)(d:AZ)(f:Br×Bool):Nat→(List Int)→Int→Option ((List Int))
 |0,_,_=>none
 |h+1,b,a=>cond (decide (a<(d.AW.length:Int))) ((idx d.AW a).bind fun g=>(EI e f.1 g).bind fun c=>(FJ (((b.length+[c].length:Nat):Int)≤140737488355328/8)).bind fun _=>(i64 (a+1)).bind fun _=>Gh e d f h (b++[c]) (a+1)) (some (b))
def IJ(a:Nat)(b:AZ)(e:List Int):Option ((List Int)×Int):=
 (Ef a b).bind fun c=>cond (c !=0) (some ((([]:List Int),c))) ((Fz a b e).bind fun d=>cond (!d.2) (some ((([]:List Int),2))) ((Gh a b d a ([]:List Int) (0:Int)).bind fun z12=>some ((z12,0))))
def Gu(a:Nat)(b:AZ)(e:List Int):Option (Bool):=
 (Ef a b).bind fun f=>cond (f !=0) (some (false)) ((Fz a b e).bind fun c=>cond (c.2) ((GG a b c.1 ([]:List Int)).bind fun d=>some (d)) (some (false)))
def Eb(d:Nat)(a:Int)(b:Int)(c:Int):Option (Bool):=
 cond (decide (b≤a)) (some (decide (a≤c))) (some (false))
def Iv(c:Nat)(a:AP)(b:Int):Option (Bool):=
 cond (decide ((0:Int)≤a.Lo)) (cond (decide (a.Lo≤a.Hi)) (some (decide (a.Hi≤b))) (some (false))) (some (false))
def Gv(b:Nat)(a:AP)(c:Int):Option (Bool):=
 (Eb b c a.Lo a.Hi).bind fun d=>some (d)
def HZ(b:Nat)(a:AP):Option (Int):=
 (i64 (a.Hi-a.Lo)).bind fun _=>(i64 ((a.Hi-a.Lo)+1)).bind fun _=>some ((a.Hi-a.Lo)+1)
def JL(a:Nat)(b:List Int):Option (Int):=
 (GS a b).bind fun c=>some (c)
def HL(c:Nat)(a:AP)(b:Int):Option (AP):=
 (JL c [a.Lo,b]).bind fun d=>some ((⟨d,max a.Hi b⟩:AP))
def IF(a:Nat)(b:Int):Option (Bool):=
 (Eb a b 0 100).bind fun c=>some (c)
def ET(b:Nat)(a:AJ)(c:Int):Option (Bool):=
 (i64 ((a.Ab.length:Int)-1)).bind fun _=>(Eb b c 0 ((a.Ab.length:Int)-1)).bind fun d=>some (d)
def FP(a:Nat)(b:AJ)(c:BS):Option (Bool):=
 (i64 ((b.Az.length:Int)-1)).bind fun _=>(Eb a c.Cr 0 ((b.Az.length:Int)-1)).bind fun d=>cond (d) ((Eb a c.Cc 1 90).bind fun e=>some (e)) (some (false))
def F3(b:Nat)(c:AJ)(a:B2):Option (Bool):=
 (ET b c a.BP).bind fun d=>cond (d) ((Iv b (⟨a.Cg,a.Ch⟩:AP) 9000).bind fun e=>some (e)) (some (false))
def GH{a:Type}(f:Nat)(b:a→BI→Option (Bool×a))(d:BI)(e:a):Option (Bool×a):=
 (b e d).bind fun c=>some ((!c.1,c.2))
def EU{c:Type}(d:c→BI→Option (Bool×c))(e:List BI):Nat→Int→c→Option ((Int×c)⊕(c))
 |0,_,_=>none
 |g+1,a,b=>cond (decide (a<(e.length:Int))) ((idx e a).bind fun h=>(d b h).bind fun f=>cond (f.1) (some (.inl (a,f.2))) ((i64 (a+1)).bind fun _=>EU d e g (a+1) f.2)) (some (.inr b))
def HG{b:Type}(d:Nat)(c:b→BI→Option (Bool×b))(e:List BI)(f:b):Option (Int×b):=
 (EU c e d (0:Int) f).bind fun z=>Sum.elim (fun a=>some ((a.1,a.2))) (fun a=>some (((-1),a))) z
def G5{a:Type}(d:Nat)(b:a→BI→Option (Bool×a))(e:List BI)(f:a):Option (Bool×a):=
 (HG d b e f).bind fun c=>some ((decide ((0:Int)≤c.1),c.2))
def Ic{a:Type}(b:Nat)(c:a→BI→Option (Bool×a))(e:List BI)(f:a):Option (Bool×a):=
 (G5 b (fun(st:a) (x:BI)=>(GH b c x st).bind fun r=>some (r.1,r.2)) e f).bind fun d=>some ((!d.1,d.2))
def GI{a:Type}(f:Nat)(b:a→BS→Option (Bool×a))(d:BS)(e:a):Option (Bool×a):=
 (b e d).bind fun c=>some ((!c.1,c.2))
def EV{c:Type}(d:c→BS→Option (Bool×c))(e:List BS):Nat→Int→c→Option ((Int×c)⊕(c))
 |0,_,_=>none
 |g+1,a,b=>cond (decide (a<(e.length:Int))) ((idx e a).bind fun h=>(d b h).bind fun f=>cond (f.1) (some (.inl (a,f.2))) ((i64 (a+1)).bind fun _=>EV d e g (a+1) f.2)) (some (.inr b))
def HH{b:Type}(d:Nat)(c:b→BS→Option (Bool×b))(e:List BS)(f:b):Option (Int×b):=
 (EV c e d (0:Int) f).bind fun z=>Sum.elim (fun a=>some ((a.1,a.2))) (fun a=>some (((-1),a))) z
def G6{a:Type}(d:Nat)(b:a→BS→Option (Bool×a))(e:List BS)(f:a):Option (Bool×a):=
 (HH d b e f).bind fun c=>some ((decide ((0:Int)≤c.1),c.2))
def Ie{a:Type}(b:Nat)(c:a→BS→Option (Bool×a))(e:List BS)(f:a):Option (Bool×a):=
 (G6 b (fun(st:a) (x:BS)=>(GI b c x st).bind fun r=>some (r.1,r.2)) e f).bind fun d=>some ((!d.1,d.2))
def G7{a:Type}(f:Nat)(b:a→B2→Option (Bool×a))(d:B2)(e:a):Option (Bool×a):=
 (b e d).bind fun c=>some ((!c.1,c.2))
def E6{c:Type}(d:c→B2→Option (Bool×c))(e:List B2):Nat→Int→c→Option ((Int×c)⊕(c))
 |0,_,_=>none
 |g+1,a,b=>cond (decide (a<(e.length:Int))) ((idx e a).bind fun h=>(d b h).bind fun f=>cond (f.1) (some (.inl (a,f.2))) ((i64 (a+1)).bind fun _=>E6 d e g (a+1) f.2)) (some (.inr b))
def HS{b:Type}(d:Nat)(c:b→B2→Option (Bool×b))(e:List B2)(f:b):Option (Int×b):=
 (E6 c e d (0:Int) f).bind fun z=>Sum.elim (fun a=>some ((a.1,a.2))) (fun a=>some (((-1),a))) z
def Hm{a:Type}(d:Nat)(b:a→B2→Option (Bool×a))(e:List B2)(f:a):Option (Bool×a):=
 (HS d b e f).bind fun c=>some ((decide ((0:Int)≤c.1),c.2))
def Iw{a:Type}(b:Nat)(c:a→B2→Option (Bool×a))(e:List B2)(f:a):Option (Bool×a):=
 (Hm b (fun(st:a) (x:B2)=>(G7 b c x st).bind fun r=>some (r.1,r.2)) e f).bind fun d=>some ((!d.1,d.2))
def Hq{a:Type}(f:Nat)(b:a→Int→Option (Bool×a))(d:Int)(e:a):Option (Bool×a):=
 (b e d).bind fun c=>some ((!c.1,c.2))
def IS{a:Type}(b:Nat)(c:a→Int→Option (Bool×a))(e:List Int)(f:a):Option (Bool×a):=
 (Gb b (fun(st:a) (x:Int)=>(Hq b c x st).bind fun r=>some (r.1,r.2)) e f).bind fun d=>some ((!d.1,d.2))
def E7(c:Nat)(a:BI)(b:BI):Option (Bool×BI):=
 (i64 (b.AT-1)).bind fun _=>(Eb c a.AT 0 (b.AT-1)).bind fun d=>cond (d) ((Eb c a.BT 0 b.BT).bind fun e=>some ((e,a))) (some ((false,a)))
def Gi(a:Nat)(b:AJ):Option (Bool):=
 cond (decide ((0:Int)<(b.Az.length:Int))) ((Ic a (fun(st:BI) (x:BI)=>(E7 a x st).bind fun r=>some (r.1,r.2)) b.Az (⟨101,100⟩:BI)).bind fun c=>some (c.1)) (some (false))
def F4(b:Nat)(a:AJ):Option (Int):=
 (Ef b (⟨a.Aj,a.Ab,a.As⟩:AZ)).bind fun c=>cond (c !=0) (some (c)) (cond (decide ((3:Int)<(a.Az.length:Int))) (some (3)) (cond (decide ((3:Int)<(a.AE.length:Int))) (some (3)) (cond (decide ((5:Int)<(a.AK.length:Int))) (some (3)) ((IF b a.Flat).bind fun g=>cond (!g) (some (1)) ((Gi b a).bind fun d=>cond (!d) (some (1)) ((Ie b (fun(st:Unit) (x:BS)=>(FP b a x).bind fun r=>some (r,())) a.AE ()).bind fun e=>cond (!e.1) (some (1)) ((Iw b (fun(st:Unit) (x:B2)=>(F3 b a x).bind fun r=>some (r,())) a.AK ()).bind fun f=>cond (!f.1) (some (1)) (some (0)))))))))
def En(c:AJ):Nat→(List AP)→Int→Option ((List AP))
 |0,_,_=>none
 |e+1,b,a=>cond (decide (a<(c.Aj.length:Int))) ((idx c.Aj a).bind fun d=>(FJ (((b.length+[d].length:Nat):Int)≤140737488355328/16)).bind fun _=>(i64 (a+1)).bind fun _=>En c e (b++[d]) (a+1)) (some (b))
def FQ(a:Nat)(b:AJ):Option ((List AP)):=
 (En b a ([]:List AP) (0:Int)).bind fun z2=>some (z2)
def CP(d:List Int):Nat→Int→Int→Option (Int)
 |0,_,_=>none
 |e+1,b,a=>cond (decide (a<(d.length:Int))) ((idx d a).bind fun c=>(i64 (b+c)).bind fun _=>(i64 (a+1)).bind fun _=>CP d e (b+c) (a+1)) (some (b))
def DA(d:Nat)(c:AJ):Nat→Int→(List Int)→Option ((List Int))
 |0,_,_=>none
 |f+1,a,b=>cond (decide (a<(c.Ab.length:Int))) ((idx c.Ab a).bind fun g=>(CP g d (0:Int) (0:Int)).bind fun e=>(FJ (((b.length+[e].length:Nat):Int)≤140737488355328/8)).bind fun _=>(i64 (a+1)).bind fun _=>DA d c f (a+1) (b++[e])) (some (b))
def EW(b:Nat)(a:AJ):Option (B1):=
 (DA b a b (0:Int) ([]:List Int)).bind fun z4=>some ((⟨a.Aj,a.Ab,a.As,a.Flat,a.Az,a.AE,a.AK,z4,([]:List Br),[]⟩:B1))
def E0{f:Type}(g:Int→(List AP)→(List Int)→f→Option (Bool×(List Int)×f))(e:Int)(i:List AP)(j:Int):Nat→Int→(List Int)→f→Option ((Bool×(List Int)×f)⊕((List Int)×f))
 |0,_,_,_=>none
 |k+1,a,b,d=>cond (decide (a<j)) ((idx i e).bind fun h=>(i64 (h.Lo+a)).bind fun _=>(idx b e).bind fun l=>(i64 (e+1)).bind fun _=>(g (e+1) i (b.set e.toNat (h.Lo+a)) d).bind fun c=>cond (!c.1) (some (.inl (false,c.2.1,c.2.2))) ((i64 (a+1)).bind fun _=>E0 g e i j k (a+1) c.2.1 c.2.2)) (some (.inr (b,d)))
def ED{b:Type}(d:Nat)(c:b→(List Int)→Option (Bool×b)):Nat→Int→(List AP)→(List Int)→b→Option (Bool×(List Int)×b)
 |0,_,_,_,_=>none
 |j+1,e,f,g,h=>cond (e==(f.length:Int)) ((c h g).bind fun i=>some ((i.1,g,i.2))) ((idx f e).bind fun k=>(HZ d k).bind fun l=>(E0 (ED d c j) e f l d (0:Int) g h).bind fun z=>Sum.elim (fun a=>some ((a.1,a.2.1,a.2.2))) (fun a=>some ((true,a.1,a.2))) z)
def H0{a:Type}(c:Nat)(d:a→(List Int)→Option (Bool×a))(b:List AP)(e:a):Option (a):=
 (Vn (b.length:Int) 8).bind fun _=>(ED c d c 0 b (List.replicate (b.length:Int).toNat (0:Int)) e).bind fun f=>some (f.2.2)
def FA(b:Nat)(a:AJ)(c:List Int):Option (Br):=
 (IJ b (⟨a.Aj,a.Ab,a.As⟩:AZ) c).bind fun d=>some (((⟨0,0,0⟩:Br).cp d.1))
def Eo(f:Nat)(d:AJ)(a:List Br)(e:(List Int)):Option (Bool×(List Br)):=
 (Gu f (⟨d.Aj,d.Ab,d.As⟩:AZ) e).bind fun g=>cond (!g) (some (true,a)) ((FA f d e).bind fun b=>cond ((a.length:Int)==0) ((FJ (((a.length+[b].length:Nat):Int)≤140737488355328/24)).bind fun _=>some (true,a++[b])) ((i64 ((a.length:Int)-1)).bind fun _=>(idx a ((a.length:Int)-1)).bind fun c=>cond ([c.a0,c.a1,c.a2] !=[b.a0,b.a1,b.a2]) ((FJ (((a.length+[b].length:Nat):Int)≤140737488355328/24)).bind fun _=>some (true,a++[b])) (some (true,a))))
def G8(b:Nat)(c:AJ):Option (B1):=
 (EW b c).bind fun a=>(FQ b c).bind fun e=>(H0 b (fun(st:(List Br)) (x:(List Int))=>Eo b c st x) e ([]:List Br)).bind fun d=>some ((⟨a.Ao,a.Ap,a.Am,a.BK,a.AF,a.AG,a.AU,a.weights,d,a.known⟩:B1))
def DM(c:B1)(e:Oc):Nat→Int→Int→Option (Int)
 |0,_,_=>none
 |g+1,b,a=>cond (decide (a<(c.AF.length:Int))) ((idx c.AF a).bind fun f=>cond (decide (f.AT≤e.CQ)) ((idx c.weights e.EA).bind fun d=>(i64 (f.BT*d)).bind fun _=>some (f.BT*d)) ((i64 (a+1)).bind fun _=>DM c e g b (a+1))) (some (b))
def FR(c:Nat)(b:B1)(a:Oc):Option (Int×(List (List Int×Int))):=
 cond (!((Ep b.known [a.EA,a.CQ]).isSome)) ((DM b a c ((Ep b.known [a.EA,a.CQ]).getD 0) (0:Int)).bind fun z5=>some ((z5,Km b.known [a.EA,a.CQ] z5))) (some ((((Ep b.known [a.EA,a.CQ]).getD 0),b.known)))
def DB(i:Nat)(e:B1)(g:Br):Nat→Int→Int→Int→Int→(List (List Int×Int))→Option (Int×Int×Int×(List (List Int×Int)))
 |0,_,_,_,_,_=>none
 |j+1,a,b,c,d,f=>cond (decide (a<(e.weights.length:Int))) ((idx ([g.a0,g.a1,g.a2]:List Int) a).bind fun k=>(FR i (⟨e.Ao,e.Ap,e.Am,e.BK,e.AF,e.AG,e.AU,e.weights,e.BU,f⟩:B1) (⟨a,k⟩:Oc)).bind fun h=>(idx ([b,c,d]:List Int) a).bind fun l=>(i64 (a+1)).bind fun _=>DB i e g j (a+1) (((⟨b,c,d⟩:Br).set a.toNat h.1).a0) (((⟨b,c,d⟩:Br).set a.toNat h.1).a1) (((⟨b,c,d⟩:Br).set a.toNat h.1).a2) h.2) (some ((b,c,d,f)))
def Fp(a:Nat)(b:B1)(c:Br):Option (Br×(List (List Int×Int))):=
 (DB a b c a (0:Int) (0:Int) (0:Int) (0:Int) b.known).bind fun z3=>some (((⟨z3.1,z3.2.1,z3.2.2.1⟩:Br),z3.2.2.2))
def DN(c:Nat)(d:AJ)(b:Br)(e:List Int):Nat→Int→Option ((Bool)⊕(Unit))
 |0,_=>none
 |g+1,a=>cond (decide (a<(d.AK.length:Int))) ((idx d.AK a).bind fun f=>(DV c e a).bind fun j=>cond (!j) ((idx ([b.a0,b.a1,b.a2]:List Int) f.BP).bind fun h=>(Gv c (⟨f.Cg,f.Ch⟩:AP) h).bind fun i=>cond (!i) (some (.inl false)) ((i64 (a+1)).bind fun _=>DN c d b e g (a+1))) ((i64 (a+1)).bind fun _=>DN c d b e g (a+1))) (some (.inr ()))
def Fb(b:Nat)(c:AJ)(d:Br)(e:List Int):Option (Bool):=
 (DN b c d e b (0:Int)).bind fun z=>Sum.elim (fun a=>some (a)) (fun a=>some (true)) z
end Go.Proofs.YtbhofkcbfblijaaGreat
end
