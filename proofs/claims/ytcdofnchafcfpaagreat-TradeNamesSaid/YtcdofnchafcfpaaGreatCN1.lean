import Derived.WalkKit
import Derived.KernelRfl
import Derived.WalkSpells
import Derived.WalkLawsBesides
import Derived.Maps.AppendAt
import Derived.OrdersIn
import Derived.RangeFuncIn
import Derived.RangeFuncLeaves
import Derived.RangeFuncRecord
import Derived.RangeFuncSeq
import Derived.Scope
import Derived.DeepKeys3
import Derived.Laws.CopyRow
import Derived.Laws.OwnMore
import Derived.Laws.MakeOwn
import Derived.Laws.IdiomCopy
/-
  The contracts of the functions of the program and of the reference, and the logic that they are proved in: the base that several claims of this seat share.
-/
set_option linter.all false
section
namespace Go.Proofs.YtcdofnchafcfpaaGreat
open Go.RowKit
abbrev Env:=List (Nat×Value)
def BX(a:Act):Env→Act
 |[]=>a
 |(d,v)::l=>(BX a l).put (some d) v
def sl(a:Act)(s:Nat):Value:=a.tmps.getD s undef
def lk(b:Value):Env→Nat→Value
 |[],_=>b
 |(d,v)::l,s=>match Nat.beq d s with|true=>v|false=>lk b l s
def ev(a:Act)(l:Env):Operand→Value
 |.tmp t=>lk (sl a t) l t
 |.const v=>v
 |.global g=>.pointer (some ⟨g,0,none⟩)
 |.func f=>.func (.func f) #[] #[]
structure Ctx where
 ro:Option Nat
 ds:List Deferred
abbrev X0:Ctx:=⟨none,[]⟩
def Wd:Option Nat→Fence
 |none=>Fence.wide
 |some r=>Fence.wide.inRound r
theorem KZ(ro:Option Nat)(f:FuncId):(Wd ro).fn f:=by cases ro<;>trivial
theorem NQ(ro:Option Nat):(Wd ro).depth=none:=by cases ro<;>rfl
theorem NR(ro:Option Nat){n:Nat}:(Wd ro).depth.isSome=true→1≤n:=fun h=>by rw[NQ] at h;cases h
structure St(X:Ctx)(N:Nat)(a:Act)(l:Env):Prop where
 sz:a.tmps.size=N
 df:a.defers=X.ds
 lt:∀p∈l,p.1<N
theorem HO(a:Act)(l:Env):(BX a l).tmps.size=a.tmps.size:=by
 induction l with
 |nil=>rfl
 |cons p l ih=>simp[BX,Act.put,ih]
theorem Dd(a:Act)(l:Env):(BX a l).defers=a.defers:=by
 induction l with
 |nil=>rfl
 |cons p l ih=>simp[BX,Act.put,ih]
theorem St.cons{X:Ctx}{N:Nat}{a:Act}{l:Env}(h:St X N a l){d:Nat}(c:d<N)(v:Value):St X N a ((d,v)::l):=
 ⟨h.sz,h.df,fun p b=>by
  rcases List.mem_cons.1 b with rfl|b
  ·exact c
  ·exact h.lt p b⟩
theorem H6{X:Ctx}{N:Nat}{a:Act}:∀{l:Env},St X N a l→∀s,sl (BX a l) s=lk (sl a s) l s
 |[],_,_=>rfl
 |(d,v)::l,h,s=>by
  have e:St X N a l:=⟨h.sz,h.df,fun p f=>h.lt p (List.mem_cons_of_mem _ f)⟩;have ih:=H6 e s;have g:d<N:=h.lt (d,v) (List.mem_cons_self ..);unfold sl at*;simp only[BX,Act.put,lk];cases b:Nat.beq d s with
  |true=>
   obtain rfl:d=s:=Nat.eq_of_beq_eq_true b;simp[HO,h.sz,g]
  |false=>
   have c:d≠s:=Nat.ne_of_beq_eq_false b;rw[←ih];simp[Array.getElem?_setIfInBounds_ne c]
theorem OE{X:Ctx}{N:Nat}{a:Act}{l:Env}(h:St X N a l)(x:Operand):(BX a l).eval x=ev a l x:=by
 cases x with
 |tmp t=>exact H6 h t
 |_=>rfl
theorem ee{X:Ctx}{N:Nat}{a:Act}{l:Env}{x:Operand}{v:Value}(h:St X N a l)(b:ev a l x=v):(BX a l).eval x=v:=(OE h x).trans b
def B2 (P:Program) (o:Oper) (a:Act) (w:World) (R:Value→World→Prop):Prop:=
 match (execOp a.eval o).run P w with
 |.ok (.value v) w'=>R v w'
 |.ok .skip w'=>R undef w'
 |.ok (.enter f args) w'=>Calls P f args w' (fun e Bm=>∃v,e=.returned v∧R v Bm)
 |.ok (.round l f tmps assign body) w'=>RoundIn Fence.wide 0 P l f tmps assign body w' (fun e Bm=>∃v,e=.returned v∧R v Bm)
 |_=>False
theorem B2.OF{P:Program}{o:Oper}{a:Act}{w:World}{R:Value→World→Prop}(h:B2 P o a w R):∀c,o.op≠.defer c:=by
 intro c b;unfold B2 at h;have he:execOp a.eval o=(do pure (.defer (←resolve a.eval c o.type))):=by
  unfold execOp;rw[b]
 rw[he,Sem.run_bind] at h;cases d:(resolve a.eval c o.type).run P w<;>simp[d,Result.andThen] at h
theorem B2.wp{P:Program}{ro:Option Nat}{o:Oper}{a:Act}{w:World}{R:Value→World→Prop}{K:Act→World→Prop}{Q:Exit→Act→World→Prop}
  (h:B2 P o a w R)(b:∀v w',R v w'→K (a.put o.dst v) w'):o.wpIn (Wd ro) 0 P a w K Q:=by
 refine⟨fun f _=>KZ ro f,?_⟩;rw[Oper.semAt_eq _ _ _ h.OF];unfold B2 at h;generalize (execOp a.eval o).run P w=r at*;cases r with
 |ok n w'=>
  cases n<;>simp only[Oper.uponIn] at h⊢
  case value=>exact b _ _ h
  case skip=>exact b _ _ h
  case enter f args=>
   refine⟨NR ro,?_⟩;have c:CallsIn Fence.wide (0-1) P f args w' (fun e Bm=>∃v,e=.returned v∧R v Bm):=callsIn_wide.2 h;have g:CallsIn (Wd ro) (0-1) P f args w' (fun e Bm=>∃v,e=.returned v∧R v Bm):=by cases ro<;>exact c
   refine g.mono ?_;rintro e Bm ⟨v,rfl,d⟩;exact b _ _ d
  case round l f tmps assign body=>
   refine⟨NR ro,?_⟩;have c:RoundIn (Wd ro) (0-1) P l f tmps assign body w' (fun e Bm=>∃v,e=.returned v∧R v Bm):=by cases ro<;>exact h
   refine c.mono ?_;rintro e Bm ⟨v,rfl,d⟩;exact b _ _ d
 |halt=>exact h.elim
theorem B2.mono{P:Program}{o:Oper}{a:Act}{w:World}{R R':Value→World→Prop}(h:B2 P o a w R)(b:∀v w',R v w'→R' v w'):B2 P o a w R':=by
 unfold B2 at*;generalize (execOp a.eval o).run P w=r at*;cases r with
 |ok n w'=>
  cases n<;>simp only[] at h⊢
  case value=>exact b _ _ h
  case skip=>exact b _ _ h
  case enter f args=>
   refine h.mono ?_;rintro e Bm ⟨v,rfl,c⟩;exact⟨v,rfl,b _ _ c⟩
  case round=>
   refine h.mono ?_;rintro e Bm ⟨v,rfl,c⟩;exact⟨v,rfl,b _ _ c⟩
 |halt=>exact h.elim
def WL(P:Program)(X:Ctx)(N:Nat)(ops:Array Oper)(Q:Exit→Act→World→Prop)(rest:List Oper)(a:Act)(l:Env)(w:World):Prop:=
 St X N a l→wpListIn (Wd X.ro) 0 P ops Q rest (BX a l) w
section
variable{P:Program}{X:Ctx}{N:Nat}{ops:Array Oper}{Q:Exit→Act→World→Prop}{rest:List Oper}{a:Act}{l:Env}{w:World}{o:Oper}
theorem Om{R:Value→World→Prop}{d:Nat}(b:o.guard=none)(c:o.dst=some d)(e:d<N)
  (f:St X N a l→B2 P o (BX a l) w R)(g:∀v w',R v w'→WL P X N ops Q rest a ((d,v)::l) w'):WL P X N ops Q (o::rest) a l w:=fun s=>
 wpListIn_plain b fun K hK=>(f s).wp fun v w' h=>hK _ _ (by rw[c];exact g v w' h (s.cons e v))
theorem Bp{R:Value→World→Prop}(b:o.guard=none)(c:o.dst=none)
  (d:St X N a l→B2 P o (BX a l) w R)(e:∀v w',R v w'→WL P X N ops Q rest a l w'):WL P X N ops Q (o::rest) a l w:=fun s=>
 wpListIn_plain b fun K hK=>(d s).wp fun v w' f=>hK _ _ (by rw[c];exact e v w' f s)
theorem P3 {d:Nat} {v:Value} {w':World} (b:o.guard=none) (c:o.dst=some d) (e:d<N)
  (f:St X N a l→B2 P o (BX a l) w (fun u Bm=>u=v∧Bm=w')) (g:WL P X N ops Q rest a ((d,v)::l) w'):WL P X N ops Q (o::rest) a l w:=
 Om b c e f (by rintro _ _ ⟨rfl,rfl⟩;exact g)
theorem Kh{j d:Nat}{b:Bool}(s:St X N a l)(f:(ops[j]?).bind (·.dst)=some d)(g:ev a l (.tmp d)=.bool b):yielded ops (BX a l).tmps j=some b:=by
 have h:=ee s g;unfold yielded;simp only[f,Option.bind_some];have c:(BX a l).tmps.getD d undef=.bool b:=h;rw[Array.getD_eq_getD_getElem?] at c;cases e:(BX a l).tmps[d]? with
 |none=>rw[e] at c;simp[undef] at c
 |some u=>rw[e] at c;simp at c;rw[c]
theorem FK {R:Value→World→Prop} {d j dj:Nat} {b:Bool} (c:o.guard=some (j,b)) (e:(ops[j]?).bind (·.dst)=some dj) (f:ev a l (.tmp dj)=.bool b)
  (g:o.dst=some d) (h:d<N) (i:St X N a l→B2 P o (BX a l) w R) (k:∀v w',R v w'→WL P X N ops Q rest a ((d,v)::l) w'):WL P X N ops Q (o::rest) a l w:=fun s=>by
 have hw:Region.wanted o (yielded ops (BX a l).tmps)=true:=by
  unfold Region.wanted;rw[c];simp[Kh s e f]
 exact wpListIn_step fun K hK=>by rw[if_pos hw];exact(i s).wp fun v w' m=>hK _ _ (by rw[g];exact k v w' m (s.cons h v))
theorem CV{d j dj:Nat}{b:Bool}{v:Value}{w':World}(c:o.guard=some (j,b))(e:(ops[j]?).bind (·.dst)=some dj)(f:ev a l (.tmp dj)=.bool b)
  (g:o.dst=some d)(h:d<N)(i:St X N a l→B2 P o (BX a l) w (fun u Bm=>u=v∧Bm=w'))(k:WL P X N ops Q rest a ((d,v)::l) w'):WL P X N ops Q (o::rest) a l w:=
 FK c e f g h i (by rintro _ _ ⟨rfl,rfl⟩;exact k)
theorem Mg {d j dj:Nat} {b c:Bool} (e:o.guard=some (j,b)) (g:(ops[j]?).bind (·.dst)=some dj) (h:ev a l (.tmp dj)=.bool c) (i:c≠b)
  (k:o.dst=some d) (m:d<N) (n:WL P X N ops Q rest a ((d,undef)::l) w):WL P X N ops Q (o::rest) a l w:=fun s=>by
 have hw:Region.wanted o (yielded ops (BX a l).tmps)=false:=by
  unfold Region.wanted;rw[e];simp[Kh s g h,i]
 exact wpListIn_step fun K hK=>by rw[if_neg (by rw[hw];simp)];exact⟨fun f _=>KZ X.ro f,hK _ _ (by rw[k];exact n (s.cons m undef))⟩
end
def CW(P:Program)(ro:Option Nat)(c:Code)(Q:Exit→Act→World→Prop)(a:Act)(w:World):Prop:=c.wpIn (Wd ro) 0 P Q a w
def CC(P:Program)(X:Ctx)(N:Nat)(c:Code)(Q:Exit→Act→World→Prop)(a:Act)(l:Env)(w:World):Prop:=
 St X N a l→CW P X.ro c Q (BX a l) w
section
variable{P:Program}{X:Ctx}{N:Nat}{Q:Exit→Act→World→Prop}{a:Act}{l:Env}{w:World}
def LV (X:Ctx) (N:Nat) (Q:Exit→Act→World→Prop) (e:Exit) (a:Act) (l:Env) (w:World):Prop:=St X N a l→Q e (BX a l) w
theorem Aj{x y:Code}(h:CC P X N x (Exit.then (CW P X.ro y Q) Q) a l w):CC P X N (.seq x y) Q a l w:=fun s=>wpIn_seq (h s)
theorem Aq{id:Nat}{L:List Oper}(h:WL P X N L.toArray Q L a l w):CC P X N (.region id L.toArray false) Q a l w:=fun s=>wpIn_region_lit (h s)
theorem Be{ops:Array Oper}(h:LV X N Q .normal a l w):WL P X N ops Q [] a l w:=fun s=>wpListIn_nil (h s)
theorem CO(h:LV X N Q .normal a l w):CC P X N .skip Q a l w:=fun s=>wpIn_skip (h s)
theorem IA{id:Nat}(h:LV X N Q (.exit id) a l w):CC P X N (.exit id) Q a l w:=fun s=>wpIn_exit (h s)
theorem As(h:LV X N Q .ret a l w):CC P X N .ret Q a l w:=fun s=>wpIn_ret (h s)
theorem Bi{id:Nat}{c:Code}(h:CC P X N c (Exit.inBlock id Q) a l w):CC P X N (.block id c) Q a l w:=fun s=>wpIn_block (h s)
theorem AB{c:Operand}{x y:Code}{t:Bool}(b:ev a l c=.bool t)(h:t=true)(d:CC P X N x Q a l w):CC P X N (.cond c x y) Q a l w:=fun s=>wpIn_cond_true (by rw[ee s b,h]) (d s)
theorem AJ{c:Operand}{x y:Code}{t:Bool}(b:ev a l c=.bool t)(h:t=false)(d:CC P X N y Q a l w):CC P X N (.cond c x y) Q a l w:=fun s=>wpIn_cond_false (by rw[ee s b,h]) (d s)
theorem Br {y:Code} (h:CC P X N y Q a l w):LV X N (Exit.then (CW P X.ro y Q) Q) .normal a l w:=fun s=>h s
theorem EI{K:Act→World→Prop}{id:Nat}(h:LV X N Q (.exit id) a l w):LV X N (Exit.then K Q) (.exit id) a l w:=h
theorem Ba{K:Act→World→Prop}(h:LV X N Q .ret a l w):LV X N (Exit.then K Q) .ret a l w:=h
theorem GH{id:Nat}(h:LV X N Q .normal a l w):LV X N (Exit.inBlock id Q) .normal a l w:=h
theorem GI{id:Nat}(h:LV X N Q .ret a l w):LV X N (Exit.inBlock id Q) .ret a l w:=h
theorem BA{id:Nat}(h:LV X N Q .normal a l w):LV X N (Exit.inBlock id Q) (.exit id) a l w:=fun s=>by
 show(if id=id then Q .normal _ _ else Q (.exit id) _ _);rw[if_pos rfl];exact h s
theorem I7{id k:Nat}(b:k≠id)(h:LV X N Q (.exit k) a l w):LV X N (Exit.inBlock id Q) (.exit k) a l w:=fun s=>by
 show(if k=id then Q .normal _ _ else Q (.exit k) _ _);rw[if_neg b];exact h s
theorem M7 {c:Code} (I:Nat→Act→World→Prop) (m:Nat) (h0:I m a w)
  (v:∀m a w,I m a w→CW P X.ro c (Exit.then (fun a' w'=>∃o,o<m∧I o a' w') Q) a w):CW P X.ro (Code.loop c) Q a w:=by
 intro b k cs r q i;have key:∀n a w,I n a w→∃e a' w',Q e a' w'∧ArrivesIn (Machine.fenced P (Wd X.ro)) P (lone (b.atR a (.code c::.inLoop c::k)) cs w) b k cs e a' w':=by
  intro n
  induction n using Nat.strongRecOn with
  |_ n ih=>
   intro a w y;obtain⟨e,g,h,f,d⟩:=v n a w y b (.inLoop c::k) cs r q i;cases e with
   |normal=>
    obtain⟨o,s,t⟩:=f;obtain⟨z,aA,aB,u,p⟩:=ih o s g h t;exact⟨z,aA,aB,u,.of_steps (StepsIn.trans d (.one (fenced_calm q i rfl) stepR_inLoop)) p⟩
   |exit id=>exact⟨_,g,h,f,.pass (x:=.inLoop c) rfl (fun _ _=>.inl (by simp)) d⟩
   |goto l=>exact⟨_,g,h,f,.pass (x:=.inLoop c) rfl (fun _ _=>.inl (by simp)) d⟩
   |ret=>exact⟨_,g,h,f,.pass (x:=.inLoop c) rfl (fun _ _=>.inl (by simp)) d⟩
   |panic ch=>exact⟨_,g,h,f,.pass (x:=.inLoop c) rfl (fun _ _=>.inl (by simp)) d⟩
   |outgrown=>exact⟨_,g,h,f,.pass (x:=.inLoop c) rfl (fun _ _=>.inl (by simp)) d⟩
 obtain⟨e,a',w',f,d⟩:=key m a w h0;exact⟨e,a',w',f,.of_steps (.one (fenced_calm q i rfl) stepR_loop) d⟩
theorem Cs{c:Code}(I:Nat→Act→World→Prop)(m:Nat)(h0:St X N a l→I m (BX a l) w)
  (d:∀m a w,I m a w→CW P X.ro c (Exit.then (fun a' w'=>∃b,b<m∧I b a' w') Q) a w):CC P X N (.loop c) Q a l w:=fun s=>
 M7 I m (h0 s) d
theorem NS {c:Code} (b:a.tmps.size=N) (d:a.defers=X.ds) (h:CC P X N c Q a [] w):CW P X.ro c Q a w:=
 h ⟨b,d,fun _ e=>by cases e⟩
theorem B1{I:Nat→Act→World→Prop}{m:Nat}(b:Nat)(c:b<m)(h:St X N a l→I b (BX a l) w):LV X N (Exit.then (fun a' w'=>∃b,b<m∧I b a' w') Q) .normal a l w:=
 fun s=>⟨b,c,h s⟩
end
def Bk (w:World) (b:Nat) (t:TypeId) (cs:Array Value):Prop:=w.heap[b]?=some (.cells cs t (0,0))
abbrev Ext (w w':World):Prop:=w.grownBy w' none
abbrev G4 (b:Nat) (w w':World):Prop:=w.grownBy w' (some b)
structure IQ(w w':World)(b:Nat)(t:TypeId)(cs:Array Value):Prop where
 Dh:b=w.heap.size
 sz:w'.heap.size=b+1
 bk:Bk w' b t cs
 gr:Ext w w'
structure K8(w w':World)(b:Nat)(t:TypeId)(cs:Array Value):Prop where
 sz:w'.heap.size=w.heap.size
 bk:Bk w' b t cs
 gr:G4 b w w'
section
variable{w w':World}{b b':Nat}{t:TypeId}{cs:Array Value}
theorem Bk.lt(h:Bk w b t cs):b<w.heap.size:=lt_of_block h
theorem Bk.cell(h:Bk w b t cs)(i:Nat):w.cell? ⟨b,i,none⟩=cs[i]?:=cell_of_row w b i cs t (0,0) h
theorem Bk.frozen(h:Bk w b t cs)(i:Nat):w.frozen? ⟨b,i,none⟩=false:=frozen_of_row w b i cs t h
theorem Bk.ext(h:Bk w b t cs)(g:Ext w w'):Bk w' b t cs:=(g.block b h.lt (by simp)).trans h
theorem Bk.K9(h:Bk w b t cs)(g:G4 b' w w')(a:b≠b'):Bk w' b t cs:=(g.block b h.lt (by simpa using a)).trans h
theorem La(h:Ext w w'):Below w.heap.size w w':=⟨h.os,h.tape,h.output,h.size,fun k a=>h.block k a (by simp)⟩
theorem Ext.refl(w:World):Ext w w:=World.grownBy.refl w _
theorem Ext.trans{a b c:World}(h:Ext a b)(k:Ext b c):Ext a c:=World.grownBy.trans h k
theorem HY(w:World)(t:TypeId)(cs:Array Value):IQ w (w.alloc (.cells cs t)) w.heap.size t cs:=
 ⟨rfl,by simp,heap_alloc_new w _,World.grownBy_alloc w _ _⟩
def Rd (w:World) (lo hi:Nat) (A:Option Addr) (cs:List Value):Prop:=
 hi≤w.heap.size∧(cs=[]∨∃b o,A=some ⟨b,o,none⟩∧lo≤b∧b<hi∧∀j u,cs[j]?=some u→w.cell? ⟨b,o+j,none⟩=some u)
section
variable{lo hi:Nat}{A:Option Addr}{cs:List Value}
theorem Rd.le(h:Rd w lo hi A cs):hi≤w.heap.size:=h.1
theorem Rd.ext(h:Rd w lo hi A cs)(g:Ext w w'):Rd w' lo hi A cs:=
 ⟨Nat.le_trans h.1 g.size,h.2.imp id fun⟨b,o,d,hl,c,e⟩=>⟨b,o,d,hl,c,fun j u hu=>
  (World.cell?_of_block (a:=⟨b,o+j,none⟩) (g.block b (Nat.lt_of_lt_of_le c h.1) (by simp))).trans (e j u hu)⟩⟩
theorem Rd.K9(h:Rd w lo hi A cs)(g:G4 b' w w')(f:b'<lo∨hi≤b'):Rd w' lo hi A cs:=
 ⟨Nat.le_trans h.1 g.size,h.2.imp id fun⟨b,o,d,hl,c,e⟩=>⟨b,o,d,hl,c,fun j u hu=>
  (World.cell?_of_block (a:=⟨b,o+j,none⟩) (g.block b (Nat.lt_of_lt_of_le c h.1) (by simp;omega))).trans (e j u hu)⟩⟩
theorem Rd.mono{c a:Nat}(h:Rd w lo hi A cs)(hl:c≤lo)(g:hi≤a)(d:a≤w.heap.size):Rd w c a A cs:=
 ⟨d,h.2.imp id fun⟨b,o,e,i,k,f⟩=>⟨b,o,e,by omega,by omega,f⟩⟩
theorem Rd.wide(h:Rd w lo hi A cs):Rd w 0 w.heap.size A cs:=h.mono (Nat.zero_le _) h.le (Nat.le_refl _)
theorem Rd.nil{A:Option Addr}(a:hi≤w.heap.size):Rd w lo hi A []:=⟨a,.inl rfl⟩
theorem Rd.cells(h:Rd w lo hi A cs){b o:Nat}(c:A=some ⟨b,o,none⟩):∀j u,cs[j]?=some u→w.cell? ⟨b,o+j,none⟩=some u:=by
 rcases h.2 with rfl|⟨b',o',a,_,_,d⟩
 ·simp
 ·rw[c] at a;injection a with a
  injection a with e f
  subst e;subst f;exact d
theorem Rd.at_ (h:Rd w lo hi A cs) {k:Nat} {u:Value} (hu:cs[k]?=some u):∃b o,A=some ⟨b,o,none⟩∧lo≤b∧b<hi∧∀j u,cs[j]?=some u→w.cell? ⟨b,o+j,none⟩=some u:=by
 rcases h.2 with rfl|h
 ·simp at hu
 ·exact h
end
end
section
variable{P:Program}{a:Act}{w:World}{dst:Option Tmp}{ty:TypeId}{pos:String}{BY:Array Edge}{g:Option (Nat×Bool)}
theorem CR{o:Oper}{v:Value}{w':World}(h:(execOp a.eval o).run P w=.ok (.value v) w'):B2 P o a w (fun u Bm=>u=v∧Bm=w'):=by
 unfold B2;rw[h];exact⟨rfl,rfl⟩
theorem AV{x:Operand}{v:Value}(b:a.eval x=v):B2 P ⟨dst,.move x,ty,pos,BY,g⟩ a w (fun u w'=>u=v∧w'=w):=⟨b,rfl⟩
theorem H9{x:Operand}{v:Value}(b:a.eval x=v):B2 P ⟨dst,.assign x,ty,pos,BY,g⟩ a w (fun u w'=>u=v∧w'=w):=⟨b,rfl⟩
theorem Bn{c x y:Operand}{t:Bool}{v:Value}(b:a.eval c=.bool t)(d:t=true)(e:a.eval x=v):B2 P ⟨dst,.pick c x y,ty,pos,BY,g⟩ a w (fun u w'=>u=v∧w'=w):=
 CR (by subst d;simp[execOp,b,asBool,e])
theorem BC{c x y:Operand}{t:Bool}{v:Value}(b:a.eval c=.bool t)(d:t=false)(e:a.eval y=v):B2 P ⟨dst,.pick c x y,ty,pos,BY,g⟩ a w (fun u w'=>u=v∧w'=w):=
 CR (by subst d;simp[execOp,b,asBool,e])
theorem BE{e:TypeId}{z:Value}{cs:Array Value}(d:(P.info? e).bind (·.zero)=some z)(f:z.cells=cs):
  B2 P ⟨dst,.alloc e,ty,pos,BY,g⟩ a w (fun u w'=>∃b,u=.pointer (some ⟨b,0,none⟩)∧IQ w w' b e cs):=by
 have h:(Instr.alloc e true (.tuple #[])).run P w=.ok (.pointer (some ⟨w.heap.size,0,none⟩)) (w.alloc (.cells cs e)):=by
  obtain⟨i,hi,c⟩:=Option.bind_eq_some_iff.1 d;simp[Instr.alloc,zeroValue,typeInfo,hi,c,newVar,newRow,newObj,program,Sem.run,f]
 unfold B2;simp only[execOp,Sem.run_bind,h,Result.andThen_ok,Sem.run_pure];exact⟨_,rfl,HY w e cs⟩
theorem BK{e:TypeId}{x:Operand}{v:Value}{cs:Array Value}(c:a.eval x=v)(d:v.cells=cs):
  B2 P ⟨dst,.box e x,ty,pos,BY,g⟩ a w (fun u w'=>∃b,u=.pointer (some ⟨b,0,none⟩)∧IQ w w' b e cs):=by
 have h:(Instr.box e (a.eval x)).run P w=.ok (.pointer (some ⟨w.heap.size,0,none⟩)) (w.alloc (.cells cs e)):=by
  simp[Instr.box,newVar,newRow,newObj,Sem.run,c,d]
 unfold B2;simp only[execOp,Sem.run_bind,h,Result.andThen_ok,Sem.run_pure];exact⟨_,rfl,HY w e cs⟩
theorem HZ{o:Oper}{S:Sem Value}{v:Value}{w':World}(b:execOp a.eval o=(do pure (.value (←S))))(h:S.run P w=.ok v w'):B2 P o a w (fun u Bm=>u=v∧Bm=w'):=
 CR (by rw[b];simp[h])
theorem BQ{t:TypeId}{ps:Array (Nat×Operand)}{vs:Array (Nat×Value)}{v:Value}(b:ps.map (fun(i,x)=>(i,a.eval x))=vs)(h:(Instr.build t vs).run P w=.ok v w):
  B2 P ⟨dst,.build t ps,ty,pos,BY,g⟩ a w (fun u w'=>u=v∧w'=w):=HZ (S:=Instr.build t vs) (by simp only[execOp];rw[b]) h
theorem AX{t e:TypeId}{n:Nat}{ps:Array (Nat×Operand)}{vs:Array (Nat×Value)}{cs:Array Value}(c:ps.map (fun(i,x)=>(i,a.eval x))=vs)
  (h:(Instr.buildSlice t n vs).run P w=.ok (.slice (some ⟨w.heap.size,0,none⟩) n n) (w.alloc (.cells cs e))):
  B2 P ⟨dst,.buildSlice t n ps,ty,pos,BY,g⟩ a w (fun u w'=>∃b,u=.slice (some ⟨b,0,none⟩) n n∧IQ w w' b e cs):=
 (HZ (S:=Instr.buildSlice t n vs) (by simp only[execOp];rw[c]) h).mono fun u w' ⟨hu,hw⟩=>⟨_,hu,by rw[hw];exact HY w e cs⟩
def Eu(P:Program)(t:TypeId)(n:Nat):Prop:=(match P.underlying t with|some (.struct _)|some (.array ..)=>true|_=>false)=true∧(P.info? t).map (·.size)=some n
def One(P:Program)(t:TypeId):Prop:=(match P.underlying t with|some (.struct _)|some (.array ..)|none=>false|_=>true)=true∧(P.info? t).map (·.size)=some 1
theorem L9{t:TypeId}{n:Nat}(h:Eu P t n):(isAgg t).run P w=.ok true w:=by
 unfold isAgg;cases hu:P.underlying t with
 |none=>simp[Eu,hu] at h
 |some d=>cases d<;>simp[Eu,hu] at h<;>simp[underlying,program,Sem.run,hu]
theorem JO{t:TypeId}(h:One P t):(isAgg t).run P w=.ok false w:=by
 unfold isAgg;cases hu:P.underlying t with
 |none=>simp[One,hu] at h
 |some d=>cases d<;>simp[One,hu] at h<;>simp[underlying,program,Sem.run,hu]
theorem Hd{t:TypeId}{n:Nat}(h:(P.info? t).map (·.size)=some n):(sizeOf t).run P w=.ok n w:=by
 obtain⟨i,hi,a⟩:=Option.map_eq_some_iff.1 h;simp[sizeOf,typeInfo,program,Sem.run,hi,a]
theorem FW(b o j:Nat):(⟨b,o,none⟩:Addr).add j=⟨b,o+j,none⟩:=by unfold Addr.add;split<;>simp_all
theorem DM{t:TypeId}{ad:Addr}{v:Value}(h:One P t)(a:w.cell? ad=some v):(loadVar t ad).run P w=.ok v w:=by
 simp[loadVar,JO h,load,Sem.run,a]
theorem Ja{t:TypeId}{n b o:Nat}{cs:List Value}(h:Eu P t n)(a:cs.length=n)(c:∀j u,cs[j]?=some u→w.cell? ⟨b,o+j,none⟩=some u):(loadVar t ⟨b,o,none⟩).run P w=.ok (.agg cs.toArray) w:=by
 have d:=run_loadCells_list (P:=P) (w:=w) ⟨b,o,none⟩ cs (fun j v e=>by rw[FW];exact c j v e);subst a;simp[loadVar,L9 h,Hd h.2,d]
theorem Ki{t:TypeId}{x:Operand}{ad:Addr}{v:Value}(b:a.eval x=.pointer (some ad))(h:(loadVar t ad).run P w=.ok v w):B2 P ⟨dst,.load t x,ty,pos,BY,g⟩ a w (fun u w'=>u=v∧w'=w):=
 HZ (S:=Instr.loadAt t (a.eval x)) rfl (by simp[Instr.loadAt,Instr.sureAddr,b,h])
theorem Ay {t c:TypeId} {x:Operand} {b o:Nat} {cs:Array Value} {v:Value} (h:One P t) (d:a.eval x=.pointer (some ⟨b,o,none⟩)) (e:Bk w b c cs) (f:cs.toList[o]?=some v):
  B2 P ⟨dst,.load t x,ty,pos,BY,g⟩ a w (fun u w'=>u=v∧w'=w):=Ki d (DM h ((e.cell o).trans (by simpa using f)))
theorem Bc {t c:TypeId} {x:Operand} {n b o:Nat} {cs:Array Value} {l:List Value} (h:Eu P t n) (d:a.eval x=.pointer (some ⟨b,o,none⟩)) (e:Bk w b c cs) (hl:(cs.toList.drop o).take n=l) (f:l.length=n):
  B2 P ⟨dst,.load t x,ty,pos,BY,g⟩ a w (fun u w'=>u=.agg l.toArray∧w'=w):=Ki d (Ja h f fun j u hu=>by
 rw[e.cell];subst hl;rw[List.getElem?_take] at hu;split at hu
 ·simpa using hu
 ·cases hu)
theorem KQ {t:TypeId} {x:Operand} {b o k:Nat} {cs:List Value} {v:Value} (h:One P t) (c:a.eval x=.pointer (some ⟨b,o+k,none⟩)) (d:∀j u,cs[j]?=some u→w.cell? ⟨b,o+j,none⟩=some u) (e:cs[k]?=some v):
  B2 P ⟨dst,.load t x,ty,pos,BY,g⟩ a w (fun u w'=>u=v∧w'=w):=Ki c (DM h (d k v e))
theorem MQ {t:TypeId} {x:Operand} {n b o k:Nat} {cs l:List Value} (h:Eu P t n) (c:a.eval x=.pointer (some ⟨b,o+k,none⟩)) (d:∀j u,cs[j]?=some u→w.cell? ⟨b,o+j,none⟩=some u)
  (hl:(cs.drop k).take n=l) (e:l.length=n):B2 P ⟨dst,.load t x,ty,pos,BY,g⟩ a w (fun u w'=>u=.agg l.toArray∧w'=w):=Ki c (Ja h e fun j u hu=>by
 rw[Nat.add_assoc];refine d _ _ ?_;subst hl;rw[List.getElem?_take] at hu;split at hu
 ·simpa using hu
 ·cases hu)
def setCells(cs:Array Value)(o:Nat):List Value→Array Value
 |[]=>cs
 |v::l=>setCells (cs.setIfInBounds o v) (o+1) l
theorem HT(o:Nat):∀(l:List Value) (cs:Array Value) (o:Nat),(setCells cs o l).size=cs.size
 |[],_,_=>rfl
 |v::l,cs,o=>by simp[setCells,HT o l]
theorem HW{b:Nat}{t:TypeId}{o:Nat}:∀(l:List Value) (i:Nat) (cs:Array Value) (w:World),Bk w b t cs→o+i+l.length≤cs.size→(∀u∈l,u.oneCell'=true)→
  ∃w',(storeCells ⟨b,o,none⟩ l i).run P w=.ok () w'∧K8 w w' b t (setCells cs (o+i) l)
 |[],i,cs,w,h,_,_=>⟨w,by simp[storeCells],rfl,h,World.grownBy.refl w _⟩
 |v::l,i,cs,w,h,hle,c=>by
  have d:o+i<cs.size:=by simp at hle;omega
  have g:=c v (List.mem_cons_self ..);have a:w.cell? ⟨b,o+i,none⟩=some cs[o+i]:=by rw[h.cell];simp[d]
  have e:(store ((⟨b,o,none⟩:Addr).add i) v).run P w=.ok () (w.setCell ⟨b,o+i,none⟩ v):=by
   rw[FW];cases v<;>simp[Value.oneCell'] at g<;>simp[store,Sem.run,a,h.frozen]
  have m:Bk (w.setCell ⟨b,o+i,none⟩ v) b t (cs.setIfInBounds (o+i) v):=by
   unfold Bk at h⊢;simp[World.setCell,Array.getElem?_modify,h]
  obtain⟨w',n,s1,s2,p⟩:=HW (o:=o) l (i+1) _ _ m (by simp at hle⊢;omega) (fun u hu=>c u (List.mem_cons_of_mem _ hu));refine⟨w',?_,by rw[s1];simp,s2,?_⟩
  ·simp only[storeCells,Sem.run_bind,e,Result.andThen_ok,n]
  ·have g1:G4 b w (w.setCell ⟨b,o+i,none⟩ v):=⟨rfl,rfl,rfl,by simp,fun k _ f=>Below.heap_setCell w ⟨b,o+i,none⟩ v k (by simpa using f)⟩;exact World.grownBy.trans g1 p
theorem Bd{t d:TypeId}{x y:Operand}{n b o:Nat}{v:Value}{cs BZ:Array Value}{l:List Value}(f:a.eval x=.pointer (some ⟨b,o,none⟩))(i:a.eval y=v)(k:(P.info? t).map (·.size)=some n)(m:Bk w b d cs)
  (hl:v.cells.toList=l)(p:l.length=n)(hle:o+n≤cs.size)(q:∀u∈l,u.oneCell'=true)(r:setCells cs o l=BZ):
  B2 P ⟨dst,.store t x y,ty,pos,BY,g⟩ a w (fun _ w'=>K8 w w' b d BZ):=by
 obtain⟨w',s,c⟩:=HW (P:=P) (t:=d) (o:=o) l 0 cs w m (by omega) q;have e:v.cells.size=n:=by rw[←p,←hl];simp
 have h:(Instr.storeAt t (a.eval x) (a.eval y)).run P w=.ok () w':=by
  simp[Instr.storeAt,Instr.sureAddr,f,i,storeVar,Hd k,e,hl,s]
 unfold B2;simp only[execOp,Sem.run_bind,h,Result.andThen_ok,Sem.run_pure];rw[Nat.add_zero,r] at c;exact c
theorem Ce{x:Operand}{ad:Addr}(b:a.eval x=.pointer (some ad)):B2 P ⟨dst,.nilCheck x,ty,pos,BY,g⟩ a w (fun u w'=>u=.pointer (some ad)∧w'=w):=
 CR (by simp[execOp,b])
def fits(x:Int):Prop:=-9223372036854775808≤x∧x≤9223372036854775807
theorem IS{x:Int}(h:fits x):IntKind.i64.wrap x=x:=by
 rw[IntKind.wrap_i64];unfold fits at h;omega
theorem Cf{x y:Operand}{m n:Int}{t b:TypeId}(c:a.eval x=.int .i64 m)(d:a.eval y=.int .i64 n)(e:fits (m+n)):B2 P ⟨dst,.binOp .add t x y b,ty,pos,BY,g⟩ a w (fun u w'=>u=.int .i64 (m+n)∧w'=w):=
 CR (by simp[execOp,c,d,eqGuard,binOp,Op.intArith,IS e])
theorem G8{x y:Operand}{m n:Int}{t b:TypeId}(c:a.eval x=.int .i64 m)(d:a.eval y=.int .i64 n)(e:fits (m-n)):B2 P ⟨dst,.binOp .sub t x y b,ty,pos,BY,g⟩ a w (fun u w'=>u=.int .i64 (m-n)∧w'=w):=
 CR (by simp[execOp,c,d,eqGuard,binOp,Op.intArith,IS e])
theorem K0{x y:Operand}{m n:Int}{t b:TypeId}(c:a.eval x=.int .i64 m)(d:a.eval y=.int .i64 n)(e:fits (m*n)):B2 P ⟨dst,.binOp .mul t x y b,ty,pos,BY,g⟩ a w (fun u w'=>u=.int .i64 (m*n)∧w'=w):=
 CR (by simp[execOp,c,d,eqGuard,binOp,Op.intArith,IS e])
theorem Mh(op:BinOp)(t:TypeId)(x y:Operand)(k:IntKind)(m n:Int):(eqGuard op t x y (.int k m) (.int k n)).run P w=.ok () w:=by
 unfold eqGuard;cases op<;>rfl
theorem C6{x y:Operand}{k:IntKind}{m n:Int}{t b:TypeId}(c:a.eval x=.int k m)(d:a.eval y=.int k n):B2 P ⟨dst,.binOp .eql t x y b,ty,pos,BY,g⟩ a w (fun u w'=>u=.bool (m==n)∧w'=w):=
 CR (by simp[execOp,c,d,Mh,binOp,Op.intCmp])
theorem C8{x y:Operand}{k:IntKind}{m n:Int}{t b:TypeId}(c:a.eval x=.int k m)(d:a.eval y=.int k n):B2 P ⟨dst,.binOp .neq t x y b,ty,pos,BY,g⟩ a w (fun u w'=>u=.bool (m !=n)∧w'=w):=
 CR (by simp[execOp,c,d,Mh,binOp,Op.intCmp])
theorem CU{x y:Operand}{k:IntKind}{m n:Int}{t b:TypeId}(c:a.eval x=.int k m)(d:a.eval y=.int k n):B2 P ⟨dst,.binOp .lss t x y b,ty,pos,BY,g⟩ a w (fun u w'=>u=.bool (decide (m<n))∧w'=w):=
 CR (by simp[execOp,c,d,Mh,binOp,Op.intCmp])
theorem G9{x y:Operand}{k:IntKind}{m n:Int}{t b:TypeId}(c:a.eval x=.int k m)(d:a.eval y=.int k n):B2 P ⟨dst,.binOp .leq t x y b,ty,pos,BY,g⟩ a w (fun u w'=>u=.bool (decide (m≤n))∧w'=w):=
 CR (by simp[execOp,c,d,Mh,binOp,Op.intCmp])
theorem HI{x y:Operand}{k:IntKind}{m n:Int}{t b:TypeId}(c:a.eval x=.int k m)(d:a.eval y=.int k n):B2 P ⟨dst,.binOp .gtr t x y b,ty,pos,BY,g⟩ a w (fun u w'=>u=.bool (decide (n<m))∧w'=w):=
 CR (by simp[execOp,c,d,Mh,binOp,Op.intCmp])
theorem HJ{x y:Operand}{k:IntKind}{m n:Int}{t b:TypeId}(c:a.eval x=.int k m)(d:a.eval y=.int k n):B2 P ⟨dst,.binOp .geq t x y b,ty,pos,BY,g⟩ a w (fun u w'=>u=.bool (decide (n≤m))∧w'=w):=
 CR (by simp[execOp,c,d,Mh,binOp,Op.intCmp])
theorem On {op:BinOp} {x y:Operand} {v v1 v2:Value} {t b:TypeId} (c:a.eval x=v1) (d:a.eval y=v2) (h:(do eqGuard op t x y v1 v2;binOp op t v1 v2:Sem Value).run P w=.ok v w):B2 P ⟨dst,.binOp op t x y b,ty,pos,BY,g⟩ a w (fun u w'=>u=v∧w'=w):=
 HZ (S:=do eqGuard op t x y v1 v2;binOp op t v1 v2) (by simp only[execOp,c,d]) h
theorem CB{x:Operand}{b:Bool}{t:TypeId}(c:a.eval x=.bool b):B2 P ⟨dst,.unOp .not t x,ty,pos,BY,g⟩ a w (fun u w'=>u=.bool (!b)∧w'=w):=
 CR (by simp[execOp,c,Op.unary])
theorem CE{fn:Fn}{b cs:Array Operand}{vs us:Array Value}(c:b.map a.eval=vs)(d:cs.map a.eval=us):B2 P ⟨dst,.makeFunc fn b cs,ty,pos,BY,g⟩ a w (fun u w'=>u=.func fn vs us∧w'=w):=
 CR (by simp[execOp,Instr.makeFunc,c,d])
theorem Al{s:TypeId}{x:Operand}{i:Nat}{ad b:Addr}(c:a.eval x=.pointer (some ad))(h:(Instr.fieldAt s (.pointer (some ad)) i).run P w=.ok (.pointer (some b)) w):B2 P ⟨dst,.fieldAddr s x i,ty,pos,BY,g⟩ a w (fun u w'=>u=.pointer (some b)∧w'=w):=
 HZ (S:=Instr.fieldAt s (.pointer (some ad)) i) (by simp only[execOp,c]) h
theorem Mi{s:TypeId}{x:Operand}{i:Nat}{v v':Value}(b:a.eval x=v)(h:(Instr.field s v i).run P w=.ok v' w):B2 P ⟨dst,.field s x i,ty,pos,BY,g⟩ a w (fun u w'=>u=v'∧w'=w):=
 HZ (S:=Instr.field s v i) (by simp only[execOp,b]) h
theorem AQ{x:Operand}{i:Nat}{vs:Array Value}{v:Value}(b:a.eval x=.tuple vs)(h:vs[i]?=some v):B2 P ⟨dst,.extract x i,ty,pos,BY,g⟩ a w (fun u w'=>u=v∧w'=w):=
 CR (by simp[execOp,b,Instr.extract,h])
theorem KD{t:TypeId}{x:Operand}{lo hi:Option Operand}{v:Value}{b c:Option Value}{v':Value}(d:a.eval x=v)(hl:lo.map a.eval=b)(e:hi.map a.eval=c)(h:(Instr.sliceAt t v b c none).run P w=.ok v' w):B2 P ⟨dst,.slice t x lo hi none,ty,pos,BY,g⟩ a w (fun u w'=>u=v'∧w'=w):=
 HZ (S:=Instr.sliceAt t v b c none) (by simp only[execOp,d,hl,e,Option.map_none]) h
theorem JP {t e:TypeId} {x y:Operand} {sz b o n c k:Nat} {i:Int} {d:IntKind} (f:P.underlying t=some (.slice e)) (h:(P.info? e).map (·.size)=some sz) (l:a.eval x=.slice (some ⟨b,o,none⟩) n c) (m:a.eval y=.int d i)
  (hi:i=k) (p:k<n):B2 P ⟨dst,.indexAddr t x y,ty,pos,BY,g⟩ a w (fun u w'=>u=.pointer (some ⟨b,o+k*sz,none⟩)∧w'=w):=
 CR (by
  subst hi;have q:(0:Int)≤k∧(k:Int)<n:=⟨by omega,by omega⟩;have r:¬n≤k:=by omega
  simp[execOp,l,m,Instr.indexAt,asIntOf,underlying,program,Sem.run,f,q,Hd h,FW,p,r])
theorem Lb {t e:TypeId} {x y:Operand} {sz b o n k:Nat} {i:Int} {c:IntKind} (d:P.underlying t=some (.array n e)) (f:(P.info? e).map (·.size)=some sz) (h:a.eval x=.pointer (some ⟨b,o,none⟩)) (l:a.eval y=.int c i)
  (hi:i=k) (m:k<n):B2 P ⟨dst,.indexAddr t x y,ty,pos,BY,g⟩ a w (fun u w'=>u=.pointer (some ⟨b,o+k*sz,none⟩)∧w'=w):=
 CR (by
  subst hi;have p:(0:Int)≤k∧(k:Int)<n:=⟨by omega,by omega⟩;have q:¬n≤k:=by omega
  simp[execOp,h,l,Instr.indexAt,asIntOf,underlying,program,Sem.run,d,p,Hd f,FW,Instr.sureAddr,m,q])
theorem BT{t e:TypeId}{x:Operand}{A:Option Addr}{n c:Nat}(b:P.underlying t=some (.slice e))(d:a.eval x=.slice A n c):B2 P ⟨dst,.call {callee:=.builtin .len,args:= #[x],argTypes:= #[t]},ty,pos,BY,g⟩ a w (fun u w'=>u=.int .i64 n∧w'=w):=
 CR (by simp[execOp,resolve,invoke,builtin,Builtin.len_,d,underlying,program,Sem.run,b,goInt])
theorem QV{x y:Operand}{m n:Int}{t b:TypeId}(c:a.eval x=.int .i64 m)(d:a.eval y=.int .i64 n):B2 P ⟨dst,.call {callee:=.builtin .max,args:= #[x,y],argTypes:= #[t,b]},ty,pos,BY,g⟩ a w (fun u w'=>u=.int .i64 (max m n)∧w'=w):=
 CR (by
  have e:(if m<n then n else m)=max m n:=by omega
  simp[execOp,resolve,invoke,builtin,Builtin.max_,c,d,Builtin.max2,e])
theorem QW{x y:Operand}{m n:Int}{t b:TypeId}(c:a.eval x=.int .i64 m)(d:a.eval y=.int .i64 n):B2 P ⟨dst,.call {callee:=.builtin .min,args:= #[x,y],argTypes:= #[t,b]},ty,pos,BY,g⟩ a w (fun u w'=>u=.int .i64 (min m n)∧w'=w):=
 CR (by
  have e:(if n<m then n else m)=min m n:=by omega
  simp[execOp,resolve,invoke,builtin,Builtin.min_,c,d,Builtin.min2,e])
def BI (P:Program) (f:FuncId) (args:Array Value) (w:World) (R:Value→World→Prop):Prop:=Calls P f args w (fun e w'=>∃v,e=.returned v∧R v w')
theorem BI.mono{f:FuncId}{args:Array Value}{R R':Value→World→Prop}(h:BI P f args w R)(a:∀v w',R v w'→R' v w'):BI P f args w R':=
 Calls.mono h fun _ _ ⟨v,he,b⟩=>⟨v,he,a _ _ b⟩
def Bg (P:Program) (f:FuncId):Prop:=(match P.funcs[f]? with|some fn=>fn.name !="runtime.NumGoroutine"&&fn.body.isSome|none=>false)=true
theorem Jb{f:FuncId}(h:Bg P f)(args:Array Value):(callFunc f args).run P w=.ok (.enter f args) w:=by
 unfold Bg at h;unfold callFunc;cases a:P.funcs[f]? with
 |none=>simp[a] at h
 |some fn=>
  simp only[a,Bool.and_eq_true,bne_iff_ne,ne_eq] at h;obtain⟨b,c⟩:=h;have e:fn.body.isNone=false:=by cases g:fn.body<;>simp_all
  have d:¬fn.body=none:=by intro h;simp[h] at c
  simp[program,Sem.run,a,b,d]
theorem GJ{f:Operand}{xs:Array Operand}{b:Array TypeId}{fn:FuncId}{first cap vs all:Array Value}{R:Value→World→Prop}(c:Bg P fn)(d:a.eval f=.func (.func fn) first cap)(e:xs.map a.eval=vs)(i:first++vs++cap=all)
  (h:BI P fn all w R):B2 P ⟨dst,.call {callee:=.value f,args:=xs,argTypes:=b},ty,pos,BY,g⟩ a w R:=by
 have k:(execOp a.eval ⟨dst,.call {callee:=.value f,args:=xs,argTypes:=b},ty,pos,BY,g⟩).run P w=.ok (.enter fn all) w:=by
  simp only[execOp,resolve,d,e,Deferred.ofValue];simp only[Sem.run_bind,Sem.run_pure,Result.andThen_ok,invoke,Jb c,i]
 unfold B2;rw[k];exact h
theorem Gq{f:Operand→Value}:(#[]:Array Operand).map f= #[]:=by simp
theorem BR{f:Operand→Value}{a:Operand}{v0:Value}(h0:f a=v0): #[a].map f= #[v0]:=by simp[h0]
theorem BV{f:Operand→Value}{a x1:Operand}{v0 v1:Value}(h0:f a=v0)(b:f x1=v1): #[a,x1].map f= #[v0,v1]:=by simp[h0,b]
theorem GA{f:Operand→Value}{a x1 x2:Operand}{v0 v1 v2:Value}(h0:f a=v0)(b:f x1=v1)(c:f x2=v2): #[a,x1,x2].map f= #[v0,v1,v2]:=by simp[h0,b,c]
theorem P4{f:Operand→Value}{a x1 x2 b:Operand}{v0 v1 v2 v3:Value}(h0:f a=v0)(c:f x1=v1)(d:f x2=v2)(e:f b=v3): #[a,x1,x2,b].map f= #[v0,v1,v2,v3]:=by simp[h0,c,d,e]
theorem P5{f:Operand→Value}:(#[]:Array (Nat×Operand)).map (fun(i,x)=>(i,f x))= #[]:=by simp
theorem Fj{f:Operand→Value}{i0:Nat}{a:Operand}{v0:Value}(h0:f a=v0): #[(i0,a)].map (fun(i,x)=>(i,f x))= #[(i0,v0)]:=by simp[h0]
theorem CH{f:Operand→Value}{i0 i1:Nat}{a x1:Operand}{v0 v1:Value}(h0:f a=v0)(b:f x1=v1): #[(i0,a),(i1,x1)].map (fun(i,x)=>(i,f x))= #[(i0,v0),(i1,v1)]:=by simp[h0,b]
theorem Oo{f:Operand→Value}{i0 i1 i2:Nat}{a x1 x2:Operand}{v0 v1 v2:Value}(h0:f a=v0)(b:f x1=v1)(c:f x2=v2): #[(i0,a),(i1,x1),(i2,x2)].map (fun(i,x)=>(i,f x))= #[(i0,v0),(i1,v1),(i2,v2)]:=by simp[h0,b,c]
theorem HP {f:FuncId} {fn:Func} {c:Code} {args:Array Value} {N:Nat} {R:Value→World→Prop} (b:P.funcs[f]?=some fn) (d:fn.body=some c) (g:fn.ntmps=N) (k:args.size≤N)
  (h:∀a:Act,a.tmps=args++Array.replicate (N-args.size) undef→a.defers=[]→CC P X0 N c (bodyPost P fn (fun e w'=>∃v,e=.returned v∧R v w')) a [] w):BI P f args w R:=by
 refine calls_of_wp b d ?_;rw[g];have:=h {tmps:=args++Array.replicate (N-args.size) undef,defers:=[]} rfl rfl;exact wpIn_wide.1 (this ⟨by simp;omega,rfl,fun _ i=>by cases i⟩)
theorem Hn{a:Act}{args:Array Value}{n i:Nat}{v:Value}(h:a.tmps=args++Array.replicate n undef)(hi:args[i]?=some v):sl a i=v:=by
 obtain⟨b,he⟩:=Array.getElem?_eq_some_iff.1 hi;unfold sl;rw[h,Array.getD_eq_getD_getElem?,Array.getElem?_append_left b,hi];rfl
theorem AF {fn:Func} {N t:Nat} {a:Act} {l:Env} {v:Value} {R:Value→World→Prop} (b:fn.results= #[.tmp t]) (c:ev a l (.tmp t)=v) (h:R v w):LV X0 N (bodyPost P fn (fun e w'=>∃v,e=.returned v∧R v w')) .ret a l w:=fun s=>
 bodyPost_ret (results_tmp b _ _ _) (by rw[Dd,s.df]) ⟨_,rfl,by rw[show(BX a l).tmps.getD t undef=v from ee s c];exact h⟩
theorem CL{fn:Func}{N t u:Nat}{a:Act}{l:Env}{v v':Value}{R:Value→World→Prop}(b:fn.results= #[.tmp t,.tmp u])(c:ev a l (.tmp t)=v)(hu:ev a l (.tmp u)=v')(h:R (.tuple #[v,v']) w):
  LV X0 N (bodyPost P fn (fun e w'=>∃v,e=.returned v∧R v w')) .ret a l w:=fun s=>
 bodyPost_ret (results_tmp2 b _ _ _) (by rw[Dd,s.df]) ⟨_,rfl,by rw[show(BX a l).tmps.getD t undef=v from ee s c,show(BX a l).tmps.getD u undef=v' from ee s hu];exact h⟩
theorem Ex {fn:Func} {N p:Nat} {t:TypeId} {a:Act} {l:Env} {ad:Addr} {v:Value} {R:Value→World→Prop} (c:fn.results= #[.cell p t]) (d:ev a l (.tmp p)=.pointer (some ad)) (hl:(loadVar t ad).run P w=.ok v w) (h:R v w):
  LV X0 N (bodyPost P fn (fun e w'=>∃v,e=.returned v∧R v w')) .ret a l w:=fun s=>by
 have b:(BX a l).tmps.getD p undef=.pointer (some ad):=ee s d;refine bodyPost_ret (v:=v) ?_ (by rw[Dd,s.df]) ⟨_,rfl,h⟩;simp only[Array.getD_eq_getD_getElem?] at b;simp[results,c,b,asAddr,hl]
theorem Jy{fn:Func}{N:Nat}{a:Act}{l:Env}{R:Value→World→Prop}(b:fn.results= #[])(h:R (.tuple #[]) w):LV X0 N (bodyPost P fn (fun e w'=>∃v,e=.returned v∧R v w')) .normal a l w:=fun s=>
 bodyPost_end (results_none b _ _ _) (by rw[Dd,s.df]) ⟨_,rfl,h⟩
end
section
variable{P:Program}{a:Act}{w:World}{dst:Option Tmp}{ty:TypeId}{pos:String}{BY:Array Edge}{g:Option (Nat×Bool)}
def GB(l:List Int):List Value:=l.map (Value.int .i64)
def Dz(l:List Int):Value:=.agg (GB l).toArray
theorem OG(l:List Int)(k:Nat)(h:k<l.length):(GB l)[k]?=some (.int .i64 (l.getD k 0)):=by
 simp[GB,List.getElem?_eq_getElem h]
theorem NT(l:List Int)(k:Nat)(h:k<l.length):(GB l).toArray[k]?=some (.int .i64 (l.getD k 0)):=by
 simpa using OG l k h
theorem CZ{t a:TypeId}{n b o:Nat}{cs:Array Value}{l:List Value}(h:Eu P t n)(c:Bk w b a cs)(hl:(cs.toList.drop o).take n=l)(d:l.length=n):(loadVar t ⟨b,o,none⟩).run P w=.ok (.agg l.toArray) w:=
 Ja h d fun j u hu=>by
  rw[c.cell];subst hl;rw[List.getElem?_take] at hu;split at hu
  ·simpa using hu
  ·cases hu
theorem An{f:Operand}{xs:Array Operand}{b:Array TypeId}{fn:FuncId}{vs:Array Value}{R:Value→World→Prop}(c:Bg P fn)(d:a.eval f=.func (.func fn) #[] #[])(e:xs.map a.eval=vs)
  (h:BI P fn vs w R):B2 P ⟨dst,.call {callee:=.value f,args:=xs,argTypes:=b},ty,pos,BY,g⟩ a w R:=
 GJ c d e (by simp) h
theorem Eo {t e:TypeId} {x y:Operand} {b n k:Nat} {i:Int} {c:IntKind} (d:P.underlying t=some (.array n e)) (f:(P.info? e).map (·.size)=some 1) (h:a.eval x=.pointer (some ⟨b,0,none⟩)) (l:a.eval y=.int c i)
  (hi:i=k) (m:k<n):B2 P ⟨dst,.indexAddr t x y,ty,pos,BY,g⟩ a w (fun u w'=>u=.pointer (some ⟨b,k,none⟩)∧w'=w):=by
 have:=Lb (P:=P) (a:=a) (w:=w) (dst:=dst) (ty:=ty) (pos:=pos) (BY:=BY) (g:=g) d f h l hi m;simpa using this
theorem Cc{t e:TypeId}{x y:Operand}{b o n c k:Nat}{A:Option Addr}{i:Int}{d:IntKind}(f:P.underlying t=some (.slice e))(h:(P.info? e).map (·.size)=some 1)(l:a.eval x=.slice A n c)(m:A=some ⟨b,o,none⟩)(p:a.eval y=.int d i)
  (hi:i=k)(q:k<n):B2 P ⟨dst,.indexAddr t x y,ty,pos,BY,g⟩ a w (fun u w'=>u=.pointer (some ⟨b,o+k,none⟩)∧w'=w):=by
 subst m;have:=JP (P:=P) (a:=a) (w:=w) (dst:=dst) (ty:=ty) (pos:=pos) (BY:=BY) (g:=g) f h l p hi q;simpa using this
theorem Cd{t e:TypeId}{x y:Operand}{sz b o n c k:Nat}{A:Option Addr}{i:Int}{d:IntKind}(f:P.underlying t=some (.slice e))(h:(P.info? e).map (·.size)=some sz)(l:a.eval x=.slice A n c)(m:A=some ⟨b,o,none⟩)(p:a.eval y=.int d i)
  (hi:i=k)(q:k<n):B2 P ⟨dst,.indexAddr t x y,ty,pos,BY,g⟩ a w (fun u w'=>u=.pointer (some ⟨b,o+k*sz,none⟩)∧w'=w):=by
 subst m;exact JP f h l p hi q
theorem Ah(b:Bool):b=true∨b=false:=by cases b<;>simp
theorem AN{l:List Value}(h:l.all (·.oneCell')=true):∀u∈l,u.oneCell'=true:=by simpa using h
theorem ec{a:Act}{v:Value}:a.eval (.const v)=v:=rfl
theorem es{a:Act}{t:Nat}{v:Value}(h:sl a t=v):a.eval (.tmp t)=v:=h
theorem AY{v:Value}{b c:Bool}(h:v=.bool b)(a:b=c):v=.bool c:=by rw[h,a]
theorem NU{fn:Func}{N:Nat}{a:Act}{l:Env}{R:Value→World→Prop}(b:fn.results= #[])(h:R (.tuple #[]) w):LV X0 N (bodyPost P fn (fun e w'=>∃v,e=.returned v∧R v w')) .ret a l w:=fun s=>
 bodyPost_ret (results_none b _ _ _) (by rw[Dd,s.df]) ⟨_,rfl,h⟩
def flat{α:Type}(enc:α→List Value)(xs:List α):List Value:=xs.flatMap enc
theorem Lc{α:Type}(enc:α→List Value)(sz:Nat)(he:∀x,(enc x).length=sz):∀xs:List α,(flat enc xs).length=xs.length*sz
 |[]=>by simp[flat]
 |x::xs=>by
  have:=Lc enc sz he xs;unfold flat at*;simp only[List.flatMap_cons,List.length_append,he,this,List.length_cons,Nat.add_mul,Nat.one_mul];omega
theorem Rd.elem {α:Type} {enc:α→List Value} {sz:Nat} (he:∀x,(enc x).length=sz) (a:0<sz) {w:World} {lo hi:Nat} {A:Option Addr} {xs:List α} (h:Rd w lo hi A (flat enc xs)) {k:Nat} (d:k<xs.length):
  ∃b o,A=some ⟨b,o,none⟩∧lo≤b∧b<hi∧∀j u,(flat enc xs)[j]?=some u→w.cell? ⟨b,o+j,none⟩=some u:=by
 have hl:=Lc enc sz he xs;have c:0<(flat enc xs).length:=by rw[hl];exact Nat.mul_pos (by omega) a
 exact h.at_ (k:=0) (u:=(flat enc xs)[0]) (List.getElem?_eq_getElem c)
theorem Rd.Dt{w:World}{lo hi:Nat}{A:Option Addr}{cs:List Value}(h:Rd w lo hi A cs){k:Nat}(a:k<cs.length):
  ∃b o,A=some ⟨b,o,none⟩∧lo≤b∧b<hi∧∀j u,cs[j]?=some u→w.cell? ⟨b,o+j,none⟩=some u:=h.at_ (List.getElem?_eq_getElem a)
end
def DL(o:Oper)(j:Nat):Bool:=o.after.toList.any fun e=>Region.binds .any e&&Nat.beq e.on j
def Ca(L:List Oper)(j:Nat):Option Nat:=(L[j]?).bind (·.dst)
def isDst(L:List Oper)(s:Nat):Bool:=L.any fun o=>match o.dst with|some d=>Nat.beq d s|none=>false
def HQ:Nat→List Oper→Bool
 |_,[]=>true
 |k,o::L=>(o.after.toList.all fun e=> !Region.binds .any e||Nat.blt e.on k)&&HQ (k+1) L
def Jc(N:Nat):List Oper→Bool
 |[]=>true
 |o::L=>(match o.dst with|some d=>Nat.blt d N&& !isDst L d|none=>true)&&Jc N L
def IB(L:List Oper):List Nat→Bool
 |[]=>true
 |[k]=>Nat.blt k L.length
 |k::j::r=>Nat.blt k j&&(match L[j]? with|some o=>DL o k|none=>false)&&IB L (j::r)
def Jz(N:Nat)(L:List Oper)(sp:List Nat):Bool:=HQ 0 L&&Jc N L&&IB L sp
theorem Jd{L:List Oper}{s:Nat}:isDst L s=true↔∃j,Ca L j=some s:=by
 unfold isDst Ca;rw[List.any_eq_true];constructor
 ·rintro⟨o,a,h⟩;obtain⟨j,b,rfl⟩:=List.mem_iff_getElem.1 a;refine⟨j,?_⟩;rw[List.getElem?_eq_getElem b];cases c:L[j].dst with
  |none=>simp[c] at h
  |some d=>simp only[c] at h;simp[c,Nat.eq_of_beq_eq_true h]
 ·rintro⟨j,b⟩;cases a:L[j]? with
  |none=>simp[a] at b
  |some o=>
   refine⟨o,List.mem_of_getElem? a,?_⟩;simp only[a,Option.bind_some] at b;simp[b]
theorem HK{N:Nat}:∀{L:List Oper},Jc N L=true→∀i j d,Ca L i=some d→d<N∧(Ca L j=some d→i=j)
 |[],_,i,j,d,hi=>by simp[Ca] at hi
 |o::L,h,i,j,d,hi=>by
  simp only[Jc,Bool.and_eq_true] at h;obtain⟨c,f⟩:=h;have ih:=HK f;have e:∀d,o.dst=some d→d<N∧∀j,Ca L j≠some d:=by
   intro d g;rw[g] at c;simp only[Bool.and_eq_true,Bool.not_eq_true'] at c;refine⟨by simpa[Nat.blt_eq] using c.1,fun j b=>?_⟩;have:=Jd.2 ⟨j,b⟩;rw[this] at c;cases c.2
  cases i with
  |zero=>
   have a:o.dst=some d:=by simpa[Ca] using hi
   refine⟨(e d a).1,fun b=>?_⟩;cases j with
   |zero=>rfl
   |succ j=>exact absurd (by simpa[Ca] using b) ((e d a).2 j)
  |succ i=>
   have a:Ca L i=some d:=by simpa[Ca] using hi
   cases j with
   |zero=>
    refine⟨(ih i i d a).1,fun b=>?_⟩;exact absurd a ((e d (by simpa[Ca] using b)).2 i)
   |succ j=>
    refine⟨(ih i j d a).1,fun b=>?_⟩;rw[(ih i j d a).2 (by simpa[Ca] using b)]
theorem DH:∀{L:List Oper} {k:Nat},HQ k L=true→∀i o,L[i]?=some o→∀e∈o.after,Region.binds .any e=true→e.on<k+i
 |[],_,_,i,o,a=>by simp at a
 |o'::L,k,h,i,o,a=>by
  simp only[HQ,Bool.and_eq_true,List.all_eq_true] at h;cases i with
  |zero=>
   obtain rfl:o'=o:=by simpa using a
   intro e he b;have:=h.1 e (by simpa using he);simp only[Bool.or_eq_true,Bool.not_eq_true',b,Bool.true_eq_false,false_or] at this;simpa[Nat.blt_eq] using this
  |succ i=>
   intro e he b;have:=DH h.2 i o (by simpa using a) e he b;omega
theorem D0{o:Oper}{j:Nat}:DL o j=true↔∃e∈o.after,Region.binds .any e=true∧e.on=j:=by
 unfold DL;rw[List.any_eq_true];constructor
 ·rintro⟨e,he,h⟩;simp only[Bool.and_eq_true] at h;exact⟨e,by simpa using he,h.1,Nat.eq_of_beq_eq_true h.2⟩
 ·rintro⟨e,he,a,rfl⟩;exact⟨e,by simpa using he,by simp[a]⟩
theorem Je{L:List Oper}:∀{sp:List Nat},IB L sp=true→
  (∀(i k j:Nat),sp[i]?=some k→sp[i+1]?=some j→∃o,L[j]?=some o∧DL o k=true)∧(∀(i j k:Nat),sp[i]?=some k→sp[j]?=some k→i=j)∧(∀k∈sp,k<L.length)∧(∀k∈sp,∀(e:Nat),sp[0]?=some e→e≤k)
 |[],_=>⟨by simp,by simp,by simp,by simp⟩
 |[k],h=>by
  have p:k<L.length:=by simpa[IB,Nat.blt_eq] using h
  refine⟨by simp,?_,by simpa using p,by simp⟩;intro i j x hi u;cases i<;>cases j<;>simp_all
 |k::j::r,h=>by
  simp only[IB,Bool.and_eq_true] at h;obtain⟨⟨q,f⟩,s⟩:=h;obtain⟨a1,a2,a3,a4⟩:=Je s;have t:k<j:=by simpa[Nat.blt_eq] using q
  refine⟨?_,?_,?_,?_⟩
  ·intro i x y a g;cases i with
   |zero=>
    obtain rfl:k=x:=by simpa using a
    obtain rfl:j=y:=by simpa using g
    cases l:L[j]? with
    |none=>simp[l] at f
    |some o=>exact⟨o,rfl,by simpa[l] using f⟩
   |succ i=>exact a1 i x y (by simpa using a) (by simpa using g)
  ·intro i b x a c;have d:∀m,(j::r)[m]?=some x→j≤x:=fun m hm=>a4 x (List.mem_of_getElem? hm) j (by simp);cases i with
   |zero=>
    obtain rfl:k=x:=by simpa using a
    cases b with
    |zero=>rfl
    |succ b=>have:=d b (by simpa using c);omega
   |succ i=>
    cases b with
    |zero=>
     obtain rfl:k=x:=by simpa using c
     have:=d i (by simpa using a);omega
    |succ b=>rw[a2 i b x (by simpa using a) (by simpa using c)]
  ·intro x a;rcases List.mem_cons.1 a with rfl|a
   ·have:=a3 j (by simp);omega
   ·exact a3 x a
  ·intro x a e n;obtain rfl:k=e:=by simpa using n
   rcases List.mem_cons.1 a with rfl|a
   ·exact Nat.le_refl _
   ·have:=a4 x a j (by simp);omega
section
variable(P:Program)(X:Ctx)(N:Nat)(L:List Oper)(a:Act)(l:Env)(S:Nat→World→World→Prop)(T:Nat→Act→World→Prop)(Φ:Nat→Value→World→Prop)(sp:List Nat)
structure F6 (k:Nat) (o:Oper) (a':Act) (w':World) (ph:Nat):Prop where
 out:∀s,isDst L s=false→sl a' s=lk (sl a s) l s
 later:∀(j d:Nat) (o':Oper),L[j]?=some o'→o'.dst=some d→DL o' k=true→sl a' d=lk (sl a d) l d
 BF:∀(j d:Nat),DL o j=true→Ca L j=some d→Φ j (sl a' d) w'
 BO:T ph a' w'
 P6:∀(i:Nat),sp[i]?=some k→ph=i
 R8:∀(i j:Nat) (o':Oper),sp[i]?=some j→L[j]?=some o'→DL o' k=true→ph≤i
def F7(k:Nat)(o:Oper):Prop:=∀a' w' ph,F6 L a l T Φ sp k o a' w' ph→
 (Region.wanted o (yielded L.toArray a'.tmps)=true∧B2 P o a' w' (fun v Bm=>Φ k v Bm∧(if k∈sp then S k w' Bm∧T (ph+1) (a'.put o.dst v) Bm else Ext w' Bm)))∨
 (Region.wanted o (yielded L.toArray a'.tmps)=false∧Φ k undef w'∧k∉sp)
def Jf:Nat→Nat→List Oper→Prop
 |0,_,_=>True
 |_+1,_,[]=>True
 |m+1,k,o::R=>F7 P L a l S T Φ sp k o∧Jf m (k+1) R
end
def IU(X:Ctx)(N:Nat)(a:Act)(Φ:Nat→Value→World→Prop)(c:Act→World→Prop)(G:Env→Prop)(w':World):Nat→Nat→List Oper→Env→Prop
 |0,_,_,b=>c (BX a b) w'→G b
 |_+1,_,[],b=>c (BX a b) w'→G b
 |m+1,k,o::R,b=>match o.dst with
  |some d=>∀v,Φ k v w'→IU X N a Φ c G w' m (k+1) R ((d,v)::b)
  |none=>IU X N a Φ c G w' m (k+1) R b
def okD (L:List Oper) (sp:List Nat) (D:Nat→List Nat):Bool:=
 (List.range (sp.length+1)).all fun ph=>(D ph).all fun s=>(List.range L.length).all fun i=>match Ca L i with
  |some d=> !Nat.beq d s||(sp.take ph).any fun k=>Nat.beq k i||(match L[k]? with|some o=>DL o i|none=>false)
  |none=>true
theorem NV{L:List Oper}{sp:List Nat}{D:Nat→List Nat}(h:okD L sp D=true){ph:Nat}(n:ph≤sp.length){i s:Nat}(f:s∈D ph)(hi:Ca L i=some s):
  ∃m k,m<ph∧sp[m]?=some k∧(k=i∨∃o,L[k]?=some o∧DL o i=true):=by
 have c:i<L.length:=by
  rcases Nat.lt_or_ge i L.length with h|h
  ·exact h
  ·simp[Ca,List.getElem?_eq_none h] at hi
 simp only[okD,List.all_eq_true,List.mem_range] at h;have:=h ph (by omega) s f i c;rw[hi] at this;simp only[Nat.beq_refl,Bool.not_true,Bool.false_or,List.any_eq_true] at this;obtain⟨k,g,l⟩:=this;obtain⟨m,hm,d⟩:=List.mem_iff_getElem.1 g;have b:m<ph∧m<sp.length:=by simp at hm;omega
 refine⟨m,k,b.1,?_,?_⟩
 ·rw[←d,List.getElem_take,List.getElem?_eq_getElem b.2]
 ·rcases Bool.or_eq_true _ _▸l with a|a
  ·exact .inl (Nat.eq_of_beq_eq_true a)
  ·cases e:L[k]? with
   |none=>simp[e] at a
   |some o=>exact .inr ⟨o,rfl,by simpa[e] using a⟩
section
variable{P:Program}{X:Ctx}{N:Nat}{L:List Oper}{a:Act}{l:Env}{S:Nat→World→World→Prop}{T:Nat→Act→World→Prop}{Φ:Nat→Value→World→Prop}{sp:List Nat}{Q:Exit→Act→World→Prop}{w:World}{k:Nat}{o:Oper}{R:List Oper}
structure Inv(listed:Array Bool)(a':Act)(w':World):Prop where
 Ld:listed.size=L.length
 sz:a'.tmps.size=N
 df:a'.defers=X.ds
 out:∀s,(∀j,Ca L j=some s→listed.getD j false=false)→sl a' s=lk (sl a s) l s
 done:∀(j d:Nat),listed.getD j false=true→Ca L j=some d→Φ j (sl a' d) w'
 down:∀(j:Nat) (o:Oper),L[j]?=some o→listed.getD j false=true→∀e∈o.after,Region.binds .any e=true→listed.getD e.on false=true
 ph:∃ph,T ph a' w'∧ph≤sp.length∧∀(i k:Nat),sp[i]?=some k→(listed.getD k false=true↔i<ph)
theorem OH{x y:Act}(a:x.tmps.size=y.tmps.size)(b:x.defers=y.defers)(h:∀s,sl x s=sl y s):x=y:=by
 obtain⟨t,d⟩:=x;obtain⟨c,g⟩:=y;simp only at b a;subst b;have:t=c:=by
  apply Array.ext a;intro i e f;have:=h i;unfold sl at this;simp only[Array.getD_eq_getD_getElem?,Array.getElem?_eq_getElem e,Array.getElem?_eq_getElem f,Option.getD_some] at this;exact this
 rw[this]
theorem JA(q:Act→World→Prop)(G:Env→Prop)(w':World)(a':Act)(c:q a' w')(e:a'.tmps.size=N)(f:a'.defers=X.ds){K:Prop}(u:∀b,St X N a b→G b→a'=BX a b→K):
  ∀(m:Nat) (R:List Oper) (k:Nat) (b:Env),St X N a b→m≤R.length→(∀i d,Ca R i=some d→d<N)→(∀i j d,Ca R i=some d→Ca R j=some d→i=j)→IU X N a Φ q G w' m k R b→
   (∀i d,i<m→Ca R i=some d→Φ (k+i) (sl a' d) w')→(∀s,(∀i,i<m→Ca R i≠some s)→sl a' s=lk (sl a s) b s)→K
 |0,R,k,b,st,_,_,_,h,_,g=>by
  have:a'=BX a b:=OH (by rw[HO,st.sz,e]) (by rw[Dd,st.df,f]) (fun s=>by rw[H6 st s];exact g s (fun i hi=>absurd hi (by omega)));exact u b st (h (by rw[←this];exact c)) this
 |m+1,[],k,b,st,hm,_,_,h,_,g=>by simp at hm
 |m+1,o::R,k,b,st,hm,r,w,h,x,g=>by
  have l:∀i d,Ca R i=some d→d<N:=fun i d hi=>r (i+1) d (by simpa[Ca] using hi);have n:∀i j d,Ca R i=some d→Ca R j=some d→i=j:=fun i j d hi z=>by
   have:=w (i+1) (j+1) d (by simpa[Ca] using hi) (by simpa[Ca] using z);omega
  have t:∀i d,i<m→Ca R i=some d→Φ (k+1+i) (sl a' d) w':=fun i d aA hi=>by
   have:=x (i+1) d (by omega) (by simpa[Ca] using hi);rw[show k+1+i=k+(i+1) from by omega];exact this
  simp only[IU] at h;cases p:o.dst with
  |none=>
   rw[p] at h;refine JA q G w' a' c e f u m R (k+1) b st (by simpa using hm) l n h t fun s v=>g s fun i hi=>?_;cases i with
   |zero=>simp[Ca,p]
   |succ i=>simpa[Ca] using v i (by omega)
  |some d=>
   rw[p] at h;have h0:Ca (o::R) 0=some d:=by simp[Ca,p]
   refine JA q G w' a' c e f u m R (k+1) _ (st.cons (r 0 d h0) (sl a' d)) (by simpa using hm) l n (h _ (x 0 d (by omega) h0)) t fun s v=>?_;simp only[lk];cases y:Nat.beq d s with
   |true=>
    obtain rfl:d=s:=Nat.eq_of_beq_eq_true y;rfl
   |false=>
    refine g s fun i hi=>?_;cases i with
    |zero=>simp[Ca,p,Nat.ne_of_beq_eq_false y]
    |succ i=>simpa[Ca] using v i (by omega)
theorem Le:∀{m:Nat} {R:List Oper} {k:Nat},Jf P L a l S T Φ sp m k R→∀(i:Nat) (o:Oper),i<m→R[i]?=some o→F7 P L a l S T Φ sp (k+i) o
 |0,_,_,_,i,o,hi,_=>absurd hi (by omega)
 |_+1,[],_,_,i,o,_,b=>by simp at b
 |m+1,o'::R,k,h,i,o,hi,b=>by
  cases i with
  |zero=>
   obtain rfl:o'=o:=by simpa using b
   exact h.1
  |succ i=>
   have:=Le h.2 i o (by omega) (by simpa using b);rw[Nat.add_assoc,Nat.add_comm 1 i] at this;exact this
variable(P) in
theorem CS:Jf P L a l S T Φ sp 0 k R:=trivial
theorem Ab{m:Nat}(h:F7 P L a l S T Φ sp k o)(b:Jf P L a l S T Φ sp m (k+1) R):Jf P L a l S T Φ sp (m+1) k (o::R):=⟨h,b⟩
theorem JQ{x:Act}{d:Nat}{v:Value}(h:d<x.tmps.size):sl (x.put (some d) v) d=v:=by
 unfold sl Act.put;simp[h]
theorem Jg{x:Act}{d s:Nat}{v:Value}(h:d≠s):sl (x.put (some d) v) s=sl x s:=by
 unfold sl Act.put;simp[Array.getElem?_setIfInBounds_ne h]
theorem E0{listed:Array Bool}{i:Nat}(h:i<listed.size):(listed.setIfInBounds i true).getD i false=true:=by simp[h]
theorem Dc{listed:Array Bool}{i j:Nat}(h:i≠j):(listed.setIfInBounds i true).getD j false=listed.getD j false:=by
 simp[Array.getElem?_setIfInBounds_ne h]
inductive Lf (L:List Oper):Nat→Nat→Prop
 |one {i j:Nat} {o:Oper}:L[i]?=some o→DL o j=true→Lf L i j
 |step {i d j:Nat} {o:Oper}:L[i]?=some o→DL o d=true→Lf L d j→Lf L i j
theorem IV{L:List Oper}{p:Nat→Prop}(a:∀d o,L[d]?=some o→p d→∀k,DL o k=true→p k){i j:Nat}(h:Lf L i j):(∀o,L[i]?=some o→∀k,DL o k=true→p k)→p j:=by
 induction h with
 |one b c=>exact fun hi=>hi _ b _ c
 |step b c _ ih=>exact fun hi=>ih fun o' e k f=>a _ o' e (hi _ b _ c) k f
def MR (acc:List Nat) (m:Nat) (e:Edge):Nat:=if Region.binds .any e then m|||(2^e.on|||acc.getD e.on 0) else m
def Kj(acc:List Nat)(o:Oper):Nat:=o.after.toList.foldl (MR acc) 0
def K1:List Oper→List Nat→List Nat
 |[],acc=>acc
 |o::R,acc=>K1 R (acc++[Kj acc o])
def Ia (L:List Oper) (m:Nat):Bool:=(List.range L.length).all fun i=>Nat.blt i m||(List.range i).all fun j=>(match L[i]? with|some o=>DL o j|none=>false)||((K1 L []).getD i 0).testBit j
theorem MS{acc:List Nat}{o:Oper}{j:Nat}(h:(Kj acc o).testBit j=true):∃d,DL o d=true∧(d=j∨(acc.getD d 0).testBit j=true):=by
 have key:∀(es:List Edge) (m:Nat),(es.foldl (MR acc) m).testBit j=true→m.testBit j=true∨∃e∈es,Region.binds .any e=true∧(e.on=j∨(acc.getD e.on 0).testBit j=true):=by
  intro es
  induction es with
  |nil=>intro m h;exact .inl h
  |cons e es ih=>
   intro m h;rw[List.foldl_cons] at h;rcases ih _ h with a|⟨f,c,a⟩
   ·unfold MR at a;split at a
    ·rename_i b
     rw[Nat.testBit_or,Nat.testBit_or,Bool.or_eq_true,Bool.or_eq_true,Nat.testBit_two_pow,decide_eq_true_eq] at a;rcases a with a|a
     ·exact .inl a
     ·exact .inr ⟨e,List.mem_cons_self ..,b,a⟩
    ·exact .inl a
   ·exact .inr ⟨f,List.mem_cons_of_mem _ c,a⟩
 rcases key _ _ h with a|⟨e,he,b,a⟩
 ·simp at a
 ·exact⟨e.on,D0.2 ⟨e,by simpa using he,b,rfl⟩,a⟩
theorem Kk{L:List Oper}:∀(R:List Oper) (acc:List Nat),L.drop acc.length=R→(∀i j,(acc.getD i 0).testBit j=true→Lf L i j)→∀i j,((K1 R acc).getD i 0).testBit j=true→Lf L i j
 |[],acc,_,h=>h
 |o::R,acc,c,h=>by
  unfold K1;have e:L[acc.length]?=some o:=by
   have:(L.drop acc.length)[0]?=some o:=by rw[c];rfl
   simpa using this
  refine Kk R _ (by rw[List.length_append,List.length_singleton,←List.tail_drop,c];rfl) fun i j a=>?_;rcases Nat.lt_trichotomy i acc.length with hi|hi|hi
  ·rw[List.getD_eq_getElem?_getD,List.getElem?_append_left hi,←List.getD_eq_getElem?_getD] at a;exact h i j a
  ·subst hi;have:(acc++[Kj acc o]).getD acc.length 0=Kj acc o:=by simp
   rw[this] at a;obtain⟨d,f,b⟩:=MS a;rcases b with rfl|b
   ·exact .one e f
   ·exact .step e f (h d j b)
  ·have:(acc++[Kj acc o]).getD i 0=0:=by
    rw[List.getD_eq_getElem?_getD,List.getElem?_eq_none (by simp;omega)];rfl
   rw[this] at a;simp at a
theorem Iv{L:List Oper}{m:Nat}(h:Ia L m=true){i:Nat}{o:Oper}(b:L[i]?=some o)(hi:m≤i):∀j,j<i→Lf L i j:=by
 have c:i<L.length:=(List.getElem?_eq_some_iff.1 b).1;simp only[Ia,List.all_eq_true,List.mem_range] at h;have a:=h i c;rw[Bool.or_eq_true] at a;rcases a with a|a
 ·have:i<m:=by simpa[Nat.blt_eq] using a
  omega
 ·simp only[List.all_eq_true,List.mem_range,b,Bool.or_eq_true] at a;exact fun j d=>(a j d).elim (fun h=>.one b h) fun h=>Kk L [] rfl (fun i j e=>by simp at e) i j h
theorem Lg {m:Nat} (aO:Ia L m=true) (f:HQ 0 L=true):∀(rest:List Oper) (j fuel:Nat) (listed:Array Bool) (a':Act) (w':World),L.drop j=rest→m≤j→rest.length≤fuel→listed.size=L.length→(∀i,i<L.length→(listed.getD i false=true↔i<j))→
  wpListIn (Wd X.ro) 0 P L.toArray Q rest a' w'→wpAnyIn (Wd X.ro) 0 P .any L.toArray Q fuel listed a' w':=by
 intro rest
 induction rest with
 |nil=>
  intro j fuel listed a' w' l hm t q hl h;have y:L.length≤j:=List.drop_eq_nil_iff.1 l;have u:Region.ready .any L.toArray listed=[]:=by
   rw[List.eq_nil_iff_forall_not_mem];intro i hi;obtain⟨h0,o,n,_⟩:=mem_ready.1 hi;have r:i<L.length:=by simpa using(Array.getElem?_eq_some_iff.1 n).1
   have c:=(hl i r).2 (by omega);have g:i<listed.size:=by omega
   simp[g] at h0 c;rw[h0] at c;cases c
  cases fuel with
  |zero=>exact⟨u,h⟩
  |succ fuel=>exact⟨fun _=>h,fun i hi=>by rw[u] at hi;cases hi⟩
 |cons o rest ih=>
  intro j fuel listed a' w' l hm t q hl h;have y:j<L.length:=by
   rcases Nat.lt_or_ge j L.length with h|h
   ·exact h
   ·rw[List.drop_of_length_le h] at l;cases l
  have n:L[j]?=some o:=by
   have:(L.drop j)[0]?=some o:=by rw[l];rfl
   simpa using this
  have z:L.drop (j+1)=rest:=by rw[←List.tail_drop,l];rfl
  cases fuel with
  |zero=>simp at t
  |succ fuel=>
   refine⟨fun u=>?_,fun i hi=>?_⟩
   ·exfalso;have hm:j∈Region.ready .any L.toArray listed:=mem_ready.2 ⟨by
     have:listed.getD j false=false:=by
      cases aP:listed.getD j false with
      |false=>rfl
      |true=>have:=(hl j y).1 aP;omega
     have aH:j<listed.size:=by omega
     simp[aH] at this⊢;exact this,o,by simpa using n,fun e he b=>by
      rcases Nat.lt_or_ge e.on L.length with r|aI
      ·refine(hl e.on r).2 ?_;exact DH f j o n e he b|>fun h=>by omega
      ·have:=DH f j o n e he b;omega⟩
    rw[u] at hm;cases hm
   ·obtain⟨h0,o',aA,v⟩:=mem_ready.1 hi;have aJ:i<L.length:=by simpa using(Array.getElem?_eq_some_iff.1 aA).1
    have g:i<listed.size:=by omega
    have aB:listed.getD i false=false:=by simp[g] at h0⊢;exact h0
    have aI:j≤i:=by
     rcases Nat.lt_or_ge i j with c|c
     ·rw[(hl i aJ).2 c] at aB;cases aB
     ·exact c
    have aK:i=j:=by
     rcases Nat.lt_or_ge j i with c|c
     ·have s:L[i]?=some o':=by simpa using aA
      have:=IV (p:=fun x=>x<j) (fun d od aL aT k aG=>by
       obtain⟨e,he,b,aC⟩:=D0.1 aG;have:=DH f d od aL e he b;omega) (Iv aO s (by omega) j c) (fun aQ aD k aG=>by
       rw[s] at aD;obtain rfl:o'=aQ:=by simpa using aD
       obtain⟨e,he,b,aC⟩:=D0.1 aG;have aM:=v e he b;rw[aC] at aM;have aU:=DH f i o' s e he b;exact(hl k (by omega)).1 aM)
      omega
     ·omega
    subst aK;unfold wpOpIn;have aN:L.toArray[i]?=some o:=by simpa using n
    simp only[aN];unfold wpListIn at h;have aE:∀x,x<L.length→((listed.setIfInBounds i true).getD x false=true↔x<i+1):=by
     intro x aR
     by_cases aF:i=x
     ·subst aF;simp only[E0 g,true_iff];omega
     ·rw[Dc aF,hl x aR];omega
    split
    ·rename_i hw
     rw[if_pos hw] at h;exact Oper.wpIn_mono (fun a w aS=>ih (i+1) fuel _ a w z (by omega) (by simpa using t) (by simpa using q) aE aS) h
    ·rename_i hw
     rw[if_neg hw] at h;exact⟨h.1,ih (i+1) fuel _ _ _ z (by omega) (by simpa using t) (by simpa using q) aE h.2⟩
theorem NW{m:Nat}(bP:m≤L.length)(bH:Ia L m=true)(bL:(sp.all fun k=>Nat.blt k m)=true)(a2:∀k w w',Ext w w'→S k w w')(cC:∀k j v w w',j≠k→(∀o,L[j]?=some o→DL o k=false)→Φ j v w→S k w w'→Φ j v w')(D:Nat→List Nat)(cD:okD L sp D=true)(cE:∀k x w y w',T k x w→Ext w w'→(∀s,s∈D k→sl y s=sl x s)→T k y w')(aN:Jz N L sp=true)(bQ:St X N a l)
  (bR:Jf P L a l S T Φ sp m 0 L)(bM:∀w',IU X N a Φ (T sp.length) (fun bD=>WL P X N L.toArray Q (L.drop m) a bD w') w' m 0 L l):
  ∀(fuel:Nat) (listed:Array Bool) (a':Act) (w':World),listed.toList.count false≤fuel→Inv (X:=X) (N:=N) (L:=L) (a:=a) (l:=l) (T:=T) (Φ:=Φ) (sp:=sp) listed a' w'→(∀j,m≤j→listed.getD j false=false)→
   wpAnyIn (Wd X.ro) 0 P .any L.toArray Q fuel listed a' w':=by
 simp only[Jz,Bool.and_eq_true] at aN;obtain⟨⟨bI,bS⟩,bT⟩:=aN;obtain⟨bU,cM,cN,_⟩:=Je bT;have aF:=HK bS
 
 have fin:∀(fuel:Nat) (listed:Array Bool) (a':Act) (w':World),listed.toList.count false≤fuel→Inv (X:=X) (N:=N) (L:=L) (a:=a) (l:=l) (T:=T) (Φ:=Φ) (sp:=sp) listed a' w'→(∀j,m≤j→listed.getD j false=false)→(∀j,j<m→listed.getD j false=true)→wpAnyIn (Wd X.ro) 0 P .any L.toArray Q fuel listed a' w':=by
  intro fuel listed a' w' a3 b q aS;obtain⟨ph,aW,hle,aB⟩:=b.ph;have a4:ph=sp.length:=by
   rcases Nat.lt_or_ge ph sp.length with t|a5
   ·have bV:sp[ph]<m:=by
     have:=List.all_eq_true.1 bL sp[ph] (List.getElem_mem t);simpa[Nat.blt_eq] using this
    have bE:=(aB ph sp[ph] (List.getElem?_eq_getElem t)).1 (aS _ bV);omega
   ·omega
  subst a4;have bW:wpListIn (Wd X.ro) 0 P L.toArray Q (L.drop m) a' w':=by
   refine JA (T sp.length) (fun bD=>WL P X N L.toArray Q (L.drop m) a bD w') w' a' aW b.sz b.df (fun bD st cF e=>by rw[e];exact cF st) m L 0 l bQ bP (fun i d hi=>(aF i i d hi).1) (fun i j d hi g=>(aF i j d hi).2 g) (bM w') (fun i d a6 hi=>?_) (fun s u=>?_)
   ·rw[Nat.zero_add];exact b.done i d (aS i a6) hi
   ·refine b.out s fun j g=>?_;rcases Nat.lt_or_ge j m with h|h
    ·exact absurd g (u j h)
    ·exact q j h
  refine Lg bH bI (L.drop m) m fuel listed a' w' rfl (Nat.le_refl _) ?_ b.Ld (fun i hi=>?_) bW
  ·
   refine Nat.le_trans ?_ a3;have cO:listed.toList.length=L.length:=by simpa using b.Ld
   have e:listed.toList.drop m=List.replicate (L.length-m) false:=by
    apply List.ext_getElem
    ·simp[b.Ld]
    ·intro i aT bN;simp at aT;have:=q (m+i) (by omega);rw[Array.getD_eq_getD_getElem?,Array.getElem?_eq_getElem (by omega)] at this;simpa using this
   have bN:(listed.toList.drop m).count false≤listed.toList.count false:=(List.drop_sublist m listed.toList).count_le false;rw[e,List.count_replicate_self] at bN;simpa using bN
  ·rcases Nat.lt_or_ge i m with h|h
   ·simp[aS i h,h]
   ·simp only[q i h];constructor
    ·intro bX;cases bX
    ·intro bX;omega
 intro fuel
 induction fuel with
 |zero=>
  intro listed a' w' a3 b q;refine fin 0 listed a' w' a3 b q fun j g=>?_;have aP:j<listed.size:=by rw[b.Ld];omega
  cases aA:listed[j] with
  |true=>simp[aP,aA]
  |false=>
   have:false∈listed.toList:=by rw[←aA];simp
   have:=List.count_pos_iff.2 this;omega
 |succ fuel ih=>
  intro listed a' w' a3 b q
  by_cases aX:∀j,j<m→listed.getD j false=true
  ·exact fin (fuel+1) listed a' w' a3 b q aX
  have hex:∃j,j<m∧listed.getD j false=false:=by
   false_or_by_contra
   rename_i bY
   refine aX fun j g=>?_;cases aA:listed.getD j false with
   |true=>rfl
   |false=>exact absurd ⟨j,g,aA⟩ bY
  constructor
  ·intro aG;exfalso;obtain⟨j,g,aA⟩:=hex;refine absurd aA ?_;rw[Bool.not_eq_false];clear aA
   induction j using Nat.strongRecOn with
   |_ j bZ=>
    cases aA:listed.getD j false with
    |true=>rfl
    |false=>
     exfalso;have aP:j<listed.size:=by rw[b.Ld];omega
     have hm:j∈Region.ready .any L.toArray listed:=mem_ready.2 ⟨by simp[aP] at aA⊢;exact aA,L[j],by simp,fun e he c=>by
      have aT:=DH bI j L[j] (List.getElem?_eq_getElem (by omega)) e he c;exact bZ e.on (by omega) (by omega)⟩
     rw[aG] at hm;cases hm
  ·intro i hi;obtain⟨h0,o,b1,aE⟩:=mem_ready.1 hi;have aC:L[i]?=some o:=by simpa using b1
   have b2:i<L.length:=(List.getElem?_eq_some_iff.1 aC).1;have aL:i<listed.size:=by rw[b.Ld];exact b2
   have aD:listed.getD i false=false:=by simp[aL] at h0⊢;exact h0
   have a6:i<m:=by
    rcases Nat.lt_or_ge i m with h|h
    ·exact h
    ·obtain⟨j,g,aA⟩:=hex;have:=IV (p:=fun x=>listed.getD x false=true) (fun d od b3 aM k aN=>by
      obtain⟨e,he,c,n⟩:=D0.1 aN;have:=b.down d od b3 aM e he c
      rwa[n] at this) (Iv bH aC h j (by omega)) (fun cG bJ k aN=>by
      rw[aC] at bJ;obtain rfl:o=cG:=by simpa using bJ
      obtain⟨e,he,c,n⟩:=D0.1 aN;have:=aE e he c
      rwa[n] at this)
     rw[aA] at this;cases this
   obtain⟨ph,aW,hle,aB⟩:=b.ph;have aO:∀r,sp[r]?=some i→ph=r:=by
    intro r aU;have a5:¬r<ph:=fun t=>by
     have:=(aB r i aU).2 t;rw[aD] at this;cases this
    cases r with
    |zero=>omega
    |succ m=>
     have hm:m<sp.length:=by
      have:=(List.getElem?_eq_some_iff.1 aU).1;omega
     obtain⟨bO,aY,b4⟩:=bU m sp[m] i (List.getElem?_eq_getElem hm) aU;rw[aC] at aY;obtain rfl:o=bO:=by simpa using aY
     obtain⟨e,he,c,n⟩:=D0.1 b4;have:=aE e he c;rw[n] at this;have:=(aB m sp[m] (List.getElem?_eq_getElem hm)).1 this;omega
   have bF:F6 L a l T Φ sp i o a' w' ph:=by
    refine⟨fun s u=>b.out s fun j g=>?_,fun j d o' g aV aH=>?_,fun j d g aI=>?_,aW,aO,fun r j o' b5 g aH=>?_⟩
    rotate_left 3
    ·rcases Nat.lt_or_ge r ph with t|a5
     ·have aZ:=(aB r j b5).2 t;obtain⟨e,he,c,n⟩:=D0.1 aH;have:=b.down j o' g aZ e he c;rw[n,aD] at this;cases this
     ·exact a5
    ·have:=Jd.2 ⟨j,g⟩;rw[u] at this;cases this
    ·have b6:Ca L j=some d:=by simp[Ca,g,aV]
     refine b.out d fun cH aP=>?_;obtain rfl:=(aF j cH d b6).2 aP;cases aA:listed.getD j false with
     |false=>rfl
     |true=>
      obtain⟨e,he,c,n⟩:=D0.1 aH;have:=b.down j o' g aA e he c;rw[n,aD] at this;cases this
    ·obtain⟨e,he,c,n⟩:=D0.1 g;have:=aE e he c;rw[n] at this;exact b.done j d this aI
   
   have step:∀v Bm,Φ i v Bm→S i w' Bm→(∃aJ,T aJ (a'.put o.dst v) Bm∧aJ≤sp.length∧∀(r k:Nat),sp[r]?=some k→((listed.setIfInBounds i true).getD k false=true↔r<aJ))→
     wpAnyIn (Wd X.ro) 0 P .any L.toArray Q fuel (listed.setIfInBounds i true) (a'.put o.dst v) Bm:=by
    intro v Bm bG cI a4;have aM:Ca L i=o.dst:=by simp[Ca,aC]
    refine ih _ _ _ ?_ ?_ (fun j g=>by rw[Dc (by omega)];exact q j g)
    ·have t:i<listed.toList.length:=by simpa using aL
     have a7:listed.toList[i]=false:=by
      simp[aL] at aD;simpa using aD
     have b7:(listed.setIfInBounds i true).toList=listed.toList.set i true:=by simp
     rw[b7,List.count_set t,a7];have aT:0<listed.toList.count false:=List.count_pos_iff.2 (by rw[←a7];exact List.getElem_mem t);have cJ:(if (false==false)=true then 1 else 0)=1:=rfl;have cK:(if (true==false)=true then 1 else 0)=0:=rfl;rw[cJ,cK];omega
    ·have a8:∀s,(∀d,o.dst=some d→d≠s)→sl (a'.put o.dst v) s=sl a' s:=by
      intro s u;cases aV:o.dst with
      |none=>rfl
      |some d=>exact Jg (u d aV)
     refine⟨by simp[b.Ld],?_,?_,?_,?_,?_,a4⟩
     ·cases o.dst<;>simp[Act.put,b.sz]
     ·cases o.dst<;>simp[Act.put,b.df]
     ·intro s u;rw[a8 s (fun d aV a9=>by
       subst a9;have:=u i (by rw[aM,aV]);rw[E0 aL] at this;cases this)]
      refine b.out s fun j g=>?_;have:=u j g
      by_cases z:i=j
      ·subst z;exact aD
      ·rwa[Dc z] at this
     ·intro j d g aI
      by_cases z:i=j
      ·subst z;rw[aM] at aI;have t:d<a'.tmps.size:=by rw[b.sz];exact(aF i i d (by rw[aM,aI])).1
       rw[aI,JQ t];exact bG
      ·rw[Dc z] at g;have aT:=cC i j _ _ _ (Ne.symm z) (fun bA b8=>by
        cases bB:DL bA i with
        |false=>rfl
        |true=>
         obtain⟨e,he,c,n⟩:=D0.1 bB;have:=b.down j bA b8 g e he c;rw[n,aD] at this;cases this) (b.done j d g aI) cI
       have:sl (a'.put o.dst v) d=sl a' d:=by
        refine a8 d fun cL b9 bB=>?_;subst bB;exact z ((aF i j cL (by rw[aM,b9])).2 aI)
       rw[this];exact aT
     ·intro j bA g aZ e he c
      by_cases bK:i=e.on
      ·rw[←bK];exact E0 aL
      ·rw[Dc bK]
       by_cases z:i=j
       ·subst z;rw[aC] at g;obtain rfl:o=bA:=by simpa using g
        exact aE e he c
       ·rw[Dc z] at aZ;exact b.down j bA g aZ e he c
   have bC:∀v Bm,Ext w' Bm→i∉sp→∃aJ,T aJ (a'.put o.dst v) Bm∧aJ≤sp.length∧∀(r k:Nat),sp[r]?=some k→((listed.setIfInBounds i true).getD k false=true↔r<aJ):=by
    intro v Bm bE aQ;refine⟨ph,cE _ _ _ _ _ aW bE (fun s u=>?_),hle,fun r k aK=>?_⟩
    ·cases aV:o.dst with
     |none=>rfl
     |some d=>
      refine Jg fun a9=>?_;subst a9;obtain⟨m,k,hm,aN,cA⟩:=NV cD hle u (i:=i) (by simp[Ca,aC,aV]);have cB:=(aB m k aN).2 hm;rcases cA with rfl|⟨bO,aY,aH⟩
      ·exact aQ (List.mem_of_getElem? aN)
      ·obtain⟨e,he,c,n⟩:=D0.1 aH;have:=b.down k bO aY cB e he c;rw[n,aD] at this;cases this
    rw[Dc (fun aR=>aQ (by rw[aR];exact List.mem_of_getElem? aK))];exact aB r k aK
   unfold wpOpIn;simp only[b1];rcases Le bR i o a6 aC a' w' ph (by rw[Nat.zero_add];exact bF) with⟨hw,bE⟩|⟨hw,hu,aQ⟩
   ·rw[if_pos hw];refine(bE.wp fun v Bm aG=>?_);rw[Nat.zero_add] at aG;obtain⟨bG,aG⟩:=aG
    by_cases u:i∈sp
    ·rw[if_pos u] at aG;refine step v Bm bG aG.1 ⟨ph+1,aG.2,?_,fun r k aK=>?_⟩
     ·obtain⟨m,hm,a0⟩:=List.mem_iff_getElem.1 u;have:=aO m (by rw[List.getElem?_eq_getElem hm,a0]);omega
     ·by_cases aR:i=k
      ·subst aR;have:=aO r aK;simp only[E0 aL,true_iff];omega
      ·rw[Dc aR,aB r k aK];have cP:r≠ph:=by
        intro e;obtain⟨m,hm,a0⟩:=List.mem_iff_getElem.1 u;have aT:=aO m (by rw[List.getElem?_eq_getElem hm,a0]);rw[e,aT,List.getElem?_eq_getElem hm,a0] at aK;exact aR (by simpa using aK)
       omega
    ·rw[if_neg u] at aG;exact step v Bm bG (a2 _ _ _ aG) (bC v Bm aG u)
   ·rw[if_neg (by rw[hw];simp)];rw[Nat.zero_add] at hu aQ;exact⟨fun f _=>KZ X.ro f,step undef w' hu (a2 _ _ _ (Ext.refl _)) (bC undef w' (Ext.refl _) aQ)⟩
structure JR (S:World→World→Prop) where
 p:Value→World→Prop
 st:∀v w w',p v w→S w w'→p v w'
def Kc {S:World→World→Prop} (c:Value):JR S:=⟨fun v _=>v=c,fun _ _ _ h _=>h⟩
def Kt{S:World→World→Prop}:JR S:=⟨fun _ _=>True,fun _ _ _ h _=>h⟩
def IW{S:World→World→Prop}(a:List (JR S))(j:Nat):Value→World→Prop:=(a.getD j Kt).p
theorem CA(w:World):Ext w w.drew:=⟨rfl,rfl,rfl,Nat.le_refl _,fun _ _ _=>rfl⟩
theorem Mj(L:List Oper)(sp:List Nat):okD L sp (fun _=>[])=true:=by simp[okD]
def Lh (L:List Oper) (k:Nat) (w w':World):Nat→List (JR Ext)→Prop
 |_,[]=>True
 |i,x::xs=>(i≠k→(∀o,L[i]?=some o→DL o k=false)→∀v,x.p v w→x.p v w')∧Lh L k w w' (i+1) xs
def Oq(L:List Oper)(a:List (JR Ext))(k:Nat)(w w':World):Prop:=∀j,j≠k→(∀o,L[j]?=some o→DL o k=false)→∀v,IW a j v w→IW a j v w'
theorem P7{a:List (JR Ext)}{k:Nat}{w w':World}(h:Lh L k w w' 0 a):Oq L a k w w':=by
 have key:∀(a:List (JR Ext)) (i:Nat),Lh L k w w' i a→∀j,i+j≠k→(∀o,L[i+j]?=some o→DL o k=false)→∀v,(a.getD j Kt).p v w→(a.getD j Kt).p v w':=by
  intro a
  induction a with
  |nil=>intro i _ j _ _ v h;simpa[Kt] using h
  |cons x xs ih=>
   intro i h j d b v c;cases j with
   |zero=>exact h.1 d b v c
   |succ j=>exact ih (i+1) h.2 j (by omega) (by rw[show i+1+j=i+(j+1) by omega];exact b) v c
 exact fun j d b v c=>key a 0 h j (by omega) (by rw[Nat.zero_add];exact b) v c
theorem Mk {id:Nat} (m:Nat) (T:Nat→Act→World→Prop) (D:Nat→List Nat) (sp:List Nat) (c:List (JR Ext)) (hm:P.follows .mixedOrders=true) (u:Jz N L sp=true) (b:(Nat.ble m L.length&&Ia L m&&(sp.all fun k=>Nat.blt k m))=true)
  (z:okD L sp D=true) (aA:∀k x w y w',T k x w→Ext w w'→(∀s,s∈D k→sl y s=sl x s)→T k y w') (q:St X N a l→T 0 (BX a l) w.drew)
  (r:Jf P L a l (Oq L c) T (IW c) sp m 0 L) (n:∀w',IU X N a (IW c) (T sp.length) (fun aB=>WL P X N L.toArray Q (L.drop m) a aB w') w' m 0 L l):CC P X N (.region id L.toArray true) Q a l w:=fun st=>
 wpIn_region_any hm (by
  simp only[Bool.and_eq_true] at b;have aC:Inv (X:=X) (N:=N) (L:=L) (a:=a) (l:=l) (T:=T) (Φ:=IW c) (sp:=sp) (Array.replicate L.length false) (BX a l) w.drew:=by
   have p:∀j,(Array.replicate L.length false).getD j false=false:=by
    intro j;rw[Array.getD_eq_getD_getElem?];rcases Nat.lt_or_ge j L.length with h|h
    ·simp[h]
    ·simp[h]
   refine⟨by simp,by rw[HO,st.sz],by rw[Dd,st.df],fun s _=>H6 st s,fun j d h=>?_,fun j o _ h=>?_,⟨0,q st,Nat.zero_le _,fun i k _=>?_⟩⟩
   ·rw[p j] at h;cases h
   ·rw[p j] at h;cases h
   ·rw[p k];simp
  have f:=NW (m:=m) (by simpa[Nat.ble_eq] using b.1.1) b.1.2 b.2 (S:=Oq L c) (fun _ w w' g j _ _ v=>fun h=>(c.getD j Kt).st v w w' h g) (fun k j v w w' t aD h aE=>aE j t aD v h) D z aA u st r n L.length (Array.replicate L.length false) (BX a l) w.drew (by
   refine Nat.le_trans (List.count_le_length ..) (by simp)) aC (fun j _=>by
    rw[Array.getD_eq_getD_getElem?];rcases Nat.lt_or_ge j L.length with h|h
    ·simp[h]
    ·simp[h])
  have e:L.toArray.size=L.length:=by simp
  rw[e];exact f)
theorem CY {id:Nat} (m:Nat) (b:List (JR Ext)) (hm:P.follows .mixedOrders=true) (f:Jz N L []=true) (d:(Nat.ble m L.length&&Ia L m&&true)=true)
  (e:Jf P L a l (Oq L b) (fun _ _ w'=>Ext w w') (IW b) [] m 0 L) (c:∀w',IU X N a (IW b) (fun _ w'=>Ext w w') (fun i=>WL P X N L.toArray Q (L.drop m) a i w') w' m 0 L l):CC P X N (.region id L.toArray true) Q a l w:=
 Mk m (fun _ _ w'=>Ext w w') (fun _=>[]) [] b hm f d (Mj L []) (fun _ _ _ _ _ h g _=>Ext.trans h g) (fun _=>CA w) e c
theorem Ib{k:Nat}{o:Oper}(c:o.guard=none)(d:sp.contains k=false)(h:∀a' w' ph,F6 L a l T Φ sp k o a' w' ph→B2 P o a' w' (fun v Bm=>Φ k v Bm∧Ext w' Bm)):F7 P L a l S T Φ sp k o:=fun a' w' ph hK=>
 .inl ⟨by unfold Region.wanted;rw[c],(h a' w' ph hK).mono fun v Bm b=>⟨b.1,by
  have:k∉sp:=by simpa using d
  rw[if_neg this];exact b.2⟩⟩
theorem P8{k:Nat}{o:Oper}{c:Value}(b:o.guard=none)(d:sp.contains k=false)(e:∀w,Φ k c w)(h:∀a' w' ph,F6 L a l T Φ sp k o a' w' ph→B2 P o a' w' (fun u Bm=>u=c∧Bm=w')):F7 P L a l S T Φ sp k o:=
 Ib b d fun a' w' ph hK=>(h a' w' ph hK).mono (by rintro _ _ ⟨rfl,rfl⟩;exact⟨e _,Ext.refl _⟩)
theorem OI{k:Nat}{o:Oper}(c:o.guard=none)(d:sp.contains k=true)(h:∀a' w' ph,F6 L a l T Φ sp k o a' w' ph→B2 P o a' w' (fun v Bm=>Φ k v Bm∧S k w' Bm∧T (ph+1) (a'.put o.dst v) Bm)):F7 P L a l S T Φ sp k o:=fun a' w' ph hK=>
 .inl ⟨by unfold Region.wanted;rw[c],(h a' w' ph hK).mono fun v Bm b=>⟨b.1,by
  have:k∈sp:=by simpa using d
  rw[if_pos this];exact b.2⟩⟩
theorem JS{a':Act}{j d:Nat}{b:Bool}(c:Ca L j=some d)(a:sl a' d=.bool b):yielded L.toArray a'.tmps j=some b:=by
 unfold yielded;unfold Ca at c;have e:((L.toArray)[j]?).bind (·.dst)=some d:=by simpa using c
 simp only[e,Option.bind_some];unfold sl at a;rw[Array.getD_eq_getD_getElem?] at a;cases f:a'.tmps[d]? with
 |none=>rw[f] at a;simp[undef] at a
 |some u=>rw[f] at a;simp at a;rw[a]
theorem CF{k j d:Nat}{o:Oper}{b:Bool}(e:o.guard=some (j,b))(f:Ca L j=some d)(g:sp.contains k=false)(i:∀a' w' ph,F6 L a l T Φ sp k o a' w' ph→sl a' d=.bool b)
  (h:∀a' w' ph,F6 L a l T Φ sp k o a' w' ph→B2 P o a' w' (fun v Bm=>Φ k v Bm∧Ext w' Bm)):F7 P L a l S T Φ sp k o:=fun a' w' ph hK=>
 .inl ⟨by unfold Region.wanted;rw[e];simp[JS f (i a' w' ph hK)],(h a' w' ph hK).mono fun v Bm c=>⟨c.1,by
  have:k∉sp:=by simpa using g
  rw[if_neg this];exact c.2⟩⟩
theorem Df{k j d:Nat}{o:Oper}{b:Bool}{c:Value}(e:o.guard=some (j,b))(f:Ca L j=some d)(g:sp.contains k=false)(i:∀w,Φ k c w)(m:∀a' w' ph,F6 L a l T Φ sp k o a' w' ph→sl a' d=.bool b)
  (h:∀a' w' ph,F6 L a l T Φ sp k o a' w' ph→B2 P o a' w' (fun u Bm=>u=c∧Bm=w')):F7 P L a l S T Φ sp k o:=
 CF e f g m fun a' w' ph hK=>(h a' w' ph hK).mono (by rintro _ _ ⟨rfl,rfl⟩;exact⟨i _,Ext.refl _⟩)
theorem OJ{k j d:Nat}{o:Oper}{b c:Bool}(e:o.guard=some (j,b))(f:Ca L j=some d)(g:sp.contains k=false)(h:c≠b)(i:∀a' w' ph,F6 L a l T Φ sp k o a' w' ph→sl a' d=.bool c)(m:∀w,Φ k undef w):F7 P L a l S T Φ sp k o:=fun a' w' ph hK=>
 .inr ⟨by unfold Region.wanted;rw[e];simp[JS f (i a' w' ph hK),h],m _,by simpa using g⟩
end
def T2 (w:World) (r:Nat) (M:World→Prop):Nat→World→Prop
 |0,w'=>Ext w w'
 |_+1,w'=>G4 r w w'∧M w'
theorem MT{a b:World}{r:Nat}(h:Ext a b):G4 r a b:=⟨h.os,h.tape,h.output,h.size,fun k c _=>h.block k c (by simp)⟩
theorem Li{w w':World}{r ph:Nat}{M:World→Prop}(h:T2 w r M ph w'):G4 r w w':=by
 cases ph with
 |zero=>exact MT h
 |succ=>exact h.1
theorem Bk.t2{w w':World}{r ph b:Nat}{t:TypeId}{cs:Array Value}{M:World→Prop}(h:Bk w b t cs)(g:T2 w r M ph w')(a:b≠r):Bk w' b t cs:=h.K9 (Li g) a
theorem Rd.t2{w w':World}{r ph lo hi:Nat}{A:Option Addr}{cs:List Value}{M:World→Prop}(h:Rd w lo hi A cs)(g:T2 w r M ph w')(a:r<lo∨hi≤r):Rd w' lo hi A cs:=h.K9 (Li g) a
abbrev I(n:Int):Value:=.int .i64 n
abbrev pt(b o:Nat):Value:=.pointer (some ⟨b,o,none⟩)
section
variable{P:Program}{X:Ctx}{N:Nat}{ops:Array Oper}{Q:Exit→Act→World→Prop}{rest:List Oper}{a:Act}{l:Env}{w:World}{op:Op}{ty:TypeId}{pos:String}{BY:Array Edge}{d:Nat}
theorem wd{v:Value}{w':World}(b:Nat.blt d N=true)(c:St X N a l→B2 P ⟨some d,op,ty,pos,BY,none⟩ (BX a l) w (fun u Bm=>u=v∧Bm=w'))(e:WL P X N ops Q rest a ((d,v)::l) w'):WL P X N ops Q (⟨some d,op,ty,pos,BY,none⟩::rest) a l w:=
 P3 rfl rfl (by simpa[Nat.blt_eq] using b) c e
theorem wm{x:Operand}{v:Value}(b:Nat.blt d N=true)(c:ev a l x=v)(e:WL P X N ops Q rest a ((d,v)::l) w):WL P X N ops Q (⟨some d,.move x,ty,pos,BY,none⟩::rest) a l w:=
 wd b (fun st=>AV (ee st c)) e
theorem wa{x:Operand}{v:Value}(b:Nat.blt d N=true)(c:ev a l x=v)(e:WL P X N ops Q rest a ((d,v)::l) w):WL P X N ops Q (⟨some d,.assign x,ty,pos,BY,none⟩::rest) a l w:=
 wd b (fun st=>H9 (ee st c)) e
theorem we{R:Value→World→Prop}(b:Nat.blt d N=true)(c:St X N a l→B2 P ⟨some d,op,ty,pos,BY,none⟩ (BX a l) w R)(e:∀v w',R v w'→WL P X N ops Q rest a ((d,v)::l) w'):WL P X N ops Q (⟨some d,op,ty,pos,BY,none⟩::rest) a l w:=
 Om rfl rfl (by simpa[Nat.blt_eq] using b) c e
end
section
variable{P:Program}{a:Act}{w:World}{dst:Option Tmp}{ty:TypeId}{pos:String}{BY:Array Edge}{g:Option (Nat×Bool)}
theorem OK{f:Operand}{xs:Array Operand}{b:Array TypeId}{l:Nat}{vs:Array Value}{R:Value→World→Prop}(c:a.eval f=.func (.yield l) #[] #[])(d:xs.map a.eval=vs)
  (h:YieldAt Fence.wide 0 P l vs w (fun e w'=>∃v,e=.returned v∧R v w')):B2 P ⟨dst,.call {callee:=.value f,args:=xs,argTypes:=b},ty,pos,BY,g⟩ a w R:=by
 obtain⟨fn,tmps,assign,body,i,k⟩:=h;have m:(execOp a.eval ⟨dst,.call {callee:=.value f,args:=xs,argTypes:=b},ty,pos,BY,g⟩).run P w=.ok (.round l fn tmps assign body) w:=by
  simp only[execOp,resolve,c,d,Deferred.ofValue];simp only[Sem.run_bind,Sem.run_pure,Result.andThen_ok,invoke];simpa using i
 unfold B2;rw[m];exact k
end
theorem Eh{w w':World}{k:Nat}{o:Obj}(h:w.heap[k]?=some o)(g:Ext w w'):w'.heap[k]?=some o:=(g.block k (Array.getElem?_eq_some_iff.1 h).1 (by simp)).trans h
def mark(D:Nat):List Deferred:=[{target:=.collected D,args:= #[]}]
abbrev X1(D:Nat):Ctx:=⟨none,mark D⟩
abbrev XR(r:Nat):Ctx:=⟨some r,[]⟩
def Ic(a:Act)(D:Nat):Act:={a with defers:=mark D}
theorem KR(a:Act)(D:Nat):∀l:Env,BX (Ic a D) l=Ic (BX a l) D
 |[]=>rfl
 |(d,v)::l=>by simp only[BX,KR a D l];rfl
theorem St.Ic{N:Nat}{a:Act}{l:Env}(s:St X0 N a l)(D:Nat):St (X1 D) N (Ic a D) l:=⟨s.sz,rfl,s.lt⟩
theorem St.inr{N:Nat}{a:Act}{l:Env}(s:St X0 N a l)(r:Nat):St (XR r) N a l:=⟨s.sz,s.df,s.lt⟩
theorem GV(w:World)(r:Nat)(o:Obj):G4 r w (w.putObj r o):=
 ⟨rfl,rfl,rfl,by simp,fun k _ a=>World.putObj_heap_other (fun e=>a (by rw[e]))⟩
section
variable{P:Program}{N:Nat}{Q:Exit→Act→World→Prop}{a:Act}{l:Env}{w:World}
def Kl(a:Act)(l:Env)(fn:FuncId)(ps:Array Nat)(assign body:Code)(D:Nat):Loop:=
 {state:=.ready,pending:=none,fn,tmps:=(BX a l).tmps,params:=ps,assign,body,defers:=D}
structure Lj(lp:Loop)(a:Act)(l:Env)(qs:Array Nat)(assign body:Code):Prop where
 st:lp.state=.ready
 pe:lp.pending=none
 tm:lp.tmps=(BX a l).tmps
 ps:lp.params=qs
 Q8:lp.assign=assign
 bo:lp.body=body
theorem NX{g:Operand}{p:Array Nat}{assign body:Code}{b:FuncId}{cap:Array Value}(t:Bg P b)(u:ev a l g=.func (.func b) #[] cap)
  (h:St X0 N a l→∀(lp:Loop) (w1:World),Lj lp a l p assign body→Ext w w1→w1.heap.size=w.heap.size+2→w1.heap[w.heap.size]?=some (.deferred (some []))→w1.heap[w.heap.size+1]?=some (.loop lp)→
   BI P b (#[.func (.yield (w.heap.size+1)) #[] #[]]++cap) w1 (fun _ f=>∃r,f.heap[w.heap.size+1]?=some (.loop r)∧r.state≠.busy∧
    (r.pending=none→∀d,G4 (w.heap.size+1) f d→LV (X1 w.heap.size) N Q .normal (Ic a w.heap.size) l d)∧
    (∀c,r.pending=some c→∀d,G4 (w.heap.size+1) f d→CC P (X1 w.heap.size) N c Q (Ic a w.heap.size) l d))):
  CC P X0 N (.rangeFunc g p assign body) Q a l w:=fun s=>by
 refine wpIn_rangeFunc (F:=Fence.wide) fun fn _=>?_;have k:(BX a l).eval g=.func (.func b) #[] cap:=ee s u
 let w1:=(w.alloc (.deferred (some []))).alloc (.loop (Kl a l fn p assign body w.heap.size))
 have x:Ext w w1:=Ext.trans (World.grownBy_alloc w _ _) (World.grownBy_alloc _ _ _);have m:w1.heap.size=w.heap.size+2:=by simp[w1]
 have y:w1.heap[w.heap.size]?=some (.deferred (some [])):=by
  have z:(w.alloc (.deferred (some []))).heap[w.heap.size]?=some (.deferred (some [])):=World.alloc_heap_new w _;exact(Below.heap_alloc _ _ _ (by simp)).trans z
 have n:w1.heap[w.heap.size+1]?=some (.loop (Kl a l fn p assign body w.heap.size)):=by
  have:=World.alloc_heap_new (w.alloc (.deferred (some []))) (.loop (Kl a l fn p assign body w.heap.size));simpa[w1] using this
 have i:=h s (Kl a l fn p assign body w.heap.size) w1 ⟨rfl,rfl,rfl,rfl,rfl,rfl⟩ x m y n;refine⟨w.heap.size+1,mark w.heap.size,w1,⟨.fn (.func b) cap, #[]++ #[.func (.yield (w.heap.size+1)) #[] #[]]⟩,w1,b, #[.func (.yield (w.heap.size+1)) #[] #[]]++cap,w1,run_enterLoop_outer fn _ _ _ _,?_,fun _ _=>trivial,?_,NR none,?_⟩
 ·have aA:(#[Operand.const (.func (.yield (w.heap.size+1)) #[] #[])]).map (BX a l).eval= #[.func (.yield (w.heap.size+1)) #[] #[]]:=BR rfl;simp only[resolve,k,Deferred.ofValue,aA];simp only[Sem.run_bind,Sem.run_pure,Result.andThen_ok]
 ·simp[invoke,Jb t]
 ·have aB:CallsIn Fence.wide (0-1) P b (#[.func (.yield (w.heap.size+1)) #[] #[]]++cap) w1 _:=callsIn_wide.2 i;refine aB.mono ?_;rintro e f ⟨v,rfl,r,aC,aD,aE,aF⟩;refine⟨r.pending,_,run_endLoop aC aD,?_⟩;have o:mark w.heap.size++(BX a l).defers=mark w.heap.size:=by rw[Dd,s.df];rfl
  have he:({BX a l with defers:=mark w.heap.size++(BX a l).defers}:Act)=BX (Ic a w.heap.size) l:=by rw[KR,o];rfl
  cases q:r.pending with
  |none=>simp only[];rw[he];exact aE q _ (GV _ _ _) (s.Ic _)
  |some c=>simp only[];rw[he];exact aF c q _ (GV _ _ _) (s.Ic _)
theorem NY {r:Nat} {lp:Loop} {p:Nat} {assign body:Code} {v:Value} {R:Value→World→Prop} (s:St X0 N a l) (f:w.heap[r]?=some (.loop lp)) (b:Lj lp a l #[p] assign body)
  (h:CC P (XR r) N assign (Exit.then (fun g i=>∃c,(Instr.beginRound r).run P i=.ok () c∧CW P (XR r).ro body (roundPost P r (fun e w'=>∃v,e=.returned v∧R v w')) g c) (fun _ _ _=>False)) a ((p,v)::l) w) (d:p<N):
  YieldAt Fence.wide 0 P r #[v] w (fun e w'=>∃v,e=.returned v∧R v w'):=by
 refine⟨_,_,_,_,run_yield f (by rw[b.ps];rfl),?_⟩;have k:((lp.params.zip #[v]).foldl (fun tmps (t,a)=>tmps.setIfInBounds t a) lp.tmps)=(BX a ((p,v)::l)).tmps:=by
  rw[b.ps,b.tm];simp[BX,Act.put]
 rw[k,b.Q8,b.bo];refine roundIn_of_wpIn trivial ?_;have m:=h ((s.inr r).cons d v);have n:({tmps:=(BX a ((p,v)::l)).tmps,defers:=[]}:Act)=BX a ((p,v)::l):=by
  have:(BX a ((p,v)::l)).defers=[]:=by rw[Dd];exact s.df
  rw[←this]
 rw[n];exact m
theorem Jh{r:Nat}{lp:Loop}{p q:Nat}{assign body:Code}{v u:Value}{R:Value→World→Prop}(s:St X0 N a l)(g:w.heap[r]?=some (.loop lp))(b:Lj lp a l #[p,q] assign body)
  (h:CC P (XR r) N assign (Exit.then (fun i k=>∃c,(Instr.beginRound r).run P k=.ok () c∧CW P (XR r).ro body (roundPost P r (fun e w'=>∃v,e=.returned v∧R v w')) i c) (fun _ _ _=>False)) a ((q,u)::(p,v)::l) w)(d:p<N)(f:q<N):
  YieldAt Fence.wide 0 P r #[v,u] w (fun e w'=>∃v,e=.returned v∧R v w'):=by
 refine⟨_,_,_,_,run_yield g (by rw[b.ps];rfl),?_⟩;have m:((lp.params.zip #[v,u]).foldl (fun tmps (t,a)=>tmps.setIfInBounds t a) lp.tmps)=(BX a ((q,u)::(p,v)::l)).tmps:=by
  rw[b.ps,b.tm];simp[BX,Act.put]
 rw[m,b.Q8,b.bo];refine roundIn_of_wpIn trivial ?_;have n:=h (((s.inr r).cons d v).cons f u);have o:({tmps:=(BX a ((q,u)::(p,v)::l)).tmps,defers:=[]}:Act)=BX a ((q,u)::(p,v)::l):=by
  have:(BX a ((q,u)::(p,v)::l)).defers=[]:=by rw[Dd];exact s.df
  rw[←this]
 rw[o];exact n
theorem IX{r:Nat}{lp:Loop}{body:Code}{R:Ending→World→Prop}(b:w.heap[r]?=some (.loop lp))(d:lp.state=.ready)
  (h:∀w',G4 r w w'→w'.heap[r]?=some (.loop {lp with state:=.busy})→CC P (XR r) N body (roundPost P r R) a l w'):
  LV (XR r) N (Exit.then (fun e f=>∃c,(Instr.beginRound r).run P f=.ok () c∧CW P (XR r).ro body (roundPost P r R) e c) (fun _ _ _=>False)) .normal a l w:=fun s=>
 ⟨_,run_beginRound b d,h _ (GV _ _ _) (World.putObj_heap_same (Array.getElem?_eq_some_iff.1 b).1) s⟩
theorem HB{r:Nat}{lp:Loop}{R:Value→World→Prop}(b:w.heap[r]?=some (.loop lp))(h:∀w',G4 r w w'→w'.heap[r]?=some (.loop {lp with state:=.ready,pending:=none})→R (.bool true) w'):
  LV (XR r) N (roundPost P r (fun e w'=>∃v,e=.returned v∧R v w')) .normal a l w:=fun _=>⟨_,_,run_endRound none b,_,rfl,h _ (GV _ _ _) (World.putObj_heap_same (Array.getElem?_eq_some_iff.1 b).1)⟩
theorem JT{r:Nat}{lp:Loop}{R:Value→World→Prop}(b:w.heap[r]?=some (.loop lp))(h:∀w',G4 r w w'→w'.heap[r]?=some (.loop {lp with state:=.done,pending:=some .ret})→R (.bool false) w'):
  LV (XR r) N (roundPost P r (fun e w'=>∃v,e=.returned v∧R v w')) .ret a l w:=fun _=>⟨_,_,run_endRound (some .ret) b,_,rfl,h _ (GV _ _ _) (World.putObj_heap_same (Array.getElem?_eq_some_iff.1 b).1)⟩
def PM (P:Program) (fn:Func) (R:Value→World→Prop):Exit→Act→World→Prop:=bodyPostM Fence.wide 0 P fn (fun e w'=>∃v,e=.returned v∧R v w')
theorem H0{f:FuncId}{fn:Func}{c:Code}{args:Array Value}{N:Nat}{R:Value→World→Prop}(b:P.funcs[f]?=some fn)(d:fn.body=some c)(e:fn.ntmps=N)(i:args.size≤N)
  (h:∀a:Act,a.tmps=args++Array.replicate (N-args.size) undef→a.defers=[]→CC P X0 N c (PM P fn R) a [] w):BI P f args w R:=by
 refine callsIn_wide.1 (callsIn_of_wp_marks (n:=0) b d trivial ?_);rw[e];exact h {tmps:=args++Array.replicate (N-args.size) undef,defers:=[]} rfl rfl ⟨by simp;omega,rfl,fun _ g=>by cases g⟩
theorem QX {fn:Func} {R:Value→World→Prop} (h:LV X0 N (bodyPost P fn (fun e w'=>∃v,e=.returned v∧R v w')) .ret a l w):LV X0 N (PM P fn R) .ret a l w:=fun s=>by
 obtain⟨b,v,c,d⟩:=h s;show LeavesInM Fence.wide 0 P fn _ _ (BX a l).defers .returning w;rw[b];exact⟨v,c,d⟩
end
section
variable{P:Program}{X:Ctx}{N:Nat}{Q:Exit→Act→World→Prop}{a:Act}{l:Env}{w:World}
theorem NZ{c:Code}(h:CC P X0 N c (Exit.noGoto Q) a l w):CC P X0 N (.scope c) Q a l w:=fun s=>wpIn_wide.2 (wp_scope_straight (wpIn_wide.1 (h s)))
theorem N0{k:Nat}(h:LV X N Q .normal a l w):CC P X N (.label k) Q a l w:=fun s=>wpIn_label (h s)
theorem M8(h:LV X N Q .ret a l w):LV X N (Exit.noGoto Q) .ret a l w:=h
end
theorem HC{lp:Loop}{a:Act}{l:Env}{p:Array Nat}{assign body:Code}(h:Lj lp a l p assign body):({{lp with state:=.busy} with state:=.ready,pending:=none}:Loop)=lp:=by
 obtain⟨b,c,_⟩:=h;cases lp;simp only at b c;subst b;subst c;rfl
section
variable{P:Program}{N:Nat}{Q:Exit→Act→World→Prop}{a:Act}{l:Env}{w:World}
theorem Ir {g:Operand} {p:Array Nat} {assign body:Code} {d:FuncId} {cap:Array Value} (i:Bg P d) (k:ev a l g=.func (.func d) #[] cap)
  (h:St X0 N a l→∀(lp:Loop) (w1:World) (D lo:Nat),Lj lp a l p assign body→Ext w w1→w.heap.size≤D→D<w1.heap.size→w.heap.size≤lo→lo<w1.heap.size→lo≠D→w1.heap[D]?=some (.deferred (some []))→w1.heap[lo]?=some (.loop lp)→
   BI P d (#[.func (.yield lo) #[] #[]]++cap) w1 (fun _ e=>∃r,e.heap[lo]?=some (.loop r)∧r.state≠.busy∧
    (r.pending=none→∀b,G4 lo e b→LV (X1 D) N Q .normal (Ic a D) l b)∧
    (∀c,r.pending=some c→∀b,G4 lo e b→CC P (X1 D) N c Q (Ic a D) l b))):
  CC P X0 N (.rangeFunc g p assign body) Q a l w:=
 NX i k fun s lp w1 f m o n hl=>h s lp w1 w.heap.size (w.heap.size+1) f m (Nat.le_refl _) (by omega) (by omega) (by omega) (by omega) n hl
end
end Go.Proofs.YtcdofnchafcfpaaGreat
end
section
namespace Go.Proofs.YtcdofnchafcfpaaGreat
open Go.RowKit Go.WideShapes
section
variable{P:Program}{w:World}
theorem Ie{e:TypeId}(he:One P e)(x:List Int)(i:Nat)(hi:i<x.length):(part e (GB x).toArray i).run P w=.ok (.int .i64 (x.getD i 0)) w:=by
 have:(GB x).toArray[i]?=some (.int .i64 (x.getD i 0)):=NT x i hi;simp only[part,Sem.run_bind,JO he,Result.andThen_ok,this];rfl
theorem JU{e:TypeId}(hu:P.underlying e=some (.int .i64))(d:Nat)(a b:Int):(Op.equalIn (d+1) e (.int .i64 a) (.int .i64 b)).run P w=.ok (a==b) w:=run_equalIn_int w d e .i64 .i64 a b hu
theorem JV{e:TypeId}(he:One P e)(hu:P.underlying e=some (.int .i64))(d:Nat)(x y:List Int):∀is:List Nat,(∀i∈is,i<x.length∧i<y.length)→
  (Op.eqItems (d+1) e 1 (GB x).toArray (GB y).toArray is).run P w=.ok (is.all fun i=>x.getD i 0==y.getD i 0) w
 |[],_=>by simp[Op.eqItems]
 |i::is,h=>by
  have ih:=JV he hu d x y is (fun j a=>h j (List.mem_cons_of_mem _ a));obtain⟨b,c⟩:=h i (List.mem_cons_self ..);simp only[Op.eqItems,Sem.run_bind,Nat.mul_one,Ie he x i b,Ie he y i c,JU hu,Result.andThen_ok,List.all_cons];cases f:(x.getD i 0==y.getD i 0)
  ·simp
  ·simpa using ih
theorem Ji(x y:List Int)(n:Nat)(c:x.length=n)(d:y.length=n):((List.range n).all fun i=>x.getD i 0==y.getD i 0)=(x==y):=by
 rw[Bool.eq_iff_iff];simp only[List.all_eq_true,List.mem_range,beq_iff_eq];constructor
 ·intro h;apply List.ext_getElem (by omega);intro i a b;have:=h i (by omega);simpa[List.getElem?_eq_getElem a,List.getElem?_eq_getElem b] using this
 ·rintro rfl i _;rfl
def I8 (P:Program) (K:TypeId) (n:Nat):Prop:=∀(w:World) (x y:List Int),x.length=n→y.length=n→(Op.equal K (Dz x) (Dz y)).run P w=.ok (x==y) w
def Lk(P:Program)(K:TypeId)(n:Nat):Prop:=∀(w:World) (em:Bool) (x:List Int),x.length=n→(Instr.checkKey em 10000 K (Dz x)).run P w=.ok () w
def IY(P:Program)(K:TypeId):Prop:=(match P.underlying K with|some (.array _ _)|some (.struct _)=>true|_=>false)=true
theorem M9{K e n:Nat}(hK:P.underlying K=some (.array n e))(he:One P e)(hu:P.underlying e=some (.int .i64)):I8 P K n:=by
 intro w x y b c;obtain⟨i,hi,d⟩:=Option.map_eq_some_iff.1 he.2;have h:=run_equalIn_array w 9999 (GB x).toArray (GB y).toArray hK hi;have f:P.cellsOf e=1:=by unfold Program.cellsOf;rw[hi];simpa using d
 rw[f,JV he hu 9998 x y (List.range n) (fun i a=>by have:=List.mem_range.1 a;omega),Ji x y n b c] at h;exact h
end
def KS (e:TypeId):Nat→List Field→Bool
 |_,[]=>true
 |i,f::a=>f.name !="_"&&Nat.beq f.type e&&Nat.beq f.offset i&&KS e (i+1) a
theorem Ll{e i:Nat}{f:Field}{a:List Field}(h:KS e i (f::a)=true):f.name≠"_"∧f.type=e∧f.offset=i∧KS e (i+1) a=true:=by
 simp only[KS,Bool.and_eq_true] at h;exact⟨by simpa using h.1.1.1,Nat.eq_of_beq_eq_true h.1.1.2,Nat.eq_of_beq_eq_true h.1.2,h.2⟩
section
variable{P:Program}{w:World}
theorem Jj{e:TypeId}(he:One P e)(hu:P.underlying e=some (.int .i64))(d:Nat)(x y:List Int):∀(a:List Field) (i:Nat),KS e i a=true→i+a.length≤x.length→i+a.length≤y.length→
  (Op.eqFields (d+1) (GB x).toArray (GB y).toArray a).run P w=.ok ((List.range' i a.length).all fun j=>x.getD j 0==y.getD j 0) w
 |[],i,_,_,_=>by simp[Op.eqFields]
 |f::a,i,h,b,c=>by
  obtain⟨g,k,l,m⟩:=Ll h;simp only[List.length_cons] at b c;have ih:=Jj he hu d x y a (i+1) m (by omega) (by omega);simp only[Op.eqFields,g,ne_eq,not_false_eq_true,if_true,Sem.run_bind,k,l,Ie he x i (by omega),Ie he y i (by omega),JU hu,Result.andThen_ok,List.length_cons,List.range'_succ,List.all_cons];cases n:(x.getD i 0==y.getD i 0)
  ·simp
  ·simpa using ih
theorem Km{K e:Nat}{a:Array Field}(n:Nat)(hK:P.underlying K=some (.struct a))(c:P.stoodInHeld K=false)(d:KS e 0 a.toList=true)(f:a.toList.length=n)(he:One P e)(hu:P.underlying e=some (.int .i64)):I8 P K n:=by
 intro w x y g i;have b:P.fieldsOf K=a:=by simp[Program.fieldsOf,hK]
 have h:=run_equalIn_struct w 9999 K (GB x).toArray (GB y).toArray (by rw[b];exact hK) c;rw[b,Jj he hu 9998 x y a.toList 0 d (by omega) (by omega),←List.range_eq_range',f,Ji x y n g i] at h;exact h
theorem Ma{K e:Nat}{a:Array Field}(n:Nat)(hK:P.underlying K=some (.struct a))(c:KS e 0 a.toList=true)(m:a.toList.length=n)(he:One P e)(hu:P.underlying e=some (.int .i64)):Lk P K n:=by
 intro w em x o;have b:∀v:Int,(Instr.checkKey em 9999 e (.int .i64 v)).run P w=.ok () w:=by
  intro v;rw[show(9999:Nat)=9998+1 from rfl,Instr.checkKey];simp only[Sem.run_bind,run_underlying hu,Result.andThen_ok];rfl
 rw[show(10000:Nat)=9999+1 from rfl,Dz,Instr.checkKey];simp only[Sem.run_bind,run_underlying hK,Result.andThen_ok];rw[←Array.forIn_toList];have key:∀(L:List Field) (i:Nat),KS e i L=true→i+L.length≤x.length→(forIn L PUnit.unit (fun f (_:PUnit)=>do
   if f.name≠"_"then
    let v←part f.type (GB x).toArray f.offset
    Instr.checkKey em 9999 f.type v
    pure PUnit.unit
    pure (ForInStep.yield PUnit.unit)
   else pure (ForInStep.yield PUnit.unit)):Sem PUnit).run P w=.ok PUnit.unit w:=by
  intro L
  induction L with
  |nil=>intro i _ _;simp
  |cons f L ih=>
   intro i h hl;obtain⟨d,g,k,l⟩:=Ll h;simp only[List.length_cons] at hl;simp only[List.forIn_cons,Sem.run_bind,d,ne_eq,not_false_eq_true,if_true,g,k,Ie he x i (by omega),b,Result.andThen_ok,Sem.run_pure];exact ih (i+1) l (by omega)
 have:=key a.toList 0 c (by omega);simp at this;simp[this]
end
def If (w:World) (r n:Nat) (L:List (List Int×Int)):Prop:=
 ∃es clock,w.heap[r]?=some (.map es clock)∧es.toList.map (fun e=>(e.key,e.val))=L.map (fun p=>(Dz p.1,Value.int .i64 p.2))∧∀p∈L,p.1.length=n
section
variable{w w':World}{r n b:Nat}{L:List (List Int×Int)}
theorem If.lt(h:If w r n L):r<w.heap.size:=by obtain⟨es,c,h,_⟩:=h;exact lt_of_block h
theorem If.ext(h:If w r n L)(g:Ext w w'):If w' r n L:=by
 have hl:=h.lt;obtain⟨es,c,a,b⟩:=h;exact⟨es,c,(g.block r hl (by simp)).trans a,b⟩
theorem If.K9(h:If w r n L)(g:G4 b w w')(a:r≠b):If w' r n L:=by
 have hl:=h.lt;obtain⟨es,c,d,e⟩:=h;exact⟨es,c,(g.block r hl (by simpa using a)).trans d,e⟩
end
section
variable{P:Program}{a:Act}{w:World}{dst:Option Tmp}{ty:TypeId}{pos:String}{BY:Array Edge}{g:Option (Nat×Bool)}{K E T r n:Nat}{L:List (List Int×Int)}{k:List Int}
theorem Mb{kind:TypeDesc}(a:match kind with|.array _ _|.struct _=>True|_=>False)(cs:Array Value):∀(es:List MapEntry) (i:Nat),(∀e∈es,∃ds,e.key=.agg ds)→es≠[]→Instr.findNow kind (.agg cs) es i=none
 |[],_,_,h=>absurd rfl h
 |e::es,i,he,_=>by
  obtain⟨ds,b⟩:=he e (List.mem_cons_self ..);unfold Instr.findNow;rw[b];cases kind<;>simp at a<;>simp[Instr.sameNow]
theorem Kn{o:Obj}(h:w.heap[r]?=some o)(a:∀c e f,o≠.cells c e f):(getObj r).run P w=.ok o w:=by
 unfold getObj;cases o<;>first|exact absurd rfl (a _ _ _)|(simp only[Sem.run,h])
theorem Lm(d:Nat)(x:List Int):Instr.sameBits (d+1) (Dz x) (Dz x)=true:=by
 unfold Dz Instr.sameBits;simp only[beq_self_eq_true,Bool.true_and,List.all_eq_true];rintro⟨u,v⟩ h;rw[List.mem_iff_getElem] at h;obtain⟨i,hi,he⟩:=h;simp only[List.getElem_zip,Prod.mk.injEq] at he;obtain⟨a,b⟩:=he;subst a;subst b;simp only[GB,List.getElem_map];cases d<;>simp[Instr.sameBits]
end
theorem If.t2{w w':World}{r ph b n:Nat}{L:List (List Int×Int)}{M:World→Prop}(h:If w b n L)(g:T2 w r M ph w')(a:b≠r):If w' b n L:=h.K9 (Li g) a
end Go.Proofs.YtcdofnchafcfpaaGreat
end
section
namespace Go.Proofs.YtcdofnchafcfpaaGreat
open Go.RowKit
def Dn (w:World) (base:Nat) (e:TypeId) (sz:Nat) (A:Option Addr) (n c:Nat) (xs:List Value):Prop:=w.ownsRow base e sz (.slice A n c) n xs
section
variable{w w':World}{base:Nat}{e:TypeId}{sz:Nat}{A:Option Addr}{n c:Nat}{xs:List Value}
theorem Dn.nil(w:World)(base:Nat)(e:TypeId)(sz:Nat):Dn w base e sz none 0 0 []:=World.ownsRow_nil w base e sz
theorem Dn.len(h:Dn w base e sz A n c xs):xs.length=n*sz:=h.1
theorem Dn.rd(h:Dn w base e sz A n c xs):Rd w base w.heap.size A xs:=by
 refine⟨Nat.le_refl _,?_⟩;rcases h.2 with⟨_,h0⟩|⟨g,cap,cur,a,b,d,_,_,_,_⟩
 ·exact .inl (List.eq_nil_of_length_eq_zero (by rw[h.1,h0,Nat.zero_mul]))
 ·refine .inr ⟨g,0,?_,b,lt_of_block d,fun j u hu=>?_⟩
  ·cases a;rfl
  ·have:=World.ownsRow.cells h (g:=g) (by cases a;rfl) j u hu;rw[FW] at this;exact this
theorem Dn.kept(h:Dn w base e sz A n c xs){r:Option Nat}(g:w.grownBy w' r)(a:∀k,r=some k→∀o,A≠some ⟨k,o,none⟩):Dn w' base e sz A n c xs:=
 World.ownsRow.kept h g (by
  rcases h.2 with⟨h0,_⟩|⟨b,cap,cur,d,_⟩
  ·exact .inl (by rw[h0];rfl)
  ·refine .inr ?_;cases d;intro he;exact a b (by simpa[Value.ownBlock] using he.symm) 0 rfl)
theorem Dn.ext(h:Dn w base e sz A n c xs)(g:Ext w w'):Dn w' base e sz A n c xs:=h.kept g (fun _ e=>by cases e)
theorem Dn.HA (h:Dn w base e sz A n c xs) {k o:Nat} (b:A=some ⟨k,o,none⟩):base≤k∧k<w.heap.size∧∃cur,w.heap[k]?=some (.cells cur e (0,0)):=by
 subst b;rcases h.2 with⟨h0,_⟩|⟨g,cap,cur,d,f,a,_⟩
 ·cases h0
 ·cases d;exact⟨f,lt_of_block a,cur,a⟩
theorem Dn.K9{r:Nat}(h:Dn w base e sz A n c xs)(g:G4 r w w')(d:r<base):Dn w' base e sz A n c xs:=h.kept g (fun k a o b=>by
 cases a;have:=(h.HA b).1;omega)
theorem Bk.row {b:Nat} {t:TypeId} {cs:Array Value} (h:Dn w base e sz A n c xs) {w1 w2:World} (a:Bk w1 b t cs) (i:w.heap.size≤b) (g:w1.grownBy w2 (Value.ownBlock (.slice A n c))):Bk w2 b t cs:=
 (g.block b a.lt (fun e=>by
  cases A with
  |none=>cases e
  |some ad=>
   have:b=ad.block:=by simpa[Value.ownBlock] using e
   rcases h.2 with⟨h0,_⟩|⟨g,cap,cur,d,_,f,_⟩
   ·cases h0
   ·cases d;have:=lt_of_block f;simp only at*;omega)).trans a
end
section
variable{P:Program}{a:Act}{w:World}{dst:Option Tmp}{ty:TypeId}{pos:String}{BY:Array Edge}{g:Option (Nat×Bool)}
theorem OL {t e:TypeId} {i:TypeInfo} {z:Value} {sz:Nat} (r:P.underlying t=some (.slice e)) (hi:P.info? e=some i) (aA:i.zero=some z) (l:i.size=sz) (aJ:z.cells.size=sz)
  {A s:Option Addr} {n c v base m cap:Nat} {xs news:List Value} {ad:Addr} {w':World} (d:Dn w base e sz A n c xs) (hl:news.length=m*sz) (a:∀j u,news[j]?=some u→w.cell? (ad.add j)=some u) (aF:∀u∈news,u.oneCell'=true)
  (aB:n+m≤maxLen) (b:(n+m)*i.bytes≤140737488355328) (h:(Builtin.append_ #[t,t] ty #[.slice A n c,.slice (some ad) m cap]).run P w=.ok (.slice s (n+m) v) w')
  (x:(Value.slice s (n+m) v=.slice none 0 0↔Value.slice A n c=.slice none 0 0∧m=0)):Ext w w'∨(s=A∧v=c):=by
 subst l;have aC:n+m≤9223372036854775807:=by simp only[maxLen] at aB;omega
 have q:∀o:Obj,Ext w (w.drew.alloc o):=fun o=>Ext.trans (CA w) (World.grownBy_alloc _ _ _);rcases d.2 with⟨k,h0⟩|⟨p,aG,cur,k,aK,aH,aL,aM,aD,aE⟩
 ·cases k;rcases Nat.eq_zero_or_pos m with rfl|hm
  ·have:=x.2 ⟨rfl,rfl⟩;exact .inr (by cases this;exact⟨rfl,rfl⟩)
  ·have:=run_append_nil (P:=P) w t ty e i z r hi aA ad m cap news hl a (by omega) (by omega) (by have aI:=b;simp only[Nat.zero_add] at aI;omega);rw[this] at h;injection h with _ hw
   exact .inl (hw▸q _)
 ·cases k
  by_cases f:n+m≤c
  ·have y:n*i.size+news.length≤cur.size:=by rw[hl,aD,←Nat.add_mul];exact Nat.mul_le_mul_right _ f
   have:=run_append_room (P:=P) w t ty e i r hi p n c cur aH ad m cap news hl a aF f y;rw[this] at h;injection h with k _
   exact .inr (by cases k;exact⟨rfl,rfl⟩)
  ·have holds:∀j u,xs[j]?=some u→w.cell? ((⟨p,0,none⟩:Addr).add j)=some u:=World.ownsRow.cells d (g:=p) rfl;have:=run_append_grow (P:=P) w t ty e i z r hi aA ⟨p,0,none⟩ n c xs d.1 holds ad m cap news hl a (by omega) (by omega) (growslice_fits (by omega) b);rw[this] at h;injection h with _ hw
   exact .inl (hw▸q _)
theorem Na {s x:Operand} {t e:TypeId} {z:Value} {sz bytes:Nat} (aE:P.underlying t=some (.slice e)) (hi:(P.info? e).map (fun i=>(i.zero,i.size,i.bytes))=some (some z,sz,bytes)) (y:z.cells.size=sz) (aF:0<sz)
  {A:Option Addr} {n c base:Nat} {xs news:List Value} {m cap:Nat} {ad:Addr} (aI:a.eval s=.slice A n c) (aJ:a.eval x=.slice (some ad) m cap) (p:Dn w base e sz A n c xs)
  (q:∀j u,news[j]?=some u→w.cell? (ad.add j)=some u)
  (hl:news.length=m*sz) (aG:∀u∈news,u.oneCell'=true) (aA:n+m≤maxLen) (f:(n+m)*bytes≤140737488355328) (r:base≤w.heap.size):
  B2 P ⟨dst,.call {callee:=.builtin .append,args:= #[s,x],argTypes:= #[t,t]},ty,pos,BY,g⟩ a w (fun v w'=>∃b l,v=.slice b (n+m) l∧Dn w' base e sz b (n+m) l (xs++news)∧w.grownBy w' (Value.ownBlock (.slice A n c))∧(Ext w w'∨(b=A∧l=c))∧(∀k o,b=some ⟨k,o,none⟩→(∃o',A=some ⟨k,o',none⟩)∨w.heap.size≤k)):=by
 cases d:P.info? e with
 |none=>simp[d] at hi
 |some i=>
  simp only[d,Option.map_some,Option.some.injEq,Prod.mk.injEq] at hi;obtain⟨v',w',aH,aB,aK,aL,aM⟩:=run_append_own_at (P:=P) w base t ty e i z sz bytes aE d hi.1 hi.2.1 hi.2.2 y aF (.slice A n c) n xs p ad m cap news hl q aG aA f r;have he:(execOp a.eval ⟨dst,.call {callee:=.builtin .append,args:= #[s,x],argTypes:= #[t,t]},ty,pos,BY,g⟩).run P w=.ok (.value v') w':=by
   unfold execOp;simp only[resolve,invoke,builtin,Sem.run_bind,Sem.run_pure,Result.andThen_ok,List.map_toArray,List.map_cons,List.map_nil,aI,aJ,aH]
  have key:∃b l,v'=.slice b (n+m) l∧Dn w' base e sz b (n+m) l (xs++news):=by
   rcases aB.2 with⟨rfl,h0⟩|⟨aN,aC,cur,rfl,_⟩
   ·refine⟨none,0,by rw[h0],?_⟩;have:=aB;rw[h0] at this⊢;exact this
   ·exact⟨_,_,rfl,aB⟩
  obtain⟨b,l,rfl,aO⟩:=key;unfold B2;rw[he];refine⟨b,l,rfl,aO,aK,OL aE d hi.1 hi.2.1 y p hl q aG aA (by rw[hi.2.2];exact f) aH aL,?_⟩;rintro k o rfl;rcases aM with h|h
  ·left;cases A with
   |none=>simp[Value.ownBlock] at h
   |some ad=>
    have aP:k=ad.block:=by simpa[Value.ownBlock] using h
    rcases p.2 with⟨aD,_⟩|⟨aN,aC,cur,aD,_⟩
    ·cases aD
    ·cases aD;exact⟨0,by rw[aP]⟩
  ·right;have:k=w.heap.size:=by simpa[Value.ownBlock] using h
   omega
theorem Dn.new{w w':World}{b base:Nat}{e:TypeId}{sz:Nat}(h:IQ w w' b e #[])(a:base≤w.heap.size):Dn w' base e sz (some ⟨b,0,none⟩) 0 0 []:=
 ⟨by simp,.inr ⟨b,0, #[],rfl,by rw[h.Dh];exact a,h.bk,Nat.le_refl _,by simp[maxLen],by simp,by simp⟩⟩
theorem Ot{x y:Operand}{t u:TypeId}{A B:Option Addr}{n c m d:Nat}{b:Bool}(e:a.eval x=.slice A n c)(f:a.eval y=.slice B m d)(h:(eqGuard .eql t x y (.slice A n c) (.slice B m d)).run P w=.ok () w)(i:(Op.equal t (.slice A n c) (.slice B m d)).run P w=.ok b w):B2 P ⟨dst,.binOp .eql t x y u,ty,pos,BY,g⟩ a w (fun v w'=>v=.bool b∧w'=w):=
 CR (by simp[execOp,e,f,binOp,h,i])
end
structure Mv (w:World) (Z:Nat→Prop) (w':World) (Z':Nat→Prop):Prop where
 size:w.heap.size≤w'.heap.size
 stay:∀b,Z b→b<w.heap.size→Z' b∧w'.heap[b]?=w.heap[b]?
theorem Mv.refl(w:World)(Z:Nat→Prop):Mv w Z w Z:=⟨Nat.le_refl _,fun _ h _=>⟨h,rfl⟩⟩
theorem Mv.trans{w1 w2 a:World}{c d e:Nat→Prop}(h:Mv w1 c w2 d)(k:Mv w2 d a e):Mv w1 c a e:=
 ⟨Nat.le_trans h.size k.size,fun b f hl=>by
  obtain⟨g,i⟩:=h.stay b f hl;obtain⟨l,m⟩:=k.stay b g (Nat.lt_of_lt_of_le hl h.size);exact⟨l,m.trans i⟩⟩
theorem Aa{w w':World}{Z:Nat→Prop}(h:Ext w w'):Mv w Z w' Z:=⟨h.size,fun b a hl=>⟨a,h.block b hl (by simp)⟩⟩
theorem H2{w:World}{Z Z':Nat→Prop}(h:∀b,Z b→b<w.heap.size→Z' b):Mv w Z w Z':=⟨Nat.le_refl _,fun b a hl=>⟨h b a hl,rfl⟩⟩
def ZA:Nat→Prop:=fun _=>True
theorem Jk{w:World}{Z:Nat→Prop}:Mv w Z w ZA:=H2 fun _ _ _=>trivial
def Rz (w:World) (Z:Nat→Prop) (A:Option Addr) (cs:List Value):Prop:=
 cs=[]∨∃b o,A=some ⟨b,o,none⟩∧Z b∧b<w.heap.size∧∀j u,cs[j]?=some u→w.cell? ⟨b,o+j,none⟩=some u
theorem Rz.mv{w w':World}{Z Z':Nat→Prop}{A:Option Addr}{cs:List Value}(h:Rz w Z A cs)(g:Mv w Z w' Z'):Rz w' Z' A cs:=
 h.imp id fun⟨b,o,d,c,hl,e⟩=>⟨b,o,d,(g.stay b c hl).1,Nat.lt_of_lt_of_le hl g.size,fun j u hu=>
  (World.cell?_of_block (a:=⟨b,o+j,none⟩) (g.stay b c hl).2).trans (e j u hu)⟩
theorem Rz.cells{w:World}{Z:Nat→Prop}{b o:Nat}{cs:List Value}(h:Rz w Z (some ⟨b,o,none⟩) cs):∀j u,cs[j]?=some u→w.cell? ⟨b,o+j,none⟩=some u:=by
 rcases h with rfl|⟨b',o',a,_,_,c⟩
 ·simp
 ·cases a;exact c
theorem Rz.rd{w:World}{Z:Nat→Prop}{A:Option Addr}{cs:List Value}(h:Rz w Z A cs):Rd w 0 w.heap.size A cs:=
 ⟨Nat.le_refl _,h.imp id fun⟨b,o,a,_,hl,c⟩=>⟨b,o,a,Nat.zero_le _,hl,c⟩⟩
theorem Ln{w:World}{lo hi:Nat}{A:Option Addr}{cs:List Value}{Z:Nat→Prop}(h:Rd w lo hi A cs)(c:∀b,lo≤b→b<hi→Z b):Rz w Z A cs:=
 h.2.imp id fun⟨b,o,d,e,a,f⟩=>⟨b,o,d,c b e a,Nat.lt_of_lt_of_le a h.1,f⟩
structure Ck (α:Type) where
 sz:Nat
 R:World→(Nat→Prop)→List Value→α→Prop
 len:∀{w Z cs x},R w Z cs x→cs.length=sz
 one:∀{w Z cs x},R w Z cs x→∀u∈cs,u.oneCell'=true
 mv:∀{w Z w' Z' cs x},R w Z cs x→Mv w Z w' Z'→R w' Z' cs x
def R2{α:Type}(e:Ck α)(w:World)(Z:Nat→Prop):List (List Value)→List α→Prop
 |[],[]=>True
 |c::cs,x::xs=>e.R w Z c x∧R2 e w Z cs xs
 |_,_=>False
section
variable{α:Type}{e:Ck α}{w w':World}{Z Z':Nat→Prop}
theorem R2.len:∀{Bj:List (List Value)} {xs:List α},R2 e w Z Bj xs→Bj.length=xs.length
 |[],[],_=>rfl
 |_::_,_::_,h=>by simp[R2.len h.2]
 |[],_::_,h=>h.elim
 |_::_,[],h=>h.elim
theorem R2.mv(g:Mv w Z w' Z'):∀{Bj:List (List Value)} {xs:List α},R2 e w Z Bj xs→R2 e w' Z' Bj xs
 |[],[],_=>trivial
 |_::_,_::_,h=>⟨e.mv h.1 g,R2.mv g h.2⟩
 |[],_::_,h=>h.elim
 |_::_,[],h=>h.elim
theorem R2.one:∀{Bj:List (List Value)} {xs:List α},R2 e w Z Bj xs→∀u∈Bj.flatten,u.oneCell'=true
 |[],[],_=>by simp
 |c::cs,_::_,h=>by
  intro u hu;rw[List.flatten_cons,List.mem_append] at hu;exact hu.elim (e.one h.1 u) (R2.one h.2 u)
 |[],_::_,h=>h.elim
 |_::_,[],h=>h.elim
theorem R2.Ig:∀{Bj:List (List Value)} {xs:List α},R2 e w Z Bj xs→Bj.flatten.length=xs.length*e.sz
 |[],[],_=>by simp
 |c::cs,_::xs,h=>by
  rw[List.flatten_cons,List.length_append,e.len h.1,R2.Ig h.2,List.length_cons,Nat.add_mul,Nat.one_mul,Nat.add_comm]
 |[],_::_,h=>h.elim
 |_::_,[],h=>h.elim
theorem R2.get:∀{Bj:List (List Value)} {xs:List α},R2 e w Z Bj xs→∀{k:Nat} {x:α},xs[k]?=some x→∃c,Bj[k]?=some c∧e.R w Z c x∧(Bj.flatten.drop (k*e.sz)).take e.sz=c
 |[],[],_,k,x,a=>by simp at a
 |c::cs,y::xs,h,0,x,a=>by
  obtain rfl:y=x:=by simpa using a
  refine⟨c,rfl,h.1,?_⟩;have hl:=e.len h.1;rw[Nat.zero_mul,List.drop_zero,List.flatten_cons,List.take_append_of_le_length (by rw[hl];exact Nat.le_refl _),List.take_of_length_le (by rw[hl];exact Nat.le_refl _)]
 |c::cs,y::xs,h,k+1,x,a=>by
  obtain⟨b,d,f,g⟩:=R2.get h.2 (k:=k) (x:=x) (by simpa using a);refine⟨b,by simpa using d,f,?_⟩;rw[←g,List.flatten_cons,List.drop_append,e.len h.1,List.drop_of_length_le (by rw[e.len h.1,Nat.add_mul];omega),List.nil_append]
  congr 2
  rw[Nat.add_mul];omega
 |[],_::_,h,_,_,_=>h.elim
 |_::_,[],h,_,_,_=>h.elim
theorem R2.append:∀{Bj a:List (List Value)} {xs ys:List α},R2 e w Z Bj xs→R2 e w Z a ys→R2 e w Z (Bj++a) (xs++ys)
 |[],_,[],_,_,h=>h
 |_::_,_,_::_,_,h,k=>⟨h.1,R2.append h.2 k⟩
 |[],_,_::_,_,h,_=>h.elim
 |_::_,_,[],_,h,_=>h.elim
theorem R2.drop:∀(k:Nat) {Bj:List (List Value)} {xs:List α},R2 e w Z Bj xs→R2 e w Z (Bj.drop k) (xs.drop k)
 |0,_,_,h=>h
 |k+1,[],[],_=>trivial
 |k+1,_::cs,_::xs,h=>by simpa using R2.drop k h.2
 |_+1,[],_::_,h=>h.elim
 |_+1,_::_,[],h=>h.elim
theorem R2.take:∀(k:Nat) {Bj:List (List Value)} {xs:List α},R2 e w Z Bj xs→R2 e w Z (Bj.take k) (xs.take k)
 |0,_,_,_=>trivial
 |k+1,[],[],_=>trivial
 |k+1,_::cs,_::xs,h=>⟨h.1,R2.take k h.2⟩
 |_+1,[],_::_,h=>h.elim
 |_+1,_::_,[],h=>h.elim
theorem R2.set{x:α}{c:List Value}(a:e.R w Z c x):∀(k:Nat) {Bj:List (List Value)} {xs:List α},R2 e w Z Bj xs→R2 e w Z (Bj.set k c) (xs.set k x)
 |_,[],[],_=>trivial
 |0,_::_,_::_,h=>⟨a,h.2⟩
 |k+1,_::cs,_::xs,h=>⟨h.1,R2.set a k h.2⟩
 |_,[],_::_,h=>h.elim
 |_,_::_,[],h=>h.elim
theorem R2.Ou(h0:0<e.sz):∀(k:Nat) {Bj:List (List Value)} {xs:List α},R2 e w Z Bj xs→Bj.flatten.drop (k*e.sz)=(Bj.drop k).flatten
 |0,_,_,_=>by simp
 |k+1,[],[],_=>by simp
 |k+1,c::cs,_::xs,h=>by
  rw[List.drop_succ_cons,←R2.Ou h0 k h.2,List.flatten_cons,List.drop_append,e.len h.1,List.drop_of_length_le (by rw[e.len h.1,Nat.add_mul];omega),List.nil_append]
  congr 1
  rw[Nat.add_mul];omega
 |_+1,[],_::_,h=>h.elim
 |_+1,_::_,[],h=>h.elim
end
def Sl {α:Type} (e:Ck α) (w:World) (Z:Nat→Prop) (A:Option Addr) (c:Nat) (xs:List α):Prop:=
 xs.length≤c∧(A=none→c=0)∧∃Bj,R2 e w Z Bj xs∧Rz w Z A Bj.flatten
section
variable{α:Type}{e:Ck α}{w w':World}{Z Z':Nat→Prop}{A:Option Addr}{c:Nat}{xs:List α}
theorem Sl.mv(h:Sl e w Z A c xs)(g:Mv w Z w' Z'):Sl e w' Z' A c xs:=⟨h.1,h.2.1,h.2.2.imp fun _ ⟨a,b⟩=>⟨a.mv g,b.mv g⟩⟩
theorem Sl.all(h:Sl e w Z A c xs):Sl e w ZA A c xs:=h.mv Jk
theorem Sl.nil(e:Ck α)(w:World)(Z:Nat→Prop):Sl e w Z none 0 []:=⟨Nat.le_refl _,fun _=>rfl,[],trivial,.inl rfl⟩
theorem Sl.elem (h:Sl e w Z A c xs) (h0:0<e.sz) {k:Nat} {x:α} (l:xs[k]?=some x):∃b o cs,A=some ⟨b,o,none⟩∧e.R w Z cs x∧Rz w Z (some ⟨b,o+k*e.sz,none⟩) cs:=by
 obtain⟨-,-,Bj,m,f⟩:=h;obtain⟨cs,n,g,a⟩:=m.get l;have hl:=e.len g;have r:k<Bj.length:=(List.getElem?_eq_some_iff.1 n).1;rcases f with f|⟨b,o,p,q,i,d⟩
 ·rw[f] at a;simp at a;subst a;simp at hl;omega
 ·refine⟨b,o,cs,p,g,.inr ⟨b,_,rfl,q,i,fun j u hu=>?_⟩⟩;rw[Nat.add_assoc];refine d _ _ ?_;subst a;rw[List.getElem?_take] at hu;split at hu
  ·simpa using hu
  ·cases hu
theorem Sl.Dt(h:Sl e w Z A c xs)(d:e.sz=1){k:Nat}{x:α}(f:xs[k]?=some x):∃b o cs,A=some ⟨b,o,none⟩∧e.R w Z cs x∧Rz w Z (some ⟨b,o+k,none⟩) cs:=by
 obtain⟨b,o,cs,g,i,a⟩:=h.elem (by omega) f;rw[d,Nat.mul_one] at a;exact⟨b,o,cs,g,i,a⟩
end
def Am(k:IntKind):Ck Int:=⟨1,fun _ _ cs x=>cs=[.int k x],fun h=>by rw[h];rfl,fun h=>by rw[h];simp[Value.oneCell'],fun h _=>h⟩
def BP{α:Type}(e:Ck α):Ck (List α):=
 ⟨1,fun w Z cs xs=>∃A c,cs=[.slice A xs.length c]∧Sl e w Z A c xs,fun⟨_,_,h,_⟩=>by rw[h];rfl,fun⟨_,_,h,_⟩=>by rw[h];simp[Value.oneCell'],
  fun⟨A,c,a,b⟩ g=>⟨A,c,a,b.mv g⟩⟩
structure VE (α:Type) where
 R:World→(Nat→Prop)→Value→α→Prop
 mv:∀{w Z w' Z' v x},R w Z v x→Mv w Z w' Z'→R w' Z' v x
def C7(k:IntKind):VE Int:=⟨fun _ _ v x=>v=.int k x,fun h _=>h⟩
def Bu:VE Bool:=⟨fun _ _ v x=>v=.bool x,fun h _=>h⟩
def DT{α:Type}(e:Ck α):VE (List α):=⟨fun w Z v xs=>∃A c,v=.slice A xs.length c∧Sl e w Z A c xs,fun⟨A,c,a,b⟩ g=>⟨A,c,a,b.mv g⟩⟩
def Cy{α:Type}(e:Ck α):VE α:=⟨fun w Z v x=>∃cs,v=.agg cs.toArray∧e.R w Z cs x,fun h g=>h.imp fun _ h=>⟨h.1,e.mv h.2 g⟩⟩
def JW{α β:Type}(a:VE α)(b:VE β):VE (α×β):=⟨fun w Z v x=>∃u t,v=.tuple #[u,t]∧a.R w Z u x.1∧b.R w Z t x.2,fun⟨u,t,h,c,d⟩ g=>⟨u,t,h,a.mv c g,b.mv d g⟩⟩
def R9{α β i:Type}(a:VE α)(b:VE β)(c:VE i):VE (α×β×i):=
 ⟨fun w Z v x=>∃u t s,v=.tuple #[u,t,s]∧a.R w Z u x.1∧b.R w Z t x.2.1∧c.R w Z s x.2.2,fun⟨u,t,s,h,d,e,f⟩ g=>⟨u,t,s,h,a.mv d g,b.mv e g,c.mv f g⟩⟩
def Kv{α:Type}(v:VE α)(Z:Nat→Prop)(x:α):JR Ext:=⟨fun u w=>v.R w Z u x,fun _ _ _ h g=>v.mv h (Aa g)⟩
def ob:Option Addr→Option Nat:=Option.map (·.block)
theorem P9(A:Option Addr)(n c:Nat):Value.ownBlock (.slice A n c)=ob A:=by cases A<;>rfl
def FN:Nat→Prop:=fun _=>False
def FU (F:Nat→Prop) (M:List (Option Nat)):Nat→Prop:=fun k=>F k∨some k∈M
structure Bz (D:Nat→Prop) (w w':World):Prop where
 os:w'.os=w.os
 tape:w'.tape=w.tape
 output:w'.output=w.output
 size:w.heap.size≤w'.heap.size
 block:∀k,k<w.heap.size→¬D k→w'.heap[k]?=w.heap[k]?
section
variable{D D' F F':Nat→Prop}{M M':List (Option Nat)}{w w' Bm:World}
theorem Bz.refl(D:Nat→Prop)(w:World):Bz D w w:=⟨rfl,rfl,rfl,Nat.le_refl _,fun _ _ _=>rfl⟩
theorem Bz.trans(h:Bz D w w')(k:Bz D w' Bm):Bz D w Bm:=
 ⟨k.os.trans h.os,k.tape.trans h.tape,k.output.trans h.output,Nat.le_trans h.size k.size,fun b a c=>(k.block b (Nat.lt_of_lt_of_le a h.size) c).trans (h.block b a c)⟩
theorem Bz.mono(h:Bz D w w')(a:∀k,D k→D' k):Bz D' w w':=⟨h.os,h.tape,h.output,h.size,fun b c d=>h.block b c fun e=>d (a b e)⟩
theorem Ih{r:Option Nat}(g:w.grownBy w' r)(a:∀k,r=some k→D k):Bz D w w':=⟨g.os,g.tape,g.output,g.size,fun b c d=>g.block b c fun e=>d (a b e.symm)⟩
theorem AM(g:Ext w w'):Bz D w w':=Ih g fun _ e=>by cases e
theorem Bz.gr{r:Option Nat}(g:Bz (fun k=>some k=r) w w'):w.grownBy w' r:=⟨g.os,g.tape,g.output,g.size,fun b a c=>g.block b a c⟩
theorem Bz.ext(g:Bz (FU FN []) w w'):Ext w w':=⟨g.os,g.tape,g.output,g.size,fun b a _=>g.block b a (by rintro(h|h);exact h;cases h)⟩
theorem Bz.fl{M2:List (Option Nat)}(g:Bz (FU (FU F M) M2) w w'):Bz (FU F (M++M2)) w w':=g.mono fun k h=>by
 rcases h with(h|h)|h
 ·exact .inl h
 ·exact .inr (List.mem_append_left _ h)
 ·exact .inr (List.mem_append_right _ h)
theorem Bk.B6{b:Nat}{t:TypeId}{cs:Array Value}(h:Bk w b t cs)(g:Bz D w w')(a:¬D b):Bk w' b t cs:=(g.block b h.lt a).trans h
theorem Bk.gr{b:Nat}{t:TypeId}{cs:Array Value}{r:Option Nat}(h:Bk w b t cs)(g:w.grownBy w' r)(a:some b≠r):Bk w' b t cs:=(g.block b h.lt a).trans h
end
def ZZ (F:Nat→Prop) (B:List (Option Nat)) (Z:Nat→Prop) (n0:Nat) (L:List (Option Nat)):Nat→Prop:=fun b=>(b<n0∧Z b∧¬F b∧some b∉B)∨(n0≤b∧some b∉L)
def ZC (F:Nat→Prop) (M:List (Option Nat)):Nat→Prop:=fun b=>¬F b∧some b∉M
theorem DI{F:Nat→Prop}{M:List (Option Nat)}:∀b,ZC F M b→¬F b∧some b∉M:=fun _ h=>h
def FL (L:List (Option Nat)):List Nat→List (Option Nat)→Prop
 |[],[]=>True
 |j::a,m::M=>L[j]?=some m∧FL L a M
 |_,_=>False
theorem FL.mem{L:List (Option Nat)}:∀{b:List Nat} {M:List (Option Nat)},FL L b M→∀x∈M,∃j∈b,L[j]?=some x
 |[],[],_,x,a=>by cases a
 |j::b,m::M,h,x,a=>by
  rcases List.mem_cons.1 a with rfl|a
  ·exact⟨j,List.mem_cons_self ..,h.1⟩
  ·obtain⟨i,hi,he⟩:=FL.mem h.2 x a;exact⟨i,List.mem_cons_of_mem _ hi,he⟩
 |[],_::_,h,_,_=>h.elim
 |_::_,[],h,_,_=>h.elim
theorem FL.get{L:List (Option Nat)}:∀{b:List Nat} {M:List (Option Nat)},FL L b M→∀(i:Nat) x,M[i]?=some x→∃j,b[i]?=some j∧L[j]?=some x
 |[],[],_,i,x,a=>by simp at a
 |j::b,m::M,h,0,x,a=>by
  obtain rfl:m=x:=by simpa using a
  exact⟨j,rfl,h.1⟩
 |j::b,m::M,h,i+1,x,a=>by
  obtain⟨k,c,he⟩:=FL.get h.2 i x (by simpa using a);exact⟨k,by simpa using c,he⟩
 |[],_::_,h,_,_,_=>h.elim
 |_::_,[],h,_,_,_=>h.elim
theorem FL.sub{L:List (Option Nat)}{a:List Nat}{M:List (Option Nat)}(h:FL L a M):∀x∈M,x∈L:=fun x b=>by
 obtain⟨j,_,he⟩:=h.mem x b;exact List.mem_of_getElem? he
def IC:List Nat→Bool
 |[]=>true
 |x::l=>l.all (fun y=> !Nat.beq x y)&&IC l
theorem IZ:∀{l:List Nat},IC l=true→∀(i j k:Nat),l[i]?=some k→l[j]?=some k→i=j
 |[],_,i,j,k,hi,_=>by simp at hi
 |x::l,h,i,j,k,hi,a=>by
  simp only[IC,Bool.and_eq_true,List.all_eq_true] at h;have key:∀(m:Nat),l[m]?=some x→False:=fun m hm=>by
   have:=h.1 x (List.mem_of_getElem? hm);rw[Nat.beq_refl] at this;cases this
  cases i with
  |zero=>
   obtain rfl:x=k:=by simpa using hi
   cases j with
   |zero=>rfl
   |succ j=>exact(key j (by simpa using a)).elim
  |succ i=>
   cases j with
   |zero=>
    obtain rfl:x=k:=by simpa using a
    exact(key i (by simpa using hi)).elim
   |succ j=>rw[IZ h.2 i j k (by simpa using hi) (by simpa using a)]
structure Bx (F:Nat→Prop) (B:List (Option Nat)) (w:World):Prop where
 lt:∀k,some k∈B→k<w.heap.size∧¬F k
 ap:∀(i j:Nat) (x:Nat),i≠j→B[i]?=some (some x)→B[j]?≠some (some x)
 ff:∀k,F k→k<w.heap.size
theorem Bx.none(w:World):Bx FN [] w:=⟨fun _ h=>(by cases h),fun _ _ _ _ h=>by simp at h,fun _ h=>h.elim⟩
theorem Bx.grow{F:Nat→Prop}{B:List (Option Nat)}{w w':World}(h:Bx F B w)(b:w.heap.size≤w'.heap.size):Bx F B w':=
 ⟨fun k a=>⟨Nat.lt_of_lt_of_le (h.lt k a).1 b,(h.lt k a).2⟩,h.ap,fun k a=>Nat.lt_of_lt_of_le (h.ff k a) b⟩
structure Hp (F:Nat→Prop) (B:List (Option Nat)) (w0:World) (L:List (Option Nat)) (w:World):Prop where
 ch:Bz (FU F B) w0 w
 lo:∀k,some k∈L→k<w.heap.size∧¬F k∧(k<w0.heap.size→some k∈B)
 ap:∀(i j:Nat) (x:Nat),i≠j→L[i]?=some (some x)→L[j]?≠some (some x)
 ff:∀k,F k→k<w0.heap.size
theorem Hp.start{F:Nat→Prop}{B:List (Option Nat)}{w:World}(h:Bx F B w):Hp F B w B w:=⟨Bz.refl _ _,fun k a=>⟨(h.lt k a).1,(h.lt k a).2,fun _=>a⟩,h.ap,h.ff⟩
section
variable{F F':Nat→Prop}{B:List (Option Nat)}{w0 w w':World}{Z Z':Nat→Prop}{L L' M:List (Option Nat)}
theorem Hp.sz(h:Hp F B w0 L w):w0.heap.size≤w.heap.size:=h.ch.size
theorem Hp.B6(h:Hp F B w0 L w){D:Nat→Prop}(g:Bz D w w')(d:∀k,D k→F k∨some k∈L):Hp F B w0 L w':=by
 refine⟨⟨g.os.trans h.ch.os,g.tape.trans h.ch.tape,g.output.trans h.ch.output,Nat.le_trans h.sz g.size,fun k a b=>?_⟩,fun k a=>⟨Nat.lt_of_lt_of_le (h.lo k a).1 g.size,(h.lo k a).2⟩,h.ap,h.ff⟩;refine(g.block k (Nat.lt_of_lt_of_le a h.sz) fun e=>?_).trans (h.ch.block k a b);rcases d k e with c|c
 ·exact b (.inl c)
 ·exact b (.inr ((h.lo k c).2.2 a))
theorem Hp.ext(h:Hp F B w0 L w)(g:Ext w w'):Hp F B w0 L w':=h.B6 (D:=FN) (AM g) fun _ h=>h.elim
theorem Hp.gr(h:Hp F B w0 L w){r:Option Nat}(g:w.grownBy w' r)(i:Nat)(hi:L[i]?=some r):Hp F B w0 L w':=
 h.B6 (D:=fun k=>some k=r) (Ih g fun _ e=>e.symm) fun k e=>.inr (by rw[e];exact List.mem_of_getElem? hi)
theorem Hp.new(h:Hp F B w0 L w)(g:Ext w w'){b:Nat}(p:w.heap.size≤b)(m:b<w'.heap.size):Hp F B w0 (some b::L) w':=by
 have f:=h.ext g;refine⟨f.ch,fun k a=>?_,?_,h.ff⟩
 ·rcases List.mem_cons.1 a with e|a
  ·cases e;exact⟨m,fun n=>absurd (h.ff _ n) (by have:=h.sz;omega),fun hl=>absurd hl (by have:=h.sz;omega)⟩
  ·exact f.lo k a
 ·have key:∀(j:Nat) (x:Nat),L[j]?=some (some x)→x≠b:=fun j x o e=>by
   have:=(h.lo x (List.mem_of_getElem? o)).1;omega
  intro i j x l hi c;cases i with
  |zero=>
   cases j with
   |zero=>exact l rfl
   |succ j=>
    have d:b=x:=by simpa using hi
    exact key j x (by simpa using c) d.symm
  |succ i=>
   cases j with
   |zero=>
    have d:b=x:=by simpa using c
    exact key i x (by simpa using hi) d.symm
   |succ j=>exact h.ap i j x (by omega) (by simpa using hi) (by simpa using c)
theorem Hp.nil(h:Hp F B w0 L w):Hp F B w0 (none::L) w:=by
 refine⟨h.ch,fun k b=>h.lo k (by simpa using b),?_,h.ff⟩;intro i j x c hi a;cases i with
 |zero=>simp at hi
 |succ i=>
  cases j with
  |zero=>simp at a
  |succ j=>exact h.ap i j x (by omega) (by simpa using hi) (by simpa using a)
theorem Hp.De (h:Hp F B w0 L w) {D:Nat→Prop} (g:Bz D w w') (u:∀k,D k→F k∨some k∈L) (i:Nat) {x y:Option Nat} (hi:L[i]?=some x) (q:∀k,y=some k→(x=some k∨w.heap.size≤k)∧k<w'.heap.size):Hp F B w0 (L.set i y) w':=by
 have n:=h.B6 g u;refine⟨n.ch,fun k o=>?_,?_,h.ff⟩
 ·rcases List.mem_or_eq_of_mem_set o with o|e
  ·exact n.lo k o
  ·obtain⟨c,v⟩:=q k e.symm;rcases c with c|c
   ·exact n.lo k (by rw[←c];exact List.mem_of_getElem? hi)
   ·exact⟨v,fun aA=>absurd (h.ff _ aA) (by have:=h.sz;omega),fun hl=>absurd hl (by have:=h.sz;omega)⟩
 ·have l:i<L.length:=(List.getElem?_eq_some_iff.1 hi).1;have key:∀(j z:Nat),j≠i→L[j]?=some (some z)→y≠some z:=fun j z aB r e=>by
   rcases(q z e).1 with c|c
   ·exact h.ap j i z aB r (by rw[hi,c])
   ·have:=(h.lo z (List.mem_of_getElem? r)).1;omega
  intro a b z s f d
  by_cases m:a=i
  ·subst m;have p:y=some z:=by simpa[List.getElem?_set,l] using f
   rw[List.getElem?_set_ne (by omega)] at d;exact key b z (by omega) d p
  ·rw[List.getElem?_set_ne (by omega)] at f
   by_cases t:b=i
   ·subst t;have p:y=some z:=by simpa[List.getElem?_set,l] using d
    exact key a z m f p
   ·rw[List.getElem?_set_ne (by omega)] at d;exact h.ap a b z s f d
theorem Hp.row(h:Hp F B w0 L w){x:Option Nat}(g:w.grownBy w' x)(i:Nat){y:Option Nat}(hi:L[i]?=some x)(a:∀k,y=some k→(x=some k∨w.heap.size≤k)∧k<w'.heap.size):Hp F B w0 (L.set i y) w':=
 h.De (D:=fun k=>some k=x) (Ih g fun _ e=>e.symm) (fun k e=>.inr (by rw[e];exact List.mem_of_getElem? hi)) i hi a
theorem Hp.erase(h:Hp F B w0 L w)(i:Nat):Hp F B w0 (L.eraseIdx i) w:=by
 refine⟨h.ch,fun k f=>h.lo k (List.mem_of_mem_eraseIdx f),fun a b x e c d=>?_,h.ff⟩;rw[List.getElem?_eraseIdx] at c d;split at c<;>split at d
 ·exact h.ap a b x e c d
 ·exact h.ap a (b+1) x (by omega) c d
 ·exact h.ap (a+1) b x (by omega) c d
 ·exact h.ap (a+1) (b+1) x (by omega) c d
theorem Hp.ne(h:Hp F B w0 L w)(i j:Nat){x:Option Nat}{b:Nat}(a:(i==j)=false)(hi:L[i]?=some (some b))(c:L[j]?=some x):some b≠x:=fun e=>h.ap i j b (by simpa using a) hi (by rw[c,e])
theorem Hp.Cm (h:Hp F B w0 L w) (i:Nat) {b:Nat} (hi:L[i]?=some (some b)) (c:List Nat) (f:(c.all fun j=> !Nat.beq i j)=true) (g:FL L c M) (l:∀k,F' k→F k):¬FU F' M b:=by
 rintro(a|a)
 ·exact(h.lo b (List.mem_of_getElem? hi)).2.1 (l b a)
 ·obtain⟨j,d,he⟩:=g.mem _ a;have:=List.all_eq_true.1 f j d;refine h.ap i j b (fun e=>?_) hi he;rw[e,Nat.beq_refl] at this;cases this
theorem Qa(a:∀x∈M,x∈L)(b:∀k,F' k→F k):∀k,FU F' M k→F k∨some k∈L:=fun k h=>h.imp (b k) (a _)
theorem Hp.Ci (h:Hp F B w0 L w) (d n:List Nat) {C:List (Option Nat)} (o:IC (d++n)=true) (f:FL L d M) (p:FL L n C) (q:∀k,F' k→F k∨some k∈C):Bx F' M w:=by
 refine⟨fun k g=>⟨(h.lo k (f.sub _ g)).1,fun aE=>?_⟩,fun i j x r hi m=>?_,fun k g=>?_⟩
 ·rcases q k aE with c|c
  ·exact(h.lo k (f.sub _ g)).2.1 c
  ·obtain⟨i,hi⟩:=List.mem_iff_getElem?.1 g;obtain⟨s,t⟩:=List.mem_iff_getElem?.1 c;obtain⟨j,m,he⟩:=f.get i _ hi;obtain⟨u,v,y⟩:=p.get s _ t;have e:j=u:=by
    refine Decidable.byContradiction fun l=>h.ap j u k l he y
   subst e;have z:i<d.length:=(List.getElem?_eq_some_iff.1 m).1;have aH:=IZ o i (d.length+s) j (by rw[List.getElem?_append_left z];exact m) (by rw[List.getElem?_append_right (by omega)];simpa using v);omega
 ·obtain⟨a,aA,aB⟩:=f.get i _ hi;obtain⟨b,aC,aD⟩:=f.get j _ m;have e:a=b:=Decidable.byContradiction fun l=>h.ap a b x l aB aD;subst e;have aF:i<d.length:=(List.getElem?_eq_some_iff.1 aA).1;have aG:j<d.length:=(List.getElem?_eq_some_iff.1 aC).1;exact r (IZ o i j a (by rw[List.getElem?_append_left aF];exact aA) (by rw[List.getElem?_append_left aG];exact aC))
 ·rcases q k g with c|c
  ·exact Nat.lt_of_lt_of_le (h.ff k c) h.sz
  ·exact(h.lo k (p.sub _ c)).1
theorem Hp.Nb (h:Hp F B w0 L w) {D:Nat→Prop} (c:∀k,D k→F k∨some k∈L):∀b,ZZ F B Z w0.heap.size L b→¬D b:=fun b g d=>by
 rcases g with⟨e,f,i,l⟩|⟨e,f⟩
 ·rcases c b d with a|a
  ·exact i a
  ·exact l ((h.lo b a).2.2 e)
 ·rcases c b d with a|a
  ·have:=h.ff b a;omega
  ·exact f a
theorem Hp.zc(h:Hp F B w0 L w)(c:∀x∈M,x∈L)(d:∀k,F' k→F k∨some k∈L):∀b,ZZ F B Z w0.heap.size L b→¬F' b∧some b∉M:=fun b a=>
 ⟨h.Nb (D:=F') d b a,fun hm=>h.Nb (D:=fun k=>some k∈M) (fun k e=>.inr (c _ e)) b a hm⟩
theorem C9(h:∀b,Z b→Z' b):Mv w Z w Z':=H2 fun b a _=>h b a
theorem Hp.C0 (h:Hp F B w0 L w) {D:Nat→Prop} (g:Bz D w w') (c:∀k,D k→F k∨some k∈L):Mv w (ZZ F B Z w0.heap.size L) w' (ZZ F B Z w0.heap.size L):=
 ⟨g.size,fun b a hl=>⟨a,g.block b hl (h.Nb c b a)⟩⟩
theorem Hp.Ad(h:Hp F B w0 L w){r:Option Nat}(g:w.grownBy w' r)(i:Nat)(hi:L[i]?=some r):Mv w (ZZ F B Z w0.heap.size L) w' (ZZ F B Z w0.heap.size L):=
 h.C0 (D:=fun k=>some k=r) (Ih g fun _ e=>e.symm) fun k e=>.inr (by rw[e];exact List.mem_of_getElem? hi)
theorem Hp.E1(h:Hp F B w0 L w){D:Nat→Prop}(g:Bz D w w')(f:∀k,D k→F k∨some k∈L)(i:Nat){x:Option Nat}(hi:L[i]?=some x){y:Option Nat}(l:∀k,y=some k→(x=some k∨w.heap.size≤k)):Mv w (ZZ F B Z w0.heap.size L) w' (ZZ F B Z w0.heap.size (L.set i y)):=
 ⟨g.size,fun b a hl=>⟨a.imp id fun⟨m,c⟩=>⟨m,fun hm=>by
  rcases List.mem_or_eq_of_mem_set hm with hm|e
  ·exact c hm
  ·rcases l b e.symm with d|d
   ·exact c (by rw[←d];exact List.mem_of_getElem? hi)
   ·omega⟩,g.block b hl (h.Nb f b a)⟩⟩
theorem Hp.CP(h:Hp F B w0 L w){r:Option Nat}(g:w.grownBy w' r)(i:Nat)(hi:L[i]?=some r){y:Option Nat}(a:∀k,y=some k→(r=some k∨w.heap.size≤k)):Mv w (ZZ F B Z w0.heap.size L) w' (ZZ F B Z w0.heap.size (L.set i y)):=
 h.E1 (D:=fun k=>some k=r) (Ih g fun _ e=>e.symm) (fun k e=>.inr (by rw[e];exact List.mem_of_getElem? hi)) i hi a
theorem Cj{n0:Nat}(g:Ext w w'){b:Nat}(f:w.heap.size≤b):Mv w (ZZ F B Z n0 L) w' (ZZ F B Z n0 (some b::L)):=
 ⟨g.size,fun k a hl=>⟨a.imp id fun⟨c,d⟩=>⟨c,fun hm=>by
  rcases List.mem_cons.1 hm with e|hm
  ·cases e;omega
  ·exact d hm⟩,g.block k hl (by simp)⟩⟩
theorem Bs{n0:Nat}:Mv w (ZZ F B Z n0 L) w (ZZ F B Z n0 (none::L)):=H2 fun b a _=>a.imp id fun⟨c,d⟩=>⟨c,by simpa using d⟩
theorem Qb{n0:Nat}(h:∀x∈L',x∈L):Mv w (ZZ F B Z n0 L) w (ZZ F B Z n0 L'):=H2 fun b a _=>a.imp id fun⟨c,d⟩=>⟨c,fun hm=>d (h _ hm)⟩
theorem Ai{n0:Nat}(i:Nat):Mv w (ZZ F B Z n0 L) w (ZZ F B Z n0 (L.eraseIdx i)):=Qb fun _ h=>List.mem_of_mem_eraseIdx h
theorem AK(c:∀b,Z b→¬F b∧some b∉B)(w:World):Mv w Z w (ZZ F B Z w.heap.size L):=H2 fun b a hl=>.inl ⟨hl,a,c b a⟩
theorem AG {n0:Nat} (d:∀x∈M,x∈L):Mv w (ZZ F B Z n0 L) w (ZZ FN [] Z n0 M):=H2 fun b e _=>by
 rcases e with⟨a,c,_⟩|⟨a,c⟩
 ·exact .inl ⟨a,c,id,by simp⟩
 ·exact .inr ⟨a,fun hm=>c (d _ hm)⟩
theorem Hp.call (h:Hp F B w0 L w) {c:Nat} (o:w.heap.size≤c) (l:∀k,some k∈M→some k∈L∨c≤k) (f:∀x∈L',x∈L∨x∈M):Mv w' (ZZ FN [] (ZZ F B Z w0.heap.size L) c M) w' (ZZ F B Z w0.heap.size L'):=
 H2 fun b m _=>by
  have h0:=h.sz;rcases m with⟨n,d,_⟩|⟨n,d⟩
  ·rcases d with e|⟨e,g⟩
   ·exact .inl e
   ·refine .inr ⟨e,fun hm=>?_⟩;rcases f _ hm with a|a
    ·exact g a
    ·rcases l b a with i|i
     ·exact g i
     ·omega
  ·refine .inr ⟨by omega,fun hm=>?_⟩;rcases f _ hm with a|a
   ·have:=(h.lo b a).1;omega
   ·exact d a
theorem Hp.Bl(h:Hp F B w0 L w){a:Nat}(b:w.heap.size≤a):Mv w' (ZZ FN [] (ZZ F B Z w0.heap.size L) a []) w' (ZZ F B Z w0.heap.size L):=h.call b (fun _ h=>by cases h) (fun _ h=>.inl h)
theorem Hp.fin(h:Hp F B w0 L w):Bz (FU F B) w0 w:=h.ch
theorem Hp.Bt(h:Hp FN [] w0 L w):Ext w0 w:=h.ch.ext
theorem Hp.lit{b:Nat}(h:Hp F B w0 L w)(i:Nat)(hi:L[i]?=some (some b))(c:w0.heap.size≤b):ZZ F B Z w0.heap.size (L.eraseIdx i) b:=
 .inr ⟨c,fun hm=>by
  obtain⟨j,a⟩:=List.mem_iff_getElem?.1 hm;rw[List.getElem?_eraseIdx] at a;split at a
  ·exact h.ap i j b (by omega) hi a
  ·exact h.ap i (j+1) b (by omega) hi a⟩
theorem Hp.own {b:Nat} (h:Hp F B w0 L w) (i:Nat) (hi:L[i]?=some (some b)) (c:some b∉B):w0.heap.size≤b:=by
 rcases Nat.lt_or_ge b w0.heap.size with a|a
 ·exact absurd ((h.lo b (List.mem_of_getElem? hi)).2.2 a) c
 ·exact a
end
def AZ {α:Type} (e:Ck α) (t:TypeId) (n0:Nat) (w:World) (Z:Nat→Prop) (A:Option Addr) (c:Nat) (xs:List α):Prop:=
 ∃Bj,R2 e w Z Bj xs∧Dn w n0 t e.sz A xs.length c Bj.flatten
section
variable{α:Type}{e:Ck α}{t:TypeId}{n0:Nat}{w w':World}{Z Z':Nat→Prop}{A:Option Addr}{c:Nat}{xs:List α}
theorem AZ.nil(e:Ck α)(t:TypeId)(n0:Nat)(w:World)(Z:Nat→Prop):AZ e t n0 w Z none 0 []:=⟨[],trivial,Dn.nil _ _ _ _⟩
theorem AZ.gr(h:AZ e t n0 w Z A c xs){r:Option Nat}(g:w.grownBy w' r)(a:∀k,ob A=some k→some k≠r)(hm:Mv w Z w' Z'):AZ e t n0 w' Z' A c xs:=by
 obtain⟨Bj,b,d⟩:=h;exact⟨Bj,b.mv hm,d.kept g fun k f o i=>a k (by rw[i];rfl) f.symm⟩
theorem AZ.ext(h:AZ e t n0 w Z A c xs)(g:Ext w w')(hm:Mv w Z w' Z'):AZ e t n0 w' Z' A c xs:=h.gr g (fun _ _ e=>by cases e) hm
theorem AZ.up(h:AZ e t n0 w Z A c xs)(hm:Mv w Z w Z'):AZ e t n0 w Z' A c xs:=by
 obtain⟨Bj,a,b⟩:=h;exact⟨Bj,a.mv hm,b⟩
theorem AZ.sl(h:AZ e t n0 w Z A c xs)(m:∀k,ob A=some k→n0≤k→Z k):Sl e w Z A c xs:=by
 obtain⟨Bj,f,a⟩:=h;have n:=a;rcases a.2 with⟨d,h0⟩|⟨g,cap,cur,d,i,o,l,_,_,_⟩
 ·have:xs=[]:=List.eq_nil_of_length_eq_zero h0;subst this;cases d;exact Sl.nil _ _ _
 ·cases d;refine⟨l,(fun e=>by cases e),Bj,f,?_⟩;refine Ln (hi:=g+1) (lo:=g) ?_ (fun b f a=>by
   obtain rfl:b=g:=by omega
   exact m b rfl i)
  refine⟨lt_of_block o,.inr ⟨g,0,rfl,Nat.le_refl _,Nat.lt_succ_self _,fun j u hu=>?_⟩⟩;have:=World.ownsRow.cells n (g:=g) rfl j u hu;rw[FW] at this;exact this
theorem AZ.all(h:AZ e t n0 w Z A c xs):Sl e w ZA A c xs:=(h.up Jk).sl fun _ _ _=>trivial
theorem AZ.HA(h:AZ e t n0 w Z A c xs):∀k,ob A=some k→k<w.heap.size:=by
 obtain⟨Bj,l,d⟩:=h;intro k b;rcases d.2 with⟨a,h0⟩|⟨g,cap,cur,a,i,f,_⟩
 ·obtain⟨rfl,-,-⟩:=Value.slice.inj a;cases b
 ·cases a;cases b;exact lt_of_block f
end
section
variable{α:Type}{e:Ck α}{t:TypeId}{F F':Nat→Prop}{B L M:List (Option Nat)}{n0 n1:Nat}{w0 w w':World}{Z Z':Nat→Prop}{A:Option Addr}{c:Nat}{xs:List α}
theorem AZ.B6(h:AZ e t n0 w Z A c xs){D:Nat→Prop}(g:Bz D w w')(i:∀k,ob A=some k→¬D k)(hm:Mv w Z w' Z'):AZ e t n0 w' Z' A c xs:=by
 obtain⟨Bj,l,a⟩:=h;refine⟨Bj,l.mv hm,a.1,a.2.imp id ?_⟩;rintro⟨b,cap,cur,d,m,f,n⟩;refine⟨b,cap,cur,d,m,?_,n⟩;cases d;exact(g.block b (lt_of_block f) (i b rfl)).trans f
theorem AZ.base(h:AZ e t n0 w Z A c xs)(d:∀k,ob A=some k→n1≤k):AZ e t n1 w Z A c xs:=by
 obtain⟨Bj,f,a⟩:=h;refine⟨Bj,f,a.1,a.2.imp id ?_⟩;rintro⟨b,cap,cur,g,_,i⟩;cases g;exact⟨b,_,cur,rfl,d b rfl,i⟩
theorem AZ.ge(h:AZ e t n0 w Z A c xs):∀k,ob A=some k→n0≤k:=by
 obtain⟨Bj,i,f⟩:=h;intro k d;rcases f.2 with⟨a,_⟩|⟨b,cap,cur,a,g,_⟩
 ·obtain⟨rfl,-,-⟩:=Value.slice.inj a;cases d
 ·cases a;cases d;exact g
theorem Hp.JX (h:Hp F B w0 L w) (i:Nat) (hi:L[i]?=some (ob A)) (d:AZ e t w0.heap.size w (ZZ F B Z w0.heap.size L) A c xs):Sl e w (ZZ F B Z w0.heap.size (L.eraseIdx i)) A c xs:=
 (d.up (Ai i)).sl fun k b h0=>.inr ⟨h0,fun hm=>by
  obtain⟨j,a⟩:=List.mem_iff_getElem?.1 hm;rw[List.getElem?_eraseIdx] at a;split at a
  ·exact h.ap i j k (by omega) (by rw[hi,b]) a
  ·exact h.ap i (j+1) k (by omega) (by rw[hi,b]) a⟩
theorem Hp.KE (h:Hp F B w0 L w) (i:Nat) (hi:L[i]?=some (ob A)) (a:List Nat) (d:(a.all fun j=> !Nat.beq i j)=true) (b:FL L a M) (f:AZ e t w0.heap.size w (ZZ F B Z w0.heap.size L) A c xs):Sl e w (ZZ FN [] Z w0.heap.size M) A c xs:=
 (f.up (AG b.sub)).sl fun k g h0=>.inr ⟨h0,fun hm=>h.Cm (F':=FN) i (by rw[hi,g]) a d b (fun _ h=>h.elim) (.inr hm)⟩
theorem Hp.kn{b:Nat}(h:Hp F B w0 L w)(a:w.heap.size≤b):ZZ F B Z w0.heap.size L b:=
 .inr ⟨Nat.le_trans h.sz a,fun hm=>absurd (h.lo b hm).1 (Nat.not_lt.2 a)⟩
theorem GK {b:Nat} {cs:Array Value} {Bj:List (List Value)} (f:Bk w b t cs) (c:n0≤b) (h:R2 e w Z Bj xs) (d:Bj.flatten=cs.toList) (hm:xs.length≤maxLen):AZ e t n0 w Z (some ⟨b,0,none⟩) xs.length xs:=by
 have hl:=h.Ig;have a:cs.size=xs.length*e.sz:=by rw[←hl,d];simp
 refine⟨Bj,h,hl,.inr ⟨b,xs.length,cs,rfl,c,f,Nat.le_refl _,hm,a,?_⟩⟩;rw[d,List.take_of_length_le (by simp[a])]
theorem Hp.hand (h:Hp F B w0 L w) {D:Nat→Prop} (g:Bz D w w') (p:∀k,D k→F k∨some k∈L) (l:AZ e t w.heap.size w' Z' A c xs):Hp F B w0 (ob A::L) w':=by
 have b:=h.B6 g p;cases m:ob A with
 |none=>exact b.nil
 |some k=>
  have r:=l.ge k m;have n:=l.HA k m;refine⟨b.ch,fun x a=>?_,?_,h.ff⟩
  ·rcases List.mem_cons.1 a with e|a
   ·cases e;have s:=h.sz;exact⟨n,fun q=>absurd (h.ff _ q) (by omega),fun hl=>absurd hl (by omega)⟩
   ·exact b.lo x a
  ·have key:∀(j:Nat) (x:Nat),L[j]?=some (some x)→x≠k:=fun j x a e=>by
    have:=(h.lo x (List.mem_of_getElem? a)).1;omega
   intro i j x o hi d;cases i with
   |zero=>
    cases j with
    |zero=>exact o rfl
    |succ j=>
     have f:k=x:=by simpa using hi
     exact key j x (by simpa using d) f.symm
   |succ i=>
    cases j with
    |zero=>
     have f:k=x:=by simpa using d
     exact key i x (by simpa using hi) f.symm
    |succ j=>exact h.ap i j x (by omega) (by simpa using hi) (by simpa using d)
theorem Hp.Bh(h:Hp F B w0 L w){D:Nat→Prop}(g:Bz D w w')(f:∀k,D k→F k∨some k∈L)(i:AZ e t w.heap.size w' Z' A c xs){a:Nat→Prop}:Mv w (ZZ F B a w0.heap.size L) w' (ZZ F B a w0.heap.size (ob A::L)):=by
 refine⟨g.size,fun b d hl=>⟨d.imp id fun⟨l,m⟩=>⟨l,fun hm=>?_⟩,g.block b hl (h.Nb f b d)⟩⟩;rcases List.mem_cons.1 hm with e|hm
 ·have:=i.ge b e.symm;omega
 ·exact m hm
theorem Hp.Ko(h:Hp F B w0 L w){b:Nat}(g:w.heap.size≤b)(d:AZ e t b w' (ZZ FN [] (ZZ F B Z w0.heap.size L) b [ob A]) A c xs):AZ e t w0.heap.size w' (ZZ F B Z w0.heap.size (ob A::L)) A c xs:=
 (d.base (n1:=w0.heap.size) fun k a=>Nat.le_trans h.sz (Nat.le_trans g (d.ge k a))).up (h.call g (fun k a=>by
  rw[List.mem_singleton] at a;exact .inr (d.ge k a.symm)) fun x f=>by
  rcases List.mem_cons.1 f with e|f
  ·exact .inr (by rw[e];exact List.mem_singleton_self _)
  ·exact .inl f)
end
def i64(x:Int):Option Int:=if-9223372036854775808≤x∧x≤9223372036854775807 then some x else none
theorem N1{x y:Int}(h:i64 x=some y):y=x∧fits x:=by
 unfold i64 at h;split at h
 ·exact⟨(Option.some.inj h).symm,by assumption⟩
 ·cases h
def idx{α:Type}(xs:List α)(i:Int):Option α:=if 0≤i then xs[i.toNat]? else none
theorem N2{α:Type}{xs:List α}{i:Int}{x:α}(h:idx xs i=some x):∃k:Nat,i=k∧xs[k]?=some x∧k<xs.length:=by
 unfold idx at h;split at h
 ·exact⟨i.toNat,by omega,h,(List.getElem?_eq_some_iff.1 h).1⟩
 ·cases h
def quo(a b:Int):Option Int:=if 0≤a∧1≤b then some (a/b) else none
theorem N3{a b y:Int}(h:quo a b=some y):y=a/b∧0≤a∧1≤b:=by
 unfold quo at h;split at h
 ·exact⟨(Option.some.inj h).symm,by assumption⟩
 ·cases h
theorem Bo{α:Type}{x:Int}{f:Int→Option α}{r:α}(h:(i64 x).bind f=some r):fits x∧f x=some r:=by
 obtain⟨y,a,b⟩:=Option.bind_eq_some_iff.1 h;obtain⟨rfl,c⟩:=N1 a;exact⟨c,b⟩
theorem BD{α β:Type}{xs:List α}{i:Int}{f:α→Option β}{r:β}(h:(idx xs i).bind f=some r):∃(k:Nat) (x:α),i=k∧xs[k]?=some x∧k<xs.length∧f x=some r:=by
 obtain⟨x,a,b⟩:=Option.bind_eq_some_iff.1 h;obtain⟨k,c,d,e⟩:=N2 a;exact⟨k,x,c,d,e,b⟩
theorem N4{α:Type}{a b:Int}{f:Int→Option α}{r:α}(h:(quo a b).bind f=some r):(0≤a∧1≤b)∧f (a/b)=some r:=by
 obtain⟨y,c,d⟩:=Option.bind_eq_some_iff.1 h;obtain⟨rfl,e⟩:=N3 c;exact⟨e,d⟩
def Gd (p:Prop) [Decidable p]:Option Unit:=if p then some () else none
theorem Da{α:Type}{p:Prop}[Decidable p]{f:Unit→Option α}{r:α}(h:(Gd p).bind f=some r):p∧f ()=some r:=by
 unfold Gd at h;split at h
 ·exact⟨by assumption,h⟩
 ·cases h
theorem Aw{α:Type}{b:Bool}{x y:Option α}{r:α}(h:cond b x y=some r)(a:b=true):x=some r:=by subst a;exact h
theorem Ax{α:Type}{b:Bool}{x y:Option α}{r:α}(h:cond b x y=some r)(a:b=false):y=some r:=by subst a;exact h
theorem bind_some{α β:Type}{x:Option α}{f:α→Option β}{r:β}(h:x.bind f=some r):∃a,x=some a∧f a=some r:=Option.bind_eq_some_iff.1 h
theorem Dp{α β a:Type}{x:α}{f:α→Option a}{g:β→Option a}{r:a}(h:Sum.elim f g (.inl x)=some r):f x=some r:=h
theorem Dq{α β a:Type}{x:β}{f:α→Option a}{g:β→Option a}{r:a}(h:Sum.elim f g (.inr x)=some r):g x=some r:=h
theorem OM{P:Program}{ro:Option Nat}{c:Code}{Q d:Exit→Act→World→Prop}{a:Act}{w:World}(h:CW P ro c Q a w)(i:∀e a w,Q e a w→d e a w):CW P ro c d a w:=by
 intro b k cs f l g;obtain⟨e,m,n,o,p⟩:=h b k cs f l g;exact⟨e,m,n,i _ _ _ o,p⟩
theorem Ct {P:Program} {X:Ctx} {N:Nat} {c:Code} {Q:Exit→Act→World→Prop} {a:Act} {l:Env} {w:World} (d:Exit→Act→World→Prop) (h:CC P X N c d a l w) (b:∀e a w,d e a w→Q e a w):CC P X N c Q a l w:=
 fun s=>OM (h s) b
theorem QY{X:Ctx}{N:Nat}{Q:Exit→Act→World→Prop}{e:Exit}{a:Act}{w:World}(b:a.tmps.size=N)(c:a.defers=X.ds)(h:LV X N Q e a [] w):Q e a w:=h ⟨b,c,fun _ d=>by cases d⟩
theorem Cg{X:Ctx}{N:Nat}{Q:Exit→Act→World→Prop}{e:Exit}{a:Act}{l:Env}{w:World}(h:St X N a l→Q e (BX a l) w):LV X N Q e a l w:=h
section
variable{P:Program}{a:Act}{w:World}{dst:Option Tmp}{ty:TypeId}{pos:String}{BY:Array Edge}{g:Option (Nat×Bool)}
theorem D1 {t:TypeId} {x:Operand} {Z:Nat→Prop} {b o k:Nat} {cs:List Value} {v:Value} (h:One P t) (c:a.eval x=.pointer (some ⟨b,o+k,none⟩)) (d:Rz w Z (some ⟨b,o,none⟩) cs) (e:cs[k]?=some v):
  B2 P ⟨dst,.load t x,ty,pos,BY,g⟩ a w (fun u w'=>u=v∧w'=w):=KQ h c d.cells e
theorem CD{t:TypeId}{x:Operand}{Z:Nat→Prop}{b o:Nat}{cs:List Value}{v:Value}(h:One P t)(c:a.eval x=.pointer (some ⟨b,o,none⟩))(d:Rz w Z (some ⟨b,o,none⟩) cs)(e:cs[0]?=some v):
  B2 P ⟨dst,.load t x,ty,pos,BY,g⟩ a w (fun u w'=>u=v∧w'=w):=KQ (k:=0) h c d.cells e
theorem CQ{t:TypeId}{x:Operand}{Z:Nat→Prop}{n b o:Nat}{cs l:List Value}(h:Eu P t n)(c:a.eval x=.pointer (some ⟨b,o,none⟩))(d:Rz w Z (some ⟨b,o,none⟩) cs)
  (hl:cs.take n=l)(e:l.length=n):B2 P ⟨dst,.load t x,ty,pos,BY,g⟩ a w (fun u w'=>u=.agg l.toArray∧w'=w):=MQ (k:=0) h c d.cells (by simpa using hl) e
theorem G5 {α:Type} {e:Ck α} {s x:Operand} {t r:TypeId} {z:Value} {sz bytes:Nat} (aP:P.underlying t=some (.slice r)) (hi:(P.info? r).map (fun i=>(i.zero,i.size,i.bytes))=some (some z,sz,bytes)) (aE:z.cells.size=sz) (aF:e.sz=sz) (h0:0<sz)
  {n0:Nat} {Z:Nat→Prop} {A B:Option Addr} {c d n:Nat} {xs ys:List α} (aQ:a.eval s=.slice A n c) (aR:xs.length=n) (aS:a.eval x=.slice B ys.length d) (aC:AZ e r n0 w Z A c xs) (aG:∃Bj,R2 e w Z Bj ys∧Rz w ZA B Bj.flatten)
  (aH:xs.length+ys.length≤maxLen) (l:(xs.length+ys.length)*bytes≤140737488355328) (y:n0≤w.heap.size) (aI:ys≠[]):
  B2 P ⟨dst,.call {callee:=.builtin .append,args:= #[s,x],argTypes:= #[t,t]},ty,pos,BY,g⟩ a w (fun v w'=>∃p aA,v=.slice p (xs++ys).length aA∧w.grownBy w' (ob A)∧(∀k,ob p=some k→(ob A=some k∨w.heap.size≤k)∧k<w'.heap.size)∧
   ∃Bj f,R2 e w Z Bj xs∧R2 e w Z f ys∧Dn w' n0 r e.sz p (xs++ys).length aA (Bj++f).flatten):=by
 obtain⟨Bj,aT,aU⟩:=aC;obtain⟨f,aB,aV⟩:=aG;subst aF;subst aR;have aJ:f.flatten≠[]:=fun aW=>by
  have:=aB.Ig;rw[aW] at this;have hl:0<ys.length:=List.length_pos_iff.2 aI;have:=Nat.mul_pos hl h0;simp at*;omega
 obtain⟨b,o,rfl,-,-,aX⟩:=aV.resolve_left aJ;refine(Na (ad:=⟨b,o,none⟩) (news:=f.flatten) (m:=ys.length) aP hi aE h0 aQ aS aU (fun j u hu=>by rw[FW];exact aX j u hu) aB.Ig aB.one aH l y).mono ?_;rintro v w' ⟨p,aA,rfl,q,aK,-,aY⟩;rw[P9] at aK;refine⟨p,aA,by rw[List.length_append],aK,fun k aL=>?_,Bj,f,aT,aB,by rw[List.length_append,List.flatten_append];exact q⟩;have a3:=q.HA (k:=k) (o:=0);rcases q.2 with⟨aD,_⟩|⟨aM,aZ,a0,aD,_,aN,_⟩
 ·obtain⟨rfl,-,-⟩:=Value.slice.inj aD;cases aL
 ·cases aD;have aO:aM=k:=by simpa[ob] using aL
  subst aO;refine⟨?_,lt_of_block aN⟩;rcases aY aM 0 rfl with⟨o',a2⟩|h
  ·left;rw[a2];rfl
  ·exact .inr h
theorem Ey{α:Type}{e:Ck α}{t:TypeId}{n0:Nat}{w w':World}{Z Z':Nat→Prop}{A:Option Addr}{c:Nat}{xs ys:List α}
  (h:∃Bj a,R2 e w Z Bj xs∧R2 e w Z a ys∧Dn w' n0 t e.sz A (xs++ys).length c (Bj++a).flatten)(hm:Mv w Z w' Z'):AZ e t n0 w' Z' A c (xs++ys):=by
 obtain⟨Bj,a,b,d,f⟩:=h;exact⟨Bj++a,(b.mv hm).append (d.mv hm),f⟩
theorem Sl.news{α:Type}{e:Ck α}{Z:Nat→Prop}{A:Option Addr}{c:Nat}{xs:List α}(h:Sl e w Z A c xs):∃Bj,R2 e w Z Bj xs∧Rz w ZA A Bj.flatten:=by
 obtain⟨_,_,Bj,a,b⟩:=h;exact⟨Bj,a,b.mv Jk⟩
theorem Hl {α:Type} {e:Ck α} {Z:Nat→Prop} {b:Nat} {t:TypeId} {cs:Array Value} {Bj:List (List Value)} {xs:List α} (a:Bk w b t cs) (h:R2 e w Z Bj xs) (c:Bj.flatten=cs.toList):∃Bj,R2 e w Z Bj xs∧Rz w ZA (some ⟨b,0,none⟩) Bj.flatten:=
 ⟨Bj,h,.inr ⟨b,0,rfl,trivial,a.lt,fun j u hu=>by rw[Nat.zero_add,a.cell];rw[c] at hu;simpa using hu⟩⟩
theorem CG{α:Type}{e:Ck α}{Z:Nat→Prop}{b:Nat}{t:TypeId}{cs:Array Value}{Bj:List (List Value)}{xs:List α}(a:Bk w b t cs)(d:Z b)(h:R2 e w Z Bj xs)(f:Bj.flatten=cs.toList){c:Nat}(hl:xs.length≤c):Sl e w Z (some ⟨b,0,none⟩) c xs:=
 ⟨hl,(fun e=>by cases e),Bj,h,.inr ⟨b,0,rfl,d,a.lt,fun j u hu=>by rw[Nat.zero_add,a.cell];rw[f] at hu;simpa using hu⟩⟩
end
def I0(D:Nat→Bool)(i:Nat):Nat→Bool:=fun j=>cond (Nat.beq j i) true (D j)
def I1(V:Nat→Value)(i:Nat)(v:Value):Nat→Value:=fun j=>cond (Nat.beq j i) v (V j)
theorem Nc(D:Nat→Bool)(i:Nat):I0 D i i=true:=by unfold I0;rw[Nat.beq_refl];rfl
theorem ON(D:Nat→Bool){i j:Nat}(h:j≠i):I0 D i j=D j:=by
 have:Nat.beq j i=false:=by
  cases a:Nat.beq j i with
  |false=>rfl
  |true=>exact absurd (Nat.eq_of_beq_eq_true a) h
 unfold I0;rw[this];rfl
theorem Nd(V:Nat→Value)(i:Nat)(v:Value):I1 V i v i=v:=by unfold I1;rw[Nat.beq_refl];rfl
theorem OO(V:Nat→Value){i j:Nat}(v:Value)(h:j≠i):I1 V i v j=V j:=by
 have:Nat.beq j i=false:=by
  cases a:Nat.beq j i with
  |false=>rfl
  |true=>exact absurd (Nat.eq_of_beq_eq_true a) h
 unfold I1;rw[this];rfl
structure HL (L:List Oper) (a:Act) (l:Env) (D:Nat→Bool) (V:Nat→Value) (k:Nat) (o:Oper) (a':Act):Prop where
 out:∀s,isDst L s=false→sl a' s=lk (sl a s) l s
 BF:∀j d,DL o j=true→Ca L j=some d→sl a' d=V j
 dn:∀j,DL o j=true→D j=true
 me:D k=false
 down:∀j o',L[j]?=some o'→D j=true→∀k',DL o' k'=true→D k'=true
theorem HL.no{L:List Oper}{a:Act}{l:Env}{D:Nat→Bool}{V:Nat→Value}{k:Nat}{o:Oper}{a':Act}(K:HL L a l D V k o a')(j:Nat)(o':Oper)(b:L[j]?=some o')(h:DL o' k=true):D j=false:=by
 cases c:D j with
 |false=>rfl
 |true=>have:=K.down j o' b c k h;rw[K.me] at this;cases this
theorem HL.later {N:Nat} {L:List Oper} {a:Act} {l:Env} {D:Nat→Bool} {V:Nat→Value} {k:Nat} {o:Oper} {a':Act} (K:HL L a l D V k o a') (g:Jc N L=true) (e:∀s,(∀j,Ca L j=some s→D j=false)→sl a' s=lk (sl a s) l s)
  (j d:Nat) (o':Oper) (f:L[j]?=some o') (b:o'.dst=some d) (c:DL o' k=true):sl a' d=lk (sl a d) l d:=e d fun i hi=>by
 have h:Ca L j=some d:=by simp[Ca,f,b]
 obtain rfl:=(HK g j i d h).2 hi;exact K.no j o' f c
section
variable(P:Program)(L:List Oper)(a:Act)(l:Env)(I:(Nat→Bool)→(Nat→Value)→World→Prop)
structure MU (D:Nat→Bool) (V:Nat→Value) (k:Nat) (o:Oper) (a':Act):Prop extends HL L a l D V k o a' where
 later:∀(j d:Nat) (o':Oper),L[j]?=some o'→o'.dst=some d→DL o' k=true→sl a' d=lk (sl a d) l d
def MV(k:Nat)(o:Oper):Prop:=∀D V a' w',MU L a l D V k o a'→I D V w'→
 (Region.wanted o (yielded L.toArray a'.tmps)=true∧B2 P o a' w' (fun v Bm=>I (I0 D k) (I1 V k v) Bm))∨
 (Region.wanted o (yielded L.toArray a'.tmps)=false∧I (I0 D k) (I1 V k undef) w')
def Lp:Nat→Nat→List Oper→Prop
 |0,_,_=>True
 |_+1,_,[]=>True
 |m+1,k,o::R=>MV P L a l I k o∧Lp m (k+1) R
def Lq:Nat→Nat→List Oper→(Nat→Value)→Env→Env
 |0,_,_,_,l=>l
 |_+1,_,[],_,l=>l
 |m+1,k,o::R,V,l=>match o.dst with
  |some d=>Lq m (k+1) R V ((d,V k)::l)
  |none=>Lq m (k+1) R V l
end
section
variable{P:Program}{X:Ctx}{N:Nat}{L:List Oper}{Q:Exit→Act→World→Prop}{a:Act}{l:Env}{w:World}{I:(Nat→Bool)→(Nat→Value)→World→Prop}{k:Nat}{o:Oper}
theorem sj(b:o.guard=none)(h:∀D V a' w',MU L a l D V k o a'→I D V w'→B2 P o a' w' (fun v Bm=>I (I0 D k) (I1 V k v) Bm)):MV P L a l I k o:=
 fun D V a' w' K c=>.inl ⟨by unfold Region.wanted;rw[b],h D V a' w' K c⟩
theorem Kp:∀{m:Nat} {R:List Oper} {k:Nat},Lp P L a l I m k R→∀(i:Nat) (o:Oper),i<m→R[i]?=some o→MV P L a l I (k+i) o
 |0,_,_,_,i,o,hi,_=>absurd hi (by omega)
 |_+1,[],_,_,i,o,_,b=>by simp at b
 |m+1,o'::R,k,h,i,o,hi,b=>by
  cases i with
  |zero=>
   obtain rfl:o'=o:=by simpa using b
   exact h.1
  |succ i=>
   have:=Kp h.2 i o (by omega) (by simpa using b);rw[Nat.add_assoc,Nat.add_comm 1 i] at this;exact this
theorem Lr{V:Nat→Value}{G:Env→Prop}{w':World}:∀(m:Nat) (R:List Oper) (k:Nat) (b:Env),G (Lq m k R V b)→IU X N a (fun k v _=>v=V k) (fun _ _=>True) G w' m k R b
 |0,_,_,_,h=>fun _=>h
 |_+1,[],_,_,h=>fun _=>h
 |m+1,o::R,k,b,h=>by
  simp only[IU];simp only[Lq] at h;cases c:o.dst with
  |none=>rw[c] at h;exact Lr m R (k+1) b h
  |some d=>rw[c] at h;rintro v rfl;exact Lr m R (k+1) _ h
theorem Gt{id:Nat}(m:Nat)(I:(Nat→Bool)→(Nat→Value)→World→Prop)(hm:P.follows .mixedOrders=true)(aW:Jz N L []=true)(a6:(Nat.ble m L.length&&Ia L m)=true)(h0:I (fun _=>false) (fun _=>undef) w.drew)
  (bX:Lp P L a l I m 0 L)(bE:∀D V w',(∀j,Nat.blt j m=true→D j=true)→I D V w'→WL P X N L.toArray Q (L.drop m) a (Lq m 0 L V l) w'):CC P X N (.region id L.toArray true) Q a l w:=fun st=>
 wpIn_region_any hm (by
  have aQ:=aW;simp only[Jz,Bool.and_eq_true] at aQ;obtain⟨⟨aR,a7⟩,_⟩:=aQ;rw[Bool.and_eq_true] at a6;obtain⟨bF,a8⟩:=a6;have bG:m≤L.length:=Nat.le_of_ble_eq_true bF;have aG:=HK a7;have fin:∀(fuel:Nat) (listed:Array Bool) (a':Act) (w':World) (D:Nat→Bool) (V:Nat→Value),listed.toList.count false≤fuel→listed.size=L.length→a'.tmps.size=N→a'.defers=X.ds→
    (∀s,(∀j,Ca L j=some s→listed.getD j false=false)→sl a' s=lk (sl a s) l s)→(∀j d,listed.getD j false=true→Ca L j=some d→sl a' d=V j)→(∀j,j<L.length→D j=listed.getD j false)→
    I D V w'→(∀j,m≤j→listed.getD j false=false)→(∀j,j<m→listed.getD j false=true)→wpAnyIn (Wd X.ro) 0 P .any L.toArray Q fuel listed a' w':=by
   intro fuel listed a' w' D V aX z aA aE r q aB aV c aN;have bH:wpListIn (Wd X.ro) 0 P L.toArray Q (L.drop m) a' w':=by
    refine JA (K:=wpListIn (Wd X.ro) 0 P L.toArray Q (L.drop m) a' w') (X:=X) (N:=N) (Φ:=fun k v _=>v=V k) (fun _ _=>True) (fun bI=>WL P X N L.toArray Q (L.drop m) a bI w') w' a' trivial aA aE (fun bI bJ bY e=>by rw[e];exact bY bJ) m L 0 l st bG (fun i d hi=>(aG i i d hi).1) (fun i j d hi b=>(aG i j d hi).2 b)
     (Lr m L 0 l (bE D V w' (fun j b=>by
      have aK:j<m:=by simpa[Nat.blt_eq] using b
      rw[aB j (by omega)];exact aN j aK) aV)) (fun i d aY aO=>?_) (fun s t=>?_)
    ·rw[Nat.zero_add];exact q i d (aN i aY) aO
    ·refine r s fun j b=>?_;rcases Nat.lt_or_ge j m with h|h
     ·exact absurd b (t j h)
     ·exact c j h
   refine Lg a8 aR (L.drop m) m fuel listed a' w' rfl (Nat.le_refl _) ?_ z (fun i hi=>?_) bH
   ·refine Nat.le_trans ?_ aX;have e:listed.toList.drop m=List.replicate (L.length-m) false:=by
     apply List.ext_getElem
     ·simp[z]
     ·intro i aH aP;simp at aH;have:=c (m+i) (by omega);rw[Array.getD_eq_getD_getElem?,Array.getElem?_eq_getElem (by omega)] at this;simpa using this
    have aP:(listed.toList.drop m).count false≤listed.toList.count false:=(List.drop_sublist m listed.toList).count_le false;rw[e,List.count_replicate_self] at aP;simpa using aP
   ·rcases Nat.lt_or_ge i m with h|h
    ·simp[aN i h,h]
    ·simp only[c i h];constructor
     ·intro aZ;cases aZ
     ·intro aZ;omega
  have main:∀(fuel:Nat) (listed:Array Bool) (a':Act) (w':World) (D:Nat→Bool) (V:Nat→Value),listed.toList.count false≤fuel→listed.size=L.length→a'.tmps.size=N→a'.defers=X.ds→
    (∀s,(∀j,Ca L j=some s→listed.getD j false=false)→sl a' s=lk (sl a s) l s)→(∀j d,listed.getD j false=true→Ca L j=some d→sl a' d=V j)→(∀j,j<L.length→D j=listed.getD j false)→
    (∀(j:Nat) (o:Oper),L[j]?=some o→listed.getD j false=true→∀e∈o.after,Region.binds .any e=true→listed.getD e.on false=true)→I D V w'→(∀j,m≤j→listed.getD j false=false)→wpAnyIn (Wd X.ro) 0 P .any L.toArray Q fuel listed a' w':=by
   intro fuel
   induction fuel with
   |zero=>
    intro listed a' w' D V aX z aA aE r q aB y aV c;refine fin 0 listed a' w' D V aX z aA aE r q aB aV c fun j b=>?_;have aK:j<listed.size:=by omega
    cases u:listed[j] with
    |true=>simp[aK,u]
    |false=>
     have:false∈listed.toList:=by rw[←u];simp
     have:=List.count_pos_iff.2 this;omega
   |succ fuel ih=>
    intro listed a' w' D V aX z aA aE r q aB y aV c
    by_cases aS:∀j,j<m→listed.getD j false=true
    ·exact fin (fuel+1) listed a' w' D V aX z aA aE r q aB aV c aS
    have hex:∃j,j<m∧listed.getD j false=false:=by
     false_or_by_contra
     rename_i bK
     refine aS fun j b=>?_;cases u:listed.getD j false with
     |true=>rfl
     |false=>exact absurd ⟨j,b,u⟩ bK
    constructor
    ·intro bZ;exfalso;obtain⟨j,b,u⟩:=hex;refine absurd u ?_;rw[Bool.not_eq_false];clear u
     induction j using Nat.strongRecOn with
     |_ j bL=>
      cases u:listed.getD j false with
      |true=>rfl
      |false=>
       exfalso;have aK:j<listed.size:=by omega
       have hm:j∈Region.ready .any L.toArray listed:=mem_ready.2 ⟨by simp[aK] at u⊢;exact u,L[j],by simp,fun e he g=>by
        have aH:=DH aR j L[j] (List.getElem?_eq_getElem (by omega)) e he g;exact bL e.on (by omega) (by omega)⟩
       rw[bZ] at hm;cases hm
    ·intro i hi;obtain⟨h0,o,bM,aI⟩:=mem_ready.1 hi;have aC:L[i]?=some o:=by simpa using bM
     have bN:i<L.length:=(List.getElem?_eq_some_iff.1 aC).1;have aF:i<listed.size:=by omega
     have aT:listed.getD i false=false:=by simp[aF] at h0⊢;exact h0
     have aY:i<m:=by
      rcases Nat.lt_or_ge i m with h|h
      ·exact h
      ·obtain⟨j,b,u⟩:=hex;have:=IV (p:=fun x=>listed.getD x false=true) (fun d od bO aL k aW=>by
        obtain⟨e,he,g,aD⟩:=D0.1 aW;have:=y d od bO aL e he g
        rwa[aD] at this) (Iv a8 aC h j (by omega)) (fun b1 a9 k aW=>by
        rw[aC] at a9;obtain rfl:o=b1:=by simpa using a9
        obtain⟨e,he,g,aD⟩:=D0.1 aW;have:=aI e he g
        rwa[aD] at this)
       rw[u] at this;cases this
     have aL:∀j,DL o j=true→listed.getD j false=true∧j<L.length:=fun j b=>by
      obtain⟨e,he,g,aD⟩:=D0.1 b;have aH:=aI e he g;have aP:=DH aR i o aC e he g;rw[aD] at aH aP;exact⟨aH,by omega⟩
     have bA:HL L a l D V i o a':=by
      refine⟨fun s t=>r s fun j b=>?_,fun j d b aO=>q j d (aL j b).1 aO,fun j b=>by rw[aB j (aL j b).2];exact(aL j b).1,by rw[aB i bN];exact aT,fun j bP b bB k' aQ=>?_⟩
      ·have:=Jd.2 ⟨j,b⟩;rw[t] at this;cases this
      ·have a0:j<L.length:=(List.getElem?_eq_some_iff.1 b).1;rw[aB j a0] at bB;obtain⟨e,he,g,aD⟩:=D0.1 aQ;have aH:=y j bP b bB e he g;have aP:=DH aR j bP b e he g;rw[aD] at aH aP;rw[aB k' (by omega)];exact aH
     have hK:MU L a l D V i o a':=⟨bA,bA.later a7 fun s t=>r s fun j b=>by
      have a0:j<L.length:=by
       unfold Ca at b;cases bQ:L[j]? with
       |none=>rw[bQ] at b;cases b
       |some o=>exact(List.getElem?_eq_some_iff.1 bQ).1
      rw[←aB j a0];exact t j b⟩
     have aJ:Ca L i=o.dst:=by simp[Ca,aC]
     have step:∀v Bm,I (I0 D i) (I1 V i v) Bm→wpAnyIn (Wd X.ro) 0 P .any L.toArray Q fuel (listed.setIfInBounds i true) (a'.put o.dst v) Bm:=by
      intro v Bm a2;have a3:∀s,(∀d,o.dst=some d→d≠s)→sl (a'.put o.dst v) s=sl a' s:=by
       intro s t;cases aO:o.dst with
       |none=>rfl
       |some d=>exact Jg (t d aO)
      refine ih _ _ _ (I0 D i) (I1 V i v) ?_ (by simp[z]) ?_ ?_ ?_ ?_ ?_ ?_ a2 (fun j b=>by rw[Dc (by omega)];exact c j b)
      ·have aU:i<listed.toList.length:=by simpa using aF
       have a4:listed.toList[i]=false:=by
        simp[aF] at aT;simpa using aT
       have bR:(listed.setIfInBounds i true).toList=listed.toList.set i true:=by simp
       rw[bR,List.count_set aU,a4];have aH:0<listed.toList.count false:=List.count_pos_iff.2 (by rw[←a4];exact List.getElem_mem aU);have b2:(if (false==false)=true then 1 else 0)=1:=rfl;have b3:(if (true==false)=true then 1 else 0)=0:=rfl;rw[b2,b3];omega
      ·cases o.dst<;>simp[Act.put,aA]
      ·cases o.dst<;>simp[Act.put,aE]
      ·intro s t;rw[a3 s (fun d aO bS=>by
        subst bS;have:=t i (by rw[aJ,aO]);rw[E0 aF] at this;cases this)]
       refine r s fun j b=>?_;have:=t j b
       by_cases n:i=j
       ·subst n;exact aT
       ·rwa[Dc n] at this
      ·intro j d b aM
       by_cases n:i=j
       ·subst n;rw[aJ] at aM;have aU:d<a'.tmps.size:=by rw[aA];exact(aG i i d (by rw[aJ,aM])).1
        rw[aM,JQ aU,Nd]
       ·rw[Dc n] at b;have:sl (a'.put o.dst v) d=sl a' d:=by
         refine a3 d fun b4 bT bU=>?_;subst bU;exact n ((aG i j b4 (by rw[aJ,bT])).2 aM)
        rw[this,OO _ _ (Ne.symm n)];exact q j d b aM
      ·intro j b
       by_cases n:i=j
       ·subst n;rw[Nc,E0 aF]
       ·rw[ON _ (Ne.symm n),Dc n];exact aB j b
      ·intro j bV b bC e he g
       by_cases bD:i=e.on
       ·rw[←bD];exact E0 aF
       ·rw[Dc bD]
        by_cases n:i=j
        ·subst n;rw[aC] at b;obtain rfl:o=bV:=by simpa using b
         exact aI e he g
        ·rw[Dc n] at bC;exact y j bV b bC e he g
     have b5:=Kp bX i o aY aC;unfold wpOpIn;simp only[bM];rcases b5 D V a' w' (by rw[Nat.zero_add];exact hK) aV with⟨hw,bW⟩|⟨hw,hu⟩
     ·rw[if_pos hw];rw[Nat.zero_add] at bW;exact bW.wp fun v Bm a2=>step v Bm a2
     ·rw[if_neg (by rw[hw];simp)];rw[Nat.zero_add] at hu;exact⟨fun f _=>KZ X.ro f,step undef w' hu⟩
  have a5:∀j,(Array.replicate L.length false).getD j false=false:=by
   intro j;rw[Array.getD_eq_getD_getElem?];rcases Nat.lt_or_ge j L.length with h|h
   ·simp[h]
   ·simp[h]
  have e:L.toArray.size=L.length:=by simp
  rw[e];refine main L.length (Array.replicate L.length false) (BX a l) w.drew (fun _=>false) (fun _=>undef) (Nat.le_trans (List.count_le_length ..) (by simp)) (by simp) (by rw[HO,st.sz]) (by rw[Dd,st.df]) (fun s _=>H6 st s) (fun j d h=>?_) (fun j _=>(a5 j).symm) (fun j o h aZ=>?_) h0 (fun j _=>a5 j)
  ·rw[a5 j] at h;cases h
  ·rw[a5 j] at aZ;cases aZ)
end
end Go.Proofs.YtcdofnchafcfpaaGreat
end
section
namespace Go.Proofs.YtcdofnchafcfpaaGreat
open Go.RowKit Go.WideShapes
section
variable{P:Program}{L:List Oper}{a:Act}{l:Env}{T:Nat→Act→World→Prop}{Φ:Nat→Value→World→Prop}{sp:List Nat}{S:Nat→World→World→Prop}{k:Nat}{op:Op}{ty:TypeId}{pos:String}{BY:Array Edge}{dst:Option Nat}
theorem od{c:Value}(b:sp.contains k=false)(d:∀w,Φ k c w)(h:∀{a' w' ph},F6 L a l T Φ sp k ⟨dst,op,ty,pos,BY,none⟩ a' w' ph→B2 P ⟨dst,op,ty,pos,BY,none⟩ a' w' (fun u Bm=>u=c∧Bm=w')):F7 P L a l S T Φ sp k ⟨dst,op,ty,pos,BY,none⟩:=
 P8 rfl b d fun _ _ _ K=>h K
end
def Ls(P:Program)(a:Act)(l:Env)(w:World):ResultVar→Value→Prop
 |.tmp t,v=>ev a l (.tmp t)=v
 |.cell p t,v=>∃ad,ev a l (.tmp p)=.pointer (some ad)∧(loadVar t ad).run P w=.ok v w
section
variable{P:Program}{N:Nat}{a:Act}{l:Env}{w:World}
theorem He{fn:Func}{k d:ResultVar}{v v':Value}{R:Value→World→Prop}(f:fn.results= #[k,d])(n:Ls P a l w k v)(g:Ls P a l w d v')(h:R (.tuple #[v,v']) w):
  LV X0 N (bodyPost P fn (fun e w'=>∃v,e=.returned v∧R v w')) .ret a l w:=fun s=>by
 refine bodyPost_ret (v:=.tuple #[v,v']) ?_ (by rw[Dd,s.df]) ⟨_,rfl,h⟩;cases k with
 |tmp t=>
  have c:(BX a l).tmps.getD t undef=v:=ee s n;simp only[Array.getD_eq_getD_getElem?] at c;cases d with
  |tmp u=>
   have b:(BX a l).tmps.getD u undef=v':=ee s g;simp only[Array.getD_eq_getD_getElem?] at b;simp[results,f,c,b]
  |cell p t=>
   obtain⟨ad,m,i⟩:=g;have b:(BX a l).tmps.getD p undef=.pointer (some ad):=ee s m;simp only[Array.getD_eq_getD_getElem?] at b;simp[results,f,c,b,asAddr,i]
 |cell q t=>
  obtain⟨o,m,i⟩:=n;have c:(BX a l).tmps.getD q undef=.pointer (some o):=ee s m;simp only[Array.getD_eq_getD_getElem?] at c;cases d with
  |tmp u=>
   have b:(BX a l).tmps.getD u undef=v':=ee s g;simp only[Array.getD_eq_getD_getElem?] at b;simp[results,f,c,b,asAddr,i]
  |cell p t=>
   obtain⟨ad,r,x⟩:=g;have b:(BX a l).tmps.getD p undef=.pointer (some ad):=ee s r;simp only[Array.getD_eq_getD_getElem?] at b;simp[results,f,c,b,asAddr,i,x]
end
section
variable{P:Program}{a:Act}{w:World}{dst:Option Tmp}{ty:TypeId}{pos:String}{BY:Array Edge}{g:Option (Nat×Bool)}
theorem Qc{x y:Operand}{m n:Int}{t b:TypeId}(c:a.eval x=.int .i64 m)(d:a.eval y=.int .i64 n)(h0:0≤m)(i:1≤n)(f:fits (m/n)):B2 P ⟨dst,.binOp .quo t x y b,ty,pos,BY,g⟩ a w (fun u w'=>u=.int .i64 (m/n)∧w'=w):=
 CR (by
  have e:m.tdiv n=m/n:=Int.tdiv_eq_ediv_of_nonneg h0;have h:¬n=0:=by omega
  simp[execOp,c,d,eqGuard,binOp,Op.intDiv,h,e,IS f])
theorem MW {x y:Operand} {v1 v2:Value} {x1 x2:List Int} {n:Nat} {t c:TypeId} (d:I8 P t n) (b:P.eqGuardType P.depth t=false) (e:a.eval x=v1) (f:a.eval y=v2) (h:v1=Dz x1) (i:v2=Dz x2) (k:x1.length=n) (l:x2.length=n):
  B2 P ⟨dst,.binOp .eql t x y c,ty,pos,BY,g⟩ a w (fun u w'=>u=.bool (x1==x2)∧w'=w):=by
 refine On e f ?_;subst h;subst i;have m:=d w x1 x2 k l;have o:(eqGuard .eql t x y (Dz x1) (Dz x2)).run P w=.ok () w:=by
  simp[eqGuard,Dz,program,Sem.run,b]
 simp only[Sem.run_bind,o,Result.andThen_ok];show(do pure (Value.bool (←Op.equal t (Dz x1) (Dz x2))):Sem Value).run P w=_;simp only[Sem.run_bind,m,Result.andThen_ok,Sem.run_pure]
theorem MX{x y:Operand}{v1 v2:Value}{x1 x2:List Int}{n:Nat}{t c:TypeId}(d:I8 P t n)(b:P.eqGuardType P.depth t=false)(e:a.eval x=v1)(f:a.eval y=v2)(h:v1=Dz x1)(i:v2=Dz x2)(k:x1.length=n)(l:x2.length=n):
  B2 P ⟨dst,.binOp .neq t x y c,ty,pos,BY,g⟩ a w (fun u w'=>u=.bool (x1 !=x2)∧w'=w):=by
 refine On e f ?_;subst h;subst i;have m:=d w x1 x2 k l;have o:(eqGuard .neq t x y (Dz x1) (Dz x2)).run P w=.ok () w:=by
  simp[eqGuard,Dz,program,Sem.run,b]
 simp only[Sem.run_bind,o,Result.andThen_ok];show(do pure (Value.bool (!(←Op.equal t (Dz x1) (Dz x2)))):Sem Value).run P w=_;simp only[Sem.run_bind,m,Result.andThen_ok,Sem.run_pure];rfl
theorem Kq {t t2 e:TypeId} (b:P.underlying t=some (.slice e)) {i:TypeInfo} (hi:P.info? e=some i) {A B:Option Addr} {n c d:Nat} (f:n≤c) (h:A=none→n=0) (a:P.underlying t2=some (.slice e)):
  (Builtin.append_ #[t,t2] ty #[.slice A n c,.slice B 0 d]).run P w=.ok (.slice A n c) w:=by
 have g:(Builtin.firstCells i.size 0 (.slice B 0 d)).run P w=.ok #[] w:=by
  cases B with
  |none=>simp[Builtin.firstCells]
  |some ad=>simp[Builtin.firstCells,loadCells,loadCellsFrom]
 cases A with
 |none=>simp[Builtin.append_,run_underlying b,run_underlying a,sizeOf,typeInfo,program,Sem.run,hi,Builtin.lenOf,f,g]
 |some ad=>simp[Builtin.append_,run_underlying b,run_underlying a,sizeOf,typeInfo,program,Sem.run,hi,Builtin.lenOf,f,g,storeCells]
theorem Qd {α:Type} {e:Ck α} {s x:Operand} {t h:TypeId} {z:Value} {sz bytes:Nat} (r:P.underlying t=some (.slice h)) (hi:(P.info? h).map (fun i=>(i.zero,i.size,i.bytes))=some (some z,sz,bytes)) (aA:z.cells.size=sz) (aB:e.sz=sz) (h0:0<sz)
  {n0:Nat} {Z:Nat→Prop} {A B:Option Addr} {c d n:Nat} {xs ys:List α} (aC:a.eval s=.slice A n c) (aD:xs.length=n) (aE:a.eval x=.slice B ys.length d) (b:AZ e h n0 w Z A c xs) (aK:Sl e w Z B d ys)
  (aF:xs.length+ys.length≤maxLen) (l:(xs.length+ys.length)*bytes≤140737488355328) (o:n0≤w.heap.size):
  B2 P ⟨dst,.call {callee:=.builtin .append,args:= #[s,x],argTypes:= #[t,t]},ty,pos,BY,g⟩ a w (fun v w'=>∃u aG,v=.slice u (xs++ys).length aG∧w.grownBy w' (ob A)∧(∀k,ob u=some k→(ob A=some k∨w.heap.size≤k)∧k<w'.heap.size)∧
   ∃Bj p,R2 e w Z Bj xs∧R2 e w Z p ys∧Dn w' n0 h e.sz u (xs++ys).length aG (Bj++p).flatten):=by
 by_cases q:ys=[]
 ·subst q;subst aD;obtain⟨Bj,aL,aH⟩:=id b;have f:xs.length≤c∧(A=none→xs.length=0):=by
   rcases aH.2 with⟨y,h0⟩|⟨g,cap,cur,y,_,_,f,_⟩
   ·obtain⟨rfl,-,rfl⟩:=Value.slice.inj y;exact⟨by omega,fun _=>h0⟩
   ·cases y;exact⟨f,fun e=>by cases e⟩
  cases m:P.info? h with
  |none=>simp[m] at hi
  |some i=>
   have aM:=Kq (P:=P) (w:=w) (ty:=ty) (B:=B) (d:=d) r m f.1 f.2 r;have he:(execOp a.eval ⟨dst,.call {callee:=.builtin .append,args:= #[s,x],argTypes:= #[t,t]},ty,pos,BY,g⟩).run P w=.ok (.value (.slice A xs.length c)) w:=by
    have aI:a.eval x=.slice B 0 d:=aE;unfold execOp;simp only[resolve,invoke,builtin,Sem.run_bind,Sem.run_pure,Result.andThen_ok,List.map_toArray,List.map_cons,List.map_nil,aC,aI,aM]
   unfold B2;rw[he];refine⟨A,c,by rw[List.append_nil],World.grownBy.refl w _,fun k aJ=>⟨.inl aJ,b.HA k aJ⟩,Bj,[],aL,trivial,?_⟩;rw[List.append_nil,List.append_nil];exact aH
 ·exact G5 r hi aA aB h0 aC aD aE b aK.news aF l o q
end
theorem Ho:∀(l:List Value) (cs:Array Value) (o j:Nat),o+l.length≤cs.size→(setCells cs o l)[j]?=if o≤j∧j<o+l.length then l[j-o]? else cs[j]?
 |[],cs,o,j,_=>by
  rw[if_neg (by simp only[List.length_nil];omega)];rfl
 |v::l,cs,o,j,h=>by
  rw[List.length_cons] at h;unfold setCells;rw[Ho l _ (o+1) j (by simp;omega)]
  by_cases a:o+1≤j∧j<o+1+l.length
  ·rw[if_pos a,if_pos (by simp;omega),show j-o=(j-(o+1))+1 by omega,List.getElem?_cons_succ]
  ·rw[if_neg a,Array.getElem?_setIfInBounds]
   by_cases b:o=j
   ·subst b;rw[if_pos rfl,if_pos (by omega),if_pos (by rw[List.length_cons];omega)];simp
   ·rw[if_neg b,if_neg (by rw[List.length_cons];omega)]
theorem J6{sz:Nat}{b:List Value}(f:b.length=sz)(h0:0<sz):∀(k:Nat) (Bj:List (List Value)) (j:Nat),(∀c∈Bj,c.length=sz)→k<Bj.length→(Bj.set k b).flatten[j]?=if k*sz≤j∧j<k*sz+sz then b[j-k*sz]? else Bj.flatten[j]?
 |_,[],_,_,h=>by simp at h
 |0,c::Bj,j,a,_=>by
  have d:=a c (List.mem_cons_self ..);rw[List.set_cons_zero,List.flatten_cons,List.flatten_cons]
  by_cases h:j<sz
  ·rw[if_pos (by omega),List.getElem?_append_left (by omega)];simp
  ·rw[if_neg (by omega),List.getElem?_append_right (by omega),List.getElem?_append_right (by omega),f,d]
 |k+1,c::Bj,j,a,h=>by
  have d:=a c (List.mem_cons_self ..);rw[List.set_cons_succ,List.flatten_cons,List.flatten_cons];have e:(k+1)*sz=k*sz+sz:=by rw[Nat.add_mul];omega
  by_cases i:j<sz
  ·rw[if_neg (by omega),List.getElem?_append_left (by omega),List.getElem?_append_left (by omega)]
  ·rw[List.getElem?_append_right (by omega),List.getElem?_append_right (by omega),d,J6 f h0 k Bj (j-sz) (fun c hm=>a c (List.mem_cons_of_mem _ hm)) (by simpa using h)]
   by_cases g:k*sz≤j-sz∧j-sz<k*sz+sz
   ·rw[if_pos g,if_pos (by omega),show j-sz-k*sz=j-(k+1)*sz by omega]
   ·rw[if_neg g,if_neg (by omega)]
section
variable{α:Type}{e:Ck α}{n0:Nat}{w w':World}{Z Z':Nat→Prop}
theorem R2.lens:∀{Bj:List (List Value)} {xs:List α},R2 e w Z Bj xs→∀c∈Bj,c.length=e.sz
 |[],[],_=>by simp
 |c::cs,_::_,h=>by
  intro d a;rcases List.mem_cons.1 a with rfl|a
  ·exact e.len h.1
  ·exact R2.lens h.2 d a
 |[],_::_,h=>h.elim
 |_::_,[],h=>h.elim
theorem R2.free(a:∀w Z w' Z' cs x,e.R w Z cs x→e.R w' Z' cs x):∀{Bj:List (List Value)} {xs:List α},R2 e w Z Bj xs→R2 e w' Z' Bj xs
 |[],[],_=>trivial
 |_::_,_::_,h=>⟨a _ _ _ _ _ _ h.1,R2.free a h.2⟩
 |[],_::_,h=>h.elim
 |_::_,[],h=>h.elim
end
section
variable{P:Program}{a:Act}{w:World}{dst:Option Tmp}{ty:TypeId}{pos:String}{BY:Array Edge}{g:Option (Nat×Bool)}
theorem Ii {α:Type} {e:Ck α} {aG t:TypeId} {x y:Operand} {n b o k p off c:Nat} {v:Value} {n0:Nat} {Z:Nat→Prop} {A:Option Addr} {xs:List α} {z z':α} {cs BZ l:List Value}
  (aH:AZ e aG n0 w Z A c xs) (aK:xs[k]?=some z) (aU:A=some ⟨b,o,none⟩) (aV:p=o+k*e.sz+off) (aW:a.eval x=.pointer (some ⟨b,p,none⟩)) (aX:a.eval y=v) (aY:(P.info? t).map (·.size)=some n) (hl:v.cells.toList=l) (aZ:l.length=n)
  (aL:∀f,e.R w Z f z→f=cs) (a7:cs.length=e.sz) (hle:off+n≤e.sz) (a0:∀u∈l,u.oneCell'=true) (a2:(setCells cs.toArray off l).toList=BZ) (aM:e.R w Z BZ z'):
  B2 P ⟨dst,.store t x y,ty,pos,BY,g⟩ a w (fun _ w'=>w.grownBy w' (ob A)∧∃Bj,R2 e w Z Bj (xs.set k z')∧Dn w' n0 aG e.sz A (xs.set k z').length c Bj.flatten):=by
 obtain⟨Bj,m,a3⟩:=aH;subst aU;subst aV;have aN:k<xs.length:=(List.getElem?_eq_some_iff.1 aK).1;obtain⟨f,a8,aO,aP⟩:=m.get aK;obtain rfl:=aL f aO;have hlen:=m.len;have q:=m.lens;have r:BZ.length=e.sz:=e.len aM;rcases a3.2 with⟨aQ,h0⟩|⟨bB,cap,cur,aQ,aR,a4,aD,aS,aI,s⟩
 ·omega
 ·cases aQ;have a9:k*e.sz+e.sz≤xs.length*e.sz:=by
   have:(k+1)*e.sz≤xs.length*e.sz:=Nat.mul_le_mul_right _ aN;rw[Nat.add_mul,Nat.one_mul] at this;exact this
  have bA:xs.length*e.sz≤c*e.sz:=Nat.mul_le_mul_right _ aD;have aT:Bk w b aG cur:=a4;refine(Bd (BZ:=setCells cur (0+k*e.sz+off) l) aW aX aY aT hl aZ (by omega) a0 rfl).mono ?_;rintro _ w' ⟨s1,s2,a5⟩;have d:=m.set aM k;refine⟨a5,_,d,?_⟩;have aJ:0<e.sz∨e.sz=0:=by omega
  refine⟨by rw[d.Ig],.inr ⟨b,c,setCells cur (0+k*e.sz+off) l,rfl,aR,s2,by rw[List.length_set];exact aD,aS,by rw[HT 0];exact aI,?_⟩⟩;rw[List.length_set];rcases aJ with h0|h0
  ·refine List.ext_getElem? fun j=>?_;rw[J6 r h0 k Bj j q (by omega),List.getElem?_take,Array.getElem?_toList,Ho _ _ _ _ (by omega)];have h:∀j:Nat,Bj.flatten[j]?=if j<xs.length*e.sz then cur[j]? else none:=fun j=>by
    rw[←s,List.getElem?_take,Array.getElem?_toList]
   have aA:∀i,i<e.sz→cur[k*e.sz+i]?=f[i]?:=fun i hi=>by
    have:=h (k*e.sz+i);rw[if_pos (by omega)] at this;rw[←this,←aP,List.getElem?_take,if_pos hi,List.getElem?_drop]
   have aB:∀i,i<e.sz→BZ[i]?=if off≤i∧i<off+l.length then l[i-off]? else f[i]?:=fun i hi=>by
    rw[←a2,Array.getElem?_toList,Ho _ _ _ _ (by simp;omega)];simp
   by_cases aC:j<xs.length*e.sz
   ·rw[if_pos aC]
    by_cases aE:k*e.sz≤j∧j<k*e.sz+e.sz
    ·rw[if_pos aE,aB _ (by omega)]
     by_cases aF:0+k*e.sz+off≤j∧j<0+k*e.sz+off+l.length
     ·rw[if_pos aF,if_pos (by omega),show j-(0+k*e.sz+off)=j-k*e.sz-off by omega]
     ·rw[if_neg aF,if_neg (by omega),←aA _ (by omega),show k*e.sz+(j-k*e.sz)=j by omega]
    ·rw[if_neg aE,if_neg (by omega),h,if_pos aC]
   ·rw[if_neg aC,if_neg (by omega),h,if_neg aC]
  ·have a6:(Bj.set k BZ).flatten=[]:=List.eq_nil_of_length_eq_zero (by rw[d.Ig,h0,Nat.mul_zero]);rw[a6,h0,Nat.mul_zero,List.take_zero]
theorem HD{α:Type}{e:Ck α}{t:TypeId}{n0:Nat}{w w':World}{Z Z':Nat→Prop}{A:Option Addr}{c:Nat}{xs:List α}
  (h:∃Bj,R2 e w Z Bj xs∧Dn w' n0 t e.sz A xs.length c Bj.flatten)(hm:Mv w Z w' Z'):AZ e t n0 w' Z' A c xs:=by
 obtain⟨Bj,a,b⟩:=h;exact⟨Bj,a.mv hm,b⟩
end
def I2 (P:Program) (fv:Value) (vs:Array Value) (w:World) (R:Value→World→Prop):Prop:=
 ∀(a:Act) (dst:Option Tmp) (f:Operand) (xs:Array Operand) (b:Array TypeId) (ty:TypeId) (pos:String) (BY:Array Edge) (g:Option (Nat×Bool)),a.eval f=fv→xs.map a.eval=vs→
  B2 P ⟨dst,.call {callee:=.value f,args:=xs,argTypes:=b},ty,pos,BY,g⟩ a w R
section
variable{P:Program}{fv:Value}{vs:Array Value}{w:World}{R R':Value→World→Prop}
theorem Dj{fn:FuncId}{first cap all:Array Value}(a:Bg P fn)(b:first++vs++cap=all)(h:BI P fn all w R):I2 P (.func (.func fn) first cap) vs w R:=fun _ _ _ _ _ _ _ _ _ c d=>GJ a c d b h
theorem HM{l:Nat}(h:YieldAt Fence.wide 0 P l vs w (fun e w'=>∃v,e=.returned v∧R v w')):I2 P (.func (.yield l) #[] #[]) vs w R:=fun _ _ _ _ _ _ _ _ _ a b=>OK a b h
theorem I2.mono(h:I2 P fv vs w R)(b:∀v w',R v w'→R' v w'):I2 P fv vs w R':=fun a dst f xs c ty pos BY g d e=>(h a dst f xs c ty pos BY g d e).mono b
theorem DA{F:Nat→Prop}{M:List (Option Nat)}{b:Nat}(h:¬FU F M b):¬F b∧some b∉M:=⟨fun a=>h (.inl a),fun a=>h (.inr a)⟩
theorem DJ{a:Act}{dst:Option Tmp}{f:Operand}{xs:Array Operand}{b:Array TypeId}{ty:TypeId}{pos:String}{BY:Array Edge}{g:Option (Nat×Bool)}(h:I2 P fv vs w R)(c:a.eval f=fv)(d:xs.map a.eval=vs):
  B2 P ⟨dst,.call {callee:=.value f,args:=xs,argTypes:=b},ty,pos,BY,g⟩ a w R:=h a dst f xs b ty pos BY g c d
end
structure VL (α:Type) where
 R:World→(Nat→Prop)→Array Value→α→Prop
def v0:VL Unit:=⟨fun _ _ vs _=>vs= #[]⟩
def v1{α:Type}(a:VE α):VL α:=⟨fun w Z vs x=>∃v,vs= #[v]∧a.R w Z v x⟩
def v2{α β:Type}(a:VE α)(b:VE β):VL (α×β):=⟨fun w Z vs x=>∃v u,vs= #[v,u]∧a.R w Z v x.1∧b.R w Z u x.2⟩
def v3{α β d:Type}(a:VE α)(b:VE β)(c:VE d):VL (α×β×d):=⟨fun w Z vs x=>∃v u t,vs= #[v,u,t]∧a.R w Z v x.1∧b.R w Z u x.2.1∧c.R w Z t x.2.2⟩
def MY:VE Unit:=⟨fun _ _ v _=>v=.tuple #[],fun h _=>h⟩
structure Cb (P:Program) {σ α β:Type} (fv:Value) (F:Nat→Prop) (n:Nat) (I:σ→World→(Nat→Prop)→Option Nat→Prop) (ea:VL α) (er:VE β) (cb:σ→α→Option (β×σ)):Prop where
 fc:fv.cells= #[fv]
 f1:fv.oneCell'=true
 ff:∀k,F k→k<n
 call:∀(s:σ) (x:α) (r:β×σ) (w:World) (Z Za:Nat→Prop) (o:Option Nat) (vs:Array Value),n≤w.heap.size→(∀b,Z b→Za b)→(∀b,Za b→¬F b∧some b≠o)→I s w Z o→ea.R w Za vs x→cb s x=some r→
  I2 P fv vs w (fun v w'=>∃o',Bz (FU F [o]) w w'∧(∀k,o'=some k→(o=some k∨w.heap.size≤k)∧k<w'.heap.size)∧er.R w' (ZZ FN [] Z w.heap.size [o']) v r.1∧I r.2 w' (ZZ FN [] Z w.heap.size [o']) o')
 HU:∀(s:σ) (w w':World) (Z Z':Nat→Prop) (o:Option Nat),I s w Z o→Mv w Z w' Z'→(∀b,FU F [o] b→w'.heap[b]?=w.heap[b]?)→I s w' Z' o
 lt:∀(s:σ) (w:World) (Z:Nat→Prop) (o:Option Nat),I s w Z o→∀k,o=some k→k<w.heap.size∧¬F k
section
variable{P:Program}{σ α β:Type}{fv:Value}{F:Nat→Prop}{n:Nat}{I:σ→World→(Nat→Prop)→Option Nat→Prop}{ea:VL α}{er:VE β}{cb:σ→α→Option (β×σ)}
variable{B:List (Option Nat)}{w0 w w':World}{Z:Nat→Prop}{L:List (Option Nat)}
theorem Cb.C0 (h:Cb P fv F n I ea er cb) {s:σ} {o:Option Nat} (d:I s w (ZZ F B Z w0.heap.size L) o) (c:Hp F B w0 L w) {D:Nat→Prop} (g:Bz D w w') (e:∀k,D k→some k∈L) (i:Nat) (hi:L[i]?=some o) (f:∀k,o=some k→¬D k) {Z':Nat→Prop} (hm:Mv w (ZZ F B Z w0.heap.size L) w' Z'):
  I s w' Z' o:=h.HU s w w' _ _ o d hm fun b a=>by
 rcases a with a|a
 ·exact g.block b (Nat.lt_of_lt_of_le (c.ff b a) c.sz) fun l=>(c.lo b (e b l)).2.1 a
 ·rw[List.mem_singleton] at a;exact g.block b (h.lt s w _ o d b a.symm).1 (f b a.symm)
theorem Cb.me(h:Cb P fv F n I ea er cb){s:σ}{o:Option Nat}(c:I s w (ZZ F B Z w0.heap.size L) o)(d:Hp F B w0 L w)(g:Ext w w'){Z':Nat→Prop}(hm:Mv w (ZZ F B Z w0.heap.size L) w' Z'):I s w' Z' o:=
 h.HU s w w' _ _ o c hm fun b a=>g.block b (by
  rcases a with a|a
  ·exact Nat.lt_of_lt_of_le (d.ff b a) d.sz
  ·rw[List.mem_singleton] at a;exact(h.lt s w _ o c b a.symm).1) (by simp)
theorem Cb.mz(h:Cb P fv F n I ea er cb){s:σ}{o:Option Nat}{a Z':Nat→Prop}(b:I s w a o)(hm:Mv w a w Z'):I s w Z' o:=h.HU s w w _ _ o b hm fun _ _=>rfl
theorem Cb.mg(h:Cb P fv F n I ea er cb){s:σ}{o r:Option Nat}(d:I s w (ZZ F B Z w0.heap.size L) o)(a:Hp F B w0 L w)(g:w.grownBy w' r)(j:Nat)(b:L[j]?=some r)(i:Nat)(hi:L[i]?=some o)(c:(i==j)=false){Z':Nat→Prop}(hm:Mv w (ZZ F B Z w0.heap.size L) w' Z'):I s w' Z' o:=
 h.C0 d a (D:=fun k=>some k=r) (Ih g fun _ e=>e.symm) (fun k e=>by rw[e];exact List.mem_of_getElem? b) i hi (fun k f e=>a.ap i j k (by simpa using c) (by rw[hi,f]) (by rw[b,e])) hm
theorem Cb.mm(h:Cb P fv F n I ea er cb){s:σ}{o:Option Nat}{M:List (Option Nat)}(f:I s w (ZZ F B Z w0.heap.size L) o)(c:Hp F B w0 L w)(g:Bz (FU FN M) w w')(b:List Nat)(d:FL L b M)(i:Nat)(hi:L[i]?=some o)(e:(b.all fun j=> !Nat.beq i j)=true){Z':Nat→Prop}(hm:Mv w (ZZ F B Z w0.heap.size L) w' Z'):I s w' Z' o:=
 h.C0 f c g (fun k a=>by
  rcases a with a|a
  ·exact a.elim
  ·exact d.sub _ a) i hi (fun k a=>c.Cm (F':=FN) i (by rw[hi,a]) b e d (fun _ h=>h.elim)) hm
end
def B9 {α:Type} (ev:α→Value) (w:World) (r n:Nat) (L:List (List Int×α)):Prop:=
 ∃es clock,w.heap[r]?=some (.map es clock)∧es.toList.map (fun e=>(e.key,e.val))=L.map (fun p=>(Dz p.1,ev p.2))∧∀p∈L,p.1.length=n
def DW{α:Type}(L:List (List Int×α))(k:List Int):Option α:=(L.find? fun p=>k==p.1).map (·.2)
def JB{α:Type}(L:List (List Int×α))(k:List Int)(v:α):List (List Int×α):=match L.findIdx? (fun p=>k==p.1) with|some i=>L.set i (k,v)|none=>L++[(k,v)]
structure Rt{α:Type}(ev:α→Value)(w w':World)(r n:Nat):Prop where
 Dh:r=w.heap.size
 sz:w'.heap.size=r+1
 mp:B9 ev w' r n []
 gr:Ext w w'
structure Ru{α:Type}(ev:α→Value)(w w':World)(r n:Nat)(L:List (List Int×α)):Prop where
 sz:w'.heap.size=w.heap.size
 mp:B9 ev w' r n L
 gr:G4 r w w'
section
variable{α:Type}{ev:α→Value}{w w':World}{r n b:Nat}{L:List (List Int×α)}
theorem B9.lt(h:B9 ev w r n L):r<w.heap.size:=by obtain⟨es,c,h,_⟩:=h;exact lt_of_block h
theorem B9.ext(h:B9 ev w r n L)(g:Ext w w'):B9 ev w' r n L:=by
 have hl:=h.lt;obtain⟨es,c,a,b⟩:=h;exact⟨es,c,(g.block r hl (by simp)).trans a,b⟩
theorem B9.K9(h:B9 ev w r n L)(g:G4 b w w')(a:r≠b):B9 ev w' r n L:=by
 have hl:=h.lt;obtain⟨es,c,d,e⟩:=h;exact⟨es,c,(g.block r hl (by simpa using a)).trans d,e⟩
end
section
variable{α:Type}{ev:α→Value}{z:α}{P:Program}{a:Act}{w:World}{dst:Option Tmp}{ty:TypeId}{pos:String}{BY:Array Edge}{g:Option (Nat×Bool)}{K E T r n:Nat}{L:List (List Int×α)}{k:List Int}
theorem Is(z:α)(a:I8 P K n)(b:k.length=n):∀(es:List MapEntry) (L:List (List Int×α)) (i:Nat),es.map (fun e=>(e.key,e.val))=L.map (fun p=>(Dz p.1,ev p.2))→(∀p∈L,p.1.length=n)→
  (Instr.findAsking K (Dz k) es i).run P w=.ok (match L.findIdx? (fun p=>k==p.1) with|some j=>some (i+j,ev ((L.getD j ([],z)).2))|none=>none) w
 |[],[],i,_,_=>by simp[Instr.findAsking]
 |[],p::L,i,h,_=>by simp at h
 |e::es,[],i,h,_=>by simp at h
 |e::es,p::L,i,h,hl=>by
  simp only[List.map_cons,List.cons.injEq,Prod.mk.injEq] at h;obtain⟨⟨c,d⟩,f⟩:=h;have ih:=Is z a b es L (i+1) f (fun q a=>hl q (List.mem_cons_of_mem _ a));have he:=a w k p.1 b (hl p (List.mem_cons_self ..));simp only[Instr.findAsking,Sem.run_bind,c,he,Result.andThen_ok,List.findIdx?_cons];cases g:(k==p.1)
  ·simp only[Bool.false_eq_true,if_false,ih];cases List.findIdx? (fun p=>k==p.1) L with
   |none=>rfl
   |some j=>simp[Nat.add_assoc,Nat.add_comm 1 j]
  ·simp[d]
theorem Jl(z:α)(f:I8 P K n)(hw:IY P K)(g:k.length=n){es:List MapEntry}(h:es.map (fun e=>(e.key,e.val))=L.map (fun p=>(Dz p.1,ev p.2)))(hl:∀p∈L,p.1.length=n):
  (Instr.findKey K (Dz k) es).run P w=.ok (match L.findIdx? (fun p=>k==p.1) with|some j=>some (j,ev ((L.getD j ([],z)).2))|none=>none) w:=by
 unfold IY at hw;cases hu:P.underlying K with
 |none=>simp[hu] at hw
 |some d=>
  unfold Instr.findKey;simp only[Sem.run_bind,run_underlying hu,Result.andThen_ok];cases es with
  |nil=>
   have:L=[]:=by cases L with|nil=>rfl|cons _ _=>simp at h
   subst this;simp[Instr.findNow]
  |cons e es=>
   have i:Instr.findNow d (Dz k) (e::es) 0=none:=by
    refine Mb ?_ _ _ _ (fun a b=>?_) (by simp)
    ·rw[hu] at hw;cases d<;>simp at hw<;>trivial
    ·have:(a.key,a.val)∈(e::es).map (fun e=>(e.key,e.val)):=List.mem_map.2 ⟨a,b,rfl⟩;rw[h] at this;obtain⟨p,_,c⟩:=List.mem_map.1 this;exact⟨(GB p.1).toArray,by simp only[Prod.mk.injEq] at c;exact c.1.symm⟩
   rw[i];have:=Is z (P:=P) (w:=w) f g (e::es) L 0 h hl;simpa using this
theorem Nf(z:α)(L:List (List Int×α))(k:List Int):DW L k=(L.findIdx? (fun p=>k==p.1)).map (fun j=>(L.getD j ([],z)).2):=by
 unfold DW
 induction L with
 |nil=>rfl
 |cons p L ih=>
  simp only[List.find?_cons,List.findIdx?_cons];cases a:(k==p.1)
  ·simp only[Bool.false_eq_true,if_false,ih];cases List.findIdx? (fun p=>k==p.1) L<;>simp
  ·simp
theorem Mc(d:P.underlying T=some (.map K E))(g:(P.info? E).bind (·.zero)=some (ev z))(l:I8 P K n)(m:Lk P K n)(hw:IY P K)(a:k.length=n)(hm:B9 ev w r n L)(ok:Bool):
  (Instr.lookup T (.map (some r)) (Dz k) ok).run P w=.ok (if ok then .tuple #[ev ((DW L k).getD z),.bool (DW L k).isSome] else ev ((DW L k).getD z)) w:=by
 obtain⟨es,clock,o,he,hl⟩:=hm;obtain⟨i,hi,b⟩:=Option.bind_eq_some_iff.1 g;have q:=Kn (P:=P) o (by intro c e f h;cases h);have s:=Jl z (P:=P) (w:=w) l hw a he hl;have t:(zeroValue E).run P w=.ok (ev z) w:=by simp[zeroValue,typeInfo,program,Sem.run,hi,b]
 unfold Instr.lookup;simp only[Sem.run_bind,run_underlying d,Result.andThen_ok,q,m w es.isEmpty k a,s,Nf z,Sem.run_pure];cases List.findIdx? (fun p=>k==p.1) L with
 |none=>cases ok<;>simp[t]
 |some j=>cases ok<;>simp
theorem Lt{x y:Operand}(b:P.underlying T=some (.map K E))(c:(P.info? E).bind (·.zero)=some (ev z))(d:I8 P K n)(e:Lk P K n)(hw:IY P K)(f:a.eval x=.map (some r))(h:a.eval y=Dz k)(i:k.length=n)(hm:B9 ev w r n L):
  B2 P ⟨dst,.lookup T x y true,ty,pos,BY,g⟩ a w (fun u w'=>u=.tuple #[ev ((DW L k).getD z),.bool (DW L k).isSome]∧w'=w):=
 HZ (S:=Instr.lookup T (.map (some r)) (Dz k) true) (by simp only[execOp,f,h]) (Mc b c d e hw i hm true)
theorem Kr{T:TypeId}:B2 P ⟨dst,.makeMap T none,ty,pos,BY,g⟩ a w (fun u w'=>∃r,u=.map (some r)∧Rt ev w w' r n):=by
 unfold B2;simp only[execOp,Option.map_none,Sem.run_bind,run_makeMap,Result.andThen_ok,Sem.run_pure];exact⟨_,rfl,rfl,by simp,⟨#[],0,heap_alloc_new w _,rfl,by simp⟩,World.grownBy_alloc w _ _⟩
theorem Lu{x y aB:Operand}{v:α}(aK:P.underlying T=some (.map K E))(aL:I8 P K n)(aM:Lk P K n)(hw:IY P K)(aN:a.eval x=.map (some r))(aO:a.eval y=Dz k)(aP:a.eval aB=ev v)(q:k.length=n)(hm:B9 ev w r n L):
  B2 P ⟨dst,.mapUpdate T x y aB,ty,pos,BY,g⟩ a w (fun _ w'=>Ru ev w w' r n (JB L k v)):=by
 have s:=hm.lt;obtain⟨es,clock,aC,he,hl⟩:=hm;have aQ:=Kn (P:=P) aC (by intro c e f h;cases h);have aR:=Jl v (P:=P) (w:=w) aL hw q he hl;have d:∀o:Obj,(setObj r o).run P w=.ok () {w with heap:=w.heap.setIfInBounds r o}:=by
  intro o;unfold setObj;simp only[Sem.run,aC]
 have t:∀o:Obj,G4 r w {w with heap:=w.heap.setIfInBounds r o}:=fun o=>⟨rfl,rfl,rfl,by simp,fun j _ aD=>by
  have:¬r=j:=fun e=>aD (by rw[e]);simp[Array.getElem?_setIfInBounds,this]⟩
 have hlen:es.toList.length=L.length:=by have:=congrArg List.length he;simpa using this
 unfold B2;simp only[execOp,aN,aO,aP,Sem.run_bind,Instr.mapUpdate,run_underlying aK,Result.andThen_ok,aQ,aM w false k q,aR];cases m:List.findIdx? (fun p=>k==p.1) L with
 |none=>
  simp only[d,Result.andThen_ok,Sem.run_pure];refine⟨by simp,⟨_,_,by simp[s];exact⟨rfl,rfl⟩,?_,?_⟩,t _⟩
  ·simp[JB,m,he]
  ·intro p b;simp only[JB,m,List.mem_append,List.mem_singleton] at b;rcases b with b|rfl
   ·exact hl p b
   ·exact q
 |some j=>
  have aS:=List.findIdx?_eq_some_iff_getElem.1 m;obtain⟨aE,aF,_⟩:=aS;have u:j<es.toList.length:=by omega
  have aA:(es.toList[j]).key=Dz k:=by
   have:=congrArg (fun l=>l[j]?) he;simp only[List.getElem?_map,List.getElem?_eq_getElem u,List.getElem?_eq_getElem aE,Option.map_some,Option.some.injEq,Prod.mk.injEq] at this;rw[this.1,←eq_of_beq aF]
  have aG:((es[j]?).map (·.key)).getD (Dz k)=Dz k:=by
   have aH:j<es.size:=by simpa using u
   rw[Array.getElem?_eq_getElem aH];simpa using aA
  simp only[aG,Instr.keyThatStays,Lm 9999 k,if_true,Sem.run_pure,Result.andThen_ok,d,Sem.run_bind];refine⟨by simp,⟨_,_,by simp[s];exact⟨rfl,rfl⟩,?_,?_⟩,t _⟩
  ·simp only[JB,m];apply List.ext_getElem
   ·simp[hlen]
   ·intro i aT aU;have aI:i<es.toList.length:=by simpa using aT
    have aJ:i<L.length:=by omega
    have:=congrArg (fun l=>l[i]?) he;simp only[List.getElem?_map,List.getElem?_eq_getElem aI,List.getElem?_eq_getElem aJ,Option.map_some,Option.some.injEq,Prod.mk.injEq] at this
    by_cases z:j=i
    ·subst z;simp
    ·simpa[Array.getElem_modify,z,List.getElem_set] using this
  ·intro p b;simp only[JB,m] at b;rcases List.mem_or_eq_of_mem_set b with b|rfl
   ·exact hl p b
   ·exact q
end
section
variable{α:Type}{ev:α→Value}{w w':World}{r n:Nat}{L:List (List Int×α)}
theorem B9.of(h:B9 ev w r n L)(e:w'.heap[r]?=w.heap[r]?):B9 ev w' r n L:=by
 obtain⟨es,c,a,b⟩:=h;exact⟨es,c,e.trans a,b⟩
theorem B9.gr{x:Option Nat}(h:B9 ev w r n L)(g:w.grownBy w' x)(a:some r≠x):B9 ev w' r n L:=h.of (g.block r h.lt a)
end
theorem Ov{f:Operand→Value}{i0 i1 i2 i3 i4:Nat}{a x1 x2 b c:Operand}{v0 v1 v2 v3 v4:Value}(h0:f a=v0)(d:f x1=v1)(e:f x2=v2)(g:f b=v3)(h:f c=v4): #[(i0,a),(i1,x1),(i2,x2),(i3,b),(i4,c)].map (fun(i,x)=>(i,f x))= #[(i0,v0),(i1,v1),(i2,v2),(i3,v3),(i4,v4)]:=by simp[h0,d,e,g,h]
section
variable{F F' F0:Nat→Prop}{B:List (Option Nat)}{w0 w w' w1 w2:World}{Z Z':Nat→Prop}{L L' M C:List (Option Nat)}{D:Nat→Prop}
theorem Bf(a:List Nat)(h:FL L a M):∀x∈M,x∈L:=h.sub
theorem AE(a:List Nat)(h:FL L a M)(b:∀k,F' k→F k):∀k,FU F' M k→F k∨some k∈L:=Qa h.sub b
theorem Cl(h:∀k,F0 k→F k):∀k,FU F0 C k→F k∨some k∈C:=fun k a=>a.imp (h k) id
theorem Er{k:Nat}{o:Obj}{r:Option Nat}(h:w.heap[k]?=some o)(g:w.grownBy w' r)(a:some k≠r):w'.heap[k]?=some o:=(g.block k (Array.getElem?_eq_some_iff.1 h).1 a).trans h
theorem G6{k:Nat}{o:Obj}(h:w.heap[k]?=some o)(g:Bz D w w')(a:¬D k):w'.heap[k]?=some o:=(g.block k (Array.getElem?_eq_some_iff.1 h).1 a).trans h
theorem B9.B6{α:Type}{ev:α→Value}{r n:Nat}{a:List (List Int×α)}(h:B9 ev w r n a)(g:Bz D w w')(b:¬D r):B9 ev w' r n a:=h.of (g.block r h.lt b)
theorem B9.Fk{α:Type}{ev:α→Value}{r n:Nat}{a:List (List Int×α)}(h:B9 ev w r n a)(e:w'.heap[r]?=w.heap[r]?):B9 ev w' r n a:=h.of e
theorem Bk.Fk{b:Nat}{t:TypeId}{cs:Array Value}(h:Bk w b t cs)(e:w'.heap[b]?=w.heap[b]?):Bk w' b t cs:=e.trans h
theorem Hp.zz(h:Hp F B w0 L w)(a c:List Nat)(d:FL L a M)(e:FL L c C)(f:∀k,F' k→F k∨some k∈C):∀b,ZZ F B Z w0.heap.size L b→¬F' b∧some b∉M:=h.zc d.sub fun k g=>(f k g).imp id (e.sub _)
theorem Hp.mz(h:Hp F B w0 L w)(a b:List Nat)(c:FL L a M)(d:FL L b C)(e:∀k,F' k→F k∨some k∈C):Mv w (ZZ F B Z w0.heap.size L) w (ZC F' M):=C9 (h.zz a b c d e)
theorem Ml{i:Nat}{a b:List Nat}(h:((a++b).all fun j=> !Nat.beq i j)=true):(a.all fun j=> !Nat.beq i j)=true∧(b.all fun j=> !Nat.beq i j)=true:=by
 rw[List.all_append,Bool.and_eq_true] at h;exact h
theorem Hp.bz(h:Hp F B w0 L w)(i:Nat){b:Nat}(hi:L[i]?=some (some b))(a c:List Nat)(e:FL L a M)(f:FL L c C)(g:∀k,F' k→F k∨some k∈C)(d:((a++c).all fun j=> !Nat.beq i j)=true):ZC F' M b:=by
 have l:=h.Cm (F':=F) i hi a (Ml d).1 e (fun _ h=>h);have m:=h.Cm (F':=F) i hi c (Ml d).2 f (fun _ h=>h);exact⟨fun n=>m ((g b n).imp id id),fun hm=>l (.inr hm)⟩
theorem Hp.rz{α:Type}{e:Ck α}{t:TypeId}{n0:Nat}{A:Option Addr}{c:Nat}{xs:List α}(h:Hp F B w0 L w)(i:Nat)(hi:L[i]?=some (ob A))(a b:List Nat)(d:FL L a M)(f:FL L b C)(g:∀k,F' k→F k∨some k∈C)(l:((a++b).all fun j=> !Nat.beq i j)=true)
  (m:AZ e t n0 w (ZZ F B Z w0.heap.size L) A c xs):Sl e w (ZC F' M) A c xs:=
 (m.up (h.mz a b d f g)).sl fun k n _=>h.bz i (by rw[hi,n]) a b d f g l
theorem BL{Z:Nat→Prop}(w:World):Mv w Z w (ZZ FN [] Z w.heap.size L):=AK (fun _ _=>⟨id,by simp⟩) w
theorem Cq(h:Mv w Z w' Z):Mv w Z w' (ZZ FN [] Z w.heap.size M):=⟨h.size,fun b a hl=>⟨.inl ⟨hl,a,id,by simp⟩,(h.stay b a hl).2⟩⟩
theorem GL{n:Nat}{o:Option Nat}(h:o∈M:=by simp):Mv w (ZZ FN [] Z n M) w (ZZ FN [] Z n [o]):=H2 fun b a _=>a.imp id fun⟨c,d⟩=>⟨c,fun hm=>by
 rw[List.mem_singleton] at hm;exact d (by rw[hm];exact h)⟩
theorem Dg(g:Bz D w w')(h:∀b,Z b→¬D b):Mv w Z w' Z:=⟨g.size,fun b a hl=>⟨a,g.block b hl (h b a)⟩⟩
theorem CK{b:Nat}{o:Option Nat}(h:¬FU FN C b∧some b≠o):¬FU FN C b:=h.1
theorem CX{b:Nat}{o:Option Nat}(h:¬FU F C b)(k:some b≠o):¬F b∧some b∉C++[o]:=
 ⟨fun a=>h (.inl a),fun a=>by
  rcases List.mem_append.1 a with c|c
  ·exact h (.inr c)
  ·exact k (by simpa using c)⟩
theorem Bz.lf{o:Option Nat}(g:Bz (FU F (C++[o])) w w'):Bz (FU (FU F C) [o]) w w':=g.mono fun k h=>by
 rcases h with h|h
 ·exact .inl (.inl h)
 ·rcases List.mem_append.1 h with a|a
  ·exact .inl (.inr a)
  ·exact .inr a
theorem Bz.Ks{o:Option Nat}(g:Bz (FU F C) w w'):Bz (FU (FU F C) [o]) w w':=g.mono fun _ h=>.inl h
theorem Bz.cl{M1 M2:List (Option Nat)}(g:Bz (FU (FU F M1) M2) w w'):Bz (FU F (M1++M2)) w w':=g.fl
theorem Hp.GC(h:Hp F B w0 L w)(b:List Nat)(c:FL L b C)(d:∀k,F0 k→F k):∀k,FU F0 C k→k<w.heap.size:=fun k a=>by
 rcases a with a|a
 ·exact Nat.lt_of_lt_of_le (h.ff k (d k a)) h.sz
 ·exact(h.lo k (c.sub _ a)).1
theorem Hp.JY(h:Hp F B w0 L w)(i:Nat){k:Nat}(hi:L[i]?=some (some k))(a:List Nat)(b:(a.all fun j=> !Nat.beq i j)=true)(c:FL L a C):k<w.heap.size∧¬FU F C k:=
 ⟨(h.lo k (List.mem_of_getElem? hi)).1,h.Cm (F':=F) i hi a b c fun _ h=>h⟩
theorem Hp.Qe{x d:Option Nat}(h:Hp F B w0 L w)(i:Nat)(hi:L[i]?=some x)(a:List Nat)(g:(a.all fun j=> !Nat.beq i j)=true)(l:FL L a M)(m:∀y∈B,y=d∨y∈M):∀k,x=some k→(d=some k∨w0.heap.size≤k)∧k<w.heap.size:=fun k e=>by
 have f:=h.lo k (List.mem_of_getElem? (by rw[hi,e]));refine⟨?_,f.1⟩;rcases Nat.lt_or_ge k w0.heap.size with b|b
 ·left;rcases m _ (f.2.2 b) with c|c
  ·exact c.symm
  ·exact absurd (.inr c) (h.Cm (F':=F) i (by rw[hi,e]) a g l fun _ h=>h)
 ·exact .inr b
theorem Bx.snoc{o:Option Nat}(h:Bx F C w)(l:∀k,o=some k→k<w.heap.size∧¬FU F C k):Bx F (C++[o]) w:=by
 refine⟨fun k q=>?_,fun i j x m hi f=>?_,h.ff⟩
 ·rcases List.mem_append.1 q with d|d
  ·exact h.lt k d
  ·have c:=l k (by rw[List.mem_singleton] at d;exact d.symm);exact⟨c.1,fun r=>c.2 (.inl r)⟩
 ·have key:∀(a b:Nat),a<C.length→¬b<C.length→(C++[o])[a]?=some (some x)→(C++[o])[b]?=some (some x)→False:=fun a b s t d c=>by
   rw[List.getElem?_append_left s] at d;rw[List.getElem?_append_right (by omega)] at c;have n:b-C.length=0:=by
    rcases Nat.eq_zero_or_pos (b-C.length) with h|h
    ·exact h
    ·rw[List.getElem?_eq_none (by simp;omega)] at c;cases c
   rw[n] at c;have p:o=some x:=by simpa using c
   exact(l x p).2 (.inr (List.mem_of_getElem? d))
  by_cases g:i<C.length
  ·by_cases e:j<C.length
   ·rw[List.getElem?_append_left g] at hi;rw[List.getElem?_append_left e] at f;exact h.ap i j x m hi f
   ·exact key i j g e hi f
  ·by_cases e:j<C.length
   ·exact key j i e g f hi
   ·have hl:(C++[o]).length=C.length+1:=by simp
    have d:=(List.getElem?_eq_some_iff.1 hi).1;have c:=(List.getElem?_eq_some_iff.1 f).1;omega
theorem Bx.keep{o o':Option Nat}(h:Bx F C w)(g:w.heap.size≤w1.heap.size)(c:∀k,o=some k→k<w1.heap.size∧¬FU F C k)(d:∀k,o'=some k→(o=some k∨w1.heap.size≤k)∧k<w2.heap.size):∀k,o'=some k→k<w2.heap.size∧¬FU F C k:=fun k e=>by
 obtain⟨a,f⟩:=d k e;refine⟨f,?_⟩;rcases a with a|a
 ·exact(c k a).2
 ·rintro(b|b)
  ·have:=h.ff k b;omega
  ·have:=(h.lt k b).1;omega
def Q9(L:List (Option Nat))(n:Nat):List (Option Nat)→Prop
 |[]=>True
 |x::M=>((∃j:Nat,L[j]?=some x)∨∀k,x=some k→some k∈L∨n≤k)∧Q9 L n M
theorem BU{n:Nat}:∀{M:List (Option Nat)},Q9 L n M→∀k,some k∈M→some k∈L∨n≤k
 |[],_,_,h=>by cases h
 |x::M,h,k,a=>by
  rcases List.mem_cons.1 a with e|a
  ·rcases h.1 with⟨j,b⟩|c
   ·left;rw[e];exact List.mem_of_getElem? b
   ·exact c k e.symm
  ·exact BU h.2 k a
theorem Cr{y:Option Nat}(i:Nat)(h:y∈M):∀x∈L.set i y,x∈L∨x∈M:=fun x a=>by
 rcases List.mem_or_eq_of_mem_set a with b|e
 ·exact .inl b
 ·exact .inr (by rw[e];exact h)
theorem Gf{o:Option Nat}:∀b,ZC F [o] b→¬F b∧some b≠o:=fun _ h=>⟨h.1,fun e=>h.2 (by rw[e];exact List.mem_singleton_self _)⟩
end
theorem Mm{F:Nat→Prop}{B L:List (Option Nat)}{n:Nat}{Z Z':Nat→Prop}(h:∀b,Z b→Z' b):∀b,ZZ F B Z n L b→ZZ F B Z' n L b:=fun b a=>a.imp (fun⟨c,d,e⟩=>⟨c,h b d,e⟩) id
def JZ{α:Type}(e:Ck α)(w:World)(Z:Nat→Prop)(A:Option Addr)(c:Nat)(xs:List α):Prop:=
 xs.length≤c∧(A=none→c=0)∧∃Bj,R2 e w Z Bj xs∧Rz w ZA A Bj.flatten
section
variable{α:Type}{e:Ck α}{t:TypeId}{n0:Nat}{w w':World}{Z Z':Nat→Prop}{A:Option Addr}{c:Nat}{xs:List α}
theorem JZ.ext(h:JZ e w Z A c xs)(g:Ext w w')(hm:Mv w Z w' Z'):JZ e w' Z' A c xs:=⟨h.1,h.2.1,h.2.2.imp fun _ h=>⟨h.1.mv hm,h.2.mv (Aa g)⟩⟩
theorem AZ.n(h:AZ e t n0 w Z A c xs):JZ e w Z A c xs:=by
 have a:=h.all;obtain⟨Bj,b,d⟩:=h;refine⟨a.1,a.2.1,Bj,b,?_⟩;have f:=d.rd;exact Ln f fun _ _ _=>trivial
theorem Sl.n(h:Sl e w Z A c xs):JZ e w Z A c xs:=⟨h.1,h.2.1,h.2.2.imp fun _ h=>⟨h.1,h.2.mv Jk⟩⟩
theorem Sl.Ha(a:∀w Z w' Z' cs x,e.R w Z cs x→e.R w' Z' cs x)(h:Sl e w Z A c xs):JZ e w Z' A c xs:=⟨h.1,h.2.1,h.2.2.imp fun _ h=>⟨h.1.free a,h.2.mv Jk⟩⟩
theorem AZ.Ha(a:∀w Z w' Z' cs x,e.R w Z cs x→e.R w' Z' cs x)(h:AZ e t n0 w Z A c xs):JZ e w Z' A c xs:=h.all.Ha a
end
section
variable{P:Program}{a:Act}{w:World}{dst:Option Tmp}{ty:TypeId}{pos:String}{BY:Array Edge}{g:Option (Nat×Bool)}
theorem Ij{α:Type}{e:Ck α}{s x:Operand}{t l:TypeId}{z:Value}{sz bytes:Nat}(aA:P.underlying t=some (.slice l))(hi:(P.info? l).map (fun i=>(i.zero,i.size,i.bytes))=some (some z,sz,bytes))(m:z.cells.size=sz)(o:e.sz=sz)(h0:0<sz)
  {n0:Nat}{Z:Nat→Prop}{A B:Option Addr}{c d n:Nat}{xs ys:List α}(aB:a.eval s=.slice A n c)(aC:xs.length=n)(aD:a.eval x=.slice B ys.length d)(h:AZ e l n0 w Z A c xs)(u:JZ e w Z B d ys)
  (p:xs.length+ys.length≤maxLen)(b:(xs.length+ys.length)*bytes≤140737488355328)(f:n0≤w.heap.size):
  B2 P ⟨dst,.call {callee:=.builtin .append,args:= #[s,x],argTypes:= #[t,t]},ty,pos,BY,g⟩ a w (fun v w'=>∃y aE,v=.slice y (xs++ys).length aE∧w.grownBy w' (ob A)∧(∀k,ob y=some k→(ob A=some k∨w.heap.size≤k)∧k<w'.heap.size)∧
   ∃Bj q,R2 e w Z Bj xs∧R2 e w Z q ys∧Dn w' n0 l e.sz y (xs++ys).length aE (Bj++q).flatten):=by
 by_cases r:ys=[]
 ·refine Qd aA hi m o h0 aB aC aD h ?_ p b f;subst r;exact⟨u.1,u.2.1,[],trivial,.inl rfl⟩
 ·obtain⟨_,_,Bj,aF,aG⟩:=u;exact G5 aA hi m o h0 aB aC aD h ⟨Bj,aF,aG⟩ p b f r
end
section
variable{α:Type}{e:Ck α}{t:TypeId}{n0:Nat}{w w':World}{Z Z':Nat→Prop}{A:Option Addr}{c:Nat}{xs:List α}
theorem AZ.QZ(a:∀w Z w' Z' cs x,e.R w Z cs x→e.R w' Z' cs x)(h:AZ e t n0 w Z A c xs):AZ e t n0 w Z' A c xs:=by
 obtain⟨Bj,b,d⟩:=h;exact⟨Bj,b.free a,d⟩
theorem AZ.Rv(h:AZ e t n0 w Z A c xs):A=none→c=0:=h.all.2.1
theorem AZ.keep(h:AZ e t n0 w Z A c xs)(hm:Mv w Z w' Z')(d:∀k,ob A=some k→w'.heap[k]?=w.heap[k]?):AZ e t n0 w' Z' A c xs:=by
 obtain⟨Bj,f,a⟩:=h;refine⟨Bj,f.mv hm,a.1,a.2.imp id ?_⟩;rintro⟨b,cap,cur,g,i,l,m⟩;cases g;exact⟨b,_,cur,rfl,i,(d b rfl).trans l,m⟩
end
def CT{α:Type}(xs:List α)(l h:Int):List α:=(xs.take h.toNat).drop l.toNat
def J7(n:Nat)(l h:Int):Option Unit:=if 0≤l∧l≤h∧h≤(n:Int) then some () else none
theorem Ge{α:Type}{n:Nat}{l h:Int}{f:Unit→Option α}{r:α}(a:(J7 n l h).bind f=some r):(0≤l∧l≤h∧h≤(n:Int))∧f ()=some r:=by
 unfold J7 at a;split at a
 ·exact⟨by assumption,a⟩
 ·cases a
def SB(a:Act)(o:Option Operand)(v d:Int):Prop:=(o=none∧v=d)∨∃x k,o=some x∧a.eval x=.int k v
theorem J9{a:Act}{d:Int}:SB a none d d:=.inl ⟨rfl,rfl⟩
theorem KF{a:Act}{x:Operand}{k:IntKind}{v d:Int}(h:a.eval x=.int k v):SB a (some x) v d:=.inr ⟨x,k,rfl,h⟩
theorem Hq{P:Program}(w:World)(k:IntKind)(i:Int)(y:Nat)(code:BoundsCode)(h0:0≤i)(a:i≤(y:Int)):(Instr.sliceBound (.int k i) y code).run P w=.ok i.toNat w:=by
 simp[Instr.sliceBound,asIntOf,h0,a]
section
variable{P:Program}{a:Act}{w:World}{dst:Option Tmp}{ty:TypeId}{pos:String}{BY:Array Edge}{g:Option (Nat×Bool)}
theorem Jm{α:Type}{e:Ck α}{Z:Nat→Prop}{xs:List α}{t v:TypeId}{sz:Nat}{x:Operand}{A:Option Addr}{c:Nat}{lo hi:Option Operand}{l h:Int}(aJ:P.underlying t=some (.slice v))(aK:(P.info? v).map (·.size)=some sz)(z:e.sz=sz)
  (aL:a.eval x=.slice A xs.length c)(i:SB a lo l 0)(aA:SB a hi h xs.length)(aM:Sl e w Z A c xs)(aN:0≤l∧l≤h∧h≤(xs.length:Int)):
  B2 P ⟨dst,.slice t x lo hi none,ty,pos,BY,g⟩ a w (fun u w'=>(∃aB aC,u=.slice aB (CT xs l h).length aC∧Sl e w Z aB aC (CT xs l h))∧w'=w):=by
 subst z;obtain⟨aU,m,Bj,n,aO⟩:=aM;obtain⟨aV,aW,aX⟩:=aN;have hlen:(CT xs l h).length=h.toNat-l.toNat:=by
  unfold CT;rw[List.length_drop,List.length_take];omega
 have p:(Instr.sliceAt t (.slice A xs.length c) (lo.map a.eval) (hi.map a.eval) none).run P w=.ok (.slice (if c=l.toNat then A else A.map (·.add (l.toNat*e.sz))) (h.toNat-l.toNat) (c-l.toNat)) w:=by
  have aP:(Instr.sliceBounds true xs.length c (lo.map a.eval) (hi.map a.eval) none).run P w=.ok (l.toNat,h.toNat,c) w:=by
   unfold Instr.sliceBounds;rcases aA with⟨rfl,rfl⟩|⟨y,k,rfl,aD⟩
   ·rcases i with⟨rfl,rfl⟩|⟨aQ,k',rfl,d⟩
    ·simp
    ·simp[d,Hq w k' l xs.length _ (by omega) (by omega)]
   ·have aE:=fun code=>Hq (P:=P) w k h c code (by omega) (by omega);rcases i with⟨rfl,rfl⟩|⟨aQ,k',rfl,d⟩
    ·simp[aD,aE]
    ·simp[aD,d,aE,Hq w k' l h.toNat _ (by omega) (by omega)]
  simp[Instr.sliceAt,Instr.slice,underlying,program,Sem.run,aJ,aP,Hd aK]
 refine(KD aL rfl rfl p).mono ?_;rintro u w' ⟨rfl,rfl⟩;refine⟨⟨_,_,by rw[hlen],?_⟩,rfl⟩;have q:=(n.take h.toNat).drop l.toNat;have aF:((Bj.take h.toNat).drop l.toNat).flatten=[]∨(0<e.sz∧l.toNat<h.toNat):=by
  rcases Nat.eq_zero_or_pos e.sz with h0|h0
  ·left;exact List.eq_nil_of_length_eq_zero (by rw[q.Ig,h0,Nat.mul_zero])
  ·rcases Nat.lt_or_ge l.toNat h.toNat with r|r
   ·exact .inr ⟨h0,r⟩
   ·left;exact List.eq_nil_of_length_eq_zero (by rw[q.Ig,List.length_drop,List.length_take,show min h.toNat xs.length-l.toNat=0 by omega,Nat.zero_mul])
 refine⟨by rw[hlen];omega,fun s=>?_,_,q,?_⟩
 ·split at s
  ·have:=m s;omega
  ·have:=m (by simpa using s);omega
 ·rcases aF with h0|⟨h0,r⟩
  ·exact .inl h0
  ·rcases aO with aR|⟨b,o,rfl,aS,aG,f⟩
   ·left;have aH:=n.Ig;rw[aR] at aH;simp only[List.length_nil] at aH;have aY:0<xs.length*e.sz:=Nat.mul_pos (by omega) h0;omega
   ·right;have aI:¬c=l.toNat:=by omega
    refine⟨b,o+l.toNat*e.sz,by simp[aI,FW],aS,aG,fun j u hu=>?_⟩;rw[Nat.add_assoc];refine f _ _ ?_;rw[←(n.take h.toNat).Ou h0,List.getElem?_drop] at hu;have aT:Bj.flatten=(Bj.take h.toNat).flatten++(Bj.drop h.toNat).flatten:=by rw[←List.flatten_append,List.take_append_drop]
    rw[aT,List.getElem?_append_left (List.getElem?_eq_some_iff.1 hu).1];exact hu
end
def Ng(n:Int)(b:Nat):Option Unit:=if 0≤n∧n*b≤140737488355328∧n≤140737488355328 then some () else none
theorem Lv{α:Type}{n:Int}{b:Nat}{f:Unit→Option α}{r:α}(h:(Ng n b).bind f=some r):(0≤n∧n*b≤140737488355328∧n≤140737488355328)∧f ()=some r:=by
 unfold Ng at h;split at h
 ·exact⟨by assumption,h⟩
 ·cases h
theorem Jn(z:Array Value):∀m:Nat,(madeCells z (m*z.size)).toList=(List.replicate m z.toList).flatten
 |0=>by simp[madeCells]
 |m+1=>by
  have ih:=Jn z m;have e:∀k,(madeCells z k).toList=(List.range k).map (z[· %z.size]!):=fun k=>by simp[madeCells]
  rw[e] at ih⊢;rw[Nat.add_mul,Nat.one_mul,List.range_add,List.map_append,ih,List.replicate_succ',List.flatten_append]
  congr 1
  simp only[List.map_map,List.flatten_cons,List.flatten_nil,List.append_nil];refine List.ext_getElem (by simp) fun i b a=>?_;simp only[List.getElem_map,List.getElem_range,Function.comp];have hi:i<z.size:=by simpa using a
  rw[Nat.add_comm,Nat.add_mul_mod_self_right,Nat.mod_eq_of_lt hi];simp[hi]
theorem R2.Ra{α:Type}{e:Ck α}{w:World}{Z:Nat→Prop}{c:List Value}{x:α}(h:e.R w Z c x):∀m:Nat,R2 e w Z (List.replicate m c) (List.replicate m x)
 |0=>trivial
 |m+1=>⟨h,R2.Ra h m⟩
section
variable{P:Program}{a:Act}{w:World}{dst:Option Tmp}{ty:TypeId}{pos:String}{BY:Array Edge}{g:Option (Nat×Bool)}
theorem Mn{α:Type}{e:Ck α}{z:α}{zc:List Value}{n0:Nat}{t k:TypeId}{d:Value}{sz bytes:Nat}{n:Int}{x y:Operand}{o p:IntKind}{b':Nat}(aC:P.underlying t=some (.slice k))(hi:(P.info? k).map (fun i=>(i.zero,i.size,i.bytes))=some (some d,sz,bytes))
  (q:d.cells.toList=zc)(c:e.sz=sz)(aD:a.eval x=.int o n)(aE:a.eval y=.int p n)(hm:0≤n∧n*b'≤140737488355328∧n≤140737488355328)(r:∀w Z,e.R w Z zc z)(aF:n0≤w.heap.size)(aK:bytes≤b'):
  B2 P ⟨dst,.makeSlice t x y,ty,pos,BY,g⟩ a w (fun u w'=>∃b,u=.slice (some ⟨b,0,none⟩) (List.replicate n.toNat z).length n.toNat∧w.heap.size≤b∧b<w'.heap.size∧Ext w w'∧∀Z,AZ e k n0 w' Z (some ⟨b,0,none⟩) n.toNat (List.replicate n.toNat z)):=by
 subst q;subst c;cases f:P.info? k with
 |none=>simp[f] at hi
 |some i=>
  rw[f] at hi;simp only[Option.map_some,Option.some.injEq,Prod.mk.injEq] at hi;obtain⟨aG,s,aH⟩:=hi;obtain⟨v,aL,aM⟩:=hm;have aA:d.cells.toList.length=e.sz:=e.len (r w ZA);have c:d.cells.size=e.sz:=by simpa using aA
  have aB:(i.bytes:Int)*n≤281474976710656:=by
   rw[aH];have aI:(bytes:Int)*n≤(b':Int)*n:=Int.mul_le_mul_of_nonneg_right (by omega) v;rw[Int.mul_comm (b':Int)] at aI;omega
  have aJ:=run_make (P:=P) w t k i d aC f aG o p n n v (Int.le_refl _) aB (by omega);refine(HZ (S:=Instr.makeSlice t (a.eval x) (a.eval y)) rfl (by rw[aD,aE];exact aJ)).mono fun u w' h=>?_;obtain⟨rfl,rfl⟩:=h;have m:=HY w k (madeCells d.cells (n.toNat*i.size));refine⟨w.heap.size,by rw[List.length_replicate],Nat.le_refl _,by rw[m.sz];exact Nat.lt_succ_self _,m.gr,fun Z=>⟨_,R2.Ra (r _ Z) n.toNat,?_⟩⟩;rw[List.length_replicate];have l:(List.replicate n.toNat d.cells.toList).flatten.length=n.toNat*e.sz:=by rw[←Jn,←c];simp[size_madeCells]
  refine⟨l,.inr ⟨w.heap.size,n.toNat,_,rfl,aF,m.bk,Nat.le_refl _,by simp only[maxLen];omega,by rw[size_madeCells,s],?_⟩⟩;rw[s,←c,Jn,List.take_of_length_le (by rw[l,c];exact Nat.le_refl _)]
end
section
variable{P:Program}{a:Act}{w:World}{dst:Option Tmp}{ty:TypeId}{pos:String}{BY:Array Edge}{g:Option (Nat×Bool)}
theorem N5 {α:Type} {e:Ck α} {aA t:TypeId} {x y:Operand} {b o k p c:Nat} {v:Value} {n0:Nat} {Z:Nat→Prop} {A:Option Addr} {xs:List α} {z z':α} {l:List Value} {n:Nat}
  (aB:AZ e aA n0 w Z A c xs) (aD:xs[k]?=some z) (aM:A=some ⟨b,o,none⟩) (aN:p=o+k*e.sz) (aO:a.eval x=.pointer (some ⟨b,p,none⟩)) (aP:a.eval y=v) (aQ:(P.info? t).map (·.size)=some n) (hl:v.cells.toList=l) (aR:l.length=n)
  (aS:∀u∈l,u.oneCell'=true) (aE:e.R w Z l z'):
  B2 P ⟨dst,.store t x y,ty,pos,BY,g⟩ a w (fun _ w'=>w.grownBy w' (ob A)∧∃Bj,R2 e w Z Bj (xs.set k z')∧Dn w' n0 aA e.sz A (xs.set k z').length c Bj.flatten):=by
 obtain⟨Bj,f,aT⟩:=aB;obtain⟨a3,aX,aF,aY⟩:=f.get aD;have aZ:=e.len aF;have aG:=e.len aE;subst aM;subst aN;have aH:k<xs.length:=(List.getElem?_eq_some_iff.1 aD).1;have hlen:=f.len;have h:=f.lens;rcases aT.2 with⟨aI,h0⟩|⟨a4,cap,cur,aI,aJ,aU,q,aK,aC,i⟩
 ·omega
 ·cases aI;have a0:k*e.sz+e.sz≤xs.length*e.sz:=by
   have:(k+1)*e.sz≤xs.length*e.sz:=Nat.mul_le_mul_right _ aH;rw[Nat.add_mul,Nat.one_mul] at this;exact this
  have a2:xs.length*e.sz≤c*e.sz:=Nat.mul_le_mul_right _ q;have aL:Bk w b aA cur:=aU;refine(Bd (BZ:=setCells cur (0+k*e.sz) l) aO aP aQ aL hl aR (by omega) aS rfl).mono ?_;rintro _ w' ⟨s1,s2,aV⟩;have d:=f.set aE k;refine⟨aV,_,d,by rw[d.Ig],.inr ⟨b,c,setCells cur (0+k*e.sz) l,rfl,aJ,s2,by rw[List.length_set];exact q,aK,by rw[HT 0];exact aC,?_⟩⟩;rw[List.length_set];rcases Nat.eq_zero_or_pos e.sz with h0|h0
  ·have aW:(Bj.set k l).flatten=[]:=List.eq_nil_of_length_eq_zero (by rw[d.Ig,h0,Nat.mul_zero]);rw[aW,h0,Nat.mul_zero,List.take_zero]
  ·refine List.ext_getElem? fun j=>?_;rw[J6 aG h0 k Bj j h (by omega),List.getElem?_take,Array.getElem?_toList,Ho _ _ _ _ (by omega)];have r:∀j:Nat,Bj.flatten[j]?=if j<xs.length*e.sz then cur[j]? else none:=fun j=>by
    rw[←i,List.getElem?_take,Array.getElem?_toList]
   by_cases m:j<xs.length*e.sz
   ·rw[if_pos m]
    by_cases s:k*e.sz≤j∧j<k*e.sz+e.sz
    ·rw[if_pos (by omega),if_pos s,show j-(0+k*e.sz)=j-k*e.sz by omega]
    ·rw[if_neg (by omega),if_neg s,r,if_pos m]
   ·rw[if_neg m,if_neg (by omega),r,if_neg m]
theorem Nh{α:Type}{e:Ck α}{f t:TypeId}{x y:Operand}{b o k p c:Nat}{v:Value}{n0:Nat}{Z:Nat→Prop}{A:Option Addr}{xs:List α}{z z':α}{l:List Value}{n:Nat}
  (d:AZ e f n0 w Z A c xs)(i:xs[k]?=some z)(m:A=some ⟨b,o,none⟩)(q:p=o+k)(r:a.eval x=.pointer (some ⟨b,p,none⟩))(s:a.eval y=v)(aA:(P.info? t).map (·.size)=some n)(hl:v.cells.toList=l)(aB:l.length=n)
  (aC:∀u∈l,u.oneCell'=true)(aD:e.R w Z l z')(h:e.sz=1:=by rfl):
  B2 P ⟨dst,.store t x y,ty,pos,BY,g⟩ a w (fun _ w'=>w.grownBy w' (ob A)∧∃Bj,R2 e w Z Bj (xs.set k z')∧Dn w' n0 f e.sz A (xs.set k z').length c Bj.flatten):=
 N5 d i m (by rw[h,Nat.mul_one];exact q) r s aA hl aB aC aD
end
theorem Ik{l:List Int}{i:Nat}{x:Int}(h:l[i]?=some x):(l.map fun n=>Value.int .i64 n)[i]?=some (.int .i64 x):=by rw[List.getElem?_map,h];rfl
def TC(w:World)(D:Nat→Prop)(M:World→Prop):Nat→World→Prop
 |0,w'=>Ext w w'
 |_+1,w'=>Bz D w w'∧M w'
section
variable{w w' Bm:World}{D:Nat→Prop}{M:World→Prop}{ph:Nat}
theorem Qf(h:TC w D M ph w'):Bz D w w':=by
 cases ph with
 |zero=>exact AM h
 |succ=>exact h.1
theorem KG(h:TC w D M ph w')(a:ph=0):Ext w w':=by subst a;exact h
theorem Qg(c:∀a b,M a→Ext a b→M b)(h:TC w D M ph w')(g:Ext w' Bm):TC w D M ph Bm:=by
 cases ph with
 |zero=>exact Ext.trans h g
 |succ=>exact⟨(show Bz D w w' from h.1).trans (AM g),c _ _ h.2 g⟩
theorem Q0(h:TC w D M ph w')(a:ph=0)(g:Bz D w' Bm)(b:M Bm):TC w D M (ph+1) Bm:=by
 subst a;exact⟨(AM h).trans g,b⟩
theorem OP{r:Option Nat}(g:w.grownBy w' r):Bz (FU FN [r]) w w':=Ih g fun k e=>.inr (by rw[e];exact List.mem_singleton_self _)
end
section
variable{F F':Nat→Prop}{B:List (Option Nat)}{w0 w w':World}{L M:List (Option Nat)}
theorem Hp.Ku{α:Type}{e:Ck α}{t:TypeId}{A:Option Addr}{c:Nat}{xs:List α}{Z Z':Nat→Prop}(h:Hp F B w0 L w)(b:∀w Z w' Z' cs x,e.R w Z cs x→e.R w' Z' cs x)(a:AZ e t w.heap.size w' Z' A c xs):AZ e t w0.heap.size w' Z A c xs:=
 AZ.QZ b (a.base (n1:=w0.heap.size) fun k d=>Nat.le_trans h.sz (a.ge k d))
end
def MZ(w:World)(R:World→Value→World→Prop)(a:World):Prop:=∃v w1 w2,Ext w w1∧R w1 v w2∧Ext w2 a
theorem Ni{w:World}{R:World→Value→World→Prop}:∀a b,MZ w R a→Ext a b→MZ w R b:=fun _ _ ⟨v,w1,w2,c,d,e⟩ g=>⟨v,w1,w2,c,d,Ext.trans e g⟩
def Ep(n:Nat)(w:World):List Nat→Prop
 |[]=>True
 |b::l=>n≤b∧b<w.heap.size∧(l.all fun x=> !Nat.beq b x)=true∧Ep n w l
section
variable{F F':Nat→Prop}{B:List (Option Nat)}{w0 w w':World}{L M:List (Option Nat)}{Z:Nat→Prop}
theorem Ep.mem{n:Nat}:∀{l:List Nat},Ep n w l→∀b∈l,n≤b∧b<w.heap.size
 |[],_,_,h=>by cases h
 |x::l,h,b,a=>by
  rcases List.mem_cons.1 a with rfl|a
  ·exact⟨h.1,h.2.1⟩
  ·exact Ep.mem h.2.2.2 b a
theorem Ep.grow{n a:Nat}(b:a≤n)(c:w.heap.size≤w'.heap.size):∀{l:List Nat},Ep n w l→Ep a w' l
 |[],_=>trivial
 |_::_,h=>⟨Nat.le_trans b h.1,Nat.lt_of_lt_of_le h.2.1 c,h.2.2.1,Ep.grow b c h.2.2.2⟩
theorem Hp.Lw(h:Hp F B w0 L w):∀{l:List Nat},Hp F B w0 L w'→Ep w.heap.size w' l→Hp F B w0 (l.map some++L) w'
 |[],a,_=>a
 |b::l,a,hl=>by
  have c:=Hp.Lw h a hl.2.2.2;refine⟨c.ch,fun k d=>?_,?_,h.ff⟩
  ·rcases List.mem_cons.1 d with e|d
   ·cases e;exact⟨hl.2.1,fun o=>absurd (h.ff _ o) (by have:=h.sz;have:=hl.1;omega),fun m=>absurd m (by have:=h.sz;have:=hl.1;omega)⟩
   ·exact c.lo k d
  ·have key:∀(j:Nat) (x:Nat),(l.map some++L)[j]?=some (some x)→x≠b:=fun j x p e=>by
    subst e;have hm:=List.mem_of_getElem? p;rcases List.mem_append.1 hm with hm|hm
    ·obtain⟨y,q,e⟩:=List.mem_map.1 hm;cases e;have:=List.all_eq_true.1 hl.2.2.1 x q;rw[Nat.beq_refl] at this;cases this
    ·have:=(h.lo x hm).1;have:=hl.1;omega
   intro i j x n hi f;cases i with
   |zero=>
    cases j with
    |zero=>exact n rfl
    |succ j=>
     have g:b=x:=by simpa using hi
     exact key j x (by simpa using f) g.symm
   |succ i=>
    cases j with
    |zero=>
     have g:b=x:=by simpa using f
     exact key i x (by simpa using hi) g.symm
    |succ j=>exact c.ap i j x (by omega) (by simpa using hi) (by simpa using f)
theorem Hp.FX(h:Hp F B w0 L w)(g:Ext w w'){l:List Nat}(hl:Ep w.heap.size w' l):Hp F B w0 (l.map some++L) w':=h.Lw (h.ext g) hl
theorem BW{n0:Nat}{l:List Nat}(hm:Mv w (ZZ F B Z n0 L) w' (ZZ F B Z n0 L))(hl:Ep w.heap.size w' l):Mv w (ZZ F B Z n0 L) w' (ZZ F B Z n0 (l.map some++L)):=
 ⟨hm.size,fun k c b=>⟨(hm.stay k c b).1.imp id fun⟨d,f⟩=>⟨d,fun a=>by
  rcases List.mem_append.1 a with a|a
  ·obtain⟨y,g,e⟩:=List.mem_map.1 a;cases e;have:=(hl.mem k g).1;omega
  ·exact f a⟩,(hm.stay k c b).2⟩⟩
theorem K2{b c:Nat}(f:w.heap.size≤b)(a:b<w'.heap.size)(g:w.heap.size≤c)(d:c<w'.heap.size)(e:b≠c):Ep w.heap.size w' [b,c]:=
 ⟨f,a,by
  have:Nat.beq b c=false:=by
   cases h:Nat.beq b c with
   |false=>rfl
   |true=>exact absurd (Nat.eq_of_beq_eq_true h) e
  simp[this],g,d,rfl,trivial⟩
theorem Hp.Jo (h:Hp F B w0 L w):∀(l:List Nat) (c:List Nat),FL L c (l.map some)→IC c=true→(∀b∈l,w0.heap.size≤b)→Ep w0.heap.size w l
 |[],_,_,_,_=>trivial
 |b::l,[],a,_,_=>a.elim
 |b::l,j::c,a,e,d=>by
  simp only[IC,Bool.and_eq_true] at e;refine⟨d b (List.mem_cons_self ..),(h.lo b (List.mem_of_getElem? a.1)).1,?_,h.Jo l c a.2 e.2 fun x f=>d x (List.mem_cons_of_mem _ f)⟩;rw[List.all_eq_true];intro x f;cases i:Nat.beq b x with
  |false=>rfl
  |true=>
   have g:=Nat.eq_of_beq_eq_true i;subst g;have k:=h.Cm (F':=FN) j a.1 c e.1 a.2 (fun _ h=>h.elim);exact absurd (.inr (List.mem_map.2 ⟨b,f,rfl⟩)) k
theorem DR{n0:Nat}:Mv w (ZZ F B Z n0 L) w (ZZ FN [] Z n0 [none]):=H2 fun b c _=>by
 rcases c with⟨a,d,_⟩|⟨a,_⟩
 ·exact .inl ⟨a,d,id,by simp⟩
 ·exact .inr ⟨a,by simp⟩
end
section
variable{P:Program}{N:Nat}{Q:Exit→Act→World→Prop}{a:Act}{l:Env}{w:World}
def M0(a:Act):Act:={a with defers:=[]}
theorem KT(a:Act):∀l:Env,BX (M0 a) l=M0 (BX a l)
 |[]=>rfl
 |(d,v)::l=>by simp only[BX,KT a l];rfl
theorem ID{D:Nat}{fn:Func}{R:Value→World→Prop}(c:w.heap[D]?=some (.deferred (some [])))(h:∀w',G4 D w w'→LV X0 N (bodyPost P fn (fun e w'=>∃v,e=.returned v∧R v w')) .ret (M0 a) l w'):
  LV (X1 D) N (PM P fn R) .ret a l w:=fun s=>by
 have d:St X0 N (M0 a) l:=⟨s.sz,rfl,s.lt⟩;obtain⟨_,v,b,f⟩:=h _ (GV w D (.deferred none)) d;show LeavesInM Fence.wide 0 P fn _ _ (BX a l).defers .returning w;rw[Dd,show a.defers=mark D from s.df];refine⟨by simp,.inl ⟨D,_,rfl,run_takeDeferred c,?_⟩⟩;rw[KT] at b;exact⟨v,b,f⟩
end
theorem Mo{α:Type}{b:Bool}{x:Option α}{r:α}(h:cond b none x=some r):b=false∧x=some r:=by
 cases b with
 |true=>cases h
 |false=>exact⟨rfl,h⟩
def Gg(xs:List Int):List Int:=xs.mergeSort fun x y=>decide (x≤y)
theorem Il(xs:List Int):(Gg xs).length=xs.length:=List.length_mergeSort _
theorem Nj{w:World}{Z:Nat→Prop}:∀{Bj:List (List Value)} {xs:List Int},R2 (Am .i64) w Z Bj xs→Bj.flatten=GB xs
 |[],[],_=>rfl
 |c::Bj,x::xs,h=>by
  have a:c=[.int .i64 x]:=h.1;rw[List.flatten_cons,Nj h.2,a];rfl
 |[],_::_,h=>h.elim
 |_::_,[],h=>h.elim
theorem Nk{w:World}{Z:Nat→Prop}:∀xs:List Int,R2 (Am .i64) w Z (xs.map fun x=>[.int .i64 x]) xs
 |[]=>trivial
 |_::xs=>⟨rfl,Nk xs⟩
theorem N6(xs:List Int):(xs.map fun x=>[Value.int .i64 x]).flatten=GB xs:=by
 induction xs with
 |nil=>rfl
 |cons x xs ih=>rw[List.map_cons,List.flatten_cons,ih];rfl
theorem M3{t:TypeId}{n0:Nat}{w:World}{Z:Nat→Prop}{A:Option Addr}{c:Nat}{xs:List Int}(h:AZ (Am .i64) t n0 w Z A c xs):Dn w n0 t 1 A xs.length c (GB xs):=by
 obtain⟨Bj,a,b⟩:=h;rw[←Nj a];exact b
theorem K3{t:TypeId}{n0:Nat}{w:World}{Z:Nat→Prop}{A:Option Addr}{c:Nat}{xs:List Int}(h:Dn w n0 t 1 A xs.length c (GB xs)):AZ (Am .i64) t n0 w Z A c xs:=
 ⟨_,Nk xs,by rw[N6];exact h⟩
section
variable{P:Program}{N:Nat}{a:Act}{l:Env}{w:World}
theorem Ka{fn:Func}{x r o:ResultVar}{v v' J5:Value}{R:Value→World→Prop}(g:fn.results= #[x,r,o])(aA:Ls P a l w x v)(t:Ls P a l w r v')(i:Ls P a l w o J5)(h:R (.tuple #[v,v',J5]) w):
  LV X0 N (bodyPost P fn (fun e w'=>∃v,e=.returned v∧R v w')) .ret a l w:=fun s=>by
 refine bodyPost_ret (v:=.tuple #[v,v',J5]) ?_ (by rw[Dd,s.df]) ⟨_,rfl,h⟩;cases x with
 |tmp t0=>
  have d:(BX a l).tmps.getD t0 undef=v:=ee s aA;simp only[Array.getD_eq_getD_getElem?] at d;cases r with
  |tmp t1=>
   have c:(BX a l).tmps.getD t1 undef=v':=ee s t;simp only[Array.getD_eq_getD_getElem?] at c;cases o with
   |tmp t2=>
    have b:(BX a l).tmps.getD t2 undef=J5:=ee s i;simp only[Array.getD_eq_getD_getElem?] at b;simp[results,g,d,c,b]
   |cell k t2=>
    obtain⟨f,m,n⟩:=i;have b:(BX a l).tmps.getD k undef=.pointer (some f):=ee s m;simp only[Array.getD_eq_getD_getElem?] at b;simp[results,g,d,c,b,asAddr,n]
  |cell y t1=>
   obtain⟨p,z,q⟩:=t;have c:(BX a l).tmps.getD y undef=.pointer (some p):=ee s z;simp only[Array.getD_eq_getD_getElem?] at c;cases o with
   |tmp t2=>
    have b:(BX a l).tmps.getD t2 undef=J5:=ee s i;simp only[Array.getD_eq_getD_getElem?] at b;simp[results,g,d,c,asAddr,q,b]
   |cell k t2=>
    obtain⟨f,m,n⟩:=i;have b:(BX a l).tmps.getD k undef=.pointer (some f):=ee s m;simp only[Array.getD_eq_getD_getElem?] at b;simp[results,g,d,c,asAddr,q,b,asAddr,n]
 |cell aC t0=>
  obtain⟨aB,aD,u⟩:=aA;have d:(BX a l).tmps.getD aC undef=.pointer (some aB):=ee s aD;simp only[Array.getD_eq_getD_getElem?] at d;cases r with
  |tmp t1=>
   have c:(BX a l).tmps.getD t1 undef=v':=ee s t;simp only[Array.getD_eq_getD_getElem?] at c;cases o with
   |tmp t2=>
    have b:(BX a l).tmps.getD t2 undef=J5:=ee s i;simp only[Array.getD_eq_getD_getElem?] at b;simp[results,g,d,asAddr,u,c,b]
   |cell k t2=>
    obtain⟨f,m,n⟩:=i;have b:(BX a l).tmps.getD k undef=.pointer (some f):=ee s m;simp only[Array.getD_eq_getD_getElem?] at b;simp[results,g,d,asAddr,u,c,b,asAddr,n]
  |cell y t1=>
   obtain⟨p,z,q⟩:=t;have c:(BX a l).tmps.getD y undef=.pointer (some p):=ee s z;simp only[Array.getD_eq_getD_getElem?] at c;cases o with
   |tmp t2=>
    have b:(BX a l).tmps.getD t2 undef=J5:=ee s i;simp only[Array.getD_eq_getD_getElem?] at b;simp[results,g,d,asAddr,u,c,asAddr,q,b]
   |cell k t2=>
    obtain⟨f,m,n⟩:=i;have b:(BX a l).tmps.getD k undef=.pointer (some f):=ee s m;simp only[Array.getD_eq_getD_getElem?] at b;simp[results,g,d,asAddr,u,c,asAddr,q,b,asAddr,n]
end
end Go.Proofs.YtcdofnchafcfpaaGreat
end
section
namespace Go.Proofs.YtcdofnchafcfpaaGreat
open Go.RowKit
theorem Ly{b:Bool}(h:b=true→False):b=false:=by cases b<;>simp_all
theorem KH{b:Bool}(h:b=false)(k:b=true):False:=by rw[h] at k;cases k
section
variable{F F':Nat→Prop}{B:List (Option Nat)}{w0 w w' Bm:World}{Z:Nat→Prop}{L M:List (Option Nat)}
theorem Kb(h:Ext w w'){r:Option Nat}(g:w'.grownBy Bm r)(b:∀k,r=some k→w.heap.size≤k):Ext w Bm:=
 ⟨g.os.trans h.os,g.tape.trans h.tape,g.output.trans h.output,Nat.le_trans h.size g.size,fun k a _=>(g.block k (Nat.lt_of_lt_of_le a h.size) (fun e=>by have:=b k e.symm;omega)).trans (h.block k a (by simp))⟩
theorem I3{D:Nat→Prop}(h:Bz D w w'){r:Option Nat}(g:w'.grownBy Bm r)(d:∀k,r=some k→D k∨w.heap.size≤k):Bz D w Bm:=
 ⟨g.os.trans h.os,g.tape.trans h.tape,g.output.trans h.output,Nat.le_trans h.size g.size,fun k a b=>(g.block k (Nat.lt_of_lt_of_le a h.size) (fun e=>by
  rcases d k e.symm with c|c
  ·exact b c
  ·omega)).trans (h.block k a b)⟩
theorem Ez{x y:Option Nat}{n:Nat}(hl:∀k,x=some k→n≤k)(a:n≤w'.heap.size)(b:∀k,y=some k→(x=some k∨w'.heap.size≤k)∧k<Bm.heap.size):∀k,y=some k→n≤k:=fun k c=>
 (b k c).1.elim (hl k) (fun h=>Nat.le_trans a h)
theorem Lz{x y a:Option Nat}{n:Nat}(hl:∀k,x=some k→a=some k∨n≤k)(b:n≤w'.heap.size)(c:∀k,y=some k→(x=some k∨w'.heap.size≤k)∧k<Bm.heap.size):∀k,y=some k→a=some k∨n≤k:=fun k d=>
 (c k d).1.elim (hl k) (fun h=>.inr (Nat.le_trans b h))
theorem Hr{b:Nat}{t:TypeId}{cs:Array Value}(nb:IQ w' Bm b t cs):∀k,ob (some ⟨b,0,none⟩)=some k→((none:Option Nat)=some k∨w'.heap.size≤k)∧k<Bm.heap.size:=fun k e=>by
 cases e;exact⟨.inr (Nat.le_of_eq nb.Dh.symm),nb.bk.lt⟩
theorem LA{α:Type}{e:Ck α}{t:TypeId}{A:Option Addr}{c:Nat}{xs:List α}{Z:Nat→Prop}(h:AZ e t w'.heap.size Bm Z A c xs):∀k,ob A=some k→((none:Option Nat)=some k∨w'.heap.size≤k)∧k<Bm.heap.size:=fun k e=>⟨.inr (h.ge k e),h.HA k e⟩
end
theorem qz{X:Ctx}{N:Nat}{a:Act}{l:Env}(st:St X N a l):(BX a l).tmps.size=N:=(HO _ _).trans st.sz
theorem qd{X:Ctx}{N:Nat}{a:Act}{l:Env}(st:St X N a l):(BX a l).defers=X.ds:=(Dd _ _).trans st.df
theorem sp{X:Ctx}{N:Nat}{a:Act}{l:Env}(st:St X N a l)(k:Nat){v:Value}(h:lk (sl a k) l k=v):sl (BX a l) k=v:=(H6 st k).trans h
theorem Hp.nb{F:Nat→Prop}{B L:List (Option Nat)}{w0 w w':World}{b:Nat}{t:TypeId}{cs:Array Value}(h:Hp F B w0 L w)(n:IQ w w' b t cs):Hp F B w0 (some b::L) w':=h.new n.gr (Nat.le_of_eq n.Dh.symm) (Nat.lt_of_lt_of_eq (Nat.lt_succ_self _) n.sz.symm)
theorem Hp.Bv{F:Nat→Prop}{B L:List (Option Nat)}{w0 w w':World}{b:Nat}{t:TypeId}{cs:Array Value}(h:Hp F B w0 L w)(n:IQ w w' b t cs):w0.heap.size≤b:=by rw[n.Dh];exact h.sz
theorem Ac{F:Nat→Prop}{B L:List (Option Nat)}{Z:Nat→Prop}{w w':World}{n0 b:Nat}{t:TypeId}{cs:Array Value}(n:IQ w w' b t cs):Mv w (ZZ F B Z n0 L) w' (ZZ F B Z n0 (some b::L)):=Cj n.gr (Nat.le_of_eq n.Dh.symm)
theorem X2{b c:Sort _}{p:b→c→Prop}{C:Prop}(h:∃a x1,p a x1)(k:∀a x1,p a x1→C):C:=h.elim fun a h=>h.elim fun x1 h=>k a x1 h
theorem X4{c d e f:Sort _}{p:c→d→e→f→Prop}{C:Prop}(h:∃a x1 x2 b,p a x1 x2 b)(k:∀a x1 x2 b,p a x1 x2 b→C):C:=h.elim fun a h=>h.elim fun x1 h=>h.elim fun x2 h=>h.elim fun b h=>k a x1 x2 b h
theorem Y2{a0 a1 r C:Prop}(h:a0∧a1∧r)(k:a0→a1→r→C):C:=h.elim fun a h=>h.elim fun x1 h=>k a x1 h
theorem Y4{a0 a1 a2 a3 r C:Prop}(h:a0∧a1∧a2∧a3∧r)(k:a0→a1→a2→a3→r→C):C:=h.elim fun a h=>h.elim fun x1 h=>h.elim fun x2 h=>h.elim fun b h=>k a x1 x2 b h
theorem Y8{a0 a1 a2 a3 a4 a5 a b r C:Prop}(h:a0∧a1∧a2∧a3∧a4∧a5∧a∧b∧r)(k:a0→a1→a2→a3→a4→a5→a→b→r→C):C:=h.elim fun c h=>h.elim fun x1 h=>h.elim fun x2 h=>h.elim fun d h=>h.elim fun e h=>h.elim fun f h=>h.elim fun g h=>h.elim fun i h=>k c x1 x2 d e f g i h
theorem Iw{α β:Type}{o:Option α}{A:Option β}{f:α→Option β}{r:β}(h:o=none)(a:Option.elim o A f=some r):A=some r:=by rw[h] at a;exact a
theorem Ix{α β:Type}{o:Option α}{A:Option β}{f:α→Option β}{r:β}{x:α}(h:o=some x)(a:Option.elim o A f=some r):f x=some r:=by rw[h] at a;exact a
theorem Hp.Hs{F:Nat→Prop}{B L:List (Option Nat)}{Z:Nat→Prop}{w0 w w':World}{b r:Nat}(h:Hp F B w0 L w)(c:Ep w.heap.size w' [b,r]):Mv w' (ZZ FN [] (ZZ F B Z w0.heap.size L) w.heap.size [some b,some r]) w' (ZZ F B Z w0.heap.size (some b::some r::L)):=
 h.call (Nat.le_refl _) (fun k d=>.inr (by
  have e:k=b∨k=r:=by simpa using d
  rcases e with e|e<;>rw[e]
  ·exact(c.mem _ (by simp)).1
  ·exact(c.mem _ (by simp)).1)) (fun x a=>by
  simp only[List.mem_cons] at a;rcases a with rfl|rfl|a
  ·right;simp
  ·right;simp
  ·left;exact a)
theorem Hp.Qh{F:Nat→Prop}{B L:List (Option Nat)}{Z:Nat→Prop}{w0 w w':World}{b r n:Nat}(h:Hp F B w0 L w)(d:w.heap.size≤n)(c:Ep n w' [b,r]):Mv w' (ZZ FN [] (ZZ F B Z w0.heap.size L) n [some b,some r]) w' (ZZ F B Z w0.heap.size (some b::some r::L)):=
 h.call d (fun k f=>.inr (by
  have e:k=b∨k=r:=by simpa using f
  rcases e with e|e<;>rw[e]
  ·exact(c.mem _ (by simp)).1
  ·exact(c.mem _ (by simp)).1)) (fun x a=>by
  simp only[List.mem_cons] at a;rcases a with rfl|rfl|a
  ·right;simp
  ·right;simp
  ·left;exact a)
theorem Ht{w:World}{Z:Nat→Prop}{b:Nat}{t:TypeId}{cs:Array Value}{l:List Value}(h:Bk w b t cs)(a:Z b)(hl:l=cs.toList):Rz w Z (some ⟨b,0,none⟩) l:=
 .inr ⟨b,0,rfl,a,h.lt,fun j u hu=>by rw[Nat.zero_add,h.cell];subst hl;simpa using hu⟩
theorem Q1{w w':World}{b:Nat}(a:w.heap.size≤b)(c:b<w'.heap.size):Ep w.heap.size w' [b]:=⟨a,c,(by simp),trivial⟩
theorem OQ{n b r:Nat}{w:World}(c:Ep n w [b,r]):Bx FN [some r] w:=⟨fun k d=>by
  have e:k=r:=by simpa using d
  rw[e];exact⟨(c.mem r (by simp)).2,fun h=>h⟩,fun i j k a hi f=>by
  cases i with
  |zero=>cases j with
   |zero=>exact absurd rfl a
   |succ j=>simp at f
  |succ i=>simp at hi,fun _ h=>h.elim⟩
theorem Qi{n b r:Nat}{w:World}(a:Ep n w [b,r]):b≠r:=fun e=>by
 have h:=a.2.2.1;simp[e] at h
theorem Rw{n b r:Nat}{w:World}(a:Ep n w [b,r]):ZC FN [some r] b:=⟨fun h=>h,fun hm=>Qi a (by simpa using hm)⟩
theorem It{n b r:Nat}{w:World}{Z:Nat→Prop}(a:Ep n w [b,r]):∀k,ZZ FN [] Z n [some b,some r] k→ZC FN [some r] k:=fun k c=>⟨fun h=>h,fun hm=>by
 have e:k=r:=by simpa using hm
 have d:=(a.mem r (by simp)).1;rcases c with⟨h,_⟩|⟨_,h⟩
 ·omega
 ·exact h (by rw[e];simp)⟩
theorem J0{w0 w w':World}{r:Nat}(h:Ext w0 w)(g:Bz (FU FN [some r]) w w')(i:w0.heap.size≤r):Ext w0 w':=⟨g.os.trans h.os,g.tape.trans h.tape,g.output.trans h.output,Nat.le_trans h.size g.size,fun b c _=>by
 have d:=h.block b c (by simp);have f:=g.block b (Nat.lt_of_lt_of_le c h.size) (fun a=>by
  rcases a with a|a
  ·exact a
  ·have e:b=r:=by simpa using a
   omega)
 exact f.trans d⟩
theorem Q2{α:Type}{ev:α→Value}{n:Nat}{L:List (List Int×α)}{w:World}{b r:Nat}{t:TypeId}{cs:Array Value}(h:Bk w b t cs)(hm:B9 ev w r n L):¬FU FN [some r] b:=by
 rintro(a|a)
 ·exact a
 ·have e:b=r:=by simpa using a
  obtain⟨es,cl,c,_⟩:=hm;rw[←e] at c;have d:w.heap[b]?=some (.cells cs t (0,0)):=h;rw[d] at c;cases c
theorem Dn.cut{w:World}{base e sz n c k:Nat}{A:Option Addr}{xs:List Value}(h:Dn w base e sz A n c xs)(f:k≤n):Dn w base e sz A k c (xs.take (k*sz)):=by
 have hl:=h.1;have hle:k*sz≤n*sz:=Nat.mul_le_mul_right _ f;refine⟨by rw[List.length_take];omega,?_⟩;rcases h.2 with⟨a,h0⟩|⟨g,cap,cur,a,i,l,o,b,d,m⟩
 ·have:k=0:=by omega
  subst this;subst h0;cases a;exact .inl ⟨rfl,rfl⟩
 ·cases a;refine .inr ⟨g,c,cur,rfl,i,l,by omega,b,d,?_⟩;rw[←m,List.take_take,Nat.min_eq_left hle]
section
variable{α:Type}{e:Ck α}{t:TypeId}{n0:Nat}{w w':World}{Z Z':Nat→Prop}{A:Option Addr}{c:Nat}{xs:List α}
theorem R2.K4:∀(k:Nat) {Bj:List (List Value)} {xs:List α},R2 e w Z Bj xs→k≤xs.length→Bj.flatten.take (k*e.sz)=(Bj.take k).flatten
 |0,_,_,_,_=>by simp
 |k+1,[],[],_,a=>by simp at a
 |k+1,[],_::_,h,_=>by cases h
 |k+1,_::_,[],h,_=>by cases h
 |k+1,cs::Bj,x::xs,h,a=>by
  have b:cs.length=e.sz:=e.len h.1;have ih:=R2.K4 k h.2 (by simpa using a);rw[List.flatten_cons,List.take_succ_cons,List.flatten_cons,←ih,Nat.succ_mul,Nat.add_comm,List.take_append,b,List.take_of_length_le (by omega)]
  congr 2
  omega
theorem AZ.cut(h:AZ e t n0 w Z A c xs){k:Nat}(a:k≤xs.length):AZ e t n0 w Z A c (xs.take k):=by
 obtain⟨Bj,b,d⟩:=h;refine⟨Bj.take k,b.take k,?_⟩;have f:=d.cut a;rw[R2.K4 k b a] at f
 rwa[List.length_take,Nat.min_eq_left a]
end
section
variable{P:Program}{a:Act}{w:World}{dst:Option Tmp}{ty:TypeId}{pos:String}{BY:Array Edge}{g:Option (Nat×Bool)}
theorem Nl {α:Type} {e:Ck α} {n0:Nat} {Z:Nat→Prop} {xs:List α} {t b:TypeId} {sz:Nat} {x y:Operand} {A:Option Addr} {c:Nat} {k:IntKind} {h:Int} (i:P.underlying t=some (.slice b)) (l:(P.info? b).map (·.size)=some sz)
  (m:a.eval x=.slice A xs.length c) (n:a.eval y=.int k h) (o:AZ e b n0 w Z A c xs) (p:0≤(0:Int)∧(0:Int)≤h∧h≤(xs.length:Int)):
  B2 P ⟨dst,.slice t x none (some y) none,ty,pos,BY,g⟩ a w (fun u w'=>u=.slice A (CT xs 0 h).length c∧w'=w):=by
 obtain⟨_,q,z⟩:=p;have aA:xs.length≤c:=by
  obtain⟨Bj,_,r⟩:=o;rcases r.2 with⟨d,h0⟩|⟨g,cap,cur,d,_,_,f,_⟩
  ·omega
  ·cases d;exact f
 have aB:c=0→A=none∨A.map (·.add 0)=A:=fun _=>by
  cases A with
  |none=>exact .inl rfl
  |some ad=>right;simp[Addr.add]
 have v:A.map (·.add (0*sz))=A:=by
  cases A with
  |none=>rfl
  |some ad=>simp[Addr.add]
 have hlen:(CT xs 0 h).length=h.toNat:=by
  unfold CT;rw[List.length_drop,List.length_take];show min h.toNat xs.length-0=_;omega
 have s:(Instr.sliceBounds true xs.length c none (some (.int k h)) none).run P w=.ok (0,h.toNat,c) w:=by
  unfold Instr.sliceBounds;simp[Hq (P:=P) w k h c _ q (by omega)]
 refine KD m rfl (by simp[n];rfl) ?_;rw[hlen];simp[Instr.sliceAt,Instr.slice,underlying,program,Sem.run,i,s,Hd l];intro _;cases A with
 |none=>rfl
 |some ad=>simp[Addr.add]
theorem LB {v:Value} {n:Nat} {t c:TypeId} {sz:Nat} {x:Operand} {b:Nat} {hi:Option Operand} {h:Int} (i:P.underlying t=some (.array n c)) (l:(P.info? c).map (·.size)=some sz) (z:0<n)
  (m:a.eval x=.pointer (some ⟨b,0,none⟩)) (d:SB a hi h n) (e:0≤h∧h≤(n:Int)) (o:Value.slice (some ⟨b,0,none⟩) h.toNat n=v):
  B2 P ⟨dst,.slice t x none hi none,ty,pos,BY,g⟩ a w (fun u w'=>u=v∧w'=w):=by
 subst o;have p:(Instr.sliceBounds false n n none (hi.map a.eval) none).run P w=.ok (0,h.toNat,n) w:=by
  unfold Instr.sliceBounds;rcases d with⟨rfl,rfl⟩|⟨y,k,rfl,q⟩
  ·simp
  ·have r:=fun code=>Hq (P:=P) w k h n code e.1 e.2;simp[q,r]
 refine KD m rfl rfl ?_;have f:n≠0:=by omega
 have s:(Instr.sureAddr (.pointer (some ⟨b,0,none⟩))).run P w=.ok ⟨b,0,none⟩ w:=rfl;simp only[Instr.sliceAt,Sem.run_bind,run_underlying i,Result.andThen_ok,s,p,Hd l,Sem.run_pure,Option.map_none];simp[f,FW]
theorem Qj {α:Type} {e:Ck α} {Z:Nat→Prop} {A:Option Addr} {c:Nat} {xs:List α} {h:Int} (l:Sl e w Z A c xs) (r:0≤(0:Int)∧(0:Int)≤h∧h≤(xs.length:Int)):Sl e w Z A c (CT xs 0 h):=by
 obtain⟨s,g,Bj,d,f⟩:=l;have hlen:(CT xs 0 h).length≤xs.length:=by unfold CT;rw[List.length_drop,List.length_take];omega
 have m:(0:Int).toNat=0:=rfl;have i:h.toNat≤xs.length:=by omega
 refine⟨by omega,g,Bj.take h.toNat,?_,?_⟩
 ·have:=d.take h.toNat;unfold CT
  rwa[m,List.drop_zero]
 ·rcases f with f|⟨b,o,rfl,n,k,a⟩
  ·left;have p:=R2.K4 h.toNat d i;rw[←p,f];simp
  ·refine .inr ⟨b,o,rfl,n,k,fun j u hu=>a j u ?_⟩;rw[←R2.K4 h.toNat d i] at hu;exact List.getElem?_eq_some_iff.2 (by
    obtain⟨q,he⟩:=List.getElem?_eq_some_iff.1 hu;rw[List.length_take] at q;exact⟨by omega,by rw[←he,List.getElem_take]⟩)
def vI(x:Int):Value:=.int .i64 x
def Mp (xs ys:List Int):List Int:=xs.take ys.length++ys.drop xs.length
theorem Mq{d s:Operand}{t e:TypeId}(aA:P.underlying t=some (.slice e))(aB:(P.info? e).map (·.size)=some 1){b:Nat}{l:TypeId}{Z:Nat→Prop}{A:Option Addr}{xs ys:List Int}{c n:Nat}{cs BZ:Array Value}(aC:ys.length=n)
  (aK:a.eval d=.slice (some ⟨b,0,none⟩) n n)(aL:a.eval s=.slice A xs.length c)(u:Bk w b l cs)(m:cs.toList=ys.map vI)(aD:Sl (Am .i64) w Z A c xs)(p:BZ.toList=(Mp xs ys).map vI):
  B2 P ⟨dst,.call {callee:=.builtin .copy,args:= #[d,s],argTypes:= #[t,t]},ty,pos,BY,g⟩ a w (fun _ w'=>K8 w w' b l BZ):=by
 have fin:∀(v:Int) (w':World),(Builtin.copy_ #[t,t] ty #[.slice (some ⟨b,0,none⟩) n n,.slice A xs.length c]).run P w=.ok (.int .i64 v) w'→K8 w w' b l BZ→B2 P ⟨dst,.call {callee:=.builtin .copy,args:= #[d,s],argTypes:= #[t,t]},ty,pos,BY,g⟩ a w (fun _ w'=>K8 w w' b l BZ):=by
  intro v w' f h;have hex:(execOp a.eval ⟨dst,.call {callee:=.builtin .copy,args:= #[d,s],argTypes:= #[t,t]},ty,pos,BY,g⟩).run P w=.ok (.value (.int .i64 v)) w':=by
   unfold execOp;simp only[resolve,invoke,builtin,Sem.run_bind,Sem.run_pure,Result.andThen_ok,List.map_toArray,List.map_cons,List.map_nil,aK,aL,f]
  unfold B2;rw[hex];exact h
 by_cases h0:Nat.min xs.length n=0
 ·have f:=run_copy_none (P:=P) w t t ty e (some ⟨b,0,none⟩) A n n xs.length c aA aB h0;have he:BZ=cs:=by
   apply Array.toList_inj.1;rw[p,m];have aE:min xs.length n=0:=h0;have q:xs.length=0∨n=0:=by omega
   rcases q with q|q
   ·have:xs=[]:=List.eq_nil_of_length_eq_zero q;subst this;simp[Mp]
   ·have:ys=[]:=List.eq_nil_of_length_eq_zero (by omega);subst this;simp[Mp]
  exact fin 0 w f ⟨rfl,by rw[he];exact u,World.grownBy.refl _ _⟩
 ·have aF:0<xs.length:=by
   have aE:¬min xs.length n=0:=h0;omega
  obtain⟨aG,o,_,aM,_,_⟩:=Sl.Dt aD rfl (List.getElem?_eq_getElem aF);subst aM;have r:∀(j:Nat) (v:Value),((xs.map vI).take n)[j]?=some v→w.cell? ((⟨aG,o,none⟩:Addr).add j)=some v:=by
   intro j v x;have i:(xs.map vI)[j]?=some v:=by
    obtain⟨aN,he⟩:=List.getElem?_eq_some_iff.1 x;rw[List.length_take] at aN;exact List.getElem?_eq_some_iff.2 ⟨by omega,by rw[←he,List.getElem_take]⟩
   rw[List.getElem?_map] at i;cases z:xs[j]? with
   |none=>rw[z] at i;cases i
   |some y=>
    rw[z] at i;obtain⟨aS,aT,aO,aH,aP,aQ⟩:=Sl.Dt aD rfl z;cases aH;have aI:aO=[.int .i64 y]:=aP;subst aI;have:=aQ.cells 0 (.int .i64 y) rfl;rw[FW];rw[Nat.add_zero] at this;rw[this];exact i
  have hlen:((xs.map vI).take n).length=Nat.min xs.length n:=by rw[List.length_take,List.length_map];exact Nat.min_comm _ _
  have aJ:cs.size=n:=by rw[←Array.length_toList,m,List.length_map,aC]
  have f:=run_copy_row (P:=P) w t t ty e b 0 n n ⟨aG,o,none⟩ xs.length c cs l ((xs.map vI).take n) aA aB u hlen r (by rw[hlen,aJ,Nat.zero_add];exact Nat.min_le_right _ _) (fun v x=>by
   have:=List.mem_of_mem_take x;obtain⟨y,_,rfl⟩:=List.mem_map.1 this;rfl)
  have he:(cs.toList.take 0++(xs.map vI).take n++cs.toList.drop (0+((xs.map vI).take n).length)).toArray=BZ:=by
   apply Array.toList_inj.1;rw[p,m];unfold Mp;rw[aC];simp only[List.take_zero,List.nil_append,Nat.zero_add,hlen];rw[List.map_append,List.map_take,List.map_drop];show List.take n (List.map vI xs)++List.drop (min xs.length n) (List.map vI ys)=_
   congr 1
   rcases Nat.le_total xs.length n with h|h
   ·rw[Nat.min_eq_left h]
   ·rw[Nat.min_eq_right h,List.drop_of_length_le (by rw[List.length_map];omega),List.drop_of_length_le (by rw[List.length_map];omega)]
  rw[he] at f;exact fin _ _ f ⟨by simp[World.setRow],setRow_heap w b _ _ l _ u,⟨rfl,rfl,rfl,by simp[World.setRow],fun k _ aR=>setRow_other w b k _ (fun e=>aR (by rw[e]))⟩⟩
end
theorem OR{α:Type}{xs:List α}{h:Int}(a:0≤(0:Int)∧(0:Int)≤h∧h≤(xs.length:Int)):(CT xs 0 h).length=h.toNat:=by
 unfold CT;rw[List.length_drop,List.length_take];show min h.toNat xs.length-0=_;omega
theorem AZ.CT{α:Type}{e:Ck α}{t:TypeId}{n0:Nat}{w:World}{Z:Nat→Prop}{A:Option Addr}{c:Nat}{xs:List α}{k:Int}(h:AZ e t n0 w Z A c xs)(a:0≤(0:Int)∧(0:Int)≤k∧k≤(xs.length:Int)):AZ e t n0 w Z A c (CT xs 0 k):=by
 unfold Go.Proofs.YtcdofnchafcfpaaGreat.CT;exact h.cut (by omega)
theorem eL{P:Nat→Prop}:∀k,FN k→P k:=fun _ h=>h.elim
theorem oi{α:Type}{a b:α}(h:some a=some b):a=b:=Option.some.inj h
abbrev zf(Z:Nat→Prop)(w:World)(L:List (Option Nat)):Nat→Prop:=ZZ FN [] Z w.heap.size L
abbrev zb(B:List (Option Nat))(Z:Nat→Prop)(w:World)(L:List (Option Nat)):Nat→Prop:=ZZ FN B Z w.heap.size L
theorem mt{w w1 w2:World}{Z a b:Nat→Prop}(h:Mv w Z w1 a)(g:Mv w1 a w2 b):Mv w Z w2 b:=h.trans g
theorem J1{a:Type}{b:Type}{w w':World}{Z Z':Nat→Prop}{c:Ck a}{d:Option Addr}{e:Nat}{f:List a}{g:Ck b}{h:Option Addr}{i:Nat}{x1:List b}(h0:Sl c w Z d e f)(k:Sl g w Z h i x1)(m:Mv w Z w' Z'):Sl c w' Z' d e f∧Sl g w' Z' h i x1:=⟨h0.mv m,k.mv m⟩
theorem GD{a:Type}{b:Type}{c:Type}{w w':World}{Z Z':Nat→Prop}{d:Ck a}{e:Option Addr}{f:Nat}{g:List a}{h:Ck b}{i:Option Addr}{k:Nat}{x1:List b}{l:Ck c}{n:Option Addr}{o:Nat}{x2:List c}(h0:Sl d w Z e f g)(p:Sl h w Z i k x1)(q:Sl l w Z n o x2)(m:Mv w Z w' Z'):Sl d w' Z' e f g∧Sl h w' Z' i k x1∧Sl l w' Z' n o x2:=⟨h0.mv m,p.mv m,q.mv m⟩
theorem IE{a:Type}{b:Type}{c:Type}{d:Type}{w w':World}{Z Z':Nat→Prop}{e:Ck a}{f:Option Addr}{g:Nat}{h:List a}{i:Ck b}{k:Option Addr}{l:Nat}{x1:List b}{n:Ck c}{o:Option Addr}{p:Nat}{x2:List c}{q:Ck d}{r:Option Addr}{s:Nat}{t:List d}(h0:Sl e w Z f g h)(u:Sl i w Z k l x1)(v:Sl n w Z o p x2)(x:Sl q w Z r s t)(m:Mv w Z w' Z'):Sl e w' Z' f g h∧Sl i w' Z' k l x1∧Sl n w' Z' o p x2∧Sl q w' Z' r s t:=⟨h0.mv m,u.mv m,v.mv m,x.mv m⟩
theorem Rb{a:Type}{b:Type}{c:Type}{d:Type}{e:Type}{w w':World}{Z Z':Nat→Prop}{f:Ck a}{g:Option Addr}{h:Nat}{i:List a}{k:Ck b}{l:Option Addr}{n:Nat}{x1:List b}{o:Ck c}{p:Option Addr}{q:Nat}{x2:List c}{r:Ck d}{s:Option Addr}{t:Nat}{u:List d}{v:Ck e}{x:Option Addr}{y:Nat}{z:List e}(h0:Sl f w Z g h i)(aA:Sl k w Z l n x1)(aB:Sl o w Z p q x2)(aC:Sl r w Z s t u)(aD:Sl v w Z x y z)(m:Mv w Z w' Z'):Sl f w' Z' g h i∧Sl k w' Z' l n x1∧Sl o w' Z' p q x2∧Sl r w' Z' s t u∧Sl v w' Z' x y z:=⟨h0.mv m,aA.mv m,aB.mv m,aC.mv m,aD.mv m⟩
theorem C3{a:Type}{b:Type}{c:Type}{d:Type}{e:Type}{f:Type}{w w':World}{Z Z':Nat→Prop}{g:Ck a}{h:Option Addr}{i:Nat}{k:List a}{l:Ck b}{n:Option Addr}{o:Nat}{x1:List b}{p:Ck c}{q:Option Addr}{r:Nat}{x2:List c}{s:Ck d}{t:Option Addr}{u:Nat}{v:List d}{x:Ck e}{y:Option Addr}{z:Nat}{aA:List e}{aB:Ck f}{aC:Option Addr}{aD:Nat}{aE:List f}(h0:Sl g w Z h i k)(aF:Sl l w Z n o x1)(aG:Sl p w Z q r x2)(aH:Sl s w Z t u v)(aI:Sl x w Z y z aA)(aJ:Sl aB w Z aC aD aE)(m:Mv w Z w' Z'):Sl g w' Z' h i k∧Sl l w' Z' n o x1∧Sl p w' Z' q r x2∧Sl s w' Z' t u v∧Sl x w' Z' y z aA∧Sl aB w' Z' aC aD aE:=⟨h0.mv m,aF.mv m,aG.mv m,aH.mv m,aI.mv m,aJ.mv m⟩
theorem HX{a:Type}{b:Type}{c:Type}{d:Type}{e:Type}{f:Type}{g:Type}{w w':World}{Z Z':Nat→Prop}{h:Ck a}{i:Option Addr}{k:Nat}{l:List a}{n:Ck b}{o:Option Addr}{p:Nat}{x1:List b}{q:Ck c}{r:Option Addr}{s:Nat}{x2:List c}{t:Ck d}{u:Option Addr}{v:Nat}{x:List d}{y:Ck e}{z:Option Addr}{aA:Nat}{aB:List e}{aC:Ck f}{aD:Option Addr}{aE:Nat}{aF:List f}{aG:Ck g}{aH:Option Addr}{aI:Nat}{aJ:List g}(h0:Sl h w Z i k l)(aK:Sl n w Z o p x1)(aL:Sl q w Z r s x2)(aM:Sl t w Z u v x)(aN:Sl y w Z z aA aB)(aO:Sl aC w Z aD aE aF)(aP:Sl aG w Z aH aI aJ)(m:Mv w Z w' Z'):Sl h w' Z' i k l∧Sl n w' Z' o p x1∧Sl q w' Z' r s x2∧Sl t w' Z' u v x∧Sl y w' Z' z aA aB∧Sl aC w' Z' aD aE aF∧Sl aG w' Z' aH aI aJ:=⟨h0.mv m,aK.mv m,aL.mv m,aM.mv m,aN.mv m,aO.mv m,aP.mv m⟩
theorem Di{a:Type}{b:Type}{c:Type}{d:Type}{e:Type}{f:Type}{g:Type}{h:Type}{w w':World}{Z Z':Nat→Prop}{i:Ck a}{k:Option Addr}{l:Nat}{n:List a}{o:Ck b}{p:Option Addr}{q:Nat}{x1:List b}{r:Ck c}{s:Option Addr}{t:Nat}{x2:List c}{u:Ck d}{v:Option Addr}{x:Nat}{y:List d}{z:Ck e}{aA:Option Addr}{aB:Nat}{aC:List e}{aD:Ck f}{aE:Option Addr}{aF:Nat}{aG:List f}{aH:Ck g}{aI:Option Addr}{aJ:Nat}{aK:List g}{aL:Ck h}{aM:Option Addr}{aN:Nat}{aO:List h}(h0:Sl i w Z k l n)(aP:Sl o w Z p q x1)(aQ:Sl r w Z s t x2)(aR:Sl u w Z v x y)(aS:Sl z w Z aA aB aC)(aT:Sl aD w Z aE aF aG)(aU:Sl aH w Z aI aJ aK)(aV:Sl aL w Z aM aN aO)(m:Mv w Z w' Z'):Sl i w' Z' k l n∧Sl o w' Z' p q x1∧Sl r w' Z' s t x2∧Sl u w' Z' v x y∧Sl z w' Z' aA aB aC∧Sl aD w' Z' aE aF aG∧Sl aH w' Z' aI aJ aK∧Sl aL w' Z' aM aN aO:=⟨h0.mv m,aP.mv m,aQ.mv m,aR.mv m,aS.mv m,aT.mv m,aU.mv m,aV.mv m⟩
theorem Ow{a:Type}{b:Type}{c:Type}{d:Type}{e:Type}{f:Type}{g:Type}{h:Type}{i:Type}{w w':World}{Z Z':Nat→Prop}{k:Ck a}{l:Option Addr}{n:Nat}{o:List a}{p:Ck b}{q:Option Addr}{r:Nat}{x1:List b}{s:Ck c}{t:Option Addr}{u:Nat}{x2:List c}{v:Ck d}{x:Option Addr}{y:Nat}{z:List d}{aA:Ck e}{aB:Option Addr}{aC:Nat}{aD:List e}{aE:Ck f}{aF:Option Addr}{aG:Nat}{aH:List f}{aI:Ck g}{aJ:Option Addr}{aK:Nat}{aL:List g}{aM:Ck h}{aN:Option Addr}{aO:Nat}{aP:List h}{aQ:Ck i}{aR:Option Addr}{aS:Nat}{aT:List i}(h0:Sl k w Z l n o)(aU:Sl p w Z q r x1)(aV:Sl s w Z t u x2)(aW:Sl v w Z x y z)(aX:Sl aA w Z aB aC aD)(aY:Sl aE w Z aF aG aH)(aZ:Sl aI w Z aJ aK aL)(a0:Sl aM w Z aN aO aP)(a2:Sl aQ w Z aR aS aT)(m:Mv w Z w' Z'):Sl k w' Z' l n o∧Sl p w' Z' q r x1∧Sl s w' Z' t u x2∧Sl v w' Z' x y z∧Sl aA w' Z' aB aC aD∧Sl aE w' Z' aF aG aH∧Sl aI w' Z' aJ aK aL∧Sl aM w' Z' aN aO aP∧Sl aQ w' Z' aR aS aT:=⟨h0.mv m,aU.mv m,aV.mv m,aW.mv m,aX.mv m,aY.mv m,aZ.mv m,a0.mv m,a2.mv m⟩
theorem N7{a:Type}{b:Type}{c:Type}{d:Type}{e:Type}{f:Type}{g:Type}{h:Type}{i:Type}{k:Type}{w w':World}{Z Z':Nat→Prop}{l:Ck a}{n:Option Addr}{o:Nat}{p:List a}{q:Ck b}{r:Option Addr}{s:Nat}{x1:List b}{t:Ck c}{u:Option Addr}{v:Nat}{x2:List c}{x:Ck d}{y:Option Addr}{z:Nat}{aA:List d}{aB:Ck e}{aC:Option Addr}{aD:Nat}{aE:List e}{aF:Ck f}{aG:Option Addr}{aH:Nat}{aI:List f}{aJ:Ck g}{aK:Option Addr}{aL:Nat}{aM:List g}{aN:Ck h}{aO:Option Addr}{aP:Nat}{aQ:List h}{aR:Ck i}{aS:Option Addr}{aT:Nat}{aU:List i}{aV:Ck k}{aW:Option Addr}{aX:Nat}{aY:List k}(h0:Sl l w Z n o p)(aZ:Sl q w Z r s x1)(a0:Sl t w Z u v x2)(a2:Sl x w Z y z aA)(a3:Sl aB w Z aC aD aE)(a4:Sl aF w Z aG aH aI)(a5:Sl aJ w Z aK aL aM)(a6:Sl aN w Z aO aP aQ)(a7:Sl aR w Z aS aT aU)(a8:Sl aV w Z aW aX aY)(m:Mv w Z w' Z'):Sl l w' Z' n o p∧Sl q w' Z' r s x1∧Sl t w' Z' u v x2∧Sl x w' Z' y z aA∧Sl aB w' Z' aC aD aE∧Sl aF w' Z' aG aH aI∧Sl aJ w' Z' aK aL aM∧Sl aN w' Z' aO aP aQ∧Sl aR w' Z' aS aT aU∧Sl aV w' Z' aW aX aY:=⟨h0.mv m,aZ.mv m,a0.mv m,a2.mv m,a3.mv m,a4.mv m,a5.mv m,a6.mv m,a7.mv m,a8.mv m⟩
theorem eR{X:Ctx}{N:Nat}{a:Act}{l:Env}{x:Operand}{v:Value}(h:St X N a l)(b:ev a l x=v:=by exact rfl):(BX a l).eval x=v:=ee h b
theorem sA(i:Nat){a:Act}{args:Array Value}{n:Nat}{v:Value}(h:a.tmps=args++Array.replicate n undef)(hi:args[i]?=some v:=by exact rfl):sl a i=v:=Hn h hi
theorem Hp.nq{F:Nat→Prop}{B L:List (Option Nat)}{w0 w:World}(h:Hp F B w0 L w)(i j:Nat){x:Option Nat}{b:Nat}(a:(i==j)=false:=by exact rfl)(hi:L[i]?=some (some b):=by exact rfl)(c:L[j]?=some x:=by exact rfl):some b≠x:=h.ne i j a hi c
theorem HL.dq{L:List Oper}{a:Act}{l:Env}{D:Nat→Bool}{V:Nat→Value}{k:Nat}{o:Oper}{a':Act}(K:HL L a l D V k o a')(j d:Nat)(b:DL o j=true:=by exact rfl)(c:Ca L j=some d:=by exact rfl):sl a' d=V j:=K.BF j d b c
theorem F6.dq{L:List Oper}{a:Act}{l:Env}{T:Nat→Act→World→Prop}{Φ:Nat→Value→World→Prop}{sp:List Nat}{k:Nat}{o:Oper}{a':Act}{w':World}{ph:Nat}(K:F6 L a l T Φ sp k o a' w' ph)(j d:Nat)(b:DL o j=true:=by exact rfl)(c:Ca L j=some d:=by exact rfl):Φ j (sl a' d) w':=K.BF j d b c
section
variable{P:Program}{X:Ctx}{N:Nat}{ops:Array Oper}{Q:Exit→Act→World→Prop}{rest:List Oper}{a:Act}{l:Env}{w:World}{op:Op}{ty:TypeId}{pos:String}{BY:Array Edge}{d:Nat}
theorem wD{v:Value}{w':World}(b:St X N a l→B2 P ⟨some d,op,ty,pos,BY,none⟩ (BX a l) w (fun u Bm=>u=v∧Bm=w'))(c:WL P X N ops Q rest a ((d,v)::l) w')(e:Nat.blt d N=true:=by exact rfl):WL P X N ops Q (⟨some d,op,ty,pos,BY,none⟩::rest) a l w:=wd e b c
theorem wM{x:Operand}{v:Value}(b:ev a l x=v)(c:WL P X N ops Q rest a ((d,v)::l) w)(e:Nat.blt d N=true:=by exact rfl):WL P X N ops Q (⟨some d,.move x,ty,pos,BY,none⟩::rest) a l w:=wm e b c
theorem wA{x:Operand}{v:Value}(b:ev a l x=v)(c:WL P X N ops Q rest a ((d,v)::l) w)(e:Nat.blt d N=true:=by exact rfl):WL P X N ops Q (⟨some d,.assign x,ty,pos,BY,none⟩::rest) a l w:=wa e b c
theorem wE{R:Value→World→Prop}(b:St X N a l→B2 P ⟨some d,op,ty,pos,BY,none⟩ (BX a l) w R)(c:∀v w',R v w'→WL P X N ops Q rest a ((d,v)::l) w')(e:Nat.blt d N=true:=by exact rfl):WL P X N ops Q (⟨some d,op,ty,pos,BY,none⟩::rest) a l w:=we e b c
end
section
variable{P:Program}{L:List Oper}{a:Act}{l:Env}{T:Nat→Act→World→Prop}{Φ:Nat→Value→World→Prop}{sp:List Nat}{S:Nat→World→World→Prop}{k:Nat}
theorem oD{op:Op}{ty:TypeId}{pos:String}{BY:Array Edge}{dst:Option Nat}{c:Value}(h:∀{a' w' ph},F6 L a l T Φ sp k ⟨dst,op,ty,pos,BY,none⟩ a' w' ph→B2 P ⟨dst,op,ty,pos,BY,none⟩ a' w' (fun u Bm=>u=c∧Bm=w'))(b:sp.contains k=false:=by exact rfl)(d:∀w,Φ k c w:=by exact fun _=>rfl):F7 P L a l S T Φ sp k ⟨dst,op,ty,pos,BY,none⟩:=od b d h
end
theorem Fl{F:Nat→Prop}{L:List (Option Nat)}{w:World}{Z:Nat→Prop}(a:Bx F L w)(c:∀b,Z b→¬F b∧some b∉L):∃B,B=L∧Hp F B w L w∧(∀b,Z b→¬F b∧some b∉B)∧∀w',Bz (FU F B) w w'→Bz (FU F L) w w':=⟨L,rfl,Hp.start a,c,fun _ h=>h⟩
theorem Hu{F:Nat→Prop}{L:List (Option Nat)}{w:World}{Z Za:Nat→Prop}(c:Bx F L w)(d:∀b,Z b→¬F b∧some b∉L)(a:∀b,Za b→¬F b∧some b∉L):∃B,B=L∧Hp F B w L w∧(∀b,Z b→¬F b∧some b∉B)∧(∀b,Za b→¬F b∧some b∉B)∧∀w',Bz (FU F B) w w'→Bz (FU F L) w w':=⟨L,rfl,Hp.start c,d,a,fun _ h=>h⟩
section
variable{P:Program}{X:Ctx}{N:Nat}{ops:Array Oper}{Q:Exit→Act→World→Prop}{rest:List Oper}{a:Act}{l:Env}{w:World}{op:Op}{ty:TypeId}{pos:String}{BY:Array Edge}{d j dj:Nat}{b c x:Bool}
theorem wF(e:x=c)(f:WL P X N ops Q rest a ((d,undef)::l) w)(g:(ops[j]?).bind (·.dst)=some dj:=by exact rfl)(h:ev a l (.tmp dj)=.bool x:=by exact rfl)(i:c≠b:=by decide)(k:Nat.blt d N=true:=by exact rfl):WL P X N ops Q (⟨some d,op,ty,pos,BY,some (j,b)⟩::rest) a l w:=Mg rfl g (AY h e) i rfl (by simpa[Nat.blt_eq] using k) f
theorem wH(e:WL P X N ops Q rest a ((d,undef)::l) w)(f:(ops[j]?).bind (·.dst)=some dj:=by exact rfl)(g:ev a l (.tmp dj)=.bool c:=by exact rfl)(h:c≠b:=by decide)(i:Nat.blt d N=true:=by exact rfl):WL P X N ops Q (⟨some d,op,ty,pos,BY,some (j,b)⟩::rest) a l w:=Mg rfl f g h rfl (by simpa[Nat.blt_eq] using i) e
theorem wX{R:Value→World→Prop}(c:x=b)(e:St X N a l→B2 P ⟨some d,op,ty,pos,BY,some (j,b)⟩ (BX a l) w R)(f:∀v w',R v w'→WL P X N ops Q rest a ((d,v)::l) w')(g:(ops[j]?).bind (·.dst)=some dj:=by exact rfl)(h:ev a l (.tmp dj)=.bool x:=by exact rfl)(i:Nat.blt d N=true:=by exact rfl):WL P X N ops Q (⟨some d,op,ty,pos,BY,some (j,b)⟩::rest) a l w:=FK rfl g (AY h c) rfl (by simpa[Nat.blt_eq] using i) e f
theorem wG{v:Value}{w':World}(c:x=b)(e:St X N a l→B2 P ⟨some d,op,ty,pos,BY,some (j,b)⟩ (BX a l) w (fun u Bm=>u=v∧Bm=w'))(f:WL P X N ops Q rest a ((d,v)::l) w')(g:(ops[j]?).bind (·.dst)=some dj:=by exact rfl)(h:ev a l (.tmp dj)=.bool x:=by exact rfl)(i:Nat.blt d N=true:=by exact rfl):WL P X N ops Q (⟨some d,op,ty,pos,BY,some (j,b)⟩::rest) a l w:=CV rfl g (AY h c) rfl (by simpa[Nat.blt_eq] using i) e f
theorem wN{y:Operand}{v:Value}(c:x=b)(e:ev a l y=v)(f:WL P X N ops Q rest a ((d,v)::l) w)(g:(ops[j]?).bind (·.dst)=some dj:=by exact rfl)(h:ev a l (.tmp dj)=.bool x:=by exact rfl)(i:Nat.blt d N=true:=by exact rfl):WL P X N ops Q (⟨some d,.move y,ty,pos,BY,some (j,b)⟩::rest) a l w:=wG c (fun st=>AV (ee st e)) f g h i
theorem wn{y:Code}(h:CC P X N y Q a l w):WL P X N ops (Exit.then (CW P X.ro y Q) Q) [] a l w:=Be (Br h)
theorem cr{id:Nat}{L:List Oper}{y:Code}(h:WL P X N L.toArray (Exit.then (CW P X.ro y Q) Q) L a l w):CC P X N (.seq (.region id L.toArray false) y) Q a l w:=Aj (Aq h)
theorem wr{id:Nat}{L:List Oper}{y:Code}(h:WL P X N L.toArray (Exit.then (CW P X.ro y Q) Q) L a l w):WL P X N ops (Exit.then (CW P X.ro (.seq (.region id L.toArray false) y) Q) Q) [] a l w:=wn (cr h)
theorem cn{y:Code}(h:CC P X N y Q a l w):CC P X N .skip (Exit.then (CW P X.ro y Q) Q) a l w:=CO (Br h)
theorem Dk{id:Nat}{K:Act→World→Prop}(h:LV X N Q .ret a l w):LV X N (Exit.inBlock id (Exit.then K Q)) .ret a l w:=GI (Ba h)
theorem Du{id:Nat}{y:Code}(h:CC P X N y Q a l w):LV X N (Exit.inBlock id (Exit.then (CW P X.ro y Q) Q)) .normal a l w:=GH (Br h)
theorem Ei{id:Nat}{K b:Act→World→Prop}(h:LV X N Q (.exit id) a l w):CC P X N (.exit id) (Exit.then K (Exit.then b Q)) a l w:=IA (EI (EI h))
abbrev Fo(X:Ctx)(N:Nat)(a:Act):Prop:=a.tmps.size=N∧a.defers=X.ds
theorem qo(st:St X N a l):Fo X N (BX a l):=⟨qz st,qd st⟩
theorem ro{c:Code}(b:Fo X N a)(h:CC P X N c Q a [] w):CW P X.ro c Q a w:=NS b.1 b.2 h
theorem lf{e:Exit}(b:Fo X N a)(h:LV X N Q e a [] w):Q e a w:=QY b.1 b.2 h
end
theorem rq{P:Program}{w:World}{f:FuncId}{fn:Func}{c:Code}{args:Array Value}{N:Nat}{R:Value→World→Prop}(b:P.funcs[f]?=some fn)
  (h:∀a:Act,a.tmps=args++Array.replicate (N-args.size) undef→a.defers=[]→CC P X0 N c (bodyPost P fn (fun e w'=>∃v,e=.returned v∧R v w')) a [] w)(d:fn.body=some c:=by exact rfl)(g:fn.ntmps=N:=by exact rfl)(i:args.size≤N:=by simp):BI P f args w R:=HP b d g i h
section
variable{P:Program}{L:List Oper}{a:Act}{l:Env}{T:Nat→Act→World→Prop}{Φ:Nat→Value→World→Prop}{sp:List Nat}{S:Nat→World→World→Prop}{k j d:Nat}{o:Oper}{b c x:Bool}
theorem oV{v:Value}(g:o.guard=some (j,b))(c:Ca L j=some d)(e:DL o j=true)(f:∀u w,Φ j u w→u=v):∀a' w' ph,F6 L a l T Φ sp k o a' w' ph→sl a' d=v:=fun _ _ _ K=>f _ _ (K.BF j d e c)
theorem oT(g:x=c)(e:o.guard=some (j,b):=by exact rfl)(f:Ca L j=some d:=by exact rfl)(i:DL o j=true:=by exact rfl)(m:∀u w,Φ j u w→u=.bool x:=by exact fun _ _ h=>h)(n:sp.contains k=false:=by exact rfl)(p:c≠b:=by decide)(q:∀w,Φ k undef w:=by exact fun _=>rfl):F7 P L a l S T Φ sp k o:=OJ e f n p (by rw[←g];exact oV e f i m) q
theorem oX(f:x=b)(h:∀{a' w' ph},F6 L a l T Φ sp k o a' w' ph→B2 P o a' w' (fun v Bm=>Φ k v Bm∧Ext w' Bm))(c:o.guard=some (j,b):=by exact rfl)(e:Ca L j=some d:=by exact rfl)(g:DL o j=true:=by exact rfl)(i:∀u w,Φ j u w→u=.bool x:=by exact fun _ _ h=>h)(m:sp.contains k=false:=by exact rfl):F7 P L a l S T Φ sp k o:=CF c e m (by rw[←f];exact oV c e g i) fun _ _ _ K=>h K
theorem oG{v:Value}(f:x=b)(h:∀{a' w' ph},F6 L a l T Φ sp k o a' w' ph→B2 P o a' w' (fun u Bm=>u=v∧Bm=w'))(c:o.guard=some (j,b):=by exact rfl)(e:Ca L j=some d:=by exact rfl)(g:DL o j=true:=by exact rfl)(i:∀u w,Φ j u w→u=.bool x:=by exact fun _ _ h=>h)(m:sp.contains k=false:=by exact rfl)(n:∀w,Φ k v w:=by exact fun _=>rfl):F7 P L a l S T Φ sp k o:=Df c e m n (by rw[←f];exact oV c e g i) fun _ _ _ K=>h K
theorem oE(h:∀{a' w' ph},F6 L a l T Φ sp k o a' w' ph→B2 P o a' w' (fun v Bm=>Φ k v Bm∧Ext w' Bm))(b:o.guard=none:=by exact rfl)(c:sp.contains k=false:=by exact rfl):F7 P L a l S T Φ sp k o:=Ib b c fun _ _ _ K=>h K
theorem F6.kO{a':Act}{w':World}{ph:Nat}{v:Value}(K:F6 L a l T Φ sp k o a' w' ph)(s:Nat)(h:isDst L s=false:=by exact rfl)(b:lk (sl a s) l s=v:=by exact rfl):a'.eval (.tmp s)=v:=es ((K.out s h).trans b)
theorem HL.kO{D:Nat→Bool}{V:Nat→Value}{a':Act}{v:Value}(K:HL L a l D V k o a')(s:Nat)(h:isDst L s=false:=by exact rfl)(b:lk (sl a s) l s=v:=by exact rfl):a'.eval (.tmp s)=v:=es ((K.out s h).trans b)
end
abbrev IT(σ:Type):=σ→World→(Nat→Prop)→Option Nat→Prop
theorem gm{α:Type}{L:List α}{x:α}(i:Nat)(h:L[i]?=some x:=by exact rfl):x∈L:=List.mem_of_getElem? h
theorem hw{L:List (Option Nat)}{o o':Option Nat}{n:Nat}{p:Nat→Prop}(a:∀k,o'=some k→(o=some k∨n≤k)∧p k)(i:Nat)(h:L[i]?=some o:=by exact rfl):∀k,o'=some k→some k∈L∨n≤k:=fun k b=>(a k b).1.imp (fun e=>by rw[←e];exact gm i h) id
theorem Hp.mq{F:Nat→Prop}{B b L M:List (Option Nat)}{w0 w:World}{x c:Option Nat}(h:Hp F B w0 L w)(i:Nat)(a:List Nat)(e:FL L a M)(d:B=b)(hi:L[i]?=some x:=by exact rfl)(f:(a.all fun j=> !Nat.beq i j)=true:=by exact rfl)(g:∀y∈b,y=c∨y∈M:=by simp):∀k,x=some k→(c=some k∨w0.heap.size≤k)∧k<w.heap.size:=h.Qe i hi a f e (by rw[d];exact g)
end Go.Proofs.YtcdofnchafcfpaaGreat
end
section
namespace Go.Proofs.YtcdofnchafcfpaaGreat
open Go.RowKit Go.WideShapes
structure Bb where
 Lo:Int
 Hi:Int
structure CM where
 C5:Bool
 Number:Int
 B7:Int
 B8:Int
structure Az where
 BB:Int
 Cn:Int
structure AO where
 Cz:Int
 Cw:Int
structure AS where
 C5:Int
 B3:Int
 B4:Int
structure Bq where
 a0:Int
 a1:Int
 a2:Int
def Bq.set(x:Bq)(k:Nat)(v:Int):Bq:=⟨if k=0 then v else x.a0,if k=1 then v else x.a1,if k=2 then v else x.a2⟩
def Bq.l(x:Bq):List Int:=[x.a0,x.a1,x.a2]
theorem Bq.Rx(x:Bq)(k:Nat)(v:Int)(h:k<3): #[.int .i64 (x.set k v).a0,.int .i64 (x.set k v).a1,.int .i64 (x.set k v).a2]=setCells #[.int .i64 x.a0,.int .i64 x.a1,.int .i64 x.a2] k [.int .i64 v]:=by
 match k,h with
 |0,_=>rfl
 |1,_=>rfl
 |2,_=>rfl
 |k+3,h=>omega
def Bq.cp(x:Bq)(l:List Int):Bq:=⟨l.getD 0 x.a0,l.getD 1 x.a1,l.getD 2 x.a2⟩
theorem Bq.Rc(x:Bq)(l:List Int):(#[.int .i64 (x.cp l).a0,.int .i64 (x.cp l).a1,.int .i64 (x.cp l).a2]:Array Value).toList=(Mp l [x.a0,x.a1,x.a2]).map vI:=by
 match l with
 |[]=>rfl
 |[_]=>rfl
 |[_,_]=>rfl
 |_::_::_::_=>simp[Mp,vI,Bq.cp]
structure BJ where
 Ao:List Bb
 Ap:List (List Int)
 Ak:List CM
 By:Int
 AD:List Az
 AA:List AO
 AP:List AS
 weights:List Int
 BH:List Bq
 known:List (List Int×Int)
structure Cu where
 BM:List Bb
 CI:List (List Int)
 C1:List CM
structure Kd where
 Ag:List Bb
 Ae:List (List Int)
 Af:List CM
 BH:List Bq
structure Bw where
 Ag:List Bb
 Ae:List (List Int)
 Af:List CM
 Flat:Int
 Av:List Az
 Au:List AO
 AI:List AS
structure Kw where
 DB:Int
 Cv:Int
def AH:Ck Bb:=⟨2,fun _ _ cs x=>cs=[.int .i64 x.Lo,.int .i64 x.Hi],fun h=>by rw[h];rfl,fun h=>by rw[h];simp[Value.oneCell'],fun h _=>h⟩
def AR:Ck CM:=⟨4,fun _ _ cs x=>cs=[.bool x.C5,.int .i64 x.Number,.int .i64 x.B7,.int .i64 x.B8],fun h=>by rw[h];rfl,fun h=>by rw[h];simp[Value.oneCell'],fun h _=>h⟩
def B5:Ck Bq:=⟨3,fun _ _ cs x=>cs=[.int .i64 x.a0,.int .i64 x.a1,.int .i64 x.a2],fun h=>by rw[h];rfl,fun h=>by rw[h];simp[Value.oneCell'],fun h _=>h⟩
def AT:Ck Az:=⟨2,fun _ _ cs x=>cs=[.int .i64 x.BB,.int .i64 x.Cn],fun h=>by rw[h];rfl,fun h=>by rw[h];simp[Value.oneCell'],fun h _=>h⟩
def AU:Ck AO:=⟨2,fun _ _ cs x=>cs=[.int .i64 x.Cz,.int .i64 x.Cw],fun h=>by rw[h];rfl,fun h=>by rw[h];simp[Value.oneCell'],fun h _=>h⟩
def AW:Ck AS:=⟨3,fun _ _ cs x=>cs=[.int .i64 x.C5,.int .i64 x.B3,.int .i64 x.B4],fun h=>by rw[h];rfl,fun h=>by rw[h];simp[Value.oneCell'],fun h _=>h⟩
def D2:Ck Bw:=⟨7,fun w Z cs x=>∃a b c d e f i k l m n o,cs=[.slice a x.Ag.length b,.slice c x.Ae.length d,.slice e x.Af.length f,.int .i64 x.Flat,.slice i x.Av.length k,.slice l x.Au.length m,.slice n x.AI.length o]∧Sl AH w Z a b x.Ag∧Sl (BP (Am .i64)) w Z c d x.Ae∧Sl AR w Z e f x.Af∧Sl AT w Z i k x.Av∧Sl AU w Z l m x.Au∧Sl AW w Z n o x.AI,fun⟨_,_,_,_,_,_,_,_,_,_,_,_,h,_⟩=>by rw[h];rfl,fun⟨_,_,_,_,_,_,_,_,_,_,_,_,h,_⟩=>by rw[h];simp[Value.oneCell'],fun⟨a,b,c,d,e,f,i,k,l,m,n,o,h,h0,p,q,r,s,t⟩ g=>⟨a,b,c,d,e,f,i,k,l,m,n,o,h,h0.mv g,p.mv g,q.mv g,r.mv g,s.mv g,t.mv g⟩⟩
abbrev Co(a:Option Addr)(b:Nat)(c:Option Addr)(d:Nat)(e:Option Addr)(f:Nat)(g:Option Addr)(h:Nat)(i:Option Addr)(k:Nat)(l:Option Addr)(m:Nat)(n:Option Addr)(o:Nat)(p:Option Addr)(q:Nat)(r:Nat)(x:BJ):List Value:=[.slice a x.Ao.length b,.slice c x.Ap.length d,.slice e x.Ak.length f,I x.By,.slice g x.AD.length h,.slice i x.AA.length k,.slice l x.AP.length m,.slice n x.weights.length o,.slice p x.BH.length q,.map (some r)]
abbrev BG(a:Option Addr)(b:Nat)(c:Option Addr)(d:Nat)(e:Option Addr)(f:Nat)(x:Cu):List Value:=[.slice a x.BM.length b,.slice c x.CI.length d,.slice e x.C1.length f]
abbrev AL(a:Option Addr)(b:Nat)(c:Option Addr)(d:Nat)(e:Option Addr)(f:Nat)(g:Option Addr)(h:Nat)(i:Option Addr)(k:Nat)(l:Option Addr)(m:Nat)(x:Bw):List Value:=[.slice a x.Ag.length b,.slice c x.Ae.length d,.slice e x.Af.length f,I x.Flat,.slice g x.Av.length h,.slice i x.Au.length k,.slice l x.AI.length m]
def Jp(n:Nat)(w:World)(Z:Nat→Prop)(p:Value):Option Kd→Prop
 |none=>p=.pointer none
 |some x=>∃(b:Nat) (a:Option Addr) (c:Nat) (d:Option Addr) (e:Nat) (f:Option Addr) (g:Nat) (h:Option Addr) (i:Nat),p=pt b 0∧Ep n w [b]∧Bk w b 132 #[.slice a x.Ag.length c,.slice d x.Ae.length e,.slice f x.Af.length g,.slice h x.BH.length i]∧Sl AH w (ZZ FN [] Z n [some b]) a c x.Ag∧Sl (BP (Am .i64)) w (ZZ FN [] Z n [some b]) d e x.Ae∧Sl AR w (ZZ FN [] Z n [some b]) f g x.Af∧Sl B5 w (ZZ FN [] Z n [some b]) h i x.BH
theorem Jp.cases{n:Nat}{w:World}{Z:Nat→Prop}{p:Value}:∀{o:Option Kd},Jp n w Z p o→(o=none∧p=.pointer none)∨(∃x,o=some x∧∃(b:Nat) (a:Option Addr) (c:Nat) (d:Option Addr) (e:Nat) (f:Option Addr) (g:Nat) (i:Option Addr) (k:Nat),p=pt b 0∧Ep n w [b]∧Bk w b 132 #[.slice a x.Ag.length c,.slice d x.Ae.length e,.slice f x.Af.length g,.slice i x.BH.length k]∧Sl AH w (ZZ FN [] Z n [some b]) a c x.Ag∧Sl (BP (Am .i64)) w (ZZ FN [] Z n [some b]) d e x.Ae∧Sl AR w (ZZ FN [] Z n [some b]) f g x.Af∧Sl B5 w (ZZ FN [] Z n [some b]) i k x.BH)
 |none,h=>.inl ⟨rfl,h⟩
 |some x,h=>.inr ⟨x,rfl,h⟩
theorem Jp.ext{n:Nat}{w w':World}{Z:Nat→Prop}{p:Value}:∀{o:Option Kd},Jp n w Z p o→Ext w w'→Jp n w' Z p o
 |none,h,_=>h
 |some x,⟨b,a,c,d,f,i,k,l,m,e,q,r,s,s1,s2,t⟩,g=>⟨b,a,c,d,f,i,k,l,m,e,q.grow (Nat.le_refl _) g.size,r.ext g,s.mv (Aa g),s1.mv (Aa g),s2.mv (Aa g),t.mv (Aa g)⟩
def Dm(n:Nat)(w:World)(Z:Nat→Prop)(p:Value):Option BJ→Prop
 |none=>p=.pointer none
 |some x=>∃(b r:Nat) (a:Option Addr) (c:Nat) (d:Option Addr) (e:Nat) (f:Option Addr) (g:Nat) (h:Option Addr) (i:Nat) (k:Option Addr) (l:Nat) (m:Option Addr) (o:Nat) (q:Option Addr) (s:Nat) (t:Option Addr) (u:Nat),p=pt b 0∧Ep n w [b,r]∧Bk w b 109 #[.slice a x.Ao.length c,.slice d x.Ap.length e,.slice f x.Ak.length g,I x.By,.slice h x.AD.length i,.slice k x.AA.length l,.slice m x.AP.length o,.slice q x.weights.length s,.slice t x.BH.length u,.map (some r)]∧B9 (fun x:Int=>I x) w r 2 x.known∧Sl AH w (ZZ FN [] Z n [some b,some r]) a c x.Ao∧Sl (BP (Am .i64)) w (ZZ FN [] Z n [some b,some r]) d e x.Ap∧Sl AR w (ZZ FN [] Z n [some b,some r]) f g x.Ak∧Sl AT w (ZZ FN [] Z n [some b,some r]) h i x.AD∧Sl AU w (ZZ FN [] Z n [some b,some r]) k l x.AA∧Sl AW w (ZZ FN [] Z n [some b,some r]) m o x.AP∧Sl (Am .i64) w (ZZ FN [] Z n [some b,some r]) q s x.weights∧Sl B5 w (ZZ FN [] Z n [some b,some r]) t u x.BH
theorem Dm.cases{n:Nat}{w:World}{Z:Nat→Prop}{p:Value}:∀{o:Option BJ},Dm n w Z p o→(o=none∧p=.pointer none)∨(∃x,o=some x∧∃(b r:Nat) (a:Option Addr) (c:Nat) (d:Option Addr) (e:Nat) (f:Option Addr) (g:Nat) (i:Option Addr) (k:Nat) (l:Option Addr) (m:Nat) (q:Option Addr) (s:Nat) (t:Option Addr) (u:Nat) (v:Option Addr) (y:Nat),p=pt b 0∧Ep n w [b,r]∧Bk w b 109 #[.slice a x.Ao.length c,.slice d x.Ap.length e,.slice f x.Ak.length g,I x.By,.slice i x.AD.length k,.slice l x.AA.length m,.slice q x.AP.length s,.slice t x.weights.length u,.slice v x.BH.length y,.map (some r)]∧B9 (fun x:Int=>I x) w r 2 x.known∧Sl AH w (ZZ FN [] Z n [some b,some r]) a c x.Ao∧Sl (BP (Am .i64)) w (ZZ FN [] Z n [some b,some r]) d e x.Ap∧Sl AR w (ZZ FN [] Z n [some b,some r]) f g x.Ak∧Sl AT w (ZZ FN [] Z n [some b,some r]) i k x.AD∧Sl AU w (ZZ FN [] Z n [some b,some r]) l m x.AA∧Sl AW w (ZZ FN [] Z n [some b,some r]) q s x.AP∧Sl (Am .i64) w (ZZ FN [] Z n [some b,some r]) t u x.weights∧Sl B5 w (ZZ FN [] Z n [some b,some r]) v y x.BH)
 |none,h=>.inl ⟨rfl,h⟩
 |some x,h=>.inr ⟨x,rfl,h⟩
theorem Dm.ext{n:Nat}{w w':World}{Z:Nat→Prop}{p:Value}:∀{o:Option BJ},Dm n w Z p o→Ext w w'→Dm n w' Z p o
 |none,h,_=>h
 |some x,⟨b,r,a,c,d,f,i,k,l,m,q,s,t,u,v,y,z,aA,e,aB,aC,hm,aD,s1,s2,aE,aF,aG,aH,aI⟩,g=>⟨b,r,a,c,d,f,i,k,l,m,q,s,t,u,v,y,z,aA,e,aB.grow (Nat.le_refl _) g.size,aC.ext g,hm.ext g,aD.mv (Aa g),s1.mv (Aa g),s2.mv (Aa g),aE.mv (Aa g),aF.mv (Aa g),aG.mv (Aa g),aH.mv (Aa g),aI.mv (Aa g)⟩
theorem Dm.use{n:Nat}{w:World}{Z:Nat→Prop}{p:Value}{x:BJ}:Dm n w Z p (some x)→∃(b r:Nat) (c:Option Addr) (d:Nat) (f:Option Addr) (g:Nat) (h:Option Addr) (i:Nat) (k:Option Addr) (l:Nat) (m:Option Addr) (o:Nat) (q:Option Addr) (s:Nat) (t:Option Addr) (u:Nat) (v:Option Addr) (y:Nat),p=pt b 0∧Bx FN [some r] w∧n≤r∧Rz w (ZC FN [some r]) (some ⟨b,0,none⟩) [.slice c x.Ao.length d,.slice f x.Ap.length g,.slice h x.Ak.length i,I x.By,.slice k x.AD.length l,.slice m x.AA.length o,.slice q x.AP.length s,.slice t x.weights.length u,.slice v x.BH.length y,.map (some r)]∧B9 (fun x:Int=>I x) w r 2 x.known∧Sl AH w (ZC FN [some r]) c d x.Ao∧Sl (BP (Am .i64)) w (ZC FN [some r]) f g x.Ap∧Sl AR w (ZC FN [some r]) h i x.Ak∧Sl AT w (ZC FN [some r]) k l x.AD∧Sl AU w (ZC FN [some r]) m o x.AA∧Sl AW w (ZC FN [some r]) q s x.AP∧Sl (Am .i64) w (ZC FN [some r]) t u x.weights∧Sl B5 w (ZC FN [some r]) v y x.BH
 |⟨b,r,c,d,f,g,h,i,k,l,m,o,q,s,t,u,v,y,e,a,z,hm,aA,s1,s2,aB,aC,aD,aE,aF⟩=>⟨b,r,c,d,f,g,h,i,k,l,m,o,q,s,t,u,v,y,e,OQ a,(a.mem _ (by simp)).1,Ht z (Rw a) rfl,hm,aA.mv (C9 (It a)),s1.mv (C9 (It a)),s2.mv (C9 (It a)),aB.mv (C9 (It a)),aC.mv (C9 (It a)),aD.mv (C9 (It a)),aE.mv (C9 (It a)),aF.mv (C9 (It a))⟩
def FH(d:Nat)(a:Int)(b:Int)(c:Int):Option (Bool):=
 cond (decide (b≤a)) (some (decide (a≤c))) (some (false))
def DS(b:Nat)(a:Bb):Option (Bool):=
 cond (decide ((0:Int)≤a.Lo)) (cond (decide (a.Lo≤a.Hi)) (some (decide (a.Hi≤100))) (some (false))) (some (false))
def G1(b:Nat)(a:Bb):Option (Int):=
 (i64 (a.Hi-a.Lo)).bind fun _=>(i64 ((a.Hi-a.Lo)+1)).bind fun _=>some ((a.Hi-a.Lo)+1)
def Gh(b:Nat)(a:Bb)(c:Int):Option (Bool):=
 (FH b c a.Lo a.Hi).bind fun d=>some (d)
def Hb(a:Nat)(b:Int):Option (Bool):=
 (FH a b 0 30).bind fun c=>some (c)
def Hc(c:List Int):Nat→Int→Int→Option (Int)
 |0,_,_=>none
 |e+1,b,a=>cond (decide (a<(c.length:Int))) ((idx c a).bind fun d=>(i64 (b+d)).bind fun _=>(i64 (a+1)).bind fun _=>Hc c e (b+d) (a+1)) (some (b))
def H3(a:Nat)(b:List Int):Option (Int):=
 (Hc b a (0:Int) (0:Int)).bind fun c=>some (c)
def Gx(c:Nat)(b:Cu)(a:CM):Option (Int):=
 cond (a.C5) ((i64 ((b.BM.length:Int)+a.Number)).bind fun _=>some ((b.BM.length:Int)+a.Number)) (some (a.Number))
def Fu(c:List Int):Nat→Int→Int→Option (Int)
 |0,_,_=>none
 |d+1,b,a=>cond (decide (a<(c.length:Int))) ((idx c a).bind fun e=>(i64 (a+1)).bind fun _=>Fu c d (min b e) (a+1)) (some (b))
def Gi(b:Nat)(a:List Int):Option (Int):=
 cond (decide ((a.length:Int)<1)) (none) ((idx a (0:Int)).bind fun x2=>(Fu a b x2 (1:Int)).bind fun z3=>some (z3))
def HE(a:Nat)(b:List Int):Option (Int):=
 (Gi a b).bind fun c=>some (c)
def FM{a:Type}(f:Nat)(b:a→Bb→Option (Bool×a))(d:Bb)(e:a):Option (Bool×a):=
 (b e d).bind fun c=>some ((!c.1,c.2))
def DN{c:Type}(d:c→Bb→Option (Bool×c))(e:List Bb):Nat→Int→c→Option ((Int×c)⊕(c))
 |0,_,_=>none
 |g+1,a,b=>cond (decide (a<(e.length:Int))) ((idx e a).bind fun h=>(d b h).bind fun f=>cond (f.1) (some (.inl (a,f.2))) ((i64 (a+1)).bind fun _=>DN d e g (a+1) f.2)) (some (.inr b))
def Fm{b:Type}(d:Nat)(c:b→Bb→Option (Bool×b))(e:List Bb)(f:b):Option (Int×b):=
 (DN c e d (0:Int) f).bind fun z=>Sum.elim (fun a=>some ((a.1,a.2))) (fun a=>some (((-1),a))) z
def EJ{a:Type}(d:Nat)(b:a→Bb→Option (Bool×a))(e:List Bb)(f:a):Option (Bool×a):=
 (Fm d b e f).bind fun c=>some ((decide ((0:Int)≤c.1),c.2))
def Hf{a:Type}(b:Nat)(c:a→Bb→Option (Bool×a))(e:List Bb)(f:a):Option (Bool×a):=
 (EJ b (fun(st:a) (x:Bb)=>(FM b c x st).bind fun r=>some (r.1,r.2)) e f).bind fun d=>some ((!d.1,d.2))
def FZ{a:Type}(f:Nat)(b:a→(List Int)→Option (Bool×a))(d:List Int)(e:a):Option (Bool×a):=
 (b e d).bind fun c=>some ((!c.1,c.2))
def DX{c:Type}(d:c→(List Int)→Option (Bool×c))(e:List (List Int)):Nat→Int→c→Option ((Int×c)⊕(c))
 |0,_,_=>none
 |g+1,a,b=>cond (decide (a<(e.length:Int))) ((idx e a).bind fun h=>(d b h).bind fun f=>cond (f.1) (some (.inl (a,f.2))) ((i64 (a+1)).bind fun _=>DX d e g (a+1) f.2)) (some (.inr b))
def FF{b:Type}(d:Nat)(c:b→(List Int)→Option (Bool×b))(e:List (List Int))(f:b):Option (Int×b):=
 (DX c e d (0:Int) f).bind fun z=>Sum.elim (fun a=>some ((a.1,a.2))) (fun a=>some (((-1),a))) z
def E2{a:Type}(d:Nat)(b:a→(List Int)→Option (Bool×a))(e:List (List Int))(f:a):Option (Bool×a):=
 (FF d b e f).bind fun c=>some ((decide ((0:Int)≤c.1),c.2))
def Hv{a:Type}(b:Nat)(c:a→(List Int)→Option (Bool×a))(e:List (List Int))(f:a):Option (Bool×a):=
 (E2 b (fun(st:a) (x:(List Int))=>(FZ b c x st).bind fun r=>some (r.1,r.2)) e f).bind fun d=>some ((!d.1,d.2))
def FO{a:Type}(f:Nat)(b:a→CM→Option (Bool×a))(d:CM)(e:a):Option (Bool×a):=
 (b e d).bind fun c=>some ((!c.1,c.2))
def DO{c:Type}(d:c→CM→Option (Bool×c))(e:List CM):Nat→Int→c→Option ((Int×c)⊕(c))
 |0,_,_=>none
 |g+1,a,b=>cond (decide (a<(e.length:Int))) ((idx e a).bind fun h=>(d b h).bind fun f=>cond (f.1) (some (.inl (a,f.2))) ((i64 (a+1)).bind fun _=>DO d e g (a+1) f.2)) (some (.inr b))
def Fp{b:Type}(d:Nat)(c:b→CM→Option (Bool×b))(e:List CM)(f:b):Option (Int×b):=
 (DO c e d (0:Int) f).bind fun z=>Sum.elim (fun a=>some ((a.1,a.2))) (fun a=>some (((-1),a))) z
def EK{a:Type}(d:Nat)(b:a→CM→Option (Bool×a))(e:List CM)(f:a):Option (Bool×a):=
 (Fp d b e f).bind fun c=>some ((decide ((0:Int)≤c.1),c.2))
def Hg{a:Type}(b:Nat)(c:a→CM→Option (Bool×a))(e:List CM)(f:a):Option (Bool×a):=
 (EK b (fun(st:a) (x:CM)=>(FO b c x st).bind fun r=>some (r.1,r.2)) e f).bind fun d=>some ((!d.1,d.2))
def Gj{a:Type}(f:Nat)(b:a→Int→Option (Bool×a))(d:Int)(e:a):Option (Bool×a):=
 (b e d).bind fun c=>some ((!c.1,c.2))
def Ef{c:Type}(d:c→Int→Option (Bool×c))(e:List Int):Nat→Int→c→Option ((Int×c)⊕(c))
 |0,_,_=>none
 |g+1,a,b=>cond (decide (a<(e.length:Int))) ((idx e a).bind fun h=>(d b h).bind fun f=>cond (f.1) (some (.inl (a,f.2))) ((i64 (a+1)).bind fun _=>Ef d e g (a+1) f.2)) (some (.inr b))
def FY{b:Type}(d:Nat)(c:b→Int→Option (Bool×b))(e:List Int)(f:b):Option (Int×b):=
 (Ef c e d (0:Int) f).bind fun z=>Sum.elim (fun a=>some ((a.1,a.2))) (fun a=>some (((-1),a))) z
def Eg{a:Type}(d:Nat)(b:a→Int→Option (Bool×a))(e:List Int)(f:a):Option (Bool×a):=
 (FY d b e f).bind fun c=>some ((decide ((0:Int)≤c.1),c.2))
def HG{a:Type}(b:Nat)(c:a→Int→Option (Bool×a))(e:List Int)(f:a):Option (Bool×a):=
 (Eg b (fun(st:a) (x:Int)=>(Gj b c x st).bind fun r=>some (r.1,r.2)) e f).bind fun d=>some ((!d.1,d.2))
def F8(a:Nat)(c:Cu)(b:List Int):Option (Bool):=
 cond ((b.length:Int)==(c.BM.length:Int)) ((HG a (fun(st:Unit) (x:Int)=>(Hb a x).bind fun r=>some (r,())) b ()).bind fun d=>some (d.1)) (some (false))
def E9(a:Nat)(c:Cu)(b:List Int):Option (Bool):=
 (F8 a c b).bind fun d=>cond (d) ((H3 a b).bind fun e=>some (decide ((0:Int)<e))) (some (false))
def Fv(b:Nat)(c:Cu)(a:CM):Option (Bool):=
 cond (a.C5) ((i64 ((c.CI.length:Int)-1)).bind fun _=>(FH b a.Number 0 ((c.CI.length:Int)-1)).bind fun f=>cond (f) ((DS b (⟨a.B7,a.B8⟩:Bb)).bind fun g=>some (g)) (some (false))) ((i64 ((c.BM.length:Int)-1)).bind fun _=>(FH b a.Number 0 ((c.BM.length:Int)-1)).bind fun d=>cond (d) ((DS b (⟨a.B7,a.B8⟩:Bb)).bind fun e=>some (e)) (some (false)))
def EB(d:Nat)(e:Cu):Nat→Int→Int→Option (Int)
 |0,_,_=>none
 |h+1,b,a=>cond (decide (a<(e.BM.length:Int))) ((idx e.BM a).bind fun f=>(G1 d f).bind fun c=>(i64 (b*c)).bind fun _=>(HE d [b*c,2001]).bind fun g=>(i64 (a+1)).bind fun _=>EB d e h g (a+1)) (some (b))
def EL(b:Nat)(a:Cu):Option (Int):=
 cond (decide ((3:Int)<(a.BM.length:Int))) (some (3)) (cond (decide ((3:Int)<(a.CI.length:Int))) (some (3)) (cond (decide ((5:Int)<(a.C1.length:Int))) (some (3)) (cond ((a.BM.length:Int)==0) (some (1)) ((Hf b (fun(st:Unit) (x:Bb)=>(DS b x).bind fun r=>some (r,())) a.BM ()).bind fun e=>cond (!e.1) (some (1)) ((Hv b (fun(st:Unit) (x:(List Int))=>(E9 b a x).bind fun r=>some (r,())) a.CI ()).bind fun c=>cond (!c.1) (some (1)) ((Hg b (fun(st:Unit) (x:CM)=>(Fv b a x).bind fun r=>some (r,())) a.C1 ()).bind fun d=>cond (!d.1) (some (1)) ((EB b a b (1:Int) (0:Int)).bind fun z25=>cond (decide ((2000:Int)<z25)) (some (3)) (some (0)))))))))
def ET(b:List Int)(c:Int):Nat→Int→Option ((Int)⊕(Unit))
 |0,_=>none
 |d+1,a=>cond (decide (a<(b.length:Int))) ((idx b a).bind fun e=>cond (c==e) (some (.inl a)) ((i64 (a+1)).bind fun _=>ET b c d (a+1))) (some (.inr ()))
def GM(b:Nat)(c:List Int)(d:Int):Option (Int):=
 (ET c d b (0:Int)).bind fun z=>Sum.elim (fun a=>some (a)) (fun a=>some ((-1))) z
def Dl(a:Nat)(b:List Int)(c:Int):Option (Bool):=
 (GM a b c).bind fun d=>some (decide ((0:Int)≤d))
def Ej(c:Bq)(d:List Int):Nat→Int→Int→Option (Int)
 |0,_,_=>none
 |g+1,b,a=>cond (decide (a<(d.length:Int))) ((idx d a).bind fun e=>(idx ([c.a0,c.a1,c.a2]:List Int) a).bind fun f=>(i64 (e*f)).bind fun _=>(i64 (b+(e*f))).bind fun _=>(i64 (a+1)).bind fun _=>Ej c d g (b+(e*f)) (a+1)) (some (b))
def EU(b:Nat)(d:Bq)(c:List Int):Option (Int):=
 (Ej d c b (0:Int) (0:Int)).bind fun z2=>(H3 b c).bind fun a=>(quo z2 a).bind fun _=>(i64 (z2/a)).bind fun _=>some (z2/a)
def Hh(d:Nat)(a:Cu)(b:Bq)(c:Int):Option (Int):=
 cond (decide ((a.BM.length:Int)≤c)) ((i64 (c-(a.BM.length:Int))).bind fun _=>(idx a.CI (c-(a.BM.length:Int))).bind fun e=>(EU d b e).bind fun f=>some (f)) ((idx ([b.a0,b.a1,b.a2]:List Int) c).bind fun g=>some (g))
def DU(b:Nat)(c:Cu)(d:Bq)(e:List Int):Nat→Int→Option ((Bool)⊕(Unit))
 |0,_=>none
 |g+1,a=>cond (decide (a<(c.C1.length:Int))) ((idx c.C1 a).bind fun f=>(Dl b e a).bind fun l=>cond (!l) ((Gx b c f).bind fun h=>(Hh b c d h).bind fun i=>(Gh b (⟨f.B7,f.B8⟩:Bb) i).bind fun k=>cond (!k) (some (.inl false)) ((i64 (a+1)).bind fun _=>DU b c d e g (a+1))) ((i64 (a+1)).bind fun _=>DU b c d e g (a+1))) (some (.inr ()))
def Gy(b:Nat)(c:Cu)(d:Bq)(e:List Int):Option (Bool):=
 (DU b c d e b (0:Int)).bind fun z=>Sum.elim (fun a=>some (a)) (fun a=>some (true)) z
def Es(c:Nat)(b:Cu)(d:List Int):Nat→Int→Option ((Bool)⊕(Unit))
 |0,_=>none
 |g+1,a=>cond (decide (a<(b.BM.length:Int))) ((idx b.BM a).bind fun h=>(idx d a).bind fun e=>(Gh c h e).bind fun f=>cond (!f) (some (.inl false)) ((i64 (a+1)).bind fun _=>Es c b d g (a+1))) (some (.inr ()))
def Fa(c:Nat)(d:Cu)(b:List Int):Option (Bq×Bool):=
 cond ((b.length:Int) !=(d.BM.length:Int)) (some (((⟨0,0,0⟩:Bq),false))) ((Es c d b c (0:Int)).bind fun z=>Sum.elim (fun a=>some (((⟨0,0,0⟩:Bq),a))) (fun a=>some ((((⟨0,0,0⟩:Bq).cp b),true))) z)
def GF(e:Nat)(d:Cu)(f:Bq×Bool):Nat→(List Int)→Int→Option ((List Int))
 |0,_,_=>none
 |h+1,b,a=>cond (decide (a<(d.CI.length:Int))) ((idx d.CI a).bind fun g=>(EU e f.1 g).bind fun c=>(Gd (((b.length+[c].length:Nat):Int)≤140737488355328/8)).bind fun _=>(i64 (a+1)).bind fun _=>GF e d f h (b++[c]) (a+1)) (some (b))
def Iy(a:Nat)(b:Cu)(e:List Int):Option ((List Int)×Int):=
 (EL a b).bind fun c=>cond (c !=0) (some ((([]:List Int),c))) ((Fa a b e).bind fun d=>cond (!d.2) (some ((([]:List Int),2))) ((GF a b d a ([]:List Int) (0:Int)).bind fun z12=>some ((z12,0))))
def F1(a:Nat)(b:Cu)(e:List Int):Option (Bool):=
 (EL a b).bind fun f=>cond (f !=0) (some (false)) ((Fa a b e).bind fun c=>cond (c.2) ((Gy a b c.1 ([]:List Int)).bind fun d=>some (d)) (some (false)))
def Ds(d:Nat)(a:Int)(b:Int)(c:Int):Option (Bool):=
 cond (decide (b≤a)) (some (decide (a≤c))) (some (false))
def Hj(c:Nat)(a:Bb)(b:Int):Option (Bool):=
 cond (decide ((0:Int)≤a.Lo)) (cond (decide (a.Lo≤a.Hi)) (some (decide (a.Hi≤b))) (some (false))) (some (false))
def F2(b:Nat)(a:Bb)(c:Int):Option (Bool):=
 (Ds b c a.Lo a.Hi).bind fun d=>some (d)
def GN(b:Nat)(a:Bb):Option (Int):=
 (i64 (a.Hi-a.Lo)).bind fun _=>(i64 ((a.Hi-a.Lo)+1)).bind fun _=>some ((a.Hi-a.Lo)+1)
def Hw(a:Nat)(b:List Int):Option (Int):=
 (Gi a b).bind fun c=>some (c)
def Fw(c:Nat)(a:Bb)(b:Int):Option (Bb):=
 (Hw c [a.Lo,b]).bind fun d=>some ((⟨d,max a.Hi b⟩:Bb))
def HV(a:Nat)(b:Int):Option (Bool):=
 (Ds a b 0 100).bind fun c=>some (c)
def FP(b:Nat)(a:Bw)(c:Int):Option (Bool):=
 (i64 ((a.Ae.length:Int)-1)).bind fun _=>(Ds b c 0 ((a.Ae.length:Int)-1)).bind fun d=>some (d)
def Fx(a:Nat)(b:Bw)(c:AO):Option (Bool):=
 (i64 ((b.Av.length:Int)-1)).bind fun _=>(Ds a c.Cz 0 ((b.Av.length:Int)-1)).bind fun d=>cond (d) ((Ds a c.Cw 1 90).bind fun e=>some (e)) (some (false))
def FQ(b:Nat)(c:Bw)(a:AS):Option (Bool):=
 (FP b c a.C5).bind fun d=>cond (d) ((Hj b (⟨a.B3,a.B4⟩:Bb) 9000).bind fun e=>some (e)) (some (false))
def Fy{a:Type}(f:Nat)(b:a→Az→Option (Bool×a))(d:Az)(e:a):Option (Bool×a):=
 (b e d).bind fun c=>some ((!c.1,c.2))
def DP{c:Type}(d:c→Az→Option (Bool×c))(e:List Az):Nat→Int→c→Option ((Int×c)⊕(c))
 |0,_,_=>none
 |g+1,a,b=>cond (decide (a<(e.length:Int))) ((idx e a).bind fun h=>(d b h).bind fun f=>cond (f.1) (some (.inl (a,f.2))) ((i64 (a+1)).bind fun _=>DP d e g (a+1) f.2)) (some (.inr b))
def Fq{b:Type}(d:Nat)(c:b→Az→Option (Bool×b))(e:List Az)(f:b):Option (Int×b):=
 (DP c e d (0:Int) f).bind fun z=>Sum.elim (fun a=>some ((a.1,a.2))) (fun a=>some (((-1),a))) z
def EM{a:Type}(d:Nat)(b:a→Az→Option (Bool×a))(e:List Az)(f:a):Option (Bool×a):=
 (Fq d b e f).bind fun c=>some ((decide ((0:Int)≤c.1),c.2))
def G2{a:Type}(b:Nat)(c:a→Az→Option (Bool×a))(e:List Az)(f:a):Option (Bool×a):=
 (EM b (fun(st:a) (x:Az)=>(Fy b c x st).bind fun r=>some (r.1,r.2)) e f).bind fun d=>some ((!d.1,d.2))
def Fz{a:Type}(f:Nat)(b:a→AO→Option (Bool×a))(d:AO)(e:a):Option (Bool×a):=
 (b e d).bind fun c=>some ((!c.1,c.2))
def DQ{c:Type}(d:c→AO→Option (Bool×c))(e:List AO):Nat→Int→c→Option ((Int×c)⊕(c))
 |0,_,_=>none
 |g+1,a,b=>cond (decide (a<(e.length:Int))) ((idx e a).bind fun h=>(d b h).bind fun f=>cond (f.1) (some (.inl (a,f.2))) ((i64 (a+1)).bind fun _=>DQ d e g (a+1) f.2)) (some (.inr b))
def Fs{b:Type}(d:Nat)(c:b→AO→Option (Bool×b))(e:List AO)(f:b):Option (Int×b):=
 (DQ c e d (0:Int) f).bind fun z=>Sum.elim (fun a=>some ((a.1,a.2))) (fun a=>some (((-1),a))) z
def EN{a:Type}(d:Nat)(b:a→AO→Option (Bool×a))(e:List AO)(f:a):Option (Bool×a):=
 (Fs d b e f).bind fun c=>some ((decide ((0:Int)≤c.1),c.2))
def G3{a:Type}(b:Nat)(c:a→AO→Option (Bool×a))(e:List AO)(f:a):Option (Bool×a):=
 (EN b (fun(st:a) (x:AO)=>(Fz b c x st).bind fun r=>some (r.1,r.2)) e f).bind fun d=>some ((!d.1,d.2))
def FR{a:Type}(f:Nat)(b:a→AS→Option (Bool×a))(d:AS)(e:a):Option (Bool×a):=
 (b e d).bind fun c=>some ((!c.1,c.2))
def DY{c:Type}(d:c→AS→Option (Bool×c))(e:List AS):Nat→Int→c→Option ((Int×c)⊕(c))
 |0,_,_=>none
 |g+1,a,b=>cond (decide (a<(e.length:Int))) ((idx e a).bind fun h=>(d b h).bind fun f=>cond (f.1) (some (.inl (a,f.2))) ((i64 (a+1)).bind fun _=>DY d e g (a+1) f.2)) (some (.inr b))
def FG{b:Type}(d:Nat)(c:b→AS→Option (Bool×b))(e:List AS)(f:b):Option (Int×b):=
 (DY c e d (0:Int) f).bind fun z=>Sum.elim (fun a=>some ((a.1,a.2))) (fun a=>some (((-1),a))) z
def E3{a:Type}(d:Nat)(b:a→AS→Option (Bool×a))(e:List AS)(f:a):Option (Bool×a):=
 (FG d b e f).bind fun c=>some ((decide ((0:Int)≤c.1),c.2))
def Hk{a:Type}(b:Nat)(c:a→AS→Option (Bool×a))(e:List AS)(f:a):Option (Bool×a):=
 (E3 b (fun(st:a) (x:AS)=>(FR b c x st).bind fun r=>some (r.1,r.2)) e f).bind fun d=>some ((!d.1,d.2))
def F3{a:Type}(f:Nat)(b:a→Int→Option (Bool×a))(d:Int)(e:a):Option (Bool×a):=
 (b e d).bind fun c=>some ((!c.1,c.2))
def Hx{a:Type}(b:Nat)(c:a→Int→Option (Bool×a))(e:List Int)(f:a):Option (Bool×a):=
 (Eg b (fun(st:a) (x:Int)=>(F3 b c x st).bind fun r=>some (r.1,r.2)) e f).bind fun d=>some ((!d.1,d.2))
def EC(c:Nat)(a:Az)(b:Az):Option (Bool×Az):=
 (i64 (b.BB-1)).bind fun _=>(Ds c a.BB 0 (b.BB-1)).bind fun d=>cond (d) ((Ds c a.Cn 0 b.Cn).bind fun e=>some ((e,a))) (some ((false,a)))
def Gk(a:Nat)(b:Bw):Option (Bool):=
 cond (decide ((0:Int)<(b.Av.length:Int))) ((G2 a (fun(st:Az) (x:Az)=>(EC a x st).bind fun r=>some (r.1,r.2)) b.Av (⟨101,100⟩:Az)).bind fun c=>some (c.1)) (some (false))
def BS(b:Nat)(a:Bw):Option (Int):=
 (EL b (⟨a.Ag,a.Ae,a.Af⟩:Cu)).bind fun c=>cond (c !=0) (some (c)) (cond (decide ((3:Int)<(a.Av.length:Int))) (some (3)) (cond (decide ((3:Int)<(a.Au.length:Int))) (some (3)) (cond (decide ((5:Int)<(a.AI.length:Int))) (some (3)) ((HV b a.Flat).bind fun g=>cond (!g) (some (1)) ((Gk b a).bind fun d=>cond (!d) (some (1)) ((G3 b (fun(st:Unit) (x:AO)=>(Fx b a x).bind fun r=>some (r,())) a.Au ()).bind fun e=>cond (!e.1) (some (1)) ((Hk b (fun(st:Unit) (x:AS)=>(FQ b a x).bind fun r=>some (r,())) a.AI ()).bind fun f=>cond (!f.1) (some (1)) (some (0)))))))))
def ED(c:Bw):Nat→(List Bb)→Int→Option ((List Bb))
 |0,_,_=>none
 |e+1,b,a=>cond (decide (a<(c.Ag.length:Int))) ((idx c.Ag a).bind fun d=>(Gd (((b.length+[d].length:Nat):Int)≤140737488355328/16)).bind fun _=>(i64 (a+1)).bind fun _=>ED c e (b++[d]) (a+1)) (some (b))
def FA(a:Nat)(b:Bw):Option ((List Bb)):=
 (ED b a ([]:List Bb) (0:Int)).bind fun z2=>some (z2)
def Dw(d:List Int):Nat→Int→Int→Option (Int)
 |0,_,_=>none
 |e+1,b,a=>cond (decide (a<(d.length:Int))) ((idx d a).bind fun c=>(i64 (b+c)).bind fun _=>(i64 (a+1)).bind fun _=>Dw d e (b+c) (a+1)) (some (b))
def Dx(d:Nat)(c:Bw):Nat→Int→(List Int)→Option ((List Int))
 |0,_,_=>none
 |f+1,a,b=>cond (decide (a<(c.Ae.length:Int))) ((idx c.Ae a).bind fun g=>(Dw g d (0:Int) (0:Int)).bind fun e=>(Gd (((b.length+[e].length:Nat):Int)≤140737488355328/8)).bind fun _=>(i64 (a+1)).bind fun _=>Dx d c f (a+1) (b++[e])) (some (b))
def DC(b:Nat)(a:Bw):Option (BJ):=
 (Dx b a b (0:Int) ([]:List Int)).bind fun z4=>some ((⟨a.Ag,a.Ae,a.Af,a.Flat,a.Av,a.Au,a.AI,z4,([]:List Bq),[]⟩:BJ))
def Fb{f:Type}(g:Int→(List Bb)→(List Int)→f→Option (Bool×(List Int)×f))(e:Int)(i:List Bb)(k:Int):Nat→Int→(List Int)→f→Option ((Bool×(List Int)×f)⊕((List Int)×f))
 |0,_,_,_=>none
 |l+1,a,b,d=>cond (decide (a<k)) ((idx i e).bind fun h=>(i64 (h.Lo+a)).bind fun _=>(idx b e).bind fun m=>(i64 (e+1)).bind fun _=>(g (e+1) i (b.set e.toNat (h.Lo+a)) d).bind fun c=>cond (!c.1) (some (.inl (false,c.2.1,c.2.2))) ((i64 (a+1)).bind fun _=>Fb g e i k l (a+1) c.2.1 c.2.2)) (some (.inr (b,d)))
def E6{b:Type}(d:Nat)(c:b→(List Int)→Option (Bool×b)):Nat→Int→(List Bb)→(List Int)→b→Option (Bool×(List Int)×b)
 |0,_,_,_,_=>none
 |k+1,e,f,g,h=>cond (e==(f.length:Int)) ((c h g).bind fun i=>some ((i.1,g,i.2))) ((idx f e).bind fun l=>(GN d l).bind fun m=>(Fb (E6 d c k) e f m d (0:Int) g h).bind fun z=>Sum.elim (fun a=>some ((a.1,a.2.1,a.2.2))) (fun a=>some ((true,a.1,a.2))) z)
def Hy{a:Type}(c:Nat)(d:a→(List Int)→Option (Bool×a))(b:List Bb)(e:a):Option (a):=
 (Ng (b.length:Int) 8).bind fun _=>(E6 c d c 0 b (List.replicate (b.length:Int).toNat (0:Int)) e).bind fun f=>some (f.2.2)
def Ek(b:Nat)(a:Bw)(c:List Int):Option (Bq):=
 (Iy b (⟨a.Ag,a.Ae,a.Af⟩:Cu) c).bind fun d=>some (((⟨0,0,0⟩:Bq).cp d.1))
def EE(f:Nat)(d:Bw)(a:List Bq)(e:(List Int)):Option (Bool×(List Bq)):=
 (F1 f (⟨d.Ag,d.Ae,d.Af⟩:Cu) e).bind fun g=>cond (!g) (some (true,a)) ((Ek f d e).bind fun b=>cond ((a.length:Int)==0) ((Gd (((a.length+[b].length:Nat):Int)≤140737488355328/24)).bind fun _=>some (true,a++[b])) ((i64 ((a.length:Int)-1)).bind fun _=>(idx a ((a.length:Int)-1)).bind fun c=>cond ([c.a0,c.a1,c.a2] !=[b.a0,b.a1,b.a2]) ((Gd (((a.length+[b].length:Nat):Int)≤140737488355328/24)).bind fun _=>some (true,a++[b])) (some (true,a))))
def GO(b:Nat)(c:Bw):Option (BJ):=
 (DC b c).bind fun a=>(FA b c).bind fun e=>(Hy b (fun(st:(List Bq)) (x:(List Int))=>EE b c st x) e ([]:List Bq)).bind fun d=>some ((⟨a.Ao,a.Ap,a.Ak,a.By,a.AD,a.AA,a.AP,a.weights,d,a.known⟩:BJ))
def EF(c:BJ)(e:Kw):Nat→Int→Int→Option (Int)
 |0,_,_=>none
 |g+1,b,a=>cond (decide (a<(c.AD.length:Int))) ((idx c.AD a).bind fun f=>cond (decide (f.BB≤e.Cv)) ((idx c.weights e.DB).bind fun d=>(i64 (f.Cn*d)).bind fun _=>some (f.Cn*d)) ((i64 (a+1)).bind fun _=>EF c e g b (a+1))) (some (b))
def Gz(c:Nat)(b:BJ)(a:Kw):Option (Int×(List (List Int×Int))):=
 cond (!((DW b.known [a.DB,a.Cv]).isSome)) ((EF b a c ((DW b.known [a.DB,a.Cv]).getD 0) (0:Int)).bind fun z5=>some ((z5,JB b.known [a.DB,a.Cv] z5))) (some ((((DW b.known [a.DB,a.Cv]).getD 0),b.known)))
def EV(i:Nat)(e:BJ)(g:Bq):Nat→Int→Int→Int→Int→(List (List Int×Int))→Option (Int×Int×Int×(List (List Int×Int)))
 |0,_,_,_,_,_=>none
 |k+1,a,b,c,d,f=>cond (decide (a<(e.weights.length:Int))) ((idx ([g.a0,g.a1,g.a2]:List Int) a).bind fun l=>(Gz i (⟨e.Ao,e.Ap,e.Ak,e.By,e.AD,e.AA,e.AP,e.weights,e.BH,f⟩:BJ) (⟨a,l⟩:Kw)).bind fun h=>(idx ([b,c,d]:List Int) a).bind fun m=>(i64 (a+1)).bind fun _=>EV i e g k (a+1) (((⟨b,c,d⟩:Bq).set a.toNat h.1).a0) (((⟨b,c,d⟩:Bq).set a.toNat h.1).a1) (((⟨b,c,d⟩:Bq).set a.toNat h.1).a2) h.2) (some ((b,c,d,f)))
def EO(a:Nat)(b:BJ)(c:Bq):Option (Bq×(List (List Int×Int))):=
 (EV a b c a (0:Int) (0:Int) (0:Int) (0:Int) b.known).bind fun z3=>some (((⟨z3.1,z3.2.1,z3.2.2.1⟩:Bq),z3.2.2.2))
def DV(c:Nat)(d:Bw)(b:Bq)(e:List Int):Nat→Int→Option ((Bool)⊕(Unit))
 |0,_=>none
 |g+1,a=>cond (decide (a<(d.AI.length:Int))) ((idx d.AI a).bind fun f=>(Dl c e a).bind fun k=>cond (!k) ((idx ([b.a0,b.a1,b.a2]:List Int) f.C5).bind fun h=>(F2 c (⟨f.B3,f.B4⟩:Bb) h).bind fun i=>cond (!i) (some (.inl false)) ((i64 (a+1)).bind fun _=>DV c d b e g (a+1))) ((i64 (a+1)).bind fun _=>DV c d b e g (a+1))) (some (.inr ()))
def FB(b:Nat)(c:Bw)(d:Bq)(e:List Int):Option (Bool):=
 (DV b c d e b (0:Int)).bind fun z=>Sum.elim (fun a=>some (a)) (fun a=>some (true)) z
def DD{e:Type}(f:e→(Bq×Bq)→Option (Bool×e))(i:Nat)(a:BJ)(k:List Int):Nat→Int→(List (List Int×Int))→e→Option (((List (List Int×Int))×e)⊕((List (List Int×Int))×e))
 |0,_,_,_=>none
 |l+1,b,d,c=>cond (decide (b<(a.BH.length:Int))) ((idx a.BH b).bind fun m=>(EO i (⟨a.Ao,a.Ap,a.Ak,a.By,a.AD,a.AA,a.AP,a.weights,a.BH,d⟩:BJ) m).bind fun g=>(FB i (⟨a.Ao,a.Ap,a.Ak,a.By,a.AD,a.AA,a.AP⟩:Bw) g.1 k).bind fun n=>cond (n) ((f c (m,g.1)).bind fun h=>cond (!h.1) (some (.inl (g.2,h.2))) ((i64 (b+1)).bind fun _=>DD f i a k l (b+1) g.2 h.2)) ((i64 (b+1)).bind fun _=>DD f i a k l (b+1) g.2 c)) (some (.inr (d,c)))
def D5{b:Type}(c:Nat)(d:b→(Bq×Bq)→Option (Bool×b))(e:BJ)(f:List Int)(g:b):Option ((List (List Int×Int))×b):=
 (DD d c e f c (0:Int) e.known g).bind fun z=>Sum.elim (fun a=>some ((a.1,a.2))) (fun a=>some ((a.1,a.2))) z
def El(a:Bool)(b:Bq×Bq):Option (Bool×(Bool×Bool)):=
 some (false,true,true)
def Dy(b:Nat)(c:BJ)(d:List Int):Option (Bool×(List (List Int×Int))):=
 (D5 b (fun(st:Bool×Bool) (x:Bq×Bq)=>cond st.2 none (El st.1 x)) c d (false,false)).bind fun a=>cond (a.2.2) (some ((a.2.1,a.1))) (some ((false,a.1)))
def Et(c:Nat)(d:List Int)(b:(List Bb)):Nat→Int→Option ((Bool)⊕(Unit))
 |0,_=>none
 |g+1,a=>cond (decide (a<(b.length:Int))) ((idx b a).bind fun h=>(idx d a).bind fun e=>(F2 c h e).bind fun f=>cond (!f) (some (.inl false)) ((i64 (a+1)).bind fun _=>Et c d b g (a+1))) (some (.inr ()))
def Gl(b:Nat)(c:Bw)(d:List Int):Option (Bool):=
 cond ((d.length:Int) !=(c.Ag.length:Int)) (some (false)) ((FA b c).bind fun e=>(Et b d e b (0:Int)).bind fun z=>Sum.elim (fun a=>some (a)) (fun a=>some (true)) z)
def EP(c:Nat)(b:Bw)(d:List Int):Option ((List Int)×Int):=
 (BS c b).bind fun e=>cond (e !=0) (some ((([]:List Int),e))) ((Gl c b d).bind fun h=>cond (!h) (some ((([]:List Int),2))) ((DC c b).bind fun f=>(Ek c b d).bind fun g=>(EO c f g).bind fun a=>(J7 [a.1.a0,a.1.a1,a.1.a2].length (0:Int) (b.Ae.length:Int)).bind fun _=>(Gd (((0+(CT [a.1.a0,a.1.a1,a.1.a2] (0:Int) (b.Ae.length:Int)).length:Nat):Int)≤140737488355328/8)).bind fun _=>some ((CT [a.1.a0,a.1.a1,a.1.a2] (0:Int) (b.Ae.length:Int),0))))
def D6(b:Nat)(a:Bw)(c:List Int):Option (Bool):=
 (BS b a).bind fun h=>cond (h !=0) (some (false)) ((F1 b (⟨a.Ag,a.Ae,a.Af⟩:Cu) c).bind fun i=>cond (!i) (some (false)) ((DC b a).bind fun d=>(Ek b a c).bind fun e=>(EO b d e).bind fun f=>(FB b a f.1 ([]:List Int)).bind fun g=>some (g)))
def D9(a:Nat)(b:Bw)(e:Bool):Option ((Option BJ)×Int):=
 (BS a b).bind fun c=>cond (c !=0) (some (((none:Option BJ),c))) (cond (!e) (some (((none:Option BJ),2))) ((GO a b).bind fun d=>cond ((d.BH.length:Int)==0) (some (((none:Option BJ),11))) (some (((some d),0)))))
def CN(c:Nat)(e:Bw)(f:Bool):Option ((Option BJ)×Int):=
 (D9 c e f).bind fun b=>Option.elim b.1 (cond (b.2 !=0) (some (((none:Option BJ),b.2))) (none)) (fun a=>cond (b.2 !=0) (some (((none:Option BJ),b.2))) ((Dy c a ([]:List Int)).bind fun d=>cond (!d.1) (some (((none:Option BJ),9))) (some (((some (⟨a.Ao,a.Ap,a.Ak,a.By,a.AD,a.AA,a.AP,a.weights,a.BH,d.2⟩:BJ)),0)))))
def EG{e:Type}(i:e→Bq→Option (Int×e))(k:Nat)(c:Int)(d:Int)(a:Bool)(f:e)(l:Bq×Bq):Option (Bool×(Int×Int×Bool×e)):=
 (i f l.2).bind fun b=>cond (a) ((Fw k (⟨b.1,b.1⟩:Bb) b.1).bind fun g=>some (true,g.Lo,g.Hi,false,b.2)) ((Fw k (⟨c,d⟩:Bb) b.1).bind fun h=>some (true,h.Lo,h.Hi,a,b.2))
def FC{a:Type}(c:Nat)(d:a→Bq→Option (Int×a))(e:BJ)(f:a):Option (Bb×(List (List Int×Int))×a):=
 (D5 c (fun(st:Int×Int×Bool×a) (x:Bq×Bq)=>EG d c st.1 st.2.1 st.2.2.1 st.2.2.2 x) e ([]:List Int) ((0:Int),(0:Int),true,f)).bind fun b=>some (((⟨b.2.1,b.2.2.1⟩:Bb),b.1,b.2.2.2.2))
def Gm(c:Nat)(a:Bq)(b:Int):Option (Int):=
 (idx ([a.a0,a.a1,a.a2]:List Int) b).bind fun x2=>some (x2)
def F4(f:Nat)(b:BJ):Nat→(List Bb)→Int→(List (List Int×Int))→Option ((List Bb)×(List (List Int×Int)))
 |0,_,_,_=>none
 |g+1,d,a,c=>cond (decide (a<(b.weights.length:Int))) ((FC f (fun(st:Unit) (x:Bq)=>(Gm f x a).bind fun r=>some (r,())) (⟨b.Ao,b.Ap,b.Ak,b.By,b.AD,b.AA,b.AP,b.weights,b.BH,c⟩:BJ) ()).bind fun e=>(Gd (((d.length+[e.1].length:Nat):Int)≤140737488355328/16)).bind fun _=>(i64 (a+1)).bind fun _=>F4 f b g (d++[e.1]) (a+1) e.2.1) (some ((d,c)))
def Ff(b:Nat)(d:Bw):Option ((List Bb)×Int):=
 (CN b d true).bind fun a=>Option.elim a.1 (cond (a.2 !=0) (some ((([]:List Bb),a.2))) (none)) (fun c=>cond (a.2 !=0) (some ((([]:List Bb),a.2))) ((F4 b c b ([]:List Bb) (0:Int) c.known).bind fun e=>some ((e.1,0))))
end Go.Proofs.YtcdofnchafcfpaaGreat
end
