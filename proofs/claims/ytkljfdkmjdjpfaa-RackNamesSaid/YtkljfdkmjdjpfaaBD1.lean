import Derived.WalkKit
import Derived.KernelRfl
import Derived.WalkSpells
import Derived.WalkLawsBesides
import Derived.Maps.AppendAt
import Derived.OrdersIn
import Derived.RangeFuncIn
import Derived.RangeFuncLeaves
import Derived.RangeFuncRecord
import Derived.RangeFuncSeq
import Derived.Scope
import Derived.DeepKeys3
import Derived.Laws.CopyRow
import Derived.Laws.OwnMore
/-
  The contracts of the functions of the program and of the reference, and the logic that they are proved in: the base that several claims of this seat share.
-/
set_option linter.all false
section
namespace Go.Proofs.Ytkljfdkmjdjpfaa
open Go.RowKit
abbrev Env:=List (Nat×Value)
def BK(a:Act):Env→Act
 |[]=>a
 |(d,v)::l=>(BK a l).put (some d) v
def sl(a:Act)(s:Nat):Value:=a.tmps.getD s undef
def lk(b:Value):Env→Nat→Value
 |[],_=>b
 |(d,v)::l,s=>match Nat.beq d s with|true=>v|false=>lk b l s
def ev(a:Act)(l:Env):Operand→Value
 |.tmp t=>lk (sl a t) l t
 |.const v=>v
 |.global g=>.pointer (some ⟨g,0,none⟩)
 |.func f=>.func (.func f) #[] #[]
structure Ctx where
 ro:Option Nat
 ds:List Deferred
abbrev X0:Ctx:=⟨none,[]⟩
def Wd:Option Nat→Fence
 |none=>Fence.wide
 |some r=>Fence.wide.inRound r
theorem KO(ro:Option Nat)(f:FuncId):(Wd ro).fn f:=by cases ro<;>trivial
theorem N2(ro:Option Nat):(Wd ro).depth=none:=by cases ro<;>rfl
theorem N3(ro:Option Nat){n:Nat}:(Wd ro).depth.isSome=true→1≤n:=fun h=>by rw[N2] at h;cases h
structure St(X:Ctx)(N:Nat)(a:Act)(l:Env):Prop where
 sz:a.tmps.size=N
 df:a.defers=X.ds
 lt:∀p∈l,p.1<N
theorem GQ(a:Act)(l:Env):(BK a l).tmps.size=a.tmps.size:=by
 induction l with
 |nil=>rfl
 |cons p l ih=>simp[BK,Act.put,ih]
theorem C5(a:Act)(l:Env):(BK a l).defers=a.defers:=by
 induction l with
 |nil=>rfl
 |cons p l ih=>simp[BK,Act.put,ih]
theorem St.cons{X:Ctx}{N:Nat}{a:Act}{l:Env}(h:St X N a l){d:Nat}(c:d<N)(v:Value):St X N a ((d,v)::l):=
 ⟨h.sz,h.df,fun p b=>by
  rcases List.mem_cons.1 b with rfl|b
  ·exact c
  ·exact h.lt p b⟩
theorem GB{X:Ctx}{N:Nat}{a:Act}:∀{l:Env},St X N a l→∀s,sl (BK a l) s=lk (sl a s) l s
 |[],_,_=>rfl
 |(d,v)::l,h,s=>by
  have e:St X N a l:=⟨h.sz,h.df,fun p f=>h.lt p (List.mem_cons_of_mem _ f)⟩;have ih:=GB e s;have g:d<N:=h.lt (d,v) (List.mem_cons_self ..);unfold sl at*;simp only[BK,Act.put,lk];cases b:Nat.beq d s with
  |true=>
   obtain rfl:d=s:=Nat.eq_of_beq_eq_true b;simp[GQ,h.sz,g]
  |false=>
   have c:d≠s:=Nat.ne_of_beq_eq_false b;rw[←ih];simp[Array.getElem?_setIfInBounds_ne c]
theorem OR{X:Ctx}{N:Nat}{a:Act}{l:Env}(h:St X N a l)(x:Operand):(BK a l).eval x=ev a l x:=by
 cases x with
 |tmp t=>exact GB h t
 |_=>rfl
theorem ee{X:Ctx}{N:Nat}{a:Act}{l:Env}{x:Operand}{v:Value}(h:St X N a l)(b:ev a l x=v):(BK a l).eval x=v:=(OR h x).trans b
def BD (P:Program) (o:Oper) (a:Act) (w:World) (R:Value→World→Prop):Prop:=
 match (execOp a.eval o).run P w with
 |.ok (.value v) w'=>R v w'
 |.ok .skip w'=>R undef w'
 |.ok (.enter f args) w'=>Calls P f args w' (fun e Bp=>∃v,e=.returned v∧R v Bp)
 |.ok (.round l f tmps assign body) w'=>RoundIn Fence.wide 0 P l f tmps assign body w' (fun e Bp=>∃v,e=.returned v∧R v Bp)
 |_=>False
theorem BD.OS{P:Program}{o:Oper}{a:Act}{w:World}{R:Value→World→Prop}(h:BD P o a w R):∀c,o.op≠.defer c:=by
 intro c b;unfold BD at h;have he:execOp a.eval o=(do pure (.defer (←resolve a.eval c o.type))):=by
  unfold execOp;rw[b]
 rw[he,Sem.run_bind] at h;cases d:(resolve a.eval c o.type).run P w<;>simp[d,Result.andThen] at h
theorem BD.wp{P:Program}{ro:Option Nat}{o:Oper}{a:Act}{w:World}{R:Value→World→Prop}{K:Act→World→Prop}{Q:Exit→Act→World→Prop}
  (h:BD P o a w R)(b:∀v w',R v w'→K (a.put o.dst v) w'):o.wpIn (Wd ro) 0 P a w K Q:=by
 refine⟨fun f _=>KO ro f,?_⟩;rw[Oper.semAt_eq _ _ _ h.OS];unfold BD at h;generalize (execOp a.eval o).run P w=r at*;cases r with
 |ok n w'=>
  cases n<;>simp only[Oper.uponIn] at h⊢
  case value=>exact b _ _ h
  case skip=>exact b _ _ h
  case enter f args=>
   refine⟨N3 ro,?_⟩;have c:CallsIn Fence.wide (0-1) P f args w' (fun e Bp=>∃v,e=.returned v∧R v Bp):=callsIn_wide.2 h;have g:CallsIn (Wd ro) (0-1) P f args w' (fun e Bp=>∃v,e=.returned v∧R v Bp):=by cases ro<;>exact c
   refine g.mono ?_;rintro e Bp ⟨v,rfl,d⟩;exact b _ _ d
  case round l f tmps assign body=>
   refine⟨N3 ro,?_⟩;have c:RoundIn (Wd ro) (0-1) P l f tmps assign body w' (fun e Bp=>∃v,e=.returned v∧R v Bp):=by cases ro<;>exact h
   refine c.mono ?_;rintro e Bp ⟨v,rfl,d⟩;exact b _ _ d
 |halt=>exact h.elim
theorem BD.mono{P:Program}{o:Oper}{a:Act}{w:World}{R R':Value→World→Prop}(h:BD P o a w R)(b:∀v w',R v w'→R' v w'):BD P o a w R':=by
 unfold BD at*;generalize (execOp a.eval o).run P w=r at*;cases r with
 |ok n w'=>
  cases n<;>simp only[] at h⊢
  case value=>exact b _ _ h
  case skip=>exact b _ _ h
  case enter f args=>
   refine h.mono ?_;rintro e Bp ⟨v,rfl,c⟩;exact⟨v,rfl,b _ _ c⟩
  case round=>
   refine h.mono ?_;rintro e Bp ⟨v,rfl,c⟩;exact⟨v,rfl,b _ _ c⟩
 |halt=>exact h.elim
def WL(P:Program)(X:Ctx)(N:Nat)(ops:Array Oper)(Q:Exit→Act→World→Prop)(rest:List Oper)(a:Act)(l:Env)(w:World):Prop:=
 St X N a l→wpListIn (Wd X.ro) 0 P ops Q rest (BK a l) w
section
variable{P:Program}{X:Ctx}{N:Nat}{ops:Array Oper}{Q:Exit→Act→World→Prop}{rest:List Oper}{a:Act}{l:Env}{w:World}{o:Oper}
theorem OA{R:Value→World→Prop}{d:Nat}(b:o.guard=none)(c:o.dst=some d)(e:d<N)
  (f:St X N a l→BD P o (BK a l) w R)(g:∀v w',R v w'→WL P X N ops Q rest a ((d,v)::l) w'):WL P X N ops Q (o::rest) a l w:=fun s=>
 wpListIn_plain b fun K hK=>(f s).wp fun v w' h=>hK _ _ (by rw[c];exact g v w' h (s.cons e v))
theorem A6{R:Value→World→Prop}(b:o.guard=none)(c:o.dst=none)
  (d:St X N a l→BD P o (BK a l) w R)(e:∀v w',R v w'→WL P X N ops Q rest a l w'):WL P X N ops Q (o::rest) a l w:=fun s=>
 wpListIn_plain b fun K hK=>(d s).wp fun v w' f=>hK _ _ (by rw[c];exact e v w' f s)
theorem Pt {d:Nat} {v:Value} {w':World} (b:o.guard=none) (c:o.dst=some d) (e:d<N)
  (f:St X N a l→BD P o (BK a l) w (fun u Bp=>u=v∧Bp=w')) (g:WL P X N ops Q rest a ((d,v)::l) w'):WL P X N ops Q (o::rest) a l w:=
 OA b c e f (by rintro _ _ ⟨rfl,rfl⟩;exact g)
theorem JJ{j d:Nat}{b:Bool}(s:St X N a l)(f:(ops[j]?).bind (·.dst)=some d)(g:ev a l (.tmp d)=.bool b):yielded ops (BK a l).tmps j=some b:=by
 have h:=ee s g;unfold yielded;simp only[f,Option.bind_some];have c:(BK a l).tmps.getD d undef=.bool b:=h;rw[Array.getD_eq_getD_getElem?] at c;cases e:(BK a l).tmps[d]? with
 |none=>rw[e] at c;simp[undef] at c
 |some u=>rw[e] at c;simp at c;rw[c]
theorem BC {R:Value→World→Prop} {d j c:Nat} {b:Bool} (e:o.guard=some (j,b)) (f:(ops[j]?).bind (·.dst)=some c) (g:ev a l (.tmp c)=.bool b)
  (h:o.dst=some d) (i:d<N) (k:St X N a l→BD P o (BK a l) w R) (m:∀v w',R v w'→WL P X N ops Q rest a ((d,v)::l) w'):WL P X N ops Q (o::rest) a l w:=fun s=>by
 have hw:Region.wanted o (yielded ops (BK a l).tmps)=true:=by
  unfold Region.wanted;rw[e];simp[JJ s f g]
 exact wpListIn_step fun K hK=>by rw[if_pos hw];exact(k s).wp fun v w' n=>hK _ _ (by rw[h];exact m v w' n (s.cons i v))
theorem Aw{d j c:Nat}{b:Bool}{v:Value}{w':World}(e:o.guard=some (j,b))(f:(ops[j]?).bind (·.dst)=some c)(g:ev a l (.tmp c)=.bool b)
  (h:o.dst=some d)(i:d<N)(k:St X N a l→BD P o (BK a l) w (fun u Bp=>u=v∧Bp=w'))(m:WL P X N ops Q rest a ((d,v)::l) w'):WL P X N ops Q (o::rest) a l w:=
 BC e f g h i k (by rintro _ _ ⟨rfl,rfl⟩;exact m)
theorem Au {d j e:Nat} {b c:Bool} (g:o.guard=some (j,b)) (h:(ops[j]?).bind (·.dst)=some e) (i:ev a l (.tmp e)=.bool c) (k:c≠b)
  (m:o.dst=some d) (n:d<N) (p:WL P X N ops Q rest a ((d,undef)::l) w):WL P X N ops Q (o::rest) a l w:=fun s=>by
 have hw:Region.wanted o (yielded ops (BK a l).tmps)=false:=by
  unfold Region.wanted;rw[g];simp[JJ s h i,k]
 exact wpListIn_step fun K hK=>by rw[if_neg (by rw[hw];simp)];exact⟨fun f _=>KO X.ro f,hK _ _ (by rw[m];exact p (s.cons n undef))⟩
end
def CW(P:Program)(ro:Option Nat)(c:Code)(Q:Exit→Act→World→Prop)(a:Act)(w:World):Prop:=c.wpIn (Wd ro) 0 P Q a w
def CC(P:Program)(X:Ctx)(N:Nat)(c:Code)(Q:Exit→Act→World→Prop)(a:Act)(l:Env)(w:World):Prop:=
 St X N a l→CW P X.ro c Q (BK a l) w
section
variable{P:Program}{X:Ctx}{N:Nat}{Q:Exit→Act→World→Prop}{a:Act}{l:Env}{w:World}
def LV (X:Ctx) (N:Nat) (Q:Exit→Act→World→Prop) (e:Exit) (a:Act) (l:Env) (w:World):Prop:=St X N a l→Q e (BK a l) w
theorem Ae{x y:Code}(h:CC P X N x (Exit.then (CW P X.ro y Q) Q) a l w):CC P X N (.seq x y) Q a l w:=fun s=>wpIn_seq (h s)
theorem Aa{id:Nat}{L:List Oper}(h:WL P X N L.toArray Q L a l w):CC P X N (.region id L.toArray false) Q a l w:=fun s=>wpIn_region_lit (h s)
theorem Af{ops:Array Oper}(h:LV X N Q .normal a l w):WL P X N ops Q [] a l w:=fun s=>wpListIn_nil (h s)
theorem A9(h:LV X N Q .normal a l w):CC P X N .skip Q a l w:=fun s=>wpIn_skip (h s)
theorem CZ{id:Nat}(h:LV X N Q (.exit id) a l w):CC P X N (.exit id) Q a l w:=fun s=>wpIn_exit (h s)
theorem AP(h:LV X N Q .ret a l w):CC P X N .ret Q a l w:=fun s=>wpIn_ret (h s)
theorem Bi{id:Nat}{c:Code}(h:CC P X N c (Exit.inBlock id Q) a l w):CC P X N (.block id c) Q a l w:=fun s=>wpIn_block (h s)
theorem AL{c:Operand}{x y:Code}{t:Bool}(b:ev a l c=.bool t)(h:t=true)(d:CC P X N x Q a l w):CC P X N (.cond c x y) Q a l w:=fun s=>wpIn_cond_true (by rw[ee s b,h]) (d s)
theorem AR{c:Operand}{x y:Code}{t:Bool}(b:ev a l c=.bool t)(h:t=false)(d:CC P X N y Q a l w):CC P X N (.cond c x y) Q a l w:=fun s=>wpIn_cond_false (by rw[ee s b,h]) (d s)
theorem Ab {y:Code} (h:CC P X N y Q a l w):LV X N (Exit.then (CW P X.ro y Q) Q) .normal a l w:=fun s=>h s
theorem A3{K:Act→World→Prop}{id:Nat}(h:LV X N Q (.exit id) a l w):LV X N (Exit.then K Q) (.exit id) a l w:=h
theorem AM{K:Act→World→Prop}(h:LV X N Q .ret a l w):LV X N (Exit.then K Q) .ret a l w:=h
theorem BI{id:Nat}(h:LV X N Q .normal a l w):LV X N (Exit.inBlock id Q) .normal a l w:=h
theorem Bb{id:Nat}(h:LV X N Q .ret a l w):LV X N (Exit.inBlock id Q) .ret a l w:=h
theorem BR{id:Nat}(h:LV X N Q .normal a l w):LV X N (Exit.inBlock id Q) (.exit id) a l w:=fun s=>by
 show(if id=id then Q .normal _ _ else Q (.exit id) _ _);rw[if_pos rfl];exact h s
theorem M6 {c:Code} (I:Nat→Act→World→Prop) (m:Nat) (h0:I m a w)
  (v:∀m a w,I m a w→CW P X.ro c (Exit.then (fun a' w'=>∃o,o<m∧I o a' w') Q) a w):CW P X.ro (Code.loop c) Q a w:=by
 intro b k cs r q i;have key:∀n a w,I n a w→∃e a' w',Q e a' w'∧ArrivesIn (Machine.fenced P (Wd X.ro)) P (lone (b.atR a (.code c::.inLoop c::k)) cs w) b k cs e a' w':=by
  intro n
  induction n using Nat.strongRecOn with
  |_ n ih=>
   intro a w y;obtain⟨e,g,h,f,d⟩:=v n a w y b (.inLoop c::k) cs r q i;cases e with
   |normal=>
    obtain⟨o,s,t⟩:=f;obtain⟨z,aA,aB,u,p⟩:=ih o s g h t;exact⟨z,aA,aB,u,.of_steps (StepsIn.trans d (.one (fenced_calm q i rfl) stepR_inLoop)) p⟩
   |exit id=>exact⟨_,g,h,f,.pass (x:=.inLoop c) rfl (fun _ _=>.inl (by simp)) d⟩
   |goto l=>exact⟨_,g,h,f,.pass (x:=.inLoop c) rfl (fun _ _=>.inl (by simp)) d⟩
   |ret=>exact⟨_,g,h,f,.pass (x:=.inLoop c) rfl (fun _ _=>.inl (by simp)) d⟩
   |panic ch=>exact⟨_,g,h,f,.pass (x:=.inLoop c) rfl (fun _ _=>.inl (by simp)) d⟩
   |outgrown=>exact⟨_,g,h,f,.pass (x:=.inLoop c) rfl (fun _ _=>.inl (by simp)) d⟩
 obtain⟨e,a',w',f,d⟩:=key m a w h0;exact⟨e,a',w',f,.of_steps (.one (fenced_calm q i rfl) stepR_loop) d⟩
theorem C9{c:Code}(I:Nat→Act→World→Prop)(m:Nat)(h0:St X N a l→I m (BK a l) w)
  (d:∀m a w,I m a w→CW P X.ro c (Exit.then (fun a' w'=>∃b,b<m∧I b a' w') Q) a w):CC P X N (.loop c) Q a l w:=fun s=>
 M6 I m (h0 s) d
theorem CH {c:Code} (b:a.tmps.size=N) (d:a.defers=X.ds) (h:CC P X N c Q a [] w):CW P X.ro c Q a w:=
 h ⟨b,d,fun _ e=>by cases e⟩
theorem B6{I:Nat→Act→World→Prop}{m:Nat}(b:Nat)(c:b<m)(h:St X N a l→I b (BK a l) w):LV X N (Exit.then (fun a' w'=>∃b,b<m∧I b a' w') Q) .normal a l w:=
 fun s=>⟨b,c,h s⟩
end
end Go.Proofs.Ytkljfdkmjdjpfaa
end
section
namespace Go.Proofs.Ytkljfdkmjdjpfaa
open Go.RowKit
def Bk (w:World) (b:Nat) (t:TypeId) (cs:Array Value):Prop:=w.heap[b]?=some (.cells cs t (0,0))
abbrev Ext (w w':World):Prop:=w.grownBy w' none
abbrev FA (b:Nat) (w w':World):Prop:=w.grownBy w' (some b)
structure HD(w w':World)(b:Nat)(t:TypeId)(cs:Array Value):Prop where
 ED:b=w.heap.size
 sz:w'.heap.size=b+1
 bk:Bk w' b t cs
 gr:Ext w w'
structure Pu(w w':World)(b:Nat)(t:TypeId)(cs:Array Value):Prop where
 sz:w'.heap.size=w.heap.size
 bk:Bk w' b t cs
 gr:FA b w w'
section
variable{w w':World}{b b':Nat}{t:TypeId}{cs:Array Value}
theorem Bk.lt(h:Bk w b t cs):b<w.heap.size:=lt_of_block h
theorem Bk.cell(h:Bk w b t cs)(i:Nat):w.cell? ⟨b,i,none⟩=cs[i]?:=cell_of_row w b i cs t (0,0) h
theorem Bk.frozen(h:Bk w b t cs)(i:Nat):w.frozen? ⟨b,i,none⟩=false:=frozen_of_row w b i cs t h
theorem Bk.ext(h:Bk w b t cs)(g:Ext w w'):Bk w' b t cs:=(g.block b h.lt (by simp)).trans h
theorem Bk.KZ(h:Bk w b t cs)(g:FA b' w w')(a:b≠b'):Bk w' b t cs:=(g.block b h.lt (by simpa using a)).trans h
theorem M7{B:Nat}{w0:World}(h:Below B w0 w)(g:Ext w w')(a:B≤w.heap.size):Below B w0 w':=h.grown g a (by simp)
theorem M8{B:Nat}{w0:World}(h:Below B w0 w)(g:FA b w w')(a:B≤w.heap.size)(c:B≤b):Below B w0 w':=
 h.grown g a (fun k d=>by cases d;exact c)
theorem K0(h:Below w.heap.size w w'):Ext w w':=⟨h.os,h.tape,h.output,h.size,fun k a _=>h.block k a⟩
theorem K1(h:Ext w w'):Below w.heap.size w w':=⟨h.os,h.tape,h.output,h.size,fun k a=>h.block k a (by simp)⟩
theorem Ext.refl(w:World):Ext w w:=World.grownBy.refl w _
theorem Ext.trans{a b c:World}(h:Ext a b)(k:Ext b c):Ext a c:=World.grownBy.trans h k
theorem G1(w:World)(t:TypeId)(cs:Array Value):HD w (w.alloc (.cells cs t)) w.heap.size t cs:=
 ⟨rfl,by simp,heap_alloc_new w _,World.grownBy_alloc w _ _⟩
def Rd (w:World) (lo hi:Nat) (A:Option Addr) (cs:List Value):Prop:=
 hi≤w.heap.size∧(cs=[]∨∃b o,A=some ⟨b,o,none⟩∧lo≤b∧b<hi∧∀j u,cs[j]?=some u→w.cell? ⟨b,o+j,none⟩=some u)
section
variable{lo hi:Nat}{A:Option Addr}{cs:List Value}
theorem Rd.le(h:Rd w lo hi A cs):hi≤w.heap.size:=h.1
theorem Rd.ext(h:Rd w lo hi A cs)(g:Ext w w'):Rd w' lo hi A cs:=
 ⟨Nat.le_trans h.1 g.size,h.2.imp id fun⟨b,o,d,e,c,f⟩=>⟨b,o,d,e,c,fun j u hu=>
  (World.cell?_of_block (a:=⟨b,o+j,none⟩) (g.block b (Nat.lt_of_lt_of_le c h.1) (by simp))).trans (f j u hu)⟩⟩
theorem Rd.KZ(h:Rd w lo hi A cs)(g:FA b' w w')(i:b'<lo∨hi≤b'):Rd w' lo hi A cs:=
 ⟨Nat.le_trans h.1 g.size,h.2.imp id fun⟨b,o,d,e,c,f⟩=>⟨b,o,d,e,c,fun j u hu=>
  (World.cell?_of_block (a:=⟨b,o+j,none⟩) (g.block b (Nat.lt_of_lt_of_le c h.1) (by simp;omega))).trans (f j u hu)⟩⟩
theorem Rd.mono{c a:Nat}(h:Rd w lo hi A cs)(g:c≤lo)(i:hi≤a)(d:a≤w.heap.size):Rd w c a A cs:=
 ⟨d,h.2.imp id fun⟨b,o,e,k,l,f⟩=>⟨b,o,e,by omega,by omega,f⟩⟩
theorem Rd.wide(h:Rd w lo hi A cs):Rd w 0 w.heap.size A cs:=h.mono (Nat.zero_le _) h.le (Nat.le_refl _)
theorem Rd.nil{A:Option Addr}(a:hi≤w.heap.size):Rd w lo hi A []:=⟨a,.inl rfl⟩
theorem Rd.cells(h:Rd w lo hi A cs){b o:Nat}(c:A=some ⟨b,o,none⟩):∀j u,cs[j]?=some u→w.cell? ⟨b,o+j,none⟩=some u:=by
 rcases h.2 with rfl|⟨b',o',a,_,_,d⟩
 ·simp
 ·rw[c] at a;injection a with a
  injection a with e f
  subst e;subst f;exact d
theorem Rd.at_ (h:Rd w lo hi A cs) {k:Nat} {u:Value} (hu:cs[k]?=some u):∃b o,A=some ⟨b,o,none⟩∧lo≤b∧b<hi∧∀j u,cs[j]?=some u→w.cell? ⟨b,o+j,none⟩=some u:=by
 rcases h.2 with rfl|h
 ·simp at hu
 ·exact h
end
end
section
variable{P:Program}{a:Act}{w:World}{dst:Option Tmp}{ty:TypeId}{pos:String}{BV:Array Edge}{g:Option (Nat×Bool)}
theorem Cj{o:Oper}{v:Value}{w':World}(h:(execOp a.eval o).run P w=.ok (.value v) w'):BD P o a w (fun u Bp=>u=v∧Bp=w'):=by
 unfold BD;rw[h];exact⟨rfl,rfl⟩
theorem AZ{x:Operand}{v:Value}(b:a.eval x=v):BD P ⟨dst,.move x,ty,pos,BV,g⟩ a w (fun u w'=>u=v∧w'=w):=⟨b,rfl⟩
theorem K2{x:Operand}{v:Value}(b:a.eval x=v):BD P ⟨dst,.assign x,ty,pos,BV,g⟩ a w (fun u w'=>u=v∧w'=w):=⟨b,rfl⟩
theorem Bc{c x y:Operand}{t:Bool}{v:Value}(b:a.eval c=.bool t)(d:t=true)(e:a.eval x=v):BD P ⟨dst,.pick c x y,ty,pos,BV,g⟩ a w (fun u w'=>u=v∧w'=w):=
 Cj (by subst d;simp[execOp,b,asBool,e])
theorem Bo{c x y:Operand}{t:Bool}{v:Value}(b:a.eval c=.bool t)(d:t=false)(e:a.eval y=v):BD P ⟨dst,.pick c x y,ty,pos,BV,g⟩ a w (fun u w'=>u=v∧w'=w):=
 Cj (by subst d;simp[execOp,b,asBool,e])
theorem BG{e:TypeId}{z:Value}{cs:Array Value}(d:(P.info? e).bind (·.zero)=some z)(f:z.cells=cs):
  BD P ⟨dst,.alloc e,ty,pos,BV,g⟩ a w (fun u w'=>∃b,u=.pointer (some ⟨b,0,none⟩)∧HD w w' b e cs):=by
 have h:(Instr.alloc e true (.tuple #[])).run P w=.ok (.pointer (some ⟨w.heap.size,0,none⟩)) (w.alloc (.cells cs e)):=by
  obtain⟨i,hi,c⟩:=Option.bind_eq_some_iff.1 d;simp[Instr.alloc,zeroValue,typeInfo,hi,c,newVar,newRow,newObj,program,Sem.run,f]
 unfold BD;simp only[execOp,Sem.run_bind,h,Result.andThen_ok,Sem.run_pure];exact⟨_,rfl,G1 w e cs⟩
theorem Ci{e:TypeId}{x:Operand}{v:Value}{cs:Array Value}(c:a.eval x=v)(d:v.cells=cs):
  BD P ⟨dst,.box e x,ty,pos,BV,g⟩ a w (fun u w'=>∃b,u=.pointer (some ⟨b,0,none⟩)∧HD w w' b e cs):=by
 have h:(Instr.box e (a.eval x)).run P w=.ok (.pointer (some ⟨w.heap.size,0,none⟩)) (w.alloc (.cells cs e)):=by
  simp[Instr.box,newVar,newRow,newObj,Sem.run,c,d]
 unfold BD;simp only[execOp,Sem.run_bind,h,Result.andThen_ok,Sem.run_pure];exact⟨_,rfl,G1 w e cs⟩
theorem HX{o:Oper}{S:Sem Value}{v:Value}{w':World}(b:execOp a.eval o=(do pure (.value (←S))))(h:S.run P w=.ok v w'):BD P o a w (fun u Bp=>u=v∧Bp=w'):=
 Cj (by rw[b];simp[h])
theorem Ct{t:TypeId}{ps:Array (Nat×Operand)}{vs:Array (Nat×Value)}{v:Value}(b:ps.map (fun(i,x)=>(i,a.eval x))=vs)(h:(Instr.build t vs).run P w=.ok v w):
  BD P ⟨dst,.build t ps,ty,pos,BV,g⟩ a w (fun u w'=>u=v∧w'=w):=HX (S:=Instr.build t vs) (by simp only[execOp];rw[b]) h
theorem AU{t e:TypeId}{n:Nat}{ps:Array (Nat×Operand)}{vs:Array (Nat×Value)}{cs:Array Value}(c:ps.map (fun(i,x)=>(i,a.eval x))=vs)
  (h:(Instr.buildSlice t n vs).run P w=.ok (.slice (some ⟨w.heap.size,0,none⟩) n n) (w.alloc (.cells cs e))):
  BD P ⟨dst,.buildSlice t n ps,ty,pos,BV,g⟩ a w (fun u w'=>∃b,u=.slice (some ⟨b,0,none⟩) n n∧HD w w' b e cs):=
 (HX (S:=Instr.buildSlice t n vs) (by simp only[execOp];rw[c]) h).mono fun u w' ⟨hu,hw⟩=>⟨_,hu,by rw[hw];exact G1 w e cs⟩
def DH(P:Program)(t:TypeId)(n:Nat):Prop:=(match P.underlying t with|some (.struct _)|some (.array ..)=>true|_=>false)=true∧(P.info? t).map (·.size)=some n
def One(P:Program)(t:TypeId):Prop:=(match P.underlying t with|some (.struct _)|some (.array ..)|none=>false|_=>true)=true∧(P.info? t).map (·.size)=some 1
theorem LY{t:TypeId}{n:Nat}(h:DH P t n):(isAgg t).run P w=.ok true w:=by
 unfold isAgg;cases hu:P.underlying t with
 |none=>simp[DH,hu] at h
 |some d=>cases d<;>simp[DH,hu] at h<;>simp[underlying,program,Sem.run,hu]
theorem HE{t:TypeId}(h:One P t):(isAgg t).run P w=.ok false w:=by
 unfold isAgg;cases hu:P.underlying t with
 |none=>simp[One,hu] at h
 |some d=>cases d<;>simp[One,hu] at h<;>simp[underlying,program,Sem.run,hu]
theorem HY{t:TypeId}{n:Nat}(h:(P.info? t).map (·.size)=some n):(sizeOf t).run P w=.ok n w:=by
 obtain⟨i,hi,a⟩:=Option.map_eq_some_iff.1 h;simp[sizeOf,typeInfo,program,Sem.run,hi,a]
theorem FP(b o j:Nat):(⟨b,o,none⟩:Addr).add j=⟨b,o+j,none⟩:=by unfold Addr.add;split<;>simp_all
theorem Em{t:TypeId}{ad:Addr}{v:Value}(h:One P t)(a:w.cell? ad=some v):(loadVar t ad).run P w=.ok v w:=by
 simp[loadVar,HE h,load,Sem.run,a]
theorem Iu{t:TypeId}{n b o:Nat}{cs:List Value}(h:DH P t n)(a:cs.length=n)(c:∀j u,cs[j]?=some u→w.cell? ⟨b,o+j,none⟩=some u):(loadVar t ⟨b,o,none⟩).run P w=.ok (.agg cs.toArray) w:=by
 have d:=run_loadCells_list (P:=P) (w:=w) ⟨b,o,none⟩ cs (fun j v e=>by rw[FP];exact c j v e);subst a;simp[loadVar,LY h,HY h.2,d]
theorem JK{t:TypeId}{x:Operand}{ad:Addr}{v:Value}(b:a.eval x=.pointer (some ad))(h:(loadVar t ad).run P w=.ok v w):BD P ⟨dst,.load t x,ty,pos,BV,g⟩ a w (fun u w'=>u=v∧w'=w):=
 HX (S:=Instr.loadAt t (a.eval x)) rfl (by simp[Instr.loadAt,Instr.sureAddr,b,h])
theorem Az {t c:TypeId} {x:Operand} {b o:Nat} {cs:Array Value} {v:Value} (h:One P t) (d:a.eval x=.pointer (some ⟨b,o,none⟩)) (e:Bk w b c cs) (f:cs.toList[o]?=some v):
  BD P ⟨dst,.load t x,ty,pos,BV,g⟩ a w (fun u w'=>u=v∧w'=w):=JK d (Em h ((e.cell o).trans (by simpa using f)))
theorem Bf {t c:TypeId} {x:Operand} {n b o:Nat} {cs:Array Value} {l:List Value} (h:DH P t n) (d:a.eval x=.pointer (some ⟨b,o,none⟩)) (e:Bk w b c cs) (f:(cs.toList.drop o).take n=l) (i:l.length=n):
  BD P ⟨dst,.load t x,ty,pos,BV,g⟩ a w (fun u w'=>u=.agg l.toArray∧w'=w):=JK d (Iu h i fun j u hu=>by
 rw[e.cell];subst f;rw[List.getElem?_take] at hu;split at hu
 ·simpa using hu
 ·cases hu)
theorem Ky {t:TypeId} {x:Operand} {b o k:Nat} {cs:List Value} {v:Value} (h:One P t) (c:a.eval x=.pointer (some ⟨b,o+k,none⟩)) (d:∀j u,cs[j]?=some u→w.cell? ⟨b,o+j,none⟩=some u) (e:cs[k]?=some v):
  BD P ⟨dst,.load t x,ty,pos,BV,g⟩ a w (fun u w'=>u=v∧w'=w):=JK c (Em h (d k v e))
theorem MB {t:TypeId} {x:Operand} {n b o k:Nat} {cs l:List Value} (h:DH P t n) (c:a.eval x=.pointer (some ⟨b,o+k,none⟩)) (d:∀j u,cs[j]?=some u→w.cell? ⟨b,o+j,none⟩=some u)
  (e:(cs.drop k).take n=l) (f:l.length=n):BD P ⟨dst,.load t x,ty,pos,BV,g⟩ a w (fun u w'=>u=.agg l.toArray∧w'=w):=JK c (Iu h f fun j u hu=>by
 rw[Nat.add_assoc];refine d _ _ ?_;subst e;rw[List.getElem?_take] at hu;split at hu
 ·simpa using hu
 ·cases hu)
def setCells(cs:Array Value)(o:Nat):List Value→Array Value
 |[]=>cs
 |v::l=>setCells (cs.setIfInBounds o v) (o+1) l
theorem DF(o:Nat):∀(l:List Value) (cs:Array Value) (o:Nat),(setCells cs o l).size=cs.size
 |[],_,_=>rfl
 |v::l,cs,o=>by simp[setCells,DF o l]
theorem GY{b:Nat}{t:TypeId}{o:Nat}:∀(l:List Value) (i:Nat) (cs:Array Value) (w:World),Bk w b t cs→o+i+l.length≤cs.size→(∀u∈l,u.oneCell'=true)→
  ∃w',(storeCells ⟨b,o,none⟩ l i).run P w=.ok () w'∧Pu w w' b t (setCells cs (o+i) l)
 |[],i,cs,w,h,_,_=>⟨w,by simp[storeCells],rfl,h,World.grownBy.refl w _⟩
 |v::l,i,cs,w,h,hle,c=>by
  have d:o+i<cs.size:=by simp at hle;omega
  have g:=c v (List.mem_cons_self ..);have a:w.cell? ⟨b,o+i,none⟩=some cs[o+i]:=by rw[h.cell];simp[d]
  have e:(store ((⟨b,o,none⟩:Addr).add i) v).run P w=.ok () (w.setCell ⟨b,o+i,none⟩ v):=by
   rw[FP];cases v<;>simp[Value.oneCell'] at g<;>simp[store,Sem.run,a,h.frozen]
  have m:Bk (w.setCell ⟨b,o+i,none⟩ v) b t (cs.setIfInBounds (o+i) v):=by
   unfold Bk at h⊢;simp[World.setCell,Array.getElem?_modify,h]
  obtain⟨w',n,s1,s2,p⟩:=GY (o:=o) l (i+1) _ _ m (by simp at hle⊢;omega) (fun u hu=>c u (List.mem_cons_of_mem _ hu));refine⟨w',?_,by rw[s1];simp,s2,?_⟩
  ·simp only[storeCells,Sem.run_bind,e,Result.andThen_ok,n]
  ·have g1:FA b w (w.setCell ⟨b,o+i,none⟩ v):=⟨rfl,rfl,rfl,by simp,fun k _ f=>Below.heap_setCell w ⟨b,o+i,none⟩ v k (by simpa using f)⟩;exact World.grownBy.trans g1 p
theorem AW{t d:TypeId}{x y:Operand}{n b o:Nat}{v:Value}{cs BP:Array Value}{l:List Value}(i:a.eval x=.pointer (some ⟨b,o,none⟩))(k:a.eval y=v)(m:(P.info? t).map (·.size)=some n)(p:Bk w b d cs)
  (e:v.cells.toList=l)(q:l.length=n)(hle:o+n≤cs.size)(r:∀u∈l,u.oneCell'=true)(s:setCells cs o l=BP):
  BD P ⟨dst,.store t x y,ty,pos,BV,g⟩ a w (fun _ w'=>Pu w w' b d BP):=by
 obtain⟨w',z,c⟩:=GY (P:=P) (t:=d) (o:=o) l 0 cs w p (by omega) r;have f:v.cells.size=n:=by rw[←q,←e];simp
 have h:(Instr.storeAt t (a.eval x) (a.eval y)).run P w=.ok () w':=by
  simp[Instr.storeAt,Instr.sureAddr,i,k,storeVar,HY m,f,e,z]
 unfold BD;simp only[execOp,Sem.run_bind,h,Result.andThen_ok,Sem.run_pure];rw[Nat.add_zero,s] at c;exact c
theorem EO{x:Operand}{ad:Addr}(b:a.eval x=.pointer (some ad)):BD P ⟨dst,.nilCheck x,ty,pos,BV,g⟩ a w (fun u w'=>u=.pointer (some ad)∧w'=w):=
 Cj (by simp[execOp,b])
def fits(x:Int):Prop:=-9223372036854775808≤x∧x≤9223372036854775807
theorem HZ{x:Int}(h:fits x):IntKind.i64.wrap x=x:=by
 rw[IntKind.wrap_i64];unfold fits at h;omega
theorem BZ{x y:Operand}{m n:Int}{t b:TypeId}(c:a.eval x=.int .i64 m)(d:a.eval y=.int .i64 n)(e:fits (m+n)):BD P ⟨dst,.binOp .add t x y b,ty,pos,BV,g⟩ a w (fun u w'=>u=.int .i64 (m+n)∧w'=w):=
 Cj (by simp[execOp,c,d,eqGuard,binOp,Op.intArith,HZ e])
theorem OB{x y:Operand}{m n:Int}{t b:TypeId}(c:a.eval x=.int .i64 m)(d:a.eval y=.int .i64 n)(e:fits (m-n)):BD P ⟨dst,.binOp .sub t x y b,ty,pos,BV,g⟩ a w (fun u w'=>u=.int .i64 (m-n)∧w'=w):=
 Cj (by simp[execOp,c,d,eqGuard,binOp,Op.intArith,HZ e])
theorem QF{x y:Operand}{m n:Int}{t b:TypeId}(c:a.eval x=.int .i64 m)(d:a.eval y=.int .i64 n)(e:fits (m*n)):BD P ⟨dst,.binOp .mul t x y b,ty,pos,BV,g⟩ a w (fun u w'=>u=.int .i64 (m*n)∧w'=w):=
 Cj (by simp[execOp,c,d,eqGuard,binOp,Op.intArith,HZ e])
theorem QG{x y:Operand}{k:IntKind}{m n:Int}{t b:TypeId}(c:a.eval x=.int k m)(d:a.eval y=.int k n)(h0:0≤m)(h:1≤n):BD P ⟨dst,.binOp .rem t x y b,ty,pos,BV,g⟩ a w (fun u w'=>u=.int k (m%n)∧w'=w):=
 Cj (by
  have e:m.tmod n=m%n:=Int.tmod_eq_emod_of_nonneg h0;have f:¬n=0:=by omega
  simp[execOp,c,d,eqGuard,binOp,Op.intDiv,f,e])
theorem L9(op:BinOp)(t:TypeId)(x y:Operand)(k:IntKind)(m n:Int):(eqGuard op t x y (.int k m) (.int k n)).run P w=.ok () w:=by
 unfold eqGuard;cases op<;>rfl
theorem Cd{x y:Operand}{k:IntKind}{m n:Int}{t b:TypeId}(c:a.eval x=.int k m)(d:a.eval y=.int k n):BD P ⟨dst,.binOp .eql t x y b,ty,pos,BV,g⟩ a w (fun u w'=>u=.bool (m==n)∧w'=w):=
 Cj (by simp[execOp,c,d,L9,binOp,Op.intCmp])
theorem DN{x y:Operand}{k:IntKind}{m n:Int}{t b:TypeId}(c:a.eval x=.int k m)(d:a.eval y=.int k n):BD P ⟨dst,.binOp .neq t x y b,ty,pos,BV,g⟩ a w (fun u w'=>u=.bool (m !=n)∧w'=w):=
 Cj (by simp[execOp,c,d,L9,binOp,Op.intCmp])
theorem De{x y:Operand}{k:IntKind}{m n:Int}{t b:TypeId}(c:a.eval x=.int k m)(d:a.eval y=.int k n):BD P ⟨dst,.binOp .lss t x y b,ty,pos,BV,g⟩ a w (fun u w'=>u=.bool (decide (m<n))∧w'=w):=
 Cj (by simp[execOp,c,d,L9,binOp,Op.intCmp])
theorem GI{x y:Operand}{k:IntKind}{m n:Int}{t b:TypeId}(c:a.eval x=.int k m)(d:a.eval y=.int k n):BD P ⟨dst,.binOp .leq t x y b,ty,pos,BV,g⟩ a w (fun u w'=>u=.bool (decide (m≤n))∧w'=w):=
 Cj (by simp[execOp,c,d,L9,binOp,Op.intCmp])
theorem GJ{x y:Operand}{k:IntKind}{m n:Int}{t b:TypeId}(c:a.eval x=.int k m)(d:a.eval y=.int k n):BD P ⟨dst,.binOp .gtr t x y b,ty,pos,BV,g⟩ a w (fun u w'=>u=.bool (decide (n<m))∧w'=w):=
 Cj (by simp[execOp,c,d,L9,binOp,Op.intCmp])
theorem KP{x y:Operand}{k:IntKind}{m n:Int}{t b:TypeId}(c:a.eval x=.int k m)(d:a.eval y=.int k n):BD P ⟨dst,.binOp .geq t x y b,ty,pos,BV,g⟩ a w (fun u w'=>u=.bool (decide (n≤m))∧w'=w):=
 Cj (by simp[execOp,c,d,L9,binOp,Op.intCmp])
theorem MC {op:BinOp} {x y:Operand} {v v1 v2:Value} {t b:TypeId} (c:a.eval x=v1) (d:a.eval y=v2) (h:(do eqGuard op t x y v1 v2;binOp op t v1 v2:Sem Value).run P w=.ok v w):BD P ⟨dst,.binOp op t x y b,ty,pos,BV,g⟩ a w (fun u w'=>u=v∧w'=w):=
 HX (S:=do eqGuard op t x y v1 v2;binOp op t v1 v2) (by simp only[execOp,c,d]) h
theorem DA{x:Operand}{b:Bool}{t:TypeId}(c:a.eval x=.bool b):BD P ⟨dst,.unOp .not t x,ty,pos,BV,g⟩ a w (fun u w'=>u=.bool (!b)∧w'=w):=
 Cj (by simp[execOp,c,Op.unary])
theorem DW{fn:Fn}{b cs:Array Operand}{vs us:Array Value}(c:b.map a.eval=vs)(d:cs.map a.eval=us):BD P ⟨dst,.makeFunc fn b cs,ty,pos,BV,g⟩ a w (fun u w'=>u=.func fn vs us∧w'=w):=
 Cj (by simp[execOp,Instr.makeFunc,c,d])
theorem Ar{s:TypeId}{x:Operand}{i:Nat}{ad b:Addr}(c:a.eval x=.pointer (some ad))(h:(Instr.fieldAt s (.pointer (some ad)) i).run P w=.ok (.pointer (some b)) w):BD P ⟨dst,.fieldAddr s x i,ty,pos,BV,g⟩ a w (fun u w'=>u=.pointer (some b)∧w'=w):=
 HX (S:=Instr.fieldAt s (.pointer (some ad)) i) (by simp only[execOp,c]) h
theorem Ba{x:Operand}{i:Nat}{vs:Array Value}{v:Value}(b:a.eval x=.tuple vs)(h:vs[i]?=some v):BD P ⟨dst,.extract x i,ty,pos,BV,g⟩ a w (fun u w'=>u=v∧w'=w):=
 Cj (by simp[execOp,b,Instr.extract,h])
theorem Jm {t e:TypeId} {x y:Operand} {sz b o n c k:Nat} {i:Int} {d:IntKind} (f:P.underlying t=some (.slice e)) (h:(P.info? e).map (·.size)=some sz) (l:a.eval x=.slice (some ⟨b,o,none⟩) n c) (m:a.eval y=.int d i)
  (hi:i=k) (p:k<n):BD P ⟨dst,.indexAddr t x y,ty,pos,BV,g⟩ a w (fun u w'=>u=.pointer (some ⟨b,o+k*sz,none⟩)∧w'=w):=
 Cj (by
  subst hi;have q:(0:Int)≤k∧(k:Int)<n:=⟨by omega,by omega⟩;have r:¬n≤k:=by omega
  simp[execOp,l,m,Instr.indexAt,asIntOf,underlying,program,Sem.run,f,q,HY h,FP,p,r])
theorem K3 {t e:TypeId} {x y:Operand} {sz b o n k:Nat} {i:Int} {c:IntKind} (d:P.underlying t=some (.array n e)) (f:(P.info? e).map (·.size)=some sz) (h:a.eval x=.pointer (some ⟨b,o,none⟩)) (l:a.eval y=.int c i)
  (hi:i=k) (m:k<n):BD P ⟨dst,.indexAddr t x y,ty,pos,BV,g⟩ a w (fun u w'=>u=.pointer (some ⟨b,o+k*sz,none⟩)∧w'=w):=
 Cj (by
  subst hi;have p:(0:Int)≤k∧(k:Int)<n:=⟨by omega,by omega⟩;have q:¬n≤k:=by omega
  simp[execOp,h,l,Instr.indexAt,asIntOf,underlying,program,Sem.run,d,p,HY f,FP,Instr.sureAddr,m,q])
theorem Ca{t e:TypeId}{x:Operand}{A:Option Addr}{n c:Nat}(b:P.underlying t=some (.slice e))(d:a.eval x=.slice A n c):BD P ⟨dst,.call {callee:=.builtin .len,args:= #[x],argTypes:= #[t]},ty,pos,BV,g⟩ a w (fun u w'=>u=.int .i64 n∧w'=w):=
 Cj (by simp[execOp,resolve,invoke,builtin,Builtin.len_,d,underlying,program,Sem.run,b,goInt])
theorem QH{x y:Operand}{m n:Int}{t b:TypeId}(c:a.eval x=.int .i64 m)(d:a.eval y=.int .i64 n):BD P ⟨dst,.call {callee:=.builtin .max,args:= #[x,y],argTypes:= #[t,b]},ty,pos,BV,g⟩ a w (fun u w'=>u=.int .i64 (max m n)∧w'=w):=
 Cj (by
  have e:(if m<n then n else m)=max m n:=by omega
  simp[execOp,resolve,invoke,builtin,Builtin.max_,c,d,Builtin.max2,e])
theorem QI{x y:Operand}{m n:Int}{t b:TypeId}(c:a.eval x=.int .i64 m)(d:a.eval y=.int .i64 n):BD P ⟨dst,.call {callee:=.builtin .min,args:= #[x,y],argTypes:= #[t,b]},ty,pos,BV,g⟩ a w (fun u w'=>u=.int .i64 (min m n)∧w'=w):=
 Cj (by
  have e:(if n<m then n else m)=min m n:=by omega
  simp[execOp,resolve,invoke,builtin,Builtin.min_,c,d,Builtin.min2,e])
def BM (P:Program) (f:FuncId) (args:Array Value) (w:World) (R:Value→World→Prop):Prop:=Calls P f args w (fun e w'=>∃v,e=.returned v∧R v w')
theorem BM.mono{f:FuncId}{args:Array Value}{R R':Value→World→Prop}(h:BM P f args w R)(a:∀v w',R v w'→R' v w'):BM P f args w R':=
 Calls.mono h fun _ _ ⟨v,he,b⟩=>⟨v,he,a _ _ b⟩
def Bm (P:Program) (f:FuncId):Prop:=(match P.funcs[f]? with|some fn=>fn.name !="runtime.NumGoroutine"&&fn.body.isSome|none=>false)=true
theorem Iv{f:FuncId}(h:Bm P f)(args:Array Value):(callFunc f args).run P w=.ok (.enter f args) w:=by
 unfold Bm at h;unfold callFunc;cases a:P.funcs[f]? with
 |none=>simp[a] at h
 |some fn=>
  simp only[a,Bool.and_eq_true,bne_iff_ne,ne_eq] at h;obtain⟨b,c⟩:=h;have e:fn.body.isNone=false:=by cases g:fn.body<;>simp_all
  have d:¬fn.body=none:=by intro h;simp[h] at c
  simp[program,Sem.run,a,b,d]
theorem HK{f:Operand}{xs:Array Operand}{b:Array TypeId}{fn:FuncId}{first cap vs all:Array Value}{R:Value→World→Prop}(c:Bm P fn)(d:a.eval f=.func (.func fn) first cap)(e:xs.map a.eval=vs)(i:first++vs++cap=all)
  (h:BM P fn all w R):BD P ⟨dst,.call {callee:=.value f,args:=xs,argTypes:=b},ty,pos,BV,g⟩ a w R:=by
 have k:(execOp a.eval ⟨dst,.call {callee:=.value f,args:=xs,argTypes:=b},ty,pos,BV,g⟩).run P w=.ok (.enter fn all) w:=by
  simp only[execOp,resolve,d,e,Deferred.ofValue];simp only[Sem.run_bind,Sem.run_pure,Result.andThen_ok,invoke,Iv c,i]
 unfold BD;rw[k];exact h
theorem HL{f:Operand→Value}:(#[]:Array Operand).map f= #[]:=by simp
theorem BS{f:Operand→Value}{a:Operand}{v0:Value}(h0:f a=v0): #[a].map f= #[v0]:=by simp[h0]
theorem EL{f:Operand→Value}{a x1:Operand}{v0 v1:Value}(h0:f a=v0)(b:f x1=v1): #[a,x1].map f= #[v0,v1]:=by simp[h0,b]
theorem DL{f:Operand→Value}{a x1 x2:Operand}{v0 v1 v2:Value}(h0:f a=v0)(b:f x1=v1)(c:f x2=v2): #[a,x1,x2].map f= #[v0,v1,v2]:=by simp[h0,b,c]
theorem Ma{f:Operand→Value}{a x1 x2 b:Operand}{v0 v1 v2 v3:Value}(h0:f a=v0)(c:f x1=v1)(d:f x2=v2)(e:f b=v3): #[a,x1,x2,b].map f= #[v0,v1,v2,v3]:=by simp[h0,c,d,e]
theorem Rg{f:Operand→Value}{a x1 x2 b c:Operand}{v0 v1 v2 v3 v4:Value}(h0:f a=v0)(d:f x1=v1)(e:f x2=v2)(g:f b=v3)(h:f c=v4): #[a,x1,x2,b,c].map f= #[v0,v1,v2,v3,v4]:=by simp[h0,d,e,g,h]
theorem Mb{f:Operand→Value}:(#[]:Array (Nat×Operand)).map (fun(i,x)=>(i,f x))= #[]:=by simp
theorem EX{f:Operand→Value}{i0:Nat}{a:Operand}{v0:Value}(h0:f a=v0): #[(i0,a)].map (fun(i,x)=>(i,f x))= #[(i0,v0)]:=by simp[h0]
theorem EY{f:Operand→Value}{i0 i1:Nat}{a x1:Operand}{v0 v1:Value}(h0:f a=v0)(b:f x1=v1): #[(i0,a),(i1,x1)].map (fun(i,x)=>(i,f x))= #[(i0,v0),(i1,v1)]:=by simp[h0,b]
theorem Ir{f:Operand→Value}{i0 i1 i2:Nat}{a x1 x2:Operand}{v0 v1 v2:Value}(h0:f a=v0)(b:f x1=v1)(c:f x2=v2): #[(i0,a),(i1,x1),(i2,x2)].map (fun(i,x)=>(i,f x))= #[(i0,v0),(i1,v1),(i2,v2)]:=by simp[h0,b,c]
theorem Pv{f:Operand→Value}{i0 i1 i2 i3:Nat}{a x1 x2 b:Operand}{v0 v1 v2 v3:Value}(h0:f a=v0)(c:f x1=v1)(d:f x2=v2)(e:f b=v3): #[(i0,a),(i1,x1),(i2,x2),(i3,b)].map (fun(i,x)=>(i,f x))= #[(i0,v0),(i1,v1),(i2,v2),(i3,v3)]:=by simp[h0,c,d,e]
theorem Bd {f:FuncId} {fn:Func} {c:Code} {args:Array Value} {N:Nat} {R:Value→World→Prop} (b:P.funcs[f]?=some fn) (d:fn.body=some c) (g:fn.ntmps=N) (k:args.size≤N)
  (h:∀a:Act,a.tmps=args++Array.replicate (N-args.size) undef→a.defers=[]→CC P X0 N c (bodyPost P fn (fun e w'=>∃v,e=.returned v∧R v w')) a [] w):BM P f args w R:=by
 refine calls_of_wp b d ?_;rw[g];have:=h {tmps:=args++Array.replicate (N-args.size) undef,defers:=[]} rfl rfl;exact wpIn_wide.1 (this ⟨by simp;omega,rfl,fun _ i=>by cases i⟩)
theorem AO{a:Act}{args:Array Value}{n i:Nat}{v:Value}(h:a.tmps=args++Array.replicate n undef)(hi:args[i]?=some v):sl a i=v:=by
 obtain⟨b,he⟩:=Array.getElem?_eq_some_iff.1 hi;unfold sl;rw[h,Array.getD_eq_getD_getElem?,Array.getElem?_append_left b,hi];rfl
theorem AY {fn:Func} {N t:Nat} {a:Act} {l:Env} {v:Value} {R:Value→World→Prop} (b:fn.results= #[.tmp t]) (c:ev a l (.tmp t)=v) (h:R v w):LV X0 N (bodyPost P fn (fun e w'=>∃v,e=.returned v∧R v w')) .ret a l w:=fun s=>
 bodyPost_ret (results_tmp b _ _ _) (by rw[C5,s.df]) ⟨_,rfl,by rw[show(BK a l).tmps.getD t undef=v from ee s c];exact h⟩
theorem E8{fn:Func}{N t u:Nat}{a:Act}{l:Env}{v v':Value}{R:Value→World→Prop}(b:fn.results= #[.tmp t,.tmp u])(c:ev a l (.tmp t)=v)(hu:ev a l (.tmp u)=v')(h:R (.tuple #[v,v']) w):
  LV X0 N (bodyPost P fn (fun e w'=>∃v,e=.returned v∧R v w')) .ret a l w:=fun s=>
 bodyPost_ret (results_tmp2 b _ _ _) (by rw[C5,s.df]) ⟨_,rfl,by rw[show(BK a l).tmps.getD t undef=v from ee s c,show(BK a l).tmps.getD u undef=v' from ee s hu];exact h⟩
theorem FW {fn:Func} {N p:Nat} {t:TypeId} {a:Act} {l:Env} {ad:Addr} {v:Value} {R:Value→World→Prop} (c:fn.results= #[.cell p t]) (d:ev a l (.tmp p)=.pointer (some ad)) (f:(loadVar t ad).run P w=.ok v w) (h:R v w):
  LV X0 N (bodyPost P fn (fun e w'=>∃v,e=.returned v∧R v w')) .ret a l w:=fun s=>by
 have b:(BK a l).tmps.getD p undef=.pointer (some ad):=ee s d;refine bodyPost_ret (v:=v) ?_ (by rw[C5,s.df]) ⟨_,rfl,h⟩;simp only[Array.getD_eq_getD_getElem?] at b;simp[results,c,b,asAddr,f]
theorem I6{fn:Func}{N:Nat}{a:Act}{l:Env}{R:Value→World→Prop}(b:fn.results= #[])(h:R (.tuple #[]) w):LV X0 N (bodyPost P fn (fun e w'=>∃v,e=.returned v∧R v w')) .normal a l w:=fun s=>
 bodyPost_end (results_none b _ _ _) (by rw[C5,s.df]) ⟨_,rfl,h⟩
end
section
variable{P:Program}{a:Act}{w:World}{dst:Option Tmp}{ty:TypeId}{pos:String}{BV:Array Edge}{g:Option (Nat×Bool)}
def B5(l:List Int):List Value:=l.map (Value.int .i64)
def Ep(l:List Int):Value:=.agg (B5 l).toArray
theorem E9(l:List Int):(B5 l).length=l.length:=by simp[B5]
theorem OT(l:List Int)(k:Nat)(h:k<l.length):(B5 l)[k]?=some (.int .i64 (l.getD k 0)):=by
 simp[B5,List.getElem?_eq_getElem h]
theorem N4(l:List Int)(k:Nat)(h:k<l.length):(B5 l).toArray[k]?=some (.int .i64 (l.getD k 0)):=by
 simpa using OT l k h
theorem C1{t a:TypeId}{n b o:Nat}{cs:Array Value}{l:List Value}(h:DH P t n)(c:Bk w b a cs)(d:(cs.toList.drop o).take n=l)(e:l.length=n):(loadVar t ⟨b,o,none⟩).run P w=.ok (.agg l.toArray) w:=
 Iu h e fun j u hu=>by
  rw[c.cell];subst d;rw[List.getElem?_take] at hu;split at hu
  ·simpa using hu
  ·cases hu
theorem Ax{f:Operand}{xs:Array Operand}{b:Array TypeId}{fn:FuncId}{vs:Array Value}{R:Value→World→Prop}(c:Bm P fn)(d:a.eval f=.func (.func fn) #[] #[])(e:xs.map a.eval=vs)
  (h:BM P fn vs w R):BD P ⟨dst,.call {callee:=.value f,args:=xs,argTypes:=b},ty,pos,BV,g⟩ a w R:=
 HK c d e (by simp) h
theorem Fa {t e:TypeId} {x y:Operand} {b n k:Nat} {i:Int} {c:IntKind} (d:P.underlying t=some (.array n e)) (f:(P.info? e).map (·.size)=some 1) (h:a.eval x=.pointer (some ⟨b,0,none⟩)) (l:a.eval y=.int c i)
  (hi:i=k) (m:k<n):BD P ⟨dst,.indexAddr t x y,ty,pos,BV,g⟩ a w (fun u w'=>u=.pointer (some ⟨b,k,none⟩)∧w'=w):=by
 have:=K3 (P:=P) (a:=a) (w:=w) (dst:=dst) (ty:=ty) (pos:=pos) (BV:=BV) (g:=g) d f h l hi m;simpa using this
theorem BT{t e:TypeId}{x y:Operand}{b o n c k:Nat}{A:Option Addr}{i:Int}{d:IntKind}(f:P.underlying t=some (.slice e))(h:(P.info? e).map (·.size)=some 1)(l:a.eval x=.slice A n c)(m:A=some ⟨b,o,none⟩)(p:a.eval y=.int d i)
  (hi:i=k)(q:k<n):BD P ⟨dst,.indexAddr t x y,ty,pos,BV,g⟩ a w (fun u w'=>u=.pointer (some ⟨b,o+k,none⟩)∧w'=w):=by
 subst m;have:=Jm (P:=P) (a:=a) (w:=w) (dst:=dst) (ty:=ty) (pos:=pos) (BV:=BV) (g:=g) f h l p hi q;simpa using this
theorem Cv{t e:TypeId}{x y:Operand}{sz b o n c k:Nat}{A:Option Addr}{i:Int}{d:IntKind}(f:P.underlying t=some (.slice e))(h:(P.info? e).map (·.size)=some sz)(l:a.eval x=.slice A n c)(m:A=some ⟨b,o,none⟩)(p:a.eval y=.int d i)
  (hi:i=k)(q:k<n):BD P ⟨dst,.indexAddr t x y,ty,pos,BV,g⟩ a w (fun u w'=>u=.pointer (some ⟨b,o+k*sz,none⟩)∧w'=w):=by
 subst m;exact Jm f h l p hi q
theorem An(b:Bool):b=true∨b=false:=by cases b<;>simp
theorem AH{l:List Value}(h:l.all (·.oneCell')=true):∀u∈l,u.oneCell'=true:=by simpa using h
theorem ec{a:Act}{v:Value}:a.eval (.const v)=v:=rfl
theorem es{a:Act}{t:Nat}{v:Value}(h:sl a t=v):a.eval (.tmp t)=v:=h
theorem Ad{v:Value}{b c:Bool}(h:v=.bool b)(a:b=c):v=.bool c:=by rw[h,a]
theorem Pw{w0 w w':World}(h:Below w0.heap.size w0 w)(g:Ext w w'):Below w0.heap.size w0 w':=M7 h g h.size
theorem Px{w0 w w':World}{b:Nat}(h:Below w0.heap.size w0 w)(g:FA b w w')(a:w0.heap.size≤b):Below w0.heap.size w0 w':=M8 h g h.size a
theorem JB{fn:Func}{N:Nat}{a:Act}{l:Env}{R:Value→World→Prop}(b:fn.results= #[])(h:R (.tuple #[]) w):LV X0 N (bodyPost P fn (fun e w'=>∃v,e=.returned v∧R v w')) .ret a l w:=fun s=>
 bodyPost_ret (results_none b _ _ _) (by rw[C5,s.df]) ⟨_,rfl,h⟩
def flat{α:Type}(enc:α→List Value)(xs:List α):List Value:=xs.flatMap enc
theorem K4{α:Type}(enc:α→List Value)(sz:Nat)(he:∀x,(enc x).length=sz):∀xs:List α,(flat enc xs).length=xs.length*sz
 |[]=>by simp[flat]
 |x::xs=>by
  have:=K4 enc sz he xs;unfold flat at*;simp only[List.flatMap_cons,List.length_append,he,this,List.length_cons,Nat.add_mul,Nat.one_mul];omega
theorem Rd.elem {α:Type} {enc:α→List Value} {sz:Nat} (he:∀x,(enc x).length=sz) (a:0<sz) {w:World} {lo hi:Nat} {A:Option Addr} {xs:List α} (h:Rd w lo hi A (flat enc xs)) {k:Nat} (e:k<xs.length):
  ∃b o,A=some ⟨b,o,none⟩∧lo≤b∧b<hi∧∀j u,(flat enc xs)[j]?=some u→w.cell? ⟨b,o+j,none⟩=some u:=by
 have c:=K4 enc sz he xs;have d:0<(flat enc xs).length:=by rw[c];exact Nat.mul_pos (by omega) a
 exact h.at_ (k:=0) (u:=(flat enc xs)[0]) (List.getElem?_eq_getElem d)
theorem Rd.E7{w:World}{lo hi:Nat}{A:Option Addr}{cs:List Value}(h:Rd w lo hi A cs){k:Nat}(a:k<cs.length):
  ∃b o,A=some ⟨b,o,none⟩∧lo≤b∧b<hi∧∀j u,cs[j]?=some u→w.cell? ⟨b,o+j,none⟩=some u:=h.at_ (List.getElem?_eq_getElem a)
end
end Go.Proofs.Ytkljfdkmjdjpfaa
end
section
namespace Go.Proofs.Ytkljfdkmjdjpfaa
open Go.RowKit
def Ev(o:Oper)(j:Nat):Bool:=o.after.toList.any fun e=>Region.binds .any e&&Nat.beq e.on j
def BY(L:List Oper)(j:Nat):Option Nat:=(L[j]?).bind (·.dst)
def isDst(L:List Oper)(s:Nat):Bool:=L.any fun o=>match o.dst with|some d=>Nat.beq d s|none=>false
def GR:Nat→List Oper→Bool
 |_,[]=>true
 |k,o::L=>(o.after.toList.all fun e=> !Region.binds .any e||Nat.blt e.on k)&&GR (k+1) L
def Iw(N:Nat):List Oper→Bool
 |[]=>true
 |o::L=>(match o.dst with|some d=>Nat.blt d N&& !isDst L d|none=>true)&&Iw N L
def HM(L:List Oper):List Nat→Bool
 |[]=>true
 |[k]=>Nat.blt k L.length
 |k::j::r=>Nat.blt k j&&(match L[j]? with|some o=>Ev o k|none=>false)&&HM L (j::r)
def I7(N:Nat)(L:List Oper)(sp:List Nat):Bool:=GR 0 L&&Iw N L&&HM L sp
theorem Ix{L:List Oper}{s:Nat}:isDst L s=true↔∃j,BY L j=some s:=by
 unfold isDst BY;rw[List.any_eq_true];constructor
 ·rintro⟨o,a,h⟩;obtain⟨j,b,rfl⟩:=List.mem_iff_getElem.1 a;refine⟨j,?_⟩;rw[List.getElem?_eq_getElem b];cases c:L[j].dst with
  |none=>simp[c] at h
  |some d=>simp only[c] at h;simp[c,Nat.eq_of_beq_eq_true h]
 ·rintro⟨j,b⟩;cases a:L[j]? with
  |none=>simp[a] at b
  |some o=>
   refine⟨o,List.mem_of_getElem? a,?_⟩;simp only[a,Option.bind_some] at b;simp[b]
theorem GK{N:Nat}:∀{L:List Oper},Iw N L=true→∀i j d,BY L i=some d→d<N∧(BY L j=some d→i=j)
 |[],_,i,j,d,hi=>by simp[BY] at hi
 |o::L,h,i,j,d,hi=>by
  simp only[Iw,Bool.and_eq_true] at h;obtain⟨c,f⟩:=h;have ih:=GK f;have e:∀d,o.dst=some d→d<N∧∀j,BY L j≠some d:=by
   intro d g;rw[g] at c;simp only[Bool.and_eq_true,Bool.not_eq_true'] at c;refine⟨by simpa[Nat.blt_eq] using c.1,fun j b=>?_⟩;have:=Ix.2 ⟨j,b⟩;rw[this] at c;cases c.2
  cases i with
  |zero=>
   have a:o.dst=some d:=by simpa[BY] using hi
   refine⟨(e d a).1,fun b=>?_⟩;cases j with
   |zero=>rfl
   |succ j=>exact absurd (by simpa[BY] using b) ((e d a).2 j)
  |succ i=>
   have a:BY L i=some d:=by simpa[BY] using hi
   cases j with
   |zero=>
    refine⟨(ih i i d a).1,fun b=>?_⟩;exact absurd a ((e d (by simpa[BY] using b)).2 i)
   |succ j=>
    refine⟨(ih i j d a).1,fun b=>?_⟩;rw[(ih i j d a).2 (by simpa[BY] using b)]
theorem DI:∀{L:List Oper} {k:Nat},GR k L=true→∀i o,L[i]?=some o→∀e∈o.after,Region.binds .any e=true→e.on<k+i
 |[],_,_,i,o,a=>by simp at a
 |o'::L,k,h,i,o,a=>by
  simp only[GR,Bool.and_eq_true,List.all_eq_true] at h;cases i with
  |zero=>
   obtain rfl:o'=o:=by simpa using a
   intro e he b;have:=h.1 e (by simpa using he);simp only[Bool.or_eq_true,Bool.not_eq_true',b,Bool.true_eq_false,false_or] at this;simpa[Nat.blt_eq] using this
  |succ i=>
   intro e he b;have:=DI h.2 i o (by simpa using a) e he b;omega
theorem D1{o:Oper}{j:Nat}:Ev o j=true↔∃e∈o.after,Region.binds .any e=true∧e.on=j:=by
 unfold Ev;rw[List.any_eq_true];constructor
 ·rintro⟨e,he,h⟩;simp only[Bool.and_eq_true] at h;exact⟨e,by simpa using he,h.1,Nat.eq_of_beq_eq_true h.2⟩
 ·rintro⟨e,he,a,rfl⟩;exact⟨e,by simpa using he,by simp[a]⟩
theorem Iy{L:List Oper}:∀{sp:List Nat},HM L sp=true→
  (∀(i k j:Nat),sp[i]?=some k→sp[i+1]?=some j→∃o,L[j]?=some o∧Ev o k=true)∧(∀(i j k:Nat),sp[i]?=some k→sp[j]?=some k→i=j)∧(∀k∈sp,k<L.length)∧(∀k∈sp,∀(e:Nat),sp[0]?=some e→e≤k)
 |[],_=>⟨by simp,by simp,by simp,by simp⟩
 |[k],h=>by
  have p:k<L.length:=by simpa[HM,Nat.blt_eq] using h
  refine⟨by simp,?_,by simpa using p,by simp⟩;intro i j x hi u;cases i<;>cases j<;>simp_all
 |k::j::r,h=>by
  simp only[HM,Bool.and_eq_true] at h;obtain⟨⟨q,f⟩,s⟩:=h;obtain⟨a1,a2,a3,a4⟩:=Iy s;have t:k<j:=by simpa[Nat.blt_eq] using q
  refine⟨?_,?_,?_,?_⟩
  ·intro i x y a g;cases i with
   |zero=>
    obtain rfl:k=x:=by simpa using a
    obtain rfl:j=y:=by simpa using g
    cases l:L[j]? with
    |none=>simp[l] at f
    |some o=>exact⟨o,rfl,by simpa[l] using f⟩
   |succ i=>exact a1 i x y (by simpa using a) (by simpa using g)
  ·intro i b x a c;have d:∀m,(j::r)[m]?=some x→j≤x:=fun m hm=>a4 x (List.mem_of_getElem? hm) j (by simp);cases i with
   |zero=>
    obtain rfl:k=x:=by simpa using a
    cases b with
    |zero=>rfl
    |succ b=>have:=d b (by simpa using c);omega
   |succ i=>
    cases b with
    |zero=>
     obtain rfl:k=x:=by simpa using c
     have:=d i (by simpa using a);omega
    |succ b=>rw[a2 i b x (by simpa using a) (by simpa using c)]
  ·intro x a;rcases List.mem_cons.1 a with rfl|a
   ·have:=a3 j (by simp);omega
   ·exact a3 x a
  ·intro x a e n;obtain rfl:k=e:=by simpa using n
   rcases List.mem_cons.1 a with rfl|a
   ·exact Nat.le_refl _
   ·have:=a4 x a j (by simp);omega
section
variable(P:Program)(X:Ctx)(N:Nat)(L:List Oper)(a:Act)(l:Env)(S:Nat→World→World→Prop)(T:Nat→Act→World→Prop)(Φ:Nat→Value→World→Prop)(sp:List Nat)
structure He (k:Nat) (o:Oper) (a':Act) (w':World) (ph:Nat):Prop where
 out:∀s,isDst L s=false→sl a' s=lk (sl a s) l s
 later:∀(j d:Nat) (o':Oper),L[j]?=some o'→o'.dst=some d→Ev o' k=true→sl a' d=lk (sl a d) l d
 AN:∀(j d:Nat),Ev o j=true→BY L j=some d→Φ j (sl a' d) w'
 Br:T ph a' w'
 Dw:∀(i:Nat),sp[i]?=some k→ph=i
 GZ:∀(i j:Nat) (o':Oper),sp[i]?=some j→L[j]?=some o'→Ev o' k=true→ph≤i
def DS(k:Nat)(o:Oper):Prop:=∀a' w' ph,He L a l T Φ sp k o a' w' ph→
 (Region.wanted o (yielded L.toArray a'.tmps)=true∧BD P o a' w' (fun v Bp=>Φ k v Bp∧(if k∈sp then S k w' Bp∧T (ph+1) (a'.put o.dst v) Bp else Ext w' Bp)))∨
 (Region.wanted o (yielded L.toArray a'.tmps)=false∧Φ k undef w'∧k∉sp)
def Iz:Nat→Nat→List Oper→Prop
 |0,_,_=>True
 |_+1,_,[]=>True
 |m+1,k,o::R=>DS P L a l S T Φ sp k o∧Iz m (k+1) R
end
def H0(X:Ctx)(N:Nat)(a:Act)(Φ:Nat→Value→World→Prop)(c:Act→World→Prop)(G:Env→Prop)(w':World):Nat→Nat→List Oper→Env→Prop
 |0,_,_,b=>c (BK a b) w'→G b
 |_+1,_,[],b=>c (BK a b) w'→G b
 |m+1,k,o::R,b=>match o.dst with
  |some d=>∀v,Φ k v w'→H0 X N a Φ c G w' m (k+1) R ((d,v)::b)
  |none=>H0 X N a Φ c G w' m (k+1) R b
def okD (L:List Oper) (sp:List Nat) (D:Nat→List Nat):Bool:=
 (List.range (sp.length+1)).all fun ph=>(D ph).all fun s=>(List.range L.length).all fun i=>match BY L i with
  |some d=> !Nat.beq d s||(sp.take ph).any fun k=>Nat.beq k i||(match L[k]? with|some o=>Ev o i|none=>false)
  |none=>true
theorem N5{L:List Oper}{sp:List Nat}{D:Nat→List Nat}(h:okD L sp D=true){ph:Nat}(n:ph≤sp.length){i s:Nat}(f:s∈D ph)(hi:BY L i=some s):
  ∃m k,m<ph∧sp[m]?=some k∧(k=i∨∃o,L[k]?=some o∧Ev o i=true):=by
 have c:i<L.length:=by
  rcases Nat.lt_or_ge i L.length with h|h
  ·exact h
  ·simp[BY,List.getElem?_eq_none h] at hi
 simp only[okD,List.all_eq_true,List.mem_range] at h;have:=h ph (by omega) s f i c;rw[hi] at this;simp only[Nat.beq_refl,Bool.not_true,Bool.false_or,List.any_eq_true] at this;obtain⟨k,g,l⟩:=this;obtain⟨m,hm,d⟩:=List.mem_iff_getElem.1 g;have b:m<ph∧m<sp.length:=by simp at hm;omega
 refine⟨m,k,b.1,?_,?_⟩
 ·rw[←d,List.getElem_take,List.getElem?_eq_getElem b.2]
 ·rcases Bool.or_eq_true _ _▸l with a|a
  ·exact .inl (Nat.eq_of_beq_eq_true a)
  ·cases e:L[k]? with
   |none=>simp[e] at a
   |some o=>exact .inr ⟨o,rfl,by simpa[e] using a⟩
section
variable{P:Program}{X:Ctx}{N:Nat}{L:List Oper}{a:Act}{l:Env}{S:Nat→World→World→Prop}{T:Nat→Act→World→Prop}{Φ:Nat→Value→World→Prop}{sp:List Nat}{Q:Exit→Act→World→Prop}{w:World}{k:Nat}{o:Oper}{R:List Oper}
variable(P) in
structure Inv(listed:Array Bool)(a':Act)(w':World):Prop where
 K5:listed.size=L.length
 sz:a'.tmps.size=N
 df:a'.defers=X.ds
 out:∀s,(∀j,BY L j=some s→listed.getD j false=false)→sl a' s=lk (sl a s) l s
 done:∀(j d:Nat),listed.getD j false=true→BY L j=some d→Φ j (sl a' d) w'
 down:∀(j:Nat) (o:Oper),L[j]?=some o→listed.getD j false=true→∀e∈o.after,Region.binds .any e=true→listed.getD e.on false=true
 ph:∃ph,T ph a' w'∧ph≤sp.length∧∀(i k:Nat),sp[i]?=some k→(listed.getD k false=true↔i<ph)
theorem OU{x y:Act}(a:x.tmps.size=y.tmps.size)(b:x.defers=y.defers)(h:∀s,sl x s=sl y s):x=y:=by
 obtain⟨t,d⟩:=x;obtain⟨c,g⟩:=y;simp only at b a;subst b;have:t=c:=by
  apply Array.ext a;intro i e f;have:=h i;unfold sl at this;simp only[Array.getD_eq_getD_getElem?,Array.getElem?_eq_getElem e,Array.getElem?_eq_getElem f,Option.getD_some] at this;exact this
 rw[this]
theorem I8(q:Act→World→Prop)(G:Env→Prop)(w':World)(a':Act)(c:q a' w')(e:a'.tmps.size=N)(f:a'.defers=X.ds){K:Prop}(u:∀b,St X N a b→G b→a'=BK a b→K):
  ∀(m:Nat) (R:List Oper) (k:Nat) (b:Env),St X N a b→m≤R.length→(∀i d,BY R i=some d→d<N)→(∀i j d,BY R i=some d→BY R j=some d→i=j)→H0 X N a Φ q G w' m k R b→
   (∀i d,i<m→BY R i=some d→Φ (k+i) (sl a' d) w')→(∀s,(∀i,i<m→BY R i≠some s)→sl a' s=lk (sl a s) b s)→K
 |0,R,k,b,st,_,_,_,h,_,g=>by
  have:a'=BK a b:=OU (by rw[GQ,st.sz,e]) (by rw[C5,st.df,f]) (fun s=>by rw[GB st s];exact g s (fun i hi=>absurd hi (by omega)));exact u b st (h (by rw[←this];exact c)) this
 |m+1,[],k,b,st,hm,_,_,h,_,g=>by simp at hm
 |m+1,o::R,k,b,st,hm,r,w,h,x,g=>by
  have l:∀i d,BY R i=some d→d<N:=fun i d hi=>r (i+1) d (by simpa[BY] using hi);have n:∀i j d,BY R i=some d→BY R j=some d→i=j:=fun i j d hi z=>by
   have:=w (i+1) (j+1) d (by simpa[BY] using hi) (by simpa[BY] using z);omega
  have t:∀i d,i<m→BY R i=some d→Φ (k+1+i) (sl a' d) w':=fun i d aA hi=>by
   have:=x (i+1) d (by omega) (by simpa[BY] using hi);rw[show k+1+i=k+(i+1) from by omega];exact this
  simp only[H0] at h;cases p:o.dst with
  |none=>
   rw[p] at h;refine I8 q G w' a' c e f u m R (k+1) b st (by simpa using hm) l n h t fun s v=>g s fun i hi=>?_;cases i with
   |zero=>simp[BY,p]
   |succ i=>simpa[BY] using v i (by omega)
  |some d=>
   rw[p] at h;have h0:BY (o::R) 0=some d:=by simp[BY,p]
   refine I8 q G w' a' c e f u m R (k+1) _ (st.cons (r 0 d h0) (sl a' d)) (by simpa using hm) l n (h _ (x 0 d (by omega) h0)) t fun s v=>?_;simp only[lk];cases y:Nat.beq d s with
   |true=>
    obtain rfl:d=s:=Nat.eq_of_beq_eq_true y;rfl
   |false=>
    refine g s fun i hi=>?_;cases i with
    |zero=>simp[BY,p,Nat.ne_of_beq_eq_false y]
    |succ i=>simpa[BY] using v i (by omega)
theorem K6:∀{m:Nat} {R:List Oper} {k:Nat},Iz P L a l S T Φ sp m k R→∀(i:Nat) (o:Oper),i<m→R[i]?=some o→DS P L a l S T Φ sp (k+i) o
 |0,_,_,_,i,o,hi,_=>absurd hi (by omega)
 |_+1,[],_,_,i,o,_,b=>by simp at b
 |m+1,o'::R,k,h,i,o,hi,b=>by
  cases i with
  |zero=>
   obtain rfl:o'=o:=by simpa using b
   exact h.1
  |succ i=>
   have:=K6 h.2 i o (by omega) (by simpa using b);rw[Nat.add_assoc,Nat.add_comm 1 i] at this;exact this
variable(P) in
theorem Cq:Iz P L a l S T Φ sp 0 k R:=trivial
theorem Ag{m:Nat}(h:DS P L a l S T Φ sp k o)(b:Iz P L a l S T Φ sp m (k+1) R):Iz P L a l S T Φ sp (m+1) k (o::R):=⟨h,b⟩
theorem Jn{x:Act}{d:Nat}{v:Value}(h:d<x.tmps.size):sl (x.put (some d) v) d=v:=by
 unfold sl Act.put;simp[h]
theorem IA{x:Act}{d s:Nat}{v:Value}(h:d≠s):sl (x.put (some d) v) s=sl x s:=by
 unfold sl Act.put;simp[Array.getElem?_setIfInBounds_ne h]
theorem EI{listed:Array Bool}{i:Nat}(h:i<listed.size):(listed.setIfInBounds i true).getD i false=true:=by simp[h]
theorem C2{listed:Array Bool}{i j:Nat}(h:i≠j):(listed.setIfInBounds i true).getD j false=listed.getD j false:=by
 simp[Array.getElem?_setIfInBounds_ne h]
inductive K7 (L:List Oper):Nat→Nat→Prop
 |one {i j:Nat} {o:Oper}:L[i]?=some o→Ev o j=true→K7 L i j
 |step {i d j:Nat} {o:Oper}:L[i]?=some o→Ev o d=true→K7 L d j→K7 L i j
theorem H2{L:List Oper}{p:Nat→Prop}(a:∀d o,L[d]?=some o→p d→∀k,Ev o k=true→p k){i j:Nat}(h:K7 L i j):(∀o,L[i]?=some o→∀k,Ev o k=true→p k)→p j:=by
 induction h with
 |one b c=>exact fun hi=>hi _ b _ c
 |step b c _ ih=>exact fun hi=>ih fun o' e k f=>a _ o' e (hi _ b _ c) k f
def MD (acc:List Nat) (m:Nat) (e:Edge):Nat:=if Region.binds .any e then m|||(2^e.on|||acc.getD e.on 0) else m
def JL(acc:List Nat)(o:Oper):Nat:=o.after.toList.foldl (MD acc) 0
def KQ:List Oper→List Nat→List Nat
 |[],acc=>acc
 |o::R,acc=>KQ R (acc++[JL acc o])
def Hf (L:List Oper) (m:Nat):Bool:=(List.range L.length).all fun i=>Nat.blt i m||(List.range i).all fun j=>(match L[i]? with|some o=>Ev o j|none=>false)||((KQ L []).getD i 0).testBit j
theorem ME{acc:List Nat}{o:Oper}{j:Nat}(h:(JL acc o).testBit j=true):∃d,Ev o d=true∧(d=j∨(acc.getD d 0).testBit j=true):=by
 have key:∀(es:List Edge) (m:Nat),(es.foldl (MD acc) m).testBit j=true→m.testBit j=true∨∃e∈es,Region.binds .any e=true∧(e.on=j∨(acc.getD e.on 0).testBit j=true):=by
  intro es
  induction es with
  |nil=>intro m h;exact .inl h
  |cons e es ih=>
   intro m h;rw[List.foldl_cons] at h;rcases ih _ h with a|⟨f,c,a⟩
   ·unfold MD at a;split at a
    ·rename_i b
     rw[Nat.testBit_or,Nat.testBit_or,Bool.or_eq_true,Bool.or_eq_true,Nat.testBit_two_pow,decide_eq_true_eq] at a;rcases a with a|a
     ·exact .inl a
     ·exact .inr ⟨e,List.mem_cons_self ..,b,a⟩
    ·exact .inl a
   ·exact .inr ⟨f,List.mem_cons_of_mem _ c,a⟩
 rcases key _ _ h with a|⟨e,he,b,a⟩
 ·simp at a
 ·exact⟨e.on,D1.2 ⟨e,by simpa using he,b,rfl⟩,a⟩
theorem JM{L:List Oper}:∀(R:List Oper) (acc:List Nat),L.drop acc.length=R→(∀i j,(acc.getD i 0).testBit j=true→K7 L i j)→∀i j,((KQ R acc).getD i 0).testBit j=true→K7 L i j
 |[],acc,_,h=>h
 |o::R,acc,c,h=>by
  unfold KQ;have e:L[acc.length]?=some o:=by
   have:(L.drop acc.length)[0]?=some o:=by rw[c];rfl
   simpa using this
  refine JM R _ (by rw[List.length_append,List.length_singleton,←List.tail_drop,c];rfl) fun i j a=>?_;rcases Nat.lt_trichotomy i acc.length with hi|hi|hi
  ·rw[List.getD_eq_getElem?_getD,List.getElem?_append_left hi,←List.getD_eq_getElem?_getD] at a;exact h i j a
  ·subst hi;have:(acc++[JL acc o]).getD acc.length 0=JL acc o:=by simp
   rw[this] at a;obtain⟨d,f,b⟩:=ME a;rcases b with rfl|b
   ·exact .one e f
   ·exact .step e f (h d j b)
  ·have:(acc++[JL acc o]).getD i 0=0:=by
    rw[List.getD_eq_getElem?_getD,List.getElem?_eq_none (by simp;omega)];rfl
   rw[this] at a;simp at a
theorem HG{L:List Oper}{m:Nat}(h:Hf L m=true){i:Nat}{o:Oper}(b:L[i]?=some o)(hi:m≤i):∀j,j<i→K7 L i j:=by
 have c:i<L.length:=(List.getElem?_eq_some_iff.1 b).1;simp only[Hf,List.all_eq_true,List.mem_range] at h;have a:=h i c;rw[Bool.or_eq_true] at a;rcases a with a|a
 ·have:i<m:=by simpa[Nat.blt_eq] using a
  omega
 ·simp only[List.all_eq_true,List.mem_range,b,Bool.or_eq_true] at a;exact fun j d=>(a j d).elim (fun h=>.one b h) fun h=>JM L [] rfl (fun i j e=>by simp at e) i j h
theorem K8 {m:Nat} (aP:Hf L m=true) (g:GR 0 L=true):∀(rest:List Oper) (j fuel:Nat) (listed:Array Bool) (a':Act) (w':World),L.drop j=rest→m≤j→rest.length≤fuel→listed.size=L.length→(∀i,i<L.length→(listed.getD i false=true↔i<j))→
  wpListIn (Wd X.ro) 0 P L.toArray Q rest a' w'→wpAnyIn (Wd X.ro) 0 P .any L.toArray Q fuel listed a' w':=by
 intro rest
 induction rest with
 |nil=>
  intro j fuel listed a' w' n hm u r f h;have z:L.length≤j:=List.drop_eq_nil_iff.1 n;have v:Region.ready .any L.toArray listed=[]:=by
   rw[List.eq_nil_iff_forall_not_mem];intro i hi;obtain⟨h0,o,q,_⟩:=mem_ready.1 hi;have s:i<L.length:=by simpa using(Array.getElem?_eq_some_iff.1 q).1
   have c:=(f i s).2 (by omega);have l:i<listed.size:=by omega
   simp[l] at h0 c;rw[h0] at c;cases c
  cases fuel with
  |zero=>exact⟨v,h⟩
  |succ fuel=>exact⟨fun _=>h,fun i hi=>by rw[v] at hi;cases hi⟩
 |cons o rest ih=>
  intro j fuel listed a' w' n hm u r f h;have z:j<L.length:=by
   rcases Nat.lt_or_ge j L.length with h|h
   ·exact h
   ·rw[List.drop_of_length_le h] at n;cases n
  have q:L[j]?=some o:=by
   have:(L.drop j)[0]?=some o:=by rw[n];rfl
   simpa using this
  have aA:L.drop (j+1)=rest:=by rw[←List.tail_drop,n];rfl
  cases fuel with
  |zero=>simp at u
  |succ fuel=>
   refine⟨fun v=>?_,fun i hi=>?_⟩
   ·exfalso;have hm:j∈Region.ready .any L.toArray listed:=mem_ready.2 ⟨by
     have:listed.getD j false=false:=by
      cases aQ:listed.getD j false with
      |false=>rfl
      |true=>have:=(f j z).1 aQ;omega
     have aI:j<listed.size:=by omega
     simp[aI] at this⊢;exact this,o,by simpa using q,fun e he b=>by
      rcases Nat.lt_or_ge e.on L.length with s|aJ
      ·refine(f e.on s).2 ?_;exact DI g j o q e he b|>fun h=>by omega
      ·have:=DI g j o q e he b;omega⟩
    rw[v] at hm;cases hm
   ·obtain⟨h0,o',aB,y⟩:=mem_ready.1 hi;have aK:i<L.length:=by simpa using(Array.getElem?_eq_some_iff.1 aB).1
    have l:i<listed.size:=by omega
    have aC:listed.getD i false=false:=by simp[l] at h0⊢;exact h0
    have aJ:j≤i:=by
     rcases Nat.lt_or_ge i j with c|c
     ·rw[(f i aK).2 c] at aC;cases aC
     ·exact c
    have aL:i=j:=by
     rcases Nat.lt_or_ge j i with c|c
     ·have t:L[i]?=some o':=by simpa using aB
      have:=H2 (p:=fun x=>x<j) (fun d od aM aU k aH=>by
       obtain⟨e,he,b,aD⟩:=D1.1 aH;have:=DI g d od aM e he b;omega) (HG aP t (by omega) j c) (fun aR aE k aH=>by
       rw[t] at aE;obtain rfl:o'=aR:=by simpa using aE
       obtain⟨e,he,b,aD⟩:=D1.1 aH;have aN:=y e he b;rw[aD] at aN;have aV:=DI g i o' t e he b;exact(f k (by omega)).1 aN)
      omega
     ·omega
    subst aL;unfold wpOpIn;have aO:L.toArray[i]?=some o:=by simpa using q
    simp only[aO];unfold wpListIn at h;have aF:∀x,x<L.length→((listed.setIfInBounds i true).getD x false=true↔x<i+1):=by
     intro x aS
     by_cases aG:i=x
     ·subst aG;simp only[EI l,true_iff];omega
     ·rw[C2 aG,f x aS];omega
    split
    ·rename_i hw
     rw[if_pos hw] at h;exact Oper.wpIn_mono (fun a w aT=>ih (i+1) fuel _ a w aA (by omega) (by simpa using u) (by simpa using r) aF aT) h
    ·rename_i hw
     rw[if_neg hw] at h;exact⟨h.1,ih (i+1) fuel _ _ _ aA (by omega) (by simpa using u) (by simpa using r) aF h.2⟩
theorem N6{m:Nat}(bS:m≤L.length)(bK:Hf L m=true)(bO:(sp.all fun k=>Nat.blt k m)=true)(a2:∀k w w',Ext w w'→S k w w')(cF:∀k j v w w',j≠k→(∀o,L[j]?=some o→Ev o k=false)→Φ j v w→S k w w'→Φ j v w')(D:Nat→List Nat)(cG:okD L sp D=true)(cH:∀k x w y w',T k x w→Ext w w'→(∀s,s∈D k→sl y s=sl x s)→T k y w')(aN:I7 N L sp=true)(bT:St X N a l)
  (bU:Iz P L a l S T Φ sp m 0 L)(bP:∀w',H0 X N a Φ (T sp.length) (fun bG=>WL P X N L.toArray Q (L.drop m) a bG w') w' m 0 L l):
  ∀(fuel:Nat) (listed:Array Bool) (a':Act) (w':World),listed.toList.count false≤fuel→Inv (X:=X) (N:=N) (L:=L) (a:=a) (l:=l) (T:=T) (Φ:=Φ) (sp:=sp) listed a' w'→(∀j,m≤j→listed.getD j false=false)→
   wpAnyIn (Wd X.ro) 0 P .any L.toArray Q fuel listed a' w':=by
 simp only[I7,Bool.and_eq_true] at aN;obtain⟨⟨bL,bV⟩,bW⟩:=aN;obtain⟨bX,cP,cQ,_⟩:=Iy bW;have aF:=GK bV
 
 have fin:∀(fuel:Nat) (listed:Array Bool) (a':Act) (w':World),listed.toList.count false≤fuel→Inv (X:=X) (N:=N) (L:=L) (a:=a) (l:=l) (T:=T) (Φ:=Φ) (sp:=sp) listed a' w'→(∀j,m≤j→listed.getD j false=false)→(∀j,j<m→listed.getD j false=true)→wpAnyIn (Wd X.ro) 0 P .any L.toArray Q fuel listed a' w':=by
  intro fuel listed a' w' a3 b q aS;obtain⟨ph,aW,hle,aB⟩:=b.ph;have a4:ph=sp.length:=by
   rcases Nat.lt_or_ge ph sp.length with t|a5
   ·have bY:sp[ph]<m:=by
     have:=List.all_eq_true.1 bO sp[ph] (List.getElem_mem t);simpa[Nat.blt_eq] using this
    have bH:=(aB ph sp[ph] (List.getElem?_eq_getElem t)).1 (aS _ bY);omega
   ·omega
  subst a4;have bZ:wpListIn (Wd X.ro) 0 P L.toArray Q (L.drop m) a' w':=by
   refine I8 (T sp.length) (fun bG=>WL P X N L.toArray Q (L.drop m) a bG w') w' a' aW b.sz b.df (fun bG st cI e=>by rw[e];exact cI st) m L 0 l bT bS (fun i d hi=>(aF i i d hi).1) (fun i j d hi g=>(aF i j d hi).2 g) (bP w') (fun i d a9 hi=>?_) (fun s u=>?_)
   ·rw[Nat.zero_add];exact b.done i d (aS i a9) hi
   ·refine b.out s fun j g=>?_;rcases Nat.lt_or_ge j m with h|h
    ·exact absurd g (u j h)
    ·exact q j h
  refine K8 bK bL (L.drop m) m fuel listed a' w' rfl (Nat.le_refl _) ?_ b.K5 (fun i hi=>?_) bZ
  ·
   refine Nat.le_trans ?_ a3;have cR:listed.toList.length=L.length:=by simpa using b.K5
   have e:listed.toList.drop m=List.replicate (L.length-m) false:=by
    apply List.ext_getElem
    ·simp[b.K5]
    ·intro i aT bQ;simp at aT;have:=q (m+i) (by omega);rw[Array.getD_eq_getD_getElem?,Array.getElem?_eq_getElem (by omega)] at this;simpa using this
   have bQ:(listed.toList.drop m).count false≤listed.toList.count false:=(List.drop_sublist m listed.toList).count_le false;rw[e,List.count_replicate_self] at bQ;simpa using bQ
  ·rcases Nat.lt_or_ge i m with h|h
   ·simp[aS i h,h]
   ·simp only[q i h];constructor
    ·intro b1;cases b1
    ·intro b1;omega
 intro fuel
 induction fuel with
 |zero=>
  intro listed a' w' a3 b q;refine fin 0 listed a' w' a3 b q fun j g=>?_;have aP:j<listed.size:=by rw[b.K5];omega
  cases aA:listed[j] with
  |true=>simp[aP,aA]
  |false=>
   have:false∈listed.toList:=by rw[←aA];simp
   have:=List.count_pos_iff.2 this;omega
 |succ fuel ih=>
  intro listed a' w' a3 b q
  by_cases aX:∀j,j<m→listed.getD j false=true
  ·exact fin (fuel+1) listed a' w' a3 b q aX
  have hex:∃j,j<m∧listed.getD j false=false:=by
   false_or_by_contra
   rename_i b2
   refine aX fun j g=>?_;cases aA:listed.getD j false with
   |true=>rfl
   |false=>exact absurd ⟨j,g,aA⟩ b2
  constructor
  ·intro aG;exfalso;obtain⟨j,g,aA⟩:=hex;refine absurd aA ?_;rw[Bool.not_eq_false];clear aA
   induction j using Nat.strongRecOn with
   |_ j b3=>
    cases aA:listed.getD j false with
    |true=>rfl
    |false=>
     exfalso;have aP:j<listed.size:=by rw[b.K5];omega
     have hm:j∈Region.ready .any L.toArray listed:=mem_ready.2 ⟨by simp[aP] at aA⊢;exact aA,L[j],by simp,fun e he c=>by
      have aT:=DI bL j L[j] (List.getElem?_eq_getElem (by omega)) e he c;exact b3 e.on (by omega) (by omega)⟩
     rw[aG] at hm;cases hm
  ·intro i hi;obtain⟨h0,o,b4,aE⟩:=mem_ready.1 hi;have aC:L[i]?=some o:=by simpa using b4
   have b5:i<L.length:=(List.getElem?_eq_some_iff.1 aC).1;have aL:i<listed.size:=by rw[b.K5];exact b5
   have aD:listed.getD i false=false:=by simp[aL] at h0⊢;exact h0
   have a9:i<m:=by
    rcases Nat.lt_or_ge i m with h|h
    ·exact h
    ·obtain⟨j,g,aA⟩:=hex;have:=H2 (p:=fun x=>listed.getD x false=true) (fun d od b6 aM k aN=>by
      obtain⟨e,he,c,n⟩:=D1.1 aN;have:=b.down d od b6 aM e he c
      rwa[n] at this) (HG bK aC h j (by omega)) (fun cJ bM k aN=>by
      rw[aC] at bM;obtain rfl:o=cJ:=by simpa using bM
      obtain⟨e,he,c,n⟩:=D1.1 aN;have:=aE e he c
      rwa[n] at this)
     rw[aA] at this;cases this
   obtain⟨ph,aW,hle,aB⟩:=b.ph;have aO:∀r,sp[r]?=some i→ph=r:=by
    intro r aU;have a5:¬r<ph:=fun t=>by
     have:=(aB r i aU).2 t;rw[aD] at this;cases this
    cases r with
    |zero=>omega
    |succ m=>
     have hm:m<sp.length:=by
      have:=(List.getElem?_eq_some_iff.1 aU).1;omega
     obtain⟨bR,aY,b7⟩:=bX m sp[m] i (List.getElem?_eq_getElem hm) aU;rw[aC] at aY;obtain rfl:o=bR:=by simpa using aY
     obtain⟨e,he,c,n⟩:=D1.1 b7;have:=aE e he c;rw[n] at this;have:=(aB m sp[m] (List.getElem?_eq_getElem hm)).1 this;omega
   have bI:He L a l T Φ sp i o a' w' ph:=by
    refine⟨fun s u=>b.out s fun j g=>?_,fun j d o' g aV aH=>?_,fun j d g aI=>?_,aW,aO,fun r j o' b8 g aH=>?_⟩
    rotate_left 3
    ·rcases Nat.lt_or_ge r ph with t|a5
     ·have aZ:=(aB r j b8).2 t;obtain⟨e,he,c,n⟩:=D1.1 aH;have:=b.down j o' g aZ e he c;rw[n,aD] at this;cases this
     ·exact a5
    ·have:=Ix.2 ⟨j,g⟩;rw[u] at this;cases this
    ·have b9:BY L j=some d:=by simp[BY,g,aV]
     refine b.out d fun cK aP=>?_;obtain rfl:=(aF j cK d b9).2 aP;cases aA:listed.getD j false with
     |false=>rfl
     |true=>
      obtain⟨e,he,c,n⟩:=D1.1 aH;have:=b.down j o' g aA e he c;rw[n,aD] at this;cases this
    ·obtain⟨e,he,c,n⟩:=D1.1 g;have:=aE e he c;rw[n] at this;exact b.done j d this aI
   
   have step:∀v Bp,Φ i v Bp→S i w' Bp→(∃aJ,T aJ (a'.put o.dst v) Bp∧aJ≤sp.length∧∀(r k:Nat),sp[r]?=some k→((listed.setIfInBounds i true).getD k false=true↔r<aJ))→
     wpAnyIn (Wd X.ro) 0 P .any L.toArray Q fuel (listed.setIfInBounds i true) (a'.put o.dst v) Bp:=by
    intro v Bp bJ cL a4;have aM:BY L i=o.dst:=by simp[BY,aC]
    refine ih _ _ _ ?_ ?_ (fun j g=>by rw[C2 (by omega)];exact q j g)
    ·have t:i<listed.toList.length:=by simpa using aL
     have bA:listed.toList[i]=false:=by
      simp[aL] at aD;simpa using aD
     have cA:(listed.setIfInBounds i true).toList=listed.toList.set i true:=by simp
     rw[cA,List.count_set t,bA];have aT:0<listed.toList.count false:=List.count_pos_iff.2 (by rw[←bA];exact List.getElem_mem t);have cM:(if (false==false)=true then 1 else 0)=1:=rfl;have cN:(if (true==false)=true then 1 else 0)=0:=rfl;rw[cM,cN];omega
    ·have bB:∀s,(∀d,o.dst=some d→d≠s)→sl (a'.put o.dst v) s=sl a' s:=by
      intro s u;cases aV:o.dst with
      |none=>rfl
      |some d=>exact IA (u d aV)
     refine⟨by simp[b.K5],?_,?_,?_,?_,?_,a4⟩
     ·cases o.dst<;>simp[Act.put,b.sz]
     ·cases o.dst<;>simp[Act.put,b.df]
     ·intro s u;rw[bB s (fun d aV bC=>by
       subst bC;have:=u i (by rw[aM,aV]);rw[EI aL] at this;cases this)]
      refine b.out s fun j g=>?_;have:=u j g
      by_cases z:i=j
      ·subst z;exact aD
      ·rwa[C2 z] at this
     ·intro j d g aI
      by_cases z:i=j
      ·subst z;rw[aM] at aI;have t:d<a'.tmps.size:=by rw[b.sz];exact(aF i i d (by rw[aM,aI])).1
       rw[aI,Jn t];exact bJ
      ·rw[C2 z] at g;have aT:=cF i j _ _ _ (Ne.symm z) (fun bD cB=>by
        cases bE:Ev bD i with
        |false=>rfl
        |true=>
         obtain⟨e,he,c,n⟩:=D1.1 bE;have:=b.down j bD cB g e he c;rw[n,aD] at this;cases this) (b.done j d g aI) cL
       have:sl (a'.put o.dst v) d=sl a' d:=by
        refine bB d fun cO cC bE=>?_;subst bE;exact z ((aF i j cO (by rw[aM,cC])).2 aI)
       rw[this];exact aT
     ·intro j bD g aZ e he c
      by_cases bN:i=e.on
      ·rw[←bN];exact EI aL
      ·rw[C2 bN]
       by_cases z:i=j
       ·subst z;rw[aC] at g;obtain rfl:o=bD:=by simpa using g
        exact aE e he c
       ·rw[C2 z] at aZ;exact b.down j bD g aZ e he c
   have bF:∀v Bp,Ext w' Bp→i∉sp→∃aJ,T aJ (a'.put o.dst v) Bp∧aJ≤sp.length∧∀(r k:Nat),sp[r]?=some k→((listed.setIfInBounds i true).getD k false=true↔r<aJ):=by
    intro v Bp bH aQ;refine⟨ph,cH _ _ _ _ _ aW bH (fun s u=>?_),hle,fun r k aK=>?_⟩
    ·cases aV:o.dst with
     |none=>rfl
     |some d=>
      refine IA fun bC=>?_;subst bC;obtain⟨m,k,hm,aN,cD⟩:=N5 cG hle u (i:=i) (by simp[BY,aC,aV]);have cE:=(aB m k aN).2 hm;rcases cD with rfl|⟨bR,aY,aH⟩
      ·exact aQ (List.mem_of_getElem? aN)
      ·obtain⟨e,he,c,n⟩:=D1.1 aH;have:=b.down k bR aY cE e he c;rw[n,aD] at this;cases this
    rw[C2 (fun aR=>aQ (by rw[aR];exact List.mem_of_getElem? aK))];exact aB r k aK
   unfold wpOpIn;simp only[b4];rcases K6 bU i o a9 aC a' w' ph (by rw[Nat.zero_add];exact bI) with⟨hw,bH⟩|⟨hw,hu,aQ⟩
   ·rw[if_pos hw];refine(bH.wp fun v Bp aG=>?_);rw[Nat.zero_add] at aG;obtain⟨bJ,aG⟩:=aG
    by_cases u:i∈sp
    ·rw[if_pos u] at aG;refine step v Bp bJ aG.1 ⟨ph+1,aG.2,?_,fun r k aK=>?_⟩
     ·obtain⟨m,hm,a0⟩:=List.mem_iff_getElem.1 u;have:=aO m (by rw[List.getElem?_eq_getElem hm,a0]);omega
     ·by_cases aR:i=k
      ·subst aR;have:=aO r aK;simp only[EI aL,true_iff];omega
      ·rw[C2 aR,aB r k aK];have cS:r≠ph:=by
        intro e;obtain⟨m,hm,a0⟩:=List.mem_iff_getElem.1 u;have aT:=aO m (by rw[List.getElem?_eq_getElem hm,a0]);rw[e,aT,List.getElem?_eq_getElem hm,a0] at aK;exact aR (by simpa using aK)
       omega
    ·rw[if_neg u] at aG;exact step v Bp bJ (a2 _ _ _ aG) (bF v Bp aG u)
   ·rw[if_neg (by rw[hw];simp)];rw[Nat.zero_add] at hu aQ;exact⟨fun f _=>KO X.ro f,step undef w' hu (a2 _ _ _ (Ext.refl _)) (bF undef w' (Ext.refl _) aQ)⟩
structure Is (S:World→World→Prop) where
 p:Value→World→Prop
 st:∀v w w',p v w→S w w'→p v w'
def Kc {S:World→World→Prop} (c:Value):Is S:=⟨fun v _=>v=c,fun _ _ _ h _=>h⟩
def Kt{S:World→World→Prop}:Is S:=⟨fun _ _=>True,fun _ _ _ h _=>h⟩
def H3{S:World→World→Prop}(a:List (Is S))(j:Nat):Value→World→Prop:=(a.getD j Kt).p
theorem Ds(w:World):Ext w w.drew:=⟨rfl,rfl,rfl,Nat.le_refl _,fun _ _ _=>rfl⟩
theorem FI(L:List Oper)(sp:List Nat):okD L sp (fun _=>[])=true:=by simp[okD]
def K9 (L:List Oper) (k:Nat) (w w':World):Nat→List (Is Ext)→Prop
 |_,[]=>True
 |i,x::xs=>(i≠k→(∀o,L[i]?=some o→Ev o k=false)→∀v,x.p v w→x.p v w')∧K9 L k w w' (i+1) xs
def OC(L:List Oper)(a:List (Is Ext))(k:Nat)(w w':World):Prop:=∀j,j≠k→(∀o,L[j]?=some o→Ev o k=false)→∀v,H3 a j v w→H3 a j v w'
theorem Gk{a:List (Is Ext)}{k:Nat}{w w':World}(h:K9 L k w w' 0 a):OC L a k w w':=by
 have key:∀(a:List (Is Ext)) (i:Nat),K9 L k w w' i a→∀j,i+j≠k→(∀o,L[i+j]?=some o→Ev o k=false)→∀v,(a.getD j Kt).p v w→(a.getD j Kt).p v w':=by
  intro a
  induction a with
  |nil=>intro i _ j _ _ v h;simpa[Kt] using h
  |cons x xs ih=>
   intro i h j d b v c;cases j with
   |zero=>exact h.1 d b v c
   |succ j=>exact ih (i+1) h.2 j (by omega) (by rw[show i+1+j=i+(j+1) by omega];exact b) v c
 exact fun j d b v c=>key a 0 h j (by omega) (by rw[Nat.zero_add];exact b) v c
theorem FJ {id:Nat} (m:Nat) (T:Nat→Act→World→Prop) (D:Nat→List Nat) (sp:List Nat) (c:List (Is Ext)) (hm:P.follows .mixedOrders=true) (u:I7 N L sp=true) (b:(Nat.ble m L.length&&Hf L m&&(sp.all fun k=>Nat.blt k m))=true)
  (z:okD L sp D=true) (aA:∀k x w y w',T k x w→Ext w w'→(∀s,s∈D k→sl y s=sl x s)→T k y w') (q:St X N a l→T 0 (BK a l) w.drew)
  (r:Iz P L a l (OC L c) T (H3 c) sp m 0 L) (n:∀w',H0 X N a (H3 c) (T sp.length) (fun aB=>WL P X N L.toArray Q (L.drop m) a aB w') w' m 0 L l):CC P X N (.region id L.toArray true) Q a l w:=fun st=>
 wpIn_region_any hm (by
  simp only[Bool.and_eq_true] at b;have aC:Inv (X:=X) (N:=N) (L:=L) (a:=a) (l:=l) (T:=T) (Φ:=H3 c) (sp:=sp) (Array.replicate L.length false) (BK a l) w.drew:=by
   have p:∀j,(Array.replicate L.length false).getD j false=false:=by
    intro j;rw[Array.getD_eq_getD_getElem?];rcases Nat.lt_or_ge j L.length with h|h
    ·simp[h]
    ·simp[h]
   refine⟨by simp,by rw[GQ,st.sz],by rw[C5,st.df],fun s _=>GB st s,fun j d h=>?_,fun j o _ h=>?_,⟨0,q st,Nat.zero_le _,fun i k _=>?_⟩⟩
   ·rw[p j] at h;cases h
   ·rw[p j] at h;cases h
   ·rw[p k];simp
  have f:=N6 (m:=m) (by simpa[Nat.ble_eq] using b.1.1) b.1.2 b.2 (S:=OC L c) (fun _ w w' g j _ _ v=>fun h=>(c.getD j Kt).st v w w' h g) (fun k j v w w' t aD h aE=>aE j t aD v h) D z aA u st r n L.length (Array.replicate L.length false) (BK a l) w.drew (by
   refine Nat.le_trans (List.count_le_length ..) (by simp)) aC (fun j _=>by
    rw[Array.getD_eq_getD_getElem?];rcases Nat.lt_or_ge j L.length with h|h
    ·simp[h]
    ·simp[h])
  have e:L.toArray.size=L.length:=by simp
  rw[e];exact f)
theorem Dt {id:Nat} (m:Nat) (b:List (Is Ext)) (hm:P.follows .mixedOrders=true) (f:I7 N L []=true) (d:(Nat.ble m L.length&&Hf L m&&true)=true)
  (e:Iz P L a l (OC L b) (fun _ _ w'=>Ext w w') (H3 b) [] m 0 L) (c:∀w',H0 X N a (H3 b) (fun _ w'=>Ext w w') (fun i=>WL P X N L.toArray Q (L.drop m) a i w') w' m 0 L l):CC P X N (.region id L.toArray true) Q a l w:=
 FJ m (fun _ _ w'=>Ext w w') (fun _=>[]) [] b hm f d (FI L []) (fun _ _ _ _ _ h g _=>Ext.trans h g) (fun _=>Ds w) e c
theorem F7{k:Nat}{o:Oper}(c:o.guard=none)(d:sp.contains k=false)(h:∀a' w' ph,He L a l T Φ sp k o a' w' ph→BD P o a' w' (fun v Bp=>Φ k v Bp∧Ext w' Bp)):DS P L a l S T Φ sp k o:=fun a' w' ph hK=>
 .inl ⟨by unfold Region.wanted;rw[c],(h a' w' ph hK).mono fun v Bp b=>⟨b.1,by
  have:k∉sp:=by simpa using d
  rw[if_neg this];exact b.2⟩⟩
theorem Py{k:Nat}{o:Oper}{c:Value}(b:o.guard=none)(d:sp.contains k=false)(e:∀w,Φ k c w)(h:∀a' w' ph,He L a l T Φ sp k o a' w' ph→BD P o a' w' (fun u Bp=>u=c∧Bp=w')):DS P L a l S T Φ sp k o:=
 F7 b d fun a' w' ph hK=>(h a' w' ph hK).mono (by rintro _ _ ⟨rfl,rfl⟩;exact⟨e _,Ext.refl _⟩)
theorem FX{k:Nat}{o:Oper}(c:o.guard=none)(d:sp.contains k=true)(h:∀a' w' ph,He L a l T Φ sp k o a' w' ph→BD P o a' w' (fun v Bp=>Φ k v Bp∧S k w' Bp∧T (ph+1) (a'.put o.dst v) Bp)):DS P L a l S T Φ sp k o:=fun a' w' ph hK=>
 .inl ⟨by unfold Region.wanted;rw[c],(h a' w' ph hK).mono fun v Bp b=>⟨b.1,by
  have:k∈sp:=by simpa using d
  rw[if_pos this];exact b.2⟩⟩
theorem Jo{a':Act}{j d:Nat}{b:Bool}(c:BY L j=some d)(a:sl a' d=.bool b):yielded L.toArray a'.tmps j=some b:=by
 unfold yielded;unfold BY at c;have e:((L.toArray)[j]?).bind (·.dst)=some d:=by simpa using c
 simp only[e,Option.bind_some];unfold sl at a;rw[Array.getD_eq_getD_getElem?] at a;cases f:a'.tmps[d]? with
 |none=>rw[f] at a;simp[undef] at a
 |some u=>rw[f] at a;simp at a;rw[a]
theorem Fl{k j d:Nat}{o:Oper}{b:Bool}(e:o.guard=some (j,b))(f:BY L j=some d)(g:sp.contains k=false)(i:∀a' w' ph,He L a l T Φ sp k o a' w' ph→sl a' d=.bool b)
  (h:∀a' w' ph,He L a l T Φ sp k o a' w' ph→BD P o a' w' (fun v Bp=>Φ k v Bp∧Ext w' Bp)):DS P L a l S T Φ sp k o:=fun a' w' ph hK=>
 .inl ⟨by unfold Region.wanted;rw[e];simp[Jo f (i a' w' ph hK)],(h a' w' ph hK).mono fun v Bp c=>⟨c.1,by
  have:k∉sp:=by simpa using g
  rw[if_neg this];exact c.2⟩⟩
theorem BN{k j d:Nat}{o:Oper}{b:Bool}{c:Value}(e:o.guard=some (j,b))(f:BY L j=some d)(g:sp.contains k=false)(i:∀w,Φ k c w)(m:∀a' w' ph,He L a l T Φ sp k o a' w' ph→sl a' d=.bool b)
  (h:∀a' w' ph,He L a l T Φ sp k o a' w' ph→BD P o a' w' (fun u Bp=>u=c∧Bp=w')):DS P L a l S T Φ sp k o:=
 Fl e f g m fun a' w' ph hK=>(h a' w' ph hK).mono (by rintro _ _ ⟨rfl,rfl⟩;exact⟨i _,Ext.refl _⟩)
theorem DJ{k j d:Nat}{o:Oper}{b c:Bool}(e:o.guard=some (j,b))(f:BY L j=some d)(g:sp.contains k=false)(h:c≠b)(i:∀a' w' ph,He L a l T Φ sp k o a' w' ph→sl a' d=.bool c)(m:∀w,Φ k undef w):DS P L a l S T Φ sp k o:=fun a' w' ph hK=>
 .inr ⟨by unfold Region.wanted;rw[e];simp[Jo f (i a' w' ph hK),h],m _,by simpa using g⟩
def Kn (B:Nat) (mk:Nat→Value) (t:TypeId) (cs:Array Value):Is Ext:=⟨fun v w=>∃b,v=mk b∧B≤b∧Bk w b t cs,fun _ _ _ ⟨b,a,c,d⟩ h=>⟨b,a,c,d.ext h⟩⟩
theorem QJ{w w' Bp:World}{mk:Nat→Value}{t:TypeId}{cs:Array Value}{u:Value}(h0:w.heap.size≤w'.heap.size)(h:∃b,u=mk b∧HD w' Bp b t cs):(Kn w.heap.size mk t cs).p u Bp∧Ext w' Bp:=by
 obtain⟨b,hu,a⟩:=h;exact⟨⟨b,hu,by rw[a.ED];exact h0,a.bk⟩,a.gr⟩
end
def T2 (w:World) (r:Nat) (M:World→Prop):Nat→World→Prop
 |0,w'=>Ext w w'
 |_+1,w'=>FA r w w'∧M w'
theorem G2{a b:World}{r:Nat}(h:Ext a b):FA r a b:=⟨h.os,h.tape,h.output,h.size,fun k c _=>h.block k c (by simp)⟩
theorem La{w w':World}{r ph:Nat}{M:World→Prop}(h:T2 w r M ph w'):FA r w w':=by
 cases ph with
 |zero=>exact G2 h
 |succ=>exact h.1
theorem Bk.t2{w w':World}{r ph b:Nat}{t:TypeId}{cs:Array Value}{M:World→Prop}(h:Bk w b t cs)(g:T2 w r M ph w')(a:b≠r):Bk w' b t cs:=h.KZ (La g) a
theorem Rd.t2{w w':World}{r ph lo hi:Nat}{A:Option Addr}{cs:List Value}{M:World→Prop}(h:Rd w lo hi A cs)(g:T2 w r M ph w')(a:r<lo∨hi≤r):Rd w' lo hi A cs:=h.KZ (La g) a
abbrev I(n:Int):Value:=.int .i64 n
abbrev pt(b o:Nat):Value:=.pointer (some ⟨b,o,none⟩)
section
variable{P:Program}{X:Ctx}{N:Nat}{ops:Array Oper}{Q:Exit→Act→World→Prop}{rest:List Oper}{a:Act}{l:Env}{w:World}{op:Op}{ty:TypeId}{pos:String}{BV:Array Edge}{d:Nat}
theorem wd{v:Value}{w':World}(b:Nat.blt d N=true)(c:St X N a l→BD P ⟨some d,op,ty,pos,BV,none⟩ (BK a l) w (fun u Bp=>u=v∧Bp=w'))(e:WL P X N ops Q rest a ((d,v)::l) w'):WL P X N ops Q (⟨some d,op,ty,pos,BV,none⟩::rest) a l w:=
 Pt rfl rfl (by simpa[Nat.blt_eq] using b) c e
theorem wm{x:Operand}{v:Value}(b:Nat.blt d N=true)(c:ev a l x=v)(e:WL P X N ops Q rest a ((d,v)::l) w):WL P X N ops Q (⟨some d,.move x,ty,pos,BV,none⟩::rest) a l w:=
 wd b (fun st=>AZ (ee st c)) e
theorem wa{x:Operand}{v:Value}(b:Nat.blt d N=true)(c:ev a l x=v)(e:WL P X N ops Q rest a ((d,v)::l) w):WL P X N ops Q (⟨some d,.assign x,ty,pos,BV,none⟩::rest) a l w:=
 wd b (fun st=>K2 (ee st c)) e
theorem we{R:Value→World→Prop}(b:Nat.blt d N=true)(c:St X N a l→BD P ⟨some d,op,ty,pos,BV,none⟩ (BK a l) w R)(e:∀v w',R v w'→WL P X N ops Q rest a ((d,v)::l) w'):WL P X N ops Q (⟨some d,op,ty,pos,BV,none⟩::rest) a l w:=
 OA rfl rfl (by simpa[Nat.blt_eq] using b) c e
end
end Go.Proofs.Ytkljfdkmjdjpfaa
end
section
namespace Go.Proofs.Ytkljfdkmjdjpfaa
open Go.RowKit
section
variable{P:Program}{a:Act}{w:World}{dst:Option Tmp}{ty:TypeId}{pos:String}{BV:Array Edge}{g:Option (Nat×Bool)}
theorem OV{f:Operand}{xs:Array Operand}{b:Array TypeId}{l:Nat}{vs:Array Value}{R:Value→World→Prop}(c:a.eval f=.func (.yield l) #[] #[])(d:xs.map a.eval=vs)
  (h:YieldAt Fence.wide 0 P l vs w (fun e w'=>∃v,e=.returned v∧R v w')):BD P ⟨dst,.call {callee:=.value f,args:=xs,argTypes:=b},ty,pos,BV,g⟩ a w R:=by
 obtain⟨fn,tmps,assign,body,i,k⟩:=h;have m:(execOp a.eval ⟨dst,.call {callee:=.value f,args:=xs,argTypes:=b},ty,pos,BV,g⟩).run P w=.ok (.round l fn tmps assign body) w:=by
  simp only[execOp,resolve,c,d,Deferred.ofValue];simp only[Sem.run_bind,Sem.run_pure,Result.andThen_ok,invoke];simpa using i
 unfold BD;rw[m];exact k
end
theorem Ck{w w':World}{k:Nat}{o:Obj}(h:w.heap[k]?=some o)(g:Ext w w'):w'.heap[k]?=some o:=(g.block k (Array.getElem?_eq_some_iff.1 h).1 (by simp)).trans h
def mark(D:Nat):List Deferred:=[{target:=.collected D,args:= #[]}]
abbrev X1(D:Nat):Ctx:=⟨none,mark D⟩
abbrev XR(r:Nat):Ctx:=⟨some r,[]⟩
def Hg(a:Act)(D:Nat):Act:={a with defers:=mark D}
theorem Kz(a:Act)(D:Nat):∀l:Env,BK (Hg a D) l=Hg (BK a l) D
 |[]=>rfl
 |(d,v)::l=>by simp only[BK,Kz a D l];rfl
theorem St.Hg{N:Nat}{a:Act}{l:Env}(s:St X0 N a l)(D:Nat):St (X1 D) N (Hg a D) l:=⟨s.sz,rfl,s.lt⟩
theorem St.inr{N:Nat}{a:Act}{l:Env}(s:St X0 N a l)(r:Nat):St (XR r) N a l:=⟨s.sz,s.df,s.lt⟩
theorem FC(w:World)(r:Nat)(o:Obj):FA r w (w.putObj r o):=
 ⟨rfl,rfl,rfl,by simp,fun k _ a=>World.putObj_heap_other (fun e=>a (by rw[e]))⟩
section
variable{P:Program}{N:Nat}{Q:Exit→Act→World→Prop}{a:Act}{l:Env}{w:World}
def JN(a:Act)(l:Env)(fn:FuncId)(p:Nat)(assign body:Code)(D:Nat):Loop:=
 {state:=.ready,pending:=none,fn,tmps:=(BK a l).tmps,params:= #[p],assign,body,defers:=D}
structure MF(lp:Loop)(a:Act)(l:Env)(p:Nat)(assign body:Code):Prop where
 st:lp.state=.ready
 pe:lp.pending=none
 tm:lp.tmps=(BK a l).tmps
 ps:lp.params= #[p]
 RE:lp.assign=assign
 bo:lp.body=body
theorem N7{g:Operand}{p:Nat}{assign body:Code}{b:FuncId}{cap:Array Value}(t:Bm P b)(u:ev a l g=.func (.func b) #[] cap)
  (h:St X0 N a l→∀(lp:Loop) (w1:World),MF lp a l p assign body→Ext w w1→w1.heap.size=w.heap.size+2→w1.heap[w.heap.size]?=some (.deferred (some []))→w1.heap[w.heap.size+1]?=some (.loop lp)→
   BM P b (#[.func (.yield (w.heap.size+1)) #[] #[]]++cap) w1 (fun _ f=>∃r,f.heap[w.heap.size+1]?=some (.loop r)∧r.state≠.busy∧
    (r.pending=none→∀d,FA (w.heap.size+1) f d→LV (X1 w.heap.size) N Q .normal (Hg a w.heap.size) l d)∧
    (∀c,r.pending=some c→∀d,FA (w.heap.size+1) f d→CC P (X1 w.heap.size) N c Q (Hg a w.heap.size) l d))):
  CC P X0 N (.rangeFunc g #[p] assign body) Q a l w:=fun s=>by
 refine wpIn_rangeFunc (F:=Fence.wide) fun fn _=>?_;have k:(BK a l).eval g=.func (.func b) #[] cap:=ee s u
 let w1:=(w.alloc (.deferred (some []))).alloc (.loop (JN a l fn p assign body w.heap.size))
 have x:Ext w w1:=Ext.trans (World.grownBy_alloc w _ _) (World.grownBy_alloc _ _ _);have m:w1.heap.size=w.heap.size+2:=by simp[w1]
 have y:w1.heap[w.heap.size]?=some (.deferred (some [])):=by
  have z:(w.alloc (.deferred (some []))).heap[w.heap.size]?=some (.deferred (some [])):=World.alloc_heap_new w _;exact(Below.heap_alloc _ _ _ (by simp)).trans z
 have n:w1.heap[w.heap.size+1]?=some (.loop (JN a l fn p assign body w.heap.size)):=by
  have:=World.alloc_heap_new (w.alloc (.deferred (some []))) (.loop (JN a l fn p assign body w.heap.size));simpa[w1] using this
 have i:=h s (JN a l fn p assign body w.heap.size) w1 ⟨rfl,rfl,rfl,rfl,rfl,rfl⟩ x m y n;refine⟨w.heap.size+1,mark w.heap.size,w1,⟨.fn (.func b) cap, #[]++ #[.func (.yield (w.heap.size+1)) #[] #[]]⟩,w1,b, #[.func (.yield (w.heap.size+1)) #[] #[]]++cap,w1,run_enterLoop_outer fn _ _ _ _,?_,fun _ _=>trivial,?_,N3 none,?_⟩
 ·have aA:(#[Operand.const (.func (.yield (w.heap.size+1)) #[] #[])]).map (BK a l).eval= #[.func (.yield (w.heap.size+1)) #[] #[]]:=BS rfl;simp only[resolve,k,Deferred.ofValue,aA];simp only[Sem.run_bind,Sem.run_pure,Result.andThen_ok]
 ·simp[invoke,Iv t]
 ·have aB:CallsIn Fence.wide (0-1) P b (#[.func (.yield (w.heap.size+1)) #[] #[]]++cap) w1 _:=callsIn_wide.2 i;refine aB.mono ?_;rintro e f ⟨v,rfl,r,aC,aD,aE,aF⟩;refine⟨r.pending,_,run_endLoop aC aD,?_⟩;have o:mark w.heap.size++(BK a l).defers=mark w.heap.size:=by rw[C5,s.df];rfl
  have he:({BK a l with defers:=mark w.heap.size++(BK a l).defers}:Act)=BK (Hg a w.heap.size) l:=by rw[Kz,o];rfl
  cases q:r.pending with
  |none=>simp only[];rw[he];exact aE q _ (FC _ _ _) (s.Hg _)
  |some c=>simp only[];rw[he];exact aF c q _ (FC _ _ _) (s.Hg _)
theorem H4 {r:Nat} {lp:Loop} {p:Nat} {assign body:Code} {v:Value} {R:Value→World→Prop} (s:St X0 N a l) (f:w.heap[r]?=some (.loop lp)) (b:MF lp a l p assign body)
  (h:CC P (XR r) N assign (Exit.then (fun g i=>∃c,(Instr.beginRound r).run P i=.ok () c∧CW P (XR r).ro body (roundPost P r (fun e w'=>∃v,e=.returned v∧R v w')) g c) (fun _ _ _=>False)) a ((p,v)::l) w) (d:p<N):
  YieldAt Fence.wide 0 P r #[v] w (fun e w'=>∃v,e=.returned v∧R v w'):=by
 refine⟨_,_,_,_,run_yield f (by rw[b.ps];rfl),?_⟩;have k:((lp.params.zip #[v]).foldl (fun tmps (t,a)=>tmps.setIfInBounds t a) lp.tmps)=(BK a ((p,v)::l)).tmps:=by
  rw[b.ps,b.tm];simp[BK,Act.put]
 rw[k,b.RE,b.bo];refine roundIn_of_wpIn trivial ?_;have m:=h ((s.inr r).cons d v);have n:({tmps:=(BK a ((p,v)::l)).tmps,defers:=[]}:Act)=BK a ((p,v)::l):=by
  have:(BK a ((p,v)::l)).defers=[]:=by rw[C5];exact s.df
  rw[←this]
 rw[n];exact m
theorem H5{r:Nat}{lp:Loop}{body:Code}{R:Ending→World→Prop}(b:w.heap[r]?=some (.loop lp))(d:lp.state=.ready)
  (h:∀w',FA r w w'→w'.heap[r]?=some (.loop {lp with state:=.busy})→CC P (XR r) N body (roundPost P r R) a l w'):
  LV (XR r) N (Exit.then (fun e f=>∃c,(Instr.beginRound r).run P f=.ok () c∧CW P (XR r).ro body (roundPost P r R) e c) (fun _ _ _=>False)) .normal a l w:=fun s=>
 ⟨_,run_beginRound b d,h _ (FC _ _ _) (World.putObj_heap_same (Array.getElem?_eq_some_iff.1 b).1) s⟩
theorem HN{r:Nat}{lp:Loop}{R:Value→World→Prop}(b:w.heap[r]?=some (.loop lp))(h:∀w',FA r w w'→w'.heap[r]?=some (.loop {lp with state:=.ready,pending:=none})→R (.bool true) w'):
  LV (XR r) N (roundPost P r (fun e w'=>∃v,e=.returned v∧R v w')) .normal a l w:=fun _=>⟨_,_,run_endRound none b,_,rfl,h _ (FC _ _ _) (World.putObj_heap_same (Array.getElem?_eq_some_iff.1 b).1)⟩
theorem GL{r:Nat}{lp:Loop}{R:Value→World→Prop}(b:w.heap[r]?=some (.loop lp))(h:∀w',FA r w w'→w'.heap[r]?=some (.loop {lp with state:=.done,pending:=some .ret})→R (.bool false) w'):
  LV (XR r) N (roundPost P r (fun e w'=>∃v,e=.returned v∧R v w')) .ret a l w:=fun _=>⟨_,_,run_endRound (some .ret) b,_,rfl,h _ (FC _ _ _) (World.putObj_heap_same (Array.getElem?_eq_some_iff.1 b).1)⟩
def PM (P:Program) (fn:Func) (R:Value→World→Prop):Exit→Act→World→Prop:=bodyPostM Fence.wide 0 P fn (fun e w'=>∃v,e=.returned v∧R v w')
theorem H6{f:FuncId}{fn:Func}{c:Code}{args:Array Value}{N:Nat}{R:Value→World→Prop}(b:P.funcs[f]?=some fn)(d:fn.body=some c)(e:fn.ntmps=N)(i:args.size≤N)
  (h:∀a:Act,a.tmps=args++Array.replicate (N-args.size) undef→a.defers=[]→CC P X0 N c (PM P fn R) a [] w):BM P f args w R:=by
 refine callsIn_wide.1 (callsIn_of_wp_marks (n:=0) b d trivial ?_);rw[e];exact h {tmps:=args++Array.replicate (N-args.size) undef,defers:=[]} rfl rfl ⟨by simp;omega,rfl,fun _ g=>by cases g⟩
theorem Ht {fn:Func} {R:Value→World→Prop} (h:LV X0 N (bodyPost P fn (fun e w'=>∃v,e=.returned v∧R v w')) .ret a l w):LV X0 N (PM P fn R) .ret a l w:=fun s=>by
 obtain⟨b,v,c,d⟩:=h s;show LeavesInM Fence.wide 0 P fn _ _ (BK a l).defers .returning w;rw[b];exact⟨v,c,d⟩
end
section
variable{P:Program}{X:Ctx}{N:Nat}{Q:Exit→Act→World→Prop}{a:Act}{l:Env}{w:World}
theorem N8{c:Code}(h:CC P X0 N c (Exit.noGoto Q) a l w):CC P X0 N (.scope c) Q a l w:=fun s=>wpIn_wide.2 (wp_scope_straight (wpIn_wide.1 (h s)))
theorem N9{k:Nat}(h:LV X N Q .normal a l w):CC P X N (.label k) Q a l w:=fun s=>wpIn_label (h s)
theorem KA(h:LV X N Q .ret a l w):LV X N (Exit.noGoto Q) .ret a l w:=h
end
theorem HO{lp:Loop}{a:Act}{l:Env}{p:Nat}{assign body:Code}(h:MF lp a l p assign body):({{lp with state:=.busy} with state:=.ready,pending:=none}:Loop)=lp:=by
 obtain⟨b,c,_⟩:=h;cases lp;simp only at b c;subst b;subst c;rfl
section
variable{P:Program}{N:Nat}{Q:Exit→Act→World→Prop}{a:Act}{l:Env}{w:World}
theorem IB {g:Operand} {p:Nat} {assign body:Code} {d:FuncId} {cap:Array Value} (i:Bm P d) (k:ev a l g=.func (.func d) #[] cap)
  (h:St X0 N a l→∀(lp:Loop) (w1:World) (D lo:Nat),MF lp a l p assign body→Ext w w1→w.heap.size≤D→D<w1.heap.size→w.heap.size≤lo→lo<w1.heap.size→lo≠D→w1.heap[D]?=some (.deferred (some []))→w1.heap[lo]?=some (.loop lp)→
   BM P d (#[.func (.yield lo) #[] #[]]++cap) w1 (fun _ e=>∃r,e.heap[lo]?=some (.loop r)∧r.state≠.busy∧
    (r.pending=none→∀b,FA lo e b→LV (X1 D) N Q .normal (Hg a D) l b)∧
    (∀c,r.pending=some c→∀b,FA lo e b→CC P (X1 D) N c Q (Hg a D) l b))):
  CC P X0 N (.rangeFunc g #[p] assign body) Q a l w:=
 N7 i k fun s lp w1 f m q n o=>h s lp w1 w.heap.size (w.heap.size+1) f m (Nat.le_refl _) (by omega) (by omega) (by omega) (by omega) n o
end
end Go.Proofs.Ytkljfdkmjdjpfaa
end
section
namespace Go.Proofs.Ytkljfdkmjdjpfaa
open Go.RowKit Go.WideShapes
section
variable{P:Program}{w:World}
theorem Hh{e:TypeId}(he:One P e)(x:List Int)(i:Nat)(hi:i<x.length):(part e (B5 x).toArray i).run P w=.ok (.int .i64 (x.getD i 0)) w:=by
 have:(B5 x).toArray[i]?=some (.int .i64 (x.getD i 0)):=N4 x i hi;simp only[part,Sem.run_bind,HE he,Result.andThen_ok,this];rfl
theorem Jp{e:TypeId}(hu:P.underlying e=some (.int .i64))(d:Nat)(a b:Int):(Op.equalIn (d+1) e (.int .i64 a) (.int .i64 b)).run P w=.ok (a==b) w:=run_equalIn_int w d e .i64 .i64 a b hu
theorem Jq{e:TypeId}(he:One P e)(hu:P.underlying e=some (.int .i64))(d:Nat)(x y:List Int):∀is:List Nat,(∀i∈is,i<x.length∧i<y.length)→
  (Op.eqItems (d+1) e 1 (B5 x).toArray (B5 y).toArray is).run P w=.ok (is.all fun i=>x.getD i 0==y.getD i 0) w
 |[],_=>by simp[Op.eqItems]
 |i::is,h=>by
  have ih:=Jq he hu d x y is (fun j a=>h j (List.mem_cons_of_mem _ a));obtain⟨b,c⟩:=h i (List.mem_cons_self ..);simp only[Op.eqItems,Sem.run_bind,Nat.mul_one,Hh he x i b,Hh he y i c,Jp hu,Result.andThen_ok,List.all_cons];cases f:(x.getD i 0==y.getD i 0)
  ·simp
  ·simpa using ih
theorem IC(x y:List Int)(n:Nat)(c:x.length=n)(d:y.length=n):((List.range n).all fun i=>x.getD i 0==y.getD i 0)=(x==y):=by
 rw[Bool.eq_iff_iff];simp only[List.all_eq_true,List.mem_range,beq_iff_eq];constructor
 ·intro h;apply List.ext_getElem (by omega);intro i a b;have:=h i (by omega);simpa[List.getElem?_eq_getElem a,List.getElem?_eq_getElem b] using this
 ·rintro rfl i _;rfl
def Jr (P:Program) (K:TypeId) (n:Nat):Prop:=∀(w:World) (x y:List Int),x.length=n→y.length=n→(Op.equal K (Ep x) (Ep y)).run P w=.ok (x==y) w
def Lb(P:Program)(K:TypeId)(n:Nat):Prop:=∀(w:World) (em:Bool) (x:List Int),x.length=n→(Instr.checkKey em 10000 K (Ep x)).run P w=.ok () w
def H7(P:Program)(K:TypeId):Prop:=(match P.underlying K with|some (.array _ _)|some (.struct _)=>true|_=>false)=true
theorem M9{K e n:Nat}(hK:P.underlying K=some (.array n e))(he:One P e)(hu:P.underlying e=some (.int .i64)):Jr P K n:=by
 intro w x y b c;obtain⟨i,hi,d⟩:=Option.map_eq_some_iff.1 he.2;have h:=run_equalIn_array w 9999 (B5 x).toArray (B5 y).toArray hK hi;have f:P.cellsOf e=1:=by unfold Program.cellsOf;rw[hi];simpa using d
 rw[f,Jq he hu 9998 x y (List.range n) (fun i a=>by have:=List.mem_range.1 a;omega),IC x y n b c] at h;exact h
end
def KB (e:TypeId):Nat→List Field→Bool
 |_,[]=>true
 |i,f::a=>f.name !="_"&&Nat.beq f.type e&&Nat.beq f.offset i&&KB e (i+1) a
theorem Lc{e i:Nat}{f:Field}{a:List Field}(h:KB e i (f::a)=true):f.name≠"_"∧f.type=e∧f.offset=i∧KB e (i+1) a=true:=by
 simp only[KB,Bool.and_eq_true] at h;exact⟨by simpa using h.1.1.1,Nat.eq_of_beq_eq_true h.1.1.2,Nat.eq_of_beq_eq_true h.1.2,h.2⟩
section
variable{P:Program}{w:World}
theorem ID{e:TypeId}(he:One P e)(hu:P.underlying e=some (.int .i64))(d:Nat)(x y:List Int):∀(a:List Field) (i:Nat),KB e i a=true→i+a.length≤x.length→i+a.length≤y.length→
  (Op.eqFields (d+1) (B5 x).toArray (B5 y).toArray a).run P w=.ok ((List.range' i a.length).all fun j=>x.getD j 0==y.getD j 0) w
 |[],i,_,_,_=>by simp[Op.eqFields]
 |f::a,i,h,b,c=>by
  obtain⟨g,k,l,m⟩:=Lc h;simp only[List.length_cons] at b c;have ih:=ID he hu d x y a (i+1) m (by omega) (by omega);simp only[Op.eqFields,g,ne_eq,not_false_eq_true,if_true,Sem.run_bind,k,l,Hh he x i (by omega),Hh he y i (by omega),Jp hu,Result.andThen_ok,List.length_cons,List.range'_succ,List.all_cons];cases n:(x.getD i 0==y.getD i 0)
  ·simp
  ·simpa using ih
theorem MG{K e:Nat}{a:Array Field}(n:Nat)(hK:P.underlying K=some (.struct a))(c:P.stoodInHeld K=false)(d:KB e 0 a.toList=true)(f:a.toList.length=n)(he:One P e)(hu:P.underlying e=some (.int .i64)):Jr P K n:=by
 intro w x y g i;have b:P.fieldsOf K=a:=by simp[Program.fieldsOf,hK]
 have h:=run_equalIn_struct w 9999 K (B5 x).toArray (B5 y).toArray (by rw[b];exact hK) c;rw[b,ID he hu 9998 x y a.toList 0 d (by omega) (by omega),←List.range_eq_range',f,IC x y n g i] at h;exact h
theorem LZ{K e:Nat}{a:Array Field}(n:Nat)(hK:P.underlying K=some (.struct a))(c:KB e 0 a.toList=true)(o:a.toList.length=n)(he:One P e)(hu:P.underlying e=some (.int .i64)):Lb P K n:=by
 intro w em x p;have b:∀v:Int,(Instr.checkKey em 9999 e (.int .i64 v)).run P w=.ok () w:=by
  intro v;rw[show(9999:Nat)=9998+1 from rfl,Instr.checkKey];simp only[Sem.run_bind,run_underlying hu,Result.andThen_ok];rfl
 rw[show(10000:Nat)=9999+1 from rfl,Ep,Instr.checkKey];simp only[Sem.run_bind,run_underlying hK,Result.andThen_ok];rw[←Array.forIn_toList];have key:∀(L:List Field) (i:Nat),KB e i L=true→i+L.length≤x.length→(forIn L PUnit.unit (fun f (_:PUnit)=>do
   if f.name≠"_"then
    let v←part f.type (B5 x).toArray f.offset
    Instr.checkKey em 9999 f.type v
    pure PUnit.unit
    pure (ForInStep.yield PUnit.unit)
   else pure (ForInStep.yield PUnit.unit)):Sem PUnit).run P w=.ok PUnit.unit w:=by
  intro L
  induction L with
  |nil=>intro i _ _;simp
  |cons f L ih=>
   intro i h d;obtain⟨g,k,l,m⟩:=Lc h;simp only[List.length_cons] at d;simp only[List.forIn_cons,Sem.run_bind,g,ne_eq,not_false_eq_true,if_true,k,l,Hh he x i (by omega),b,Result.andThen_ok,Sem.run_pure];exact ih (i+1) m (by omega)
 have:=key a.toList 0 c (by omega);simp at this;simp[this]
end
def Hj (w:World) (r n:Nat) (L:List (List Int×Int)):Prop:=
 ∃es clock,w.heap[r]?=some (.map es clock)∧es.toList.map (fun e=>(e.key,e.val))=L.map (fun p=>(Ep p.1,Value.int .i64 p.2))∧∀p∈L,p.1.length=n
section
variable{w w':World}{r n b:Nat}{L:List (List Int×Int)}
theorem Hj.lt(h:Hj w r n L):r<w.heap.size:=by obtain⟨es,c,h,_⟩:=h;exact lt_of_block h
theorem Hj.ext(h:Hj w r n L)(g:Ext w w'):Hj w' r n L:=by
 have a:=h.lt;obtain⟨es,c,b,d⟩:=h;exact⟨es,c,(g.block r a (by simp)).trans b,d⟩
theorem Hj.KZ(h:Hj w r n L)(g:FA b w w')(a:r≠b):Hj w' r n L:=by
 have d:=h.lt;obtain⟨es,c,e,f⟩:=h;exact⟨es,c,(g.block r d (by simpa using a)).trans e,f⟩
end
section
variable{P:Program}{a:Act}{w:World}{dst:Option Tmp}{ty:TypeId}{pos:String}{BV:Array Edge}{g:Option (Nat×Bool)}{K E T r n:Nat}{L:List (List Int×Int)}{k:List Int}
theorem L0{kind:TypeDesc}(a:match kind with|.array _ _|.struct _=>True|_=>False)(cs:Array Value):∀(es:List MapEntry) (i:Nat),(∀e∈es,∃ds,e.key=.agg ds)→es≠[]→Instr.findNow kind (.agg cs) es i=none
 |[],_,_,h=>absurd rfl h
 |e::es,i,he,_=>by
  obtain⟨ds,b⟩:=he e (List.mem_cons_self ..);unfold Instr.findNow;rw[b];cases kind<;>simp at a<;>simp[Instr.sameNow]
theorem JO{o:Obj}(h:w.heap[r]?=some o)(a:∀c e f,o≠.cells c e f):(getObj r).run P w=.ok o w:=by
 unfold getObj;cases o<;>first|exact absurd rfl (a _ _ _)|(simp only[Sem.run,h])
theorem Ld(d:Nat)(x:List Int):Instr.sameBits (d+1) (Ep x) (Ep x)=true:=by
 unfold Ep Instr.sameBits;simp only[beq_self_eq_true,Bool.true_and,List.all_eq_true];rintro⟨u,v⟩ h;rw[List.mem_iff_getElem] at h;obtain⟨i,hi,he⟩:=h;simp only[List.getElem_zip,Prod.mk.injEq] at he;obtain⟨a,b⟩:=he;subst a;subst b;simp only[B5,List.getElem_map];cases d<;>simp[Instr.sameBits]
end
theorem Hj.t2{w w':World}{r ph b n:Nat}{L:List (List Int×Int)}{M:World→Prop}(h:Hj w b n L)(g:T2 w r M ph w')(a:b≠r):Hj w' b n L:=h.KZ (La g) a
end Go.Proofs.Ytkljfdkmjdjpfaa
end
section
namespace Go.Proofs.Ytkljfdkmjdjpfaa
open Go.RowKit
def Dm (w:World) (base:Nat) (e:TypeId) (sz:Nat) (A:Option Addr) (n c:Nat) (xs:List Value):Prop:=w.ownsRow base e sz (.slice A n c) n xs
section
variable{w w':World}{base:Nat}{e:TypeId}{sz:Nat}{A:Option Addr}{n c:Nat}{xs:List Value}
theorem Dm.nil(w:World)(base:Nat)(e:TypeId)(sz:Nat):Dm w base e sz none 0 0 []:=World.ownsRow_nil w base e sz
theorem Dm.len(h:Dm w base e sz A n c xs):xs.length=n*sz:=h.1
theorem Dm.rd(h:Dm w base e sz A n c xs):Rd w base w.heap.size A xs:=by
 refine⟨Nat.le_refl _,?_⟩;rcases h.2 with⟨_,h0⟩|⟨g,cap,cur,a,b,d,_,_,_,_⟩
 ·exact .inl (List.eq_nil_of_length_eq_zero (by rw[h.1,h0,Nat.zero_mul]))
 ·refine .inr ⟨g,0,?_,b,lt_of_block d,fun j u hu=>?_⟩
  ·cases a;rfl
  ·have:=World.ownsRow.cells h (g:=g) (by cases a;rfl) j u hu;rw[FP] at this;exact this
theorem Dm.kept(h:Dm w base e sz A n c xs){r:Option Nat}(g:w.grownBy w' r)(a:∀k,r=some k→∀o,A≠some ⟨k,o,none⟩):Dm w' base e sz A n c xs:=
 World.ownsRow.kept h g (by
  rcases h.2 with⟨h0,_⟩|⟨b,cap,cur,d,_⟩
  ·exact .inl (by rw[h0];rfl)
  ·refine .inr ?_;cases d;intro he;exact a b (by simpa[Value.ownBlock] using he.symm) 0 rfl)
theorem Dm.ext(h:Dm w base e sz A n c xs)(g:Ext w w'):Dm w' base e sz A n c xs:=h.kept g (fun _ e=>by cases e)
theorem Dm.It (h:Dm w base e sz A n c xs) {k o:Nat} (b:A=some ⟨k,o,none⟩):base≤k∧k<w.heap.size∧∃cur,w.heap[k]?=some (.cells cur e (0,0)):=by
 subst b;rcases h.2 with⟨h0,_⟩|⟨g,cap,cur,d,f,a,_⟩
 ·cases h0
 ·cases d;exact⟨f,lt_of_block a,cur,a⟩
theorem Dm.KZ{r:Nat}(h:Dm w base e sz A n c xs)(g:FA r w w')(d:r<base):Dm w' base e sz A n c xs:=h.kept g (fun k a o b=>by
 cases a;have:=(h.It b).1;omega)
theorem Bk.row {b:Nat} {t:TypeId} {cs:Array Value} (h:Dm w base e sz A n c xs) {w1 w2:World} (a:Bk w1 b t cs) (i:w.heap.size≤b) (g:w1.grownBy w2 (Value.ownBlock (.slice A n c))):Bk w2 b t cs:=
 (g.block b a.lt (fun e=>by
  cases A with
  |none=>cases e
  |some ad=>
   have:b=ad.block:=by simpa[Value.ownBlock] using e
   rcases h.2 with⟨h0,_⟩|⟨g,cap,cur,d,_,f,_⟩
   ·cases h0
   ·cases d;have:=lt_of_block f;simp only at*;omega)).trans a
end
section
variable{P:Program}{a:Act}{w:World}{dst:Option Tmp}{ty:TypeId}{pos:String}{BV:Array Edge}{g:Option (Nat×Bool)}
theorem OW {t e:TypeId} {i:TypeInfo} {z:Value} {sz:Nat} (s:P.underlying t=some (.slice e)) (hi:P.info? e=some i) (aB:i.zero=some z) (l:i.size=sz) (aK:z.cells.size=sz)
  {A v:Option Addr} {n c x base m cap:Nat} {xs news:List Value} {ad:Addr} {w':World} (d:Dm w base e sz A n c xs) (p:news.length=m*sz) (a:∀j u,news[j]?=some u→w.cell? (ad.add j)=some u) (aG:∀u∈news,u.oneCell'=true)
  (aC:n+m≤maxLen) (b:(n+m)*i.bytes≤140737488355328) (h:(Builtin.append_ #[t,t] ty #[.slice A n c,.slice (some ad) m cap]).run P w=.ok (.slice v (n+m) x) w')
  (y:(Value.slice v (n+m) x=.slice none 0 0↔Value.slice A n c=.slice none 0 0∧m=0)):Ext w w'∨(v=A∧x=c):=by
 subst l;have aD:n+m≤9223372036854775807:=by simp only[maxLen] at aC;omega
 have r:∀o:Obj,Ext w (w.drew.alloc o):=fun o=>Ext.trans (Ds w) (World.grownBy_alloc _ _ _);rcases d.2 with⟨k,h0⟩|⟨q,aH,cur,k,aL,aI,aM,aN,aE,aF⟩
 ·cases k;rcases Nat.eq_zero_or_pos m with rfl|hm
  ·have:=y.2 ⟨rfl,rfl⟩;exact .inr (by cases this;exact⟨rfl,rfl⟩)
  ·have:=run_append_nil (P:=P) w t ty e i z s hi aB ad m cap news p a (by omega) (by omega) (by have aJ:=b;simp only[Nat.zero_add] at aJ;omega);rw[this] at h;injection h with _ hw
   exact .inl (hw▸r _)
 ·cases k
  by_cases f:n+m≤c
  ·have aA:n*i.size+news.length≤cur.size:=by rw[p,aE,←Nat.add_mul];exact Nat.mul_le_mul_right _ f
   have:=run_append_room (P:=P) w t ty e i s hi q n c cur aI ad m cap news p a aG f aA;rw[this] at h;injection h with k _
   exact .inr (by cases k;exact⟨rfl,rfl⟩)
  ·have holds:∀j u,xs[j]?=some u→w.cell? ((⟨q,0,none⟩:Addr).add j)=some u:=World.ownsRow.cells d (g:=q) rfl;have:=run_append_grow (P:=P) w t ty e i z s hi aB ⟨q,0,none⟩ n c xs d.1 holds ad m cap news p a (by omega) (by omega) (growslice_fits (by omega) b);rw[this] at h;injection h with _ hw
   exact .inl (hw▸r _)
theorem Na {s x:Operand} {t e:TypeId} {z:Value} {sz bytes:Nat} (aE:P.underlying t=some (.slice e)) (hi:(P.info? e).map (fun i=>(i.zero,i.size,i.bytes))=some (some z,sz,bytes)) (y:z.cells.size=sz) (aF:0<sz)
  {A:Option Addr} {n c base:Nat} {xs news:List Value} {m cap:Nat} {ad:Addr} (aJ:a.eval s=.slice A n c) (aK:a.eval x=.slice (some ad) m cap) (p:Dm w base e sz A n c xs)
  (q:∀j u,news[j]?=some u→w.cell? (ad.add j)=some u)
  (aG:news.length=m*sz) (aH:∀u∈news,u.oneCell'=true) (aA:n+m≤maxLen) (f:(n+m)*bytes≤140737488355328) (r:base≤w.heap.size):
  BD P ⟨dst,.call {callee:=.builtin .append,args:= #[s,x],argTypes:= #[t,t]},ty,pos,BV,g⟩ a w (fun v w'=>∃b l,v=.slice b (n+m) l∧Dm w' base e sz b (n+m) l (xs++news)∧w.grownBy w' (Value.ownBlock (.slice A n c))∧(Ext w w'∨(b=A∧l=c))∧(∀k o,b=some ⟨k,o,none⟩→(∃o',A=some ⟨k,o',none⟩)∨w.heap.size≤k)):=by
 cases d:P.info? e with
 |none=>simp[d] at hi
 |some i=>
  simp only[d,Option.map_some,Option.some.injEq,Prod.mk.injEq] at hi;obtain⟨v',w',aI,aB,aL,aM,aN⟩:=run_append_own_at (P:=P) w base t ty e i z sz bytes aE d hi.1 hi.2.1 hi.2.2 y aF (.slice A n c) n xs p ad m cap news aG q aH aA f r;have he:(execOp a.eval ⟨dst,.call {callee:=.builtin .append,args:= #[s,x],argTypes:= #[t,t]},ty,pos,BV,g⟩).run P w=.ok (.value v') w':=by
   unfold execOp;simp only[resolve,invoke,builtin,Sem.run_bind,Sem.run_pure,Result.andThen_ok,List.map_toArray,List.map_cons,List.map_nil,aJ,aK,aI]
  have key:∃b l,v'=.slice b (n+m) l∧Dm w' base e sz b (n+m) l (xs++news):=by
   rcases aB.2 with⟨rfl,h0⟩|⟨aO,aC,cur,rfl,_⟩
   ·refine⟨none,0,by rw[h0],?_⟩;have:=aB;rw[h0] at this⊢;exact this
   ·exact⟨_,_,rfl,aB⟩
  obtain⟨b,l,rfl,aP⟩:=key;unfold BD;rw[he];refine⟨b,l,rfl,aP,aL,OW aE d hi.1 hi.2.1 y p aG q aH aA (by rw[hi.2.2];exact f) aI aM,?_⟩;rintro k o rfl;rcases aN with h|h
  ·left;cases A with
   |none=>simp[Value.ownBlock] at h
   |some ad=>
    have aQ:k=ad.block:=by simpa[Value.ownBlock] using h
    rcases p.2 with⟨aD,_⟩|⟨aO,aC,cur,aD,_⟩
    ·cases aD
    ·cases aD;exact⟨0,by rw[aQ]⟩
  ·right;have:k=w.heap.size:=by simpa[Value.ownBlock] using h
   omega
theorem Dm.new{w w':World}{b base:Nat}{e:TypeId}{sz:Nat}(h:HD w w' b e #[])(a:base≤w.heap.size):Dm w' base e sz (some ⟨b,0,none⟩) 0 0 []:=
 ⟨by simp,.inr ⟨b,0, #[],rfl,by rw[h.ED];exact a,h.bk,Nat.le_refl _,by simp[maxLen],by simp,by simp⟩⟩
theorem I9{x y:Operand}{t u:TypeId}{A B:Option Addr}{n c m d:Nat}{b:Bool}(e:a.eval x=.slice A n c)(f:a.eval y=.slice B m d)(h:(eqGuard .eql t x y (.slice A n c) (.slice B m d)).run P w=.ok () w)(i:(Op.equal t (.slice A n c) (.slice B m d)).run P w=.ok b w):BD P ⟨dst,.binOp .eql t x y u,ty,pos,BV,g⟩ a w (fun v w'=>v=.bool b∧w'=w):=
 Cj (by simp[execOp,e,f,binOp,h,i])
end
end Go.Proofs.Ytkljfdkmjdjpfaa
end
section
namespace Go.Proofs.Ytkljfdkmjdjpfaa
open Go.RowKit
structure Mv (w:World) (Z:Nat→Prop) (w':World) (Z':Nat→Prop):Prop where
 size:w.heap.size≤w'.heap.size
 stay:∀b,Z b→b<w.heap.size→Z' b∧w'.heap[b]?=w.heap[b]?
theorem Mv.refl(w:World)(Z:Nat→Prop):Mv w Z w Z:=⟨Nat.le_refl _,fun _ h _=>⟨h,rfl⟩⟩
theorem Mv.trans{w1 w2 a:World}{c d e:Nat→Prop}(h:Mv w1 c w2 d)(k:Mv w2 d a e):Mv w1 c a e:=
 ⟨Nat.le_trans h.size k.size,fun b g f=>by
  obtain⟨i,l⟩:=h.stay b g f;obtain⟨m,n⟩:=k.stay b i (Nat.lt_of_lt_of_le f h.size);exact⟨m,n.trans l⟩⟩
theorem Ah{w w':World}{Z:Nat→Prop}(h:Ext w w'):Mv w Z w' Z:=⟨h.size,fun b a c=>⟨a,h.block b c (by simp)⟩⟩
theorem FL{w:World}{Z Z':Nat→Prop}(h:∀b,Z b→b<w.heap.size→Z' b):Mv w Z w Z':=⟨Nat.le_refl _,fun b a c=>⟨h b a c,rfl⟩⟩
def ZA:Nat→Prop:=fun _=>True
theorem IE{w:World}{Z:Nat→Prop}:Mv w Z w ZA:=FL fun _ _ _=>trivial
def Rz (w:World) (Z:Nat→Prop) (A:Option Addr) (cs:List Value):Prop:=
 cs=[]∨∃b o,A=some ⟨b,o,none⟩∧Z b∧b<w.heap.size∧∀j u,cs[j]?=some u→w.cell? ⟨b,o+j,none⟩=some u
theorem Rz.mv{w w':World}{Z Z':Nat→Prop}{A:Option Addr}{cs:List Value}(h:Rz w Z A cs)(g:Mv w Z w' Z'):Rz w' Z' A cs:=
 h.imp id fun⟨b,o,e,d,c,f⟩=>⟨b,o,e,(g.stay b d c).1,Nat.lt_of_lt_of_le c g.size,fun j u hu=>
  (World.cell?_of_block (a:=⟨b,o+j,none⟩) (g.stay b d c).2).trans (f j u hu)⟩
theorem Rz.cells{w:World}{Z:Nat→Prop}{b o:Nat}{cs:List Value}(h:Rz w Z (some ⟨b,o,none⟩) cs):∀j u,cs[j]?=some u→w.cell? ⟨b,o+j,none⟩=some u:=by
 rcases h with rfl|⟨b',o',a,_,_,c⟩
 ·simp
 ·cases a;exact c
theorem Rz.rd{w:World}{Z:Nat→Prop}{A:Option Addr}{cs:List Value}(h:Rz w Z A cs):Rd w 0 w.heap.size A cs:=
 ⟨Nat.le_refl _,h.imp id fun⟨b,o,a,_,c,d⟩=>⟨b,o,a,Nat.zero_le _,c,d⟩⟩
theorem Le{w:World}{lo hi:Nat}{A:Option Addr}{cs:List Value}{Z:Nat→Prop}(h:Rd w lo hi A cs)(c:∀b,lo≤b→b<hi→Z b):Rz w Z A cs:=
 h.2.imp id fun⟨b,o,d,e,a,f⟩=>⟨b,o,d,c b e a,Nat.lt_of_lt_of_le a h.1,f⟩
structure DC (α:Type) where
 sz:Nat
 R:World→(Nat→Prop)→List Value→α→Prop
 len:∀{w Z cs x},R w Z cs x→cs.length=sz
 one:∀{w Z cs x},R w Z cs x→∀u∈cs,u.oneCell'=true
 mv:∀{w Z w' Z' cs x},R w Z cs x→Mv w Z w' Z'→R w' Z' cs x
def R2{α:Type}(e:DC α)(w:World)(Z:Nat→Prop):List (List Value)→List α→Prop
 |[],[]=>True
 |c::cs,x::xs=>e.R w Z c x∧R2 e w Z cs xs
 |_,_=>False
section
variable{α:Type}{e:DC α}{w w':World}{Z Z':Nat→Prop}
theorem R2.len:∀{AV:List (List Value)} {xs:List α},R2 e w Z AV xs→AV.length=xs.length
 |[],[],_=>rfl
 |_::_,_::_,h=>by simp[R2.len h.2]
 |[],_::_,h=>h.elim
 |_::_,[],h=>h.elim
theorem R2.mv(g:Mv w Z w' Z'):∀{AV:List (List Value)} {xs:List α},R2 e w Z AV xs→R2 e w' Z' AV xs
 |[],[],_=>trivial
 |_::_,_::_,h=>⟨e.mv h.1 g,R2.mv g h.2⟩
 |[],_::_,h=>h.elim
 |_::_,[],h=>h.elim
theorem R2.one:∀{AV:List (List Value)} {xs:List α},R2 e w Z AV xs→∀u∈AV.flatten,u.oneCell'=true
 |[],[],_=>by simp
 |c::cs,_::_,h=>by
  intro u hu;rw[List.flatten_cons,List.mem_append] at hu;exact hu.elim (e.one h.1 u) (R2.one h.2 u)
 |[],_::_,h=>h.elim
 |_::_,[],h=>h.elim
theorem R2.H8:∀{AV:List (List Value)} {xs:List α},R2 e w Z AV xs→AV.flatten.length=xs.length*e.sz
 |[],[],_=>by simp
 |c::cs,_::xs,h=>by
  rw[List.flatten_cons,List.length_append,e.len h.1,R2.H8 h.2,List.length_cons,Nat.add_mul,Nat.one_mul,Nat.add_comm]
 |[],_::_,h=>h.elim
 |_::_,[],h=>h.elim
theorem R2.get:∀{AV:List (List Value)} {xs:List α},R2 e w Z AV xs→∀{k:Nat} {x:α},xs[k]?=some x→∃c,AV[k]?=some c∧e.R w Z c x∧(AV.flatten.drop (k*e.sz)).take e.sz=c
 |[],[],_,k,x,a=>by simp at a
 |c::cs,y::xs,h,0,x,a=>by
  obtain rfl:y=x:=by simpa using a
  refine⟨c,rfl,h.1,?_⟩;have b:=e.len h.1;rw[Nat.zero_mul,List.drop_zero,List.flatten_cons,List.take_append_of_le_length (by rw[b];exact Nat.le_refl _),List.take_of_length_le (by rw[b];exact Nat.le_refl _)]
 |c::cs,y::xs,h,k+1,x,a=>by
  obtain⟨d,f,g,i⟩:=R2.get h.2 (k:=k) (x:=x) (by simpa using a);refine⟨d,by simpa using f,g,?_⟩;rw[←i,List.flatten_cons,List.drop_append,e.len h.1,List.drop_of_length_le (by rw[e.len h.1,Nat.add_mul];omega),List.nil_append]
  congr 2
  rw[Nat.add_mul];omega
 |[],_::_,h,_,_,_=>h.elim
 |_::_,[],h,_,_,_=>h.elim
theorem R2.append:∀{AV a:List (List Value)} {xs ys:List α},R2 e w Z AV xs→R2 e w Z a ys→R2 e w Z (AV++a) (xs++ys)
 |[],_,[],_,_,h=>h
 |_::_,_,_::_,_,h,k=>⟨h.1,R2.append h.2 k⟩
 |[],_,_::_,_,h,_=>h.elim
 |_::_,_,[],_,h,_=>h.elim
theorem R2.drop:∀(k:Nat) {AV:List (List Value)} {xs:List α},R2 e w Z AV xs→R2 e w Z (AV.drop k) (xs.drop k)
 |0,_,_,h=>h
 |k+1,[],[],_=>trivial
 |k+1,_::cs,_::xs,h=>by simpa using R2.drop k h.2
 |_+1,[],_::_,h=>h.elim
 |_+1,_::_,[],h=>h.elim
theorem R2.take:∀(k:Nat) {AV:List (List Value)} {xs:List α},R2 e w Z AV xs→R2 e w Z (AV.take k) (xs.take k)
 |0,_,_,_=>trivial
 |k+1,[],[],_=>trivial
 |k+1,_::cs,_::xs,h=>⟨h.1,R2.take k h.2⟩
 |_+1,[],_::_,h=>h.elim
 |_+1,_::_,[],h=>h.elim
theorem R2.set{x:α}{c:List Value}(a:e.R w Z c x):∀(k:Nat) {AV:List (List Value)} {xs:List α},R2 e w Z AV xs→R2 e w Z (AV.set k c) (xs.set k x)
 |_,[],[],_=>trivial
 |0,_::_,_::_,h=>⟨a,h.2⟩
 |k+1,_::cs,_::xs,h=>⟨h.1,R2.set a k h.2⟩
 |_,[],_::_,h=>h.elim
 |_,_::_,[],h=>h.elim
end
def Sl {α:Type} (e:DC α) (w:World) (Z:Nat→Prop) (A:Option Addr) (c:Nat) (xs:List α):Prop:=
 xs.length≤c∧(A=none→c=0)∧∃AV,R2 e w Z AV xs∧Rz w Z A AV.flatten
section
variable{α:Type}{e:DC α}{w w':World}{Z Z':Nat→Prop}{A:Option Addr}{c:Nat}{xs:List α}
theorem Sl.mv(h:Sl e w Z A c xs)(g:Mv w Z w' Z'):Sl e w' Z' A c xs:=⟨h.1,h.2.1,h.2.2.imp fun _ ⟨a,b⟩=>⟨a.mv g,b.mv g⟩⟩
theorem Sl.all(h:Sl e w Z A c xs):Sl e w ZA A c xs:=h.mv IE
theorem Sl.nil(e:DC α)(w:World)(Z:Nat→Prop):Sl e w Z none 0 []:=⟨Nat.le_refl _,fun _=>rfl,[],trivial,.inl rfl⟩
theorem Sl.elem (h:Sl e w Z A c xs) (h0:0<e.sz) {k:Nat} {x:α} (l:xs[k]?=some x):∃b o cs,A=some ⟨b,o,none⟩∧e.R w Z cs x∧Rz w Z (some ⟨b,o+k*e.sz,none⟩) cs:=by
 obtain⟨-,-,AV,m,f⟩:=h;obtain⟨cs,n,g,a⟩:=m.get l;have p:=e.len g;have s:k<AV.length:=(List.getElem?_eq_some_iff.1 n).1;rcases f with f|⟨b,o,q,r,i,d⟩
 ·rw[f] at a;simp at a;subst a;simp at p;omega
 ·refine⟨b,o,cs,q,g,.inr ⟨b,_,rfl,r,i,fun j u hu=>?_⟩⟩;rw[Nat.add_assoc];refine d _ _ ?_;subst a;rw[List.getElem?_take] at hu;split at hu
  ·simpa using hu
  ·cases hu
theorem Sl.E7(h:Sl e w Z A c xs)(d:e.sz=1){k:Nat}{x:α}(f:xs[k]?=some x):∃b o cs,A=some ⟨b,o,none⟩∧e.R w Z cs x∧Rz w Z (some ⟨b,o+k,none⟩) cs:=by
 obtain⟨b,o,cs,g,i,a⟩:=h.elem (by omega) f;rw[d,Nat.mul_one] at a;exact⟨b,o,cs,g,i,a⟩
end
def As(k:IntKind):DC Int:=⟨1,fun _ _ cs x=>cs=[.int k x],fun h=>by rw[h];rfl,fun h=>by rw[h];simp[Value.oneCell'],fun h _=>h⟩
def Bl:DC Bool:=⟨1,fun _ _ cs x=>cs=[.bool x],fun h=>by rw[h];rfl,fun h=>by rw[h];simp[Value.oneCell'],fun h _=>h⟩
def Bs{α:Type}(e:DC α):DC (List α):=
 ⟨1,fun w Z cs xs=>∃A c,cs=[.slice A xs.length c]∧Sl e w Z A c xs,fun⟨_,_,h,_⟩=>by rw[h];rfl,fun⟨_,_,h,_⟩=>by rw[h];simp[Value.oneCell'],
  fun⟨A,c,a,b⟩ g=>⟨A,c,a,b.mv g⟩⟩
structure VE (α:Type) where
 R:World→(Nat→Prop)→Value→α→Prop
 mv:∀{w Z w' Z' v x},R w Z v x→Mv w Z w' Z'→R w' Z' v x
def FD(k:IntKind):VE Int:=⟨fun _ _ v x=>v=.int k x,fun h _=>h⟩
def BO:VE Bool:=⟨fun _ _ v x=>v=.bool x,fun h _=>h⟩
def FG{α:Type}(e:DC α):VE (List α):=⟨fun w Z v xs=>∃A c,v=.slice A xs.length c∧Sl e w Z A c xs,fun⟨A,c,a,b⟩ g=>⟨A,c,a,b.mv g⟩⟩
def DB{α:Type}(e:DC α):VE α:=⟨fun w Z v x=>∃cs,v=.agg cs.toArray∧e.R w Z cs x,fun h g=>h.imp fun _ h=>⟨h.1,e.mv h.2 g⟩⟩
def Nb{α β:Type}(a:VE α)(b:VE β):VE (α×β):=⟨fun w Z v x=>∃u t,v=.tuple #[u,t]∧a.R w Z u x.1∧b.R w Z t x.2,fun⟨u,t,h,c,d⟩ g=>⟨u,t,h,a.mv c g,b.mv d g⟩⟩
def Pz{α β i:Type}(a:VE α)(b:VE β)(c:VE i):VE (α×β×i):=
 ⟨fun w Z v x=>∃u t s,v=.tuple #[u,t,s]∧a.R w Z u x.1∧b.R w Z t x.2.1∧c.R w Z s x.2.2,fun⟨u,t,s,h,d,e,f⟩ g=>⟨u,t,s,h,a.mv d g,b.mv e g,c.mv f g⟩⟩
def Kv{α:Type}(v:VE α)(Z:Nat→Prop)(x:α):Is Ext:=⟨fun u w=>v.R w Z u x,fun _ _ _ h g=>v.mv h (Ah g)⟩
def ob:Option Addr→Option Nat:=Option.map (·.block)
theorem PA(A:Option Addr)(n c:Nat):Value.ownBlock (.slice A n c)=ob A:=by cases A<;>rfl
def FN:Nat→Prop:=fun _=>False
def FU (F:Nat→Prop) (M:List (Option Nat)):Nat→Prop:=fun k=>F k∨some k∈M
structure A5 (D:Nat→Prop) (w w':World):Prop where
 os:w'.os=w.os
 tape:w'.tape=w.tape
 output:w'.output=w.output
 size:w.heap.size≤w'.heap.size
 block:∀k,k<w.heap.size→¬D k→w'.heap[k]?=w.heap[k]?
section
variable{D D' F F':Nat→Prop}{M M':List (Option Nat)}{w w' Bp:World}
theorem A5.refl(D:Nat→Prop)(w:World):A5 D w w:=⟨rfl,rfl,rfl,Nat.le_refl _,fun _ _ _=>rfl⟩
theorem A5.trans(h:A5 D w w')(k:A5 D w' Bp):A5 D w Bp:=
 ⟨k.os.trans h.os,k.tape.trans h.tape,k.output.trans h.output,Nat.le_trans h.size k.size,fun b a c=>(k.block b (Nat.lt_of_lt_of_le a h.size) c).trans (h.block b a c)⟩
theorem A5.mono(h:A5 D w w')(a:∀k,D k→D' k):A5 D' w w':=⟨h.os,h.tape,h.output,h.size,fun b c d=>h.block b c fun e=>d (a b e)⟩
theorem Hk{r:Option Nat}(g:w.grownBy w' r)(a:∀k,r=some k→D k):A5 D w w':=⟨g.os,g.tape,g.output,g.size,fun b c d=>g.block b c fun e=>d (a b e.symm)⟩
theorem CT(g:Ext w w'):A5 D w w':=Hk g fun _ e=>by cases e
theorem A5.gr{r:Option Nat}(g:A5 (fun k=>some k=r) w w'):w.grownBy w' r:=⟨g.os,g.tape,g.output,g.size,fun b a c=>g.block b a c⟩
theorem A5.ext(g:A5 (FU FN []) w w'):Ext w w':=⟨g.os,g.tape,g.output,g.size,fun b a _=>g.block b a (by rintro(h|h);exact h;cases h)⟩
theorem A5.fl{M2:List (Option Nat)}(g:A5 (FU (FU F M) M2) w w'):A5 (FU F (M++M2)) w w':=g.mono fun k h=>by
 rcases h with(h|h)|h
 ·exact .inl h
 ·exact .inr (List.mem_append_left _ h)
 ·exact .inr (List.mem_append_right _ h)
theorem Bk.Bu{b:Nat}{t:TypeId}{cs:Array Value}(h:Bk w b t cs)(g:A5 D w w')(a:¬D b):Bk w' b t cs:=(g.block b h.lt a).trans h
theorem Bk.gr{b:Nat}{t:TypeId}{cs:Array Value}{r:Option Nat}(h:Bk w b t cs)(g:w.grownBy w' r)(a:some b≠r):Bk w' b t cs:=(g.block b h.lt a).trans h
end
def ZZ (F:Nat→Prop) (B:List (Option Nat)) (Z:Nat→Prop) (n0:Nat) (L:List (Option Nat)):Nat→Prop:=fun b=>(b<n0∧Z b∧¬F b∧some b∉B)∨(n0≤b∧some b∉L)
def ZC (F:Nat→Prop) (M:List (Option Nat)):Nat→Prop:=fun b=>¬F b∧some b∉M
theorem G3{F:Nat→Prop}{M:List (Option Nat)}:∀b,ZC F M b→¬F b∧some b∉M:=fun _ h=>h
def Fj (L:List (Option Nat)):List Nat→List (Option Nat)→Prop
 |[],[]=>True
 |j::a,m::M=>L[j]?=some m∧Fj L a M
 |_,_=>False
theorem Fj.mem{L:List (Option Nat)}:∀{b:List Nat} {M:List (Option Nat)},Fj L b M→∀x∈M,∃j∈b,L[j]?=some x
 |[],[],_,x,a=>by cases a
 |j::b,m::M,h,x,a=>by
  rcases List.mem_cons.1 a with rfl|a
  ·exact⟨j,List.mem_cons_self ..,h.1⟩
  ·obtain⟨i,hi,he⟩:=Fj.mem h.2 x a;exact⟨i,List.mem_cons_of_mem _ hi,he⟩
 |[],_::_,h,_,_=>h.elim
 |_::_,[],h,_,_=>h.elim
theorem Fj.get{L:List (Option Nat)}:∀{b:List Nat} {M:List (Option Nat)},Fj L b M→∀(i:Nat) x,M[i]?=some x→∃j,b[i]?=some j∧L[j]?=some x
 |[],[],_,i,x,a=>by simp at a
 |j::b,m::M,h,0,x,a=>by
  obtain rfl:m=x:=by simpa using a
  exact⟨j,rfl,h.1⟩
 |j::b,m::M,h,i+1,x,a=>by
  obtain⟨k,c,he⟩:=Fj.get h.2 i x (by simpa using a);exact⟨k,by simpa using c,he⟩
 |[],_::_,h,_,_,_=>h.elim
 |_::_,[],h,_,_,_=>h.elim
theorem Fj.sub{L:List (Option Nat)}{a:List Nat}{M:List (Option Nat)}(h:Fj L a M):∀x∈M,x∈L:=fun x b=>by
 obtain⟨j,_,he⟩:=h.mem x b;exact List.mem_of_getElem? he
def HP:List Nat→Bool
 |[]=>true
 |x::l=>l.all (fun y=> !Nat.beq x y)&&HP l
theorem H9:∀{l:List Nat},HP l=true→∀(i j k:Nat),l[i]?=some k→l[j]?=some k→i=j
 |[],_,i,j,k,hi,_=>by simp at hi
 |x::l,h,i,j,k,hi,a=>by
  simp only[HP,Bool.and_eq_true,List.all_eq_true] at h;have key:∀(m:Nat),l[m]?=some x→False:=fun m hm=>by
   have:=h.1 x (List.mem_of_getElem? hm);rw[Nat.beq_refl] at this;cases this
  cases i with
  |zero=>
   obtain rfl:x=k:=by simpa using hi
   cases j with
   |zero=>rfl
   |succ j=>exact(key j (by simpa using a)).elim
  |succ i=>
   cases j with
   |zero=>
    obtain rfl:x=k:=by simpa using a
    exact(key i (by simpa using hi)).elim
   |succ j=>rw[H9 h.2 i j k (by simpa using hi) (by simpa using a)]
structure BQ (F:Nat→Prop) (B:List (Option Nat)) (w:World):Prop where
 lt:∀k,some k∈B→k<w.heap.size∧¬F k
 ap:∀(i j:Nat) (x:Nat),i≠j→B[i]?=some (some x)→B[j]?≠some (some x)
 ff:∀k,F k→k<w.heap.size
theorem BQ.none(w:World):BQ FN [] w:=⟨fun _ h=>(by cases h),fun _ _ _ _ h=>by simp at h,fun _ h=>h.elim⟩
theorem BQ.grow{F:Nat→Prop}{B:List (Option Nat)}{w w':World}(h:BQ F B w)(b:w.heap.size≤w'.heap.size):BQ F B w':=
 ⟨fun k a=>⟨Nat.lt_of_lt_of_le (h.lt k a).1 b,(h.lt k a).2⟩,h.ap,fun k a=>Nat.lt_of_lt_of_le (h.ff k a) b⟩
structure Hp (F:Nat→Prop) (B:List (Option Nat)) (w0:World) (L:List (Option Nat)) (w:World):Prop where
 ch:A5 (FU F B) w0 w
 lo:∀k,some k∈L→k<w.heap.size∧¬F k∧(k<w0.heap.size→some k∈B)
 ap:∀(i j:Nat) (x:Nat),i≠j→L[i]?=some (some x)→L[j]?≠some (some x)
 ff:∀k,F k→k<w0.heap.size
theorem Hp.start{F:Nat→Prop}{B:List (Option Nat)}{w:World}(h:BQ F B w):Hp F B w B w:=⟨A5.refl _ _,fun k a=>⟨(h.lt k a).1,(h.lt k a).2,fun _=>a⟩,h.ap,h.ff⟩
section
variable{F F':Nat→Prop}{B:List (Option Nat)}{w0 w w':World}{Z Z':Nat→Prop}{L L' M:List (Option Nat)}
theorem Hp.sz(h:Hp F B w0 L w):w0.heap.size≤w.heap.size:=h.ch.size
theorem Hp.Bu(h:Hp F B w0 L w){D:Nat→Prop}(g:A5 D w w')(d:∀k,D k→F k∨some k∈L):Hp F B w0 L w':=by
 refine⟨⟨g.os.trans h.ch.os,g.tape.trans h.ch.tape,g.output.trans h.ch.output,Nat.le_trans h.sz g.size,fun k a b=>?_⟩,fun k a=>⟨Nat.lt_of_lt_of_le (h.lo k a).1 g.size,(h.lo k a).2⟩,h.ap,h.ff⟩;refine(g.block k (Nat.lt_of_lt_of_le a h.sz) fun e=>?_).trans (h.ch.block k a b);rcases d k e with c|c
 ·exact b (.inl c)
 ·exact b (.inr ((h.lo k c).2.2 a))
theorem Hp.ext(h:Hp F B w0 L w)(g:Ext w w'):Hp F B w0 L w':=h.Bu (D:=FN) (CT g) fun _ h=>h.elim
theorem Hp.gr(h:Hp F B w0 L w){r:Option Nat}(g:w.grownBy w' r)(i:Nat)(hi:L[i]?=some r):Hp F B w0 L w':=
 h.Bu (D:=fun k=>some k=r) (Hk g fun _ e=>e.symm) fun k e=>.inr (by rw[e];exact List.mem_of_getElem? hi)
theorem Hp.new(h:Hp F B w0 L w)(g:Ext w w'){b:Nat}(q:w.heap.size≤b)(m:b<w'.heap.size):Hp F B w0 (some b::L) w':=by
 have f:=h.ext g;refine⟨f.ch,fun k a=>?_,?_,h.ff⟩
 ·rcases List.mem_cons.1 a with e|a
  ·cases e;exact⟨m,fun n=>absurd (h.ff _ n) (by have:=h.sz;omega),fun o=>absurd o (by have:=h.sz;omega)⟩
  ·exact f.lo k a
 ·have key:∀(j:Nat) (x:Nat),L[j]?=some (some x)→x≠b:=fun j x p e=>by
   have:=(h.lo x (List.mem_of_getElem? p)).1;omega
  intro i j x l hi c;cases i with
  |zero=>
   cases j with
   |zero=>exact l rfl
   |succ j=>
    have d:b=x:=by simpa using hi
    exact key j x (by simpa using c) d.symm
  |succ i=>
   cases j with
   |zero=>
    have d:b=x:=by simpa using c
    exact key i x (by simpa using hi) d.symm
   |succ j=>exact h.ap i j x (by omega) (by simpa using hi) (by simpa using c)
theorem Hp.nil(h:Hp F B w0 L w):Hp F B w0 (none::L) w:=by
 refine⟨h.ch,fun k b=>h.lo k (by simpa using b),?_,h.ff⟩;intro i j x c hi a;cases i with
 |zero=>simp at hi
 |succ i=>
  cases j with
  |zero=>simp at a
  |succ j=>exact h.ap i j x (by omega) (by simpa using hi) (by simpa using a)
theorem Hp.EZ (h:Hp F B w0 L w) {D:Nat→Prop} (g:A5 D w w') (u:∀k,D k→F k∨some k∈L) (i:Nat) {x y:Option Nat} (hi:L[i]?=some x) (q:∀k,y=some k→(x=some k∨w.heap.size≤k)∧k<w'.heap.size):Hp F B w0 (L.set i y) w':=by
 have n:=h.Bu g u;refine⟨n.ch,fun k o=>?_,?_,h.ff⟩
 ·rcases List.mem_or_eq_of_mem_set o with o|e
  ·exact n.lo k o
  ·obtain⟨c,v⟩:=q k e.symm;rcases c with c|c
   ·exact n.lo k (by rw[←c];exact List.mem_of_getElem? hi)
   ·exact⟨v,fun aA=>absurd (h.ff _ aA) (by have:=h.sz;omega),fun aB=>absurd aB (by have:=h.sz;omega)⟩
 ·have l:i<L.length:=(List.getElem?_eq_some_iff.1 hi).1;have key:∀(j z:Nat),j≠i→L[j]?=some (some z)→y≠some z:=fun j z aC r e=>by
   rcases(q z e).1 with c|c
   ·exact h.ap j i z aC r (by rw[hi,c])
   ·have:=(h.lo z (List.mem_of_getElem? r)).1;omega
  intro a b z s f d
  by_cases m:a=i
  ·subst m;have p:y=some z:=by simpa[List.getElem?_set,l] using f
   rw[List.getElem?_set_ne (by omega)] at d;exact key b z (by omega) d p
  ·rw[List.getElem?_set_ne (by omega)] at f
   by_cases t:b=i
   ·subst t;have p:y=some z:=by simpa[List.getElem?_set,l] using d
    exact key a z m f p
   ·rw[List.getElem?_set_ne (by omega)] at d;exact h.ap a b z s f d
theorem Hp.row(h:Hp F B w0 L w){x:Option Nat}(g:w.grownBy w' x)(i:Nat){y:Option Nat}(hi:L[i]?=some x)(a:∀k,y=some k→(x=some k∨w.heap.size≤k)∧k<w'.heap.size):Hp F B w0 (L.set i y) w':=
 h.EZ (D:=fun k=>some k=x) (Hk g fun _ e=>e.symm) (fun k e=>.inr (by rw[e];exact List.mem_of_getElem? hi)) i hi a
theorem Hp.erase(h:Hp F B w0 L w)(i:Nat):Hp F B w0 (L.eraseIdx i) w:=by
 refine⟨h.ch,fun k f=>h.lo k (List.mem_of_mem_eraseIdx f),fun a b x e c d=>?_,h.ff⟩;rw[List.getElem?_eraseIdx] at c d;split at c<;>split at d
 ·exact h.ap a b x e c d
 ·exact h.ap a (b+1) x (by omega) c d
 ·exact h.ap (a+1) b x (by omega) c d
 ·exact h.ap (a+1) (b+1) x (by omega) c d
theorem Hp.ne(h:Hp F B w0 L w)(i j:Nat){x:Option Nat}{b:Nat}(a:(i==j)=false)(hi:L[i]?=some (some b))(c:L[j]?=some x):some b≠x:=fun e=>h.ap i j b (by simpa using a) hi (by rw[c,e])
theorem Hp.Bq (h:Hp F B w0 L w) (i:Nat) {b:Nat} (hi:L[i]?=some (some b)) (c:List Nat) (f:(c.all fun j=> !Nat.beq i j)=true) (g:Fj L c M) (l:∀k,F' k→F k):¬FU F' M b:=by
 rintro(a|a)
 ·exact(h.lo b (List.mem_of_getElem? hi)).2.1 (l b a)
 ·obtain⟨j,d,he⟩:=g.mem _ a;have:=List.all_eq_true.1 f j d;refine h.ap i j b (fun e=>?_) hi he;rw[e,Nat.beq_refl] at this;cases this
theorem PB(a:∀x∈M,x∈L)(b:∀k,F' k→F k):∀k,FU F' M k→F k∨some k∈L:=fun k h=>h.imp (b k) (a _)
theorem Hp.Dn (h:Hp F B w0 L w) (d n:List Nat) {C:List (Option Nat)} (o:HP (d++n)=true) (f:Fj L d M) (p:Fj L n C) (q:∀k,F' k→F k∨some k∈C):BQ F' M w:=by
 refine⟨fun k g=>⟨(h.lo k (f.sub _ g)).1,fun aE=>?_⟩,fun i j x r hi m=>?_,fun k g=>?_⟩
 ·rcases q k aE with c|c
  ·exact(h.lo k (f.sub _ g)).2.1 c
  ·obtain⟨i,hi⟩:=List.mem_iff_getElem?.1 g;obtain⟨s,t⟩:=List.mem_iff_getElem?.1 c;obtain⟨j,m,he⟩:=f.get i _ hi;obtain⟨u,v,y⟩:=p.get s _ t;have e:j=u:=by
    refine Decidable.byContradiction fun l=>h.ap j u k l he y
   subst e;have z:i<d.length:=(List.getElem?_eq_some_iff.1 m).1;have aH:=H9 o i (d.length+s) j (by rw[List.getElem?_append_left z];exact m) (by rw[List.getElem?_append_right (by omega)];simpa using v);omega
 ·obtain⟨a,aA,aB⟩:=f.get i _ hi;obtain⟨b,aC,aD⟩:=f.get j _ m;have e:a=b:=Decidable.byContradiction fun l=>h.ap a b x l aB aD;subst e;have aF:i<d.length:=(List.getElem?_eq_some_iff.1 aA).1;have aG:j<d.length:=(List.getElem?_eq_some_iff.1 aC).1;exact r (H9 o i j a (by rw[List.getElem?_append_left aF];exact aA) (by rw[List.getElem?_append_left aG];exact aC))
 ·rcases q k g with c|c
  ·exact Nat.lt_of_lt_of_le (h.ff k c) h.sz
  ·exact(h.lo k (p.sub _ c)).1
theorem Hp.Nc (h:Hp F B w0 L w) {D:Nat→Prop} (c:∀k,D k→F k∨some k∈L):∀b,ZZ F B Z w0.heap.size L b→¬D b:=fun b g d=>by
 rcases g with⟨e,f,i,l⟩|⟨e,f⟩
 ·rcases c b d with a|a
  ·exact i a
  ·exact l ((h.lo b a).2.2 e)
 ·rcases c b d with a|a
  ·have:=h.ff b a;omega
  ·exact f a
theorem Hp.zc(h:Hp F B w0 L w)(c:∀x∈M,x∈L)(d:∀k,F' k→F k∨some k∈L):∀b,ZZ F B Z w0.heap.size L b→¬F' b∧some b∉M:=fun b a=>
 ⟨h.Nc (D:=F') d b a,fun hm=>h.Nc (D:=fun k=>some k∈M) (fun k e=>.inr (c _ e)) b a hm⟩
theorem OD(h:∀b,Z b→Z' b):Mv w Z w Z':=FL fun b a _=>h b a
theorem Hp.CE (h:Hp F B w0 L w) {D:Nat→Prop} (g:A5 D w w') (c:∀k,D k→F k∨some k∈L):Mv w (ZZ F B Z w0.heap.size L) w' (ZZ F B Z w0.heap.size L):=
 ⟨g.size,fun b a d=>⟨a,g.block b d (h.Nc c b a)⟩⟩
theorem Hp.Ay(h:Hp F B w0 L w){r:Option Nat}(g:w.grownBy w' r)(i:Nat)(hi:L[i]?=some r):Mv w (ZZ F B Z w0.heap.size L) w' (ZZ F B Z w0.heap.size L):=
 h.CE (D:=fun k=>some k=r) (Hk g fun _ e=>e.symm) fun k e=>.inr (by rw[e];exact List.mem_of_getElem? hi)
theorem Hp.CO(h:Hp F B w0 L w){D:Nat→Prop}(g:A5 D w w')(f:∀k,D k→F k∨some k∈L)(i:Nat){x:Option Nat}(hi:L[i]?=some x){y:Option Nat}(l:∀k,y=some k→(x=some k∨w.heap.size≤k)):Mv w (ZZ F B Z w0.heap.size L) w' (ZZ F B Z w0.heap.size (L.set i y)):=
 ⟨g.size,fun b a m=>⟨a.imp id fun⟨n,c⟩=>⟨n,fun hm=>by
  rcases List.mem_or_eq_of_mem_set hm with hm|e
  ·exact c hm
  ·rcases l b e.symm with d|d
   ·exact c (by rw[←d];exact List.mem_of_getElem? hi)
   ·omega⟩,g.block b m (h.Nc f b a)⟩⟩
theorem Hp.Gl(h:Hp F B w0 L w){r:Option Nat}(g:w.grownBy w' r)(i:Nat)(hi:L[i]?=some r){y:Option Nat}(a:∀k,y=some k→(r=some k∨w.heap.size≤k)):Mv w (ZZ F B Z w0.heap.size L) w' (ZZ F B Z w0.heap.size (L.set i y)):=
 h.CO (D:=fun k=>some k=r) (Hk g fun _ e=>e.symm) (fun k e=>.inr (by rw[e];exact List.mem_of_getElem? hi)) i hi a
theorem Df{n0:Nat}(g:Ext w w'){b:Nat}(h:w.heap.size≤b):Mv w (ZZ F B Z n0 L) w' (ZZ F B Z n0 (some b::L)):=
 ⟨g.size,fun k a c=>⟨a.imp id fun⟨d,f⟩=>⟨d,fun hm=>by
  rcases List.mem_cons.1 hm with e|hm
  ·cases e;omega
  ·exact f hm⟩,g.block k c (by simp)⟩⟩
theorem Co{n0:Nat}:Mv w (ZZ F B Z n0 L) w (ZZ F B Z n0 (none::L)):=FL fun b a _=>a.imp id fun⟨c,d⟩=>⟨c,by simpa using d⟩
theorem PC{n0:Nat}(h:∀x∈L',x∈L):Mv w (ZZ F B Z n0 L) w (ZZ F B Z n0 L'):=FL fun b a _=>a.imp id fun⟨c,d⟩=>⟨c,fun hm=>d (h _ hm)⟩
theorem Ap{n0:Nat}(i:Nat):Mv w (ZZ F B Z n0 L) w (ZZ F B Z n0 (L.eraseIdx i)):=PC fun _ h=>List.mem_of_mem_eraseIdx h
theorem AX(c:∀b,Z b→¬F b∧some b∉B)(w:World):Mv w Z w (ZZ F B Z w.heap.size L):=FL fun b a d=>.inl ⟨d,a,c b a⟩
theorem A8 {n0:Nat} (d:∀x∈M,x∈L):Mv w (ZZ F B Z n0 L) w (ZZ FN [] Z n0 M):=FL fun b e _=>by
 rcases e with⟨a,c,_⟩|⟨a,c⟩
 ·exact .inl ⟨a,c,id,by simp⟩
 ·exact .inr ⟨a,fun hm=>c (d _ hm)⟩
theorem Fm{n0:Nat}(a:∀b,Z b→Z' b):Mv w (ZZ F B Z n0 L) w (ZZ F B Z' n0 L):=FL fun b c _=>c.imp (fun⟨d,e,f⟩=>⟨d,a b e,f⟩) id
theorem Hp.call (h:Hp F B w0 L w) {c:Nat} (o:w.heap.size≤c) (l:∀k,some k∈M→some k∈L∨c≤k) (f:∀x∈L',x∈L∨x∈M):Mv w' (ZZ FN [] (ZZ F B Z w0.heap.size L) c M) w' (ZZ F B Z w0.heap.size L'):=
 FL fun b m _=>by
  have h0:=h.sz;rcases m with⟨n,d,_⟩|⟨n,d⟩
  ·rcases d with e|⟨e,g⟩
   ·exact .inl e
   ·refine .inr ⟨e,fun hm=>?_⟩;rcases f _ hm with a|a
    ·exact g a
    ·rcases l b a with i|i
     ·exact g i
     ·omega
  ·refine .inr ⟨by omega,fun hm=>?_⟩;rcases f _ hm with a|a
   ·have:=(h.lo b a).1;omega
   ·exact d a
theorem Hp.BH(h:Hp F B w0 L w){a:Nat}(b:w.heap.size≤a):Mv w' (ZZ FN [] (ZZ F B Z w0.heap.size L) a []) w' (ZZ F B Z w0.heap.size L):=h.call b (fun _ h=>by cases h) (fun _ h=>.inl h)
theorem Hp.fin(h:Hp F B w0 L w):A5 (FU F B) w0 w:=h.ch
theorem Hp.BL(h:Hp FN [] w0 L w):Ext w0 w:=h.ch.ext
theorem Hp.lit{b:Nat}(h:Hp F B w0 L w)(i:Nat)(hi:L[i]?=some (some b))(c:w0.heap.size≤b):ZZ F B Z w0.heap.size (L.eraseIdx i) b:=
 .inr ⟨c,fun hm=>by
  obtain⟨j,a⟩:=List.mem_iff_getElem?.1 hm;rw[List.getElem?_eraseIdx] at a;split at a
  ·exact h.ap i j b (by omega) hi a
  ·exact h.ap i (j+1) b (by omega) hi a⟩
theorem Hp.own {b:Nat} (h:Hp F B w0 L w) (i:Nat) (hi:L[i]?=some (some b)) (c:some b∉B):w0.heap.size≤b:=by
 rcases Nat.lt_or_ge b w0.heap.size with a|a
 ·exact absurd ((h.lo b (List.mem_of_getElem? hi)).2.2 a) c
 ·exact a
end
def AK {α:Type} (e:DC α) (t:TypeId) (n0:Nat) (w:World) (Z:Nat→Prop) (A:Option Addr) (c:Nat) (xs:List α):Prop:=
 ∃AV,R2 e w Z AV xs∧Dm w n0 t e.sz A xs.length c AV.flatten
section
variable{α:Type}{e:DC α}{t:TypeId}{n0:Nat}{w w':World}{Z Z':Nat→Prop}{A:Option Addr}{c:Nat}{xs:List α}
theorem AK.nil(e:DC α)(t:TypeId)(n0:Nat)(w:World)(Z:Nat→Prop):AK e t n0 w Z none 0 []:=⟨[],trivial,Dm.nil _ _ _ _⟩
theorem AK.gr(h:AK e t n0 w Z A c xs){r:Option Nat}(g:w.grownBy w' r)(a:∀k,ob A=some k→some k≠r)(hm:Mv w Z w' Z'):AK e t n0 w' Z' A c xs:=by
 obtain⟨AV,b,d⟩:=h;exact⟨AV,b.mv hm,d.kept g fun k f o i=>a k (by rw[i];rfl) f.symm⟩
theorem AK.ext(h:AK e t n0 w Z A c xs)(g:Ext w w')(hm:Mv w Z w' Z'):AK e t n0 w' Z' A c xs:=h.gr g (fun _ _ e=>by cases e) hm
theorem AK.up(h:AK e t n0 w Z A c xs)(hm:Mv w Z w Z'):AK e t n0 w Z' A c xs:=by
 obtain⟨AV,a,b⟩:=h;exact⟨AV,a.mv hm,b⟩
theorem AK.sl(h:AK e t n0 w Z A c xs)(m:∀k,ob A=some k→n0≤k→Z k):Sl e w Z A c xs:=by
 obtain⟨AV,f,a⟩:=h;have n:=a;rcases a.2 with⟨d,h0⟩|⟨g,cap,cur,d,i,o,l,_,_,_⟩
 ·have:xs=[]:=List.eq_nil_of_length_eq_zero h0;subst this;cases d;exact Sl.nil _ _ _
 ·cases d;refine⟨l,(fun e=>by cases e),AV,f,?_⟩;refine Le (hi:=g+1) (lo:=g) ?_ (fun b f a=>by
   obtain rfl:b=g:=by omega
   exact m b rfl i)
  refine⟨lt_of_block o,.inr ⟨g,0,rfl,Nat.le_refl _,Nat.lt_succ_self _,fun j u hu=>?_⟩⟩;have:=World.ownsRow.cells n (g:=g) rfl j u hu;rw[FP] at this;exact this
theorem AK.all(h:AK e t n0 w Z A c xs):Sl e w ZA A c xs:=(h.up IE).sl fun _ _ _=>trivial
theorem AK.It(h:AK e t n0 w Z A c xs):∀k,ob A=some k→k<w.heap.size:=by
 obtain⟨AV,l,d⟩:=h;intro k b;rcases d.2 with⟨a,h0⟩|⟨g,cap,cur,a,i,f,_⟩
 ·obtain⟨rfl,-,-⟩:=Value.slice.inj a;cases b
 ·cases a;cases b;exact lt_of_block f
end
section
variable{α:Type}{e:DC α}{t:TypeId}{F F':Nat→Prop}{B L M:List (Option Nat)}{n0 n1:Nat}{w0 w w':World}{Z Z':Nat→Prop}{A:Option Addr}{c:Nat}{xs:List α}
theorem AK.Bu(h:AK e t n0 w Z A c xs){D:Nat→Prop}(g:A5 D w w')(i:∀k,ob A=some k→¬D k)(hm:Mv w Z w' Z'):AK e t n0 w' Z' A c xs:=by
 obtain⟨AV,l,a⟩:=h;refine⟨AV,l.mv hm,a.1,a.2.imp id ?_⟩;rintro⟨b,cap,cur,d,m,f,n⟩;refine⟨b,cap,cur,d,m,?_,n⟩;cases d;exact(g.block b (lt_of_block f) (i b rfl)).trans f
theorem AK.base(h:AK e t n0 w Z A c xs)(d:∀k,ob A=some k→n1≤k):AK e t n1 w Z A c xs:=by
 obtain⟨AV,f,a⟩:=h;refine⟨AV,f,a.1,a.2.imp id ?_⟩;rintro⟨b,cap,cur,g,_,i⟩;cases g;exact⟨b,_,cur,rfl,d b rfl,i⟩
theorem AK.ge(h:AK e t n0 w Z A c xs):∀k,ob A=some k→n0≤k:=by
 obtain⟨AV,i,f⟩:=h;intro k d;rcases f.2 with⟨a,_⟩|⟨b,cap,cur,a,g,_⟩
 ·obtain⟨rfl,-,-⟩:=Value.slice.inj a;cases d
 ·cases a;cases d;exact g
theorem Hp.Rh (h:Hp F B w0 L w) (i:Nat) (hi:L[i]?=some (ob A)) (d:AK e t w0.heap.size w (ZZ F B Z w0.heap.size L) A c xs):Sl e w (ZZ F B Z w0.heap.size (L.eraseIdx i)) A c xs:=
 (d.up (Ap i)).sl fun k b h0=>.inr ⟨h0,fun hm=>by
  obtain⟨j,a⟩:=List.mem_iff_getElem?.1 hm;rw[List.getElem?_eraseIdx] at a;split at a
  ·exact h.ap i j k (by omega) (by rw[hi,b]) a
  ·exact h.ap i (j+1) k (by omega) (by rw[hi,b]) a⟩
theorem Hp.Oa (h:Hp F B w0 L w) (i:Nat) (hi:L[i]?=some (ob A)) (a:List Nat) (d:(a.all fun j=> !Nat.beq i j)=true) (b:Fj L a M) (f:AK e t w0.heap.size w (ZZ F B Z w0.heap.size L) A c xs):Sl e w (ZZ FN [] Z w0.heap.size M) A c xs:=
 (f.up (A8 b.sub)).sl fun k g h0=>.inr ⟨h0,fun hm=>h.Bq (F':=FN) i (by rw[hi,g]) a d b (fun _ h=>h.elim) (.inr hm)⟩
theorem Hp.kn{b:Nat}(h:Hp F B w0 L w)(a:w.heap.size≤b):ZZ F B Z w0.heap.size L b:=
 .inr ⟨Nat.le_trans h.sz a,fun hm=>absurd (h.lo b hm).1 (Nat.not_lt.2 a)⟩
theorem Hl {b:Nat} {cs:Array Value} {AV:List (List Value)} (g:Bk w b t cs) (c:n0≤b) (h:R2 e w Z AV xs) (d:AV.flatten=cs.toList) (hm:xs.length≤maxLen):AK e t n0 w Z (some ⟨b,0,none⟩) xs.length xs:=by
 have f:=h.H8;have a:cs.size=xs.length*e.sz:=by rw[←f,d];simp
 refine⟨AV,h,f,.inr ⟨b,xs.length,cs,rfl,c,g,Nat.le_refl _,hm,a,?_⟩⟩;rw[d,List.take_of_length_le (by simp[a])]
theorem Hp.hand (h:Hp F B w0 L w) {D:Nat→Prop} (g:A5 D w w') (p:∀k,D k→F k∨some k∈L) (l:AK e t w.heap.size w' Z' A c xs):Hp F B w0 (ob A::L) w':=by
 have b:=h.Bu g p;cases m:ob A with
 |none=>exact b.nil
 |some k=>
  have s:=l.ge k m;have n:=l.It k m;refine⟨b.ch,fun x a=>?_,?_,h.ff⟩
  ·rcases List.mem_cons.1 a with e|a
   ·cases e;have u:=h.sz;exact⟨n,fun q=>absurd (h.ff _ q) (by omega),fun r=>absurd r (by omega)⟩
   ·exact b.lo x a
  ·have key:∀(j:Nat) (x:Nat),L[j]?=some (some x)→x≠k:=fun j x a e=>by
    have:=(h.lo x (List.mem_of_getElem? a)).1;omega
   intro i j x o hi d;cases i with
   |zero=>
    cases j with
    |zero=>exact o rfl
    |succ j=>
     have f:k=x:=by simpa using hi
     exact key j x (by simpa using d) f.symm
   |succ i=>
    cases j with
    |zero=>
     have f:k=x:=by simpa using d
     exact key i x (by simpa using hi) f.symm
    |succ j=>exact h.ap i j x (by omega) (by simpa using hi) (by simpa using d)
theorem Hp.Fo(h:Hp F B w0 L w){D:Nat→Prop}(g:A5 D w w')(f:∀k,D k→F k∨some k∈L)(i:AK e t w.heap.size w' Z' A c xs){a:Nat→Prop}:Mv w (ZZ F B a w0.heap.size L) w' (ZZ F B a w0.heap.size (ob A::L)):=by
 refine⟨g.size,fun b d l=>⟨d.imp id fun⟨m,n⟩=>⟨m,fun hm=>?_⟩,g.block b l (h.Nc f b d)⟩⟩;rcases List.mem_cons.1 hm with e|hm
 ·have:=i.ge b e.symm;omega
 ·exact n hm
theorem Hp.KR(h:Hp F B w0 L w){b:Nat}(g:w.heap.size≤b)(d:AK e t b w' (ZZ FN [] (ZZ F B Z w0.heap.size L) b [ob A]) A c xs):AK e t w0.heap.size w' (ZZ F B Z w0.heap.size (ob A::L)) A c xs:=
 (d.base (n1:=w0.heap.size) fun k a=>Nat.le_trans h.sz (Nat.le_trans g (d.ge k a))).up (h.call g (fun k a=>by
  rw[List.mem_singleton] at a;exact .inr (d.ge k a.symm)) fun x f=>by
  rcases List.mem_cons.1 f with e|f
  ·exact .inr (by rw[e];exact List.mem_singleton_self _)
  ·exact .inl f)
end
def i64(x:Int):Option Int:=if-9223372036854775808≤x∧x≤9223372036854775807 then some x else none
theorem Ob{x y:Int}(h:i64 x=some y):y=x∧fits x:=by
 unfold i64 at h;split at h
 ·exact⟨(Option.some.inj h).symm,by assumption⟩
 ·cases h
theorem PD{x:Int}(h0:-9223372036854775808≤x)(a:x≤9223372036854775807):i64 x=some x:=if_pos ⟨h0,a⟩
def idx{α:Type}(xs:List α)(i:Int):Option α:=if 0≤i then xs[i.toNat]? else none
theorem Oc{α:Type}{xs:List α}{i:Int}{x:α}(h:idx xs i=some x):∃k:Nat,i=k∧xs[k]?=some x∧k<xs.length:=by
 unfold idx at h;split at h
 ·exact⟨i.toNat,by omega,h,(List.getElem?_eq_some_iff.1 h).1⟩
 ·cases h
theorem idx_eq{α:Type}{xs:List α}{k:Nat}(h:k<xs.length):idx xs (k:Int)=some xs[k]:=by
 unfold idx;rw[if_pos (by omega)];simp[h]
def rem(a b:Int):Option Int:=if 0≤a∧1≤b then some (a%b) else none
theorem Od{a b y:Int}(h:rem a b=some y):y=a%b∧0≤a∧1≤b:=by
 unfold rem at h;split at h
 ·exact⟨(Option.some.inj h).symm,by assumption⟩
 ·cases h
theorem Bj{α:Type}{x:Int}{f:Int→Option α}{r:α}(h:(i64 x).bind f=some r):fits x∧f x=some r:=by
 obtain⟨y,a,b⟩:=Option.bind_eq_some_iff.1 h;obtain⟨rfl,c⟩:=Ob a;exact⟨c,b⟩
theorem BB{α β:Type}{xs:List α}{i:Int}{f:α→Option β}{r:β}(h:(idx xs i).bind f=some r):∃(k:Nat) (x:α),i=k∧xs[k]?=some x∧k<xs.length∧f x=some r:=by
 obtain⟨x,a,b⟩:=Option.bind_eq_some_iff.1 h;obtain⟨k,c,d,e⟩:=Oc a;exact⟨k,x,c,d,e,b⟩
theorem Oe{α:Type}{a b:Int}{f:Int→Option α}{r:α}(h:(rem a b).bind f=some r):(0≤a∧1≤b)∧f (a%b)=some r:=by
 obtain⟨y,c,d⟩:=Option.bind_eq_some_iff.1 h;obtain⟨rfl,e⟩:=Od c;exact⟨e,d⟩
def GA (p:Prop) [Decidable p]:Option Unit:=if p then some () else none
theorem Ew{α:Type}{p:Prop}[Decidable p]{f:Unit→Option α}{r:α}(h:(GA p).bind f=some r):p∧f ()=some r:=by
 unfold GA at h;split at h
 ·exact⟨by assumption,h⟩
 ·cases h
theorem AF{α:Type}{b:Bool}{x y:Option α}{r:α}(h:cond b x y=some r)(a:b=true):x=some r:=by subst a;exact h
theorem AG{α:Type}{b:Bool}{x y:Option α}{r:α}(h:cond b x y=some r)(a:b=false):y=some r:=by subst a;exact h
theorem bind_some{α β:Type}{x:Option α}{f:α→Option β}{r:β}(h:x.bind f=some r):∃a,x=some a∧f a=some r:=Option.bind_eq_some_iff.1 h
theorem E0{α β a:Type}{x:α}{f:α→Option a}{g:β→Option a}{r:a}(h:Sum.elim f g (.inl x)=some r):f x=some r:=h
theorem E1{α β a:Type}{x:β}{f:α→Option a}{g:β→Option a}{r:a}(h:Sum.elim f g (.inr x)=some r):g x=some r:=h
theorem OX{P:Program}{ro:Option Nat}{c:Code}{Q d:Exit→Act→World→Prop}{a:Act}{w:World}(h:CW P ro c Q a w)(i:∀e a w,Q e a w→d e a w):CW P ro c d a w:=by
 intro b k cs f l g;obtain⟨e,m,n,o,p⟩:=h b k cs f l g;exact⟨e,m,n,i _ _ _ o,p⟩
theorem Da {P:Program} {X:Ctx} {N:Nat} {c:Code} {Q:Exit→Act→World→Prop} {a:Act} {l:Env} {w:World} (d:Exit→Act→World→Prop) (h:CC P X N c d a l w) (b:∀e a w,d e a w→Q e a w):CC P X N c Q a l w:=
 fun s=>OX (h s) b
theorem C3{X:Ctx}{N:Nat}{Q:Exit→Act→World→Prop}{e:Exit}{a:Act}{w:World}(b:a.tmps.size=N)(c:a.defers=X.ds)(h:LV X N Q e a [] w):Q e a w:=h ⟨b,c,fun _ d=>by cases d⟩
theorem CI{X:Ctx}{N:Nat}{Q:Exit→Act→World→Prop}{e:Exit}{a:Act}{l:Env}{w:World}(h:St X N a l→Q e (BK a l) w):LV X N Q e a l w:=h
section
variable{P:Program}{a:Act}{w:World}{dst:Option Tmp}{ty:TypeId}{pos:String}{BV:Array Edge}{g:Option (Nat×Bool)}
theorem GC {t:TypeId} {x:Operand} {Z:Nat→Prop} {b o k:Nat} {cs:List Value} {v:Value} (h:One P t) (c:a.eval x=.pointer (some ⟨b,o+k,none⟩)) (d:Rz w Z (some ⟨b,o,none⟩) cs) (e:cs[k]?=some v):
  BD P ⟨dst,.load t x,ty,pos,BV,g⟩ a w (fun u w'=>u=v∧w'=w):=Ky h c d.cells e
theorem CK{t:TypeId}{x:Operand}{Z:Nat→Prop}{b o:Nat}{cs:List Value}{v:Value}(h:One P t)(c:a.eval x=.pointer (some ⟨b,o,none⟩))(d:Rz w Z (some ⟨b,o,none⟩) cs)(e:cs[0]?=some v):
  BD P ⟨dst,.load t x,ty,pos,BV,g⟩ a w (fun u w'=>u=v∧w'=w):=Ky (k:=0) h c d.cells e
theorem DX{t:TypeId}{x:Operand}{Z:Nat→Prop}{n b o:Nat}{cs l:List Value}(h:DH P t n)(c:a.eval x=.pointer (some ⟨b,o,none⟩))(d:Rz w Z (some ⟨b,o,none⟩) cs)
  (e:cs.take n=l)(f:l.length=n):BD P ⟨dst,.load t x,ty,pos,BV,g⟩ a w (fun u w'=>u=.agg l.toArray∧w'=w):=MB (k:=0) h c d.cells (by simpa using e) f
theorem Lf {α:Type} {e:DC α} {s x:Operand} {t r:TypeId} {z:Value} {sz bytes:Nat} (aP:P.underlying t=some (.slice r)) (hi:(P.info? r).map (fun i=>(i.zero,i.size,i.bytes))=some (some z,sz,bytes)) (aE:z.cells.size=sz) (aF:e.sz=sz) (h0:0<sz)
  {n0:Nat} {Z:Nat→Prop} {A B:Option Addr} {c d n:Nat} {xs ys:List α} (aQ:a.eval s=.slice A n c) (aR:xs.length=n) (aS:a.eval x=.slice B ys.length d) (aC:AK e r n0 w Z A c xs) (aG:∃AV,R2 e w Z AV ys∧Rz w ZA B AV.flatten)
  (aH:xs.length+ys.length≤maxLen) (l:(xs.length+ys.length)*bytes≤140737488355328) (y:n0≤w.heap.size) (aI:ys≠[]):
  BD P ⟨dst,.call {callee:=.builtin .append,args:= #[s,x],argTypes:= #[t,t]},ty,pos,BV,g⟩ a w (fun v w'=>∃p aA,v=.slice p (xs++ys).length aA∧w.grownBy w' (ob A)∧(∀k,ob p=some k→(ob A=some k∨w.heap.size≤k)∧k<w'.heap.size)∧
   ∃AV f,R2 e w Z AV xs∧R2 e w Z f ys∧Dm w' n0 r e.sz p (xs++ys).length aA (AV++f).flatten):=by
 obtain⟨AV,aT,aU⟩:=aC;obtain⟨f,aB,aV⟩:=aG;subst aF;subst aR;have aJ:f.flatten≠[]:=fun aW=>by
  have:=aB.H8;rw[aW] at this;have aX:0<ys.length:=List.length_pos_iff.2 aI;have:=Nat.mul_pos aX h0;simp at*;omega
 obtain⟨b,o,rfl,-,-,aY⟩:=aV.resolve_left aJ;refine(Na (ad:=⟨b,o,none⟩) (news:=f.flatten) (m:=ys.length) aP hi aE h0 aQ aS aU (fun j u hu=>by rw[FP];exact aY j u hu) aB.H8 aB.one aH l y).mono ?_;rintro v w' ⟨p,aA,rfl,q,aK,-,aZ⟩;rw[PA] at aK;refine⟨p,aA,by rw[List.length_append],aK,fun k aL=>?_,AV,f,aT,aB,by rw[List.length_append,List.flatten_append];exact q⟩;have a4:=q.It (k:=k) (o:=0);rcases q.2 with⟨aD,_⟩|⟨aM,a0,a2,aD,_,aN,_⟩
 ·obtain⟨rfl,-,-⟩:=Value.slice.inj aD;cases aL
 ·cases aD;have aO:aM=k:=by simpa[ob] using aL
  subst aO;refine⟨?_,lt_of_block aN⟩;rcases aZ aM 0 rfl with⟨o',a3⟩|h
  ·left;rw[a3];rfl
  ·exact .inr h
theorem Hb{α:Type}{e:DC α}{t:TypeId}{n0:Nat}{w w':World}{Z Z':Nat→Prop}{A:Option Addr}{c:Nat}{xs ys:List α}
  (h:∃AV a,R2 e w Z AV xs∧R2 e w Z a ys∧Dm w' n0 t e.sz A (xs++ys).length c (AV++a).flatten)(hm:Mv w Z w' Z'):AK e t n0 w' Z' A c (xs++ys):=by
 obtain⟨AV,a,b,d,f⟩:=h;exact⟨AV++a,(b.mv hm).append (d.mv hm),f⟩
theorem Sl.news{α:Type}{e:DC α}{Z:Nat→Prop}{A:Option Addr}{c:Nat}{xs:List α}(h:Sl e w Z A c xs):∃AV,R2 e w Z AV xs∧Rz w ZA A AV.flatten:=by
 obtain⟨_,_,AV,a,b⟩:=h;exact⟨AV,a,b.mv IE⟩
theorem OY {α:Type} {e:DC α} {Z:Nat→Prop} {b:Nat} {t:TypeId} {cs:Array Value} {AV:List (List Value)} {xs:List α} (a:Bk w b t cs) (h:R2 e w Z AV xs) (c:AV.flatten=cs.toList):∃AV,R2 e w Z AV xs∧Rz w ZA (some ⟨b,0,none⟩) AV.flatten:=
 ⟨AV,h,.inr ⟨b,0,rfl,trivial,a.lt,fun j u hu=>by rw[Nat.zero_add,a.cell];rw[c] at hu;simpa using hu⟩⟩
theorem Cn{α:Type}{e:DC α}{Z:Nat→Prop}{b:Nat}{t:TypeId}{cs:Array Value}{AV:List (List Value)}{xs:List α}(a:Bk w b t cs)(d:Z b)(h:R2 e w Z AV xs)(f:AV.flatten=cs.toList){c:Nat}(g:xs.length≤c):Sl e w Z (some ⟨b,0,none⟩) c xs:=
 ⟨g,(fun e=>by cases e),AV,h,.inr ⟨b,0,rfl,d,a.lt,fun j u hu=>by rw[Nat.zero_add,a.cell];rw[f] at hu;simpa using hu⟩⟩
end
end Go.Proofs.Ytkljfdkmjdjpfaa
end
section
namespace Go.Proofs.Ytkljfdkmjdjpfaa
open Go.RowKit
def Ia(D:Nat→Bool)(i:Nat):Nat→Bool:=fun j=>cond (Nat.beq j i) true (D j)
def Ib(V:Nat→Value)(i:Nat)(v:Value):Nat→Value:=fun j=>cond (Nat.beq j i) v (V j)
theorem Nd(D:Nat→Bool)(i:Nat):Ia D i i=true:=by unfold Ia;rw[Nat.beq_refl];rfl
theorem OZ(D:Nat→Bool){i j:Nat}(h:j≠i):Ia D i j=D j:=by
 have:Nat.beq j i=false:=by
  cases a:Nat.beq j i with
  |false=>rfl
  |true=>exact absurd (Nat.eq_of_beq_eq_true a) h
 unfold Ia;rw[this];rfl
theorem Nf(V:Nat→Value)(i:Nat)(v:Value):Ib V i v i=v:=by unfold Ib;rw[Nat.beq_refl];rfl
theorem O0(V:Nat→Value){i j:Nat}(v:Value)(h:j≠i):Ib V i v j=V j:=by
 have:Nat.beq j i=false:=by
  cases a:Nat.beq j i with
  |false=>rfl
  |true=>exact absurd (Nat.eq_of_beq_eq_true a) h
 unfold Ib;rw[this];rfl
structure Ja (L:List Oper) (a:Act) (l:Env) (D:Nat→Bool) (V:Nat→Value) (k:Nat) (o:Oper) (a':Act):Prop where
 out:∀s,isDst L s=false→sl a' s=lk (sl a s) l s
 AN:∀j d,Ev o j=true→BY L j=some d→sl a' d=V j
 dn:∀j,Ev o j=true→D j=true
 me:D k=false
 down:∀j o',L[j]?=some o'→D j=true→∀k',Ev o' k'=true→D k'=true
theorem Ja.no{L:List Oper}{a:Act}{l:Env}{D:Nat→Bool}{V:Nat→Value}{k:Nat}{o:Oper}{a':Act}(K:Ja L a l D V k o a')(j:Nat)(o':Oper)(b:L[j]?=some o')(h:Ev o' k=true):D j=false:=by
 cases c:D j with
 |false=>rfl
 |true=>have:=K.down j o' b c k h;rw[K.me] at this;cases this
theorem Ja.later {N:Nat} {L:List Oper} {a:Act} {l:Env} {D:Nat→Bool} {V:Nat→Value} {k:Nat} {o:Oper} {a':Act} (K:Ja L a l D V k o a') (g:Iw N L=true) (e:∀s,(∀j,BY L j=some s→D j=false)→sl a' s=lk (sl a s) l s)
  (j d:Nat) (o':Oper) (f:L[j]?=some o') (b:o'.dst=some d) (c:Ev o' k=true):sl a' d=lk (sl a d) l d:=e d fun i hi=>by
 have h:BY L j=some d:=by simp[BY,f,b]
 obtain rfl:=(GK g j i d h).2 hi;exact K.no j o' f c
section
variable(P:Program)(L:List Oper)(a:Act)(l:Env)(I:(Nat→Bool)→(Nat→Value)→World→Prop)
structure MH (D:Nat→Bool) (V:Nat→Value) (k:Nat) (o:Oper) (a':Act):Prop extends Ja L a l D V k o a' where
 later:∀(j d:Nat) (o':Oper),L[j]?=some o'→o'.dst=some d→Ev o' k=true→sl a' d=lk (sl a d) l d
def MI(k:Nat)(o:Oper):Prop:=∀D V a' w',MH L a l D V k o a'→I D V w'→
 (Region.wanted o (yielded L.toArray a'.tmps)=true∧BD P o a' w' (fun v Bp=>I (Ia D k) (Ib V k v) Bp))∨
 (Region.wanted o (yielded L.toArray a'.tmps)=false∧I (Ia D k) (Ib V k undef) w')
def Lg:Nat→Nat→List Oper→Prop
 |0,_,_=>True
 |_+1,_,[]=>True
 |m+1,k,o::R=>MI P L a l I k o∧Lg m (k+1) R
def Lh:Nat→Nat→List Oper→(Nat→Value)→Env→Env
 |0,_,_,_,l=>l
 |_+1,_,[],_,l=>l
 |m+1,k,o::R,V,l=>match o.dst with
  |some d=>Lh m (k+1) R V ((d,V k)::l)
  |none=>Lh m (k+1) R V l
end
section
variable{P:Program}{X:Ctx}{N:Nat}{L:List Oper}{Q:Exit→Act→World→Prop}{a:Act}{l:Env}{w:World}{I:(Nat→Bool)→(Nat→Value)→World→Prop}{k:Nat}{o:Oper}
theorem sj(b:o.guard=none)(h:∀D V a' w',MH L a l D V k o a'→I D V w'→BD P o a' w' (fun v Bp=>I (Ia D k) (Ib V k v) Bp)):MI P L a l I k o:=
 fun D V a' w' K c=>.inl ⟨by unfold Region.wanted;rw[b],h D V a' w' K c⟩
theorem JP:∀{m:Nat} {R:List Oper} {k:Nat},Lg P L a l I m k R→∀(i:Nat) (o:Oper),i<m→R[i]?=some o→MI P L a l I (k+i) o
 |0,_,_,_,i,o,hi,_=>absurd hi (by omega)
 |_+1,[],_,_,i,o,_,b=>by simp at b
 |m+1,o'::R,k,h,i,o,hi,b=>by
  cases i with
  |zero=>
   obtain rfl:o'=o:=by simpa using b
   exact h.1
  |succ i=>
   have:=JP h.2 i o (by omega) (by simpa using b);rw[Nat.add_assoc,Nat.add_comm 1 i] at this;exact this
theorem Li{V:Nat→Value}{G:Env→Prop}{w':World}:∀(m:Nat) (R:List Oper) (k:Nat) (b:Env),G (Lh m k R V b)→H0 X N a (fun k v _=>v=V k) (fun _ _=>True) G w' m k R b
 |0,_,_,_,h=>fun _=>h
 |_+1,[],_,_,h=>fun _=>h
 |m+1,o::R,k,b,h=>by
  simp only[H0];simp only[Lh] at h;cases c:o.dst with
  |none=>rw[c] at h;exact Li m R (k+1) b h
  |some d=>rw[c] at h;rintro v rfl;exact Li m R (k+1) _ h
theorem Mc{id:Nat}(m:Nat)(I:(Nat→Bool)→(Nat→Value)→World→Prop)(hm:P.follows .mixedOrders=true)(aW:I7 N L []=true)(a9:(Nat.ble m L.length&&Hf L m)=true)(h0:I (fun _=>false) (fun _=>undef) w.drew)
  (b1:Lg P L a l I m 0 L)(bH:∀D V w',(∀j,Nat.blt j m=true→D j=true)→I D V w'→WL P X N L.toArray Q (L.drop m) a (Lh m 0 L V l) w'):CC P X N (.region id L.toArray true) Q a l w:=fun st=>
 wpIn_region_any hm (by
  have aQ:=aW;simp only[I7,Bool.and_eq_true] at aQ;obtain⟨⟨aR,bA⟩,_⟩:=aQ;rw[Bool.and_eq_true] at a9;obtain⟨bI,bB⟩:=a9;have bJ:m≤L.length:=Nat.le_of_ble_eq_true bI;have aG:=GK bA;have fin:∀(fuel:Nat) (listed:Array Bool) (a':Act) (w':World) (D:Nat→Bool) (V:Nat→Value),listed.toList.count false≤fuel→listed.size=L.length→a'.tmps.size=N→a'.defers=X.ds→
    (∀s,(∀j,BY L j=some s→listed.getD j false=false)→sl a' s=lk (sl a s) l s)→(∀j d,listed.getD j false=true→BY L j=some d→sl a' d=V j)→(∀j,j<L.length→D j=listed.getD j false)→
    I D V w'→(∀j,m≤j→listed.getD j false=false)→(∀j,j<m→listed.getD j false=true)→wpAnyIn (Wd X.ro) 0 P .any L.toArray Q fuel listed a' w':=by
   intro fuel listed a' w' D V aX z aA aE r q aB aV c aN;have bK:wpListIn (Wd X.ro) 0 P L.toArray Q (L.drop m) a' w':=by
    refine I8 (K:=wpListIn (Wd X.ro) 0 P L.toArray Q (L.drop m) a' w') (X:=X) (N:=N) (Φ:=fun k v _=>v=V k) (fun _ _=>True) (fun bL=>WL P X N L.toArray Q (L.drop m) a bL w') w' a' trivial aA aE (fun bL bM b2 e=>by rw[e];exact b2 bM) m L 0 l st bJ (fun i d hi=>(aG i i d hi).1) (fun i j d hi b=>(aG i j d hi).2 b)
     (Li m L 0 l (bH D V w' (fun j b=>by
      have aK:j<m:=by simpa[Nat.blt_eq] using b
      rw[aB j (by omega)];exact aN j aK) aV)) (fun i d aY aO=>?_) (fun s t=>?_)
    ·rw[Nat.zero_add];exact q i d (aN i aY) aO
    ·refine r s fun j b=>?_;rcases Nat.lt_or_ge j m with h|h
     ·exact absurd b (t j h)
     ·exact c j h
   refine K8 bB aR (L.drop m) m fuel listed a' w' rfl (Nat.le_refl _) ?_ z (fun i hi=>?_) bK
   ·refine Nat.le_trans ?_ aX;have e:listed.toList.drop m=List.replicate (L.length-m) false:=by
     apply List.ext_getElem
     ·simp[z]
     ·intro i aH aP;simp at aH;have:=c (m+i) (by omega);rw[Array.getD_eq_getD_getElem?,Array.getElem?_eq_getElem (by omega)] at this;simpa using this
    have aP:(listed.toList.drop m).count false≤listed.toList.count false:=(List.drop_sublist m listed.toList).count_le false;rw[e,List.count_replicate_self] at aP;simpa using aP
   ·rcases Nat.lt_or_ge i m with h|h
    ·simp[aN i h,h]
    ·simp only[c i h];constructor
     ·intro aZ;cases aZ
     ·intro aZ;omega
  have main:∀(fuel:Nat) (listed:Array Bool) (a':Act) (w':World) (D:Nat→Bool) (V:Nat→Value),listed.toList.count false≤fuel→listed.size=L.length→a'.tmps.size=N→a'.defers=X.ds→
    (∀s,(∀j,BY L j=some s→listed.getD j false=false)→sl a' s=lk (sl a s) l s)→(∀j d,listed.getD j false=true→BY L j=some d→sl a' d=V j)→(∀j,j<L.length→D j=listed.getD j false)→
    (∀(j:Nat) (o:Oper),L[j]?=some o→listed.getD j false=true→∀e∈o.after,Region.binds .any e=true→listed.getD e.on false=true)→I D V w'→(∀j,m≤j→listed.getD j false=false)→wpAnyIn (Wd X.ro) 0 P .any L.toArray Q fuel listed a' w':=by
   intro fuel
   induction fuel with
   |zero=>
    intro listed a' w' D V aX z aA aE r q aB y aV c;refine fin 0 listed a' w' D V aX z aA aE r q aB aV c fun j b=>?_;have aK:j<listed.size:=by omega
    cases u:listed[j] with
    |true=>simp[aK,u]
    |false=>
     have:false∈listed.toList:=by rw[←u];simp
     have:=List.count_pos_iff.2 this;omega
   |succ fuel ih=>
    intro listed a' w' D V aX z aA aE r q aB y aV c
    by_cases aS:∀j,j<m→listed.getD j false=true
    ·exact fin (fuel+1) listed a' w' D V aX z aA aE r q aB aV c aS
    have hex:∃j,j<m∧listed.getD j false=false:=by
     false_or_by_contra
     rename_i bN
     refine aS fun j b=>?_;cases u:listed.getD j false with
     |true=>rfl
     |false=>exact absurd ⟨j,b,u⟩ bN
    constructor
    ·intro b3;exfalso;obtain⟨j,b,u⟩:=hex;refine absurd u ?_;rw[Bool.not_eq_false];clear u
     induction j using Nat.strongRecOn with
     |_ j bO=>
      cases u:listed.getD j false with
      |true=>rfl
      |false=>
       exfalso;have aK:j<listed.size:=by omega
       have hm:j∈Region.ready .any L.toArray listed:=mem_ready.2 ⟨by simp[aK] at u⊢;exact u,L[j],by simp,fun e he g=>by
        have aH:=DI aR j L[j] (List.getElem?_eq_getElem (by omega)) e he g;exact bO e.on (by omega) (by omega)⟩
       rw[b3] at hm;cases hm
    ·intro i hi;obtain⟨h0,o,bP,aI⟩:=mem_ready.1 hi;have aC:L[i]?=some o:=by simpa using bP
     have bQ:i<L.length:=(List.getElem?_eq_some_iff.1 aC).1;have aF:i<listed.size:=by omega
     have aT:listed.getD i false=false:=by simp[aF] at h0⊢;exact h0
     have aY:i<m:=by
      rcases Nat.lt_or_ge i m with h|h
      ·exact h
      ·obtain⟨j,b,u⟩:=hex;have:=H2 (p:=fun x=>listed.getD x false=true) (fun d od bR aL k aW=>by
        obtain⟨e,he,g,aD⟩:=D1.1 aW;have:=y d od bR aL e he g
        rwa[aD] at this) (HG bB aC h j (by omega)) (fun b4 bC k aW=>by
        rw[aC] at bC;obtain rfl:o=b4:=by simpa using bC
        obtain⟨e,he,g,aD⟩:=D1.1 aW;have:=aI e he g
        rwa[aD] at this)
       rw[u] at this;cases this
     have aL:∀j,Ev o j=true→listed.getD j false=true∧j<L.length:=fun j b=>by
      obtain⟨e,he,g,aD⟩:=D1.1 b;have aH:=aI e he g;have aP:=DI aR i o aC e he g;rw[aD] at aH aP;exact⟨aH,by omega⟩
     have bD:Ja L a l D V i o a':=by
      refine⟨fun s t=>r s fun j b=>?_,fun j d b aO=>q j d (aL j b).1 aO,fun j b=>by rw[aB j (aL j b).2];exact(aL j b).1,by rw[aB i bQ];exact aT,fun j bS b bE k' aQ=>?_⟩
      ·have:=Ix.2 ⟨j,b⟩;rw[t] at this;cases this
      ·have a0:j<L.length:=(List.getElem?_eq_some_iff.1 b).1;rw[aB j a0] at bE;obtain⟨e,he,g,aD⟩:=D1.1 aQ;have aH:=y j bS b bE e he g;have aP:=DI aR j bS b e he g;rw[aD] at aH aP;rw[aB k' (by omega)];exact aH
     have hK:MH L a l D V i o a':=⟨bD,bD.later bA fun s t=>r s fun j b=>by
      have a0:j<L.length:=by
       unfold BY at b;cases bT:L[j]? with
       |none=>rw[bT] at b;cases b
       |some o=>exact(List.getElem?_eq_some_iff.1 bT).1
      rw[←aB j a0];exact t j b⟩
     have aJ:BY L i=o.dst:=by simp[BY,aC]
     have step:∀v Bp,I (Ia D i) (Ib V i v) Bp→wpAnyIn (Wd X.ro) 0 P .any L.toArray Q fuel (listed.setIfInBounds i true) (a'.put o.dst v) Bp:=by
      intro v Bp a2;have a3:∀s,(∀d,o.dst=some d→d≠s)→sl (a'.put o.dst v) s=sl a' s:=by
       intro s t;cases aO:o.dst with
       |none=>rfl
       |some d=>exact IA (t d aO)
      refine ih _ _ _ (Ia D i) (Ib V i v) ?_ (by simp[z]) ?_ ?_ ?_ ?_ ?_ ?_ a2 (fun j b=>by rw[C2 (by omega)];exact c j b)
      ·have aU:i<listed.toList.length:=by simpa using aF
       have a4:listed.toList[i]=false:=by
        simp[aF] at aT;simpa using aT
       have bU:(listed.setIfInBounds i true).toList=listed.toList.set i true:=by simp
       rw[bU,List.count_set aU,a4];have aH:0<listed.toList.count false:=List.count_pos_iff.2 (by rw[←a4];exact List.getElem_mem aU);have b5:(if (false==false)=true then 1 else 0)=1:=rfl;have b6:(if (true==false)=true then 1 else 0)=0:=rfl;rw[b5,b6];omega
      ·cases o.dst<;>simp[Act.put,aA]
      ·cases o.dst<;>simp[Act.put,aE]
      ·intro s t;rw[a3 s (fun d aO bV=>by
        subst bV;have:=t i (by rw[aJ,aO]);rw[EI aF] at this;cases this)]
       refine r s fun j b=>?_;have:=t j b
       by_cases n:i=j
       ·subst n;exact aT
       ·rwa[C2 n] at this
      ·intro j d b aM
       by_cases n:i=j
       ·subst n;rw[aJ] at aM;have aU:d<a'.tmps.size:=by rw[aA];exact(aG i i d (by rw[aJ,aM])).1
        rw[aM,Jn aU,Nf]
       ·rw[C2 n] at b;have:sl (a'.put o.dst v) d=sl a' d:=by
         refine a3 d fun b7 bW bX=>?_;subst bX;exact n ((aG i j b7 (by rw[aJ,bW])).2 aM)
        rw[this,O0 _ _ (Ne.symm n)];exact q j d b aM
      ·intro j b
       by_cases n:i=j
       ·subst n;rw[Nd,EI aF]
       ·rw[OZ _ (Ne.symm n),C2 n];exact aB j b
      ·intro j bY b bF e he g
       by_cases bG:i=e.on
       ·rw[←bG];exact EI aF
       ·rw[C2 bG]
        by_cases n:i=j
        ·subst n;rw[aC] at b;obtain rfl:o=bY:=by simpa using b
         exact aI e he g
        ·rw[C2 n] at bF;exact y j bY b bF e he g
     have b8:=JP b1 i o aY aC;unfold wpOpIn;simp only[bP];rcases b8 D V a' w' (by rw[Nat.zero_add];exact hK) aV with⟨hw,bZ⟩|⟨hw,hu⟩
     ·rw[if_pos hw];rw[Nat.zero_add] at bZ;exact bZ.wp fun v Bp a2=>step v Bp a2
     ·rw[if_neg (by rw[hw];simp)];rw[Nat.zero_add] at hu;exact⟨fun f _=>KO X.ro f,step undef w' hu⟩
  have a5:∀j,(Array.replicate L.length false).getD j false=false:=by
   intro j;rw[Array.getD_eq_getD_getElem?];rcases Nat.lt_or_ge j L.length with h|h
   ·simp[h]
   ·simp[h]
  have e:L.toArray.size=L.length:=by simp
  rw[e];refine main L.length (Array.replicate L.length false) (BK a l) w.drew (fun _=>false) (fun _=>undef) (Nat.le_trans (List.count_le_length ..) (by simp)) (by simp) (by rw[GQ,st.sz]) (by rw[C5,st.df]) (fun s _=>GB st s) (fun j d h=>?_) (fun j _=>(a5 j).symm) (fun j o h aZ=>?_) h0 (fun j _=>a5 j)
  ·rw[a5 j] at h;cases h
  ·rw[a5 j] at aZ;cases aZ)
end
end Go.Proofs.Ytkljfdkmjdjpfaa
end
section
namespace Go.Proofs.Ytkljfdkmjdjpfaa
open Go.RowKit Go.WideShapes
section
variable{P:Program}{L:List Oper}{a:Act}{l:Env}{T:Nat→Act→World→Prop}{Φ:Nat→Value→World→Prop}{sp:List Nat}{S:Nat→World→World→Prop}{k:Nat}{op:Op}{ty:TypeId}{pos:String}{BV:Array Edge}{dst:Option Nat}
theorem od{c:Value}(b:sp.contains k=false)(d:∀w,Φ k c w)(h:∀{a' w' ph},He L a l T Φ sp k ⟨dst,op,ty,pos,BV,none⟩ a' w' ph→BD P ⟨dst,op,ty,pos,BV,none⟩ a' w' (fun u Bp=>u=c∧Bp=w')):DS P L a l S T Φ sp k ⟨dst,op,ty,pos,BV,none⟩:=
 Py rfl b d fun _ _ _ K=>h K
end
def Lj(P:Program)(a:Act)(l:Env)(w:World):ResultVar→Value→Prop
 |.tmp t,v=>ev a l (.tmp t)=v
 |.cell p t,v=>∃ad,ev a l (.tmp p)=.pointer (some ad)∧(loadVar t ad).run P w=.ok v w
section
variable{P:Program}{N:Nat}{a:Act}{l:Env}{w:World}
theorem Lk{fn:Func}{r1 r2:ResultVar}{v v':Value}{R:Value→World→Prop}(d:fn.results= #[r1,r2])(k:Lj P a l w r1 v)(f:Lj P a l w r2 v')(h:R (.tuple #[v,v']) w):
  LV X0 N (bodyPost P fn (fun e w'=>∃v,e=.returned v∧R v w')) .ret a l w:=fun s=>by
 refine bodyPost_ret (v:=.tuple #[v,v']) ?_ (by rw[C5,s.df]) ⟨_,rfl,h⟩;cases r1 with
 |tmp t=>
  have c:(BK a l).tmps.getD t undef=v:=ee s k;simp only[Array.getD_eq_getD_getElem?] at c;cases r2 with
  |tmp u=>
   have b:(BK a l).tmps.getD u undef=v':=ee s f;simp only[Array.getD_eq_getD_getElem?] at b;simp[results,d,c,b]
  |cell p t=>
   obtain⟨ad,i,g⟩:=f;have b:(BK a l).tmps.getD p undef=.pointer (some ad):=ee s i;simp only[Array.getD_eq_getD_getElem?] at b;simp[results,d,c,b,asAddr,g]
 |cell q t=>
  obtain⟨m,i,g⟩:=k;have c:(BK a l).tmps.getD q undef=.pointer (some m):=ee s i;simp only[Array.getD_eq_getD_getElem?] at c;cases r2 with
  |tmp u=>
   have b:(BK a l).tmps.getD u undef=v':=ee s f;simp only[Array.getD_eq_getD_getElem?] at b;simp[results,d,c,b,asAddr,g]
  |cell p t=>
   obtain⟨ad,n,o⟩:=f;have b:(BK a l).tmps.getD p undef=.pointer (some ad):=ee s n;simp only[Array.getD_eq_getD_getElem?] at b;simp[results,d,c,b,asAddr,g,o]
end
def Hm(a n:Int):Int:=a*2^n.toNat
def MJ(a n:Int):Option Unit:=if 0≤n∧n<64∧-9223372036854775808≤a*2^n.toNat∧a*2^n.toNat≤9223372036854775807 then some () else none
theorem Ng{α:Type}{a n:Int}{f:Unit→Option α}{r:α}(h:(MJ a n).bind f=some r):(0≤n∧n<64∧fits (Hm a n))∧f ()=some r:=by
 unfold MJ at h;split at h
 ·rename_i b;exact⟨⟨b.1,b.2.1,b.2.2⟩,h⟩
 ·cases h
def EP(a n:Int):Int:=a/2^n.toNat
def MK(a n:Int):Option Unit:=if 0≤n∧n<64 then some () else none
theorem Nh{α:Type}{a n:Int}{f:Unit→Option α}{r:α}(h:(MK a n).bind f=some r):(0≤n∧n<64)∧f ()=some r:=by
 unfold MK at h;split at h
 ·exact⟨by assumption,h⟩
 ·cases h
section
variable{P:Program}{a:Act}{w:World}{dst:Option Tmp}{ty:TypeId}{pos:String}{BV:Array Edge}{g:Option (Nat×Bool)}
theorem QK{x y:Operand}{m n:Int}{k:IntKind}{t b:TypeId}(c:a.eval x=.int .i64 m)(d:a.eval y=.int k n)(h:0≤n∧n<64∧fits (Hm m n)):BD P ⟨dst,.binOp .shl t x y b,ty,pos,BV,g⟩ a w (fun u w'=>u=.int .i64 (Hm m n)∧w'=w):=
 Cj (by
  have e:¬n<0:=by omega
  have f:min n.toNat IntKind.i64.bits=n.toNat:=by
   have:IntKind.i64.bits=64:=rfl;omega
  have i:IntKind.i64.wrap (m*2^n.toNat)=m*2^n.toNat:=HZ h.2.2;simp[execOp,c,d,eqGuard,binOp,Op.shift,e,f,i,Hm])
theorem QL{x y:Operand}{m n:Int}{k:IntKind}{t b:TypeId}(c:a.eval x=.int .i64 m)(d:a.eval y=.int k n)(h:0≤n∧n<64):BD P ⟨dst,.binOp .shr t x y b,ty,pos,BV,g⟩ a w (fun u w'=>u=.int .i64 (EP m n)∧w'=w):=
 Cj (by
  have e:¬n<0:=by omega
  have f:min n.toNat IntKind.i64.bits=n.toNat:=by
   have:IntKind.i64.bits=64:=rfl;omega
  have i:m.fdiv (2^n.toNat)=m/2^n.toNat:=Int.fdiv_eq_ediv_of_nonneg m (Int.le_of_lt (Int.pow_pos (by decide)));simp[execOp,c,d,eqGuard,binOp,Op.shift,e,f,i,EP])
theorem QM {x y:Operand} {v1 v2:Value} {x1 x2:List Int} {n:Nat} {t c:TypeId} (d:Jr P t n) (b:P.eqGuardType P.depth t=false) (e:a.eval x=v1) (f:a.eval y=v2) (h:v1=Ep x1) (i:v2=Ep x2) (k:x1.length=n) (l:x2.length=n):
  BD P ⟨dst,.binOp .eql t x y c,ty,pos,BV,g⟩ a w (fun u w'=>u=.bool (x1==x2)∧w'=w):=by
 refine MC e f ?_;subst h;subst i;have m:=d w x1 x2 k l;have o:(eqGuard .eql t x y (Ep x1) (Ep x2)).run P w=.ok () w:=by
  simp[eqGuard,Ep,program,Sem.run,b]
 simp only[Sem.run_bind,o,Result.andThen_ok];show(do pure (Value.bool (←Op.equal t (Ep x1) (Ep x2))):Sem Value).run P w=_;simp only[Sem.run_bind,m,Result.andThen_ok,Sem.run_pure]
theorem QN{x y:Operand}{b c:Bool}{t d:TypeId}(e:∀b c w,(Op.equal t (.bool b) (.bool c)).run P w=.ok (b==c) w)(f:a.eval x=.bool b)(h:a.eval y=.bool c):
  BD P ⟨dst,.binOp .neq t x y d,ty,pos,BV,g⟩ a w (fun u w'=>u=.bool (b !=c)∧w'=w):=by
 refine MC f h ?_;show(do eqGuard .neq t x y (.bool b) (.bool c);pure (Value.bool (!(←Op.equal t (.bool b) (.bool c)))):Sem Value).run P w=_;have i:(eqGuard .neq t x y (.bool b) (.bool c)).run P w=.ok () w:=by simp[eqGuard]
 simp only[Sem.run_bind,i,Result.andThen_ok,e,Sem.run_pure];rfl
theorem JQ {t t2 e:TypeId} (b:P.underlying t=some (.slice e)) {i:TypeInfo} (hi:P.info? e=some i) {A B:Option Addr} {n c d:Nat} (f:n≤c) (h:A=none→n=0) (a:P.underlying t2=some (.slice e)):
  (Builtin.append_ #[t,t2] ty #[.slice A n c,.slice B 0 d]).run P w=.ok (.slice A n c) w:=by
 have g:(Builtin.firstCells i.size 0 (.slice B 0 d)).run P w=.ok #[] w:=by
  cases B with
  |none=>simp[Builtin.firstCells]
  |some ad=>simp[Builtin.firstCells,loadCells,loadCellsFrom]
 cases A with
 |none=>simp[Builtin.append_,run_underlying b,run_underlying a,sizeOf,typeInfo,program,Sem.run,hi,Builtin.lenOf,f,g]
 |some ad=>simp[Builtin.append_,run_underlying b,run_underlying a,sizeOf,typeInfo,program,Sem.run,hi,Builtin.lenOf,f,g,storeCells]
theorem PE {α:Type} {e:DC α} {s x:Operand} {t h:TypeId} {z:Value} {sz bytes:Nat} (r:P.underlying t=some (.slice h)) (hi:(P.info? h).map (fun i=>(i.zero,i.size,i.bytes))=some (some z,sz,bytes)) (aA:z.cells.size=sz) (aB:e.sz=sz) (h0:0<sz)
  {n0:Nat} {Z:Nat→Prop} {A B:Option Addr} {c d n:Nat} {xs ys:List α} (aC:a.eval s=.slice A n c) (aD:xs.length=n) (aE:a.eval x=.slice B ys.length d) (b:AK e h n0 w Z A c xs) (aK:Sl e w Z B d ys)
  (aF:xs.length+ys.length≤maxLen) (l:(xs.length+ys.length)*bytes≤140737488355328) (o:n0≤w.heap.size):
  BD P ⟨dst,.call {callee:=.builtin .append,args:= #[s,x],argTypes:= #[t,t]},ty,pos,BV,g⟩ a w (fun v w'=>∃u aG,v=.slice u (xs++ys).length aG∧w.grownBy w' (ob A)∧(∀k,ob u=some k→(ob A=some k∨w.heap.size≤k)∧k<w'.heap.size)∧
   ∃AV p,R2 e w Z AV xs∧R2 e w Z p ys∧Dm w' n0 h e.sz u (xs++ys).length aG (AV++p).flatten):=by
 by_cases q:ys=[]
 ·subst q;subst aD;obtain⟨AV,aL,aH⟩:=id b;have f:xs.length≤c∧(A=none→xs.length=0):=by
   rcases aH.2 with⟨y,h0⟩|⟨g,cap,cur,y,_,_,f,_⟩
   ·obtain⟨rfl,-,rfl⟩:=Value.slice.inj y;exact⟨by omega,fun _=>h0⟩
   ·cases y;exact⟨f,fun e=>by cases e⟩
  cases m:P.info? h with
  |none=>simp[m] at hi
  |some i=>
   have aM:=JQ (P:=P) (w:=w) (ty:=ty) (B:=B) (d:=d) r m f.1 f.2 r;have he:(execOp a.eval ⟨dst,.call {callee:=.builtin .append,args:= #[s,x],argTypes:= #[t,t]},ty,pos,BV,g⟩).run P w=.ok (.value (.slice A xs.length c)) w:=by
    have aI:a.eval x=.slice B 0 d:=aE;unfold execOp;simp only[resolve,invoke,builtin,Sem.run_bind,Sem.run_pure,Result.andThen_ok,List.map_toArray,List.map_cons,List.map_nil,aC,aI,aM]
   unfold BD;rw[he];refine⟨A,c,by rw[List.append_nil],World.grownBy.refl w _,fun k aJ=>⟨.inl aJ,b.It k aJ⟩,AV,[],aL,trivial,?_⟩;rw[List.append_nil,List.append_nil];exact aH
 ·exact Lf r hi aA aB h0 aC aD aE b aK.news aF l o q
end
theorem EE:∀(l:List Value) (cs:Array Value) (o j:Nat),o+l.length≤cs.size→(setCells cs o l)[j]?=if o≤j∧j<o+l.length then l[j-o]? else cs[j]?
 |[],cs,o,j,_=>by
  rw[if_neg (by simp only[List.length_nil];omega)];rfl
 |v::l,cs,o,j,h=>by
  rw[List.length_cons] at h;unfold setCells;rw[EE l _ (o+1) j (by simp;omega)]
  by_cases a:o+1≤j∧j<o+1+l.length
  ·rw[if_pos a,if_pos (by simp;omega),show j-o=(j-(o+1))+1 by omega,List.getElem?_cons_succ]
  ·rw[if_neg a,Array.getElem?_setIfInBounds]
   by_cases b:o=j
   ·subst b;rw[if_pos rfl,if_pos (by omega),if_pos (by rw[List.length_cons];omega)];simp
   ·rw[if_neg b,if_neg (by rw[List.length_cons];omega)]
theorem JC{sz:Nat}{b:List Value}(f:b.length=sz)(h0:0<sz):∀(k:Nat) (AV:List (List Value)) (j:Nat),(∀c∈AV,c.length=sz)→k<AV.length→(AV.set k b).flatten[j]?=if k*sz≤j∧j<k*sz+sz then b[j-k*sz]? else AV.flatten[j]?
 |_,[],_,_,h=>by simp at h
 |0,c::AV,j,a,_=>by
  have d:=a c (List.mem_cons_self ..);rw[List.set_cons_zero,List.flatten_cons,List.flatten_cons]
  by_cases h:j<sz
  ·rw[if_pos (by omega),List.getElem?_append_left (by omega)];simp
  ·rw[if_neg (by omega),List.getElem?_append_right (by omega),List.getElem?_append_right (by omega),f,d]
 |k+1,c::AV,j,a,h=>by
  have d:=a c (List.mem_cons_self ..);rw[List.set_cons_succ,List.flatten_cons,List.flatten_cons];have e:(k+1)*sz=k*sz+sz:=by rw[Nat.add_mul];omega
  by_cases i:j<sz
  ·rw[if_neg (by omega),List.getElem?_append_left (by omega),List.getElem?_append_left (by omega)]
  ·rw[List.getElem?_append_right (by omega),List.getElem?_append_right (by omega),d,JC f h0 k AV (j-sz) (fun c hm=>a c (List.mem_cons_of_mem _ hm)) (by simpa using h)]
   by_cases g:k*sz≤j-sz∧j-sz<k*sz+sz
   ·rw[if_pos g,if_pos (by omega),show j-sz-k*sz=j-(k+1)*sz by omega]
   ·rw[if_neg g,if_neg (by omega)]
section
variable{α:Type}{e:DC α}{n0:Nat}{w w':World}{Z Z':Nat→Prop}
theorem R2.lens:∀{AV:List (List Value)} {xs:List α},R2 e w Z AV xs→∀c∈AV,c.length=e.sz
 |[],[],_=>by simp
 |c::cs,_::_,h=>by
  intro d a;rcases List.mem_cons.1 a with rfl|a
  ·exact e.len h.1
  ·exact R2.lens h.2 d a
 |[],_::_,h=>h.elim
 |_::_,[],h=>h.elim
theorem R2.free(a:∀w Z w' Z' cs x,e.R w Z cs x→e.R w' Z' cs x):∀{AV:List (List Value)} {xs:List α},R2 e w Z AV xs→R2 e w' Z' AV xs
 |[],[],_=>trivial
 |_::_,_::_,h=>⟨a _ _ _ _ _ _ h.1,R2.free a h.2⟩
 |[],_::_,h=>h.elim
 |_::_,[],h=>h.elim
end
section
variable{P:Program}{a:Act}{w:World}{dst:Option Tmp}{ty:TypeId}{pos:String}{BV:Array Edge}{g:Option (Nat×Bool)}
theorem JD {α:Type} {e:DC α} {aG t:TypeId} {x y:Operand} {n b o k p off c:Nat} {v:Value} {n0:Nat} {Z:Nat→Prop} {A:Option Addr} {xs:List α} {z z':α} {cs BP l:List Value}
  (aH:AK e aG n0 w Z A c xs) (aK:xs[k]?=some z) (aU:A=some ⟨b,o,none⟩) (aV:p=o+k*e.sz+off) (aW:a.eval x=.pointer (some ⟨b,p,none⟩)) (aX:a.eval y=v) (aY:(P.info? t).map (·.size)=some n) (aZ:v.cells.toList=l) (a0:l.length=n)
  (aL:∀f,e.R w Z f z→f=cs) (bB:cs.length=e.sz) (hle:off+n≤e.sz) (a2:∀u∈l,u.oneCell'=true) (a3:(setCells cs.toArray off l).toList=BP) (aM:e.R w Z BP z'):
  BD P ⟨dst,.store t x y,ty,pos,BV,g⟩ a w (fun _ w'=>w.grownBy w' (ob A)∧∃AV,R2 e w Z AV (xs.set k z')∧Dm w' n0 aG e.sz A (xs.set k z').length c AV.flatten):=by
 obtain⟨AV,m,a4⟩:=aH;subst aU;subst aV;have aN:k<xs.length:=(List.getElem?_eq_some_iff.1 aK).1;obtain⟨f,bC,aO,aP⟩:=m.get aK;obtain rfl:=aL f aO;have hlen:=m.len;have q:=m.lens;have r:BP.length=e.sz:=e.len aM;rcases a4.2 with⟨aQ,h0⟩|⟨bF,cap,cur,aQ,aR,a5,aD,aS,aI,s⟩
 ·omega
 ·cases aQ;have bD:k*e.sz+e.sz≤xs.length*e.sz:=by
   have:(k+1)*e.sz≤xs.length*e.sz:=Nat.mul_le_mul_right _ aN;rw[Nat.add_mul,Nat.one_mul] at this;exact this
  have bE:xs.length*e.sz≤c*e.sz:=Nat.mul_le_mul_right _ aD;have aT:Bk w b aG cur:=a5;refine(AW (BP:=setCells cur (0+k*e.sz+off) l) aW aX aY aT aZ a0 (by omega) a2 rfl).mono ?_;rintro _ w' ⟨s1,s2,a9⟩;have d:=m.set aM k;refine⟨a9,_,d,?_⟩;have aJ:0<e.sz∨e.sz=0:=by omega
  refine⟨by rw[d.H8],.inr ⟨b,c,setCells cur (0+k*e.sz+off) l,rfl,aR,s2,by rw[List.length_set];exact aD,aS,by rw[DF 0];exact aI,?_⟩⟩;rw[List.length_set];rcases aJ with h0|h0
  ·refine List.ext_getElem? fun j=>?_;rw[JC r h0 k AV j q (by omega),List.getElem?_take,Array.getElem?_toList,EE _ _ _ _ (by omega)];have h:∀j:Nat,AV.flatten[j]?=if j<xs.length*e.sz then cur[j]? else none:=fun j=>by
    rw[←s,List.getElem?_take,Array.getElem?_toList]
   have aA:∀i,i<e.sz→cur[k*e.sz+i]?=f[i]?:=fun i hi=>by
    have:=h (k*e.sz+i);rw[if_pos (by omega)] at this;rw[←this,←aP,List.getElem?_take,if_pos hi,List.getElem?_drop]
   have aB:∀i,i<e.sz→BP[i]?=if off≤i∧i<off+l.length then l[i-off]? else f[i]?:=fun i hi=>by
    rw[←a3,Array.getElem?_toList,EE _ _ _ _ (by simp;omega)];simp
   by_cases aC:j<xs.length*e.sz
   ·rw[if_pos aC]
    by_cases aE:k*e.sz≤j∧j<k*e.sz+e.sz
    ·rw[if_pos aE,aB _ (by omega)]
     by_cases aF:0+k*e.sz+off≤j∧j<0+k*e.sz+off+l.length
     ·rw[if_pos aF,if_pos (by omega),show j-(0+k*e.sz+off)=j-k*e.sz-off by omega]
     ·rw[if_neg aF,if_neg (by omega),←aA _ (by omega),show k*e.sz+(j-k*e.sz)=j by omega]
    ·rw[if_neg aE,if_neg (by omega),h,if_pos aC]
   ·rw[if_neg aC,if_neg (by omega),h,if_neg aC]
  ·have bA:(AV.set k BP).flatten=[]:=List.eq_nil_of_length_eq_zero (by rw[d.H8,h0,Nat.mul_zero]);rw[bA,h0,Nat.mul_zero,List.take_zero]
theorem EJ{α:Type}{e:DC α}{t:TypeId}{n0:Nat}{w w':World}{Z Z':Nat→Prop}{A:Option Addr}{c:Nat}{xs:List α}
  (h:∃AV,R2 e w Z AV xs∧Dm w' n0 t e.sz A xs.length c AV.flatten)(hm:Mv w Z w' Z'):AK e t n0 w' Z' A c xs:=by
 obtain⟨AV,a,b⟩:=h;exact⟨AV,a.mv hm,b⟩
end
section
variable{w0 w w':World}{b:Nat}{t:TypeId}{n z:Array Value}{c:Bool}
theorem QO(h:c=false)(a:Bk w b t z):Bk w b t (cond c n z):=by subst h;exact a
theorem QP(h:c=false)(a:Bk w b t (cond c n z)):Bk w b t z:=by subst h;exact a
theorem QQ(h:c=true)(a:Bk w b t (cond c n z)):Bk w b t n:=by subst h;exact a
theorem L1(h:Ext w0 w)(g:FA b w w')(a:w0.heap.size≤b):Ext w0 w':=
 K0 (Px (Below.refl _ _|>fun k=>Pw k h) g a)
end
end Go.Proofs.Ytkljfdkmjdjpfaa
end
section
namespace Go.Proofs.Ytkljfdkmjdjpfaa
open Go.RowKit Go.WideShapes
def Ic (P:Program) (fv:Value) (vs:Array Value) (w:World) (R:Value→World→Prop):Prop:=
 ∀(a:Act) (dst:Option Tmp) (f:Operand) (xs:Array Operand) (b:Array TypeId) (ty:TypeId) (pos:String) (BV:Array Edge) (g:Option (Nat×Bool)),a.eval f=fv→xs.map a.eval=vs→
  BD P ⟨dst,.call {callee:=.value f,args:=xs,argTypes:=b},ty,pos,BV,g⟩ a w R
section
variable{P:Program}{fv:Value}{vs:Array Value}{w:World}{R R':Value→World→Prop}
theorem E2{fn:FuncId}{first cap all:Array Value}(a:Bm P fn)(b:first++vs++cap=all)(h:BM P fn all w R):Ic P (.func (.func fn) first cap) vs w R:=fun _ _ _ _ _ _ _ _ _ c d=>HK a c d b h
theorem GM{l:Nat}(h:YieldAt Fence.wide 0 P l vs w (fun e w'=>∃v,e=.returned v∧R v w')):Ic P (.func (.yield l) #[] #[]) vs w R:=fun _ _ _ _ _ _ _ _ _ a b=>OV a b h
theorem Ic.mono(h:Ic P fv vs w R)(b:∀v w',R v w'→R' v w'):Ic P fv vs w R':=fun a dst f xs c ty pos BV g d e=>(h a dst f xs c ty pos BV g d e).mono b
theorem ER{F:Nat→Prop}{M:List (Option Nat)}{b:Nat}(h:¬FU F M b):¬F b∧some b∉M:=⟨fun a=>h (.inl a),fun a=>h (.inr a)⟩
theorem Fp{a:Act}{dst:Option Tmp}{f:Operand}{xs:Array Operand}{b:Array TypeId}{ty:TypeId}{pos:String}{BV:Array Edge}{g:Option (Nat×Bool)}(h:Ic P fv vs w R)(c:a.eval f=fv)(d:xs.map a.eval=vs):
  BD P ⟨dst,.call {callee:=.value f,args:=xs,argTypes:=b},ty,pos,BV,g⟩ a w R:=h a dst f xs b ty pos BV g c d
end
structure VL (α:Type) where
 R:World→(Nat→Prop)→Array Value→α→Prop
def v0:VL Unit:=⟨fun _ _ vs _=>vs= #[]⟩
def v1{α:Type}(a:VE α):VL α:=⟨fun w Z vs x=>∃v,vs= #[v]∧a.R w Z v x⟩
def v2{α β:Type}(a:VE α)(b:VE β):VL (α×β):=⟨fun w Z vs x=>∃v u,vs= #[v,u]∧a.R w Z v x.1∧b.R w Z u x.2⟩
def v3{α β d:Type}(a:VE α)(b:VE β)(c:VE d):VL (α×β×d):=⟨fun w Z vs x=>∃v u t,vs= #[v,u,t]∧a.R w Z v x.1∧b.R w Z u x.2.1∧c.R w Z t x.2.2⟩
def KS:VE Unit:=⟨fun _ _ v _=>v=.tuple #[],fun h _=>h⟩
structure Cb (P:Program) {σ α β:Type} (fv:Value) (F:Nat→Prop) (n:Nat) (I:σ→World→(Nat→Prop)→Option Nat→Prop) (ea:VL α) (er:VE β) (cb:σ→α→Option (β×σ)):Prop where
 fc:fv.cells= #[fv]
 f1:fv.oneCell'=true
 ff:∀k,F k→k<n
 call:∀(s:σ) (x:α) (r:β×σ) (w:World) (Z Za:Nat→Prop) (o:Option Nat) (vs:Array Value),n≤w.heap.size→(∀b,Z b→Za b)→(∀b,Za b→¬F b∧some b≠o)→I s w Z o→ea.R w Za vs x→cb s x=some r→
  Ic P fv vs w (fun v w'=>∃o',A5 (FU F [o]) w w'∧(∀k,o'=some k→(o=some k∨w.heap.size≤k)∧k<w'.heap.size)∧er.R w' (ZZ FN [] Z w.heap.size [o']) v r.1∧I r.2 w' (ZZ FN [] Z w.heap.size [o']) o')
 IF:∀(s:σ) (w w':World) (Z Z':Nat→Prop) (o:Option Nat),I s w Z o→Mv w Z w' Z'→(∀b,FU F [o] b→w'.heap[b]?=w.heap[b]?)→I s w' Z' o
 lt:∀(s:σ) (w:World) (Z:Nat→Prop) (o:Option Nat),I s w Z o→∀k,o=some k→k<w.heap.size∧¬F k
section
variable{P:Program}{σ α β:Type}{fv:Value}{F:Nat→Prop}{n:Nat}{I:σ→World→(Nat→Prop)→Option Nat→Prop}{ea:VL α}{er:VE β}{cb:σ→α→Option (β×σ)}
variable{B:List (Option Nat)}{w0 w w':World}{Z:Nat→Prop}{L:List (Option Nat)}
theorem Cb.CE (h:Cb P fv F n I ea er cb) {s:σ} {o:Option Nat} (d:I s w (ZZ F B Z w0.heap.size L) o) (c:Hp F B w0 L w) {D:Nat→Prop} (g:A5 D w w') (e:∀k,D k→some k∈L) (i:Nat) (hi:L[i]?=some o) (f:∀k,o=some k→¬D k) {Z':Nat→Prop} (hm:Mv w (ZZ F B Z w0.heap.size L) w' Z'):
  I s w' Z' o:=h.IF s w w' _ _ o d hm fun b a=>by
 rcases a with a|a
 ·exact g.block b (Nat.lt_of_lt_of_le (c.ff b a) c.sz) fun l=>(c.lo b (e b l)).2.1 a
 ·rw[List.mem_singleton] at a;exact g.block b (h.lt s w _ o d b a.symm).1 (f b a.symm)
theorem Cb.me(h:Cb P fv F n I ea er cb){s:σ}{o:Option Nat}(c:I s w (ZZ F B Z w0.heap.size L) o)(d:Hp F B w0 L w)(g:Ext w w'){Z':Nat→Prop}(hm:Mv w (ZZ F B Z w0.heap.size L) w' Z'):I s w' Z' o:=
 h.IF s w w' _ _ o c hm fun b a=>g.block b (by
  rcases a with a|a
  ·exact Nat.lt_of_lt_of_le (d.ff b a) d.sz
  ·rw[List.mem_singleton] at a;exact(h.lt s w _ o c b a.symm).1) (by simp)
theorem Cb.mz(h:Cb P fv F n I ea er cb){s:σ}{o:Option Nat}{a Z':Nat→Prop}(b:I s w a o)(hm:Mv w a w Z'):I s w Z' o:=h.IF s w w _ _ o b hm fun _ _=>rfl
theorem Cb.mg(h:Cb P fv F n I ea er cb){s:σ}{o r:Option Nat}(d:I s w (ZZ F B Z w0.heap.size L) o)(a:Hp F B w0 L w)(g:w.grownBy w' r)(j:Nat)(b:L[j]?=some r)(i:Nat)(hi:L[i]?=some o)(c:(i==j)=false){Z':Nat→Prop}(hm:Mv w (ZZ F B Z w0.heap.size L) w' Z'):I s w' Z' o:=
 h.CE d a (D:=fun k=>some k=r) (Hk g fun _ e=>e.symm) (fun k e=>by rw[e];exact List.mem_of_getElem? b) i hi (fun k f e=>a.ap i j k (by simpa using c) (by rw[hi,f]) (by rw[b,e])) hm
theorem Cb.mm(h:Cb P fv F n I ea er cb){s:σ}{o:Option Nat}{M:List (Option Nat)}(f:I s w (ZZ F B Z w0.heap.size L) o)(c:Hp F B w0 L w)(g:A5 (FU FN M) w w')(b:List Nat)(d:Fj L b M)(i:Nat)(hi:L[i]?=some o)(e:(b.all fun j=> !Nat.beq i j)=true){Z':Nat→Prop}(hm:Mv w (ZZ F B Z w0.heap.size L) w' Z'):I s w' Z' o:=
 h.CE f c g (fun k a=>by
  rcases a with a|a
  ·exact a.elim
  ·exact d.sub _ a) i hi (fun k a=>c.Bq (F':=FN) i (by rw[hi,a]) b e d (fun _ h=>h.elim)) hm
end
end Go.Proofs.Ytkljfdkmjdjpfaa
end
section
namespace Go.Proofs.Ytkljfdkmjdjpfaa
open Go.RowKit Go.WideShapes
def B7 {α:Type} (ev:α→Value) (w:World) (r n:Nat) (L:List (List Int×α)):Prop:=
 ∃es clock,w.heap[r]?=some (.map es clock)∧es.toList.map (fun e=>(e.key,e.val))=L.map (fun p=>(Ep p.1,ev p.2))∧∀p∈L,p.1.length=n
def Bv{α:Type}(L:List (List Int×α))(k:List Int):Option α:=(L.find? fun p=>k==p.1).map (·.2)
def Gm{α:Type}(L:List (List Int×α))(k:List Int)(v:α):List (List Int×α):=match L.findIdx? (fun p=>k==p.1) with|some i=>L.set i (k,v)|none=>L++[(k,v)]
structure Ru{α:Type}(ev:α→Value)(w w':World)(r n:Nat):Prop where
 ED:r=w.heap.size
 sz:w'.heap.size=r+1
 mp:B7 ev w' r n []
 gr:Ext w w'
structure Rv{α:Type}(ev:α→Value)(w w':World)(r n:Nat)(L:List (List Int×α)):Prop where
 sz:w'.heap.size=w.heap.size
 mp:B7 ev w' r n L
 gr:FA r w w'
section
variable{α:Type}{ev:α→Value}{w w':World}{r n b:Nat}{L:List (List Int×α)}
theorem B7.lt(h:B7 ev w r n L):r<w.heap.size:=by obtain⟨es,c,h,_⟩:=h;exact lt_of_block h
theorem B7.ext(h:B7 ev w r n L)(g:Ext w w'):B7 ev w' r n L:=by
 have a:=h.lt;obtain⟨es,c,b,d⟩:=h;exact⟨es,c,(g.block r a (by simp)).trans b,d⟩
theorem B7.KZ(h:B7 ev w r n L)(g:FA b w w')(a:r≠b):B7 ev w' r n L:=by
 have d:=h.lt;obtain⟨es,c,e,f⟩:=h;exact⟨es,c,(g.block r d (by simpa using a)).trans e,f⟩
end
section
variable{α:Type}{ev:α→Value}{z:α}{P:Program}{a:Act}{w:World}{dst:Option Tmp}{ty:TypeId}{pos:String}{BV:Array Edge}{g:Option (Nat×Bool)}{K E T r n:Nat}{L:List (List Int×α)}{k:List Int}
theorem Hu(z:α)(a:Jr P K n)(b:k.length=n):∀(es:List MapEntry) (L:List (List Int×α)) (i:Nat),es.map (fun e=>(e.key,e.val))=L.map (fun p=>(Ep p.1,ev p.2))→(∀p∈L,p.1.length=n)→
  (Instr.findAsking K (Ep k) es i).run P w=.ok (match L.findIdx? (fun p=>k==p.1) with|some j=>some (i+j,ev ((L.getD j ([],z)).2))|none=>none) w
 |[],[],i,_,_=>by simp[Instr.findAsking]
 |[],p::L,i,h,_=>by simp at h
 |e::es,[],i,h,_=>by simp at h
 |e::es,p::L,i,h,c=>by
  simp only[List.map_cons,List.cons.injEq,Prod.mk.injEq] at h;obtain⟨⟨d,f⟩,g⟩:=h;have ih:=Hu z a b es L (i+1) g (fun q a=>c q (List.mem_cons_of_mem _ a));have he:=a w k p.1 b (c p (List.mem_cons_self ..));simp only[Instr.findAsking,Sem.run_bind,d,he,Result.andThen_ok,List.findIdx?_cons];cases l:(k==p.1)
  ·simp only[Bool.false_eq_true,if_false,ih];cases List.findIdx? (fun p=>k==p.1) L with
   |none=>rfl
   |some j=>simp[Nat.add_assoc,Nat.add_comm 1 j]
  ·simp[f]
theorem IG(z:α)(f:Jr P K n)(hw:H7 P K)(g:k.length=n){es:List MapEntry}(h:es.map (fun e=>(e.key,e.val))=L.map (fun p=>(Ep p.1,ev p.2)))(i:∀p∈L,p.1.length=n):
  (Instr.findKey K (Ep k) es).run P w=.ok (match L.findIdx? (fun p=>k==p.1) with|some j=>some (j,ev ((L.getD j ([],z)).2))|none=>none) w:=by
 unfold H7 at hw;cases hu:P.underlying K with
 |none=>simp[hu] at hw
 |some d=>
  unfold Instr.findKey;simp only[Sem.run_bind,run_underlying hu,Result.andThen_ok];cases es with
  |nil=>
   have:L=[]:=by cases L with|nil=>rfl|cons _ _=>simp at h
   subst this;simp[Instr.findNow]
  |cons e es=>
   have l:Instr.findNow d (Ep k) (e::es) 0=none:=by
    refine L0 ?_ _ _ _ (fun a b=>?_) (by simp)
    ·rw[hu] at hw;cases d<;>simp at hw<;>trivial
    ·have:(a.key,a.val)∈(e::es).map (fun e=>(e.key,e.val)):=List.mem_map.2 ⟨a,b,rfl⟩;rw[h] at this;obtain⟨p,_,c⟩:=List.mem_map.1 this;exact⟨(B5 p.1).toArray,by simp only[Prod.mk.injEq] at c;exact c.1.symm⟩
   rw[l];have:=Hu z (P:=P) (w:=w) f g (e::es) L 0 h i;simpa using this
theorem Ni(z:α)(L:List (List Int×α))(k:List Int):Bv L k=(L.findIdx? (fun p=>k==p.1)).map (fun j=>(L.getD j ([],z)).2):=by
 unfold Bv
 induction L with
 |nil=>rfl
 |cons p L ih=>
  simp only[List.find?_cons,List.findIdx?_cons];cases a:(k==p.1)
  ·simp only[Bool.false_eq_true,if_false,ih];cases List.findIdx? (fun p=>k==p.1) L<;>simp
  ·simp
theorem L2(d:P.underlying T=some (.map K E))(g:(P.info? E).bind (·.zero)=some (ev z))(l:Jr P K n)(m:Lb P K n)(hw:H7 P K)(a:k.length=n)(hm:B7 ev w r n L)(ok:Bool):
  (Instr.lookup T (.map (some r)) (Ep k) ok).run P w=.ok (if ok then .tuple #[ev ((Bv L k).getD z),.bool (Bv L k).isSome] else ev ((Bv L k).getD z)) w:=by
 obtain⟨es,clock,o,he,q⟩:=hm;obtain⟨i,hi,b⟩:=Option.bind_eq_some_iff.1 g;have s:=JO (P:=P) o (by intro c e f h;cases h);have t:=IG z (P:=P) (w:=w) l hw a he q;have u:(zeroValue E).run P w=.ok (ev z) w:=by simp[zeroValue,typeInfo,program,Sem.run,hi,b]
 unfold Instr.lookup;simp only[Sem.run_bind,run_underlying d,Result.andThen_ok,s,m w es.isEmpty k a,t,Ni z,Sem.run_pure];cases List.findIdx? (fun p=>k==p.1) L with
 |none=>cases ok<;>simp[u]
 |some j=>cases ok<;>simp
theorem Ll{x y:Operand}(b:P.underlying T=some (.map K E))(c:(P.info? E).bind (·.zero)=some (ev z))(d:Jr P K n)(e:Lb P K n)(hw:H7 P K)(f:a.eval x=.map (some r))(h:a.eval y=Ep k)(i:k.length=n)(hm:B7 ev w r n L):
  BD P ⟨dst,.lookup T x y true,ty,pos,BV,g⟩ a w (fun u w'=>u=.tuple #[ev ((Bv L k).getD z),.bool (Bv L k).isSome]∧w'=w):=
 HX (S:=Instr.lookup T (.map (some r)) (Ep k) true) (by simp only[execOp,f,h]) (L2 b c d e hw i hm true)
theorem Ie{T:TypeId}:BD P ⟨dst,.makeMap T none,ty,pos,BV,g⟩ a w (fun u w'=>∃r,u=.map (some r)∧Ru ev w w' r n):=by
 unfold BD;simp only[execOp,Option.map_none,Sem.run_bind,run_makeMap,Result.andThen_ok,Sem.run_pure];exact⟨_,rfl,rfl,by simp,⟨#[],0,heap_alloc_new w _,rfl,by simp⟩,World.grownBy_alloc w _ _⟩
theorem Lm{x y aC:Operand}{v:α}(aL:P.underlying T=some (.map K E))(aM:Jr P K n)(aN:Lb P K n)(hw:H7 P K)(aO:a.eval x=.map (some r))(aP:a.eval y=Ep k)(aQ:a.eval aC=ev v)(q:k.length=n)(hm:B7 ev w r n L):
  BD P ⟨dst,.mapUpdate T x y aC,ty,pos,BV,g⟩ a w (fun _ w'=>Rv ev w w' r n (Gm L k v)):=by
 have s:=hm.lt;obtain⟨es,clock,aD,he,aA⟩:=hm;have aR:=JO (P:=P) aD (by intro c e f h;cases h);have aS:=IG v (P:=P) (w:=w) aM hw q he aA;have d:∀o:Obj,(setObj r o).run P w=.ok () {w with heap:=w.heap.setIfInBounds r o}:=by
  intro o;unfold setObj;simp only[Sem.run,aD]
 have t:∀o:Obj,FA r w {w with heap:=w.heap.setIfInBounds r o}:=fun o=>⟨rfl,rfl,rfl,by simp,fun j _ aE=>by
  have:¬r=j:=fun e=>aE (by rw[e]);simp[Array.getElem?_setIfInBounds,this]⟩
 have hlen:es.toList.length=L.length:=by have:=congrArg List.length he;simpa using this
 unfold BD;simp only[execOp,aO,aP,aQ,Sem.run_bind,Instr.mapUpdate,run_underlying aL,Result.andThen_ok,aR,aN w false k q,aS];cases m:List.findIdx? (fun p=>k==p.1) L with
 |none=>
  simp only[d,Result.andThen_ok,Sem.run_pure];refine⟨by simp,⟨_,_,by simp[s];exact⟨rfl,rfl⟩,?_,?_⟩,t _⟩
  ·simp[Gm,m,he]
  ·intro p b;simp only[Gm,m,List.mem_append,List.mem_singleton] at b;rcases b with b|rfl
   ·exact aA p b
   ·exact q
 |some j=>
  have aT:=List.findIdx?_eq_some_iff_getElem.1 m;obtain⟨aF,aG,_⟩:=aT;have u:j<es.toList.length:=by omega
  have aB:(es.toList[j]).key=Ep k:=by
   have:=congrArg (fun l=>l[j]?) he;simp only[List.getElem?_map,List.getElem?_eq_getElem u,List.getElem?_eq_getElem aF,Option.map_some,Option.some.injEq,Prod.mk.injEq] at this;rw[this.1,←eq_of_beq aG]
  have aH:((es[j]?).map (·.key)).getD (Ep k)=Ep k:=by
   have aI:j<es.size:=by simpa using u
   rw[Array.getElem?_eq_getElem aI];simpa using aB
  simp only[aH,Instr.keyThatStays,Ld 9999 k,if_true,Sem.run_pure,Result.andThen_ok,d,Sem.run_bind];refine⟨by simp,⟨_,_,by simp[s];exact⟨rfl,rfl⟩,?_,?_⟩,t _⟩
  ·simp only[Gm,m];apply List.ext_getElem
   ·simp[hlen]
   ·intro i aU aV;have aJ:i<es.toList.length:=by simpa using aU
    have aK:i<L.length:=by omega
    have:=congrArg (fun l=>l[i]?) he;simp only[List.getElem?_map,List.getElem?_eq_getElem aJ,List.getElem?_eq_getElem aK,Option.map_some,Option.some.injEq,Prod.mk.injEq] at this
    by_cases z:j=i
    ·subst z;simp
    ·simpa[Array.getElem_modify,z,List.getElem_set] using this
  ·intro p b;simp only[Gm,m] at b;rcases List.mem_or_eq_of_mem_set b with b|rfl
   ·exact aA p b
   ·exact q
end
section
variable{α:Type}{ev:α→Value}{w w':World}{r n:Nat}{L:List (List Int×α)}
theorem B7.of(h:B7 ev w r n L)(e:w'.heap[r]?=w.heap[r]?):B7 ev w' r n L:=by
 obtain⟨es,c,a,b⟩:=h;exact⟨es,c,e.trans a,b⟩
theorem B7.gr{x:Option Nat}(h:B7 ev w r n L)(g:w.grownBy w' x)(a:some r≠x):B7 ev w' r n L:=h.of (g.block r h.lt a)
end
theorem L3{α:Type}(L:List (List Int×α))(k k':List Int)(v:α):Bv (Gm L k v) k'=if k'=k then some v else Bv L k':=by
 induction L with
 |nil=>
  unfold Bv Gm
  by_cases h:k'=k
  ·subst h;simp
  ·have:(k'==k)=false:=by simpa using h
   simp[h]
 |cons p L ih=>
  unfold Bv Gm at*;simp only[List.findIdx?_cons];cases c:(k==p.1)
  ·simp only[Bool.false_eq_true,if_false];cases d:List.findIdx? (fun p=>k==p.1) L with
   |none=>
    rw[d] at ih;simp only[Option.map_none,List.cons_append,List.find?_cons];cases a:(k'==p.1)
    ·simpa using ih
    ·have b:k'≠k:=by
      intro e;rw[e,c] at a;cases a
     simp[b]
   |some j=>
    rw[d] at ih;simp only[Option.map_some,List.set_cons_succ,List.find?_cons];cases a:(k'==p.1)
    ·simpa using ih
    ·have b:k'≠k:=by
      intro e;rw[e,c] at a;cases a
     simp[b]
  ·have g:=eq_of_beq c;simp only[if_true,List.set_cons_zero,List.find?_cons]
   by_cases h:k'=k
   ·subst h;simp
   ·have f:(k'==k)=false:=by simpa using h
    have i:(k'==p.1)=false:=by rw[←g];exact f
    simp[h,f,i]
end Go.Proofs.Ytkljfdkmjdjpfaa
end
