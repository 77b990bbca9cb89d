import Derived.Test.YthogdgkafaclaaaBC3
import Derived.WalkKit
import Derived.KernelRfl
import Derived.WalkSpells
import Derived.WalkLawsBesides
import Derived.Maps.AppendAt
import Derived.OrdersIn
import Derived.RangeFuncIn
import Derived.RangeFuncLeaves
import Derived.RangeFuncRecord
import Derived.RangeFuncSeq
import Derived.Scope
import Derived.DeepKeys3
import Derived.Laws.CopyRow
import Derived.Shelf.Sort.Plain
import Derived.Ground.Names2Prog
import Derived.Shelf.Slices.Clone
import Derived.Shelf.Slices.CompactI
import Derived.Shelf.Slices.Cells
import Derived.Shelf.Slices.In.SortNone
import Derived.Ground.SlgnProg
import Derived.Shelf.SlicesE.Clone
import Derived.Sort.OwnSortedInts
import Derived.Lib.RowBridge
import Derived.Test.YthogdgkafaclaaaProg
/-
  The contracts of the functions of the program and of the reference, and the logic that they are proved in: the base that several claims of this seat share.
-/
set_option linter.all false
section
set_option linter.unusedVariables false
set_option linter.unusedSimpArgs false
namespace Go.Proofs.Ythogdgkafaclaaa
open Go.RowKit
open AF
attribute [local irreducible] Ex1 WL CC CW LV Ret ObOp Agg One Own
theorem a29 (K_ : Nat) (p0 : Int) (p1 : Int) (p2 : Int) (Z : Nat → Prop) (w : World) (r_ : Bool) (hG : G_In K_ p0 p1 p2 = some r_) :
    Ret Try.prog 29 #[I p0, I p1, I p2] w (fun v w' => Ext w w' ∧ vBool.R w' (ZZ Z w.heap.size []) v r_) := by
 unfold G_In at hG
 refine ret_of_cc (N := 15) Try.func29 rfl rfl (by simp) ?_
 intro fr0 ha hdf
 have hp_0 := sl_arg (i := 0) (v := I p0) ha rfl
 have hp_1 := sl_arg (i := 1) (v := I p1) ha rfl
 have hp_2 := sl_arg (i := 2) (v := I p2) ha rfl
 clear ha
 have hp0 := Hp.refl w
 refine cc_seq <| cc_region <| wa rfl (v := .bool false) rfl <| wl_end <| lv_next <| cc_seq <| cc_region <| wm rfl (v := I p0) hp_0 <| wm rfl (v := I p1) hp_1 <| wd rfl (fun st => x_geq (ee st rfl) (ee st rfl)) <| wm rfl (v := .bool (decide (p1 ≤ p0))) rfl ?_
 rcases bool_cases (decide (p1 ≤ p0)) with hc1 | hc1
 ·replace hG := cond_t hG hc1
  refine wl_detg rfl rfl (guard_eq rfl hc1) rfl (by decide) (fun st => x_move (v := I p0) (ee st hp_0)) <| wl_detg rfl rfl (guard_eq rfl hc1) rfl (by decide) (fun st => x_move (v := I p2) (ee st hp_2)) <| wl_detg rfl rfl (guard_eq rfl hc1) rfl (by decide) (fun st => x_leq (ee st rfl) (ee st rfl)) <| wd rfl (fun st => x_pick_t (v := .bool (decide (p0 ≤ p2))) (ee st rfl) hc1 (ee st rfl)) <| wa rfl (v := .bool (decide (p0 ≤ p2))) rfl <| wl_end <| lv_next <| cc_ret ?_
  obtain rfl := Option.some.inj hG
  refine lv_ret1 rfl rfl ?_
  exact ⟨hp0.fin, rfl⟩
 ·replace hG := cond_f hG hc1
  refine wl_skip (c := false) rfl rfl (guard_eq rfl hc1) (by decide) rfl (by decide) <| wl_skip (c := false) rfl rfl (guard_eq rfl hc1) (by decide) rfl (by decide) <| wl_skip (c := false) rfl rfl (guard_eq rfl hc1) (by decide) rfl (by decide) <| wd rfl (fun st => x_pick_f (v := .bool false) (ee st rfl) hc1 (ee st rfl)) <| wa rfl (v := .bool false) rfl <| wl_end <| lv_next <| cc_ret ?_
  obtain rfl := Option.some.inj hG
  refine lv_ret1 rfl rfl ?_
  exact ⟨hp0.fin, rfl⟩
theorem a98 (K_ : Nat) (p0 : (Int × Int)) (p1 : Int) (p2 : Int) (Z : Nat → Prop) (w : World) (r_ : Bool) (hG : G_Within K_ p0 p1 p2 = some r_) :
    Ret Try.prog 98 #[.agg #[I p0.1, I p0.2], I p1, I p2] w (fun v w' => Ext w w' ∧ vBool.R w' (ZZ Z w.heap.size []) v r_) := by
 unfold G_Within at hG
 refine ret_of_cc (N := 24) Try.func98 rfl rfl (by simp) ?_
 intro fr0 ha hdf
 have hp_0 := sl_arg (i := 0) (v := .agg #[I p0.1, I p0.2]) ha rfl
 have hp_1 := sl_arg (i := 1) (v := I p1) ha rfl
 have hp_2 := sl_arg (i := 2) (v := I p2) ha rfl
 clear ha
 have hp0 := Hp.refl w
 refine cc_seq <| cc_region <| we rfl (fun st => x_box (v := .agg #[I p0.1, I p0.2]) (cs := #[I p0.1, I p0.2]) (ee st hp_0) rfl) ?_
 rintro _ w1 ⟨b1, rfl, nb1⟩
 have hp1 : Hp w [some b1] w1 := hp0.new nb1.gr (Nat.le_of_eq nb1.b_eq.symm) (Nat.lt_of_lt_of_eq (Nat.lt_succ_self _) nb1.sz.symm)
 refine wa rfl (v := .bool false) rfl <| wl_end <| lv_next <| cc_seq <| cc_region <| wd rfl (fun st => x_fieldAddr (ee st rfl) (fz_23_0 _ _)) <| wd rfl (fun st => x_load1 (v := I p0.1) one_3 (ee st rfl) nb1.bk rfl) <| wm rfl (v := I p1) hp_1 <| wd rfl (fun st => x_geq (ee st rfl) (ee st rfl)) <| wm rfl (v := .bool (decide (p1 ≤ p0.1))) rfl ?_
 rcases bool_cases (decide (p1 ≤ p0.1)) with hc2 | hc2
 ·replace hG := cond_t hG hc2
  refine wl_detg rfl rfl (guard_eq rfl hc2) rfl (by decide) (fun st => x_fieldAddr (ee st rfl) (fz_23_0 _ _)) <| wl_detg rfl rfl (guard_eq rfl hc2) rfl (by decide) (fun st => x_load1 (v := I p0.1) one_3 (ee st rfl) nb1.bk rfl) <| wl_detg rfl rfl (guard_eq rfl hc2) rfl (by decide) (fun st => x_fieldAddr (ee st rfl) (fz_23_1 _ _)) <| wl_detg rfl rfl (guard_eq rfl hc2) rfl (by decide) (fun st => x_load1 (v := I p0.2) one_3 (ee st rfl) nb1.bk rfl) <| wl_detg rfl rfl (guard_eq rfl hc2) rfl (by decide) (fun st => x_leq (ee st rfl) (ee st rfl)) <| wd rfl (fun st => x_pick_t (v := .bool (decide (p0.1 ≤ p0.2))) (ee st rfl) hc2 (ee st rfl)) <| wm rfl (v := .bool (decide (p0.1 ≤ p0.2))) rfl ?_
  rcases bool_cases (decide (p0.1 ≤ p0.2)) with hc3 | hc3
  ·replace hG := cond_t hG hc3
   refine wl_detg rfl rfl (guard_eq rfl hc3) rfl (by decide) (fun st => x_fieldAddr (ee st rfl) (fz_23_1 _ _)) <| wl_detg rfl rfl (guard_eq rfl hc3) rfl (by decide) (fun st => x_load1 (v := I p0.2) one_3 (ee st rfl) nb1.bk rfl) <| wl_detg rfl rfl (guard_eq rfl hc3) rfl (by decide) (fun st => x_move (v := I p2) (ee st hp_2)) <| wl_detg rfl rfl (guard_eq rfl hc3) rfl (by decide) (fun st => x_leq (ee st rfl) (ee st rfl)) <| wd rfl (fun st => x_pick_t (v := .bool (decide (p0.2 ≤ p2))) (ee st rfl) hc3 (ee st rfl)) <| wa rfl (v := .bool (decide (p0.2 ≤ p2))) rfl <| wl_end <| lv_next <| cc_ret ?_
   obtain rfl := Option.some.inj hG
   refine lv_ret1 rfl rfl ?_
   exact ⟨hp1.fin, rfl⟩
  ·replace hG := cond_f hG hc3
   refine wl_skip (c := false) rfl rfl (guard_eq rfl hc3) (by decide) rfl (by decide) <| wl_skip (c := false) rfl rfl (guard_eq rfl hc3) (by decide) rfl (by decide) <| wl_skip (c := false) rfl rfl (guard_eq rfl hc3) (by decide) rfl (by decide) <| wl_skip (c := false) rfl rfl (guard_eq rfl hc3) (by decide) rfl (by decide) <| wd rfl (fun st => x_pick_f (v := .bool false) (ee st rfl) hc3 (ee st rfl)) <| wa rfl (v := .bool false) rfl <| wl_end <| lv_next <| cc_ret ?_
   obtain rfl := Option.some.inj hG
   refine lv_ret1 rfl rfl ?_
   exact ⟨hp1.fin, rfl⟩
 ·replace hG := cond_f hG hc2
  refine wl_skip (c := false) rfl rfl (guard_eq rfl hc2) (by decide) rfl (by decide) <| wl_skip (c := false) rfl rfl (guard_eq rfl hc2) (by decide) rfl (by decide) <| wl_skip (c := false) rfl rfl (guard_eq rfl hc2) (by decide) rfl (by decide) <| wl_skip (c := false) rfl rfl (guard_eq rfl hc2) (by decide) rfl (by decide) <| wl_skip (c := false) rfl rfl (guard_eq rfl hc2) (by decide) rfl (by decide) <| wd rfl (fun st => x_pick_f (v := .bool false) (ee st rfl) hc2 (ee st rfl)) <| wm rfl (v := .bool false) rfl <| wl_skip rfl rfl rfl (by decide) rfl (by decide) <| wl_skip rfl rfl rfl (by decide) rfl (by decide) <| wl_skip rfl rfl rfl (by decide) rfl (by decide) <| wl_skip rfl rfl rfl (by decide) rfl (by decide) <| wd rfl (fun st => x_pick_f (v := .bool false) (ee st rfl) rfl (ee st rfl)) <| wa rfl (v := .bool false) rfl <| wl_end <| lv_next <| cc_ret ?_
  obtain rfl := Option.some.inj hG
  refine lv_ret1 rfl rfl ?_
  exact ⟨hp1.fin, rfl⟩
theorem a41 (K_ : Nat) (p0 : List Int) (p1 : Int) (p2 : Int) (p3 : Int) (A0_0 : Option Addr) (c0_0 : Nat) (Z : Nat → Prop) (w : World) (hS0_0 : Sl (eInt .i64) w Z A0_0 c0_0 p0) (r_ : Int) (hG : G_Did K_ p0 p1 p2 p3 = some r_) :
    Ret Try.prog 41 #[.slice A0_0 p0.length c0_0, I p1, I p2, I p3] w (fun v w' => Ext w w' ∧ (vInt .i64).R w' (ZZ Z w.heap.size []) v r_) := by
 unfold G_Did at hG
 refine ret_of_cc (N := 26) Try.func41 rfl rfl (by simp) ?_
 intro fr0 ha hdf
 have hp_0 := sl_arg (i := 0) (v := .slice A0_0 p0.length c0_0) ha rfl
 have hp_1 := sl_arg (i := 1) (v := I p1) ha rfl
 have hp_2 := sl_arg (i := 2) (v := I p2) ha rfl
 have hp_3 := sl_arg (i := 3) (v := I p3) ha rfl
 clear ha
 have hp0 := Hp.refl w
 have hS0_0_0 := hS0_0.mv (mv_start w)
 refine cc_seq <| cc_region <| wa rfl (v := I 0) rfl <| wl_end <| lv_next <| cc_seq <| cc_region <| wa rfl (v := I 0) rfl <| wl_end <| lv_next <| cc_seq <| cc_seq <| cc_region <| wm rfl (v := I p2) hp_2 <| wa rfl (v := I p2) rfl <| wl_end <| lv_next <| cc_block ?_
 replace hG := bind_some hG; obtain ⟨z1, hL1, hG⟩ := hG
 refine cc_join (fun e_ fr_ w_ => (e_ = .exit 0 ∧ fr_.tmps.size = 26 ∧ fr_.defers = [] ∧ sl fr_ 9 = I z1 ∧ w = w_)) ?lp1 ?af1
 case lp1 =>
  clear hG
  refine cc_loop (fun (m_ : Nat) (fr_ : Act) (w_ : World) => ∃ s1_9, ∃ s1_10, G_Did_L1 p0 p1 p3 m_ s1_9 s1_10 = some z1 ∧ fr_.tmps.size = 26 ∧ fr_.defers = [] ∧ sl fr_ 0 = .slice A0_0 p0.length c0_0 ∧ sl fr_ 1 = I p1 ∧ sl fr_ 3 = I p3 ∧ sl fr_ 9 = I s1_9 ∧ sl fr_ 10 = I s1_10 ∧ w = w_) K_ ?in1 ?rd1
  case in1 =>
   intro st
   exact ⟨(0 : Int), p2, hL1, (puts_size _ _).trans st.sz, (puts_defers _ _).trans st.df, (sl_puts st 0).trans hp_0, (sl_puts st 1).trans hp_1, (sl_puts st 3).trans hp_3, (sl_puts st 9).trans rfl, (sl_puts st 10).trans rfl, rfl⟩
  case rd1 =>
   rintro (_ | m_) fr1 _ ⟨s1_9, s1_10, hL1, hsz1, hdf1, hs1_0, hs1_1, hs1_3, hs1_9, hs1_10, rfl⟩
   ·exact absurd (show none = some _ from hL1) (by simp)
   rw [G_Did_L1.eq_2] at hL1
   have hG := hL1; clear hL1
   refine round_cc (N := 26) hsz1 hdf1 <| cc_seq <| cc_seq <| cc_region <| wm rfl (v := I s1_10) hs1_10 <| wm rfl (v := I p3) hs1_3 <| wd rfl (fun st => x_leq (ee st rfl) (ee st rfl)) <| wl_end <| lv_next ?_
   rcases bool_cases (decide (s1_10 ≤ p3)) with hc2 | hc2
   ·replace hG := cond_t hG hc2
    refine cc_cond_t rfl hc2 <| cc_skip <| lv_next <| cc_seq <| cc_block <| cc_seq <| cc_region <| wm rfl (v := .slice A0_0 p0.length c0_0) hs1_0 <| wm rfl (v := I s1_10) hs1_10 ?_
    replace hG := idx_bind hG; obtain ⟨i3, x3, hi3, hx3, hl3, hG⟩ := hG
    obtain ⟨b3, o3, _, hA3, rfl, hz3⟩ := Sl.elem1 hS0_0_0 rfl hx3
    refine wd rfl (fun st => x_indexAddr1 (k := i3) Try.underlying43 sz_3 (ee st rfl) hA3 (ee st rfl) hi3 hl3) <| wd rfl (fun st => x_load_z0 (v := I x3) one_3 (ee st rfl) hz3 rfl) <| wm rfl (v := I p1) hs1_1 <| wd rfl (fun st => x_eql (ee st rfl) (ee st rfl)) <| wl_end <| lv_next ?_
    rcases bool_cases (x3 == p1) with hc4 | hc4
    ·replace hG := cond_t hG hc4
     refine cc_cond_t rfl hc4 <| cc_region <| wm rfl (v := I s1_9) hs1_9 ?_
     replace hG := i64_bind hG; obtain ⟨hf5, hG⟩ := hG
     refine wd rfl (fun st => x_add (ee st rfl) (ee st rfl) hf5) <| wa rfl (v := I (s1_9 + 1)) rfl <| wl_end <| lv_block <| lv_next <| cc_region <| wm rfl (v := I s1_10) hs1_10 ?_
     replace hG := i64_bind hG; obtain ⟨hf6, hG⟩ := hG
     refine wd rfl (fun st => x_add (ee st rfl) (ee st rfl) hf6) <| wa rfl (v := I (s1_10 + 1)) rfl <| wl_end ?_
     refine lv_round m_ (Nat.lt_succ_self _) (fun st => ?_)
     exact ⟨(s1_9 + 1), (s1_10 + 1), hG, (puts_size _ _).trans st.sz, (puts_defers _ _).trans st.df, (sl_puts st 0).trans hs1_0, (sl_puts st 1).trans hs1_1, (sl_puts st 3).trans hs1_3, (sl_puts st 9).trans rfl, (sl_puts st 10).trans rfl, rfl⟩
    ·replace hG := cond_f hG hc4
     refine cc_cond_f rfl hc4 <| cc_skip <| lv_block <| lv_next <| cc_region <| wm rfl (v := I s1_10) hs1_10 ?_
     replace hG := i64_bind hG; obtain ⟨hf7, hG⟩ := hG
     refine wd rfl (fun st => x_add (ee st rfl) (ee st rfl) hf7) <| wa rfl (v := I (s1_10 + 1)) rfl <| wl_end ?_
     refine lv_round m_ (Nat.lt_succ_self _) (fun st => ?_)
     exact ⟨s1_9, (s1_10 + 1), hG, (puts_size _ _).trans st.sz, (puts_defers _ _).trans st.df, (sl_puts st 0).trans hs1_0, (sl_puts st 1).trans hs1_1, (sl_puts st 3).trans hs1_3, (sl_puts st 9).trans hs1_9, (sl_puts st 10).trans rfl, rfl⟩
   ·replace hG := cond_f hG hc2
    refine cc_cond_f rfl hc2 <| cc_exit <| lv_then_exit <| lv_then_exit ?_
    obtain rfl := Option.some.inj hG
    refine lv_to (fun st => ?_)
    exact ⟨rfl, (puts_size _ _).trans st.sz, (puts_defers _ _).trans st.df, (sl_puts st 9).trans hs1_9, rfl⟩
 case af1 =>
  rintro e_ fr1a _ (⟨rfl, hsz1a, hdf1a, hs1a_9, rfl⟩)
  refine lv_fr (X := X0) (N := 26) hsz1a hdf1a <| lv_block_hit <| lv_next <| cc_seq <| cc_region <| wm rfl (v := I z1) hs1a_9 <| wa rfl (v := I z1) rfl <| wl_end <| lv_next <| cc_ret ?_
  obtain rfl := Option.some.inj hG
  refine lv_ret1 rfl rfl ?_
  exact ⟨hp0.fin, rfl⟩
theorem a65 (K_ : Nat) (p0 : Fld) (A0_0 : Option Addr) (c0_0 : Nat) (Z : Nat → Prop) (w : World) (hS0_0 : Sl eTly w Z A0_0 c0_0 p0.ts) (r_ : Int) (hG : G_Many K_ p0 = some r_) :
    Ret Try.prog 65 #[.agg #[I p0.rows, I p0.wd, I p0.lo, I p0.hi, .slice A0_0 p0.ts.length c0_0]] w (fun v w' => Ext w w' ∧ (vInt .i64).R w' (ZZ Z w.heap.size []) v r_) := by
 unfold G_Many at hG
 refine ret_of_cc (N := 17) Try.func65 rfl rfl (by simp) ?_
 intro fr0 ha hdf
 have hp_0 := sl_arg (i := 0) (v := .agg #[I p0.rows, I p0.wd, I p0.lo, I p0.hi, .slice A0_0 p0.ts.length c0_0]) ha rfl
 clear ha
 have hp0 := Hp.refl w
 have hS0_0_0 := hS0_0.mv (mv_start w)
 refine cc_seq <| cc_region <| we rfl (fun st => x_box (v := .agg #[I p0.rows, I p0.wd, I p0.lo, I p0.hi, .slice A0_0 p0.ts.length c0_0]) (cs := #[I p0.rows, I p0.wd, I p0.lo, I p0.hi, .slice A0_0 p0.ts.length c0_0]) (ee st hp_0) rfl) ?_
 rintro _ w1 ⟨b1, rfl, nb1⟩
 have hp1 : Hp w [some b1] w1 := hp0.new nb1.gr (Nat.le_of_eq nb1.b_eq.symm) (Nat.lt_of_lt_of_eq (Nat.lt_succ_self _) nb1.sz.symm)
 refine wa rfl (v := I 0) rfl <| wl_end <| lv_next <| cc_seq <| cc_region <| wa rfl (v := I 1) rfl <| wl_end <| lv_next <| cc_seq <| cc_seq <| cc_region <| wa rfl (v := I 0) rfl <| wl_end <| lv_next <| cc_block ?_
 replace hG := bind_some hG; obtain ⟨z2, hL2, hG⟩ := hG
 refine cc_join (fun e_ fr_ w_ => (e_ = .exit 0 ∧ fr_.tmps.size = 17 ∧ fr_.defers = [] ∧ sl fr_ 3 = I z2 ∧ w1 = w_)) ?lp2 ?af2
 case lp2 =>
  clear hG
  refine cc_loop (fun (m_ : Nat) (fr_ : Act) (w_ : World) => ∃ s2_3, ∃ s2_4, G_Many_L2 p0 m_ s2_3 s2_4 = some z2 ∧ fr_.tmps.size = 17 ∧ fr_.defers = [] ∧ sl fr_ 1 = pt b1 0 ∧ sl fr_ 3 = I s2_3 ∧ sl fr_ 4 = I s2_4 ∧ w1 = w_) K_ ?in2 ?rd2
  case in2 =>
   intro st
   exact ⟨(1 : Int), (0 : Int), hL2, (puts_size _ _).trans st.sz, (puts_defers _ _).trans st.df, (sl_puts st 1).trans rfl, (sl_puts st 3).trans rfl, (sl_puts st 4).trans rfl, rfl⟩
  case rd2 =>
   rintro (_ | m_) fr2 _ ⟨s2_3, s2_4, hL2, hsz2, hdf2, hs2_1, hs2_3, hs2_4, rfl⟩
   ·exact absurd (show none = some _ from hL2) (by simp)
   rw [G_Many_L2.eq_2] at hL2
   have hG := hL2; clear hL2
   refine round_cc (N := 17) hsz2 hdf2 <| cc_seq <| cc_seq <| cc_region <| wm rfl (v := I s2_4) hs2_4 <| wd rfl (fun st => x_fieldAddr (ee st hs2_1) (fz_26_0 _ _)) <| wd rfl (fun st => x_load1 (v := I p0.rows) one_3 (ee st rfl) nb1.bk rfl) <| wd rfl (fun st => x_lss (ee st rfl) (ee st rfl)) <| wl_end <| lv_next ?_
   rcases bool_cases (decide (s2_4 < p0.rows)) with hc3 | hc3
   ·replace hG := cond_t hG hc3
    refine cc_cond_t rfl hc3 <| cc_skip <| lv_next <| cc_seq <| cc_block <| cc_region <| wm rfl (v := I s2_3) hs2_3 <| wd rfl (fun st => x_fieldAddr (ee st hs2_1) (fz_26_1 _ _)) <| wd rfl (fun st => x_load1 (v := I p0.wd) one_3 (ee st rfl) nb1.bk rfl) ?_
    replace hG := i64_bind hG; obtain ⟨hf4, hG⟩ := hG
    refine wd rfl (fun st => x_add (ee st rfl) (ee st rfl) hf4) ?_
    replace hG := i64_bind hG; obtain ⟨hf5, hG⟩ := hG
    refine wd rfl (fun st => x_mul (ee st rfl) (ee st rfl) hf5) <| wa rfl (v := I (s2_3 * (p0.wd + 1))) rfl <| wl_end <| lv_block <| lv_next <| cc_region <| wm rfl (v := I s2_4) hs2_4 ?_
    replace hG := i64_bind hG; obtain ⟨hf6, hG⟩ := hG
    refine wd rfl (fun st => x_add (ee st rfl) (ee st rfl) hf6) <| wa rfl (v := I (s2_4 + 1)) rfl <| wl_end ?_
    refine lv_round m_ (Nat.lt_succ_self _) (fun st => ?_)
    exact ⟨(s2_3 * (p0.wd + 1)), (s2_4 + 1), hG, (puts_size _ _).trans st.sz, (puts_defers _ _).trans st.df, (sl_puts st 1).trans hs2_1, (sl_puts st 3).trans rfl, (sl_puts st 4).trans rfl, rfl⟩
   ·replace hG := cond_f hG hc3
    refine cc_cond_f rfl hc3 <| cc_exit <| lv_then_exit <| lv_then_exit ?_
    obtain rfl := Option.some.inj hG
    refine lv_to (fun st => ?_)
    exact ⟨rfl, (puts_size _ _).trans st.sz, (puts_defers _ _).trans st.df, (sl_puts st 3).trans hs2_3, rfl⟩
 case af2 =>
  rintro e_ fr2a _ (⟨rfl, hsz2a, hdf2a, hs2a_3, rfl⟩)
  refine lv_fr (X := X0) (N := 17) hsz2a hdf2a <| lv_block_hit <| lv_next <| cc_seq <| cc_region <| wm rfl (v := I z2) hs2a_3 <| wa rfl (v := I z2) rfl <| wl_end <| lv_next <| cc_ret ?_
  obtain rfl := Option.some.inj hG
  refine lv_ret1 rfl rfl ?_
  exact ⟨hp1.fin, rfl⟩
theorem a70 (K_ : Nat) (Z : Nat → Prop) (w : World) (r_ : (Int × Int)) (hG : G_Empty K_ = some r_) :
    Ret Try.prog 70 #[] w (fun v w' => Ext w w' ∧ (vAgg eR).R w' (ZZ Z w.heap.size []) v r_) := by
 unfold G_Empty at hG
 refine ret_of_cc (N := 2) Try.func70 rfl rfl (by simp) ?_
 intro fr0 ha hdf
 clear ha
 have hp0 := Hp.refl w
 refine cc_seq <| cc_region <| we rfl (fun st => x_alloc (cs := #[I 0, I 0]) zero_23 rfl) ?_
 rintro _ w1 ⟨b1, rfl, nb1⟩
 have hp1 : Hp w [some b1] w1 := hp0.new nb1.gr (Nat.le_of_eq nb1.b_eq.symm) (Nat.lt_of_lt_of_eq (Nat.lt_succ_self _) nb1.sz.symm)
 refine wl_end <| lv_next <| cc_seq <| cc_region <| wd rfl (fun st => x_build (vs := #[(0, I 1099511627776), (1, I (-1099511627776))]) (v := .agg #[I 1099511627776, I (-1099511627776)]) (pm2 (ee st rfl) (ee st rfl)) (by kernel_rfl)) <| wl_ex0 rfl rfl (fun st => x_store (n := 2) (l := [I 1099511627776, I (-1099511627776)]) (cs' := #[I 1099511627776, I (-1099511627776)]) (ee st rfl) (ee st rfl) sz_23 nb1.bk rfl rfl (show 0 + 2 ≤ 2 by decide) (one_cells rfl) rfl) ?_
 rintro _ w3 sb3
 have hp2 : Hp w [some b1] w3 := hp1.gr sb3.gr (hp1.ge 0 rfl)
 refine wl_end <| lv_next <| cc_ret ?_
 obtain rfl := Option.some.inj hG
 refine lv_retc (v := .agg #[I 1099511627776, I (-1099511627776)]) rfl rfl (run_loadn_bk agg_23 sb3.bk rfl rfl) ?_
 exact ⟨hp2.fin, ⟨_, rfl, rfl⟩⟩
theorem a71 (K_ : Nat) (p0 : (Int × Int)) (p1 : Int) (Z : Nat → Prop) (w : World) (r_ : (Int × Int)) (hG : G_Wider K_ p0 p1 = some r_) :
    Ret Try.prog 71 #[.agg #[I p0.1, I p0.2], I p1] w (fun v w' => Ext w w' ∧ (vAgg eR).R w' (ZZ Z w.heap.size []) v r_) := by
 unfold G_Wider at hG
 refine ret_of_cc (N := 14) Try.func71 rfl rfl (by simp) ?_
 intro fr0 ha hdf
 have hp_0 := sl_arg (i := 0) (v := .agg #[I p0.1, I p0.2]) ha rfl
 have hp_1 := sl_arg (i := 1) (v := I p1) ha rfl
 clear ha
 have hp0 := Hp.refl w
 refine cc_seq <| cc_region <| we rfl (fun st => x_box (v := .agg #[I p0.1, I p0.2]) (cs := #[I p0.1, I p0.2]) (ee st hp_0) rfl) ?_
 rintro _ w1 ⟨b1, rfl, nb1⟩
 have hp1 : Hp w [some b1] w1 := hp0.new nb1.gr (Nat.le_of_eq nb1.b_eq.symm) (Nat.lt_of_lt_of_eq (Nat.lt_succ_self _) nb1.sz.symm)
 refine we rfl (fun st => x_alloc (cs := #[I 0, I 0]) zero_23 rfl) ?_
 rintro _ w2 ⟨b2, rfl, nb2⟩
 have hp2 : Hp w [some b2, some b1] w2 := hp1.new nb2.gr (Nat.le_of_eq nb2.b_eq.symm) (Nat.lt_of_lt_of_eq (Nat.lt_succ_self _) nb2.sz.symm)
 refine wl_end <| lv_next <| cc_seq <| cc_region <| wd rfl (fun st => x_fieldAddr (ee st rfl) (fz_23_0 _ _)) ?_
 have bk1_2 : Bk w2 b1 23 #[I p0.1, I p0.2] := (nb1.bk.ext nb2.gr)
 refine wd rfl (fun st => x_load1 (v := I p0.1) one_3 (ee st rfl) bk1_2 rfl) <| wm rfl (v := I p1) hp_1 <| wd rfl (fun st => x_min (ee st rfl) (ee st rfl)) <| wd rfl (fun st => x_fieldAddr (ee st rfl) (fz_23_1 _ _)) <| wd rfl (fun st => x_load1 (v := I p0.2) one_3 (ee st rfl) bk1_2 rfl) <| wm rfl (v := I p1) hp_1 <| wd rfl (fun st => x_max (ee st rfl) (ee st rfl)) <| wd rfl (fun st => x_build (vs := #[(0, I (min p0.1 p1)), (1, I (max p0.2 p1))]) (v := .agg #[I (min p0.1 p1), I (max p0.2 p1)]) (pm2 (ee st rfl) (ee st rfl)) (by kernel_rfl)) <| wl_ex0 rfl rfl (fun st => x_store (n := 2) (l := [I (min p0.1 p1), I (max p0.2 p1)]) (cs' := #[I (min p0.1 p1), I (max p0.2 p1)]) (ee st rfl) (ee st rfl) sz_23 nb2.bk rfl rfl (show 0 + 2 ≤ 2 by decide) (one_cells rfl) rfl) ?_
 rintro _ w4 sb4
 have hp3 : Hp w [some b2, some b1] w4 := hp2.gr sb4.gr (hp2.ge 0 rfl)
 refine wl_end <| lv_next <| cc_ret ?_
 obtain rfl := Option.some.inj hG
 refine lv_retc (v := .agg #[I (min p0.1 p1), I (max p0.2 p1)]) rfl rfl (run_loadn_bk agg_23 sb4.bk rfl rfl) ?_
 exact ⟨hp3.fin, ⟨_, rfl, rfl⟩⟩
end Go.Proofs.Ythogdgkafaclaaa
end
section
set_option linter.unusedVariables false
set_option linter.unusedSimpArgs false
namespace Go.Proofs.Ythogdgkafaclaaa
open Go.RowKit
open AF
theorem mixedA2 : Try.prog.follows .mixedOrders = true := by kernel_rfl
attribute [local irreducible] Ex1 WL CC CW LV Ret ObOp Agg One Own
theorem a47 (K_ : Nat) (p0 : Fld) (A0_0 : Option Addr) (c0_0 : Nat) (Z : Nat → Prop) (w : World) (hS0_0 : Sl eTly w Z A0_0 c0_0 p0.ts) (r_ : Int) (hG : G_Full K_ p0 = some r_) :
    Ret Try.prog 47 #[.agg #[I p0.rows, I p0.wd, I p0.lo, I p0.hi, .slice A0_0 p0.ts.length c0_0]] w (fun v w' => Ext w w' ∧ (vInt .i64).R w' (ZZ Z w.heap.size []) v r_) := by
 unfold G_Full at hG
 refine ret_of_cc (N := 9) Try.func47 rfl rfl (by simp) ?_
 intro fr0 ha hdf
 have hp_0 := sl_arg (i := 0) (v := .agg #[I p0.rows, I p0.wd, I p0.lo, I p0.hi, .slice A0_0 p0.ts.length c0_0]) ha rfl
 clear ha
 have hp0 := Hp.refl w
 have hS0_0_0 := hS0_0.mv (mv_start w)
 refine cc_seq <| cc_region <| we rfl (fun st => x_box (v := .agg #[I p0.rows, I p0.wd, I p0.lo, I p0.hi, .slice A0_0 p0.ts.length c0_0]) (cs := #[I p0.rows, I p0.wd, I p0.lo, I p0.hi, .slice A0_0 p0.ts.length c0_0]) (ee st hp_0) rfl) ?_
 rintro _ w1 ⟨b1, rfl, nb1⟩
 have hp1 : Hp w [some b1] w1 := hp0.new nb1.gr (Nat.le_of_eq nb1.b_eq.symm) (Nat.lt_of_lt_of_eq (Nat.lt_succ_self _) nb1.sz.symm)
 refine wa rfl (v := I 0) rfl <| wl_end <| lv_next <| cc_seq <| cc_region <| wd rfl (fun st => x_fieldAddr (ee st rfl) (fz_26_3 _ _)) <| wd rfl (fun st => x_load1 (v := .slice A0_0 p0.ts.length c0_0) one_24 (ee st rfl) nb1.bk rfl) <| wd rfl (fun st => x_len Try.underlying24 (ee st rfl)) ?_
 replace hG := cvO_bind hG; obtain ⟨hf2, hG⟩ := hG
 refine wd rfl (fun st => x_conv (k := .u64) sm_3 Try.underlying63 (ee st rfl) hf2) ?_
 replace hG := shlO_bind hG; obtain ⟨hf3, hG⟩ := hG
 refine wd rfl (fun st => x_shl (ee st rfl) (ee st rfl) hf3) ?_
 replace hG := i64_bind hG; obtain ⟨hf4, hG⟩ := hG
 refine wd rfl (fun st => x_sub (ee st rfl) (ee st rfl) hf4) <| wa rfl (v := I ((shlI (1 : Int) (p0.ts.length : Int)) - 1)) rfl <| wl_end <| lv_next <| cc_ret ?_
 obtain rfl := Option.some.inj hG
 refine lv_ret1 rfl rfl ?_
 exact ⟨hp1.fin, rfl⟩
theorem a89 (K_ : Nat) (p0 : List Int) (p1 : List Int) (A0_0 : Option Addr) (c0_0 : Nat) (A1_0 : Option Addr) (c1_0 : Nat) (Z : Nat → Prop) (w : World) (hS0_0 : Sl (eInt .i64) w Z A0_0 c0_0 p0) (hS1_0 : Sl (eInt .i64) w Z A1_0 c1_0 p1) (r_ : Bool) (hG : G_Before K_ p0 p1 = some r_) :
    Ret Try.prog 89 #[.slice A0_0 p0.length c0_0, .slice A1_0 p1.length c1_0] w (fun v w' => Ext w w' ∧ vBool.R w' (ZZ Z w.heap.size []) v r_) := by
 unfold G_Before at hG
 refine ret_of_cc (N := 41) Try.func89 rfl rfl (by simp) ?_
 intro fr0 ha hdf
 have hp_0 := sl_arg (i := 0) (v := .slice A0_0 p0.length c0_0) ha rfl
 have hp_1 := sl_arg (i := 1) (v := .slice A1_0 p1.length c1_0) ha rfl
 clear ha
 have hp0 := Hp.refl w
 have hS0_0_0 := hS0_0.mv (mv_start w)
 have hS1_0_0 := hS1_0.mv (mv_start w)
 refine cc_seq <| cc_region <| wa rfl (v := .bool false) rfl <| wl_end <| lv_next <| cc_seq <| cc_seq <| cc_region <| wa rfl (v := I 0) rfl <| wl_end <| lv_next <| cc_block ?_
 replace hG := bind_some hG; obtain ⟨z1, hL1, hG⟩ := hG
 refine cc_join (fun e_ fr_ w_ => (e_ = .ret ∧ ∃ q1, z1 = .inl q1 ∧ fr_.tmps.size = 41 ∧ fr_.defers = [] ∧ sl fr_ 4 = .bool q1 ∧ Hp w [] w_) ∨ (e_ = .exit 0 ∧ ∃ q1, z1 = .inr q1 ∧ fr_.tmps.size = 41 ∧ fr_.defers = [] ∧ sl fr_ 0 = .slice A0_0 p0.length c0_0 ∧ sl fr_ 1 = .slice A1_0 p1.length c1_0 ∧ Hp w [] w_ ∧ Sl (eInt .i64) w_ (ZZ Z w.heap.size []) A0_0 c0_0 p0 ∧ Sl (eInt .i64) w_ (ZZ Z w.heap.size []) A1_0 c1_0 p1)) ?lp1 ?af1
 case lp1 =>
  clear hG
  refine cc_loop (fun (m_ : Nat) (fr_ : Act) (w_ : World) => ∃ s1_5, G_Before_L1 p0 p1 m_ s1_5 = some z1 ∧ fr_.tmps.size = 41 ∧ fr_.defers = [] ∧ sl fr_ 0 = .slice A0_0 p0.length c0_0 ∧ sl fr_ 1 = .slice A1_0 p1.length c1_0 ∧ sl fr_ 5 = I s1_5 ∧ Hp w [] w_ ∧ Sl (eInt .i64) w_ (ZZ Z w.heap.size []) A0_0 c0_0 p0 ∧ Sl (eInt .i64) w_ (ZZ Z w.heap.size []) A1_0 c1_0 p1) K_ ?in1 ?rd1
  case in1 =>
   intro st
   exact ⟨(0 : Int), hL1, (puts_size _ _).trans st.sz, (puts_defers _ _).trans st.df, (sl_puts st 0).trans hp_0, (sl_puts st 1).trans hp_1, (sl_puts st 5).trans rfl, hp0, hS0_0_0, hS1_0_0⟩
  case rd1 =>
   rintro (_ | m_) fr1 w1r ⟨s1_5, hL1, hsz1, hdf1, hs1_0, hs1_1, hs1_5, hp1, f1_hS0_0, f1_hS1_0⟩
   ·exact absurd (show none = some _ from hL1) (by simp)
   rw [G_Before_L1.eq_2] at hL1
   have hG := hL1; clear hL1
   refine round_cc (N := 41) hsz1 hdf1 <| cc_seq <| cc_seq <| cc_region <| wm rfl (v := I s1_5) hs1_5 <| wm rfl (v := .slice A0_0 p0.length c0_0) hs1_0 <| wd rfl (fun st => x_len Try.underlying43 (ee st rfl)) <| wd rfl (fun st => x_lss (ee st rfl) (ee st rfl)) <| wm rfl (v := .bool (decide (s1_5 < (p0.length : Int)))) rfl ?_
   rcases bool_cases (decide (s1_5 < (p0.length : Int))) with hc2 | hc2
   ·replace hG := cond_t hG hc2
    refine wl_detg rfl rfl (guard_eq rfl hc2) rfl (by decide) (fun st => x_move (v := I s1_5) (ee st hs1_5)) <| wl_detg rfl rfl (guard_eq rfl hc2) rfl (by decide) (fun st => x_move (v := .slice A1_0 p1.length c1_0) (ee st hs1_1)) <| wl_detg rfl rfl (guard_eq rfl hc2) rfl (by decide) (fun st => x_len Try.underlying43 (ee st rfl)) <| wl_detg rfl rfl (guard_eq rfl hc2) rfl (by decide) (fun st => x_lss (ee st rfl) (ee st rfl)) <| wd rfl (fun st => x_pick_t (v := .bool (decide (s1_5 < (p1.length : Int)))) (ee st rfl) hc2 (ee st rfl)) <| wl_end <| lv_next ?_
    rcases bool_cases (decide (s1_5 < (p1.length : Int))) with hc3 | hc3
    ·replace hG := cond_t hG hc3
     refine cc_cond_t rfl hc3 <| cc_skip <| lv_next <| cc_seq <| cc_block <| cc_seq ?_
     replace hG := idx_bind hG; obtain ⟨i5, x5, hi5, hx5, hl5, hG⟩ := hG
     obtain ⟨b5, o5, _, hA5, rfl, hz5⟩ := Sl.elem1 f1_hS0_0 rfl hx5
     replace hG := idx_bind hG; obtain ⟨i6, x6, hi6, hx6, hl6, hG⟩ := hG
     obtain ⟨b6, o6, _, hA6, rfl, hz6⟩ := Sl.elem1 f1_hS1_0 rfl hx6
     refine cc_anyM0 9 [Kc (.slice A0_0 p0.length c0_0), Kc (I s1_5), Kc (pt b5 (o5 + i5)), Kc (I x5), Kc (.slice A1_0 p1.length c1_0), Kc (I s1_5), Kc (pt b6 (o6 + i6)), Kc (I x6), Kc (.bool (x5 != x6))] mixedA2 rfl rfl
         (obsN_cons (od rfl (fun _ => rfl) (fun K => x_move (v := .slice A0_0 p0.length c0_0) (es (t := 0) (v := .slice A0_0 p0.length c0_0) ((K.out 0 rfl).trans hs1_0))))
         (obsN_cons (od rfl (fun _ => rfl) (fun K => x_move (v := I s1_5) (es (t := 5) (v := I s1_5) ((K.out 5 rfl).trans hs1_5))))
         (obsN_cons (od rfl (fun _ => rfl) (fun K => x_indexAddr1 (k := i5) Try.underlying43 sz_3 (es (t := 18) (v := .slice A0_0 p0.length c0_0) (K.dep 0 18 rfl rfl)) hA5 (es (t := 19) (v := I s1_5) (K.dep 1 19 rfl rfl)) hi5 hl5))
         (obsN_cons (od rfl (fun _ => rfl) (fun K => x_load_z0 (v := I x5) one_3 (es (t := 20) (v := pt b5 (o5 + i5)) (K.dep 2 20 rfl rfl)) (hz5.mv (mv_ext K.phT)) rfl))
         (obsN_cons (od rfl (fun _ => rfl) (fun K => x_move (v := .slice A1_0 p1.length c1_0) (es (t := 1) (v := .slice A1_0 p1.length c1_0) ((K.out 1 rfl).trans hs1_1))))
         (obsN_cons (od rfl (fun _ => rfl) (fun K => x_move (v := I s1_5) (es (t := 5) (v := I s1_5) ((K.out 5 rfl).trans hs1_5))))
         (obsN_cons (od rfl (fun _ => rfl) (fun K => x_indexAddr1 (k := i6) Try.underlying43 sz_3 (es (t := 22) (v := .slice A1_0 p1.length c1_0) (K.dep 4 22 rfl rfl)) hA6 (es (t := 23) (v := I s1_5) (K.dep 5 23 rfl rfl)) hi6 hl6))
         (obsN_cons (od rfl (fun _ => rfl) (fun K => x_load_z0 (v := I x6) one_3 (es (t := 24) (v := pt b6 (o6 + i6)) (K.dep 6 24 rfl rfl)) (hz6.mv (mv_ext K.phT)) rfl))
         (obsN_cons (od rfl (fun _ => rfl) (fun K => x_neq (es (t := 21) (v := I x5) (K.dep 3 21 rfl rfl)) (es (t := 25) (v := I x6) (K.dep 7 25 rfl rfl))))
         (obsN_nil _)))))))))) ?_
     intro w4
     rintro _ rfl _ rfl _ rfl _ rfl _ rfl _ rfl _ rfl _ rfl _ rfl hx4
     have hp2 : Hp w [] w4 := hp1.ext hx4
     refine wl_end <| lv_next ?_
     rcases bool_cases (x5 != x6) with hc7 | hc7
     ·replace hG := cond_t hG hc7
      refine cc_cond_t rfl hc7 <| cc_seq ?_
      replace hG := idx_bind hG; obtain ⟨i9, x9, hi9, hx9, hl9, hG⟩ := hG
      have hS0_0_2 : Sl (eInt .i64) w4 (ZZ Z w.heap.size []) A0_0 c0_0 p0 := (f1_hS0_0.mv (mv_ext hx4))
      obtain ⟨b9, o9, _, hA9, rfl, hz9⟩ := Sl.elem1 hS0_0_2 rfl hx9
      replace hG := idx_bind hG; obtain ⟨i10, x10, hi10, hx10, hl10, hG⟩ := hG
      have hS1_0_2 : Sl (eInt .i64) w4 (ZZ Z w.heap.size []) A1_0 c1_0 p1 := (f1_hS1_0.mv (mv_ext hx4))
      obtain ⟨b10, o10, _, hA10, rfl, hz10⟩ := Sl.elem1 hS1_0_2 rfl hx10
      refine cc_anyM0 9 [Kc (.slice A0_0 p0.length c0_0), Kc (I s1_5), Kc (pt b9 (o9 + i9)), Kc (I x9), Kc (.slice A1_0 p1.length c1_0), Kc (I s1_5), Kc (pt b10 (o10 + i10)), Kc (I x10), Kc (.bool (decide (x9 < x10)))] mixedA2 rfl rfl
          (obsN_cons (od rfl (fun _ => rfl) (fun K => x_move (v := .slice A0_0 p0.length c0_0) (es (t := 0) (v := .slice A0_0 p0.length c0_0) ((K.out 0 rfl).trans hs1_0))))
          (obsN_cons (od rfl (fun _ => rfl) (fun K => x_move (v := I s1_5) (es (t := 5) (v := I s1_5) ((K.out 5 rfl).trans hs1_5))))
          (obsN_cons (od rfl (fun _ => rfl) (fun K => x_indexAddr1 (k := i9) Try.underlying43 sz_3 (es (t := 27) (v := .slice A0_0 p0.length c0_0) (K.dep 0 27 rfl rfl)) hA9 (es (t := 28) (v := I s1_5) (K.dep 1 28 rfl rfl)) hi9 hl9))
          (obsN_cons (od rfl (fun _ => rfl) (fun K => x_load_z0 (v := I x9) one_3 (es (t := 29) (v := pt b9 (o9 + i9)) (K.dep 2 29 rfl rfl)) (hz9.mv (mv_ext K.phT)) rfl))
          (obsN_cons (od rfl (fun _ => rfl) (fun K => x_move (v := .slice A1_0 p1.length c1_0) (es (t := 1) (v := .slice A1_0 p1.length c1_0) ((K.out 1 rfl).trans hs1_1))))
          (obsN_cons (od rfl (fun _ => rfl) (fun K => x_move (v := I s1_5) (es (t := 5) (v := I s1_5) ((K.out 5 rfl).trans hs1_5))))
          (obsN_cons (od rfl (fun _ => rfl) (fun K => x_indexAddr1 (k := i10) Try.underlying43 sz_3 (es (t := 31) (v := .slice A1_0 p1.length c1_0) (K.dep 4 31 rfl rfl)) hA10 (es (t := 32) (v := I s1_5) (K.dep 5 32 rfl rfl)) hi10 hl10))
          (obsN_cons (od rfl (fun _ => rfl) (fun K => x_load_z0 (v := I x10) one_3 (es (t := 33) (v := pt b10 (o10 + i10)) (K.dep 6 33 rfl rfl)) (hz10.mv (mv_ext K.phT)) rfl))
          (obsN_cons (od rfl (fun _ => rfl) (fun K => x_lss (es (t := 30) (v := I x9) (K.dep 3 30 rfl rfl)) (es (t := 34) (v := I x10) (K.dep 7 34 rfl rfl))))
          (obsN_nil _)))))))))) ?_
      intro w8
      rintro _ rfl _ rfl _ rfl _ rfl _ rfl _ rfl _ rfl _ rfl _ rfl hx8
      have hp3 : Hp w [] w8 := hp2.ext hx8
      refine wa rfl (v := .bool (decide (x9 < x10))) rfl <| wl_end <| lv_next <| cc_ret <| lv_block_ret <| lv_then_ret <| lv_then_ret ?_
      obtain rfl := Option.some.inj hG
      refine lv_to (fun st => ?_)
      exact .inl ⟨rfl, (decide (x9 < x10)), rfl, (puts_size _ _).trans st.sz, (puts_defers _ _).trans st.df, (sl_puts st 4).trans rfl, hp3⟩
     ·replace hG := cond_f hG hc7
      refine cc_cond_f rfl hc7 <| cc_skip <| lv_block <| lv_next <| cc_region <| wm rfl (v := I s1_5) hs1_5 ?_
      replace hG := i64_bind hG; obtain ⟨hf11, hG⟩ := hG
      refine wd rfl (fun st => x_add (ee st rfl) (ee st rfl) hf11) <| wa rfl (v := I (s1_5 + 1)) rfl <| wl_end ?_
      have hS0_0_2 : Sl (eInt .i64) w4 (ZZ Z w.heap.size []) A0_0 c0_0 p0 := (f1_hS0_0.mv (mv_ext hx4))
      have hS1_0_2 : Sl (eInt .i64) w4 (ZZ Z w.heap.size []) A1_0 c1_0 p1 := (f1_hS1_0.mv (mv_ext hx4))
      refine lv_round m_ (Nat.lt_succ_self _) (fun st => ?_)
      exact ⟨(s1_5 + 1), hG, (puts_size _ _).trans st.sz, (puts_defers _ _).trans st.df, (sl_puts st 0).trans hs1_0, (sl_puts st 1).trans hs1_1, (sl_puts st 5).trans rfl, hp2, hS0_0_2, hS1_0_2⟩
    ·replace hG := cond_f hG hc3
     refine cc_cond_f rfl hc3 <| cc_exit <| lv_then_exit <| lv_then_exit ?_
     obtain rfl := Option.some.inj hG
     refine lv_to (fun st => ?_)
     exact .inr ⟨rfl, (), rfl, (puts_size _ _).trans st.sz, (puts_defers _ _).trans st.df, (sl_puts st 0).trans hs1_0, (sl_puts st 1).trans hs1_1, hp1, f1_hS0_0, f1_hS1_0⟩
   ·replace hG := cond_f hG hc2
    refine wl_skip (c := false) rfl rfl (guard_eq rfl hc2) (by decide) rfl (by decide) <| wl_skip (c := false) rfl rfl (guard_eq rfl hc2) (by decide) rfl (by decide) <| wl_skip (c := false) rfl rfl (guard_eq rfl hc2) (by decide) rfl (by decide) <| wl_skip (c := false) rfl rfl (guard_eq rfl hc2) (by decide) rfl (by decide) <| wd rfl (fun st => x_pick_f (v := .bool false) (ee st rfl) hc2 (ee st rfl)) <| wl_end <| lv_next <| cc_cond_f rfl rfl <| cc_exit <| lv_then_exit <| lv_then_exit ?_
    obtain rfl := Option.some.inj hG
    refine lv_to (fun st => ?_)
    exact .inr ⟨rfl, (), rfl, (puts_size _ _).trans st.sz, (puts_defers _ _).trans st.df, (sl_puts st 0).trans hs1_0, (sl_puts st 1).trans hs1_1, hp1, f1_hS0_0, f1_hS1_0⟩
 case af1 =>
  rintro e_ fr1a w1a (⟨rfl, q1, rfl, hsz1a, hdf1a, hs1a_4, hp1a⟩ | ⟨rfl, q1, rfl, hsz1a, hdf1a, hs1a_0, hs1a_1, hp1a, g1_hS0_0, g1_hS1_0⟩)
  ·skip
   replace hG := inl_some hG
   refine lv_fr (X := X0) (N := 41) hsz1a hdf1a <| lv_block_ret <| lv_then_ret ?_
   obtain rfl := Option.some.inj hG
   refine lv_ret1 rfl hs1a_4 ?_
   exact ⟨hp1a.fin, rfl⟩
  ·skip
   replace hG := inr_some hG
   refine lv_fr (X := X0) (N := 41) hsz1a hdf1a <| lv_block_hit <| lv_next <| cc_seq <| cc_region <| wm rfl (v := .slice A0_0 p0.length c0_0) hs1a_0 <| wd rfl (fun st => x_len Try.underlying43 (ee st rfl)) <| wm rfl (v := .slice A1_0 p1.length c1_0) hs1a_1 <| wd rfl (fun st => x_len Try.underlying43 (ee st rfl)) <| wd rfl (fun st => x_lss (ee st rfl) (ee st rfl)) <| wa rfl (v := .bool (decide ((p0.length : Int) < (p1.length : Int)))) rfl <| wl_end <| lv_next <| cc_ret ?_
   obtain rfl := Option.some.inj hG
   refine lv_ret1 rfl rfl ?_
   exact ⟨hp1a.fin, rfl⟩
theorem a48 (K_ : Nat) (p0 : List Int) (p1 : List Int) (A0_0 : Option Addr) (c0_0 : Nat) (A1_0 : Option Addr) (c1_0 : Nat) (Z : Nat → Prop) (w : World) (hS0_0 : Sl (eInt .i64) w Z A0_0 c0_0 p0) (hS1_0 : Sl (eInt .i64) w Z A1_0 c1_0 p1) (r_ : Bool) (hG : G_Shorter K_ p0 p1 = some r_) :
    Ret Try.prog 48 #[.slice A0_0 p0.length c0_0, .slice A1_0 p1.length c1_0] w (fun v w' => Ext w w' ∧ vBool.R w' (ZZ Z w.heap.size []) v r_) := by
 unfold G_Shorter at hG
 refine ret_of_cc (N := 22) Try.func48 rfl rfl (by simp) ?_
 intro fr0 ha hdf
 have hp_0 := sl_arg (i := 0) (v := .slice A0_0 p0.length c0_0) ha rfl
 have hp_1 := sl_arg (i := 1) (v := .slice A1_0 p1.length c1_0) ha rfl
 clear ha
 have hp0 := Hp.refl w
 have hS0_0_0 := hS0_0.mv (mv_start w)
 have hS1_0_0 := hS1_0.mv (mv_start w)
 refine cc_seq <| cc_region <| wa rfl (v := .bool false) rfl <| wl_end <| lv_next <| cc_seq <| cc_region <| wm rfl (v := .slice A0_0 p0.length c0_0) hp_0 <| wd rfl (fun st => x_len Try.underlying43 (ee st rfl)) <| wm rfl (v := .slice A1_0 p1.length c1_0) hp_1 <| wd rfl (fun st => x_len Try.underlying43 (ee st rfl)) <| wd rfl (fun st => x_lss (ee st rfl) (ee st rfl)) <| wm rfl (v := .bool (decide ((p0.length : Int) < (p1.length : Int)))) rfl ?_
 rcases bool_cases (decide ((p0.length : Int) < (p1.length : Int))) with hc1 | hc1
 ·replace hG := cond_t hG hc1
  refine wl_skip (c := true) rfl rfl (guard_eq rfl hc1) (by decide) rfl (by decide) <| wl_skip (c := true) rfl rfl (guard_eq rfl hc1) (by decide) rfl (by decide) <| wl_skip (c := true) rfl rfl (guard_eq rfl hc1) (by decide) rfl (by decide) <| wl_skip (c := true) rfl rfl (guard_eq rfl hc1) (by decide) rfl (by decide) <| wl_skip (c := true) rfl rfl (guard_eq rfl hc1) (by decide) rfl (by decide) <| wl_skip (c := true) rfl rfl (guard_eq rfl hc1) (by decide) rfl (by decide) <| wl_skip_u rfl rfl rfl rfl (by decide) <| wl_skip_u rfl rfl rfl rfl (by decide) <| wl_skip_u rfl rfl rfl rfl (by decide) <| wl_skip (c := true) rfl rfl (guard_eq rfl hc1) (by decide) rfl (by decide) <| wd rfl (fun st => x_pick_t (v := .bool true) (ee st rfl) hc1 (ee st rfl)) <| wa rfl (v := .bool true) rfl <| wl_end <| lv_next <| cc_ret ?_
  obtain rfl := Option.some.inj hG
  refine lv_ret1 rfl rfl ?_
  exact ⟨hp0.fin, rfl⟩
 ·replace hG := cond_f hG hc1
  refine wl_detg rfl rfl (guard_eq rfl hc1) rfl (by decide) (fun st => x_move (v := .slice A0_0 p0.length c0_0) (ee st hp_0)) <| wl_detg rfl rfl (guard_eq rfl hc1) rfl (by decide) (fun st => x_len Try.underlying43 (ee st rfl)) <| wl_detg rfl rfl (guard_eq rfl hc1) rfl (by decide) (fun st => x_move (v := .slice A1_0 p1.length c1_0) (ee st hp_1)) <| wl_detg rfl rfl (guard_eq rfl hc1) rfl (by decide) (fun st => x_len Try.underlying43 (ee st rfl)) <| wl_detg rfl rfl (guard_eq rfl hc1) rfl (by decide) (fun st => x_eql (ee st rfl) (ee st rfl)) <| wl_detg rfl rfl (guard_eq rfl hc1) rfl (by decide) (fun st => x_move (v := .bool ((p0.length : Int) == (p1.length : Int))) (ee st rfl)) ?_
  rcases bool_cases ((p0.length : Int) == (p1.length : Int)) with hc2 | hc2
  ·replace hG := cond_t hG hc2
   refine wl_detg rfl rfl (guard_eq rfl hc2) rfl (by decide) (fun st => x_move (v := .slice A0_0 p0.length c0_0) (ee st hp_0)) <| wl_detg rfl rfl (guard_eq rfl hc2) rfl (by decide) (fun st => x_move (v := .slice A1_0 p1.length c1_0) (ee st hp_1)) ?_
   replace hG := bind_some hG; obtain ⟨r3, hr3, hG⟩ := hG
   refine wl_exg rfl rfl (guard_eq rfl hc2) rfl (by decide) (fun st => x_call0 own_89 (ee st rfl) (am2 (ee st rfl) (ee st rfl)) (a89 K_ p0 p1 A0_0 c0_0 A1_0 c1_0 ZA _ hS0_0_0.all hS1_0_0.all r3 hr3)) ?_
   rintro _ w4 ⟨hx3, rfl⟩
   have hp1 : Hp w [] w4 := hp0.ext hx3
   refine wl_detg rfl rfl (guard_eq rfl hc1) rfl (by decide) (fun st => x_pick_t (v := .bool r3) (ee st rfl) hc2 (ee st rfl)) <| wd rfl (fun st => x_pick_f (v := .bool r3) (ee st rfl) hc1 (ee st rfl)) <| wa rfl (v := .bool r3) rfl <| wl_end <| lv_next <| cc_ret ?_
   obtain rfl := Option.some.inj hG
   refine lv_ret1 rfl rfl ?_
   exact ⟨hp1.fin, rfl⟩
  ·replace hG := cond_f hG hc2
   refine wl_skip (c := false) rfl rfl (guard_eq rfl hc2) (by decide) rfl (by decide) <| wl_skip (c := false) rfl rfl (guard_eq rfl hc2) (by decide) rfl (by decide) <| wl_skip (c := false) rfl rfl (guard_eq rfl hc2) (by decide) rfl (by decide) <| wl_detg rfl rfl (guard_eq rfl hc1) rfl (by decide) (fun st => x_pick_f (v := .bool false) (ee st rfl) hc2 (ee st rfl)) <| wd rfl (fun st => x_pick_f (v := .bool false) (ee st rfl) hc1 (ee st rfl)) <| wa rfl (v := .bool false) rfl <| wl_end <| lv_next <| cc_ret ?_
   obtain rfl := Option.some.inj hG
   refine lv_ret1 rfl rfl ?_
   exact ⟨hp0.fin, rfl⟩
theorem a49 (K_ : Nat) (p0 : Int) (Z : Nat → Prop) (w : World) (r_ : (List Int)) (hG : G_Bits K_ p0 = some r_) :
    Ret Try.prog 49 #[I p0] w (fun v w' => Ext w w' ∧ (vSl (eInt .i64)).R w' (ZZ Z w.heap.size []) v r_) := by
 unfold G_Bits at hG
 refine ret_of_cc (N := 23) Try.func49 rfl rfl (by simp) ?_
 intro fr0 ha hdf
 have hp_0 := sl_arg (i := 0) (v := I p0) ha rfl
 clear ha
 have hp0 := Hp.refl w
 refine cc_seq <| cc_region <| wa rfl (v := .slice none 0 0) rfl <| wl_end <| lv_next <| cc_seq <| cc_region <| wa rfl (v := .slice none 0 0) rfl <| wl_end <| lv_next <| cc_seq <| cc_seq <| cc_region <| wa rfl (v := I 0) rfl <| wl_end <| lv_next <| cc_block ?_
 have hp1 : Hp w [none] w := hp0.nil
 have hR2 : OwnR (eInt .i64) 3 w w (ZZ Z w.heap.size [none]) none 0 [] := OwnR.nil _ _ _ _ _
 replace hG := bind_some hG; obtain ⟨z1, hL1, hG⟩ := hG
 refine cc_join (fun e_ fr_ w_ => (e_ = .exit 0 ∧ ∃ Ae1_0_30 Ce1_0_30, fr_.tmps.size = 23 ∧ fr_.defers = [] ∧ sl fr_ 3 = .slice Ae1_0_30 z1.length Ce1_0_30 ∧ Hp w [ob Ae1_0_30] w_ ∧ OwnR (eInt .i64) 3 w w_ (ZZ Z w.heap.size [ob Ae1_0_30]) Ae1_0_30 Ce1_0_30 z1)) ?lp1 ?af1
 case lp1 =>
  clear hG
  refine cc_loop (fun (m_ : Nat) (fr_ : Act) (w_ : World) => ∃ s1_3, ∃ s1_4, ∃ As1_3 Cs1_3, G_Bits_L1 p0 m_ s1_3 s1_4 = some z1 ∧ fr_.tmps.size = 23 ∧ fr_.defers = [] ∧ sl fr_ 0 = I p0 ∧ sl fr_ 3 = .slice As1_3 s1_3.length Cs1_3 ∧ sl fr_ 4 = I s1_4 ∧ Hp w [ob As1_3] w_ ∧ OwnR (eInt .i64) 3 w w_ (ZZ Z w.heap.size [ob As1_3]) As1_3 Cs1_3 s1_3) K_ ?in1 ?rd1
  case in1 =>
   intro st
   exact ⟨([] : List Int), (0 : Int), none, 0, hL1, (puts_size _ _).trans st.sz, (puts_defers _ _).trans st.df, (sl_puts st 0).trans hp_0, (sl_puts st 3).trans rfl, (sl_puts st 4).trans rfl, hp1, hR2⟩
  case rd1 =>
   rintro (_ | m_) fr1 w1r ⟨s1_3, s1_4, As1_3, Cs1_3, hL1, hsz1, hdf1, hs1_0, hs1_3, hs1_4, hp2, f1_Hs1_3⟩
   ·exact absurd (show none = some _ from hL1) (by simp)
   rw [G_Bits_L1.eq_2] at hL1
   have hG := hL1; clear hL1
   refine round_cc (N := 23) hsz1 hdf1 <| cc_seq <| cc_seq <| cc_region <| wm rfl (v := I p0) hs1_0 <| wm rfl (v := I s1_4) hs1_4 ?_
   replace hG := cvO_bind hG; obtain ⟨hf3, hG⟩ := hG
   refine wd rfl (fun st => x_conv (k := .u64) sm_3 Try.underlying63 (ee st rfl) hf3) ?_
   replace hG := shrO_bind hG; obtain ⟨hf4, hG⟩ := hG
   refine wd rfl (fun st => x_shr (ee st rfl) (ee st rfl) hf4) <| wd rfl (fun st => x_gtr (ee st rfl) (ee st rfl)) <| wl_end <| lv_next ?_
   rcases bool_cases (decide (0 < (shrI p0 s1_4))) with hc5 | hc5
   ·replace hG := cond_t hG hc5
    refine cc_cond_t rfl hc5 <| cc_skip <| lv_next <| cc_seq <| cc_block <| cc_seq <| cc_region <| wm rfl (v := I p0) hs1_0 <| wm rfl (v := I s1_4) hs1_4 ?_
    replace hG := cvO_bind hG; obtain ⟨hf6, hG⟩ := hG
    refine wd rfl (fun st => x_conv (k := .u64) sm_3 Try.underlying63 (ee st rfl) hf6) ?_
    replace hG := shrO_bind hG; obtain ⟨hf7, hG⟩ := hG
    refine wd rfl (fun st => x_shr (ee st rfl) (ee st rfl) hf7) ?_
    replace hG := rem_bind hG; obtain ⟨hf8, hG⟩ := hG
    refine wd rfl (fun st => x_rem (ee st rfl) (ee st rfl) hf8.1 hf8.2) <| wd rfl (fun st => x_eql (ee st rfl) (ee st rfl)) <| wl_end <| lv_next ?_
    rcases bool_cases (((shrI p0 s1_4) % 2) == 1) with hc9 | hc9
    ·replace hG := cond_t hG hc9
     refine cc_cond_t rfl hc9 <| cc_region <| wm rfl (v := .slice As1_3 s1_3.length Cs1_3) hs1_3 <| wm rfl (v := I s1_4) hs1_4 <| we rfl (fun st => x_buildSlice (e := 3) (vs := #[(0, I s1_4)]) (cs := #[I s1_4]) (pm1 (ee st rfl)) (by kernel_rfl)) ?_
     rintro _ w10 ⟨b10, rfl, nb10⟩
     have hp3 : Hp w [some b10, ob As1_3] w10 := hp2.new nb10.gr (Nat.le_of_eq nb10.b_eq.symm) (Nat.lt_of_lt_of_eq (Nat.lt_succ_self _) nb10.sz.symm)
     have Hs1_3_3 : OwnR (eInt .i64) 3 w w10 (ZZ Z w.heap.size [some b10, ob As1_3]) As1_3 Cs1_3 s1_3 := (f1_Hs1_3.ext nb10.gr (mv_new nb10.gr (Nat.le_of_eq nb10.b_eq.symm)))
     replace hG := ifo_bind hG; obtain ⟨hf11, hG⟩ := hG
     refine we rfl (fun st => x_appR (ys := [s1_4]) Try.underlying43 info_3 rfl rfl (by decide) (ee st rfl) rfl (ee st rfl) Hs1_3_3 (news_bk (css := [[I s1_4]]) nb10.bk ⟨rfl, trivial⟩ rfl) (by have := hf11; simp only [maxLen]; omega) (by have := hf11; omega) hp3.bl.size (by simp)) ?_
     rintro _ w12 ⟨A12, c12, rfl, hg12, hy12, hO12⟩
     have hp4 : Hp w [some b10, ob A12] w12 := hp3.row hg12 1 rfl (hp3.ge 1 rfl) hy12
     have hR12 : OwnR (eInt .i64) 3 w w12 (ZZ Z w.heap.size [some b10, ob A12]) A12 c12 (s1_3 ++ [s1_4]) := ownR_of hO12 (hp3.mvr hg12 1 rfl (fun k hk => (hy12 k hk).1))
     refine wa rfl (v := .slice A12 ((s1_3 ++ [s1_4]).length) c12) rfl <| wl_end <| lv_block <| lv_next <| cc_region <| wm rfl (v := I s1_4) hs1_4 ?_
     replace hG := i64_bind hG; obtain ⟨hf13, hG⟩ := hG
     refine wd rfl (fun st => x_add (ee st rfl) (ee st rfl) hf13) <| wa rfl (v := I (s1_4 + 1)) rfl <| wl_end ?_
     have hp5 : Hp w [ob A12] w12 := hp4.erase 0
     have hR12_5 : OwnR (eInt .i64) 3 w w12 (ZZ Z w.heap.size [ob A12]) A12 c12 (s1_3 ++ [s1_4]) := (hR12.up (mv_erase 0))
     refine lv_round m_ (Nat.lt_succ_self _) (fun st => ?_)
     exact ⟨(s1_3 ++ [s1_4]), (s1_4 + 1), A12, c12, hG, (puts_size _ _).trans st.sz, (puts_defers _ _).trans st.df, (sl_puts st 0).trans hs1_0, (sl_puts st 3).trans rfl, (sl_puts st 4).trans rfl, hp5, hR12_5⟩
    ·replace hG := cond_f hG hc9
     refine cc_cond_f rfl hc9 <| cc_skip <| lv_block <| lv_next <| cc_region <| wm rfl (v := I s1_4) hs1_4 ?_
     replace hG := i64_bind hG; obtain ⟨hf14, hG⟩ := hG
     refine wd rfl (fun st => x_add (ee st rfl) (ee st rfl) hf14) <| wa rfl (v := I (s1_4 + 1)) rfl <| wl_end ?_
     refine lv_round m_ (Nat.lt_succ_self _) (fun st => ?_)
     exact ⟨s1_3, (s1_4 + 1), As1_3, Cs1_3, hG, (puts_size _ _).trans st.sz, (puts_defers _ _).trans st.df, (sl_puts st 0).trans hs1_0, (sl_puts st 3).trans hs1_3, (sl_puts st 4).trans rfl, hp2, f1_Hs1_3⟩
   ·replace hG := cond_f hG hc5
    refine cc_cond_f rfl hc5 <| cc_exit <| lv_then_exit <| lv_then_exit ?_
    obtain rfl := Option.some.inj hG
    refine lv_to (fun st => ?_)
    exact ⟨rfl, As1_3, Cs1_3, (puts_size _ _).trans st.sz, (puts_defers _ _).trans st.df, (sl_puts st 3).trans hs1_3, hp2, f1_Hs1_3⟩
 case af1 =>
  rintro e_ fr1a w1a (⟨rfl, Ae1_0_30, Ce1_0_30, hsz1a, hdf1a, hs1a_3, hp1a, g1_He1_0_30⟩)
  refine lv_fr (X := X0) (N := 23) hsz1a hdf1a <| lv_block_hit <| lv_next <| cc_seq <| cc_region <| wm rfl (v := .slice Ae1_0_30 z1.length Ce1_0_30) hs1a_3 <| wa rfl (v := .slice Ae1_0_30 z1.length Ce1_0_30) rfl <| wl_end <| lv_next <| cc_ret ?_
  obtain rfl := Option.some.inj hG
  refine lv_ret1 rfl rfl ?_
  exact ⟨hp1a.fin, ⟨_, _, rfl, g1_He1_0_30.fin⟩⟩
theorem a84 (K_ : Nat) (p0 : List Int) (p1 : Tly) (A0_0 : Option Addr) (c0_0 : Nat) (Z : Nat → Prop) (w : World) (hS0_0 : Sl (eInt .i64) w Z A0_0 c0_0 p0) (r_ : Bool) (hG : G_Right K_ p0 p1 = some r_) :
    Ret Try.prog 84 #[.slice A0_0 p0.length c0_0, .agg #[I p1.who, I p1.fr, I p1.to, I p1.lo, I p1.hi]] w (fun v w' => Ext w w' ∧ vBool.R w' (ZZ Z w.heap.size []) v r_) := by
 unfold G_Right at hG
 refine ret_of_cc (N := 20) Try.func84 rfl rfl (by simp) ?_
 intro fr0 ha hdf
 have hp_0 := sl_arg (i := 0) (v := .slice A0_0 p0.length c0_0) ha rfl
 have hp_1 := sl_arg (i := 1) (v := .agg #[I p1.who, I p1.fr, I p1.to, I p1.lo, I p1.hi]) ha rfl
 clear ha
 have hp0 := Hp.refl w
 have hS0_0_0 := hS0_0.mv (mv_start w)
 refine cc_seq <| cc_region <| we rfl (fun st => x_box (v := .agg #[I p1.who, I p1.fr, I p1.to, I p1.lo, I p1.hi]) (cs := #[I p1.who, I p1.fr, I p1.to, I p1.lo, I p1.hi]) (ee st hp_1) rfl) ?_
 rintro _ w1 ⟨b1, rfl, nb1⟩
 have hp1 : Hp w [some b1] w1 := hp0.new nb1.gr (Nat.le_of_eq nb1.b_eq.symm) (Nat.lt_of_lt_of_eq (Nat.lt_succ_self _) nb1.sz.symm)
 refine wa rfl (v := .bool false) rfl <| wl_end <| lv_next <| cc_seq ?_
 have hS0_0_1 : Sl (eInt .i64) w1 (ZZ Z w.heap.size [some b1]) A0_0 c0_0 p0 := (hS0_0_0.mv (mv_new nb1.gr (Nat.le_of_eq nb1.b_eq.symm)))
 replace hG := bind_some hG; obtain ⟨r3, hr3, hG⟩ := hG
 replace hG := bind_some hG; obtain ⟨r4, hr4, hG⟩ := hG
 refine cc_anyM0 15 [Kc (.slice A0_0 p0.length c0_0), Kc (pt b1 0), Kc (I p1.who), Kc (pt b1 1), Kc (I p1.fr), Kc (pt b1 2), Kc (I p1.to), Kc (I r3), Kc (pt b1 3), Kc (pt b1 3), Kc (I p1.lo), Kc (pt b1 3), Kc (pt b1 4), Kc (I p1.hi), Kc (.bool r4)] mixedA2 rfl rfl
     (obsN_cons (od rfl (fun _ => rfl) (fun K => x_move (v := .slice A0_0 p0.length c0_0) (es (t := 0) (v := .slice A0_0 p0.length c0_0) ((K.out 0 rfl).trans hp_0))))
     (obsN_cons (od rfl (fun _ => rfl) (fun K => x_fieldAddr (es (t := 3) (v := pt b1 0) ((K.out 3 rfl).trans rfl)) (fz_68_0 _ _)))
     (obsN_cons (od rfl (fun _ => rfl) (fun K => x_load1 (v := I p1.who) one_3 (es (t := 6) (v := pt b1 0) (K.dep 1 6 rfl rfl)) (nb1.bk.ext K.phT) rfl))
     (obsN_cons (od rfl (fun _ => rfl) (fun K => x_fieldAddr (es (t := 3) (v := pt b1 0) ((K.out 3 rfl).trans rfl)) (fz_68_1 _ _)))
     (obsN_cons (od rfl (fun _ => rfl) (fun K => x_load1 (v := I p1.fr) one_3 (es (t := 8) (v := pt b1 1) (K.dep 3 8 rfl rfl)) (nb1.bk.ext K.phT) rfl))
     (obsN_cons (od rfl (fun _ => rfl) (fun K => x_fieldAddr (es (t := 3) (v := pt b1 0) ((K.out 3 rfl).trans rfl)) (fz_68_2 _ _)))
     (obsN_cons (od rfl (fun _ => rfl) (fun K => x_load1 (v := I p1.to) one_3 (es (t := 10) (v := pt b1 2) (K.dep 5 10 rfl rfl)) (nb1.bk.ext K.phT) rfl))
     (obsN_cons (ob_ext rfl rfl (fun a' w' ph K => (x_call0 own_41 rfl (am4 (es (t := 5) (v := .slice A0_0 p0.length c0_0) (K.dep 0 5 rfl rfl)) (es (t := 7) (v := I p1.who) (K.dep 2 7 rfl rfl)) (es (t := 9) (v := I p1.fr) (K.dep 4 9 rfl rfl)) (es (t := 11) (v := I p1.to) (K.dep 6 11 rfl rfl))) (a41 K_ p0 p1.who p1.fr p1.to A0_0 c0_0 ZA _ (hS0_0_1.mv (mv_ext K.phT)).all r3 hr3)).mono (fun _ _ h => ⟨h.2, h.1⟩)))
     (obsN_cons (od rfl (fun _ => rfl) (fun K => x_fieldAddr (es (t := 3) (v := pt b1 0) ((K.out 3 rfl).trans rfl)) (fz_68_3 _ _)))
     (obsN_cons (od rfl (fun _ => rfl) (fun K => x_fieldAddr (es (t := 13) (v := pt b1 3) (K.dep 8 13 rfl rfl)) (fl_23_0_3 _ _)))
     (obsN_cons (od rfl (fun _ => rfl) (fun K => x_load1 (v := I p1.lo) one_3 (es (t := 14) (v := pt b1 3) (K.dep 9 14 rfl rfl)) (nb1.bk.ext K.phT) rfl))
     (obsN_cons (od rfl (fun _ => rfl) (fun K => x_fieldAddr (es (t := 3) (v := pt b1 0) ((K.out 3 rfl).trans rfl)) (fz_68_3 _ _)))
     (obsN_cons (od rfl (fun _ => rfl) (fun K => x_fieldAddr (es (t := 16) (v := pt b1 3) (K.dep 11 16 rfl rfl)) (fl_23_1_3 _ _)))
     (obsN_cons (od rfl (fun _ => rfl) (fun K => x_load1 (v := I p1.hi) one_3 (es (t := 17) (v := pt b1 4) (K.dep 12 17 rfl rfl)) (nb1.bk.ext K.phT) rfl))
     (obsN_cons (ob_ext rfl rfl (fun a' w' ph K => (x_call0 own_29 rfl (am3 (es (t := 12) (v := I r3) (K.dep 7 12 rfl rfl)) (es (t := 15) (v := I p1.lo) (K.dep 10 15 rfl rfl)) (es (t := 18) (v := I p1.hi) (K.dep 13 18 rfl rfl))) (a29 K_ r3 p1.lo p1.hi ZA _ r4 hr4)).mono (fun _ _ h => ⟨h.2, h.1⟩)))
     (obsN_nil _)))))))))))))))) ?_
 intro w2
 rintro _ rfl _ rfl _ rfl _ rfl _ rfl _ rfl _ rfl _ rfl _ rfl _ rfl _ rfl _ rfl _ rfl _ rfl _ rfl hx2
 have hp2 : Hp w [some b1] w2 := hp1.ext hx2
 refine wa rfl (v := .bool r4) rfl <| wl_end <| lv_next <| cc_ret ?_
 obtain rfl := Option.some.inj hG
 refine lv_ret1 rfl rfl ?_
 exact ⟨hp2.fin, rfl⟩
theorem a83 (K_ : Nat) (p0 : Fld) (p1 : List Int) (A0_0 : Option Addr) (c0_0 : Nat) (A1_0 : Option Addr) (c1_0 : Nat) (Z : Nat → Prop) (w : World) (hS0_0 : Sl eTly w Z A0_0 c0_0 p0.ts) (hS1_0 : Sl (eInt .i64) w Z A1_0 c1_0 p1) (r_ : Bool) (hG : G_IsAllowed K_ p0 p1 = some r_) :
    Ret Try.prog 83 #[.agg #[I p0.rows, I p0.wd, I p0.lo, I p0.hi, .slice A0_0 p0.ts.length c0_0], .slice A1_0 p1.length c1_0] w (fun v w' => Ext w w' ∧ vBool.R w' (ZZ Z w.heap.size []) v r_) := by
 unfold G_IsAllowed at hG
 refine ret_of_cc (N := 40) Try.func83 rfl rfl (by simp) ?_
 intro fr0 ha hdf
 have hp_0 := sl_arg (i := 0) (v := .agg #[I p0.rows, I p0.wd, I p0.lo, I p0.hi, .slice A0_0 p0.ts.length c0_0]) ha rfl
 have hp_1 := sl_arg (i := 1) (v := .slice A1_0 p1.length c1_0) ha rfl
 clear ha
 have hp0 := Hp.refl w
 have hS0_0_0 := hS0_0.mv (mv_start w)
 have hS1_0_0 := hS1_0.mv (mv_start w)
 refine cc_seq <| cc_region <| we rfl (fun st => x_box (v := .agg #[I p0.rows, I p0.wd, I p0.lo, I p0.hi, .slice A0_0 p0.ts.length c0_0]) (cs := #[I p0.rows, I p0.wd, I p0.lo, I p0.hi, .slice A0_0 p0.ts.length c0_0]) (ee st hp_0) rfl) ?_
 rintro _ w1 ⟨b1, rfl, nb1⟩
 have hp1 : Hp w [some b1] w1 := hp0.new nb1.gr (Nat.le_of_eq nb1.b_eq.symm) (Nat.lt_of_lt_of_eq (Nat.lt_succ_self _) nb1.sz.symm)
 refine wa rfl (v := .bool false) rfl <| wl_end <| lv_next <| cc_seq <| cc_seq <| cc_region <| wa rfl (v := I 0) rfl <| wl_end <| lv_next <| cc_block ?_
 replace hG := bind_some hG; obtain ⟨z2, hL2, hG⟩ := hG
 refine cc_join (fun e_ fr_ w_ => (e_ = .ret ∧ ∃ q2, z2 = .inl q2 ∧ fr_.tmps.size = 40 ∧ fr_.defers = [] ∧ sl fr_ 4 = .bool q2 ∧ Hp w [some b1] w_) ∨ (e_ = .exit 0 ∧ ∃ q2, z2 = .inr q2 ∧ fr_.tmps.size = 40 ∧ fr_.defers = [] ∧ sl fr_ 1 = .slice A1_0 p1.length c1_0 ∧ sl fr_ 2 = pt b1 0 ∧ Hp w [some b1] w_ ∧ Bk w_ b1 26 #[I p0.rows, I p0.wd, I p0.lo, I p0.hi, .slice A0_0 p0.ts.length c0_0] ∧ Sl eTly w_ (ZZ Z w.heap.size [some b1]) A0_0 c0_0 p0.ts ∧ Sl (eInt .i64) w_ (ZZ Z w.heap.size [some b1]) A1_0 c1_0 p1)) ?lp2 ?af2
 case lp2 =>
  clear hG
  refine cc_loop (fun (m_ : Nat) (fr_ : Act) (w_ : World) => ∃ s2_5, G_IsAllowed_L2 K_ p0 p1 m_ s2_5 = some z2 ∧ fr_.tmps.size = 40 ∧ fr_.defers = [] ∧ sl fr_ 1 = .slice A1_0 p1.length c1_0 ∧ sl fr_ 2 = pt b1 0 ∧ sl fr_ 5 = I s2_5 ∧ Hp w [some b1] w_ ∧ Bk w_ b1 26 #[I p0.rows, I p0.wd, I p0.lo, I p0.hi, .slice A0_0 p0.ts.length c0_0] ∧ Sl eTly w_ (ZZ Z w.heap.size [some b1]) A0_0 c0_0 p0.ts ∧ Sl (eInt .i64) w_ (ZZ Z w.heap.size [some b1]) A1_0 c1_0 p1) K_ ?in2 ?rd2
  case in2 =>
   intro st
   have hS0_0_1 : Sl eTly w1 (ZZ Z w.heap.size [some b1]) A0_0 c0_0 p0.ts := (hS0_0_0.mv (mv_new nb1.gr (Nat.le_of_eq nb1.b_eq.symm)))
   have hS1_0_1 : Sl (eInt .i64) w1 (ZZ Z w.heap.size [some b1]) A1_0 c1_0 p1 := (hS1_0_0.mv (mv_new nb1.gr (Nat.le_of_eq nb1.b_eq.symm)))
   exact ⟨(0 : Int), hL2, (puts_size _ _).trans st.sz, (puts_defers _ _).trans st.df, (sl_puts st 1).trans hp_1, (sl_puts st 2).trans rfl, (sl_puts st 5).trans rfl, hp1, nb1.bk, hS0_0_1, hS1_0_1⟩
  case rd2 =>
   rintro (_ | m_) fr2 w2r ⟨s2_5, hL2, hsz2, hdf2, hs2_1, hs2_2, hs2_5, hp2, f2_bk1, f2_hS0_0, f2_hS1_0⟩
   ·exact absurd (show none = some _ from hL2) (by simp)
   rw [G_IsAllowed_L2.eq_2] at hL2
   have hG := hL2; clear hL2
   refine round_cc (N := 40) hsz2 hdf2 <| cc_seq <| cc_seq <| cc_region <| wm rfl (v := I s2_5) hs2_5 <| wm rfl (v := .slice A1_0 p1.length c1_0) hs2_1 <| wd rfl (fun st => x_len Try.underlying43 (ee st rfl)) <| wd rfl (fun st => x_lss (ee st rfl) (ee st rfl)) <| wl_end <| lv_next ?_
   rcases bool_cases (decide (s2_5 < (p1.length : Int))) with hc3 | hc3
   ·replace hG := cond_t hG hc3
    refine cc_cond_t rfl hc3 <| cc_skip <| lv_next <| cc_seq <| cc_block <| cc_seq ?_
    replace hG := idx_bind hG; obtain ⟨i5, x5, hi5, hx5, hl5, hG⟩ := hG
    obtain ⟨b5, o5, _, hA5, rfl, hz5⟩ := Sl.elem1 f2_hS1_0 rfl hx5
    replace hG := i64_bind hG; obtain ⟨hf6, hG⟩ := hG
    replace hG := bind_some hG; obtain ⟨r7, hr7, hG⟩ := hG
    refine cc_anyM0 9 [Kc (.slice A1_0 p1.length c1_0), Kc (I s2_5), Kc (pt b5 (o5 + i5)), Kc (I x5), Kc (pt b1 1), Kc (I p0.wd), Kc (I (p0.wd - 1)), Kc (.bool r7), Kc (.bool !r7)] mixedA2 rfl rfl
        (obsN_cons (od rfl (fun _ => rfl) (fun K => x_move (v := .slice A1_0 p1.length c1_0) (es (t := 1) (v := .slice A1_0 p1.length c1_0) ((K.out 1 rfl).trans hs2_1))))
        (obsN_cons (od rfl (fun _ => rfl) (fun K => x_move (v := I s2_5) (es (t := 5) (v := I s2_5) ((K.out 5 rfl).trans hs2_5))))
        (obsN_cons (od rfl (fun _ => rfl) (fun K => x_indexAddr1 (k := i5) Try.underlying43 sz_3 (es (t := 12) (v := .slice A1_0 p1.length c1_0) (K.dep 0 12 rfl rfl)) hA5 (es (t := 13) (v := I s2_5) (K.dep 1 13 rfl rfl)) hi5 hl5))
        (obsN_cons (od rfl (fun _ => rfl) (fun K => x_load_z0 (v := I x5) one_3 (es (t := 14) (v := pt b5 (o5 + i5)) (K.dep 2 14 rfl rfl)) (hz5.mv (mv_ext K.phT)) rfl))
        (obsN_cons (od rfl (fun _ => rfl) (fun K => x_fieldAddr (es (t := 2) (v := pt b1 0) ((K.out 2 rfl).trans hs2_2)) (fz_26_1 _ _)))
        (obsN_cons (od rfl (fun _ => rfl) (fun K => x_load1 (v := I p0.wd) one_3 (es (t := 16) (v := pt b1 1) (K.dep 4 16 rfl rfl)) (f2_bk1.ext K.phT) rfl))
        (obsN_cons (od rfl (fun _ => rfl) (fun K => x_sub (es (t := 17) (v := I p0.wd) (K.dep 5 17 rfl rfl)) (ec (v := I 1)) hf6))
        (obsN_cons (ob_ext rfl rfl (fun a' w' ph K => (x_call0 own_29 rfl (am3 (es (t := 15) (v := I x5) (K.dep 3 15 rfl rfl)) (ec (v := I (-1))) (es (t := 18) (v := I (p0.wd - 1)) (K.dep 6 18 rfl rfl))) (a29 K_ x5 (-1) (p0.wd - 1) ZA _ r7 hr7)).mono (fun _ _ h => ⟨h.2, h.1⟩)))
        (obsN_cons (od rfl (fun _ => rfl) (fun K => x_not (es (t := 19) (v := .bool r7) (K.dep 7 19 rfl rfl))))
        (obsN_nil _)))))))))) ?_
    intro w4
    rintro _ rfl _ rfl _ rfl _ rfl _ rfl _ rfl _ rfl _ rfl _ rfl hx4
    have hp3 : Hp w [some b1] w4 := hp2.ext hx4
    refine wl_end <| lv_next ?_
    rcases bool_cases (!r7) with hc8 | hc8
    ·replace hG := cond_t hG hc8
     have hc8_9 : r7 = false := by simpa using hc8
     refine cc_cond_t rfl hc8 <| cc_seq <| cc_region <| wa rfl (v := .bool false) rfl <| wl_end <| lv_next <| cc_ret <| lv_block_ret <| lv_then_ret <| lv_then_ret ?_
     obtain rfl := Option.some.inj hG
     refine lv_to (fun st => ?_)
     exact .inl ⟨rfl, false, rfl, (puts_size _ _).trans st.sz, (puts_defers _ _).trans st.df, (sl_puts st 4).trans rfl, hp3⟩
    ·replace hG := cond_f hG hc8
     have hc8_10 : r7 = true := by simpa using hc8
     refine cc_cond_f rfl hc8 <| cc_skip <| lv_block <| lv_next <| cc_region <| wm rfl (v := I s2_5) hs2_5 ?_
     replace hG := i64_bind hG; obtain ⟨hf11, hG⟩ := hG
     refine wd rfl (fun st => x_add (ee st rfl) (ee st rfl) hf11) <| wa rfl (v := I (s2_5 + 1)) rfl <| wl_end ?_
     have bk1_3 : Bk w4 b1 26 #[I p0.rows, I p0.wd, I p0.lo, I p0.hi, .slice A0_0 p0.ts.length c0_0] := (f2_bk1.ext hx4)
     have hS0_0_3 : Sl eTly w4 (ZZ Z w.heap.size [some b1]) A0_0 c0_0 p0.ts := (f2_hS0_0.mv (mv_ext hx4))
     have hS1_0_3 : Sl (eInt .i64) w4 (ZZ Z w.heap.size [some b1]) A1_0 c1_0 p1 := (f2_hS1_0.mv (mv_ext hx4))
     refine lv_round m_ (Nat.lt_succ_self _) (fun st => ?_)
     exact ⟨(s2_5 + 1), hG, (puts_size _ _).trans st.sz, (puts_defers _ _).trans st.df, (sl_puts st 1).trans hs2_1, (sl_puts st 2).trans hs2_2, (sl_puts st 5).trans rfl, hp3, bk1_3, hS0_0_3, hS1_0_3⟩
   ·replace hG := cond_f hG hc3
    refine cc_cond_f rfl hc3 <| cc_exit <| lv_then_exit <| lv_then_exit ?_
    obtain rfl := Option.some.inj hG
    refine lv_to (fun st => ?_)
    exact .inr ⟨rfl, (), rfl, (puts_size _ _).trans st.sz, (puts_defers _ _).trans st.df, (sl_puts st 1).trans hs2_1, (sl_puts st 2).trans hs2_2, hp2, f2_bk1, f2_hS0_0, f2_hS1_0⟩
 case af2 =>
  rintro e_ fr2a w2a (⟨rfl, q2, rfl, hsz2a, hdf2a, hs2a_4, hp2a⟩ | ⟨rfl, q2, rfl, hsz2a, hdf2a, hs2a_1, hs2a_2, hp2a, g2_bk1, g2_hS0_0, g2_hS1_0⟩)
  ·skip
   replace hG := inl_some hG
   refine lv_fr (X := X0) (N := 40) hsz2a hdf2a <| lv_block_ret <| lv_then_ret ?_
   obtain rfl := Option.some.inj hG
   refine lv_ret1 rfl hs2a_4 ?_
   exact ⟨hp2a.fin, rfl⟩
  ·skip
   replace hG := inr_some hG
   refine lv_fr (X := X0) (N := 40) hsz2a hdf2a <| lv_block_hit <| lv_next <| cc_seq ?_
   rcases bool_cases ((p1.length : Int) == p0.rows) with hc13 | hc13
   ·replace hG := cond_t hG hc13
    replace hG := i64_bind hG; obtain ⟨hf14, hG⟩ := hG
    replace hG := bind_some hG; obtain ⟨r15, hr15, hG⟩ := hG
    replace hG := bind_some hG; obtain ⟨r16, hr16, hG⟩ := hG
    refine cc_anyM0 19 [Kc (.slice A1_0 p1.length c1_0), Kc (I (p1.length : Int)), Kc (pt b1 0), Kc (I p0.rows), Kc (.bool ((p1.length : Int) == p0.rows)), Kc (.bool ((p1.length : Int) == p0.rows)), Kc (.slice A1_0 p1.length c1_0), Kc (pt b1 0), Kc (I p0.rows), Kc (I (p0.rows - 1)), Kc (I r15), Kc (pt b1 2), Kc (pt b1 2), Kc (I p0.lo), Kc (pt b1 2), Kc (pt b1 3), Kc (I p0.hi), Kc (.bool r16), Kc (.bool r16)] mixedA2 rfl rfl
        (obsN_cons (od rfl (fun _ => rfl) (fun K => x_move (v := .slice A1_0 p1.length c1_0) (es (t := 1) (v := .slice A1_0 p1.length c1_0) ((K.out 1 rfl).trans hs2a_1))))
        (obsN_cons (od rfl (fun _ => rfl) (fun K => x_len Try.underlying43 (es (t := 21) (v := .slice A1_0 p1.length c1_0) (K.dep 0 21 rfl rfl))))
        (obsN_cons (od rfl (fun _ => rfl) (fun K => x_fieldAddr (es (t := 2) (v := pt b1 0) ((K.out 2 rfl).trans hs2a_2)) (fz_26_0 _ _)))
        (obsN_cons (od rfl (fun _ => rfl) (fun K => x_load1 (v := I p0.rows) one_3 (es (t := 23) (v := pt b1 0) (K.dep 2 23 rfl rfl)) (g2_bk1.ext K.phT) rfl))
        (obsN_cons (od rfl (fun _ => rfl) (fun K => x_eql (es (t := 22) (v := I (p1.length : Int)) (K.dep 1 22 rfl rfl)) (es (t := 24) (v := I p0.rows) (K.dep 3 24 rfl rfl))))
        (obsN_cons (od rfl (fun _ => rfl) (fun K => x_move (v := .bool ((p1.length : Int) == p0.rows)) (es (t := 25) (v := .bool ((p1.length : Int) == p0.rows)) (K.dep 4 25 rfl rfl))))
        (obsN_cons (ob_detg rfl rfl rfl (fun _ => rfl) (fun a' w' ph K => (guard_eq (show sl a' 26 = .bool ((p1.length : Int) == p0.rows) from K.dep 5 26 rfl rfl) hc13)) (fun a' w' ph K => x_move (v := .slice A1_0 p1.length c1_0) (es (t := 1) (v := .slice A1_0 p1.length c1_0) ((K.out 1 rfl).trans hs2a_1))))
        (obsN_cons (ob_detg rfl rfl rfl (fun _ => rfl) (fun a' w' ph K => (guard_eq (show sl a' 26 = .bool ((p1.length : Int) == p0.rows) from K.dep 5 26 rfl rfl) hc13)) (fun a' w' ph K => x_fieldAddr (es (t := 2) (v := pt b1 0) ((K.out 2 rfl).trans hs2a_2)) (fz_26_0 _ _)))
        (obsN_cons (ob_detg rfl rfl rfl (fun _ => rfl) (fun a' w' ph K => (guard_eq (show sl a' 26 = .bool ((p1.length : Int) == p0.rows) from K.dep 5 26 rfl rfl) hc13)) (fun a' w' ph K => x_load1 (v := I p0.rows) one_3 (es (t := 28) (v := pt b1 0) (K.dep 7 28 rfl rfl)) (g2_bk1.ext K.phT) rfl))
        (obsN_cons (ob_detg rfl rfl rfl (fun _ => rfl) (fun a' w' ph K => (guard_eq (show sl a' 26 = .bool ((p1.length : Int) == p0.rows) from K.dep 5 26 rfl rfl) hc13)) (fun a' w' ph K => x_sub (es (t := 29) (v := I p0.rows) (K.dep 8 29 rfl rfl)) (ec (v := I 1)) hf14))
        (obsN_cons (ob_extg rfl rfl rfl (fun a' w' ph K => (guard_eq (show sl a' 26 = .bool ((p1.length : Int) == p0.rows) from K.dep 5 26 rfl rfl) hc13)) (fun a' w' ph K => (x_call0 own_41 rfl (am4 (es (t := 27) (v := .slice A1_0 p1.length c1_0) (K.dep 6 27 rfl rfl)) (ec (v := I (-1))) (ec (v := I 0)) (es (t := 30) (v := I (p0.rows - 1)) (K.dep 9 30 rfl rfl))) (a41 K_ p1 (-1) 0 (p0.rows - 1) A1_0 c1_0 ZA _ (g2_hS1_0.mv (mv_ext K.phT)).all r15 hr15)).mono (fun _ _ h => ⟨h.2, h.1⟩)))
        (obsN_cons (ob_detg rfl rfl rfl (fun _ => rfl) (fun a' w' ph K => (guard_eq (show sl a' 26 = .bool ((p1.length : Int) == p0.rows) from K.dep 5 26 rfl rfl) hc13)) (fun a' w' ph K => x_fieldAddr (es (t := 2) (v := pt b1 0) ((K.out 2 rfl).trans hs2a_2)) (fz_26_2 _ _)))
        (obsN_cons (ob_detg rfl rfl rfl (fun _ => rfl) (fun a' w' ph K => (guard_eq (show sl a' 26 = .bool ((p1.length : Int) == p0.rows) from K.dep 5 26 rfl rfl) hc13)) (fun a' w' ph K => x_fieldAddr (es (t := 32) (v := pt b1 2) (K.dep 11 32 rfl rfl)) (fl_23_0_2 _ _)))
        (obsN_cons (ob_detg rfl rfl rfl (fun _ => rfl) (fun a' w' ph K => (guard_eq (show sl a' 26 = .bool ((p1.length : Int) == p0.rows) from K.dep 5 26 rfl rfl) hc13)) (fun a' w' ph K => x_load1 (v := I p0.lo) one_3 (es (t := 33) (v := pt b1 2) (K.dep 12 33 rfl rfl)) (g2_bk1.ext K.phT) rfl))
        (obsN_cons (ob_detg rfl rfl rfl (fun _ => rfl) (fun a' w' ph K => (guard_eq (show sl a' 26 = .bool ((p1.length : Int) == p0.rows) from K.dep 5 26 rfl rfl) hc13)) (fun a' w' ph K => x_fieldAddr (es (t := 2) (v := pt b1 0) ((K.out 2 rfl).trans hs2a_2)) (fz_26_2 _ _)))
        (obsN_cons (ob_detg rfl rfl rfl (fun _ => rfl) (fun a' w' ph K => (guard_eq (show sl a' 26 = .bool ((p1.length : Int) == p0.rows) from K.dep 5 26 rfl rfl) hc13)) (fun a' w' ph K => x_fieldAddr (es (t := 35) (v := pt b1 2) (K.dep 14 35 rfl rfl)) (fl_23_1_2 _ _)))
        (obsN_cons (ob_detg rfl rfl rfl (fun _ => rfl) (fun a' w' ph K => (guard_eq (show sl a' 26 = .bool ((p1.length : Int) == p0.rows) from K.dep 5 26 rfl rfl) hc13)) (fun a' w' ph K => x_load1 (v := I p0.hi) one_3 (es (t := 36) (v := pt b1 3) (K.dep 15 36 rfl rfl)) (g2_bk1.ext K.phT) rfl))
        (obsN_cons (ob_extg rfl rfl rfl (fun a' w' ph K => (guard_eq (show sl a' 26 = .bool ((p1.length : Int) == p0.rows) from K.dep 5 26 rfl rfl) hc13)) (fun a' w' ph K => (x_call0 own_29 rfl (am3 (es (t := 31) (v := I r15) (K.dep 10 31 rfl rfl)) (es (t := 34) (v := I p0.lo) (K.dep 13 34 rfl rfl)) (es (t := 37) (v := I p0.hi) (K.dep 16 37 rfl rfl))) (a29 K_ r15 p0.lo p0.hi ZA _ r16 hr16)).mono (fun _ _ h => ⟨h.2, h.1⟩)))
        (obsN_cons (od rfl (fun _ => rfl) (fun K => x_pick_t (v := .bool r16) (es (t := 26) (v := .bool ((p1.length : Int) == p0.rows)) (K.dep 5 26 rfl rfl)) hc13 (es (t := 38) (v := .bool r16) (K.dep 17 38 rfl rfl))))
        (obsN_nil _)))))))))))))))))))) ?_
    intro w12
    rintro _ rfl _ rfl _ rfl _ rfl _ rfl _ rfl _ rfl _ rfl _ rfl _ rfl _ rfl _ rfl _ rfl _ rfl _ rfl _ rfl _ rfl _ rfl _ rfl hx12
    have hp6 : Hp w [some b1] w12 := hp2a.ext hx12
    refine wa rfl (v := .bool r16) rfl <| wl_end <| lv_next <| cc_ret ?_
    obtain rfl := Option.some.inj hG
    refine lv_ret1 rfl rfl ?_
    exact ⟨hp6.fin, rfl⟩
   ·replace hG := cond_f hG hc13
    refine cc_anyM0 19 [Kc (.slice A1_0 p1.length c1_0), Kc (I (p1.length : Int)), Kc (pt b1 0), Kc (I p0.rows), Kc (.bool ((p1.length : Int) == p0.rows)), Kc (.bool ((p1.length : Int) == p0.rows)), Kc undef, Kc undef, Kc undef, Kc undef, Kc undef, Kc undef, Kc undef, Kc undef, Kc undef, Kc undef, Kc undef, Kc undef, Kc (.bool false)] mixedA2 rfl rfl
        (obsN_cons (od rfl (fun _ => rfl) (fun K => x_move (v := .slice A1_0 p1.length c1_0) (es (t := 1) (v := .slice A1_0 p1.length c1_0) ((K.out 1 rfl).trans hs2a_1))))
        (obsN_cons (od rfl (fun _ => rfl) (fun K => x_len Try.underlying43 (es (t := 21) (v := .slice A1_0 p1.length c1_0) (K.dep 0 21 rfl rfl))))
        (obsN_cons (od rfl (fun _ => rfl) (fun K => x_fieldAddr (es (t := 2) (v := pt b1 0) ((K.out 2 rfl).trans hs2a_2)) (fz_26_0 _ _)))
        (obsN_cons (od rfl (fun _ => rfl) (fun K => x_load1 (v := I p0.rows) one_3 (es (t := 23) (v := pt b1 0) (K.dep 2 23 rfl rfl)) (g2_bk1.ext K.phT) rfl))
        (obsN_cons (od rfl (fun _ => rfl) (fun K => x_eql (es (t := 22) (v := I (p1.length : Int)) (K.dep 1 22 rfl rfl)) (es (t := 24) (v := I p0.rows) (K.dep 3 24 rfl rfl))))
        (obsN_cons (od rfl (fun _ => rfl) (fun K => x_move (v := .bool ((p1.length : Int) == p0.rows)) (es (t := 25) (v := .bool ((p1.length : Int) == p0.rows)) (K.dep 4 25 rfl rfl))))
        (obsN_cons (ob_skip (c := false) rfl rfl rfl (by decide) (fun a' w' ph K => (guard_eq (show sl a' 26 = .bool ((p1.length : Int) == p0.rows) from K.dep 5 26 rfl rfl) hc13)) (fun _ => rfl))
        (obsN_cons (ob_skip (c := false) rfl rfl rfl (by decide) (fun a' w' ph K => (guard_eq (show sl a' 26 = .bool ((p1.length : Int) == p0.rows) from K.dep 5 26 rfl rfl) hc13)) (fun _ => rfl))
        (obsN_cons (ob_skip (c := false) rfl rfl rfl (by decide) (fun a' w' ph K => (guard_eq (show sl a' 26 = .bool ((p1.length : Int) == p0.rows) from K.dep 5 26 rfl rfl) hc13)) (fun _ => rfl))
        (obsN_cons (ob_skip (c := false) rfl rfl rfl (by decide) (fun a' w' ph K => (guard_eq (show sl a' 26 = .bool ((p1.length : Int) == p0.rows) from K.dep 5 26 rfl rfl) hc13)) (fun _ => rfl))
        (obsN_cons (ob_skip (c := false) rfl rfl rfl (by decide) (fun a' w' ph K => (guard_eq (show sl a' 26 = .bool ((p1.length : Int) == p0.rows) from K.dep 5 26 rfl rfl) hc13)) (fun _ => rfl))
        (obsN_cons (ob_skip (c := false) rfl rfl rfl (by decide) (fun a' w' ph K => (guard_eq (show sl a' 26 = .bool ((p1.length : Int) == p0.rows) from K.dep 5 26 rfl rfl) hc13)) (fun _ => rfl))
        (obsN_cons (ob_skip (c := false) rfl rfl rfl (by decide) (fun a' w' ph K => (guard_eq (show sl a' 26 = .bool ((p1.length : Int) == p0.rows) from K.dep 5 26 rfl rfl) hc13)) (fun _ => rfl))
        (obsN_cons (ob_skip (c := false) rfl rfl rfl (by decide) (fun a' w' ph K => (guard_eq (show sl a' 26 = .bool ((p1.length : Int) == p0.rows) from K.dep 5 26 rfl rfl) hc13)) (fun _ => rfl))
        (obsN_cons (ob_skip (c := false) rfl rfl rfl (by decide) (fun a' w' ph K => (guard_eq (show sl a' 26 = .bool ((p1.length : Int) == p0.rows) from K.dep 5 26 rfl rfl) hc13)) (fun _ => rfl))
        (obsN_cons (ob_skip (c := false) rfl rfl rfl (by decide) (fun a' w' ph K => (guard_eq (show sl a' 26 = .bool ((p1.length : Int) == p0.rows) from K.dep 5 26 rfl rfl) hc13)) (fun _ => rfl))
        (obsN_cons (ob_skip (c := false) rfl rfl rfl (by decide) (fun a' w' ph K => (guard_eq (show sl a' 26 = .bool ((p1.length : Int) == p0.rows) from K.dep 5 26 rfl rfl) hc13)) (fun _ => rfl))
        (obsN_cons (ob_skip (c := false) rfl rfl rfl (by decide) (fun a' w' ph K => (guard_eq (show sl a' 26 = .bool ((p1.length : Int) == p0.rows) from K.dep 5 26 rfl rfl) hc13)) (fun _ => rfl))
        (obsN_cons (od rfl (fun _ => rfl) (fun K => x_pick_f (v := .bool false) (es (t := 26) (v := .bool ((p1.length : Int) == p0.rows)) (K.dep 5 26 rfl rfl)) hc13 (ec (v := .bool false))))
        (obsN_nil _)))))))))))))))))))) ?_
    intro w12
    rintro _ rfl _ rfl _ rfl _ rfl _ rfl _ rfl _ rfl _ rfl _ rfl _ rfl _ rfl _ rfl _ rfl _ rfl _ rfl _ rfl _ rfl _ rfl _ rfl hx12
    have hp7 : Hp w [some b1] w12 := hp2a.ext hx12
    refine wa rfl (v := .bool false) rfl <| wl_end <| lv_next <| cc_ret ?_
    obtain rfl := Option.some.inj hG
    refine lv_ret1 rfl rfl ?_
    exact ⟨hp7.fin, rfl⟩
theorem a54 (K_ : Nat) (p0 : Fld) (p1 : List Int) (A0_0 : Option Addr) (c0_0 : Nat) (A1_0 : Option Addr) (c1_0 : Nat) (Z : Nat → Prop) (w : World) (hS0_0 : Sl eTly w Z A0_0 c0_0 p0.ts) (hS1_0 : Sl (eInt .i64) w Z A1_0 c1_0 p1) (r_ : Bool) (hG : G_IsTruth K_ p0 p1 = some r_) :
    Ret Try.prog 54 #[.agg #[I p0.rows, I p0.wd, I p0.lo, I p0.hi, .slice A0_0 p0.ts.length c0_0], .slice A1_0 p1.length c1_0] w (fun v w' => Ext w w' ∧ vBool.R w' (ZZ Z w.heap.size []) v r_) := by
 unfold G_IsTruth at hG
 refine ret_of_cc (N := 25) Try.func54 rfl rfl (by simp) ?_
 intro fr0 ha hdf
 have hp_0 := sl_arg (i := 0) (v := .agg #[I p0.rows, I p0.wd, I p0.lo, I p0.hi, .slice A0_0 p0.ts.length c0_0]) ha rfl
 have hp_1 := sl_arg (i := 1) (v := .slice A1_0 p1.length c1_0) ha rfl
 clear ha
 have hp0 := Hp.refl w
 have hS0_0_0 := hS0_0.mv (mv_start w)
 have hS1_0_0 := hS1_0.mv (mv_start w)
 refine cc_seq <| cc_region <| we rfl (fun st => x_box (v := .agg #[I p0.rows, I p0.wd, I p0.lo, I p0.hi, .slice A0_0 p0.ts.length c0_0]) (cs := #[I p0.rows, I p0.wd, I p0.lo, I p0.hi, .slice A0_0 p0.ts.length c0_0]) (ee st hp_0) rfl) ?_
 rintro _ w1 ⟨b1, rfl, nb1⟩
 have hp1 : Hp w [some b1] w1 := hp0.new nb1.gr (Nat.le_of_eq nb1.b_eq.symm) (Nat.lt_of_lt_of_eq (Nat.lt_succ_self _) nb1.sz.symm)
 refine wa rfl (v := .bool false) rfl <| wl_end <| lv_next <| cc_seq <| cc_seq <| cc_region <| wd rfl (fun st => x_loadn (l := [I p0.rows, I p0.wd, I p0.lo, I p0.hi, .slice A0_0 p0.ts.length c0_0]) agg_26 (ee st rfl) nb1.bk rfl rfl) <| wm rfl (v := .slice A1_0 p1.length c1_0) hp_1 ?_
 have hS0_0_1 : Sl eTly w1 (ZZ Z w.heap.size [some b1]) A0_0 c0_0 p0.ts := (hS0_0_0.mv (mv_new nb1.gr (Nat.le_of_eq nb1.b_eq.symm)))
 have hS1_0_1 : Sl (eInt .i64) w1 (ZZ Z w.heap.size [some b1]) A1_0 c1_0 p1 := (hS1_0_0.mv (mv_new nb1.gr (Nat.le_of_eq nb1.b_eq.symm)))
 replace hG := bind_some hG; obtain ⟨r2, hr2, hG⟩ := hG
 refine we rfl (fun st => x_call0 own_83 (ee st rfl) (am2 (ee st rfl) (ee st rfl)) (a83 K_ p0 p1 A0_0 c0_0 A1_0 c1_0 ZA _ hS0_0_1.all hS1_0_1.all r2 hr2)) ?_
 rintro _ w3 ⟨hx2, rfl⟩
 have hp2 : Hp w [some b1] w3 := hp1.ext hx2
 refine wd rfl (fun st => x_not (ee st rfl)) <| wl_end <| lv_next ?_
 rcases bool_cases (!r2) with hc4 | hc4
 ·replace hG := cond_t hG hc4
  have hc4_5 : r2 = false := by simpa using hc4
  refine cc_cond_t rfl hc4 <| cc_seq <| cc_region <| wa rfl (v := .bool false) rfl <| wl_end <| lv_next <| cc_ret <| lv_then_ret ?_
  obtain rfl := Option.some.inj hG
  refine lv_ret1 rfl rfl ?_
  exact ⟨hp2.fin, rfl⟩
 ·replace hG := cond_f hG hc4
  have hc4_6 : r2 = true := by simpa using hc4
  refine cc_cond_f rfl hc4 <| cc_skip <| lv_next <| cc_seq <| cc_seq <| cc_region <| wa rfl (v := I 0) rfl <| wl_end <| lv_next <| cc_block ?_
  replace hG := bind_some hG; obtain ⟨z7, hL7, hG⟩ := hG
  refine cc_join (fun e_ fr_ w_ => (e_ = .ret ∧ ∃ q7, z7 = .inl q7 ∧ fr_.tmps.size = 25 ∧ fr_.defers = [] ∧ sl fr_ 4 = .bool q7 ∧ Hp w [some b1] w_) ∨ (e_ = .exit 0 ∧ ∃ q7, z7 = .inr q7 ∧ fr_.tmps.size = 25 ∧ fr_.defers = [] ∧ Hp w [some b1] w_)) ?lp7 ?af7
  case lp7 =>
   clear hG
   refine cc_loop (fun (m_ : Nat) (fr_ : Act) (w_ : World) => ∃ s7_5, G_IsTruth_L7 K_ p0 p1 m_ s7_5 = some z7 ∧ fr_.tmps.size = 25 ∧ fr_.defers = [] ∧ sl fr_ 1 = .slice A1_0 p1.length c1_0 ∧ sl fr_ 2 = pt b1 0 ∧ sl fr_ 5 = I s7_5 ∧ Hp w [some b1] w_ ∧ Bk w_ b1 26 #[I p0.rows, I p0.wd, I p0.lo, I p0.hi, .slice A0_0 p0.ts.length c0_0] ∧ Sl eTly w_ (ZZ Z w.heap.size [some b1]) A0_0 c0_0 p0.ts ∧ Sl (eInt .i64) w_ (ZZ Z w.heap.size [some b1]) A1_0 c1_0 p1) K_ ?in7 ?rd7
   case in7 =>
    intro st
    have bk1_2 : Bk w3 b1 26 #[I p0.rows, I p0.wd, I p0.lo, I p0.hi, .slice A0_0 p0.ts.length c0_0] := (nb1.bk.ext hx2)
    have hS0_0_2 : Sl eTly w3 (ZZ Z w.heap.size [some b1]) A0_0 c0_0 p0.ts := (hS0_0_1.mv (mv_ext hx2))
    have hS1_0_2 : Sl (eInt .i64) w3 (ZZ Z w.heap.size [some b1]) A1_0 c1_0 p1 := (hS1_0_1.mv (mv_ext hx2))
    exact ⟨(0 : Int), hL7, (puts_size _ _).trans st.sz, (puts_defers _ _).trans st.df, (sl_puts st 1).trans hp_1, (sl_puts st 2).trans rfl, (sl_puts st 5).trans rfl, hp2, bk1_2, hS0_0_2, hS1_0_2⟩
   case rd7 =>
    rintro (_ | m_) fr7 w7r ⟨s7_5, hL7, hsz7, hdf7, hs7_1, hs7_2, hs7_5, hp3, f7_bk1, f7_hS0_0, f7_hS1_0⟩
    ·exact absurd (show none = some _ from hL7) (by simp)
    rw [G_IsTruth_L7.eq_2] at hL7
    have hG := hL7; clear hL7
    refine round_cc (N := 25) hsz7 hdf7 <| cc_seq <| cc_seq <| cc_region <| wm rfl (v := I s7_5) hs7_5 <| wd rfl (fun st => x_fieldAddr (ee st hs7_2) (fz_26_3 _ _)) <| wd rfl (fun st => x_load1 (v := .slice A0_0 p0.ts.length c0_0) one_24 (ee st rfl) f7_bk1 rfl) <| wd rfl (fun st => x_len Try.underlying24 (ee st rfl)) <| wd rfl (fun st => x_lss (ee st rfl) (ee st rfl)) <| wl_end <| lv_next ?_
    rcases bool_cases (decide (s7_5 < (p0.ts.length : Int))) with hc8 | hc8
    ·replace hG := cond_t hG hc8
     refine cc_cond_t rfl hc8 <| cc_skip <| lv_next <| cc_seq <| cc_block <| cc_seq <| cc_region <| wm rfl (v := .slice A1_0 p1.length c1_0) hs7_1 <| wd rfl (fun st => x_fieldAddr (ee st hs7_2) (fz_26_3 _ _)) <| wd rfl (fun st => x_load1 (v := .slice A0_0 p0.ts.length c0_0) one_24 (ee st rfl) f7_bk1 rfl) <| wm rfl (v := I s7_5) hs7_5 ?_
     replace hG := idx_bind hG; obtain ⟨i9, x9, hi9, hx9, hl9, hG⟩ := hG
     obtain ⟨b9, o9, _, hA9, rfl, hz9⟩ := Sl.elem f7_hS0_0 (by decide) hx9
     refine wd rfl (fun st => x_indexAddrN (k := i9) Try.underlying24 sz_68 (ee st rfl) hA9 (ee st rfl) hi9 hl9) <| wd rfl (fun st => x_load_zn0 (l := [I x9.who, I x9.fr, I x9.to, I x9.lo, I x9.hi]) agg_68 (ee st rfl) hz9 rfl rfl) ?_
     replace hG := bind_some hG; obtain ⟨r10, hr10, hG⟩ := hG
     refine we rfl (fun st => x_call0 own_84 (ee st rfl) (am2 (ee st rfl) (ee st rfl)) (a84 K_ p1 x9 A1_0 c1_0 ZA _ f7_hS1_0.all r10 hr10)) ?_
     rintro _ w11 ⟨hx10, rfl⟩
     have hp4 : Hp w [some b1] w11 := hp3.ext hx10
     refine wd rfl (fun st => x_not (ee st rfl)) <| wl_end <| lv_next ?_
     rcases bool_cases (!r10) with hc12 | hc12
     ·replace hG := cond_t hG hc12
      have hc12_13 : r10 = false := by simpa using hc12
      refine cc_cond_t rfl hc12 <| cc_seq <| cc_region <| wa rfl (v := .bool false) rfl <| wl_end <| lv_next <| cc_ret <| lv_block_ret <| lv_then_ret <| lv_then_ret ?_
      obtain rfl := Option.some.inj hG
      refine lv_to (fun st => ?_)
      exact .inl ⟨rfl, false, rfl, (puts_size _ _).trans st.sz, (puts_defers _ _).trans st.df, (sl_puts st 4).trans rfl, hp4⟩
     ·replace hG := cond_f hG hc12
      have hc12_14 : r10 = true := by simpa using hc12
      refine cc_cond_f rfl hc12 <| cc_skip <| lv_block <| lv_next <| cc_region <| wm rfl (v := I s7_5) hs7_5 ?_
      replace hG := i64_bind hG; obtain ⟨hf15, hG⟩ := hG
      refine wd rfl (fun st => x_add (ee st rfl) (ee st rfl) hf15) <| wa rfl (v := I (s7_5 + 1)) rfl <| wl_end ?_
      have bk1_4 : Bk w11 b1 26 #[I p0.rows, I p0.wd, I p0.lo, I p0.hi, .slice A0_0 p0.ts.length c0_0] := (f7_bk1.ext hx10)
      have hS0_0_4 : Sl eTly w11 (ZZ Z w.heap.size [some b1]) A0_0 c0_0 p0.ts := (f7_hS0_0.mv (mv_ext hx10))
      have hS1_0_4 : Sl (eInt .i64) w11 (ZZ Z w.heap.size [some b1]) A1_0 c1_0 p1 := (f7_hS1_0.mv (mv_ext hx10))
      refine lv_round m_ (Nat.lt_succ_self _) (fun st => ?_)
      exact ⟨(s7_5 + 1), hG, (puts_size _ _).trans st.sz, (puts_defers _ _).trans st.df, (sl_puts st 1).trans hs7_1, (sl_puts st 2).trans hs7_2, (sl_puts st 5).trans rfl, hp4, bk1_4, hS0_0_4, hS1_0_4⟩
    ·replace hG := cond_f hG hc8
     refine cc_cond_f rfl hc8 <| cc_exit <| lv_then_exit <| lv_then_exit ?_
     obtain rfl := Option.some.inj hG
     refine lv_to (fun st => ?_)
     exact .inr ⟨rfl, (), rfl, (puts_size _ _).trans st.sz, (puts_defers _ _).trans st.df, hp3⟩
  case af7 =>
   rintro e_ fr7a w7a (⟨rfl, q7, rfl, hsz7a, hdf7a, hs7a_4, hp7a⟩ | ⟨rfl, q7, rfl, hsz7a, hdf7a, hp7a⟩)
   ·skip
    replace hG := inl_some hG
    refine lv_fr (X := X0) (N := 25) hsz7a hdf7a <| lv_block_ret <| lv_then_ret ?_
    obtain rfl := Option.some.inj hG
    refine lv_ret1 rfl hs7a_4 ?_
    exact ⟨hp7a.fin, rfl⟩
   ·skip
    replace hG := inr_some hG
    refine lv_fr (X := X0) (N := 25) hsz7a hdf7a <| lv_block_hit <| lv_next <| cc_seq <| cc_region <| wa rfl (v := .bool true) rfl <| wl_end <| lv_next <| cc_ret ?_
    obtain rfl := Option.some.inj hG
    refine lv_ret1 rfl rfl ?_
    exact ⟨hp7a.fin, rfl⟩
theorem a85 (K_ : Nat) (p0 : List Int) (p1 : Int) (A0_0 : Option Addr) (c0_0 : Nat) (Z : Nat → Prop) (w : World) (hS0_0 : Sl (eInt .i64) w Z A0_0 c0_0 p0) (r_ : Bool) (hG : G_Can K_ p0 p1 = some r_) :
    Ret Try.prog 85 #[.slice A0_0 p0.length c0_0, I p1] w (fun v w' => Ext w w' ∧ vBool.R w' (ZZ Z w.heap.size []) v r_) := by
 unfold G_Can at hG
 refine ret_of_cc (N := 20) Try.func85 rfl rfl (by simp) ?_
 intro fr0 ha hdf
 have hp_0 := sl_arg (i := 0) (v := .slice A0_0 p0.length c0_0) ha rfl
 have hp_1 := sl_arg (i := 1) (v := I p1) ha rfl
 clear ha
 have hp0 := Hp.refl w
 have hS0_0_0 := hS0_0.mv (mv_start w)
 refine cc_seq <| cc_region <| wa rfl (v := .bool false) rfl <| wl_end <| lv_next <| cc_seq <| cc_seq <| cc_region <| wa rfl (v := I 0) rfl <| wl_end <| lv_next <| cc_block ?_
 replace hG := bind_some hG; obtain ⟨z1, hL1, hG⟩ := hG
 refine cc_join (fun e_ fr_ w_ => (e_ = .ret ∧ ∃ q1, z1 = .inl q1 ∧ fr_.tmps.size = 20 ∧ fr_.defers = [] ∧ sl fr_ 4 = .bool q1 ∧ w = w_) ∨ (e_ = .exit 0 ∧ ∃ q1, z1 = .inr q1 ∧ fr_.tmps.size = 20 ∧ fr_.defers = [] ∧ w = w_)) ?lp1 ?af1
 case lp1 =>
  clear hG
  refine cc_loop (fun (m_ : Nat) (fr_ : Act) (w_ : World) => ∃ s1_5, G_Can_L1 p0 p1 m_ s1_5 = some z1 ∧ fr_.tmps.size = 20 ∧ fr_.defers = [] ∧ sl fr_ 0 = .slice A0_0 p0.length c0_0 ∧ sl fr_ 1 = I p1 ∧ sl fr_ 5 = I s1_5 ∧ w = w_) K_ ?in1 ?rd1
  case in1 =>
   intro st
   exact ⟨(0 : Int), hL1, (puts_size _ _).trans st.sz, (puts_defers _ _).trans st.df, (sl_puts st 0).trans hp_0, (sl_puts st 1).trans hp_1, (sl_puts st 5).trans rfl, rfl⟩
  case rd1 =>
   rintro (_ | m_) fr1 _ ⟨s1_5, hL1, hsz1, hdf1, hs1_0, hs1_1, hs1_5, rfl⟩
   ·exact absurd (show none = some _ from hL1) (by simp)
   rw [G_Can_L1.eq_2] at hL1
   have hG := hL1; clear hL1
   refine round_cc (N := 20) hsz1 hdf1 <| cc_seq <| cc_seq <| cc_region <| wm rfl (v := I s1_5) hs1_5 <| wm rfl (v := .slice A0_0 p0.length c0_0) hs1_0 <| wd rfl (fun st => x_len Try.underlying43 (ee st rfl)) <| wd rfl (fun st => x_lss (ee st rfl) (ee st rfl)) <| wl_end <| lv_next ?_
   rcases bool_cases (decide (s1_5 < (p0.length : Int))) with hc2 | hc2
   ·replace hG := cond_t hG hc2
    refine cc_cond_t rfl hc2 <| cc_skip <| lv_next <| cc_seq <| cc_block <| cc_seq <| cc_region <| wm rfl (v := .slice A0_0 p0.length c0_0) hs1_0 <| wm rfl (v := I s1_5) hs1_5 ?_
    replace hG := idx_bind hG; obtain ⟨i3, x3, hi3, hx3, hl3, hG⟩ := hG
    obtain ⟨b3, o3, _, hA3, rfl, hz3⟩ := Sl.elem1 hS0_0_0 rfl hx3
    refine wd rfl (fun st => x_indexAddr1 (k := i3) Try.underlying43 sz_3 (ee st rfl) hA3 (ee st rfl) hi3 hl3) <| wd rfl (fun st => x_load_z0 (v := I x3) one_3 (ee st rfl) hz3 rfl) <| wm rfl (v := I p1) hs1_1 ?_
    replace hG := bitO_bind hG; obtain ⟨hf4, hG⟩ := hG
    refine wd rfl (fun st => x_and (ee st rfl) (ee st rfl) hf4) <| wm rfl (v := I p1) hs1_1 <| wd rfl (fun st => x_eql (ee st rfl) (ee st rfl)) <| wl_end <| lv_next ?_
    rcases bool_cases ((andI x3 p1) == p1) with hc5 | hc5
    ·replace hG := cond_t hG hc5
     refine cc_cond_t rfl hc5 <| cc_seq <| cc_region <| wa rfl (v := .bool true) rfl <| wl_end <| lv_next <| cc_ret <| lv_block_ret <| lv_then_ret <| lv_then_ret ?_
     obtain rfl := Option.some.inj hG
     refine lv_to (fun st => ?_)
     exact .inl ⟨rfl, true, rfl, (puts_size _ _).trans st.sz, (puts_defers _ _).trans st.df, (sl_puts st 4).trans rfl, rfl⟩
    ·replace hG := cond_f hG hc5
     refine cc_cond_f rfl hc5 <| cc_skip <| lv_block <| lv_next <| cc_region <| wm rfl (v := I s1_5) hs1_5 ?_
     replace hG := i64_bind hG; obtain ⟨hf6, hG⟩ := hG
     refine wd rfl (fun st => x_add (ee st rfl) (ee st rfl) hf6) <| wa rfl (v := I (s1_5 + 1)) rfl <| wl_end ?_
     refine lv_round m_ (Nat.lt_succ_self _) (fun st => ?_)
     exact ⟨(s1_5 + 1), hG, (puts_size _ _).trans st.sz, (puts_defers _ _).trans st.df, (sl_puts st 0).trans hs1_0, (sl_puts st 1).trans hs1_1, (sl_puts st 5).trans rfl, rfl⟩
   ·replace hG := cond_f hG hc2
    refine cc_cond_f rfl hc2 <| cc_exit <| lv_then_exit <| lv_then_exit ?_
    obtain rfl := Option.some.inj hG
    refine lv_to (fun st => ?_)
    exact .inr ⟨rfl, (), rfl, (puts_size _ _).trans st.sz, (puts_defers _ _).trans st.df, rfl⟩
 case af1 =>
  rintro e_ fr1a _ (⟨rfl, q1, rfl, hsz1a, hdf1a, hs1a_4, rfl⟩ | ⟨rfl, q1, rfl, hsz1a, hdf1a, rfl⟩)
  ·skip
   replace hG := inl_some hG
   refine lv_fr (X := X0) (N := 20) hsz1a hdf1a <| lv_block_ret <| lv_then_ret ?_
   obtain rfl := Option.some.inj hG
   refine lv_ret1 rfl hs1a_4 ?_
   exact ⟨hp0.fin, rfl⟩
  ·skip
   replace hG := inr_some hG
   refine lv_fr (X := X0) (N := 20) hsz1a hdf1a <| lv_block_hit <| lv_next <| cc_seq <| cc_region <| wa rfl (v := .bool false) rfl <| wl_end <| lv_next <| cc_ret ?_
   obtain rfl := Option.some.inj hG
   refine lv_ret1 rfl rfl ?_
   exact ⟨hp0.fin, rfl⟩
theorem a64 (K_ : Nat) (p0 : Fld) (A0_0 : Option Addr) (c0_0 : Nat) (Z : Nat → Prop) (w : World) (hS0_0 : Sl eTly w Z A0_0 c0_0 p0.ts) (r_ : Int) (hG : G_Fault K_ p0 = some r_) :
    Ret Try.prog 64 #[.agg #[I p0.rows, I p0.wd, I p0.lo, I p0.hi, .slice A0_0 p0.ts.length c0_0]] w (fun v w' => Ext w w' ∧ (vInt .i64).R w' (ZZ Z w.heap.size []) v r_) := by
 unfold G_Fault at hG
 refine ret_of_cc (N := 85) Try.func64 rfl rfl (by simp) ?_
 intro fr0 ha hdf
 have hp_0 := sl_arg (i := 0) (v := .agg #[I p0.rows, I p0.wd, I p0.lo, I p0.hi, .slice A0_0 p0.ts.length c0_0]) ha rfl
 clear ha
 have hp0 := Hp.refl w
 have hS0_0_0 := hS0_0.mv (mv_start w)
 refine cc_seq <| cc_region <| we rfl (fun st => x_box (v := .agg #[I p0.rows, I p0.wd, I p0.lo, I p0.hi, .slice A0_0 p0.ts.length c0_0]) (cs := #[I p0.rows, I p0.wd, I p0.lo, I p0.hi, .slice A0_0 p0.ts.length c0_0]) (ee st hp_0) rfl) ?_
 rintro _ w1 ⟨b1, rfl, nb1⟩
 have hp1 : Hp w [some b1] w1 := hp0.new nb1.gr (Nat.le_of_eq nb1.b_eq.symm) (Nat.lt_of_lt_of_eq (Nat.lt_succ_self _) nb1.sz.symm)
 refine wa rfl (v := I 0) rfl <| wl_end <| lv_next <| cc_seq <| cc_seq <| cc_region <| wd rfl (fun st => x_fieldAddr (ee st rfl) (fz_26_0 _ _)) <| wd rfl (fun st => x_load1 (v := I p0.rows) one_3 (ee st rfl) nb1.bk rfl) <| wd rfl (fun st => x_gtr (ee st rfl) (ee st rfl)) <| wm rfl (v := .bool (decide (7 < p0.rows))) rfl ?_
 rcases bool_cases (decide (7 < p0.rows)) with hc2 | hc2
 ·replace hG := cond_t hG hc2
  refine wl_skip (c := true) rfl rfl (guard_eq rfl hc2) (by decide) rfl (by decide) <| wl_skip (c := true) rfl rfl (guard_eq rfl hc2) (by decide) rfl (by decide) <| wl_skip (c := true) rfl rfl (guard_eq rfl hc2) (by decide) rfl (by decide) <| wd rfl (fun st => x_pick_t (v := .bool true) (ee st rfl) hc2 (ee st rfl)) <| wm rfl (v := .bool true) rfl <| wl_skip rfl rfl rfl (by decide) rfl (by decide) <| wl_skip rfl rfl rfl (by decide) rfl (by decide) <| wl_skip rfl rfl rfl (by decide) rfl (by decide) <| wl_skip rfl rfl rfl (by decide) rfl (by decide) <| wd rfl (fun st => x_pick_t (v := .bool true) (ee st rfl) rfl (ee st rfl)) <| wl_end <| lv_next <| cc_cond_t rfl rfl <| cc_seq <| cc_region <| wa rfl (v := I 3) rfl <| wl_end <| lv_next <| cc_ret <| lv_then_ret ?_
  obtain rfl := Option.some.inj hG
  refine lv_ret1 rfl rfl ?_
  exact ⟨hp1.fin, rfl⟩
 ·replace hG := cond_f hG hc2
  refine wl_detg rfl rfl (guard_eq rfl hc2) rfl (by decide) (fun st => x_fieldAddr (ee st rfl) (fz_26_1 _ _)) <| wl_detg rfl rfl (guard_eq rfl hc2) rfl (by decide) (fun st => x_load1 (v := I p0.wd) one_3 (ee st rfl) nb1.bk rfl) <| wl_detg rfl rfl (guard_eq rfl hc2) rfl (by decide) (fun st => x_gtr (ee st rfl) (ee st rfl)) <| wd rfl (fun st => x_pick_f (v := .bool (decide (3 < p0.wd))) (ee st rfl) hc2 (ee st rfl)) <| wm rfl (v := .bool (decide (3 < p0.wd))) rfl ?_
  rcases bool_cases (decide (3 < p0.wd)) with hc3 | hc3
  ·replace hG := cond_t hG hc3
   refine wl_skip (c := true) rfl rfl (guard_eq rfl hc3) (by decide) rfl (by decide) <| wl_skip (c := true) rfl rfl (guard_eq rfl hc3) (by decide) rfl (by decide) <| wl_skip (c := true) rfl rfl (guard_eq rfl hc3) (by decide) rfl (by decide) <| wl_skip (c := true) rfl rfl (guard_eq rfl hc3) (by decide) rfl (by decide) <| wd rfl (fun st => x_pick_t (v := .bool true) (ee st rfl) hc3 (ee st rfl)) <| wl_end <| lv_next <| cc_cond_t rfl rfl <| cc_seq <| cc_region <| wa rfl (v := I 3) rfl <| wl_end <| lv_next <| cc_ret <| lv_then_ret ?_
   obtain rfl := Option.some.inj hG
   refine lv_ret1 rfl rfl ?_
   exact ⟨hp1.fin, rfl⟩
  ·replace hG := cond_f hG hc3
   refine wl_detg rfl rfl (guard_eq rfl hc3) rfl (by decide) (fun st => x_fieldAddr (ee st rfl) (fz_26_3 _ _)) <| wl_detg rfl rfl (guard_eq rfl hc3) rfl (by decide) (fun st => x_load1 (v := .slice A0_0 p0.ts.length c0_0) one_24 (ee st rfl) nb1.bk rfl) <| wl_detg rfl rfl (guard_eq rfl hc3) rfl (by decide) (fun st => x_len Try.underlying24 (ee st rfl)) <| wl_detg rfl rfl (guard_eq rfl hc3) rfl (by decide) (fun st => x_gtr (ee st rfl) (ee st rfl)) <| wd rfl (fun st => x_pick_f (v := .bool (decide (5 < (p0.ts.length : Int)))) (ee st rfl) hc3 (ee st rfl)) <| wl_end <| lv_next ?_
   rcases bool_cases (decide (5 < (p0.ts.length : Int))) with hc4 | hc4
   ·replace hG := cond_t hG hc4
    refine cc_cond_t rfl hc4 <| cc_seq <| cc_region <| wa rfl (v := I 3) rfl <| wl_end <| lv_next <| cc_ret <| lv_then_ret ?_
    obtain rfl := Option.some.inj hG
    refine lv_ret1 rfl rfl ?_
    exact ⟨hp1.fin, rfl⟩
   ·replace hG := cond_f hG hc4
    refine cc_cond_f rfl hc4 <| cc_skip <| lv_next <| cc_seq <| cc_seq <| cc_region <| wd rfl (fun st => x_fieldAddr (ee st rfl) (fz_26_0 _ _)) <| wd rfl (fun st => x_load1 (v := I p0.rows) one_3 (ee st rfl) nb1.bk rfl) <| wd rfl (fun st => x_lss (ee st rfl) (ee st rfl)) <| wm rfl (v := .bool (decide (p0.rows < 1))) rfl ?_
    rcases bool_cases (decide (p0.rows < 1)) with hc5 | hc5
    ·replace hG := cond_t hG hc5
     refine wl_skip (c := true) rfl rfl (guard_eq rfl hc5) (by decide) rfl (by decide) <| wl_skip (c := true) rfl rfl (guard_eq rfl hc5) (by decide) rfl (by decide) <| wl_skip (c := true) rfl rfl (guard_eq rfl hc5) (by decide) rfl (by decide) <| wd rfl (fun st => x_pick_t (v := .bool true) (ee st rfl) hc5 (ee st rfl)) <| wm rfl (v := .bool true) rfl <| wl_skip rfl rfl rfl (by decide) rfl (by decide) <| wl_skip rfl rfl rfl (by decide) rfl (by decide) <| wl_skip rfl rfl rfl (by decide) rfl (by decide) <| wl_skip rfl rfl rfl (by decide) rfl (by decide) <| wl_skip rfl rfl rfl (by decide) rfl (by decide) <| wl_skip rfl rfl rfl (by decide) rfl (by decide) <| wd rfl (fun st => x_pick_t (v := .bool true) (ee st rfl) rfl (ee st rfl)) <| wl_end <| lv_next <| cc_cond_t rfl rfl <| cc_seq <| cc_region <| wa rfl (v := I 1) rfl <| wl_end <| lv_next <| cc_ret <| lv_then_ret ?_
     obtain rfl := Option.some.inj hG
     refine lv_ret1 rfl rfl ?_
     exact ⟨hp1.fin, rfl⟩
    ·replace hG := cond_f hG hc5
     refine wl_detg rfl rfl (guard_eq rfl hc5) rfl (by decide) (fun st => x_fieldAddr (ee st rfl) (fz_26_1 _ _)) <| wl_detg rfl rfl (guard_eq rfl hc5) rfl (by decide) (fun st => x_load1 (v := I p0.wd) one_3 (ee st rfl) nb1.bk rfl) <| wl_detg rfl rfl (guard_eq rfl hc5) rfl (by decide) (fun st => x_lss (ee st rfl) (ee st rfl)) <| wd rfl (fun st => x_pick_f (v := .bool (decide (p0.wd < 1))) (ee st rfl) hc5 (ee st rfl)) <| wm rfl (v := .bool (decide (p0.wd < 1))) rfl ?_
     rcases bool_cases (decide (p0.wd < 1)) with hc6 | hc6
     ·replace hG := cond_t hG hc6
      refine wl_skip (c := true) rfl rfl (guard_eq rfl hc6) (by decide) rfl (by decide) <| wl_skip (c := true) rfl rfl (guard_eq rfl hc6) (by decide) rfl (by decide) <| wl_skip (c := true) rfl rfl (guard_eq rfl hc6) (by decide) rfl (by decide) <| wl_skip (c := true) rfl rfl (guard_eq rfl hc6) (by decide) rfl (by decide) <| wl_skip (c := true) rfl rfl (guard_eq rfl hc6) (by decide) rfl (by decide) <| wl_skip (c := true) rfl rfl (guard_eq rfl hc6) (by decide) rfl (by decide) <| wd rfl (fun st => x_pick_t (v := .bool true) (ee st rfl) hc6 (ee st rfl)) <| wl_end <| lv_next <| cc_cond_t rfl rfl <| cc_seq <| cc_region <| wa rfl (v := I 1) rfl <| wl_end <| lv_next <| cc_ret <| lv_then_ret ?_
      obtain rfl := Option.some.inj hG
      refine lv_ret1 rfl rfl ?_
      exact ⟨hp1.fin, rfl⟩
     ·replace hG := cond_f hG hc6
      refine wl_detg rfl rfl (guard_eq rfl hc6) rfl (by decide) (fun st => x_fieldAddr (ee st rfl) (fz_26_2 _ _)) <| wl_detg rfl rfl (guard_eq rfl hc6) rfl (by decide) (fun st => x_loadn (l := [I p0.lo, I p0.hi]) agg_23 (ee st rfl) nb1.bk rfl rfl) <| wl_detg rfl rfl (guard_eq rfl hc6) rfl (by decide) (fun st => x_fieldAddr (ee st rfl) (fz_26_0 _ _)) <| wl_detg rfl rfl (guard_eq rfl hc6) rfl (by decide) (fun st => x_load1 (v := I p0.rows) one_3 (ee st rfl) nb1.bk rfl) ?_
      replace hG := bind_some hG; obtain ⟨r7, hr7, hG⟩ := hG
      refine wl_exg rfl rfl (guard_eq rfl hc6) rfl (by decide) (fun st => x_call0 own_98 (ee st rfl) (am3 (ee st rfl) (ee st rfl) (ee st rfl)) (a98 K_ (⟨p0.lo, p0.hi⟩ : (Int × Int)) 0 p0.rows ZA _ r7 hr7)) ?_
      rintro _ w8 ⟨hx7, rfl⟩
      have hp2 : Hp w [some b1] w8 := hp1.ext hx7
      refine wl_detg rfl rfl (guard_eq rfl hc6) rfl (by decide) (fun st => x_not (ee st rfl)) <| wd rfl (fun st => x_pick_f (v := .bool !r7) (ee st rfl) hc6 (ee st rfl)) <| wl_end <| lv_next ?_
      rcases bool_cases (!r7) with hc9 | hc9
      ·replace hG := cond_t hG hc9
       have hc9_10 : r7 = false := by simpa using hc9
       refine cc_cond_t rfl hc9 <| cc_seq <| cc_region <| wa rfl (v := I 1) rfl <| wl_end <| lv_next <| cc_ret <| lv_then_ret ?_
       obtain rfl := Option.some.inj hG
       refine lv_ret1 rfl rfl ?_
       exact ⟨hp2.fin, rfl⟩
      ·replace hG := cond_f hG hc9
       have hc9_11 : r7 = true := by simpa using hc9
       refine cc_cond_f rfl hc9 <| cc_skip <| lv_next <| cc_seq <| cc_seq <| cc_region <| wa rfl (v := I 0) rfl <| wl_end <| lv_next <| cc_block ?_
       replace hG := bind_some hG; obtain ⟨z12, hL12, hG⟩ := hG
       refine cc_join (fun e_ fr_ w_ => (e_ = .ret ∧ ∃ q12, z12 = .inl q12 ∧ fr_.tmps.size = 85 ∧ fr_.defers = [] ∧ sl fr_ 2 = I q12 ∧ Hp w [some b1] w_) ∨ (e_ = .exit 0 ∧ ∃ q12, z12 = .inr q12 ∧ fr_.tmps.size = 85 ∧ fr_.defers = [] ∧ sl fr_ 1 = pt b1 0 ∧ Hp w [some b1] w_ ∧ Bk w_ b1 26 #[I p0.rows, I p0.wd, I p0.lo, I p0.hi, .slice A0_0 p0.ts.length c0_0] ∧ Sl eTly w_ (ZZ Z w.heap.size [some b1]) A0_0 c0_0 p0.ts)) ?lp12 ?af12
       case lp12 =>
        clear hG
        refine cc_loop (fun (m_ : Nat) (fr_ : Act) (w_ : World) => ∃ s12_3, G_Fault_L12 K_ p0 m_ s12_3 = some z12 ∧ fr_.tmps.size = 85 ∧ fr_.defers = [] ∧ sl fr_ 1 = pt b1 0 ∧ sl fr_ 3 = I s12_3 ∧ Hp w [some b1] w_ ∧ Bk w_ b1 26 #[I p0.rows, I p0.wd, I p0.lo, I p0.hi, .slice A0_0 p0.ts.length c0_0] ∧ Sl eTly w_ (ZZ Z w.heap.size [some b1]) A0_0 c0_0 p0.ts) K_ ?in12 ?rd12
        case in12 =>
         intro st
         have bk1_2 : Bk w8 b1 26 #[I p0.rows, I p0.wd, I p0.lo, I p0.hi, .slice A0_0 p0.ts.length c0_0] := (nb1.bk.ext hx7)
         have hS0_0_2 : Sl eTly w8 (ZZ Z w.heap.size [some b1]) A0_0 c0_0 p0.ts := ((hS0_0_0.mv (mv_new nb1.gr (Nat.le_of_eq nb1.b_eq.symm))).mv (mv_ext hx7))
         exact ⟨(0 : Int), hL12, (puts_size _ _).trans st.sz, (puts_defers _ _).trans st.df, (sl_puts st 1).trans rfl, (sl_puts st 3).trans rfl, hp2, bk1_2, hS0_0_2⟩
        case rd12 =>
         rintro (_ | m_) fr12 w12r ⟨s12_3, hL12, hsz12, hdf12, hs12_1, hs12_3, hp3, f12_bk1, f12_hS0_0⟩
         ·exact absurd (show none = some _ from hL12) (by simp)
         rw [G_Fault_L12.eq_2] at hL12
         have hG := hL12; clear hL12
         refine round_cc (N := 85) hsz12 hdf12 <| cc_seq <| cc_seq <| cc_region <| wm rfl (v := I s12_3) hs12_3 <| wd rfl (fun st => x_fieldAddr (ee st hs12_1) (fz_26_3 _ _)) <| wd rfl (fun st => x_load1 (v := .slice A0_0 p0.ts.length c0_0) one_24 (ee st rfl) f12_bk1 rfl) <| wd rfl (fun st => x_len Try.underlying24 (ee st rfl)) <| wd rfl (fun st => x_lss (ee st rfl) (ee st rfl)) <| wl_end <| lv_next ?_
         rcases bool_cases (decide (s12_3 < (p0.ts.length : Int))) with hc13 | hc13
         ·replace hG := cond_t hG hc13
          refine cc_cond_t rfl hc13 <| cc_skip <| lv_next <| cc_seq <| cc_block <| cc_seq <| cc_region <| wd rfl (fun st => x_fieldAddr (ee st hs12_1) (fz_26_3 _ _)) <| wd rfl (fun st => x_load1 (v := .slice A0_0 p0.ts.length c0_0) one_24 (ee st rfl) f12_bk1 rfl) <| wm rfl (v := I s12_3) hs12_3 ?_
          replace hG := idx_bind hG; obtain ⟨i14, x14, hi14, hx14, hl14, hG⟩ := hG
          obtain ⟨b14, o14, _, hA14, rfl, hz14⟩ := Sl.elem f12_hS0_0 (by decide) hx14
          refine wd rfl (fun st => x_indexAddrN (k := i14) Try.underlying24 sz_68 (ee st rfl) hA14 (ee st rfl) hi14 hl14) <| wd rfl (fun st => x_load_zn0 (l := [I x14.who, I x14.fr, I x14.to, I x14.lo, I x14.hi]) agg_68 (ee st rfl) hz14 rfl rfl) <| we rfl (fun st => x_alloc (cs := #[I 0, I 0, I 0, I 0, I 0]) zero_68 rfl) ?_
          rintro _ w15 ⟨b15, rfl, nb15⟩
          have hp4 : Hp w [some b15, some b1] w15 := hp3.new nb15.gr (Nat.le_of_eq nb15.b_eq.symm) (Nat.lt_of_lt_of_eq (Nat.lt_succ_self _) nb15.sz.symm)
          refine wl_ex0 rfl rfl (fun st => x_store (n := 5) (l := [I x14.who, I x14.fr, I x14.to, I x14.lo, I x14.hi]) (cs' := #[I x14.who, I x14.fr, I x14.to, I x14.lo, I x14.hi]) (ee st rfl) (ee st rfl) sz_68 nb15.bk rfl rfl (show 0 + 5 ≤ 5 by decide) (one_cells rfl) rfl) ?_
          rintro _ w16 sb16
          have hp5 : Hp w [some b15, some b1] w16 := hp4.gr sb16.gr (hp4.ge 0 rfl)
          refine wl_end <| lv_next <| cc_seq <| cc_region <| wd rfl (fun st => x_fieldAddr (ee st rfl) (fz_68_0 _ _)) <| wd rfl (fun st => x_load1 (v := I x14.who) one_3 (ee st rfl) sb16.bk rfl) <| wd rfl (fun st => x_fieldAddr (ee st hs12_1) (fz_26_1 _ _)) ?_
          have bk1_5 : Bk w16 b1 26 #[I p0.rows, I p0.wd, I p0.lo, I p0.hi, .slice A0_0 p0.ts.length c0_0] := ((f12_bk1.ext nb15.gr).gr sb16.gr (hp4.ne 1 0 rfl rfl rfl))
          refine wd rfl (fun st => x_load1 (v := I p0.wd) one_3 (ee st rfl) bk1_5 rfl) ?_
          replace hG := i64_bind hG; obtain ⟨hf17, hG⟩ := hG
          refine wd rfl (fun st => x_sub (ee st rfl) (ee st rfl) hf17) ?_
          replace hG := bind_some hG; obtain ⟨r18, hr18, hG⟩ := hG
          refine we rfl (fun st => x_call0 own_29 (ee st rfl) (am3 (ee st rfl) (ee st rfl) (ee st rfl)) (a29 K_ x14.who 0 (p0.wd - 1) ZA _ r18 hr18)) ?_
          rintro _ w19 ⟨hx18, rfl⟩
          have hp6 : Hp w [some b15, some b1] w19 := hp5.ext hx18
          refine wd rfl (fun st => x_not (ee st rfl)) <| wm rfl (v := .bool !r18) rfl ?_
          rcases bool_cases (!r18) with hc20 | hc20
          ·replace hG := cond_t hG hc20
           have hc20_21 : r18 = false := by simpa using hc20
           refine wl_skip (c := true) rfl rfl (guard_eq rfl hc20) (by decide) rfl (by decide) <| wl_skip (c := true) rfl rfl (guard_eq rfl hc20) (by decide) rfl (by decide) <| wl_skip (c := true) rfl rfl (guard_eq rfl hc20) (by decide) rfl (by decide) <| wl_skip (c := true) rfl rfl (guard_eq rfl hc20) (by decide) rfl (by decide) <| wl_skip (c := true) rfl rfl (guard_eq rfl hc20) (by decide) rfl (by decide) <| wl_skip (c := true) rfl rfl (guard_eq rfl hc20) (by decide) rfl (by decide) <| wl_skip (c := true) rfl rfl (guard_eq rfl hc20) (by decide) rfl (by decide) <| wd rfl (fun st => x_pick_t (v := .bool true) (ee st rfl) hc20 (ee st rfl)) <| wm rfl (v := .bool true) rfl <| wl_skip rfl rfl rfl (by decide) rfl (by decide) <| wl_skip rfl rfl rfl (by decide) rfl (by decide) <| wl_skip rfl rfl rfl (by decide) rfl (by decide) <| wl_skip rfl rfl rfl (by decide) rfl (by decide) <| wl_skip rfl rfl rfl (by decide) rfl (by decide) <| wl_skip rfl rfl rfl (by decide) rfl (by decide) <| wl_skip rfl rfl rfl (by decide) rfl (by decide) <| wl_skip rfl rfl rfl (by decide) rfl (by decide) <| wl_skip rfl rfl rfl (by decide) rfl (by decide) <| wd rfl (fun st => x_pick_t (v := .bool true) (ee st rfl) rfl (ee st rfl)) <| wm rfl (v := .bool true) rfl <| wl_skip rfl rfl rfl (by decide) rfl (by decide) <| wl_skip rfl rfl rfl (by decide) rfl (by decide) <| wl_skip rfl rfl rfl (by decide) rfl (by decide) <| wl_skip rfl rfl rfl (by decide) rfl (by decide) <| wl_skip rfl rfl rfl (by decide) rfl (by decide) <| wl_skip rfl rfl rfl (by decide) rfl (by decide) <| wd rfl (fun st => x_pick_t (v := .bool true) (ee st rfl) rfl (ee st rfl)) <| wl_end <| lv_next <| cc_cond_t rfl rfl <| cc_seq <| cc_region <| wa rfl (v := I 1) rfl <| wl_end <| lv_next <| cc_ret <| lv_block_ret <| lv_then_ret <| lv_then_ret ?_
           have hp7 : Hp w [some b1] w19 := hp6.erase 0
           obtain rfl := Option.some.inj hG
           refine lv_to (fun st => ?_)
           exact .inl ⟨rfl, (1 : Int), rfl, (puts_size _ _).trans st.sz, (puts_defers _ _).trans st.df, (sl_puts st 2).trans rfl, hp7⟩
          ·replace hG := cond_f hG hc20
           have hc20_22 : r18 = true := by simpa using hc20
           refine wl_detg rfl rfl (guard_eq rfl hc20) rfl (by decide) (fun st => x_fieldAddr (ee st rfl) (fz_68_1 _ _)) ?_
           have bk15_6 : Bk w19 b15 68 #[I x14.who, I x14.fr, I x14.to, I x14.lo, I x14.hi] := (sb16.bk.ext hx18)
           refine wl_detg rfl rfl (guard_eq rfl hc20) rfl (by decide) (fun st => x_load1 (v := I x14.fr) one_3 (ee st rfl) bk15_6 rfl) <| wl_detg rfl rfl (guard_eq rfl hc20) rfl (by decide) (fun st => x_fieldAddr (ee st hs12_1) (fz_26_0 _ _)) ?_
           have bk1_6 : Bk w19 b1 26 #[I p0.rows, I p0.wd, I p0.lo, I p0.hi, .slice A0_0 p0.ts.length c0_0] := (bk1_5.ext hx18)
           refine wl_detg rfl rfl (guard_eq rfl hc20) rfl (by decide) (fun st => x_load1 (v := I p0.rows) one_3 (ee st rfl) bk1_6 rfl) ?_
           replace hG := i64_bind hG; obtain ⟨hf23, hG⟩ := hG
           refine wl_detg rfl rfl (guard_eq rfl hc20) rfl (by decide) (fun st => x_sub (ee st rfl) (ee st rfl) hf23) ?_
           replace hG := bind_some hG; obtain ⟨r24, hr24, hG⟩ := hG
           refine wl_exg rfl rfl (guard_eq rfl hc20) rfl (by decide) (fun st => x_call0 own_29 (ee st rfl) (am3 (ee st rfl) (ee st rfl) (ee st rfl)) (a29 K_ x14.fr 0 (p0.rows - 1) ZA _ r24 hr24)) ?_
           rintro _ w25 ⟨hx24, rfl⟩
           have hp8 : Hp w [some b15, some b1] w25 := hp6.ext hx24
           refine wl_detg rfl rfl (guard_eq rfl hc20) rfl (by decide) (fun st => x_not (ee st rfl)) <| wd rfl (fun st => x_pick_f (v := .bool !r24) (ee st rfl) hc20 (ee st rfl)) <| wm rfl (v := .bool !r24) rfl ?_
           rcases bool_cases (!r24) with hc26 | hc26
           ·replace hG := cond_t hG hc26
            have hc26_27 : r24 = false := by simpa using hc26
            refine wl_skip (c := true) rfl rfl (guard_eq rfl hc26) (by decide) rfl (by decide) <| wl_skip (c := true) rfl rfl (guard_eq rfl hc26) (by decide) rfl (by decide) <| wl_skip (c := true) rfl rfl (guard_eq rfl hc26) (by decide) rfl (by decide) <| wl_skip (c := true) rfl rfl (guard_eq rfl hc26) (by decide) rfl (by decide) <| wl_skip (c := true) rfl rfl (guard_eq rfl hc26) (by decide) rfl (by decide) <| wl_skip (c := true) rfl rfl (guard_eq rfl hc26) (by decide) rfl (by decide) <| wl_skip (c := true) rfl rfl (guard_eq rfl hc26) (by decide) rfl (by decide) <| wl_skip (c := true) rfl rfl (guard_eq rfl hc26) (by decide) rfl (by decide) <| wl_skip (c := true) rfl rfl (guard_eq rfl hc26) (by decide) rfl (by decide) <| wd rfl (fun st => x_pick_t (v := .bool true) (ee st rfl) hc26 (ee st rfl)) <| wm rfl (v := .bool true) rfl <| wl_skip rfl rfl rfl (by decide) rfl (by decide) <| wl_skip rfl rfl rfl (by decide) rfl (by decide) <| wl_skip rfl rfl rfl (by decide) rfl (by decide) <| wl_skip rfl rfl rfl (by decide) rfl (by decide) <| wl_skip rfl rfl rfl (by decide) rfl (by decide) <| wl_skip rfl rfl rfl (by decide) rfl (by decide) <| wd rfl (fun st => x_pick_t (v := .bool true) (ee st rfl) rfl (ee st rfl)) <| wl_end <| lv_next <| cc_cond_t rfl rfl <| cc_seq <| cc_region <| wa rfl (v := I 1) rfl <| wl_end <| lv_next <| cc_ret <| lv_block_ret <| lv_then_ret <| lv_then_ret ?_
            have hp9 : Hp w [some b1] w25 := hp8.erase 0
            obtain rfl := Option.some.inj hG
            refine lv_to (fun st => ?_)
            exact .inl ⟨rfl, (1 : Int), rfl, (puts_size _ _).trans st.sz, (puts_defers _ _).trans st.df, (sl_puts st 2).trans rfl, hp9⟩
           ·replace hG := cond_f hG hc26
            have hc26_28 : r24 = true := by simpa using hc26
            refine wl_detg rfl rfl (guard_eq rfl hc26) rfl (by decide) (fun st => x_fieldAddr (ee st rfl) (fz_68_2 _ _)) ?_
            have bk15_8 : Bk w25 b15 68 #[I x14.who, I x14.fr, I x14.to, I x14.lo, I x14.hi] := (bk15_6.ext hx24)
            refine wl_detg rfl rfl (guard_eq rfl hc26) rfl (by decide) (fun st => x_load1 (v := I x14.to) one_3 (ee st rfl) bk15_8 rfl) <| wl_detg rfl rfl (guard_eq rfl hc26) rfl (by decide) (fun st => x_fieldAddr (ee st rfl) (fz_68_1 _ _)) <| wl_detg rfl rfl (guard_eq rfl hc26) rfl (by decide) (fun st => x_load1 (v := I x14.fr) one_3 (ee st rfl) bk15_8 rfl) <| wl_detg rfl rfl (guard_eq rfl hc26) rfl (by decide) (fun st => x_fieldAddr (ee st hs12_1) (fz_26_0 _ _)) ?_
            have bk1_8 : Bk w25 b1 26 #[I p0.rows, I p0.wd, I p0.lo, I p0.hi, .slice A0_0 p0.ts.length c0_0] := (bk1_6.ext hx24)
            refine wl_detg rfl rfl (guard_eq rfl hc26) rfl (by decide) (fun st => x_load1 (v := I p0.rows) one_3 (ee st rfl) bk1_8 rfl) ?_
            replace hG := i64_bind hG; obtain ⟨hf29, hG⟩ := hG
            refine wl_detg rfl rfl (guard_eq rfl hc26) rfl (by decide) (fun st => x_sub (ee st rfl) (ee st rfl) hf29) ?_
            replace hG := bind_some hG; obtain ⟨r30, hr30, hG⟩ := hG
            refine wl_exg rfl rfl (guard_eq rfl hc26) rfl (by decide) (fun st => x_call0 own_29 (ee st rfl) (am3 (ee st rfl) (ee st rfl) (ee st rfl)) (a29 K_ x14.to x14.fr (p0.rows - 1) ZA _ r30 hr30)) ?_
            rintro _ w31 ⟨hx30, rfl⟩
            have hp10 : Hp w [some b15, some b1] w31 := hp8.ext hx30
            refine wl_detg rfl rfl (guard_eq rfl hc26) rfl (by decide) (fun st => x_not (ee st rfl)) <| wd rfl (fun st => x_pick_f (v := .bool !r30) (ee st rfl) hc26 (ee st rfl)) <| wm rfl (v := .bool !r30) rfl ?_
            rcases bool_cases (!r30) with hc32 | hc32
            ·replace hG := cond_t hG hc32
             have hc32_33 : r30 = false := by simpa using hc32
             refine wl_skip (c := true) rfl rfl (guard_eq rfl hc32) (by decide) rfl (by decide) <| wl_skip (c := true) rfl rfl (guard_eq rfl hc32) (by decide) rfl (by decide) <| wl_skip (c := true) rfl rfl (guard_eq rfl hc32) (by decide) rfl (by decide) <| wl_skip (c := true) rfl rfl (guard_eq rfl hc32) (by decide) rfl (by decide) <| wl_skip (c := true) rfl rfl (guard_eq rfl hc32) (by decide) rfl (by decide) <| wl_skip (c := true) rfl rfl (guard_eq rfl hc32) (by decide) rfl (by decide) <| wd rfl (fun st => x_pick_t (v := .bool true) (ee st rfl) hc32 (ee st rfl)) <| wl_end <| lv_next <| cc_cond_t rfl rfl <| cc_seq <| cc_region <| wa rfl (v := I 1) rfl <| wl_end <| lv_next <| cc_ret <| lv_block_ret <| lv_then_ret <| lv_then_ret ?_
             have hp11 : Hp w [some b1] w31 := hp10.erase 0
             obtain rfl := Option.some.inj hG
             refine lv_to (fun st => ?_)
             exact .inl ⟨rfl, (1 : Int), rfl, (puts_size _ _).trans st.sz, (puts_defers _ _).trans st.df, (sl_puts st 2).trans rfl, hp11⟩
            ·replace hG := cond_f hG hc32
             have hc32_34 : r30 = true := by simpa using hc32
             refine wl_detg rfl rfl (guard_eq rfl hc32) rfl (by decide) (fun st => x_fieldAddr (ee st rfl) (fz_68_3 _ _)) ?_
             have bk15_10 : Bk w31 b15 68 #[I x14.who, I x14.fr, I x14.to, I x14.lo, I x14.hi] := (bk15_8.ext hx30)
             refine wl_detg rfl rfl (guard_eq rfl hc32) rfl (by decide) (fun st => x_loadn (l := [I x14.lo, I x14.hi]) agg_23 (ee st rfl) bk15_10 rfl rfl) <| wl_detg rfl rfl (guard_eq rfl hc32) rfl (by decide) (fun st => x_fieldAddr (ee st hs12_1) (fz_26_0 _ _)) ?_
             have bk1_10 : Bk w31 b1 26 #[I p0.rows, I p0.wd, I p0.lo, I p0.hi, .slice A0_0 p0.ts.length c0_0] := (bk1_8.ext hx30)
             refine wl_detg rfl rfl (guard_eq rfl hc32) rfl (by decide) (fun st => x_load1 (v := I p0.rows) one_3 (ee st rfl) bk1_10 rfl) ?_
             replace hG := bind_some hG; obtain ⟨r35, hr35, hG⟩ := hG
             refine wl_exg rfl rfl (guard_eq rfl hc32) rfl (by decide) (fun st => x_call0 own_98 (ee st rfl) (am3 (ee st rfl) (ee st rfl) (ee st rfl)) (a98 K_ (⟨x14.lo, x14.hi⟩ : (Int × Int)) 0 p0.rows ZA _ r35 hr35)) ?_
             rintro _ w36 ⟨hx35, rfl⟩
             have hp12 : Hp w [some b15, some b1] w36 := hp10.ext hx35
             refine wl_detg rfl rfl (guard_eq rfl hc32) rfl (by decide) (fun st => x_not (ee st rfl)) <| wd rfl (fun st => x_pick_f (v := .bool !r35) (ee st rfl) hc32 (ee st rfl)) <| wl_end <| lv_next ?_
             rcases bool_cases (!r35) with hc37 | hc37
             ·replace hG := cond_t hG hc37
              have hc37_38 : r35 = false := by simpa using hc37
              refine cc_cond_t rfl hc37 <| cc_seq <| cc_region <| wa rfl (v := I 1) rfl <| wl_end <| lv_next <| cc_ret <| lv_block_ret <| lv_then_ret <| lv_then_ret ?_
              have hp13 : Hp w [some b1] w36 := hp12.erase 0
              obtain rfl := Option.some.inj hG
              refine lv_to (fun st => ?_)
              exact .inl ⟨rfl, (1 : Int), rfl, (puts_size _ _).trans st.sz, (puts_defers _ _).trans st.df, (sl_puts st 2).trans rfl, hp13⟩
             ·replace hG := cond_f hG hc37
              have hc37_39 : r35 = true := by simpa using hc37
              refine cc_cond_f rfl hc37 <| cc_skip <| lv_block <| lv_next <| cc_region <| wm rfl (v := I s12_3) hs12_3 ?_
              replace hG := i64_bind hG; obtain ⟨hf40, hG⟩ := hG
              refine wd rfl (fun st => x_add (ee st rfl) (ee st rfl) hf40) <| wa rfl (v := I (s12_3 + 1)) rfl <| wl_end ?_
              have hp14 : Hp w [some b1] w36 := hp12.erase 0
              have bk1_14 : Bk w36 b1 26 #[I p0.rows, I p0.wd, I p0.lo, I p0.hi, .slice A0_0 p0.ts.length c0_0] := (bk1_10.ext hx35)
              have hS0_0_14 : Sl eTly w36 (ZZ Z w.heap.size [some b1]) A0_0 c0_0 p0.ts := (((((((f12_hS0_0.mv (mv_new nb15.gr (Nat.le_of_eq nb15.b_eq.symm))).mv (hp4.mv0 sb16.gr 0 rfl)).mv (mv_ext hx18)).mv (mv_ext hx24)).mv (mv_ext hx30)).mv (mv_ext hx35)).mv (mv_erase 0))
              refine lv_round m_ (Nat.lt_succ_self _) (fun st => ?_)
              exact ⟨(s12_3 + 1), hG, (puts_size _ _).trans st.sz, (puts_defers _ _).trans st.df, (sl_puts st 1).trans hs12_1, (sl_puts st 3).trans rfl, hp14, bk1_14, hS0_0_14⟩
         ·replace hG := cond_f hG hc13
          refine cc_cond_f rfl hc13 <| cc_exit <| lv_then_exit <| lv_then_exit ?_
          obtain rfl := Option.some.inj hG
          refine lv_to (fun st => ?_)
          exact .inr ⟨rfl, (), rfl, (puts_size _ _).trans st.sz, (puts_defers _ _).trans st.df, (sl_puts st 1).trans hs12_1, hp3, f12_bk1, f12_hS0_0⟩
       case af12 =>
        rintro e_ fr12a w12a (⟨rfl, q12, rfl, hsz12a, hdf12a, hs12a_2, hp12a⟩ | ⟨rfl, q12, rfl, hsz12a, hdf12a, hs12a_1, hp12a, g12_bk1, g12_hS0_0⟩)
        ·skip
         replace hG := inl_some hG
         refine lv_fr (X := X0) (N := 85) hsz12a hdf12a <| lv_block_ret <| lv_then_ret ?_
         obtain rfl := Option.some.inj hG
         refine lv_ret1 rfl hs12a_2 ?_
         exact ⟨hp12a.fin, rfl⟩
        ·skip
         replace hG := inr_some hG
         refine lv_fr (X := X0) (N := 85) hsz12a hdf12a <| lv_block_hit <| lv_next <| cc_seq <| cc_seq <| cc_region <| wd rfl (fun st => x_loadn (l := [I p0.rows, I p0.wd, I p0.lo, I p0.hi, .slice A0_0 p0.ts.length c0_0]) agg_26 (ee st hs12a_1) g12_bk1 rfl rfl) ?_
         replace hG := bind_some hG; obtain ⟨r41, hr41, hG⟩ := hG
         refine we rfl (fun st => x_call0 own_65 (ee st rfl) (am1 (ee st rfl)) (a65 K_ p0 A0_0 c0_0 ZA _ g12_hS0_0.all r41 hr41)) ?_
         rintro _ w42 ⟨hx41, rfl⟩
         have hp17 : Hp w [some b1] w42 := hp12a.ext hx41
         refine wd rfl (fun st => x_gtr (ee st rfl) (ee st rfl)) <| wl_end <| lv_next ?_
         rcases bool_cases (decide (2500 < r41)) with hc43 | hc43
         ·replace hG := cond_t hG hc43
          refine cc_cond_t rfl hc43 <| cc_seq <| cc_region <| wa rfl (v := I 3) rfl <| wl_end <| lv_next <| cc_ret <| lv_then_ret ?_
          obtain rfl := Option.some.inj hG
          refine lv_ret1 rfl rfl ?_
          exact ⟨hp17.fin, rfl⟩
         ·replace hG := cond_f hG hc43
          refine cc_cond_f rfl hc43 <| cc_skip <| lv_next <| cc_seq <| cc_region <| wa rfl (v := I 0) rfl <| wl_end <| lv_next <| cc_ret ?_
          obtain rfl := Option.some.inj hG
          refine lv_ret1 rfl rfl ?_
          exact ⟨hp17.fin, rfl⟩
end Go.Proofs.Ythogdgkafaclaaa
end
section
set_option linter.unusedVariables false
set_option linter.unusedSimpArgs false
namespace Go.Proofs.Ythogdgkafaclaaa
open Go.RowKit
open AF
theorem mixedA3 : Try.prog.follows .mixedOrders = true := by kernel_rfl
attribute [local irreducible] Ex1 WL CC CW LV Ret ObOp Agg One Own
theorem a82 (K_ : Nat) (p0 : Fld) (p1 : Int) (A0_0 : Option Addr) (c0_0 : Nat) (Z : Nat → Prop) (w : World) (hS0_0 : Sl eTly w Z A0_0 c0_0 p0.ts) (r_ : (List Int)) (hG : G_Nth K_ p0 p1 = some r_) :
    Ret Try.prog 82 #[.agg #[I p0.rows, I p0.wd, I p0.lo, I p0.hi, .slice A0_0 p0.ts.length c0_0], I p1] w (fun v w' => Ext w w' ∧ (vSl (eInt .i64)).R w' (ZZ Z w.heap.size []) v r_) := by
 unfold G_Nth at hG
 refine ret_of_cc (N := 28) Try.func82 rfl rfl (by simp) ?_
 intro fr0 ha hdf
 have hp_0 := sl_arg (i := 0) (v := .agg #[I p0.rows, I p0.wd, I p0.lo, I p0.hi, .slice A0_0 p0.ts.length c0_0]) ha rfl
 have hp_1 := sl_arg (i := 1) (v := I p1) ha rfl
 clear ha
 have hp0 := Hp.refl w
 have hS0_0_0 := hS0_0.mv (mv_start w)
 refine cc_seq <| cc_region <| we rfl (fun st => x_box (v := .agg #[I p0.rows, I p0.wd, I p0.lo, I p0.hi, .slice A0_0 p0.ts.length c0_0]) (cs := #[I p0.rows, I p0.wd, I p0.lo, I p0.hi, .slice A0_0 p0.ts.length c0_0]) (ee st hp_0) rfl) ?_
 rintro _ w1 ⟨b1, rfl, nb1⟩
 have hp1 : Hp w [some b1] w1 := hp0.new nb1.gr (Nat.le_of_eq nb1.b_eq.symm) (Nat.lt_of_lt_of_eq (Nat.lt_succ_self _) nb1.sz.symm)
 refine wa rfl (v := .slice none 0 0) rfl <| wl_end <| lv_next <| cc_seq <| cc_region <| wa rfl (v := .slice none 0 0) rfl <| wl_end <| lv_next <| cc_seq <| cc_seq <| cc_region <| wa rfl (v := I 0) rfl <| wl_end <| lv_next <| cc_block ?_
 have hp2 : Hp w [none, some b1] w1 := hp1.nil
 have hR3 : OwnR (eInt .i64) 3 w w1 (ZZ Z w.heap.size [none, some b1]) none 0 [] := OwnR.nil _ _ _ _ _
 replace hG := bind_some hG; obtain ⟨z2, hL2, hG⟩ := hG
 refine cc_join (fun e_ fr_ w_ => (e_ = .exit 0 ∧ ∃ Ae2_0_50 Ce2_0_50, fr_.tmps.size = 28 ∧ fr_.defers = [] ∧ sl fr_ 5 = .slice Ae2_0_50 z2.length Ce2_0_50 ∧ Hp w [ob Ae2_0_50, some b1] w_ ∧ OwnR (eInt .i64) 3 w w_ (ZZ Z w.heap.size [ob Ae2_0_50, some b1]) Ae2_0_50 Ce2_0_50 z2)) ?lp2 ?af2
 case lp2 =>
  clear hG
  refine cc_loop (fun (m_ : Nat) (fr_ : Act) (w_ : World) => ∃ s2_1, ∃ s2_5, ∃ s2_6, ∃ As2_5 Cs2_5, G_Nth_L2 p0 m_ s2_1 s2_5 s2_6 = some z2 ∧ fr_.tmps.size = 28 ∧ fr_.defers = [] ∧ sl fr_ 1 = I s2_1 ∧ sl fr_ 2 = pt b1 0 ∧ sl fr_ 5 = .slice As2_5 s2_5.length Cs2_5 ∧ sl fr_ 6 = I s2_6 ∧ Hp w [ob As2_5, some b1] w_ ∧ OwnR (eInt .i64) 3 w w_ (ZZ Z w.heap.size [ob As2_5, some b1]) As2_5 Cs2_5 s2_5 ∧ Bk w_ b1 26 #[I p0.rows, I p0.wd, I p0.lo, I p0.hi, .slice A0_0 p0.ts.length c0_0] ∧ Sl eTly w_ (ZZ Z w.heap.size [ob As2_5, some b1]) A0_0 c0_0 p0.ts) K_ ?in2 ?rd2
  case in2 =>
   intro st
   have bk1_2 : Bk w1 b1 26 #[I p0.rows, I p0.wd, I p0.lo, I p0.hi, .slice A0_0 p0.ts.length c0_0] := nb1.bk
   have hS0_0_2 : Sl eTly w1 (ZZ Z w.heap.size [none, some b1]) A0_0 c0_0 p0.ts := ((hS0_0_0.mv (mv_new nb1.gr (Nat.le_of_eq nb1.b_eq.symm))).mv mv_nil)
   exact ⟨p1, ([] : List Int), (0 : Int), none, 0, hL2, (puts_size _ _).trans st.sz, (puts_defers _ _).trans st.df, (sl_puts st 1).trans hp_1, (sl_puts st 2).trans rfl, (sl_puts st 5).trans rfl, (sl_puts st 6).trans rfl, hp2, hR3, bk1_2, hS0_0_2⟩
  case rd2 =>
   rintro (_ | m_) fr2 w2r ⟨s2_1, s2_5, s2_6, As2_5, Cs2_5, hL2, hsz2, hdf2, hs2_1, hs2_2, hs2_5, hs2_6, hp3, f2_Hs2_5, f2_bk1, f2_hS0_0⟩
   ·exact absurd (show none = some _ from hL2) (by simp)
   rw [G_Nth_L2.eq_2] at hL2
   have hG := hL2; clear hL2
   refine round_cc (N := 28) hsz2 hdf2 <| cc_seq <| cc_seq <| cc_region <| wm rfl (v := I s2_6) hs2_6 <| wd rfl (fun st => x_fieldAddr (ee st hs2_2) (fz_26_0 _ _)) <| wd rfl (fun st => x_load1 (v := I p0.rows) one_3 (ee st rfl) f2_bk1 rfl) <| wd rfl (fun st => x_lss (ee st rfl) (ee st rfl)) <| wl_end <| lv_next ?_
   rcases bool_cases (decide (s2_6 < p0.rows)) with hc4 | hc4
   ·replace hG := cond_t hG hc4
    refine cc_cond_t rfl hc4 <| cc_skip <| lv_next <| cc_seq <| cc_block ?_
    replace hG := i64_bind hG; obtain ⟨hf6, hG⟩ := hG
    replace hG := rem_bind hG; obtain ⟨hf7, hG⟩ := hG
    replace hG := i64_bind hG; obtain ⟨hf8, hG⟩ := hG
    replace hG := ifo_bind hG; obtain ⟨hf9, hG⟩ := hG
    replace hG := i64_bind hG; obtain ⟨hf10, hG⟩ := hG
    replace hG := quo_bind hG; obtain ⟨hf11, hG⟩ := hG
    replace hG := i64_bind hG; obtain ⟨hf12, hG⟩ := hG
    refine cc_anyM 15 (fun ph _ w_ => T3 w2r (ob As2_5) ph w_) (fun _ => []) [8] [Kc (.slice As2_5 s2_5.length Cs2_5), Kc (I s2_1), Kc (pt b1 1), Kc (I p0.wd), Kc (I (p0.wd + 1)), Kc (I (s2_1 % (p0.wd + 1))), Kc (I ((s2_1 % (p0.wd + 1)) - 1)), Kn w2r.heap.size (fun b => .slice (some ⟨b, 0, none⟩) 1 1) 3 #[I ((s2_1 % (p0.wd + 1)) - 1)], ⟨fun v_ w_ => ∃ A_ c_, v_ = .slice A_ (s2_5 ++ [(s2_1 % (p0.wd + 1)) - 1]).length c_ ∧ w2r.grownBy w_ (ob As2_5) ∧ (∀ k, ob A_ = some k → (ob As2_5 = some k ∨ w2r.heap.size ≤ k) ∧ k < w_.heap.size) ∧ OwnR (eInt .i64) 3 w w_ (ZZ Z w.heap.size [ob A_, some b1]) A_ c_ (s2_5 ++ [(s2_1 % (p0.wd + 1)) - 1]), fun _ _ _ ⟨A_, c_, h1, h2, h3, h4⟩ g => ⟨A_, c_, h1, h2.trans (g.but _), (fun k hk => ⟨(h3 k hk).1, Nat.lt_of_lt_of_le (h3 k hk).2 g.size⟩), h4.ext g (mv_ext g)⟩⟩, Kc (I s2_1), Kc (pt b1 1), Kc (I p0.wd), Kc (I (p0.wd + 1)), Kc (I (s2_1 / (p0.wd + 1))), ⟨fun v_ w_ => ∃ A_ c_, v_ = .slice A_ (s2_5 ++ [(s2_1 % (p0.wd + 1)) - 1]).length c_ ∧ w2r.grownBy w_ (ob As2_5) ∧ (∀ k, ob A_ = some k → (ob As2_5 = some k ∨ w2r.heap.size ≤ k) ∧ k < w_.heap.size) ∧ OwnR (eInt .i64) 3 w w_ (ZZ Z w.heap.size [ob A_, some b1]) A_ c_ (s2_5 ++ [(s2_1 % (p0.wd + 1)) - 1]), fun _ _ _ ⟨A_, c_, h1, h2, h3, h4⟩ g => ⟨A_, c_, h1, h2.trans (g.but _), (fun k hk => ⟨(h3 k hk).1, Nat.lt_of_lt_of_le (h3 k hk).2 g.size⟩), h4.ext g (mv_ext g)⟩⟩] mixedA3 rfl rfl (okD_nil _ _) (fun _ _ _ _ _ h g _ => T3_ext h g) (fun _ => ext_drew _)
        (obsN_cons (od rfl (fun _ => rfl) (fun K => x_move (v := .slice As2_5 s2_5.length Cs2_5) (es (t := 5) (v := .slice As2_5 s2_5.length Cs2_5) ((K.later 14 5 _ rfl rfl rfl).trans hs2_5))))
        (obsN_cons (od rfl (fun _ => rfl) (fun K => x_move (v := I s2_1) (es (t := 1) (v := I s2_1) ((K.later 15 1 _ rfl rfl rfl).trans hs2_1))))
        (obsN_cons (od rfl (fun _ => rfl) (fun K => x_fieldAddr (es (t := 2) (v := pt b1 0) ((K.out 2 rfl).trans hs2_2)) (fz_26_1 _ _)))
        (obsN_cons (od rfl (fun _ => rfl) (fun K => x_load1 (v := I p0.wd) one_3 (es (t := 15) (v := pt b1 1) (K.dep 2 15 rfl rfl)) (f2_bk1.gr (T3_gr K.phT) (hp3.ne 1 0 rfl rfl rfl)) rfl))
        (obsN_cons (od rfl (fun _ => rfl) (fun K => x_add (es (t := 16) (v := I p0.wd) (K.dep 3 16 rfl rfl)) (ec (v := I 1)) hf6))
        (obsN_cons (od rfl (fun _ => rfl) (fun K => x_rem (es (t := 14) (v := I s2_1) (K.dep 1 14 rfl rfl)) (es (t := 17) (v := I (p0.wd + 1)) (K.dep 4 17 rfl rfl)) hf7.1 hf7.2))
        (obsN_cons (od rfl (fun _ => rfl) (fun K => x_sub (es (t := 18) (v := I (s2_1 % (p0.wd + 1))) (K.dep 5 18 rfl rfl)) (ec (v := I 1)) hf8))
        (obsN_cons (ob_ext rfl rfl (fun a' w' ph K => (x_buildSlice (e := 3) (vs := #[(0, I ((s2_1 % (p0.wd + 1)) - 1))]) (cs := #[I ((s2_1 % (p0.wd + 1)) - 1)]) (pm1 (es (t := 19) (v := I ((s2_1 % (p0.wd + 1)) - 1)) (K.dep 6 19 rfl rfl))) (by kernel_rfl)).mono (fun u w'' hh => kn_mk (T3_gr K.phT).size hh)))
        (obsN_cons (ob_spec rfl rfl (fun a' w' ph K => match K.dep 7 20 rfl rfl with | ⟨bb5_7, e5_7, l5_7, k5_7⟩ => (x_appR (ys := [(s2_1 % (p0.wd + 1)) - 1]) Try.underlying43 info_3 rfl rfl (by decide) (es (t := 13) (v := .slice As2_5 s2_5.length Cs2_5) (K.dep 0 13 rfl rfl)) rfl (es (t := 20) (v := .slice (some ⟨bb5_7, 0, none⟩) 1 1) e5_7) (f2_Hs2_5.ext (T3_zero K.phT (K.spi 0 rfl)) (mv_ext (T3_zero K.phT (K.spi 0 rfl)))) (news_bk (css := [[I ((s2_1 % (p0.wd + 1)) - 1)]]) k5_7 ⟨rfl, trivial⟩ rfl) (by have := hf9; simp only [maxLen]; omega) (by have := hf9; omega) (Nat.le_trans hp3.bl.size (T3_zero K.phT (K.spi 0 rfl)).size) (by simp)).mono (fun v w'' ⟨A_, c_, hv, hg, hy, hO⟩ => ⟨⟨A_, c_, hv, T3_all (T3_zero K.phT (K.spi 0 rfl)) hg, T3_y (T3_zero K.phT (K.spi 0 rfl)) hy, ownR_of (hO) ((hp3.ext (T3_zero K.phT (K.spi 0 rfl))).mvr hg 0 rfl (fun k hk => (hy k hk).1))⟩, skl_of ⟨fun _ _ _ h => h, fun _ _ _ h => h, fun _ _ _ h => h, fun _ _ _ h => h, fun _ _ _ h => h, fun _ _ _ h => h, fun _ _ _ h => h, fun _ _ _ ⟨b, h1, h2, h3⟩ => ⟨b, h1, h2, h3.gr hg (by rintro e; have := (hp3.lo b (by rw [e]; exact List.mem_of_getElem? (show [ob As2_5, some b1][0]? = some _ from rfl))).2; omega)⟩, fun h => absurd rfl h, fun _ _ _ h => h, fun _ _ _ h => h, fun _ _ _ h => h, fun _ _ _ h => h, fun _ _ _ h => h, fun _ hd => absurd (hd _ rfl) (by decide), trivial⟩, T3_up K.phT (K.spi 0 rfl) hg⟩)))
        (obsN_cons (od rfl (fun _ => rfl) (fun K => x_move (v := I s2_1) (es (t := 1) (v := I s2_1) ((K.later 15 1 _ rfl rfl rfl).trans hs2_1))))
        (obsN_cons (od rfl (fun _ => rfl) (fun K => x_fieldAddr (es (t := 2) (v := pt b1 0) ((K.out 2 rfl).trans hs2_2)) (fz_26_1 _ _)))
        (obsN_cons (od rfl (fun _ => rfl) (fun K => x_load1 (v := I p0.wd) one_3 (es (t := 23) (v := pt b1 1) (K.dep 10 23 rfl rfl)) (f2_bk1.gr (T3_gr K.phT) (hp3.ne 1 0 rfl rfl rfl)) rfl))
        (obsN_cons (od rfl (fun _ => rfl) (fun K => x_add (es (t := 24) (v := I p0.wd) (K.dep 11 24 rfl rfl)) (ec (v := I 1)) hf10))
        (obsN_cons (od rfl (fun _ => rfl) (fun K => x_quoN (es (t := 22) (v := I s2_1) (K.dep 9 22 rfl rfl)) (es (t := 25) (v := I (p0.wd + 1)) (K.dep 12 25 rfl rfl)) hf11.1 hf11.2 hf12))
        (obsN_cons (ob_ext rfl rfl (fun a' w' ph K => (x_assign (v := sl a' 21) rfl).mono (fun u w'' ⟨hu, hw⟩ => by subst hu; subst hw; exact ⟨K.dep 8 21 rfl rfl, Ext.refl _⟩)))
        (obsN_nil _)))))))))))))))) ?_
    intro w5
    rintro _ rfl _ rfl _ rfl _ rfl _ rfl _ rfl _ rfl _ ⟨bb5_7, rfl, lobb5_7, bkbb5_7⟩ _ _ _ rfl _ rfl _ rfl _ rfl _ rfl _ ⟨Aa5, ca5, rfl, hga5, hya5, hRa5⟩ hx5
    have hp4 : Hp w [ob Aa5, some b1] w5 := hp3.row hga5 0 rfl (hp3.ge 0 rfl) hya5
    refine wa rfl (v := I (s2_1 / (p0.wd + 1))) rfl <| wl_end <| lv_block <| lv_next <| cc_region <| wm rfl (v := I s2_6) hs2_6 ?_
    replace hG := i64_bind hG; obtain ⟨hf13, hG⟩ := hG
    refine wd rfl (fun st => x_add (ee st rfl) (ee st rfl) hf13) <| wa rfl (v := I (s2_6 + 1)) rfl <| wl_end ?_
    have bk1_4 : Bk w5 b1 26 #[I p0.rows, I p0.wd, I p0.lo, I p0.hi, .slice A0_0 p0.ts.length c0_0] := (f2_bk1.gr hga5 (hp3.ne 1 0 rfl rfl rfl))
    have hS0_0_4 : Sl eTly w5 (ZZ Z w.heap.size [ob Aa5, some b1]) A0_0 c0_0 p0.ts := (f2_hS0_0.mv (hp3.mvr hga5 0 rfl (fun k hk => (hya5 k hk).1)))
    refine lv_round m_ (Nat.lt_succ_self _) (fun st => ?_)
    exact ⟨(s2_1 / (p0.wd + 1)), (s2_5 ++ [(s2_1 % (p0.wd + 1)) - 1]), (s2_6 + 1), Aa5, ca5, hG, (puts_size _ _).trans st.sz, (puts_defers _ _).trans st.df, (sl_puts st 1).trans rfl, (sl_puts st 2).trans hs2_2, (sl_puts st 5).trans rfl, (sl_puts st 6).trans rfl, hp4, hRa5, bk1_4, hS0_0_4⟩
   ·replace hG := cond_f hG hc4
    refine cc_cond_f rfl hc4 <| cc_exit <| lv_then_exit <| lv_then_exit ?_
    obtain rfl := Option.some.inj hG
    refine lv_to (fun st => ?_)
    exact ⟨rfl, As2_5, Cs2_5, (puts_size _ _).trans st.sz, (puts_defers _ _).trans st.df, (sl_puts st 5).trans hs2_5, hp3, f2_Hs2_5⟩
 case af2 =>
  rintro e_ fr2a w2a (⟨rfl, Ae2_0_50, Ce2_0_50, hsz2a, hdf2a, hs2a_5, hp2a, g2_He2_0_50⟩)
  refine lv_fr (X := X0) (N := 28) hsz2a hdf2a <| lv_block_hit <| lv_next <| cc_seq <| cc_region <| wm rfl (v := .slice Ae2_0_50 z2.length Ce2_0_50) hs2a_5 <| wa rfl (v := .slice Ae2_0_50 z2.length Ce2_0_50) rfl <| wl_end <| lv_next <| cc_ret ?_
  obtain rfl := Option.some.inj hG
  refine lv_ret1 rfl rfl ?_
  exact ⟨hp2a.fin, ⟨_, _, rfl, g2_He2_0_50.fin⟩⟩
theorem a79 (K_ : Nat) (p0 : List (List Int)) (p1 : Int) (p2 : Int) (A0_0 : Option Addr) (c0_0 : Nat) (Z : Nat → Prop) (w : World) (hS0_0 : Sl (eSl (eInt .i64)) w Z A0_0 c0_0 p0) (r_ : (List (List Int))) (hG : G_Same K_ p0 p1 p2 = some r_) :
    Ret Try.prog 79 #[.slice A0_0 p0.length c0_0, I p1, I p2] w (fun v w' => Ext w w' ∧ (vSl (eSl (eInt .i64))).R w' (ZZ Z w.heap.size []) v r_) := by
 unfold G_Same at hG
 refine ret_of_cc (N := 32) Try.func79 rfl rfl (by simp) ?_
 intro fr0 ha hdf
 have hp_0 := sl_arg (i := 0) (v := .slice A0_0 p0.length c0_0) ha rfl
 have hp_1 := sl_arg (i := 1) (v := I p1) ha rfl
 have hp_2 := sl_arg (i := 2) (v := I p2) ha rfl
 clear ha
 have hp0 := Hp.refl w
 have hS0_0_0 := hS0_0.mv (mv_start w)
 refine cc_seq <| cc_region <| wa rfl (v := .slice none 0 0) rfl <| wl_end <| lv_next <| cc_seq <| cc_region <| wa rfl (v := .slice none 0 0) rfl <| wl_end <| lv_next <| cc_seq <| cc_seq <| cc_region <| wa rfl (v := I 0) rfl <| wl_end <| lv_next <| cc_block ?_
 have hp1 : Hp w [none] w := hp0.nil
 have hR2 : OwnR (eSl (eInt .i64)) 43 w w (ZZ Z w.heap.size [none]) none 0 [] := OwnR.nil _ _ _ _ _
 replace hG := bind_some hG; obtain ⟨z1, hL1, hG⟩ := hG
 refine cc_join (fun e_ fr_ w_ => (e_ = .exit 0 ∧ ∃ Ae1_0_70 Ce1_0_70, fr_.tmps.size = 32 ∧ fr_.defers = [] ∧ sl fr_ 7 = .slice Ae1_0_70 z1.length Ce1_0_70 ∧ Hp w [ob Ae1_0_70] w_ ∧ OwnR (eSl (eInt .i64)) 43 w w_ (ZZ Z w.heap.size [ob Ae1_0_70]) Ae1_0_70 Ce1_0_70 z1)) ?lp1 ?af1
 case lp1 =>
  clear hG
  refine cc_loop (fun (m_ : Nat) (fr_ : Act) (w_ : World) => ∃ s1_7, ∃ s1_8, ∃ As1_7 Cs1_7, G_Same_L1 p0 p1 p2 m_ s1_7 s1_8 = some z1 ∧ fr_.tmps.size = 32 ∧ fr_.defers = [] ∧ sl fr_ 0 = .slice A0_0 p0.length c0_0 ∧ sl fr_ 1 = I p1 ∧ sl fr_ 2 = I p2 ∧ sl fr_ 7 = .slice As1_7 s1_7.length Cs1_7 ∧ sl fr_ 8 = I s1_8 ∧ Hp w [ob As1_7] w_ ∧ OwnR (eSl (eInt .i64)) 43 w w_ (ZZ Z w.heap.size [ob As1_7]) As1_7 Cs1_7 s1_7 ∧ Sl (eSl (eInt .i64)) w_ (ZZ Z w.heap.size [ob As1_7]) A0_0 c0_0 p0) K_ ?in1 ?rd1
  case in1 =>
   intro st
   have hS0_0_1 : Sl (eSl (eInt .i64)) w (ZZ Z w.heap.size [none]) A0_0 c0_0 p0 := (hS0_0_0.mv mv_nil)
   exact ⟨([] : List (List Int)), (0 : Int), none, 0, hL1, (puts_size _ _).trans st.sz, (puts_defers _ _).trans st.df, (sl_puts st 0).trans hp_0, (sl_puts st 1).trans hp_1, (sl_puts st 2).trans hp_2, (sl_puts st 7).trans rfl, (sl_puts st 8).trans rfl, hp1, hR2, hS0_0_1⟩
  case rd1 =>
   rintro (_ | m_) fr1 w1r ⟨s1_7, s1_8, As1_7, Cs1_7, hL1, hsz1, hdf1, hs1_0, hs1_1, hs1_2, hs1_7, hs1_8, hp2, f1_Hs1_7, f1_hS0_0⟩
   ·exact absurd (show none = some _ from hL1) (by simp)
   rw [G_Same_L1.eq_2] at hL1
   have hG := hL1; clear hL1
   refine round_cc (N := 32) hsz1 hdf1 <| cc_seq <| cc_seq <| cc_region <| wm rfl (v := I s1_8) hs1_8 <| wm rfl (v := .slice A0_0 p0.length c0_0) hs1_0 <| wd rfl (fun st => x_len Try.underlying38 (ee st rfl)) <| wd rfl (fun st => x_lss (ee st rfl) (ee st rfl)) <| wl_end <| lv_next ?_
   rcases bool_cases (decide (s1_8 < (p0.length : Int))) with hc3 | hc3
   ·replace hG := cond_t hG hc3
    refine cc_cond_t rfl hc3 <| cc_skip <| lv_next <| cc_seq <| cc_block <| cc_seq <| cc_region <| wm rfl (v := .slice A0_0 p0.length c0_0) hs1_0 <| wm rfl (v := I s1_8) hs1_8 ?_
    replace hG := idx_bind hG; obtain ⟨i4, x4, hi4, hx4, hl4, hG⟩ := hG
    obtain ⟨b4, o4, _, hA4, ⟨A4_e, c4_e, rfl, hS4_e⟩, hz4⟩ := Sl.elem1 f1_hS0_0 rfl hx4
    refine wd rfl (fun st => x_indexAddr1 (k := i4) Try.underlying38 sz_43 (ee st rfl) hA4 (ee st rfl) hi4 hl4) <| wd rfl (fun st => x_load_z0 (v := .slice A4_e x4.length c4_e) one_43 (ee st rfl) hz4 rfl) <| wm rfl (v := I p1) hs1_1 ?_
    replace hG := idx_bind hG; obtain ⟨i5, x5, hi5, hx5, hl5, hG⟩ := hG
    obtain ⟨b5, o5, _, hA5, rfl, hz5⟩ := Sl.elem1 hS4_e rfl hx5
    refine wd rfl (fun st => x_indexAddr1 (k := i5) Try.underlying43 sz_3 (ee st rfl) hA5 (ee st rfl) hi5 hl5) <| wd rfl (fun st => x_load_z0 (v := I x5) one_3 (ee st rfl) hz5 rfl) <| wm rfl (v := I p2) hs1_2 <| wd rfl (fun st => x_eql (ee st rfl) (ee st rfl)) <| wl_end <| lv_next ?_
    rcases bool_cases (x5 == p2) with hc6 | hc6
    ·replace hG := cond_t hG hc6
     refine cc_cond_t rfl hc6 <| cc_region <| wm rfl (v := .slice As1_7 s1_7.length Cs1_7) hs1_7 <| wm rfl (v := .slice A0_0 p0.length c0_0) hs1_0 <| wm rfl (v := I s1_8) hs1_8 ?_
     replace hG := idx_bind hG; obtain ⟨i7, x7, hi7, hx7, hl7, hG⟩ := hG
     obtain ⟨b7, o7, _, hA7, ⟨A7_e, c7_e, rfl, hS7_e⟩, hz7⟩ := Sl.elem1 f1_hS0_0 rfl hx7
     refine wd rfl (fun st => x_indexAddr1 (k := i7) Try.underlying38 sz_43 (ee st rfl) hA7 (ee st rfl) hi7 hl7) <| wd rfl (fun st => x_load_z0 (v := .slice A7_e x7.length c7_e) one_43 (ee st rfl) hz7 rfl) <| we rfl (fun st => x_buildSlice (e := 43) (vs := #[(0, .slice A7_e x7.length c7_e)]) (cs := #[.slice A7_e x7.length c7_e]) (pm1 (ee st rfl)) (by kernel_rfl)) ?_
     rintro _ w8 ⟨b8, rfl, nb8⟩
     have hp3 : Hp w [some b8, ob As1_7] w8 := hp2.new nb8.gr (Nat.le_of_eq nb8.b_eq.symm) (Nat.lt_of_lt_of_eq (Nat.lt_succ_self _) nb8.sz.symm)
     have Hs1_7_3 : OwnR (eSl (eInt .i64)) 43 w w8 (ZZ Z w.heap.size [some b8, ob As1_7]) As1_7 Cs1_7 s1_7 := (f1_Hs1_7.ext nb8.gr (mv_new nb8.gr (Nat.le_of_eq nb8.b_eq.symm)))
     replace hG := ifo_bind hG; obtain ⟨hf9, hG⟩ := hG
     have hS7_e_3 : Sl (eInt .i64) w8 (ZZ Z w.heap.size [some b8, ob As1_7]) A7_e c7_e x7 := (hS7_e.mv (mv_new nb8.gr (Nat.le_of_eq nb8.b_eq.symm)))
     refine we rfl (fun st => x_appR (ys := [x7]) Try.underlying38 info_43 rfl rfl (by decide) (ee st rfl) rfl (ee st rfl) Hs1_7_3 (news_bk (css := [[.slice A7_e x7.length c7_e]]) nb8.bk ⟨⟨_, _, rfl, hS7_e_3⟩, trivial⟩ rfl) (by have := hf9; simp only [maxLen]; omega) (by have := hf9; omega) hp3.bl.size (by simp)) ?_
     rintro _ w10 ⟨A10, c10, rfl, hg10, hy10, hO10⟩
     have hp4 : Hp w [some b8, ob A10] w10 := hp3.row hg10 1 rfl (hp3.ge 1 rfl) hy10
     have hR10 : OwnR (eSl (eInt .i64)) 43 w w10 (ZZ Z w.heap.size [some b8, ob A10]) A10 c10 (s1_7 ++ [x7]) := ownR_of hO10 (hp3.mvr hg10 1 rfl (fun k hk => (hy10 k hk).1))
     refine wa rfl (v := .slice A10 ((s1_7 ++ [x7]).length) c10) rfl <| wl_end <| lv_block <| lv_next <| cc_region <| wm rfl (v := I s1_8) hs1_8 ?_
     replace hG := i64_bind hG; obtain ⟨hf11, hG⟩ := hG
     refine wd rfl (fun st => x_add (ee st rfl) (ee st rfl) hf11) <| wa rfl (v := I (s1_8 + 1)) rfl <| wl_end ?_
     have hp5 : Hp w [ob A10] w10 := hp4.erase 0
     have hR10_5 : OwnR (eSl (eInt .i64)) 43 w w10 (ZZ Z w.heap.size [ob A10]) A10 c10 (s1_7 ++ [x7]) := (hR10.up (mv_erase 0))
     have hS0_0_5 : Sl (eSl (eInt .i64)) w10 (ZZ Z w.heap.size [ob A10]) A0_0 c0_0 p0 := (((f1_hS0_0.mv (mv_new nb8.gr (Nat.le_of_eq nb8.b_eq.symm))).mv (hp3.mvr hg10 1 rfl (fun k hk => (hy10 k hk).1))).mv (mv_erase 0))
     refine lv_round m_ (Nat.lt_succ_self _) (fun st => ?_)
     exact ⟨(s1_7 ++ [x7]), (s1_8 + 1), A10, c10, hG, (puts_size _ _).trans st.sz, (puts_defers _ _).trans st.df, (sl_puts st 0).trans hs1_0, (sl_puts st 1).trans hs1_1, (sl_puts st 2).trans hs1_2, (sl_puts st 7).trans rfl, (sl_puts st 8).trans rfl, hp5, hR10_5, hS0_0_5⟩
    ·replace hG := cond_f hG hc6
     refine cc_cond_f rfl hc6 <| cc_skip <| lv_block <| lv_next <| cc_region <| wm rfl (v := I s1_8) hs1_8 ?_
     replace hG := i64_bind hG; obtain ⟨hf12, hG⟩ := hG
     refine wd rfl (fun st => x_add (ee st rfl) (ee st rfl) hf12) <| wa rfl (v := I (s1_8 + 1)) rfl <| wl_end ?_
     refine lv_round m_ (Nat.lt_succ_self _) (fun st => ?_)
     exact ⟨s1_7, (s1_8 + 1), As1_7, Cs1_7, hG, (puts_size _ _).trans st.sz, (puts_defers _ _).trans st.df, (sl_puts st 0).trans hs1_0, (sl_puts st 1).trans hs1_1, (sl_puts st 2).trans hs1_2, (sl_puts st 7).trans hs1_7, (sl_puts st 8).trans rfl, hp2, f1_Hs1_7, f1_hS0_0⟩
   ·replace hG := cond_f hG hc3
    refine cc_cond_f rfl hc3 <| cc_exit <| lv_then_exit <| lv_then_exit ?_
    obtain rfl := Option.some.inj hG
    refine lv_to (fun st => ?_)
    exact ⟨rfl, As1_7, Cs1_7, (puts_size _ _).trans st.sz, (puts_defers _ _).trans st.df, (sl_puts st 7).trans hs1_7, hp2, f1_Hs1_7⟩
 case af1 =>
  rintro e_ fr1a w1a (⟨rfl, Ae1_0_70, Ce1_0_70, hsz1a, hdf1a, hs1a_7, hp1a, g1_He1_0_70⟩)
  refine lv_fr (X := X0) (N := 32) hsz1a hdf1a <| lv_block_hit <| lv_next <| cc_seq <| cc_region <| wm rfl (v := .slice Ae1_0_70 z1.length Ce1_0_70) hs1a_7 <| wa rfl (v := .slice Ae1_0_70 z1.length Ce1_0_70) rfl <| wl_end <| lv_next <| cc_ret ?_
  obtain rfl := Option.some.inj hG
  refine lv_ret1 rfl rfl ?_
  exact ⟨hp1a.fin, ⟨_, _, rfl, g1_He1_0_70.fin⟩⟩
theorem a26 (K_ : Nat) (p0 : List (List Int)) (p1 : Int) (A0_0 : Option Addr) (c0_0 : Nat) (Z : Nat → Prop) (w : World) (hS0_0 : Sl (eSl (eInt .i64)) w Z A0_0 c0_0 p0) (r_ : (Int × Int)) (hG : G_Done K_ p0 p1 = some r_) :
    Ret Try.prog 26 #[.slice A0_0 p0.length c0_0, I p1] w (fun v w' => Ext w w' ∧ (vAgg eR).R w' (ZZ Z w.heap.size []) v r_) := by
 unfold G_Done at hG
 refine ret_of_cc (N := 29) Try.func26 rfl rfl (by simp) ?_
 intro fr0 ha hdf
 have hp_0 := sl_arg (i := 0) (v := .slice A0_0 p0.length c0_0) ha rfl
 have hp_1 := sl_arg (i := 1) (v := I p1) ha rfl
 clear ha
 have hp0 := Hp.refl w
 have hS0_0_0 := hS0_0.mv (mv_start w)
 refine cc_seq <| cc_region <| we rfl (fun st => x_alloc (cs := #[I 0, I 0]) zero_23 rfl) ?_
 rintro _ w1 ⟨b1, rfl, nb1⟩
 have hp1 : Hp w [some b1] w1 := hp0.new nb1.gr (Nat.le_of_eq nb1.b_eq.symm) (Nat.lt_of_lt_of_eq (Nat.lt_succ_self _) nb1.sz.symm)
 refine wl_end <| lv_next <| cc_seq <| cc_region ?_
 replace hG := bind_some hG; obtain ⟨r2, hr2, hG⟩ := hG
 refine we rfl (fun st => x_call0 own_70 (ee st rfl) am0 (a70 K_ ZA _ r2 hr2)) ?_
 rintro _ w3 ⟨hx2, ⟨_, rfl, rfl⟩⟩
 have hp2 : Hp w [some b1] w3 := hp1.ext hx2
 refine we rfl (fun st => x_alloc (cs := #[I 0, I 0]) zero_23 rfl) ?_
 rintro _ w4 ⟨b4, rfl, nb4⟩
 have hp3 : Hp w [some b4, some b1] w4 := hp2.new nb4.gr (Nat.le_of_eq nb4.b_eq.symm) (Nat.lt_of_lt_of_eq (Nat.lt_succ_self _) nb4.sz.symm)
 refine wl_ex0 rfl rfl (fun st => x_store (n := 2) (l := [I r2.1, I r2.2]) (cs' := #[I r2.1, I r2.2]) (ee st rfl) (ee st rfl) sz_23 nb4.bk rfl rfl (show 0 + 2 ≤ 2 by decide) (one_cells rfl) rfl) ?_
 rintro _ w5 sb5
 have hp4 : Hp w [some b4, some b1] w5 := hp3.gr sb5.gr (hp3.ge 0 rfl)
 refine wl_end <| lv_next <| cc_seq <| cc_seq <| cc_region <| wa rfl (v := I 0) rfl <| wl_end <| lv_next <| cc_block ?_
 replace hG := bind_some hG; obtain ⟨z6, hL6, hG⟩ := hG
 refine cc_join (fun e_ fr_ w_ => (e_ = .exit 0 ∧ fr_.tmps.size = 29 ∧ fr_.defers = [] ∧ sl fr_ 4 = pt b1 0 ∧ sl fr_ 5 = pt b4 0 ∧ Hp w [some b4, some b1] w_ ∧ Bk w_ b1 23 #[I 0, I 0] ∧ Bk w_ b4 23 #[I z6.1, I z6.2])) ?lp6 ?af6
 case lp6 =>
  clear hG
  refine cc_loop (fun (m_ : Nat) (fr_ : Act) (w_ : World) => ∃ s6_6, ∃ s6_b40, ∃ s6_b41, G_Done_L6 K_ p0 p1 m_ s6_6 s6_b40 s6_b41 = some z6 ∧ fr_.tmps.size = 29 ∧ fr_.defers = [] ∧ sl fr_ 0 = .slice A0_0 p0.length c0_0 ∧ sl fr_ 1 = I p1 ∧ sl fr_ 4 = pt b1 0 ∧ sl fr_ 5 = pt b4 0 ∧ sl fr_ 6 = I s6_6 ∧ Hp w [some b4, some b1] w_ ∧ Bk w_ b1 23 #[I 0, I 0] ∧ Bk w_ b4 23 #[I s6_b40, I s6_b41] ∧ Sl (eSl (eInt .i64)) w_ (ZZ Z w.heap.size [some b4, some b1]) A0_0 c0_0 p0) K_ ?in6 ?rd6
  case in6 =>
   intro st
   have bk1_4 : Bk w5 b1 23 #[I 0, I 0] := (((nb1.bk.ext hx2).ext nb4.gr).gr sb5.gr (hp3.ne 1 0 rfl rfl rfl))
   have hS0_0_4 : Sl (eSl (eInt .i64)) w5 (ZZ Z w.heap.size [some b4, some b1]) A0_0 c0_0 p0 := ((((hS0_0_0.mv (mv_new nb1.gr (Nat.le_of_eq nb1.b_eq.symm))).mv (mv_ext hx2)).mv (mv_new nb4.gr (Nat.le_of_eq nb4.b_eq.symm))).mv (hp3.mv0 sb5.gr 0 rfl))
   exact ⟨(0 : Int), r2.1, r2.2, hL6, (puts_size _ _).trans st.sz, (puts_defers _ _).trans st.df, (sl_puts st 0).trans hp_0, (sl_puts st 1).trans hp_1, (sl_puts st 4).trans rfl, (sl_puts st 5).trans rfl, (sl_puts st 6).trans rfl, hp4, bk1_4, sb5.bk, hS0_0_4⟩
  case rd6 =>
   rintro (_ | m_) fr6 w6r ⟨s6_6, s6_b40, s6_b41, hL6, hsz6, hdf6, hs6_0, hs6_1, hs6_4, hs6_5, hs6_6, hp5, f6_bk1, f6_bk4, f6_hS0_0⟩
   ·exact absurd (show none = some _ from hL6) (by simp)
   rw [G_Done_L6.eq_2] at hL6
   have hG := hL6; clear hL6
   refine round_cc (N := 29) hsz6 hdf6 <| cc_seq <| cc_seq <| cc_region <| wm rfl (v := I s6_6) hs6_6 <| wm rfl (v := .slice A0_0 p0.length c0_0) hs6_0 <| wd rfl (fun st => x_len Try.underlying38 (ee st rfl)) <| wd rfl (fun st => x_lss (ee st rfl) (ee st rfl)) <| wl_end <| lv_next ?_
   rcases bool_cases (decide (s6_6 < (p0.length : Int))) with hc7 | hc7
   ·replace hG := cond_t hG hc7
    refine cc_cond_t rfl hc7 <| cc_skip <| lv_next <| cc_seq <| cc_block ?_
    replace hG := idx_bind hG; obtain ⟨i9, x9, hi9, hx9, hl9, hG⟩ := hG
    obtain ⟨b9, o9, _, hA9, ⟨A9_e, c9_e, rfl, hS9_e⟩, hz9⟩ := Sl.elem1 f6_hS0_0 rfl hx9
    replace hG := idx_bind hG; obtain ⟨i10, x10, hi10, hx10, hl10, hG⟩ := hG
    obtain ⟨b10, o10, _, hA10, ⟨A10_e, c10_e, rfl, hS10_e⟩, hz10⟩ := Sl.elem1 f6_hS0_0 rfl hx10
    replace hG := i64_bind hG; obtain ⟨hf11, hG⟩ := hG
    replace hG := bind_some hG; obtain ⟨r12, hr12, hG⟩ := hG
    replace hG := bind_some hG; obtain ⟨r13, hr13, hG⟩ := hG
    refine cc_anyM0 14 [Kc (.agg #[I s6_b40, I s6_b41]), Kc (.slice A0_0 p0.length c0_0), Kc (I s6_6), Kc (pt b9 (o9 + i9)), Kc (.slice A9_e x9.length c9_e), Kc (I p1), Kc (.slice A0_0 p0.length c0_0), Kc (I s6_6), Kc (pt b10 (o10 + i10)), Kc (.slice A10_e x10.length c10_e), Kc (I (x10.length : Int)), Kc (I ((x10.length : Int) - 1)), Kc (I r12), Kc (.agg #[I r13.1, I r13.2])] mixedA3 rfl rfl
        (obsN_cons (od rfl (fun _ => rfl) (fun K => x_loadn (l := [I s6_b40, I s6_b41]) agg_23 (es (t := 5) (v := pt b4 0) ((K.out 5 rfl).trans hs6_5)) (f6_bk4.ext K.phT) rfl rfl))
        (obsN_cons (od rfl (fun _ => rfl) (fun K => x_move (v := .slice A0_0 p0.length c0_0) (es (t := 0) (v := .slice A0_0 p0.length c0_0) ((K.out 0 rfl).trans hs6_0))))
        (obsN_cons (od rfl (fun _ => rfl) (fun K => x_move (v := I s6_6) (es (t := 6) (v := I s6_6) ((K.out 6 rfl).trans hs6_6))))
        (obsN_cons (od rfl (fun _ => rfl) (fun K => x_indexAddr1 (k := i9) Try.underlying38 sz_43 (es (t := 15) (v := .slice A0_0 p0.length c0_0) (K.dep 1 15 rfl rfl)) hA9 (es (t := 16) (v := I s6_6) (K.dep 2 16 rfl rfl)) hi9 hl9))
        (obsN_cons (od rfl (fun _ => rfl) (fun K => x_load_z0 (v := .slice A9_e x9.length c9_e) one_43 (es (t := 17) (v := pt b9 (o9 + i9)) (K.dep 3 17 rfl rfl)) (hz9.mv (mv_ext K.phT)) rfl))
        (obsN_cons (od rfl (fun _ => rfl) (fun K => x_move (v := I p1) (es (t := 1) (v := I p1) ((K.out 1 rfl).trans hs6_1))))
        (obsN_cons (od rfl (fun _ => rfl) (fun K => x_move (v := .slice A0_0 p0.length c0_0) (es (t := 0) (v := .slice A0_0 p0.length c0_0) ((K.out 0 rfl).trans hs6_0))))
        (obsN_cons (od rfl (fun _ => rfl) (fun K => x_move (v := I s6_6) (es (t := 6) (v := I s6_6) ((K.out 6 rfl).trans hs6_6))))
        (obsN_cons (od rfl (fun _ => rfl) (fun K => x_indexAddr1 (k := i10) Try.underlying38 sz_43 (es (t := 20) (v := .slice A0_0 p0.length c0_0) (K.dep 6 20 rfl rfl)) hA10 (es (t := 21) (v := I s6_6) (K.dep 7 21 rfl rfl)) hi10 hl10))
        (obsN_cons (od rfl (fun _ => rfl) (fun K => x_load_z0 (v := .slice A10_e x10.length c10_e) one_43 (es (t := 22) (v := pt b10 (o10 + i10)) (K.dep 8 22 rfl rfl)) (hz10.mv (mv_ext K.phT)) rfl))
        (obsN_cons (od rfl (fun _ => rfl) (fun K => x_len Try.underlying43 (es (t := 23) (v := .slice A10_e x10.length c10_e) (K.dep 9 23 rfl rfl))))
        (obsN_cons (od rfl (fun _ => rfl) (fun K => x_sub (es (t := 24) (v := I (x10.length : Int)) (K.dep 10 24 rfl rfl)) (ec (v := I 1)) hf11))
        (obsN_cons (ob_ext rfl rfl (fun a' w' ph K => (x_call0 own_41 rfl (am4 (es (t := 18) (v := .slice A9_e x9.length c9_e) (K.dep 4 18 rfl rfl)) (es (t := 19) (v := I p1) (K.dep 5 19 rfl rfl)) (ec (v := I 0)) (es (t := 25) (v := I ((x10.length : Int) - 1)) (K.dep 11 25 rfl rfl))) (a41 K_ x9 p1 0 ((x10.length : Int) - 1) A9_e c9_e ZA _ (hS9_e.mv (mv_ext K.phT)).all r12 hr12)).mono (fun _ _ h => ⟨h.2, h.1⟩)))
        (obsN_cons (ob_ext rfl rfl (fun a' w' ph K => (x_call0 own_71 rfl (am2 (es (t := 14) (v := .agg #[I s6_b40, I s6_b41]) (K.dep 0 14 rfl rfl)) (es (t := 26) (v := I r12) (K.dep 12 26 rfl rfl))) (a71 K_ (⟨s6_b40, s6_b41⟩ : (Int × Int)) r12 ZA _ r13 hr13)).mono (fun _ _ h => ⟨(by obtain ⟨_, rfl, rfl⟩ := h.2; rfl), h.1⟩)))
        (obsN_nil _))))))))))))))) ?_
    intro w8
    rintro _ rfl _ rfl _ rfl _ rfl _ rfl _ rfl _ rfl _ rfl _ rfl _ rfl _ rfl _ rfl _ rfl _ rfl hx8
    have hp6 : Hp w [some b4, some b1] w8 := hp5.ext hx8
    have bk4_6 : Bk w8 b4 23 #[I s6_b40, I s6_b41] := (f6_bk4.ext hx8)
    refine wl_ex0 rfl rfl (fun st => x_store (n := 2) (l := [I r13.1, I r13.2]) (cs' := #[I r13.1, I r13.2]) (ee st hs6_5) (ee st rfl) sz_23 bk4_6 rfl rfl (show 0 + 2 ≤ 2 by decide) (one_cells rfl) rfl) ?_
    rintro _ w14 sb14
    have hp7 : Hp w [some b4, some b1] w14 := hp6.gr sb14.gr (hp6.ge 0 rfl)
    refine wl_end <| lv_block <| lv_next <| cc_region <| wm rfl (v := I s6_6) hs6_6 ?_
    replace hG := i64_bind hG; obtain ⟨hf15, hG⟩ := hG
    refine wd rfl (fun st => x_add (ee st rfl) (ee st rfl) hf15) <| wa rfl (v := I (s6_6 + 1)) rfl <| wl_end ?_
    have bk1_7 : Bk w14 b1 23 #[I 0, I 0] := ((f6_bk1.ext hx8).gr sb14.gr (hp6.ne 1 0 rfl rfl rfl))
    have hS0_0_7 : Sl (eSl (eInt .i64)) w14 (ZZ Z w.heap.size [some b4, some b1]) A0_0 c0_0 p0 := ((f6_hS0_0.mv (mv_ext hx8)).mv (hp6.mv0 sb14.gr 0 rfl))
    refine lv_round m_ (Nat.lt_succ_self _) (fun st => ?_)
    exact ⟨(s6_6 + 1), r13.1, r13.2, hG, (puts_size _ _).trans st.sz, (puts_defers _ _).trans st.df, (sl_puts st 0).trans hs6_0, (sl_puts st 1).trans hs6_1, (sl_puts st 4).trans hs6_4, (sl_puts st 5).trans hs6_5, (sl_puts st 6).trans rfl, hp7, bk1_7, sb14.bk, hS0_0_7⟩
   ·replace hG := cond_f hG hc7
    refine cc_cond_f rfl hc7 <| cc_exit <| lv_then_exit <| lv_then_exit ?_
    obtain rfl := Option.some.inj hG
    refine lv_to (fun st => ?_)
    exact ⟨rfl, (puts_size _ _).trans st.sz, (puts_defers _ _).trans st.df, (sl_puts st 4).trans hs6_4, (sl_puts st 5).trans hs6_5, hp5, f6_bk1, f6_bk4⟩
 case af6 =>
  rintro e_ fr6a w6a (⟨rfl, hsz6a, hdf6a, hs6a_4, hs6a_5, hp6a, g6_bk1, g6_bk4⟩)
  refine lv_fr (X := X0) (N := 29) hsz6a hdf6a <| lv_block_hit <| lv_next <| cc_seq <| cc_region <| wd rfl (fun st => x_loadn (l := [I z6.1, I z6.2]) agg_23 (ee st hs6a_5) g6_bk4 rfl rfl) <| wl_ex0 rfl rfl (fun st => x_store (n := 2) (l := [I z6.1, I z6.2]) (cs' := #[I z6.1, I z6.2]) (ee st hs6a_4) (ee st rfl) sz_23 g6_bk1 rfl rfl (show 0 + 2 ≤ 2 by decide) (one_cells rfl) rfl) ?_
  rintro _ w16 sb16
  have hp9 : Hp w [some b4, some b1] w16 := hp6a.gr sb16.gr (hp6a.ge 1 rfl)
  refine wl_end <| lv_next <| cc_ret ?_
  obtain rfl := Option.some.inj hG
  refine lv_retc (v := .agg #[I z6.1, I z6.2]) rfl hs6a_4 (run_loadn_bk agg_23 sb16.bk rfl rfl) ?_
  exact ⟨hp9.fin, ⟨_, rfl, rfl⟩⟩
theorem a31 (K_ : Nat) (p0 : Fld) (p1 : List (List Int)) (p2 : Int) (A0_0 : Option Addr) (c0_0 : Nat) (A1_0 : Option Addr) (c1_0 : Nat) (Z : Nat → Prop) (w : World) (hS0_0 : Sl eTly w Z A0_0 c0_0 p0.ts) (hS1_0 : Sl (eSl (eInt .i64)) w Z A1_0 c1_0 p1) (r_ : (List Int)) (hG : G_Who K_ p0 p1 p2 = some r_) :
    Ret Try.prog 31 #[.agg #[I p0.rows, I p0.wd, I p0.lo, I p0.hi, .slice A0_0 p0.ts.length c0_0], .slice A1_0 p1.length c1_0, I p2] w (fun v w' => Ext w w' ∧ (vSl (eInt .i64)).R w' (ZZ Z w.heap.size []) v r_) := by
 unfold G_Who at hG
 refine ret_of_cc (N := 41) Try.func31 rfl rfl (by simp) ?_
 intro fr0 ha hdf
 have hp_0 := sl_arg (i := 0) (v := .agg #[I p0.rows, I p0.wd, I p0.lo, I p0.hi, .slice A0_0 p0.ts.length c0_0]) ha rfl
 have hp_1 := sl_arg (i := 1) (v := .slice A1_0 p1.length c1_0) ha rfl
 have hp_2 := sl_arg (i := 2) (v := I p2) ha rfl
 clear ha
 have hp0 := Hp.refl w
 have hS0_0_0 := hS0_0.mv (mv_start w)
 have hS1_0_0 := hS1_0.mv (mv_start w)
 refine cc_seq <| cc_region <| we rfl (fun st => x_box (v := .agg #[I p0.rows, I p0.wd, I p0.lo, I p0.hi, .slice A0_0 p0.ts.length c0_0]) (cs := #[I p0.rows, I p0.wd, I p0.lo, I p0.hi, .slice A0_0 p0.ts.length c0_0]) (ee st hp_0) rfl) ?_
 rintro _ w1 ⟨b1, rfl, nb1⟩
 have hp1 : Hp w [some b1] w1 := hp0.new nb1.gr (Nat.le_of_eq nb1.b_eq.symm) (Nat.lt_of_lt_of_eq (Nat.lt_succ_self _) nb1.sz.symm)
 refine wa rfl (v := .slice none 0 0) rfl <| wl_end <| lv_next <| cc_seq <| cc_region <| wa rfl (v := .slice none 0 0) rfl <| wl_end <| lv_next <| cc_seq <| cc_seq <| cc_region <| wa rfl (v := I (-1)) rfl <| wl_end <| lv_next <| cc_block ?_
 have hp2 : Hp w [none, some b1] w1 := hp1.nil
 have hR3 : OwnR (eInt .i64) 3 w w1 (ZZ Z w.heap.size [none, some b1]) none 0 [] := OwnR.nil _ _ _ _ _
 replace hG := bind_some hG; obtain ⟨z2, hL2, hG⟩ := hG
 refine cc_join (fun e_ fr_ w_ => (e_ = .exit 0 ∧ ∃ Ae2_0_70 Ce2_0_70, fr_.tmps.size = 41 ∧ fr_.defers = [] ∧ sl fr_ 7 = .slice Ae2_0_70 z2.length Ce2_0_70 ∧ Hp w [ob Ae2_0_70, some b1] w_ ∧ OwnR (eInt .i64) 3 w w_ (ZZ Z w.heap.size [ob Ae2_0_70, some b1]) Ae2_0_70 Ce2_0_70 z2)) ?lp2 ?af2
 case lp2 =>
  clear hG
  refine cc_loop (fun (m_ : Nat) (fr_ : Act) (w_ : World) => ∃ s2_7, ∃ s2_8, ∃ As2_7 Cs2_7, G_Who_L2 K_ p0 p1 p2 m_ s2_7 s2_8 = some z2 ∧ fr_.tmps.size = 41 ∧ fr_.defers = [] ∧ sl fr_ 1 = .slice A1_0 p1.length c1_0 ∧ sl fr_ 2 = I p2 ∧ sl fr_ 3 = pt b1 0 ∧ sl fr_ 7 = .slice As2_7 s2_7.length Cs2_7 ∧ sl fr_ 8 = I s2_8 ∧ Hp w [ob As2_7, some b1] w_ ∧ OwnR (eInt .i64) 3 w w_ (ZZ Z w.heap.size [ob As2_7, some b1]) As2_7 Cs2_7 s2_7 ∧ Bk w_ b1 26 #[I p0.rows, I p0.wd, I p0.lo, I p0.hi, .slice A0_0 p0.ts.length c0_0] ∧ Sl eTly w_ (ZZ Z w.heap.size [ob As2_7, some b1]) A0_0 c0_0 p0.ts ∧ Sl (eSl (eInt .i64)) w_ (ZZ Z w.heap.size [ob As2_7, some b1]) A1_0 c1_0 p1) K_ ?in2 ?rd2
  case in2 =>
   intro st
   have bk1_2 : Bk w1 b1 26 #[I p0.rows, I p0.wd, I p0.lo, I p0.hi, .slice A0_0 p0.ts.length c0_0] := nb1.bk
   have hS0_0_2 : Sl eTly w1 (ZZ Z w.heap.size [none, some b1]) A0_0 c0_0 p0.ts := ((hS0_0_0.mv (mv_new nb1.gr (Nat.le_of_eq nb1.b_eq.symm))).mv mv_nil)
   have hS1_0_2 : Sl (eSl (eInt .i64)) w1 (ZZ Z w.heap.size [none, some b1]) A1_0 c1_0 p1 := ((hS1_0_0.mv (mv_new nb1.gr (Nat.le_of_eq nb1.b_eq.symm))).mv mv_nil)
   exact ⟨([] : List Int), (-1), none, 0, hL2, (puts_size _ _).trans st.sz, (puts_defers _ _).trans st.df, (sl_puts st 1).trans hp_1, (sl_puts st 2).trans hp_2, (sl_puts st 3).trans rfl, (sl_puts st 7).trans rfl, (sl_puts st 8).trans rfl, hp2, hR3, bk1_2, hS0_0_2, hS1_0_2⟩
  case rd2 =>
   rintro (_ | m_) fr2 w2r ⟨s2_7, s2_8, As2_7, Cs2_7, hL2, hsz2, hdf2, hs2_1, hs2_2, hs2_3, hs2_7, hs2_8, hp3, f2_Hs2_7, f2_bk1, f2_hS0_0, f2_hS1_0⟩
   ·exact absurd (show none = some _ from hL2) (by simp)
   rw [G_Who_L2.eq_2] at hL2
   have hG := hL2; clear hL2
   refine round_cc (N := 41) hsz2 hdf2 <| cc_seq <| cc_seq <| cc_region <| wm rfl (v := I s2_8) hs2_8 <| wd rfl (fun st => x_fieldAddr (ee st hs2_3) (fz_26_1 _ _)) <| wd rfl (fun st => x_load1 (v := I p0.wd) one_3 (ee st rfl) f2_bk1 rfl) <| wd rfl (fun st => x_lss (ee st rfl) (ee st rfl)) <| wl_end <| lv_next ?_
   rcases bool_cases (decide (s2_8 < p0.wd)) with hc4 | hc4
   ·replace hG := cond_t hG hc4
    refine cc_cond_t rfl hc4 <| cc_skip <| lv_next <| cc_seq <| cc_block <| cc_seq <| cc_region <| wa rfl (v := .bool false) rfl <| wl_end <| lv_next <| cc_seq <| cc_seq <| cc_region <| wa rfl (v := I 0) rfl <| wl_end <| lv_next <| cc_block ?_
    replace hG := bind_some hG; obtain ⟨z5, hL5, hG⟩ := hG
    refine cc_join (fun e_ fr_ w_ => (e_ = .exit 2 ∧ fr_.tmps.size = 41 ∧ fr_.defers = [] ∧ sl fr_ 1 = .slice A1_0 p1.length c1_0 ∧ sl fr_ 2 = I p2 ∧ sl fr_ 3 = pt b1 0 ∧ sl fr_ 7 = .slice As2_7 s2_7.length Cs2_7 ∧ sl fr_ 8 = I s2_8 ∧ sl fr_ 9 = .bool z5 ∧ w2r = w_)) ?lp5 ?af5
    case lp5 =>
     clear hG
     refine cc_loop (fun (m_ : Nat) (fr_ : Act) (w_ : World) => ∃ s5_9, ∃ s5_10, G_Who_L5 p1 p2 s2_8 m_ s5_9 s5_10 = some z5 ∧ fr_.tmps.size = 41 ∧ fr_.defers = [] ∧ sl fr_ 1 = .slice A1_0 p1.length c1_0 ∧ sl fr_ 2 = I p2 ∧ sl fr_ 3 = pt b1 0 ∧ sl fr_ 7 = .slice As2_7 s2_7.length Cs2_7 ∧ sl fr_ 8 = I s2_8 ∧ sl fr_ 9 = .bool s5_9 ∧ sl fr_ 10 = I s5_10 ∧ w2r = w_) K_ ?in5 ?rd5
     case in5 =>
      intro st
      exact ⟨false, (0 : Int), hL5, (puts_size _ _).trans st.sz, (puts_defers _ _).trans st.df, (sl_puts st 1).trans hs2_1, (sl_puts st 2).trans hs2_2, (sl_puts st 3).trans hs2_3, (sl_puts st 7).trans hs2_7, (sl_puts st 8).trans hs2_8, (sl_puts st 9).trans rfl, (sl_puts st 10).trans rfl, rfl⟩
     case rd5 =>
      rintro (_ | m_) fr5 _ ⟨s5_9, s5_10, hL5, hsz5, hdf5, hs5_1, hs5_2, hs5_3, hs5_7, hs5_8, hs5_9, hs5_10, rfl⟩
      ·exact absurd (show none = some _ from hL5) (by simp)
      rw [G_Who_L5.eq_2] at hL5
      have hG := hL5; clear hL5
      refine round_cc (N := 41) hsz5 hdf5 <| cc_seq <| cc_seq <| cc_region <| wm rfl (v := I s5_10) hs5_10 <| wm rfl (v := .slice A1_0 p1.length c1_0) hs5_1 <| wd rfl (fun st => x_len Try.underlying38 (ee st rfl)) <| wd rfl (fun st => x_lss (ee st rfl) (ee st rfl)) <| wl_end <| lv_next ?_
      rcases bool_cases (decide (s5_10 < (p1.length : Int))) with hc6 | hc6
      ·replace hG := cond_t hG hc6
       refine cc_cond_t rfl hc6 <| cc_skip <| lv_next <| cc_seq <| cc_block <| cc_region <| wm rfl (v := .bool s5_9) hs5_9 <| wm rfl (v := .bool s5_9) rfl ?_
       rcases bool_cases (s5_9) with hc7 | hc7
       ·replace hG := cond_t hG hc7
        refine wl_skip (c := true) rfl rfl (guard_eq rfl hc7) (by decide) rfl (by decide) <| wl_skip (c := true) rfl rfl (guard_eq rfl hc7) (by decide) rfl (by decide) <| wl_skip (c := true) rfl rfl (guard_eq rfl hc7) (by decide) rfl (by decide) <| wl_skip (c := true) rfl rfl (guard_eq rfl hc7) (by decide) rfl (by decide) <| wl_skip (c := true) rfl rfl (guard_eq rfl hc7) (by decide) rfl (by decide) <| wl_skip (c := true) rfl rfl (guard_eq rfl hc7) (by decide) rfl (by decide) <| wl_skip (c := true) rfl rfl (guard_eq rfl hc7) (by decide) rfl (by decide) <| wl_skip (c := true) rfl rfl (guard_eq rfl hc7) (by decide) rfl (by decide) <| wl_skip (c := true) rfl rfl (guard_eq rfl hc7) (by decide) rfl (by decide) <| wd rfl (fun st => x_pick_t (v := .bool true) (ee st rfl) hc7 (ee st rfl)) <| wa rfl (v := .bool true) rfl <| wl_end <| lv_block <| lv_next <| cc_region <| wm rfl (v := I s5_10) hs5_10 ?_
        replace hG := i64_bind hG; obtain ⟨hf8, hG⟩ := hG
        refine wd rfl (fun st => x_add (ee st rfl) (ee st rfl) hf8) <| wa rfl (v := I (s5_10 + 1)) rfl <| wl_end ?_
        refine lv_round m_ (Nat.lt_succ_self _) (fun st => ?_)
        exact ⟨true, (s5_10 + 1), hG, (puts_size _ _).trans st.sz, (puts_defers _ _).trans st.df, (sl_puts st 1).trans hs5_1, (sl_puts st 2).trans hs5_2, (sl_puts st 3).trans hs5_3, (sl_puts st 7).trans hs5_7, (sl_puts st 8).trans hs5_8, (sl_puts st 9).trans rfl, (sl_puts st 10).trans rfl, rfl⟩
       ·replace hG := cond_f hG hc7
        refine wl_detg rfl rfl (guard_eq rfl hc7) rfl (by decide) (fun st => x_move (v := .slice A1_0 p1.length c1_0) (ee st hs5_1)) <| wl_detg rfl rfl (guard_eq rfl hc7) rfl (by decide) (fun st => x_move (v := I s5_10) (ee st hs5_10)) ?_
        replace hG := idx_bind hG; obtain ⟨i9, x9, hi9, hx9, hl9, hG⟩ := hG
        obtain ⟨b9, o9, _, hA9, ⟨A9_e, c9_e, rfl, hS9_e⟩, hz9⟩ := Sl.elem1 f2_hS1_0 rfl hx9
        refine wl_detg rfl rfl (guard_eq rfl hc7) rfl (by decide) (fun st => x_indexAddr1 (k := i9) Try.underlying38 sz_43 (ee st rfl) hA9 (ee st rfl) hi9 hl9) <| wl_detg rfl rfl (guard_eq rfl hc7) rfl (by decide) (fun st => x_load_z0 (v := .slice A9_e x9.length c9_e) one_43 (ee st rfl) hz9 rfl) <| wl_detg rfl rfl (guard_eq rfl hc7) rfl (by decide) (fun st => x_move (v := I p2) (ee st hs5_2)) ?_
        replace hG := idx_bind hG; obtain ⟨i10, x10, hi10, hx10, hl10, hG⟩ := hG
        obtain ⟨b10, o10, _, hA10, rfl, hz10⟩ := Sl.elem1 hS9_e rfl hx10
        refine wl_detg rfl rfl (guard_eq rfl hc7) rfl (by decide) (fun st => x_indexAddr1 (k := i10) Try.underlying43 sz_3 (ee st rfl) hA10 (ee st rfl) hi10 hl10) <| wl_detg rfl rfl (guard_eq rfl hc7) rfl (by decide) (fun st => x_load_z0 (v := I x10) one_3 (ee st rfl) hz10 rfl) <| wl_detg rfl rfl (guard_eq rfl hc7) rfl (by decide) (fun st => x_move (v := I s2_8) (ee st hs5_8)) <| wl_detg rfl rfl (guard_eq rfl hc7) rfl (by decide) (fun st => x_eql (ee st rfl) (ee st rfl)) <| wd rfl (fun st => x_pick_f (v := .bool (x10 == s2_8)) (ee st rfl) hc7 (ee st rfl)) <| wa rfl (v := .bool (x10 == s2_8)) rfl <| wl_end <| lv_block <| lv_next <| cc_region <| wm rfl (v := I s5_10) hs5_10 ?_
        replace hG := i64_bind hG; obtain ⟨hf11, hG⟩ := hG
        refine wd rfl (fun st => x_add (ee st rfl) (ee st rfl) hf11) <| wa rfl (v := I (s5_10 + 1)) rfl <| wl_end ?_
        refine lv_round m_ (Nat.lt_succ_self _) (fun st => ?_)
        exact ⟨(x10 == s2_8), (s5_10 + 1), hG, (puts_size _ _).trans st.sz, (puts_defers _ _).trans st.df, (sl_puts st 1).trans hs5_1, (sl_puts st 2).trans hs5_2, (sl_puts st 3).trans hs5_3, (sl_puts st 7).trans hs5_7, (sl_puts st 8).trans hs5_8, (sl_puts st 9).trans rfl, (sl_puts st 10).trans rfl, rfl⟩
      ·replace hG := cond_f hG hc6
       refine cc_cond_f rfl hc6 <| cc_exit <| lv_then_exit <| lv_then_exit ?_
       obtain rfl := Option.some.inj hG
       refine lv_to (fun st => ?_)
       exact ⟨rfl, (puts_size _ _).trans st.sz, (puts_defers _ _).trans st.df, (sl_puts st 1).trans hs5_1, (sl_puts st 2).trans hs5_2, (sl_puts st 3).trans hs5_3, (sl_puts st 7).trans hs5_7, (sl_puts st 8).trans hs5_8, (sl_puts st 9).trans hs5_9, rfl⟩
    case af5 =>
     rintro e_ fr5a _ (⟨rfl, hsz5a, hdf5a, hs5a_1, hs5a_2, hs5a_3, hs5a_7, hs5a_8, hs5a_9, rfl⟩)
     refine lv_fr (X := X0) (N := 41) hsz5a hdf5a <| lv_block_hit <| lv_next <| cc_seq <| cc_region <| wm rfl (v := .bool z5) hs5a_9 <| wl_end <| lv_next ?_
     rcases bool_cases (z5) with hc12 | hc12
     ·replace hG := cond_t hG hc12
      refine cc_cond_t rfl hc12 <| cc_region <| wm rfl (v := .slice As2_7 s2_7.length Cs2_7) hs5a_7 <| wm rfl (v := I s2_8) hs5a_8 <| we rfl (fun st => x_buildSlice (e := 3) (vs := #[(0, I s2_8)]) (cs := #[I s2_8]) (pm1 (ee st rfl)) (by kernel_rfl)) ?_
      rintro _ w13 ⟨b13, rfl, nb13⟩
      have hp6 : Hp w [some b13, ob As2_7, some b1] w13 := hp3.new nb13.gr (Nat.le_of_eq nb13.b_eq.symm) (Nat.lt_of_lt_of_eq (Nat.lt_succ_self _) nb13.sz.symm)
      have Hs2_7_6 : OwnR (eInt .i64) 3 w w13 (ZZ Z w.heap.size [some b13, ob As2_7, some b1]) As2_7 Cs2_7 s2_7 := (f2_Hs2_7.ext nb13.gr (mv_new nb13.gr (Nat.le_of_eq nb13.b_eq.symm)))
      replace hG := ifo_bind hG; obtain ⟨hf14, hG⟩ := hG
      refine we rfl (fun st => x_appR (ys := [s2_8]) Try.underlying43 info_3 rfl rfl (by decide) (ee st rfl) rfl (ee st rfl) Hs2_7_6 (news_bk (css := [[I s2_8]]) nb13.bk ⟨rfl, trivial⟩ rfl) (by have := hf14; simp only [maxLen]; omega) (by have := hf14; omega) hp6.bl.size (by simp)) ?_
      rintro _ w15 ⟨A15, c15, rfl, hg15, hy15, hO15⟩
      have hp7 : Hp w [some b13, ob A15, some b1] w15 := hp6.row hg15 1 rfl (hp6.ge 1 rfl) hy15
      have hR15 : OwnR (eInt .i64) 3 w w15 (ZZ Z w.heap.size [some b13, ob A15, some b1]) A15 c15 (s2_7 ++ [s2_8]) := ownR_of hO15 (hp6.mvr hg15 1 rfl (fun k hk => (hy15 k hk).1))
      refine wa rfl (v := .slice A15 ((s2_7 ++ [s2_8]).length) c15) rfl <| wl_end <| lv_block <| lv_next <| cc_region <| wm rfl (v := I s2_8) hs5a_8 ?_
      replace hG := i64_bind hG; obtain ⟨hf16, hG⟩ := hG
      refine wd rfl (fun st => x_add (ee st rfl) (ee st rfl) hf16) <| wa rfl (v := I (s2_8 + 1)) rfl <| wl_end ?_
      have hp8 : Hp w [ob A15, some b1] w15 := hp7.erase 0
      have hR15_8 : OwnR (eInt .i64) 3 w w15 (ZZ Z w.heap.size [ob A15, some b1]) A15 c15 (s2_7 ++ [s2_8]) := (hR15.up (mv_erase 0))
      have bk1_8 : Bk w15 b1 26 #[I p0.rows, I p0.wd, I p0.lo, I p0.hi, .slice A0_0 p0.ts.length c0_0] := ((f2_bk1.ext nb13.gr).gr hg15 (hp6.ne 2 1 rfl rfl rfl))
      have hS0_0_8 : Sl eTly w15 (ZZ Z w.heap.size [ob A15, some b1]) A0_0 c0_0 p0.ts := (((f2_hS0_0.mv (mv_new nb13.gr (Nat.le_of_eq nb13.b_eq.symm))).mv (hp6.mvr hg15 1 rfl (fun k hk => (hy15 k hk).1))).mv (mv_erase 0))
      have hS1_0_8 : Sl (eSl (eInt .i64)) w15 (ZZ Z w.heap.size [ob A15, some b1]) A1_0 c1_0 p1 := (((f2_hS1_0.mv (mv_new nb13.gr (Nat.le_of_eq nb13.b_eq.symm))).mv (hp6.mvr hg15 1 rfl (fun k hk => (hy15 k hk).1))).mv (mv_erase 0))
      refine lv_round m_ (Nat.lt_succ_self _) (fun st => ?_)
      exact ⟨(s2_7 ++ [s2_8]), (s2_8 + 1), A15, c15, hG, (puts_size _ _).trans st.sz, (puts_defers _ _).trans st.df, (sl_puts st 1).trans hs5a_1, (sl_puts st 2).trans hs5a_2, (sl_puts st 3).trans hs5a_3, (sl_puts st 7).trans rfl, (sl_puts st 8).trans rfl, hp8, hR15_8, bk1_8, hS0_0_8, hS1_0_8⟩
     ·replace hG := cond_f hG hc12
      refine cc_cond_f rfl hc12 <| cc_skip <| lv_block <| lv_next <| cc_region <| wm rfl (v := I s2_8) hs5a_8 ?_
      replace hG := i64_bind hG; obtain ⟨hf17, hG⟩ := hG
      refine wd rfl (fun st => x_add (ee st rfl) (ee st rfl) hf17) <| wa rfl (v := I (s2_8 + 1)) rfl <| wl_end ?_
      refine lv_round m_ (Nat.lt_succ_self _) (fun st => ?_)
      exact ⟨s2_7, (s2_8 + 1), As2_7, Cs2_7, hG, (puts_size _ _).trans st.sz, (puts_defers _ _).trans st.df, (sl_puts st 1).trans hs5a_1, (sl_puts st 2).trans hs5a_2, (sl_puts st 3).trans hs5a_3, (sl_puts st 7).trans hs5a_7, (sl_puts st 8).trans rfl, hp3, f2_Hs2_7, f2_bk1, f2_hS0_0, f2_hS1_0⟩
   ·replace hG := cond_f hG hc4
    refine cc_cond_f rfl hc4 <| cc_exit <| lv_then_exit <| lv_then_exit ?_
    obtain rfl := Option.some.inj hG
    refine lv_to (fun st => ?_)
    exact ⟨rfl, As2_7, Cs2_7, (puts_size _ _).trans st.sz, (puts_defers _ _).trans st.df, (sl_puts st 7).trans hs2_7, hp3, f2_Hs2_7⟩
 case af2 =>
  rintro e_ fr2a w2a (⟨rfl, Ae2_0_70, Ce2_0_70, hsz2a, hdf2a, hs2a_7, hp2a, g2_He2_0_70⟩)
  refine lv_fr (X := X0) (N := 41) hsz2a hdf2a <| lv_block_hit <| lv_next <| cc_seq <| cc_region <| wm rfl (v := .slice Ae2_0_70 z2.length Ce2_0_70) hs2a_7 <| wa rfl (v := .slice Ae2_0_70 z2.length Ce2_0_70) rfl <| wl_end <| lv_next <| cc_ret ?_
  obtain rfl := Option.some.inj hG
  refine lv_ret1 rfl rfl ?_
  exact ⟨hp2a.fin, ⟨_, _, rfl, g2_He2_0_70.fin⟩⟩
end Go.Proofs.Ythogdgkafaclaaa
end
section
set_option linter.unusedVariables false
set_option linter.unusedSimpArgs false
namespace Go.Proofs.Ythogdgkafaclaaa
open Go.RowKit
open AF
attribute [local irreducible] Ex1 WL CC CW LV Ret ObOp Agg One Own
theorem a40 (K_ : Nat) (p0 : Fld) (A0_0 : Option Addr) (c0_0 : Nat) (Z : Nat → Prop) (w : World) (hS0_0 : Sl eTly w Z A0_0 c0_0 p0.ts) (r_ : (List (List Int))) (hG : G_Truths K_ p0 = some r_) :
    Ret Try.prog 40 #[.agg #[I p0.rows, I p0.wd, I p0.lo, I p0.hi, .slice A0_0 p0.ts.length c0_0]] w (fun v w' => Ext w w' ∧ (vSl (eSl (eInt .i64))).R w' (ZZ Z w.heap.size []) v r_) := by
 unfold G_Truths at hG
 refine ret_of_cc (N := 23) Try.func40 rfl rfl (by simp) ?_
 intro fr0 ha hdf
 have hp_0 := sl_arg (i := 0) (v := .agg #[I p0.rows, I p0.wd, I p0.lo, I p0.hi, .slice A0_0 p0.ts.length c0_0]) ha rfl
 clear ha
 have hp0 := Hp.refl w
 have hS0_0_0 := hS0_0.mv (mv_start w)
 refine cc_seq <| cc_region <| we rfl (fun st => x_box (v := .agg #[I p0.rows, I p0.wd, I p0.lo, I p0.hi, .slice A0_0 p0.ts.length c0_0]) (cs := #[I p0.rows, I p0.wd, I p0.lo, I p0.hi, .slice A0_0 p0.ts.length c0_0]) (ee st hp_0) rfl) ?_
 rintro _ w1 ⟨b1, rfl, nb1⟩
 have hp1 : Hp w [some b1] w1 := hp0.new nb1.gr (Nat.le_of_eq nb1.b_eq.symm) (Nat.lt_of_lt_of_eq (Nat.lt_succ_self _) nb1.sz.symm)
 refine wa rfl (v := .slice none 0 0) rfl <| wl_end <| lv_next <| cc_seq <| cc_region <| wa rfl (v := .slice none 0 0) rfl <| wl_end <| lv_next <| cc_seq <| cc_seq <| cc_region <| wa rfl (v := I 0) rfl <| wl_end <| lv_next <| cc_block ?_
 have hp2 : Hp w [none, some b1] w1 := hp1.nil
 have hR3 : OwnR (eSl (eInt .i64)) 43 w w1 (ZZ Z w.heap.size [none, some b1]) none 0 [] := OwnR.nil _ _ _ _ _
 replace hG := bind_some hG; obtain ⟨z2, hL2, hG⟩ := hG
 refine cc_join (fun e_ fr_ w_ => (e_ = .exit 0 ∧ ∃ Ae2_0_30 Ce2_0_30, fr_.tmps.size = 23 ∧ fr_.defers = [] ∧ sl fr_ 3 = .slice Ae2_0_30 z2.length Ce2_0_30 ∧ Hp w [ob Ae2_0_30, some b1] w_ ∧ OwnR (eSl (eInt .i64)) 43 w w_ (ZZ Z w.heap.size [ob Ae2_0_30, some b1]) Ae2_0_30 Ce2_0_30 z2)) ?lp2 ?af2
 case lp2 =>
  clear hG
  refine cc_loop (fun (m_ : Nat) (fr_ : Act) (w_ : World) => ∃ s2_3, ∃ s2_4, ∃ As2_3 Cs2_3, G_Truths_L2 K_ p0 m_ s2_3 s2_4 = some z2 ∧ fr_.tmps.size = 23 ∧ fr_.defers = [] ∧ sl fr_ 1 = pt b1 0 ∧ sl fr_ 3 = .slice As2_3 s2_3.length Cs2_3 ∧ sl fr_ 4 = I s2_4 ∧ Hp w [ob As2_3, some b1] w_ ∧ OwnR (eSl (eInt .i64)) 43 w w_ (ZZ Z w.heap.size [ob As2_3, some b1]) As2_3 Cs2_3 s2_3 ∧ Bk w_ b1 26 #[I p0.rows, I p0.wd, I p0.lo, I p0.hi, .slice A0_0 p0.ts.length c0_0] ∧ Sl eTly w_ (ZZ Z w.heap.size [ob As2_3, some b1]) A0_0 c0_0 p0.ts) K_ ?in2 ?rd2
  case in2 =>
   intro st
   have bk1_2 : Bk w1 b1 26 #[I p0.rows, I p0.wd, I p0.lo, I p0.hi, .slice A0_0 p0.ts.length c0_0] := nb1.bk
   have hS0_0_2 : Sl eTly w1 (ZZ Z w.heap.size [none, some b1]) A0_0 c0_0 p0.ts := ((hS0_0_0.mv (mv_new nb1.gr (Nat.le_of_eq nb1.b_eq.symm))).mv mv_nil)
   exact ⟨([] : List (List Int)), (0 : Int), none, 0, hL2, (puts_size _ _).trans st.sz, (puts_defers _ _).trans st.df, (sl_puts st 1).trans rfl, (sl_puts st 3).trans rfl, (sl_puts st 4).trans rfl, hp2, hR3, bk1_2, hS0_0_2⟩
  case rd2 =>
   rintro (_ | m_) fr2 w2r ⟨s2_3, s2_4, As2_3, Cs2_3, hL2, hsz2, hdf2, hs2_1, hs2_3, hs2_4, hp3, f2_Hs2_3, f2_bk1, f2_hS0_0⟩
   ·exact absurd (show none = some _ from hL2) (by simp)
   rw [G_Truths_L2.eq_2] at hL2
   have hG := hL2; clear hL2
   refine round_cc (N := 23) hsz2 hdf2 <| cc_seq <| cc_seq <| cc_region <| wm rfl (v := I s2_4) hs2_4 <| wd rfl (fun st => x_loadn (l := [I p0.rows, I p0.wd, I p0.lo, I p0.hi, .slice A0_0 p0.ts.length c0_0]) agg_26 (ee st hs2_1) f2_bk1 rfl rfl) ?_
   replace hG := bind_some hG; obtain ⟨r4, hr4, hG⟩ := hG
   refine we rfl (fun st => x_call0 own_65 (ee st rfl) (am1 (ee st rfl)) (a65 K_ p0 A0_0 c0_0 ZA _ f2_hS0_0.all r4 hr4)) ?_
   rintro _ w5 ⟨hx4, rfl⟩
   have hp4 : Hp w [ob As2_3, some b1] w5 := hp3.ext hx4
   refine wd rfl (fun st => x_lss (ee st rfl) (ee st rfl)) <| wl_end <| lv_next ?_
   rcases bool_cases (decide (s2_4 < r4)) with hc6 | hc6
   ·replace hG := cond_t hG hc6
    refine cc_cond_t rfl hc6 <| cc_skip <| lv_next <| cc_seq <| cc_block <| cc_seq <| cc_region ?_
    have bk1_4 : Bk w5 b1 26 #[I p0.rows, I p0.wd, I p0.lo, I p0.hi, .slice A0_0 p0.ts.length c0_0] := (f2_bk1.ext hx4)
    refine wd rfl (fun st => x_loadn (l := [I p0.rows, I p0.wd, I p0.lo, I p0.hi, .slice A0_0 p0.ts.length c0_0]) agg_26 (ee st hs2_1) bk1_4 rfl rfl) <| wm rfl (v := I s2_4) hs2_4 ?_
    have hS0_0_4 : Sl eTly w5 (ZZ Z w.heap.size [ob As2_3, some b1]) A0_0 c0_0 p0.ts := (f2_hS0_0.mv (mv_ext hx4))
    replace hG := bind_some hG; obtain ⟨r7, hr7, hG⟩ := hG
    refine we rfl (fun st => x_call0 own_82 (ee st rfl) (am2 (ee st rfl) (ee st rfl)) (a82 K_ p0 s2_4 A0_0 c0_0 (ZZ Z w.heap.size [ob As2_3, some b1]) _ hS0_0_4 r7 hr7)) ?_
    rintro _ w8 ⟨hx7, ⟨A7_r, c7_r, rfl, hS7_r⟩⟩
    have hp5 : Hp w [ob As2_3, some b1] w8 := hp4.ext hx7
    have hS7_r := hS7_r.mv (hp4.call (Nat.le_refl _))
    refine wa rfl (v := .slice A7_r r7.length c7_r) rfl <| wl_end <| lv_next <| cc_seq <| cc_region ?_
    have bk1_5 : Bk w8 b1 26 #[I p0.rows, I p0.wd, I p0.lo, I p0.hi, .slice A0_0 p0.ts.length c0_0] := (bk1_4.ext hx7)
    refine wd rfl (fun st => x_loadn (l := [I p0.rows, I p0.wd, I p0.lo, I p0.hi, .slice A0_0 p0.ts.length c0_0]) agg_26 (ee st hs2_1) bk1_5 rfl rfl) <| wm rfl (v := .slice A7_r r7.length c7_r) rfl ?_
    have hS0_0_5 : Sl eTly w8 (ZZ Z w.heap.size [ob As2_3, some b1]) A0_0 c0_0 p0.ts := (hS0_0_4.mv (mv_ext hx7))
    replace hG := bind_some hG; obtain ⟨r9, hr9, hG⟩ := hG
    refine we rfl (fun st => x_call0 own_54 (ee st rfl) (am2 (ee st rfl) (ee st rfl)) (a54 K_ p0 r7 A0_0 c0_0 A7_r c7_r ZA _ hS0_0_5.all hS7_r.all r9 hr9)) ?_
    rintro _ w10 ⟨hx9, rfl⟩
    have hp6 : Hp w [ob As2_3, some b1] w10 := hp5.ext hx9
    refine wl_end <| lv_next ?_
    rcases bool_cases (r9) with hc11 | hc11
    ·replace hG := cond_t hG hc11
     refine cc_cond_t rfl hc11 <| cc_region <| wm rfl (v := .slice As2_3 s2_3.length Cs2_3) hs2_3 <| wm rfl (v := .slice A7_r r7.length c7_r) rfl <| we rfl (fun st => x_buildSlice (e := 43) (vs := #[(0, .slice A7_r r7.length c7_r)]) (cs := #[.slice A7_r r7.length c7_r]) (pm1 (ee st rfl)) (by kernel_rfl)) ?_
     rintro _ w12 ⟨b12, rfl, nb12⟩
     have hp7 : Hp w [some b12, ob As2_3, some b1] w12 := hp6.new nb12.gr (Nat.le_of_eq nb12.b_eq.symm) (Nat.lt_of_lt_of_eq (Nat.lt_succ_self _) nb12.sz.symm)
     have Hs2_3_7 : OwnR (eSl (eInt .i64)) 43 w w12 (ZZ Z w.heap.size [some b12, ob As2_3, some b1]) As2_3 Cs2_3 s2_3 := ((((f2_Hs2_3.ext hx4 (mv_ext hx4)).ext hx7 (mv_ext hx7)).ext hx9 (mv_ext hx9)).ext nb12.gr (mv_new nb12.gr (Nat.le_of_eq nb12.b_eq.symm)))
     replace hG := ifo_bind hG; obtain ⟨hf13, hG⟩ := hG
     have hS7_r_7 : Sl (eInt .i64) w12 (ZZ Z w.heap.size [some b12, ob As2_3, some b1]) A7_r c7_r r7 := ((hS7_r.mv (mv_ext hx9)).mv (mv_new nb12.gr (Nat.le_of_eq nb12.b_eq.symm)))
     refine we rfl (fun st => x_appR (ys := [r7]) Try.underlying38 info_43 rfl rfl (by decide) (ee st rfl) rfl (ee st rfl) Hs2_3_7 (news_bk (css := [[.slice A7_r r7.length c7_r]]) nb12.bk ⟨⟨_, _, rfl, hS7_r_7⟩, trivial⟩ rfl) (by have := hf13; simp only [maxLen]; omega) (by have := hf13; omega) hp7.bl.size (by simp)) ?_
     rintro _ w14 ⟨A14, c14, rfl, hg14, hy14, hO14⟩
     have hp8 : Hp w [some b12, ob A14, some b1] w14 := hp7.row hg14 1 rfl (hp7.ge 1 rfl) hy14
     have hR14 : OwnR (eSl (eInt .i64)) 43 w w14 (ZZ Z w.heap.size [some b12, ob A14, some b1]) A14 c14 (s2_3 ++ [r7]) := ownR_of hO14 (hp7.mvr hg14 1 rfl (fun k hk => (hy14 k hk).1))
     refine wa rfl (v := .slice A14 ((s2_3 ++ [r7]).length) c14) rfl <| wl_end <| lv_block <| lv_next <| cc_region <| wm rfl (v := I s2_4) hs2_4 ?_
     replace hG := i64_bind hG; obtain ⟨hf15, hG⟩ := hG
     refine wd rfl (fun st => x_add (ee st rfl) (ee st rfl) hf15) <| wa rfl (v := I (s2_4 + 1)) rfl <| wl_end ?_
     have hp9 : Hp w [ob A14, some b1] w14 := hp8.erase 0
     have hR14_9 : OwnR (eSl (eInt .i64)) 43 w w14 (ZZ Z w.heap.size [ob A14, some b1]) A14 c14 (s2_3 ++ [r7]) := (hR14.up (mv_erase 0))
     have bk1_9 : Bk w14 b1 26 #[I p0.rows, I p0.wd, I p0.lo, I p0.hi, .slice A0_0 p0.ts.length c0_0] := (((bk1_5.ext hx9).ext nb12.gr).gr hg14 (hp7.ne 2 1 rfl rfl rfl))
     have hS0_0_9 : Sl eTly w14 (ZZ Z w.heap.size [ob A14, some b1]) A0_0 c0_0 p0.ts := ((((hS0_0_5.mv (mv_ext hx9)).mv (mv_new nb12.gr (Nat.le_of_eq nb12.b_eq.symm))).mv (hp7.mvr hg14 1 rfl (fun k hk => (hy14 k hk).1))).mv (mv_erase 0))
     refine lv_round m_ (Nat.lt_succ_self _) (fun st => ?_)
     exact ⟨(s2_3 ++ [r7]), (s2_4 + 1), A14, c14, hG, (puts_size _ _).trans st.sz, (puts_defers _ _).trans st.df, (sl_puts st 1).trans hs2_1, (sl_puts st 3).trans rfl, (sl_puts st 4).trans rfl, hp9, hR14_9, bk1_9, hS0_0_9⟩
    ·replace hG := cond_f hG hc11
     refine cc_cond_f rfl hc11 <| cc_skip <| lv_block <| lv_next <| cc_region <| wm rfl (v := I s2_4) hs2_4 ?_
     replace hG := i64_bind hG; obtain ⟨hf16, hG⟩ := hG
     refine wd rfl (fun st => x_add (ee st rfl) (ee st rfl) hf16) <| wa rfl (v := I (s2_4 + 1)) rfl <| wl_end ?_
     have Hs2_3_6 : OwnR (eSl (eInt .i64)) 43 w w10 (ZZ Z w.heap.size [ob As2_3, some b1]) As2_3 Cs2_3 s2_3 := (((f2_Hs2_3.ext hx4 (mv_ext hx4)).ext hx7 (mv_ext hx7)).ext hx9 (mv_ext hx9))
     have bk1_6 : Bk w10 b1 26 #[I p0.rows, I p0.wd, I p0.lo, I p0.hi, .slice A0_0 p0.ts.length c0_0] := (bk1_5.ext hx9)
     have hS0_0_6 : Sl eTly w10 (ZZ Z w.heap.size [ob As2_3, some b1]) A0_0 c0_0 p0.ts := (hS0_0_5.mv (mv_ext hx9))
     refine lv_round m_ (Nat.lt_succ_self _) (fun st => ?_)
     exact ⟨s2_3, (s2_4 + 1), As2_3, Cs2_3, hG, (puts_size _ _).trans st.sz, (puts_defers _ _).trans st.df, (sl_puts st 1).trans hs2_1, (sl_puts st 3).trans hs2_3, (sl_puts st 4).trans rfl, hp6, Hs2_3_6, bk1_6, hS0_0_6⟩
   ·replace hG := cond_f hG hc6
    refine cc_cond_f rfl hc6 <| cc_exit <| lv_then_exit <| lv_then_exit ?_
    obtain rfl := Option.some.inj hG
    have Hs2_3_4 : OwnR (eSl (eInt .i64)) 43 w w5 (ZZ Z w.heap.size [ob As2_3, some b1]) As2_3 Cs2_3 s2_3 := (f2_Hs2_3.ext hx4 (mv_ext hx4))
    refine lv_to (fun st => ?_)
    exact ⟨rfl, As2_3, Cs2_3, (puts_size _ _).trans st.sz, (puts_defers _ _).trans st.df, (sl_puts st 3).trans hs2_3, hp4, Hs2_3_4⟩
 case af2 =>
  rintro e_ fr2a w2a (⟨rfl, Ae2_0_30, Ce2_0_30, hsz2a, hdf2a, hs2a_3, hp2a, g2_He2_0_30⟩)
  refine lv_fr (X := X0) (N := 23) hsz2a hdf2a <| lv_block_hit <| lv_next <| cc_seq <| cc_region <| wm rfl (v := .slice Ae2_0_30 z2.length Ce2_0_30) hs2a_3 <| wa rfl (v := .slice Ae2_0_30 z2.length Ce2_0_30) rfl <| wl_end <| lv_next <| cc_ret ?_
  obtain rfl := Option.some.inj hG
  refine lv_ret1 rfl rfl ?_
  exact ⟨hp2a.fin, ⟨_, _, rfl, g2_He2_0_30.fin⟩⟩
theorem a36 (K_ : Nat) (p0 : Fld) (A0_0 : Option Addr) (c0_0 : Nat) (Z : Nat → Prop) (w : World) (hS0_0 : Sl eTly w Z A0_0 c0_0 p0.ts) (r_ : (List Int)) (hG : G_All K_ p0 = some r_) :
    Ret Try.prog 36 #[.agg #[I p0.rows, I p0.wd, I p0.lo, I p0.hi, .slice A0_0 p0.ts.length c0_0]] w (fun v w' => Ext w w' ∧ (vSl (eInt .i64)).R w' (ZZ Z w.heap.size []) v r_) := by
 unfold G_All at hG
 refine ret_of_cc (N := 45) Try.func36 rfl rfl (by simp) ?_
 intro fr0 ha hdf
 have hp_0 := sl_arg (i := 0) (v := .agg #[I p0.rows, I p0.wd, I p0.lo, I p0.hi, .slice A0_0 p0.ts.length c0_0]) ha rfl
 clear ha
 have hp0 := Hp.refl w
 have hS0_0_0 := hS0_0.mv (mv_start w)
 refine cc_seq <| cc_region <| we rfl (fun st => x_box (v := .agg #[I p0.rows, I p0.wd, I p0.lo, I p0.hi, .slice A0_0 p0.ts.length c0_0]) (cs := #[I p0.rows, I p0.wd, I p0.lo, I p0.hi, .slice A0_0 p0.ts.length c0_0]) (ee st hp_0) rfl) ?_
 rintro _ w1 ⟨b1, rfl, nb1⟩
 have hp1 : Hp w [some b1] w1 := hp0.new nb1.gr (Nat.le_of_eq nb1.b_eq.symm) (Nat.lt_of_lt_of_eq (Nat.lt_succ_self _) nb1.sz.symm)
 refine wa rfl (v := .slice none 0 0) rfl <| wl_end <| lv_next <| cc_seq <| cc_region <| wa rfl (v := .slice none 0 0) rfl <| wl_end <| lv_next <| cc_seq <| cc_seq <| cc_region <| wa rfl (v := I 0) rfl <| wl_end <| lv_next <| cc_block ?_
 have hp2 : Hp w [none, some b1] w1 := hp1.nil
 have hR3 : OwnR (eInt .i64) 3 w w1 (ZZ Z w.heap.size [none, some b1]) none 0 [] := OwnR.nil _ _ _ _ _
 replace hG := bind_some hG; obtain ⟨z2, hL2, hG⟩ := hG
 refine cc_join (fun e_ fr_ w_ => (e_ = .exit 0 ∧ ∃ Ae2_0_30 Ce2_0_30, fr_.tmps.size = 45 ∧ fr_.defers = [] ∧ sl fr_ 3 = .slice Ae2_0_30 z2.length Ce2_0_30 ∧ Hp w [ob Ae2_0_30, some b1] w_ ∧ OwnR (eInt .i64) 3 w w_ (ZZ Z w.heap.size [ob Ae2_0_30, some b1]) Ae2_0_30 Ce2_0_30 z2)) ?lp2 ?af2
 case lp2 =>
  clear hG
  refine cc_loop (fun (m_ : Nat) (fr_ : Act) (w_ : World) => ∃ s2_3, ∃ s2_4, ∃ As2_3 Cs2_3, G_All_L2 K_ p0 m_ s2_3 s2_4 = some z2 ∧ fr_.tmps.size = 45 ∧ fr_.defers = [] ∧ sl fr_ 1 = pt b1 0 ∧ sl fr_ 3 = .slice As2_3 s2_3.length Cs2_3 ∧ sl fr_ 4 = I s2_4 ∧ Hp w [ob As2_3, some b1] w_ ∧ OwnR (eInt .i64) 3 w w_ (ZZ Z w.heap.size [ob As2_3, some b1]) As2_3 Cs2_3 s2_3 ∧ Bk w_ b1 26 #[I p0.rows, I p0.wd, I p0.lo, I p0.hi, .slice A0_0 p0.ts.length c0_0] ∧ Sl eTly w_ (ZZ Z w.heap.size [ob As2_3, some b1]) A0_0 c0_0 p0.ts) K_ ?in2 ?rd2
  case in2 =>
   intro st
   have bk1_2 : Bk w1 b1 26 #[I p0.rows, I p0.wd, I p0.lo, I p0.hi, .slice A0_0 p0.ts.length c0_0] := nb1.bk
   have hS0_0_2 : Sl eTly w1 (ZZ Z w.heap.size [none, some b1]) A0_0 c0_0 p0.ts := ((hS0_0_0.mv (mv_new nb1.gr (Nat.le_of_eq nb1.b_eq.symm))).mv mv_nil)
   exact ⟨([] : List Int), (0 : Int), none, 0, hL2, (puts_size _ _).trans st.sz, (puts_defers _ _).trans st.df, (sl_puts st 1).trans rfl, (sl_puts st 3).trans rfl, (sl_puts st 4).trans rfl, hp2, hR3, bk1_2, hS0_0_2⟩
  case rd2 =>
   rintro (_ | m_) fr2 w2r ⟨s2_3, s2_4, As2_3, Cs2_3, hL2, hsz2, hdf2, hs2_1, hs2_3, hs2_4, hp3, f2_Hs2_3, f2_bk1, f2_hS0_0⟩
   ·exact absurd (show none = some _ from hL2) (by simp)
   rw [G_All_L2.eq_2] at hL2
   have hG := hL2; clear hL2
   refine round_cc (N := 45) hsz2 hdf2 <| cc_seq <| cc_seq <| cc_region <| wm rfl (v := I s2_4) hs2_4 <| wd rfl (fun st => x_loadn (l := [I p0.rows, I p0.wd, I p0.lo, I p0.hi, .slice A0_0 p0.ts.length c0_0]) agg_26 (ee st hs2_1) f2_bk1 rfl rfl) ?_
   replace hG := bind_some hG; obtain ⟨r4, hr4, hG⟩ := hG
   refine we rfl (fun st => x_call0 own_65 (ee st rfl) (am1 (ee st rfl)) (a65 K_ p0 A0_0 c0_0 ZA _ f2_hS0_0.all r4 hr4)) ?_
   rintro _ w5 ⟨hx4, rfl⟩
   have hp4 : Hp w [ob As2_3, some b1] w5 := hp3.ext hx4
   refine wd rfl (fun st => x_lss (ee st rfl) (ee st rfl)) <| wl_end <| lv_next ?_
   rcases bool_cases (decide (s2_4 < r4)) with hc6 | hc6
   ·replace hG := cond_t hG hc6
    refine cc_cond_t rfl hc6 <| cc_skip <| lv_next <| cc_seq <| cc_block <| cc_seq <| cc_region ?_
    have bk1_4 : Bk w5 b1 26 #[I p0.rows, I p0.wd, I p0.lo, I p0.hi, .slice A0_0 p0.ts.length c0_0] := (f2_bk1.ext hx4)
    refine wd rfl (fun st => x_loadn (l := [I p0.rows, I p0.wd, I p0.lo, I p0.hi, .slice A0_0 p0.ts.length c0_0]) agg_26 (ee st hs2_1) bk1_4 rfl rfl) <| wm rfl (v := I s2_4) hs2_4 ?_
    have hS0_0_4 : Sl eTly w5 (ZZ Z w.heap.size [ob As2_3, some b1]) A0_0 c0_0 p0.ts := (f2_hS0_0.mv (mv_ext hx4))
    replace hG := bind_some hG; obtain ⟨r7, hr7, hG⟩ := hG
    refine we rfl (fun st => x_call0 own_82 (ee st rfl) (am2 (ee st rfl) (ee st rfl)) (a82 K_ p0 s2_4 A0_0 c0_0 (ZZ Z w.heap.size [ob As2_3, some b1]) _ hS0_0_4 r7 hr7)) ?_
    rintro _ w8 ⟨hx7, ⟨A7_r, c7_r, rfl, hS7_r⟩⟩
    have hp5 : Hp w [ob As2_3, some b1] w8 := hp4.ext hx7
    have hS7_r := hS7_r.mv (hp4.call (Nat.le_refl _))
    refine wa rfl (v := .slice A7_r r7.length c7_r) rfl <| wl_end <| lv_next <| cc_seq <| cc_seq <| cc_region ?_
    have bk1_5 : Bk w8 b1 26 #[I p0.rows, I p0.wd, I p0.lo, I p0.hi, .slice A0_0 p0.ts.length c0_0] := (bk1_4.ext hx7)
    refine wd rfl (fun st => x_loadn (l := [I p0.rows, I p0.wd, I p0.lo, I p0.hi, .slice A0_0 p0.ts.length c0_0]) agg_26 (ee st hs2_1) bk1_5 rfl rfl) <| wm rfl (v := .slice A7_r r7.length c7_r) rfl ?_
    have hS0_0_5 : Sl eTly w8 (ZZ Z w.heap.size [ob As2_3, some b1]) A0_0 c0_0 p0.ts := (hS0_0_4.mv (mv_ext hx7))
    replace hG := bind_some hG; obtain ⟨r9, hr9, hG⟩ := hG
    refine we rfl (fun st => x_call0 own_83 (ee st rfl) (am2 (ee st rfl) (ee st rfl)) (a83 K_ p0 r7 A0_0 c0_0 A7_r c7_r ZA _ hS0_0_5.all hS7_r.all r9 hr9)) ?_
    rintro _ w10 ⟨hx9, rfl⟩
    have hp6 : Hp w [ob As2_3, some b1] w10 := hp5.ext hx9
    refine wd rfl (fun st => x_not (ee st rfl)) <| wl_end <| lv_next ?_
    rcases bool_cases (!r9) with hc11 | hc11
    ·replace hG := cond_t hG hc11
     have hc11_12 : r9 = false := by simpa using hc11
     refine cc_cond_t rfl hc11 <| cc_exit <| lv_then_exit <| lv_block_hit <| lv_next <| cc_region <| wm rfl (v := I s2_4) hs2_4 ?_
     replace hG := i64_bind hG; obtain ⟨hf13, hG⟩ := hG
     refine wd rfl (fun st => x_add (ee st rfl) (ee st rfl) hf13) <| wa rfl (v := I (s2_4 + 1)) rfl <| wl_end ?_
     have Hs2_3_6 : OwnR (eInt .i64) 3 w w10 (ZZ Z w.heap.size [ob As2_3, some b1]) As2_3 Cs2_3 s2_3 := (((f2_Hs2_3.ext hx4 (mv_ext hx4)).ext hx7 (mv_ext hx7)).ext hx9 (mv_ext hx9))
     have bk1_6 : Bk w10 b1 26 #[I p0.rows, I p0.wd, I p0.lo, I p0.hi, .slice A0_0 p0.ts.length c0_0] := (bk1_5.ext hx9)
     have hS0_0_6 : Sl eTly w10 (ZZ Z w.heap.size [ob As2_3, some b1]) A0_0 c0_0 p0.ts := (hS0_0_5.mv (mv_ext hx9))
     refine lv_round m_ (Nat.lt_succ_self _) (fun st => ?_)
     exact ⟨s2_3, (s2_4 + 1), As2_3, Cs2_3, hG, (puts_size _ _).trans st.sz, (puts_defers _ _).trans st.df, (sl_puts st 1).trans hs2_1, (sl_puts st 3).trans hs2_3, (sl_puts st 4).trans rfl, hp6, Hs2_3_6, bk1_6, hS0_0_6⟩
    ·replace hG := cond_f hG hc11
     have hc11_14 : r9 = true := by simpa using hc11
     refine cc_cond_f rfl hc11 <| cc_skip <| lv_next <| cc_seq <| cc_region <| wa rfl (v := I 0) rfl <| wl_end <| lv_next <| cc_seq <| cc_seq <| cc_region <| wa rfl (v := I 0) rfl <| wl_end <| lv_next <| cc_block ?_
     replace hG := bind_some hG; obtain ⟨z15, hL15, hG⟩ := hG
     refine cc_join (fun e_ fr_ w_ => (e_ = .exit 2 ∧ fr_.tmps.size = 45 ∧ fr_.defers = [] ∧ sl fr_ 1 = pt b1 0 ∧ sl fr_ 3 = .slice As2_3 s2_3.length Cs2_3 ∧ sl fr_ 4 = I s2_4 ∧ sl fr_ 6 = I z15 ∧ Hp w [ob As2_3, some b1] w_ ∧ OwnR (eInt .i64) 3 w w_ (ZZ Z w.heap.size [ob As2_3, some b1]) As2_3 Cs2_3 s2_3 ∧ Bk w_ b1 26 #[I p0.rows, I p0.wd, I p0.lo, I p0.hi, .slice A0_0 p0.ts.length c0_0] ∧ Sl eTly w_ (ZZ Z w.heap.size [ob As2_3, some b1]) A0_0 c0_0 p0.ts)) ?lp15 ?af15
     case lp15 =>
      clear hG
      refine cc_loop (fun (m_ : Nat) (fr_ : Act) (w_ : World) => ∃ s15_6, ∃ s15_7, G_All_L15 K_ p0 r7 m_ s15_6 s15_7 = some z15 ∧ fr_.tmps.size = 45 ∧ fr_.defers = [] ∧ sl fr_ 1 = pt b1 0 ∧ sl fr_ 3 = .slice As2_3 s2_3.length Cs2_3 ∧ sl fr_ 4 = I s2_4 ∧ sl fr_ 5 = .slice A7_r r7.length c7_r ∧ sl fr_ 6 = I s15_6 ∧ sl fr_ 7 = I s15_7 ∧ Hp w [ob As2_3, some b1] w_ ∧ OwnR (eInt .i64) 3 w w_ (ZZ Z w.heap.size [ob As2_3, some b1]) As2_3 Cs2_3 s2_3 ∧ Bk w_ b1 26 #[I p0.rows, I p0.wd, I p0.lo, I p0.hi, .slice A0_0 p0.ts.length c0_0] ∧ Sl eTly w_ (ZZ Z w.heap.size [ob As2_3, some b1]) A0_0 c0_0 p0.ts ∧ Sl (eInt .i64) w_ (ZZ Z w.heap.size [ob As2_3, some b1]) A7_r c7_r r7) K_ ?in15 ?rd15
      case in15 =>
       intro st
       have Hs2_3_6 : OwnR (eInt .i64) 3 w w10 (ZZ Z w.heap.size [ob As2_3, some b1]) As2_3 Cs2_3 s2_3 := (((f2_Hs2_3.ext hx4 (mv_ext hx4)).ext hx7 (mv_ext hx7)).ext hx9 (mv_ext hx9))
       have bk1_6 : Bk w10 b1 26 #[I p0.rows, I p0.wd, I p0.lo, I p0.hi, .slice A0_0 p0.ts.length c0_0] := (bk1_5.ext hx9)
       have hS0_0_6 : Sl eTly w10 (ZZ Z w.heap.size [ob As2_3, some b1]) A0_0 c0_0 p0.ts := (hS0_0_5.mv (mv_ext hx9))
       have hS7_r_6 : Sl (eInt .i64) w10 (ZZ Z w.heap.size [ob As2_3, some b1]) A7_r c7_r r7 := (hS7_r.mv (mv_ext hx9))
       exact ⟨(0 : Int), (0 : Int), hL15, (puts_size _ _).trans st.sz, (puts_defers _ _).trans st.df, (sl_puts st 1).trans hs2_1, (sl_puts st 3).trans hs2_3, (sl_puts st 4).trans hs2_4, (sl_puts st 5).trans rfl, (sl_puts st 6).trans rfl, (sl_puts st 7).trans rfl, hp6, Hs2_3_6, bk1_6, hS0_0_6, hS7_r_6⟩
      case rd15 =>
       rintro (_ | m_) fr15 w15r ⟨s15_6, s15_7, hL15, hsz15, hdf15, hs15_1, hs15_3, hs15_4, hs15_5, hs15_6, hs15_7, hp7, f15_Hs2_3, f15_bk1, f15_hS0_0, f15_hS7_r⟩
       ·exact absurd (show none = some _ from hL15) (by simp)
       rw [G_All_L15.eq_2] at hL15
       have hG := hL15; clear hL15
       refine round_cc (N := 45) hsz15 hdf15 <| cc_seq <| cc_seq <| cc_region <| wm rfl (v := I s15_7) hs15_7 <| wd rfl (fun st => x_fieldAddr (ee st hs15_1) (fz_26_3 _ _)) <| wd rfl (fun st => x_load1 (v := .slice A0_0 p0.ts.length c0_0) one_24 (ee st rfl) f15_bk1 rfl) <| wd rfl (fun st => x_len Try.underlying24 (ee st rfl)) <| wd rfl (fun st => x_lss (ee st rfl) (ee st rfl)) <| wl_end <| lv_next ?_
       rcases bool_cases (decide (s15_7 < (p0.ts.length : Int))) with hc16 | hc16
       ·replace hG := cond_t hG hc16
        refine cc_cond_t rfl hc16 <| cc_skip <| lv_next <| cc_seq <| cc_block <| cc_seq <| cc_region <| wm rfl (v := .slice A7_r r7.length c7_r) hs15_5 <| wd rfl (fun st => x_fieldAddr (ee st hs15_1) (fz_26_3 _ _)) <| wd rfl (fun st => x_load1 (v := .slice A0_0 p0.ts.length c0_0) one_24 (ee st rfl) f15_bk1 rfl) <| wm rfl (v := I s15_7) hs15_7 ?_
        replace hG := idx_bind hG; obtain ⟨i17, x17, hi17, hx17, hl17, hG⟩ := hG
        obtain ⟨b17, o17, _, hA17, rfl, hz17⟩ := Sl.elem f15_hS0_0 (by decide) hx17
        refine wd rfl (fun st => x_indexAddrN (k := i17) Try.underlying24 sz_68 (ee st rfl) hA17 (ee st rfl) hi17 hl17) <| wd rfl (fun st => x_load_zn0 (l := [I x17.who, I x17.fr, I x17.to, I x17.lo, I x17.hi]) agg_68 (ee st rfl) hz17 rfl rfl) ?_
        replace hG := bind_some hG; obtain ⟨r18, hr18, hG⟩ := hG
        refine we rfl (fun st => x_call0 own_84 (ee st rfl) (am2 (ee st rfl) (ee st rfl)) (a84 K_ r7 x17 A7_r c7_r ZA _ f15_hS7_r.all r18 hr18)) ?_
        rintro _ w19 ⟨hx18, rfl⟩
        have hp8 : Hp w [ob As2_3, some b1] w19 := hp7.ext hx18
        refine wl_end <| lv_next ?_
        rcases bool_cases (r18) with hc20 | hc20
        ·replace hG := cond_t hG hc20
         refine cc_cond_t rfl hc20 <| cc_region <| wm rfl (v := I s15_6) hs15_6 <| wm rfl (v := I s15_7) hs15_7 ?_
         replace hG := cvO_bind hG; obtain ⟨hf21, hG⟩ := hG
         refine wd rfl (fun st => x_conv (k := .u64) sm_3 Try.underlying63 (ee st rfl) hf21) ?_
         replace hG := shlO_bind hG; obtain ⟨hf22, hG⟩ := hG
         refine wd rfl (fun st => x_shl (ee st rfl) (ee st rfl) hf22) ?_
         replace hG := bitO_bind hG; obtain ⟨hf23, hG⟩ := hG
         refine wd rfl (fun st => x_or (ee st rfl) (ee st rfl) hf23) <| wa rfl (v := I (orI s15_6 (shlI (1 : Int) s15_7))) rfl <| wl_end <| lv_block <| lv_next <| cc_region <| wm rfl (v := I s15_7) hs15_7 ?_
         replace hG := i64_bind hG; obtain ⟨hf24, hG⟩ := hG
         refine wd rfl (fun st => x_add (ee st rfl) (ee st rfl) hf24) <| wa rfl (v := I (s15_7 + 1)) rfl <| wl_end ?_
         have Hs2_3_8 : OwnR (eInt .i64) 3 w w19 (ZZ Z w.heap.size [ob As2_3, some b1]) As2_3 Cs2_3 s2_3 := (f15_Hs2_3.ext hx18 (mv_ext hx18))
         have bk1_8 : Bk w19 b1 26 #[I p0.rows, I p0.wd, I p0.lo, I p0.hi, .slice A0_0 p0.ts.length c0_0] := (f15_bk1.ext hx18)
         have hS0_0_8 : Sl eTly w19 (ZZ Z w.heap.size [ob As2_3, some b1]) A0_0 c0_0 p0.ts := (f15_hS0_0.mv (mv_ext hx18))
         have hS7_r_8 : Sl (eInt .i64) w19 (ZZ Z w.heap.size [ob As2_3, some b1]) A7_r c7_r r7 := (f15_hS7_r.mv (mv_ext hx18))
         refine lv_round m_ (Nat.lt_succ_self _) (fun st => ?_)
         exact ⟨(orI s15_6 (shlI (1 : Int) s15_7)), (s15_7 + 1), hG, (puts_size _ _).trans st.sz, (puts_defers _ _).trans st.df, (sl_puts st 1).trans hs15_1, (sl_puts st 3).trans hs15_3, (sl_puts st 4).trans hs15_4, (sl_puts st 5).trans hs15_5, (sl_puts st 6).trans rfl, (sl_puts st 7).trans rfl, hp8, Hs2_3_8, bk1_8, hS0_0_8, hS7_r_8⟩
        ·replace hG := cond_f hG hc20
         refine cc_cond_f rfl hc20 <| cc_skip <| lv_block <| lv_next <| cc_region <| wm rfl (v := I s15_7) hs15_7 ?_
         replace hG := i64_bind hG; obtain ⟨hf25, hG⟩ := hG
         refine wd rfl (fun st => x_add (ee st rfl) (ee st rfl) hf25) <| wa rfl (v := I (s15_7 + 1)) rfl <| wl_end ?_
         have Hs2_3_8 : OwnR (eInt .i64) 3 w w19 (ZZ Z w.heap.size [ob As2_3, some b1]) As2_3 Cs2_3 s2_3 := (f15_Hs2_3.ext hx18 (mv_ext hx18))
         have bk1_8 : Bk w19 b1 26 #[I p0.rows, I p0.wd, I p0.lo, I p0.hi, .slice A0_0 p0.ts.length c0_0] := (f15_bk1.ext hx18)
         have hS0_0_8 : Sl eTly w19 (ZZ Z w.heap.size [ob As2_3, some b1]) A0_0 c0_0 p0.ts := (f15_hS0_0.mv (mv_ext hx18))
         have hS7_r_8 : Sl (eInt .i64) w19 (ZZ Z w.heap.size [ob As2_3, some b1]) A7_r c7_r r7 := (f15_hS7_r.mv (mv_ext hx18))
         refine lv_round m_ (Nat.lt_succ_self _) (fun st => ?_)
         exact ⟨s15_6, (s15_7 + 1), hG, (puts_size _ _).trans st.sz, (puts_defers _ _).trans st.df, (sl_puts st 1).trans hs15_1, (sl_puts st 3).trans hs15_3, (sl_puts st 4).trans hs15_4, (sl_puts st 5).trans hs15_5, (sl_puts st 6).trans hs15_6, (sl_puts st 7).trans rfl, hp8, Hs2_3_8, bk1_8, hS0_0_8, hS7_r_8⟩
       ·replace hG := cond_f hG hc16
        refine cc_cond_f rfl hc16 <| cc_exit <| lv_then_exit <| lv_then_exit ?_
        obtain rfl := Option.some.inj hG
        refine lv_to (fun st => ?_)
        exact ⟨rfl, (puts_size _ _).trans st.sz, (puts_defers _ _).trans st.df, (sl_puts st 1).trans hs15_1, (sl_puts st 3).trans hs15_3, (sl_puts st 4).trans hs15_4, (sl_puts st 6).trans hs15_6, hp7, f15_Hs2_3, f15_bk1, f15_hS0_0⟩
     case af15 =>
      rintro e_ fr15a w15a (⟨rfl, hsz15a, hdf15a, hs15a_1, hs15a_3, hs15a_4, hs15a_6, hp15a, g15_Hs2_3, g15_bk1, g15_hS0_0⟩)
      refine lv_fr (X := X0) (N := 45) hsz15a hdf15a <| lv_block_hit <| lv_next <| cc_region <| wm rfl (v := .slice As2_3 s2_3.length Cs2_3) hs15a_3 <| wm rfl (v := I z15) hs15a_6 <| we rfl (fun st => x_buildSlice (e := 3) (vs := #[(0, I z15)]) (cs := #[I z15]) (pm1 (ee st rfl)) (by kernel_rfl)) ?_
      rintro _ w26 ⟨b26, rfl, nb26⟩
      have hp10 : Hp w [some b26, ob As2_3, some b1] w26 := hp15a.new nb26.gr (Nat.le_of_eq nb26.b_eq.symm) (Nat.lt_of_lt_of_eq (Nat.lt_succ_self _) nb26.sz.symm)
      have Hs2_3_10 : OwnR (eInt .i64) 3 w w26 (ZZ Z w.heap.size [some b26, ob As2_3, some b1]) As2_3 Cs2_3 s2_3 := (g15_Hs2_3.ext nb26.gr (mv_new nb26.gr (Nat.le_of_eq nb26.b_eq.symm)))
      replace hG := ifo_bind hG; obtain ⟨hf27, hG⟩ := hG
      refine we rfl (fun st => x_appR (ys := [z15]) Try.underlying43 info_3 rfl rfl (by decide) (ee st rfl) rfl (ee st rfl) Hs2_3_10 (news_bk (css := [[I z15]]) nb26.bk ⟨rfl, trivial⟩ rfl) (by have := hf27; simp only [maxLen]; omega) (by have := hf27; omega) hp10.bl.size (by simp)) ?_
      rintro _ w28 ⟨A28, c28, rfl, hg28, hy28, hO28⟩
      have hp11 : Hp w [some b26, ob A28, some b1] w28 := hp10.row hg28 1 rfl (hp10.ge 1 rfl) hy28
      have hR28 : OwnR (eInt .i64) 3 w w28 (ZZ Z w.heap.size [some b26, ob A28, some b1]) A28 c28 (s2_3 ++ [z15]) := ownR_of hO28 (hp10.mvr hg28 1 rfl (fun k hk => (hy28 k hk).1))
      refine wa rfl (v := .slice A28 ((s2_3 ++ [z15]).length) c28) rfl <| wl_end <| lv_block <| lv_next <| cc_region <| wm rfl (v := I s2_4) hs15a_4 ?_
      replace hG := i64_bind hG; obtain ⟨hf29, hG⟩ := hG
      refine wd rfl (fun st => x_add (ee st rfl) (ee st rfl) hf29) <| wa rfl (v := I (s2_4 + 1)) rfl <| wl_end ?_
      have hp12 : Hp w [ob A28, some b1] w28 := hp11.erase 0
      have hR28_12 : OwnR (eInt .i64) 3 w w28 (ZZ Z w.heap.size [ob A28, some b1]) A28 c28 (s2_3 ++ [z15]) := (hR28.up (mv_erase 0))
      have bk1_12 : Bk w28 b1 26 #[I p0.rows, I p0.wd, I p0.lo, I p0.hi, .slice A0_0 p0.ts.length c0_0] := ((g15_bk1.ext nb26.gr).gr hg28 (hp10.ne 2 1 rfl rfl rfl))
      have hS0_0_12 : Sl eTly w28 (ZZ Z w.heap.size [ob A28, some b1]) A0_0 c0_0 p0.ts := (((g15_hS0_0.mv (mv_new nb26.gr (Nat.le_of_eq nb26.b_eq.symm))).mv (hp10.mvr hg28 1 rfl (fun k hk => (hy28 k hk).1))).mv (mv_erase 0))
      refine lv_round m_ (Nat.lt_succ_self _) (fun st => ?_)
      exact ⟨(s2_3 ++ [z15]), (s2_4 + 1), A28, c28, hG, (puts_size _ _).trans st.sz, (puts_defers _ _).trans st.df, (sl_puts st 1).trans hs15a_1, (sl_puts st 3).trans rfl, (sl_puts st 4).trans rfl, hp12, hR28_12, bk1_12, hS0_0_12⟩
   ·replace hG := cond_f hG hc6
    refine cc_cond_f rfl hc6 <| cc_exit <| lv_then_exit <| lv_then_exit ?_
    obtain rfl := Option.some.inj hG
    have Hs2_3_4 : OwnR (eInt .i64) 3 w w5 (ZZ Z w.heap.size [ob As2_3, some b1]) As2_3 Cs2_3 s2_3 := (f2_Hs2_3.ext hx4 (mv_ext hx4))
    refine lv_to (fun st => ?_)
    exact ⟨rfl, As2_3, Cs2_3, (puts_size _ _).trans st.sz, (puts_defers _ _).trans st.df, (sl_puts st 3).trans hs2_3, hp4, Hs2_3_4⟩
 case af2 =>
  rintro e_ fr2a w2a (⟨rfl, Ae2_0_30, Ce2_0_30, hsz2a, hdf2a, hs2a_3, hp2a, g2_He2_0_30⟩)
  refine lv_fr (X := X0) (N := 45) hsz2a hdf2a <| lv_block_hit <| lv_next <| cc_seq <| cc_region <| wm rfl (v := .slice Ae2_0_30 z2.length Ce2_0_30) hs2a_3 <| wa rfl (v := .slice Ae2_0_30 z2.length Ce2_0_30) rfl <| wl_end <| lv_next <| cc_ret ?_
  obtain rfl := Option.some.inj hG
  refine lv_ret1 rfl rfl ?_
  exact ⟨hp2a.fin, ⟨_, _, rfl, g2_He2_0_30.fin⟩⟩
theorem a37 (K_ : Nat) (p0 : Fld) (p1 : List Int) (A0_0 : Option Addr) (c0_0 : Nat) (A1_0 : Option Addr) (c1_0 : Nat) (Z : Nat → Prop) (w : World) (hS0_0 : Sl eTly w Z A0_0 c0_0 p0.ts) (hS1_0 : Sl (eInt .i64) w Z A1_0 c1_0 p1) (r_ : (List Int)) (hG : G_Leave K_ p0 p1 = some r_) :
    Ret Try.prog 37 #[.agg #[I p0.rows, I p0.wd, I p0.lo, I p0.hi, .slice A0_0 p0.ts.length c0_0], .slice A1_0 p1.length c1_0] w (fun v w' => Ext w w' ∧ (vSl (eInt .i64)).R w' (ZZ Z w.heap.size []) v r_) := by
 unfold G_Leave at hG
 refine ret_of_cc (N := 32) Try.func37 rfl rfl (by simp) ?_
 intro fr0 ha hdf
 have hp_0 := sl_arg (i := 0) (v := .agg #[I p0.rows, I p0.wd, I p0.lo, I p0.hi, .slice A0_0 p0.ts.length c0_0]) ha rfl
 have hp_1 := sl_arg (i := 1) (v := .slice A1_0 p1.length c1_0) ha rfl
 clear ha
 have hp0 := Hp.refl w
 have hS0_0_0 := hS0_0.mv (mv_start w)
 have hS1_0_0 := hS1_0.mv (mv_start w)
 refine cc_seq <| cc_region <| we rfl (fun st => x_box (v := .agg #[I p0.rows, I p0.wd, I p0.lo, I p0.hi, .slice A0_0 p0.ts.length c0_0]) (cs := #[I p0.rows, I p0.wd, I p0.lo, I p0.hi, .slice A0_0 p0.ts.length c0_0]) (ee st hp_0) rfl) ?_
 rintro _ w1 ⟨b1, rfl, nb1⟩
 have hp1 : Hp w [some b1] w1 := hp0.new nb1.gr (Nat.le_of_eq nb1.b_eq.symm) (Nat.lt_of_lt_of_eq (Nat.lt_succ_self _) nb1.sz.symm)
 refine wa rfl (v := .slice none 0 0) rfl <| wl_end <| lv_next <| cc_seq <| cc_region <| wd rfl (fun st => x_loadn (l := [I p0.rows, I p0.wd, I p0.lo, I p0.hi, .slice A0_0 p0.ts.length c0_0]) agg_26 (ee st rfl) nb1.bk rfl rfl) ?_
 have hS0_0_1 : Sl eTly w1 (ZZ Z w.heap.size [some b1]) A0_0 c0_0 p0.ts := (hS0_0_0.mv (mv_new nb1.gr (Nat.le_of_eq nb1.b_eq.symm)))
 replace hG := bind_some hG; obtain ⟨r2, hr2, hG⟩ := hG
 refine we rfl (fun st => x_call0 own_47 (ee st rfl) (am1 (ee st rfl)) (a47 K_ p0 A0_0 c0_0 ZA _ hS0_0_1.all r2 hr2)) ?_
 rintro _ w3 ⟨hx2, rfl⟩
 have hp2 : Hp w [some b1] w3 := hp1.ext hx2
 replace hG := bind_some hG; obtain ⟨r4, hr4, hG⟩ := hG
 refine we rfl (fun st => x_call0 own_49 (ee st rfl) (am1 (ee st rfl)) (a49 K_ r2 (ZZ Z w.heap.size [some b1]) _ r4 hr4)) ?_
 rintro _ w5 ⟨hx4, ⟨A4_r, c4_r, rfl, hS4_r⟩⟩
 have hp3 : Hp w [some b1] w5 := hp2.ext hx4
 have hS4_r := hS4_r.mv (hp2.call (Nat.le_refl _))
 refine wa rfl (v := .slice A4_r r4.length c4_r) rfl <| wl_end <| lv_next <| cc_seq <| cc_seq <| cc_region <| wa rfl (v := I 0) rfl <| wl_end <| lv_next <| cc_block ?_
 replace hG := bind_some hG; obtain ⟨z6, hL6, hG⟩ := hG
 refine cc_join (fun e_ fr_ w_ => (e_ = .exit 0 ∧ ∃ Ae6_0_50 Ce6_0_50, fr_.tmps.size = 32 ∧ fr_.defers = [] ∧ sl fr_ 5 = .slice Ae6_0_50 z6.length Ce6_0_50 ∧ Hp w [some b1] w_ ∧ Sl (eInt .i64) w_ (ZZ Z w.heap.size [some b1]) Ae6_0_50 Ce6_0_50 z6)) ?lp6 ?af6
 case lp6 =>
  clear hG
  refine cc_loop (fun (m_ : Nat) (fr_ : Act) (w_ : World) => ∃ s6_5, ∃ s6_6, ∃ As6_5 Cs6_5, G_Leave_L6 K_ p0 p1 m_ s6_5 s6_6 = some z6 ∧ fr_.tmps.size = 32 ∧ fr_.defers = [] ∧ sl fr_ 1 = .slice A1_0 p1.length c1_0 ∧ sl fr_ 2 = pt b1 0 ∧ sl fr_ 5 = .slice As6_5 s6_5.length Cs6_5 ∧ sl fr_ 6 = I s6_6 ∧ Hp w [some b1] w_ ∧ Sl (eInt .i64) w_ (ZZ Z w.heap.size [some b1]) As6_5 Cs6_5 s6_5 ∧ Bk w_ b1 26 #[I p0.rows, I p0.wd, I p0.lo, I p0.hi, .slice A0_0 p0.ts.length c0_0] ∧ Sl eTly w_ (ZZ Z w.heap.size [some b1]) A0_0 c0_0 p0.ts ∧ Sl (eInt .i64) w_ (ZZ Z w.heap.size [some b1]) A1_0 c1_0 p1) K_ ?in6 ?rd6
  case in6 =>
   intro st
   have bk1_3 : Bk w5 b1 26 #[I p0.rows, I p0.wd, I p0.lo, I p0.hi, .slice A0_0 p0.ts.length c0_0] := ((nb1.bk.ext hx2).ext hx4)
   have hS0_0_3 : Sl eTly w5 (ZZ Z w.heap.size [some b1]) A0_0 c0_0 p0.ts := ((hS0_0_1.mv (mv_ext hx2)).mv (mv_ext hx4))
   have hS1_0_3 : Sl (eInt .i64) w5 (ZZ Z w.heap.size [some b1]) A1_0 c1_0 p1 := (((hS1_0_0.mv (mv_new nb1.gr (Nat.le_of_eq nb1.b_eq.symm))).mv (mv_ext hx2)).mv (mv_ext hx4))
   exact ⟨r4, (0 : Int), A4_r, c4_r, hL6, (puts_size _ _).trans st.sz, (puts_defers _ _).trans st.df, (sl_puts st 1).trans hp_1, (sl_puts st 2).trans rfl, (sl_puts st 5).trans rfl, (sl_puts st 6).trans rfl, hp3, hS4_r, bk1_3, hS0_0_3, hS1_0_3⟩
  case rd6 =>
   rintro (_ | m_) fr6 w6r ⟨s6_5, s6_6, As6_5, Cs6_5, hL6, hsz6, hdf6, hs6_1, hs6_2, hs6_5, hs6_6, hp4, f6_Hs6_5, f6_bk1, f6_hS0_0, f6_hS1_0⟩
   ·exact absurd (show none = some _ from hL6) (by simp)
   rw [G_Leave_L6.eq_2] at hL6
   have hG := hL6; clear hL6
   refine round_cc (N := 32) hsz6 hdf6 <| cc_seq <| cc_seq <| cc_region <| wm rfl (v := I s6_6) hs6_6 <| wd rfl (fun st => x_loadn (l := [I p0.rows, I p0.wd, I p0.lo, I p0.hi, .slice A0_0 p0.ts.length c0_0]) agg_26 (ee st hs6_2) f6_bk1 rfl rfl) ?_
   replace hG := bind_some hG; obtain ⟨r7, hr7, hG⟩ := hG
   refine we rfl (fun st => x_call0 own_47 (ee st rfl) (am1 (ee st rfl)) (a47 K_ p0 A0_0 c0_0 ZA _ f6_hS0_0.all r7 hr7)) ?_
   rintro _ w8 ⟨hx7, rfl⟩
   have hp5 : Hp w [some b1] w8 := hp4.ext hx7
   refine wd rfl (fun st => x_leq (ee st rfl) (ee st rfl)) <| wl_end <| lv_next ?_
   rcases bool_cases (decide (s6_6 ≤ r7)) with hc9 | hc9
   ·replace hG := cond_t hG hc9
    refine cc_cond_t rfl hc9 <| cc_skip <| lv_next <| cc_seq <| cc_block <| cc_seq <| cc_region <| wm rfl (v := I s6_6) hs6_6 ?_
    replace hG := bind_some hG; obtain ⟨r10, hr10, hG⟩ := hG
    refine we rfl (fun st => x_call0 own_49 (ee st rfl) (am1 (ee st rfl)) (a49 K_ s6_6 (ZZ Z w.heap.size [some b1]) _ r10 hr10)) ?_
    rintro _ w11 ⟨hx10, ⟨A10_r, c10_r, rfl, hS10_r⟩⟩
    have hp6 : Hp w [some b1] w11 := hp5.ext hx10
    have hS10_r := hS10_r.mv (hp5.call (Nat.le_refl _))
    refine wa rfl (v := .slice A10_r r10.length c10_r) rfl <| wl_end <| lv_next <| cc_seq <| cc_region <| wm rfl (v := .slice A10_r r10.length c10_r) rfl <| wm rfl (v := .slice As6_5 s6_5.length Cs6_5) hs6_5 ?_
    have Hs6_5_6 : Sl (eInt .i64) w11 (ZZ Z w.heap.size [some b1]) As6_5 Cs6_5 s6_5 := ((f6_Hs6_5.mv (mv_ext hx7)).mv (mv_ext hx10))
    replace hG := bind_some hG; obtain ⟨r12, hr12, hG⟩ := hG
    refine we rfl (fun st => x_call0 own_48 (ee st rfl) (am2 (ee st rfl) (ee st rfl)) (a48 K_ r10 s6_5 A10_r c10_r As6_5 Cs6_5 ZA _ hS10_r.all Hs6_5_6.all r12 hr12)) ?_
    rintro _ w13 ⟨hx12, rfl⟩
    have hp7 : Hp w [some b1] w13 := hp6.ext hx12
    refine wm rfl (v := .bool r12) rfl ?_
    rcases bool_cases (r12) with hc14 | hc14
    ·replace hG := cond_t hG hc14
     refine wl_detg rfl rfl (guard_eq rfl hc14) rfl (by decide) (fun st => x_move (v := .slice A1_0 p1.length c1_0) (ee st hs6_1)) ?_
     have bk1_7 : Bk w13 b1 26 #[I p0.rows, I p0.wd, I p0.lo, I p0.hi, .slice A0_0 p0.ts.length c0_0] := (((f6_bk1.ext hx7).ext hx10).ext hx12)
     refine wl_detg rfl rfl (guard_eq rfl hc14) rfl (by decide) (fun st => x_loadn (l := [I p0.rows, I p0.wd, I p0.lo, I p0.hi, .slice A0_0 p0.ts.length c0_0]) agg_26 (ee st hs6_2) bk1_7 rfl rfl) ?_
     have hS0_0_7 : Sl eTly w13 (ZZ Z w.heap.size [some b1]) A0_0 c0_0 p0.ts := (((f6_hS0_0.mv (mv_ext hx7)).mv (mv_ext hx10)).mv (mv_ext hx12))
     replace hG := bind_some hG; obtain ⟨r15, hr15, hG⟩ := hG
     refine wl_exg rfl rfl (guard_eq rfl hc14) rfl (by decide) (fun st => x_call0 own_47 (ee st rfl) (am1 (ee st rfl)) (a47 K_ p0 A0_0 c0_0 ZA _ hS0_0_7.all r15 hr15)) ?_
     rintro _ w16 ⟨hx15, rfl⟩
     have hp8 : Hp w [some b1] w16 := hp7.ext hx15
     refine wl_detg rfl rfl (guard_eq rfl hc14) rfl (by decide) (fun st => x_move (v := I s6_6) (ee st hs6_6)) ?_
     replace hG := bitO_bind hG; obtain ⟨hf17, hG⟩ := hG
     refine wl_detg rfl rfl (guard_eq rfl hc14) rfl (by decide) (fun st => x_andNot (ee st rfl) (ee st rfl) hf17) ?_
     have hS1_0_8 : Sl (eInt .i64) w16 (ZZ Z w.heap.size [some b1]) A1_0 c1_0 p1 := ((((f6_hS1_0.mv (mv_ext hx7)).mv (mv_ext hx10)).mv (mv_ext hx12)).mv (mv_ext hx15))
     replace hG := bind_some hG; obtain ⟨r18, hr18, hG⟩ := hG
     refine wl_exg rfl rfl (guard_eq rfl hc14) rfl (by decide) (fun st => x_call0 own_85 (ee st rfl) (am2 (ee st rfl) (ee st rfl)) (a85 K_ p1 (andNotI r15 s6_6) A1_0 c1_0 ZA _ hS1_0_8.all r18 hr18)) ?_
     rintro _ w19 ⟨hx18, rfl⟩
     have hp9 : Hp w [some b1] w19 := hp8.ext hx18
     refine wd rfl (fun st => x_pick_t (v := .bool r18) (ee st rfl) hc14 (ee st rfl)) <| wl_end <| lv_next ?_
     rcases bool_cases (r18) with hc20 | hc20
     ·replace hG := cond_t hG hc20
      refine cc_cond_t rfl hc20 <| cc_region <| wm rfl (v := .slice A10_r r10.length c10_r) rfl <| wa rfl (v := .slice A10_r r10.length c10_r) rfl <| wl_end <| lv_block <| lv_next <| cc_region <| wm rfl (v := I s6_6) hs6_6 ?_
      replace hG := i64_bind hG; obtain ⟨hf21, hG⟩ := hG
      refine wd rfl (fun st => x_add (ee st rfl) (ee st rfl) hf21) <| wa rfl (v := I (s6_6 + 1)) rfl <| wl_end ?_
      have hS10_r_9 : Sl (eInt .i64) w19 (ZZ Z w.heap.size [some b1]) A10_r c10_r r10 := (((hS10_r.mv (mv_ext hx12)).mv (mv_ext hx15)).mv (mv_ext hx18))
      have bk1_9 : Bk w19 b1 26 #[I p0.rows, I p0.wd, I p0.lo, I p0.hi, .slice A0_0 p0.ts.length c0_0] := ((bk1_7.ext hx15).ext hx18)
      have hS0_0_9 : Sl eTly w19 (ZZ Z w.heap.size [some b1]) A0_0 c0_0 p0.ts := ((hS0_0_7.mv (mv_ext hx15)).mv (mv_ext hx18))
      have hS1_0_9 : Sl (eInt .i64) w19 (ZZ Z w.heap.size [some b1]) A1_0 c1_0 p1 := (hS1_0_8.mv (mv_ext hx18))
      refine lv_round m_ (Nat.lt_succ_self _) (fun st => ?_)
      exact ⟨r10, (s6_6 + 1), A10_r, c10_r, hG, (puts_size _ _).trans st.sz, (puts_defers _ _).trans st.df, (sl_puts st 1).trans hs6_1, (sl_puts st 2).trans hs6_2, (sl_puts st 5).trans rfl, (sl_puts st 6).trans rfl, hp9, hS10_r_9, bk1_9, hS0_0_9, hS1_0_9⟩
     ·replace hG := cond_f hG hc20
      refine cc_cond_f rfl hc20 <| cc_skip <| lv_block <| lv_next <| cc_region <| wm rfl (v := I s6_6) hs6_6 ?_
      replace hG := i64_bind hG; obtain ⟨hf22, hG⟩ := hG
      refine wd rfl (fun st => x_add (ee st rfl) (ee st rfl) hf22) <| wa rfl (v := I (s6_6 + 1)) rfl <| wl_end ?_
      have Hs6_5_9 : Sl (eInt .i64) w19 (ZZ Z w.heap.size [some b1]) As6_5 Cs6_5 s6_5 := (((Hs6_5_6.mv (mv_ext hx12)).mv (mv_ext hx15)).mv (mv_ext hx18))
      have bk1_9 : Bk w19 b1 26 #[I p0.rows, I p0.wd, I p0.lo, I p0.hi, .slice A0_0 p0.ts.length c0_0] := ((bk1_7.ext hx15).ext hx18)
      have hS0_0_9 : Sl eTly w19 (ZZ Z w.heap.size [some b1]) A0_0 c0_0 p0.ts := ((hS0_0_7.mv (mv_ext hx15)).mv (mv_ext hx18))
      have hS1_0_9 : Sl (eInt .i64) w19 (ZZ Z w.heap.size [some b1]) A1_0 c1_0 p1 := (hS1_0_8.mv (mv_ext hx18))
      refine lv_round m_ (Nat.lt_succ_self _) (fun st => ?_)
      exact ⟨s6_5, (s6_6 + 1), As6_5, Cs6_5, hG, (puts_size _ _).trans st.sz, (puts_defers _ _).trans st.df, (sl_puts st 1).trans hs6_1, (sl_puts st 2).trans hs6_2, (sl_puts st 5).trans hs6_5, (sl_puts st 6).trans rfl, hp9, Hs6_5_9, bk1_9, hS0_0_9, hS1_0_9⟩
    ·replace hG := cond_f hG hc14
     refine wl_skip (c := false) rfl rfl (guard_eq rfl hc14) (by decide) rfl (by decide) <| wl_skip (c := false) rfl rfl (guard_eq rfl hc14) (by decide) rfl (by decide) <| wl_skip (c := false) rfl rfl (guard_eq rfl hc14) (by decide) rfl (by decide) <| wl_skip (c := false) rfl rfl (guard_eq rfl hc14) (by decide) rfl (by decide) <| wl_skip (c := false) rfl rfl (guard_eq rfl hc14) (by decide) rfl (by decide) <| wl_skip (c := false) rfl rfl (guard_eq rfl hc14) (by decide) rfl (by decide) <| wd rfl (fun st => x_pick_f (v := .bool false) (ee st rfl) hc14 (ee st rfl)) <| wl_end <| lv_next <| cc_cond_f rfl rfl <| cc_skip <| lv_block <| lv_next <| cc_region <| wm rfl (v := I s6_6) hs6_6 ?_
     replace hG := i64_bind hG; obtain ⟨hf23, hG⟩ := hG
     refine wd rfl (fun st => x_add (ee st rfl) (ee st rfl) hf23) <| wa rfl (v := I (s6_6 + 1)) rfl <| wl_end ?_
     have Hs6_5_7 : Sl (eInt .i64) w13 (ZZ Z w.heap.size [some b1]) As6_5 Cs6_5 s6_5 := (Hs6_5_6.mv (mv_ext hx12))
     have bk1_7 : Bk w13 b1 26 #[I p0.rows, I p0.wd, I p0.lo, I p0.hi, .slice A0_0 p0.ts.length c0_0] := (((f6_bk1.ext hx7).ext hx10).ext hx12)
     have hS0_0_7 : Sl eTly w13 (ZZ Z w.heap.size [some b1]) A0_0 c0_0 p0.ts := (((f6_hS0_0.mv (mv_ext hx7)).mv (mv_ext hx10)).mv (mv_ext hx12))
     have hS1_0_7 : Sl (eInt .i64) w13 (ZZ Z w.heap.size [some b1]) A1_0 c1_0 p1 := (((f6_hS1_0.mv (mv_ext hx7)).mv (mv_ext hx10)).mv (mv_ext hx12))
     refine lv_round m_ (Nat.lt_succ_self _) (fun st => ?_)
     exact ⟨s6_5, (s6_6 + 1), As6_5, Cs6_5, hG, (puts_size _ _).trans st.sz, (puts_defers _ _).trans st.df, (sl_puts st 1).trans hs6_1, (sl_puts st 2).trans hs6_2, (sl_puts st 5).trans hs6_5, (sl_puts st 6).trans rfl, hp7, Hs6_5_7, bk1_7, hS0_0_7, hS1_0_7⟩
   ·replace hG := cond_f hG hc9
    refine cc_cond_f rfl hc9 <| cc_exit <| lv_then_exit <| lv_then_exit ?_
    obtain rfl := Option.some.inj hG
    have Hs6_5_5 : Sl (eInt .i64) w8 (ZZ Z w.heap.size [some b1]) As6_5 Cs6_5 s6_5 := (f6_Hs6_5.mv (mv_ext hx7))
    refine lv_to (fun st => ?_)
    exact ⟨rfl, As6_5, Cs6_5, (puts_size _ _).trans st.sz, (puts_defers _ _).trans st.df, (sl_puts st 5).trans hs6_5, hp5, Hs6_5_5⟩
 case af6 =>
  rintro e_ fr6a w6a (⟨rfl, Ae6_0_50, Ce6_0_50, hsz6a, hdf6a, hs6a_5, hp6a, g6_He6_0_50⟩)
  refine lv_fr (X := X0) (N := 32) hsz6a hdf6a <| lv_block_hit <| lv_next <| cc_seq <| cc_region <| wm rfl (v := .slice Ae6_0_50 z6.length Ce6_0_50) hs6a_5 <| wa rfl (v := .slice Ae6_0_50 z6.length Ce6_0_50) rfl <| wl_end <| lv_next <| cc_ret ?_
  obtain rfl := Option.some.inj hG
  refine lv_ret1 rfl rfl ?_
  exact ⟨hp6a.fin, ⟨_, _, rfl, g6_He6_0_50.mv mv_drop⟩⟩
theorem a38 (K_ : Nat) (p0 : Fld) (p1 : List Int) (A0_0 : Option Addr) (c0_0 : Nat) (A1_0 : Option Addr) (c1_0 : Nat) (Z : Nat → Prop) (w : World) (hS0_0 : Sl eTly w Z A0_0 c0_0 p0.ts) (hS1_0 : Sl (eInt .i64) w Z A1_0 c1_0 p1) (r_ : Int) (hG : G_First K_ p0 p1 = some r_) :
    Ret Try.prog 38 #[.agg #[I p0.rows, I p0.wd, I p0.lo, I p0.hi, .slice A0_0 p0.ts.length c0_0], .slice A1_0 p1.length c1_0] w (fun v w' => Ext w w' ∧ (vInt .i64).R w' (ZZ Z w.heap.size []) v r_) := by
 unfold G_First at hG
 refine ret_of_cc (N := 21) Try.func38 rfl rfl (by simp) ?_
 intro fr0 ha hdf
 have hp_0 := sl_arg (i := 0) (v := .agg #[I p0.rows, I p0.wd, I p0.lo, I p0.hi, .slice A0_0 p0.ts.length c0_0]) ha rfl
 have hp_1 := sl_arg (i := 1) (v := .slice A1_0 p1.length c1_0) ha rfl
 clear ha
 have hp0 := Hp.refl w
 have hS0_0_0 := hS0_0.mv (mv_start w)
 have hS1_0_0 := hS1_0.mv (mv_start w)
 refine cc_seq <| cc_region <| we rfl (fun st => x_box (v := .agg #[I p0.rows, I p0.wd, I p0.lo, I p0.hi, .slice A0_0 p0.ts.length c0_0]) (cs := #[I p0.rows, I p0.wd, I p0.lo, I p0.hi, .slice A0_0 p0.ts.length c0_0]) (ee st hp_0) rfl) ?_
 rintro _ w1 ⟨b1, rfl, nb1⟩
 have hp1 : Hp w [some b1] w1 := hp0.new nb1.gr (Nat.le_of_eq nb1.b_eq.symm) (Nat.lt_of_lt_of_eq (Nat.lt_succ_self _) nb1.sz.symm)
 refine wa rfl (v := I 0) rfl <| wl_end <| lv_next <| cc_seq <| cc_seq <| cc_region <| wa rfl (v := I 0) rfl <| wl_end <| lv_next <| cc_block ?_
 replace hG := bind_some hG; obtain ⟨z2, hL2, hG⟩ := hG
 refine cc_join (fun e_ fr_ w_ => (e_ = .ret ∧ ∃ q2, z2 = .inl q2 ∧ fr_.tmps.size = 21 ∧ fr_.defers = [] ∧ sl fr_ 4 = I q2 ∧ Hp w [some b1] w_) ∨ (e_ = .exit 0 ∧ ∃ q2, z2 = .inr q2 ∧ fr_.tmps.size = 21 ∧ fr_.defers = [] ∧ Hp w [some b1] w_)) ?lp2 ?af2
 case lp2 =>
  clear hG
  refine cc_loop (fun (m_ : Nat) (fr_ : Act) (w_ : World) => ∃ s2_5, G_First_L2 K_ p0 p1 m_ s2_5 = some z2 ∧ fr_.tmps.size = 21 ∧ fr_.defers = [] ∧ sl fr_ 1 = .slice A1_0 p1.length c1_0 ∧ sl fr_ 2 = pt b1 0 ∧ sl fr_ 5 = I s2_5 ∧ Hp w [some b1] w_ ∧ Bk w_ b1 26 #[I p0.rows, I p0.wd, I p0.lo, I p0.hi, .slice A0_0 p0.ts.length c0_0] ∧ Sl eTly w_ (ZZ Z w.heap.size [some b1]) A0_0 c0_0 p0.ts ∧ Sl (eInt .i64) w_ (ZZ Z w.heap.size [some b1]) A1_0 c1_0 p1) K_ ?in2 ?rd2
  case in2 =>
   intro st
   have hS0_0_1 : Sl eTly w1 (ZZ Z w.heap.size [some b1]) A0_0 c0_0 p0.ts := (hS0_0_0.mv (mv_new nb1.gr (Nat.le_of_eq nb1.b_eq.symm)))
   have hS1_0_1 : Sl (eInt .i64) w1 (ZZ Z w.heap.size [some b1]) A1_0 c1_0 p1 := (hS1_0_0.mv (mv_new nb1.gr (Nat.le_of_eq nb1.b_eq.symm)))
   exact ⟨(0 : Int), hL2, (puts_size _ _).trans st.sz, (puts_defers _ _).trans st.df, (sl_puts st 1).trans hp_1, (sl_puts st 2).trans rfl, (sl_puts st 5).trans rfl, hp1, nb1.bk, hS0_0_1, hS1_0_1⟩
  case rd2 =>
   rintro (_ | m_) fr2 w2r ⟨s2_5, hL2, hsz2, hdf2, hs2_1, hs2_2, hs2_5, hp2, f2_bk1, f2_hS0_0, f2_hS1_0⟩
   ·exact absurd (show none = some _ from hL2) (by simp)
   rw [G_First_L2.eq_2] at hL2
   have hG := hL2; clear hL2
   refine round_cc (N := 21) hsz2 hdf2 <| cc_seq <| cc_seq <| cc_region <| wm rfl (v := I s2_5) hs2_5 <| wd rfl (fun st => x_fieldAddr (ee st hs2_2) (fz_26_3 _ _)) <| wd rfl (fun st => x_load1 (v := .slice A0_0 p0.ts.length c0_0) one_24 (ee st rfl) f2_bk1 rfl) <| wd rfl (fun st => x_len Try.underlying24 (ee st rfl)) <| wd rfl (fun st => x_lss (ee st rfl) (ee st rfl)) <| wl_end <| lv_next ?_
   rcases bool_cases (decide (s2_5 < (p0.ts.length : Int))) with hc3 | hc3
   ·replace hG := cond_t hG hc3
    refine cc_cond_t rfl hc3 <| cc_skip <| lv_next <| cc_seq <| cc_block <| cc_seq <| cc_region <| wm rfl (v := .slice A1_0 p1.length c1_0) hs2_1 <| wm rfl (v := I s2_5) hs2_5 ?_
    replace hG := cvO_bind hG; obtain ⟨hf4, hG⟩ := hG
    refine wd rfl (fun st => x_conv (k := .u64) sm_3 Try.underlying63 (ee st rfl) hf4) ?_
    replace hG := shlO_bind hG; obtain ⟨hf5, hG⟩ := hG
    refine wd rfl (fun st => x_shl (ee st rfl) (ee st rfl) hf5) ?_
    replace hG := i64_bind hG; obtain ⟨hf6, hG⟩ := hG
    refine wd rfl (fun st => x_sub (ee st rfl) (ee st rfl) hf6) ?_
    replace hG := bind_some hG; obtain ⟨r7, hr7, hG⟩ := hG
    refine we rfl (fun st => x_call0 own_85 (ee st rfl) (am2 (ee st rfl) (ee st rfl)) (a85 K_ p1 ((shlI (2 : Int) s2_5) - 1) A1_0 c1_0 ZA _ f2_hS1_0.all r7 hr7)) ?_
    rintro _ w8 ⟨hx7, rfl⟩
    have hp3 : Hp w [some b1] w8 := hp2.ext hx7
    refine wd rfl (fun st => x_not (ee st rfl)) <| wl_end <| lv_next ?_
    rcases bool_cases (!r7) with hc9 | hc9
    ·replace hG := cond_t hG hc9
     have hc9_10 : r7 = false := by simpa using hc9
     refine cc_cond_t rfl hc9 <| cc_seq <| cc_region <| wm rfl (v := I s2_5) hs2_5 <| wa rfl (v := I s2_5) rfl <| wl_end <| lv_next <| cc_ret <| lv_block_ret <| lv_then_ret <| lv_then_ret ?_
     obtain rfl := Option.some.inj hG
     refine lv_to (fun st => ?_)
     exact .inl ⟨rfl, s2_5, rfl, (puts_size _ _).trans st.sz, (puts_defers _ _).trans st.df, (sl_puts st 4).trans rfl, hp3⟩
    ·replace hG := cond_f hG hc9
     have hc9_11 : r7 = true := by simpa using hc9
     refine cc_cond_f rfl hc9 <| cc_skip <| lv_block <| lv_next <| cc_region <| wm rfl (v := I s2_5) hs2_5 ?_
     replace hG := i64_bind hG; obtain ⟨hf12, hG⟩ := hG
     refine wd rfl (fun st => x_add (ee st rfl) (ee st rfl) hf12) <| wa rfl (v := I (s2_5 + 1)) rfl <| wl_end ?_
     have bk1_3 : Bk w8 b1 26 #[I p0.rows, I p0.wd, I p0.lo, I p0.hi, .slice A0_0 p0.ts.length c0_0] := (f2_bk1.ext hx7)
     have hS0_0_3 : Sl eTly w8 (ZZ Z w.heap.size [some b1]) A0_0 c0_0 p0.ts := (f2_hS0_0.mv (mv_ext hx7))
     have hS1_0_3 : Sl (eInt .i64) w8 (ZZ Z w.heap.size [some b1]) A1_0 c1_0 p1 := (f2_hS1_0.mv (mv_ext hx7))
     refine lv_round m_ (Nat.lt_succ_self _) (fun st => ?_)
     exact ⟨(s2_5 + 1), hG, (puts_size _ _).trans st.sz, (puts_defers _ _).trans st.df, (sl_puts st 1).trans hs2_1, (sl_puts st 2).trans hs2_2, (sl_puts st 5).trans rfl, hp3, bk1_3, hS0_0_3, hS1_0_3⟩
   ·replace hG := cond_f hG hc3
    refine cc_cond_f rfl hc3 <| cc_exit <| lv_then_exit <| lv_then_exit ?_
    obtain rfl := Option.some.inj hG
    refine lv_to (fun st => ?_)
    exact .inr ⟨rfl, (), rfl, (puts_size _ _).trans st.sz, (puts_defers _ _).trans st.df, hp2⟩
 case af2 =>
  rintro e_ fr2a w2a (⟨rfl, q2, rfl, hsz2a, hdf2a, hs2a_4, hp2a⟩ | ⟨rfl, q2, rfl, hsz2a, hdf2a, hp2a⟩)
  ·skip
   replace hG := inl_some hG
   refine lv_fr (X := X0) (N := 21) hsz2a hdf2a <| lv_block_ret <| lv_then_ret ?_
   obtain rfl := Option.some.inj hG
   refine lv_ret1 rfl hs2a_4 ?_
   exact ⟨hp2a.fin, rfl⟩
  ·skip
   replace hG := inr_some hG
   refine lv_fr (X := X0) (N := 21) hsz2a hdf2a <| lv_block_hit <| lv_next <| cc_seq <| cc_region <| wa rfl (v := I (-1)) rfl <| wl_end <| lv_next <| cc_ret ?_
   obtain rfl := Option.some.inj hG
   refine lv_ret1 rfl rfl ?_
   exact ⟨hp2a.fin, rfl⟩
end Go.Proofs.Ythogdgkafaclaaa
end
