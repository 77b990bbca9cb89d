import Derived.Test.YthogdgkafaclaaaBC4
import Derived.WalkKit
import Derived.KernelRfl
import Derived.WalkSpells
import Derived.WalkLawsBesides
import Derived.Maps.AppendAt
import Derived.OrdersIn
import Derived.RangeFuncIn
import Derived.RangeFuncLeaves
import Derived.RangeFuncRecord
import Derived.RangeFuncSeq
import Derived.Scope
import Derived.DeepKeys3
import Derived.Laws.CopyRow
import Derived.Shelf.Sort.Plain
import Derived.Ground.Names2Prog
import Derived.Shelf.Slices.Clone
import Derived.Shelf.Slices.CompactI
import Derived.Shelf.Slices.Cells
import Derived.Shelf.Slices.In.SortNone
import Derived.Ground.SlgnProg
import Derived.Shelf.SlicesE.Clone
import Derived.Sort.OwnSortedInts
import Derived.Lib.RowBridge
import Derived.Test.YthogdgkafaclaaaProg
/-
  The contracts of the functions of the program and of the reference, and the logic that they are proved in: the base that several claims of this seat share.
-/
set_option linter.all false
section
set_option linter.unusedVariables false
set_option linter.unusedSimpArgs false
namespace Go.Proofs.Ythogdgkafaclaaa
open Go.RowKit
open AF
theorem mixedA5 : Try.prog.follows .mixedOrders = true := by kernel_rfl
attribute [local irreducible] Ex1 WL CC CW LV Ret ObOp Agg One Own
theorem a59 (K_ : Nat) (p0 : List (List Int)) (p1 : Int) (p2 : Int) (A0_0 : Option Addr) (c0_0 : Nat) (Z : Nat → Prop) (w : World) (hS0_0 : Sl (eSl (eInt .i64)) w Z A0_0 c0_0 p0) (r_ : Bool) (hG : G_Settles K_ p0 p1 p2 = some r_) :
    Ret Try.prog 59 #[.slice A0_0 p0.length c0_0, I p1, I p2] w (fun v w' => Ext w w' ∧ vBool.R w' (ZZ Z w.heap.size []) v r_) := by
 unfold G_Settles at hG
 refine ret_of_cc (N := 83) Try.func59 rfl rfl (by simp) ?_
 intro fr0 ha hdf
 have hp_0 := sl_arg (i := 0) (v := .slice A0_0 p0.length c0_0) ha rfl
 have hp_1 := sl_arg (i := 1) (v := I p1) ha rfl
 have hp_2 := sl_arg (i := 2) (v := I p2) ha rfl
 clear ha
 have hp0 := Hp.refl w
 have hS0_0_0 := hS0_0.mv (mv_start w)
 refine cc_seq <| cc_region <| wa rfl (v := .bool false) rfl <| wl_end <| lv_next <| cc_seq <| cc_seq <| cc_region <| wa rfl (v := I 0) rfl <| wl_end <| lv_next <| cc_block ?_
 replace hG := bind_some hG; obtain ⟨z1, hL1, hG⟩ := hG
 refine cc_join (fun e_ fr_ w_ => (e_ = .ret ∧ ∃ q1, z1 = .inl q1 ∧ fr_.tmps.size = 83 ∧ fr_.defers = [] ∧ sl fr_ 6 = .bool q1 ∧ Hp w [] w_) ∨ (e_ = .exit 0 ∧ ∃ q1, z1 = .inr q1 ∧ fr_.tmps.size = 83 ∧ fr_.defers = [] ∧ Hp w [] w_)) ?lp1 ?af1
 case lp1 =>
  clear hG
  refine cc_loop (fun (m_ : Nat) (fr_ : Act) (w_ : World) => ∃ s1_7, G_Settles_L1 K_ p0 p1 p2 m_ s1_7 = some z1 ∧ fr_.tmps.size = 83 ∧ fr_.defers = [] ∧ sl fr_ 0 = .slice A0_0 p0.length c0_0 ∧ sl fr_ 1 = I p1 ∧ sl fr_ 2 = I p2 ∧ sl fr_ 7 = I s1_7 ∧ Hp w [] w_ ∧ Sl (eSl (eInt .i64)) w_ (ZZ Z w.heap.size []) A0_0 c0_0 p0) K_ ?in1 ?rd1
  case in1 =>
   intro st
   exact ⟨(0 : Int), hL1, (puts_size _ _).trans st.sz, (puts_defers _ _).trans st.df, (sl_puts st 0).trans hp_0, (sl_puts st 1).trans hp_1, (sl_puts st 2).trans hp_2, (sl_puts st 7).trans rfl, hp0, hS0_0_0⟩
  case rd1 =>
   rintro (_ | m_) fr1 w1r ⟨s1_7, hL1, hsz1, hdf1, hs1_0, hs1_1, hs1_2, hs1_7, hp1, f1_hS0_0⟩
   ·exact absurd (show none = some _ from hL1) (by simp)
   rw [G_Settles_L1.eq_2] at hL1
   have hG := hL1; clear hL1
   refine round_cc (N := 83) hsz1 hdf1 <| cc_seq <| cc_seq <| cc_region <| wm rfl (v := I s1_7) hs1_7 <| wm rfl (v := .slice A0_0 p0.length c0_0) hs1_0 <| wd rfl (fun st => x_len Try.underlying38 (ee st rfl)) <| wd rfl (fun st => x_lss (ee st rfl) (ee st rfl)) <| wl_end <| lv_next ?_
   rcases bool_cases (decide (s1_7 < (p0.length : Int))) with hc2 | hc2
   ·replace hG := cond_t hG hc2
    refine cc_cond_t rfl hc2 <| cc_skip <| lv_next <| cc_seq <| cc_block <| cc_seq <| cc_region <| wa rfl (v := I 0) rfl <| wl_end <| lv_next <| cc_block ?_
    replace hG := bind_some hG; obtain ⟨z3, hL3, hG⟩ := hG
    refine cc_join (fun e_ fr_ w_ => (e_ = .ret ∧ ∃ q3, z3 = .inl q3 ∧ fr_.tmps.size = 83 ∧ fr_.defers = [] ∧ sl fr_ 6 = .bool q3 ∧ Hp w [] w_) ∨ (e_ = .exit 2 ∧ ∃ q3, z3 = .inr q3 ∧ fr_.tmps.size = 83 ∧ fr_.defers = [] ∧ sl fr_ 0 = .slice A0_0 p0.length c0_0 ∧ sl fr_ 1 = I p1 ∧ sl fr_ 2 = I p2 ∧ sl fr_ 7 = I s1_7 ∧ Hp w [] w_ ∧ Sl (eSl (eInt .i64)) w_ (ZZ Z w.heap.size []) A0_0 c0_0 p0)) ?lp3 ?af3
    case lp3 =>
     clear hG
     refine cc_loop (fun (m_ : Nat) (fr_ : Act) (w_ : World) => ∃ s3_8, G_Settles_L3 K_ p0 p1 p2 s1_7 m_ s3_8 = some z3 ∧ fr_.tmps.size = 83 ∧ fr_.defers = [] ∧ sl fr_ 0 = .slice A0_0 p0.length c0_0 ∧ sl fr_ 1 = I p1 ∧ sl fr_ 2 = I p2 ∧ sl fr_ 7 = I s1_7 ∧ sl fr_ 8 = I s3_8 ∧ Hp w [] w_ ∧ Sl (eSl (eInt .i64)) w_ (ZZ Z w.heap.size []) A0_0 c0_0 p0) K_ ?in3 ?rd3
     case in3 =>
      intro st
      exact ⟨(0 : Int), hL3, (puts_size _ _).trans st.sz, (puts_defers _ _).trans st.df, (sl_puts st 0).trans hs1_0, (sl_puts st 1).trans hs1_1, (sl_puts st 2).trans hs1_2, (sl_puts st 7).trans hs1_7, (sl_puts st 8).trans rfl, hp1, f1_hS0_0⟩
     case rd3 =>
      rintro (_ | m_) fr3 w3r ⟨s3_8, hL3, hsz3, hdf3, hs3_0, hs3_1, hs3_2, hs3_7, hs3_8, hp2, f3_hS0_0⟩
      ·exact absurd (show none = some _ from hL3) (by simp)
      rw [G_Settles_L3.eq_2] at hL3
      have hG := hL3; clear hL3
      refine round_cc (N := 83) hsz3 hdf3 <| cc_seq <| cc_seq <| cc_region <| wm rfl (v := I s3_8) hs3_8 <| wm rfl (v := I s1_7) hs3_7 <| wd rfl (fun st => x_lss (ee st rfl) (ee st rfl)) <| wl_end <| lv_next ?_
      rcases bool_cases (decide (s3_8 < s1_7)) with hc4 | hc4
      ·replace hG := cond_t hG hc4
       refine cc_cond_t rfl hc4 <| cc_skip <| lv_next <| cc_seq <| cc_block <| cc_seq ?_
       replace hG := idx_bind hG; obtain ⟨i6, x6, hi6, hx6, hl6, hG⟩ := hG
       obtain ⟨b6, o6, _, hA6, ⟨A6_e, c6_e, rfl, hS6_e⟩, hz6⟩ := Sl.elem1 f3_hS0_0 rfl hx6
       replace hG := idx_bind hG; obtain ⟨i7, x7, hi7, hx7, hl7, hG⟩ := hG
       obtain ⟨b7, o7, _, hA7, ⟨A7_e, c7_e, rfl, hS7_e⟩, hz7⟩ := Sl.elem1 f3_hS0_0 rfl hx7
       replace hG := i64_bind hG; obtain ⟨hf8, hG⟩ := hG
       replace hG := bind_some hG; obtain ⟨r9, hr9, hG⟩ := hG
       replace hG := idx_bind hG; obtain ⟨i10, x10, hi10, hx10, hl10, hG⟩ := hG
       obtain ⟨b10, o10, _, hA10, ⟨A10_e, c10_e, rfl, hS10_e⟩, hz10⟩ := Sl.elem1 f3_hS0_0 rfl hx10
       replace hG := idx_bind hG; obtain ⟨i11, x11, hi11, hx11, hl11, hG⟩ := hG
       obtain ⟨b11, o11, _, hA11, ⟨A11_e, c11_e, rfl, hS11_e⟩, hz11⟩ := Sl.elem1 f3_hS0_0 rfl hx11
       replace hG := i64_bind hG; obtain ⟨hf12, hG⟩ := hG
       replace hG := bind_some hG; obtain ⟨r13, hr13, hG⟩ := hG
       refine cc_anyM0 25 [Kc (.slice A0_0 p0.length c0_0), Kc (I s1_7), Kc (pt b6 (o6 + i6)), Kc (.slice A6_e x6.length c6_e), Kc (I p1), Kc (.slice A0_0 p0.length c0_0), Kc (I s1_7), Kc (pt b7 (o7 + i7)), Kc (.slice A7_e x7.length c7_e), Kc (I (x7.length : Int)), Kc (I ((x7.length : Int) - 1)), Kc (I r9), Kc (.slice A0_0 p0.length c0_0), Kc (I s3_8), Kc (pt b10 (o10 + i10)), Kc (.slice A10_e x10.length c10_e), Kc (I p1), Kc (.slice A0_0 p0.length c0_0), Kc (I s3_8), Kc (pt b11 (o11 + i11)), Kc (.slice A11_e x11.length c11_e), Kc (I (x11.length : Int)), Kc (I ((x11.length : Int) - 1)), Kc (I r13), Kc (.bool (r9 != r13))] mixedA5 rfl rfl
           (obsN_cons (od rfl (fun _ => rfl) (fun K => x_move (v := .slice A0_0 p0.length c0_0) (es (t := 0) (v := .slice A0_0 p0.length c0_0) ((K.out 0 rfl).trans hs3_0))))
           (obsN_cons (od rfl (fun _ => rfl) (fun K => x_move (v := I s1_7) (es (t := 7) (v := I s1_7) ((K.out 7 rfl).trans hs3_7))))
           (obsN_cons (od rfl (fun _ => rfl) (fun K => x_indexAddr1 (k := i6) Try.underlying38 sz_43 (es (t := 22) (v := .slice A0_0 p0.length c0_0) (K.dep 0 22 rfl rfl)) hA6 (es (t := 23) (v := I s1_7) (K.dep 1 23 rfl rfl)) hi6 hl6))
           (obsN_cons (od rfl (fun _ => rfl) (fun K => x_load_z0 (v := .slice A6_e x6.length c6_e) one_43 (es (t := 24) (v := pt b6 (o6 + i6)) (K.dep 2 24 rfl rfl)) (hz6.mv (mv_ext K.phT)) rfl))
           (obsN_cons (od rfl (fun _ => rfl) (fun K => x_move (v := I p1) (es (t := 1) (v := I p1) ((K.out 1 rfl).trans hs3_1))))
           (obsN_cons (od rfl (fun _ => rfl) (fun K => x_move (v := .slice A0_0 p0.length c0_0) (es (t := 0) (v := .slice A0_0 p0.length c0_0) ((K.out 0 rfl).trans hs3_0))))
           (obsN_cons (od rfl (fun _ => rfl) (fun K => x_move (v := I s1_7) (es (t := 7) (v := I s1_7) ((K.out 7 rfl).trans hs3_7))))
           (obsN_cons (od rfl (fun _ => rfl) (fun K => x_indexAddr1 (k := i7) Try.underlying38 sz_43 (es (t := 27) (v := .slice A0_0 p0.length c0_0) (K.dep 5 27 rfl rfl)) hA7 (es (t := 28) (v := I s1_7) (K.dep 6 28 rfl rfl)) hi7 hl7))
           (obsN_cons (od rfl (fun _ => rfl) (fun K => x_load_z0 (v := .slice A7_e x7.length c7_e) one_43 (es (t := 29) (v := pt b7 (o7 + i7)) (K.dep 7 29 rfl rfl)) (hz7.mv (mv_ext K.phT)) rfl))
           (obsN_cons (od rfl (fun _ => rfl) (fun K => x_len Try.underlying43 (es (t := 30) (v := .slice A7_e x7.length c7_e) (K.dep 8 30 rfl rfl))))
           (obsN_cons (od rfl (fun _ => rfl) (fun K => x_sub (es (t := 31) (v := I (x7.length : Int)) (K.dep 9 31 rfl rfl)) (ec (v := I 1)) hf8))
           (obsN_cons (ob_ext rfl rfl (fun a' w' ph K => (x_call0 own_41 rfl (am4 (es (t := 25) (v := .slice A6_e x6.length c6_e) (K.dep 3 25 rfl rfl)) (es (t := 26) (v := I p1) (K.dep 4 26 rfl rfl)) (ec (v := I 0)) (es (t := 32) (v := I ((x7.length : Int) - 1)) (K.dep 10 32 rfl rfl))) (a41 K_ x6 p1 0 ((x7.length : Int) - 1) A6_e c6_e ZA _ (hS6_e.mv (mv_ext K.phT)).all r9 hr9)).mono (fun _ _ h => ⟨h.2, h.1⟩)))
           (obsN_cons (od rfl (fun _ => rfl) (fun K => x_move (v := .slice A0_0 p0.length c0_0) (es (t := 0) (v := .slice A0_0 p0.length c0_0) ((K.out 0 rfl).trans hs3_0))))
           (obsN_cons (od rfl (fun _ => rfl) (fun K => x_move (v := I s3_8) (es (t := 8) (v := I s3_8) ((K.out 8 rfl).trans hs3_8))))
           (obsN_cons (od rfl (fun _ => rfl) (fun K => x_indexAddr1 (k := i10) Try.underlying38 sz_43 (es (t := 34) (v := .slice A0_0 p0.length c0_0) (K.dep 12 34 rfl rfl)) hA10 (es (t := 35) (v := I s3_8) (K.dep 13 35 rfl rfl)) hi10 hl10))
           (obsN_cons (od rfl (fun _ => rfl) (fun K => x_load_z0 (v := .slice A10_e x10.length c10_e) one_43 (es (t := 36) (v := pt b10 (o10 + i10)) (K.dep 14 36 rfl rfl)) (hz10.mv (mv_ext K.phT)) rfl))
           (obsN_cons (od rfl (fun _ => rfl) (fun K => x_move (v := I p1) (es (t := 1) (v := I p1) ((K.out 1 rfl).trans hs3_1))))
           (obsN_cons (od rfl (fun _ => rfl) (fun K => x_move (v := .slice A0_0 p0.length c0_0) (es (t := 0) (v := .slice A0_0 p0.length c0_0) ((K.out 0 rfl).trans hs3_0))))
           (obsN_cons (od rfl (fun _ => rfl) (fun K => x_move (v := I s3_8) (es (t := 8) (v := I s3_8) ((K.out 8 rfl).trans hs3_8))))
           (obsN_cons (od rfl (fun _ => rfl) (fun K => x_indexAddr1 (k := i11) Try.underlying38 sz_43 (es (t := 39) (v := .slice A0_0 p0.length c0_0) (K.dep 17 39 rfl rfl)) hA11 (es (t := 40) (v := I s3_8) (K.dep 18 40 rfl rfl)) hi11 hl11))
           (obsN_cons (od rfl (fun _ => rfl) (fun K => x_load_z0 (v := .slice A11_e x11.length c11_e) one_43 (es (t := 41) (v := pt b11 (o11 + i11)) (K.dep 19 41 rfl rfl)) (hz11.mv (mv_ext K.phT)) rfl))
           (obsN_cons (od rfl (fun _ => rfl) (fun K => x_len Try.underlying43 (es (t := 42) (v := .slice A11_e x11.length c11_e) (K.dep 20 42 rfl rfl))))
           (obsN_cons (od rfl (fun _ => rfl) (fun K => x_sub (es (t := 43) (v := I (x11.length : Int)) (K.dep 21 43 rfl rfl)) (ec (v := I 1)) hf12))
           (obsN_cons (ob_ext rfl rfl (fun a' w' ph K => (x_call0 own_41 rfl (am4 (es (t := 37) (v := .slice A10_e x10.length c10_e) (K.dep 15 37 rfl rfl)) (es (t := 38) (v := I p1) (K.dep 16 38 rfl rfl)) (ec (v := I 0)) (es (t := 44) (v := I ((x11.length : Int) - 1)) (K.dep 22 44 rfl rfl))) (a41 K_ x10 p1 0 ((x11.length : Int) - 1) A10_e c10_e ZA _ (hS10_e.mv (mv_ext K.phT)).all r13 hr13)).mono (fun _ _ h => ⟨h.2, h.1⟩)))
           (obsN_cons (od rfl (fun _ => rfl) (fun K => x_neq (es (t := 33) (v := I r9) (K.dep 11 33 rfl rfl)) (es (t := 45) (v := I r13) (K.dep 23 45 rfl rfl))))
           (obsN_nil _)))))))))))))))))))))))))) ?_
       intro w5
       rintro _ rfl _ rfl _ rfl _ rfl _ rfl _ rfl _ rfl _ rfl _ rfl _ rfl _ rfl _ rfl _ rfl _ rfl _ rfl _ rfl _ rfl _ rfl _ rfl _ rfl _ rfl _ rfl _ rfl _ rfl _ rfl hx5
       have hp3 : Hp w [] w5 := hp2.ext hx5
       refine wa rfl (v := .bool (r9 != r13)) rfl <| wl_end <| lv_next <| cc_seq <| cc_seq <| cc_region <| wa rfl (v := I 0) rfl <| wl_end <| lv_next <| cc_block ?_
       replace hG := bind_some hG; obtain ⟨z14, hL14, hG⟩ := hG
       refine cc_join (fun e_ fr_ w_ => (e_ = .exit 4 ∧ fr_.tmps.size = 83 ∧ fr_.defers = [] ∧ sl fr_ 0 = .slice A0_0 p0.length c0_0 ∧ sl fr_ 1 = I p1 ∧ sl fr_ 2 = I p2 ∧ sl fr_ 7 = I s1_7 ∧ sl fr_ 8 = I s3_8 ∧ sl fr_ 9 = .bool z14 ∧ Hp w [] w_ ∧ Sl (eSl (eInt .i64)) w_ (ZZ Z w.heap.size []) A0_0 c0_0 p0)) ?lp14 ?af14
       case lp14 =>
        clear hG
        refine cc_loop (fun (m_ : Nat) (fr_ : Act) (w_ : World) => ∃ s14_9, ∃ s14_10, G_Settles_L14 p0 p2 s1_7 s3_8 m_ s14_9 s14_10 = some z14 ∧ fr_.tmps.size = 83 ∧ fr_.defers = [] ∧ sl fr_ 0 = .slice A0_0 p0.length c0_0 ∧ sl fr_ 1 = I p1 ∧ sl fr_ 2 = I p2 ∧ sl fr_ 7 = I s1_7 ∧ sl fr_ 8 = I s3_8 ∧ sl fr_ 9 = .bool s14_9 ∧ sl fr_ 10 = I s14_10 ∧ Hp w [] w_ ∧ Sl (eSl (eInt .i64)) w_ (ZZ Z w.heap.size []) A0_0 c0_0 p0) K_ ?in14 ?rd14
        case in14 =>
         intro st
         have hS0_0_3 : Sl (eSl (eInt .i64)) w5 (ZZ Z w.heap.size []) A0_0 c0_0 p0 := (f3_hS0_0.mv (mv_ext hx5))
         exact ⟨(r9 != r13), (0 : Int), hL14, (puts_size _ _).trans st.sz, (puts_defers _ _).trans st.df, (sl_puts st 0).trans hs3_0, (sl_puts st 1).trans hs3_1, (sl_puts st 2).trans hs3_2, (sl_puts st 7).trans hs3_7, (sl_puts st 8).trans hs3_8, (sl_puts st 9).trans rfl, (sl_puts st 10).trans rfl, hp3, hS0_0_3⟩
        case rd14 =>
         rintro (_ | m_) fr14 w14r ⟨s14_9, s14_10, hL14, hsz14, hdf14, hs14_0, hs14_1, hs14_2, hs14_7, hs14_8, hs14_9, hs14_10, hp4, f14_hS0_0⟩
         ·exact absurd (show none = some _ from hL14) (by simp)
         rw [G_Settles_L14.eq_2] at hL14
         have hG := hL14; clear hL14
         refine round_cc (N := 83) hsz14 hdf14 <| cc_seq <| cc_seq <| cc_region <| wm rfl (v := I s14_10) hs14_10 <| wm rfl (v := .slice A0_0 p0.length c0_0) hs14_0 <| wm rfl (v := I s1_7) hs14_7 ?_
         replace hG := idx_bind hG; obtain ⟨i15, x15, hi15, hx15, hl15, hG⟩ := hG
         obtain ⟨b15, o15, _, hA15, ⟨A15_e, c15_e, rfl, hS15_e⟩, hz15⟩ := Sl.elem1 f14_hS0_0 rfl hx15
         refine wd rfl (fun st => x_indexAddr1 (k := i15) Try.underlying38 sz_43 (ee st rfl) hA15 (ee st rfl) hi15 hl15) <| wd rfl (fun st => x_load_z0 (v := .slice A15_e x15.length c15_e) one_43 (ee st rfl) hz15 rfl) <| wd rfl (fun st => x_len Try.underlying43 (ee st rfl)) <| wd rfl (fun st => x_lss (ee st rfl) (ee st rfl)) <| wm rfl (v := .bool (decide (s14_10 < (x15.length : Int)))) rfl ?_
         rcases bool_cases (decide (s14_10 < (x15.length : Int))) with hc16 | hc16
         ·replace hG := cond_t hG hc16
          refine wl_detg rfl rfl (guard_eq rfl hc16) rfl (by decide) (fun st => x_move (v := .bool s14_9) (ee st hs14_9)) <| wd rfl (fun st => x_pick_t (v := .bool s14_9) (ee st rfl) hc16 (ee st rfl)) <| wl_end <| lv_next ?_
          rcases bool_cases (s14_9) with hc17 | hc17
          ·replace hG := cond_t hG hc17
           refine cc_cond_t rfl hc17 <| cc_skip <| lv_next <| cc_seq <| cc_block ?_
           replace hG := cvO_bind hG; obtain ⟨hf19, hG⟩ := hG
           replace hG := shrO_bind hG; obtain ⟨hf20, hG⟩ := hG
           replace hG := rem_bind hG; obtain ⟨hf21, hG⟩ := hG
           rcases bool_cases (((shrI p2 s14_10) % 2) == 0) with hc22 | hc22
           ·replace hG := cond_t hG hc22
            refine cc_anyM0 23 [Kc (I p2), Kc (I s14_10), Kc (.int .u64 s14_10), Kc (I (shrI p2 s14_10)), Kc (I ((shrI p2 s14_10) % 2)), Kc (.bool (((shrI p2 s14_10) % 2) == 0)), Kc (.bool (((shrI p2 s14_10) % 2) == 0)), Kc undef, Kc undef, Kc undef, Kc undef, Kc undef, Kc undef, Kc undef, Kc undef, Kc undef, Kc undef, Kc undef, Kc undef, Kc undef, Kc undef, Kc undef, Kc (.bool true)] mixedA5 rfl rfl
                (obsN_cons (od rfl (fun _ => rfl) (fun K => x_move (v := I p2) (es (t := 2) (v := I p2) ((K.out 2 rfl).trans hs14_2))))
                (obsN_cons (od rfl (fun _ => rfl) (fun K => x_move (v := I s14_10) (es (t := 10) (v := I s14_10) ((K.out 10 rfl).trans hs14_10))))
                (obsN_cons (od rfl (fun _ => rfl) (fun K => x_conv (k := .u64) sm_3 Try.underlying63 (es (t := 60) (v := I s14_10) (K.dep 1 60 rfl rfl)) hf19))
                (obsN_cons (od rfl (fun _ => rfl) (fun K => x_shr (es (t := 59) (v := I p2) (K.dep 0 59 rfl rfl)) (es (t := 61) (v := .int .u64 s14_10) (K.dep 2 61 rfl rfl)) hf20))
                (obsN_cons (od rfl (fun _ => rfl) (fun K => x_rem (es (t := 62) (v := I (shrI p2 s14_10)) (K.dep 3 62 rfl rfl)) (ec (v := I 2)) hf21.1 hf21.2))
                (obsN_cons (od rfl (fun _ => rfl) (fun K => x_eql (es (t := 63) (v := I ((shrI p2 s14_10) % 2)) (K.dep 4 63 rfl rfl)) (ec (v := I 0))))
                (obsN_cons (od rfl (fun _ => rfl) (fun K => x_move (v := .bool (((shrI p2 s14_10) % 2) == 0)) (es (t := 64) (v := .bool (((shrI p2 s14_10) % 2) == 0)) (K.dep 5 64 rfl rfl))))
                (obsN_cons (ob_skip (c := true) rfl rfl rfl (by decide) (fun a' w' ph K => (guard_eq (show sl a' 65 = .bool (((shrI p2 s14_10) % 2) == 0) from K.dep 6 65 rfl rfl) hc22)) (fun _ => rfl))
                (obsN_cons (ob_skip (c := true) rfl rfl rfl (by decide) (fun a' w' ph K => (guard_eq (show sl a' 65 = .bool (((shrI p2 s14_10) % 2) == 0) from K.dep 6 65 rfl rfl) hc22)) (fun _ => rfl))
                (obsN_cons (ob_skip (c := true) rfl rfl rfl (by decide) (fun a' w' ph K => (guard_eq (show sl a' 65 = .bool (((shrI p2 s14_10) % 2) == 0) from K.dep 6 65 rfl rfl) hc22)) (fun _ => rfl))
                (obsN_cons (ob_skip (c := true) rfl rfl rfl (by decide) (fun a' w' ph K => (guard_eq (show sl a' 65 = .bool (((shrI p2 s14_10) % 2) == 0) from K.dep 6 65 rfl rfl) hc22)) (fun _ => rfl))
                (obsN_cons (ob_skip (c := true) rfl rfl rfl (by decide) (fun a' w' ph K => (guard_eq (show sl a' 65 = .bool (((shrI p2 s14_10) % 2) == 0) from K.dep 6 65 rfl rfl) hc22)) (fun _ => rfl))
                (obsN_cons (ob_skip (c := true) rfl rfl rfl (by decide) (fun a' w' ph K => (guard_eq (show sl a' 65 = .bool (((shrI p2 s14_10) % 2) == 0) from K.dep 6 65 rfl rfl) hc22)) (fun _ => rfl))
                (obsN_cons (ob_skip (c := true) rfl rfl rfl (by decide) (fun a' w' ph K => (guard_eq (show sl a' 65 = .bool (((shrI p2 s14_10) % 2) == 0) from K.dep 6 65 rfl rfl) hc22)) (fun _ => rfl))
                (obsN_cons (ob_skip (c := true) rfl rfl rfl (by decide) (fun a' w' ph K => (guard_eq (show sl a' 65 = .bool (((shrI p2 s14_10) % 2) == 0) from K.dep 6 65 rfl rfl) hc22)) (fun _ => rfl))
                (obsN_cons (ob_skip (c := true) rfl rfl rfl (by decide) (fun a' w' ph K => (guard_eq (show sl a' 65 = .bool (((shrI p2 s14_10) % 2) == 0) from K.dep 6 65 rfl rfl) hc22)) (fun _ => rfl))
                (obsN_cons (ob_skip (c := true) rfl rfl rfl (by decide) (fun a' w' ph K => (guard_eq (show sl a' 65 = .bool (((shrI p2 s14_10) % 2) == 0) from K.dep 6 65 rfl rfl) hc22)) (fun _ => rfl))
                (obsN_cons (ob_skip (c := true) rfl rfl rfl (by decide) (fun a' w' ph K => (guard_eq (show sl a' 65 = .bool (((shrI p2 s14_10) % 2) == 0) from K.dep 6 65 rfl rfl) hc22)) (fun _ => rfl))
                (obsN_cons (ob_skip (c := true) rfl rfl rfl (by decide) (fun a' w' ph K => (guard_eq (show sl a' 65 = .bool (((shrI p2 s14_10) % 2) == 0) from K.dep 6 65 rfl rfl) hc22)) (fun _ => rfl))
                (obsN_cons (ob_skip (c := true) rfl rfl rfl (by decide) (fun a' w' ph K => (guard_eq (show sl a' 65 = .bool (((shrI p2 s14_10) % 2) == 0) from K.dep 6 65 rfl rfl) hc22)) (fun _ => rfl))
                (obsN_cons (ob_skip (c := true) rfl rfl rfl (by decide) (fun a' w' ph K => (guard_eq (show sl a' 65 = .bool (((shrI p2 s14_10) % 2) == 0) from K.dep 6 65 rfl rfl) hc22)) (fun _ => rfl))
                (obsN_cons (ob_skip (c := true) rfl rfl rfl (by decide) (fun a' w' ph K => (guard_eq (show sl a' 65 = .bool (((shrI p2 s14_10) % 2) == 0) from K.dep 6 65 rfl rfl) hc22)) (fun _ => rfl))
                (obsN_cons (od rfl (fun _ => rfl) (fun K => x_pick_t (v := .bool true) (es (t := 65) (v := .bool (((shrI p2 s14_10) % 2) == 0)) (K.dep 6 65 rfl rfl)) hc22 (ec (v := .bool true))))
                (obsN_nil _)))))))))))))))))))))))) ?_
            intro w18
            rintro _ rfl _ rfl _ rfl _ rfl _ rfl _ rfl _ rfl _ rfl _ rfl _ rfl _ rfl _ rfl _ rfl _ rfl _ rfl _ rfl _ rfl _ rfl _ rfl _ rfl _ rfl _ rfl _ rfl hx18
            have hp5 : Hp w [] w18 := hp4.ext hx18
            refine wa rfl (v := .bool true) rfl <| wl_end <| lv_block <| lv_next <| cc_region <| wm rfl (v := I s14_10) hs14_10 ?_
            replace hG := i64_bind hG; obtain ⟨hf23, hG⟩ := hG
            refine wd rfl (fun st => x_add (ee st rfl) (ee st rfl) hf23) <| wa rfl (v := I (s14_10 + 1)) rfl <| wl_end ?_
            have hS0_0_5 : Sl (eSl (eInt .i64)) w18 (ZZ Z w.heap.size []) A0_0 c0_0 p0 := (f14_hS0_0.mv (mv_ext hx18))
            refine lv_round m_ (Nat.lt_succ_self _) (fun st => ?_)
            exact ⟨true, (s14_10 + 1), hG, (puts_size _ _).trans st.sz, (puts_defers _ _).trans st.df, (sl_puts st 0).trans hs14_0, (sl_puts st 1).trans hs14_1, (sl_puts st 2).trans hs14_2, (sl_puts st 7).trans hs14_7, (sl_puts st 8).trans hs14_8, (sl_puts st 9).trans rfl, (sl_puts st 10).trans rfl, hp5, hS0_0_5⟩
           ·replace hG := cond_f hG hc22
            replace hG := idx_bind hG; obtain ⟨i24, x24, hi24, hx24, hl24, hG⟩ := hG
            obtain ⟨b24, o24, _, hA24, ⟨A24_e, c24_e, rfl, hS24_e⟩, hz24⟩ := Sl.elem1 f14_hS0_0 rfl hx24
            replace hG := idx_bind hG; obtain ⟨i25, x25, hi25, hx25, hl25, hG⟩ := hG
            obtain ⟨b25, o25, _, hA25, rfl, hz25⟩ := Sl.elem1 hS24_e rfl hx25
            replace hG := idx_bind hG; obtain ⟨i26, x26, hi26, hx26, hl26, hG⟩ := hG
            obtain ⟨b26, o26, _, hA26, ⟨A26_e, c26_e, rfl, hS26_e⟩, hz26⟩ := Sl.elem1 f14_hS0_0 rfl hx26
            replace hG := idx_bind hG; obtain ⟨i27, x27, hi27, hx27, hl27, hG⟩ := hG
            obtain ⟨b27, o27, _, hA27, rfl, hz27⟩ := Sl.elem1 hS26_e rfl hx27
            refine cc_anyM0 23 [Kc (I p2), Kc (I s14_10), Kc (.int .u64 s14_10), Kc (I (shrI p2 s14_10)), Kc (I ((shrI p2 s14_10) % 2)), Kc (.bool (((shrI p2 s14_10) % 2) == 0)), Kc (.bool (((shrI p2 s14_10) % 2) == 0)), Kc (.slice A0_0 p0.length c0_0), Kc (I s1_7), Kc (pt b24 (o24 + i24)), Kc (.slice A24_e x24.length c24_e), Kc (I s14_10), Kc (pt b25 (o25 + i25)), Kc (I x25), Kc (.slice A0_0 p0.length c0_0), Kc (I s3_8), Kc (pt b26 (o26 + i26)), Kc (.slice A26_e x26.length c26_e), Kc (I s14_10), Kc (pt b27 (o27 + i27)), Kc (I x27), Kc (.bool (x25 == x27)), Kc (.bool (x25 == x27))] mixedA5 rfl rfl
                (obsN_cons (od rfl (fun _ => rfl) (fun K => x_move (v := I p2) (es (t := 2) (v := I p2) ((K.out 2 rfl).trans hs14_2))))
                (obsN_cons (od rfl (fun _ => rfl) (fun K => x_move (v := I s14_10) (es (t := 10) (v := I s14_10) ((K.out 10 rfl).trans hs14_10))))
                (obsN_cons (od rfl (fun _ => rfl) (fun K => x_conv (k := .u64) sm_3 Try.underlying63 (es (t := 60) (v := I s14_10) (K.dep 1 60 rfl rfl)) hf19))
                (obsN_cons (od rfl (fun _ => rfl) (fun K => x_shr (es (t := 59) (v := I p2) (K.dep 0 59 rfl rfl)) (es (t := 61) (v := .int .u64 s14_10) (K.dep 2 61 rfl rfl)) hf20))
                (obsN_cons (od rfl (fun _ => rfl) (fun K => x_rem (es (t := 62) (v := I (shrI p2 s14_10)) (K.dep 3 62 rfl rfl)) (ec (v := I 2)) hf21.1 hf21.2))
                (obsN_cons (od rfl (fun _ => rfl) (fun K => x_eql (es (t := 63) (v := I ((shrI p2 s14_10) % 2)) (K.dep 4 63 rfl rfl)) (ec (v := I 0))))
                (obsN_cons (od rfl (fun _ => rfl) (fun K => x_move (v := .bool (((shrI p2 s14_10) % 2) == 0)) (es (t := 64) (v := .bool (((shrI p2 s14_10) % 2) == 0)) (K.dep 5 64 rfl rfl))))
                (obsN_cons (ob_detg rfl rfl rfl (fun _ => rfl) (fun a' w' ph K => (guard_eq (show sl a' 65 = .bool (((shrI p2 s14_10) % 2) == 0) from K.dep 6 65 rfl rfl) hc22)) (fun a' w' ph K => x_move (v := .slice A0_0 p0.length c0_0) (es (t := 0) (v := .slice A0_0 p0.length c0_0) ((K.out 0 rfl).trans hs14_0))))
                (obsN_cons (ob_detg rfl rfl rfl (fun _ => rfl) (fun a' w' ph K => (guard_eq (show sl a' 65 = .bool (((shrI p2 s14_10) % 2) == 0) from K.dep 6 65 rfl rfl) hc22)) (fun a' w' ph K => x_move (v := I s1_7) (es (t := 7) (v := I s1_7) ((K.out 7 rfl).trans hs14_7))))
                (obsN_cons (ob_detg rfl rfl rfl (fun _ => rfl) (fun a' w' ph K => (guard_eq (show sl a' 65 = .bool (((shrI p2 s14_10) % 2) == 0) from K.dep 6 65 rfl rfl) hc22)) (fun a' w' ph K => x_indexAddr1 (k := i24) Try.underlying38 sz_43 (es (t := 66) (v := .slice A0_0 p0.length c0_0) (K.dep 7 66 rfl rfl)) hA24 (es (t := 67) (v := I s1_7) (K.dep 8 67 rfl rfl)) hi24 hl24))
                (obsN_cons (ob_detg rfl rfl rfl (fun _ => rfl) (fun a' w' ph K => (guard_eq (show sl a' 65 = .bool (((shrI p2 s14_10) % 2) == 0) from K.dep 6 65 rfl rfl) hc22)) (fun a' w' ph K => x_load_z0 (v := .slice A24_e x24.length c24_e) one_43 (es (t := 68) (v := pt b24 (o24 + i24)) (K.dep 9 68 rfl rfl)) (hz24.mv (mv_ext K.phT)) rfl))
                (obsN_cons (ob_detg rfl rfl rfl (fun _ => rfl) (fun a' w' ph K => (guard_eq (show sl a' 65 = .bool (((shrI p2 s14_10) % 2) == 0) from K.dep 6 65 rfl rfl) hc22)) (fun a' w' ph K => x_move (v := I s14_10) (es (t := 10) (v := I s14_10) ((K.out 10 rfl).trans hs14_10))))
                (obsN_cons (ob_detg rfl rfl rfl (fun _ => rfl) (fun a' w' ph K => (guard_eq (show sl a' 65 = .bool (((shrI p2 s14_10) % 2) == 0) from K.dep 6 65 rfl rfl) hc22)) (fun a' w' ph K => x_indexAddr1 (k := i25) Try.underlying43 sz_3 (es (t := 69) (v := .slice A24_e x24.length c24_e) (K.dep 10 69 rfl rfl)) hA25 (es (t := 70) (v := I s14_10) (K.dep 11 70 rfl rfl)) hi25 hl25))
                (obsN_cons (ob_detg rfl rfl rfl (fun _ => rfl) (fun a' w' ph K => (guard_eq (show sl a' 65 = .bool (((shrI p2 s14_10) % 2) == 0) from K.dep 6 65 rfl rfl) hc22)) (fun a' w' ph K => x_load_z0 (v := I x25) one_3 (es (t := 71) (v := pt b25 (o25 + i25)) (K.dep 12 71 rfl rfl)) (hz25.mv (mv_ext K.phT)) rfl))
                (obsN_cons (ob_detg rfl rfl rfl (fun _ => rfl) (fun a' w' ph K => (guard_eq (show sl a' 65 = .bool (((shrI p2 s14_10) % 2) == 0) from K.dep 6 65 rfl rfl) hc22)) (fun a' w' ph K => x_move (v := .slice A0_0 p0.length c0_0) (es (t := 0) (v := .slice A0_0 p0.length c0_0) ((K.out 0 rfl).trans hs14_0))))
                (obsN_cons (ob_detg rfl rfl rfl (fun _ => rfl) (fun a' w' ph K => (guard_eq (show sl a' 65 = .bool (((shrI p2 s14_10) % 2) == 0) from K.dep 6 65 rfl rfl) hc22)) (fun a' w' ph K => x_move (v := I s3_8) (es (t := 8) (v := I s3_8) ((K.out 8 rfl).trans hs14_8))))
                (obsN_cons (ob_detg rfl rfl rfl (fun _ => rfl) (fun a' w' ph K => (guard_eq (show sl a' 65 = .bool (((shrI p2 s14_10) % 2) == 0) from K.dep 6 65 rfl rfl) hc22)) (fun a' w' ph K => x_indexAddr1 (k := i26) Try.underlying38 sz_43 (es (t := 73) (v := .slice A0_0 p0.length c0_0) (K.dep 14 73 rfl rfl)) hA26 (es (t := 74) (v := I s3_8) (K.dep 15 74 rfl rfl)) hi26 hl26))
                (obsN_cons (ob_detg rfl rfl rfl (fun _ => rfl) (fun a' w' ph K => (guard_eq (show sl a' 65 = .bool (((shrI p2 s14_10) % 2) == 0) from K.dep 6 65 rfl rfl) hc22)) (fun a' w' ph K => x_load_z0 (v := .slice A26_e x26.length c26_e) one_43 (es (t := 75) (v := pt b26 (o26 + i26)) (K.dep 16 75 rfl rfl)) (hz26.mv (mv_ext K.phT)) rfl))
                (obsN_cons (ob_detg rfl rfl rfl (fun _ => rfl) (fun a' w' ph K => (guard_eq (show sl a' 65 = .bool (((shrI p2 s14_10) % 2) == 0) from K.dep 6 65 rfl rfl) hc22)) (fun a' w' ph K => x_move (v := I s14_10) (es (t := 10) (v := I s14_10) ((K.out 10 rfl).trans hs14_10))))
                (obsN_cons (ob_detg rfl rfl rfl (fun _ => rfl) (fun a' w' ph K => (guard_eq (show sl a' 65 = .bool (((shrI p2 s14_10) % 2) == 0) from K.dep 6 65 rfl rfl) hc22)) (fun a' w' ph K => x_indexAddr1 (k := i27) Try.underlying43 sz_3 (es (t := 76) (v := .slice A26_e x26.length c26_e) (K.dep 17 76 rfl rfl)) hA27 (es (t := 77) (v := I s14_10) (K.dep 18 77 rfl rfl)) hi27 hl27))
                (obsN_cons (ob_detg rfl rfl rfl (fun _ => rfl) (fun a' w' ph K => (guard_eq (show sl a' 65 = .bool (((shrI p2 s14_10) % 2) == 0) from K.dep 6 65 rfl rfl) hc22)) (fun a' w' ph K => x_load_z0 (v := I x27) one_3 (es (t := 78) (v := pt b27 (o27 + i27)) (K.dep 19 78 rfl rfl)) (hz27.mv (mv_ext K.phT)) rfl))
                (obsN_cons (ob_detg rfl rfl rfl (fun _ => rfl) (fun a' w' ph K => (guard_eq (show sl a' 65 = .bool (((shrI p2 s14_10) % 2) == 0) from K.dep 6 65 rfl rfl) hc22)) (fun a' w' ph K => x_eql (es (t := 72) (v := I x25) (K.dep 13 72 rfl rfl)) (es (t := 79) (v := I x27) (K.dep 20 79 rfl rfl))))
                (obsN_cons (od rfl (fun _ => rfl) (fun K => x_pick_f (v := .bool (x25 == x27)) (es (t := 65) (v := .bool (((shrI p2 s14_10) % 2) == 0)) (K.dep 6 65 rfl rfl)) hc22 (es (t := 80) (v := .bool (x25 == x27)) (K.dep 21 80 rfl rfl))))
                (obsN_nil _)))))))))))))))))))))))) ?_
            intro w18
            rintro _ rfl _ rfl _ rfl _ rfl _ rfl _ rfl _ rfl _ rfl _ rfl _ rfl _ rfl _ rfl _ rfl _ rfl _ rfl _ rfl _ rfl _ rfl _ rfl _ rfl _ rfl _ rfl _ rfl hx18
            have hp6 : Hp w [] w18 := hp4.ext hx18
            refine wa rfl (v := .bool (x25 == x27)) rfl <| wl_end <| lv_block <| lv_next <| cc_region <| wm rfl (v := I s14_10) hs14_10 ?_
            replace hG := i64_bind hG; obtain ⟨hf28, hG⟩ := hG
            refine wd rfl (fun st => x_add (ee st rfl) (ee st rfl) hf28) <| wa rfl (v := I (s14_10 + 1)) rfl <| wl_end ?_
            have hS0_0_6 : Sl (eSl (eInt .i64)) w18 (ZZ Z w.heap.size []) A0_0 c0_0 p0 := (f14_hS0_0.mv (mv_ext hx18))
            refine lv_round m_ (Nat.lt_succ_self _) (fun st => ?_)
            exact ⟨(x25 == x27), (s14_10 + 1), hG, (puts_size _ _).trans st.sz, (puts_defers _ _).trans st.df, (sl_puts st 0).trans hs14_0, (sl_puts st 1).trans hs14_1, (sl_puts st 2).trans hs14_2, (sl_puts st 7).trans hs14_7, (sl_puts st 8).trans hs14_8, (sl_puts st 9).trans rfl, (sl_puts st 10).trans rfl, hp6, hS0_0_6⟩
          ·replace hG := cond_f hG hc17
           refine cc_cond_f rfl hc17 <| cc_exit <| lv_then_exit <| lv_then_exit ?_
           obtain rfl := Option.some.inj hG
           refine lv_to (fun st => ?_)
           exact ⟨rfl, (puts_size _ _).trans st.sz, (puts_defers _ _).trans st.df, (sl_puts st 0).trans hs14_0, (sl_puts st 1).trans hs14_1, (sl_puts st 2).trans hs14_2, (sl_puts st 7).trans hs14_7, (sl_puts st 8).trans hs14_8, (sl_puts st 9).trans hs14_9, hp4, f14_hS0_0⟩
         ·replace hG := cond_f hG hc16
          refine wl_skip (c := false) rfl rfl (guard_eq rfl hc16) (by decide) rfl (by decide) <| wd rfl (fun st => x_pick_f (v := .bool false) (ee st rfl) hc16 (ee st rfl)) <| wl_end <| lv_next <| cc_cond_f rfl rfl <| cc_exit <| lv_then_exit <| lv_then_exit ?_
          obtain rfl := Option.some.inj hG
          refine lv_to (fun st => ?_)
          exact ⟨rfl, (puts_size _ _).trans st.sz, (puts_defers _ _).trans st.df, (sl_puts st 0).trans hs14_0, (sl_puts st 1).trans hs14_1, (sl_puts st 2).trans hs14_2, (sl_puts st 7).trans hs14_7, (sl_puts st 8).trans hs14_8, (sl_puts st 9).trans hs14_9, hp4, f14_hS0_0⟩
       case af14 =>
        rintro e_ fr14a w14a (⟨rfl, hsz14a, hdf14a, hs14a_0, hs14a_1, hs14a_2, hs14a_7, hs14a_8, hs14a_9, hp14a, g14_hS0_0⟩)
        refine lv_fr (X := X0) (N := 83) hsz14a hdf14a <| lv_block_hit <| lv_next <| cc_seq <| cc_region <| wm rfl (v := .bool z14) hs14a_9 <| wl_end <| lv_next ?_
        rcases bool_cases (z14) with hc29 | hc29
        ·replace hG := cond_t hG hc29
         refine cc_cond_t rfl hc29 <| cc_seq <| cc_region <| wa rfl (v := .bool false) rfl <| wl_end <| lv_next <| cc_ret <| lv_block_ret <| lv_then_ret <| lv_then_ret ?_
         obtain rfl := Option.some.inj hG
         refine lv_to (fun st => ?_)
         exact .inl ⟨rfl, false, rfl, (puts_size _ _).trans st.sz, (puts_defers _ _).trans st.df, (sl_puts st 6).trans rfl, hp14a⟩
        ·replace hG := cond_f hG hc29
         refine cc_cond_f rfl hc29 <| cc_skip <| lv_block <| lv_next <| cc_region <| wm rfl (v := I s3_8) hs14a_8 ?_
         replace hG := i64_bind hG; obtain ⟨hf30, hG⟩ := hG
         refine wd rfl (fun st => x_add (ee st rfl) (ee st rfl) hf30) <| wa rfl (v := I (s3_8 + 1)) rfl <| wl_end ?_
         refine lv_round m_ (Nat.lt_succ_self _) (fun st => ?_)
         exact ⟨(s3_8 + 1), hG, (puts_size _ _).trans st.sz, (puts_defers _ _).trans st.df, (sl_puts st 0).trans hs14a_0, (sl_puts st 1).trans hs14a_1, (sl_puts st 2).trans hs14a_2, (sl_puts st 7).trans hs14a_7, (sl_puts st 8).trans rfl, hp14a, g14_hS0_0⟩
      ·replace hG := cond_f hG hc4
       refine cc_cond_f rfl hc4 <| cc_exit <| lv_then_exit <| lv_then_exit ?_
       obtain rfl := Option.some.inj hG
       refine lv_to (fun st => ?_)
       exact .inr ⟨rfl, (), rfl, (puts_size _ _).trans st.sz, (puts_defers _ _).trans st.df, (sl_puts st 0).trans hs3_0, (sl_puts st 1).trans hs3_1, (sl_puts st 2).trans hs3_2, (sl_puts st 7).trans hs3_7, hp2, f3_hS0_0⟩
    case af3 =>
     rintro e_ fr3a w3a (⟨rfl, q3, rfl, hsz3a, hdf3a, hs3a_6, hp3a⟩ | ⟨rfl, q3, rfl, hsz3a, hdf3a, hs3a_0, hs3a_1, hs3a_2, hs3a_7, hp3a, g3_hS0_0⟩)
     ·skip
      replace hG := inl_some hG
      refine lv_fr (X := X0) (N := 83) hsz3a hdf3a <| lv_block_ret <| lv_block_ret <| lv_then_ret <| lv_then_ret ?_
      obtain rfl := Option.some.inj hG
      refine lv_to (fun st => ?_)
      exact .inl ⟨rfl, q3, rfl, (puts_size _ _).trans st.sz, (puts_defers _ _).trans st.df, (sl_puts st 6).trans hs3a_6, hp3a⟩
     ·skip
      replace hG := inr_some hG
      refine lv_fr (X := X0) (N := 83) hsz3a hdf3a <| lv_block_hit <| lv_block <| lv_next <| cc_region <| wm rfl (v := I s1_7) hs3a_7 ?_
      replace hG := i64_bind hG; obtain ⟨hf31, hG⟩ := hG
      refine wd rfl (fun st => x_add (ee st rfl) (ee st rfl) hf31) <| wa rfl (v := I (s1_7 + 1)) rfl <| wl_end ?_
      refine lv_round m_ (Nat.lt_succ_self _) (fun st => ?_)
      exact ⟨(s1_7 + 1), hG, (puts_size _ _).trans st.sz, (puts_defers _ _).trans st.df, (sl_puts st 0).trans hs3a_0, (sl_puts st 1).trans hs3a_1, (sl_puts st 2).trans hs3a_2, (sl_puts st 7).trans rfl, hp3a, g3_hS0_0⟩
   ·replace hG := cond_f hG hc2
    refine cc_cond_f rfl hc2 <| cc_exit <| lv_then_exit <| lv_then_exit ?_
    obtain rfl := Option.some.inj hG
    refine lv_to (fun st => ?_)
    exact .inr ⟨rfl, (), rfl, (puts_size _ _).trans st.sz, (puts_defers _ _).trans st.df, hp1⟩
 case af1 =>
  rintro e_ fr1a w1a (⟨rfl, q1, rfl, hsz1a, hdf1a, hs1a_6, hp1a⟩ | ⟨rfl, q1, rfl, hsz1a, hdf1a, hp1a⟩)
  ·skip
   replace hG := inl_some hG
   refine lv_fr (X := X0) (N := 83) hsz1a hdf1a <| lv_block_ret <| lv_then_ret ?_
   obtain rfl := Option.some.inj hG
   refine lv_ret1 rfl hs1a_6 ?_
   exact ⟨hp1a.fin, rfl⟩
  ·skip
   replace hG := inr_some hG
   refine lv_fr (X := X0) (N := 83) hsz1a hdf1a <| lv_block_hit <| lv_next <| cc_seq <| cc_region <| wa rfl (v := .bool true) rfl <| wl_end <| lv_next <| cc_ret ?_
   obtain rfl := Option.some.inj hG
   refine lv_ret1 rfl rfl ?_
   exact ⟨hp1a.fin, rfl⟩
theorem a60 (K_ : Nat) (p0 : Fld) (p1 : List (List Int)) (p2 : Int) (A0_0 : Option Addr) (c0_0 : Nat) (A1_0 : Option Addr) (c1_0 : Nat) (Z : Nat → Prop) (w : World) (hS0_0 : Sl eTly w Z A0_0 c0_0 p0.ts) (hS1_0 : Sl (eSl (eInt .i64)) w Z A1_0 c1_0 p1) (r_ : (List Int)) (hG : G_Ask K_ p0 p1 p2 = some r_) :
    Ret Try.prog 60 #[.agg #[I p0.rows, I p0.wd, I p0.lo, I p0.hi, .slice A0_0 p0.ts.length c0_0], .slice A1_0 p1.length c1_0, I p2] w (fun v w' => Ext w w' ∧ (vSl (eInt .i64)).R w' (ZZ Z w.heap.size []) v r_) := by
 unfold G_Ask at hG
 refine ret_of_cc (N := 37) Try.func60 rfl rfl (by simp) ?_
 intro fr0 ha hdf
 have hp_0 := sl_arg (i := 0) (v := .agg #[I p0.rows, I p0.wd, I p0.lo, I p0.hi, .slice A0_0 p0.ts.length c0_0]) ha rfl
 have hp_1 := sl_arg (i := 1) (v := .slice A1_0 p1.length c1_0) ha rfl
 have hp_2 := sl_arg (i := 2) (v := I p2) ha rfl
 clear ha
 have hp0 := Hp.refl w
 have hS0_0_0 := hS0_0.mv (mv_start w)
 have hS1_0_0 := hS1_0.mv (mv_start w)
 refine cc_seq <| cc_region <| we rfl (fun st => x_box (v := .agg #[I p0.rows, I p0.wd, I p0.lo, I p0.hi, .slice A0_0 p0.ts.length c0_0]) (cs := #[I p0.rows, I p0.wd, I p0.lo, I p0.hi, .slice A0_0 p0.ts.length c0_0]) (ee st hp_0) rfl) ?_
 rintro _ w1 ⟨b1, rfl, nb1⟩
 have hp1 : Hp w [some b1] w1 := hp0.new nb1.gr (Nat.le_of_eq nb1.b_eq.symm) (Nat.lt_of_lt_of_eq (Nat.lt_succ_self _) nb1.sz.symm)
 refine wa rfl (v := .slice none 0 0) rfl <| wl_end <| lv_next <| cc_seq <| cc_region <| wd rfl (fun st => x_fieldAddr (ee st rfl) (fz_26_0 _ _)) <| wd rfl (fun st => x_load1 (v := I p0.rows) one_3 (ee st rfl) nb1.bk rfl) ?_
 replace hG := cvO_bind hG; obtain ⟨hf2, hG⟩ := hG
 refine wd rfl (fun st => x_conv (k := .u64) sm_3 Try.underlying63 (ee st rfl) hf2) ?_
 replace hG := shlO_bind hG; obtain ⟨hf3, hG⟩ := hG
 refine wd rfl (fun st => x_shl (ee st rfl) (ee st rfl) hf3) ?_
 replace hG := i64_bind hG; obtain ⟨hf4, hG⟩ := hG
 refine wd rfl (fun st => x_sub (ee st rfl) (ee st rfl) hf4) ?_
 replace hG := bind_some hG; obtain ⟨r5, hr5, hG⟩ := hG
 refine we rfl (fun st => x_call0 own_49 (ee st rfl) (am1 (ee st rfl)) (a49 K_ ((shlI (1 : Int) p0.rows) - 1) (ZZ Z w.heap.size [some b1]) _ r5 hr5)) ?_
 rintro _ w6 ⟨hx5, ⟨A5_r, c5_r, rfl, hS5_r⟩⟩
 have hp2 : Hp w [some b1] w6 := hp1.ext hx5
 have hS5_r := hS5_r.mv (hp1.call (Nat.le_refl _))
 refine wa rfl (v := .slice A5_r r5.length c5_r) rfl <| wl_end <| lv_next <| cc_seq <| cc_seq <| cc_region <| wa rfl (v := I 0) rfl <| wl_end <| lv_next <| cc_block ?_
 replace hG := bind_some hG; obtain ⟨z7, hL7, hG⟩ := hG
 refine cc_join (fun e_ fr_ w_ => (e_ = .exit 0 ∧ ∃ Ae7_0_70 Ce7_0_70, fr_.tmps.size = 37 ∧ fr_.defers = [] ∧ sl fr_ 7 = .slice Ae7_0_70 z7.length Ce7_0_70 ∧ Hp w [some b1] w_ ∧ Sl (eInt .i64) w_ (ZZ Z w.heap.size [some b1]) Ae7_0_70 Ce7_0_70 z7)) ?lp7 ?af7
 case lp7 =>
  clear hG
  refine cc_loop (fun (m_ : Nat) (fr_ : Act) (w_ : World) => ∃ s7_7, ∃ s7_8, ∃ As7_7 Cs7_7, G_Ask_L7 K_ p0 p1 p2 m_ s7_7 s7_8 = some z7 ∧ fr_.tmps.size = 37 ∧ fr_.defers = [] ∧ sl fr_ 1 = .slice A1_0 p1.length c1_0 ∧ sl fr_ 2 = I p2 ∧ sl fr_ 3 = pt b1 0 ∧ sl fr_ 7 = .slice As7_7 s7_7.length Cs7_7 ∧ sl fr_ 8 = I s7_8 ∧ Hp w [some b1] w_ ∧ Sl (eInt .i64) w_ (ZZ Z w.heap.size [some b1]) As7_7 Cs7_7 s7_7 ∧ Bk w_ b1 26 #[I p0.rows, I p0.wd, I p0.lo, I p0.hi, .slice A0_0 p0.ts.length c0_0] ∧ Sl eTly w_ (ZZ Z w.heap.size [some b1]) A0_0 c0_0 p0.ts ∧ Sl (eSl (eInt .i64)) w_ (ZZ Z w.heap.size [some b1]) A1_0 c1_0 p1) K_ ?in7 ?rd7
  case in7 =>
   intro st
   have bk1_2 : Bk w6 b1 26 #[I p0.rows, I p0.wd, I p0.lo, I p0.hi, .slice A0_0 p0.ts.length c0_0] := (nb1.bk.ext hx5)
   have hS0_0_2 : Sl eTly w6 (ZZ Z w.heap.size [some b1]) A0_0 c0_0 p0.ts := ((hS0_0_0.mv (mv_new nb1.gr (Nat.le_of_eq nb1.b_eq.symm))).mv (mv_ext hx5))
   have hS1_0_2 : Sl (eSl (eInt .i64)) w6 (ZZ Z w.heap.size [some b1]) A1_0 c1_0 p1 := ((hS1_0_0.mv (mv_new nb1.gr (Nat.le_of_eq nb1.b_eq.symm))).mv (mv_ext hx5))
   exact ⟨r5, (0 : Int), A5_r, c5_r, hL7, (puts_size _ _).trans st.sz, (puts_defers _ _).trans st.df, (sl_puts st 1).trans hp_1, (sl_puts st 2).trans hp_2, (sl_puts st 3).trans rfl, (sl_puts st 7).trans rfl, (sl_puts st 8).trans rfl, hp2, hS5_r, bk1_2, hS0_0_2, hS1_0_2⟩
  case rd7 =>
   rintro (_ | m_) fr7 w7r ⟨s7_7, s7_8, As7_7, Cs7_7, hL7, hsz7, hdf7, hs7_1, hs7_2, hs7_3, hs7_7, hs7_8, hp3, f7_Hs7_7, f7_bk1, f7_hS0_0, f7_hS1_0⟩
   ·exact absurd (show none = some _ from hL7) (by simp)
   rw [G_Ask_L7.eq_2] at hL7
   have hG := hL7; clear hL7
   refine round_cc (N := 37) hsz7 hdf7 <| cc_seq <| cc_seq <| cc_region <| wm rfl (v := I s7_8) hs7_8 <| wd rfl (fun st => x_fieldAddr (ee st hs7_3) (fz_26_0 _ _)) <| wd rfl (fun st => x_load1 (v := I p0.rows) one_3 (ee st rfl) f7_bk1 rfl) ?_
   replace hG := cvO_bind hG; obtain ⟨hf8, hG⟩ := hG
   refine wd rfl (fun st => x_conv (k := .u64) sm_3 Try.underlying63 (ee st rfl) hf8) ?_
   replace hG := shlO_bind hG; obtain ⟨hf9, hG⟩ := hG
   refine wd rfl (fun st => x_shl (ee st rfl) (ee st rfl) hf9) <| wd rfl (fun st => x_lss (ee st rfl) (ee st rfl)) <| wl_end <| lv_next ?_
   rcases bool_cases (decide (s7_8 < (shlI (1 : Int) p0.rows))) with hc10 | hc10
   ·replace hG := cond_t hG hc10
    refine cc_cond_t rfl hc10 <| cc_skip <| lv_next <| cc_seq <| cc_block <| cc_seq <| cc_region <| wm rfl (v := I s7_8) hs7_8 ?_
    replace hG := bind_some hG; obtain ⟨r11, hr11, hG⟩ := hG
    refine we rfl (fun st => x_call0 own_49 (ee st rfl) (am1 (ee st rfl)) (a49 K_ s7_8 (ZZ Z w.heap.size [some b1]) _ r11 hr11)) ?_
    rintro _ w12 ⟨hx11, ⟨A11_r, c11_r, rfl, hS11_r⟩⟩
    have hp4 : Hp w [some b1] w12 := hp3.ext hx11
    have hS11_r := hS11_r.mv (hp3.call (Nat.le_refl _))
    refine wa rfl (v := .slice A11_r r11.length c11_r) rfl <| wl_end <| lv_next <| cc_seq <| cc_region <| wm rfl (v := .slice A11_r r11.length c11_r) rfl <| wm rfl (v := .slice As7_7 s7_7.length Cs7_7) hs7_7 ?_
    have Hs7_7_4 : Sl (eInt .i64) w12 (ZZ Z w.heap.size [some b1]) As7_7 Cs7_7 s7_7 := (f7_Hs7_7.mv (mv_ext hx11))
    replace hG := bind_some hG; obtain ⟨r13, hr13, hG⟩ := hG
    refine we rfl (fun st => x_call0 own_48 (ee st rfl) (am2 (ee st rfl) (ee st rfl)) (a48 K_ r11 s7_7 A11_r c11_r As7_7 Cs7_7 ZA _ hS11_r.all Hs7_7_4.all r13 hr13)) ?_
    rintro _ w14 ⟨hx13, rfl⟩
    have hp5 : Hp w [some b1] w14 := hp4.ext hx13
    refine wm rfl (v := .bool r13) rfl ?_
    rcases bool_cases (r13) with hc15 | hc15
    ·replace hG := cond_t hG hc15
     refine wl_detg rfl rfl (guard_eq rfl hc15) rfl (by decide) (fun st => x_move (v := .slice A1_0 p1.length c1_0) (ee st hs7_1)) <| wl_detg rfl rfl (guard_eq rfl hc15) rfl (by decide) (fun st => x_move (v := I p2) (ee st hs7_2)) <| wl_detg rfl rfl (guard_eq rfl hc15) rfl (by decide) (fun st => x_move (v := I s7_8) (ee st hs7_8)) ?_
     have hS1_0_5 : Sl (eSl (eInt .i64)) w14 (ZZ Z w.heap.size [some b1]) A1_0 c1_0 p1 := ((f7_hS1_0.mv (mv_ext hx11)).mv (mv_ext hx13))
     replace hG := bind_some hG; obtain ⟨r16, hr16, hG⟩ := hG
     refine wl_exg rfl rfl (guard_eq rfl hc15) rfl (by decide) (fun st => x_call0 own_59 (ee st rfl) (am3 (ee st rfl) (ee st rfl) (ee st rfl)) (a59 K_ p1 p2 s7_8 A1_0 c1_0 ZA _ hS1_0_5.all r16 hr16)) ?_
     rintro _ w17 ⟨hx16, rfl⟩
     have hp6 : Hp w [some b1] w17 := hp5.ext hx16
     refine wd rfl (fun st => x_pick_t (v := .bool r16) (ee st rfl) hc15 (ee st rfl)) <| wl_end <| lv_next ?_
     rcases bool_cases (r16) with hc18 | hc18
     ·replace hG := cond_t hG hc18
      refine cc_cond_t rfl hc18 <| cc_region <| wm rfl (v := .slice A11_r r11.length c11_r) rfl <| wa rfl (v := .slice A11_r r11.length c11_r) rfl <| wl_end <| lv_block <| lv_next <| cc_region <| wm rfl (v := I s7_8) hs7_8 ?_
      replace hG := i64_bind hG; obtain ⟨hf19, hG⟩ := hG
      refine wd rfl (fun st => x_add (ee st rfl) (ee st rfl) hf19) <| wa rfl (v := I (s7_8 + 1)) rfl <| wl_end ?_
      have hS11_r_6 : Sl (eInt .i64) w17 (ZZ Z w.heap.size [some b1]) A11_r c11_r r11 := ((hS11_r.mv (mv_ext hx13)).mv (mv_ext hx16))
      have bk1_6 : Bk w17 b1 26 #[I p0.rows, I p0.wd, I p0.lo, I p0.hi, .slice A0_0 p0.ts.length c0_0] := (((f7_bk1.ext hx11).ext hx13).ext hx16)
      have hS0_0_6 : Sl eTly w17 (ZZ Z w.heap.size [some b1]) A0_0 c0_0 p0.ts := (((f7_hS0_0.mv (mv_ext hx11)).mv (mv_ext hx13)).mv (mv_ext hx16))
      have hS1_0_6 : Sl (eSl (eInt .i64)) w17 (ZZ Z w.heap.size [some b1]) A1_0 c1_0 p1 := (hS1_0_5.mv (mv_ext hx16))
      refine lv_round m_ (Nat.lt_succ_self _) (fun st => ?_)
      exact ⟨r11, (s7_8 + 1), A11_r, c11_r, hG, (puts_size _ _).trans st.sz, (puts_defers _ _).trans st.df, (sl_puts st 1).trans hs7_1, (sl_puts st 2).trans hs7_2, (sl_puts st 3).trans hs7_3, (sl_puts st 7).trans rfl, (sl_puts st 8).trans rfl, hp6, hS11_r_6, bk1_6, hS0_0_6, hS1_0_6⟩
     ·replace hG := cond_f hG hc18
      refine cc_cond_f rfl hc18 <| cc_skip <| lv_block <| lv_next <| cc_region <| wm rfl (v := I s7_8) hs7_8 ?_
      replace hG := i64_bind hG; obtain ⟨hf20, hG⟩ := hG
      refine wd rfl (fun st => x_add (ee st rfl) (ee st rfl) hf20) <| wa rfl (v := I (s7_8 + 1)) rfl <| wl_end ?_
      have Hs7_7_6 : Sl (eInt .i64) w17 (ZZ Z w.heap.size [some b1]) As7_7 Cs7_7 s7_7 := ((Hs7_7_4.mv (mv_ext hx13)).mv (mv_ext hx16))
      have bk1_6 : Bk w17 b1 26 #[I p0.rows, I p0.wd, I p0.lo, I p0.hi, .slice A0_0 p0.ts.length c0_0] := (((f7_bk1.ext hx11).ext hx13).ext hx16)
      have hS0_0_6 : Sl eTly w17 (ZZ Z w.heap.size [some b1]) A0_0 c0_0 p0.ts := (((f7_hS0_0.mv (mv_ext hx11)).mv (mv_ext hx13)).mv (mv_ext hx16))
      have hS1_0_6 : Sl (eSl (eInt .i64)) w17 (ZZ Z w.heap.size [some b1]) A1_0 c1_0 p1 := (hS1_0_5.mv (mv_ext hx16))
      refine lv_round m_ (Nat.lt_succ_self _) (fun st => ?_)
      exact ⟨s7_7, (s7_8 + 1), As7_7, Cs7_7, hG, (puts_size _ _).trans st.sz, (puts_defers _ _).trans st.df, (sl_puts st 1).trans hs7_1, (sl_puts st 2).trans hs7_2, (sl_puts st 3).trans hs7_3, (sl_puts st 7).trans hs7_7, (sl_puts st 8).trans rfl, hp6, Hs7_7_6, bk1_6, hS0_0_6, hS1_0_6⟩
    ·replace hG := cond_f hG hc15
     refine wl_skip (c := false) rfl rfl (guard_eq rfl hc15) (by decide) rfl (by decide) <| wl_skip (c := false) rfl rfl (guard_eq rfl hc15) (by decide) rfl (by decide) <| wl_skip (c := false) rfl rfl (guard_eq rfl hc15) (by decide) rfl (by decide) <| wl_skip (c := false) rfl rfl (guard_eq rfl hc15) (by decide) rfl (by decide) <| wd rfl (fun st => x_pick_f (v := .bool false) (ee st rfl) hc15 (ee st rfl)) <| wl_end <| lv_next <| cc_cond_f rfl rfl <| cc_skip <| lv_block <| lv_next <| cc_region <| wm rfl (v := I s7_8) hs7_8 ?_
     replace hG := i64_bind hG; obtain ⟨hf21, hG⟩ := hG
     refine wd rfl (fun st => x_add (ee st rfl) (ee st rfl) hf21) <| wa rfl (v := I (s7_8 + 1)) rfl <| wl_end ?_
     have Hs7_7_5 : Sl (eInt .i64) w14 (ZZ Z w.heap.size [some b1]) As7_7 Cs7_7 s7_7 := (Hs7_7_4.mv (mv_ext hx13))
     have bk1_5 : Bk w14 b1 26 #[I p0.rows, I p0.wd, I p0.lo, I p0.hi, .slice A0_0 p0.ts.length c0_0] := ((f7_bk1.ext hx11).ext hx13)
     have hS0_0_5 : Sl eTly w14 (ZZ Z w.heap.size [some b1]) A0_0 c0_0 p0.ts := ((f7_hS0_0.mv (mv_ext hx11)).mv (mv_ext hx13))
     have hS1_0_5 : Sl (eSl (eInt .i64)) w14 (ZZ Z w.heap.size [some b1]) A1_0 c1_0 p1 := ((f7_hS1_0.mv (mv_ext hx11)).mv (mv_ext hx13))
     refine lv_round m_ (Nat.lt_succ_self _) (fun st => ?_)
     exact ⟨s7_7, (s7_8 + 1), As7_7, Cs7_7, hG, (puts_size _ _).trans st.sz, (puts_defers _ _).trans st.df, (sl_puts st 1).trans hs7_1, (sl_puts st 2).trans hs7_2, (sl_puts st 3).trans hs7_3, (sl_puts st 7).trans hs7_7, (sl_puts st 8).trans rfl, hp5, Hs7_7_5, bk1_5, hS0_0_5, hS1_0_5⟩
   ·replace hG := cond_f hG hc10
    refine cc_cond_f rfl hc10 <| cc_exit <| lv_then_exit <| lv_then_exit ?_
    obtain rfl := Option.some.inj hG
    refine lv_to (fun st => ?_)
    exact ⟨rfl, As7_7, Cs7_7, (puts_size _ _).trans st.sz, (puts_defers _ _).trans st.df, (sl_puts st 7).trans hs7_7, hp3, f7_Hs7_7⟩
 case af7 =>
  rintro e_ fr7a w7a (⟨rfl, Ae7_0_70, Ce7_0_70, hsz7a, hdf7a, hs7a_7, hp7a, g7_He7_0_70⟩)
  refine lv_fr (X := X0) (N := 37) hsz7a hdf7a <| lv_block_hit <| lv_next <| cc_seq <| cc_region <| wm rfl (v := .slice Ae7_0_70 z7.length Ce7_0_70) hs7a_7 <| wa rfl (v := .slice Ae7_0_70 z7.length Ce7_0_70) rfl <| wl_end <| lv_next <| cc_ret ?_
  obtain rfl := Option.some.inj hG
  refine lv_ret1 rfl rfl ?_
  exact ⟨hp7a.fin, ⟨_, _, rfl, g7_He7_0_70.mv mv_drop⟩⟩
theorem a58 (K_ : Nat) (p0 : Fld) (p1 : List Int) (A0_0 : Option Addr) (c0_0 : Nat) (A1_0 : Option Addr) (c1_0 : Nat) (Z : Nat → Prop) (w : World) (hS0_0 : Sl eTly w Z A0_0 c0_0 p0.ts) (hS1_0 : Sl (eInt .i64) w Z A1_0 c1_0 p1) (r_ : Int × Bool) (hG : G_IsRows K_ p0 p1 = some r_) :
    Ret Try.prog 58 #[.agg #[I p0.rows, I p0.wd, I p0.lo, I p0.hi, .slice A0_0 p0.ts.length c0_0], .slice A1_0 p1.length c1_0] w (fun v w' => Ext w w' ∧ (vT2 (vInt .i64) vBool).R w' (ZZ Z w.heap.size []) v r_) := by
 unfold G_IsRows at hG
 refine ret_of_cc (N := 48) Try.func58 rfl rfl (by simp) ?_
 intro fr0 ha hdf
 have hp_0 := sl_arg (i := 0) (v := .agg #[I p0.rows, I p0.wd, I p0.lo, I p0.hi, .slice A0_0 p0.ts.length c0_0]) ha rfl
 have hp_1 := sl_arg (i := 1) (v := .slice A1_0 p1.length c1_0) ha rfl
 clear ha
 have hp0 := Hp.refl w
 have hS0_0_0 := hS0_0.mv (mv_start w)
 have hS1_0_0 := hS1_0.mv (mv_start w)
 refine cc_seq <| cc_region <| we rfl (fun st => x_box (v := .agg #[I p0.rows, I p0.wd, I p0.lo, I p0.hi, .slice A0_0 p0.ts.length c0_0]) (cs := #[I p0.rows, I p0.wd, I p0.lo, I p0.hi, .slice A0_0 p0.ts.length c0_0]) (ee st hp_0) rfl) ?_
 rintro _ w1 ⟨b1, rfl, nb1⟩
 have hp1 : Hp w [some b1] w1 := hp0.new nb1.gr (Nat.le_of_eq nb1.b_eq.symm) (Nat.lt_of_lt_of_eq (Nat.lt_succ_self _) nb1.sz.symm)
 refine wa rfl (v := I 0) rfl <| wa rfl (v := .bool false) rfl <| wl_end <| lv_next <| cc_seq <| cc_region <| wa rfl (v := I 0) rfl <| wl_end <| lv_next <| cc_seq <| cc_seq <| cc_region <| wa rfl (v := I 0) rfl <| wl_end <| lv_next <| cc_block ?_
 replace hG := bind_some hG; obtain ⟨z2, hL2, hG⟩ := hG
 refine cc_join (fun e_ fr_ w_ => (e_ = .ret ∧ ∃ q2, z2 = .inl q2 ∧ fr_.tmps.size = 48 ∧ fr_.defers = [] ∧ sl fr_ 4 = I q2.1 ∧ sl fr_ 5 = .bool q2.2 ∧ Hp w [some b1] w_) ∨ (e_ = .exit 0 ∧ ∃ q2, z2 = .inr q2 ∧ fr_.tmps.size = 48 ∧ fr_.defers = [] ∧ sl fr_ 6 = I q2 ∧ Hp w [some b1] w_)) ?lp2 ?af2
 case lp2 =>
  clear hG
  refine cc_loop (fun (m_ : Nat) (fr_ : Act) (w_ : World) => ∃ s2_6, ∃ s2_7, G_IsRows_L2 K_ p0 p1 m_ s2_6 s2_7 = some z2 ∧ fr_.tmps.size = 48 ∧ fr_.defers = [] ∧ sl fr_ 1 = .slice A1_0 p1.length c1_0 ∧ sl fr_ 2 = pt b1 0 ∧ sl fr_ 6 = I s2_6 ∧ sl fr_ 7 = I s2_7 ∧ Hp w [some b1] w_ ∧ Bk w_ b1 26 #[I p0.rows, I p0.wd, I p0.lo, I p0.hi, .slice A0_0 p0.ts.length c0_0] ∧ Sl eTly w_ (ZZ Z w.heap.size [some b1]) A0_0 c0_0 p0.ts ∧ Sl (eInt .i64) w_ (ZZ Z w.heap.size [some b1]) A1_0 c1_0 p1) K_ ?in2 ?rd2
  case in2 =>
   intro st
   have hS0_0_1 : Sl eTly w1 (ZZ Z w.heap.size [some b1]) A0_0 c0_0 p0.ts := (hS0_0_0.mv (mv_new nb1.gr (Nat.le_of_eq nb1.b_eq.symm)))
   have hS1_0_1 : Sl (eInt .i64) w1 (ZZ Z w.heap.size [some b1]) A1_0 c1_0 p1 := (hS1_0_0.mv (mv_new nb1.gr (Nat.le_of_eq nb1.b_eq.symm)))
   exact ⟨(0 : Int), (0 : Int), hL2, (puts_size _ _).trans st.sz, (puts_defers _ _).trans st.df, (sl_puts st 1).trans hp_1, (sl_puts st 2).trans rfl, (sl_puts st 6).trans rfl, (sl_puts st 7).trans rfl, hp1, nb1.bk, hS0_0_1, hS1_0_1⟩
  case rd2 =>
   rintro (_ | m_) fr2 w2r ⟨s2_6, s2_7, hL2, hsz2, hdf2, hs2_1, hs2_2, hs2_6, hs2_7, hp2, f2_bk1, f2_hS0_0, f2_hS1_0⟩
   ·exact absurd (show none = some _ from hL2) (by simp)
   rw [G_IsRows_L2.eq_2] at hL2
   have hG := hL2; clear hL2
   refine round_cc (N := 48) hsz2 hdf2 <| cc_seq <| cc_seq <| cc_region <| wm rfl (v := I s2_7) hs2_7 <| wm rfl (v := .slice A1_0 p1.length c1_0) hs2_1 <| wd rfl (fun st => x_len Try.underlying43 (ee st rfl)) <| wd rfl (fun st => x_lss (ee st rfl) (ee st rfl)) <| wl_end <| lv_next ?_
   rcases bool_cases (decide (s2_7 < (p1.length : Int))) with hc3 | hc3
   ·replace hG := cond_t hG hc3
    refine cc_cond_t rfl hc3 <| cc_skip <| lv_next <| cc_seq <| cc_block <| cc_seq <| cc_seq ?_
    replace hG := idx_bind hG; obtain ⟨i5, x5, hi5, hx5, hl5, hG⟩ := hG
    obtain ⟨b5, o5, _, hA5, rfl, hz5⟩ := Sl.elem1 f2_hS1_0 rfl hx5
    replace hG := i64_bind hG; obtain ⟨hf6, hG⟩ := hG
    replace hG := bind_some hG; obtain ⟨r7, hr7, hG⟩ := hG
    rcases bool_cases (!r7) with hc8 | hc8
    ·replace hG := cond_t hG hc8
     have hc8_9 : r7 = false := by simpa using hc8
     refine cc_anyM0 25 [Kc (.slice A1_0 p1.length c1_0), Kc (I s2_7), Kc (pt b5 (o5 + i5)), Kc (I x5), Kc (pt b1 0), Kc (I p0.rows), Kc (I (p0.rows - 1)), Kc (.bool r7), Kc (.bool !r7), Kc (.bool !r7), Kc undef, Kc undef, Kc undef, Kc undef, Kc undef, Kc undef, Kc undef, Kc undef, Kc undef, Kc undef, Kc undef, Kc undef, Kc undef, Kc undef, Kc (.bool true)] mixedA5 rfl rfl
         (obsN_cons (od rfl (fun _ => rfl) (fun K => x_move (v := .slice A1_0 p1.length c1_0) (es (t := 1) (v := .slice A1_0 p1.length c1_0) ((K.out 1 rfl).trans hs2_1))))
         (obsN_cons (od rfl (fun _ => rfl) (fun K => x_move (v := I s2_7) (es (t := 7) (v := I s2_7) ((K.out 7 rfl).trans hs2_7))))
         (obsN_cons (od rfl (fun _ => rfl) (fun K => x_indexAddr1 (k := i5) Try.underlying43 sz_3 (es (t := 14) (v := .slice A1_0 p1.length c1_0) (K.dep 0 14 rfl rfl)) hA5 (es (t := 15) (v := I s2_7) (K.dep 1 15 rfl rfl)) hi5 hl5))
         (obsN_cons (od rfl (fun _ => rfl) (fun K => x_load_z0 (v := I x5) one_3 (es (t := 16) (v := pt b5 (o5 + i5)) (K.dep 2 16 rfl rfl)) (hz5.mv (mv_ext K.phT)) rfl))
         (obsN_cons (od rfl (fun _ => rfl) (fun K => x_fieldAddr (es (t := 2) (v := pt b1 0) ((K.out 2 rfl).trans hs2_2)) (fz_26_0 _ _)))
         (obsN_cons (od rfl (fun _ => rfl) (fun K => x_load1 (v := I p0.rows) one_3 (es (t := 18) (v := pt b1 0) (K.dep 4 18 rfl rfl)) (f2_bk1.ext K.phT) rfl))
         (obsN_cons (od rfl (fun _ => rfl) (fun K => x_sub (es (t := 19) (v := I p0.rows) (K.dep 5 19 rfl rfl)) (ec (v := I 1)) hf6))
         (obsN_cons (ob_ext rfl rfl (fun a' w' ph K => (x_call0 own_29 rfl (am3 (es (t := 17) (v := I x5) (K.dep 3 17 rfl rfl)) (ec (v := I 0)) (es (t := 20) (v := I (p0.rows - 1)) (K.dep 6 20 rfl rfl))) (a29 K_ x5 0 (p0.rows - 1) ZA _ r7 hr7)).mono (fun _ _ h => ⟨h.2, h.1⟩)))
         (obsN_cons (od rfl (fun _ => rfl) (fun K => x_not (es (t := 21) (v := .bool r7) (K.dep 7 21 rfl rfl))))
         (obsN_cons (od rfl (fun _ => rfl) (fun K => x_move (v := .bool !r7) (es (t := 22) (v := .bool !r7) (K.dep 8 22 rfl rfl))))
         (obsN_cons (ob_skip (c := true) rfl rfl rfl (by decide) (fun a' w' ph K => (guard_eq (show sl a' 23 = .bool !r7 from K.dep 9 23 rfl rfl) hc8)) (fun _ => rfl))
         (obsN_cons (ob_skip (c := true) rfl rfl rfl (by decide) (fun a' w' ph K => (guard_eq (show sl a' 23 = .bool !r7 from K.dep 9 23 rfl rfl) hc8)) (fun _ => rfl))
         (obsN_cons (ob_skip (c := true) rfl rfl rfl (by decide) (fun a' w' ph K => (guard_eq (show sl a' 23 = .bool !r7 from K.dep 9 23 rfl rfl) hc8)) (fun _ => rfl))
         (obsN_cons (ob_skip_u rfl rfl rfl (fun a' w' ph K => K.dep 12 26 rfl rfl) (fun _ => rfl))
         (obsN_cons (ob_skip_u rfl rfl rfl (fun a' w' ph K => K.dep 12 26 rfl rfl) (fun _ => rfl))
         (obsN_cons (ob_skip_u rfl rfl rfl (fun a' w' ph K => K.dep 12 26 rfl rfl) (fun _ => rfl))
         (obsN_cons (ob_skip_u rfl rfl rfl (fun a' w' ph K => K.dep 12 26 rfl rfl) (fun _ => rfl))
         (obsN_cons (ob_skip_u rfl rfl rfl (fun a' w' ph K => K.dep 12 26 rfl rfl) (fun _ => rfl))
         (obsN_cons (ob_skip_u rfl rfl rfl (fun a' w' ph K => K.dep 12 26 rfl rfl) (fun _ => rfl))
         (obsN_cons (ob_skip_u rfl rfl rfl (fun a' w' ph K => K.dep 12 26 rfl rfl) (fun _ => rfl))
         (obsN_cons (ob_skip_u rfl rfl rfl (fun a' w' ph K => K.dep 12 26 rfl rfl) (fun _ => rfl))
         (obsN_cons (ob_skip_u rfl rfl rfl (fun a' w' ph K => K.dep 12 26 rfl rfl) (fun _ => rfl))
         (obsN_cons (ob_skip_u rfl rfl rfl (fun a' w' ph K => K.dep 12 26 rfl rfl) (fun _ => rfl))
         (obsN_cons (ob_skip (c := true) rfl rfl rfl (by decide) (fun a' w' ph K => (guard_eq (show sl a' 23 = .bool !r7 from K.dep 9 23 rfl rfl) hc8)) (fun _ => rfl))
         (obsN_cons (od rfl (fun _ => rfl) (fun K => x_pick_t (v := .bool true) (es (t := 23) (v := .bool !r7) (K.dep 9 23 rfl rfl)) hc8 (ec (v := .bool true))))
         (obsN_nil _)))))))))))))))))))))))))) ?_
     intro w4
     rintro _ rfl _ rfl _ rfl _ rfl _ rfl _ rfl _ rfl _ rfl _ rfl _ rfl _ rfl _ rfl _ rfl _ rfl _ rfl _ rfl _ rfl _ rfl _ rfl _ rfl _ rfl _ rfl _ rfl _ rfl _ rfl hx4
     have hp3 : Hp w [some b1] w4 := hp2.ext hx4
     refine wl_end <| lv_next <| cc_cond_t rfl rfl <| cc_seq <| cc_region <| wa rfl (v := I 0) rfl <| wa rfl (v := .bool false) rfl <| wl_end <| lv_next <| cc_ret <| lv_then_ret <| lv_block_ret <| lv_then_ret <| lv_then_ret ?_
     obtain rfl := Option.some.inj hG
     refine lv_to (fun st => ?_)
     exact .inl ⟨rfl, ((0 : Int), false), rfl, (puts_size _ _).trans st.sz, (puts_defers _ _).trans st.df, (sl_puts st 4).trans rfl, (sl_puts st 5).trans rfl, hp3⟩
    ·replace hG := cond_f hG hc8
     have hc8_10 : r7 = true := by simpa using hc8
     rcases bool_cases (decide (0 < s2_7)) with hc11 | hc11
     ·replace hG := cond_t hG hc11
      replace hG := idx_bind hG; obtain ⟨i12, x12, hi12, hx12, hl12, hG⟩ := hG
      obtain ⟨b12, o12, _, hA12, rfl, hz12⟩ := Sl.elem1 f2_hS1_0 rfl hx12
      replace hG := i64_bind hG; obtain ⟨hf13, hG⟩ := hG
      replace hG := idx_bind hG; obtain ⟨i14, x14, hi14, hx14, hl14, hG⟩ := hG
      obtain ⟨b14, o14, _, hA14, rfl, hz14⟩ := Sl.elem1 f2_hS1_0 rfl hx14
      refine cc_anyM0 25 [Kc (.slice A1_0 p1.length c1_0), Kc (I s2_7), Kc (pt b5 (o5 + i5)), Kc (I x5), Kc (pt b1 0), Kc (I p0.rows), Kc (I (p0.rows - 1)), Kc (.bool r7), Kc (.bool !r7), Kc (.bool !r7), Kc (I s2_7), Kc (.bool (decide (0 < s2_7))), Kc (.bool (decide (0 < s2_7))), Kc (.slice A1_0 p1.length c1_0), Kc (I s2_7), Kc (pt b12 (o12 + i12)), Kc (I x12), Kc (.slice A1_0 p1.length c1_0), Kc (I s2_7), Kc (I (s2_7 - 1)), Kc (pt b14 (o14 + i14)), Kc (I x14), Kc (.bool (decide (x12 ≤ x14))), Kc (.bool (decide (x12 ≤ x14))), Kc (.bool (decide (x12 ≤ x14)))] mixedA5 rfl rfl
          (obsN_cons (od rfl (fun _ => rfl) (fun K => x_move (v := .slice A1_0 p1.length c1_0) (es (t := 1) (v := .slice A1_0 p1.length c1_0) ((K.out 1 rfl).trans hs2_1))))
          (obsN_cons (od rfl (fun _ => rfl) (fun K => x_move (v := I s2_7) (es (t := 7) (v := I s2_7) ((K.out 7 rfl).trans hs2_7))))
          (obsN_cons (od rfl (fun _ => rfl) (fun K => x_indexAddr1 (k := i5) Try.underlying43 sz_3 (es (t := 14) (v := .slice A1_0 p1.length c1_0) (K.dep 0 14 rfl rfl)) hA5 (es (t := 15) (v := I s2_7) (K.dep 1 15 rfl rfl)) hi5 hl5))
          (obsN_cons (od rfl (fun _ => rfl) (fun K => x_load_z0 (v := I x5) one_3 (es (t := 16) (v := pt b5 (o5 + i5)) (K.dep 2 16 rfl rfl)) (hz5.mv (mv_ext K.phT)) rfl))
          (obsN_cons (od rfl (fun _ => rfl) (fun K => x_fieldAddr (es (t := 2) (v := pt b1 0) ((K.out 2 rfl).trans hs2_2)) (fz_26_0 _ _)))
          (obsN_cons (od rfl (fun _ => rfl) (fun K => x_load1 (v := I p0.rows) one_3 (es (t := 18) (v := pt b1 0) (K.dep 4 18 rfl rfl)) (f2_bk1.ext K.phT) rfl))
          (obsN_cons (od rfl (fun _ => rfl) (fun K => x_sub (es (t := 19) (v := I p0.rows) (K.dep 5 19 rfl rfl)) (ec (v := I 1)) hf6))
          (obsN_cons (ob_ext rfl rfl (fun a' w' ph K => (x_call0 own_29 rfl (am3 (es (t := 17) (v := I x5) (K.dep 3 17 rfl rfl)) (ec (v := I 0)) (es (t := 20) (v := I (p0.rows - 1)) (K.dep 6 20 rfl rfl))) (a29 K_ x5 0 (p0.rows - 1) ZA _ r7 hr7)).mono (fun _ _ h => ⟨h.2, h.1⟩)))
          (obsN_cons (od rfl (fun _ => rfl) (fun K => x_not (es (t := 21) (v := .bool r7) (K.dep 7 21 rfl rfl))))
          (obsN_cons (od rfl (fun _ => rfl) (fun K => x_move (v := .bool !r7) (es (t := 22) (v := .bool !r7) (K.dep 8 22 rfl rfl))))
          (obsN_cons (ob_detg rfl rfl rfl (fun _ => rfl) (fun a' w' ph K => (guard_eq (show sl a' 23 = .bool !r7 from K.dep 9 23 rfl rfl) hc8)) (fun a' w' ph K => x_move (v := I s2_7) (es (t := 7) (v := I s2_7) ((K.out 7 rfl).trans hs2_7))))
          (obsN_cons (ob_detg rfl rfl rfl (fun _ => rfl) (fun a' w' ph K => (guard_eq (show sl a' 23 = .bool !r7 from K.dep 9 23 rfl rfl) hc8)) (fun a' w' ph K => x_gtr (es (t := 24) (v := I s2_7) (K.dep 10 24 rfl rfl)) (ec (v := I 0))))
          (obsN_cons (ob_detg rfl rfl rfl (fun _ => rfl) (fun a' w' ph K => (guard_eq (show sl a' 23 = .bool !r7 from K.dep 9 23 rfl rfl) hc8)) (fun a' w' ph K => x_move (v := .bool (decide (0 < s2_7))) (es (t := 25) (v := .bool (decide (0 < s2_7))) (K.dep 11 25 rfl rfl))))
          (obsN_cons (ob_detg rfl rfl rfl (fun _ => rfl) (fun a' w' ph K => (guard_eq (show sl a' 26 = .bool (decide (0 < s2_7)) from K.dep 12 26 rfl rfl) hc11)) (fun a' w' ph K => x_move (v := .slice A1_0 p1.length c1_0) (es (t := 1) (v := .slice A1_0 p1.length c1_0) ((K.out 1 rfl).trans hs2_1))))
          (obsN_cons (ob_detg rfl rfl rfl (fun _ => rfl) (fun a' w' ph K => (guard_eq (show sl a' 26 = .bool (decide (0 < s2_7)) from K.dep 12 26 rfl rfl) hc11)) (fun a' w' ph K => x_move (v := I s2_7) (es (t := 7) (v := I s2_7) ((K.out 7 rfl).trans hs2_7))))
          (obsN_cons (ob_detg rfl rfl rfl (fun _ => rfl) (fun a' w' ph K => (guard_eq (show sl a' 26 = .bool (decide (0 < s2_7)) from K.dep 12 26 rfl rfl) hc11)) (fun a' w' ph K => x_indexAddr1 (k := i12) Try.underlying43 sz_3 (es (t := 27) (v := .slice A1_0 p1.length c1_0) (K.dep 13 27 rfl rfl)) hA12 (es (t := 28) (v := I s2_7) (K.dep 14 28 rfl rfl)) hi12 hl12))
          (obsN_cons (ob_detg rfl rfl rfl (fun _ => rfl) (fun a' w' ph K => (guard_eq (show sl a' 26 = .bool (decide (0 < s2_7)) from K.dep 12 26 rfl rfl) hc11)) (fun a' w' ph K => x_load_z0 (v := I x12) one_3 (es (t := 29) (v := pt b12 (o12 + i12)) (K.dep 15 29 rfl rfl)) (hz12.mv (mv_ext K.phT)) rfl))
          (obsN_cons (ob_detg rfl rfl rfl (fun _ => rfl) (fun a' w' ph K => (guard_eq (show sl a' 26 = .bool (decide (0 < s2_7)) from K.dep 12 26 rfl rfl) hc11)) (fun a' w' ph K => x_move (v := .slice A1_0 p1.length c1_0) (es (t := 1) (v := .slice A1_0 p1.length c1_0) ((K.out 1 rfl).trans hs2_1))))
          (obsN_cons (ob_detg rfl rfl rfl (fun _ => rfl) (fun a' w' ph K => (guard_eq (show sl a' 26 = .bool (decide (0 < s2_7)) from K.dep 12 26 rfl rfl) hc11)) (fun a' w' ph K => x_move (v := I s2_7) (es (t := 7) (v := I s2_7) ((K.out 7 rfl).trans hs2_7))))
          (obsN_cons (ob_detg rfl rfl rfl (fun _ => rfl) (fun a' w' ph K => (guard_eq (show sl a' 26 = .bool (decide (0 < s2_7)) from K.dep 12 26 rfl rfl) hc11)) (fun a' w' ph K => x_sub (es (t := 32) (v := I s2_7) (K.dep 18 32 rfl rfl)) (ec (v := I 1)) hf13))
          (obsN_cons (ob_detg rfl rfl rfl (fun _ => rfl) (fun a' w' ph K => (guard_eq (show sl a' 26 = .bool (decide (0 < s2_7)) from K.dep 12 26 rfl rfl) hc11)) (fun a' w' ph K => x_indexAddr1 (k := i14) Try.underlying43 sz_3 (es (t := 31) (v := .slice A1_0 p1.length c1_0) (K.dep 17 31 rfl rfl)) hA14 (es (t := 33) (v := I (s2_7 - 1)) (K.dep 19 33 rfl rfl)) hi14 hl14))
          (obsN_cons (ob_detg rfl rfl rfl (fun _ => rfl) (fun a' w' ph K => (guard_eq (show sl a' 26 = .bool (decide (0 < s2_7)) from K.dep 12 26 rfl rfl) hc11)) (fun a' w' ph K => x_load_z0 (v := I x14) one_3 (es (t := 34) (v := pt b14 (o14 + i14)) (K.dep 20 34 rfl rfl)) (hz14.mv (mv_ext K.phT)) rfl))
          (obsN_cons (ob_detg rfl rfl rfl (fun _ => rfl) (fun a' w' ph K => (guard_eq (show sl a' 26 = .bool (decide (0 < s2_7)) from K.dep 12 26 rfl rfl) hc11)) (fun a' w' ph K => x_leq (es (t := 30) (v := I x12) (K.dep 16 30 rfl rfl)) (es (t := 35) (v := I x14) (K.dep 21 35 rfl rfl))))
          (obsN_cons (ob_detg rfl rfl rfl (fun _ => rfl) (fun a' w' ph K => (guard_eq (show sl a' 23 = .bool !r7 from K.dep 9 23 rfl rfl) hc8)) (fun a' w' ph K => x_pick_t (v := .bool (decide (x12 ≤ x14))) (es (t := 26) (v := .bool (decide (0 < s2_7))) (K.dep 12 26 rfl rfl)) hc11 (es (t := 36) (v := .bool (decide (x12 ≤ x14))) (K.dep 22 36 rfl rfl))))
          (obsN_cons (od rfl (fun _ => rfl) (fun K => x_pick_f (v := .bool (decide (x12 ≤ x14))) (es (t := 23) (v := .bool !r7) (K.dep 9 23 rfl rfl)) hc8 (es (t := 37) (v := .bool (decide (x12 ≤ x14))) (K.dep 23 37 rfl rfl))))
          (obsN_nil _)))))))))))))))))))))))))) ?_
      intro w4
      rintro _ rfl _ rfl _ rfl _ rfl _ rfl _ rfl _ rfl _ rfl _ rfl _ rfl _ rfl _ rfl _ rfl _ rfl _ rfl _ rfl _ rfl _ rfl _ rfl _ rfl _ rfl _ rfl _ rfl _ rfl _ rfl hx4
      have hp4 : Hp w [some b1] w4 := hp2.ext hx4
      refine wl_end <| lv_next ?_
      rcases bool_cases (decide (x12 ≤ x14)) with hc15 | hc15
      ·replace hG := cond_t hG hc15
       refine cc_cond_t rfl hc15 <| cc_seq <| cc_region <| wa rfl (v := I 0) rfl <| wa rfl (v := .bool false) rfl <| wl_end <| lv_next <| cc_ret <| lv_then_ret <| lv_block_ret <| lv_then_ret <| lv_then_ret ?_
       obtain rfl := Option.some.inj hG
       refine lv_to (fun st => ?_)
       exact .inl ⟨rfl, ((0 : Int), false), rfl, (puts_size _ _).trans st.sz, (puts_defers _ _).trans st.df, (sl_puts st 4).trans rfl, (sl_puts st 5).trans rfl, hp4⟩
      ·replace hG := cond_f hG hc15
       refine cc_cond_f rfl hc15 <| cc_skip <| lv_next <| cc_region <| wm rfl (v := I s2_6) hs2_6 <| wm rfl (v := .slice A1_0 p1.length c1_0) hs2_1 <| wm rfl (v := I s2_7) hs2_7 ?_
       replace hG := idx_bind hG; obtain ⟨i16, x16, hi16, hx16, hl16, hG⟩ := hG
       have hS1_0_4 : Sl (eInt .i64) w4 (ZZ Z w.heap.size [some b1]) A1_0 c1_0 p1 := (f2_hS1_0.mv (mv_ext hx4))
       obtain ⟨b16, o16, _, hA16, rfl, hz16⟩ := Sl.elem1 hS1_0_4 rfl hx16
       refine wd rfl (fun st => x_indexAddr1 (k := i16) Try.underlying43 sz_3 (ee st rfl) hA16 (ee st rfl) hi16 hl16) <| wd rfl (fun st => x_load_z0 (v := I x16) one_3 (ee st rfl) hz16 rfl) ?_
       replace hG := cvO_bind hG; obtain ⟨hf17, hG⟩ := hG
       refine wd rfl (fun st => x_conv (k := .u64) sm_3 Try.underlying63 (ee st rfl) hf17) ?_
       replace hG := shlO_bind hG; obtain ⟨hf18, hG⟩ := hG
       refine wd rfl (fun st => x_shl (ee st rfl) (ee st rfl) hf18) ?_
       replace hG := bitO_bind hG; obtain ⟨hf19, hG⟩ := hG
       refine wd rfl (fun st => x_or (ee st rfl) (ee st rfl) hf19) <| wa rfl (v := I (orI s2_6 (shlI (1 : Int) x16))) rfl <| wl_end <| lv_block <| lv_next <| cc_region <| wm rfl (v := I s2_7) hs2_7 ?_
       replace hG := i64_bind hG; obtain ⟨hf20, hG⟩ := hG
       refine wd rfl (fun st => x_add (ee st rfl) (ee st rfl) hf20) <| wa rfl (v := I (s2_7 + 1)) rfl <| wl_end ?_
       have bk1_4 : Bk w4 b1 26 #[I p0.rows, I p0.wd, I p0.lo, I p0.hi, .slice A0_0 p0.ts.length c0_0] := (f2_bk1.ext hx4)
       have hS0_0_4 : Sl eTly w4 (ZZ Z w.heap.size [some b1]) A0_0 c0_0 p0.ts := (f2_hS0_0.mv (mv_ext hx4))
       refine lv_round m_ (Nat.lt_succ_self _) (fun st => ?_)
       exact ⟨(orI s2_6 (shlI (1 : Int) x16)), (s2_7 + 1), hG, (puts_size _ _).trans st.sz, (puts_defers _ _).trans st.df, (sl_puts st 1).trans hs2_1, (sl_puts st 2).trans hs2_2, (sl_puts st 6).trans rfl, (sl_puts st 7).trans rfl, hp4, bk1_4, hS0_0_4, hS1_0_4⟩
     ·replace hG := cond_f hG hc11
      refine cc_anyM0 25 [Kc (.slice A1_0 p1.length c1_0), Kc (I s2_7), Kc (pt b5 (o5 + i5)), Kc (I x5), Kc (pt b1 0), Kc (I p0.rows), Kc (I (p0.rows - 1)), Kc (.bool r7), Kc (.bool !r7), Kc (.bool !r7), Kc (I s2_7), Kc (.bool (decide (0 < s2_7))), Kc (.bool (decide (0 < s2_7))), Kc undef, Kc undef, Kc undef, Kc undef, Kc undef, Kc undef, Kc undef, Kc undef, Kc undef, Kc undef, Kc (.bool false), Kc (.bool false)] mixedA5 rfl rfl
          (obsN_cons (od rfl (fun _ => rfl) (fun K => x_move (v := .slice A1_0 p1.length c1_0) (es (t := 1) (v := .slice A1_0 p1.length c1_0) ((K.out 1 rfl).trans hs2_1))))
          (obsN_cons (od rfl (fun _ => rfl) (fun K => x_move (v := I s2_7) (es (t := 7) (v := I s2_7) ((K.out 7 rfl).trans hs2_7))))
          (obsN_cons (od rfl (fun _ => rfl) (fun K => x_indexAddr1 (k := i5) Try.underlying43 sz_3 (es (t := 14) (v := .slice A1_0 p1.length c1_0) (K.dep 0 14 rfl rfl)) hA5 (es (t := 15) (v := I s2_7) (K.dep 1 15 rfl rfl)) hi5 hl5))
          (obsN_cons (od rfl (fun _ => rfl) (fun K => x_load_z0 (v := I x5) one_3 (es (t := 16) (v := pt b5 (o5 + i5)) (K.dep 2 16 rfl rfl)) (hz5.mv (mv_ext K.phT)) rfl))
          (obsN_cons (od rfl (fun _ => rfl) (fun K => x_fieldAddr (es (t := 2) (v := pt b1 0) ((K.out 2 rfl).trans hs2_2)) (fz_26_0 _ _)))
          (obsN_cons (od rfl (fun _ => rfl) (fun K => x_load1 (v := I p0.rows) one_3 (es (t := 18) (v := pt b1 0) (K.dep 4 18 rfl rfl)) (f2_bk1.ext K.phT) rfl))
          (obsN_cons (od rfl (fun _ => rfl) (fun K => x_sub (es (t := 19) (v := I p0.rows) (K.dep 5 19 rfl rfl)) (ec (v := I 1)) hf6))
          (obsN_cons (ob_ext rfl rfl (fun a' w' ph K => (x_call0 own_29 rfl (am3 (es (t := 17) (v := I x5) (K.dep 3 17 rfl rfl)) (ec (v := I 0)) (es (t := 20) (v := I (p0.rows - 1)) (K.dep 6 20 rfl rfl))) (a29 K_ x5 0 (p0.rows - 1) ZA _ r7 hr7)).mono (fun _ _ h => ⟨h.2, h.1⟩)))
          (obsN_cons (od rfl (fun _ => rfl) (fun K => x_not (es (t := 21) (v := .bool r7) (K.dep 7 21 rfl rfl))))
          (obsN_cons (od rfl (fun _ => rfl) (fun K => x_move (v := .bool !r7) (es (t := 22) (v := .bool !r7) (K.dep 8 22 rfl rfl))))
          (obsN_cons (ob_detg rfl rfl rfl (fun _ => rfl) (fun a' w' ph K => (guard_eq (show sl a' 23 = .bool !r7 from K.dep 9 23 rfl rfl) hc8)) (fun a' w' ph K => x_move (v := I s2_7) (es (t := 7) (v := I s2_7) ((K.out 7 rfl).trans hs2_7))))
          (obsN_cons (ob_detg rfl rfl rfl (fun _ => rfl) (fun a' w' ph K => (guard_eq (show sl a' 23 = .bool !r7 from K.dep 9 23 rfl rfl) hc8)) (fun a' w' ph K => x_gtr (es (t := 24) (v := I s2_7) (K.dep 10 24 rfl rfl)) (ec (v := I 0))))
          (obsN_cons (ob_detg rfl rfl rfl (fun _ => rfl) (fun a' w' ph K => (guard_eq (show sl a' 23 = .bool !r7 from K.dep 9 23 rfl rfl) hc8)) (fun a' w' ph K => x_move (v := .bool (decide (0 < s2_7))) (es (t := 25) (v := .bool (decide (0 < s2_7))) (K.dep 11 25 rfl rfl))))
          (obsN_cons (ob_skip (c := false) rfl rfl rfl (by decide) (fun a' w' ph K => (guard_eq (show sl a' 26 = .bool (decide (0 < s2_7)) from K.dep 12 26 rfl rfl) hc11)) (fun _ => rfl))
          (obsN_cons (ob_skip (c := false) rfl rfl rfl (by decide) (fun a' w' ph K => (guard_eq (show sl a' 26 = .bool (decide (0 < s2_7)) from K.dep 12 26 rfl rfl) hc11)) (fun _ => rfl))
          (obsN_cons (ob_skip (c := false) rfl rfl rfl (by decide) (fun a' w' ph K => (guard_eq (show sl a' 26 = .bool (decide (0 < s2_7)) from K.dep 12 26 rfl rfl) hc11)) (fun _ => rfl))
          (obsN_cons (ob_skip (c := false) rfl rfl rfl (by decide) (fun a' w' ph K => (guard_eq (show sl a' 26 = .bool (decide (0 < s2_7)) from K.dep 12 26 rfl rfl) hc11)) (fun _ => rfl))
          (obsN_cons (ob_skip (c := false) rfl rfl rfl (by decide) (fun a' w' ph K => (guard_eq (show sl a' 26 = .bool (decide (0 < s2_7)) from K.dep 12 26 rfl rfl) hc11)) (fun _ => rfl))
          (obsN_cons (ob_skip (c := false) rfl rfl rfl (by decide) (fun a' w' ph K => (guard_eq (show sl a' 26 = .bool (decide (0 < s2_7)) from K.dep 12 26 rfl rfl) hc11)) (fun _ => rfl))
          (obsN_cons (ob_skip (c := false) rfl rfl rfl (by decide) (fun a' w' ph K => (guard_eq (show sl a' 26 = .bool (decide (0 < s2_7)) from K.dep 12 26 rfl rfl) hc11)) (fun _ => rfl))
          (obsN_cons (ob_skip (c := false) rfl rfl rfl (by decide) (fun a' w' ph K => (guard_eq (show sl a' 26 = .bool (decide (0 < s2_7)) from K.dep 12 26 rfl rfl) hc11)) (fun _ => rfl))
          (obsN_cons (ob_skip (c := false) rfl rfl rfl (by decide) (fun a' w' ph K => (guard_eq (show sl a' 26 = .bool (decide (0 < s2_7)) from K.dep 12 26 rfl rfl) hc11)) (fun _ => rfl))
          (obsN_cons (ob_skip (c := false) rfl rfl rfl (by decide) (fun a' w' ph K => (guard_eq (show sl a' 26 = .bool (decide (0 < s2_7)) from K.dep 12 26 rfl rfl) hc11)) (fun _ => rfl))
          (obsN_cons (ob_detg rfl rfl rfl (fun _ => rfl) (fun a' w' ph K => (guard_eq (show sl a' 23 = .bool !r7 from K.dep 9 23 rfl rfl) hc8)) (fun a' w' ph K => x_pick_f (v := .bool false) (es (t := 26) (v := .bool (decide (0 < s2_7))) (K.dep 12 26 rfl rfl)) hc11 (ec (v := .bool false))))
          (obsN_cons (od rfl (fun _ => rfl) (fun K => x_pick_f (v := .bool false) (es (t := 23) (v := .bool !r7) (K.dep 9 23 rfl rfl)) hc8 (es (t := 37) (v := .bool false) (K.dep 23 37 rfl rfl))))
          (obsN_nil _)))))))))))))))))))))))))) ?_
      intro w4
      rintro _ rfl _ rfl _ rfl _ rfl _ rfl _ rfl _ rfl _ rfl _ rfl _ rfl _ rfl _ rfl _ rfl _ rfl _ rfl _ rfl _ rfl _ rfl _ rfl _ rfl _ rfl _ rfl _ rfl _ rfl _ rfl hx4
      have hp5 : Hp w [some b1] w4 := hp2.ext hx4
      refine wl_end <| lv_next <| cc_cond_f rfl rfl <| cc_skip <| lv_next <| cc_region <| wm rfl (v := I s2_6) hs2_6 <| wm rfl (v := .slice A1_0 p1.length c1_0) hs2_1 <| wm rfl (v := I s2_7) hs2_7 ?_
      replace hG := idx_bind hG; obtain ⟨i21, x21, hi21, hx21, hl21, hG⟩ := hG
      have hS1_0_5 : Sl (eInt .i64) w4 (ZZ Z w.heap.size [some b1]) A1_0 c1_0 p1 := (f2_hS1_0.mv (mv_ext hx4))
      obtain ⟨b21, o21, _, hA21, rfl, hz21⟩ := Sl.elem1 hS1_0_5 rfl hx21
      refine wd rfl (fun st => x_indexAddr1 (k := i21) Try.underlying43 sz_3 (ee st rfl) hA21 (ee st rfl) hi21 hl21) <| wd rfl (fun st => x_load_z0 (v := I x21) one_3 (ee st rfl) hz21 rfl) ?_
      replace hG := cvO_bind hG; obtain ⟨hf22, hG⟩ := hG
      refine wd rfl (fun st => x_conv (k := .u64) sm_3 Try.underlying63 (ee st rfl) hf22) ?_
      replace hG := shlO_bind hG; obtain ⟨hf23, hG⟩ := hG
      refine wd rfl (fun st => x_shl (ee st rfl) (ee st rfl) hf23) ?_
      replace hG := bitO_bind hG; obtain ⟨hf24, hG⟩ := hG
      refine wd rfl (fun st => x_or (ee st rfl) (ee st rfl) hf24) <| wa rfl (v := I (orI s2_6 (shlI (1 : Int) x21))) rfl <| wl_end <| lv_block <| lv_next <| cc_region <| wm rfl (v := I s2_7) hs2_7 ?_
      replace hG := i64_bind hG; obtain ⟨hf25, hG⟩ := hG
      refine wd rfl (fun st => x_add (ee st rfl) (ee st rfl) hf25) <| wa rfl (v := I (s2_7 + 1)) rfl <| wl_end ?_
      have bk1_5 : Bk w4 b1 26 #[I p0.rows, I p0.wd, I p0.lo, I p0.hi, .slice A0_0 p0.ts.length c0_0] := (f2_bk1.ext hx4)
      have hS0_0_5 : Sl eTly w4 (ZZ Z w.heap.size [some b1]) A0_0 c0_0 p0.ts := (f2_hS0_0.mv (mv_ext hx4))
      refine lv_round m_ (Nat.lt_succ_self _) (fun st => ?_)
      exact ⟨(orI s2_6 (shlI (1 : Int) x21)), (s2_7 + 1), hG, (puts_size _ _).trans st.sz, (puts_defers _ _).trans st.df, (sl_puts st 1).trans hs2_1, (sl_puts st 2).trans hs2_2, (sl_puts st 6).trans rfl, (sl_puts st 7).trans rfl, hp5, bk1_5, hS0_0_5, hS1_0_5⟩
   ·replace hG := cond_f hG hc3
    refine cc_cond_f rfl hc3 <| cc_exit <| lv_then_exit <| lv_then_exit ?_
    obtain rfl := Option.some.inj hG
    refine lv_to (fun st => ?_)
    exact .inr ⟨rfl, s2_6, rfl, (puts_size _ _).trans st.sz, (puts_defers _ _).trans st.df, (sl_puts st 6).trans hs2_6, hp2⟩
 case af2 =>
  rintro e_ fr2a w2a (⟨rfl, q2, rfl, hsz2a, hdf2a, hs2a_4, hs2a_5, hp2a⟩ | ⟨rfl, q2, rfl, hsz2a, hdf2a, hs2a_6, hp2a⟩)
  ·skip
   replace hG := inl_some hG
   refine lv_fr (X := X0) (N := 48) hsz2a hdf2a <| lv_block_ret <| lv_then_ret ?_
   obtain rfl := Option.some.inj hG
   refine lv_ret2 rfl hs2a_4 hs2a_5 ?_
   exact ⟨hp2a.fin, _, _, rfl, rfl, rfl⟩
  ·skip
   replace hG := inr_some hG
   refine lv_fr (X := X0) (N := 48) hsz2a hdf2a <| lv_block_hit <| lv_next <| cc_seq <| cc_region <| wm rfl (v := I q2) hs2a_6 <| wa rfl (v := I q2) rfl <| wa rfl (v := .bool true) rfl <| wl_end <| lv_next <| cc_ret ?_
   obtain rfl := Option.some.inj hG
   refine lv_ret2 rfl rfl rfl ?_
   exact ⟨hp2a.fin, _, _, rfl, rfl, rfl⟩
theorem a28 (K_ : Nat) (p0 : Fld) (A0_0 : Option Addr) (c0_0 : Nat) (Z : Nat → Prop) (w : World) (hS0_0 : Sl eTly w Z A0_0 c0_0 p0.ts) (r_ : Int) (hG : G_fault K_ p0 = some r_) :
    Ret Try.prog 28 #[.agg #[I p0.rows, I p0.wd, I p0.lo, I p0.hi, .slice A0_0 p0.ts.length c0_0]] w (fun v w' => Ext w w' ∧ (vInt .i64).R w' (ZZ Z w.heap.size []) v r_) := by
 unfold G_fault at hG
 refine ret_of_cc (N := 5) Try.func28 rfl rfl (by simp) ?_
 intro fr0 ha hdf
 have hp_0 := sl_arg (i := 0) (v := .agg #[I p0.rows, I p0.wd, I p0.lo, I p0.hi, .slice A0_0 p0.ts.length c0_0]) ha rfl
 clear ha
 have hp0 := Hp.refl w
 have hS0_0_0 := hS0_0.mv (mv_start w)
 refine cc_seq <| cc_region <| we rfl (fun st => x_box (v := .agg #[I p0.rows, I p0.wd, I p0.lo, I p0.hi, .slice A0_0 p0.ts.length c0_0]) (cs := #[I p0.rows, I p0.wd, I p0.lo, I p0.hi, .slice A0_0 p0.ts.length c0_0]) (ee st hp_0) rfl) ?_
 rintro _ w1 ⟨b1, rfl, nb1⟩
 have hp1 : Hp w [some b1] w1 := hp0.new nb1.gr (Nat.le_of_eq nb1.b_eq.symm) (Nat.lt_of_lt_of_eq (Nat.lt_succ_self _) nb1.sz.symm)
 refine wa rfl (v := I 0) rfl <| wl_end <| lv_next <| cc_seq <| cc_region <| wd rfl (fun st => x_loadn (l := [I p0.rows, I p0.wd, I p0.lo, I p0.hi, .slice A0_0 p0.ts.length c0_0]) agg_26 (ee st rfl) nb1.bk rfl rfl) ?_
 have hS0_0_1 : Sl eTly w1 (ZZ Z w.heap.size [some b1]) A0_0 c0_0 p0.ts := (hS0_0_0.mv (mv_new nb1.gr (Nat.le_of_eq nb1.b_eq.symm)))
 replace hG := bind_some hG; obtain ⟨r2, hr2, hG⟩ := hG
 refine we rfl (fun st => x_call0 own_64 (ee st rfl) (am1 (ee st rfl)) (a64 K_ p0 A0_0 c0_0 ZA _ hS0_0_1.all r2 hr2)) ?_
 rintro _ w3 ⟨hx2, rfl⟩
 have hp2 : Hp w [some b1] w3 := hp1.ext hx2
 refine wa rfl (v := I r2) rfl <| wl_end <| lv_next <| cc_ret ?_
 obtain rfl := Option.some.inj hG
 refine lv_ret1 rfl rfl ?_
 exact ⟨hp2.fin, rfl⟩
theorem a20 (K_ : Nat) (p0 : Fld) (A0_0 : Option Addr) (c0_0 : Nat) (Z : Nat → Prop) (w : World) (hS0_0 : Sl eTly w Z A0_0 c0_0 p0.ts) (r_ : Bool) (hG : G_Thin K_ p0 = some r_) :
    Ret Try.prog 20 #[.agg #[I p0.rows, I p0.wd, I p0.lo, I p0.hi, .slice A0_0 p0.ts.length c0_0]] w (fun v w' => Ext w w' ∧ vBool.R w' (ZZ Z w.heap.size []) v r_) := by
 unfold G_Thin at hG
 refine ret_of_cc (N := 17) Try.func20 rfl rfl (by simp) ?_
 intro fr0 ha hdf
 have hp_0 := sl_arg (i := 0) (v := .agg #[I p0.rows, I p0.wd, I p0.lo, I p0.hi, .slice A0_0 p0.ts.length c0_0]) ha rfl
 clear ha
 have hp0 := Hp.refl w
 have hS0_0_0 := hS0_0.mv (mv_start w)
 refine cc_seq <| cc_region <| we rfl (fun st => x_box (v := .agg #[I p0.rows, I p0.wd, I p0.lo, I p0.hi, .slice A0_0 p0.ts.length c0_0]) (cs := #[I p0.rows, I p0.wd, I p0.lo, I p0.hi, .slice A0_0 p0.ts.length c0_0]) (ee st hp_0) rfl) ?_
 rintro _ w1 ⟨b1, rfl, nb1⟩
 have hp1 : Hp w [some b1] w1 := hp0.new nb1.gr (Nat.le_of_eq nb1.b_eq.symm) (Nat.lt_of_lt_of_eq (Nat.lt_succ_self _) nb1.sz.symm)
 refine wa rfl (v := .bool false) rfl <| wl_end <| lv_next <| cc_seq <| cc_region <| wd rfl (fun st => x_fieldAddr (ee st rfl) (fz_26_3 _ _)) <| wd rfl (fun st => x_load1 (v := .slice A0_0 p0.ts.length c0_0) one_24 (ee st rfl) nb1.bk rfl) <| wd rfl (fun st => x_len Try.underlying24 (ee st rfl)) <| wd rfl (fun st => x_leq (ee st rfl) (ee st rfl)) <| wm rfl (v := .bool (decide ((p0.ts.length : Int) ≤ 7))) rfl ?_
 rcases bool_cases (decide ((p0.ts.length : Int) ≤ 7)) with hc2 | hc2
 ·replace hG := cond_t hG hc2
  refine wl_detg rfl rfl (guard_eq rfl hc2) rfl (by decide) (fun st => x_loadn (l := [I p0.rows, I p0.wd, I p0.lo, I p0.hi, .slice A0_0 p0.ts.length c0_0]) agg_26 (ee st rfl) nb1.bk rfl rfl) ?_
  have hS0_0_1 : Sl eTly w1 (ZZ Z w.heap.size [some b1]) A0_0 c0_0 p0.ts := (hS0_0_0.mv (mv_new nb1.gr (Nat.le_of_eq nb1.b_eq.symm)))
  replace hG := bind_some hG; obtain ⟨r3, hr3, hG⟩ := hG
  refine wl_exg rfl rfl (guard_eq rfl hc2) rfl (by decide) (fun st => x_call0 own_64 (ee st rfl) (am1 (ee st rfl)) (a64 K_ p0 A0_0 c0_0 ZA _ hS0_0_1.all r3 hr3)) ?_
  rintro _ w4 ⟨hx3, rfl⟩
  have hp2 : Hp w [some b1] w4 := hp1.ext hx3
  refine wl_detg rfl rfl (guard_eq rfl hc2) rfl (by decide) (fun st => x_neq (ee st rfl) (ee st rfl)) <| wl_detg rfl rfl (guard_eq rfl hc2) rfl (by decide) (fun st => x_move (v := .bool (r3 != 0)) (ee st rfl)) ?_
  rcases bool_cases (r3 != 0) with hc5 | hc5
  ·replace hG := cond_t hG hc5
   refine wl_skip (c := true) rfl rfl (guard_eq rfl hc5) (by decide) rfl (by decide) <| wl_skip (c := true) rfl rfl (guard_eq rfl hc5) (by decide) rfl (by decide) <| wl_skip (c := true) rfl rfl (guard_eq rfl hc5) (by decide) rfl (by decide) <| wl_detg rfl rfl (guard_eq rfl hc2) rfl (by decide) (fun st => x_pick_t (v := .bool true) (ee st rfl) hc5 (ee st rfl)) <| wd rfl (fun st => x_pick_t (v := .bool true) (ee st rfl) hc2 (ee st rfl)) <| wa rfl (v := .bool true) rfl <| wl_end <| lv_next <| cc_ret ?_
   obtain rfl := Option.some.inj hG
   refine lv_ret1 rfl rfl ?_
   exact ⟨hp2.fin, rfl⟩
  ·replace hG := cond_f hG hc5
   have bk1_2 : Bk w4 b1 26 #[I p0.rows, I p0.wd, I p0.lo, I p0.hi, .slice A0_0 p0.ts.length c0_0] := (nb1.bk.ext hx3)
   refine wl_detg rfl rfl (guard_eq rfl hc5) rfl (by decide) (fun st => x_loadn (l := [I p0.rows, I p0.wd, I p0.lo, I p0.hi, .slice A0_0 p0.ts.length c0_0]) agg_26 (ee st rfl) bk1_2 rfl rfl) ?_
   have hS0_0_2 : Sl eTly w4 (ZZ Z w.heap.size [some b1]) A0_0 c0_0 p0.ts := (hS0_0_1.mv (mv_ext hx3))
   replace hG := bind_some hG; obtain ⟨r6, hr6, hG⟩ := hG
   refine wl_exg rfl rfl (guard_eq rfl hc5) rfl (by decide) (fun st => x_call0 own_65 (ee st rfl) (am1 (ee st rfl)) (a65 K_ p0 A0_0 c0_0 ZA _ hS0_0_2.all r6 hr6)) ?_
   rintro _ w7 ⟨hx6, rfl⟩
   have hp3 : Hp w [some b1] w7 := hp2.ext hx6
   refine wl_detg rfl rfl (guard_eq rfl hc5) rfl (by decide) (fun st => x_leq (ee st rfl) (ee st rfl)) <| wl_detg rfl rfl (guard_eq rfl hc2) rfl (by decide) (fun st => x_pick_f (v := .bool (decide (r6 ≤ 250))) (ee st rfl) hc5 (ee st rfl)) <| wd rfl (fun st => x_pick_t (v := .bool (decide (r6 ≤ 250))) (ee st rfl) hc2 (ee st rfl)) <| wa rfl (v := .bool (decide (r6 ≤ 250))) rfl <| wl_end <| lv_next <| cc_ret ?_
   obtain rfl := Option.some.inj hG
   refine lv_ret1 rfl rfl ?_
   exact ⟨hp3.fin, rfl⟩
 ·replace hG := cond_f hG hc2
  refine wl_skip (c := false) rfl rfl (guard_eq rfl hc2) (by decide) rfl (by decide) <| wl_skip (c := false) rfl rfl (guard_eq rfl hc2) (by decide) rfl (by decide) <| wl_skip (c := false) rfl rfl (guard_eq rfl hc2) (by decide) rfl (by decide) <| wl_skip (c := false) rfl rfl (guard_eq rfl hc2) (by decide) rfl (by decide) <| wl_skip_u rfl rfl rfl rfl (by decide) <| wl_skip_u rfl rfl rfl rfl (by decide) <| wl_skip_u rfl rfl rfl rfl (by decide) <| wl_skip (c := false) rfl rfl (guard_eq rfl hc2) (by decide) rfl (by decide) <| wd rfl (fun st => x_pick_f (v := .bool false) (ee st rfl) hc2 (ee st rfl)) <| wa rfl (v := .bool false) rfl <| wl_end <| lv_next <| cc_ret ?_
  obtain rfl := Option.some.inj hG
  refine lv_ret1 rfl rfl ?_
  exact ⟨hp1.fin, rfl⟩
theorem a25 (K_ : Nat) (p0 : (Int × Int)) (Z : Nat → Prop) (w : World) (r_ : (Int × Int)) (hG : G_to K_ p0 = some r_) :
    Ret Try.prog 25 #[.agg #[I p0.1, I p0.2]] w (fun v w' => Ext w w' ∧ (vAgg eR).R w' (ZZ Z w.heap.size []) v r_) := by
 unfold G_to at hG
 refine ret_of_cc (N := 8) Try.func25 rfl rfl (by simp) ?_
 intro fr0 ha hdf
 have hp_0 := sl_arg (i := 0) (v := .agg #[I p0.1, I p0.2]) ha rfl
 clear ha
 have hp0 := Hp.refl w
 refine cc_seq <| cc_region <| we rfl (fun st => x_box (v := .agg #[I p0.1, I p0.2]) (cs := #[I p0.1, I p0.2]) (ee st hp_0) rfl) ?_
 rintro _ w1 ⟨b1, rfl, nb1⟩
 have hp1 : Hp w [some b1] w1 := hp0.new nb1.gr (Nat.le_of_eq nb1.b_eq.symm) (Nat.lt_of_lt_of_eq (Nat.lt_succ_self _) nb1.sz.symm)
 refine we rfl (fun st => x_alloc (cs := #[I 0, I 0]) zero_33 rfl) ?_
 rintro _ w2 ⟨b2, rfl, nb2⟩
 have hp2 : Hp w [some b2, some b1] w2 := hp1.new nb2.gr (Nat.le_of_eq nb2.b_eq.symm) (Nat.lt_of_lt_of_eq (Nat.lt_succ_self _) nb2.sz.symm)
 refine wl_end <| lv_next <| cc_seq <| cc_region <| wd rfl (fun st => x_fieldAddr (ee st rfl) (fz_23_0 _ _)) ?_
 have bk1_2 : Bk w2 b1 23 #[I p0.1, I p0.2] := (nb1.bk.ext nb2.gr)
 refine wd rfl (fun st => x_load1 (v := I p0.1) one_3 (ee st rfl) bk1_2 rfl) <| wd rfl (fun st => x_fieldAddr (ee st rfl) (fz_23_1 _ _)) <| wd rfl (fun st => x_load1 (v := I p0.2) one_3 (ee st rfl) bk1_2 rfl) <| wd rfl (fun st => x_build (vs := #[(0, I p0.1), (1, I p0.2)]) (v := .agg #[I p0.1, I p0.2]) (pm2 (ee st rfl) (ee st rfl)) (by kernel_rfl)) <| wl_ex0 rfl rfl (fun st => x_store (n := 2) (l := [I p0.1, I p0.2]) (cs' := #[I p0.1, I p0.2]) (ee st rfl) (ee st rfl) sz_33 nb2.bk rfl rfl (show 0 + 2 ≤ 2 by decide) (one_cells rfl) rfl) ?_
 rintro _ w4 sb4
 have hp3 : Hp w [some b2, some b1] w4 := hp2.gr sb4.gr (hp2.ge 0 rfl)
 refine wl_end <| lv_next <| cc_ret ?_
 obtain rfl := Option.some.inj hG
 refine lv_retc (v := .agg #[I p0.1, I p0.2]) rfl rfl (run_loadn_bk agg_33 sb4.bk rfl rfl) ?_
 exact ⟨hp3.fin, ⟨_, rfl, rfl⟩⟩
theorem a30 (K_ : Nat) (p0 : List Int) (p1 : List Int) (A0_0 : Option Addr) (c0_0 : Nat) (A1_0 : Option Addr) (c1_0 : Nat) (Z : Nat → Prop) (w : World) (hS0_0 : Sl (eInt .i64) w Z A0_0 c0_0 p0) (hS1_0 : Sl (eInt .i64) w Z A1_0 c1_0 p1) (r_ : Bool) (hG : G_same K_ p0 p1 = some r_) :
    Ret Try.prog 30 #[.slice A0_0 p0.length c0_0, .slice A1_0 p1.length c1_0] w (fun v w' => Ext w w' ∧ vBool.R w' (ZZ Z w.heap.size []) v r_) := by
 unfold G_same at hG
 refine ret_of_cc (N := 26) Try.func30 rfl rfl (by simp) ?_
 intro fr0 ha hdf
 have hp_0 := sl_arg (i := 0) (v := .slice A0_0 p0.length c0_0) ha rfl
 have hp_1 := sl_arg (i := 1) (v := .slice A1_0 p1.length c1_0) ha rfl
 clear ha
 have hp0 := Hp.refl w
 have hS0_0_0 := hS0_0.mv (mv_start w)
 have hS1_0_0 := hS1_0.mv (mv_start w)
 refine cc_seq <| cc_region <| wa rfl (v := .bool false) rfl <| wl_end <| lv_next <| cc_seq <| cc_seq <| cc_region <| wm rfl (v := .slice A0_0 p0.length c0_0) hp_0 <| wd rfl (fun st => x_len Try.underlying43 (ee st rfl)) <| wm rfl (v := .slice A1_0 p1.length c1_0) hp_1 <| wd rfl (fun st => x_len Try.underlying43 (ee st rfl)) <| wd rfl (fun st => x_neq (ee st rfl) (ee st rfl)) <| wl_end <| lv_next ?_
 rcases bool_cases ((p0.length : Int) != (p1.length : Int)) with hc1 | hc1
 ·replace hG := cond_t hG hc1
  refine cc_cond_t rfl hc1 <| cc_seq <| cc_region <| wa rfl (v := .bool false) rfl <| wl_end <| lv_next <| cc_ret <| lv_then_ret ?_
  obtain rfl := Option.some.inj hG
  refine lv_ret1 rfl rfl ?_
  exact ⟨hp0.fin, rfl⟩
 ·replace hG := cond_f hG hc1
  refine cc_cond_f rfl hc1 <| cc_skip <| lv_next <| cc_seq <| cc_seq <| cc_region <| wa rfl (v := I 0) rfl <| wl_end <| lv_next <| cc_block ?_
  replace hG := bind_some hG; obtain ⟨z2, hL2, hG⟩ := hG
  refine cc_join (fun e_ fr_ w_ => (e_ = .ret ∧ ∃ q2, z2 = .inl q2 ∧ fr_.tmps.size = 26 ∧ fr_.defers = [] ∧ sl fr_ 4 = .bool q2 ∧ Hp w [] w_) ∨ (e_ = .exit 0 ∧ ∃ q2, z2 = .inr q2 ∧ fr_.tmps.size = 26 ∧ fr_.defers = [] ∧ Hp w [] w_)) ?lp2 ?af2
  case lp2 =>
   clear hG
   refine cc_loop (fun (m_ : Nat) (fr_ : Act) (w_ : World) => ∃ s2_5, G_same_L2 p0 p1 m_ s2_5 = some z2 ∧ fr_.tmps.size = 26 ∧ fr_.defers = [] ∧ sl fr_ 0 = .slice A0_0 p0.length c0_0 ∧ sl fr_ 1 = .slice A1_0 p1.length c1_0 ∧ sl fr_ 5 = I s2_5 ∧ Hp w [] w_ ∧ Sl (eInt .i64) w_ (ZZ Z w.heap.size []) A0_0 c0_0 p0 ∧ Sl (eInt .i64) w_ (ZZ Z w.heap.size []) A1_0 c1_0 p1) K_ ?in2 ?rd2
   case in2 =>
    intro st
    exact ⟨(0 : Int), hL2, (puts_size _ _).trans st.sz, (puts_defers _ _).trans st.df, (sl_puts st 0).trans hp_0, (sl_puts st 1).trans hp_1, (sl_puts st 5).trans rfl, hp0, hS0_0_0, hS1_0_0⟩
   case rd2 =>
    rintro (_ | m_) fr2 w2r ⟨s2_5, hL2, hsz2, hdf2, hs2_0, hs2_1, hs2_5, hp1, f2_hS0_0, f2_hS1_0⟩
    ·exact absurd (show none = some _ from hL2) (by simp)
    rw [G_same_L2.eq_2] at hL2
    have hG := hL2; clear hL2
    refine round_cc (N := 26) hsz2 hdf2 <| cc_seq <| cc_seq <| cc_region <| wm rfl (v := I s2_5) hs2_5 <| wm rfl (v := .slice A0_0 p0.length c0_0) hs2_0 <| wd rfl (fun st => x_len Try.underlying43 (ee st rfl)) <| wd rfl (fun st => x_lss (ee st rfl) (ee st rfl)) <| wl_end <| lv_next ?_
    rcases bool_cases (decide (s2_5 < (p0.length : Int))) with hc3 | hc3
    ·replace hG := cond_t hG hc3
     refine cc_cond_t rfl hc3 <| cc_skip <| lv_next <| cc_seq <| cc_block <| cc_seq ?_
     replace hG := idx_bind hG; obtain ⟨i5, x5, hi5, hx5, hl5, hG⟩ := hG
     obtain ⟨b5, o5, _, hA5, rfl, hz5⟩ := Sl.elem1 f2_hS0_0 rfl hx5
     replace hG := idx_bind hG; obtain ⟨i6, x6, hi6, hx6, hl6, hG⟩ := hG
     obtain ⟨b6, o6, _, hA6, rfl, hz6⟩ := Sl.elem1 f2_hS1_0 rfl hx6
     refine cc_anyM0 9 [Kc (.slice A0_0 p0.length c0_0), Kc (I s2_5), Kc (pt b5 (o5 + i5)), Kc (I x5), Kc (.slice A1_0 p1.length c1_0), Kc (I s2_5), Kc (pt b6 (o6 + i6)), Kc (I x6), Kc (.bool (x5 != x6))] mixedA5 rfl rfl
         (obsN_cons (od rfl (fun _ => rfl) (fun K => x_move (v := .slice A0_0 p0.length c0_0) (es (t := 0) (v := .slice A0_0 p0.length c0_0) ((K.out 0 rfl).trans hs2_0))))
         (obsN_cons (od rfl (fun _ => rfl) (fun K => x_move (v := I s2_5) (es (t := 5) (v := I s2_5) ((K.out 5 rfl).trans hs2_5))))
         (obsN_cons (od rfl (fun _ => rfl) (fun K => x_indexAddr1 (k := i5) Try.underlying43 sz_3 (es (t := 17) (v := .slice A0_0 p0.length c0_0) (K.dep 0 17 rfl rfl)) hA5 (es (t := 18) (v := I s2_5) (K.dep 1 18 rfl rfl)) hi5 hl5))
         (obsN_cons (od rfl (fun _ => rfl) (fun K => x_load_z0 (v := I x5) one_3 (es (t := 19) (v := pt b5 (o5 + i5)) (K.dep 2 19 rfl rfl)) (hz5.mv (mv_ext K.phT)) rfl))
         (obsN_cons (od rfl (fun _ => rfl) (fun K => x_move (v := .slice A1_0 p1.length c1_0) (es (t := 1) (v := .slice A1_0 p1.length c1_0) ((K.out 1 rfl).trans hs2_1))))
         (obsN_cons (od rfl (fun _ => rfl) (fun K => x_move (v := I s2_5) (es (t := 5) (v := I s2_5) ((K.out 5 rfl).trans hs2_5))))
         (obsN_cons (od rfl (fun _ => rfl) (fun K => x_indexAddr1 (k := i6) Try.underlying43 sz_3 (es (t := 21) (v := .slice A1_0 p1.length c1_0) (K.dep 4 21 rfl rfl)) hA6 (es (t := 22) (v := I s2_5) (K.dep 5 22 rfl rfl)) hi6 hl6))
         (obsN_cons (od rfl (fun _ => rfl) (fun K => x_load_z0 (v := I x6) one_3 (es (t := 23) (v := pt b6 (o6 + i6)) (K.dep 6 23 rfl rfl)) (hz6.mv (mv_ext K.phT)) rfl))
         (obsN_cons (od rfl (fun _ => rfl) (fun K => x_neq (es (t := 20) (v := I x5) (K.dep 3 20 rfl rfl)) (es (t := 24) (v := I x6) (K.dep 7 24 rfl rfl))))
         (obsN_nil _)))))))))) ?_
     intro w4
     rintro _ rfl _ rfl _ rfl _ rfl _ rfl _ rfl _ rfl _ rfl _ rfl hx4
     have hp2 : Hp w [] w4 := hp1.ext hx4
     refine wl_end <| lv_next ?_
     rcases bool_cases (x5 != x6) with hc7 | hc7
     ·replace hG := cond_t hG hc7
      refine cc_cond_t rfl hc7 <| cc_seq <| cc_region <| wa rfl (v := .bool false) rfl <| wl_end <| lv_next <| cc_ret <| lv_block_ret <| lv_then_ret <| lv_then_ret ?_
      obtain rfl := Option.some.inj hG
      refine lv_to (fun st => ?_)
      exact .inl ⟨rfl, false, rfl, (puts_size _ _).trans st.sz, (puts_defers _ _).trans st.df, (sl_puts st 4).trans rfl, hp2⟩
     ·replace hG := cond_f hG hc7
      refine cc_cond_f rfl hc7 <| cc_skip <| lv_block <| lv_next <| cc_region <| wm rfl (v := I s2_5) hs2_5 ?_
      replace hG := i64_bind hG; obtain ⟨hf8, hG⟩ := hG
      refine wd rfl (fun st => x_add (ee st rfl) (ee st rfl) hf8) <| wa rfl (v := I (s2_5 + 1)) rfl <| wl_end ?_
      have hS0_0_2 : Sl (eInt .i64) w4 (ZZ Z w.heap.size []) A0_0 c0_0 p0 := (f2_hS0_0.mv (mv_ext hx4))
      have hS1_0_2 : Sl (eInt .i64) w4 (ZZ Z w.heap.size []) A1_0 c1_0 p1 := (f2_hS1_0.mv (mv_ext hx4))
      refine lv_round m_ (Nat.lt_succ_self _) (fun st => ?_)
      exact ⟨(s2_5 + 1), hG, (puts_size _ _).trans st.sz, (puts_defers _ _).trans st.df, (sl_puts st 0).trans hs2_0, (sl_puts st 1).trans hs2_1, (sl_puts st 5).trans rfl, hp2, hS0_0_2, hS1_0_2⟩
    ·replace hG := cond_f hG hc3
     refine cc_cond_f rfl hc3 <| cc_exit <| lv_then_exit <| lv_then_exit ?_
     obtain rfl := Option.some.inj hG
     refine lv_to (fun st => ?_)
     exact .inr ⟨rfl, (), rfl, (puts_size _ _).trans st.sz, (puts_defers _ _).trans st.df, hp1⟩
  case af2 =>
   rintro e_ fr2a w2a (⟨rfl, q2, rfl, hsz2a, hdf2a, hs2a_4, hp2a⟩ | ⟨rfl, q2, rfl, hsz2a, hdf2a, hp2a⟩)
   ·skip
    replace hG := inl_some hG
    refine lv_fr (X := X0) (N := 26) hsz2a hdf2a <| lv_block_ret <| lv_then_ret ?_
    obtain rfl := Option.some.inj hG
    refine lv_ret1 rfl hs2a_4 ?_
    exact ⟨hp2a.fin, rfl⟩
   ·skip
    replace hG := inr_some hG
    refine lv_fr (X := X0) (N := 26) hsz2a hdf2a <| lv_block_hit <| lv_next <| cc_seq <| cc_region <| wa rfl (v := .bool true) rfl <| wl_end <| lv_next <| cc_ret ?_
    obtain rfl := Option.some.inj hG
    refine lv_ret1 rfl rfl ?_
    exact ⟨hp2a.fin, rfl⟩
theorem a39 (K_ : Nat) (p0 : Fld) (A0_0 : Option Addr) (c0_0 : Nat) (Z : Nat → Prop) (w : World) (hS0_0 : Sl eTly w Z A0_0 c0_0 p0.ts) (r_ : Bool) (hG : G_ready K_ p0 = some r_) :
    Ret Try.prog 39 #[.agg #[I p0.rows, I p0.wd, I p0.lo, I p0.hi, .slice A0_0 p0.ts.length c0_0]] w (fun v w' => Ext w w' ∧ vBool.R w' (ZZ Z w.heap.size []) v r_) := by
 unfold G_ready at hG
 refine ret_of_cc (N := 10) Try.func39 rfl rfl (by simp) ?_
 intro fr0 ha hdf
 have hp_0 := sl_arg (i := 0) (v := .agg #[I p0.rows, I p0.wd, I p0.lo, I p0.hi, .slice A0_0 p0.ts.length c0_0]) ha rfl
 clear ha
 have hp0 := Hp.refl w
 have hS0_0_0 := hS0_0.mv (mv_start w)
 refine cc_seq <| cc_region <| we rfl (fun st => x_box (v := .agg #[I p0.rows, I p0.wd, I p0.lo, I p0.hi, .slice A0_0 p0.ts.length c0_0]) (cs := #[I p0.rows, I p0.wd, I p0.lo, I p0.hi, .slice A0_0 p0.ts.length c0_0]) (ee st hp_0) rfl) ?_
 rintro _ w1 ⟨b1, rfl, nb1⟩
 have hp1 : Hp w [some b1] w1 := hp0.new nb1.gr (Nat.le_of_eq nb1.b_eq.symm) (Nat.lt_of_lt_of_eq (Nat.lt_succ_self _) nb1.sz.symm)
 refine wa rfl (v := .bool false) rfl <| wl_end <| lv_next <| cc_seq <| cc_region <| wd rfl (fun st => x_loadn (l := [I p0.rows, I p0.wd, I p0.lo, I p0.hi, .slice A0_0 p0.ts.length c0_0]) agg_26 (ee st rfl) nb1.bk rfl rfl) ?_
 have hS0_0_1 : Sl eTly w1 (ZZ Z w.heap.size [some b1]) A0_0 c0_0 p0.ts := (hS0_0_0.mv (mv_new nb1.gr (Nat.le_of_eq nb1.b_eq.symm)))
 replace hG := bind_some hG; obtain ⟨r2, hr2, hG⟩ := hG
 refine we rfl (fun st => x_call0 own_20 (ee st rfl) (am1 (ee st rfl)) (a20 K_ p0 A0_0 c0_0 ZA _ hS0_0_1.all r2 hr2)) ?_
 rintro _ w3 ⟨hx2, rfl⟩
 have hp2 : Hp w [some b1] w3 := hp1.ext hx2
 refine wm rfl (v := .bool r2) rfl ?_
 rcases bool_cases (r2) with hc4 | hc4
 ·replace hG := cond_t hG hc4
  have bk1_2 : Bk w3 b1 26 #[I p0.rows, I p0.wd, I p0.lo, I p0.hi, .slice A0_0 p0.ts.length c0_0] := (nb1.bk.ext hx2)
  refine wl_detg rfl rfl (guard_eq rfl hc4) rfl (by decide) (fun st => x_loadn (l := [I p0.rows, I p0.wd, I p0.lo, I p0.hi, .slice A0_0 p0.ts.length c0_0]) agg_26 (ee st rfl) bk1_2 rfl rfl) ?_
  have hS0_0_2 : Sl eTly w3 (ZZ Z w.heap.size [some b1]) A0_0 c0_0 p0.ts := (hS0_0_1.mv (mv_ext hx2))
  replace hG := bind_some hG; obtain ⟨r5, hr5, hG⟩ := hG
  refine wl_exg rfl rfl (guard_eq rfl hc4) rfl (by decide) (fun st => x_call0 own_28 (ee st rfl) (am1 (ee st rfl)) (a28 K_ p0 A0_0 c0_0 ZA _ hS0_0_2.all r5 hr5)) ?_
  rintro _ w6 ⟨hx5, rfl⟩
  have hp3 : Hp w [some b1] w6 := hp2.ext hx5
  refine wl_detg rfl rfl (guard_eq rfl hc4) rfl (by decide) (fun st => x_eql (ee st rfl) (ee st rfl)) <| wd rfl (fun st => x_pick_t (v := .bool (r5 == 0)) (ee st rfl) hc4 (ee st rfl)) <| wa rfl (v := .bool (r5 == 0)) rfl <| wl_end <| lv_next <| cc_ret ?_
  obtain rfl := Option.some.inj hG
  refine lv_ret1 rfl rfl ?_
  exact ⟨hp3.fin, rfl⟩
 ·replace hG := cond_f hG hc4
  refine wl_skip (c := false) rfl rfl (guard_eq rfl hc4) (by decide) rfl (by decide) <| wl_skip (c := false) rfl rfl (guard_eq rfl hc4) (by decide) rfl (by decide) <| wl_skip (c := false) rfl rfl (guard_eq rfl hc4) (by decide) rfl (by decide) <| wd rfl (fun st => x_pick_f (v := .bool false) (ee st rfl) hc4 (ee st rfl)) <| wa rfl (v := .bool false) rfl <| wl_end <| lv_next <| cc_ret ?_
  obtain rfl := Option.some.inj hG
  refine lv_ret1 rfl rfl ?_
  exact ⟨hp2.fin, rfl⟩
theorem a50 (K_ : Nat) (p0 : Int) (p1 : Int) (Z : Nat → Prop) (w : World) (r_ : (Int × Int)) (hG : G_between K_ p0 p1 = some r_) :
    Ret Try.prog 50 #[I p0, I p1] w (fun v w' => Ext w w' ∧ (vAgg eR).R w' (ZZ Z w.heap.size []) v r_) := by
 unfold G_between at hG
 refine ret_of_cc (N := 8) Try.func50 rfl rfl (by simp) ?_
 intro fr0 ha hdf
 have hp_0 := sl_arg (i := 0) (v := I p0) ha rfl
 have hp_1 := sl_arg (i := 1) (v := I p1) ha rfl
 clear ha
 have hp0 := Hp.refl w
 refine cc_seq <| cc_region <| we rfl (fun st => x_alloc (cs := #[I 0, I 0]) zero_33 rfl) ?_
 rintro _ w1 ⟨b1, rfl, nb1⟩
 have hp1 : Hp w [some b1] w1 := hp0.new nb1.gr (Nat.le_of_eq nb1.b_eq.symm) (Nat.lt_of_lt_of_eq (Nat.lt_succ_self _) nb1.sz.symm)
 refine wl_end <| lv_next <| cc_seq <| cc_region <| wm rfl (v := I p0) hp_0 <| wm rfl (v := I p1) hp_1 <| wd rfl (fun st => x_build (vs := #[(0, I p0), (1, I p1)]) (v := .agg #[I p0, I p1]) (pm2 (ee st rfl) (ee st rfl)) (by kernel_rfl)) <| wl_ex0 rfl rfl (fun st => x_store (n := 2) (l := [I p0, I p1]) (cs' := #[I p0, I p1]) (ee st rfl) (ee st rfl) sz_33 nb1.bk rfl rfl (show 0 + 2 ≤ 2 by decide) (one_cells rfl) rfl) ?_
 rintro _ w3 sb3
 have hp2 : Hp w [some b1] w3 := hp1.gr sb3.gr (hp1.ge 0 rfl)
 refine wl_end <| lv_next <| cc_ret ?_
 obtain rfl := Option.some.inj hG
 refine lv_retc (v := .agg #[I p0, I p1]) rfl rfl (run_loadn_bk agg_33 sb3.bk rfl rfl) ?_
 exact ⟨hp2.fin, ⟨_, rfl, rfl⟩⟩
theorem a24 (K_ : Nat) (p0 : Fld) (A0_0 : Option Addr) (c0_0 : Nat) (Z : Nat → Prop) (w : World) (hS0_0 : Sl eTly w Z A0_0 c0_0 p0.ts) (r_ : (List (List Int)) × Int) (hG : G_sure K_ p0 = some r_) :
    Ret Try.prog 24 #[.agg #[I p0.rows, I p0.wd, I p0.lo, I p0.hi, .slice A0_0 p0.ts.length c0_0]] w (fun v w' => Ext w w' ∧ (vT2 (vSl (eSl (eInt .i64))) (vInt .i64)).R w' (ZZ Z w.heap.size []) v r_) := by
 unfold G_sure at hG
 refine ret_of_cc (N := 17) Try.func24 rfl rfl (by simp) ?_
 intro fr0 ha hdf
 have hp_0 := sl_arg (i := 0) (v := .agg #[I p0.rows, I p0.wd, I p0.lo, I p0.hi, .slice A0_0 p0.ts.length c0_0]) ha rfl
 clear ha
 have hp0 := Hp.refl w
 have hS0_0_0 := hS0_0.mv (mv_start w)
 refine cc_seq <| cc_region <| we rfl (fun st => x_box (v := .agg #[I p0.rows, I p0.wd, I p0.lo, I p0.hi, .slice A0_0 p0.ts.length c0_0]) (cs := #[I p0.rows, I p0.wd, I p0.lo, I p0.hi, .slice A0_0 p0.ts.length c0_0]) (ee st hp_0) rfl) ?_
 rintro _ w1 ⟨b1, rfl, nb1⟩
 have hp1 : Hp w [some b1] w1 := hp0.new nb1.gr (Nat.le_of_eq nb1.b_eq.symm) (Nat.lt_of_lt_of_eq (Nat.lt_succ_self _) nb1.sz.symm)
 refine wa rfl (v := .slice none 0 0) rfl <| wa rfl (v := I 0) rfl <| wl_end <| lv_next <| cc_seq <| cc_seq <| cc_region <| wd rfl (fun st => x_loadn (l := [I p0.rows, I p0.wd, I p0.lo, I p0.hi, .slice A0_0 p0.ts.length c0_0]) agg_26 (ee st rfl) nb1.bk rfl rfl) ?_
 have hS0_0_1 : Sl eTly w1 (ZZ Z w.heap.size [some b1]) A0_0 c0_0 p0.ts := (hS0_0_0.mv (mv_new nb1.gr (Nat.le_of_eq nb1.b_eq.symm)))
 replace hG := bind_some hG; obtain ⟨r2, hr2, hG⟩ := hG
 refine we rfl (fun st => x_call0 own_28 (ee st rfl) (am1 (ee st rfl)) (a28 K_ p0 A0_0 c0_0 ZA _ hS0_0_1.all r2 hr2)) ?_
 rintro _ w3 ⟨hx2, rfl⟩
 have hp2 : Hp w [some b1] w3 := hp1.ext hx2
 refine wa rfl (v := I r2) rfl <| wl_end <| lv_next <| cc_seq <| cc_region <| wm rfl (v := I r2) rfl <| wd rfl (fun st => x_neq (ee st rfl) (ee st rfl)) <| wl_end <| lv_next ?_
 rcases bool_cases (r2 != 0) with hc4 | hc4
 ·replace hG := cond_t hG hc4
  refine cc_cond_t rfl hc4 <| cc_seq <| cc_region <| wm rfl (v := I r2) rfl <| wa rfl (v := .slice none 0 0) rfl <| wa rfl (v := I r2) rfl <| wl_end <| lv_next <| cc_ret <| lv_then_ret ?_
  obtain rfl := Option.some.inj hG
  refine lv_ret2 rfl rfl rfl ?_
  exact ⟨hp2.fin, _, _, rfl, ⟨_, _, rfl, Sl.nil _ _ _⟩, rfl⟩
 ·replace hG := cond_f hG hc4
  refine cc_cond_f rfl hc4 <| cc_skip <| lv_next <| cc_seq <| cc_region ?_
  have bk1_2 : Bk w3 b1 26 #[I p0.rows, I p0.wd, I p0.lo, I p0.hi, .slice A0_0 p0.ts.length c0_0] := (nb1.bk.ext hx2)
  refine wd rfl (fun st => x_loadn (l := [I p0.rows, I p0.wd, I p0.lo, I p0.hi, .slice A0_0 p0.ts.length c0_0]) agg_26 (ee st rfl) bk1_2 rfl rfl) ?_
  have hS0_0_2 : Sl eTly w3 (ZZ Z w.heap.size [some b1]) A0_0 c0_0 p0.ts := (hS0_0_1.mv (mv_ext hx2))
  replace hG := bind_some hG; obtain ⟨r5, hr5, hG⟩ := hG
  refine we rfl (fun st => x_call0 own_40 (ee st rfl) (am1 (ee st rfl)) (a40 K_ p0 A0_0 c0_0 (ZZ Z w.heap.size [some b1]) _ hS0_0_2 r5 hr5)) ?_
  rintro _ w6 ⟨hx5, ⟨A5_r, c5_r, rfl, hS5_r⟩⟩
  have hp3 : Hp w [some b1] w6 := hp2.ext hx5
  have hS5_r := hS5_r.mv (hp2.call (Nat.le_refl _))
  refine wa rfl (v := .slice A5_r r5.length c5_r) rfl <| wl_end <| lv_next <| cc_seq <| cc_seq <| cc_region <| wm rfl (v := .slice A5_r r5.length c5_r) rfl <| wd rfl (fun st => x_len Try.underlying38 (ee st rfl)) <| wd rfl (fun st => x_eql (ee st rfl) (ee st rfl)) <| wl_end <| lv_next ?_
  rcases bool_cases ((r5.length : Int) == 0) with hc7 | hc7
  ·replace hG := cond_t hG hc7
   refine cc_cond_t rfl hc7 <| cc_seq <| cc_region <| wa rfl (v := .slice none 0 0) rfl <| wa rfl (v := I 11) rfl <| wl_end <| lv_next <| cc_ret <| lv_then_ret ?_
   obtain rfl := Option.some.inj hG
   refine lv_ret2 rfl rfl rfl ?_
   exact ⟨hp3.fin, _, _, rfl, ⟨_, _, rfl, Sl.nil _ _ _⟩, rfl⟩
  ·replace hG := cond_f hG hc7
   refine cc_cond_f rfl hc7 <| cc_skip <| lv_next <| cc_seq <| cc_region <| wm rfl (v := .slice A5_r r5.length c5_r) rfl <| wa rfl (v := .slice A5_r r5.length c5_r) rfl <| wa rfl (v := I 0) rfl <| wl_end <| lv_next <| cc_ret ?_
   obtain rfl := Option.some.inj hG
   refine lv_ret2 rfl rfl rfl ?_
   exact ⟨hp3.fin, _, _, rfl, ⟨_, _, rfl, hS5_r.mv mv_drop⟩, rfl⟩
end Go.Proofs.Ythogdgkafaclaaa
end
section
set_option linter.unusedVariables false
set_option linter.unusedSimpArgs false
namespace Go.Proofs.Ythogdgkafaclaaa
open Go.RowKit
open AF
theorem mixedA6 : Try.prog.follows .mixedOrders = true := by kernel_rfl
attribute [local irreducible] Ex1 WL CC CW LV Ret ObOp Agg One Own
theorem a53 (K_ : Nat) (p0 : List Int) (A0_0 : Option Addr) (c0_0 : Nat) (Z : Nat → Prop) (w : World) (hS0_0 : Sl (eInt .i64) w Z A0_0 c0_0 p0) (r_ : (List Int)) (hG : G_list K_ p0 = some r_) :
    Ret Try.prog 53 #[.slice A0_0 p0.length c0_0] w (fun v w' => Ext w w' ∧ (vSl (eInt .i64)).R w' (ZZ Z w.heap.size []) v r_) := by
 unfold G_list at hG
 refine ret_of_cc (N := 6) Try.func53 rfl rfl (by simp) ?_
 intro fr0 ha hdf
 have hp_0 := sl_arg (i := 0) (v := .slice A0_0 p0.length c0_0) ha rfl
 clear ha
 have hp0 := Hp.refl w
 have hS0_0_0 := hS0_0.mv (mv_start w)
 refine cc_seq <| cc_region <| wa rfl (v := .slice none 0 0) rfl <| wl_end <| lv_next <| cc_seq <| cc_region <| we rfl (fun st => x_buildSlice (e := 3) (vs := #[]) (cs := #[]) pm0 (by kernel_rfl)) ?_
 rintro _ w1 ⟨b1, rfl, nb1⟩
 have hp1 : Hp w [some b1] w1 := hp0.new nb1.gr (Nat.le_of_eq nb1.b_eq.symm) (Nat.lt_of_lt_of_eq (Nat.lt_succ_self _) nb1.sz.symm)
 refine wm rfl (v := .slice A0_0 p0.length c0_0) hp_0 ?_
 have hR2 : OwnR (eInt .i64) 3 w w1 (ZZ Z w.heap.size [some b1]) (some ⟨b1, 0, none⟩) 0 ([] : List Int) := row_bk (css := []) nb1.bk (hp1.ge 0 rfl _ rfl) trivial rfl (by simp [maxLen])
 replace hG := ifo_bind hG; obtain ⟨hf3, hG⟩ := hG
 have hS0_0_1 : Sl (eInt .i64) w1 (ZZ Z w.heap.size [some b1]) A0_0 c0_0 p0 := (hS0_0_0.mv (mv_new nb1.gr (Nat.le_of_eq nb1.b_eq.symm)))
 refine we rfl (fun st => x_appS (ys := p0) Try.underlying43 info_3 rfl rfl (by decide) (ee st rfl) rfl (ee st rfl) hR2 hS0_0_1 (by have := hf3; simp only [maxLen]; omega) (by have := hf3; omega) hp1.bl.size) ?_
 rintro _ w4 ⟨A4, c4, rfl, hg4, hy4, hO4⟩
 have hp2 : Hp w [ob A4] w4 := hp1.row hg4 0 rfl (hp1.ge 0 rfl) hy4
 have hR4 : OwnR (eInt .i64) 3 w w4 (ZZ Z w.heap.size [ob A4]) A4 c4 (([] : List Int) ++ p0) := ownR_of hO4 (hp1.mvr hg4 0 rfl (fun k hk => (hy4 k hk).1))
 refine wa rfl (v := .slice A4 ((([] : List Int) ++ p0).length) c4) rfl <| wl_end <| lv_next <| cc_ret ?_
 obtain rfl := Option.some.inj hG
 refine lv_ret1 rfl rfl ?_
 exact ⟨hp2.fin, ⟨_, _, rfl, hR4.fin⟩⟩
theorem a46 (K_ : Nat) (p0 : Fld) (p1 : Int) (A0_0 : Option Addr) (c0_0 : Nat) (Z : Nat → Prop) (w : World) (hS0_0 : Sl eTly w Z A0_0 c0_0 p0.ts) (r_ : Fld) (hG : G_some_ K_ p0 p1 = some r_) :
    Ret Try.prog 46 #[.agg #[I p0.rows, I p0.wd, I p0.lo, I p0.hi, .slice A0_0 p0.ts.length c0_0], I p1] w (fun v w' => Ext w w' ∧ (vAgg eFld).R w' (ZZ Z w.heap.size []) v r_) := by
 unfold G_some_ at hG
 refine ret_of_cc (N := 33) Try.func46 rfl rfl (by simp) ?_
 intro fr0 ha hdf
 have hp_0 := sl_arg (i := 0) (v := .agg #[I p0.rows, I p0.wd, I p0.lo, I p0.hi, .slice A0_0 p0.ts.length c0_0]) ha rfl
 have hp_1 := sl_arg (i := 1) (v := I p1) ha rfl
 clear ha
 have hp0 := Hp.refl w
 have hS0_0_0 := hS0_0.mv (mv_start w)
 refine cc_seq <| cc_region <| we rfl (fun st => x_box (v := .agg #[I p0.rows, I p0.wd, I p0.lo, I p0.hi, .slice A0_0 p0.ts.length c0_0]) (cs := #[I p0.rows, I p0.wd, I p0.lo, I p0.hi, .slice A0_0 p0.ts.length c0_0]) (ee st hp_0) rfl) ?_
 rintro _ w1 ⟨b1, rfl, nb1⟩
 have hp1 : Hp w [some b1] w1 := hp0.new nb1.gr (Nat.le_of_eq nb1.b_eq.symm) (Nat.lt_of_lt_of_eq (Nat.lt_succ_self _) nb1.sz.symm)
 refine we rfl (fun st => x_alloc (cs := #[I 0, I 0, I 0, I 0, .slice none 0 0]) zero_26 rfl) ?_
 rintro _ w2 ⟨b2, rfl, nb2⟩
 have hp2 : Hp w [some b2, some b1] w2 := hp1.new nb2.gr (Nat.le_of_eq nb2.b_eq.symm) (Nat.lt_of_lt_of_eq (Nat.lt_succ_self _) nb2.sz.symm)
 refine wl_end <| lv_next <| cc_seq <| cc_region ?_
 have bk1_2 : Bk w2 b1 26 #[I p0.rows, I p0.wd, I p0.lo, I p0.hi, .slice A0_0 p0.ts.length c0_0] := (nb1.bk.ext nb2.gr)
 refine wd rfl (fun st => x_loadn (l := [I p0.rows, I p0.wd, I p0.lo, I p0.hi, .slice A0_0 p0.ts.length c0_0]) agg_26 (ee st rfl) bk1_2 rfl rfl) <| we rfl (fun st => x_alloc (cs := #[I 0, I 0, I 0, I 0, .slice none 0 0]) zero_26 rfl) ?_
 rintro _ w3 ⟨b3, rfl, nb3⟩
 have hp3 : Hp w [some b3, some b2, some b1] w3 := hp2.new nb3.gr (Nat.le_of_eq nb3.b_eq.symm) (Nat.lt_of_lt_of_eq (Nat.lt_succ_self _) nb3.sz.symm)
 refine wl_ex0 rfl rfl (fun st => x_store (n := 5) (l := [I p0.rows, I p0.wd, I p0.lo, I p0.hi, .slice A0_0 p0.ts.length c0_0]) (cs' := #[I p0.rows, I p0.wd, I p0.lo, I p0.hi, .slice A0_0 p0.ts.length c0_0]) (ee st rfl) (ee st rfl) sz_26 nb3.bk rfl rfl (show 0 + 5 ≤ 5 by decide) (one_cells rfl) rfl) ?_
 rintro _ w4 sb4
 have hp4 : Hp w [some b3, some b2, some b1] w4 := hp3.gr sb4.gr (hp3.ge 0 rfl)
 refine wl_end <| lv_next <| cc_seq <| cc_region <| wd rfl (fun st => x_fieldAddr (ee st rfl) (fz_26_3 _ _)) <| wl_ex0 rfl rfl (fun st => x_store (n := 1) (l := [.slice none 0 0]) (cs' := #[I p0.rows, I p0.wd, I p0.lo, I p0.hi, .slice none 0 0]) (ee st rfl) (ee st rfl) sz_24 sb4.bk rfl rfl (show 4 + 1 ≤ 5 by decide) (one_cells rfl) rfl) ?_
 rintro _ w5 sb5
 have hp5 : Hp w [some b3, some b2, some b1] w5 := hp4.gr sb5.gr (hp4.ge 0 rfl)
 refine wl_end <| lv_next <| cc_seq <| cc_seq <| cc_region <| wa rfl (v := I 0) rfl <| wl_end <| lv_next <| cc_block ?_
 have hp6 : Hp w [none, some b3, some b2, some b1] w5 := hp5.nil
 have hR7 : OwnR eTly 68 w w5 (ZZ Z w.heap.size [none, some b3, some b2, some b1]) none 0 [] := OwnR.nil _ _ _ _ _
 replace hG := bind_some hG; obtain ⟨z6, hL6, hG⟩ := hG
 refine cc_join (fun e_ fr_ w_ => (e_ = .exit 0 ∧ ∃ Ae6_0_b34 Ce6_0_b34, fr_.tmps.size = 33 ∧ fr_.defers = [] ∧ sl fr_ 4 = pt b2 0 ∧ sl fr_ 5 = pt b3 0 ∧ Hp w [ob Ae6_0_b34, some b3, some b2, some b1] w_ ∧ OwnR eTly 68 w w_ (ZZ Z w.heap.size [ob Ae6_0_b34, some b3, some b2, some b1]) Ae6_0_b34 Ce6_0_b34 z6 ∧ Bk w_ b2 26 #[I 0, I 0, I 0, I 0, .slice none 0 0] ∧ Bk w_ b3 26 #[I p0.rows, I p0.wd, I p0.lo, I p0.hi, .slice Ae6_0_b34 z6.length Ce6_0_b34])) ?lp6 ?af6
 case lp6 =>
  clear hG
  refine cc_loop (fun (m_ : Nat) (fr_ : Act) (w_ : World) => ∃ s6_6, ∃ s6_b34, ∃ As6_b34 Cs6_b34, G_some__L6 p0 p1 m_ s6_6 s6_b34 = some z6 ∧ fr_.tmps.size = 33 ∧ fr_.defers = [] ∧ sl fr_ 1 = I p1 ∧ sl fr_ 2 = pt b1 0 ∧ sl fr_ 4 = pt b2 0 ∧ sl fr_ 5 = pt b3 0 ∧ sl fr_ 6 = I s6_6 ∧ Hp w [ob As6_b34, some b3, some b2, some b1] w_ ∧ OwnR eTly 68 w w_ (ZZ Z w.heap.size [ob As6_b34, some b3, some b2, some b1]) As6_b34 Cs6_b34 s6_b34 ∧ Bk w_ b1 26 #[I p0.rows, I p0.wd, I p0.lo, I p0.hi, .slice A0_0 p0.ts.length c0_0] ∧ Bk w_ b2 26 #[I 0, I 0, I 0, I 0, .slice none 0 0] ∧ Bk w_ b3 26 #[I p0.rows, I p0.wd, I p0.lo, I p0.hi, .slice As6_b34 s6_b34.length Cs6_b34] ∧ Sl eTly w_ (ZZ Z w.heap.size [ob As6_b34, some b3, some b2, some b1]) A0_0 c0_0 p0.ts) K_ ?in6 ?rd6
  case in6 =>
   intro st
   have bk1_6 : Bk w5 b1 26 #[I p0.rows, I p0.wd, I p0.lo, I p0.hi, .slice A0_0 p0.ts.length c0_0] := (((bk1_2.ext nb3.gr).gr sb4.gr (hp3.ne 2 0 rfl rfl rfl)).gr sb5.gr (hp4.ne 2 0 rfl rfl rfl))
   have bk2_6 : Bk w5 b2 26 #[I 0, I 0, I 0, I 0, .slice none 0 0] := (((nb2.bk.ext nb3.gr).gr sb4.gr (hp3.ne 1 0 rfl rfl rfl)).gr sb5.gr (hp4.ne 1 0 rfl rfl rfl))
   have bk3_6 : Bk w5 b3 26 #[I p0.rows, I p0.wd, I p0.lo, I p0.hi, .slice none (([] : List Tly).length) 0] := sb5.bk
   have hS0_0_6 : Sl eTly w5 (ZZ Z w.heap.size [none, some b3, some b2, some b1]) A0_0 c0_0 p0.ts := ((((((hS0_0_0.mv (mv_new nb1.gr (Nat.le_of_eq nb1.b_eq.symm))).mv (mv_new nb2.gr (Nat.le_of_eq nb2.b_eq.symm))).mv (mv_new nb3.gr (Nat.le_of_eq nb3.b_eq.symm))).mv (hp3.mv0 sb4.gr 0 rfl)).mv (hp4.mv0 sb5.gr 0 rfl)).mv mv_nil)
   exact ⟨(0 : Int), ([] : List Tly), none, 0, hL6, (puts_size _ _).trans st.sz, (puts_defers _ _).trans st.df, (sl_puts st 1).trans hp_1, (sl_puts st 2).trans rfl, (sl_puts st 4).trans rfl, (sl_puts st 5).trans rfl, (sl_puts st 6).trans rfl, hp6, hR7, bk1_6, bk2_6, bk3_6, hS0_0_6⟩
  case rd6 =>
   rintro (_ | m_) fr6 w6r ⟨s6_6, s6_b34, As6_b34, Cs6_b34, hL6, hsz6, hdf6, hs6_1, hs6_2, hs6_4, hs6_5, hs6_6, hp7, f6_Hs6_b34, f6_bk1, f6_bk2, f6_bk3, f6_hS0_0⟩
   ·exact absurd (show none = some _ from hL6) (by simp)
   rw [G_some__L6.eq_2] at hL6
   have hG := hL6; clear hL6
   refine round_cc (N := 33) hsz6 hdf6 <| cc_seq <| cc_seq <| cc_region <| wm rfl (v := I s6_6) hs6_6 <| wd rfl (fun st => x_fieldAddr (ee st hs6_2) (fz_26_3 _ _)) <| wd rfl (fun st => x_load1 (v := .slice A0_0 p0.ts.length c0_0) one_24 (ee st rfl) f6_bk1 rfl) <| wd rfl (fun st => x_len Try.underlying24 (ee st rfl)) <| wd rfl (fun st => x_lss (ee st rfl) (ee st rfl)) <| wl_end <| lv_next ?_
   rcases bool_cases (decide (s6_6 < (p0.ts.length : Int))) with hc8 | hc8
   ·replace hG := cond_t hG hc8
    refine cc_cond_t rfl hc8 <| cc_skip <| lv_next <| cc_seq <| cc_block <| cc_seq <| cc_region <| wm rfl (v := I p1) hs6_1 <| wm rfl (v := I s6_6) hs6_6 ?_
    replace hG := cvO_bind hG; obtain ⟨hf9, hG⟩ := hG
    refine wd rfl (fun st => x_conv (k := .u64) sm_3 Try.underlying63 (ee st rfl) hf9) ?_
    replace hG := shrO_bind hG; obtain ⟨hf10, hG⟩ := hG
    refine wd rfl (fun st => x_shr (ee st rfl) (ee st rfl) hf10) ?_
    replace hG := rem_bind hG; obtain ⟨hf11, hG⟩ := hG
    refine wd rfl (fun st => x_rem (ee st rfl) (ee st rfl) hf11.1 hf11.2) <| wd rfl (fun st => x_eql (ee st rfl) (ee st rfl)) <| wl_end <| lv_next ?_
    rcases bool_cases (((shrI p1 s6_6) % 2) == 1) with hc12 | hc12
    ·replace hG := cond_t hG hc12
     refine cc_cond_t rfl hc12 ?_
     replace hG := idx_bind hG; obtain ⟨i14, x14, hi14, hx14, hl14, hG⟩ := hG
     obtain ⟨b14, o14, _, hA14, rfl, hz14⟩ := Sl.elem f6_hS0_0 (by decide) hx14
     replace hG := ifo_bind hG; obtain ⟨hf15, hG⟩ := hG
     refine cc_anyM 9 (fun ph _ w_ => T3 w6r (ob As6_b34) ph w_) (fun _ => []) [8] [Kc (pt b3 4), Kc (.slice As6_b34 s6_b34.length Cs6_b34), Kc (pt b1 4), Kc (.slice A0_0 p0.ts.length c0_0), Kc (I s6_6), Kc (pt b14 (o14 + i14 * 5)), Kc (.agg #[I x14.who, I x14.fr, I x14.to, I x14.lo, I x14.hi]), Kn w6r.heap.size (fun b => .slice (some ⟨b, 0, none⟩) 1 1) 68 #[I x14.who, I x14.fr, I x14.to, I x14.lo, I x14.hi], ⟨fun v_ w_ => ∃ A_ c_, v_ = .slice A_ (s6_b34 ++ [x14]).length c_ ∧ w6r.grownBy w_ (ob As6_b34) ∧ (∀ k, ob A_ = some k → (ob As6_b34 = some k ∨ w6r.heap.size ≤ k) ∧ k < w_.heap.size) ∧ OwnR eTly 68 w w_ (ZZ Z w.heap.size [ob A_, some b3, some b2, some b1]) A_ c_ (s6_b34 ++ [x14]), fun _ _ _ ⟨A_, c_, h1, h2, h3, h4⟩ g => ⟨A_, c_, h1, h2.trans (g.but _), (fun k hk => ⟨(h3 k hk).1, Nat.lt_of_lt_of_le (h3 k hk).2 g.size⟩), h4.ext g (mv_ext g)⟩⟩] mixedA6 rfl rfl (okD_nil _ _) (fun _ _ _ _ _ h g _ => T3_ext h g) (fun _ => ext_drew _)
         (obsN_cons (od rfl (fun _ => rfl) (fun K => x_fieldAddr (es (t := 5) (v := pt b3 0) ((K.out 5 rfl).trans hs6_5)) (fz_26_3 _ _)))
         (obsN_cons (od rfl (fun _ => rfl) (fun K => x_load1 (v := .slice As6_b34 s6_b34.length Cs6_b34) one_24 (es (t := 22) (v := pt b3 4) (K.dep 0 22 rfl rfl)) (f6_bk3.gr (T3_gr K.phT) (hp7.ne 1 0 rfl rfl rfl)) rfl))
         (obsN_cons (od rfl (fun _ => rfl) (fun K => x_fieldAddr (es (t := 2) (v := pt b1 0) ((K.out 2 rfl).trans hs6_2)) (fz_26_3 _ _)))
         (obsN_cons (od rfl (fun _ => rfl) (fun K => x_load1 (v := .slice A0_0 p0.ts.length c0_0) one_24 (es (t := 24) (v := pt b1 4) (K.dep 2 24 rfl rfl)) (f6_bk1.gr (T3_gr K.phT) (hp7.ne 3 0 rfl rfl rfl)) rfl))
         (obsN_cons (od rfl (fun _ => rfl) (fun K => x_move (v := I s6_6) (es (t := 6) (v := I s6_6) ((K.out 6 rfl).trans hs6_6))))
         (obsN_cons (od rfl (fun _ => rfl) (fun K => x_indexAddrN (k := i14) Try.underlying24 sz_68 (es (t := 25) (v := .slice A0_0 p0.ts.length c0_0) (K.dep 3 25 rfl rfl)) hA14 (es (t := 26) (v := I s6_6) (K.dep 4 26 rfl rfl)) hi14 hl14))
         (obsN_cons (od rfl (fun _ => rfl) (fun K => x_load_zn0 (l := [I x14.who, I x14.fr, I x14.to, I x14.lo, I x14.hi]) agg_68 (es (t := 27) (v := pt b14 (o14 + i14 * 5)) (K.dep 5 27 rfl rfl)) (hz14.mv (hp7.mv0 (T3_gr K.phT) 0 rfl)) rfl rfl))
         (obsN_cons (ob_ext rfl rfl (fun a' w' ph K => (x_buildSlice (e := 68) (vs := #[(0, .agg #[I x14.who, I x14.fr, I x14.to, I x14.lo, I x14.hi])]) (cs := #[I x14.who, I x14.fr, I x14.to, I x14.lo, I x14.hi]) (pm1 (es (t := 28) (v := .agg #[I x14.who, I x14.fr, I x14.to, I x14.lo, I x14.hi]) (K.dep 6 28 rfl rfl))) (by kernel_rfl)).mono (fun u w'' hh => kn_mk (T3_gr K.phT).size hh)))
         (obsN_cons (ob_spec rfl rfl (fun a' w' ph K => match K.dep 7 29 rfl rfl with | ⟨bb13_7, e13_7, l13_7, k13_7⟩ => (x_appR (ys := [x14]) Try.underlying24 info_68 rfl rfl (by decide) (es (t := 23) (v := .slice As6_b34 s6_b34.length Cs6_b34) (K.dep 1 23 rfl rfl)) rfl (es (t := 29) (v := .slice (some ⟨bb13_7, 0, none⟩) 1 1) e13_7) (f6_Hs6_b34.ext (T3_zero K.phT (K.spi 0 rfl)) (mv_ext (T3_zero K.phT (K.spi 0 rfl)))) (news_bk (css := [[I x14.who, I x14.fr, I x14.to, I x14.lo, I x14.hi]]) k13_7 ⟨rfl, trivial⟩ rfl) (by have := hf15; simp only [maxLen]; omega) (by have := hf15; omega) (Nat.le_trans hp7.bl.size (T3_zero K.phT (K.spi 0 rfl)).size) (by simp)).mono (fun v w'' ⟨A_, c_, hv, hg, hy, hO⟩ => ⟨⟨A_, c_, hv, T3_all (T3_zero K.phT (K.spi 0 rfl)) hg, T3_y (T3_zero K.phT (K.spi 0 rfl)) hy, ownR_of (hO) ((hp7.ext (T3_zero K.phT (K.spi 0 rfl))).mvr hg 0 rfl (fun k hk => (hy k hk).1))⟩, skl_of ⟨fun _ _ _ h => h, fun _ _ _ h => h, fun _ _ _ h => h, fun _ _ _ h => h, fun _ _ _ h => h, fun _ _ _ h => h, fun _ _ _ h => h, fun _ _ _ ⟨b, h1, h2, h3⟩ => ⟨b, h1, h2, h3.gr hg (by rintro e; have := (hp7.lo b (by rw [e]; exact List.mem_of_getElem? (show [ob As6_b34, some b3, some b2, some b1][0]? = some _ from rfl))).2; omega)⟩, fun h => absurd rfl h, trivial⟩, T3_up K.phT (K.spi 0 rfl) hg⟩)))
         (obsN_nil _)))))))))) ?_
     intro w13
     rintro _ rfl _ rfl _ rfl _ rfl _ rfl _ rfl _ rfl _ ⟨bb13_7, rfl, lobb13_7, bkbb13_7⟩ _ ⟨Aa13, ca13, rfl, hga13, hya13, hRa13⟩ hx13
     have hp8 : Hp w [ob Aa13, some b3, some b2, some b1] w13 := hp7.row hga13 0 rfl (hp7.ge 0 rfl) hya13
     refine wd rfl (fun st => x_fieldAddr (ee st hs6_5) (fz_26_3 _ _)) ?_
     have bk3_8 : Bk w13 b3 26 #[I p0.rows, I p0.wd, I p0.lo, I p0.hi, .slice As6_b34 s6_b34.length Cs6_b34] := (f6_bk3.gr hga13 (hp7.ne 1 0 rfl rfl rfl))
     refine wl_ex0 rfl rfl (fun st => x_store (n := 1) (l := [.slice Aa13 ((s6_b34 ++ [x14]).length) ca13]) (cs' := #[I p0.rows, I p0.wd, I p0.lo, I p0.hi, .slice Aa13 ((s6_b34 ++ [x14]).length) ca13]) (ee st rfl) (ee st rfl) sz_24 bk3_8 rfl rfl (show 4 + 1 ≤ 5 by decide) (one_cells rfl) rfl) ?_
     rintro _ w16 sb16
     have hp9 : Hp w [ob Aa13, some b3, some b2, some b1] w16 := hp8.gr sb16.gr (hp8.ge 1 rfl)
     refine wl_end <| lv_block <| lv_next <| cc_region <| wm rfl (v := I s6_6) hs6_6 ?_
     replace hG := i64_bind hG; obtain ⟨hf17, hG⟩ := hG
     refine wd rfl (fun st => x_add (ee st rfl) (ee st rfl) hf17) <| wa rfl (v := I (s6_6 + 1)) rfl <| wl_end ?_
     have hRa13_9 : OwnR eTly 68 w w16 (ZZ Z w.heap.size [ob Aa13, some b3, some b2, some b1]) Aa13 ca13 (s6_b34 ++ [x14]) := (hRa13.gr sb16.gr (fun k hk => hp8.ne 0 1 rfl (congrArg some hk) rfl) (hp8.mv0 sb16.gr 1 rfl))
     have bk1_9 : Bk w16 b1 26 #[I p0.rows, I p0.wd, I p0.lo, I p0.hi, .slice A0_0 p0.ts.length c0_0] := ((f6_bk1.gr hga13 (hp7.ne 3 0 rfl rfl rfl)).gr sb16.gr (hp8.ne 3 1 rfl rfl rfl))
     have bk2_9 : Bk w16 b2 26 #[I 0, I 0, I 0, I 0, .slice none 0 0] := ((f6_bk2.gr hga13 (hp7.ne 2 0 rfl rfl rfl)).gr sb16.gr (hp8.ne 2 1 rfl rfl rfl))
     have hS0_0_9 : Sl eTly w16 (ZZ Z w.heap.size [ob Aa13, some b3, some b2, some b1]) A0_0 c0_0 p0.ts := ((f6_hS0_0.mv (hp7.mvr hga13 0 rfl (fun k hk => (hya13 k hk).1))).mv (hp8.mv0 sb16.gr 1 rfl))
     refine lv_round m_ (Nat.lt_succ_self _) (fun st => ?_)
     exact ⟨(s6_6 + 1), (s6_b34 ++ [x14]), Aa13, ca13, hG, (puts_size _ _).trans st.sz, (puts_defers _ _).trans st.df, (sl_puts st 1).trans hs6_1, (sl_puts st 2).trans hs6_2, (sl_puts st 4).trans hs6_4, (sl_puts st 5).trans hs6_5, (sl_puts st 6).trans rfl, hp9, hRa13_9, bk1_9, bk2_9, sb16.bk, hS0_0_9⟩
    ·replace hG := cond_f hG hc12
     refine cc_cond_f rfl hc12 <| cc_skip <| lv_block <| lv_next <| cc_region <| wm rfl (v := I s6_6) hs6_6 ?_
     replace hG := i64_bind hG; obtain ⟨hf18, hG⟩ := hG
     refine wd rfl (fun st => x_add (ee st rfl) (ee st rfl) hf18) <| wa rfl (v := I (s6_6 + 1)) rfl <| wl_end ?_
     refine lv_round m_ (Nat.lt_succ_self _) (fun st => ?_)
     exact ⟨(s6_6 + 1), s6_b34, As6_b34, Cs6_b34, hG, (puts_size _ _).trans st.sz, (puts_defers _ _).trans st.df, (sl_puts st 1).trans hs6_1, (sl_puts st 2).trans hs6_2, (sl_puts st 4).trans hs6_4, (sl_puts st 5).trans hs6_5, (sl_puts st 6).trans rfl, hp7, f6_Hs6_b34, f6_bk1, f6_bk2, f6_bk3, f6_hS0_0⟩
   ·replace hG := cond_f hG hc8
    refine cc_cond_f rfl hc8 <| cc_exit <| lv_then_exit <| lv_then_exit ?_
    obtain rfl := Option.some.inj hG
    refine lv_to (fun st => ?_)
    exact ⟨rfl, As6_b34, Cs6_b34, (puts_size _ _).trans st.sz, (puts_defers _ _).trans st.df, (sl_puts st 4).trans hs6_4, (sl_puts st 5).trans hs6_5, hp7, f6_Hs6_b34, f6_bk2, f6_bk3⟩
 case af6 =>
  rintro e_ fr6a w6a (⟨rfl, Ae6_0_b34, Ce6_0_b34, hsz6a, hdf6a, hs6a_4, hs6a_5, hp6a, g6_He6_0_b34, g6_bk2, g6_bk3⟩)
  refine lv_fr (X := X0) (N := 33) hsz6a hdf6a <| lv_block_hit <| lv_next <| cc_seq <| cc_region <| wd rfl (fun st => x_loadn (l := [I p0.rows, I p0.wd, I p0.lo, I p0.hi, .slice Ae6_0_b34 z6.length Ce6_0_b34]) agg_26 (ee st hs6a_5) g6_bk3 rfl rfl) <| wl_ex0 rfl rfl (fun st => x_store (n := 5) (l := [I p0.rows, I p0.wd, I p0.lo, I p0.hi, .slice Ae6_0_b34 z6.length Ce6_0_b34]) (cs' := #[I p0.rows, I p0.wd, I p0.lo, I p0.hi, .slice Ae6_0_b34 z6.length Ce6_0_b34]) (ee st hs6a_4) (ee st rfl) sz_26 g6_bk2 rfl rfl (show 0 + 5 ≤ 5 by decide) (one_cells rfl) rfl) ?_
  rintro _ w19 sb19
  have hp11 : Hp w [ob Ae6_0_b34, some b3, some b2, some b1] w19 := hp6a.gr sb19.gr (hp6a.ge 2 rfl)
  refine wl_end <| lv_next <| cc_ret ?_
  obtain rfl := Option.some.inj hG
  refine lv_retc (v := .agg #[I p0.rows, I p0.wd, I p0.lo, I p0.hi, .slice Ae6_0_b34 z6.length Ce6_0_b34]) rfl hs6a_4 (run_loadn_bk agg_26 sb19.bk rfl rfl) ?_
  have He6_0_b34_11 : OwnR eTly 68 w w19 (ZZ Z w.heap.size [ob Ae6_0_b34, some b3, some b2, some b1]) Ae6_0_b34 Ce6_0_b34 z6 := (g6_He6_0_b34.gr sb19.gr (fun k hk => hp6a.ne 0 2 rfl (congrArg some hk) rfl) (hp6a.mv0 sb19.gr 2 rfl))
  exact ⟨hp11.fin, ⟨_, rfl, _, _, rfl, He6_0_b34_11.fin⟩⟩
theorem a43 (K_ : Nat) (p0 : Fld) (p1 : Int) (p2 : Int) (A0_0 : Option Addr) (c0_0 : Nat) (Z : Nat → Prop) (w : World) (hS0_0 : Sl eTly w Z A0_0 c0_0 p0.ts) (r_ : Fld) (hG : G_answered K_ p0 p1 p2 = some r_) :
    Ret Try.prog 43 #[.agg #[I p0.rows, I p0.wd, I p0.lo, I p0.hi, .slice A0_0 p0.ts.length c0_0], I p1, I p2] w (fun v w' => Ext w w' ∧ (vAgg eFld).R w' (ZZ Z w.heap.size []) v r_) := by
 unfold G_answered at hG
 refine ret_of_cc (N := 46) Try.func43 rfl rfl (by simp) ?_
 intro fr0 ha hdf
 have hp_0 := sl_arg (i := 0) (v := .agg #[I p0.rows, I p0.wd, I p0.lo, I p0.hi, .slice A0_0 p0.ts.length c0_0]) ha rfl
 have hp_1 := sl_arg (i := 1) (v := I p1) ha rfl
 have hp_2 := sl_arg (i := 2) (v := I p2) ha rfl
 clear ha
 have hp0 := Hp.refl w
 have hS0_0_0 := hS0_0.mv (mv_start w)
 refine cc_seq <| cc_region <| we rfl (fun st => x_box (v := .agg #[I p0.rows, I p0.wd, I p0.lo, I p0.hi, .slice A0_0 p0.ts.length c0_0]) (cs := #[I p0.rows, I p0.wd, I p0.lo, I p0.hi, .slice A0_0 p0.ts.length c0_0]) (ee st hp_0) rfl) ?_
 rintro _ w1 ⟨b1, rfl, nb1⟩
 have hp1 : Hp w [some b1] w1 := hp0.new nb1.gr (Nat.le_of_eq nb1.b_eq.symm) (Nat.lt_of_lt_of_eq (Nat.lt_succ_self _) nb1.sz.symm)
 refine we rfl (fun st => x_alloc (cs := #[I 0, I 0, I 0, I 0, .slice none 0 0]) zero_26 rfl) ?_
 rintro _ w2 ⟨b2, rfl, nb2⟩
 have hp2 : Hp w [some b2, some b1] w2 := hp1.new nb2.gr (Nat.le_of_eq nb2.b_eq.symm) (Nat.lt_of_lt_of_eq (Nat.lt_succ_self _) nb2.sz.symm)
 refine wl_end <| lv_next <| cc_seq <| cc_region ?_
 have bk1_2 : Bk w2 b1 26 #[I p0.rows, I p0.wd, I p0.lo, I p0.hi, .slice A0_0 p0.ts.length c0_0] := (nb1.bk.ext nb2.gr)
 refine wd rfl (fun st => x_loadn (l := [I p0.rows, I p0.wd, I p0.lo, I p0.hi, .slice A0_0 p0.ts.length c0_0]) agg_26 (ee st rfl) bk1_2 rfl rfl) <| we rfl (fun st => x_alloc (cs := #[I 0, I 0, I 0, I 0, .slice none 0 0]) zero_26 rfl) ?_
 rintro _ w3 ⟨b3, rfl, nb3⟩
 have hp3 : Hp w [some b3, some b2, some b1] w3 := hp2.new nb3.gr (Nat.le_of_eq nb3.b_eq.symm) (Nat.lt_of_lt_of_eq (Nat.lt_succ_self _) nb3.sz.symm)
 refine wl_ex0 rfl rfl (fun st => x_store (n := 5) (l := [I p0.rows, I p0.wd, I p0.lo, I p0.hi, .slice A0_0 p0.ts.length c0_0]) (cs' := #[I p0.rows, I p0.wd, I p0.lo, I p0.hi, .slice A0_0 p0.ts.length c0_0]) (ee st rfl) (ee st rfl) sz_26 nb3.bk rfl rfl (show 0 + 5 ≤ 5 by decide) (one_cells rfl) rfl) ?_
 rintro _ w4 sb4
 have hp4 : Hp w [some b3, some b2, some b1] w4 := hp3.gr sb4.gr (hp3.ge 0 rfl)
 refine wl_end <| lv_next <| cc_seq <| cc_region <| we rfl (fun st => x_buildSlice (e := 68) (vs := #[]) (cs := #[]) pm0 (by kernel_rfl)) ?_
 rintro _ w5 ⟨b5, rfl, nb5⟩
 have hp5 : Hp w [some b5, some b3, some b2, some b1] w5 := hp4.new nb5.gr (Nat.le_of_eq nb5.b_eq.symm) (Nat.lt_of_lt_of_eq (Nat.lt_succ_self _) nb5.sz.symm)
 refine wd rfl (fun st => x_fieldAddr (ee st rfl) (fz_26_3 _ _)) ?_
 have bk1_5 : Bk w5 b1 26 #[I p0.rows, I p0.wd, I p0.lo, I p0.hi, .slice A0_0 p0.ts.length c0_0] := (((bk1_2.ext nb3.gr).gr sb4.gr (hp3.ne 2 0 rfl rfl rfl)).ext nb5.gr)
 refine wd rfl (fun st => x_load1 (v := .slice A0_0 p0.ts.length c0_0) one_24 (ee st rfl) bk1_5 rfl) ?_
 have hR6 : OwnR eTly 68 w w5 (ZZ Z w.heap.size [some b5, some b3, some b2, some b1]) (some ⟨b5, 0, none⟩) 0 ([] : List Tly) := row_bk (css := []) nb5.bk (hp5.ge 0 rfl _ rfl) trivial rfl (by simp [maxLen])
 replace hG := ifo_bind hG; obtain ⟨hf7, hG⟩ := hG
 have hS0_0_5 : Sl eTly w5 (ZZ Z w.heap.size [some b5, some b3, some b2, some b1]) A0_0 c0_0 p0.ts := (((((hS0_0_0.mv (mv_new nb1.gr (Nat.le_of_eq nb1.b_eq.symm))).mv (mv_new nb2.gr (Nat.le_of_eq nb2.b_eq.symm))).mv (mv_new nb3.gr (Nat.le_of_eq nb3.b_eq.symm))).mv (hp3.mv0 sb4.gr 0 rfl)).mv (mv_new nb5.gr (Nat.le_of_eq nb5.b_eq.symm)))
 refine we rfl (fun st => x_appS (ys := p0.ts) Try.underlying24 info_68 rfl rfl (by decide) (ee st rfl) rfl (ee st rfl) hR6 hS0_0_5 (by have := hf7; simp only [maxLen]; omega) (by have := hf7; omega) hp5.bl.size) ?_
 rintro _ w8 ⟨A8, c8, rfl, hg8, hy8, hO8⟩
 have hp6 : Hp w [ob A8, some b3, some b2, some b1] w8 := hp5.row hg8 0 rfl (hp5.ge 0 rfl) hy8
 have hR8 : OwnR eTly 68 w w8 (ZZ Z w.heap.size [ob A8, some b3, some b2, some b1]) A8 c8 (([] : List Tly) ++ p0.ts) := ownR_of hO8 (hp5.mvr hg8 0 rfl (fun k hk => (hy8 k hk).1))
 refine wd rfl (fun st => x_fieldAddr (ee st rfl) (fz_26_3 _ _)) ?_
 have bk3_6 : Bk w8 b3 26 #[I p0.rows, I p0.wd, I p0.lo, I p0.hi, .slice A0_0 p0.ts.length c0_0] := ((sb4.bk.ext nb5.gr).gr hg8 (hp5.ne 1 0 rfl rfl rfl))
 refine wl_ex0 rfl rfl (fun st => x_store (n := 1) (l := [.slice A8 ((([] : List Tly) ++ p0.ts).length) c8]) (cs' := #[I p0.rows, I p0.wd, I p0.lo, I p0.hi, .slice A8 ((([] : List Tly) ++ p0.ts).length) c8]) (ee st rfl) (ee st rfl) sz_24 bk3_6 rfl rfl (show 4 + 1 ≤ 5 by decide) (one_cells rfl) rfl) ?_
 rintro _ w9 sb9
 have hp7 : Hp w [ob A8, some b3, some b2, some b1] w9 := hp6.gr sb9.gr (hp6.ge 1 rfl)
 refine wl_end <| lv_next <| cc_seq <| cc_seq <| cc_region <| wa rfl (v := I 0) rfl <| wl_end <| lv_next <| cc_block ?_
 replace hG := bind_some hG; obtain ⟨z10, hL10, hG⟩ := hG
 refine cc_join (fun e_ fr_ w_ => (e_ = .exit 0 ∧ ∃ Ae10_0_b34 Ce10_0_b34, fr_.tmps.size = 46 ∧ fr_.defers = [] ∧ sl fr_ 6 = pt b2 0 ∧ sl fr_ 7 = pt b3 0 ∧ Hp w [ob Ae10_0_b34, some b3, some b2, some b1] w_ ∧ OwnR eTly 68 w w_ (ZZ Z w.heap.size [ob Ae10_0_b34, some b3, some b2, some b1]) Ae10_0_b34 Ce10_0_b34 z10 ∧ Bk w_ b2 26 #[I 0, I 0, I 0, I 0, .slice none 0 0] ∧ Bk w_ b3 26 #[I p0.rows, I p0.wd, I p0.lo, I p0.hi, .slice Ae10_0_b34 z10.length Ce10_0_b34])) ?lp10 ?af10
 case lp10 =>
  clear hG
  refine cc_loop (fun (m_ : Nat) (fr_ : Act) (w_ : World) => ∃ s10_8, ∃ s10_b34, ∃ As10_b34 Cs10_b34, G_answered_L10 p0 p1 p2 m_ s10_8 s10_b34 = some z10 ∧ fr_.tmps.size = 46 ∧ fr_.defers = [] ∧ sl fr_ 1 = I p1 ∧ sl fr_ 2 = I p2 ∧ sl fr_ 3 = pt b1 0 ∧ sl fr_ 6 = pt b2 0 ∧ sl fr_ 7 = pt b3 0 ∧ sl fr_ 8 = I s10_8 ∧ Hp w [ob As10_b34, some b3, some b2, some b1] w_ ∧ OwnR eTly 68 w w_ (ZZ Z w.heap.size [ob As10_b34, some b3, some b2, some b1]) As10_b34 Cs10_b34 s10_b34 ∧ Bk w_ b1 26 #[I p0.rows, I p0.wd, I p0.lo, I p0.hi, .slice A0_0 p0.ts.length c0_0] ∧ Bk w_ b2 26 #[I 0, I 0, I 0, I 0, .slice none 0 0] ∧ Bk w_ b3 26 #[I p0.rows, I p0.wd, I p0.lo, I p0.hi, .slice As10_b34 s10_b34.length Cs10_b34] ∧ Sl eTly w_ (ZZ Z w.heap.size [ob As10_b34, some b3, some b2, some b1]) A0_0 c0_0 p0.ts) K_ ?in10 ?rd10
  case in10 =>
   intro st
   have hR8_7 : OwnR eTly 68 w w9 (ZZ Z w.heap.size [ob A8, some b3, some b2, some b1]) A8 c8 (([] : List Tly) ++ p0.ts) := (hR8.gr sb9.gr (fun k hk => hp6.ne 0 1 rfl (congrArg some hk) rfl) (hp6.mv0 sb9.gr 1 rfl))
   have bk1_7 : Bk w9 b1 26 #[I p0.rows, I p0.wd, I p0.lo, I p0.hi, .slice A0_0 p0.ts.length c0_0] := ((bk1_5.gr hg8 (hp5.ne 3 0 rfl rfl rfl)).gr sb9.gr (hp6.ne 3 1 rfl rfl rfl))
   have bk2_7 : Bk w9 b2 26 #[I 0, I 0, I 0, I 0, .slice none 0 0] := (((((nb2.bk.ext nb3.gr).gr sb4.gr (hp3.ne 1 0 rfl rfl rfl)).ext nb5.gr).gr hg8 (hp5.ne 2 0 rfl rfl rfl)).gr sb9.gr (hp6.ne 2 1 rfl rfl rfl))
   have hS0_0_7 : Sl eTly w9 (ZZ Z w.heap.size [ob A8, some b3, some b2, some b1]) A0_0 c0_0 p0.ts := ((hS0_0_5.mv (hp5.mvr hg8 0 rfl (fun k hk => (hy8 k hk).1))).mv (hp6.mv0 sb9.gr 1 rfl))
   exact ⟨(0 : Int), (([] : List Tly) ++ p0.ts), A8, c8, hL10, (puts_size _ _).trans st.sz, (puts_defers _ _).trans st.df, (sl_puts st 1).trans hp_1, (sl_puts st 2).trans hp_2, (sl_puts st 3).trans rfl, (sl_puts st 6).trans rfl, (sl_puts st 7).trans rfl, (sl_puts st 8).trans rfl, hp7, hR8_7, bk1_7, bk2_7, sb9.bk, hS0_0_7⟩
  case rd10 =>
   rintro (_ | m_) fr10 w10r ⟨s10_8, s10_b34, As10_b34, Cs10_b34, hL10, hsz10, hdf10, hs10_1, hs10_2, hs10_3, hs10_6, hs10_7, hs10_8, hp8, f10_Hs10_b34, f10_bk1, f10_bk2, f10_bk3, f10_hS0_0⟩
   ·exact absurd (show none = some _ from hL10) (by simp)
   rw [G_answered_L10.eq_2] at hL10
   have hG := hL10; clear hL10
   refine round_cc (N := 46) hsz10 hdf10 <| cc_seq <| cc_seq <| cc_region <| wm rfl (v := I s10_8) hs10_8 <| wd rfl (fun st => x_fieldAddr (ee st hs10_3) (fz_26_1 _ _)) <| wd rfl (fun st => x_load1 (v := I p0.wd) one_3 (ee st rfl) f10_bk1 rfl) <| wd rfl (fun st => x_lss (ee st rfl) (ee st rfl)) <| wl_end <| lv_next ?_
   rcases bool_cases (decide (s10_8 < p0.wd)) with hc11 | hc11
   ·replace hG := cond_t hG hc11
    refine cc_cond_t rfl hc11 <| cc_skip <| lv_next <| cc_seq <| cc_block <| cc_seq <| cc_seq <| cc_region <| wm rfl (v := I s10_8) hs10_8 <| wm rfl (v := I p2) hs10_2 <| wd rfl (fun st => x_eql (ee st rfl) (ee st rfl)) <| wl_end <| lv_next ?_
    rcases bool_cases (s10_8 == p2) with hc12 | hc12
    ·replace hG := cond_t hG hc12
     refine cc_cond_t rfl hc12 <| cc_region <| wd rfl (fun st => x_fieldAddr (ee st hs10_7) (fz_26_3 _ _)) <| wd rfl (fun st => x_load1 (v := .slice As10_b34 s10_b34.length Cs10_b34) one_24 (ee st rfl) f10_bk3 rfl) <| wm rfl (v := I s10_8) hs10_8 <| wm rfl (v := I p1) hs10_1 <| wm rfl (v := I p1) hs10_1 <| wd rfl (fun st => x_build (vs := #[(0, I 1), (1, I 1)]) (v := .agg #[I 1, I 1]) (pm2 (ee st rfl) (ee st rfl)) (by kernel_rfl)) <| wd rfl (fun st => x_build (vs := #[(0, I s10_8), (1, I p1), (2, I p1), (3, .agg #[I 1, I 1])]) (v := .agg #[I s10_8, I p1, I p1, I 1, I 1]) (pm4 (ee st rfl) (ee st rfl) (ee st rfl) (ee st rfl)) (by kernel_rfl)) <| we rfl (fun st => x_buildSlice (e := 68) (vs := #[(0, .agg #[I s10_8, I p1, I p1, I 1, I 1])]) (cs := #[I s10_8, I p1, I p1, I 1, I 1]) (pm1 (ee st rfl)) (by kernel_rfl)) ?_
     rintro _ w15 ⟨b15, rfl, nb15⟩
     have hp9 : Hp w [some b15, ob As10_b34, some b3, some b2, some b1] w15 := hp8.new nb15.gr (Nat.le_of_eq nb15.b_eq.symm) (Nat.lt_of_lt_of_eq (Nat.lt_succ_self _) nb15.sz.symm)
     have Hs10_b34_9 : OwnR eTly 68 w w15 (ZZ Z w.heap.size [some b15, ob As10_b34, some b3, some b2, some b1]) As10_b34 Cs10_b34 s10_b34 := (f10_Hs10_b34.ext nb15.gr (mv_new nb15.gr (Nat.le_of_eq nb15.b_eq.symm)))
     replace hG := ifo_bind hG; obtain ⟨hf16, hG⟩ := hG
     refine we rfl (fun st => x_appR (ys := [(⟨s10_8, p1, p1, 1, 1⟩ : Tly)]) Try.underlying24 info_68 rfl rfl (by decide) (ee st rfl) rfl (ee st rfl) Hs10_b34_9 (news_bk (css := [[I s10_8, I p1, I p1, I 1, I 1]]) nb15.bk ⟨rfl, trivial⟩ rfl) (by have := hf16; simp only [maxLen]; omega) (by have := hf16; omega) hp9.bl.size (by simp)) ?_
     rintro _ w17 ⟨A17, c17, rfl, hg17, hy17, hO17⟩
     have hp10 : Hp w [some b15, ob A17, some b3, some b2, some b1] w17 := hp9.row hg17 1 rfl (hp9.ge 1 rfl) hy17
     have hR17 : OwnR eTly 68 w w17 (ZZ Z w.heap.size [some b15, ob A17, some b3, some b2, some b1]) A17 c17 (s10_b34 ++ [(⟨s10_8, p1, p1, 1, 1⟩ : Tly)]) := ownR_of hO17 (hp9.mvr hg17 1 rfl (fun k hk => (hy17 k hk).1))
     refine wd rfl (fun st => x_fieldAddr (ee st hs10_7) (fz_26_3 _ _)) ?_
     have bk3_10 : Bk w17 b3 26 #[I p0.rows, I p0.wd, I p0.lo, I p0.hi, .slice As10_b34 s10_b34.length Cs10_b34] := ((f10_bk3.ext nb15.gr).gr hg17 (hp9.ne 2 1 rfl rfl rfl))
     refine wl_ex0 rfl rfl (fun st => x_store (n := 1) (l := [.slice A17 ((s10_b34 ++ [(⟨s10_8, p1, p1, 1, 1⟩ : Tly)]).length) c17]) (cs' := #[I p0.rows, I p0.wd, I p0.lo, I p0.hi, .slice A17 ((s10_b34 ++ [(⟨s10_8, p1, p1, 1, 1⟩ : Tly)]).length) c17]) (ee st rfl) (ee st rfl) sz_24 bk3_10 rfl rfl (show 4 + 1 ≤ 5 by decide) (one_cells rfl) rfl) ?_
     rintro _ w18 sb18
     have hp11 : Hp w [some b15, ob A17, some b3, some b2, some b1] w18 := hp10.gr sb18.gr (hp10.ge 2 rfl)
     refine wl_end <| lv_next <| cc_seq <| cc_region <| wm rfl (v := I p2) hs10_2 <| wd rfl (fun st => x_lss (ee st rfl) (ee st rfl)) <| wl_end <| lv_next ?_
     rcases bool_cases (decide (p2 < 0)) with hc19 | hc19
     ·replace hG := cond_t hG hc19
      refine cc_cond_t rfl hc19 <| cc_region <| wd rfl (fun st => x_fieldAddr (ee st hs10_7) (fz_26_3 _ _)) <| wd rfl (fun st => x_load1 (v := .slice A17 ((s10_b34 ++ [(⟨s10_8, p1, p1, 1, 1⟩ : Tly)]).length) c17) one_24 (ee st rfl) sb18.bk rfl) <| wm rfl (v := I s10_8) hs10_8 <| wm rfl (v := I p1) hs10_1 <| wm rfl (v := I p1) hs10_1 <| wd rfl (fun st => x_build (vs := #[(0, I s10_8), (1, I p1), (2, I p1)]) (v := .agg #[I s10_8, I p1, I p1, I 0, I 0]) (pm3 (ee st rfl) (ee st rfl) (ee st rfl)) (by kernel_rfl)) <| we rfl (fun st => x_buildSlice (e := 68) (vs := #[(0, .agg #[I s10_8, I p1, I p1, I 0, I 0])]) (cs := #[I s10_8, I p1, I p1, I 0, I 0]) (pm1 (ee st rfl)) (by kernel_rfl)) ?_
      rintro _ w21 ⟨b21, rfl, nb21⟩
      have hp12 : Hp w [some b21, some b15, ob A17, some b3, some b2, some b1] w21 := hp11.new nb21.gr (Nat.le_of_eq nb21.b_eq.symm) (Nat.lt_of_lt_of_eq (Nat.lt_succ_self _) nb21.sz.symm)
      have hR17_12 : OwnR eTly 68 w w21 (ZZ Z w.heap.size [some b21, some b15, ob A17, some b3, some b2, some b1]) A17 c17 (s10_b34 ++ [(⟨s10_8, p1, p1, 1, 1⟩ : Tly)]) := ((hR17.gr sb18.gr (fun k hk => hp10.ne 1 2 rfl (congrArg some hk) rfl) (hp10.mv0 sb18.gr 2 rfl)).ext nb21.gr (mv_new nb21.gr (Nat.le_of_eq nb21.b_eq.symm)))
      replace hG := ifo_bind hG; obtain ⟨hf22, hG⟩ := hG
      refine we rfl (fun st => x_appR (ys := [(⟨s10_8, p1, p1, 0, 0⟩ : Tly)]) Try.underlying24 info_68 rfl rfl (by decide) (ee st rfl) rfl (ee st rfl) hR17_12 (news_bk (css := [[I s10_8, I p1, I p1, I 0, I 0]]) nb21.bk ⟨rfl, trivial⟩ rfl) (by have := hf22; simp only [maxLen]; omega) (by have := hf22; omega) hp12.bl.size (by simp)) ?_
      rintro _ w23 ⟨A23, c23, rfl, hg23, hy23, hO23⟩
      have hp13 : Hp w [some b21, some b15, ob A23, some b3, some b2, some b1] w23 := hp12.row hg23 2 rfl (hp12.ge 2 rfl) hy23
      have hR23 : OwnR eTly 68 w w23 (ZZ Z w.heap.size [some b21, some b15, ob A23, some b3, some b2, some b1]) A23 c23 ((s10_b34 ++ [(⟨s10_8, p1, p1, 1, 1⟩ : Tly)]) ++ [(⟨s10_8, p1, p1, 0, 0⟩ : Tly)]) := ownR_of hO23 (hp12.mvr hg23 2 rfl (fun k hk => (hy23 k hk).1))
      refine wd rfl (fun st => x_fieldAddr (ee st hs10_7) (fz_26_3 _ _)) ?_
      have bk3_13 : Bk w23 b3 26 #[I p0.rows, I p0.wd, I p0.lo, I p0.hi, .slice A17 ((s10_b34 ++ [(⟨s10_8, p1, p1, 1, 1⟩ : Tly)]).length) c17] := ((sb18.bk.ext nb21.gr).gr hg23 (hp12.ne 3 2 rfl rfl rfl))
      refine wl_ex0 rfl rfl (fun st => x_store (n := 1) (l := [.slice A23 (((s10_b34 ++ [(⟨s10_8, p1, p1, 1, 1⟩ : Tly)]) ++ [(⟨s10_8, p1, p1, 0, 0⟩ : Tly)]).length) c23]) (cs' := #[I p0.rows, I p0.wd, I p0.lo, I p0.hi, .slice A23 (((s10_b34 ++ [(⟨s10_8, p1, p1, 1, 1⟩ : Tly)]) ++ [(⟨s10_8, p1, p1, 0, 0⟩ : Tly)]).length) c23]) (ee st rfl) (ee st rfl) sz_24 bk3_13 rfl rfl (show 4 + 1 ≤ 5 by decide) (one_cells rfl) rfl) ?_
      rintro _ w24 sb24
      have hp14 : Hp w [some b21, some b15, ob A23, some b3, some b2, some b1] w24 := hp13.gr sb24.gr (hp13.ge 3 rfl)
      refine wl_end <| lv_block <| lv_next <| cc_region <| wm rfl (v := I s10_8) hs10_8 ?_
      replace hG := i64_bind hG; obtain ⟨hf25, hG⟩ := hG
      refine wd rfl (fun st => x_add (ee st rfl) (ee st rfl) hf25) <| wa rfl (v := I (s10_8 + 1)) rfl <| wl_end ?_
      have hp15 : Hp w [some b15, ob A23, some b3, some b2, some b1] w24 := hp14.erase 0
      have hp16 : Hp w [ob A23, some b3, some b2, some b1] w24 := hp15.erase 0
      have hR23_16 : OwnR eTly 68 w w24 (ZZ Z w.heap.size [ob A23, some b3, some b2, some b1]) A23 c23 ((s10_b34 ++ [(⟨s10_8, p1, p1, 1, 1⟩ : Tly)]) ++ [(⟨s10_8, p1, p1, 0, 0⟩ : Tly)]) := (((hR23.gr sb24.gr (fun k hk => hp13.ne 2 3 rfl (congrArg some hk) rfl) (hp13.mv0 sb24.gr 3 rfl)).up (mv_erase 0)).up (mv_erase 0))
      have bk1_16 : Bk w24 b1 26 #[I p0.rows, I p0.wd, I p0.lo, I p0.hi, .slice A0_0 p0.ts.length c0_0] := ((((((f10_bk1.ext nb15.gr).gr hg17 (hp9.ne 4 1 rfl rfl rfl)).gr sb18.gr (hp10.ne 4 2 rfl rfl rfl)).ext nb21.gr).gr hg23 (hp12.ne 5 2 rfl rfl rfl)).gr sb24.gr (hp13.ne 5 3 rfl rfl rfl))
      have bk2_16 : Bk w24 b2 26 #[I 0, I 0, I 0, I 0, .slice none 0 0] := ((((((f10_bk2.ext nb15.gr).gr hg17 (hp9.ne 3 1 rfl rfl rfl)).gr sb18.gr (hp10.ne 3 2 rfl rfl rfl)).ext nb21.gr).gr hg23 (hp12.ne 4 2 rfl rfl rfl)).gr sb24.gr (hp13.ne 4 3 rfl rfl rfl))
      have bk3_16 : Bk w24 b3 26 #[I p0.rows, I p0.wd, I p0.lo, I p0.hi, .slice A23 (((s10_b34 ++ [(⟨s10_8, p1, p1, 1, 1⟩ : Tly)]) ++ [(⟨s10_8, p1, p1, 0, 0⟩ : Tly)]).length) c23] := sb24.bk
      have hS0_0_16 : Sl eTly w24 (ZZ Z w.heap.size [ob A23, some b3, some b2, some b1]) A0_0 c0_0 p0.ts := ((((((((f10_hS0_0.mv (mv_new nb15.gr (Nat.le_of_eq nb15.b_eq.symm))).mv (hp9.mvr hg17 1 rfl (fun k hk => (hy17 k hk).1))).mv (hp10.mv0 sb18.gr 2 rfl)).mv (mv_new nb21.gr (Nat.le_of_eq nb21.b_eq.symm))).mv (hp12.mvr hg23 2 rfl (fun k hk => (hy23 k hk).1))).mv (hp13.mv0 sb24.gr 3 rfl)).mv (mv_erase 0)).mv (mv_erase 0))
      refine lv_round m_ (Nat.lt_succ_self _) (fun st => ?_)
      exact ⟨(s10_8 + 1), ((s10_b34 ++ [(⟨s10_8, p1, p1, 1, 1⟩ : Tly)]) ++ [(⟨s10_8, p1, p1, 0, 0⟩ : Tly)]), A23, c23, hG, (puts_size _ _).trans st.sz, (puts_defers _ _).trans st.df, (sl_puts st 1).trans hs10_1, (sl_puts st 2).trans hs10_2, (sl_puts st 3).trans hs10_3, (sl_puts st 6).trans hs10_6, (sl_puts st 7).trans hs10_7, (sl_puts st 8).trans rfl, hp16, hR23_16, bk1_16, bk2_16, bk3_16, hS0_0_16⟩
     ·replace hG := cond_f hG hc19
      refine cc_cond_f rfl hc19 <| cc_skip <| lv_block <| lv_next <| cc_region <| wm rfl (v := I s10_8) hs10_8 ?_
      replace hG := i64_bind hG; obtain ⟨hf26, hG⟩ := hG
      refine wd rfl (fun st => x_add (ee st rfl) (ee st rfl) hf26) <| wa rfl (v := I (s10_8 + 1)) rfl <| wl_end ?_
      have hp17 : Hp w [ob A17, some b3, some b2, some b1] w18 := hp11.erase 0
      have hR17_17 : OwnR eTly 68 w w18 (ZZ Z w.heap.size [ob A17, some b3, some b2, some b1]) A17 c17 (s10_b34 ++ [(⟨s10_8, p1, p1, 1, 1⟩ : Tly)]) := ((hR17.gr sb18.gr (fun k hk => hp10.ne 1 2 rfl (congrArg some hk) rfl) (hp10.mv0 sb18.gr 2 rfl)).up (mv_erase 0))
      have bk1_17 : Bk w18 b1 26 #[I p0.rows, I p0.wd, I p0.lo, I p0.hi, .slice A0_0 p0.ts.length c0_0] := (((f10_bk1.ext nb15.gr).gr hg17 (hp9.ne 4 1 rfl rfl rfl)).gr sb18.gr (hp10.ne 4 2 rfl rfl rfl))
      have bk2_17 : Bk w18 b2 26 #[I 0, I 0, I 0, I 0, .slice none 0 0] := (((f10_bk2.ext nb15.gr).gr hg17 (hp9.ne 3 1 rfl rfl rfl)).gr sb18.gr (hp10.ne 3 2 rfl rfl rfl))
      have bk3_17 : Bk w18 b3 26 #[I p0.rows, I p0.wd, I p0.lo, I p0.hi, .slice A17 ((s10_b34 ++ [(⟨s10_8, p1, p1, 1, 1⟩ : Tly)]).length) c17] := sb18.bk
      have hS0_0_17 : Sl eTly w18 (ZZ Z w.heap.size [ob A17, some b3, some b2, some b1]) A0_0 c0_0 p0.ts := ((((f10_hS0_0.mv (mv_new nb15.gr (Nat.le_of_eq nb15.b_eq.symm))).mv (hp9.mvr hg17 1 rfl (fun k hk => (hy17 k hk).1))).mv (hp10.mv0 sb18.gr 2 rfl)).mv (mv_erase 0))
      refine lv_round m_ (Nat.lt_succ_self _) (fun st => ?_)
      exact ⟨(s10_8 + 1), (s10_b34 ++ [(⟨s10_8, p1, p1, 1, 1⟩ : Tly)]), A17, c17, hG, (puts_size _ _).trans st.sz, (puts_defers _ _).trans st.df, (sl_puts st 1).trans hs10_1, (sl_puts st 2).trans hs10_2, (sl_puts st 3).trans hs10_3, (sl_puts st 6).trans hs10_6, (sl_puts st 7).trans hs10_7, (sl_puts st 8).trans rfl, hp17, hR17_17, bk1_17, bk2_17, bk3_17, hS0_0_17⟩
    ·replace hG := cond_f hG hc12
     refine cc_cond_f rfl hc12 <| cc_skip <| lv_next <| cc_seq <| cc_region <| wm rfl (v := I p2) hs10_2 <| wd rfl (fun st => x_lss (ee st rfl) (ee st rfl)) <| wl_end <| lv_next ?_
     rcases bool_cases (decide (p2 < 0)) with hc27 | hc27
     ·replace hG := cond_t hG hc27
      refine cc_cond_t rfl hc27 <| cc_region <| wd rfl (fun st => x_fieldAddr (ee st hs10_7) (fz_26_3 _ _)) <| wd rfl (fun st => x_load1 (v := .slice As10_b34 s10_b34.length Cs10_b34) one_24 (ee st rfl) f10_bk3 rfl) <| wm rfl (v := I s10_8) hs10_8 <| wm rfl (v := I p1) hs10_1 <| wm rfl (v := I p1) hs10_1 <| wd rfl (fun st => x_build (vs := #[(0, I s10_8), (1, I p1), (2, I p1)]) (v := .agg #[I s10_8, I p1, I p1, I 0, I 0]) (pm3 (ee st rfl) (ee st rfl) (ee st rfl)) (by kernel_rfl)) <| we rfl (fun st => x_buildSlice (e := 68) (vs := #[(0, .agg #[I s10_8, I p1, I p1, I 0, I 0])]) (cs := #[I s10_8, I p1, I p1, I 0, I 0]) (pm1 (ee st rfl)) (by kernel_rfl)) ?_
      rintro _ w29 ⟨b29, rfl, nb29⟩
      have hp18 : Hp w [some b29, ob As10_b34, some b3, some b2, some b1] w29 := hp8.new nb29.gr (Nat.le_of_eq nb29.b_eq.symm) (Nat.lt_of_lt_of_eq (Nat.lt_succ_self _) nb29.sz.symm)
      have Hs10_b34_18 : OwnR eTly 68 w w29 (ZZ Z w.heap.size [some b29, ob As10_b34, some b3, some b2, some b1]) As10_b34 Cs10_b34 s10_b34 := (f10_Hs10_b34.ext nb29.gr (mv_new nb29.gr (Nat.le_of_eq nb29.b_eq.symm)))
      replace hG := ifo_bind hG; obtain ⟨hf30, hG⟩ := hG
      refine we rfl (fun st => x_appR (ys := [(⟨s10_8, p1, p1, 0, 0⟩ : Tly)]) Try.underlying24 info_68 rfl rfl (by decide) (ee st rfl) rfl (ee st rfl) Hs10_b34_18 (news_bk (css := [[I s10_8, I p1, I p1, I 0, I 0]]) nb29.bk ⟨rfl, trivial⟩ rfl) (by have := hf30; simp only [maxLen]; omega) (by have := hf30; omega) hp18.bl.size (by simp)) ?_
      rintro _ w31 ⟨A31, c31, rfl, hg31, hy31, hO31⟩
      have hp19 : Hp w [some b29, ob A31, some b3, some b2, some b1] w31 := hp18.row hg31 1 rfl (hp18.ge 1 rfl) hy31
      have hR31 : OwnR eTly 68 w w31 (ZZ Z w.heap.size [some b29, ob A31, some b3, some b2, some b1]) A31 c31 (s10_b34 ++ [(⟨s10_8, p1, p1, 0, 0⟩ : Tly)]) := ownR_of hO31 (hp18.mvr hg31 1 rfl (fun k hk => (hy31 k hk).1))
      refine wd rfl (fun st => x_fieldAddr (ee st hs10_7) (fz_26_3 _ _)) ?_
      have bk3_19 : Bk w31 b3 26 #[I p0.rows, I p0.wd, I p0.lo, I p0.hi, .slice As10_b34 s10_b34.length Cs10_b34] := ((f10_bk3.ext nb29.gr).gr hg31 (hp18.ne 2 1 rfl rfl rfl))
      refine wl_ex0 rfl rfl (fun st => x_store (n := 1) (l := [.slice A31 ((s10_b34 ++ [(⟨s10_8, p1, p1, 0, 0⟩ : Tly)]).length) c31]) (cs' := #[I p0.rows, I p0.wd, I p0.lo, I p0.hi, .slice A31 ((s10_b34 ++ [(⟨s10_8, p1, p1, 0, 0⟩ : Tly)]).length) c31]) (ee st rfl) (ee st rfl) sz_24 bk3_19 rfl rfl (show 4 + 1 ≤ 5 by decide) (one_cells rfl) rfl) ?_
      rintro _ w32 sb32
      have hp20 : Hp w [some b29, ob A31, some b3, some b2, some b1] w32 := hp19.gr sb32.gr (hp19.ge 2 rfl)
      refine wl_end <| lv_block <| lv_next <| cc_region <| wm rfl (v := I s10_8) hs10_8 ?_
      replace hG := i64_bind hG; obtain ⟨hf33, hG⟩ := hG
      refine wd rfl (fun st => x_add (ee st rfl) (ee st rfl) hf33) <| wa rfl (v := I (s10_8 + 1)) rfl <| wl_end ?_
      have hp21 : Hp w [ob A31, some b3, some b2, some b1] w32 := hp20.erase 0
      have hR31_21 : OwnR eTly 68 w w32 (ZZ Z w.heap.size [ob A31, some b3, some b2, some b1]) A31 c31 (s10_b34 ++ [(⟨s10_8, p1, p1, 0, 0⟩ : Tly)]) := ((hR31.gr sb32.gr (fun k hk => hp19.ne 1 2 rfl (congrArg some hk) rfl) (hp19.mv0 sb32.gr 2 rfl)).up (mv_erase 0))
      have bk1_21 : Bk w32 b1 26 #[I p0.rows, I p0.wd, I p0.lo, I p0.hi, .slice A0_0 p0.ts.length c0_0] := (((f10_bk1.ext nb29.gr).gr hg31 (hp18.ne 4 1 rfl rfl rfl)).gr sb32.gr (hp19.ne 4 2 rfl rfl rfl))
      have bk2_21 : Bk w32 b2 26 #[I 0, I 0, I 0, I 0, .slice none 0 0] := (((f10_bk2.ext nb29.gr).gr hg31 (hp18.ne 3 1 rfl rfl rfl)).gr sb32.gr (hp19.ne 3 2 rfl rfl rfl))
      have bk3_21 : Bk w32 b3 26 #[I p0.rows, I p0.wd, I p0.lo, I p0.hi, .slice A31 ((s10_b34 ++ [(⟨s10_8, p1, p1, 0, 0⟩ : Tly)]).length) c31] := sb32.bk
      have hS0_0_21 : Sl eTly w32 (ZZ Z w.heap.size [ob A31, some b3, some b2, some b1]) A0_0 c0_0 p0.ts := ((((f10_hS0_0.mv (mv_new nb29.gr (Nat.le_of_eq nb29.b_eq.symm))).mv (hp18.mvr hg31 1 rfl (fun k hk => (hy31 k hk).1))).mv (hp19.mv0 sb32.gr 2 rfl)).mv (mv_erase 0))
      refine lv_round m_ (Nat.lt_succ_self _) (fun st => ?_)
      exact ⟨(s10_8 + 1), (s10_b34 ++ [(⟨s10_8, p1, p1, 0, 0⟩ : Tly)]), A31, c31, hG, (puts_size _ _).trans st.sz, (puts_defers _ _).trans st.df, (sl_puts st 1).trans hs10_1, (sl_puts st 2).trans hs10_2, (sl_puts st 3).trans hs10_3, (sl_puts st 6).trans hs10_6, (sl_puts st 7).trans hs10_7, (sl_puts st 8).trans rfl, hp21, hR31_21, bk1_21, bk2_21, bk3_21, hS0_0_21⟩
     ·replace hG := cond_f hG hc27
      refine cc_cond_f rfl hc27 <| cc_skip <| lv_block <| lv_next <| cc_region <| wm rfl (v := I s10_8) hs10_8 ?_
      replace hG := i64_bind hG; obtain ⟨hf34, hG⟩ := hG
      refine wd rfl (fun st => x_add (ee st rfl) (ee st rfl) hf34) <| wa rfl (v := I (s10_8 + 1)) rfl <| wl_end ?_
      refine lv_round m_ (Nat.lt_succ_self _) (fun st => ?_)
      exact ⟨(s10_8 + 1), s10_b34, As10_b34, Cs10_b34, hG, (puts_size _ _).trans st.sz, (puts_defers _ _).trans st.df, (sl_puts st 1).trans hs10_1, (sl_puts st 2).trans hs10_2, (sl_puts st 3).trans hs10_3, (sl_puts st 6).trans hs10_6, (sl_puts st 7).trans hs10_7, (sl_puts st 8).trans rfl, hp8, f10_Hs10_b34, f10_bk1, f10_bk2, f10_bk3, f10_hS0_0⟩
   ·replace hG := cond_f hG hc11
    refine cc_cond_f rfl hc11 <| cc_exit <| lv_then_exit <| lv_then_exit ?_
    obtain rfl := Option.some.inj hG
    refine lv_to (fun st => ?_)
    exact ⟨rfl, As10_b34, Cs10_b34, (puts_size _ _).trans st.sz, (puts_defers _ _).trans st.df, (sl_puts st 6).trans hs10_6, (sl_puts st 7).trans hs10_7, hp8, f10_Hs10_b34, f10_bk2, f10_bk3⟩
 case af10 =>
  rintro e_ fr10a w10a (⟨rfl, Ae10_0_b34, Ce10_0_b34, hsz10a, hdf10a, hs10a_6, hs10a_7, hp10a, g10_He10_0_b34, g10_bk2, g10_bk3⟩)
  refine lv_fr (X := X0) (N := 46) hsz10a hdf10a <| lv_block_hit <| lv_next <| cc_seq <| cc_region <| wd rfl (fun st => x_loadn (l := [I p0.rows, I p0.wd, I p0.lo, I p0.hi, .slice Ae10_0_b34 z10.length Ce10_0_b34]) agg_26 (ee st hs10a_7) g10_bk3 rfl rfl) <| wl_ex0 rfl rfl (fun st => x_store (n := 5) (l := [I p0.rows, I p0.wd, I p0.lo, I p0.hi, .slice Ae10_0_b34 z10.length Ce10_0_b34]) (cs' := #[I p0.rows, I p0.wd, I p0.lo, I p0.hi, .slice Ae10_0_b34 z10.length Ce10_0_b34]) (ee st hs10a_6) (ee st rfl) sz_26 g10_bk2 rfl rfl (show 0 + 5 ≤ 5 by decide) (one_cells rfl) rfl) ?_
  rintro _ w35 sb35
  have hp23 : Hp w [ob Ae10_0_b34, some b3, some b2, some b1] w35 := hp10a.gr sb35.gr (hp10a.ge 2 rfl)
  refine wl_end <| lv_next <| cc_ret ?_
  obtain rfl := Option.some.inj hG
  refine lv_retc (v := .agg #[I p0.rows, I p0.wd, I p0.lo, I p0.hi, .slice Ae10_0_b34 z10.length Ce10_0_b34]) rfl hs10a_6 (run_loadn_bk agg_26 sb35.bk rfl rfl) ?_
  have He10_0_b34_23 : OwnR eTly 68 w w35 (ZZ Z w.heap.size [ob Ae10_0_b34, some b3, some b2, some b1]) Ae10_0_b34 Ce10_0_b34 z10 := (g10_He10_0_b34.gr sb35.gr (fun k hk => hp10a.ne 0 2 rfl (congrArg some hk) rfl) (hp10a.mv0 sb35.gr 2 rfl))
  exact ⟨hp23.fin, ⟨_, rfl, _, _, rfl, He10_0_b34_23.fin⟩⟩
theorem a23 (K_ : Nat) (p0 : Fld) (A0_0 : Option Addr) (c0_0 : Nat) (Z : Nat → Prop) (w : World) (hS0_0 : Sl eTly w Z A0_0 c0_0 p0.ts) (r_ : Fld) (hG : G_Field K_ p0 = some r_) :
    Ret Try.prog 23 #[.agg #[I p0.rows, I p0.wd, I p0.lo, I p0.hi, .slice A0_0 p0.ts.length c0_0]] w (fun v w' => Ext w w' ∧ (vAgg eFld).R w' (ZZ Z w.heap.size []) v r_) := by
 unfold G_Field at hG
 refine ret_of_cc (N := 42) Try.func23 rfl rfl (by simp) ?_
 intro fr0 ha hdf
 have hp_0 := sl_arg (i := 0) (v := .agg #[I p0.rows, I p0.wd, I p0.lo, I p0.hi, .slice A0_0 p0.ts.length c0_0]) ha rfl
 clear ha
 have hp0 := Hp.refl w
 have hS0_0_0 := hS0_0.mv (mv_start w)
 refine cc_seq <| cc_region <| we rfl (fun st => x_box (v := .agg #[I p0.rows, I p0.wd, I p0.lo, I p0.hi, .slice A0_0 p0.ts.length c0_0]) (cs := #[I p0.rows, I p0.wd, I p0.lo, I p0.hi, .slice A0_0 p0.ts.length c0_0]) (ee st hp_0) rfl) ?_
 rintro _ w1 ⟨b1, rfl, nb1⟩
 have hp1 : Hp w [some b1] w1 := hp0.new nb1.gr (Nat.le_of_eq nb1.b_eq.symm) (Nat.lt_of_lt_of_eq (Nat.lt_succ_self _) nb1.sz.symm)
 refine we rfl (fun st => x_alloc (cs := #[I 0, I 0, I 0, I 0, .slice none 0 0]) zero_36 rfl) ?_
 rintro _ w2 ⟨b2, rfl, nb2⟩
 have hp2 : Hp w [some b2, some b1] w2 := hp1.new nb2.gr (Nat.le_of_eq nb2.b_eq.symm) (Nat.lt_of_lt_of_eq (Nat.lt_succ_self _) nb2.sz.symm)
 refine wl_end <| lv_next <| cc_seq ?_
 have bk1_2 : Bk w2 b1 26 #[I p0.rows, I p0.wd, I p0.lo, I p0.hi, .slice A0_0 p0.ts.length c0_0] := (nb1.bk.ext nb2.gr)
 replace hG := bind_some hG; obtain ⟨r4, hr4, hG⟩ := hG
 refine cc_anyM0 9 [Kc (pt b1 0), Kc (I p0.rows), Kc (pt b1 1), Kc (I p0.wd), Kc (pt b1 2), Kc (.agg #[I p0.lo, I p0.hi]), Kc (.agg #[I r4.1, I r4.2]), Kc (.agg #[I p0.rows, I p0.wd, I r4.1, I r4.2, .slice none 0 0]), Kn w2.heap.size (fun b => .pointer (some ⟨b, 0, none⟩)) 36 #[I 0, I 0, I 0, I 0, .slice none 0 0]] mixedA6 rfl rfl
     (obsN_cons (od rfl (fun _ => rfl) (fun K => x_fieldAddr (es (t := 1) (v := pt b1 0) ((K.out 1 rfl).trans rfl)) (fz_26_0 _ _)))
     (obsN_cons (od rfl (fun _ => rfl) (fun K => x_load1 (v := I p0.rows) one_3 (es (t := 6) (v := pt b1 0) (K.dep 0 6 rfl rfl)) (bk1_2.ext K.phT) rfl))
     (obsN_cons (od rfl (fun _ => rfl) (fun K => x_fieldAddr (es (t := 1) (v := pt b1 0) ((K.out 1 rfl).trans rfl)) (fz_26_1 _ _)))
     (obsN_cons (od rfl (fun _ => rfl) (fun K => x_load1 (v := I p0.wd) one_3 (es (t := 8) (v := pt b1 1) (K.dep 2 8 rfl rfl)) (bk1_2.ext K.phT) rfl))
     (obsN_cons (od rfl (fun _ => rfl) (fun K => x_fieldAddr (es (t := 1) (v := pt b1 0) ((K.out 1 rfl).trans rfl)) (fz_26_2 _ _)))
     (obsN_cons (od rfl (fun _ => rfl) (fun K => x_loadn (l := [I p0.lo, I p0.hi]) agg_23 (es (t := 10) (v := pt b1 2) (K.dep 4 10 rfl rfl)) (bk1_2.ext K.phT) rfl rfl))
     (obsN_cons (ob_ext rfl rfl (fun a' w' ph K => (x_call0 own_25 rfl (am1 (es (t := 11) (v := .agg #[I p0.lo, I p0.hi]) (K.dep 5 11 rfl rfl))) (a25 K_ (⟨p0.lo, p0.hi⟩ : (Int × Int)) ZA _ r4 hr4)).mono (fun _ _ h => ⟨(by obtain ⟨_, rfl, rfl⟩ := h.2; rfl), h.1⟩)))
     (obsN_cons (od rfl (fun _ => rfl) (fun K => x_build (vs := #[(0, I p0.rows), (1, I p0.wd), (2, .agg #[I r4.1, I r4.2])]) (v := .agg #[I p0.rows, I p0.wd, I r4.1, I r4.2, .slice none 0 0]) (pm3 (es (t := 7) (v := I p0.rows) (K.dep 1 7 rfl rfl)) (es (t := 9) (v := I p0.wd) (K.dep 3 9 rfl rfl)) (es (t := 12) (v := .agg #[I r4.1, I r4.2]) (K.dep 6 12 rfl rfl))) (by kernel_rfl)))
     (obsN_cons (ob_ext rfl rfl (fun a' w' ph K => (x_alloc (cs := #[I 0, I 0, I 0, I 0, .slice none 0 0]) zero_36 rfl).mono (fun u w'' hh => kn_mk K.phT.size hh)))
     (obsN_nil _)))))))))) ?_
 intro w3
 rintro _ rfl _ rfl _ rfl _ rfl _ rfl _ rfl _ rfl _ rfl _ ⟨bb3_8, rfl, lobb3_8, bkbb3_8⟩ hx3
 have hp3 : Hp w [some b2, some b1] w3 := hp2.ext hx3
 have hlebb3_8 : w2.heap.size ≤ bb3_8 := lobb3_8
 have hp4 : Hp w [some bb3_8, some b2, some b1] w3 := hp2.new hx3 lobb3_8 bkbb3_8.lt
 refine wl_ex0 rfl rfl (fun st => x_store (n := 5) (l := [I p0.rows, I p0.wd, I r4.1, I r4.2, .slice none 0 0]) (cs' := #[I p0.rows, I p0.wd, I r4.1, I r4.2, .slice none 0 0]) (ee st rfl) (ee st rfl) sz_36 bkbb3_8 rfl rfl (show 0 + 5 ≤ 5 by decide) (one_cells rfl) rfl) ?_
 rintro _ w6 sb6
 have hp5 : Hp w [some bb3_8, some b2, some b1] w6 := hp4.gr sb6.gr (hp4.ge 0 rfl)
 refine wl_end <| lv_next <| cc_seq <| cc_seq <| cc_region <| wa rfl (v := I 0) rfl <| wl_end <| lv_next <| cc_block ?_
 have hp6 : Hp w [none, some bb3_8, some b2, some b1] w6 := hp5.nil
 have hR8 : OwnR eTly 95 w w6 (ZZ Z w.heap.size [none, some bb3_8, some b2, some b1]) none 0 [] := OwnR.nil _ _ _ _ _
 replace hG := bind_some hG; obtain ⟨z7, hL7, hG⟩ := hG
 refine cc_join (fun e_ fr_ w_ => (e_ = .exit 0 ∧ ∃ Ae7_0_bb3_84 Ce7_0_bb3_84, fr_.tmps.size = 42 ∧ fr_.defers = [] ∧ sl fr_ 2 = pt b2 0 ∧ sl fr_ 3 = pt bb3_8 0 ∧ Hp w [ob Ae7_0_bb3_84, some bb3_8, some b2, some b1] w_ ∧ OwnR eTly 95 w w_ (ZZ Z w.heap.size [ob Ae7_0_bb3_84, some bb3_8, some b2, some b1]) Ae7_0_bb3_84 Ce7_0_bb3_84 z7 ∧ Bk w_ b2 36 #[I 0, I 0, I 0, I 0, .slice none 0 0] ∧ Bk w_ bb3_8 36 #[I p0.rows, I p0.wd, I r4.1, I r4.2, .slice Ae7_0_bb3_84 z7.length Ce7_0_bb3_84])) ?lp7 ?af7
 case lp7 =>
  clear hG
  refine cc_loop (fun (m_ : Nat) (fr_ : Act) (w_ : World) => ∃ s7_4, ∃ s7_bb3_84, ∃ As7_bb3_84 Cs7_bb3_84, G_Field_L7 K_ p0 m_ s7_4 s7_bb3_84 = some z7 ∧ fr_.tmps.size = 42 ∧ fr_.defers = [] ∧ sl fr_ 1 = pt b1 0 ∧ sl fr_ 2 = pt b2 0 ∧ sl fr_ 3 = pt bb3_8 0 ∧ sl fr_ 4 = I s7_4 ∧ Hp w [ob As7_bb3_84, some bb3_8, some b2, some b1] w_ ∧ OwnR eTly 95 w w_ (ZZ Z w.heap.size [ob As7_bb3_84, some bb3_8, some b2, some b1]) As7_bb3_84 Cs7_bb3_84 s7_bb3_84 ∧ Bk w_ b1 26 #[I p0.rows, I p0.wd, I p0.lo, I p0.hi, .slice A0_0 p0.ts.length c0_0] ∧ Bk w_ b2 36 #[I 0, I 0, I 0, I 0, .slice none 0 0] ∧ Sl eTly w_ (ZZ Z w.heap.size [ob As7_bb3_84, some bb3_8, some b2, some b1]) A0_0 c0_0 p0.ts ∧ Bk w_ bb3_8 36 #[I p0.rows, I p0.wd, I r4.1, I r4.2, .slice As7_bb3_84 s7_bb3_84.length Cs7_bb3_84]) K_ ?in7 ?rd7
  case in7 =>
   intro st
   have bk1_6 : Bk w6 b1 26 #[I p0.rows, I p0.wd, I p0.lo, I p0.hi, .slice A0_0 p0.ts.length c0_0] := ((bk1_2.ext hx3).gr sb6.gr (hp4.ne 2 0 rfl rfl rfl))
   have bk2_6 : Bk w6 b2 36 #[I 0, I 0, I 0, I 0, .slice none 0 0] := ((nb2.bk.ext hx3).gr sb6.gr (hp4.ne 1 0 rfl rfl rfl))
   have hS0_0_6 : Sl eTly w6 (ZZ Z w.heap.size [none, some bb3_8, some b2, some b1]) A0_0 c0_0 p0.ts := (((((hS0_0_0.mv (mv_new nb1.gr (Nat.le_of_eq nb1.b_eq.symm))).mv (mv_new nb2.gr (Nat.le_of_eq nb2.b_eq.symm))).mv (mv_new hx3 lobb3_8)).mv (hp4.mv0 sb6.gr 0 rfl)).mv mv_nil)
   have kb3_8_6 : Bk w6 bb3_8 36 #[I p0.rows, I p0.wd, I r4.1, I r4.2, .slice none (([] : List Tly).length) 0] := sb6.bk
   exact ⟨(0 : Int), ([] : List Tly), none, 0, hL7, (puts_size _ _).trans st.sz, (puts_defers _ _).trans st.df, (sl_puts st 1).trans rfl, (sl_puts st 2).trans rfl, (sl_puts st 3).trans rfl, (sl_puts st 4).trans rfl, hp6, hR8, bk1_6, bk2_6, hS0_0_6, kb3_8_6⟩
  case rd7 =>
   rintro (_ | m_) fr7 w7r ⟨s7_4, s7_bb3_84, As7_bb3_84, Cs7_bb3_84, hL7, hsz7, hdf7, hs7_1, hs7_2, hs7_3, hs7_4, hp7, f7_Hs7_bb3_84, f7_bk1, f7_bk2, f7_hS0_0, f7_kb3_8⟩
   ·exact absurd (show none = some _ from hL7) (by simp)
   rw [G_Field_L7.eq_2] at hL7
   have hG := hL7; clear hL7
   refine round_cc (N := 42) hsz7 hdf7 <| cc_seq <| cc_seq <| cc_region <| wm rfl (v := I s7_4) hs7_4 <| wd rfl (fun st => x_fieldAddr (ee st hs7_1) (fz_26_3 _ _)) <| wd rfl (fun st => x_load1 (v := .slice A0_0 p0.ts.length c0_0) one_24 (ee st rfl) f7_bk1 rfl) <| wd rfl (fun st => x_len Try.underlying24 (ee st rfl)) <| wd rfl (fun st => x_lss (ee st rfl) (ee st rfl)) <| wl_end <| lv_next ?_
   rcases bool_cases (decide (s7_4 < (p0.ts.length : Int))) with hc9 | hc9
   ·replace hG := cond_t hG hc9
    refine cc_cond_t rfl hc9 <| cc_skip <| lv_next <| cc_seq <| cc_block <| cc_seq <| cc_region <| wd rfl (fun st => x_fieldAddr (ee st hs7_1) (fz_26_3 _ _)) <| wd rfl (fun st => x_load1 (v := .slice A0_0 p0.ts.length c0_0) one_24 (ee st rfl) f7_bk1 rfl) <| wm rfl (v := I s7_4) hs7_4 ?_
    replace hG := idx_bind hG; obtain ⟨i10, x10, hi10, hx10, hl10, hG⟩ := hG
    obtain ⟨b10, o10, _, hA10, rfl, hz10⟩ := Sl.elem f7_hS0_0 (by decide) hx10
    refine wd rfl (fun st => x_indexAddrN (k := i10) Try.underlying24 sz_68 (ee st rfl) hA10 (ee st rfl) hi10 hl10) <| wd rfl (fun st => x_load_zn0 (l := [I x10.who, I x10.fr, I x10.to, I x10.lo, I x10.hi]) agg_68 (ee st rfl) hz10 rfl rfl) <| we rfl (fun st => x_alloc (cs := #[I 0, I 0, I 0, I 0, I 0]) zero_68 rfl) ?_
    rintro _ w11 ⟨b11, rfl, nb11⟩
    have hp8 : Hp w [some b11, ob As7_bb3_84, some bb3_8, some b2, some b1] w11 := hp7.new nb11.gr (Nat.le_of_eq nb11.b_eq.symm) (Nat.lt_of_lt_of_eq (Nat.lt_succ_self _) nb11.sz.symm)
    refine wl_ex0 rfl rfl (fun st => x_store (n := 5) (l := [I x10.who, I x10.fr, I x10.to, I x10.lo, I x10.hi]) (cs' := #[I x10.who, I x10.fr, I x10.to, I x10.lo, I x10.hi]) (ee st rfl) (ee st rfl) sz_68 nb11.bk rfl rfl (show 0 + 5 ≤ 5 by decide) (one_cells rfl) rfl) ?_
    rintro _ w12 sb12
    have hp9 : Hp w [some b11, ob As7_bb3_84, some bb3_8, some b2, some b1] w12 := hp8.gr sb12.gr (hp8.ge 0 rfl)
    refine wl_end <| lv_next ?_
    have kb3_8_9 : Bk w12 bb3_8 36 #[I p0.rows, I p0.wd, I r4.1, I r4.2, .slice As7_bb3_84 s7_bb3_84.length Cs7_bb3_84] := ((f7_kb3_8.ext nb11.gr).gr sb12.gr (hp8.ne 2 0 rfl rfl rfl))
    replace hG := bind_some hG; obtain ⟨r14, hr14, hG⟩ := hG
    have Hs7_bb3_84_9 : OwnR eTly 95 w w12 (ZZ Z w.heap.size [some b11, ob As7_bb3_84, some bb3_8, some b2, some b1]) As7_bb3_84 Cs7_bb3_84 s7_bb3_84 := ((f7_Hs7_bb3_84.ext nb11.gr (mv_new nb11.gr (Nat.le_of_eq nb11.b_eq.symm))).gr sb12.gr (fun k hk => hp8.ne 1 0 rfl (congrArg some hk) rfl) (hp8.mv0 sb12.gr 0 rfl))
    replace hG := ifo_bind hG; obtain ⟨hf16, hG⟩ := hG
    refine cc_anyM 14 (fun ph _ w_ => T3 w12 (ob As7_bb3_84) ph w_) (fun _ => []) [13] [Kc (pt bb3_8 4), Kc (.slice As7_bb3_84 s7_bb3_84.length Cs7_bb3_84), Kc (pt b11 0), Kc (I x10.who), Kc (pt b11 1), Kc (I x10.fr), Kc (pt b11 2), Kc (I x10.to), Kc (pt b11 3), Kc (.agg #[I x10.lo, I x10.hi]), Kc (.agg #[I r14.1, I r14.2]), Kc (.agg #[I x10.who, I x10.fr, I x10.to, I r14.1, I r14.2]), Kn w12.heap.size (fun b => .slice (some ⟨b, 0, none⟩) 1 1) 95 #[I x10.who, I x10.fr, I x10.to, I r14.1, I r14.2], ⟨fun v_ w_ => ∃ A_ c_, v_ = .slice A_ (s7_bb3_84 ++ [(⟨x10.who, x10.fr, x10.to, r14.1, r14.2⟩ : Tly)]).length c_ ∧ w12.grownBy w_ (ob As7_bb3_84) ∧ (∀ k, ob A_ = some k → (ob As7_bb3_84 = some k ∨ w12.heap.size ≤ k) ∧ k < w_.heap.size) ∧ OwnR eTly 95 w w_ (ZZ Z w.heap.size [some b11, ob A_, some bb3_8, some b2, some b1]) A_ c_ (s7_bb3_84 ++ [(⟨x10.who, x10.fr, x10.to, r14.1, r14.2⟩ : Tly)]), fun _ _ _ ⟨A_, c_, h1, h2, h3, h4⟩ g => ⟨A_, c_, h1, h2.trans (g.but _), (fun k hk => ⟨(h3 k hk).1, Nat.lt_of_lt_of_le (h3 k hk).2 g.size⟩), h4.ext g (mv_ext g)⟩⟩] mixedA6 rfl rfl (okD_nil _ _) (fun _ _ _ _ _ h g _ => T3_ext h g) (fun _ => ext_drew _)
        (obsN_cons (od rfl (fun _ => rfl) (fun K => x_fieldAddr (es (t := 3) (v := pt bb3_8 0) ((K.out 3 rfl).trans hs7_3)) (fz_36_3 _ _)))
        (obsN_cons (od rfl (fun _ => rfl) (fun K => x_load1 (v := .slice As7_bb3_84 s7_bb3_84.length Cs7_bb3_84) one_34 (es (t := 26) (v := pt bb3_8 4) (K.dep 0 26 rfl rfl)) (kb3_8_9.gr (T3_gr K.phT) (hp9.ne 2 1 rfl rfl rfl)) rfl))
        (obsN_cons (od rfl (fun _ => rfl) (fun K => x_fieldAddr (es (t := 5) (v := pt b11 0) ((K.out 5 rfl).trans rfl)) (fz_68_0 _ _)))
        (obsN_cons (od rfl (fun _ => rfl) (fun K => x_load1 (v := I x10.who) one_3 (es (t := 28) (v := pt b11 0) (K.dep 2 28 rfl rfl)) (sb12.bk.gr (T3_gr K.phT) (hp9.ne 0 1 rfl rfl rfl)) rfl))
        (obsN_cons (od rfl (fun _ => rfl) (fun K => x_fieldAddr (es (t := 5) (v := pt b11 0) ((K.out 5 rfl).trans rfl)) (fz_68_1 _ _)))
        (obsN_cons (od rfl (fun _ => rfl) (fun K => x_load1 (v := I x10.fr) one_3 (es (t := 30) (v := pt b11 1) (K.dep 4 30 rfl rfl)) (sb12.bk.gr (T3_gr K.phT) (hp9.ne 0 1 rfl rfl rfl)) rfl))
        (obsN_cons (od rfl (fun _ => rfl) (fun K => x_fieldAddr (es (t := 5) (v := pt b11 0) ((K.out 5 rfl).trans rfl)) (fz_68_2 _ _)))
        (obsN_cons (od rfl (fun _ => rfl) (fun K => x_load1 (v := I x10.to) one_3 (es (t := 32) (v := pt b11 2) (K.dep 6 32 rfl rfl)) (sb12.bk.gr (T3_gr K.phT) (hp9.ne 0 1 rfl rfl rfl)) rfl))
        (obsN_cons (od rfl (fun _ => rfl) (fun K => x_fieldAddr (es (t := 5) (v := pt b11 0) ((K.out 5 rfl).trans rfl)) (fz_68_3 _ _)))
        (obsN_cons (od rfl (fun _ => rfl) (fun K => x_loadn (l := [I x10.lo, I x10.hi]) agg_23 (es (t := 34) (v := pt b11 3) (K.dep 8 34 rfl rfl)) (sb12.bk.gr (T3_gr K.phT) (hp9.ne 0 1 rfl rfl rfl)) rfl rfl))
        (obsN_cons (ob_ext rfl rfl (fun a' w' ph K => (x_call0 own_25 rfl (am1 (es (t := 35) (v := .agg #[I x10.lo, I x10.hi]) (K.dep 9 35 rfl rfl))) (a25 K_ (⟨x10.lo, x10.hi⟩ : (Int × Int)) ZA _ r14 hr14)).mono (fun _ _ h => ⟨(by obtain ⟨_, rfl, rfl⟩ := h.2; rfl), h.1⟩)))
        (obsN_cons (od rfl (fun _ => rfl) (fun K => x_build (vs := #[(0, I x10.who), (1, I x10.fr), (2, I x10.to), (3, .agg #[I r14.1, I r14.2])]) (v := .agg #[I x10.who, I x10.fr, I x10.to, I r14.1, I r14.2]) (pm4 (es (t := 29) (v := I x10.who) (K.dep 3 29 rfl rfl)) (es (t := 31) (v := I x10.fr) (K.dep 5 31 rfl rfl)) (es (t := 33) (v := I x10.to) (K.dep 7 33 rfl rfl)) (es (t := 36) (v := .agg #[I r14.1, I r14.2]) (K.dep 10 36 rfl rfl))) (by kernel_rfl)))
        (obsN_cons (ob_ext rfl rfl (fun a' w' ph K => (x_buildSlice (e := 95) (vs := #[(0, .agg #[I x10.who, I x10.fr, I x10.to, I r14.1, I r14.2])]) (cs := #[I x10.who, I x10.fr, I x10.to, I r14.1, I r14.2]) (pm1 (es (t := 37) (v := .agg #[I x10.who, I x10.fr, I x10.to, I r14.1, I r14.2]) (K.dep 11 37 rfl rfl))) (by kernel_rfl)).mono (fun u w'' hh => kn_mk (T3_gr K.phT).size hh)))
        (obsN_cons (ob_spec rfl rfl (fun a' w' ph K => match K.dep 12 38 rfl rfl with | ⟨bb13_12, e13_12, l13_12, k13_12⟩ => (x_appR (ys := [(⟨x10.who, x10.fr, x10.to, r14.1, r14.2⟩ : Tly)]) Try.underlying34 info_95 rfl rfl (by decide) (es (t := 27) (v := .slice As7_bb3_84 s7_bb3_84.length Cs7_bb3_84) (K.dep 1 27 rfl rfl)) rfl (es (t := 38) (v := .slice (some ⟨bb13_12, 0, none⟩) 1 1) e13_12) (Hs7_bb3_84_9.ext (T3_zero K.phT (K.spi 0 rfl)) (mv_ext (T3_zero K.phT (K.spi 0 rfl)))) (news_bk (css := [[I x10.who, I x10.fr, I x10.to, I r14.1, I r14.2]]) k13_12 ⟨rfl, trivial⟩ rfl) (by have := hf16; simp only [maxLen]; omega) (by have := hf16; omega) (Nat.le_trans hp9.bl.size (T3_zero K.phT (K.spi 0 rfl)).size) (by simp)).mono (fun v w'' ⟨A_, c_, hv, hg, hy, hO⟩ => ⟨⟨A_, c_, hv, T3_all (T3_zero K.phT (K.spi 0 rfl)) hg, T3_y (T3_zero K.phT (K.spi 0 rfl)) hy, ownR_of (hO) ((hp9.ext (T3_zero K.phT (K.spi 0 rfl))).mvr hg 1 rfl (fun k hk => (hy k hk).1))⟩, skl_of ⟨fun _ _ _ h => h, fun _ _ _ h => h, fun _ _ _ h => h, fun _ _ _ h => h, fun _ _ _ h => h, fun _ _ _ h => h, fun _ _ _ h => h, fun _ _ _ h => h, fun _ _ _ h => h, fun _ _ _ h => h, fun _ _ _ h => h, fun _ _ _ h => h, fun _ _ _ ⟨b, h1, h2, h3⟩ => ⟨b, h1, h2, h3.gr hg (by rintro e; have := (hp9.lo b (by rw [e]; exact List.mem_of_getElem? (show [some b11, ob As7_bb3_84, some bb3_8, some b2, some b1][1]? = some _ from rfl))).2; omega)⟩, fun h => absurd rfl h, trivial⟩, T3_up K.phT (K.spi 0 rfl) hg⟩)))
        (obsN_nil _))))))))))))))) ?_
    intro w13
    rintro _ rfl _ rfl _ rfl _ rfl _ rfl _ rfl _ rfl _ rfl _ rfl _ rfl _ rfl _ rfl _ ⟨bb13_12, rfl, lobb13_12, bkbb13_12⟩ _ ⟨Aa13, ca13, rfl, hga13, hya13, hRa13⟩ hx13
    have hp10 : Hp w [some b11, ob Aa13, some bb3_8, some b2, some b1] w13 := hp9.row hga13 1 rfl (hp9.ge 1 rfl) hya13
    refine wd rfl (fun st => x_fieldAddr (ee st hs7_3) (fz_36_3 _ _)) ?_
    have kb3_8_10 : Bk w13 bb3_8 36 #[I p0.rows, I p0.wd, I r4.1, I r4.2, .slice As7_bb3_84 s7_bb3_84.length Cs7_bb3_84] := (kb3_8_9.gr hga13 (hp9.ne 2 1 rfl rfl rfl))
    refine wl_ex0 rfl rfl (fun st => x_store (n := 1) (l := [.slice Aa13 ((s7_bb3_84 ++ [(⟨x10.who, x10.fr, x10.to, r14.1, r14.2⟩ : Tly)]).length) ca13]) (cs' := #[I p0.rows, I p0.wd, I r4.1, I r4.2, .slice Aa13 ((s7_bb3_84 ++ [(⟨x10.who, x10.fr, x10.to, r14.1, r14.2⟩ : Tly)]).length) ca13]) (ee st rfl) (ee st rfl) sz_34 kb3_8_10 rfl rfl (show 4 + 1 ≤ 5 by decide) (one_cells rfl) rfl) ?_
    rintro _ w17 sb17
    have hp11 : Hp w [some b11, ob Aa13, some bb3_8, some b2, some b1] w17 := hp10.gr sb17.gr (hp10.ge 2 rfl)
    refine wl_end <| lv_block <| lv_next <| cc_region <| wm rfl (v := I s7_4) hs7_4 ?_
    replace hG := i64_bind hG; obtain ⟨hf18, hG⟩ := hG
    refine wd rfl (fun st => x_add (ee st rfl) (ee st rfl) hf18) <| wa rfl (v := I (s7_4 + 1)) rfl <| wl_end ?_
    have hp12 : Hp w [ob Aa13, some bb3_8, some b2, some b1] w17 := hp11.erase 0
    have hRa13_12 : OwnR eTly 95 w w17 (ZZ Z w.heap.size [ob Aa13, some bb3_8, some b2, some b1]) Aa13 ca13 (s7_bb3_84 ++ [(⟨x10.who, x10.fr, x10.to, r14.1, r14.2⟩ : Tly)]) := ((hRa13.gr sb17.gr (fun k hk => hp10.ne 1 2 rfl (congrArg some hk) rfl) (hp10.mv0 sb17.gr 2 rfl)).up (mv_erase 0))
    have bk1_12 : Bk w17 b1 26 #[I p0.rows, I p0.wd, I p0.lo, I p0.hi, .slice A0_0 p0.ts.length c0_0] := ((((f7_bk1.ext nb11.gr).gr sb12.gr (hp8.ne 4 0 rfl rfl rfl)).gr hga13 (hp9.ne 4 1 rfl rfl rfl)).gr sb17.gr (hp10.ne 4 2 rfl rfl rfl))
    have bk2_12 : Bk w17 b2 36 #[I 0, I 0, I 0, I 0, .slice none 0 0] := ((((f7_bk2.ext nb11.gr).gr sb12.gr (hp8.ne 3 0 rfl rfl rfl)).gr hga13 (hp9.ne 3 1 rfl rfl rfl)).gr sb17.gr (hp10.ne 3 2 rfl rfl rfl))
    have hS0_0_12 : Sl eTly w17 (ZZ Z w.heap.size [ob Aa13, some bb3_8, some b2, some b1]) A0_0 c0_0 p0.ts := (((((f7_hS0_0.mv (mv_new nb11.gr (Nat.le_of_eq nb11.b_eq.symm))).mv (hp8.mv0 sb12.gr 0 rfl)).mv (hp9.mvr hga13 1 rfl (fun k hk => (hya13 k hk).1))).mv (hp10.mv0 sb17.gr 2 rfl)).mv (mv_erase 0))
    have kb3_8_12 : Bk w17 bb3_8 36 #[I p0.rows, I p0.wd, I r4.1, I r4.2, .slice Aa13 ((s7_bb3_84 ++ [(⟨x10.who, x10.fr, x10.to, r14.1, r14.2⟩ : Tly)]).length) ca13] := sb17.bk
    refine lv_round m_ (Nat.lt_succ_self _) (fun st => ?_)
    exact ⟨(s7_4 + 1), (s7_bb3_84 ++ [(⟨x10.who, x10.fr, x10.to, r14.1, r14.2⟩ : Tly)]), Aa13, ca13, hG, (puts_size _ _).trans st.sz, (puts_defers _ _).trans st.df, (sl_puts st 1).trans hs7_1, (sl_puts st 2).trans hs7_2, (sl_puts st 3).trans hs7_3, (sl_puts st 4).trans rfl, hp12, hRa13_12, bk1_12, bk2_12, hS0_0_12, kb3_8_12⟩
   ·replace hG := cond_f hG hc9
    refine cc_cond_f rfl hc9 <| cc_exit <| lv_then_exit <| lv_then_exit ?_
    obtain rfl := Option.some.inj hG
    refine lv_to (fun st => ?_)
    exact ⟨rfl, As7_bb3_84, Cs7_bb3_84, (puts_size _ _).trans st.sz, (puts_defers _ _).trans st.df, (sl_puts st 2).trans hs7_2, (sl_puts st 3).trans hs7_3, hp7, f7_Hs7_bb3_84, f7_bk2, f7_kb3_8⟩
 case af7 =>
  rintro e_ fr7a w7a (⟨rfl, Ae7_0_bb3_84, Ce7_0_bb3_84, hsz7a, hdf7a, hs7a_2, hs7a_3, hp7a, g7_He7_0_bb3_84, g7_bk2, g7_kb3_8⟩)
  refine lv_fr (X := X0) (N := 42) hsz7a hdf7a <| lv_block_hit <| lv_next <| cc_seq <| cc_region <| wd rfl (fun st => x_loadn (l := [I p0.rows, I p0.wd, I r4.1, I r4.2, .slice Ae7_0_bb3_84 z7.length Ce7_0_bb3_84]) agg_36 (ee st hs7a_3) g7_kb3_8 rfl rfl) <| wl_ex0 rfl rfl (fun st => x_store (n := 5) (l := [I p0.rows, I p0.wd, I r4.1, I r4.2, .slice Ae7_0_bb3_84 z7.length Ce7_0_bb3_84]) (cs' := #[I p0.rows, I p0.wd, I r4.1, I r4.2, .slice Ae7_0_bb3_84 z7.length Ce7_0_bb3_84]) (ee st hs7a_2) (ee st rfl) sz_36 g7_bk2 rfl rfl (show 0 + 5 ≤ 5 by decide) (one_cells rfl) rfl) ?_
  rintro _ w19 sb19
  have hp14 : Hp w [ob Ae7_0_bb3_84, some bb3_8, some b2, some b1] w19 := hp7a.gr sb19.gr (hp7a.ge 2 rfl)
  refine wl_end <| lv_next <| cc_ret ?_
  obtain rfl := Option.some.inj hG
  refine lv_retc (v := .agg #[I p0.rows, I p0.wd, I r4.1, I r4.2, .slice Ae7_0_bb3_84 z7.length Ce7_0_bb3_84]) rfl hs7a_2 (run_loadn_bk agg_36 sb19.bk rfl rfl) ?_
  have He7_0_bb3_84_14 : OwnR eTly 95 w w19 (ZZ Z w.heap.size [ob Ae7_0_bb3_84, some bb3_8, some b2, some b1]) Ae7_0_bb3_84 Ce7_0_bb3_84 z7 := (g7_He7_0_bb3_84.gr sb19.gr (fun k hk => hp7a.ne 0 2 rfl (congrArg some hk) rfl) (hp7a.mv0 sb19.gr 2 rfl))
  exact ⟨hp14.fin, ⟨_, rfl, _, _, rfl, He7_0_bb3_84_14.fin⟩⟩
end Go.Proofs.Ythogdgkafaclaaa
end
section
set_option linter.unusedVariables false
set_option linter.unusedSimpArgs false
namespace Go.Proofs.Ythogdgkafaclaaa
open Go.RowKit
open AF
attribute [local irreducible] Ex1 WL CC CW LV Ret ObOp Agg One Own
theorem a33 (K_ : Nat) : ∀ (k_ : Nat) (p0 : Fld) (p1 : List (List Int)) (p2 : Int) (A0_0 : Option Addr) (c0_0 : Nat) (A1_0 : Option Addr) (c1_0 : Nat) (Z : Nat → Prop) (w : World) (hS0_0 : Sl eTly w Z A0_0 c0_0 p0.ts) (hS1_0 : Sl (eSl (eInt .i64)) w Z A1_0 c1_0 p1) (r_ : Int × Int) (hG : G_Next K_ k_ p0 p1 p2 = some r_),
 Ret Try.prog 33 #[.agg #[I p0.rows, I p0.wd, I p0.lo, I p0.hi, .slice A0_0 p0.ts.length c0_0], .slice A1_0 p1.length c1_0, I p2] w (fun v w' => Ext w w' ∧ (vT2 (vInt .i64) (vInt .i64)).R w' (ZZ Z w.heap.size []) v r_) := by
 intro k_
 induction k_ with
 | zero =>
  intro p0 p1 p2 A0_0 c0_0 A1_0 c1_0 Z w hS0_0 hS1_0 r_ hG
  exact absurd (show none = some _ from hG) (by simp)
 | succ k_ ih =>
  intro p0 p1 p2 A0_0 c0_0 A1_0 c1_0 Z w hS0_0 hS1_0 r_ hG
  rw [G_Next.eq_2] at hG
  refine ret_of_cc (N := 75) Try.func33 rfl rfl (by simp) ?_
  intro fr0 ha hdf
  have hp_0 := sl_arg (i := 0) (v := .agg #[I p0.rows, I p0.wd, I p0.lo, I p0.hi, .slice A0_0 p0.ts.length c0_0]) ha rfl
  have hp_1 := sl_arg (i := 1) (v := .slice A1_0 p1.length c1_0) ha rfl
  have hp_2 := sl_arg (i := 2) (v := I p2) ha rfl
  clear ha
  have hp0 := Hp.refl w
  have hS0_0_0 := hS0_0.mv (mv_start w)
  have hS1_0_0 := hS1_0.mv (mv_start w)
  refine cc_seq <| cc_region <| we rfl (fun st => x_box (v := .agg #[I p0.rows, I p0.wd, I p0.lo, I p0.hi, .slice A0_0 p0.ts.length c0_0]) (cs := #[I p0.rows, I p0.wd, I p0.lo, I p0.hi, .slice A0_0 p0.ts.length c0_0]) (ee st hp_0) rfl) ?_
  rintro _ w1 ⟨b1, rfl, nb1⟩
  have hp1 : Hp w [some b1] w1 := hp0.new nb1.gr (Nat.le_of_eq nb1.b_eq.symm) (Nat.lt_of_lt_of_eq (Nat.lt_succ_self _) nb1.sz.symm)
  refine wa rfl (v := I 0) rfl <| wa rfl (v := I 0) rfl <| wl_end <| lv_next <| cc_seq <| cc_seq <| cc_region <| wm rfl (v := .slice A1_0 p1.length c1_0) hp_1 <| wm rfl (v := I p2) hp_2 ?_
  have hS1_0_1 : Sl (eSl (eInt .i64)) w1 (ZZ Z w.heap.size [some b1]) A1_0 c1_0 p1 := (hS1_0_0.mv (mv_new nb1.gr (Nat.le_of_eq nb1.b_eq.symm)))
  replace hG := bind_some hG; obtain ⟨r2, hr2, hG⟩ := hG
  refine we rfl (fun st => x_call0 own_26 (ee st rfl) (am2 (ee st rfl) (ee st rfl)) (a26 K_ p1 p2 A1_0 c1_0 ZA _ hS1_0_1.all r2 hr2)) ?_
  rintro _ w3 ⟨hx2, ⟨_, rfl, rfl⟩⟩
  have hp2 : Hp w [some b1] w3 := hp1.ext hx2
  refine we rfl (fun st => x_alloc (cs := #[I 0, I 0]) zero_23 rfl) ?_
  rintro _ w4 ⟨b4, rfl, nb4⟩
  have hp3 : Hp w [some b4, some b1] w4 := hp2.new nb4.gr (Nat.le_of_eq nb4.b_eq.symm) (Nat.lt_of_lt_of_eq (Nat.lt_succ_self _) nb4.sz.symm)
  refine wl_ex0 rfl rfl (fun st => x_store (n := 2) (l := [I r2.1, I r2.2]) (cs' := #[I r2.1, I r2.2]) (ee st rfl) (ee st rfl) sz_23 nb4.bk rfl rfl (show 0 + 2 ≤ 2 by decide) (one_cells rfl) rfl) ?_
  rintro _ w5 sb5
  have hp4 : Hp w [some b4, some b1] w5 := hp3.gr sb5.gr (hp3.ge 0 rfl)
  refine wl_end <| lv_next <| cc_seq <| cc_region <| wd rfl (fun st => x_fieldAddr (ee st rfl) (fz_23_0 _ _)) <| wd rfl (fun st => x_load1 (v := I r2.1) one_3 (ee st rfl) sb5.bk rfl) <| wd rfl (fun st => x_fieldAddr (ee st rfl) (fz_23_1 _ _)) <| wd rfl (fun st => x_load1 (v := I r2.2) one_3 (ee st rfl) sb5.bk rfl) <| wd rfl (fun st => x_eql (ee st rfl) (ee st rfl)) <| wl_end <| lv_next ?_
  rcases bool_cases (r2.1 == r2.2) with hc6 | hc6
  ·replace hG := cond_t hG hc6
   refine cc_cond_t rfl hc6 <| cc_seq <| cc_region <| wa rfl (v := I (-1)) rfl <| wa rfl (v := I 0) rfl <| wl_end <| lv_next <| cc_ret <| lv_then_ret ?_
   obtain rfl := Option.some.inj hG
   refine lv_ret2 rfl rfl rfl ?_
   exact ⟨hp4.fin, _, _, rfl, rfl, rfl⟩
  ·replace hG := cond_f hG hc6
   refine cc_cond_f rfl hc6 <| cc_skip <| lv_next <| cc_seq <| cc_region <| wa rfl (v := I (-1)) rfl <| wa rfl (v := I 100) rfl <| wl_end <| lv_next <| cc_seq <| cc_seq <| cc_region <| wa rfl (v := I 0) rfl <| wl_end <| lv_next <| cc_block ?_
   replace hG := bind_some hG; obtain ⟨z7, hL7, hG⟩ := hG
   refine cc_join (fun e_ fr_ w_ => (e_ = .exit 0 ∧ fr_.tmps.size = 75 ∧ fr_.defers = [] ∧ sl fr_ 9 = I z7.1 ∧ sl fr_ 10 = I z7.2 ∧ Hp w [some b4, some b1] w_)) ?lp7 ?af7
   case lp7 =>
    clear hG
    refine cc_loop (fun (m_ : Nat) (fr_ : Act) (w_ : World) => ∃ s7_9, ∃ s7_10, ∃ s7_11, G_Next_L7 K_ p0 p1 p2 (G_Next K_ k_) m_ s7_9 s7_10 s7_11 = some z7 ∧ fr_.tmps.size = 75 ∧ fr_.defers = [] ∧ sl fr_ 1 = .slice A1_0 p1.length c1_0 ∧ sl fr_ 2 = I p2 ∧ sl fr_ 3 = pt b1 0 ∧ sl fr_ 9 = I s7_9 ∧ sl fr_ 10 = I s7_10 ∧ sl fr_ 11 = I s7_11 ∧ Hp w [some b4, some b1] w_ ∧ Bk w_ b1 26 #[I p0.rows, I p0.wd, I p0.lo, I p0.hi, .slice A0_0 p0.ts.length c0_0] ∧ Sl eTly w_ (ZZ Z w.heap.size [some b4, some b1]) A0_0 c0_0 p0.ts ∧ Sl (eSl (eInt .i64)) w_ (ZZ Z w.heap.size [some b4, some b1]) A1_0 c1_0 p1) K_ ?in7 ?rd7
    case in7 =>
     intro st
     have bk1_4 : Bk w5 b1 26 #[I p0.rows, I p0.wd, I p0.lo, I p0.hi, .slice A0_0 p0.ts.length c0_0] := (((nb1.bk.ext hx2).ext nb4.gr).gr sb5.gr (hp3.ne 1 0 rfl rfl rfl))
     have hS0_0_4 : Sl eTly w5 (ZZ Z w.heap.size [some b4, some b1]) A0_0 c0_0 p0.ts := ((((hS0_0_0.mv (mv_new nb1.gr (Nat.le_of_eq nb1.b_eq.symm))).mv (mv_ext hx2)).mv (mv_new nb4.gr (Nat.le_of_eq nb4.b_eq.symm))).mv (hp3.mv0 sb5.gr 0 rfl))
     have hS1_0_4 : Sl (eSl (eInt .i64)) w5 (ZZ Z w.heap.size [some b4, some b1]) A1_0 c1_0 p1 := (((hS1_0_1.mv (mv_ext hx2)).mv (mv_new nb4.gr (Nat.le_of_eq nb4.b_eq.symm))).mv (hp3.mv0 sb5.gr 0 rfl))
     exact ⟨(-1), (100 : Int), (0 : Int), hL7, (puts_size _ _).trans st.sz, (puts_defers _ _).trans st.df, (sl_puts st 1).trans hp_1, (sl_puts st 2).trans hp_2, (sl_puts st 3).trans rfl, (sl_puts st 9).trans rfl, (sl_puts st 10).trans rfl, (sl_puts st 11).trans rfl, hp4, bk1_4, hS0_0_4, hS1_0_4⟩
    case rd7 =>
     rintro (_ | m_) fr7 w7r ⟨s7_9, s7_10, s7_11, hL7, hsz7, hdf7, hs7_1, hs7_2, hs7_3, hs7_9, hs7_10, hs7_11, hp5, f7_bk1, f7_hS0_0, f7_hS1_0⟩
     ·exact absurd (show none = some _ from hL7) (by simp)
     rw [G_Next_L7.eq_2] at hL7
     have hG := hL7; clear hL7
     refine round_cc (N := 75) hsz7 hdf7 <| cc_seq <| cc_seq <| cc_region <| wm rfl (v := I s7_11) hs7_11 <| wd rfl (fun st => x_fieldAddr (ee st hs7_3) (fz_26_0 _ _)) <| wd rfl (fun st => x_load1 (v := I p0.rows) one_3 (ee st rfl) f7_bk1 rfl) <| wd rfl (fun st => x_lss (ee st rfl) (ee st rfl)) <| wl_end <| lv_next ?_
     rcases bool_cases (decide (s7_11 < p0.rows)) with hc8 | hc8
     ·replace hG := cond_t hG hc8
      refine cc_cond_t rfl hc8 <| cc_skip <| lv_next <| cc_seq <| cc_block <| cc_seq <| cc_seq <| cc_region <| wd rfl (fun st => x_loadn (l := [I p0.rows, I p0.wd, I p0.lo, I p0.hi, .slice A0_0 p0.ts.length c0_0]) agg_26 (ee st hs7_3) f7_bk1 rfl rfl) <| wm rfl (v := .slice A1_0 p1.length c1_0) hs7_1 <| wm rfl (v := I s7_11) hs7_11 ?_
      replace hG := bind_some hG; obtain ⟨r9, hr9, hG⟩ := hG
      refine we rfl (fun st => x_call0 own_31 (ee st rfl) (am3 (ee st rfl) (ee st rfl) (ee st rfl)) (a31 K_ p0 p1 s7_11 A0_0 c0_0 A1_0 c1_0 (ZZ Z w.heap.size [some b4, some b1]) _ f7_hS0_0 f7_hS1_0 r9 hr9)) ?_
      rintro _ w10 ⟨hx9, ⟨A9_r, c9_r, rfl, hS9_r⟩⟩
      have hp6 : Hp w [some b4, some b1] w10 := hp5.ext hx9
      have hS9_r := hS9_r.mv (hp5.call (Nat.le_refl _))
      refine wd rfl (fun st => x_len Try.underlying43 (ee st rfl)) <| wd rfl (fun st => x_lss (ee st rfl) (ee st rfl)) <| wl_end <| lv_next ?_
      rcases bool_cases (decide ((r9.length : Int) < 2)) with hc11 | hc11
      ·replace hG := cond_t hG hc11
       refine cc_cond_t rfl hc11 <| cc_exit <| lv_then_exit <| lv_block_hit <| lv_next <| cc_region <| wm rfl (v := I s7_11) hs7_11 ?_
       replace hG := i64_bind hG; obtain ⟨hf12, hG⟩ := hG
       refine wd rfl (fun st => x_add (ee st rfl) (ee st rfl) hf12) <| wa rfl (v := I (s7_11 + 1)) rfl <| wl_end ?_
       have bk1_6 : Bk w10 b1 26 #[I p0.rows, I p0.wd, I p0.lo, I p0.hi, .slice A0_0 p0.ts.length c0_0] := (f7_bk1.ext hx9)
       have hS0_0_6 : Sl eTly w10 (ZZ Z w.heap.size [some b4, some b1]) A0_0 c0_0 p0.ts := (f7_hS0_0.mv (mv_ext hx9))
       have hS1_0_6 : Sl (eSl (eInt .i64)) w10 (ZZ Z w.heap.size [some b4, some b1]) A1_0 c1_0 p1 := (f7_hS1_0.mv (mv_ext hx9))
       refine lv_round m_ (Nat.lt_succ_self _) (fun st => ?_)
       exact ⟨s7_9, s7_10, (s7_11 + 1), hG, (puts_size _ _).trans st.sz, (puts_defers _ _).trans st.df, (sl_puts st 1).trans hs7_1, (sl_puts st 2).trans hs7_2, (sl_puts st 3).trans hs7_3, (sl_puts st 9).trans hs7_9, (sl_puts st 10).trans hs7_10, (sl_puts st 11).trans rfl, hp6, bk1_6, hS0_0_6, hS1_0_6⟩
      ·replace hG := cond_f hG hc11
       refine cc_cond_f rfl hc11 <| cc_skip <| lv_next <| cc_seq <| cc_region <| wa rfl (v := I 0) rfl <| wl_end <| lv_next <| cc_seq <| cc_seq <| cc_region <| wa rfl (v := I (-1)) rfl <| wl_end <| lv_next <| cc_block ?_
       replace hG := bind_some hG; obtain ⟨z13, hL13, hG⟩ := hG
       refine cc_join (fun e_ fr_ w_ => (e_ = .exit 2 ∧ fr_.tmps.size = 75 ∧ fr_.defers = [] ∧ sl fr_ 1 = .slice A1_0 p1.length c1_0 ∧ sl fr_ 2 = I p2 ∧ sl fr_ 3 = pt b1 0 ∧ sl fr_ 9 = I s7_9 ∧ sl fr_ 10 = I s7_10 ∧ sl fr_ 11 = I s7_11 ∧ sl fr_ 12 = I z13 ∧ Hp w [some b4, some b1] w_ ∧ Bk w_ b1 26 #[I p0.rows, I p0.wd, I p0.lo, I p0.hi, .slice A0_0 p0.ts.length c0_0] ∧ Sl eTly w_ (ZZ Z w.heap.size [some b4, some b1]) A0_0 c0_0 p0.ts ∧ Sl (eSl (eInt .i64)) w_ (ZZ Z w.heap.size [some b4, some b1]) A1_0 c1_0 p1)) ?lp13 ?af13
       case lp13 =>
        clear hG
        refine cc_loop (fun (m_ : Nat) (fr_ : Act) (w_ : World) => ∃ s13_12, ∃ s13_13, G_Next_L13 K_ p0 p1 p2 (G_Next K_ k_) s7_10 s7_11 m_ s13_12 s13_13 = some z13 ∧ fr_.tmps.size = 75 ∧ fr_.defers = [] ∧ sl fr_ 1 = .slice A1_0 p1.length c1_0 ∧ sl fr_ 2 = I p2 ∧ sl fr_ 3 = pt b1 0 ∧ sl fr_ 9 = I s7_9 ∧ sl fr_ 10 = I s7_10 ∧ sl fr_ 11 = I s7_11 ∧ sl fr_ 12 = I s13_12 ∧ sl fr_ 13 = I s13_13 ∧ Hp w [some b4, some b1] w_ ∧ Bk w_ b1 26 #[I p0.rows, I p0.wd, I p0.lo, I p0.hi, .slice A0_0 p0.ts.length c0_0] ∧ Sl eTly w_ (ZZ Z w.heap.size [some b4, some b1]) A0_0 c0_0 p0.ts ∧ Sl (eSl (eInt .i64)) w_ (ZZ Z w.heap.size [some b4, some b1]) A1_0 c1_0 p1) K_ ?in13 ?rd13
        case in13 =>
         intro st
         have bk1_6 : Bk w10 b1 26 #[I p0.rows, I p0.wd, I p0.lo, I p0.hi, .slice A0_0 p0.ts.length c0_0] := (f7_bk1.ext hx9)
         have hS0_0_6 : Sl eTly w10 (ZZ Z w.heap.size [some b4, some b1]) A0_0 c0_0 p0.ts := (f7_hS0_0.mv (mv_ext hx9))
         have hS1_0_6 : Sl (eSl (eInt .i64)) w10 (ZZ Z w.heap.size [some b4, some b1]) A1_0 c1_0 p1 := (f7_hS1_0.mv (mv_ext hx9))
         exact ⟨(0 : Int), (-1), hL13, (puts_size _ _).trans st.sz, (puts_defers _ _).trans st.df, (sl_puts st 1).trans hs7_1, (sl_puts st 2).trans hs7_2, (sl_puts st 3).trans hs7_3, (sl_puts st 9).trans hs7_9, (sl_puts st 10).trans hs7_10, (sl_puts st 11).trans hs7_11, (sl_puts st 12).trans rfl, (sl_puts st 13).trans rfl, hp6, bk1_6, hS0_0_6, hS1_0_6⟩
        case rd13 =>
         rintro (_ | m_) fr13 w13r ⟨s13_12, s13_13, hL13, hsz13, hdf13, hs13_1, hs13_2, hs13_3, hs13_9, hs13_10, hs13_11, hs13_12, hs13_13, hp7, f13_bk1, f13_hS0_0, f13_hS1_0⟩
         ·exact absurd (show none = some _ from hL13) (by simp)
         rw [G_Next_L13.eq_2] at hL13
         have hG := hL13; clear hL13
         refine round_cc (N := 75) hsz13 hdf13 <| cc_seq <| cc_seq <| cc_region <| wm rfl (v := I s13_13) hs13_13 <| wd rfl (fun st => x_fieldAddr (ee st hs13_3) (fz_26_1 _ _)) <| wd rfl (fun st => x_load1 (v := I p0.wd) one_3 (ee st rfl) f13_bk1 rfl) <| wd rfl (fun st => x_lss (ee st rfl) (ee st rfl)) <| wm rfl (v := .bool (decide (s13_13 < p0.wd))) rfl ?_
         rcases bool_cases (decide (s13_13 < p0.wd)) with hc14 | hc14
         ·replace hG := cond_t hG hc14
          refine wl_detg rfl rfl (guard_eq rfl hc14) rfl (by decide) (fun st => x_move (v := I s13_12) (ee st hs13_12)) ?_
          replace hG := i64_bind hG; obtain ⟨hf15, hG⟩ := hG
          refine wl_detg rfl rfl (guard_eq rfl hc14) rfl (by decide) (fun st => x_add (ee st rfl) (ee st rfl) hf15) <| wl_detg rfl rfl (guard_eq rfl hc14) rfl (by decide) (fun st => x_move (v := I s7_10) (ee st hs13_10)) <| wl_detg rfl rfl (guard_eq rfl hc14) rfl (by decide) (fun st => x_lss (ee st rfl) (ee st rfl)) <| wd rfl (fun st => x_pick_t (v := .bool (decide ((s13_12 + 1) < s7_10))) (ee st rfl) hc14 (ee st rfl)) <| wl_end <| lv_next ?_
          rcases bool_cases (decide ((s13_12 + 1) < s7_10)) with hc16 | hc16
          ·replace hG := cond_t hG hc16
           refine cc_cond_t rfl hc16 <| cc_skip <| lv_next <| cc_seq <| cc_block <| cc_seq <| cc_region <| wm rfl (v := .slice A1_0 p1.length c1_0) hs13_1 <| wm rfl (v := I s7_11) hs13_11 <| wm rfl (v := I s13_13) hs13_13 ?_
           replace hG := bind_some hG; obtain ⟨r17, hr17, hG⟩ := hG
           refine we rfl (fun st => x_call0 own_79 (ee st rfl) (am3 (ee st rfl) (ee st rfl) (ee st rfl)) (a79 K_ p1 s7_11 s13_13 A1_0 c1_0 (ZZ Z w.heap.size [some b4, some b1]) _ f13_hS1_0 r17 hr17)) ?_
           rintro _ w18 ⟨hx17, ⟨A17_r, c17_r, rfl, hS17_r⟩⟩
           have hp8 : Hp w [some b4, some b1] w18 := hp7.ext hx17
           have hS17_r := hS17_r.mv (hp7.call (Nat.le_refl _))
           refine wa rfl (v := .slice A17_r r17.length c17_r) rfl <| wl_end <| lv_next <| cc_seq <| cc_region <| wm rfl (v := .slice A17_r r17.length c17_r) rfl <| wd rfl (fun st => x_len Try.underlying38 (ee st rfl)) <| wd rfl (fun st => x_gtr (ee st rfl) (ee st rfl)) <| wl_end <| lv_next ?_
           rcases bool_cases (decide (0 < (r17.length : Int))) with hc19 | hc19
           ·replace hG := cond_t hG hc19
            refine cc_cond_t rfl hc19 <| cc_seq <| cc_region ?_
            have bk1_8 : Bk w18 b1 26 #[I p0.rows, I p0.wd, I p0.lo, I p0.hi, .slice A0_0 p0.ts.length c0_0] := (f13_bk1.ext hx17)
            refine wd rfl (fun st => x_loadn (l := [I p0.rows, I p0.wd, I p0.lo, I p0.hi, .slice A0_0 p0.ts.length c0_0]) agg_26 (ee st hs13_3) bk1_8 rfl rfl) <| wm rfl (v := .slice A17_r r17.length c17_r) rfl <| wm rfl (v := I p2) hs13_2 ?_
            have hS0_0_8 : Sl eTly w18 (ZZ Z w.heap.size [some b4, some b1]) A0_0 c0_0 p0.ts := (f13_hS0_0.mv (mv_ext hx17))
            replace hG := bind_some hG; obtain ⟨r20, hr20, hG⟩ := hG
            refine we rfl (fun st => x_call0 own_33 (ee st rfl) (am3 (ee st rfl) (ee st rfl) (ee st rfl)) (ih p0 r17 p2 A0_0 c0_0 A17_r c17_r ZA _ hS0_0_8.all hS17_r.all r20 hr20)) ?_
            rintro _ w21 ⟨hx20, _, _, rfl, rfl, rfl⟩
            have hp9 : Hp w [some b4, some b1] w21 := hp8.ext hx20
            refine wm rfl (v := .tuple #[I r20.1, I r20.2]) rfl <| wd rfl (fun st => x_extract (v := I r20.1) (ee st rfl) rfl) <| wd rfl (fun st => x_extract (v := I r20.2) (ee st rfl) rfl) <| wa rfl (v := I r20.1) rfl <| wa rfl (v := I r20.2) rfl <| wl_end <| lv_next <| cc_region <| wm rfl (v := I s13_12) hs13_12 <| wm rfl (v := I r20.2) rfl <| wd rfl (fun st => x_max (ee st rfl) (ee st rfl)) <| wa rfl (v := I (max s13_12 r20.2)) rfl <| wl_end <| lv_block <| lv_next <| cc_region <| wm rfl (v := I s13_13) hs13_13 ?_
            replace hG := i64_bind hG; obtain ⟨hf22, hG⟩ := hG
            refine wd rfl (fun st => x_add (ee st rfl) (ee st rfl) hf22) <| wa rfl (v := I (s13_13 + 1)) rfl <| wl_end ?_
            have bk1_9 : Bk w21 b1 26 #[I p0.rows, I p0.wd, I p0.lo, I p0.hi, .slice A0_0 p0.ts.length c0_0] := (bk1_8.ext hx20)
            have hS0_0_9 : Sl eTly w21 (ZZ Z w.heap.size [some b4, some b1]) A0_0 c0_0 p0.ts := (hS0_0_8.mv (mv_ext hx20))
            have hS1_0_9 : Sl (eSl (eInt .i64)) w21 (ZZ Z w.heap.size [some b4, some b1]) A1_0 c1_0 p1 := ((f13_hS1_0.mv (mv_ext hx17)).mv (mv_ext hx20))
            refine lv_round m_ (Nat.lt_succ_self _) (fun st => ?_)
            exact ⟨(max s13_12 r20.2), (s13_13 + 1), hG, (puts_size _ _).trans st.sz, (puts_defers _ _).trans st.df, (sl_puts st 1).trans hs13_1, (sl_puts st 2).trans hs13_2, (sl_puts st 3).trans hs13_3, (sl_puts st 9).trans hs13_9, (sl_puts st 10).trans hs13_10, (sl_puts st 11).trans hs13_11, (sl_puts st 12).trans rfl, (sl_puts st 13).trans rfl, hp9, bk1_9, hS0_0_9, hS1_0_9⟩
           ·replace hG := cond_f hG hc19
            refine cc_cond_f rfl hc19 <| cc_skip <| lv_block <| lv_next <| cc_region <| wm rfl (v := I s13_13) hs13_13 ?_
            replace hG := i64_bind hG; obtain ⟨hf23, hG⟩ := hG
            refine wd rfl (fun st => x_add (ee st rfl) (ee st rfl) hf23) <| wa rfl (v := I (s13_13 + 1)) rfl <| wl_end ?_
            have bk1_8 : Bk w18 b1 26 #[I p0.rows, I p0.wd, I p0.lo, I p0.hi, .slice A0_0 p0.ts.length c0_0] := (f13_bk1.ext hx17)
            have hS0_0_8 : Sl eTly w18 (ZZ Z w.heap.size [some b4, some b1]) A0_0 c0_0 p0.ts := (f13_hS0_0.mv (mv_ext hx17))
            have hS1_0_8 : Sl (eSl (eInt .i64)) w18 (ZZ Z w.heap.size [some b4, some b1]) A1_0 c1_0 p1 := (f13_hS1_0.mv (mv_ext hx17))
            refine lv_round m_ (Nat.lt_succ_self _) (fun st => ?_)
            exact ⟨s13_12, (s13_13 + 1), hG, (puts_size _ _).trans st.sz, (puts_defers _ _).trans st.df, (sl_puts st 1).trans hs13_1, (sl_puts st 2).trans hs13_2, (sl_puts st 3).trans hs13_3, (sl_puts st 9).trans hs13_9, (sl_puts st 10).trans hs13_10, (sl_puts st 11).trans hs13_11, (sl_puts st 12).trans hs13_12, (sl_puts st 13).trans rfl, hp8, bk1_8, hS0_0_8, hS1_0_8⟩
          ·replace hG := cond_f hG hc16
           refine cc_cond_f rfl hc16 <| cc_exit <| lv_then_exit <| lv_then_exit ?_
           obtain rfl := Option.some.inj hG
           refine lv_to (fun st => ?_)
           exact ⟨rfl, (puts_size _ _).trans st.sz, (puts_defers _ _).trans st.df, (sl_puts st 1).trans hs13_1, (sl_puts st 2).trans hs13_2, (sl_puts st 3).trans hs13_3, (sl_puts st 9).trans hs13_9, (sl_puts st 10).trans hs13_10, (sl_puts st 11).trans hs13_11, (sl_puts st 12).trans hs13_12, hp7, f13_bk1, f13_hS0_0, f13_hS1_0⟩
         ·replace hG := cond_f hG hc14
          refine wl_skip (c := false) rfl rfl (guard_eq rfl hc14) (by decide) rfl (by decide) <| wl_skip (c := false) rfl rfl (guard_eq rfl hc14) (by decide) rfl (by decide) <| wl_skip (c := false) rfl rfl (guard_eq rfl hc14) (by decide) rfl (by decide) <| wl_skip (c := false) rfl rfl (guard_eq rfl hc14) (by decide) rfl (by decide) <| wd rfl (fun st => x_pick_f (v := .bool false) (ee st rfl) hc14 (ee st rfl)) <| wl_end <| lv_next <| cc_cond_f rfl rfl <| cc_exit <| lv_then_exit <| lv_then_exit ?_
          obtain rfl := Option.some.inj hG
          refine lv_to (fun st => ?_)
          exact ⟨rfl, (puts_size _ _).trans st.sz, (puts_defers _ _).trans st.df, (sl_puts st 1).trans hs13_1, (sl_puts st 2).trans hs13_2, (sl_puts st 3).trans hs13_3, (sl_puts st 9).trans hs13_9, (sl_puts st 10).trans hs13_10, (sl_puts st 11).trans hs13_11, (sl_puts st 12).trans hs13_12, hp7, f13_bk1, f13_hS0_0, f13_hS1_0⟩
       case af13 =>
        rintro e_ fr13a w13a (⟨rfl, hsz13a, hdf13a, hs13a_1, hs13a_2, hs13a_3, hs13a_9, hs13a_10, hs13a_11, hs13a_12, hp13a, g13_bk1, g13_hS0_0, g13_hS1_0⟩)
        refine lv_fr (X := X0) (N := 75) hsz13a hdf13a <| lv_block_hit <| lv_next <| cc_seq <| cc_region <| wm rfl (v := I z13) hs13a_12 ?_
        replace hG := i64_bind hG; obtain ⟨hf24, hG⟩ := hG
        refine wd rfl (fun st => x_add (ee st rfl) (ee st rfl) hf24) <| wm rfl (v := I s7_10) hs13a_10 <| wd rfl (fun st => x_lss (ee st rfl) (ee st rfl)) <| wl_end <| lv_next ?_
        rcases bool_cases (decide ((z13 + 1) < s7_10)) with hc25 | hc25
        ·replace hG := cond_t hG hc25
         refine cc_cond_t rfl hc25 <| cc_region <| wm rfl (v := I s7_11) hs13a_11 <| wm rfl (v := I z13) hs13a_12 ?_
         replace hG := i64_bind hG; obtain ⟨hf26, hG⟩ := hG
         refine wd rfl (fun st => x_add (ee st rfl) (ee st rfl) hf26) <| wa rfl (v := I s7_11) rfl <| wa rfl (v := I (z13 + 1)) rfl <| wl_end <| lv_block <| lv_next <| cc_region <| wm rfl (v := I s7_11) hs13a_11 ?_
         replace hG := i64_bind hG; obtain ⟨hf27, hG⟩ := hG
         refine wd rfl (fun st => x_add (ee st rfl) (ee st rfl) hf27) <| wa rfl (v := I (s7_11 + 1)) rfl <| wl_end ?_
         refine lv_round m_ (Nat.lt_succ_self _) (fun st => ?_)
         exact ⟨s7_11, (z13 + 1), (s7_11 + 1), hG, (puts_size _ _).trans st.sz, (puts_defers _ _).trans st.df, (sl_puts st 1).trans hs13a_1, (sl_puts st 2).trans hs13a_2, (sl_puts st 3).trans hs13a_3, (sl_puts st 9).trans rfl, (sl_puts st 10).trans rfl, (sl_puts st 11).trans rfl, hp13a, g13_bk1, g13_hS0_0, g13_hS1_0⟩
        ·replace hG := cond_f hG hc25
         refine cc_cond_f rfl hc25 <| cc_skip <| lv_block <| lv_next <| cc_region <| wm rfl (v := I s7_11) hs13a_11 ?_
         replace hG := i64_bind hG; obtain ⟨hf28, hG⟩ := hG
         refine wd rfl (fun st => x_add (ee st rfl) (ee st rfl) hf28) <| wa rfl (v := I (s7_11 + 1)) rfl <| wl_end ?_
         refine lv_round m_ (Nat.lt_succ_self _) (fun st => ?_)
         exact ⟨s7_9, s7_10, (s7_11 + 1), hG, (puts_size _ _).trans st.sz, (puts_defers _ _).trans st.df, (sl_puts st 1).trans hs13a_1, (sl_puts st 2).trans hs13a_2, (sl_puts st 3).trans hs13a_3, (sl_puts st 9).trans hs13a_9, (sl_puts st 10).trans hs13a_10, (sl_puts st 11).trans rfl, hp13a, g13_bk1, g13_hS0_0, g13_hS1_0⟩
     ·replace hG := cond_f hG hc8
      refine cc_cond_f rfl hc8 <| cc_exit <| lv_then_exit <| lv_then_exit ?_
      obtain rfl := Option.some.inj hG
      refine lv_to (fun st => ?_)
      exact ⟨rfl, (puts_size _ _).trans st.sz, (puts_defers _ _).trans st.df, (sl_puts st 9).trans hs7_9, (sl_puts st 10).trans hs7_10, hp5⟩
   case af7 =>
    rintro e_ fr7a w7a (⟨rfl, hsz7a, hdf7a, hs7a_9, hs7a_10, hp7a⟩)
    refine lv_fr (X := X0) (N := 75) hsz7a hdf7a <| lv_block_hit <| lv_next <| cc_seq <| cc_region <| wm rfl (v := I z7.1) hs7a_9 <| wm rfl (v := I z7.2) hs7a_10 <| wa rfl (v := I z7.1) rfl <| wa rfl (v := I z7.2) rfl <| wl_end <| lv_next <| cc_ret ?_
    obtain rfl := Option.some.inj hG
    refine lv_ret2 rfl rfl rfl ?_
    exact ⟨hp7a.fin, _, _, rfl, rfl, rfl⟩
end Go.Proofs.Ythogdgkafaclaaa
end
section
set_option linter.unusedVariables false
set_option linter.unusedSimpArgs false
namespace Go.Proofs.Ythogdgkafaclaaa
open Go.RowKit
open AF
attribute [local irreducible] Ex1 WL CC CW LV Ret ObOp Agg One Own
theorem a61 (K_ : Nat) (p0 : List Tly) (A0_0 : Option Addr) (c0_0 : Nat) (Z : Nat → Prop) (w : World) (hS0_0 : Sl eTly w Z A0_0 c0_0 p0) (r_ : Fld) (hG : G_four K_ p0 = some r_) :
    Ret Try.prog 61 #[.slice A0_0 p0.length c0_0] w (fun v w' => Ext w w' ∧ (vAgg eFld).R w' (ZZ Z w.heap.size []) v r_) := by
 unfold G_four at hG
 refine ret_of_cc (N := 11) Try.func61 rfl rfl (by simp) ?_
 intro fr0 ha hdf
 have hp_0 := sl_arg (i := 0) (v := .slice A0_0 p0.length c0_0) ha rfl
 clear ha
 have hp0 := Hp.refl w
 have hS0_0_0 := hS0_0.mv (mv_start w)
 refine cc_seq <| cc_region <| we rfl (fun st => x_alloc (cs := #[I 0, I 0, I 0, I 0, .slice none 0 0]) zero_36 rfl) ?_
 rintro _ w1 ⟨b1, rfl, nb1⟩
 have hp1 : Hp w [some b1] w1 := hp0.new nb1.gr (Nat.le_of_eq nb1.b_eq.symm) (Nat.lt_of_lt_of_eq (Nat.lt_succ_self _) nb1.sz.symm)
 refine wl_end <| lv_next <| cc_seq <| cc_region ?_
 replace hG := bind_some hG; obtain ⟨r2, hr2, hG⟩ := hG
 refine we rfl (fun st => x_call0 own_50 (ee st rfl) (am2 (ee st rfl) (ee st rfl)) (a50 K_ 2 3 ZA _ r2 hr2)) ?_
 rintro _ w3 ⟨hx2, ⟨_, rfl, rfl⟩⟩
 have hp2 : Hp w [some b1] w3 := hp1.ext hx2
 refine wd rfl (fun st => x_build (vs := #[(0, I 0), (1, I 0), (2, I 2), (3, .agg #[I r2.1, I r2.2])]) (v := .agg #[I 0, I 0, I 2, I r2.1, I r2.2]) (pm4 (ee st rfl) (ee st rfl) (ee st rfl) (ee st rfl)) (by kernel_rfl)) ?_
 replace hG := bind_some hG; obtain ⟨r5, hr5, hG⟩ := hG
 refine we rfl (fun st => x_call0 own_50 (ee st rfl) (am2 (ee st rfl) (ee st rfl)) (a50 K_ 1 2 ZA _ r5 hr5)) ?_
 rintro _ w6 ⟨hx5, ⟨_, rfl, rfl⟩⟩
 have hp3 : Hp w [some b1] w6 := hp2.ext hx5
 refine wd rfl (fun st => x_build (vs := #[(0, I 1), (1, I 2), (2, I 3), (3, .agg #[I r5.1, I r5.2])]) (v := .agg #[I 1, I 2, I 3, I r5.1, I r5.2]) (pm4 (ee st rfl) (ee st rfl) (ee st rfl) (ee st rfl)) (by kernel_rfl)) <| we rfl (fun st => x_buildSlice (e := 95) (vs := #[(0, .agg #[I 0, I 0, I 2, I r2.1, I r2.2]), (1, .agg #[I 1, I 2, I 3, I r5.1, I r5.2])]) (cs := #[I 0, I 0, I 2, I r2.1, I r2.2, I 1, I 2, I 3, I r5.1, I r5.2]) (pm2 (ee st rfl) (ee st rfl)) (by kernel_rfl)) ?_
 rintro _ w8 ⟨b8, rfl, nb8⟩
 have hp4 : Hp w [some b8, some b1] w8 := hp3.new nb8.gr (Nat.le_of_eq nb8.b_eq.symm) (Nat.lt_of_lt_of_eq (Nat.lt_succ_self _) nb8.sz.symm)
 refine wm rfl (v := .slice A0_0 p0.length c0_0) hp_0 ?_
 have hR9 : OwnR eTly 95 w w8 (ZZ Z w.heap.size [some b8, some b1]) (some ⟨b8, 0, none⟩) 2 [(⟨0, 0, 2, r2.1, r2.2⟩ : Tly), (⟨1, 2, 3, r5.1, r5.2⟩ : Tly)] := row_bk (css := [[I 0, I 0, I 2, I r2.1, I r2.2], [I 1, I 2, I 3, I r5.1, I r5.2]]) nb8.bk (hp4.ge 0 rfl _ rfl) ⟨rfl, rfl, trivial⟩ rfl (by simp [maxLen])
 replace hG := ifo_bind hG; obtain ⟨hf10, hG⟩ := hG
 have hS0_0_4 : Sl eTly w8 (ZZ Z w.heap.size [some b8, some b1]) A0_0 c0_0 p0 := ((((hS0_0_0.mv (mv_new nb1.gr (Nat.le_of_eq nb1.b_eq.symm))).mv (mv_ext hx2)).mv (mv_ext hx5)).mv (mv_new nb8.gr (Nat.le_of_eq nb8.b_eq.symm)))
 refine we rfl (fun st => x_appS (ys := p0) Try.underlying34 info_95 rfl rfl (by decide) (ee st rfl) rfl (ee st rfl) hR9 hS0_0_4 (by have := hf10; simp only [maxLen]; omega) (by have := hf10; omega) hp4.bl.size) ?_
 rintro _ w11 ⟨A11, c11, rfl, hg11, hy11, hO11⟩
 have hp5 : Hp w [ob A11, some b1] w11 := hp4.row hg11 0 rfl (hp4.ge 0 rfl) hy11
 have hR11 : OwnR eTly 95 w w11 (ZZ Z w.heap.size [ob A11, some b1]) A11 c11 ([(⟨0, 0, 2, r2.1, r2.2⟩ : Tly), (⟨1, 2, 3, r5.1, r5.2⟩ : Tly)] ++ p0) := ownR_of hO11 (hp4.mvr hg11 0 rfl (fun k hk => (hy11 k hk).1))
 refine wd rfl (fun st => x_build (vs := #[(0, I 4), (1, I 2), (3, .slice A11 (([(⟨0, 0, 2, r2.1, r2.2⟩ : Tly), (⟨1, 2, 3, r5.1, r5.2⟩ : Tly)] ++ p0).length) c11)]) (v := .agg #[I 4, I 2, I 0, I 0, .slice A11 (([(⟨0, 0, 2, r2.1, r2.2⟩ : Tly), (⟨1, 2, 3, r5.1, r5.2⟩ : Tly)] ++ p0).length) c11]) (pm3 (ee st rfl) (ee st rfl) (ee st rfl)) (by kernel_rfl)) ?_
 have bk1_5 : Bk w11 b1 36 #[I 0, I 0, I 0, I 0, .slice none 0 0] := ((((nb1.bk.ext hx2).ext hx5).ext nb8.gr).gr hg11 (hp4.ne 1 0 rfl rfl rfl))
 refine wl_ex0 rfl rfl (fun st => x_store (n := 5) (l := [I 4, I 2, I 0, I 0, .slice A11 (([(⟨0, 0, 2, r2.1, r2.2⟩ : Tly), (⟨1, 2, 3, r5.1, r5.2⟩ : Tly)] ++ p0).length) c11]) (cs' := #[I 4, I 2, I 0, I 0, .slice A11 (([(⟨0, 0, 2, r2.1, r2.2⟩ : Tly), (⟨1, 2, 3, r5.1, r5.2⟩ : Tly)] ++ p0).length) c11]) (ee st rfl) (ee st rfl) sz_36 bk1_5 rfl rfl (show 0 + 5 ≤ 5 by decide) (one_cells rfl) rfl) ?_
 rintro _ w13 sb13
 have hp6 : Hp w [ob A11, some b1] w13 := hp5.gr sb13.gr (hp5.ge 1 rfl)
 refine wl_end <| lv_next <| cc_ret ?_
 obtain rfl := Option.some.inj hG
 refine lv_retc (v := .agg #[I 4, I 2, I 0, I 0, .slice A11 (([(⟨0, 0, 2, r2.1, r2.2⟩ : Tly), (⟨1, 2, 3, r5.1, r5.2⟩ : Tly)] ++ p0).length) c11]) rfl rfl (run_loadn_bk agg_36 sb13.bk rfl rfl) ?_
 have hR11_6 : OwnR eTly 95 w w13 (ZZ Z w.heap.size [ob A11, some b1]) A11 c11 ([(⟨0, 0, 2, r2.1, r2.2⟩ : Tly), (⟨1, 2, 3, r5.1, r5.2⟩ : Tly)] ++ p0) := (hR11.gr sb13.gr (fun k hk => hp5.ne 0 1 rfl (congrArg some hk) rfl) (hp5.mv0 sb13.gr 1 rfl))
 exact ⟨hp6.fin, ⟨_, rfl, _, _, rfl, hR11_6.fin⟩⟩
theorem a62 (K_ : Nat) (Z : Nat → Prop) (w : World) (r_ : Tly) (hG : G_two K_ = some r_) :
    Ret Try.prog 62 #[] w (fun v w' => Ext w w' ∧ (vAgg eTly).R w' (ZZ Z w.heap.size []) v r_) := by
 unfold G_two at hG
 refine ret_of_cc (N := 3) Try.func62 rfl rfl (by simp) ?_
 intro fr0 ha hdf
 clear ha
 have hp0 := Hp.refl w
 refine cc_seq <| cc_region <| we rfl (fun st => x_alloc (cs := #[I 0, I 0, I 0, I 0, I 0]) zero_95 rfl) ?_
 rintro _ w1 ⟨b1, rfl, nb1⟩
 have hp1 : Hp w [some b1] w1 := hp0.new nb1.gr (Nat.le_of_eq nb1.b_eq.symm) (Nat.lt_of_lt_of_eq (Nat.lt_succ_self _) nb1.sz.symm)
 refine wl_end <| lv_next <| cc_seq <| cc_region ?_
 replace hG := bind_some hG; obtain ⟨r2, hr2, hG⟩ := hG
 refine we rfl (fun st => x_call0 own_50 (ee st rfl) (am2 (ee st rfl) (ee st rfl)) (a50 K_ 2 2 ZA _ r2 hr2)) ?_
 rintro _ w3 ⟨hx2, ⟨_, rfl, rfl⟩⟩
 have hp2 : Hp w [some b1] w3 := hp1.ext hx2
 refine wd rfl (fun st => x_build (vs := #[(0, I 0), (1, I 0), (2, I 1), (3, .agg #[I r2.1, I r2.2])]) (v := .agg #[I 0, I 0, I 1, I r2.1, I r2.2]) (pm4 (ee st rfl) (ee st rfl) (ee st rfl) (ee st rfl)) (by kernel_rfl)) ?_
 have bk1_2 : Bk w3 b1 95 #[I 0, I 0, I 0, I 0, I 0] := (nb1.bk.ext hx2)
 refine wl_ex0 rfl rfl (fun st => x_store (n := 5) (l := [I 0, I 0, I 1, I r2.1, I r2.2]) (cs' := #[I 0, I 0, I 1, I r2.1, I r2.2]) (ee st rfl) (ee st rfl) sz_95 bk1_2 rfl rfl (show 0 + 5 ≤ 5 by decide) (one_cells rfl) rfl) ?_
 rintro _ w5 sb5
 have hp3 : Hp w [some b1] w5 := hp2.gr sb5.gr (hp2.ge 0 rfl)
 refine wl_end <| lv_next <| cc_ret ?_
 obtain rfl := Option.some.inj hG
 refine lv_retc (v := .agg #[I 0, I 0, I 1, I r2.1, I r2.2]) rfl rfl (run_loadn_bk agg_95 sb5.bk rfl rfl) ?_
 exact ⟨hp3.fin, ⟨_, rfl, rfl⟩⟩
theorem a63 (K_ : Nat) (Z : Nat → Prop) (w : World) (r_ : Tly) (hG : G_wrong K_ = some r_) :
    Ret Try.prog 63 #[] w (fun v w' => Ext w w' ∧ (vAgg eTly).R w' (ZZ Z w.heap.size []) v r_) := by
 unfold G_wrong at hG
 refine ret_of_cc (N := 3) Try.func63 rfl rfl (by simp) ?_
 intro fr0 ha hdf
 clear ha
 have hp0 := Hp.refl w
 refine cc_seq <| cc_region <| we rfl (fun st => x_alloc (cs := #[I 0, I 0, I 0, I 0, I 0]) zero_95 rfl) ?_
 rintro _ w1 ⟨b1, rfl, nb1⟩
 have hp1 : Hp w [some b1] w1 := hp0.new nb1.gr (Nat.le_of_eq nb1.b_eq.symm) (Nat.lt_of_lt_of_eq (Nat.lt_succ_self _) nb1.sz.symm)
 refine wl_end <| lv_next <| cc_seq <| cc_region ?_
 replace hG := bind_some hG; obtain ⟨r2, hr2, hG⟩ := hG
 refine we rfl (fun st => x_call0 own_50 (ee st rfl) (am2 (ee st rfl) (ee st rfl)) (a50 K_ 2 2 ZA _ r2 hr2)) ?_
 rintro _ w3 ⟨hx2, ⟨_, rfl, rfl⟩⟩
 have hp2 : Hp w [some b1] w3 := hp1.ext hx2
 refine wd rfl (fun st => x_build (vs := #[(0, I 1), (1, I 0), (2, I 1), (3, .agg #[I r2.1, I r2.2])]) (v := .agg #[I 1, I 0, I 1, I r2.1, I r2.2]) (pm4 (ee st rfl) (ee st rfl) (ee st rfl) (ee st rfl)) (by kernel_rfl)) ?_
 have bk1_2 : Bk w3 b1 95 #[I 0, I 0, I 0, I 0, I 0] := (nb1.bk.ext hx2)
 refine wl_ex0 rfl rfl (fun st => x_store (n := 5) (l := [I 1, I 0, I 1, I r2.1, I r2.2]) (cs' := #[I 1, I 0, I 1, I r2.1, I r2.2]) (ee st rfl) (ee st rfl) sz_95 bk1_2 rfl rfl (show 0 + 5 ≤ 5 by decide) (one_cells rfl) rfl) ?_
 rintro _ w5 sb5
 have hp3 : Hp w [some b1] w5 := hp2.gr sb5.gr (hp2.ge 0 rfl)
 refine wl_end <| lv_next <| cc_ret ?_
 obtain rfl := Option.some.inj hG
 refine lv_retc (v := .agg #[I 1, I 0, I 1, I r2.1, I r2.2]) rfl rfl (run_loadn_bk agg_95 sb5.bk rfl rfl) ?_
 exact ⟨hp3.fin, ⟨_, rfl, rfl⟩⟩
end Go.Proofs.Ythogdgkafaclaaa
end
section
namespace Go.Proofs.Ythogdgkafaclaaa
open Go.RowKit
section
variable {α : Type} {e : Enc α} {w w' : World} {Z : Nat → Prop} {A : Option Addr} {c : Nat} {xs : List α}
theorem r2_map (g : α → List Value) (h : ∀ x, e.R w Z (g x) x) : ∀ xs : List α, R2 e w Z (xs.map g) xs
  | [] => trivial
  | x :: xs => ⟨h x, r2_map g h xs⟩
theorem r2_eq {g : α → List Value} (h : ∀ cs x, e.R w Z cs x → cs = g x) : ∀ {css : List (List Value)} {xs : List α}, R2 e w Z css xs → css = xs.map g
  | [], [], _ => rfl
  | c :: cs, x :: xs, hh => by rw [h c x hh.1, r2_eq h hh.2]; rfl
  | [], _ :: _, hh => hh.elim
  | _ :: _, [], hh => hh.elim
theorem sl_rd {g : α → List Value} (h : ∀ cs x, e.R w Z cs x → cs = g x) (hs : Sl e w Z A c xs) : Rd w 0 w.heap.size A (flat g xs) := by
  obtain ⟨_, _, css, h1, h2⟩ := hs
  have := h2.rd
  rw [r2_eq h h1] at this
  simpa [flat, List.flatMap] using this
theorem sl_own {g : α → List Value} {t sz : Nat} (hsz : e.sz = sz) (h : ∀ x, e.R w' (ZZ Z w.heap.size []) (g x) x) (ho : OwnS w' w.heap.size t sz A xs.length c (flat g xs)) : Sl e w' (ZZ Z w.heap.size []) A c xs := by
  subst hsz
  have : OwnR e t w w' (ZZ Z w.heap.size []) A c xs := ⟨xs.map g, r2_map g h xs, by simpa [flat, List.flatMap] using ho⟩
  exact this.sl fun k _ hk => .inr ⟨hk, by simp⟩
end
theorem flat_one : ∀ xs : List Int, flat (fun x : Int => [Value.int .i64 x]) xs = ivs xs
  | [] => rfl
  | x :: xs => by
    have ih := flat_one xs
    unfold flat ivs at *
    rw [List.flatMap_cons, ih]; rfl
theorem sl_int {w : World} {Z : Nat → Prop} {A : Option Addr} {c : Nat} {xs : List Int} (hs : Sl (eInt .i64) w Z A c xs) : Rd w 0 w.heap.size A (ivs xs) := by
  have := sl_rd (g := fun x => [.int .i64 x]) (fun _ _ h => h) hs
  rwa [flat_one] at this
theorem sl_owni {w w' : World} {Z : Nat → Prop} {A : Option Addr} {c : Nat} {xs : List Int} (ho : OwnS w' w.heap.size 3 1 A xs.length c (ivs xs)) : Sl (eInt .i64) w' (ZZ Z w.heap.size []) A c xs := by
  refine sl_own (g := fun x => [.int .i64 x]) rfl (fun _ => rfl) (t := 3) ?_
  rw [flat_one]; exact ho
abbrev fv (f : Fld) (A : Option Addr) (c : Nat) : Value := .agg #[.int .i64 f.rows, .int .i64 f.wd, .int .i64 f.lo, .int .i64 f.hi, .slice A f.ts.length c]
theorem slT {w : World} {Z : Nat → Prop} {A : Option Addr} {c : Nat} {ts : List Tly} (hs : Sl eTly w Z A c ts) : Rd w 0 w.heap.size A (flat encT ts) := sl_rd (g := encT) (fun _ _ h => h) hs
attribute [local irreducible] Ret
section
variable (K_ : Nat) (f : Fld)
theorem a51 (A : Option Addr) (c : Nat) (Z : Nat → Prop) (w : World) (hS : Sl eTly w Z A c f.ts) (r_ : Int) (hG : Q_Check K_ f = some r_) :
    Ret Try.prog 51 #[fv f A c] w (fun v w' => Ext w w' ∧ (vInt .i64).R w' (ZZ Z w.heap.size []) v r_) := by
  obtain rfl := Option.some.inj hG
  exact (c51 f A c w (slT hS)).mono fun v w' h => ⟨h.2, h.1⟩
theorem a22 (A : Option Addr) (c : Nat) (Z : Nat → Prop) (w : World) (hS : Sl eTly w Z A c f.ts) (r_ : List (Int × Int) × Int) (hG : Q_Done K_ f = some r_) :
    Ret Try.prog 22 #[fv f A c] w (fun v w' => Ext w w' ∧ (vT2 (vSl eR) (vInt .i64)).R w' (ZZ Z w.heap.size []) v r_) := by
  obtain rfl := Option.some.inj hG
  refine (c22 f A c w (slT hS)).mono ?_
  rintro v w' ⟨hx, h1, h2⟩
  refine ⟨hx, ?_⟩
  by_cases h0 : askE f true = 0
  · rw [if_pos h0]
    obtain ⟨A2, c2, rfl, hO⟩ := h2 h0
    have hl : (donesTo f (truths f []) f.wd.toNat).length = f.wd.toNat := by simp [donesTo]
    exact ⟨_, _, rfl, ⟨A2, c2, by rw [hl], sl_own (g := encR) (t := 33) rfl (fun _ => rfl) (by rw [hl]; exact hO)⟩, rfl⟩
  · rw [if_neg h0, h1 h0]
    exact ⟨_, _, rfl, ⟨none, 0, rfl, Sl.nil _ _ _⟩, rfl⟩
theorem a27 (row : Int) (A : Option Addr) (c : Nat) (Z : Nat → Prop) (w : World) (hS : Sl eTly w Z A c f.ts) (r_ : List Int × Int) (hG : Q_Who K_ f row = some r_) :
    Ret Try.prog 27 #[fv f A c, .int .i64 row] w (fun v w' => Ext w w' ∧ (vT2 (vSl (eInt .i64)) (vInt .i64)).R w' (ZZ Z w.heap.size []) v r_) := by
  obtain rfl := Option.some.inj hG
  refine (c27 f A c row w (slT hS)).mono ?_
  rintro v w' ⟨hx, h1, h2⟩
  refine ⟨hx, ?_⟩
  by_cases h0 : askE f (inR row 0 (f.rows - 1)) = 0
  · rw [if_pos h0]
    obtain ⟨A2, c2, rfl, hO⟩ := h2 h0
    exact ⟨_, _, rfl, ⟨A2, c2, rfl, sl_owni hO⟩, rfl⟩
  · rw [if_neg h0, h1 h0]
    exact ⟨_, _, rfl, ⟨none, 0, rfl, Sl.nil _ _ _⟩, rfl⟩
theorem a42 (n : Int) (A : Option Addr) (c : Nat) (Z : Nat → Prop) (w : World) (hS : Sl eTly w Z A c f.ts) (r_ : List Int × Int) (hG : Q_Ask K_ f n = some r_) :
    Ret Try.prog 42 #[fv f A c, .int .i64 n] w (fun v w' => Ext w w' ∧ (vT2 (vSl (eInt .i64)) (vInt .i64)).R w' (ZZ Z w.heap.size []) v r_) := by
  obtain rfl := Option.some.inj hG
  refine (c42 f A c n w (slT hS)).mono ?_
  rintro v w' ⟨hx, h1, h2⟩
  refine ⟨hx, ?_⟩
  by_cases h0 : askE f (whoB f n) = 0
  · rw [if_pos h0]
    obtain ⟨A2, c2, rfl, hO⟩ := h2 h0
    exact ⟨_, _, rfl, ⟨A2, c2, rfl, sl_owni hO⟩, rfl⟩
  · rw [if_neg h0, h1 h0]
    exact ⟨_, _, rfl, ⟨none, 0, rfl, Sl.nil _ _ _⟩, rfl⟩
theorem a35 (A : Option Addr) (c : Nat) (Z : Nat → Prop) (w : World) (hS : Sl eTly w Z A c f.ts) (r_ : List Int × Int) (hG : Q_Leave K_ f = some r_) :
    Ret Try.prog 35 #[fv f A c] w (fun v w' => Ext w w' ∧ (vT2 (vSl (eInt .i64)) (vInt .i64)).R w' (ZZ Z w.heap.size []) v r_) := by
  obtain rfl := Option.some.inj hG
  refine (c35 f A c w (slT hS)).mono ?_
  rintro v w' ⟨hx, h1, h2⟩
  refine ⟨hx, ?_⟩
  by_cases h0 : check f = 0
  · rw [if_pos h0]
    obtain ⟨A2, c2, rfl, hO⟩ := h2 h0
    exact ⟨_, _, rfl, ⟨A2, c2, rfl, sl_owni hO⟩, rfl⟩
  · rw [if_neg h0, h1 h0]
    exact ⟨_, _, rfl, ⟨none, 0, rfl, Sl.nil _ _ _⟩, rfl⟩
theorem a32 (n : Int) (A : Option Addr) (c : Nat) (Z : Nat → Prop) (w : World) (hS : Sl eTly w Z A c f.ts) (r_ : Int × Int × Int) (hG : Q_Next K_ f n = some r_) :
    Ret Try.prog 32 #[fv f A c, .int .i64 n] w (fun v w' => Ext w w' ∧ (vT3 (vInt .i64) (vInt .i64) (vInt .i64)).R w' (ZZ Z w.heap.size []) v r_) := by
  obtain rfl := Option.some.inj hG
  refine (c32 f A c n w (slT hS)).mono ?_
  rintro v w' ⟨hx, h1, h2⟩
  refine ⟨hx, ?_⟩
  by_cases h0 : askE f (whoB f n) = 0
  · rw [if_pos h0, h2 h0]
    exact ⟨_, _, _, rfl, rfl, rfl, rfl⟩
  · rw [if_neg h0, h1 h0]
    exact ⟨_, _, _, rfl, rfl, rfl, rfl⟩
theorem a34 (A : Option Addr) (c : Nat) (Z : Nat → Prop) (w : World) (hS : Sl eTly w Z A c f.ts) (r_ : Int × Int) (hG : Q_First K_ f = some r_) :
    Ret Try.prog 34 #[fv f A c] w (fun v w' => Ext w w' ∧ (vT2 (vInt .i64) (vInt .i64)).R w' (ZZ Z w.heap.size []) v r_) := by
  obtain rfl := Option.some.inj hG
  refine (c34 f A c w hS.1 (slT hS)).mono ?_
  rintro v w' ⟨hx, h1, h2⟩
  refine ⟨hx, ?_⟩
  by_cases h0 : check f = 0
  · rw [if_pos h0, h2 h0]
    cases firstF f with
    | none => exact ⟨_, _, rfl, rfl, rfl⟩
    | some i => exact ⟨_, _, rfl, rfl, rfl⟩
  · rw [if_neg h0, h1 h0]
    exact ⟨_, _, rfl, rfl, rfl⟩
theorem a52 (xs : List Int) (A : Option Addr) (c : Nat) (B : Option Addr) (d : Nat) (Z : Nat → Prop) (w : World) (hS : Sl eTly w Z A c f.ts) (hX : Sl (eInt .i64) w Z B d xs) (r_ : Bool) (hG : Q_ProveTruth K_ f xs = some r_) :
    Ret Try.prog 52 #[fv f A c, .slice B xs.length d] w (fun v w' => Ext w w' ∧ vBool.R w' (ZZ Z w.heap.size []) v r_) := by
  replace hG := ifo_bind hG
  obtain ⟨hl, hG⟩ := hG
  obtain rfl := Option.some.inj hG
  exact (c52 f A c xs B d w (by omega) (slT hS) (sl_int hX)).mono fun v w' h => ⟨h.2, h.1⟩
theorem a57 (n : Int) (rows : List Int) (A : Option Addr) (c : Nat) (B : Option Addr) (d : Nat) (Z : Nat → Prop) (w : World) (hS : Sl eTly w Z A c f.ts) (hX : Sl (eInt .i64) w Z B d rows) (r_ : Bool) (hG : Q_ProveAsk K_ f n rows = some r_) :
    Ret Try.prog 57 #[fv f A c, .int .i64 n, .slice B rows.length d] w (fun v w' => Ext w w' ∧ vBool.R w' (ZZ Z w.heap.size []) v r_) := by
  replace hG := ifo_bind hG
  obtain ⟨hl, hG⟩ := hG
  obtain rfl := Option.some.inj hG
  exact (c57 f A c n rows B d w (by omega) (slT hS) (sl_int hX)).mono fun v w' h => ⟨h.2, h.1⟩
end
end Go.Proofs.Ythogdgkafaclaaa
end
section
set_option linter.unusedVariables false
set_option linter.unusedSimpArgs false
namespace Go.Proofs.Ythogdgkafaclaaa
open Go.RowKit
open AF
theorem mixedA10 : Try.prog.follows .mixedOrders = true := by kernel_rfl
attribute [local irreducible] Ex1 WL CC CW LV Ret ObOp Agg One Own
theorem a21 (K_ : Nat) (Z : Nat → Prop) (w : World) (hG : G_awake K_ = some true) :
    Ret Try.prog 21 #[] w (fun v w' => Ext w w' ∧ v = .bool true) := by
 unfold G_awake at hG
 refine ret_of_cc (N := 119) Try.func21 rfl rfl (by simp) ?_
 intro fr0 ha hdf
 clear ha
 have hp0 := Hp.refl w
 refine cc_seq <| cc_region <| wa rfl (v := .bool false) rfl <| wl_end <| lv_next <| cc_seq <| cc_region ?_
 replace hG := bind_some hG; obtain ⟨r1, hr1, hG⟩ := hG
 refine we rfl (fun st => x_call0 own_61 (ee st rfl) (am1 (ee st rfl)) (a61 K_ ([] : List Tly) none 0 (ZZ Z w.heap.size []) _ (Sl.nil eTly _ _) r1 hr1)) ?_
 rintro _ w2 ⟨hx1, ⟨_, rfl, ⟨A1_r0, c1_r0, rfl, hS1_r0⟩⟩⟩
 have hp1 : Hp w [] w2 := hp0.ext hx1
 have hS1_r0 := hS1_r0.mv (hp0.call (Nat.le_refl _))
 replace hG := bind_some hG; obtain ⟨r3, hr3, hG⟩ := hG
 refine we rfl (fun st => x_call0 own_22 (ee st rfl) (am1 (ee st rfl)) (a22 K_ r1 A1_r0 c1_r0 (ZZ Z w.heap.size []) _ hS1_r0 r3 hr3)) ?_
 rintro _ w4 ⟨hx3, _, _, rfl, ⟨A3_ra, c3_ra, rfl, hS3_ra⟩, rfl⟩
 have hp2 : Hp w [] w4 := hp1.ext hx3
 have hS3_ra := hS3_ra.mv (hp1.call (Nat.le_refl _))
 refine wm rfl (v := .tuple #[.slice A3_ra r3.1.length c3_ra, I r3.2]) rfl <| wd rfl (fun st => x_extract (v := .slice A3_ra r3.1.length c3_ra) (ee st rfl) rfl) <| wd rfl (fun st => x_extract (v := I r3.2) (ee st rfl) rfl) <| wa rfl (v := .slice A3_ra r3.1.length c3_ra) rfl <| wa rfl (v := I r3.2) rfl <| wl_end <| lv_next <| cc_seq <| cc_region ?_
 replace hG := bind_some hG; obtain ⟨r5, hr5, hG⟩ := hG
 refine we rfl (fun st => x_call0 own_61 (ee st rfl) (am1 (ee st rfl)) (a61 K_ ([] : List Tly) none 0 (ZZ Z w.heap.size []) _ (Sl.nil eTly _ _) r5 hr5)) ?_
 rintro _ w6 ⟨hx5, ⟨_, rfl, ⟨A5_r0, c5_r0, rfl, hS5_r0⟩⟩⟩
 have hp3 : Hp w [] w6 := hp2.ext hx5
 have hS5_r0 := hS5_r0.mv (hp2.call (Nat.le_refl _))
 replace hG := bind_some hG; obtain ⟨r7, hr7, hG⟩ := hG
 refine we rfl (fun st => x_call0 own_27 (ee st rfl) (am2 (ee st rfl) (ee st rfl)) (a27 K_ r5 3 A5_r0 c5_r0 (ZZ Z w.heap.size []) _ hS5_r0 r7 hr7)) ?_
 rintro _ w8 ⟨hx7, _, _, rfl, ⟨A7_ra, c7_ra, rfl, hS7_ra⟩, rfl⟩
 have hp4 : Hp w [] w8 := hp3.ext hx7
 have hS7_ra := hS7_ra.mv (hp3.call (Nat.le_refl _))
 refine wm rfl (v := .tuple #[.slice A7_ra r7.1.length c7_ra, I r7.2]) rfl <| wd rfl (fun st => x_extract (v := .slice A7_ra r7.1.length c7_ra) (ee st rfl) rfl) <| wd rfl (fun st => x_extract (v := I r7.2) (ee st rfl) rfl) <| wa rfl (v := .slice A7_ra r7.1.length c7_ra) rfl <| wa rfl (v := I r7.2) rfl <| wl_end <| lv_next <| cc_seq <| cc_region ?_
 replace hG := bind_some hG; obtain ⟨r9, hr9, hG⟩ := hG
 refine we rfl (fun st => x_call0 own_62 (ee st rfl) am0 (a62 K_ ZA _ r9 hr9)) ?_
 rintro _ w10 ⟨hx9, ⟨_, rfl, rfl⟩⟩
 have hp5 : Hp w [] w10 := hp4.ext hx9
 refine we rfl (fun st => x_buildSlice (e := 95) (vs := #[(0, .agg #[I r9.who, I r9.fr, I r9.to, I r9.lo, I r9.hi])]) (cs := #[I r9.who, I r9.fr, I r9.to, I r9.lo, I r9.hi]) (pm1 (ee st rfl)) (by kernel_rfl)) ?_
 rintro _ w11 ⟨b11, rfl, nb11⟩
 have hp6 : Hp w [some b11] w11 := hp5.new nb11.gr (Nat.le_of_eq nb11.b_eq.symm) (Nat.lt_of_lt_of_eq (Nat.lt_succ_self _) nb11.sz.symm)
 have hp7 : Hp w [] w11 := hp6.erase 0
 have bk11_7 : Bk w11 b11 95 #[I r9.who, I r9.fr, I r9.to, I r9.lo, I r9.hi] := nb11.bk
 have bk11_z : Sl eTly w11 (ZZ Z w.heap.size []) (some ⟨b11, 0, none⟩) 1 [r9] := sl_bk (xs := [r9]) (css := [[I r9.who, I r9.fr, I r9.to, I r9.lo, I r9.hi]]) bk11_7 (hp6.lit 0 rfl) ⟨rfl, trivial⟩ rfl (Nat.le_refl _)
 replace hG := bind_some hG; obtain ⟨r12, hr12, hG⟩ := hG
 refine we rfl (fun st => x_call0 own_61 (ee st rfl) (am1 (ee st rfl)) (a61 K_ [r9] (some ⟨b11, 0, none⟩) 1 (ZZ Z w.heap.size []) _ bk11_z r12 hr12)) ?_
 rintro _ w13 ⟨hx12, ⟨_, rfl, ⟨A12_r0, c12_r0, rfl, hS12_r0⟩⟩⟩
 have hp8 : Hp w [] w13 := hp7.ext hx12
 have hS12_r0 := hS12_r0.mv (hp7.call (Nat.le_refl _))
 replace hG := bind_some hG; obtain ⟨r14, hr14, hG⟩ := hG
 refine we rfl (fun st => x_call0 own_42 (ee st rfl) (am2 (ee st rfl) (ee st rfl)) (a42 K_ r12 0 A12_r0 c12_r0 (ZZ Z w.heap.size []) _ hS12_r0 r14 hr14)) ?_
 rintro _ w15 ⟨hx14, _, _, rfl, ⟨A14_ra, c14_ra, rfl, hS14_ra⟩, rfl⟩
 have hp9 : Hp w [] w15 := hp8.ext hx14
 have hS14_ra := hS14_ra.mv (hp8.call (Nat.le_refl _))
 refine wm rfl (v := .tuple #[.slice A14_ra r14.1.length c14_ra, I r14.2]) rfl <| wd rfl (fun st => x_extract (v := .slice A14_ra r14.1.length c14_ra) (ee st rfl) rfl) <| wd rfl (fun st => x_extract (v := I r14.2) (ee st rfl) rfl) <| wa rfl (v := .slice A14_ra r14.1.length c14_ra) rfl <| wa rfl (v := I r14.2) rfl <| wl_end <| lv_next <| cc_seq <| cc_region ?_
 replace hG := bind_some hG; obtain ⟨r16, hr16, hG⟩ := hG
 refine we rfl (fun st => x_call0 own_61 (ee st rfl) (am1 (ee st rfl)) (a61 K_ ([] : List Tly) none 0 (ZZ Z w.heap.size []) _ (Sl.nil eTly _ _) r16 hr16)) ?_
 rintro _ w17 ⟨hx16, ⟨_, rfl, ⟨A16_r0, c16_r0, rfl, hS16_r0⟩⟩⟩
 have hp10 : Hp w [] w17 := hp9.ext hx16
 have hS16_r0 := hS16_r0.mv (hp9.call (Nat.le_refl _))
 replace hG := bind_some hG; obtain ⟨r18, hr18, hG⟩ := hG
 refine we rfl (fun st => x_call0 own_32 (ee st rfl) (am2 (ee st rfl) (ee st rfl)) (a32 K_ r16 0 A16_r0 c16_r0 ZA _ hS16_r0.all r18 hr18)) ?_
 rintro _ w19 ⟨hx18, _, _, _, rfl, rfl, rfl, rfl⟩
 have hp11 : Hp w [] w19 := hp10.ext hx18
 refine wm rfl (v := .tuple #[I r18.1, I r18.2.1, I r18.2.2]) rfl <| wd rfl (fun st => x_extract (v := I r18.1) (ee st rfl) rfl) <| wd rfl (fun st => x_extract (v := I r18.2.1) (ee st rfl) rfl) <| wd rfl (fun st => x_extract (v := I r18.2.2) (ee st rfl) rfl) <| wa rfl (v := I r18.1) rfl <| wa rfl (v := I r18.2.1) rfl <| wa rfl (v := I r18.2.2) rfl <| wl_end <| lv_next <| cc_seq <| cc_region ?_
 replace hG := bind_some hG; obtain ⟨r20, hr20, hG⟩ := hG
 refine we rfl (fun st => x_call0 own_63 (ee st rfl) am0 (a63 K_ ZA _ r20 hr20)) ?_
 rintro _ w21 ⟨hx20, ⟨_, rfl, rfl⟩⟩
 have hp12 : Hp w [] w21 := hp11.ext hx20
 refine we rfl (fun st => x_buildSlice (e := 95) (vs := #[(0, .agg #[I r20.who, I r20.fr, I r20.to, I r20.lo, I r20.hi])]) (cs := #[I r20.who, I r20.fr, I r20.to, I r20.lo, I r20.hi]) (pm1 (ee st rfl)) (by kernel_rfl)) ?_
 rintro _ w22 ⟨b22, rfl, nb22⟩
 have hp13 : Hp w [some b22] w22 := hp12.new nb22.gr (Nat.le_of_eq nb22.b_eq.symm) (Nat.lt_of_lt_of_eq (Nat.lt_succ_self _) nb22.sz.symm)
 have hp14 : Hp w [] w22 := hp13.erase 0
 have bk22_14 : Bk w22 b22 95 #[I r20.who, I r20.fr, I r20.to, I r20.lo, I r20.hi] := nb22.bk
 have bk22_z : Sl eTly w22 (ZZ Z w.heap.size []) (some ⟨b22, 0, none⟩) 1 [r20] := sl_bk (xs := [r20]) (css := [[I r20.who, I r20.fr, I r20.to, I r20.lo, I r20.hi]]) bk22_14 (hp13.lit 0 rfl) ⟨rfl, trivial⟩ rfl (Nat.le_refl _)
 replace hG := bind_some hG; obtain ⟨r23, hr23, hG⟩ := hG
 refine we rfl (fun st => x_call0 own_61 (ee st rfl) (am1 (ee st rfl)) (a61 K_ [r20] (some ⟨b22, 0, none⟩) 1 (ZZ Z w.heap.size []) _ bk22_z r23 hr23)) ?_
 rintro _ w24 ⟨hx23, ⟨_, rfl, ⟨A23_r0, c23_r0, rfl, hS23_r0⟩⟩⟩
 have hp15 : Hp w [] w24 := hp14.ext hx23
 have hS23_r0 := hS23_r0.mv (hp14.call (Nat.le_refl _))
 replace hG := bind_some hG; obtain ⟨r25, hr25, hG⟩ := hG
 refine we rfl (fun st => x_call0 own_34 (ee st rfl) (am1 (ee st rfl)) (a34 K_ r23 A23_r0 c23_r0 ZA _ hS23_r0.all r25 hr25)) ?_
 rintro _ w26 ⟨hx25, _, _, rfl, rfl, rfl⟩
 have hp16 : Hp w [] w26 := hp15.ext hx25
 refine wm rfl (v := .tuple #[I r25.1, I r25.2]) rfl <| wd rfl (fun st => x_extract (v := I r25.1) (ee st rfl) rfl) <| wd rfl (fun st => x_extract (v := I r25.2) (ee st rfl) rfl) <| wa rfl (v := I r25.1) rfl <| wa rfl (v := I r25.2) rfl <| wl_end <| lv_next <| cc_seq <| cc_region ?_
 replace hG := bind_some hG; obtain ⟨r27, hr27, hG⟩ := hG
 refine we rfl (fun st => x_call0 own_63 (ee st rfl) am0 (a63 K_ ZA _ r27 hr27)) ?_
 rintro _ w28 ⟨hx27, ⟨_, rfl, rfl⟩⟩
 have hp17 : Hp w [] w28 := hp16.ext hx27
 refine we rfl (fun st => x_buildSlice (e := 95) (vs := #[(0, .agg #[I r27.who, I r27.fr, I r27.to, I r27.lo, I r27.hi])]) (cs := #[I r27.who, I r27.fr, I r27.to, I r27.lo, I r27.hi]) (pm1 (ee st rfl)) (by kernel_rfl)) ?_
 rintro _ w29 ⟨b29, rfl, nb29⟩
 have hp18 : Hp w [some b29] w29 := hp17.new nb29.gr (Nat.le_of_eq nb29.b_eq.symm) (Nat.lt_of_lt_of_eq (Nat.lt_succ_self _) nb29.sz.symm)
 have hp19 : Hp w [] w29 := hp18.erase 0
 have bk29_19 : Bk w29 b29 95 #[I r27.who, I r27.fr, I r27.to, I r27.lo, I r27.hi] := nb29.bk
 have bk29_z : Sl eTly w29 (ZZ Z w.heap.size []) (some ⟨b29, 0, none⟩) 1 [r27] := sl_bk (xs := [r27]) (css := [[I r27.who, I r27.fr, I r27.to, I r27.lo, I r27.hi]]) bk29_19 (hp18.lit 0 rfl) ⟨rfl, trivial⟩ rfl (Nat.le_refl _)
 replace hG := bind_some hG; obtain ⟨r30, hr30, hG⟩ := hG
 refine we rfl (fun st => x_call0 own_61 (ee st rfl) (am1 (ee st rfl)) (a61 K_ [r27] (some ⟨b29, 0, none⟩) 1 (ZZ Z w.heap.size []) _ bk29_z r30 hr30)) ?_
 rintro _ w31 ⟨hx30, ⟨_, rfl, ⟨A30_r0, c30_r0, rfl, hS30_r0⟩⟩⟩
 have hp20 : Hp w [] w31 := hp19.ext hx30
 have hS30_r0 := hS30_r0.mv (hp19.call (Nat.le_refl _))
 replace hG := bind_some hG; obtain ⟨r32, hr32, hG⟩ := hG
 refine we rfl (fun st => x_call0 own_35 (ee st rfl) (am1 (ee st rfl)) (a35 K_ r30 A30_r0 c30_r0 (ZZ Z w.heap.size []) _ hS30_r0 r32 hr32)) ?_
 rintro _ w33 ⟨hx32, _, _, rfl, ⟨A32_ra, c32_ra, rfl, hS32_ra⟩, rfl⟩
 have hp21 : Hp w [] w33 := hp20.ext hx32
 have hS32_ra := hS32_ra.mv (hp20.call (Nat.le_refl _))
 refine wm rfl (v := .tuple #[.slice A32_ra r32.1.length c32_ra, I r32.2]) rfl <| wd rfl (fun st => x_extract (v := .slice A32_ra r32.1.length c32_ra) (ee st rfl) rfl) <| wd rfl (fun st => x_extract (v := I r32.2) (ee st rfl) rfl) <| wa rfl (v := .slice A32_ra r32.1.length c32_ra) rfl <| wa rfl (v := I r32.2) rfl <| wl_end <| lv_next <| cc_seq ?_
 rcases bool_cases (r3.2 == 0) with hc35 | hc35
 ·replace hG := cond_t hG hc35
  rcases bool_cases ((r3.1.length : Int) == 2) with hc36 | hc36
  ·replace hG := cond_t hG hc36
   replace hG := idx_bind hG; obtain ⟨i37, x37, hi37, hx37, hl37, hG⟩ := hG
   have hS3_ra_21 : Sl eR w33 (ZZ Z w.heap.size []) A3_ra c3_ra r3.1 := (((((((((((((((((((hS3_ra.mv (mv_ext hx5)).mv (mv_ext hx7)).mv (mv_ext hx9)).mv (mv_new nb11.gr (Nat.le_of_eq nb11.b_eq.symm))).mv (mv_erase 0)).mv (mv_ext hx12)).mv (mv_ext hx14)).mv (mv_ext hx16)).mv (mv_ext hx18)).mv (mv_ext hx20)).mv (mv_new nb22.gr (Nat.le_of_eq nb22.b_eq.symm))).mv (mv_erase 0)).mv (mv_ext hx23)).mv (mv_ext hx25)).mv (mv_ext hx27)).mv (mv_new nb29.gr (Nat.le_of_eq nb29.b_eq.symm))).mv (mv_erase 0)).mv (mv_ext hx30)).mv (mv_ext hx32))
   obtain ⟨b37, o37, _, hA37, rfl, hz37⟩ := Sl.elem hS3_ra_21 (by decide) hx37
   replace hG := bind_some hG; obtain ⟨r38, hr38, hG⟩ := hG
   rcases bool_cases ([x37.1, x37.2] == [r38.1, r38.2]) with hc39 | hc39
   ·replace hG := cond_t hG hc39
    replace hG := idx_bind hG; obtain ⟨i40, x40, hi40, hx40, hl40, hG⟩ := hG
    obtain ⟨b40, o40, _, hA40, rfl, hz40⟩ := Sl.elem hS3_ra_21 (by decide) hx40
    replace hG := bind_some hG; obtain ⟨r41, hr41, hG⟩ := hG
    rcases bool_cases ([x40.1, x40.2] == [r41.1, r41.2]) with hc42 | hc42
    ·replace hG := cond_t hG hc42
     rcases bool_cases (r7.2 == 0) with hc43 | hc43
     ·replace hG := cond_t hG hc43
      have hS7_ra_21 : Sl (eInt .i64) w33 (ZZ Z w.heap.size []) A7_ra c7_ra r7.1 := (((((((((((((((((hS7_ra.mv (mv_ext hx9)).mv (mv_new nb11.gr (Nat.le_of_eq nb11.b_eq.symm))).mv (mv_erase 0)).mv (mv_ext hx12)).mv (mv_ext hx14)).mv (mv_ext hx16)).mv (mv_ext hx18)).mv (mv_ext hx20)).mv (mv_new nb22.gr (Nat.le_of_eq nb22.b_eq.symm))).mv (mv_erase 0)).mv (mv_ext hx23)).mv (mv_ext hx25)).mv (mv_ext hx27)).mv (mv_new nb29.gr (Nat.le_of_eq nb29.b_eq.symm))).mv (mv_erase 0)).mv (mv_ext hx30)).mv (mv_ext hx32))
      replace hG := bind_some hG; obtain ⟨r44, hr44, hG⟩ := hG
      rcases bool_cases (r44) with hc45 | hc45
      ·replace hG := cond_t hG hc45
       rcases bool_cases (r14.2 == 0) with hc46 | hc46
       ·replace hG := cond_t hG hc46
        have hS14_ra_21 : Sl (eInt .i64) w33 (ZZ Z w.heap.size []) A14_ra c14_ra r14.1 := ((((((((((((hS14_ra.mv (mv_ext hx16)).mv (mv_ext hx18)).mv (mv_ext hx20)).mv (mv_new nb22.gr (Nat.le_of_eq nb22.b_eq.symm))).mv (mv_erase 0)).mv (mv_ext hx23)).mv (mv_ext hx25)).mv (mv_ext hx27)).mv (mv_new nb29.gr (Nat.le_of_eq nb29.b_eq.symm))).mv (mv_erase 0)).mv (mv_ext hx30)).mv (mv_ext hx32))
        replace hG := bind_some hG; obtain ⟨r47, hr47, hG⟩ := hG
        rcases bool_cases (r47) with hc48 | hc48
        ·replace hG := cond_t hG hc48
         rcases bool_cases (r18.2.2 == 0) with hc49 | hc49
         ·replace hG := cond_t hG hc49
          rcases bool_cases (r18.1 == 0) with hc50 | hc50
          ·replace hG := cond_t hG hc50
           rcases bool_cases (r18.2.1 == 3) with hc51 | hc51
           ·replace hG := cond_t hG hc51
            rcases bool_cases (r25.2 == 0) with hc52 | hc52
            ·replace hG := cond_t hG hc52
             rcases bool_cases (r25.1 == 2) with hc53 | hc53
             ·replace hG := cond_t hG hc53
              rcases bool_cases (r32.2 == 0) with hc54 | hc54
              ·replace hG := cond_t hG hc54
               replace hG := bind_some hG; obtain ⟨r55, hr55, hG⟩ := hG
               refine cc_anyM0 68 [Kc (I r3.2), Kc (.bool (r3.2 == 0)), Kc (.bool (r3.2 == 0)), Kc (.slice A3_ra r3.1.length c3_ra), Kc (I (r3.1.length : Int)), Kc (.bool ((r3.1.length : Int) == 2)), Kc (.bool ((r3.1.length : Int) == 2)), Kc (.bool ((r3.1.length : Int) == 2)), Kc (.slice A3_ra r3.1.length c3_ra), Kc (pt b37 (o37 + i37 * 2)), Kc (.agg #[I x37.1, I x37.2]), Kc (.agg #[I r38.1, I r38.2]), Kc (.bool ([x37.1, x37.2] == [r38.1, r38.2])), Kc (.bool ([x37.1, x37.2] == [r38.1, r38.2])), Kc (.bool ([x37.1, x37.2] == [r38.1, r38.2])), Kc (.slice A3_ra r3.1.length c3_ra), Kc (pt b40 (o40 + i40 * 2)), Kc (.agg #[I x40.1, I x40.2]), Kc (.agg #[I r41.1, I r41.2]), Kc (.bool ([x40.1, x40.2] == [r41.1, r41.2])), Kc (.bool ([x40.1, x40.2] == [r41.1, r41.2])), Kc (.bool ([x40.1, x40.2] == [r41.1, r41.2])), Kc (I r7.2), Kc (.bool (r7.2 == 0)), Kc (.bool (r7.2 == 0)), Kc (.bool (r7.2 == 0)), Kc (.slice A7_ra r7.1.length c7_ra), Kn w33.heap.size (fun b => .slice (some ⟨b, 0, none⟩) 2 2) 3 #[I 0, I 1], Kc (.bool r44), Kc (.bool r44), Kc (.bool r44), Kc (I r14.2), Kc (.bool (r14.2 == 0)), Kc (.bool (r14.2 == 0)), Kc (.bool (r14.2 == 0)), Kc (.slice A14_ra r14.1.length c14_ra), Kn w33.heap.size (fun b => .slice (some ⟨b, 0, none⟩) 2 2) 3 #[I 2, I 3], Kc (.bool r47), Kc (.bool r47), Kc (.bool r47), Kc (I r18.2.2), Kc (.bool (r18.2.2 == 0)), Kc (.bool (r18.2.2 == 0)), Kc (.bool (r18.2.2 == 0)), Kc (I r18.1), Kc (.bool (r18.1 == 0)), Kc (.bool (r18.1 == 0)), Kc (.bool (r18.1 == 0)), Kc (I r18.2.1), Kc (.bool (r18.2.1 == 3)), Kc (.bool (r18.2.1 == 3)), Kc (.bool (r18.2.1 == 3)), Kc (I r25.2), Kc (.bool (r25.2 == 0)), Kc (.bool (r25.2 == 0)), Kc (.bool (r25.2 == 0)), Kc (I r25.1), Kc (.bool (r25.1 == 2)), Kc (.bool (r25.1 == 2)), Kc (.bool (r25.1 == 2)), Kc (I r32.2), Kc (.bool (r32.2 == 0)), Kc (.bool (r32.2 == 0)), Kc (.bool (r32.2 == 0)), Kc (.slice A32_ra r32.1.length c32_ra), Kn w33.heap.size (fun b => .slice (some ⟨b, 0, none⟩) 1 1) 3 #[I 0], Kc (.bool r55), Kc (.bool r55)] mixedA10 rfl rfl
                   (obsN_cons (od rfl (fun _ => rfl) (fun K => x_move (v := I r3.2) (es (t := 2) (v := I r3.2) ((K.out 2 rfl).trans rfl))))
                   (obsN_cons (od rfl (fun _ => rfl) (fun K => x_eql (es (t := 51) (v := I r3.2) (K.dep 0 51 rfl rfl)) (ec (v := I 0))))
                   (obsN_cons (od rfl (fun _ => rfl) (fun K => x_move (v := .bool (r3.2 == 0)) (es (t := 52) (v := .bool (r3.2 == 0)) (K.dep 1 52 rfl rfl))))
                   (obsN_cons (ob_detg rfl rfl rfl (fun _ => rfl) (fun a' w' ph K => (guard_eq (show sl a' 53 = .bool (r3.2 == 0) from K.dep 2 53 rfl rfl) hc35)) (fun a' w' ph K => x_move (v := .slice A3_ra r3.1.length c3_ra) (es (t := 1) (v := .slice A3_ra r3.1.length c3_ra) ((K.out 1 rfl).trans rfl))))
                   (obsN_cons (ob_detg rfl rfl rfl (fun _ => rfl) (fun a' w' ph K => (guard_eq (show sl a' 53 = .bool (r3.2 == 0) from K.dep 2 53 rfl rfl) hc35)) (fun a' w' ph K => x_len Try.underlying29 (es (t := 54) (v := .slice A3_ra r3.1.length c3_ra) (K.dep 3 54 rfl rfl))))
                   (obsN_cons (ob_detg rfl rfl rfl (fun _ => rfl) (fun a' w' ph K => (guard_eq (show sl a' 53 = .bool (r3.2 == 0) from K.dep 2 53 rfl rfl) hc35)) (fun a' w' ph K => x_eql (es (t := 55) (v := I (r3.1.length : Int)) (K.dep 4 55 rfl rfl)) (ec (v := I 2))))
                   (obsN_cons (od rfl (fun _ => rfl) (fun K => x_pick_t (v := .bool ((r3.1.length : Int) == 2)) (es (t := 53) (v := .bool (r3.2 == 0)) (K.dep 2 53 rfl rfl)) hc35 (es (t := 56) (v := .bool ((r3.1.length : Int) == 2)) (K.dep 5 56 rfl rfl))))
                   (obsN_cons (od rfl (fun _ => rfl) (fun K => x_move (v := .bool ((r3.1.length : Int) == 2)) (es (t := 57) (v := .bool ((r3.1.length : Int) == 2)) (K.dep 6 57 rfl rfl))))
                   (obsN_cons (ob_detg rfl rfl rfl (fun _ => rfl) (fun a' w' ph K => (guard_eq (show sl a' 58 = .bool ((r3.1.length : Int) == 2) from K.dep 7 58 rfl rfl) hc36)) (fun a' w' ph K => x_move (v := .slice A3_ra r3.1.length c3_ra) (es (t := 1) (v := .slice A3_ra r3.1.length c3_ra) ((K.out 1 rfl).trans rfl))))
                   (obsN_cons (ob_detg rfl rfl rfl (fun _ => rfl) (fun a' w' ph K => (guard_eq (show sl a' 58 = .bool ((r3.1.length : Int) == 2) from K.dep 7 58 rfl rfl) hc36)) (fun a' w' ph K => x_indexAddrN (k := i37) Try.underlying29 sz_33 (es (t := 59) (v := .slice A3_ra r3.1.length c3_ra) (K.dep 8 59 rfl rfl)) hA37 (ec (v := I 0)) hi37 hl37))
                   (obsN_cons (ob_detg rfl rfl rfl (fun _ => rfl) (fun a' w' ph K => (guard_eq (show sl a' 58 = .bool ((r3.1.length : Int) == 2) from K.dep 7 58 rfl rfl) hc36)) (fun a' w' ph K => x_load_zn0 (l := [I x37.1, I x37.2]) agg_33 (es (t := 60) (v := pt b37 (o37 + i37 * 2)) (K.dep 9 60 rfl rfl)) (hz37.mv (mv_ext K.phT)) rfl rfl))
                   (obsN_cons (ob_extg rfl rfl rfl (fun a' w' ph K => (guard_eq (show sl a' 58 = .bool ((r3.1.length : Int) == 2) from K.dep 7 58 rfl rfl) hc36)) (fun a' w' ph K => (x_call0 own_50 rfl (am2 (ec (v := I 2)) (ec (v := I 3))) (a50 K_ 2 3 ZA _ r38 hr38)).mono (fun _ _ h => ⟨(by obtain ⟨_, rfl, rfl⟩ := h.2; rfl), h.1⟩)))
                   (obsN_cons (ob_detg rfl rfl rfl (fun _ => rfl) (fun a' w' ph K => (guard_eq (show sl a' 58 = .bool ((r3.1.length : Int) == 2) from K.dep 7 58 rfl rfl) hc36)) (fun a' w' ph K => x_eqA (x1 := [x37.1, x37.2]) (x2 := [r38.1, r38.2]) keq_33 eqg_33 (es (t := 61) (v := .agg #[I x37.1, I x37.2]) (K.dep 10 61 rfl rfl)) (es (t := 62) (v := .agg #[I r38.1, I r38.2]) (K.dep 11 62 rfl rfl)) rfl rfl rfl rfl))
                   (obsN_cons (od rfl (fun _ => rfl) (fun K => x_pick_t (v := .bool ([x37.1, x37.2] == [r38.1, r38.2])) (es (t := 58) (v := .bool ((r3.1.length : Int) == 2)) (K.dep 7 58 rfl rfl)) hc36 (es (t := 63) (v := .bool ([x37.1, x37.2] == [r38.1, r38.2])) (K.dep 12 63 rfl rfl))))
                   (obsN_cons (od rfl (fun _ => rfl) (fun K => x_move (v := .bool ([x37.1, x37.2] == [r38.1, r38.2])) (es (t := 64) (v := .bool ([x37.1, x37.2] == [r38.1, r38.2])) (K.dep 13 64 rfl rfl))))
                   (obsN_cons (ob_detg rfl rfl rfl (fun _ => rfl) (fun a' w' ph K => (guard_eq (show sl a' 65 = .bool ([x37.1, x37.2] == [r38.1, r38.2]) from K.dep 14 65 rfl rfl) hc39)) (fun a' w' ph K => x_move (v := .slice A3_ra r3.1.length c3_ra) (es (t := 1) (v := .slice A3_ra r3.1.length c3_ra) ((K.out 1 rfl).trans rfl))))
                   (obsN_cons (ob_detg rfl rfl rfl (fun _ => rfl) (fun a' w' ph K => (guard_eq (show sl a' 65 = .bool ([x37.1, x37.2] == [r38.1, r38.2]) from K.dep 14 65 rfl rfl) hc39)) (fun a' w' ph K => x_indexAddrN (k := i40) Try.underlying29 sz_33 (es (t := 66) (v := .slice A3_ra r3.1.length c3_ra) (K.dep 15 66 rfl rfl)) hA40 (ec (v := I 1)) hi40 hl40))
                   (obsN_cons (ob_detg rfl rfl rfl (fun _ => rfl) (fun a' w' ph K => (guard_eq (show sl a' 65 = .bool ([x37.1, x37.2] == [r38.1, r38.2]) from K.dep 14 65 rfl rfl) hc39)) (fun a' w' ph K => x_load_zn0 (l := [I x40.1, I x40.2]) agg_33 (es (t := 67) (v := pt b40 (o40 + i40 * 2)) (K.dep 16 67 rfl rfl)) (hz40.mv (mv_ext K.phT)) rfl rfl))
                   (obsN_cons (ob_extg rfl rfl rfl (fun a' w' ph K => (guard_eq (show sl a' 65 = .bool ([x37.1, x37.2] == [r38.1, r38.2]) from K.dep 14 65 rfl rfl) hc39)) (fun a' w' ph K => (x_call0 own_50 rfl (am2 (ec (v := I 1)) (ec (v := I 2))) (a50 K_ 1 2 ZA _ r41 hr41)).mono (fun _ _ h => ⟨(by obtain ⟨_, rfl, rfl⟩ := h.2; rfl), h.1⟩)))
                   (obsN_cons (ob_detg rfl rfl rfl (fun _ => rfl) (fun a' w' ph K => (guard_eq (show sl a' 65 = .bool ([x37.1, x37.2] == [r38.1, r38.2]) from K.dep 14 65 rfl rfl) hc39)) (fun a' w' ph K => x_eqA (x1 := [x40.1, x40.2]) (x2 := [r41.1, r41.2]) keq_33 eqg_33 (es (t := 68) (v := .agg #[I x40.1, I x40.2]) (K.dep 17 68 rfl rfl)) (es (t := 69) (v := .agg #[I r41.1, I r41.2]) (K.dep 18 69 rfl rfl)) rfl rfl rfl rfl))
                   (obsN_cons (od rfl (fun _ => rfl) (fun K => x_pick_t (v := .bool ([x40.1, x40.2] == [r41.1, r41.2])) (es (t := 65) (v := .bool ([x37.1, x37.2] == [r38.1, r38.2])) (K.dep 14 65 rfl rfl)) hc39 (es (t := 70) (v := .bool ([x40.1, x40.2] == [r41.1, r41.2])) (K.dep 19 70 rfl rfl))))
                   (obsN_cons (od rfl (fun _ => rfl) (fun K => x_move (v := .bool ([x40.1, x40.2] == [r41.1, r41.2])) (es (t := 71) (v := .bool ([x40.1, x40.2] == [r41.1, r41.2])) (K.dep 20 71 rfl rfl))))
                   (obsN_cons (ob_detg rfl rfl rfl (fun _ => rfl) (fun a' w' ph K => (guard_eq (show sl a' 72 = .bool ([x40.1, x40.2] == [r41.1, r41.2]) from K.dep 21 72 rfl rfl) hc42)) (fun a' w' ph K => x_move (v := I r7.2) (es (t := 4) (v := I r7.2) ((K.out 4 rfl).trans rfl))))
                   (obsN_cons (ob_detg rfl rfl rfl (fun _ => rfl) (fun a' w' ph K => (guard_eq (show sl a' 72 = .bool ([x40.1, x40.2] == [r41.1, r41.2]) from K.dep 21 72 rfl rfl) hc42)) (fun a' w' ph K => x_eql (es (t := 73) (v := I r7.2) (K.dep 22 73 rfl rfl)) (ec (v := I 0))))
                   (obsN_cons (od rfl (fun _ => rfl) (fun K => x_pick_t (v := .bool (r7.2 == 0)) (es (t := 72) (v := .bool ([x40.1, x40.2] == [r41.1, r41.2])) (K.dep 21 72 rfl rfl)) hc42 (es (t := 74) (v := .bool (r7.2 == 0)) (K.dep 23 74 rfl rfl))))
                   (obsN_cons (od rfl (fun _ => rfl) (fun K => x_move (v := .bool (r7.2 == 0)) (es (t := 75) (v := .bool (r7.2 == 0)) (K.dep 24 75 rfl rfl))))
                   (obsN_cons (ob_detg rfl rfl rfl (fun _ => rfl) (fun a' w' ph K => (guard_eq (show sl a' 76 = .bool (r7.2 == 0) from K.dep 25 76 rfl rfl) hc43)) (fun a' w' ph K => x_move (v := .slice A7_ra r7.1.length c7_ra) (es (t := 3) (v := .slice A7_ra r7.1.length c7_ra) ((K.out 3 rfl).trans rfl))))
                   (obsN_cons (ob_extg rfl rfl rfl (fun a' w' ph K => (guard_eq (show sl a' 76 = .bool (r7.2 == 0) from K.dep 25 76 rfl rfl) hc43)) (fun a' w' ph K => (x_buildSlice (e := 3) (vs := #[(0, I 0), (1, I 1)]) (cs := #[I 0, I 1]) (pm2 (ec (v := I 0)) (ec (v := I 1))) (by kernel_rfl)).mono (fun u w'' hh => kn_mk K.phT.size hh)))
                   (obsN_cons (ob_extg rfl rfl rfl (fun a' w' ph K => (guard_eq (show sl a' 76 = .bool (r7.2 == 0) from K.dep 25 76 rfl rfl) hc43)) (fun a' w' ph K => match K.dep 27 78 rfl rfl with | ⟨bb34_27, e34_27, l34_27, k34_27⟩ => (x_call0 own_30 rfl (am2 (es (t := 77) (v := .slice A7_ra r7.1.length c7_ra) (K.dep 26 77 rfl rfl)) (es (t := 78) (v := .slice (some ⟨bb34_27, 0, none⟩) 2 2) e34_27)) (a30 K_ r7.1 [0, 1] A7_ra c7_ra (some ⟨bb34_27, 0, none⟩) 2 ZA _ (hS7_ra_21.mv (mv_ext K.phT)).all (sl_bk (xs := [0, 1]) (css := [[I 0], [I 1]]) k34_27 trivial ⟨rfl, rfl, trivial⟩ rfl (Nat.le_refl _)) r44 hr44)).mono (fun _ _ h => ⟨h.2, h.1⟩)))
                   (obsN_cons (od rfl (fun _ => rfl) (fun K => x_pick_t (v := .bool r44) (es (t := 76) (v := .bool (r7.2 == 0)) (K.dep 25 76 rfl rfl)) hc43 (es (t := 79) (v := .bool r44) (K.dep 28 79 rfl rfl))))
                   (obsN_cons (od rfl (fun _ => rfl) (fun K => x_move (v := .bool r44) (es (t := 80) (v := .bool r44) (K.dep 29 80 rfl rfl))))
                   (obsN_cons (ob_detg rfl rfl rfl (fun _ => rfl) (fun a' w' ph K => (guard_eq (show sl a' 81 = .bool r44 from K.dep 30 81 rfl rfl) hc45)) (fun a' w' ph K => x_move (v := I r14.2) (es (t := 6) (v := I r14.2) ((K.out 6 rfl).trans rfl))))
                   (obsN_cons (ob_detg rfl rfl rfl (fun _ => rfl) (fun a' w' ph K => (guard_eq (show sl a' 81 = .bool r44 from K.dep 30 81 rfl rfl) hc45)) (fun a' w' ph K => x_eql (es (t := 82) (v := I r14.2) (K.dep 31 82 rfl rfl)) (ec (v := I 0))))
                   (obsN_cons (od rfl (fun _ => rfl) (fun K => x_pick_t (v := .bool (r14.2 == 0)) (es (t := 81) (v := .bool r44) (K.dep 30 81 rfl rfl)) hc45 (es (t := 83) (v := .bool (r14.2 == 0)) (K.dep 32 83 rfl rfl))))
                   (obsN_cons (od rfl (fun _ => rfl) (fun K => x_move (v := .bool (r14.2 == 0)) (es (t := 84) (v := .bool (r14.2 == 0)) (K.dep 33 84 rfl rfl))))
                   (obsN_cons (ob_detg rfl rfl rfl (fun _ => rfl) (fun a' w' ph K => (guard_eq (show sl a' 85 = .bool (r14.2 == 0) from K.dep 34 85 rfl rfl) hc46)) (fun a' w' ph K => x_move (v := .slice A14_ra r14.1.length c14_ra) (es (t := 5) (v := .slice A14_ra r14.1.length c14_ra) ((K.out 5 rfl).trans rfl))))
                   (obsN_cons (ob_extg rfl rfl rfl (fun a' w' ph K => (guard_eq (show sl a' 85 = .bool (r14.2 == 0) from K.dep 34 85 rfl rfl) hc46)) (fun a' w' ph K => (x_buildSlice (e := 3) (vs := #[(0, I 2), (1, I 3)]) (cs := #[I 2, I 3]) (pm2 (ec (v := I 2)) (ec (v := I 3))) (by kernel_rfl)).mono (fun u w'' hh => kn_mk K.phT.size hh)))
                   (obsN_cons (ob_extg rfl rfl rfl (fun a' w' ph K => (guard_eq (show sl a' 85 = .bool (r14.2 == 0) from K.dep 34 85 rfl rfl) hc46)) (fun a' w' ph K => match K.dep 36 87 rfl rfl with | ⟨bb34_36, e34_36, l34_36, k34_36⟩ => (x_call0 own_30 rfl (am2 (es (t := 86) (v := .slice A14_ra r14.1.length c14_ra) (K.dep 35 86 rfl rfl)) (es (t := 87) (v := .slice (some ⟨bb34_36, 0, none⟩) 2 2) e34_36)) (a30 K_ r14.1 [2, 3] A14_ra c14_ra (some ⟨bb34_36, 0, none⟩) 2 ZA _ (hS14_ra_21.mv (mv_ext K.phT)).all (sl_bk (xs := [2, 3]) (css := [[I 2], [I 3]]) k34_36 trivial ⟨rfl, rfl, trivial⟩ rfl (Nat.le_refl _)) r47 hr47)).mono (fun _ _ h => ⟨h.2, h.1⟩)))
                   (obsN_cons (od rfl (fun _ => rfl) (fun K => x_pick_t (v := .bool r47) (es (t := 85) (v := .bool (r14.2 == 0)) (K.dep 34 85 rfl rfl)) hc46 (es (t := 88) (v := .bool r47) (K.dep 37 88 rfl rfl))))
                   (obsN_cons (od rfl (fun _ => rfl) (fun K => x_move (v := .bool r47) (es (t := 89) (v := .bool r47) (K.dep 38 89 rfl rfl))))
                   (obsN_cons (ob_detg rfl rfl rfl (fun _ => rfl) (fun a' w' ph K => (guard_eq (show sl a' 90 = .bool r47 from K.dep 39 90 rfl rfl) hc48)) (fun a' w' ph K => x_move (v := I r18.2.2) (es (t := 9) (v := I r18.2.2) ((K.out 9 rfl).trans rfl))))
                   (obsN_cons (ob_detg rfl rfl rfl (fun _ => rfl) (fun a' w' ph K => (guard_eq (show sl a' 90 = .bool r47 from K.dep 39 90 rfl rfl) hc48)) (fun a' w' ph K => x_eql (es (t := 91) (v := I r18.2.2) (K.dep 40 91 rfl rfl)) (ec (v := I 0))))
                   (obsN_cons (od rfl (fun _ => rfl) (fun K => x_pick_t (v := .bool (r18.2.2 == 0)) (es (t := 90) (v := .bool r47) (K.dep 39 90 rfl rfl)) hc48 (es (t := 92) (v := .bool (r18.2.2 == 0)) (K.dep 41 92 rfl rfl))))
                   (obsN_cons (od rfl (fun _ => rfl) (fun K => x_move (v := .bool (r18.2.2 == 0)) (es (t := 93) (v := .bool (r18.2.2 == 0)) (K.dep 42 93 rfl rfl))))
                   (obsN_cons (ob_detg rfl rfl rfl (fun _ => rfl) (fun a' w' ph K => (guard_eq (show sl a' 94 = .bool (r18.2.2 == 0) from K.dep 43 94 rfl rfl) hc49)) (fun a' w' ph K => x_move (v := I r18.1) (es (t := 7) (v := I r18.1) ((K.out 7 rfl).trans rfl))))
                   (obsN_cons (ob_detg rfl rfl rfl (fun _ => rfl) (fun a' w' ph K => (guard_eq (show sl a' 94 = .bool (r18.2.2 == 0) from K.dep 43 94 rfl rfl) hc49)) (fun a' w' ph K => x_eql (es (t := 95) (v := I r18.1) (K.dep 44 95 rfl rfl)) (ec (v := I 0))))
                   (obsN_cons (od rfl (fun _ => rfl) (fun K => x_pick_t (v := .bool (r18.1 == 0)) (es (t := 94) (v := .bool (r18.2.2 == 0)) (K.dep 43 94 rfl rfl)) hc49 (es (t := 96) (v := .bool (r18.1 == 0)) (K.dep 45 96 rfl rfl))))
                   (obsN_cons (od rfl (fun _ => rfl) (fun K => x_move (v := .bool (r18.1 == 0)) (es (t := 97) (v := .bool (r18.1 == 0)) (K.dep 46 97 rfl rfl))))
                   (obsN_cons (ob_detg rfl rfl rfl (fun _ => rfl) (fun a' w' ph K => (guard_eq (show sl a' 98 = .bool (r18.1 == 0) from K.dep 47 98 rfl rfl) hc50)) (fun a' w' ph K => x_move (v := I r18.2.1) (es (t := 8) (v := I r18.2.1) ((K.out 8 rfl).trans rfl))))
                   (obsN_cons (ob_detg rfl rfl rfl (fun _ => rfl) (fun a' w' ph K => (guard_eq (show sl a' 98 = .bool (r18.1 == 0) from K.dep 47 98 rfl rfl) hc50)) (fun a' w' ph K => x_eql (es (t := 99) (v := I r18.2.1) (K.dep 48 99 rfl rfl)) (ec (v := I 3))))
                   (obsN_cons (od rfl (fun _ => rfl) (fun K => x_pick_t (v := .bool (r18.2.1 == 3)) (es (t := 98) (v := .bool (r18.1 == 0)) (K.dep 47 98 rfl rfl)) hc50 (es (t := 100) (v := .bool (r18.2.1 == 3)) (K.dep 49 100 rfl rfl))))
                   (obsN_cons (od rfl (fun _ => rfl) (fun K => x_move (v := .bool (r18.2.1 == 3)) (es (t := 101) (v := .bool (r18.2.1 == 3)) (K.dep 50 101 rfl rfl))))
                   (obsN_cons (ob_detg rfl rfl rfl (fun _ => rfl) (fun a' w' ph K => (guard_eq (show sl a' 102 = .bool (r18.2.1 == 3) from K.dep 51 102 rfl rfl) hc51)) (fun a' w' ph K => x_move (v := I r25.2) (es (t := 11) (v := I r25.2) ((K.out 11 rfl).trans rfl))))
                   (obsN_cons (ob_detg rfl rfl rfl (fun _ => rfl) (fun a' w' ph K => (guard_eq (show sl a' 102 = .bool (r18.2.1 == 3) from K.dep 51 102 rfl rfl) hc51)) (fun a' w' ph K => x_eql (es (t := 103) (v := I r25.2) (K.dep 52 103 rfl rfl)) (ec (v := I 0))))
                   (obsN_cons (od rfl (fun _ => rfl) (fun K => x_pick_t (v := .bool (r25.2 == 0)) (es (t := 102) (v := .bool (r18.2.1 == 3)) (K.dep 51 102 rfl rfl)) hc51 (es (t := 104) (v := .bool (r25.2 == 0)) (K.dep 53 104 rfl rfl))))
                   (obsN_cons (od rfl (fun _ => rfl) (fun K => x_move (v := .bool (r25.2 == 0)) (es (t := 105) (v := .bool (r25.2 == 0)) (K.dep 54 105 rfl rfl))))
                   (obsN_cons (ob_detg rfl rfl rfl (fun _ => rfl) (fun a' w' ph K => (guard_eq (show sl a' 106 = .bool (r25.2 == 0) from K.dep 55 106 rfl rfl) hc52)) (fun a' w' ph K => x_move (v := I r25.1) (es (t := 10) (v := I r25.1) ((K.out 10 rfl).trans rfl))))
                   (obsN_cons (ob_detg rfl rfl rfl (fun _ => rfl) (fun a' w' ph K => (guard_eq (show sl a' 106 = .bool (r25.2 == 0) from K.dep 55 106 rfl rfl) hc52)) (fun a' w' ph K => x_eql (es (t := 107) (v := I r25.1) (K.dep 56 107 rfl rfl)) (ec (v := I 2))))
                   (obsN_cons (od rfl (fun _ => rfl) (fun K => x_pick_t (v := .bool (r25.1 == 2)) (es (t := 106) (v := .bool (r25.2 == 0)) (K.dep 55 106 rfl rfl)) hc52 (es (t := 108) (v := .bool (r25.1 == 2)) (K.dep 57 108 rfl rfl))))
                   (obsN_cons (od rfl (fun _ => rfl) (fun K => x_move (v := .bool (r25.1 == 2)) (es (t := 109) (v := .bool (r25.1 == 2)) (K.dep 58 109 rfl rfl))))
                   (obsN_cons (ob_detg rfl rfl rfl (fun _ => rfl) (fun a' w' ph K => (guard_eq (show sl a' 110 = .bool (r25.1 == 2) from K.dep 59 110 rfl rfl) hc53)) (fun a' w' ph K => x_move (v := I r32.2) (es (t := 13) (v := I r32.2) ((K.out 13 rfl).trans rfl))))
                   (obsN_cons (ob_detg rfl rfl rfl (fun _ => rfl) (fun a' w' ph K => (guard_eq (show sl a' 110 = .bool (r25.1 == 2) from K.dep 59 110 rfl rfl) hc53)) (fun a' w' ph K => x_eql (es (t := 111) (v := I r32.2) (K.dep 60 111 rfl rfl)) (ec (v := I 0))))
                   (obsN_cons (od rfl (fun _ => rfl) (fun K => x_pick_t (v := .bool (r32.2 == 0)) (es (t := 110) (v := .bool (r25.1 == 2)) (K.dep 59 110 rfl rfl)) hc53 (es (t := 112) (v := .bool (r32.2 == 0)) (K.dep 61 112 rfl rfl))))
                   (obsN_cons (od rfl (fun _ => rfl) (fun K => x_move (v := .bool (r32.2 == 0)) (es (t := 113) (v := .bool (r32.2 == 0)) (K.dep 62 113 rfl rfl))))
                   (obsN_cons (ob_detg rfl rfl rfl (fun _ => rfl) (fun a' w' ph K => (guard_eq (show sl a' 114 = .bool (r32.2 == 0) from K.dep 63 114 rfl rfl) hc54)) (fun a' w' ph K => x_move (v := .slice A32_ra r32.1.length c32_ra) (es (t := 12) (v := .slice A32_ra r32.1.length c32_ra) ((K.out 12 rfl).trans rfl))))
                   (obsN_cons (ob_extg rfl rfl rfl (fun a' w' ph K => (guard_eq (show sl a' 114 = .bool (r32.2 == 0) from K.dep 63 114 rfl rfl) hc54)) (fun a' w' ph K => (x_buildSlice (e := 3) (vs := #[(0, I 0)]) (cs := #[I 0]) (pm1 (ec (v := I 0))) (by kernel_rfl)).mono (fun u w'' hh => kn_mk K.phT.size hh)))
                   (obsN_cons (ob_extg rfl rfl rfl (fun a' w' ph K => (guard_eq (show sl a' 114 = .bool (r32.2 == 0) from K.dep 63 114 rfl rfl) hc54)) (fun a' w' ph K => match K.dep 65 116 rfl rfl with | ⟨bb34_65, e34_65, l34_65, k34_65⟩ => (x_call0 own_30 rfl (am2 (es (t := 115) (v := .slice A32_ra r32.1.length c32_ra) (K.dep 64 115 rfl rfl)) (es (t := 116) (v := .slice (some ⟨bb34_65, 0, none⟩) 1 1) e34_65)) (a30 K_ r32.1 [0] A32_ra c32_ra (some ⟨bb34_65, 0, none⟩) 1 ZA _ (hS32_ra.mv (mv_ext K.phT)).all (sl_bk (xs := [0]) (css := [[I 0]]) k34_65 trivial ⟨rfl, trivial⟩ rfl (Nat.le_refl _)) r55 hr55)).mono (fun _ _ h => ⟨h.2, h.1⟩)))
                   (obsN_cons (od rfl (fun _ => rfl) (fun K => x_pick_t (v := .bool r55) (es (t := 114) (v := .bool (r32.2 == 0)) (K.dep 63 114 rfl rfl)) hc54 (es (t := 117) (v := .bool r55) (K.dep 66 117 rfl rfl))))
                   (obsN_nil _))))))))))))))))))))))))))))))))))))))))))))))))))))))))))))))))))))) ?_
               intro w34
               rintro _ rfl _ rfl _ rfl _ rfl _ rfl _ rfl _ rfl _ rfl _ rfl _ rfl _ rfl _ rfl _ rfl _ rfl _ rfl _ rfl _ rfl _ rfl _ rfl _ rfl _ rfl _ rfl _ rfl _ rfl _ rfl _ rfl _ rfl _ ⟨bb34_27, rfl, lobb34_27, bkbb34_27⟩ _ rfl _ rfl _ rfl _ rfl _ rfl _ rfl _ rfl _ rfl _ ⟨bb34_36, rfl, lobb34_36, bkbb34_36⟩ _ rfl _ rfl _ rfl _ rfl _ rfl _ rfl _ rfl _ rfl _ rfl _ rfl _ rfl _ rfl _ rfl _ rfl _ rfl _ rfl _ rfl _ rfl _ rfl _ rfl _ rfl _ rfl _ rfl _ rfl _ rfl _ rfl _ rfl _ rfl _ ⟨bb34_65, rfl, lobb34_65, bkbb34_65⟩ _ rfl _ rfl hx34
               have hp22 : Hp w [] w34 := hp21.ext hx34
               refine wa rfl (v := .bool r55) rfl <| wl_end <| lv_next <| cc_ret ?_
               have hr_ := Option.some.inj hG
               refine lv_ret1 rfl rfl ?_
               exact ⟨hp22.fin, congrArg Value.bool hr_⟩
              ·replace hG := cond_f hG hc54
               exact absurd (Option.some.inj hG) (by decide)
             ·replace hG := cond_f hG hc53
              exact absurd (Option.some.inj hG) (by decide)
            ·replace hG := cond_f hG hc52
             exact absurd (Option.some.inj hG) (by decide)
           ·replace hG := cond_f hG hc51
            exact absurd (Option.some.inj hG) (by decide)
          ·replace hG := cond_f hG hc50
           exact absurd (Option.some.inj hG) (by decide)
         ·replace hG := cond_f hG hc49
          exact absurd (Option.some.inj hG) (by decide)
        ·replace hG := cond_f hG hc48
         exact absurd (Option.some.inj hG) (by decide)
       ·replace hG := cond_f hG hc46
        exact absurd (Option.some.inj hG) (by decide)
      ·replace hG := cond_f hG hc45
       exact absurd (Option.some.inj hG) (by decide)
     ·replace hG := cond_f hG hc43
      exact absurd (Option.some.inj hG) (by decide)
    ·replace hG := cond_f hG hc42
     exact absurd (Option.some.inj hG) (by decide)
   ·replace hG := cond_f hG hc39
    exact absurd (Option.some.inj hG) (by decide)
  ·replace hG := cond_f hG hc36
   exact absurd (Option.some.inj hG) (by decide)
 ·replace hG := cond_f hG hc35
  exact absurd (Option.some.inj hG) (by decide)
end Go.Proofs.Ythogdgkafaclaaa
end
