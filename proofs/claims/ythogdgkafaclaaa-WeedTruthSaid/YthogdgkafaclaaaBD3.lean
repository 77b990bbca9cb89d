import Derived.Test.YthogdgkafaclaaaBD2
import Derived.WalkKit
import Derived.KernelRfl
import Derived.WalkSpells
import Derived.WalkLawsBesides
import Derived.Maps.AppendAt
import Derived.OrdersIn
import Derived.RangeFuncIn
import Derived.RangeFuncLeaves
import Derived.RangeFuncRecord
import Derived.RangeFuncSeq
import Derived.Scope
import Derived.DeepKeys3
import Derived.Laws.CopyRow
import Derived.Laws.OwnMore
import Derived.Test.YthogdgkafaclaaaProg
/-
  The contracts of the functions of the program and of the reference, and the logic that they are proved in: the base that several claims of this seat share.
-/
set_option linter.all false
section
set_option linter.unusedVariables false
set_option linter.unusedSimpArgs false
namespace Go.Proofs.Ythogdgkafaclaaa
open Go.RowKit
attribute [local irreducible] Ex1 WL CC CW LV Ret ObOp Agg One Own
theorem askE_zero {f : Fld} {bb : Bool} (h : askE f bb = 0) : check f = 0 ∧ bb = true ∧ truths f [] ≠ [] := by
  unfold askE at h
  split at h
  · omega
  · split at h
    · omega
    · split at h
      · omega
      · rename_i h1 h2 h3
        exact ⟨by omega, by simpa using h2, h3⟩
theorem c22 (f : Fld) (A : Option Addr) (c : Nat) (w : World) (hT : Rd w 0 w.heap.size A (flat encT f.ts)) :
    Ret Try.prog 22 #[.agg #[I f.rows, I f.wd, I f.lo, I f.hi, .slice A f.ts.length c]] w (fun v w' => Ext w w' ∧ (askE f true ≠ 0 → v = .tuple #[.slice none 0 0, .int .i64 (askE f true)]) ∧ (askE f true = 0 → ∃ A2 c2, v = .tuple #[.slice A2 f.wd.toNat c2, .int .i64 0] ∧ OwnS w' w.heap.size 33 2 A2 f.wd.toNat c2 (flat encR (donesTo f (truths f []) f.wd.toNat)))) := by
  refine ret_of_cc (N := 68) Try.func22 rfl rfl (by simp) ?_
  intro fr0 ha hdf
  have hp0 := sl_arg (i := 0) (v := .agg #[I f.rows, I f.wd, I f.lo, I f.hi, .slice A f.ts.length c]) ha rfl
  clear ha
  refine cc_seq <| cc_region <| we rfl (fun st => x_box (v := .agg #[I f.rows, I f.wd, I f.lo, I f.hi, .slice A f.ts.length c]) (cs := #[I f.rows, I f.wd, I f.lo, I f.hi, .slice A f.ts.length c]) (ee st hp0) rfl) ?_
  rintro _ w1 ⟨b1, rfl, nb1⟩
  have lo1 : w.heap.size ≤ b1 := by rw [nb1.b_eq]; exact (Below.refl w.heap.size w).size
  refine wa rfl (v := .slice none 0 0) rfl <| wa rfl (v := I 0) rfl <| wl_end <| lv_next <| cc_seq <| cc_region <| wd rfl (fun st => x_loadn (l := [I f.rows, I f.wd, I f.lo, I f.hi, .slice A f.ts.length c]) agg_36 (ee st rfl) nb1.bk rfl rfl) ?_
  have hT_w1 := (hT.ext nb1.gr)
  refine we rfl (fun st => x_call0 own_66 (ee st rfl) (am2 (ee st rfl) (ee st rfl)) (c66 f A c 67 #[] true _ own_67 (fun _ w1 _ => c67 w1) hT_w1.wide)) ?_
  rintro v2 w2 ⟨hx2, he1, he2⟩
  have hB_w1 := (bl_ext (Below.refl w.heap.size w) nb1.gr)
  rcases Decidable.em (askE f true = 0) with hE | hE
  · skip
    obtain ⟨q2, A9, c9, rfl, hq0, hbq, hOT⟩ := he2 hE
    have hrd := hOT.rd
    have h00 : ((0 : Int) != 0) = false := rfl
    obtain ⟨hck, hbb, hTne⟩ := askE_zero hE
    obtain ⟨⟨hr0, hr1⟩, ⟨hw0, hw1⟩, h5, hok, -, -⟩ := check_ok hck
    have h7 := truths_len (f := f) (out := []) (by omega)
    have hTpos : 0 < (truths f []).length := List.length_pos_iff.2 hTne
    have hcnt := truths_count (f := f) (out := []) (by omega) (by omega)
    have hq2_lt := hbq.lt
    obtain ⟨Q9, hqQ9⟩ : ∃ n, n = w2.heap.size := ⟨_, rfl⟩
    have hB_w2 := (bl_ext hB_w1 hx2)
    have hnQ9 : w.heap.size ≤ Q9 := by rw [hqQ9]; exact hB_w2.size
    have bk1_w2 := (nb1.bk.ext hx2)
    have hnQ9_b1 : b1 < Q9 := by rw [hqQ9]; exact bk1_w2.lt
    have hnQ9_q2 : q2 < Q9 := by rw [hqQ9]; exact hbq.lt
    have hnQ9_hrd : w2.heap.size ≤ Q9 := by rw [hqQ9]; exact hrd.le
    have hsQ9 : Q9 ≤ w2.heap.size := by omega
    refine wm rfl (v := .tuple #[pt q2 0, I (0 : Int)]) rfl <| wd rfl (fun st => x_extract (v := pt q2 0) (ee st rfl) rfl) <| wd rfl (fun st => x_extract (v := I (0 : Int)) (ee st rfl) rfl) <| wa rfl (v := pt q2 0) rfl <| wa rfl (v := I (0 : Int)) rfl <| wl_end <| lv_next <| cc_seq <| cc_seq <| cc_region <| wm rfl (v := I (0 : Int)) rfl <| wd rfl (fun st => x_neq (ee st rfl) (ee st rfl)) <| wl_end <| lv_next <| cc_cond_f rfl h00 <| cc_skip <| lv_next <| cc_seq <| cc_region <| wa rfl (v := .slice none 0 0) rfl <| wl_end <| lv_next <| cc_seq <| cc_seq <| cc_region <| wm rfl (v := pt q2 0) rfl <| wd rfl (fun st => x_nilCheck (ee st rfl)) <| wd rfl (fun st => x_fieldAddr (ee st rfl) (fz_102_0 _ _)) <| wd rfl (fun st => x_fieldAddr (ee st rfl) (fz_36_1 _ _)) <| wd rfl (fun st => x_load1 (v := I f.wd) one_3 (ee st rfl) hbq rfl) <| wm rfl (v := I 0) rfl <| wl_end <| lv_next <| cc_block ?_
    obtain ⟨NB, hqNB⟩ : ∃ n, n = w2.heap.size := ⟨_, rfl⟩
    have hnNB : w.heap.size ≤ NB := by rw [hqNB]; exact hB_w2.size
    have hnNB_b1 : b1 < NB := by rw [hqNB]; exact bk1_w2.lt
    have hnNB_q2 : q2 < NB := by rw [hqNB]; exact hbq.lt
    have hnNB_hrd : w2.heap.size ≤ NB := by rw [hqNB]; exact hrd.le
    have hnNB_hsQ9 : Q9 ≤ NB := by rw [hqNB]; exact hsQ9
    have hsNB : NB ≤ w2.heap.size := by omega
    have hT_w2 := (hT_w1.ext hx2)
    refine cc_loop (fun (m_ : Nat) (fr_ : Act) (w_ : World) => ∃ (k : Nat), ∃ (A2 : Option Addr), ∃ (c2 : Nat), m_ = f.wd.toNat - k ∧ (k ≤ f.wd.toNat) ∧ fr_.tmps.size = 68 ∧ fr_.defers = [] ∧ sl fr_ 0 = .agg #[I f.rows, I f.wd, I f.lo, I f.hi, .slice A f.ts.length c] ∧ sl fr_ 1 = pt b1 0 ∧ sl fr_ 2 = .slice none 0 0 ∧ sl fr_ 3 = I 0 ∧ sl fr_ 4 = pt q2 0 ∧ sl fr_ 5 = I (0 : Int) ∧ sl fr_ 12 = .tuple #[pt q2 0, I (0 : Int)] ∧ sl fr_ 13 = .agg #[I f.rows, I f.wd, I f.lo, I f.hi, .slice A f.ts.length c] ∧ sl fr_ 14 = .tuple #[pt q2 0, I (0 : Int)] ∧ sl fr_ 15 = pt q2 0 ∧ sl fr_ 16 = I (0 : Int) ∧ sl fr_ 17 = I (0 : Int) ∧ sl fr_ 18 = .bool ((0 : Int) != 0) ∧ sl fr_ 20 = pt q2 0 ∧ sl fr_ 21 = pt q2 0 ∧ sl fr_ 22 = pt q2 0 ∧ sl fr_ 23 = pt q2 1 ∧ sl fr_ 24 = I f.wd ∧ sl fr_ 6 = .slice A2 k c2 ∧ sl fr_ 25 = I ((k : Nat) : Int) ∧ Below w.heap.size w w_ ∧ Rd w_ 0 w.heap.size A (flat encT f.ts) ∧ Bk w_ b1 36 #[I f.rows, I f.wd, I f.lo, I f.hi, .slice A f.ts.length c] ∧ Bk w_ q2 102 #[I f.rows, I f.wd, I f.lo, I f.hi, .slice A f.ts.length c, .slice A9 ((truths f []).length) c9] ∧ Rd w_ w1.heap.size w2.heap.size A9 (flat ivs (truths f [])) ∧ Q9 ≤ w_.heap.size ∧ NB ≤ w_.heap.size ∧ OwnS w_ NB 33 2 A2 k c2 (flat encR (donesTo f (truths f []) k))) (f.wd.toNat - 0) ?init3 ?round3
    case init3 =>
      intro st
      exact ⟨0, none, 0, rfl, by omega, (puts_size _ _).trans st.sz, (puts_defers _ _).trans st.df, (sl_puts st 0).trans hp0, (sl_puts st 1).trans rfl, (sl_puts st 2).trans rfl, (sl_puts st 3).trans rfl, (sl_puts st 4).trans rfl, (sl_puts st 5).trans rfl, (sl_puts st 12).trans rfl, (sl_puts st 13).trans rfl, (sl_puts st 14).trans rfl, (sl_puts st 15).trans rfl, (sl_puts st 16).trans rfl, (sl_puts st 17).trans rfl, (sl_puts st 18).trans rfl, (sl_puts st 20).trans rfl, (sl_puts st 21).trans rfl, (sl_puts st 22).trans rfl, (sl_puts st 23).trans rfl, (sl_puts st 24).trans rfl, (sl_puts st 6).trans (rfl), (sl_puts st 25).trans (rfl), hB_w2, hT_w2, bk1_w2, hbq, hrd, hsQ9, hsNB, (OwnS.nil _ _ _ _)⟩
    case round3 =>
      rintro m_ fr3 w3 ⟨k, A2, c2, rfl, hk, hsz3, hdf3, hs3_0, hs3_1, hs3_2, hs3_3, hs3_4, hs3_5, hs3_12, hs3_13, hs3_14, hs3_15, hs3_16, hs3_17, hs3_18, hs3_20, hs3_21, hs3_22, hs3_23, hs3_24, hs3_6, hs3_25, hB_w3, hT_w3, bk1_w3, hbq_w3, hrd_w3, hsQ9_w3, hsNB_w3, hOwn_w3⟩
      refine round_cc (N := 68) hsz3 hdf3 ?_
      obtain ⟨MB, hqMB⟩ : ∃ n, n = w3.heap.size := ⟨_, rfl⟩
      have hnMB : w.heap.size ≤ MB := by rw [hqMB]; exact hB_w3.size
      have hnMB_b1 : b1 < MB := by rw [hqMB]; exact bk1_w3.lt
      have hnMB_q2 : q2 < MB := by rw [hqMB]; exact hbq_w3.lt
      have hnMB_hrd : w2.heap.size ≤ MB := by rw [hqMB]; exact hrd_w3.le
      have hnMB_hsQ9 : Q9 ≤ MB := by rw [hqMB]; exact hsQ9_w3
      have hnMB_hsNB : NB ≤ MB := by rw [hqMB]; exact hsNB_w3
      have hsMB : MB ≤ w3.heap.size := by omega
      have hltO : ∀ k o, A2 = some ⟨k, o, none⟩ → k < MB := fun k o h => by rw [hqMB]; exact (hOwn_w3.blk h).2.1
      refine cc_seq <| cc_region <| wd rfl (fun st => x_lss (ee st hs3_25) (ee st hs3_24)) <| wl_end <| lv_next <| cc_seq ?_
      rcases bool_cases (decide (((k : Nat) : Int) < f.wd)) with hc4 | hc4
      · refine cc_cond_t rfl hc4 ?_
        have hc4p := hc4
        have hc4p := of_decide_eq_true hc4p
        refine cc_skip <| lv_next <| cc_seq <| cc_block <| cc_seq <| cc_region <| wm rfl (v := I ((k : Nat) : Int)) hs3_25 <| wa rfl (v := I ((k : Nat) : Int)) rfl <| wl_end <| lv_next <| cc_seq ?_
        obtain ⟨bq6, oq6, hA6, -, -, -⟩ := Rd.elem7 h7 hrd_w3 (k := 0) (by omega)
        obtain ⟨x7, hx7⟩ : ∃ x, (truths f [])[0]? = some x := ⟨_, List.getElem?_eq_getElem (by omega)⟩
        refine cc_any0 [Kc (pt q2 0), Kc (pt q2 0), Kc (pt q2 0), Kc (.agg #[I f.rows, I f.wd, I f.lo, I f.hi, .slice A f.ts.length c]), Kc (pt q2 0), Kc (pt q2 0), Kc (pt q2 5), Kc (.slice A9 ((truths f []).length) c9), Kc (pt bq6 (oq6 + 0 * 7)), Kc (ansV x7), Kc (I ((k : Nat) : Int)), Kc (I ((cnt ((k : Nat) : Int) (x7.take f.rows.toNat) : Nat) : Int)), Kc (I ((cnt ((k : Nat) : Int) (x7.take f.rows.toNat) : Nat) : Int))] mixed rfl
            (obs_cons (ob_det rfl rfl (fun _ => rfl) (fun a' w' ph K => x_move (v := pt q2 0) (es (t := 4) (v := pt q2 0) ((K.out 4 rfl).trans hs3_4))))
            (obs_cons (ob_det rfl rfl (fun _ => rfl) (fun a' w' ph K => x_nilCheck (es (t := 28) (v := pt q2 0) (K.dep 0 28 rfl rfl))))
            (obs_cons (ob_det rfl rfl (fun _ => rfl) (fun a' w' ph K => x_fieldAddr (es (t := 29) (v := pt q2 0) (K.dep 1 29 rfl rfl)) (fz_102_0 _ _)))
            (obs_cons (ob_det rfl rfl (fun _ => rfl) (fun a' w' ph K => x_loadn (l := [I f.rows, I f.wd, I f.lo, I f.hi, .slice A f.ts.length c]) agg_36 (es (t := 30) (v := pt q2 0) (K.dep 2 30 rfl rfl)) (hbq_w3.ext K.phT) rfl rfl))
            (obs_cons (ob_det rfl rfl (fun _ => rfl) (fun a' w' ph K => x_move (v := pt q2 0) (es (t := 4) (v := pt q2 0) ((K.out 4 rfl).trans hs3_4))))
            (obs_cons (ob_det rfl rfl (fun _ => rfl) (fun a' w' ph K => x_nilCheck (es (t := 32) (v := pt q2 0) (K.dep 4 32 rfl rfl))))
            (obs_cons (ob_det rfl rfl (fun _ => rfl) (fun a' w' ph K => x_fieldAddr (es (t := 33) (v := pt q2 0) (K.dep 5 33 rfl rfl)) (fz_102_1 _ _)))
            (obs_cons (ob_det rfl rfl (fun _ => rfl) (fun a' w' ph K => x_load1 (v := .slice A9 ((truths f []).length) c9) one_100 (es (t := 34) (v := pt q2 5) (K.dep 6 34 rfl rfl)) (hbq_w3.ext K.phT) rfl))
            (obs_cons (ob_det rfl rfl (fun _ => rfl) (fun a' w' ph K => x_indexAddrN (k := 0) Try.underlying100 sz_105 (es (t := 35) (v := .slice A9 ((truths f []).length) c9) (K.dep 7 35 rfl rfl)) hA6 (ec (v := I 0)) rfl (by omega)))
            (obs_cons (ob_det rfl rfl (fun _ => rfl) (fun a' w' ph K => x_load_rdn (l := ivs x7) agg_105 (es (t := 36) (v := pt bq6 (oq6 + 0 * 7)) (K.dep 8 36 rfl rfl)) ((hrd_w3.ext K.phT).cells hA6) (flat7_at h7 hx7) (by rw [ivs_len]; exact (h7 x7 (List.mem_of_getElem? hx7)))))
            (obs_cons (ob_det rfl rfl (fun _ => rfl) (fun a' w' ph K => x_move (v := I ((k : Nat) : Int)) (es (t := 7) (v := I ((k : Nat) : Int)) ((K.out 7 rfl).trans rfl))))
            (obs_cons (ob_ext rfl rfl (fun a' w' ph K => (x_call0 own_68 rfl (am3 (es (t := 31) (v := .agg #[I f.rows, I f.wd, I f.lo, I f.hi, .slice A f.ts.length c]) (K.dep 3 31 rfl rfl)) (es (t := 37) (v := ansV x7) (K.dep 9 37 rfl rfl)) (es (t := 38) (v := I ((k : Nat) : Int)) (K.dep 10 38 rfl rfl))) (c68 f A c x7 ((k : Nat) : Int) _ (by omega) (by omega) (h7 x7 (List.mem_of_getElem? hx7)))).mono (fun _ _ h => h)))
            (obs_cons (ob_det rfl rfl (fun _ => rfl) (fun a' w' ph K => x_assign (v := I ((cnt ((k : Nat) : Int) (x7.take f.rows.toNat) : Nat) : Int)) (es (t := 39) (v := I ((cnt ((k : Nat) : Int) (x7.take f.rows.toNat) : Nat) : Int)) (K.dep 11 39 rfl rfl))))
            (obs_nil _)))))))))))))) ?_
        intro w5 hx5
        rintro _ rfl _ rfl _ rfl _ rfl _ rfl _ rfl _ rfl _ rfl _ rfl _ rfl _ rfl _ rfl _ rfl
        refine lv_next <| cc_seq <| cc_region <| wm rfl (v := I ((cnt ((k : Nat) : Int) (x7.take f.rows.toNat) : Nat) : Int)) rfl <| wm rfl (v := I ((cnt ((k : Nat) : Int) (x7.take f.rows.toNat) : Nat) : Int)) rfl <| wd rfl (fun st => x_build (vs := #[(0, I ((cnt ((k : Nat) : Int) (x7.take f.rows.toNat) : Nat) : Int)), (1, I ((cnt ((k : Nat) : Int) (x7.take f.rows.toNat) : Nat) : Int))]) (v := .agg #[I ((cnt ((k : Nat) : Int) (x7.take f.rows.toNat) : Nat) : Int), I ((cnt ((k : Nat) : Int) (x7.take f.rows.toNat) : Nat) : Int)]) (pm2 (ee st rfl) (ee st rfl)) (by kernel_rfl)) <| we rfl (fun st => x_alloc (cs := #[I 0, I 0]) zero_33 rfl) ?_
        rintro _ w9 ⟨b9, rfl, nb9⟩
        have hB_w5 := (bl_ext hB_w3 hx5)
        have lo9 : w.heap.size ≤ b9 := by rw [nb9.b_eq]; exact hB_w5.size
        have hsQ9_w5 := (Nat.le_trans hsQ9_w3 hx5.size)
        have lQ9_9 : Q9 ≤ b9 := by rw [nb9.b_eq]; exact hsQ9_w5
        have hsNB_w5 := (Nat.le_trans hsNB_w3 hx5.size)
        have lNB_9 : NB ≤ b9 := by rw [nb9.b_eq]; exact hsNB_w5
        have hsMB_w5 := (Nat.le_trans hsMB hx5.size)
        have lMB_9 : MB ≤ b9 := by rw [nb9.b_eq]; exact hsMB_w5
        have bk1_w5 := (bk1_w3.ext hx5)
        have ltb1_9 : b1 < b9 := by rw [nb9.b_eq]; exact bk1_w5.lt
        have hbq_w5 := (hbq_w3.ext hx5)
        have ltq2_9 : q2 < b9 := by rw [nb9.b_eq]; exact hbq_w5.lt
        refine wl_ex0 rfl rfl (fun st => x_store (n := 2) (l := [I ((cnt ((k : Nat) : Int) (x7.take f.rows.toNat) : Nat) : Int), I ((cnt ((k : Nat) : Int) (x7.take f.rows.toNat) : Nat) : Int)]) (cs' := #[I ((cnt ((k : Nat) : Int) (x7.take f.rows.toNat) : Nat) : Int), I ((cnt ((k : Nat) : Int) (x7.take f.rows.toNat) : Nat) : Int)]) (ee st rfl) (ee st rfl) sz_33 nb9.bk rfl rfl (show 0 + 2 ≤ 2 by decide) (one_cells rfl) rfl) ?_
        rintro _ w10 sb10
        refine wl_end <| lv_next <| cc_seq <| cc_seq <| cc_region <| wm rfl (v := pt q2 0) hs3_4 <| wd rfl (fun st => x_nilCheck (ee st rfl)) <| wd rfl (fun st => x_fieldAddr (ee st rfl) (fz_102_1 _ _)) ?_
        have hbq_w10 := ((hbq_w5.ext nb9.gr).upd sb10.gr (by omega))
        refine wd rfl (fun st => x_load1 (v := .slice A9 ((truths f []).length) c9) one_100 (ee st rfl) hbq_w10 rfl) <| wd rfl (fun st => x_len Try.underlying100 (ee st rfl)) <| wm rfl (v := I 0) rfl <| wl_end <| lv_next <| cc_block ?_
        have hT_w10 := (((hT_w3.ext hx5).ext nb9.gr).upd sb10.gr (by omega))
        have bk1_w10 := ((bk1_w5.ext nb9.gr).upd sb10.gr (by omega))
        have hrd_w10 := (((hrd_w3.ext hx5).ext nb9.gr).upd sb10.gr (by omega))
        have hsQ9_w10 := (Nat.le_trans (Nat.le_trans hsQ9_w5 nb9.gr.size) sb10.gr.size)
        have hsNB_w10 := (Nat.le_trans (Nat.le_trans hsNB_w5 nb9.gr.size) sb10.gr.size)
        have hOwn_w10 := (((hOwn_w3.ext hx5).ext nb9.gr).updx sb10.gr hltO (by omega))
        have hsMB_w10 := (Nat.le_trans (Nat.le_trans hsMB_w5 nb9.gr.size) sb10.gr.size)
        have hB_w10 := (bl_upd (bl_ext hB_w5 nb9.gr) sb10.gr (by omega))
        refine cc_loop (fun (m_ : Nat) (fr_ : Act) (w_ : World) => ∃ (j : Nat), m_ = (truths f []).length - j ∧ (j ≤ (truths f []).length) ∧ fr_.tmps.size = 68 ∧ fr_.defers = [] ∧ sl fr_ 0 = .agg #[I f.rows, I f.wd, I f.lo, I f.hi, .slice A f.ts.length c] ∧ sl fr_ 1 = pt b1 0 ∧ sl fr_ 2 = .slice none 0 0 ∧ sl fr_ 3 = I 0 ∧ sl fr_ 4 = pt q2 0 ∧ sl fr_ 5 = I (0 : Int) ∧ sl fr_ 6 = .slice A2 k c2 ∧ sl fr_ 7 = I ((k : Nat) : Int) ∧ sl fr_ 8 = I ((cnt ((k : Nat) : Int) (x7.take f.rows.toNat) : Nat) : Int) ∧ sl fr_ 9 = pt b9 0 ∧ sl fr_ 12 = .tuple #[pt q2 0, I (0 : Int)] ∧ sl fr_ 13 = .agg #[I f.rows, I f.wd, I f.lo, I f.hi, .slice A f.ts.length c] ∧ sl fr_ 14 = .tuple #[pt q2 0, I (0 : Int)] ∧ sl fr_ 15 = pt q2 0 ∧ sl fr_ 16 = I (0 : Int) ∧ sl fr_ 17 = I (0 : Int) ∧ sl fr_ 18 = .bool ((0 : Int) != 0) ∧ sl fr_ 20 = pt q2 0 ∧ sl fr_ 21 = pt q2 0 ∧ sl fr_ 22 = pt q2 0 ∧ sl fr_ 23 = pt q2 1 ∧ sl fr_ 24 = I f.wd ∧ sl fr_ 25 = I ((k : Nat) : Int) ∧ sl fr_ 26 = .bool (decide (((k : Nat) : Int) < f.wd)) ∧ sl fr_ 27 = I ((k : Nat) : Int) ∧ sl fr_ 28 = pt q2 0 ∧ sl fr_ 29 = pt q2 0 ∧ sl fr_ 30 = pt q2 0 ∧ sl fr_ 31 = .agg #[I f.rows, I f.wd, I f.lo, I f.hi, .slice A f.ts.length c] ∧ sl fr_ 32 = pt q2 0 ∧ sl fr_ 33 = pt q2 0 ∧ sl fr_ 34 = pt q2 5 ∧ sl fr_ 35 = .slice A9 ((truths f []).length) c9 ∧ sl fr_ 36 = pt bq6 (oq6 + 0 * 7) ∧ sl fr_ 37 = ansV x7 ∧ sl fr_ 38 = I ((k : Nat) : Int) ∧ sl fr_ 39 = I ((cnt ((k : Nat) : Int) (x7.take f.rows.toNat) : Nat) : Int) ∧ sl fr_ 40 = I ((cnt ((k : Nat) : Int) (x7.take f.rows.toNat) : Nat) : Int) ∧ sl fr_ 41 = I ((cnt ((k : Nat) : Int) (x7.take f.rows.toNat) : Nat) : Int) ∧ sl fr_ 42 = .agg #[I ((cnt ((k : Nat) : Int) (x7.take f.rows.toNat) : Nat) : Int), I ((cnt ((k : Nat) : Int) (x7.take f.rows.toNat) : Nat) : Int)] ∧ sl fr_ 43 = pt q2 0 ∧ sl fr_ 44 = pt q2 0 ∧ sl fr_ 45 = pt q2 5 ∧ sl fr_ 46 = .slice A9 ((truths f []).length) c9 ∧ sl fr_ 47 = I (((truths f []).length : Nat) : Int) ∧ sl fr_ 48 = I ((j : Nat) : Int) ∧ Below w.heap.size w w_ ∧ Rd w_ 0 w.heap.size A (flat encT f.ts) ∧ Bk w_ b1 36 #[I f.rows, I f.wd, I f.lo, I f.hi, .slice A f.ts.length c] ∧ Bk w_ q2 102 #[I f.rows, I f.wd, I f.lo, I f.hi, .slice A f.ts.length c, .slice A9 ((truths f []).length) c9] ∧ Rd w_ w1.heap.size w2.heap.size A9 (flat ivs (truths f [])) ∧ Q9 ≤ w_.heap.size ∧ NB ≤ w_.heap.size ∧ OwnS w_ NB 33 2 A2 k c2 (flat encR (donesTo f (truths f []) k)) ∧ MB ≤ w_.heap.size ∧ Bk w_ b9 33 #[I ((((truths f []).take j).foldl (rngS f (k : Int)) (cntr f ((truths f []).headD []) (k : Int), cntr f ((truths f []).headD []) (k : Int))).1), I ((((truths f []).take j).foldl (rngS f (k : Int)) (cntr f ((truths f []).headD []) (k : Int), cntr f ((truths f []).headD []) (k : Int))).2)]) ((truths f []).length - 0) ?init11 ?round11
        case init11 =>
          intro st
          exact ⟨0, rfl, by omega, (puts_size _ _).trans st.sz, (puts_defers _ _).trans st.df, (sl_puts st 0).trans hs3_0, (sl_puts st 1).trans hs3_1, (sl_puts st 2).trans hs3_2, (sl_puts st 3).trans hs3_3, (sl_puts st 4).trans hs3_4, (sl_puts st 5).trans hs3_5, (sl_puts st 6).trans hs3_6, (sl_puts st 7).trans rfl, (sl_puts st 8).trans rfl, (sl_puts st 9).trans rfl, (sl_puts st 12).trans hs3_12, (sl_puts st 13).trans hs3_13, (sl_puts st 14).trans hs3_14, (sl_puts st 15).trans hs3_15, (sl_puts st 16).trans hs3_16, (sl_puts st 17).trans hs3_17, (sl_puts st 18).trans hs3_18, (sl_puts st 20).trans hs3_20, (sl_puts st 21).trans hs3_21, (sl_puts st 22).trans hs3_22, (sl_puts st 23).trans hs3_23, (sl_puts st 24).trans hs3_24, (sl_puts st 25).trans hs3_25, (sl_puts st 26).trans rfl, (sl_puts st 27).trans rfl, (sl_puts st 28).trans rfl, (sl_puts st 29).trans rfl, (sl_puts st 30).trans rfl, (sl_puts st 31).trans rfl, (sl_puts st 32).trans rfl, (sl_puts st 33).trans rfl, (sl_puts st 34).trans rfl, (sl_puts st 35).trans rfl, (sl_puts st 36).trans rfl, (sl_puts st 37).trans rfl, (sl_puts st 38).trans rfl, (sl_puts st 39).trans rfl, (sl_puts st 40).trans rfl, (sl_puts st 41).trans rfl, (sl_puts st 42).trans rfl, (sl_puts st 43).trans rfl, (sl_puts st 44).trans rfl, (sl_puts st 45).trans rfl, (sl_puts st 46).trans rfl, (sl_puts st 47).trans rfl, (sl_puts st 48).trans (rfl), hB_w10, hT_w10, bk1_w10, hbq_w10, hrd_w10, hsQ9_w10, hsNB_w10, hOwn_w10, hsMB_w10, (by rw [List.take_zero, List.foldl_nil, headD_some hx7]; exact sb10.bk)⟩
        case round11 =>
          rintro m_ fr11 w11 ⟨j, rfl, hj, hsz11, hdf11, hs11_0, hs11_1, hs11_2, hs11_3, hs11_4, hs11_5, hs11_6, hs11_7, hs11_8, hs11_9, hs11_12, hs11_13, hs11_14, hs11_15, hs11_16, hs11_17, hs11_18, hs11_20, hs11_21, hs11_22, hs11_23, hs11_24, hs11_25, hs11_26, hs11_27, hs11_28, hs11_29, hs11_30, hs11_31, hs11_32, hs11_33, hs11_34, hs11_35, hs11_36, hs11_37, hs11_38, hs11_39, hs11_40, hs11_41, hs11_42, hs11_43, hs11_44, hs11_45, hs11_46, hs11_47, hs11_48, hB_w11, hT_w11, bk1_w11, hbq_w11, hrd_w11, hsQ9_w11, hsNB_w11, hOwn_w11, hsMB_w11, bk9_w11⟩
          refine round_cc (N := 68) hsz11 hdf11 <| cc_seq <| cc_region <| wd rfl (fun st => x_lss (ee st hs11_48) (ee st hs11_47)) <| wl_end <| lv_next <| cc_seq ?_
          rcases bool_cases (decide (((j : Nat) : Int) < (((truths f []).length : Nat) : Int))) with hc12 | hc12
          · refine cc_cond_t rfl hc12 ?_
            have hc12p := hc12
            have hc12p := of_decide_eq_true hc12p
            refine cc_skip <| lv_next <| cc_seq <| cc_block <| cc_seq <| cc_region ?_
            obtain ⟨x13, hx13⟩ : ∃ x, (truths f [])[j]? = some x := ⟨_, List.getElem?_eq_getElem (by omega)⟩
            refine wd rfl (fun st => x_indexAddrN (k := j) Try.underlying100 sz_105 (ee st hs11_46) hA6 (ee st hs11_48) rfl (by omega)) <| wd rfl (fun st => x_load_rdn (l := ivs x13) agg_105 (ee st rfl) (hrd_w11.cells hA6) (flat7_at h7 hx13) (by rw [ivs_len]; exact (h7 x13 (List.mem_of_getElem? hx13)))) <| we rfl (fun st => x_alloc (cs := #[I 0, I 0, I 0, I 0, I 0, I 0, I 0]) zero_105 rfl) ?_
            rintro _ w14 ⟨b14, rfl, nb14⟩
            have lo14 : w.heap.size ≤ b14 := by rw [nb14.b_eq]; exact hB_w11.size
            have lQ9_14 : Q9 ≤ b14 := by rw [nb14.b_eq]; exact hsQ9_w11
            have lNB_14 : NB ≤ b14 := by rw [nb14.b_eq]; exact hsNB_w11
            have lMB_14 : MB ≤ b14 := by rw [nb14.b_eq]; exact hsMB_w11
            have ltb1_14 : b1 < b14 := by rw [nb14.b_eq]; exact bk1_w11.lt
            have ltq2_14 : q2 < b14 := by rw [nb14.b_eq]; exact hbq_w11.lt
            have ltb9_14 : b9 < b14 := by rw [nb14.b_eq]; exact bk9_w11.lt
            refine wl_ex0 rfl rfl (fun st => x_store_all (n := 7) (cs' := (ivs x13).toArray) (ee st rfl) (ee st rfl) sz_105 nb14.bk rfl (by simp [ivs, (h7 x13 (List.mem_of_getElem? hx13))]) rfl (one_ivs x13)) ?_
            rintro _ w15 sb15
            refine wl_end <| lv_next ?_
            have bk9_w15 := ((bk9_w11.ext nb14.gr).upd sb15.gr (by omega))
            have hbq_w15 := ((hbq_w11.ext nb14.gr).upd sb15.gr (by omega))
            refine cc_any (fun _ _ => True) (T2 w15 b9 (fun w_ => Bk w_ b9 33 #[I (minL [(((truths f []).take j).foldl (rngS f (k : Int)) (cntr f ((truths f []).headD []) (k : Int), cntr f ((truths f []).headD []) (k : Int))).1, ((cnt ((k : Nat) : Int) (x13.take f.rows.toNat) : Nat) : Int)]), I (max ((((truths f []).take j).foldl (rngS f (k : Int)) (cntr f ((truths f []).headD []) (k : Int), cntr f ((truths f []).headD []) (k : Int))).2) ((cnt ((k : Nat) : Int) (x13.take f.rows.toNat) : Nat) : Int))])) [9] [Kc (.agg #[I ((((truths f []).take j).foldl (rngS f (k : Int)) (cntr f ((truths f []).headD []) (k : Int), cntr f ((truths f []).headD []) (k : Int))).1), I ((((truths f []).take j).foldl (rngS f (k : Int)) (cntr f ((truths f []).headD []) (k : Int), cntr f ((truths f []).headD []) (k : Int))).2)]), Kc (pt q2 0), Kc (pt q2 0), Kc (pt q2 0), Kc (.agg #[I f.rows, I f.wd, I f.lo, I f.hi, .slice A f.ts.length c]), Kc (ansV x13), Kc (I ((k : Nat) : Int)), Kc (I ((cnt ((k : Nat) : Int) (x13.take f.rows.toNat) : Nat) : Int)), Kc (.agg #[I (minL [(((truths f []).take j).foldl (rngS f (k : Int)) (cntr f ((truths f []).headD []) (k : Int), cntr f ((truths f []).headD []) (k : Int))).1, ((cnt ((k : Nat) : Int) (x13.take f.rows.toNat) : Nat) : Int)]), I (max ((((truths f []).take j).foldl (rngS f (k : Int)) (cntr f ((truths f []).headD []) (k : Int), cntr f ((truths f []).headD []) (k : Int))).2) ((cnt ((k : Nat) : Int) (x13.take f.rows.toNat) : Nat) : Int))]), Kt] mixed rfl (fun _ _ _ => trivial) (T2_ext (fun _ _ h g => h.ext g)) (ext_drew w15)
                (obs_cons (ob_det rfl rfl (fun _ => rfl) (fun a' w' ph K => x_loadn (l := [I ((((truths f []).take j).foldl (rngS f (k : Int)) (cntr f ((truths f []).headD []) (k : Int), cntr f ((truths f []).headD []) (k : Int))).1), I ((((truths f []).take j).foldl (rngS f (k : Int)) (cntr f ((truths f []).headD []) (k : Int), cntr f ((truths f []).headD []) (k : Int))).2)]) agg_33 (es (t := 9) (v := pt b9 0) ((K.out 9 rfl).trans hs11_9)) (bk9_w15.ext (T2_zero K.phT (Nat.le_zero.1 (K.lat 0 9 _ rfl rfl rfl)))) rfl rfl))
                (obs_cons (ob_det rfl rfl (fun _ => rfl) (fun a' w' ph K => x_move (v := pt q2 0) (es (t := 4) (v := pt q2 0) ((K.out 4 rfl).trans hs11_4))))
                (obs_cons (ob_det rfl rfl (fun _ => rfl) (fun a' w' ph K => x_nilCheck (es (t := 53) (v := pt q2 0) (K.dep 1 53 rfl rfl))))
                (obs_cons (ob_det rfl rfl (fun _ => rfl) (fun a' w' ph K => x_fieldAddr (es (t := 54) (v := pt q2 0) (K.dep 2 54 rfl rfl)) (fz_102_0 _ _)))
                (obs_cons (ob_det rfl rfl (fun _ => rfl) (fun a' w' ph K => x_loadn (l := [I f.rows, I f.wd, I f.lo, I f.hi, .slice A f.ts.length c]) agg_36 (es (t := 55) (v := pt q2 0) (K.dep 3 55 rfl rfl)) (hbq_w15.t2 K.phT (by omega)) rfl rfl))
                (obs_cons (ob_det rfl rfl (fun _ => rfl) (fun a' w' ph K => x_load_all agg_105 (es (t := 11) (v := pt b14 0) ((K.out 11 rfl).trans rfl)) (sb15.bk.t2 K.phT (by omega)) (by simp [ivs, (h7 x13 (List.mem_of_getElem? hx13))])))
                (obs_cons (ob_det rfl rfl (fun _ => rfl) (fun a' w' ph K => x_move (v := I ((k : Nat) : Int)) (es (t := 7) (v := I ((k : Nat) : Int)) ((K.out 7 rfl).trans hs11_7))))
                (obs_cons (ob_ext rfl rfl (fun a' w' ph K => (x_call0 own_68 rfl (am3 (es (t := 56) (v := .agg #[I f.rows, I f.wd, I f.lo, I f.hi, .slice A f.ts.length c]) (K.dep 4 56 rfl rfl)) (es (t := 57) (v := ansV x13) (K.dep 5 57 rfl rfl)) (es (t := 58) (v := I ((k : Nat) : Int)) (K.dep 6 58 rfl rfl))) (c68 f A c x13 ((k : Nat) : Int) _ (by omega) (by omega) (h7 x13 (List.mem_of_getElem? hx13)))).mono (fun _ _ h => h)))
                (obs_cons (ob_ext rfl rfl (fun a' w' ph K => (x_call0 own_69 rfl (am2 (es (t := 52) (v := .agg #[I ((((truths f []).take j).foldl (rngS f (k : Int)) (cntr f ((truths f []).headD []) (k : Int), cntr f ((truths f []).headD []) (k : Int))).1), I ((((truths f []).take j).foldl (rngS f (k : Int)) (cntr f ((truths f []).headD []) (k : Int), cntr f ((truths f []).headD []) (k : Int))).2)]) (K.dep 0 52 rfl rfl)) (es (t := 59) (v := I ((cnt ((k : Nat) : Int) (x13.take f.rows.toNat) : Nat) : Int)) (K.dep 7 59 rfl rfl))) (c69 ((((truths f []).take j).foldl (rngS f (k : Int)) (cntr f ((truths f []).headD []) (k : Int), cntr f ((truths f []).headD []) (k : Int))).1) ((((truths f []).take j).foldl (rngS f (k : Int)) (cntr f ((truths f []).headD []) (k : Int), cntr f ((truths f []).headD []) (k : Int))).2) ((cnt ((k : Nat) : Int) (x13.take f.rows.toNat) : Nat) : Int) _)).mono (fun _ _ h => h)))
                (obs_cons (ob_spec rfl rfl (fun a' w' ph K => (x_store (n := 2) (l := [I (minL [(((truths f []).take j).foldl (rngS f (k : Int)) (cntr f ((truths f []).headD []) (k : Int), cntr f ((truths f []).headD []) (k : Int))).1, ((cnt ((k : Nat) : Int) (x13.take f.rows.toNat) : Nat) : Int)]), I (max ((((truths f []).take j).foldl (rngS f (k : Int)) (cntr f ((truths f []).headD []) (k : Int), cntr f ((truths f []).headD []) (k : Int))).2) ((cnt ((k : Nat) : Int) (x13.take f.rows.toNat) : Nat) : Int))]) (cs' := #[I (minL [(((truths f []).take j).foldl (rngS f (k : Int)) (cntr f ((truths f []).headD []) (k : Int), cntr f ((truths f []).headD []) (k : Int))).1, ((cnt ((k : Nat) : Int) (x13.take f.rows.toNat) : Nat) : Int)]), I (max ((((truths f []).take j).foldl (rngS f (k : Int)) (cntr f ((truths f []).headD []) (k : Int), cntr f ((truths f []).headD []) (k : Int))).2) ((cnt ((k : Nat) : Int) (x13.take f.rows.toNat) : Nat) : Int))]) (es (t := 9) (v := pt b9 0) ((K.out 9 rfl).trans hs11_9)) (es (t := 60) (v := .agg #[I (minL [(((truths f []).take j).foldl (rngS f (k : Int)) (cntr f ((truths f []).headD []) (k : Int), cntr f ((truths f []).headD []) (k : Int))).1, ((cnt ((k : Nat) : Int) (x13.take f.rows.toNat) : Nat) : Int)]), I (max ((((truths f []).take j).foldl (rngS f (k : Int)) (cntr f ((truths f []).headD []) (k : Int), cntr f ((truths f []).headD []) (k : Int))).2) ((cnt ((k : Nat) : Int) (x13.take f.rows.toNat) : Nat) : Int))]) (K.dep 8 60 rfl rfl)) sz_33 (bk9_w15.ext (T2_zero K.phT (K.spi 0 rfl))) rfl rfl (show 0 + 2 ≤ 2 by decide) (one_cells rfl) rfl).mono (fun _ _ h => ⟨trivial, trivial, T2_up K.phT (K.spi 0 rfl) h.gr h.bk⟩)))
                (obs_nil _))))))))))) ?_
            rintro w16 ⟨hx16, hm16⟩
            rintro _ rfl _ rfl _ rfl _ rfl _ rfl _ rfl _ rfl _ rfl _ rfl
            refine lv_block <| lv_next <| cc_region <| wd rfl (fun st => x_add (ee st hs11_48) (ee st rfl) ⟨by omega, by omega⟩) <| wm rfl (v := I (((j : Nat) : Int) + 1)) rfl <| wl_end ?_
            have hB_w16 := (bl_upd (bl_upd (bl_ext hB_w11 nb14.gr) sb15.gr (by omega)) hx16 (by omega))
            have hT_w16 := (((hT_w11.ext nb14.gr).upd sb15.gr (by omega)).upd hx16 (by omega))
            have bk1_w16 := (((bk1_w11.ext nb14.gr).upd sb15.gr (by omega)).upd hx16 (by omega))
            have hbq_w16 := (hbq_w15.upd hx16 (by omega))
            have hrd_w16 := (((hrd_w11.ext nb14.gr).upd sb15.gr (by omega)).upd hx16 (by omega))
            have hsQ9_w16 := (Nat.le_trans (Nat.le_trans (Nat.le_trans hsQ9_w11 nb14.gr.size) sb15.gr.size) hx16.size)
            have hsNB_w16 := (Nat.le_trans (Nat.le_trans (Nat.le_trans hsNB_w11 nb14.gr.size) sb15.gr.size) hx16.size)
            have hOwn_w16 := (((hOwn_w11.ext nb14.gr).updx sb15.gr hltO (by omega)).updx hx16 hltO (by omega))
            have hsMB_w16 := (Nat.le_trans (Nat.le_trans (Nat.le_trans hsMB_w11 nb14.gr.size) sb15.gr.size) hx16.size)
            refine lv_round ((truths f []).length - (j + 1)) (by omega) (fun st => ?_)
            exact ⟨(j + 1), rfl, by omega, (puts_size _ _).trans st.sz, (puts_defers _ _).trans st.df, (sl_puts st 0).trans hs11_0, (sl_puts st 1).trans hs11_1, (sl_puts st 2).trans hs11_2, (sl_puts st 3).trans hs11_3, (sl_puts st 4).trans hs11_4, (sl_puts st 5).trans hs11_5, (sl_puts st 6).trans hs11_6, (sl_puts st 7).trans hs11_7, (sl_puts st 8).trans hs11_8, (sl_puts st 9).trans hs11_9, (sl_puts st 12).trans hs11_12, (sl_puts st 13).trans hs11_13, (sl_puts st 14).trans hs11_14, (sl_puts st 15).trans hs11_15, (sl_puts st 16).trans hs11_16, (sl_puts st 17).trans hs11_17, (sl_puts st 18).trans hs11_18, (sl_puts st 20).trans hs11_20, (sl_puts st 21).trans hs11_21, (sl_puts st 22).trans hs11_22, (sl_puts st 23).trans hs11_23, (sl_puts st 24).trans hs11_24, (sl_puts st 25).trans hs11_25, (sl_puts st 26).trans hs11_26, (sl_puts st 27).trans hs11_27, (sl_puts st 28).trans hs11_28, (sl_puts st 29).trans hs11_29, (sl_puts st 30).trans hs11_30, (sl_puts st 31).trans hs11_31, (sl_puts st 32).trans hs11_32, (sl_puts st 33).trans hs11_33, (sl_puts st 34).trans hs11_34, (sl_puts st 35).trans hs11_35, (sl_puts st 36).trans hs11_36, (sl_puts st 37).trans hs11_37, (sl_puts st 38).trans hs11_38, (sl_puts st 39).trans hs11_39, (sl_puts st 40).trans hs11_40, (sl_puts st 41).trans hs11_41, (sl_puts st 42).trans hs11_42, (sl_puts st 43).trans hs11_43, (sl_puts st 44).trans hs11_44, (sl_puts st 45).trans hs11_45, (sl_puts st 46).trans hs11_46, (sl_puts st 47).trans hs11_47, (sl_puts st 48).trans (vint (by omega)), hB_w16, hT_w16, bk1_w16, hbq_w16, hrd_w16, hsQ9_w16, hsNB_w16, hOwn_w16, hsMB_w16, (by rw [fold_step (rngS f (k : Int)) (cntr f ((truths f []).headD []) (k : Int), cntr f ((truths f []).headD []) (k : Int)) hx13]; exact hm16)⟩
          · refine cc_cond_f rfl hc12 ?_
            have hc12p := hc12
            have hc12p := of_decide_eq_false hc12p
            have hbR : Bk w11 b9 33 #[.int .i64 (doneOf f (truths f []) (k : Int)).1, .int .i64 (doneOf f (truths f []) (k : Int)).2] := by have h := bk9_w11; rw [List.take_of_length_le (by omega)] at h; exact h
            refine cc_exit <| lv_then_exit <| lv_then_exit <| lv_block_hit <| lv_next <| cc_region <| wm rfl (v := .slice A2 k c2) hs11_6 <| wd rfl (fun st => x_loadn (l := [I ((doneOf f (truths f []) (k : Int)).1), I ((doneOf f (truths f []) (k : Int)).2)]) agg_33 (ee st hs11_9) hbR rfl rfl) <| we rfl (fun st => x_buildSlice (e := 33) (vs := #[(0, .agg #[I ((doneOf f (truths f []) (k : Int)).1), I ((doneOf f (truths f []) (k : Int)).2)])]) (cs := #[I ((doneOf f (truths f []) (k : Int)).1), I ((doneOf f (truths f []) (k : Int)).2)]) (pm1 (ee st rfl)) (by kernel_rfl)) ?_
            rintro _ w17 ⟨b17, rfl, nb17⟩
            have lo17 : w.heap.size ≤ b17 := by rw [nb17.b_eq]; exact hB_w11.size
            have lQ9_17 : Q9 ≤ b17 := by rw [nb17.b_eq]; exact hsQ9_w11
            have lNB_17 : NB ≤ b17 := by rw [nb17.b_eq]; exact hsNB_w11
            have lMB_17 : MB ≤ b17 := by rw [nb17.b_eq]; exact hsMB_w11
            have ltb1_17 : b1 < b17 := by rw [nb17.b_eq]; exact bk1_w11.lt
            have ltq2_17 : q2 < b17 := by rw [nb17.b_eq]; exact hbq_w11.lt
            have ltb9_17 : b9 < b17 := by rw [nb17.b_eq]; exact hbR.lt
            have hOwn_w17 := (hOwn_w11.ext nb17.gr)
            have hsNB_w17 := (Nat.le_trans hsNB_w11 nb17.gr.size)
            refine we rfl (fun st => x_append Try.underlying29 info_33 rfl (by decide) (ee st rfl) (ee st rfl) hOwn_w17 nb17.bk (by first | rfl | simp [ivs]) (one_cells rfl) (by simp [maxLen]; omega) (by omega) hsNB_w17) ?_
            rintro _ w18 ⟨A18, c18, rfl, hO18, hg18⟩
            have hbw18 := below_row hOwn_w17 hsNB_w17 (Nat.le_refl _) hg18
            have hO18 : OwnS w18 NB 33 2 A18 (k + 1) c18 (flat encR (donesTo f (truths f []) (k + 1))) := by have h := hO18; rw [donesTo_succ, flat_snoc]; exact h
            refine wa rfl (v := .slice A18 (k + 1) c18) rfl <| wl_end <| lv_block <| lv_next <| cc_region <| wd rfl (fun st => x_add (ee st hs11_25) (ee st rfl) ⟨by omega, by omega⟩) <| wm rfl (v := I (((k : Nat) : Int) + 1)) rfl <| wl_end ?_
            have hB_w18 := (bl_bw (bl_ext hB_w11 nb17.gr) hbw18 (by omega))
            have hT_w18 := ((hT_w11.ext nb17.gr).bw hbw18 (by omega))
            have bk1_w18 := ((bk1_w11.ext nb17.gr).bw hbw18 (by omega))
            have hbq_w18 := ((hbq_w11.ext nb17.gr).bw hbw18 (by omega))
            have hrd_w18 := ((hrd_w11.ext nb17.gr).bw hbw18 (by omega))
            have hsQ9_w18 := (Nat.le_trans (Nat.le_trans hsQ9_w11 nb17.gr.size) hbw18.size)
            have hsNB_w18 := (Nat.le_trans hsNB_w17 hbw18.size)
            refine lv_round (f.wd.toNat - (k + 1)) (by omega) (fun st => ?_)
            exact ⟨(k + 1), A18, c18, rfl, by omega, (puts_size _ _).trans st.sz, (puts_defers _ _).trans st.df, (sl_puts st 0).trans hs11_0, (sl_puts st 1).trans hs11_1, (sl_puts st 2).trans hs11_2, (sl_puts st 3).trans hs11_3, (sl_puts st 4).trans hs11_4, (sl_puts st 5).trans hs11_5, (sl_puts st 12).trans hs11_12, (sl_puts st 13).trans hs11_13, (sl_puts st 14).trans hs11_14, (sl_puts st 15).trans hs11_15, (sl_puts st 16).trans hs11_16, (sl_puts st 17).trans hs11_17, (sl_puts st 18).trans hs11_18, (sl_puts st 20).trans hs11_20, (sl_puts st 21).trans hs11_21, (sl_puts st 22).trans hs11_22, (sl_puts st 23).trans hs11_23, (sl_puts st 24).trans hs11_24, (sl_puts st 6).trans (rfl), (sl_puts st 25).trans (vint (by omega)), hB_w18, hT_w18, bk1_w18, hbq_w18, hrd_w18, hsQ9_w18, hsNB_w18, hO18⟩
      · refine cc_cond_f rfl hc4 ?_
        have hc4p := hc4
        have hc4p := of_decide_eq_false hc4p
        refine cc_exit <| lv_then_exit <| lv_then_exit <| lv_block_hit <| lv_next <| cc_seq <| cc_region <| wm rfl (v := .slice A2 k c2) hs3_6 <| wa rfl (v := .slice A2 k c2) rfl <| wa rfl (v := I 0) rfl <| wl_end <| lv_next <| cc_ret <| lv_ret2 rfl rfl rfl ?_
        obtain rfl : k = f.wd.toNat := by omega
        exact ⟨ext_of_below hB_w3, fun h => absurd hE h, fun _ => ⟨_, _, rfl, hOwn_w3.weak hnNB⟩⟩
  · skip
    obtain rfl := he1 hE
    have hEb : (askE f true != 0) = true := by simpa using hE
    refine wm rfl (v := .tuple #[.pointer none, I (askE f true)]) rfl <| wd rfl (fun st => x_extract (v := .pointer none) (ee st rfl) rfl) <| wd rfl (fun st => x_extract (v := I (askE f true)) (ee st rfl) rfl) <| wa rfl (v := .pointer none) rfl <| wa rfl (v := I (askE f true)) rfl <| wl_end <| lv_next <| cc_seq <| cc_seq <| cc_region <| wm rfl (v := I (askE f true)) rfl <| wd rfl (fun st => x_neq (ee st rfl) (ee st rfl)) <| wl_end <| lv_next <| cc_cond_t rfl hEb <| cc_seq <| cc_region <| wm rfl (v := I (askE f true)) rfl <| wa rfl (v := .slice none 0 0) rfl <| wa rfl (v := I (askE f true)) rfl <| wl_end <| lv_next <| cc_ret <| lv_then_ret <| lv_ret2 rfl rfl rfl ?_
    have hB_w2 := (bl_ext hB_w1 hx2)
    exact ⟨ext_of_below hB_w2, fun _ => rfl, fun h => absurd h hE⟩
end Go.Proofs.Ythogdgkafaclaaa
end
section
set_option linter.unusedVariables false
set_option linter.unusedSimpArgs false
namespace Go.Proofs.Ythogdgkafaclaaa
open Go.RowKit
attribute [local irreducible] Ex1 WL CC CW LV Ret ObOp Agg One Own
theorem c72 (f : Fld) (A : Option Addr) (c : Nat) (bf bw : Nat) (n : Int) (w : World) (h0 : 0 ≤ f.rows) (h1 : f.rows ≤ 7) (hbf : Bk w bf 36 #[I f.rows, I f.wd, I f.lo, I f.hi, .slice A f.ts.length c]) (hbw : Bk w bw 3 #[I n]) :
    Ret Try.prog 72 #[pt bf 0, pt bw 0] w (fun v w' => v = .bool (inR n 0 (f.rows - 1)) ∧ Ext w w') := by
  refine ret_of_cc (N := 6) Try.func72 rfl rfl (by simp) ?_
  intro fr0 ha hdf
  have hp0 := sl_arg (i := 0) (v := pt bf 0) ha rfl
  have hp1 := sl_arg (i := 1) (v := pt bw 0) ha rfl
  clear ha
  refine cc_seq <| cc_region <| wa rfl (v := .bool false) rfl <| wl_end <| lv_next <| cc_seq <| cc_region <| wd rfl (fun st => x_loadn (l := [I f.rows, I f.wd, I f.lo, I f.hi, .slice A f.ts.length c]) agg_36 (ee st hp0) hbf rfl rfl) <| wd rfl (fun st => x_load1 (v := I n) one_3 (ee st hp1) hbw rfl) <| we rfl (fun st => x_call0 own_73 (ee st rfl) (am2 (ee st rfl) (ee st rfl)) (c73 f A c n _ (by omega) (by omega))) ?_
  rintro _ w1 ⟨rfl, hx1⟩
  refine wa rfl (v := .bool (inR n 0 (f.rows - 1))) rfl <| wl_end <| lv_next <| cc_ret <| lv_ret1 rfl rfl ?_
  have hB_w1 := (bl_ext (Below.refl w.heap.size w) hx1)
  exact ⟨rfl, ext_of_below hB_w1⟩
theorem c76 (f : Fld) (A : Option Addr) (c : Nat) (bf bw : Nat) (n : Int) (w : World) (h0 : 0 ≤ f.wd) (h1 : f.wd ≤ 7) (hbf : Bk w bf 36 #[I f.rows, I f.wd, I f.lo, I f.hi, .slice A f.ts.length c]) (hbw : Bk w bw 3 #[I n]) :
    Ret Try.prog 76 #[pt bf 0, pt bw 0] w (fun v w' => v = .bool (inR n 0 (f.wd - 1)) ∧ Ext w w') := by
  refine ret_of_cc (N := 6) Try.func76 rfl rfl (by simp) ?_
  intro fr0 ha hdf
  have hp0 := sl_arg (i := 0) (v := pt bf 0) ha rfl
  have hp1 := sl_arg (i := 1) (v := pt bw 0) ha rfl
  clear ha
  refine cc_seq <| cc_region <| wa rfl (v := .bool false) rfl <| wl_end <| lv_next <| cc_seq <| cc_region <| wd rfl (fun st => x_loadn (l := [I f.rows, I f.wd, I f.lo, I f.hi, .slice A f.ts.length c]) agg_36 (ee st hp0) hbf rfl rfl) <| wd rfl (fun st => x_load1 (v := I n) one_3 (ee st hp1) hbw rfl) <| we rfl (fun st => x_call0 own_77 (ee st rfl) (am2 (ee st rfl) (ee st rfl)) (c77 f A c n _ (by omega) (by omega))) ?_
  rintro _ w1 ⟨rfl, hx1⟩
  refine wa rfl (v := .bool (inR n 0 (f.wd - 1))) rfl <| wl_end <| lv_next <| cc_ret <| lv_ret1 rfl rfl ?_
  have hB_w1 := (bl_ext (Below.refl w.heap.size w) hx1)
  exact ⟨rfl, ext_of_below hB_w1⟩
theorem c86 (f : Fld) (A : Option Addr) (c : Nat) (bf bw : Nat) (n : Int) (w : World) (h0 : 0 ≤ f.wd) (h1 : f.wd ≤ 7) (hbf : Bk w bf 36 #[I f.rows, I f.wd, I f.lo, I f.hi, .slice A f.ts.length c]) (hbw : Bk w bw 3 #[I n]) :
    Ret Try.prog 86 #[pt bf 0, pt bw 0] w (fun v w' => v = .bool (inR n 0 (f.wd - 1)) ∧ Ext w w') := by
  refine ret_of_cc (N := 6) Try.func86 rfl rfl (by simp) ?_
  intro fr0 ha hdf
  have hp0 := sl_arg (i := 0) (v := pt bf 0) ha rfl
  have hp1 := sl_arg (i := 1) (v := pt bw 0) ha rfl
  clear ha
  refine cc_seq <| cc_region <| wa rfl (v := .bool false) rfl <| wl_end <| lv_next <| cc_seq <| cc_region <| wd rfl (fun st => x_loadn (l := [I f.rows, I f.wd, I f.lo, I f.hi, .slice A f.ts.length c]) agg_36 (ee st hp0) hbf rfl rfl) <| wd rfl (fun st => x_load1 (v := I n) one_3 (ee st hp1) hbw rfl) <| we rfl (fun st => x_call0 own_77 (ee st rfl) (am2 (ee st rfl) (ee st rfl)) (c77 f A c n _ (by omega) (by omega))) ?_
  rintro _ w1 ⟨rfl, hx1⟩
  refine wa rfl (v := .bool (inR n 0 (f.wd - 1))) rfl <| wl_end <| lv_next <| cc_ret <| lv_ret1 rfl rfl ?_
  have hB_w1 := (bl_ext (Below.refl w.heap.size w) hx1)
  exact ⟨rfl, ext_of_below hB_w1⟩
theorem c97 (f : Fld) (A : Option Addr) (c : Nat) (bf bw : Nat) (n : Int) (w : World) (h0 : 0 ≤ f.wd) (h1 : f.wd ≤ 7) (hbf : Bk w bf 36 #[I f.rows, I f.wd, I f.lo, I f.hi, .slice A f.ts.length c]) (hbw : Bk w bw 3 #[I n]) :
    Ret Try.prog 97 #[pt bf 0, pt bw 0] w (fun v w' => v = .bool (inR n 0 (f.wd - 1)) ∧ Ext w w') := by
  refine ret_of_cc (N := 6) Try.func97 rfl rfl (by simp) ?_
  intro fr0 ha hdf
  have hp0 := sl_arg (i := 0) (v := pt bf 0) ha rfl
  have hp1 := sl_arg (i := 1) (v := pt bw 0) ha rfl
  clear ha
  refine cc_seq <| cc_region <| wa rfl (v := .bool false) rfl <| wl_end <| lv_next <| cc_seq <| cc_region <| wd rfl (fun st => x_loadn (l := [I f.rows, I f.wd, I f.lo, I f.hi, .slice A f.ts.length c]) agg_36 (ee st hp0) hbf rfl rfl) <| wd rfl (fun st => x_load1 (v := I n) one_3 (ee st hp1) hbw rfl) <| we rfl (fun st => x_call0 own_77 (ee st rfl) (am2 (ee st rfl) (ee st rfl)) (c77 f A c n _ (by omega) (by omega))) ?_
  rintro _ w1 ⟨rfl, hx1⟩
  refine wa rfl (v := .bool (inR n 0 (f.wd - 1))) rfl <| wl_end <| lv_next <| cc_ret <| lv_ret1 rfl rfl ?_
  have hB_w1 := (bl_ext (Below.refl w.heap.size w) hx1)
  exact ⟨rfl, ext_of_below hB_w1⟩
theorem c87 (f : Fld) (A : Option Addr) (c : Nat) (q : Nat) (A9 : Option Addr) (c9 : Nat) (n : Int) (rows : List Int) (B : Option Addr) (d : Nat) (w : World) (hr0 : 1 ≤ f.rows) (hr1 : f.rows ≤ 7) (hw0 : 1 ≤ f.wd) (hw1 : f.wd ≤ 3) (hrow : ∀ x ∈ rows, 0 ≤ x ∧ x ≤ 6) (hl : rows.length ≤ 100000) (hbq : Bk w q 102 #[I f.rows, I f.wd, I f.lo, I f.hi, .slice A f.ts.length c, .slice A9 ((truths f []).length) c9]) (hrd : Rd w 0 w.heap.size A9 (flat ivs (truths f []))) (hR : Rd w 0 w.heap.size B (ivs rows)) :
    Ret Try.prog 87 #[pt q 0, I n, .slice B rows.length d] w (fun v w' => v = .bool (settlesB f (truths f []) n rows) ∧ Ext w w') := by
  have hql := hbq.lt
  have h7 := truths_len (f := f) (out := []) (by omega)
  have hcnt := truths_count (f := f) (out := []) (by omega) (by omega)
  refine ret_of_cc (N := 64) Try.func87 rfl rfl (by simp) ?_
  intro fr0 ha hdf
  have hp0 := sl_arg (i := 0) (v := pt q 0) ha rfl
  have hp1 := sl_arg (i := 1) (v := I n) ha rfl
  have hp2 := sl_arg (i := 2) (v := .slice B rows.length d) ha rfl
  clear ha
  refine cc_seq <| cc_region <| wa rfl (v := .bool false) rfl <| wl_end <| lv_next <| cc_seq <| cc_region <| we rfl (fun st => x_makeMap (n := 7)) ?_
  rintro _ w1 ⟨r1, rfl, nb1⟩
  have lo1 : w.heap.size ≤ r1 := by rw [nb1.b_eq]; exact (Below.refl w.heap.size w).size
  refine wa rfl (v := .map (some r1)) rfl <| wl_end <| lv_next <| cc_seq <| cc_seq <| cc_region <| wm rfl (v := pt q 0) hp0 <| wd rfl (fun st => x_nilCheck (ee st rfl)) <| wd rfl (fun st => x_fieldAddr (ee st rfl) (fz_102_1 _ _)) ?_
  have hbq_w1 := (hbq.ext nb1.gr)
  refine wd rfl (fun st => x_load1 (v := .slice A9 ((truths f []).length) c9) one_100 (ee st rfl) hbq_w1 rfl) <| wd rfl (fun st => x_len Try.underlying100 (ee st rfl)) <| wm rfl (v := I 0) rfl <| wl_end <| lv_next <| cc_block ?_
  have hrd_w1 := (hrd.ext nb1.gr)
  have hR_w1 := (hR.ext nb1.gr)
  have hB_w1 := (bl_ext (Below.refl w.heap.size w) nb1.gr)
  refine cc_loop (fun (m_ : Nat) (fr_ : Act) (w_ : World) => ∃ (j : Nat), ∃ (L : List (List Int × Int)), m_ = (truths f []).length - j ∧ (j ≤ (truths f []).length) ∧ (∀ key v, mget L key = some v → ∃ a ∈ (truths f []).take j, keyOf rows a = key ∧ cntr f a n = v) ∧ (∀ a ∈ (truths f []).take j, mget L (keyOf rows a) = some (cntr f a n)) ∧ fr_.tmps.size = 64 ∧ fr_.defers = [] ∧ sl fr_ 0 = pt q 0 ∧ sl fr_ 1 = I n ∧ sl fr_ 2 = .slice B rows.length d ∧ sl fr_ 7 = .map (some r1) ∧ sl fr_ 15 = .map (some r1) ∧ sl fr_ 16 = pt q 0 ∧ sl fr_ 17 = pt q 0 ∧ sl fr_ 18 = pt q 5 ∧ sl fr_ 19 = .slice A9 ((truths f []).length) c9 ∧ sl fr_ 20 = I (((truths f []).length : Nat) : Int) ∧ sl fr_ 21 = I ((j : Nat) : Int) ∧ Below w.heap.size w w_ ∧ Bk w_ q 102 #[I f.rows, I f.wd, I f.lo, I f.hi, .slice A f.ts.length c, .slice A9 ((truths f []).length) c9] ∧ Rd w_ 0 w.heap.size A9 (flat ivs (truths f [])) ∧ Rd w_ 0 w.heap.size B (ivs rows) ∧ MapF w_ r1 7 L) ((truths f []).length - 0) ?init2 ?round2
  case init2 =>
    intro st
    exact ⟨0, [], rfl, by omega, by simp [mget], by simp, (puts_size _ _).trans st.sz, (puts_defers _ _).trans st.df, (sl_puts st 0).trans hp0, (sl_puts st 1).trans hp1, (sl_puts st 2).trans hp2, (sl_puts st 7).trans rfl, (sl_puts st 15).trans rfl, (sl_puts st 16).trans rfl, (sl_puts st 17).trans rfl, (sl_puts st 18).trans rfl, (sl_puts st 19).trans rfl, (sl_puts st 20).trans rfl, (sl_puts st 21).trans (vint (by omega)), hB_w1, hbq_w1, hrd_w1, hR_w1, nb1.mp⟩
  case round2 =>
    rintro m_ fr2 w2 ⟨j, L, rfl, hj, hL1, hL2, hsz2, hdf2, hs2_0, hs2_1, hs2_2, hs2_7, hs2_15, hs2_16, hs2_17, hs2_18, hs2_19, hs2_20, hs2_21, hB_w2, hbq_w2, hrd_w2, hR_w2, mpr1_w2⟩
    refine round_cc (N := 64) hsz2 hdf2 <| cc_seq <| cc_region <| wd rfl (fun st => x_lss (ee st hs2_21) (ee st hs2_20)) <| wl_end <| lv_next <| cc_seq ?_
    rcases bool_cases (decide (((j : Nat) : Int) < (((truths f []).length : Nat) : Int))) with hc3 | hc3
    · refine cc_cond_t rfl hc3 ?_
      have hc3p := hc3
      have hc3p := of_decide_eq_true hc3p
      refine cc_skip <| lv_next <| cc_seq <| cc_block <| cc_seq <| cc_region ?_
      obtain ⟨bq4, oq4, hA4, -, -, -⟩ := Rd.elem7 h7 hrd_w2 (k := j) (by omega)
      obtain ⟨x5, hx5⟩ : ∃ x, (truths f [])[j]? = some x := ⟨_, List.getElem?_eq_getElem (by omega)⟩
      refine wd rfl (fun st => x_indexAddrN (k := j) Try.underlying100 sz_105 (ee st hs2_19) hA4 (ee st hs2_21) rfl (by omega)) <| wd rfl (fun st => x_load_rdn (l := ivs x5) agg_105 (ee st rfl) (hrd_w2.cells hA4) (flat7_at h7 hx5) (by rw [ivs_len]; exact (h7 x5 (List.mem_of_getElem? hx5)))) <| we rfl (fun st => x_alloc (cs := #[I 0, I 0, I 0, I 0, I 0, I 0, I 0]) zero_105 rfl) ?_
      rintro _ w6 ⟨b6, rfl, nb6⟩
      have lo6 : w.heap.size ≤ b6 := by rw [nb6.b_eq]; exact hB_w2.size
      have ltr1_6 : r1 < b6 := by rw [nb6.b_eq]; exact mpr1_w2.lt
      refine wl_ex0 rfl rfl (fun st => x_store_all (n := 7) (cs' := (ivs x5).toArray) (ee st rfl) (ee st rfl) sz_105 nb6.bk rfl (by simp [ivs, (h7 x5 (List.mem_of_getElem? hx5))]) rfl (one_ivs x5)) ?_
      rintro _ w7 sb7
      refine wl_end <| lv_next <| cc_seq <| cc_region <| we rfl (fun st => x_alloc (cs := #[I 0, I 0, I 0, I 0, I 0, I 0, I 0]) zero_105 rfl) ?_
      rintro _ w8 ⟨b8, rfl, nb8⟩
      have hB_w7 := (bl_upd (bl_ext hB_w2 nb6.gr) sb7.gr (by omega))
      have lo8 : w.heap.size ≤ b8 := by rw [nb8.b_eq]; exact hB_w7.size
      have mpr1_w7 := ((mpr1_w2.ext nb6.gr).upd sb7.gr (by omega))
      have ltr1_8 : r1 < b8 := by rw [nb8.b_eq]; exact mpr1_w7.lt
      have ltb6_8 : b6 < b8 := by rw [nb8.b_eq]; exact sb7.bk.lt
      refine wl_end ?_
      have hbk : Bk w8 b8 105 (ivs (keyOf (rows.take 0) x5)).toArray := by rw [List.take_zero]; exact nb8.bk
      refine lv_next <| cc_seq <| cc_seq <| cc_region <| wm rfl (v := .slice B rows.length d) hs2_2 <| wd rfl (fun st => x_len Try.underlying43 (ee st rfl)) <| wm rfl (v := I 0) rfl <| wl_end <| lv_next <| cc_block ?_
      have hbq_w8 := (((hbq_w2.ext nb6.gr).upd sb7.gr (by omega)).ext nb8.gr)
      have hrd_w8 := (((hrd_w2.ext nb6.gr).upd sb7.gr (by omega)).ext nb8.gr)
      have hR_w8 := (((hR_w2.ext nb6.gr).upd sb7.gr (by omega)).ext nb8.gr)
      have mpr1_w8 := (mpr1_w7.ext nb8.gr)
      have bk6_w8 := (sb7.bk.ext nb8.gr)
      have hB_w8 := (bl_ext hB_w7 nb8.gr)
      refine cc_loop (fun (m_ : Nat) (fr_ : Act) (w_ : World) => ∃ (i : Nat), m_ = rows.length - i ∧ (i ≤ rows.length) ∧ fr_.tmps.size = 64 ∧ fr_.defers = [] ∧ sl fr_ 0 = pt q 0 ∧ sl fr_ 1 = I n ∧ sl fr_ 2 = .slice B rows.length d ∧ sl fr_ 7 = .map (some r1) ∧ sl fr_ 9 = pt b6 0 ∧ sl fr_ 10 = pt b8 0 ∧ sl fr_ 15 = .map (some r1) ∧ sl fr_ 16 = pt q 0 ∧ sl fr_ 17 = pt q 0 ∧ sl fr_ 18 = pt q 5 ∧ sl fr_ 19 = .slice A9 ((truths f []).length) c9 ∧ sl fr_ 20 = I (((truths f []).length : Nat) : Int) ∧ sl fr_ 21 = I ((j : Nat) : Int) ∧ sl fr_ 22 = .bool (decide (((j : Nat) : Int) < (((truths f []).length : Nat) : Int))) ∧ sl fr_ 23 = pt bq4 (oq4 + j * 7) ∧ sl fr_ 24 = ansV x5 ∧ sl fr_ 25 = .slice B rows.length d ∧ sl fr_ 26 = I ((rows.length : Nat) : Int) ∧ sl fr_ 27 = I ((i : Nat) : Int) ∧ Below w.heap.size w w_ ∧ Bk w_ q 102 #[I f.rows, I f.wd, I f.lo, I f.hi, .slice A f.ts.length c, .slice A9 ((truths f []).length) c9] ∧ Rd w_ 0 w.heap.size A9 (flat ivs (truths f [])) ∧ Rd w_ 0 w.heap.size B (ivs rows) ∧ MapF w_ r1 7 L ∧ Bk w_ b6 105 ((ivs x5).toArray) ∧ Bk w_ b8 105 ((ivs (keyOf (rows.take i) x5)).toArray)) (rows.length - 0) ?init9 ?round9
      case init9 =>
        intro st
        exact ⟨0, rfl, by omega, (puts_size _ _).trans st.sz, (puts_defers _ _).trans st.df, (sl_puts st 0).trans hs2_0, (sl_puts st 1).trans hs2_1, (sl_puts st 2).trans hs2_2, (sl_puts st 7).trans hs2_7, (sl_puts st 9).trans rfl, (sl_puts st 10).trans rfl, (sl_puts st 15).trans hs2_15, (sl_puts st 16).trans hs2_16, (sl_puts st 17).trans hs2_17, (sl_puts st 18).trans hs2_18, (sl_puts st 19).trans hs2_19, (sl_puts st 20).trans hs2_20, (sl_puts st 21).trans hs2_21, (sl_puts st 22).trans rfl, (sl_puts st 23).trans rfl, (sl_puts st 24).trans rfl, (sl_puts st 25).trans rfl, (sl_puts st 26).trans rfl, (sl_puts st 27).trans (vint (by omega)), hB_w8, hbq_w8, hrd_w8, hR_w8, mpr1_w8, bk6_w8, hbk⟩
      case round9 =>
        rintro m_ fr9 w9 ⟨i, rfl, hi, hsz9, hdf9, hs9_0, hs9_1, hs9_2, hs9_7, hs9_9, hs9_10, hs9_15, hs9_16, hs9_17, hs9_18, hs9_19, hs9_20, hs9_21, hs9_22, hs9_23, hs9_24, hs9_25, hs9_26, hs9_27, hB_w9, hbq_w9, hrd_w9, hR_w9, mpr1_w9, bk6_w9, bk8_w9⟩
        refine round_cc (N := 64) hsz9 hdf9 <| cc_seq <| cc_region <| wd rfl (fun st => x_lss (ee st hs9_27) (ee st hs9_26)) <| wl_end <| lv_next <| cc_seq ?_
        rcases bool_cases (decide (((i : Nat) : Int) < ((rows.length : Nat) : Int))) with hc10 | hc10
        · refine cc_cond_t rfl hc10 ?_
          have hc10p := hc10
          have hc10p := of_decide_eq_true hc10p
          have hx9 := hrow (rows.getD i 0) (List.mem_of_getElem? (getD_some (by omega)))
          refine cc_skip <| lv_next <| cc_seq <| cc_block <| cc_seq <| cc_region ?_
          obtain ⟨bq11, oq11, hA11, -, -, -⟩ := Rd.elem1 hR_w9 (k := i) (by rw [ivs_len]; exact (by omega))
          refine wd rfl (fun st => x_indexAddr1 (k := i) Try.underlying43 sz_3 (ee st hs9_25) hA11 (ee st hs9_27) rfl (by omega)) <| wd rfl (fun st => x_load_rd (v := I (rows.getD i 0)) one_3 (ee st rfl) (hR_w9.cells hA11) (ivs_get rows i (by omega))) <| wa rfl (v := I (rows.getD i 0)) rfl <| wl_end <| lv_next <| cc_region <| wm rfl (v := I (rows.getD i 0)) rfl <| wm rfl (v := I (rows.getD i 0)) rfl <| wd rfl (fun st => x_indexAddrA1 (k := (rows.getD i 0).toNat) Try.underlying105 sz_3 (ee st hs9_9) (ee st rfl) (by omega) (by omega)) <| wd rfl (fun st => x_load1 (v := .int .i64 (x5.getD ((rows.getD i 0).toNat) 0)) one_3 (ee st rfl) bk6_w9 (ivs_getL x5 ((rows.getD i 0).toNat) (by rw [(h7 x5 (List.mem_of_getElem? hx5))]; omega))) <| wd rfl (fun st => x_indexAddrA1 (k := (rows.getD i 0).toNat) Try.underlying105 sz_3 (ee st hs9_10) (ee st rfl) (by omega) (by omega)) <| wl_ex0 rfl rfl (fun st => x_store_int (ee st rfl) (ee st rfl) sz_3 bk8_w9 (by rw [(keyOf_len _ _)]; omega)) ?_
          rintro _ w12 sb12
          refine wl_end <| lv_block <| lv_next <| cc_region <| wd rfl (fun st => x_add (ee st hs9_27) (ee st rfl) ⟨by omega, by omega⟩) <| wm rfl (v := I (((i : Nat) : Int) + 1)) rfl <| wl_end ?_
          have hB_w12 := (bl_upd hB_w9 sb12.gr (by omega))
          have hbq_w12 := (hbq_w9.upd sb12.gr (by omega))
          have hrd_w12 := (hrd_w9.upd sb12.gr (by omega))
          have hR_w12 := (hR_w9.upd sb12.gr (by omega))
          have mpr1_w12 := (mpr1_w9.upd sb12.gr (by omega))
          have bk6_w12 := (bk6_w9.upd sb12.gr (by omega))
          refine lv_round (rows.length - (i + 1)) (by omega) (fun st => ?_)
          exact ⟨(i + 1), rfl, by omega, (puts_size _ _).trans st.sz, (puts_defers _ _).trans st.df, (sl_puts st 0).trans hs9_0, (sl_puts st 1).trans hs9_1, (sl_puts st 2).trans hs9_2, (sl_puts st 7).trans hs9_7, (sl_puts st 9).trans hs9_9, (sl_puts st 10).trans hs9_10, (sl_puts st 15).trans hs9_15, (sl_puts st 16).trans hs9_16, (sl_puts st 17).trans hs9_17, (sl_puts st 18).trans hs9_18, (sl_puts st 19).trans hs9_19, (sl_puts st 20).trans hs9_20, (sl_puts st 21).trans hs9_21, (sl_puts st 22).trans hs9_22, (sl_puts st 23).trans hs9_23, (sl_puts st 24).trans hs9_24, (sl_puts st 25).trans hs9_25, (sl_puts st 26).trans hs9_26, (sl_puts st 27).trans (vint (by omega)), hB_w12, hbq_w12, hrd_w12, hR_w12, mpr1_w12, bk6_w12, (by rw [keyOf_step rows x5 i (by omega)]; exact sb12.bk)⟩
        · refine cc_cond_f rfl hc10 ?_
          have hc10p := hc10
          have hc10p := of_decide_eq_false hc10p
          have hkb : Bk w9 b8 105 (ivs (keyOf rows x5)).toArray := by have h := bk8_w9; rw [List.take_of_length_le (by omega)] at h; exact h
          refine cc_exit <| lv_then_exit <| lv_then_exit <| lv_block_hit <| lv_next <| cc_seq <| cc_region <| wm rfl (v := .map (some r1)) hs9_7 <| wd rfl (fun st => x_load_all agg_105 (ee st hs9_10) hkb (by simp [ivs, (keyOf_len _ _)])) <| wd rfl (fun st => x_lookup_ok (k := keyOf rows x5) Try.underlying112 zero_3 keq_105 kchk_105 kwide_105 (ee st rfl) (ee st rfl) (keyOf_len _ _) mpr1_w9) <| wm rfl (v := .tuple #[I ((mget L (keyOf rows x5)).getD 0), .bool ((mget L (keyOf rows x5)).isSome)]) rfl <| wd rfl (fun st => x_extract (v := I ((mget L (keyOf rows x5)).getD 0)) (ee st rfl) rfl) <| wd rfl (fun st => x_extract (v := .bool ((mget L (keyOf rows x5)).isSome)) (ee st rfl) rfl) <| wa rfl (v := I ((mget L (keyOf rows x5)).getD 0)) rfl <| wa rfl (v := .bool ((mget L (keyOf rows x5)).isSome)) rfl <| wl_end <| lv_next <| cc_seq <| cc_region <| wm rfl (v := .bool ((mget L (keyOf rows x5)).isSome)) rfl <| wd rfl (fun st => x_not (ee st rfl)) <| wl_end <| lv_next ?_
          rcases bool_cases (!((mget L (keyOf rows x5)).isSome)) with hc13 | hc13
          · refine cc_cond_t rfl hc13 ?_
            have hc13p := hc13
            have hc13p := not_t hc13p
            have hc13_14 : ((mget L (keyOf rows x5)).isSome) = false := by simpa using hc13
            refine cc_any (fun _ _ => True) (T2 w9 r1 (fun w_ => MapF w_ r1 7 (mput L (keyOf rows x5) ((cnt n (x5.take f.rows.toNat) : Nat) : Int)))) [9] [Kc (.map (some r1)), Kc (ansV (keyOf rows x5)), Kc (pt q 0), Kc (pt q 0), Kc (pt q 0), Kc (.agg #[I f.rows, I f.wd, I f.lo, I f.hi, .slice A f.ts.length c]), Kc (ansV x5), Kc (I n), Kc (I ((cnt n (x5.take f.rows.toNat) : Nat) : Int)), Kt] mixed rfl (fun _ _ _ => trivial) (T2_ext (fun _ _ h g => h.ext g)) (ext_drew w9)
                (obs_cons (ob_det rfl rfl (fun _ => rfl) (fun a' w' ph K => x_move (v := .map (some r1)) (es (t := 7) (v := .map (some r1)) ((K.out 7 rfl).trans hs9_7))))
                (obs_cons (ob_det rfl rfl (fun _ => rfl) (fun a' w' ph K => x_load_all agg_105 (es (t := 10) (v := pt b8 0) ((K.out 10 rfl).trans hs9_10)) (hkb.t2 K.phT (by omega)) (by simp [ivs, (keyOf_len _ _)])))
                (obs_cons (ob_det rfl rfl (fun _ => rfl) (fun a' w' ph K => x_move (v := pt q 0) (es (t := 0) (v := pt q 0) ((K.out 0 rfl).trans hs9_0))))
                (obs_cons (ob_det rfl rfl (fun _ => rfl) (fun a' w' ph K => x_nilCheck (es (t := 47) (v := pt q 0) (K.dep 2 47 rfl rfl))))
                (obs_cons (ob_det rfl rfl (fun _ => rfl) (fun a' w' ph K => x_fieldAddr (es (t := 48) (v := pt q 0) (K.dep 3 48 rfl rfl)) (fz_102_0 _ _)))
                (obs_cons (ob_det rfl rfl (fun _ => rfl) (fun a' w' ph K => x_loadn (l := [I f.rows, I f.wd, I f.lo, I f.hi, .slice A f.ts.length c]) agg_36 (es (t := 49) (v := pt q 0) (K.dep 4 49 rfl rfl)) (hbq_w9.t2 K.phT (by omega)) rfl rfl))
                (obs_cons (ob_det rfl rfl (fun _ => rfl) (fun a' w' ph K => x_load_all agg_105 (es (t := 9) (v := pt b6 0) ((K.out 9 rfl).trans hs9_9)) (bk6_w9.t2 K.phT (by omega)) (by simp [ivs, (h7 x5 (List.mem_of_getElem? hx5))])))
                (obs_cons (ob_det rfl rfl (fun _ => rfl) (fun a' w' ph K => x_move (v := I n) (es (t := 1) (v := I n) ((K.out 1 rfl).trans hs9_1))))
                (obs_cons (ob_ext rfl rfl (fun a' w' ph K => (x_call0 own_68 rfl (am3 (es (t := 50) (v := .agg #[I f.rows, I f.wd, I f.lo, I f.hi, .slice A f.ts.length c]) (K.dep 5 50 rfl rfl)) (es (t := 51) (v := ansV x5) (K.dep 6 51 rfl rfl)) (es (t := 52) (v := I n) (K.dep 7 52 rfl rfl))) (c68 f A c x5 n _ (by omega) (by omega) (h7 x5 (List.mem_of_getElem? hx5)))).mono (fun _ _ h => h)))
                (obs_cons (ob_spec rfl rfl (fun a' w' ph K => (x_mapUpdate (k := keyOf rows x5) Try.underlying112 keq_105 kchk_105 kwide_105 (es (t := 45) (v := .map (some r1)) (K.dep 0 45 rfl rfl)) (es (t := 46) (v := ansV (keyOf rows x5)) (K.dep 1 46 rfl rfl)) (es (t := 53) (v := I ((cnt n (x5.take f.rows.toNat) : Nat) : Int)) (K.dep 8 53 rfl rfl)) (keyOf_len _ _) (mpr1_w9.ext (T2_zero K.phT (K.spi 0 rfl)))).mono (fun _ _ h => ⟨trivial, trivial, T2_up K.phT (K.spi 0 rfl) h.gr h.mp⟩)))
                (obs_nil _))))))))))) ?_
            rintro w15 ⟨hx15, hm15⟩
            rintro _ rfl _ rfl _ rfl _ rfl _ rfl _ rfl _ rfl _ rfl _ rfl
            refine lv_block <| lv_next <| cc_region <| wd rfl (fun st => x_add (ee st hs9_21) (ee st rfl) ⟨by omega, by omega⟩) <| wm rfl (v := I (((j : Nat) : Int) + 1)) rfl <| wl_end ?_
            have hno : mget L (keyOf rows x5) = none := by
              have h := hc13_14
              cases hg : mget L (keyOf rows x5) with
              | none => rfl
              | some v => rw [hg] at h; cases h
            have hB_w15 := (bl_upd hB_w9 hx15 (by omega))
            have hbq_w15 := (hbq_w9.upd hx15 (by omega))
            have hrd_w15 := (hrd_w9.upd hx15 (by omega))
            have hR_w15 := (hR_w9.upd hx15 (by omega))
            refine lv_round ((truths f []).length - (j + 1)) (by omega) (fun st => ?_)
            exact ⟨(j + 1), (mput L (keyOf rows x5) (cntr f x5 n)), rfl, by omega, (by
                  intro key v h
                  rw [mget_mput] at h
                  split at h
                  · rename_i e; exact ⟨x5, (mem_take_succ hx5).2 (.inr rfl), e.symm, Option.some.inj h⟩
                  · obtain ⟨a, ha, h1, h2⟩ := hL1 key v h; exact ⟨a, (mem_take_succ hx5).2 (.inl ha), h1, h2⟩), (by
                  intro a ha
                  rw [mget_mput]
                  rcases (mem_take_succ hx5).1 ha with h | rfl
                  · rw [if_neg (fun e => by have := hL2 a h; rw [e, hno] at this; cases this)]; exact hL2 a h
                  · rw [if_pos rfl]), (puts_size _ _).trans st.sz, (puts_defers _ _).trans st.df, (sl_puts st 0).trans hs9_0, (sl_puts st 1).trans hs9_1, (sl_puts st 2).trans hs9_2, (sl_puts st 7).trans hs9_7, (sl_puts st 15).trans hs9_15, (sl_puts st 16).trans hs9_16, (sl_puts st 17).trans hs9_17, (sl_puts st 18).trans hs9_18, (sl_puts st 19).trans hs9_19, (sl_puts st 20).trans hs9_20, (sl_puts st 21).trans (vint (by omega)), hB_w15, hbq_w15, hrd_w15, hR_w15, hm15⟩
          · refine cc_cond_f rfl hc13 ?_
            have hc13p := hc13
            have hc13p := not_f hc13p
            have hc13_16 : ((mget L (keyOf rows x5)).isSome) = true := by simpa using hc13
            refine cc_seq ?_
            refine cc_any0 [Kc (I ((mget L (keyOf rows x5)).getD 0)), Kc (pt q 0), Kc (pt q 0), Kc (pt q 0), Kc (.agg #[I f.rows, I f.wd, I f.lo, I f.hi, .slice A f.ts.length c]), Kc (ansV x5), Kc (I n), Kc (I ((cnt n (x5.take f.rows.toNat) : Nat) : Int)), Kc (.bool (((mget L (keyOf rows x5)).getD 0) != ((cnt n (x5.take f.rows.toNat) : Nat) : Int)))] mixed rfl
                (obs_cons (ob_det rfl rfl (fun _ => rfl) (fun a' w' ph K => x_move (v := I ((mget L (keyOf rows x5)).getD 0)) (es (t := 13) (v := I ((mget L (keyOf rows x5)).getD 0)) ((K.out 13 rfl).trans rfl))))
                (obs_cons (ob_det rfl rfl (fun _ => rfl) (fun a' w' ph K => x_move (v := pt q 0) (es (t := 0) (v := pt q 0) ((K.out 0 rfl).trans hs9_0))))
                (obs_cons (ob_det rfl rfl (fun _ => rfl) (fun a' w' ph K => x_nilCheck (es (t := 55) (v := pt q 0) (K.dep 1 55 rfl rfl))))
                (obs_cons (ob_det rfl rfl (fun _ => rfl) (fun a' w' ph K => x_fieldAddr (es (t := 56) (v := pt q 0) (K.dep 2 56 rfl rfl)) (fz_102_0 _ _)))
                (obs_cons (ob_det rfl rfl (fun _ => rfl) (fun a' w' ph K => x_loadn (l := [I f.rows, I f.wd, I f.lo, I f.hi, .slice A f.ts.length c]) agg_36 (es (t := 57) (v := pt q 0) (K.dep 3 57 rfl rfl)) (hbq_w9.ext K.phT) rfl rfl))
                (obs_cons (ob_det rfl rfl (fun _ => rfl) (fun a' w' ph K => x_load_all agg_105 (es (t := 9) (v := pt b6 0) ((K.out 9 rfl).trans hs9_9)) (bk6_w9.ext K.phT) (by simp [ivs, (h7 x5 (List.mem_of_getElem? hx5))])))
                (obs_cons (ob_det rfl rfl (fun _ => rfl) (fun a' w' ph K => x_move (v := I n) (es (t := 1) (v := I n) ((K.out 1 rfl).trans hs9_1))))
                (obs_cons (ob_ext rfl rfl (fun a' w' ph K => (x_call0 own_68 rfl (am3 (es (t := 58) (v := .agg #[I f.rows, I f.wd, I f.lo, I f.hi, .slice A f.ts.length c]) (K.dep 4 58 rfl rfl)) (es (t := 59) (v := ansV x5) (K.dep 5 59 rfl rfl)) (es (t := 60) (v := I n) (K.dep 6 60 rfl rfl))) (c68 f A c x5 n _ (by omega) (by omega) (h7 x5 (List.mem_of_getElem? hx5)))).mono (fun _ _ h => h)))
                (obs_cons (ob_det rfl rfl (fun _ => rfl) (fun a' w' ph K => x_neq (es (t := 54) (v := I ((mget L (keyOf rows x5)).getD 0)) (K.dep 0 54 rfl rfl)) (es (t := 61) (v := I ((cnt n (x5.take f.rows.toNat) : Nat) : Int)) (K.dep 7 61 rfl rfl))))
                (obs_nil _)))))))))) ?_
            intro w17 hx17
            rintro _ rfl _ rfl _ rfl _ rfl _ rfl _ rfl _ rfl _ rfl _ rfl
            refine lv_next ?_
            rcases bool_cases (((mget L (keyOf rows x5)).getD 0) != ((cnt n (x5.take f.rows.toNat) : Nat) : Int)) with hc18 | hc18
            · refine cc_cond_t rfl hc18 ?_
              have hc18p := hc18
              have hc18p := bne_t hc18p
              refine cc_seq <| cc_region <| wa rfl (v := .bool false) rfl <| wl_end <| lv_next <| cc_ret <| lv_block_ret <| lv_then_ret <| lv_then_ret <| lv_block_ret <| lv_then_ret <| lv_ret1 rfl rfl ?_
              obtain ⟨v9, hv9⟩ : ∃ v, mget L (keyOf rows x5) = some v := Option.isSome_iff_exists.1 hc13_16
              have hne9 : v9 ≠ cntr f x5 n := by have h := hc18p; rw [hv9] at h; exact h
              obtain ⟨a9, ha9, hk9, hc9⟩ := hL1 _ _ hv9
              have hB_w17 := (bl_ext hB_w9 hx17)
              refine ⟨vbool (Bool.eq_false_iff.2 fun h => hne9 ?_).symm, ext_of_below hB_w17⟩
              rw [← hc9]
              exact settles_iff.1 h a9 (List.mem_of_mem_take ha9) x5 (List.mem_of_getElem? hx5) hk9
            · refine cc_cond_f rfl hc18 ?_
              have hc18p := hc18
              have hc18p := bne_f hc18p
              refine cc_skip <| lv_block <| lv_next <| cc_region <| wd rfl (fun st => x_add (ee st hs9_21) (ee st rfl) ⟨by omega, by omega⟩) <| wm rfl (v := I (((j : Nat) : Int) + 1)) rfl <| wl_end ?_
              obtain ⟨v9, hv9⟩ : ∃ v, mget L (keyOf rows x5) = some v := Option.isSome_iff_exists.1 hc13_16
              have hne9 : v9 = cntr f x5 n := by have h := hc18p; rw [hv9] at h; exact h
              have hB_w17 := (bl_ext hB_w9 hx17)
              have hbq_w17 := (hbq_w9.ext hx17)
              have hrd_w17 := (hrd_w9.ext hx17)
              have hR_w17 := (hR_w9.ext hx17)
              have mpr1_w17 := (mpr1_w9.ext hx17)
              refine lv_round ((truths f []).length - (j + 1)) (by omega) (fun st => ?_)
              exact ⟨(j + 1), L, rfl, by omega, (fun key v h => by obtain ⟨a, ha, h1, h2⟩ := hL1 key v h; exact ⟨a, (mem_take_succ hx5).2 (.inl ha), h1, h2⟩), (by
                    intro a ha
                    rcases (mem_take_succ hx5).1 ha with h | rfl
                    · exact hL2 a h
                    · rw [hv9, hne9]), (puts_size _ _).trans st.sz, (puts_defers _ _).trans st.df, (sl_puts st 0).trans hs9_0, (sl_puts st 1).trans hs9_1, (sl_puts st 2).trans hs9_2, (sl_puts st 7).trans hs9_7, (sl_puts st 15).trans hs9_15, (sl_puts st 16).trans hs9_16, (sl_puts st 17).trans hs9_17, (sl_puts st 18).trans hs9_18, (sl_puts st 19).trans hs9_19, (sl_puts st 20).trans hs9_20, (sl_puts st 21).trans (vint (by omega)), hB_w17, hbq_w17, hrd_w17, hR_w17, mpr1_w17⟩
    · refine cc_cond_f rfl hc3 ?_
      have hc3p := hc3
      have hc3p := of_decide_eq_false hc3p
      refine cc_exit <| lv_then_exit <| lv_then_exit <| lv_block_hit <| lv_next <| cc_seq <| cc_region <| wa rfl (v := .bool true) rfl <| wl_end <| lv_next <| cc_ret <| lv_ret1 rfl rfl ?_
      rw [List.take_of_length_le (by omega)] at hL2
      refine ⟨vbool (settles_iff.2 fun a ha b hb e => ?_).symm, ext_of_below hB_w2⟩
      have h1 := hL2 a ha
      rw [e, hL2 b hb] at h1
      exact (Option.some.inj h1).symm
end Go.Proofs.Ythogdgkafaclaaa
end
section
set_option linter.unusedVariables false
set_option linter.unusedSimpArgs false
namespace Go.Proofs.Ythogdgkafaclaaa
open Go.RowKit
attribute [local irreducible] Ex1 WL CC CW LV Ret ObOp Agg One Own
theorem c109s (xs : List Int) (ad : Addr) (d : Nat) (w : World) (hl : xs.length ≤ 100000) (hs : Rd w 0 w.heap.size (some ad) (ivs xs)) :
    Ret Try.prog 109 #[.slice (some ad) xs.length d] w (fun v w' => ∃ A2 c2, v = .slice A2 xs.length c2 ∧ OwnS w' w.heap.size 3 1 A2 xs.length c2 (ivs xs) ∧ Ext w w') := by
  refine ret_of_cc (N := 8) Try.func109 rfl rfl (by simp) ?_
  intro fr0 ha hdf
  have hp0 := sl_arg (i := 0) (v := .slice (some ad) xs.length d) ha rfl
  clear ha
  refine cc_seq <| cc_region <| wa rfl (v := .slice none 0 0) rfl <| wl_end <| lv_next <| cc_seq <| cc_seq <| cc_region <| wm rfl (v := .slice (some ad) xs.length d) hp0 <| wd rfl (fun st => x_eqv (ee st rfl) (ee st rfl) rfl (eqnf_43 _ _ _ _)) <| wl_end <| lv_next <| cc_cond_f rfl rfl <| cc_skip <| lv_next <| cc_seq <| cc_region <| we rfl (fun st => x_buildSlice (e := 3) (vs := #[]) (cs := #[]) pm0 (by kernel_rfl)) ?_
  rintro _ w1 ⟨b1, rfl, nb1⟩
  have lo1 : w.heap.size ≤ b1 := by rw [nb1.b_eq]; exact (Below.refl w.heap.size w).size
  refine wm rfl (v := .slice (some ad) xs.length d) hp0 ?_
  have hOn : OwnS w1 w.heap.size 3 1 (some ⟨b1, 0, none⟩) 0 0 [] := OwnS.new nb1 (Nat.le_refl _)
  have hs_w1 := (hs.ext nb1.gr)
  have hnews : ∀ j u, (ivs xs)[j]? = some u → World.cell? w1 (Addr.add ad j) = some u := rd_news hs_w1
  refine we rfl (fun st => x_appendG Try.underlying43 info_3 rfl (by decide) (ee st rfl) (ee st rfl) hOn hnews (by rw [ivs_len]; simp) (one_ivs' xs) (by simp [maxLen]; omega) (by omega) (Nat.le_of_lt (by have := nb1.sz; have := nb1.b_eq; omega))) ?_
  rintro _ w2 ⟨A2, c2, rfl, hO2, hg2, -, -⟩
  rw [Nat.zero_add, List.nil_append] at hO2
  have hB_w1 := (bl_ext (Below.refl w.heap.size w) nb1.gr)
  have hB_w2 : Below w.heap.size w w2 := below_upd hB_w1 (b := b1) hg2 (hB_w1).size (by rw [nb1.b_eq]; exact Nat.le_refl _)
  refine wa rfl (v := .slice A2 (0 + xs.length) c2) rfl <| wl_end <| lv_next <| cc_ret <| lv_ret1 rfl rfl ?_
  exact ⟨A2, c2, congrArg (fun z => Value.slice A2 z c2) (Nat.zero_add xs.length), hO2, ext_of_below hB_w2⟩
theorem c109n  (w : World) :
    Ret Try.prog 109 #[.slice none 0 0] w (fun v w' => v = .slice none 0 0 ∧ Ext w w') := by
  refine ret_of_cc (N := 8) Try.func109 rfl rfl (by simp) ?_
  intro fr0 ha hdf
  have hp0 := sl_arg (i := 0) (v := .slice none 0 0) ha rfl
  clear ha
  refine cc_seq <| cc_region <| wa rfl (v := .slice none 0 0) rfl <| wl_end <| lv_next <| cc_seq <| cc_seq <| cc_region <| wm rfl (v := .slice none 0 0) hp0 <| wd rfl (fun st => x_eqv (ee st rfl) (ee st rfl) rfl (eqnt_43 _ _ _)) <| wl_end <| lv_next <| cc_cond_t rfl rfl <| cc_seq <| cc_region <| wa rfl (v := .slice none 0 0) rfl <| wl_end <| lv_next <| cc_ret <| lv_then_ret <| lv_ret1 rfl rfl ?_
  exact ⟨rfl, ext_of_below (Below.refl w.heap.size w)⟩
theorem c109 (xs : List Int) (B : Option Addr) (d : Nat) (w : World) (hl : xs.length ≤ 100000) (hn : B = none → xs = [] ∧ d = 0) (hs : Rd w 0 w.heap.size B (ivs xs)) : Ret Try.prog 109 #[.slice B xs.length d] w (fun v w' => ∃ A2 c2, v = .slice A2 xs.length c2 ∧ OwnS w' w.heap.size 3 1 A2 xs.length c2 (ivs xs) ∧ Ext w w') := by
  cases B with
  | none =>
    obtain ⟨rfl, rfl⟩ := hn rfl
    refine (c109n w).mono ?_
    rintro _ w' ⟨rfl, hx⟩
    exact ⟨none, 0, rfl, OwnS.nil _ _ _ _, hx⟩
  | some ad => exact c109s xs ad d w hl hs
theorem c109k (xs : List Int) (n : Nat) (hn : xs.length = n) (B : Option Addr) (d : Nat) (w : World) (hl : xs.length ≤ 100000) (hnl : B = none → xs = [] ∧ d = 0) (hs : Rd w 0 w.heap.size B (ivs xs)) : Ret Try.prog 109 #[.slice B n d] w (fun v w' => ∃ A2 c2, v = .slice A2 n c2 ∧ OwnS w' w.heap.size 3 1 A2 n c2 (ivs xs) ∧ Ext w w') := by
  subst hn; exact c109 xs B d w hl hnl hs
end Go.Proofs.Ythogdgkafaclaaa
end
section
set_option linter.unusedVariables false
set_option linter.unusedSimpArgs false
namespace Go.Proofs.Ythogdgkafaclaaa
open Go.RowKit
attribute [local irreducible] Ex1 WL CC CW LV Ret ObOp Agg One Own
def Ad (below : Int) (p : List Int → Bool) (pk : FuncId) (pf pc : Array Value) (w0 : World) (fb pb bb ab : Nat) (k : Nat) : Prop :=
  ∀ (l : List Int) (n : Nat) (many : Int) (B : Option Addr) (d : Nat) (fr : Int) (cur : List Int) (Ac : Option Addr) (dc : Nat) (w : World), (l.length = n) → (many = k) → (0 ≤ fr ∧ fr ≤ 8) → (l.length + k ≤ 8) → (∀ x ∈ l, 0 ≤ x ∧ x < below) → (B = none → l = [] ∧ d = 0) → (Below w0.heap.size w0 w) → Bk w fb 43 #[.slice Ac cur.length dc] → Bk w pb 117 #[.func (.func pk) pf pc] → Bk w bb 3 #[I below] → Bk w ab 142 #[.func (.func 108) #[] #[pt fb 0, pt pb 0, pt bb 0, pt ab 0]] → OwnS w w0.heap.size 3 1 B n d (ivs l) → OwnS w w0.heap.size 3 1 Ac cur.length dc (ivs cur) → Ret Try.prog 108 #[.slice B n d, .int .i64 fr, .int .i64 many, pt fb 0, pt pb 0, pt bb 0, pt ab 0] w (fun v w' => v = .bool ((cand below k l fr).any p) ∧ Upd fb w w' ∧ ∃ A2 d2, Bk w' fb 43 #[.slice A2 (fnd p cur (cand below k l fr)).length d2] ∧ OwnS w' w0.heap.size 3 1 A2 (fnd p cur (cand below k l fr)).length d2 (ivs (fnd p cur (cand below k l fr))))
theorem c108s (below : Int) (p : List Int → Bool) (pk : FuncId) (pf pc : Array Value) (w0 : World) (fb pb bb ab : Nat) (k : Nat) (ih : ∀ k2, k2 < k → Ad below p pk pf pc w0 fb pb bb ab k2) (l : List Int) (n : Nat) (many : Int) (B : Option Addr) (d : Nat) (fr : Int) (cur : List Int) (Ac : Option Addr) (dc : Nat) (w : World) (hbl : 0 ≤ below ∧ below ≤ 7) (hord : w0.heap.size ≤ fb ∧ fb ≠ pb ∧ fb ≠ bb ∧ fb ≠ ab) (hown : Own Try.prog pk) (hpass : ∀ (l : List Int) (B : Option Addr) (d : Nat) (w1 : World), (∀ x ∈ l, 0 ≤ x ∧ x < below) → l.length ≤ 8 → Below w0.heap.size w0 w1 → Rd w1 0 w1.heap.size B (ivs l) → Ret Try.prog pk (pf ++ #[.slice B l.length d] ++ pc) w1 (fun v w2 => v = .bool (p l) ∧ Ext w1 w2)) (hn : l.length = n) (hm : many = k) (h0 : 0 ≤ fr ∧ fr ≤ 8) (hlen : l.length + k ≤ 8) (hgood : ∀ x ∈ l, 0 ≤ x ∧ x < below) (hnl : B = none → l = [] ∧ d = 0) (hW : Below w0.heap.size w0 w) (hfb : Bk w fb 43 #[.slice Ac cur.length dc]) (hpb : Bk w pb 117 #[.func (.func pk) pf pc]) (hbb : Bk w bb 3 #[I below]) (hab : Bk w ab 142 #[.func (.func 108) #[] #[pt fb 0, pt pb 0, pt bb 0, pt ab 0]]) (hl : OwnS w w0.heap.size 3 1 B n d (ivs l)) (hc : OwnS w w0.heap.size 3 1 Ac cur.length dc (ivs cur)) :
    Ret Try.prog 108 #[.slice B n d, I fr, I many, pt fb 0, pt pb 0, pt bb 0, pt ab 0] w (fun v w' => v = .bool ((cand below k l fr).any p) ∧ Upd fb w w' ∧ ∃ A2 d2, Bk w' fb 43 #[.slice A2 (fnd p cur (cand below k l fr)).length d2] ∧ OwnS w' w0.heap.size 3 1 A2 (fnd p cur (cand below k l fr)).length d2 (ivs (fnd p cur (cand below k l fr)))) := by
  have hneB := own_ne hl hfb (by decide)
  have hl1000 : n ≤ 8 := by omega
  refine ret_of_cc (N := 37) Try.func108 rfl rfl (by simp) ?_
  intro fr0 ha hdf
  have hp0 := sl_arg (i := 0) (v := .slice B n d) ha rfl
  have hp1 := sl_arg (i := 1) (v := I fr) ha rfl
  have hp2 := sl_arg (i := 2) (v := I many) ha rfl
  have hp3 := sl_arg (i := 3) (v := pt fb 0) ha rfl
  have hp4 := sl_arg (i := 4) (v := pt pb 0) ha rfl
  have hp5 := sl_arg (i := 5) (v := pt bb 0) ha rfl
  have hp6 := sl_arg (i := 6) (v := pt ab 0) ha rfl
  clear ha
  refine cc_seq <| cc_region <| wa rfl (v := .bool false) rfl <| wl_end <| lv_next <| cc_seq <| cc_seq <| cc_region <| wm rfl (v := I many) hp2 <| wd rfl (fun st => x_eql (ee st rfl) (ee st rfl)) <| wl_end <| lv_next ?_
  rcases bool_cases (many == 0) with hc1 | hc1
  · refine cc_cond_t rfl hc1 ?_
    have hc1p := hc1
    have hc1p := eq_of_beq hc1p
    obtain rfl : k = 0 := by omega
    refine cc_seq <| cc_region <| wm rfl (v := .slice B n d) hp0 <| wl_ex0 rfl rfl (fun st => x_store (n := 1) (l := [.slice B n d]) (cs' := #[.slice B n d]) (ee st hp3) (ee st rfl) sz_43 hfb rfl rfl (show 0 + 1 ≤ 1 by decide) (one_cells rfl) rfl) ?_
    rintro _ w2 sb2
    refine wl_end <| lv_next <| cc_seq <| cc_region ?_
    have hpb_w2 := (hpb.upd sb2.gr (by omega))
    refine wd rfl (fun st => x_load1 (v := .func (.func pk) pf pc) one_117 (ee st hp4) hpb_w2 rfl) <| wm rfl (v := .slice B n d) hp0 ?_
    have hW_w2 := (bl_upd hW sb2.gr (by omega))
    have hl_w2 := (hl.updn sb2.gr hneB)
    have hrl := (hl_w2.rd).mono (Nat.zero_le _) (Nat.le_refl _) (Nat.le_refl _)
    refine we rfl (fun st => x_call hown (ee st rfl) (am1 (ee st rfl)) rfl (hn ▸ hpass l B d _ hgood (by omega) hW_w2 hrl)) ?_
    rintro _ w3 ⟨rfl, hx3⟩
    refine wa rfl (v := .bool (p l)) rfl <| wl_end <| lv_next <| cc_ret <| lv_then_ret <| lv_ret1 rfl rfl ?_
    have hB_w3 : Upd fb w w3 := (up_ext (up_upd (show Upd fb w w from World.grownBy.refl w _) sb2.gr) hx3)
    have hfb_w3 := (sb2.bk.ext hx3)
    have hl_w3 := (hl_w2.ext hx3)
    have hone : fnd p cur (cand below 0 l fr) = l := fnd_one p cur l
    exact ⟨vbool (by simp [cand]), hB_w3, B, d, by rw [hone, hn]; exact hfb_w3, by rw [hone, hn]; exact hl_w3⟩
  · refine cc_cond_f rfl hc1 ?_
    have hc1p := hc1
    have hc1p := ne_of_beq_false hc1p
    obtain ⟨k2, rfl⟩ : ∃ k2, k = k2 + 1 := ⟨k - 1, by omega⟩
    refine cc_skip <| lv_next <| cc_seq <| cc_seq <| cc_region <| wm rfl (v := I fr) hp1 <| wa rfl (v := I fr) rfl <| wl_end <| lv_next <| cc_block ?_
    refine cc_loop (fun (m_ : Nat) (fr_ : Act) (w_ : World) => ∃ (j : Nat), ∃ (A2 : Option Addr), ∃ (d2 : Nat), m_ = (below - (k2 + 1) - fr + 1).toNat - j ∧ (j ≤ (below - (k2 + 1) - fr + 1).toNat) ∧ ((candTo below k2 l fr j).any p = false) ∧ fr_.tmps.size = 37 ∧ fr_.defers = [] ∧ sl fr_ 0 = .slice B n d ∧ sl fr_ 1 = I fr ∧ sl fr_ 2 = I many ∧ sl fr_ 3 = pt fb 0 ∧ sl fr_ 4 = pt pb 0 ∧ sl fr_ 5 = pt bb 0 ∧ sl fr_ 6 = pt ab 0 ∧ sl fr_ 12 = I many ∧ sl fr_ 13 = .bool (many == 0) ∧ sl fr_ 18 = I fr ∧ sl fr_ 11 = I (fr + (j : Int)) ∧ Upd fb w w_ ∧ Below w0.heap.size w0 w_ ∧ Bk w_ fb 43 #[.slice A2 ((fnd p cur (candTo below k2 l fr j)).length) d2] ∧ Bk w_ pb 117 #[.func (.func pk) pf pc] ∧ Bk w_ bb 3 #[I below] ∧ Bk w_ ab 142 #[.func (.func 108) #[] #[pt fb 0, pt pb 0, pt bb 0, pt ab 0]] ∧ OwnS w_ w0.heap.size 3 1 B n d (ivs l) ∧ OwnS w_ w0.heap.size 3 1 A2 ((fnd p cur (candTo below k2 l fr j)).length) d2 (ivs (fnd p cur (candTo below k2 l fr j)))) ((below - (k2 + 1) - fr + 1).toNat - 0) ?init4 ?round4
    case init4 =>
      intro st
      exact ⟨0, Ac, dc, rfl, by omega, rfl, (puts_size _ _).trans st.sz, (puts_defers _ _).trans st.df, (sl_puts st 0).trans hp0, (sl_puts st 1).trans hp1, (sl_puts st 2).trans hp2, (sl_puts st 3).trans hp3, (sl_puts st 4).trans hp4, (sl_puts st 5).trans hp5, (sl_puts st 6).trans hp6, (sl_puts st 12).trans rfl, (sl_puts st 13).trans rfl, (sl_puts st 18).trans rfl, (sl_puts st 11).trans (vint (by omega)), (show Upd fb w w from World.grownBy.refl w _), hW, hfb, hpb, hbb, hab, hl, hc⟩
    case round4 =>
      rintro m_ fr4 w4 ⟨j, A2, d2, rfl, hj, hno, hsz4, hdf4, hs4_0, hs4_1, hs4_2, hs4_3, hs4_4, hs4_5, hs4_6, hs4_12, hs4_13, hs4_18, hs4_11, hB_w4, hW_w4, hfb_w4, hpb_w4, hbb_w4, hab_w4, hl_w4, hc2_w4⟩
      refine round_cc (N := 37) hsz4 hdf4 ?_
      have hneC := own_ne hc2_w4 hfb_w4 (by decide)
      refine cc_seq <| cc_seq <| cc_region <| wm rfl (v := I (fr + (j : Int))) hs4_11 <| wd rfl (fun st => x_load1 (v := I below) one_3 (ee st hs4_5) hbb_w4 rfl) <| wm rfl (v := I many) hs4_2 <| wd rfl (fun st => x_sub (ee st rfl) (ee st rfl) ⟨by omega, by omega⟩) <| wd rfl (fun st => x_leq (ee st rfl) (ee st rfl)) <| wl_end <| lv_next ?_
      rcases bool_cases (decide ((fr + (j : Int)) ≤ (below - many))) with hc5 | hc5
      · refine cc_cond_t rfl hc5 ?_
        have hc5p := hc5
        have hc5p := of_decide_eq_true hc5p
        refine cc_skip <| lv_next <| cc_seq <| cc_block <| cc_seq ?_
        let T108 : Nat → World → Prop := fun ph w_ => match ph with | 0 => Ext w4 w_ | 1 => Ext w4 w_ | _ + 2 => Upd fb w4 w_ ∧ ∃ A3 d3, Bk w_ fb 43 #[.slice A3 (fnd p (fnd p cur (candTo below k2 l fr j)) (cand below k2 (l ++ [fr + (j : Int)]) (fr + (j : Int) + 1))).length d3] ∧ OwnS w_ w0.heap.size 3 1 A3 (fnd p (fnd p cur (candTo below k2 l fr j)) (cand below k2 (l ++ [fr + (j : Int)]) (fr + (j : Int) + 1))).length d3 (ivs (fnd p (fnd p cur (candTo below k2 l fr j)) (cand below k2 (l ++ [fr + (j : Int)]) (fr + (j : Int) + 1))))
        have hTe : ∀ k a b, T108 k a → Ext a b → T108 k b := fun k a b h g => match k, h with | 0, h => Ext.trans h g | 1, h => Ext.trans h g | _ + 2, ⟨h1, A3, d3, h2, h3⟩ => ⟨up_ext h1 g, A3, d3, h2.ext g, h3.ext g⟩
        have hT0 : ∀ k w_, T108 k w_ → k ≤ 1 → Ext w4 w_ := fun k w_ h hk => match k, h with | 0, h => h | 1, h => h | _ + 2, _ => absurd hk (by omega)
        refine cc_anys (T108) [5, 10] [Kc (.func (.func 108) #[] #[pt fb 0, pt pb 0, pt bb 0, pt ab 0]), Kc (.slice B n d), ⟨fun v w_ => ∃ A4 c4, v = .slice A4 n c4 ∧ OwnS w_ w4.heap.size 3 1 A4 n c4 (ivs l), fun _ _ _ ⟨A4, c4, h1, h2⟩ g => ⟨A4, c4, h1, h2.ext g⟩⟩, Kc (I (fr + (j : Int))), ⟨fun v w_ => ∃ b, v = .slice (some ⟨b, 0, none⟩) 1 1 ∧ w_.cell? ⟨b, 0, none⟩ = some (.int .i64 (fr + (j : Int))), fun _ _ _ ⟨b, h1, h2⟩ g => ⟨b, h1, cell_ext h2 g⟩⟩, ⟨fun v w_ => ∃ A5 c5, v = .slice A5 (n + 1) c5 ∧ OwnS w_ w4.heap.size 3 1 A5 (n + 1) c5 (ivs l ++ [.int .i64 (fr + (j : Int))]), fun _ _ _ ⟨A5, c5, h1, h2⟩ g => ⟨A5, c5, h1, h2.ext g⟩⟩, Kc (I (fr + (j : Int))), Kc (I ((fr + (j : Int)) + 1)), Kc (I many), Kc (I (many - 1)), Kc (.bool ((cand below k2 (l ++ [fr + (j : Int)]) (fr + (j : Int) + 1)).any p))] mixed rfl
            hTe (ext_drew _)
            (obs_cons (ob_det rfl rfl (fun _ => rfl) (fun a' w' ph K => x_load1 (v := .func (.func 108) #[] #[pt fb 0, pt pb 0, pt bb 0, pt ab 0]) one_142 (es (t := 6) (v := pt ab 0) ((K.out 6 rfl).trans hs4_6)) (hab_w4.ext (hT0 _ _ K.phT (K.lat 1 10 _ rfl rfl rfl))) rfl))
            (obs_cons (ob_det rfl rfl (fun _ => rfl) (fun a' w' ph K => x_move (v := .slice B n d) (es (t := 0) (v := .slice B n d) ((K.out 0 rfl).trans hs4_0))))
            (obs_cons (ob_ext rfl rfl (fun a' w' ph K => (x_call0 own_109 rfl (am1 (es (t := 27) (v := .slice B n d) (K.dep 1 27 rfl rfl))) (c109k l n hn B d _ (by omega) hnl (((hl_w4.ext (hT0 _ _ K.phT (Nat.le_trans (K.lat 0 5 _ rfl rfl rfl) (by decide)))).rd).mono (Nat.zero_le _) (Nat.le_refl _) (Nat.le_refl _)))).mono (fun v w'' ⟨A4, c4, h1, h2, h3⟩ => ⟨⟨A4, c4, h1, h2.weak ((hT0 _ _ K.phT (Nat.le_trans (K.lat 0 5 _ rfl rfl rfl) (by decide)))).size⟩, h3⟩)))
            (obs_cons (ob_det rfl rfl (fun _ => rfl) (fun a' w' ph K => x_move (v := I (fr + (j : Int))) (es (t := 11) (v := I (fr + (j : Int))) ((K.out 11 rfl).trans hs4_11))))
            (obs_cons (ob_ext rfl rfl (fun a' w' ph K => (x_buildSlice (e := 3) (vs := #[(0, I (fr + (j : Int)))]) (cs := #[I (fr + (j : Int))]) (pm1 (es (t := 29) (v := I (fr + (j : Int))) (K.dep 3 29 rfl rfl))) (by kernel_rfl)).mono (fun v w'' ⟨b, h1, h2⟩ => ⟨⟨b, h1, (h2.bk.cell 0).trans rfl⟩, h2.gr⟩)))
            (obs_cons (ob_spec rfl rfl (fun a' w' ph K => match K.dep 2 28 rfl rfl with | ⟨A4, c4, e2, k2_⟩ => match K.dep 4 30 rfl rfl with | ⟨b4, e4, k4⟩ => (x_appendG Try.underlying43 info_3 rfl (by decide) (news := [.int .i64 (fr + (j : Int))]) (es (t := 28) (v := .slice A4 n c4) e2) (es (t := 30) (v := .slice (some ⟨b4, 0, none⟩) 1 1) e4) k2_ (news1 k4) rfl (one_cells rfl) (by simp [maxLen]; omega) (by omega) ((hT0 _ _ K.phT (by have e := K.spi 0 rfl; omega))).size).mono (fun v w'' ⟨A5, c5, h5, hO5, hg5, hx5, _⟩ => ⟨⟨A5, c5, h5, hO5⟩, sk_of ⟨fun _ _ h => h, fun _ _ h => h, fun _ v h => okA k2_ hO5 hx5 hg5 h, fun _ _ h => h, fun _ _ ⟨b, h1, h2⟩ => ⟨b, h1, cell_app k2_ hO5 hg5 hx5 h2⟩, fun h => absurd rfl h, fun _ _ h => h, fun _ _ h => h, fun _ _ h => h, fun _ _ h => h, fun _ _ h => h, trivial⟩, by have e := K.spi 0 rfl; subst e; exact ext_bw (hT0 0 _ K.phT (Nat.zero_le _)) (below_row k2_ (hT0 0 _ K.phT (Nat.zero_le _)).size (Nat.le_refl _) hg5)⟩)))
            (obs_cons (ob_det rfl rfl (fun _ => rfl) (fun a' w' ph K => x_move (v := I (fr + (j : Int))) (es (t := 11) (v := I (fr + (j : Int))) ((K.out 11 rfl).trans hs4_11))))
            (obs_cons (ob_det rfl rfl (fun _ => rfl) (fun a' w' ph K => x_add (es (t := 32) (v := I (fr + (j : Int))) (K.dep 6 32 rfl rfl)) (ec (v := I 1)) ⟨by omega, by omega⟩))
            (obs_cons (ob_det rfl rfl (fun _ => rfl) (fun a' w' ph K => x_move (v := I many) (es (t := 2) (v := I many) ((K.out 2 rfl).trans hs4_2))))
            (obs_cons (ob_det rfl rfl (fun _ => rfl) (fun a' w' ph K => x_sub (es (t := 34) (v := I many) (K.dep 8 34 rfl rfl)) (ec (v := I 1)) ⟨by omega, by omega⟩))
            (obs_cons (ob_spec rfl rfl (fun a' w' ph K => match K.dep 5 31 rfl rfl with | ⟨A5, c5, e5, k5⟩ => (x_call (first := #[]) (cap := #[pt fb 0, pt pb 0, pt bb 0, pt ab 0]) (vs := #[.slice A5 (n + 1) c5, .int .i64 (fr + (j : Int) + 1), .int .i64 (many - 1)]) (all := #[.slice A5 (n + 1) c5, .int .i64 (fr + (j : Int) + 1), .int .i64 (many - 1), pt fb 0, pt pb 0, pt bb 0, pt ab 0]) own_108 (es (t := 26) (v := .func (.func 108) #[] #[pt fb 0, pt pb 0, pt bb 0, pt ab 0]) (K.dep 0 26 rfl rfl)) (am3 (es (t := 31) (v := .slice A5 (n + 1) c5) e5) (es (t := 33) (v := I ((fr + (j : Int)) + 1)) (K.dep 7 33 rfl rfl)) (es (t := 35) (v := I (many - 1)) (K.dep 9 35 rfl rfl))) rfl (ih k2 (by omega) (l ++ [fr + (j : Int)]) (n + 1) (many - 1) A5 c5 (fr + (j : Int) + 1) (fnd p cur (candTo below k2 l fr j)) A2 d2 w' (by simp [hn]) (by omega) (by omega) (by rw [List.length_append]; simp; omega) (good1 (i := fr + (j : Int)) hgood (by omega)) (fun hA => by subst hA; exact absurd k5 own_none) (bl_ext hW_w4 (hT0 _ _ K.phT (by have e := K.spi 1 rfl; omega))) (hfb_w4.ext (hT0 _ _ K.phT (by have e := K.spi 1 rfl; omega))) (hpb_w4.ext (hT0 _ _ K.phT (by have e := K.spi 1 rfl; omega))) (hbb_w4.ext (hT0 _ _ K.phT (by have e := K.spi 1 rfl; omega))) (hab_w4.ext (hT0 _ _ K.phT (by have e := K.spi 1 rfl; omega))) (by rw [ivs_snoc]; exact k5.weak (Below.size hW_w4)) (hc2_w4.ext (hT0 _ _ K.phT (by have e := K.spi 1 rfl; omega))))).mono (fun v w'' ⟨hv, hup, A3, d3, h2, h3⟩ => ⟨hv, sk_of ⟨fun _ _ h => h, fun _ _ h => h, fun _ _ ⟨A4, c4, h1, h2⟩ => ⟨A4, c4, h1, h2.updn hup (own_ne h2 (hfb_w4.ext (hT0 _ _ K.phT (by have e := K.spi 1 rfl; omega))) (by decide))⟩, fun _ _ h => h, fun _ _ ⟨b, h1, h2⟩ => ⟨b, h1, cell_upd h2 (hfb_w4.ext (hT0 _ _ K.phT (by have e := K.spi 1 rfl; omega))) hup⟩, fun _ _ ⟨A6, c6, h1, h2⟩ => ⟨A6, c6, h1, h2.updn hup (own_ne h2 (hfb_w4.ext (hT0 _ _ K.phT (by have e := K.spi 1 rfl; omega))) (by decide))⟩, fun _ _ h => h, fun _ _ h => h, fun _ _ h => h, fun _ _ h => h, fun h => absurd rfl h, trivial⟩, by have e := K.spi 1 rfl; subst e; exact ⟨World.grownBy.trans (upd_of_ext (hT0 1 _ K.phT (Nat.le_refl _))) hup, A3, d3, h2, h3⟩⟩)))
            (obs_nil _)))))))))))) ?_
        intro w6 hx6
        rintro _ rfl _ rfl _ ⟨A4, c4, rfl, hO4⟩ _ rfl _ ⟨b4, rfl, hb4⟩ _ ⟨A5, c5, rfl, hO5⟩ _ rfl _ rfl _ rfl _ rfl _ rfl
        obtain ⟨hup9, A3, d3, hfb9, hc9⟩ := hx6
        refine lv_next ?_
        rcases bool_cases ((cand below k2 (l ++ [fr + (j : Int)]) (fr + (j : Int) + 1)).any p) with hc7 | hc7
        · refine cc_cond_t rfl hc7 <| cc_seq <| cc_region <| wa rfl (v := .bool true) rfl <| wl_end <| lv_next <| cc_ret <| lv_block_ret <| lv_then_ret <| lv_then_ret <| lv_block_ret <| lv_then_ret <| lv_ret1 rfl rfl ?_
          have hB_w6 : Upd fb w w6 := (up_upd hB_w4 hup9)
          have hst := candTo_stop (p := p) (cur := cur) (n := (below - (k2 + 1) - fr + 1).toNat) (by omega) hno hc7
          exact ⟨vbool hst.1.symm, hB_w6, A3, d3, by rw [show cand below (k2 + 1) l fr = _ from rfl]; exact hst.2 ▸ hfb9, hst.2 ▸ hc9⟩
        · refine cc_cond_f rfl hc7 <| cc_skip <| lv_block <| lv_next <| cc_region <| wm rfl (v := I (fr + (j : Int))) hs4_11 <| wd rfl (fun st => x_add (ee st rfl) (ee st rfl) ⟨by omega, by omega⟩) <| wa rfl (v := I ((fr + (j : Int)) + 1)) rfl <| wl_end ?_
          have hB_w6 : Upd fb w w6 := (up_upd hB_w4 hup9)
          have hW_w6 := (bl_upd hW_w4 hup9 (by omega))
          have hpb_w6 := (hpb_w4.upd hup9 (by omega))
          have hbb_w6 := (hbb_w4.upd hup9 (by omega))
          have hab_w6 := (hab_w4.upd hup9 (by omega))
          have hl_w6 := (hl_w4.updn hup9 hneB)
          refine lv_round ((below - (k2 + 1) - fr + 1).toNat - (j + 1)) (by omega) (fun st => ?_)
          exact ⟨(j + 1), A3, d3, rfl, by omega, (by rw [candTo_succ, List.any_append, hno, hc7]; rfl), (puts_size _ _).trans st.sz, (puts_defers _ _).trans st.df, (sl_puts st 0).trans hs4_0, (sl_puts st 1).trans hs4_1, (sl_puts st 2).trans hs4_2, (sl_puts st 3).trans hs4_3, (sl_puts st 4).trans hs4_4, (sl_puts st 5).trans hs4_5, (sl_puts st 6).trans hs4_6, (sl_puts st 12).trans hs4_12, (sl_puts st 13).trans hs4_13, (sl_puts st 18).trans hs4_18, (sl_puts st 11).trans (vint (by omega)), hB_w6, hW_w6, (by rw [candTo_succ, fnd_append p _ _ _ hno]; exact hfb9), hpb_w6, hbb_w6, hab_w6, hl_w6, (by rw [candTo_succ, fnd_append p _ _ _ hno]; exact hc9)⟩
      · refine cc_cond_f rfl hc5 ?_
        have hc5p := hc5
        have hc5p := of_decide_eq_false hc5p
        refine cc_exit <| lv_then_exit <| lv_then_exit <| lv_block_hit <| lv_next <| cc_seq <| cc_region <| wa rfl (v := .bool false) rfl <| wl_end <| lv_next <| cc_ret <| lv_ret1 rfl rfl ?_
        have hjj : j = (below - (k2 + 1) - fr + 1).toNat := by omega
        subst hjj
        exact ⟨vbool hno.symm, hB_w4, A2, d2, hfb_w4, hc2_w4⟩
end Go.Proofs.Ythogdgkafaclaaa
end
section
set_option linter.unusedVariables false
set_option linter.unusedSimpArgs false
namespace Go.Proofs.Ythogdgkafaclaaa
open Go.RowKit
attribute [local irreducible] Ex1 WL CC CW LV Ret ObOp Agg One Own
theorem c108 (below : Int) (p : List Int → Bool) (pk : FuncId) (pf pc : Array Value) (w0 : World) (fb pb bb ab : Nat) (hbl : 0 ≤ below ∧ below ≤ 7) (hord : w0.heap.size ≤ fb ∧ fb ≠ pb ∧ fb ≠ bb ∧ fb ≠ ab) (hown : Own Try.prog pk) (hpass : ∀ (l : List Int) (B : Option Addr) (d : Nat) (w1 : World), (∀ x ∈ l, 0 ≤ x ∧ x < below) → l.length ≤ 8 → Below w0.heap.size w0 w1 → Rd w1 0 w1.heap.size B (ivs l) → Ret Try.prog pk (pf ++ #[.slice B l.length d] ++ pc) w1 (fun v w2 => v = .bool (p l) ∧ Ext w1 w2)) (k : Nat) : Ad below p pk pf pc w0 fb pb bb ab k := by
  induction k using Nat.strongRecOn with
  | _ k ih =>
    intro l n many B d fr cur Ac dc w hn hm h0 hlen hgood hnl hW hfb hpb hbb hab hl hc
    exact c108s below p pk pf pc w0 fb pb bb ab k ih l n many B d fr cur Ac dc w hbl hord hown hpass hn hm h0 hlen hgood hnl hW hfb hpb hbb hab hl hc
theorem c81 (below : Int) (p : List Int → Bool) (pk : FuncId) (pf pc : Array Value) (w : World) (hbl : 0 ≤ below ∧ below ≤ 7) (hown : Own Try.prog pk) (hpass : ∀ (l : List Int) (B : Option Addr) (d : Nat) (w1 : World), (∀ x ∈ l, 0 ≤ x ∧ x < below) → l.length ≤ 8 → Below w.heap.size w w1 → Rd w1 0 w1.heap.size B (ivs l) → Ret Try.prog pk (pf ++ #[.slice B l.length d] ++ pc) w1 (fun v w2 => v = .bool (p l) ∧ Ext w1 w2)) :
    Ret Try.prog 81 #[I below, .func (.func pk) pf pc] w (fun v w' => ∃ A2 d2, v = .slice A2 (shortestL below p).length d2 ∧ OwnS w' w.heap.size 3 1 A2 (shortestL below p).length d2 (ivs (shortestL below p)) ∧ Ext w w') := by
  refine ret_of_cc (N := 18) Try.func81 rfl rfl (by simp) ?_
  intro fr0 ha hdf
  have hp0 := sl_arg (i := 0) (v := I below) ha rfl
  have hp1 := sl_arg (i := 1) (v := .func (.func pk) pf pc) ha rfl
  clear ha
  refine cc_seq <| cc_region <| we rfl (fun st => x_box (v := I below) (cs := #[I below]) (ee st hp0) rfl) ?_
  rintro _ w1 ⟨b1, rfl, nb1⟩
  have lo1 : w.heap.size ≤ b1 := by rw [nb1.b_eq]; exact (Below.refl w.heap.size w).size
  refine we rfl (fun st => x_box (v := .func (.func pk) pf pc) (cs := #[.func (.func pk) pf pc]) (ee st hp1) rfl) ?_
  rintro _ w2 ⟨b2, rfl, nb2⟩
  have hB_w1 := (bl_ext (Below.refl w.heap.size w) nb1.gr)
  have lo2 : w.heap.size ≤ b2 := by rw [nb2.b_eq]; exact hB_w1.size
  have ltb1_2 : b1 < b2 := by rw [nb2.b_eq]; exact nb1.bk.lt
  refine we rfl (fun st => x_alloc (cs := #[.slice none 0 0]) zero_43 rfl) ?_
  rintro _ w3 ⟨b3, rfl, nb3⟩
  have hB_w2 := (bl_ext hB_w1 nb2.gr)
  have lo3 : w.heap.size ≤ b3 := by rw [nb3.b_eq]; exact hB_w2.size
  have bk1_w2 := (nb1.bk.ext nb2.gr)
  have ltb1_3 : b1 < b3 := by rw [nb3.b_eq]; exact bk1_w2.lt
  have ltb2_3 : b2 < b3 := by rw [nb3.b_eq]; exact nb2.bk.lt
  refine wl_end <| lv_next <| cc_scope <| cc_seq <| cc_region <| we rfl (fun st => x_alloc (cs := #[.nilFunc]) zero_142 rfl) ?_
  rintro _ w4 ⟨b4, rfl, nb4⟩
  have hB_w3 := (bl_ext hB_w2 nb3.gr)
  have lo4 : w.heap.size ≤ b4 := by rw [nb4.b_eq]; exact hB_w3.size
  have bk1_w3 := (bk1_w2.ext nb3.gr)
  have ltb1_4 : b1 < b4 := by rw [nb4.b_eq]; exact bk1_w3.lt
  have bk2_w3 := (nb2.bk.ext nb3.gr)
  have ltb2_4 : b2 < b4 := by rw [nb4.b_eq]; exact bk2_w3.lt
  have ltb3_4 : b3 < b4 := by rw [nb4.b_eq]; exact nb3.bk.lt
  refine wl_end <| lv_next <| cc_seq <| cc_region <| wd rfl (fun st => x_makeFunc (vs := #[]) (us := #[pt b3 0, pt b2 0, pt b1 0, pt b4 0]) am0 (am4 (ee st rfl) (ee st rfl) (ee st rfl) (ee st rfl))) <| wl_ex0 rfl rfl (fun st => x_store (n := 1) (l := [.func (.func 108) #[] #[pt b3 0, pt b2 0, pt b1 0, pt b4 0]]) (cs' := #[.func (.func 108) #[] #[pt b3 0, pt b2 0, pt b1 0, pt b4 0]]) (ee st rfl) (ee st rfl) sz_142 nb4.bk rfl rfl (show 0 + 1 ≤ 1 by decide) (one_cells rfl) rfl) ?_
  rintro _ w5 sb5
  refine wl_end <| lv_next <| cc_seq <| cc_label <| lv_next <| cc_seq <| cc_seq <| cc_region ?_
  have bk1_w5 := ((bk1_w3.ext nb4.gr).upd sb5.gr (by omega))
  refine wd rfl (fun st => x_load1 (v := I below) one_3 (ee st rfl) bk1_w5 rfl) <| wd rfl (fun st => x_add (ee st rfl) (ee st rfl) ⟨by omega, by omega⟩) <| wm rfl (v := I 0) rfl <| wl_end <| lv_next <| cc_block ?_
  have bk2_w5 := ((bk2_w3.ext nb4.gr).upd sb5.gr (by omega))
  have bk3_w5 := ((nb3.bk.ext nb4.gr).upd sb5.gr (by omega))
  have hB_w5 := (bl_upd (bl_ext hB_w3 nb4.gr) sb5.gr (by omega))
  refine cc_loop (fun (m_ : Nat) (fr_ : Act) (w_ : World) => ∃ (j : Nat), ∃ (A2 : Option Addr), ∃ (d2 : Nat), m_ = (below + 1).toNat - j ∧ (j ≤ (below + 1).toNat) ∧ ((candAll below j).any p = false) ∧ fr_.tmps.size = 18 ∧ fr_.defers = [] ∧ sl fr_ 0 = I below ∧ sl fr_ 1 = .func (.func pk) pf pc ∧ sl fr_ 2 = pt b1 0 ∧ sl fr_ 3 = pt b2 0 ∧ sl fr_ 4 = pt b3 0 ∧ sl fr_ 5 = pt b4 0 ∧ sl fr_ 7 = .func (.func 108) #[] #[pt b3 0, pt b2 0, pt b1 0, pt b4 0] ∧ sl fr_ 8 = I below ∧ sl fr_ 9 = I (below + 1) ∧ sl fr_ 10 = I ((j : Nat) : Int) ∧ Below w.heap.size w w_ ∧ Bk w_ b1 3 #[I below] ∧ Bk w_ b2 117 #[.func (.func pk) pf pc] ∧ Bk w_ b3 43 #[.slice A2 ((fnd p [] (candAll below j)).length) d2] ∧ Bk w_ b4 142 #[.func (.func 108) #[] #[pt b3 0, pt b2 0, pt b1 0, pt b4 0]] ∧ OwnS w_ w.heap.size 3 1 A2 ((fnd p [] (candAll below j)).length) d2 (ivs (fnd p [] (candAll below j)))) ((below + 1).toNat - 0) ?init6 ?round6
  case init6 =>
    intro st
    exact ⟨0, none, 0, rfl, by omega, rfl, (puts_size _ _).trans st.sz, (puts_defers _ _).trans st.df, (sl_puts st 0).trans hp0, (sl_puts st 1).trans hp1, (sl_puts st 2).trans rfl, (sl_puts st 3).trans rfl, (sl_puts st 4).trans rfl, (sl_puts st 5).trans rfl, (sl_puts st 7).trans rfl, (sl_puts st 8).trans rfl, (sl_puts st 9).trans rfl, (sl_puts st 10).trans (vint (by omega)), hB_w5, bk1_w5, bk2_w5, bk3_w5, sb5.bk, (OwnS.nil _ _ _ _)⟩
  case round6 =>
    rintro m_ fr6 w6 ⟨j, A2, d2, rfl, hj, hno, hsz6, hdf6, hs6_0, hs6_1, hs6_2, hs6_3, hs6_4, hs6_5, hs6_7, hs6_8, hs6_9, hs6_10, hB_w6, bk1_w6, bk2_w6, bk3_w6, bk4_w6, hc_w6⟩
    refine round_cc (N := 18) hsz6 hdf6 <| cc_seq <| cc_region <| wd rfl (fun st => x_lss (ee st hs6_10) (ee st hs6_9)) <| wl_end <| lv_next <| cc_seq ?_
    rcases bool_cases (decide (((j : Nat) : Int) < (below + 1))) with hc7 | hc7
    · refine cc_cond_t rfl hc7 ?_
      have hc7p := hc7
      have hc7p := of_decide_eq_true hc7p
      refine cc_skip <| lv_next <| cc_seq <| cc_block <| cc_seq <| cc_region <| wm rfl (v := I ((j : Nat) : Int)) hs6_10 <| wa rfl (v := I ((j : Nat) : Int)) rfl <| wl_end <| lv_next <| cc_seq <| cc_region <| wd rfl (fun st => x_load1 (v := .func (.func 108) #[] #[pt b3 0, pt b2 0, pt b1 0, pt b4 0]) one_142 (ee st hs6_5) bk4_w6 rfl) <| wm rfl (v := I ((j : Nat) : Int)) rfl <| we rfl (fun st => x_call (first := #[]) (cap := #[pt b3 0, pt b2 0, pt b1 0, pt b4 0]) (vs := #[.slice none 0 0, I 0, I ((j : Nat) : Int)]) (all := #[.slice none 0 0, I 0, I ((j : Nat) : Int), pt b3 0, pt b2 0, pt b1 0, pt b4 0]) own_108 (ee st rfl) (am3 (ee st rfl) (ee st rfl) (ee st rfl)) (by simp) (c108 below p pk pf pc w b3 b2 b1 b4 hbl ⟨by omega, by omega, by omega, by omega⟩ hown hpass j [] 0 _ none 0 0 (fnd p [] (candAll below j)) A2 d2 _ rfl rfl (by omega) (by simp; omega) (by simp) (fun _ => ⟨rfl, rfl⟩) hB_w6 bk3_w6 bk2_w6 bk1_w6 bk4_w6 (OwnS.nil _ _ _ _) hc_w6)) ?_
      rintro _ w8 ⟨rfl, hup8, A3, d3, hfb3, hc3⟩
      refine wl_end <| lv_next ?_
      rcases bool_cases ((cand below j [] 0).any p) with hc9 | hc9
      · refine cc_cond_t rfl hc9 <| cc_exit <| lv_block_miss (by decide) <| lv_then_exit <| lv_then_exit <| lv_block_hit <| lv_next <| cc_seq ?_
        have hneR := own_ne hc3 hfb3 (by decide)
        refine cc_region <| wd rfl (fun st => x_load1 (v := .slice A3 ((fnd p (fnd p [] (candAll below j)) (cand below j [] 0)).length) d3) one_43 (ee st hs6_4) hfb3 rfl) <| wl_ex0 rfl rfl (fun st => x_store (n := 1) (l := [.slice A3 ((fnd p (fnd p [] (candAll below j)) (cand below j [] 0)).length) d3]) (cs' := #[.slice A3 ((fnd p (fnd p [] (candAll below j)) (cand below j [] 0)).length) d3]) (ee st hs6_4) (ee st rfl) sz_43 hfb3 rfl rfl (show 0 + 1 ≤ 1 by decide) (one_cells rfl) rfl) ?_
        rintro _ w10 sb10
        refine wl_end <| lv_next <| cc_ret <| lv_ng_ret <| lv_retc (v := .slice A3 ((fnd p (fnd p [] (candAll below j)) (cand below j [] 0)).length) d3) rfl hs6_4 (run_load1 one_43 ((sb10.bk.cell 0).trans rfl)) ?_
        have hc_w10 := (hc3.updn sb10.gr hneR)
        have hst := candAll_stop (p := p) (cur := []) (n := (below + 1).toNat) (by omega) hno hc9
        rw [← hst] at hc_w10 ⊢
        have hB_w10 := (bl_upd (bl_upd hB_w6 hup8 (by omega)) sb10.gr (by omega))
        exact ⟨A3, d3, rfl, hc_w10, ext_of_below hB_w10⟩
      · refine cc_cond_f rfl hc9 <| cc_skip <| lv_block <| lv_next <| cc_region <| wd rfl (fun st => x_add (ee st hs6_10) (ee st rfl) ⟨by omega, by omega⟩) <| wm rfl (v := I (((j : Nat) : Int) + 1)) rfl <| wl_end ?_
        have hB_w8 := (bl_upd hB_w6 hup8 (by omega))
        have bk1_w8 := (bk1_w6.upd hup8 (by omega))
        have bk2_w8 := (bk2_w6.upd hup8 (by omega))
        have bk4_w8 := (bk4_w6.upd hup8 (by omega))
        refine lv_round ((below + 1).toNat - (j + 1)) (by omega) (fun st => ?_)
        exact ⟨(j + 1), A3, d3, rfl, by omega, (by rw [candAll_succ, List.any_append, hno, hc9]; rfl), (puts_size _ _).trans st.sz, (puts_defers _ _).trans st.df, (sl_puts st 0).trans hs6_0, (sl_puts st 1).trans hs6_1, (sl_puts st 2).trans hs6_2, (sl_puts st 3).trans hs6_3, (sl_puts st 4).trans hs6_4, (sl_puts st 5).trans hs6_5, (sl_puts st 7).trans hs6_7, (sl_puts st 8).trans hs6_8, (sl_puts st 9).trans hs6_9, (sl_puts st 10).trans (vint (by omega)), hB_w8, bk1_w8, bk2_w8, (by rw [candAll_succ, fnd_append p _ _ _ hno]; exact hfb3), bk4_w8, (by rw [candAll_succ, fnd_append p _ _ _ hno]; exact hc3)⟩
    · refine cc_cond_f rfl hc7 ?_
      have hc7p := hc7
      have hc7p := of_decide_eq_false hc7p
      refine cc_exit <| lv_then_exit <| lv_then_exit <| lv_block_hit <| lv_next <| cc_seq ?_
      have hneR := own_ne hc_w6 bk3_w6 (by decide)
      refine cc_region <| wd rfl (fun st => x_load1 (v := .slice A2 ((fnd p [] (candAll below j)).length) d2) one_43 (ee st hs6_4) bk3_w6 rfl) <| wl_ex0 rfl rfl (fun st => x_store (n := 1) (l := [.slice A2 ((fnd p [] (candAll below j)).length) d2]) (cs' := #[.slice A2 ((fnd p [] (candAll below j)).length) d2]) (ee st hs6_4) (ee st rfl) sz_43 bk3_w6 rfl rfl (show 0 + 1 ≤ 1 by decide) (one_cells rfl) rfl) ?_
      rintro _ w11 sb11
      refine wl_end <| lv_next <| cc_ret <| lv_ng_ret <| lv_retc (v := .slice A2 ((fnd p [] (candAll below j)).length) d2) rfl hs6_4 (run_load1 one_43 ((sb11.bk.cell 0).trans rfl)) ?_
      have hc_w11 := (hc_w6.updn sb11.gr hneR)
      obtain rfl : j = (below + 1).toNat := by omega
      have hB_w11 := (bl_upd hB_w6 sb11.gr (by omega))
      exact ⟨A2, d2, rfl, hc_w11, ext_of_below hB_w11⟩
end Go.Proofs.Ythogdgkafaclaaa
end
section
set_option linter.unusedVariables false
set_option linter.unusedSimpArgs false
namespace Go.Proofs.Ythogdgkafaclaaa
open Go.RowKit
attribute [local irreducible] Ex1 WL CC CW LV Ret ObOp Agg One Own
theorem c88 (f : Fld) (A : Option Addr) (c : Nat) (q bn bk bw : Nat) (A9 : Option Addr) (c9 : Nat) (n : Int) (rows : List Int) (B : Option Addr) (d : Nat) (w : World) (hr0 : 1 ≤ f.rows) (hr1 : f.rows ≤ 7) (hw0 : 1 ≤ f.wd) (hw1 : f.wd ≤ 3) (hrow : ∀ x ∈ rows, 0 ≤ x ∧ x ≤ 6) (hl : rows.length ≤ 100000) (hbq : Bk w q 102 #[I f.rows, I f.wd, I f.lo, I f.hi, .slice A f.ts.length c, .slice A9 ((truths f []).length) c9]) (hrd : Rd w 0 w.heap.size A9 (flat ivs (truths f []))) (hR : Rd w 0 w.heap.size B (ivs rows)) (hbn : Bk w bn 124 #[.func (.func 87) #[] #[]]) (hbk : Bk w bk 97 #[pt q 0]) (hbw : Bk w bw 3 #[I n]) :
    Ret Try.prog 88 #[.slice B rows.length d, pt bn 0, pt bk 0, pt bw 0] w (fun v w' => v = .bool (settlesB f (truths f []) n rows) ∧ Ext w w') := by
  refine ret_of_cc (N := 12) Try.func88 rfl rfl (by simp) ?_
  intro fr0 ha hdf
  have hp0 := sl_arg (i := 0) (v := .slice B rows.length d) ha rfl
  have hp1 := sl_arg (i := 1) (v := pt bn 0) ha rfl
  have hp2 := sl_arg (i := 2) (v := pt bk 0) ha rfl
  have hp3 := sl_arg (i := 3) (v := pt bw 0) ha rfl
  clear ha
  refine cc_seq <| cc_region <| wa rfl (v := .bool false) rfl <| wl_end <| lv_next <| cc_seq <| cc_region <| wd rfl (fun st => x_fieldAddr (ee st hp1) (fz_124_0 _ _)) <| wd rfl (fun st => x_load1 (v := .func (.func 87) #[] #[]) one_121 (ee st rfl) hbn rfl) <| wd rfl (fun st => x_load1 (v := pt q 0) one_97 (ee st hp2) hbk rfl) <| wd rfl (fun st => x_load1 (v := I n) one_3 (ee st hp3) hbw rfl) <| wm rfl (v := .slice B rows.length d) hp0 <| we rfl (fun st => x_call0 own_87 (ee st rfl) (am3 (ee st rfl) (ee st rfl) (ee st rfl)) (c87 f A c q A9 c9 n rows B d _ (by omega) (by omega) (by omega) (by omega) hrow (by omega) hbq hrd.wide hR.wide)) ?_
  rintro _ w1 ⟨rfl, hx1⟩
  refine wa rfl (v := .bool (settlesB f (truths f []) n rows)) rfl <| wl_end <| lv_next <| cc_ret <| lv_ret1 rfl rfl ?_
  have hB_w1 := (bl_ext (Below.refl w.heap.size w) hx1)
  exact ⟨rfl, ext_of_below hB_w1⟩
theorem c42 (f : Fld) (A : Option Addr) (c : Nat) (n : Int) (w : World) (hT : Rd w 0 w.heap.size A (flat encT f.ts)) :
    Ret Try.prog 42 #[.agg #[I f.rows, I f.wd, I f.lo, I f.hi, .slice A f.ts.length c], I n] w (fun v w' => Ext w w' ∧ (askE f (inR n 0 (f.wd - 1)) ≠ 0 → v = .tuple #[.slice none 0 0, .int .i64 (askE f (inR n 0 (f.wd - 1)))]) ∧ (askE f (inR n 0 (f.wd - 1)) = 0 → ∃ A2 d2, v = .tuple #[.slice A2 (shortestL f.rows (fun rows => settlesB f (truths f []) n rows)).length d2, .int .i64 0] ∧ OwnS w' w.heap.size 3 1 A2 (shortestL f.rows (fun rows => settlesB f (truths f []) n rows)).length d2 (ivs (shortestL f.rows (fun rows => settlesB f (truths f []) n rows))))) := by
  refine ret_of_cc (N := 23) Try.func42 rfl rfl (by simp) ?_
  intro fr0 ha hdf
  have hp0 := sl_arg (i := 0) (v := .agg #[I f.rows, I f.wd, I f.lo, I f.hi, .slice A f.ts.length c]) ha rfl
  have hp1 := sl_arg (i := 1) (v := I n) ha rfl
  clear ha
  refine cc_seq <| cc_region <| we rfl (fun st => x_box (v := .agg #[I f.rows, I f.wd, I f.lo, I f.hi, .slice A f.ts.length c]) (cs := #[I f.rows, I f.wd, I f.lo, I f.hi, .slice A f.ts.length c]) (ee st hp0) rfl) ?_
  rintro _ w1 ⟨b1, rfl, nb1⟩
  have lo1 : w.heap.size ≤ b1 := by rw [nb1.b_eq]; exact (Below.refl w.heap.size w).size
  refine we rfl (fun st => x_box (v := I n) (cs := #[I n]) (ee st hp1) rfl) ?_
  rintro _ w2 ⟨b2, rfl, nb2⟩
  have hB_w1 := (bl_ext (Below.refl w.heap.size w) nb1.gr)
  have lo2 : w.heap.size ≤ b2 := by rw [nb2.b_eq]; exact hB_w1.size
  have ltb1_2 : b1 < b2 := by rw [nb2.b_eq]; exact nb1.bk.lt
  refine wa rfl (v := .slice none 0 0) rfl <| wa rfl (v := I 0) rfl <| wl_end <| lv_next <| cc_seq <| cc_region ?_
  have bk1_w2 := (nb1.bk.ext nb2.gr)
  refine wd rfl (fun st => x_loadn (l := [I f.rows, I f.wd, I f.lo, I f.hi, .slice A f.ts.length c]) agg_36 (ee st rfl) bk1_w2 rfl rfl) <| wd rfl (fun st => x_makeFunc (vs := #[]) (us := #[pt b1 0, pt b2 0]) am0 (am2 (ee st rfl) (ee st rfl))) ?_
  have hT_w2 := ((hT.ext nb1.gr).ext nb2.gr)
  refine we rfl (fun st => x_call0 own_66 (ee st rfl) (am2 (ee st rfl) (ee st rfl)) (c66 f A c 86 #[pt b1 0, pt b2 0] (inR n 0 (f.wd - 1)) _ own_86 (fun hck w1 hx => c86 f A c b1 b2 n w1 (by have := check_ok hck; omega) (by have := check_ok hck; omega) (bk1_w2.ext hx) (nb2.bk.ext hx)) hT_w2.wide)) ?_
  rintro v3 w3 ⟨hx3, he1, he2⟩
  have hB_w2 := (bl_ext hB_w1 nb2.gr)
  rcases Decidable.em (askE f (inR n 0 (f.wd - 1)) = 0) with hE | hE
  · skip
    obtain ⟨q3, A9, c9, rfl, hq0, hbq, hOT⟩ := he2 hE
    have hrd := hOT.rd
    have h00 : ((0 : Int) != 0) = false := rfl
    obtain ⟨hck, hbb, hTne⟩ := askE_zero hE
    obtain ⟨⟨hr0, hr1⟩, ⟨hw0, hw1⟩, h5, hok, -, -⟩ := check_ok hck
    have h7 := truths_len (f := f) (out := []) (by omega)
    have hTpos : 0 < (truths f []).length := List.length_pos_iff.2 hTne
    have hcnt := truths_count (f := f) (out := []) (by omega) (by omega)
    have hq3_lt := hbq.lt
    obtain ⟨Q9, hqQ9⟩ : ∃ n, n = w3.heap.size := ⟨_, rfl⟩
    have hB_w3 := (bl_ext hB_w2 hx3)
    have hnQ9 : w.heap.size ≤ Q9 := by rw [hqQ9]; exact hB_w3.size
    have bk1_w3 := (bk1_w2.ext hx3)
    have hnQ9_b1 : b1 < Q9 := by rw [hqQ9]; exact bk1_w3.lt
    have bk2_w3 := (nb2.bk.ext hx3)
    have hnQ9_b2 : b2 < Q9 := by rw [hqQ9]; exact bk2_w3.lt
    have hnQ9_q3 : q3 < Q9 := by rw [hqQ9]; exact hbq.lt
    have hnQ9_hrd : w3.heap.size ≤ Q9 := by rw [hqQ9]; exact hrd.le
    have hsQ9 : Q9 ≤ w3.heap.size := by omega
    refine wm rfl (v := .tuple #[pt q3 0, I (0 : Int)]) rfl <| wd rfl (fun st => x_extract (v := pt q3 0) (ee st rfl) rfl) <| wd rfl (fun st => x_extract (v := I (0 : Int)) (ee st rfl) rfl) <| we rfl (fun st => x_alloc (cs := #[.pointer none]) zero_97 rfl) ?_
    rintro _ w4 ⟨b4, rfl, nb4⟩
    have lo4 : w.heap.size ≤ b4 := by rw [nb4.b_eq]; exact hB_w3.size
    have lQ9_4 : Q9 ≤ b4 := by rw [nb4.b_eq]; exact hsQ9
    have ltb1_4 : b1 < b4 := by rw [nb4.b_eq]; exact bk1_w3.lt
    have ltb2_4 : b2 < b4 := by rw [nb4.b_eq]; exact bk2_w3.lt
    have ltq3_4 : q3 < b4 := by rw [nb4.b_eq]; exact hbq.lt
    refine wl_ex0 rfl rfl (fun st => x_store (n := 1) (l := [pt q3 0]) (cs' := #[pt q3 0]) (ee st rfl) (ee st rfl) sz_97 nb4.bk rfl rfl (show 0 + 1 ≤ 1 by decide) (one_cells rfl) rfl) ?_
    rintro _ w5 sb5
    refine wa rfl (v := I (0 : Int)) rfl <| wl_end <| lv_next <| cc_seq <| cc_seq <| cc_region <| wm rfl (v := I (0 : Int)) rfl <| wd rfl (fun st => x_neq (ee st rfl) (ee st rfl)) <| wl_end <| lv_next <| cc_cond_f rfl h00 <| cc_skip <| lv_next <| cc_seq <| cc_region <| wd rfl (fun st => x_build (vs := #[(0, .func (.func 87) #[] #[])]) (v := .agg #[.func (.func 87) #[] #[]]) (pm1 (ee st rfl)) (by kernel_rfl)) <| we rfl (fun st => x_alloc (cs := #[.nilFunc]) zero_124 rfl) ?_
    rintro _ w7 ⟨b7, rfl, nb7⟩
    have hB_w5 := (bl_upd (bl_ext hB_w3 nb4.gr) sb5.gr (by omega))
    have lo7 : w.heap.size ≤ b7 := by rw [nb7.b_eq]; exact hB_w5.size
    have hsQ9_w5 := (Nat.le_trans (Nat.le_trans hsQ9 nb4.gr.size) sb5.gr.size)
    have lQ9_7 : Q9 ≤ b7 := by rw [nb7.b_eq]; exact hsQ9_w5
    have bk1_w5 := ((bk1_w3.ext nb4.gr).upd sb5.gr (by omega))
    have ltb1_7 : b1 < b7 := by rw [nb7.b_eq]; exact bk1_w5.lt
    have bk2_w5 := ((bk2_w3.ext nb4.gr).upd sb5.gr (by omega))
    have ltb2_7 : b2 < b7 := by rw [nb7.b_eq]; exact bk2_w5.lt
    have hbq_w5 := ((hbq.ext nb4.gr).upd sb5.gr (by omega))
    have ltq3_7 : q3 < b7 := by rw [nb7.b_eq]; exact hbq_w5.lt
    have ltb4_7 : b4 < b7 := by rw [nb7.b_eq]; exact sb5.bk.lt
    refine wl_ex0 rfl rfl (fun st => x_store (n := 1) (l := [.func (.func 87) #[] #[]]) (cs' := #[.func (.func 87) #[] #[]]) (ee st rfl) (ee st rfl) sz_124 nb7.bk rfl rfl (show 0 + 1 ≤ 1 by decide) (one_cells rfl) rfl) ?_
    rintro _ w8 sb8
    refine wl_end <| lv_next <| cc_seq <| cc_region <| wd rfl (fun st => x_fieldAddr (ee st rfl) (fz_36_0 _ _)) ?_
    have bk1_w8 := ((bk1_w5.ext nb7.gr).upd sb8.gr (by omega))
    refine wd rfl (fun st => x_load1 (v := I f.rows) one_3 (ee st rfl) bk1_w8 rfl) <| wd rfl (fun st => x_makeFunc (vs := #[]) (us := #[pt b7 0, pt b4 0, pt b2 0]) am0 (am3 (ee st rfl) (ee st rfl) (ee st rfl))) ?_
    have hbq_w8 := ((hbq_w5.ext nb7.gr).upd sb8.gr (by omega))
    have hrd_w8 := ((((hrd.ext nb4.gr).upd sb5.gr (by omega)).ext nb7.gr).upd sb8.gr (by omega))
    have bk4_w8 := ((sb5.bk.ext nb7.gr).upd sb8.gr (by omega))
    have bk2_w8 := ((bk2_w5.ext nb7.gr).upd sb8.gr (by omega))
    refine we rfl (fun st => x_call0 own_81 (ee st rfl) (am2 (ee st rfl) (ee st rfl)) (c81 f.rows (fun rows => settlesB f (truths f []) n rows) 88 #[] #[pt b7 0, pt b4 0, pt b2 0] _ ⟨by omega, by omega⟩ own_88 (fun l B d w1 hg hlen hB hR => c88 f A c q3 b7 b4 b2 A9 c9 n l B d w1 hr0 hr1 hw0 hw1 (fun x hx => by have := hg x hx; omega) (by omega) (hbq_w8.bw hB hbq_w8.lt) ((hrd_w8.bw hB hrd_w8.le).mono (Nat.zero_le _) ((hrd_w8.bw hB hrd_w8.le).le) (Nat.le_refl _)) hR (sb8.bk.bw hB sb8.bk.lt) (bk4_w8.bw hB bk4_w8.lt) (bk2_w8.bw hB bk2_w8.lt)))) ?_
    have hB_w8 := (bl_upd (bl_ext hB_w5 nb7.gr) sb8.gr (by omega))
    rintro _ w9 ⟨A9, d9, rfl, hs9, hx9⟩
    replace hs9 := hs9.weak (Below.size hB_w8)
    refine wa rfl (v := .slice A9 ((shortestL f.rows (fun rows => settlesB f (truths f []) n rows)).length) d9) rfl <| wa rfl (v := I 0) rfl <| wl_end <| lv_next <| cc_ret <| lv_ret2 rfl rfl rfl ?_
    have hB_w9 := (bl_ext hB_w8 hx9)
    exact ⟨ext_of_below hB_w9, fun h => absurd hE h, fun _ => ⟨A9, d9, rfl, hs9⟩⟩
  · skip
    obtain rfl := he1 hE
    have hEb : (askE f (inR n 0 (f.wd - 1)) != 0) = true := by simpa using hE
    refine wm rfl (v := .tuple #[.pointer none, I (askE f (inR n 0 (f.wd - 1)))]) rfl <| wd rfl (fun st => x_extract (v := .pointer none) (ee st rfl) rfl) <| wd rfl (fun st => x_extract (v := I (askE f (inR n 0 (f.wd - 1)))) (ee st rfl) rfl) <| we rfl (fun st => x_alloc (cs := #[.pointer none]) zero_97 rfl) ?_
    rintro _ w10 ⟨b10, rfl, nb10⟩
    have hB_w3 := (bl_ext hB_w2 hx3)
    have lo10 : w.heap.size ≤ b10 := by rw [nb10.b_eq]; exact hB_w3.size
    have bk1_w3 := (bk1_w2.ext hx3)
    have ltb1_10 : b1 < b10 := by rw [nb10.b_eq]; exact bk1_w3.lt
    have bk2_w3 := (nb2.bk.ext hx3)
    have ltb2_10 : b2 < b10 := by rw [nb10.b_eq]; exact bk2_w3.lt
    refine wl_ex0 rfl rfl (fun st => x_store (n := 1) (l := [.pointer none]) (cs' := #[.pointer none]) (ee st rfl) (ee st rfl) sz_97 nb10.bk rfl rfl (show 0 + 1 ≤ 1 by decide) (one_cells rfl) rfl) ?_
    rintro _ w11 sb11
    refine wa rfl (v := I (askE f (inR n 0 (f.wd - 1)))) rfl <| wl_end <| lv_next <| cc_seq <| cc_seq <| cc_region <| wm rfl (v := I (askE f (inR n 0 (f.wd - 1)))) rfl <| wd rfl (fun st => x_neq (ee st rfl) (ee st rfl)) <| wl_end <| lv_next <| cc_cond_t rfl hEb <| cc_seq <| cc_region <| wm rfl (v := I (askE f (inR n 0 (f.wd - 1)))) rfl <| wa rfl (v := .slice none 0 0) rfl <| wa rfl (v := I (askE f (inR n 0 (f.wd - 1)))) rfl <| wl_end <| lv_next <| cc_ret <| lv_then_ret <| lv_ret2 rfl rfl rfl ?_
    have hB_w11 := (bl_upd (bl_ext hB_w3 nb10.gr) sb11.gr (by omega))
    exact ⟨ext_of_below hB_w11, fun _ => rfl, fun h => absurd h hE⟩
end Go.Proofs.Ythogdgkafaclaaa
end
section
set_option linter.unusedVariables false
set_option linter.unusedSimpArgs false
namespace Go.Proofs.Ythogdgkafaclaaa
open Go.RowKit
attribute [local irreducible] Ex1 WL CC CW LV Ret ObOp Agg One Own
theorem okRow_iff {f : Fld} {rows : List Int} {i : Nat} : okRow f rows i = true ↔ inR (rows.getD i 0) 0 (f.rows - 1) = true ∧ (i = 0 ∨ rows.getD (i - 1) 0 < rows.getD i 0) := by
  unfold okRow; rw [Bool.and_eq_true, Bool.or_eq_true, decide_eq_true_eq, decide_eq_true_eq]
theorem okRow_t {f : Fld} {rows : List Int} {i : Nat} (h1 : inR (rows.getD i 0) 0 (f.rows - 1) = true) (h2 : i = 0 ∨ rows.getD (i - 1) 0 < rows.getD i 0) : okRow f rows i = true := okRow_iff.2 ⟨h1, h2⟩
theorem okRow_step {f : Fld} {rows : List Int} {j : Nat} (h : ∀ i, i < j → okRow f rows i = true) (hj : okRow f rows j = true) : ∀ i, i < j + 1 → okRow f rows i = true := by
  intro i hi
  rcases Nat.lt_or_ge i j with h1 | h1
  · exact h i h1
  · obtain rfl : i = j := by omega
    exact hj
theorem c35 (f : Fld) (A : Option Addr) (c : Nat) (w : World) (hT : Rd w 0 w.heap.size A (flat encT f.ts)) :
    Ret Try.prog 35 #[.agg #[I f.rows, I f.wd, I f.lo, I f.hi, .slice A f.ts.length c]] w (fun v w' => Ext w w' ∧ (check f ≠ 0 → v = .tuple #[.slice none 0 0, .int .i64 (check f)]) ∧ (check f = 0 → ∃ A2 d2, v = .tuple #[.slice A2 (shortestL (f.ts.length : Int) (fun out => decide (truths f out ≠ []))).length d2, .int .i64 0] ∧ OwnS w' w.heap.size 3 1 A2 (shortestL (f.ts.length : Int) (fun out => decide (truths f out ≠ []))).length d2 (ivs (shortestL (f.ts.length : Int) (fun out => decide (truths f out ≠ [])))))) := by
  refine ret_of_cc (N := 16) Try.func35 rfl rfl (by simp) ?_
  intro fr0 ha hdf
  have hp0 := sl_arg (i := 0) (v := .agg #[I f.rows, I f.wd, I f.lo, I f.hi, .slice A f.ts.length c]) ha rfl
  clear ha
  refine cc_seq <| cc_region <| we rfl (fun st => x_box (v := .agg #[I f.rows, I f.wd, I f.lo, I f.hi, .slice A f.ts.length c]) (cs := #[I f.rows, I f.wd, I f.lo, I f.hi, .slice A f.ts.length c]) (ee st hp0) rfl) ?_
  rintro _ w1 ⟨b1, rfl, nb1⟩
  have lo1 : w.heap.size ≤ b1 := by rw [nb1.b_eq]; exact (Below.refl w.heap.size w).size
  refine wa rfl (v := .slice none 0 0) rfl <| wa rfl (v := I 0) rfl <| wl_end <| lv_next <| cc_seq <| cc_seq <| cc_region <| wd rfl (fun st => x_loadn (l := [I f.rows, I f.wd, I f.lo, I f.hi, .slice A f.ts.length c]) agg_36 (ee st rfl) nb1.bk rfl rfl) ?_
  have hT_w1 := (hT.ext nb1.gr)
  refine we rfl (fun st => x_call0 own_51 (ee st rfl) (am1 (ee st rfl)) (c51 f A c _ hT_w1.wide)) ?_
  rintro _ w2 ⟨rfl, hx2⟩
  refine wa rfl (v := I (check f)) rfl <| wl_end <| lv_next <| cc_seq <| cc_region <| wm rfl (v := I (check f)) rfl <| wd rfl (fun st => x_neq (ee st rfl) (ee st rfl)) <| wl_end <| lv_next ?_
  rcases bool_cases ((check f) != 0) with hc3 | hc3
  · refine cc_cond_t rfl hc3 ?_
    have hc3p := hc3
    have hc3p := bne_t hc3p
    refine cc_seq <| cc_region <| wm rfl (v := I (check f)) rfl <| wa rfl (v := .slice none 0 0) rfl <| wa rfl (v := I (check f)) rfl <| wl_end <| lv_next <| cc_ret <| lv_then_ret <| lv_ret2 rfl rfl rfl ?_
    have hB_w2 := (bl_ext (bl_ext (Below.refl w.heap.size w) nb1.gr) hx2)
    exact ⟨ext_of_below hB_w2, fun _ => rfl, fun h => absurd h hc3p⟩
  · refine cc_cond_f rfl hc3 ?_
    have hc3p := hc3
    have hc3p := bne_f hc3p
    have hck : check f = 0 := hc3p
    obtain ⟨⟨hr0, hr1⟩, ⟨hw0, hw1⟩, h5, hok, -, -⟩ := check_ok hck
    refine cc_skip <| lv_next <| cc_seq <| cc_region <| wd rfl (fun st => x_fieldAddr (ee st rfl) (fz_36_3 _ _)) ?_
    have bk1_w2 := (nb1.bk.ext hx2)
    refine wd rfl (fun st => x_load1 (v := .slice A f.ts.length c) one_34 (ee st rfl) bk1_w2 rfl) <| wd rfl (fun st => x_len Try.underlying34 (ee st rfl)) <| wd rfl (fun st => x_loadn (l := [I f.rows, I f.wd, I f.lo, I f.hi, .slice A f.ts.length c]) agg_36 (ee st rfl) bk1_w2 rfl rfl) <| wd rfl (fun st => x_makeFunc (vs := #[.agg #[I f.rows, I f.wd, I f.lo, I f.hi, .slice A f.ts.length c]]) (us := #[]) (am1 (ee st rfl)) am0) ?_
    have hT_w2 := (hT_w1.ext hx2)
    refine we rfl (fun st => x_call0 own_81 (ee st rfl) (am2 (ee st rfl) (ee st rfl)) (c81 ((f.ts.length : Nat) : Int) (fun out => decide (truths f out ≠ [])) 80 #[.agg #[I f.rows, I f.wd, I f.lo, I f.hi, .slice A f.ts.length c]] #[] _ ⟨by omega, by omega⟩ own_80 (fun l B d w1 hg hlen hB hR => c80 f A c l B d w1 hr0 hr1 hw0 hw1 h5 hok (by omega) ((hT_w2.bw hB hT_w2.le).mono (Nat.zero_le _) ((hT_w2.bw hB hT_w2.le).le) (Nat.le_refl _)) hR))) ?_
    have hB_w2 := (bl_ext (bl_ext (Below.refl w.heap.size w) nb1.gr) hx2)
    rintro _ w4 ⟨A4, d4, rfl, hs4, hx4⟩
    replace hs4 := hs4.weak (Below.size hB_w2)
    refine wa rfl (v := .slice A4 ((shortestL ((f.ts.length : Nat) : Int) (fun out => decide (truths f out ≠ []))).length) d4) rfl <| wa rfl (v := I 0) rfl <| wl_end <| lv_next <| cc_ret <| lv_ret2 rfl rfl rfl ?_
    have hB_w4 := (bl_ext hB_w2 hx4)
    exact ⟨ext_of_below hB_w4, fun h => absurd hck h, fun _ => ⟨A4, d4, rfl, hs4⟩⟩
theorem c57 (f : Fld) (A : Option Addr) (c : Nat) (n : Int) (rows : List Int) (B : Option Addr) (d : Nat) (w : World) (hl : rows.length ≤ 100000) (hT : Rd w 0 w.heap.size A (flat encT f.ts)) (hR : Rd w 0 w.heap.size B (ivs rows)) :
    Ret Try.prog 57 #[.agg #[I f.rows, I f.wd, I f.lo, I f.hi, .slice A f.ts.length c], I n, .slice B rows.length d] w (fun v w' => v = .bool ((askE f (inR n 0 (f.wd - 1)) == 0) && incB f rows && settlesB f (truths f []) n rows) ∧ Ext w w') := by
  refine ret_of_cc (N := 48) Try.func57 rfl rfl (by simp) ?_
  intro fr0 ha hdf
  have hp0 := sl_arg (i := 0) (v := .agg #[I f.rows, I f.wd, I f.lo, I f.hi, .slice A f.ts.length c]) ha rfl
  have hp1 := sl_arg (i := 1) (v := I n) ha rfl
  have hp2 := sl_arg (i := 2) (v := .slice B rows.length d) ha rfl
  clear ha
  refine cc_seq <| cc_region <| we rfl (fun st => x_box (v := .agg #[I f.rows, I f.wd, I f.lo, I f.hi, .slice A f.ts.length c]) (cs := #[I f.rows, I f.wd, I f.lo, I f.hi, .slice A f.ts.length c]) (ee st hp0) rfl) ?_
  rintro _ w1 ⟨b1, rfl, nb1⟩
  have lo1 : w.heap.size ≤ b1 := by rw [nb1.b_eq]; exact (Below.refl w.heap.size w).size
  refine we rfl (fun st => x_box (v := I n) (cs := #[I n]) (ee st hp1) rfl) ?_
  rintro _ w2 ⟨b2, rfl, nb2⟩
  have hB_w1 := (bl_ext (Below.refl w.heap.size w) nb1.gr)
  have lo2 : w.heap.size ≤ b2 := by rw [nb2.b_eq]; exact hB_w1.size
  have ltb1_2 : b1 < b2 := by rw [nb2.b_eq]; exact nb1.bk.lt
  refine wa rfl (v := .bool false) rfl <| wl_end <| lv_next <| cc_seq <| cc_region ?_
  have bk1_w2 := (nb1.bk.ext nb2.gr)
  refine wd rfl (fun st => x_loadn (l := [I f.rows, I f.wd, I f.lo, I f.hi, .slice A f.ts.length c]) agg_36 (ee st rfl) bk1_w2 rfl rfl) <| wd rfl (fun st => x_makeFunc (vs := #[]) (us := #[pt b1 0, pt b2 0]) am0 (am2 (ee st rfl) (ee st rfl))) ?_
  have hT_w2 := ((hT.ext nb1.gr).ext nb2.gr)
  refine we rfl (fun st => x_call0 own_66 (ee st rfl) (am2 (ee st rfl) (ee st rfl)) (c66 f A c 97 #[pt b1 0, pt b2 0] (inR n 0 (f.wd - 1)) _ own_97 (fun hck w1 hx => c97 f A c b1 b2 n w1 (by have := check_ok hck; omega) (by have := check_ok hck; omega) (bk1_w2.ext hx) (nb2.bk.ext hx)) hT_w2.wide)) ?_
  rintro v3 w3 ⟨hx3, he1, he2⟩
  have hB_w2 := (bl_ext hB_w1 nb2.gr)
  rcases Decidable.em (askE f (inR n 0 (f.wd - 1)) = 0) with hE | hE
  · skip
    obtain ⟨q3, A9, c9, rfl, hq0, hbq, hOT⟩ := he2 hE
    have hrd := hOT.rd
    have h00 : ((0 : Int) != 0) = false := rfl
    obtain ⟨hck, hbb, hTne⟩ := askE_zero hE
    obtain ⟨⟨hr0, hr1⟩, ⟨hw0, hw1⟩, h5, hok, -, -⟩ := check_ok hck
    have h7 := truths_len (f := f) (out := []) (by omega)
    have hTpos : 0 < (truths f []).length := List.length_pos_iff.2 hTne
    have hcnt := truths_count (f := f) (out := []) (by omega) (by omega)
    have hq3_lt := hbq.lt
    obtain ⟨Q9, hqQ9⟩ : ∃ n, n = w3.heap.size := ⟨_, rfl⟩
    have hB_w3 := (bl_ext hB_w2 hx3)
    have hnQ9 : w.heap.size ≤ Q9 := by rw [hqQ9]; exact hB_w3.size
    have bk1_w3 := (bk1_w2.ext hx3)
    have hnQ9_b1 : b1 < Q9 := by rw [hqQ9]; exact bk1_w3.lt
    have bk2_w3 := (nb2.bk.ext hx3)
    have hnQ9_b2 : b2 < Q9 := by rw [hqQ9]; exact bk2_w3.lt
    have hnQ9_q3 : q3 < Q9 := by rw [hqQ9]; exact hbq.lt
    have hnQ9_hrd : w3.heap.size ≤ Q9 := by rw [hqQ9]; exact hrd.le
    have hsQ9 : Q9 ≤ w3.heap.size := by omega
    refine wm rfl (v := .tuple #[pt q3 0, I (0 : Int)]) rfl <| wd rfl (fun st => x_extract (v := pt q3 0) (ee st rfl) rfl) <| wd rfl (fun st => x_extract (v := I (0 : Int)) (ee st rfl) rfl) <| wa rfl (v := pt q3 0) rfl <| wa rfl (v := I (0 : Int)) rfl <| wl_end <| lv_next <| cc_seq <| cc_seq <| cc_region <| wm rfl (v := I (0 : Int)) rfl <| wd rfl (fun st => x_neq (ee st rfl) (ee st rfl)) <| wl_end <| lv_next <| cc_cond_f rfl h00 <| cc_skip <| lv_next <| cc_seq <| cc_seq <| cc_region <| wm rfl (v := .slice B rows.length d) hp2 <| wd rfl (fun st => x_len Try.underlying43 (ee st rfl)) <| wm rfl (v := I 0) rfl <| wl_end <| lv_next <| cc_block ?_
    have hT_w3 := (hT_w2.ext hx3)
    have hR_w3 := (((hR.ext nb1.gr).ext nb2.gr).ext hx3)
    refine cc_loop (fun (m_ : Nat) (fr_ : Act) (w_ : World) => ∃ (j : Nat), m_ = rows.length - j ∧ (j ≤ rows.length) ∧ (∀ i, i < j → okRow f rows i = true) ∧ fr_.tmps.size = 48 ∧ fr_.defers = [] ∧ sl fr_ 0 = .agg #[I f.rows, I f.wd, I f.lo, I f.hi, .slice A f.ts.length c] ∧ sl fr_ 1 = I n ∧ sl fr_ 2 = .slice B rows.length d ∧ sl fr_ 3 = pt b1 0 ∧ sl fr_ 4 = pt b2 0 ∧ sl fr_ 7 = pt q3 0 ∧ sl fr_ 8 = I (0 : Int) ∧ sl fr_ 11 = .tuple #[pt q3 0, I (0 : Int)] ∧ sl fr_ 12 = .agg #[I f.rows, I f.wd, I f.lo, I f.hi, .slice A f.ts.length c] ∧ sl fr_ 13 = .func (.func 97) #[] #[pt b1 0, pt b2 0] ∧ sl fr_ 14 = .tuple #[pt q3 0, I (0 : Int)] ∧ sl fr_ 15 = pt q3 0 ∧ sl fr_ 16 = I (0 : Int) ∧ sl fr_ 17 = I (0 : Int) ∧ sl fr_ 18 = .bool ((0 : Int) != 0) ∧ sl fr_ 19 = .slice B rows.length d ∧ sl fr_ 20 = I ((rows.length : Nat) : Int) ∧ sl fr_ 21 = I ((j : Nat) : Int) ∧ Below w.heap.size w w_ ∧ Rd w_ 0 w.heap.size A (flat encT f.ts) ∧ Rd w_ 0 w.heap.size B (ivs rows) ∧ Bk w_ b1 36 #[I f.rows, I f.wd, I f.lo, I f.hi, .slice A f.ts.length c] ∧ Bk w_ b2 3 #[I n] ∧ Bk w_ q3 102 #[I f.rows, I f.wd, I f.lo, I f.hi, .slice A f.ts.length c, .slice A9 ((truths f []).length) c9] ∧ Rd w_ w2.heap.size w3.heap.size A9 (flat ivs (truths f [])) ∧ Q9 ≤ w_.heap.size) (rows.length - 0) ?init4 ?round4
    case init4 =>
      intro st
      exact ⟨0, rfl, by omega, (fun i h => absurd h (by omega)), (puts_size _ _).trans st.sz, (puts_defers _ _).trans st.df, (sl_puts st 0).trans hp0, (sl_puts st 1).trans hp1, (sl_puts st 2).trans hp2, (sl_puts st 3).trans rfl, (sl_puts st 4).trans rfl, (sl_puts st 7).trans rfl, (sl_puts st 8).trans rfl, (sl_puts st 11).trans rfl, (sl_puts st 12).trans rfl, (sl_puts st 13).trans rfl, (sl_puts st 14).trans rfl, (sl_puts st 15).trans rfl, (sl_puts st 16).trans rfl, (sl_puts st 17).trans rfl, (sl_puts st 18).trans rfl, (sl_puts st 19).trans rfl, (sl_puts st 20).trans rfl, (sl_puts st 21).trans (vint (by omega)), hB_w3, hT_w3, hR_w3, bk1_w3, bk2_w3, hbq, hrd, hsQ9⟩
    case round4 =>
      rintro m_ fr4 w4 ⟨j, rfl, hj, hok2, hsz4, hdf4, hs4_0, hs4_1, hs4_2, hs4_3, hs4_4, hs4_7, hs4_8, hs4_11, hs4_12, hs4_13, hs4_14, hs4_15, hs4_16, hs4_17, hs4_18, hs4_19, hs4_20, hs4_21, hB_w4, hT_w4, hR_w4, bk1_w4, bk2_w4, hbq_w4, hrd_w4, hsQ9_w4⟩
      refine round_cc (N := 48) hsz4 hdf4 ?_
      have hjm : rows.getD ((j : Int) - 1).toNat 0 = rows.getD (j - 1) 0 := by rw [show ((j : Int) - 1).toNat = j - 1 by omega]
      refine cc_seq <| cc_region <| wd rfl (fun st => x_lss (ee st hs4_21) (ee st hs4_20)) <| wl_end <| lv_next <| cc_seq ?_
      rcases bool_cases (decide (((j : Nat) : Int) < ((rows.length : Nat) : Int))) with hc5 | hc5
      · refine cc_cond_t rfl hc5 ?_
        have hc5p := hc5
        have hc5p := of_decide_eq_true hc5p
        refine cc_skip <| lv_next <| cc_seq <| cc_block <| cc_seq <| cc_region <| wm rfl (v := I ((j : Nat) : Int)) hs4_21 ?_
        obtain ⟨bq6, oq6, hA6, -, -, -⟩ := Rd.elem1 hR_w4 (k := j) (by rw [ivs_len]; exact (by omega))
        refine wd rfl (fun st => x_indexAddr1 (k := j) Try.underlying43 sz_3 (ee st hs4_19) hA6 (ee st hs4_21) rfl (by omega)) <| wd rfl (fun st => x_load_rd (v := I (rows.getD j 0)) one_3 (ee st rfl) (hR_w4.cells hA6) (ivs_get rows j (by omega))) <| wa rfl (v := I ((j : Nat) : Int)) rfl <| wa rfl (v := I (rows.getD j 0)) rfl <| wl_end <| lv_next <| cc_seq <| cc_region <| wd rfl (fun st => x_loadn (l := [I f.rows, I f.wd, I f.lo, I f.hi, .slice A f.ts.length c]) agg_36 (ee st hs4_3) bk1_w4 rfl rfl) <| wm rfl (v := I (rows.getD j 0)) rfl <| we rfl (fun st => x_call0 own_73 (ee st rfl) (am2 (ee st rfl) (ee st rfl)) (c73 f A c (rows.getD j 0) _ (by omega) (by omega))) ?_
        rintro _ w7 ⟨rfl, hx7⟩
        refine wd rfl (fun st => x_not (ee st rfl)) <| wm rfl (v := .bool (!(inR (rows.getD j 0) 0 (f.rows - 1)))) rfl ?_
        rcases bool_cases (!(inR (rows.getD j 0) 0 (f.rows - 1))) with hg8 | hg8
        · skip
          have hg8p := hg8
          have hg8p := not_t hg8p
          have hg8_9 : (inR (rows.getD j 0) 0 (f.rows - 1)) = false := by simpa using hg8
          refine wl_skip (c := true) rfl rfl (guard_eq rfl hg8) (by decide) rfl (by decide) <| wl_skip (c := true) rfl rfl (guard_eq rfl hg8) (by decide) rfl (by decide) <| wl_skip (c := true) rfl rfl (guard_eq rfl hg8) (by decide) rfl (by decide) <| wl_skip_u rfl rfl rfl rfl (by decide) <| wl_skip_u rfl rfl rfl rfl (by decide) <| wl_skip_u rfl rfl rfl rfl (by decide) <| wl_skip_u rfl rfl rfl rfl (by decide) <| wl_skip_u rfl rfl rfl rfl (by decide) <| wl_skip_u rfl rfl rfl rfl (by decide) <| wl_skip_u rfl rfl rfl rfl (by decide) <| wl_skip (c := true) rfl rfl (guard_eq rfl hg8) (by decide) rfl (by decide) <| wd rfl (fun st => x_pick_t (v := .bool true) (ee st rfl) hg8 (ee st rfl)) <| wl_end <| lv_next <| cc_cond_t rfl rfl <| cc_seq <| cc_region <| wa rfl (v := .bool false) rfl <| wl_end <| lv_next <| cc_ret <| lv_block_ret <| lv_then_ret <| lv_then_ret <| lv_block_ret <| lv_then_ret <| lv_ret1 rfl rfl ?_
          have hbad : okRow f rows j = false := by
            refine Bool.eq_false_iff.2 fun h => ?_
            have h2 := okRow_iff.1 h
            rw [hg8_9] at h2; exact absurd h2.1 (by simp)
          have hnb : incB f rows = false := Bool.eq_false_iff.2 fun h => by rw [incB_iff.1 h j (by omega)] at hbad; cases hbad
          have hB_w7 := (bl_ext hB_w4 hx7)
          exact ⟨vbool (by rw [hnb, Bool.and_false, Bool.false_and]), ext_of_below hB_w7⟩
        · skip
          have hg8p := hg8
          have hg8p := not_f hg8p
          have hg8_10 : (inR (rows.getD j 0) 0 (f.rows - 1)) = true := by simpa using hg8
          refine wl_detg rfl rfl (guard_eq rfl hg8) rfl (by decide) (fun st => x_move (v := I ((j : Nat) : Int)) (ee st rfl)) <| wl_detg rfl rfl (guard_eq rfl hg8) rfl (by decide) (fun st => x_gtr (ee st rfl) (ee st rfl)) <| wl_detg rfl rfl (guard_eq rfl hg8) rfl (by decide) (fun st => x_move (v := .bool (decide (0 < ((j : Nat) : Int)))) (ee st rfl)) ?_
          rcases bool_cases (decide (0 < ((j : Nat) : Int))) with hg11 | hg11
          · skip
            have hg11p := hg11
            have hg11p := of_decide_eq_true hg11p
            refine wl_detg rfl rfl (guard_eq rfl hg11) rfl (by decide) (fun st => x_move (v := I (rows.getD j 0)) (ee st rfl)) <| wl_detg rfl rfl (guard_eq rfl hg11) rfl (by decide) (fun st => x_move (v := .slice B rows.length d) (ee st hs4_2)) <| wl_detg rfl rfl (guard_eq rfl hg11) rfl (by decide) (fun st => x_move (v := I ((j : Nat) : Int)) (ee st rfl)) <| wl_detg rfl rfl (guard_eq rfl hg11) rfl (by decide) (fun st => x_sub (ee st rfl) (ee st rfl) ⟨by omega, by omega⟩) <| wl_detg rfl rfl (guard_eq rfl hg11) rfl (by decide) (fun st => x_indexAddr1 (k := (((j : Nat) : Int) - 1).toNat) Try.underlying43 sz_3 (ee st rfl) hA6 (ee st rfl) (by omega) (by omega)) ?_
            have hR_w7 := (hR_w4.ext hx7)
            refine wl_detg rfl rfl (guard_eq rfl hg11) rfl (by decide) (fun st => x_load_rd (v := I (rows.getD ((((j : Nat) : Int) - 1).toNat) 0)) one_3 (ee st rfl) (hR_w7.cells hA6) (ivs_get rows ((((j : Nat) : Int) - 1).toNat) (by omega))) <| wl_detg rfl rfl (guard_eq rfl hg11) rfl (by decide) (fun st => x_leq (ee st rfl) (ee st rfl)) <| wl_detg rfl rfl (guard_eq rfl hg8) rfl (by decide) (fun st => x_pick_t (v := .bool (decide ((rows.getD j 0) ≤ (rows.getD ((((j : Nat) : Int) - 1).toNat) 0)))) (ee st rfl) hg11 (ee st rfl)) <| wd rfl (fun st => x_pick_f (v := .bool (decide ((rows.getD j 0) ≤ (rows.getD ((((j : Nat) : Int) - 1).toNat) 0)))) (ee st rfl) hg8 (ee st rfl)) <| wl_end <| lv_next ?_
            rcases bool_cases (decide ((rows.getD j 0) ≤ (rows.getD ((((j : Nat) : Int) - 1).toNat) 0))) with hc12 | hc12
            · refine cc_cond_t rfl hc12 ?_
              have hc12p := hc12
              have hc12p := of_decide_eq_true hc12p
              refine cc_seq <| cc_region <| wa rfl (v := .bool false) rfl <| wl_end <| lv_next <| cc_ret <| lv_block_ret <| lv_then_ret <| lv_then_ret <| lv_block_ret <| lv_then_ret <| lv_ret1 rfl rfl ?_
              have hbad : okRow f rows j = false := by
                refine Bool.eq_false_iff.2 fun h => ?_
                have h2 := okRow_iff.1 h
                omega
              have hnb : incB f rows = false := Bool.eq_false_iff.2 fun h => by rw [incB_iff.1 h j (by omega)] at hbad; cases hbad
              have hB_w7 := (bl_ext hB_w4 hx7)
              exact ⟨vbool (by rw [hnb, Bool.and_false, Bool.false_and]), ext_of_below hB_w7⟩
            · refine cc_cond_f rfl hc12 ?_
              have hc12p := hc12
              have hc12p := of_decide_eq_false hc12p
              refine cc_skip <| lv_block <| lv_next <| cc_region <| wd rfl (fun st => x_add (ee st hs4_21) (ee st rfl) ⟨by omega, by omega⟩) <| wm rfl (v := I (((j : Nat) : Int) + 1)) rfl <| wl_end ?_
              have hB_w7 := (bl_ext hB_w4 hx7)
              have hT_w7 := (hT_w4.ext hx7)
              have bk1_w7 := (bk1_w4.ext hx7)
              have bk2_w7 := (bk2_w4.ext hx7)
              have hbq_w7 := (hbq_w4.ext hx7)
              have hrd_w7 := (hrd_w4.ext hx7)
              have hsQ9_w7 := (Nat.le_trans hsQ9_w4 hx7.size)
              refine lv_round (rows.length - (j + 1)) (by omega) (fun st => ?_)
              exact ⟨(j + 1), rfl, by omega, (okRow_step hok2 (okRow_t hg8_10 (by omega))), (puts_size _ _).trans st.sz, (puts_defers _ _).trans st.df, (sl_puts st 0).trans hs4_0, (sl_puts st 1).trans hs4_1, (sl_puts st 2).trans hs4_2, (sl_puts st 3).trans hs4_3, (sl_puts st 4).trans hs4_4, (sl_puts st 7).trans hs4_7, (sl_puts st 8).trans hs4_8, (sl_puts st 11).trans hs4_11, (sl_puts st 12).trans hs4_12, (sl_puts st 13).trans hs4_13, (sl_puts st 14).trans hs4_14, (sl_puts st 15).trans hs4_15, (sl_puts st 16).trans hs4_16, (sl_puts st 17).trans hs4_17, (sl_puts st 18).trans hs4_18, (sl_puts st 19).trans hs4_19, (sl_puts st 20).trans hs4_20, (sl_puts st 21).trans (vint (by omega)), hB_w7, hT_w7, hR_w7, bk1_w7, bk2_w7, hbq_w7, hrd_w7, hsQ9_w7⟩
          · skip
            have hg11p := hg11
            have hg11p := of_decide_eq_false hg11p
            refine wl_skip (c := false) rfl rfl (guard_eq rfl hg11) (by decide) rfl (by decide) <| wl_skip (c := false) rfl rfl (guard_eq rfl hg11) (by decide) rfl (by decide) <| wl_skip (c := false) rfl rfl (guard_eq rfl hg11) (by decide) rfl (by decide) <| wl_skip (c := false) rfl rfl (guard_eq rfl hg11) (by decide) rfl (by decide) <| wl_skip (c := false) rfl rfl (guard_eq rfl hg11) (by decide) rfl (by decide) <| wl_skip (c := false) rfl rfl (guard_eq rfl hg11) (by decide) rfl (by decide) <| wl_skip (c := false) rfl rfl (guard_eq rfl hg11) (by decide) rfl (by decide) <| wl_detg rfl rfl (guard_eq rfl hg8) rfl (by decide) (fun st => x_pick_f (v := .bool false) (ee st rfl) hg11 (ee st rfl)) <| wd rfl (fun st => x_pick_f (v := .bool false) (ee st rfl) hg8 (ee st rfl)) <| wl_end <| lv_next <| cc_cond_f rfl rfl <| cc_skip <| lv_block <| lv_next <| cc_region <| wd rfl (fun st => x_add (ee st hs4_21) (ee st rfl) ⟨by omega, by omega⟩) <| wm rfl (v := I (((j : Nat) : Int) + 1)) rfl <| wl_end ?_
            have hB_w7 := (bl_ext hB_w4 hx7)
            have hT_w7 := (hT_w4.ext hx7)
            have hR_w7 := (hR_w4.ext hx7)
            have bk1_w7 := (bk1_w4.ext hx7)
            have bk2_w7 := (bk2_w4.ext hx7)
            have hbq_w7 := (hbq_w4.ext hx7)
            have hrd_w7 := (hrd_w4.ext hx7)
            have hsQ9_w7 := (Nat.le_trans hsQ9_w4 hx7.size)
            refine lv_round (rows.length - (j + 1)) (by omega) (fun st => ?_)
            exact ⟨(j + 1), rfl, by omega, (okRow_step hok2 (okRow_t hg8_10 (by omega))), (puts_size _ _).trans st.sz, (puts_defers _ _).trans st.df, (sl_puts st 0).trans hs4_0, (sl_puts st 1).trans hs4_1, (sl_puts st 2).trans hs4_2, (sl_puts st 3).trans hs4_3, (sl_puts st 4).trans hs4_4, (sl_puts st 7).trans hs4_7, (sl_puts st 8).trans hs4_8, (sl_puts st 11).trans hs4_11, (sl_puts st 12).trans hs4_12, (sl_puts st 13).trans hs4_13, (sl_puts st 14).trans hs4_14, (sl_puts st 15).trans hs4_15, (sl_puts st 16).trans hs4_16, (sl_puts st 17).trans hs4_17, (sl_puts st 18).trans hs4_18, (sl_puts st 19).trans hs4_19, (sl_puts st 20).trans hs4_20, (sl_puts st 21).trans (vint (by omega)), hB_w7, hT_w7, hR_w7, bk1_w7, bk2_w7, hbq_w7, hrd_w7, hsQ9_w7⟩
      · refine cc_cond_f rfl hc5 ?_
        have hc5p := hc5
        have hc5p := of_decide_eq_false hc5p
        refine cc_exit <| lv_then_exit <| lv_then_exit <| lv_block_hit <| lv_next <| cc_seq ?_
        have hinc : incB f rows = true := incB_iff.2 fun i hi => hok2 i (by omega)
        have hrow : ∀ x ∈ rows, 0 ≤ x ∧ x ≤ 6 := fun x hx => by have := incB_rows hinc x hx; omega
        refine cc_region <| wm rfl (v := pt q3 0) hs4_7 <| wd rfl (fun st => x_load1 (v := I n) one_3 (ee st hs4_4) bk2_w4 rfl) <| wm rfl (v := .slice B rows.length d) hs4_2 <| we rfl (fun st => x_call0 own_87 (ee st rfl) (am3 (ee st rfl) (ee st rfl) (ee st rfl)) (c87 f A c q3 A9 c9 n rows B d _ (by omega) (by omega) (by omega) (by omega) hrow (by omega) hbq_w4 hrd_w4.wide hR_w4.wide)) ?_
        rintro _ w13 ⟨rfl, hx13⟩
        refine wa rfl (v := .bool (settlesB f (truths f []) n rows)) rfl <| wl_end <| lv_next <| cc_ret <| lv_ret1 rfl rfl ?_
        have hB_w13 := (bl_ext hB_w4 hx13)
        exact ⟨vbool (by rw [hE, hinc]; rfl), ext_of_below hB_w13⟩
  · skip
    obtain rfl := he1 hE
    have hEb : (askE f (inR n 0 (f.wd - 1)) != 0) = true := by simpa using hE
    refine wm rfl (v := .tuple #[.pointer none, I (askE f (inR n 0 (f.wd - 1)))]) rfl <| wd rfl (fun st => x_extract (v := .pointer none) (ee st rfl) rfl) <| wd rfl (fun st => x_extract (v := I (askE f (inR n 0 (f.wd - 1)))) (ee st rfl) rfl) <| wa rfl (v := .pointer none) rfl <| wa rfl (v := I (askE f (inR n 0 (f.wd - 1)))) rfl <| wl_end <| lv_next <| cc_seq <| cc_seq <| cc_region <| wm rfl (v := I (askE f (inR n 0 (f.wd - 1)))) rfl <| wd rfl (fun st => x_neq (ee st rfl) (ee st rfl)) <| wl_end <| lv_next <| cc_cond_t rfl hEb <| cc_seq <| cc_region <| wa rfl (v := .bool false) rfl <| wl_end <| lv_next <| cc_ret <| lv_then_ret <| lv_ret1 rfl rfl ?_
    have hB_w3 := (bl_ext hB_w2 hx3)
    exact ⟨vbool (by rw [beq_false_of_ne hE]; rfl), ext_of_below hB_w3⟩
end Go.Proofs.Ythogdgkafaclaaa
end
section
set_option linter.unusedVariables false
set_option linter.unusedSimpArgs false
namespace Go.Proofs.Ythogdgkafaclaaa
open Go.RowKit
attribute [local irreducible] Ex1 WL CC CW LV Ret ObOp Agg One Own
theorem c94 (f : Fld) (A : Option Addr) (c : Nat) (bf : Nat) (n : Int) (w : World) (hw0 : 0 ≤ f.wd) (hw1 : f.wd ≤ 7) (hbf : Bk w bf 36 #[I f.rows, I f.wd, I f.lo, I f.hi, .slice A f.ts.length c]) :
    Ret Try.prog 94 #[I n, pt bf 0] w (fun v w' => v = .bool (okWho f n) ∧ Ext w w') := by
  refine ret_of_cc (N := 11) Try.func94 rfl rfl (by simp) ?_
  intro fr0 ha hdf
  have hp0 := sl_arg (i := 0) (v := I n) ha rfl
  have hp1 := sl_arg (i := 1) (v := pt bf 0) ha rfl
  clear ha
  refine cc_seq <| cc_region <| wa rfl (v := .bool false) rfl <| wl_end <| lv_next <| cc_seq <| cc_region <| wm rfl (v := I n) hp0 <| wd rfl (fun st => x_eql (ee st rfl) (ee st rfl)) <| wm rfl (v := .bool (n == (-1))) rfl ?_
  rcases bool_cases (n == (-1)) with hg1 | hg1
  · skip
    have hg1p := hg1
    have hg1p := eq_of_beq hg1p
    refine wl_skip (c := true) rfl rfl (guard_eq rfl hg1) (by decide) rfl (by decide) <| wl_skip (c := true) rfl rfl (guard_eq rfl hg1) (by decide) rfl (by decide) <| wl_skip (c := true) rfl rfl (guard_eq rfl hg1) (by decide) rfl (by decide) <| wd rfl (fun st => x_pick_t (v := .bool true) (ee st rfl) hg1 (ee st rfl)) <| wa rfl (v := .bool true) rfl <| wl_end <| lv_next <| cc_ret <| lv_ret1 rfl rfl ?_
    exact ⟨vbool (okWho_t hg1).symm, ext_of_below (Below.refl w.heap.size w)⟩
  · skip
    have hg1p := hg1
    have hg1p := ne_of_beq_false hg1p
    refine wl_detg rfl rfl (guard_eq rfl hg1) rfl (by decide) (fun st => x_loadn (l := [I f.rows, I f.wd, I f.lo, I f.hi, .slice A f.ts.length c]) agg_36 (ee st hp1) hbf rfl rfl) <| wl_detg rfl rfl (guard_eq rfl hg1) rfl (by decide) (fun st => x_move (v := I n) (ee st hp0)) <| wl_exg rfl rfl (guard_eq rfl hg1) rfl (by decide) (fun st => x_call0 own_77 (ee st rfl) (am2 (ee st rfl) (ee st rfl)) (c77 f A c n _ (by omega) (by omega))) ?_
    rintro _ w2 ⟨rfl, hx2⟩
    refine wd rfl (fun st => x_pick_f (v := .bool (inR n 0 (f.wd - 1))) (ee st rfl) hg1 (ee st rfl)) <| wa rfl (v := .bool (inR n 0 (f.wd - 1))) rfl <| wl_end <| lv_next <| cc_ret <| lv_ret1 rfl rfl ?_
    have hB_w2 := (bl_ext (Below.refl w.heap.size w) hx2)
    exact ⟨vbool (okWho_f hg1).symm, ext_of_below hB_w2⟩
theorem c113 (f : Fld) (A : Option Addr) (c : Nat) (bf : Nat) (n : Int) (bb : Nat) (w : World) (hw0 : 0 ≤ f.wd) (hw1 : f.wd ≤ 7) (hbf : Bk w bf 36 #[I f.rows, I f.wd, I f.lo, I f.hi, .slice A f.ts.length c]) (hbb : Bk w bb 109 #[.func (.func 94) #[] #[pt bf 0]]) :
    Ret Try.prog 113 #[I n, pt bb 0] w (fun v w' => v = .bool (!okWho f n) ∧ Ext w w') := by
  refine ret_of_cc (N := 8) Try.func113 rfl rfl (by simp) ?_
  intro fr0 ha hdf
  have hp0 := sl_arg (i := 0) (v := I n) ha rfl
  have hp1 := sl_arg (i := 1) (v := pt bb 0) ha rfl
  clear ha
  refine cc_seq <| cc_region <| wa rfl (v := .bool false) rfl <| wl_end <| lv_next <| cc_seq <| cc_region <| wd rfl (fun st => x_load1 (v := .func (.func 94) #[] #[pt bf 0]) one_109 (ee st hp1) hbb rfl) <| wm rfl (v := I n) hp0 <| we rfl (fun st => x_call (first := #[]) (cap := #[pt bf 0]) (vs := #[I n]) (all := #[I n, pt bf 0]) own_94 (ee st rfl) (am1 (ee st rfl)) (by simp) (c94 f A c bf n _ (by omega) (by omega) hbf)) ?_
  rintro _ w1 ⟨rfl, hx1⟩
  refine wd rfl (fun st => x_not (ee st rfl)) <| wa rfl (v := .bool (!(okWho f n))) rfl <| wl_end <| lv_next <| cc_ret <| lv_ret1 rfl rfl ?_
  have hB_w1 := (bl_ext (Below.refl w.heap.size w) hx1)
  exact ⟨rfl, ext_of_below hB_w1⟩
theorem c133 (f : Fld) (A : Option Addr) (c : Nat) (bf : Nat) (ts : List Int) (B : Option Addr) (d : Nat) (bb : Nat) (w : World) (hw0 : 0 ≤ f.wd) (hw1 : f.wd ≤ 7) (hl : ts.length ≤ 100000) (hbf : Bk w bf 36 #[I f.rows, I f.wd, I f.lo, I f.hi, .slice A f.ts.length c]) (hs : Rd w 0 w.heap.size B (ivs ts)) (hbb : Bk w bb 109 #[.func (.func 94) #[] #[pt bf 0]]) :
    Ret Try.prog 133 #[.slice B ts.length d, .func (.func 113) #[] #[pt bb 0]] w (fun v w' => v = .int .i64 (fidx (fun y => !okWho f y) ts) ∧ Ext w w') := by
  refine ret_of_cc (N := 19) Try.func133 rfl rfl (by simp) ?_
  intro fr0 ha hdf
  have hp0 := sl_arg (i := 0) (v := .slice B ts.length d) ha rfl
  have hp1 := sl_arg (i := 1) (v := .func (.func 113) #[] #[pt bb 0]) ha rfl
  clear ha
  refine cc_seq <| cc_region <| wa rfl (v := I 0) rfl <| wl_end <| lv_next <| cc_seq <| cc_seq <| cc_region <| wm rfl (v := .slice B ts.length d) hp0 <| wd rfl (fun st => x_len Try.underlying43 (ee st rfl)) <| wm rfl (v := I 0) rfl <| wl_end <| lv_next <| cc_block ?_
  refine cc_loop (fun (m_ : Nat) (fr_ : Act) (w_ : World) => ∃ (k : Nat), m_ = ts.length - k ∧ (k ≤ ts.length) ∧ (∀ y ∈ ts.take k, (fun y => !okWho f y) y = false) ∧ fr_.tmps.size = 19 ∧ fr_.defers = [] ∧ sl fr_ 0 = .slice B ts.length d ∧ sl fr_ 1 = .func (.func 113) #[] #[pt bb 0] ∧ sl fr_ 6 = .slice B ts.length d ∧ sl fr_ 7 = I ((ts.length : Nat) : Int) ∧ sl fr_ 8 = I ((k : Nat) : Int) ∧ Below w.heap.size w w_ ∧ Bk w_ bf 36 #[I f.rows, I f.wd, I f.lo, I f.hi, .slice A f.ts.length c] ∧ Rd w_ 0 w.heap.size B (ivs ts) ∧ Bk w_ bb 109 #[.func (.func 94) #[] #[pt bf 0]]) (ts.length - 0) ?init1 ?round1
  case init1 =>
    intro st
    exact ⟨0, rfl, by omega, by simp, (puts_size _ _).trans st.sz, (puts_defers _ _).trans st.df, (sl_puts st 0).trans hp0, (sl_puts st 1).trans hp1, (sl_puts st 6).trans rfl, (sl_puts st 7).trans rfl, (sl_puts st 8).trans (vint (by omega)), (Below.refl w.heap.size w), hbf, hs, hbb⟩
  case round1 =>
    rintro m_ fr1 w1 ⟨k, rfl, hk, hn, hsz1, hdf1, hs1_0, hs1_1, hs1_6, hs1_7, hs1_8, hB_w1, hbf_w1, hs_w1, hbb_w1⟩
    refine round_cc (N := 19) hsz1 hdf1 <| cc_seq <| cc_region <| wd rfl (fun st => x_lss (ee st hs1_8) (ee st hs1_7)) <| wl_end <| lv_next <| cc_seq ?_
    rcases bool_cases (decide (((k : Nat) : Int) < ((ts.length : Nat) : Int))) with hc2 | hc2
    · refine cc_cond_t rfl hc2 ?_
      have hc2p := hc2
      have hc2p := of_decide_eq_true hc2p
      refine cc_skip <| lv_next <| cc_seq <| cc_block <| cc_seq <| cc_region <| wm rfl (v := I ((k : Nat) : Int)) hs1_8 <| wa rfl (v := I ((k : Nat) : Int)) rfl <| wl_end <| lv_next <| cc_seq <| cc_region <| wm rfl (v := .func (.func 113) #[] #[pt bb 0]) hs1_1 <| wm rfl (v := .slice B ts.length d) hs1_0 <| wm rfl (v := I ((k : Nat) : Int)) rfl ?_
      obtain ⟨bq3, oq3, hA3, -, -, -⟩ := Rd.elem1 hs_w1 (k := k) (by rw [ivs_len]; exact (by omega))
      refine wd rfl (fun st => x_indexAddr1 (k := k) Try.underlying43 sz_3 (ee st rfl) hA3 (ee st rfl) rfl (by omega)) <| wd rfl (fun st => x_load_rd (v := I (ts.getD k 0)) one_3 (ee st rfl) (hs_w1.cells hA3) (ivs_get ts k (by omega))) <| we rfl (fun st => x_call (first := #[]) (cap := #[pt bb 0]) (vs := #[I (ts.getD k 0)]) (all := #[I (ts.getD k 0), pt bb 0]) own_113 (ee st rfl) (am1 (ee st rfl)) (by simp) (c113 f A c bf (ts.getD k 0) bb _ (by omega) (by omega) hbf_w1 hbb_w1)) ?_
      rintro _ w4 ⟨rfl, hx4⟩
      refine wl_end <| lv_next ?_
      rcases bool_cases (!(okWho f (ts.getD k 0))) with hc5 | hc5
      · refine cc_cond_t rfl hc5 ?_
        have hc5p := hc5
        have hc5p := not_t hc5p
        have hc5_6 : (okWho f (ts.getD k 0)) = false := by simpa using hc5
        refine cc_seq <| cc_region <| wm rfl (v := I ((k : Nat) : Int)) rfl <| wa rfl (v := I ((k : Nat) : Int)) rfl <| wl_end <| lv_next <| cc_ret <| lv_block_ret <| lv_then_ret <| lv_then_ret <| lv_block_ret <| lv_then_ret <| lv_ret1 rfl rfl ?_
        have hB_w4 := (bl_ext hB_w1 hx4)
        exact ⟨vint (fidx_some (p := (fun y => !okWho f y)) (getD_some (by omega)) hc5 hn).symm, ext_of_below hB_w4⟩
      · refine cc_cond_f rfl hc5 ?_
        have hc5p := hc5
        have hc5p := not_f hc5p
        have hc5_7 : (okWho f (ts.getD k 0)) = true := by simpa using hc5
        refine cc_skip <| lv_block <| lv_next <| cc_region <| wd rfl (fun st => x_add (ee st hs1_8) (ee st rfl) ⟨by omega, by omega⟩) <| wm rfl (v := I (((k : Nat) : Int) + 1)) rfl <| wl_end ?_
        have hB_w4 := (bl_ext hB_w1 hx4)
        have hbf_w4 := (hbf_w1.ext hx4)
        have hs_w4 := (hs_w1.ext hx4)
        have hbb_w4 := (hbb_w1.ext hx4)
        refine lv_round (ts.length - (k + 1)) (by omega) (fun st => ?_)
        exact ⟨(k + 1), rfl, by omega, take_step (p := (fun y => !okWho f y)) hn (getD_some (by omega)) hc5, (puts_size _ _).trans st.sz, (puts_defers _ _).trans st.df, (sl_puts st 0).trans hs1_0, (sl_puts st 1).trans hs1_1, (sl_puts st 6).trans hs1_6, (sl_puts st 7).trans hs1_7, (sl_puts st 8).trans (vint (by omega)), hB_w4, hbf_w4, hs_w4, hbb_w4⟩
    · refine cc_cond_f rfl hc2 ?_
      have hc2p := hc2
      have hc2p := of_decide_eq_false hc2p
      refine cc_exit <| lv_then_exit <| lv_then_exit <| lv_block_hit <| lv_next <| cc_seq <| cc_region <| wa rfl (v := I (-1)) rfl <| wl_end <| lv_next <| cc_ret <| lv_ret1 rfl rfl ?_
      exact ⟨vint (fidx_none (p := (fun y => !okWho f y)) (take_done hn (by omega))).symm, ext_of_below hB_w1⟩
theorem c112 (f : Fld) (A : Option Addr) (c : Nat) (bf : Nat) (ts : List Int) (B : Option Addr) (d : Nat) (bb : Nat) (w : World) (hw0 : 0 ≤ f.wd) (hw1 : f.wd ≤ 7) (hl : ts.length ≤ 100000) (hbf : Bk w bf 36 #[I f.rows, I f.wd, I f.lo, I f.hi, .slice A f.ts.length c]) (hs : Rd w 0 w.heap.size B (ivs ts)) (hbb : Bk w bb 109 #[.func (.func 94) #[] #[pt bf 0]]) :
    Ret Try.prog 112 #[.slice B ts.length d, .func (.func 113) #[] #[pt bb 0]] w (fun v w' => v = .bool (ts.any (fun y => !okWho f y)) ∧ Ext w w') := by
  refine ret_of_cc (N := 9) Try.func112 rfl rfl (by simp) ?_
  intro fr0 ha hdf
  have hp0 := sl_arg (i := 0) (v := .slice B ts.length d) ha rfl
  have hp1 := sl_arg (i := 1) (v := .func (.func 113) #[] #[pt bb 0]) ha rfl
  clear ha
  refine cc_seq <| cc_region <| wa rfl (v := .bool false) rfl <| wl_end <| lv_next <| cc_seq <| cc_region <| wm rfl (v := .slice B ts.length d) hp0 <| wm rfl (v := .func (.func 113) #[] #[pt bb 0]) hp1 <| we rfl (fun st => x_call0 own_133 (ee st rfl) (am2 (ee st rfl) (ee st rfl)) (c133 f A c bf ts B d bb _ (by assumption) (by assumption) (by omega) hbf hs.wide hbb)) ?_
  rintro _ w1 ⟨rfl, hx1⟩
  refine wd rfl (fun st => x_geq (ee st rfl) (ee st rfl)) <| wa rfl (v := .bool (decide (0 ≤ (fidx (fun y => !okWho f y) ts)))) rfl <| wl_end <| lv_next <| cc_ret <| lv_ret1 rfl rfl ?_
  have hB_w1 := (bl_ext (Below.refl w.heap.size w) hx1)
  exact ⟨vbool (fidx_ge _ _), ext_of_below hB_w1⟩
theorem c93 (f : Fld) (A : Option Addr) (c : Nat) (bf : Nat) (ts : List Int) (B : Option Addr) (d : Nat) (w : World) (hw0 : 0 ≤ f.wd) (hw1 : f.wd ≤ 7) (hl : ts.length ≤ 100000) (hbf : Bk w bf 36 #[I f.rows, I f.wd, I f.lo, I f.hi, .slice A f.ts.length c]) (hs : Rd w 0 w.heap.size B (ivs ts)) :
    Ret Try.prog 93 #[.slice B ts.length d, .func (.func 94) #[] #[pt bf 0]] w (fun v w' => v = .bool (ts.all (okWho f)) ∧ Ext w w') := by
  refine ret_of_cc (N := 9) Try.func93 rfl rfl (by simp) ?_
  intro fr0 ha hdf
  have hp0 := sl_arg (i := 0) (v := .slice B ts.length d) ha rfl
  have hp1 := sl_arg (i := 1) (v := .func (.func 94) #[] #[pt bf 0]) ha rfl
  clear ha
  refine cc_seq <| cc_region <| we rfl (fun st => x_box (v := .func (.func 94) #[] #[pt bf 0]) (cs := #[.func (.func 94) #[] #[pt bf 0]]) (ee st hp1) rfl) ?_
  rintro _ w1 ⟨b1, rfl, nb1⟩
  have lo1 : w.heap.size ≤ b1 := by rw [nb1.b_eq]; exact (Below.refl w.heap.size w).size
  refine wa rfl (v := .bool false) rfl <| wl_end <| lv_next <| cc_seq <| cc_region <| wm rfl (v := .slice B ts.length d) hp0 <| wd rfl (fun st => x_makeFunc (vs := #[]) (us := #[pt b1 0]) am0 (am1 (ee st rfl))) ?_
  have hbf_w1 := (hbf.ext nb1.gr)
  have hs_w1 := (hs.ext nb1.gr)
  refine we rfl (fun st => x_call0 own_112 (ee st rfl) (am2 (ee st rfl) (ee st rfl)) (c112 f A c bf ts B d b1 _ (by assumption) (by assumption) (by omega) hbf_w1 hs_w1.wide nb1.bk)) ?_
  rintro _ w2 ⟨rfl, hx2⟩
  refine wd rfl (fun st => x_not (ee st rfl)) <| wa rfl (v := .bool (!(ts.any (fun y => !okWho f y)))) rfl <| wl_end <| lv_next <| cc_ret <| lv_ret1 rfl rfl ?_
  have hB_w2 := (bl_ext (bl_ext (Below.refl w.heap.size w) nb1.gr) hx2)
  exact ⟨vbool (not_any_not _ _), ext_of_below hB_w2⟩
end Go.Proofs.Ythogdgkafaclaaa
end
section
set_option linter.unusedVariables false
set_option linter.unusedSimpArgs false
namespace Go.Proofs.Ythogdgkafaclaaa
open Go.RowKit
attribute [local irreducible] Ex1 WL CC CW LV Ret ObOp Agg One Own
theorem c52 (f : Fld) (A : Option Addr) (c : Nat) (xs : List Int) (B : Option Addr) (d : Nat) (w : World) (hl : xs.length ≤ 100000) (hT : Rd w 0 w.heap.size A (flat encT f.ts)) (hR : Rd w 0 w.heap.size B (ivs xs)) :
    Ret Try.prog 52 #[.agg #[I f.rows, I f.wd, I f.lo, I f.hi, .slice A f.ts.length c], .slice B xs.length d] w (fun v w' => v = .bool (check f == 0 && decide ((xs.length : Int) = f.rows) && xs.all (okWho f) && rightB f (pad xs) []) ∧ Ext w w') := by
  refine ret_of_cc (N := 28) Try.func52 rfl rfl (by simp) ?_
  intro fr0 ha hdf
  have hp0 := sl_arg (i := 0) (v := .agg #[I f.rows, I f.wd, I f.lo, I f.hi, .slice A f.ts.length c]) ha rfl
  have hp1 := sl_arg (i := 1) (v := .slice B xs.length d) ha rfl
  clear ha
  refine cc_seq <| cc_region <| we rfl (fun st => x_box (v := .agg #[I f.rows, I f.wd, I f.lo, I f.hi, .slice A f.ts.length c]) (cs := #[I f.rows, I f.wd, I f.lo, I f.hi, .slice A f.ts.length c]) (ee st hp0) rfl) ?_
  rintro _ w1 ⟨b1, rfl, nb1⟩
  have lo1 : w.heap.size ≤ b1 := by rw [nb1.b_eq]; exact (Below.refl w.heap.size w).size
  refine wa rfl (v := .bool false) rfl <| wl_end <| lv_next <| cc_seq <| cc_seq <| cc_region <| wd rfl (fun st => x_loadn (l := [I f.rows, I f.wd, I f.lo, I f.hi, .slice A f.ts.length c]) agg_36 (ee st rfl) nb1.bk rfl rfl) ?_
  have hT_w1 := (hT.ext nb1.gr)
  refine we rfl (fun st => x_call0 own_51 (ee st rfl) (am1 (ee st rfl)) (c51 f A c _ hT_w1.wide)) ?_
  rintro _ w2 ⟨rfl, hx2⟩
  refine wd rfl (fun st => x_neq (ee st rfl) (ee st rfl)) <| wm rfl (v := .bool ((check f) != 0)) rfl ?_
  rcases bool_cases ((check f) != 0) with hg3 | hg3
  · skip
    have hg3p := hg3
    have hg3p := bne_t hg3p
    refine wl_skip (c := true) rfl rfl (guard_eq rfl hg3) (by decide) rfl (by decide) <| wl_skip (c := true) rfl rfl (guard_eq rfl hg3) (by decide) rfl (by decide) <| wl_skip (c := true) rfl rfl (guard_eq rfl hg3) (by decide) rfl (by decide) <| wl_skip (c := true) rfl rfl (guard_eq rfl hg3) (by decide) rfl (by decide) <| wl_skip (c := true) rfl rfl (guard_eq rfl hg3) (by decide) rfl (by decide) <| wd rfl (fun st => x_pick_t (v := .bool true) (ee st rfl) hg3 (ee st rfl)) <| wm rfl (v := .bool true) rfl <| wl_skip rfl rfl rfl (by decide) rfl (by decide) <| wl_skip rfl rfl rfl (by decide) rfl (by decide) <| wl_skip rfl rfl rfl (by decide) rfl (by decide) <| wl_skip rfl rfl rfl (by decide) rfl (by decide) <| wd rfl (fun st => x_pick_t (v := .bool true) (ee st rfl) rfl (ee st rfl)) <| wl_end <| lv_next <| cc_cond_t rfl rfl <| cc_seq <| cc_region <| wa rfl (v := .bool false) rfl <| wl_end <| lv_next <| cc_ret <| lv_then_ret <| lv_ret1 rfl rfl ?_
    have hB_w2 := (bl_ext (bl_ext (Below.refl w.heap.size w) nb1.gr) hx2)
    exact ⟨vbool (by rw [beq_false_of_ne hg3p]; rfl), ext_of_below hB_w2⟩
  · skip
    have hg3p := hg3
    have hg3p := bne_f hg3p
    have hck : check f = 0 := hg3p
    obtain ⟨⟨hr0, hr1⟩, ⟨hw0, hw1⟩, h5, hok, -, -⟩ := check_ok hck
    refine wl_detg rfl rfl (guard_eq rfl hg3) rfl (by decide) (fun st => x_move (v := .slice B xs.length d) (ee st hp1)) <| wl_detg rfl rfl (guard_eq rfl hg3) rfl (by decide) (fun st => x_len Try.underlying43 (ee st rfl)) <| wl_detg rfl rfl (guard_eq rfl hg3) rfl (by decide) (fun st => x_fieldAddr (ee st rfl) (fz_36_0 _ _)) ?_
    have bk1_w2 := (nb1.bk.ext hx2)
    refine wl_detg rfl rfl (guard_eq rfl hg3) rfl (by decide) (fun st => x_load1 (v := I f.rows) one_3 (ee st rfl) bk1_w2 rfl) <| wl_detg rfl rfl (guard_eq rfl hg3) rfl (by decide) (fun st => x_neq (ee st rfl) (ee st rfl)) <| wd rfl (fun st => x_pick_f (v := .bool (((xs.length : Nat) : Int) != f.rows)) (ee st rfl) hg3 (ee st rfl)) <| wm rfl (v := .bool (((xs.length : Nat) : Int) != f.rows)) rfl ?_
    rcases bool_cases (((xs.length : Nat) : Int) != f.rows) with hg4 | hg4
    · skip
      have hg4p := hg4
      have hg4p := bne_t hg4p
      refine wl_skip (c := true) rfl rfl (guard_eq rfl hg4) (by decide) rfl (by decide) <| wl_skip (c := true) rfl rfl (guard_eq rfl hg4) (by decide) rfl (by decide) <| wl_skip (c := true) rfl rfl (guard_eq rfl hg4) (by decide) rfl (by decide) <| wl_skip (c := true) rfl rfl (guard_eq rfl hg4) (by decide) rfl (by decide) <| wd rfl (fun st => x_pick_t (v := .bool true) (ee st rfl) hg4 (ee st rfl)) <| wl_end <| lv_next <| cc_cond_t rfl rfl <| cc_seq <| cc_region <| wa rfl (v := .bool false) rfl <| wl_end <| lv_next <| cc_ret <| lv_then_ret <| lv_ret1 rfl rfl ?_
      have hB_w2 := (bl_ext (bl_ext (Below.refl w.heap.size w) nb1.gr) hx2)
      exact ⟨vbool (by rw [decide_eq_false hg4p, Bool.and_false]; rfl), ext_of_below hB_w2⟩
    · skip
      have hg4p := hg4
      have hg4p := bne_f hg4p
      refine wl_detg rfl rfl (guard_eq rfl hg4) rfl (by decide) (fun st => x_move (v := .slice B xs.length d) (ee st hp1)) <| wl_detg rfl rfl (guard_eq rfl hg4) rfl (by decide) (fun st => x_makeFunc (vs := #[]) (us := #[pt b1 0]) am0 (am1 (ee st rfl))) ?_
      have hR_w2 := ((hR.ext nb1.gr).ext hx2)
      refine wl_exg rfl rfl (guard_eq rfl hg4) rfl (by decide) (fun st => x_call0 own_93 (ee st rfl) (am2 (ee st rfl) (ee st rfl)) (c93 f A c b1 xs B d _ (by first | omega | assumption) (by first | omega | assumption) (by omega) bk1_w2 hR_w2.wide)) ?_
      rintro _ w5 ⟨rfl, hx5⟩
      refine wl_detg rfl rfl (guard_eq rfl hg4) rfl (by decide) (fun st => x_not (ee st rfl)) <| wd rfl (fun st => x_pick_f (v := .bool (!(xs.all (okWho f)))) (ee st rfl) hg4 (ee st rfl)) <| wl_end <| lv_next ?_
      rcases bool_cases (!(xs.all (okWho f))) with hc6 | hc6
      · refine cc_cond_t rfl hc6 ?_
        have hc6p := hc6
        have hc6p := not_t hc6p
        have hc6_7 : (xs.all (okWho f)) = false := by simpa using hc6
        refine cc_seq <| cc_region <| wa rfl (v := .bool false) rfl <| wl_end <| lv_next <| cc_ret <| lv_then_ret <| lv_ret1 rfl rfl ?_
        have hB_w5 := (bl_ext (bl_ext (bl_ext (Below.refl w.heap.size w) nb1.gr) hx2) hx5)
        exact ⟨vbool (by rw [hc6_7, Bool.and_false]; rfl), ext_of_below hB_w5⟩
      · refine cc_cond_f rfl hc6 ?_
        have hc6p := hc6
        have hc6p := not_f hc6p
        have hc6_8 : (xs.all (okWho f)) = true := by simpa using hc6
        refine cc_skip <| lv_next <| cc_seq <| cc_region <| we rfl (fun st => x_alloc (cs := #[I 0, I 0, I 0, I 0, I 0, I 0, I 0]) zero_105 rfl) ?_
        rintro _ w9 ⟨b9, rfl, nb9⟩
        have hB_w5 := (bl_ext (bl_ext (bl_ext (Below.refl w.heap.size w) nb1.gr) hx2) hx5)
        have lo9 : w.heap.size ≤ b9 := by rw [nb9.b_eq]; exact hB_w5.size
        have bk1_w5 := (bk1_w2.ext hx5)
        have ltb1_9 : b1 < b9 := by rw [nb9.b_eq]; exact bk1_w5.lt
        refine wl_end <| lv_next <| cc_seq <| cc_region <| wd rfl (fun st => x_slice (ee st rfl) rfl rfl (sla_105 _ _)) <| wm rfl (v := .slice B xs.length d) hp1 ?_
        have hR_w9 := ((hR_w2.ext hx5).ext nb9.gr)
        have hz7 : Bk w9 b9 105 (ivs (List.replicate 7 0)).toArray := nb9.bk
        refine we rfl (fun st => x_copy7 Try.underlying43 sz_3 (ee st rfl) (ee st rfl) hz7 hR_w9 (by omega) (by omega)) ?_
        rintro _ w10 sb10
        have hpl : (pad xs).length = 7 := pad_len (by omega)
        refine wl_end <| lv_next <| cc_seq <| cc_region ?_
        have bk1_w10 := ((bk1_w5.ext nb9.gr).upd sb10.gr (by omega))
        refine wd rfl (fun st => x_loadn (l := [I f.rows, I f.wd, I f.lo, I f.hi, .slice A f.ts.length c]) agg_36 (ee st rfl) bk1_w10 rfl rfl) <| wd rfl (fun st => x_load_all agg_105 (ee st rfl) sb10.bk (by simp [ivs, hpl])) ?_
        have hOn : Rd w10 0 w10.heap.size none (ivs []) := Rd.nil (Nat.le_refl _)
        have hT_w10 := ((((hT_w1.ext hx2).ext hx5).ext nb9.gr).upd sb10.gr (by omega))
        refine we rfl (fun st => x_call0 own_95 (ee st rfl) (am3 (ee st rfl) (ee st rfl) (ee st rfl)) (c95 f A c (pad xs) [] none 0 _ (by omega) (by omega) (by omega) hok hpl (by first | omega | simp) hT_w10.wide hOn.wide)) ?_
        rintro _ w11 ⟨rfl, hx11⟩
        refine wa rfl (v := .bool (rightB f (pad xs) [])) rfl <| wl_end <| lv_next <| cc_ret <| lv_ret1 rfl rfl ?_
        have hB_w11 := (bl_ext (bl_upd (bl_ext hB_w5 nb9.gr) sb10.gr (by omega)) hx11)
        exact ⟨vbool (by rw [hck, decide_eq_true hg4p, hc6_8]; rfl), ext_of_below hB_w11⟩
end Go.Proofs.Ythogdgkafaclaaa
end
section
set_option linter.unusedVariables false
set_option linter.unusedSimpArgs false
namespace Go.Proofs.Ythogdgkafaclaaa
open Go.RowKit
attribute [local irreducible] Ex1 WL CC CW LV Ret ObOp Agg One Own
theorem c34 (f : Fld) (A : Option Addr) (c : Nat) (w : World) (hcap : f.ts.length ≤ c) (hT : Rd w 0 w.heap.size A (flat encT f.ts)) :
    Ret Try.prog 34 #[.agg #[I f.rows, I f.wd, I f.lo, I f.hi, .slice A f.ts.length c]] w (fun v w' => Ext w w' ∧ (check f ≠ 0 → v = .tuple #[.int .i64 0, .int .i64 (check f)]) ∧ (check f = 0 → v = (match firstF f with | some i => .tuple #[.int .i64 (i : Int), .int .i64 0] | none => .tuple #[.int .i64 0, .int .i64 7]))) := by
  refine ret_of_cc (N := 30) Try.func34 rfl rfl (by simp) ?_
  intro fr0 ha hdf
  have hp0 := sl_arg (i := 0) (v := .agg #[I f.rows, I f.wd, I f.lo, I f.hi, .slice A f.ts.length c]) ha rfl
  clear ha
  refine cc_seq <| cc_region <| we rfl (fun st => x_box (v := .agg #[I f.rows, I f.wd, I f.lo, I f.hi, .slice A f.ts.length c]) (cs := #[I f.rows, I f.wd, I f.lo, I f.hi, .slice A f.ts.length c]) (ee st hp0) rfl) ?_
  rintro _ w1 ⟨b1, rfl, nb1⟩
  have lo1 : w.heap.size ≤ b1 := by rw [nb1.b_eq]; exact (Below.refl w.heap.size w).size
  refine wa rfl (v := I 0) rfl <| wa rfl (v := I 0) rfl <| wl_end <| lv_next <| cc_seq <| cc_seq <| cc_region <| wd rfl (fun st => x_loadn (l := [I f.rows, I f.wd, I f.lo, I f.hi, .slice A f.ts.length c]) agg_36 (ee st rfl) nb1.bk rfl rfl) ?_
  have hT_w1 := (hT.ext nb1.gr)
  refine we rfl (fun st => x_call0 own_51 (ee st rfl) (am1 (ee st rfl)) (c51 f A c _ hT_w1.wide)) ?_
  rintro _ w2 ⟨rfl, hx2⟩
  refine wa rfl (v := I (check f)) rfl <| wl_end <| lv_next <| cc_seq <| cc_region <| wm rfl (v := I (check f)) rfl <| wd rfl (fun st => x_neq (ee st rfl) (ee st rfl)) <| wl_end <| lv_next ?_
  rcases bool_cases ((check f) != 0) with hc3 | hc3
  · refine cc_cond_t rfl hc3 ?_
    have hc3p := hc3
    have hc3p := bne_t hc3p
    refine cc_seq <| cc_region <| wm rfl (v := I (check f)) rfl <| wa rfl (v := I 0) rfl <| wa rfl (v := I (check f)) rfl <| wl_end <| lv_next <| cc_ret <| lv_then_ret <| lv_ret2 rfl rfl rfl ?_
    have hB_w2 := (bl_ext (bl_ext (Below.refl w.heap.size w) nb1.gr) hx2)
    exact ⟨ext_of_below hB_w2, fun _ => rfl, fun h => absurd h hc3p⟩
  · refine cc_cond_f rfl hc3 ?_
    have hc3p := hc3
    have hc3p := bne_f hc3p
    have hck : check f = 0 := hc3p
    obtain ⟨⟨hr0, hr1⟩, ⟨hw0, hw1⟩, h5, hok, -, -⟩ := check_ok hck
    refine cc_skip <| lv_next <| cc_seq <| cc_region ?_
    have bk1_w2 := (nb1.bk.ext hx2)
    refine wd rfl (fun st => x_loadn (l := [I f.rows, I f.wd, I f.lo, I f.hi, .slice A f.ts.length c]) agg_36 (ee st rfl) bk1_w2 rfl rfl) <| we rfl (fun st => x_alloc (cs := #[I 0, I 0, I 0, I 0, .slice none 0 0]) zero_36 rfl) ?_
    rintro _ w4 ⟨b4, rfl, nb4⟩
    have hB_w2 := (bl_ext (bl_ext (Below.refl w.heap.size w) nb1.gr) hx2)
    have lo4 : w.heap.size ≤ b4 := by rw [nb4.b_eq]; exact hB_w2.size
    have ltb1_4 : b1 < b4 := by rw [nb4.b_eq]; exact bk1_w2.lt
    refine wl_ex0 rfl rfl (fun st => x_store (n := 5) (l := [I f.rows, I f.wd, I f.lo, I f.hi, .slice A f.ts.length c]) (cs' := #[I f.rows, I f.wd, I f.lo, I f.hi, .slice A f.ts.length c]) (ee st rfl) (ee st rfl) sz_36 nb4.bk rfl rfl (show 0 + 5 ≤ 5 by decide) (one_cells rfl) rfl) ?_
    rintro _ w5 sb5
    refine wl_end <| lv_next <| cc_seq <| cc_seq <| cc_region <| wd rfl (fun st => x_fieldAddr (ee st rfl) (fz_36_3 _ _)) ?_
    have bk1_w5 := ((bk1_w2.ext nb4.gr).upd sb5.gr (by omega))
    refine wd rfl (fun st => x_load1 (v := .slice A f.ts.length c) one_34 (ee st rfl) bk1_w5 rfl) <| wd rfl (fun st => x_len Try.underlying34 (ee st rfl)) <| wm rfl (v := I 0) rfl <| wl_end <| lv_next <| cc_block ?_
    have hT_w5 := (((hT_w1.ext hx2).ext nb4.gr).upd sb5.gr (by omega))
    have hB_w5 := (bl_upd (bl_ext hB_w2 nb4.gr) sb5.gr (by omega))
    refine cc_loop (fun (m_ : Nat) (fr_ : Act) (w_ : World) => ∃ (j : Nat), ∃ (m : Nat), m_ = f.ts.length - j ∧ (j ≤ f.ts.length) ∧ (∀ i, i < j → firstP f i = false) ∧ fr_.tmps.size = 30 ∧ fr_.defers = [] ∧ sl fr_ 0 = .agg #[I f.rows, I f.wd, I f.lo, I f.hi, .slice A f.ts.length c] ∧ sl fr_ 1 = pt b1 0 ∧ sl fr_ 4 = I (check f) ∧ sl fr_ 5 = pt b4 0 ∧ sl fr_ 7 = .agg #[I f.rows, I f.wd, I f.lo, I f.hi, .slice A f.ts.length c] ∧ sl fr_ 8 = I (check f) ∧ sl fr_ 9 = I (check f) ∧ sl fr_ 10 = .bool ((check f) != 0) ∧ sl fr_ 12 = .agg #[I f.rows, I f.wd, I f.lo, I f.hi, .slice A f.ts.length c] ∧ sl fr_ 13 = pt b1 4 ∧ sl fr_ 14 = .slice A f.ts.length c ∧ sl fr_ 15 = I ((f.ts.length : Nat) : Int) ∧ sl fr_ 16 = I ((j : Nat) : Int) ∧ Below w.heap.size w w_ ∧ Rd w_ 0 w.heap.size A (flat encT f.ts) ∧ Bk w_ b1 36 #[I f.rows, I f.wd, I f.lo, I f.hi, .slice A f.ts.length c] ∧ Bk w_ b4 36 #[I f.rows, I f.wd, I f.lo, I f.hi, .slice A m c]) (f.ts.length - 0) ?init6 ?round6
    case init6 =>
      intro st
      exact ⟨0, f.ts.length, rfl, by omega, (fun i h => absurd h (by omega)), (puts_size _ _).trans st.sz, (puts_defers _ _).trans st.df, (sl_puts st 0).trans hp0, (sl_puts st 1).trans rfl, (sl_puts st 4).trans rfl, (sl_puts st 5).trans rfl, (sl_puts st 7).trans rfl, (sl_puts st 8).trans rfl, (sl_puts st 9).trans rfl, (sl_puts st 10).trans rfl, (sl_puts st 12).trans rfl, (sl_puts st 13).trans rfl, (sl_puts st 14).trans rfl, (sl_puts st 15).trans rfl, (sl_puts st 16).trans (vint (by omega)), hB_w5, hT_w5, bk1_w5, sb5.bk⟩
    case round6 =>
      rintro m_ fr6 w6 ⟨j, m, rfl, hj, hno, hsz6, hdf6, hs6_0, hs6_1, hs6_4, hs6_5, hs6_7, hs6_8, hs6_9, hs6_10, hs6_12, hs6_13, hs6_14, hs6_15, hs6_16, hB_w6, hT_w6, bk1_w6, bk4_w6⟩
      refine round_cc (N := 30) hsz6 hdf6 <| cc_seq <| cc_region <| wd rfl (fun st => x_lss (ee st hs6_16) (ee st hs6_15)) <| wl_end <| lv_next <| cc_seq ?_
      rcases bool_cases (decide (((j : Nat) : Int) < ((f.ts.length : Nat) : Int))) with hc7 | hc7
      · refine cc_cond_t rfl hc7 ?_
        have hc7p := hc7
        have hc7p := of_decide_eq_true hc7p
        refine cc_skip <| lv_next <| cc_seq <| cc_block <| cc_seq <| cc_region <| wm rfl (v := I ((j : Nat) : Int)) hs6_16 <| wa rfl (v := I ((j : Nat) : Int)) rfl <| wl_end <| lv_next <| cc_seq <| cc_region <| wd rfl (fun st => x_fieldAddr (ee st hs6_1) (fz_36_3 _ _)) <| wd rfl (fun st => x_load1 (v := .slice A f.ts.length c) one_34 (ee st rfl) bk1_w6 rfl) <| wm rfl (v := I ((j : Nat) : Int)) rfl <| wd rfl (fun st => x_add (ee st rfl) (ee st rfl) ⟨by omega, by omega⟩) ?_
        obtain ⟨bq8, oq8, hA8, -, -, -⟩ := Rd.elem encT_len (by decide) hT_w6 (k := j) (by omega)
        refine wd rfl (fun st => x_sliceTo (k := j + 1) Try.underlying34 sz_95 (ee st rfl) hA8 (ee st rfl) (by omega) (by omega)) <| wd rfl (fun st => x_fieldAddr (ee st hs6_5) (fz_36_3 _ _)) <| wl_ex0 rfl rfl (fun st => x_store (n := 1) (l := [.slice A (j + 1) c]) (cs' := #[I f.rows, I f.wd, I f.lo, I f.hi, .slice A (j + 1) c]) (ee st rfl) (ee st rfl) sz_34 bk4_w6 rfl rfl (show 4 + 1 ≤ 5 by decide) (one_cells rfl) rfl) ?_
        rintro _ w9 sb9
        refine wl_end <| lv_next <| cc_seq <| cc_region <| wd rfl (fun st => x_loadn (l := [I f.rows, I f.wd, I f.lo, I f.hi, .slice A (j + 1) c]) agg_36 (ee st hs6_5) sb9.bk rfl rfl) ?_
        have hT_w9 := (hT_w6.upd sb9.gr (by omega))
        have hOn : Rd w9 0 w9.heap.size none (ivs []) := Rd.nil (Nat.le_refl _)
        have hlen : (upF f (j + 1)).ts.length = j + 1 := by show (f.ts.take (j + 1)).length = j + 1; simp; omega
        have hcc := c80 (upF f (j + 1)) A c [] none 0 w9 hr0 hr1 hw0 hw1 (by omega) (fun t ht => hok t (List.mem_of_mem_take ht)) (by simp) (hT_w9.pre (j + 1)).wide hOn
        rw [hlen] at hcc
        refine we rfl (fun st => x_call0 own_80 (ee st rfl) (am2 (ee st rfl) (ee st rfl)) hcc) ?_
        rintro _ w10 ⟨rfl, hx10⟩
        refine wd rfl (fun st => x_not (ee st rfl)) <| wl_end <| lv_next ?_
        rcases bool_cases (!(decide (truths (upF f (j + 1)) [] ≠ []))) with hc11 | hc11
        · refine cc_cond_t rfl hc11 ?_
          have hc11p := hc11
          have hc11p := not_t hc11p
          have hc11_12 : (decide (truths (upF f (j + 1)) [] ≠ [])) = false := by simpa using hc11
          refine cc_seq <| cc_region <| wm rfl (v := I ((j : Nat) : Int)) rfl <| wa rfl (v := I ((j : Nat) : Int)) rfl <| wa rfl (v := I 0) rfl <| wl_end <| lv_next <| cc_ret <| lv_block_ret <| lv_then_ret <| lv_then_ret <| lv_block_ret <| lv_then_ret <| lv_ret2 rfl rfl rfl ?_
          have hff : firstF f = some j := find_range hno (by omega) hc11
          have hB_w10 := (bl_ext (bl_upd hB_w6 sb9.gr (by omega)) hx10)
          exact ⟨ext_of_below hB_w10, fun h => absurd hck h, fun _ => by rw [hff]; rfl⟩
        · refine cc_cond_f rfl hc11 ?_
          have hc11p := hc11
          have hc11p := not_f hc11p
          have hc11_13 : (decide (truths (upF f (j + 1)) [] ≠ [])) = true := by simpa using hc11
          refine cc_skip <| lv_block <| lv_next <| cc_region <| wd rfl (fun st => x_add (ee st hs6_16) (ee st rfl) ⟨by omega, by omega⟩) <| wm rfl (v := I (((j : Nat) : Int) + 1)) rfl <| wl_end ?_
          have hB_w10 := (bl_ext (bl_upd hB_w6 sb9.gr (by omega)) hx10)
          have hT_w10 := (hT_w9.ext hx10)
          have bk1_w10 := ((bk1_w6.upd sb9.gr (by omega)).ext hx10)
          have bk4_w10 := (sb9.bk.ext hx10)
          refine lv_round (f.ts.length - (j + 1)) (by omega) (fun st => ?_)
          exact ⟨(j + 1), (j + 1), rfl, by omega, (all_step hno hc11), (puts_size _ _).trans st.sz, (puts_defers _ _).trans st.df, (sl_puts st 0).trans hs6_0, (sl_puts st 1).trans hs6_1, (sl_puts st 4).trans hs6_4, (sl_puts st 5).trans hs6_5, (sl_puts st 7).trans hs6_7, (sl_puts st 8).trans hs6_8, (sl_puts st 9).trans hs6_9, (sl_puts st 10).trans hs6_10, (sl_puts st 12).trans hs6_12, (sl_puts st 13).trans hs6_13, (sl_puts st 14).trans hs6_14, (sl_puts st 15).trans hs6_15, (sl_puts st 16).trans (vint (by omega)), hB_w10, hT_w10, bk1_w10, bk4_w10⟩
      · refine cc_cond_f rfl hc7 ?_
        have hc7p := hc7
        have hc7p := of_decide_eq_false hc7p
        refine cc_exit <| lv_then_exit <| lv_then_exit <| lv_block_hit <| lv_next <| cc_seq <| cc_region <| wa rfl (v := I 0) rfl <| wa rfl (v := I 7) rfl <| wl_end <| lv_next <| cc_ret <| lv_ret2 rfl rfl rfl ?_
        obtain rfl : j = f.ts.length := by omega
        have hff : firstF f = none := find_none hno
        exact ⟨ext_of_below hB_w6, fun h => absurd hck h, fun _ => by rw [hff]; rfl⟩
end Go.Proofs.Ythogdgkafaclaaa
end
section
set_option linter.unusedVariables false
set_option linter.unusedSimpArgs false
namespace Go.Proofs.Ythogdgkafaclaaa
open Go.RowKit
attribute [local irreducible] Ex1 WL CC CW LV Ret ObOp Agg One Own
theorem c106 (f : Fld) (A : Option Addr) (c : Nat) (n : Int) (q qz u1 u2 r : Nat) (sv : Value) (l : List (List Int)) (A1 : Option Addr) (c1 : Nat) (a : List Int) (w : World) (hr0 : 1 ≤ f.rows) (hr1 : f.rows ≤ 7) (hpos : 0 < l.length) (hlen : l.length ≤ 100000) (h7l : ∀ x ∈ l, x.length = 7) (ha7 : a.length = 7) (hb1 : Bk w u1 111 #[pt qz 0]) (hqz : Bk w qz 114 #[pt q 0, I n, .map (some r)]) (hq : Bk w q 102 #[I f.rows, I f.wd, I f.lo, I f.hi, .slice A f.ts.length c, sv]) (hb2 : Bk w u2 100 #[.slice A1 l.length c1]) (hl : Rd w 0 w.heap.size A1 (flat ivs l)) :
    Ret Try.prog 106 #[ansV a, pt u1 0, pt u2 0] w (fun v w' => v = .bool (sameD f n l a) ∧ Ext w w') := by
  refine ret_of_cc (N := 34) Try.func106 rfl rfl (by simp) ?_
  intro fr0 ha hdf
  have hp0 := sl_arg (i := 0) (v := ansV a) ha rfl
  have hp1 := sl_arg (i := 1) (v := pt u1 0) ha rfl
  have hp2 := sl_arg (i := 2) (v := pt u2 0) ha rfl
  clear ha
  refine cc_seq <| cc_region <| we rfl (fun st => x_box (v := ansV a) (cs := (ivs a).toArray) (ee st hp0) rfl) ?_
  rintro _ w1 ⟨b1, rfl, nb1⟩
  have lo1 : w.heap.size ≤ b1 := by rw [nb1.b_eq]; exact (Below.refl w.heap.size w).size
  refine wa rfl (v := .bool false) rfl <| wl_end <| lv_next <| cc_seq ?_
  have hb1_w1 := (hb1.ext nb1.gr)
  have hqz_w1 := (hqz.ext nb1.gr)
  have hq_w1 := (hq.ext nb1.gr)
  have hb2_w1 := (hb2.ext nb1.gr)
  have hl_w1 := (hl.ext nb1.gr)
  obtain ⟨bq3, oq3, hA3, -, -, -⟩ := Rd.elem7 h7l hl_w1 (k := 0) (by omega)
  obtain ⟨x4, hx4⟩ : ∃ x, (l)[0]? = some x := ⟨_, List.getElem?_eq_getElem (by omega)⟩
  have hl_w1 := (hl.ext nb1.gr)
  refine cc_any0 [Kc (pt qz 0), Kc (pt qz 0), Kc (pt qz 0), Kc (pt q 0), Kc (pt q 0), Kc (pt q 0), Kc (.agg #[I f.rows, I f.wd, I f.lo, I f.hi, .slice A f.ts.length c]), Kc (ansV a), Kc (pt qz 0), Kc (pt qz 0), Kc (pt qz 1), Kc (I n), Kc (I ((cnt n (a.take f.rows.toNat) : Nat) : Int)), Kc (pt qz 0), Kc (pt qz 0), Kc (pt qz 0), Kc (pt q 0), Kc (pt q 0), Kc (pt q 0), Kc (.agg #[I f.rows, I f.wd, I f.lo, I f.hi, .slice A f.ts.length c]), Kc (.slice A1 l.length c1), Kc (pt bq3 (oq3 + 0 * 7)), Kc (ansV x4), Kc (pt qz 0), Kc (pt qz 0), Kc (pt qz 1), Kc (I n), Kc (I ((cnt n (x4.take f.rows.toNat) : Nat) : Int)), Kc (.bool (((cnt n (a.take f.rows.toNat) : Nat) : Int) == ((cnt n (x4.take f.rows.toNat) : Nat) : Int))), Kc (.bool (((cnt n (a.take f.rows.toNat) : Nat) : Int) == ((cnt n (x4.take f.rows.toNat) : Nat) : Int)))] mixed rfl
      (obs_cons (ob_det rfl rfl (fun _ => rfl) (fun a' w' ph K => x_load1 (v := pt qz 0) one_111 (es (t := 1) (v := pt u1 0) ((K.out 1 rfl).trans hp1)) (hb1_w1.ext K.phT) rfl))
      (obs_cons (ob_det rfl rfl (fun _ => rfl) (fun a' w' ph K => x_nilCheck (es (t := 5) (v := pt qz 0) (K.dep 0 5 rfl rfl))))
      (obs_cons (ob_det rfl rfl (fun _ => rfl) (fun a' w' ph K => x_fieldAddr (es (t := 6) (v := pt qz 0) (K.dep 1 6 rfl rfl)) (fz_114_0 _ _)))
      (obs_cons (ob_det rfl rfl (fun _ => rfl) (fun a' w' ph K => x_load1 (v := pt q 0) one_97 (es (t := 7) (v := pt qz 0) (K.dep 2 7 rfl rfl)) (hqz_w1.ext K.phT) rfl))
      (obs_cons (ob_det rfl rfl (fun _ => rfl) (fun a' w' ph K => x_nilCheck (es (t := 8) (v := pt q 0) (K.dep 3 8 rfl rfl))))
      (obs_cons (ob_det rfl rfl (fun _ => rfl) (fun a' w' ph K => x_fieldAddr (es (t := 9) (v := pt q 0) (K.dep 4 9 rfl rfl)) (fz_102_0 _ _)))
      (obs_cons (ob_det rfl rfl (fun _ => rfl) (fun a' w' ph K => x_loadn (l := [I f.rows, I f.wd, I f.lo, I f.hi, .slice A f.ts.length c]) agg_36 (es (t := 10) (v := pt q 0) (K.dep 5 10 rfl rfl)) (hq_w1.ext K.phT) rfl rfl))
      (obs_cons (ob_det rfl rfl (fun _ => rfl) (fun a' w' ph K => x_load_all agg_105 (es (t := 3) (v := pt b1 0) ((K.out 3 rfl).trans rfl)) (nb1.bk.ext K.phT) (by simp [ivs, ha7])))
      (obs_cons (ob_det rfl rfl (fun _ => rfl) (fun a' w' ph K => x_load1 (v := pt qz 0) one_111 (es (t := 1) (v := pt u1 0) ((K.out 1 rfl).trans hp1)) (hb1_w1.ext K.phT) rfl))
      (obs_cons (ob_det rfl rfl (fun _ => rfl) (fun a' w' ph K => x_nilCheck (es (t := 13) (v := pt qz 0) (K.dep 8 13 rfl rfl))))
      (obs_cons (ob_det rfl rfl (fun _ => rfl) (fun a' w' ph K => x_fieldAddr (es (t := 14) (v := pt qz 0) (K.dep 9 14 rfl rfl)) (fz_114_1 _ _)))
      (obs_cons (ob_det rfl rfl (fun _ => rfl) (fun a' w' ph K => x_load1 (v := I n) one_3 (es (t := 15) (v := pt qz 1) (K.dep 10 15 rfl rfl)) (hqz_w1.ext K.phT) rfl))
      (obs_cons (ob_ext rfl rfl (fun a' w' ph K => (x_call0 own_68 rfl (am3 (es (t := 11) (v := .agg #[I f.rows, I f.wd, I f.lo, I f.hi, .slice A f.ts.length c]) (K.dep 6 11 rfl rfl)) (es (t := 12) (v := ansV a) (K.dep 7 12 rfl rfl)) (es (t := 16) (v := I n) (K.dep 11 16 rfl rfl))) (c68 f A c a n _ (by omega) (by omega) ha7)).mono (fun _ _ h => h)))
      (obs_cons (ob_det rfl rfl (fun _ => rfl) (fun a' w' ph K => x_load1 (v := pt qz 0) one_111 (es (t := 1) (v := pt u1 0) ((K.out 1 rfl).trans hp1)) (hb1_w1.ext K.phT) rfl))
      (obs_cons (ob_det rfl rfl (fun _ => rfl) (fun a' w' ph K => x_nilCheck (es (t := 18) (v := pt qz 0) (K.dep 13 18 rfl rfl))))
      (obs_cons (ob_det rfl rfl (fun _ => rfl) (fun a' w' ph K => x_fieldAddr (es (t := 19) (v := pt qz 0) (K.dep 14 19 rfl rfl)) (fz_114_0 _ _)))
      (obs_cons (ob_det rfl rfl (fun _ => rfl) (fun a' w' ph K => x_load1 (v := pt q 0) one_97 (es (t := 20) (v := pt qz 0) (K.dep 15 20 rfl rfl)) (hqz_w1.ext K.phT) rfl))
      (obs_cons (ob_det rfl rfl (fun _ => rfl) (fun a' w' ph K => x_nilCheck (es (t := 21) (v := pt q 0) (K.dep 16 21 rfl rfl))))
      (obs_cons (ob_det rfl rfl (fun _ => rfl) (fun a' w' ph K => x_fieldAddr (es (t := 22) (v := pt q 0) (K.dep 17 22 rfl rfl)) (fz_102_0 _ _)))
      (obs_cons (ob_det rfl rfl (fun _ => rfl) (fun a' w' ph K => x_loadn (l := [I f.rows, I f.wd, I f.lo, I f.hi, .slice A f.ts.length c]) agg_36 (es (t := 23) (v := pt q 0) (K.dep 18 23 rfl rfl)) (hq_w1.ext K.phT) rfl rfl))
      (obs_cons (ob_det rfl rfl (fun _ => rfl) (fun a' w' ph K => x_load1 (v := .slice A1 l.length c1) one_100 (es (t := 2) (v := pt u2 0) ((K.out 2 rfl).trans hp2)) (hb2_w1.ext K.phT) rfl))
      (obs_cons (ob_det rfl rfl (fun _ => rfl) (fun a' w' ph K => x_indexAddrN (k := 0) Try.underlying100 sz_105 (es (t := 25) (v := .slice A1 l.length c1) (K.dep 20 25 rfl rfl)) hA3 (ec (v := I 0)) rfl (by omega)))
      (obs_cons (ob_det rfl rfl (fun _ => rfl) (fun a' w' ph K => x_load_rdn (l := ivs x4) agg_105 (es (t := 26) (v := pt bq3 (oq3 + 0 * 7)) (K.dep 21 26 rfl rfl)) ((hl_w1.ext K.phT).cells hA3) (flat7_at h7l hx4) (by rw [ivs_len]; exact (h7l x4 (List.mem_of_getElem? hx4)))))
      (obs_cons (ob_det rfl rfl (fun _ => rfl) (fun a' w' ph K => x_load1 (v := pt qz 0) one_111 (es (t := 1) (v := pt u1 0) ((K.out 1 rfl).trans hp1)) (hb1_w1.ext K.phT) rfl))
      (obs_cons (ob_det rfl rfl (fun _ => rfl) (fun a' w' ph K => x_nilCheck (es (t := 28) (v := pt qz 0) (K.dep 23 28 rfl rfl))))
      (obs_cons (ob_det rfl rfl (fun _ => rfl) (fun a' w' ph K => x_fieldAddr (es (t := 29) (v := pt qz 0) (K.dep 24 29 rfl rfl)) (fz_114_1 _ _)))
      (obs_cons (ob_det rfl rfl (fun _ => rfl) (fun a' w' ph K => x_load1 (v := I n) one_3 (es (t := 30) (v := pt qz 1) (K.dep 25 30 rfl rfl)) (hqz_w1.ext K.phT) rfl))
      (obs_cons (ob_ext rfl rfl (fun a' w' ph K => (x_call0 own_68 rfl (am3 (es (t := 24) (v := .agg #[I f.rows, I f.wd, I f.lo, I f.hi, .slice A f.ts.length c]) (K.dep 19 24 rfl rfl)) (es (t := 27) (v := ansV x4) (K.dep 22 27 rfl rfl)) (es (t := 31) (v := I n) (K.dep 26 31 rfl rfl))) (c68 f A c x4 n _ (by omega) (by omega) (h7l x4 (List.mem_of_getElem? hx4)))).mono (fun _ _ h => h)))
      (obs_cons (ob_det rfl rfl (fun _ => rfl) (fun a' w' ph K => x_eql (es (t := 17) (v := I ((cnt n (a.take f.rows.toNat) : Nat) : Int)) (K.dep 12 17 rfl rfl)) (es (t := 32) (v := I ((cnt n (x4.take f.rows.toNat) : Nat) : Int)) (K.dep 27 32 rfl rfl))))
      (obs_cons (ob_det rfl rfl (fun _ => rfl) (fun a' w' ph K => x_assign (v := .bool (((cnt n (a.take f.rows.toNat) : Nat) : Int) == ((cnt n (x4.take f.rows.toNat) : Nat) : Int))) (es (t := 33) (v := .bool (((cnt n (a.take f.rows.toNat) : Nat) : Int) == ((cnt n (x4.take f.rows.toNat) : Nat) : Int))) (K.dep 28 33 rfl rfl))))
      (obs_nil _))))))))))))))))))))))))))))))) ?_
  intro w2 hx2
  rintro _ rfl _ rfl _ rfl _ rfl _ rfl _ rfl _ rfl _ rfl _ rfl _ rfl _ rfl _ rfl _ rfl _ rfl _ rfl _ rfl _ rfl _ rfl _ rfl _ rfl _ rfl _ rfl _ rfl _ rfl _ rfl _ rfl _ rfl _ rfl _ rfl _ rfl
  refine lv_next <| cc_ret <| lv_ret1 rfl rfl ?_
  have hh := headD_some hx4
  have hB_w2 := (bl_ext (bl_ext (Below.refl w.heap.size w) nb1.gr) hx2)
  exact ⟨vbool (by unfold sameD; rw [hh]; rfl), ext_of_below hB_w2⟩
theorem c131 (f : Fld) (A : Option Addr) (c : Nat) (n : Int) (q qz u1 u2 r : Nat) (sv : Value) (l : List (List Int)) (A1 : Option Addr) (c1 : Nat) (a : List Int) (bb : Nat) (w : World) (hr0 : 1 ≤ f.rows) (hr1 : f.rows ≤ 7) (hpos : 0 < l.length) (hlen : l.length ≤ 100000) (h7l : ∀ x ∈ l, x.length = 7) (ha7 : a.length = 7) (hb1 : Bk w u1 111 #[pt qz 0]) (hqz : Bk w qz 114 #[pt q 0, I n, .map (some r)]) (hq : Bk w q 102 #[I f.rows, I f.wd, I f.lo, I f.hi, .slice A f.ts.length c, sv]) (hb2 : Bk w u2 100 #[.slice A1 l.length c1]) (hl : Rd w 0 w.heap.size A1 (flat ivs l)) (hbb : Bk w bb 140 #[.func (.func 106) #[] #[pt u1 0, pt u2 0]]) :
    Ret Try.prog 131 #[ansV a, pt bb 0] w (fun v w' => v = .bool (!sameD f n l a) ∧ Ext w w') := by
  refine ret_of_cc (N := 8) Try.func131 rfl rfl (by simp) ?_
  intro fr0 ha hdf
  have hp0 := sl_arg (i := 0) (v := ansV a) ha rfl
  have hp1 := sl_arg (i := 1) (v := pt bb 0) ha rfl
  clear ha
  refine cc_seq <| cc_region <| we rfl (fun st => x_box (v := ansV a) (cs := (ivs a).toArray) (ee st hp0) rfl) ?_
  rintro _ w1 ⟨b1, rfl, nb1⟩
  have lo1 : w.heap.size ≤ b1 := by rw [nb1.b_eq]; exact (Below.refl w.heap.size w).size
  refine wa rfl (v := .bool false) rfl <| wl_end <| lv_next <| cc_seq <| cc_region ?_
  have hbb_w1 := (hbb.ext nb1.gr)
  refine wd rfl (fun st => x_load1 (v := .func (.func 106) #[] #[pt u1 0, pt u2 0]) one_140 (ee st hp1) hbb_w1 rfl) <| wd rfl (fun st => x_load_all agg_105 (ee st rfl) nb1.bk (by simp [ivs, ha7])) ?_
  have hb1_w1 := (hb1.ext nb1.gr)
  have hqz_w1 := (hqz.ext nb1.gr)
  have hq_w1 := (hq.ext nb1.gr)
  have hb2_w1 := (hb2.ext nb1.gr)
  have hl_w1 := (hl.ext nb1.gr)
  refine we rfl (fun st => x_call (first := #[]) (cap := #[pt u1 0, pt u2 0]) (vs := #[ansV a]) (all := #[ansV a, pt u1 0, pt u2 0]) own_106 (ee st rfl) (am1 (ee st rfl)) (by simp) (c106 f A c n q qz u1 u2 r sv l A1 c1 a _ (by omega) (by omega) (by omega) (by omega) h7l ha7 hb1_w1 hqz_w1 hq_w1 hb2_w1 hl_w1.wide)) ?_
  rintro _ w2 ⟨rfl, hx2⟩
  refine wd rfl (fun st => x_not (ee st rfl)) <| wa rfl (v := .bool (!(sameD f n l a))) rfl <| wl_end <| lv_next <| cc_ret <| lv_ret1 rfl rfl ?_
  have hB_w2 := (bl_ext (bl_ext (Below.refl w.heap.size w) nb1.gr) hx2)
  exact ⟨rfl, ext_of_below hB_w2⟩
theorem c141 (f : Fld) (A : Option Addr) (c : Nat) (n : Int) (q qz u1 u2 r : Nat) (sv : Value) (l : List (List Int)) (A1 : Option Addr) (c1 : Nat) (ts : List (List Int)) (B : Option Addr) (d : Nat) (bb : Nat) (w : World) (hr0 : 1 ≤ f.rows) (hr1 : f.rows ≤ 7) (hpos : 0 < l.length) (hlen : l.length ≤ 100000) (h7l : ∀ x ∈ l, x.length = 7) (h7 : ∀ x ∈ ts, x.length = 7) (hl : ts.length ≤ 100000) (hb1 : Bk w u1 111 #[pt qz 0]) (hqz : Bk w qz 114 #[pt q 0, I n, .map (some r)]) (hq : Bk w q 102 #[I f.rows, I f.wd, I f.lo, I f.hi, .slice A f.ts.length c, sv]) (hb2 : Bk w u2 100 #[.slice A1 l.length c1]) (hl : Rd w 0 w.heap.size A1 (flat ivs l)) (hs : Rd w 0 w.heap.size B (flat ivs ts)) (hbb : Bk w bb 140 #[.func (.func 106) #[] #[pt u1 0, pt u2 0]]) :
    Ret Try.prog 141 #[.slice B ts.length d, .func (.func 131) #[] #[pt bb 0]] w (fun v w' => v = .int .i64 (fidx (fun y => !sameD f n l y) ts) ∧ Ext w w') := by
  refine ret_of_cc (N := 19) Try.func141 rfl rfl (by simp) ?_
  intro fr0 ha hdf
  have hp0 := sl_arg (i := 0) (v := .slice B ts.length d) ha rfl
  have hp1 := sl_arg (i := 1) (v := .func (.func 131) #[] #[pt bb 0]) ha rfl
  clear ha
  refine cc_seq <| cc_region <| wa rfl (v := I 0) rfl <| wl_end <| lv_next <| cc_seq <| cc_seq <| cc_region <| wm rfl (v := .slice B ts.length d) hp0 <| wd rfl (fun st => x_len Try.underlying100 (ee st rfl)) <| wm rfl (v := I 0) rfl <| wl_end <| lv_next <| cc_block ?_
  refine cc_loop (fun (m_ : Nat) (fr_ : Act) (w_ : World) => ∃ (k : Nat), m_ = ts.length - k ∧ (k ≤ ts.length) ∧ (∀ y ∈ ts.take k, (fun y => !sameD f n l y) y = false) ∧ fr_.tmps.size = 19 ∧ fr_.defers = [] ∧ sl fr_ 0 = .slice B ts.length d ∧ sl fr_ 1 = .func (.func 131) #[] #[pt bb 0] ∧ sl fr_ 6 = .slice B ts.length d ∧ sl fr_ 7 = I ((ts.length : Nat) : Int) ∧ sl fr_ 8 = I ((k : Nat) : Int) ∧ Below w.heap.size w w_ ∧ Bk w_ u1 111 #[pt qz 0] ∧ Bk w_ qz 114 #[pt q 0, I n, .map (some r)] ∧ Bk w_ q 102 #[I f.rows, I f.wd, I f.lo, I f.hi, .slice A f.ts.length c, sv] ∧ Bk w_ u2 100 #[.slice A1 l.length c1] ∧ Rd w_ 0 w.heap.size A1 (flat ivs l) ∧ Rd w_ 0 w.heap.size B (flat ivs ts) ∧ Bk w_ bb 140 #[.func (.func 106) #[] #[pt u1 0, pt u2 0]]) (ts.length - 0) ?init1 ?round1
  case init1 =>
    intro st
    exact ⟨0, rfl, by omega, by simp, (puts_size _ _).trans st.sz, (puts_defers _ _).trans st.df, (sl_puts st 0).trans hp0, (sl_puts st 1).trans hp1, (sl_puts st 6).trans rfl, (sl_puts st 7).trans rfl, (sl_puts st 8).trans (vint (by omega)), (Below.refl w.heap.size w), hb1, hqz, hq, hb2, hl, hs, hbb⟩
  case round1 =>
    rintro m_ fr1 w1 ⟨k, rfl, hk, hn, hsz1, hdf1, hs1_0, hs1_1, hs1_6, hs1_7, hs1_8, hB_w1, hb1_w1, hqz_w1, hq_w1, hb2_w1, hl_w1, hs_w1, hbb_w1⟩
    refine round_cc (N := 19) hsz1 hdf1 <| cc_seq <| cc_region <| wd rfl (fun st => x_lss (ee st hs1_8) (ee st hs1_7)) <| wl_end <| lv_next <| cc_seq ?_
    rcases bool_cases (decide (((k : Nat) : Int) < ((ts.length : Nat) : Int))) with hc2 | hc2
    · refine cc_cond_t rfl hc2 ?_
      have hc2p := hc2
      have hc2p := of_decide_eq_true hc2p
      refine cc_skip <| lv_next <| cc_seq <| cc_block <| cc_seq <| cc_region <| wm rfl (v := I ((k : Nat) : Int)) hs1_8 <| wa rfl (v := I ((k : Nat) : Int)) rfl <| wl_end <| lv_next <| cc_seq <| cc_region <| wm rfl (v := .func (.func 131) #[] #[pt bb 0]) hs1_1 <| wm rfl (v := .slice B ts.length d) hs1_0 <| wm rfl (v := I ((k : Nat) : Int)) rfl ?_
      obtain ⟨bq3, oq3, hA3, -, -, -⟩ := Rd.elem7 h7 hs_w1 (k := k) (by omega)
      obtain ⟨x4, hx4⟩ : ∃ x, (ts)[k]? = some x := ⟨_, List.getElem?_eq_getElem (by omega)⟩
      refine wd rfl (fun st => x_indexAddrN (k := k) Try.underlying100 sz_105 (ee st rfl) hA3 (ee st rfl) rfl (by omega)) <| wd rfl (fun st => x_load_rdn (l := ivs x4) agg_105 (ee st rfl) (hs_w1.cells hA3) (flat7_at h7 hx4) (by rw [ivs_len]; exact (h7 x4 (List.mem_of_getElem? hx4)))) <| we rfl (fun st => x_call (first := #[]) (cap := #[pt bb 0]) (vs := #[ansV x4]) (all := #[ansV x4, pt bb 0]) own_131 (ee st rfl) (am1 (ee st rfl)) (by simp) (c131 f A c n q qz u1 u2 r sv l A1 c1 x4 bb _ (by omega) (by omega) (by omega) (by omega) h7l (h7 x4 (List.mem_of_getElem? hx4)) hb1_w1 hqz_w1 hq_w1 hb2_w1 hl_w1.wide hbb_w1)) ?_
      rintro _ w5 ⟨rfl, hx5⟩
      refine wl_end <| lv_next ?_
      rcases bool_cases (!(sameD f n l x4)) with hc6 | hc6
      · refine cc_cond_t rfl hc6 ?_
        have hc6p := hc6
        have hc6p := not_t hc6p
        have hc6_7 : (sameD f n l x4) = false := by simpa using hc6
        refine cc_seq <| cc_region <| wm rfl (v := I ((k : Nat) : Int)) rfl <| wa rfl (v := I ((k : Nat) : Int)) rfl <| wl_end <| lv_next <| cc_ret <| lv_block_ret <| lv_then_ret <| lv_then_ret <| lv_block_ret <| lv_then_ret <| lv_ret1 rfl rfl ?_
        have hB_w5 := (bl_ext hB_w1 hx5)
        exact ⟨vint (fidx_some (p := (fun y => !sameD f n l y)) hx4 hc6 hn).symm, ext_of_below hB_w5⟩
      · refine cc_cond_f rfl hc6 ?_
        have hc6p := hc6
        have hc6p := not_f hc6p
        have hc6_8 : (sameD f n l x4) = true := by simpa using hc6
        refine cc_skip <| lv_block <| lv_next <| cc_region <| wd rfl (fun st => x_add (ee st hs1_8) (ee st rfl) ⟨by omega, by omega⟩) <| wm rfl (v := I (((k : Nat) : Int) + 1)) rfl <| wl_end ?_
        have hB_w5 := (bl_ext hB_w1 hx5)
        have hb1_w5 := (hb1_w1.ext hx5)
        have hqz_w5 := (hqz_w1.ext hx5)
        have hq_w5 := (hq_w1.ext hx5)
        have hb2_w5 := (hb2_w1.ext hx5)
        have hl_w5 := (hl_w1.ext hx5)
        have hs_w5 := (hs_w1.ext hx5)
        have hbb_w5 := (hbb_w1.ext hx5)
        refine lv_round (ts.length - (k + 1)) (by omega) (fun st => ?_)
        exact ⟨(k + 1), rfl, by omega, take_step (p := (fun y => !sameD f n l y)) hn hx4 hc6, (puts_size _ _).trans st.sz, (puts_defers _ _).trans st.df, (sl_puts st 0).trans hs1_0, (sl_puts st 1).trans hs1_1, (sl_puts st 6).trans hs1_6, (sl_puts st 7).trans hs1_7, (sl_puts st 8).trans (vint (by omega)), hB_w5, hb1_w5, hqz_w5, hq_w5, hb2_w5, hl_w5, hs_w5, hbb_w5⟩
    · refine cc_cond_f rfl hc2 ?_
      have hc2p := hc2
      have hc2p := of_decide_eq_false hc2p
      refine cc_exit <| lv_then_exit <| lv_then_exit <| lv_block_hit <| lv_next <| cc_seq <| cc_region <| wa rfl (v := I (-1)) rfl <| wl_end <| lv_next <| cc_ret <| lv_ret1 rfl rfl ?_
      exact ⟨vint (fidx_none (p := (fun y => !sameD f n l y)) (take_done hn (by omega))).symm, ext_of_below hB_w1⟩
theorem c130 (f : Fld) (A : Option Addr) (c : Nat) (n : Int) (q qz u1 u2 r : Nat) (sv : Value) (l : List (List Int)) (A1 : Option Addr) (c1 : Nat) (ts : List (List Int)) (B : Option Addr) (d : Nat) (bb : Nat) (w : World) (hr0 : 1 ≤ f.rows) (hr1 : f.rows ≤ 7) (hpos : 0 < l.length) (hlen : l.length ≤ 100000) (h7l : ∀ x ∈ l, x.length = 7) (h7 : ∀ x ∈ ts, x.length = 7) (hl : ts.length ≤ 100000) (hb1 : Bk w u1 111 #[pt qz 0]) (hqz : Bk w qz 114 #[pt q 0, I n, .map (some r)]) (hq : Bk w q 102 #[I f.rows, I f.wd, I f.lo, I f.hi, .slice A f.ts.length c, sv]) (hb2 : Bk w u2 100 #[.slice A1 l.length c1]) (hl : Rd w 0 w.heap.size A1 (flat ivs l)) (hs : Rd w 0 w.heap.size B (flat ivs ts)) (hbb : Bk w bb 140 #[.func (.func 106) #[] #[pt u1 0, pt u2 0]]) :
    Ret Try.prog 130 #[.slice B ts.length d, .func (.func 131) #[] #[pt bb 0]] w (fun v w' => v = .bool (ts.any (fun y => !sameD f n l y)) ∧ Ext w w') := by
  refine ret_of_cc (N := 9) Try.func130 rfl rfl (by simp) ?_
  intro fr0 ha hdf
  have hp0 := sl_arg (i := 0) (v := .slice B ts.length d) ha rfl
  have hp1 := sl_arg (i := 1) (v := .func (.func 131) #[] #[pt bb 0]) ha rfl
  clear ha
  refine cc_seq <| cc_region <| wa rfl (v := .bool false) rfl <| wl_end <| lv_next <| cc_seq <| cc_region <| wm rfl (v := .slice B ts.length d) hp0 <| wm rfl (v := .func (.func 131) #[] #[pt bb 0]) hp1 <| we rfl (fun st => x_call0 own_141 (ee st rfl) (am2 (ee st rfl) (ee st rfl)) (c141 f A c n q qz u1 u2 r sv l A1 c1 ts B d bb _ (by assumption) (by assumption) (by assumption) (by assumption) (by assumption) (by assumption) (by omega) hb1 hqz hq hb2 hl.wide hs.wide hbb)) ?_
  rintro _ w1 ⟨rfl, hx1⟩
  refine wd rfl (fun st => x_geq (ee st rfl) (ee st rfl)) <| wa rfl (v := .bool (decide (0 ≤ (fidx (fun y => !sameD f n l y) ts)))) rfl <| wl_end <| lv_next <| cc_ret <| lv_ret1 rfl rfl ?_
  have hB_w1 := (bl_ext (Below.refl w.heap.size w) hx1)
  exact ⟨vbool (fidx_ge _ _), ext_of_below hB_w1⟩
theorem c105 (f : Fld) (A : Option Addr) (c : Nat) (n : Int) (q qz u1 u2 r : Nat) (sv : Value) (l : List (List Int)) (A1 : Option Addr) (c1 : Nat) (ts : List (List Int)) (B : Option Addr) (d : Nat) (w : World) (hr0 : 1 ≤ f.rows) (hr1 : f.rows ≤ 7) (hpos : 0 < l.length) (hlen : l.length ≤ 100000) (h7l : ∀ x ∈ l, x.length = 7) (h7 : ∀ x ∈ ts, x.length = 7) (hl : ts.length ≤ 100000) (hb1 : Bk w u1 111 #[pt qz 0]) (hqz : Bk w qz 114 #[pt q 0, I n, .map (some r)]) (hq : Bk w q 102 #[I f.rows, I f.wd, I f.lo, I f.hi, .slice A f.ts.length c, sv]) (hb2 : Bk w u2 100 #[.slice A1 l.length c1]) (hl : Rd w 0 w.heap.size A1 (flat ivs l)) (hs : Rd w 0 w.heap.size B (flat ivs ts)) :
    Ret Try.prog 105 #[.slice B ts.length d, .func (.func 106) #[] #[pt u1 0, pt u2 0]] w (fun v w' => v = .bool (ts.all (sameD f n l)) ∧ Ext w w') := by
  refine ret_of_cc (N := 9) Try.func105 rfl rfl (by simp) ?_
  intro fr0 ha hdf
  have hp0 := sl_arg (i := 0) (v := .slice B ts.length d) ha rfl
  have hp1 := sl_arg (i := 1) (v := .func (.func 106) #[] #[pt u1 0, pt u2 0]) ha rfl
  clear ha
  refine cc_seq <| cc_region <| we rfl (fun st => x_box (v := .func (.func 106) #[] #[pt u1 0, pt u2 0]) (cs := #[.func (.func 106) #[] #[pt u1 0, pt u2 0]]) (ee st hp1) rfl) ?_
  rintro _ w1 ⟨b1, rfl, nb1⟩
  have lo1 : w.heap.size ≤ b1 := by rw [nb1.b_eq]; exact (Below.refl w.heap.size w).size
  refine wa rfl (v := .bool false) rfl <| wl_end <| lv_next <| cc_seq <| cc_region <| wm rfl (v := .slice B ts.length d) hp0 <| wd rfl (fun st => x_makeFunc (vs := #[]) (us := #[pt b1 0]) am0 (am1 (ee st rfl))) ?_
  have hb1_w1 := (hb1.ext nb1.gr)
  have hqz_w1 := (hqz.ext nb1.gr)
  have hq_w1 := (hq.ext nb1.gr)
  have hb2_w1 := (hb2.ext nb1.gr)
  have hl_w1 := (hl.ext nb1.gr)
  have hs_w1 := (hs.ext nb1.gr)
  refine we rfl (fun st => x_call0 own_130 (ee st rfl) (am2 (ee st rfl) (ee st rfl)) (c130 f A c n q qz u1 u2 r sv l A1 c1 ts B d b1 _ (by assumption) (by assumption) (by assumption) (by assumption) (by assumption) (by assumption) (by omega) hb1_w1 hqz_w1 hq_w1 hb2_w1 hl_w1.wide hs_w1.wide nb1.bk)) ?_
  rintro _ w2 ⟨rfl, hx2⟩
  refine wd rfl (fun st => x_not (ee st rfl)) <| wa rfl (v := .bool (!(ts.any (fun y => !sameD f n l y)))) rfl <| wl_end <| lv_next <| cc_ret <| lv_ret1 rfl rfl ?_
  have hB_w2 := (bl_ext (bl_ext (Below.refl w.heap.size w) nb1.gr) hx2)
  exact ⟨vbool (not_any_not _ _), ext_of_below hB_w2⟩
end Go.Proofs.Ythogdgkafaclaaa
end
section
namespace Go.Proofs.Ythogdgkafaclaaa
open Go.RowKit
def setF {α : Type} (f : Nat → α) (i : Nat) (v : α) : Nat → α := fun j => if j = i then v else f j
theorem setF_same {α : Type} (f : Nat → α) (i : Nat) (v : α) : setF f i v i = v := if_pos rfl
theorem setF_ne {α : Type} (f : Nat → α) {i j : Nat} (v : α) (h : j ≠ i) : setF f i v j = f j := if_neg h
def prtL (A : Nat → Option Addr) (c : Nat → Nat) (S : Nat → List (List Int)) : List Value := (List.range 4).map fun i => Value.slice (A i) (S i).length (c i)
abbrev prt (A : Nat → Option Addr) (c : Nat → Nat) (S : Nat → List (List Int)) : Array Value := (prtL A c S).toArray
structure Parts (w : World) (base : Nat) (A : Nat → Option Addr) (c : Nat → Nat) (S : Nat → List (List Int)) : Prop where
  own : ∀ i, i < 4 → OwnS w base 105 7 (A i) (S i).length (c i) (flat ivs (S i))
  dis : ∀ i j, i < 4 → j < 4 → i ≠ j → ∀ k o o', A i = some ⟨k, o, none⟩ → A j ≠ some ⟨k, o', none⟩
section
variable {w w' : World} {base : Nat} {A : Nat → Option Addr} {c : Nat → Nat} {S : Nat → List (List Int)}
theorem Parts.nil (w : World) (base : Nat) : Parts w base (fun _ => none) (fun _ => 0) (fun _ => []) :=
  ⟨fun _ _ => OwnS.nil _ _ _ _, fun _ _ _ _ _ _ _ _ h => by cases h⟩
theorem Parts.ext (h : Parts w base A c S) (g : Ext w w') : Parts w' base A c S := ⟨fun i hi => (h.own i hi).ext g, h.dis⟩
theorem Parts.upd {r : Nat} (h : Parts w base A c S) (g : Upd r w w') (hr : r < base) : Parts w' base A c S := ⟨fun i hi => (h.own i hi).upd g hr, h.dis⟩
theorem Parts.updx {r M : Nat} (h : Parts w base A c S) (g : Upd r w w') (hM : ∀ i, i < 4 → ∀ k o, A i = some ⟨k, o, none⟩ → k < M) (hr : r < base ∨ M ≤ r) : Parts w' base A c S :=
  ⟨fun i hi => (h.own i hi).updx g (hM i hi) hr, h.dis⟩
theorem Parts.lt (h : Parts w base A c S) : ∀ i, i < 4 → ∀ k o, A i = some ⟨k, o, none⟩ → k < w.heap.size := fun i hi k o hA => ((h.own i hi).blk hA).2.1
theorem Parts.app {A' : Option Addr} {c' i : Nat} {x : List Int} (h : Parts w base A c S) (hi : i < 4) (hO : OwnS w' base 105 7 A' ((S i).length + 1) c' (flat ivs (S i) ++ ivs x))
    (g : w.grownBy w' (Value.ownBlock (.slice (A i) (S i).length (c i)))) (hf : ∀ k o, A' = some ⟨k, o, none⟩ → (∃ o', A i = some ⟨k, o', none⟩) ∨ w.heap.size ≤ k) :
    Parts w' base (setF A i A') (setF c i c') (setF S i (S i ++ [x])) := by
  refine ⟨fun j hj => ?_, ?_⟩
  · by_cases hji : j = i
    · subst hji
      simp only [setF_same]
      rw [List.length_append, flat_snoc]
      exact hO
    · simp only [setF_ne _ _ hji]
      refine (h.own j hj).kept g fun k ek o hA => ?_
      cases hAi : A i with
      | none => rw [hAi] at ek; cases ek
      | some ad =>
        have hk : ad.block = k := by rw [hAi] at ek; simpa [Value.ownBlock] using ek
        rcases (h.own i hi).2 with ⟨hv, _⟩ | ⟨g', cap, cur, hv, _⟩
        · rw [hAi] at hv; cases hv
        · rw [hAi] at hv
          cases hv
          simp only at hk
          subst hk
          exact h.dis j i hj hi hji _ _ _ hA hAi
  · have key : ∀ j, j < 4 → j ≠ i → ∀ k o o', A' = some ⟨k, o, none⟩ → A j ≠ some ⟨k, o', none⟩ := by
      intro j hj hji k o o' hA' hAj
      rcases hf k o hA' with ⟨o2, h2⟩ | h2
      · exact h.dis j i hj hi hji _ _ _ hAj h2
      · have := ((h.own j hj).blk hAj).2.1
        omega
    intro a b ha hb hab k o o' h1 h2
    by_cases hai : a = i
    · subst hai
      rw [setF_same] at h1
      rw [setF_ne _ _ (Ne.symm hab)] at h2
      exact key b hb (Ne.symm hab) k o o' h1 h2
    · rw [setF_ne _ _ hai] at h1
      by_cases hbi : b = i
      · subst hbi
        rw [setF_same] at h2
        exact key a ha hai k o' o h2 h1
      · rw [setF_ne _ _ hbi] at h2
        exact h.dis a b ha hb hab k o o' h1 h2
theorem prt_get (A : Nat → Option Addr) (c : Nat → Nat) (S : Nat → List (List Int)) {i : Nat} (hi : i < 4) : (prt A c S).toList[i]? = some (.slice (A i) (S i).length (c i)) := by
  simp [prtL, hi]
theorem prt_set (A : Nat → Option Addr) (c : Nat → Nat) (S : Nat → List (List Int)) {i n' c' : Nat} {A' : Option Addr} {x : List Int} (hi : i < 4) (hn : n' = (S i).length + 1) :
    setCells (prt A c S) i [.slice A' n' c'] = prt (setF A i A') (setF c i c') (setF S i (S i ++ [x])) := by
  subst hn
  simp only [setCells]
  apply Array.ext
  · simp [prtL]
  · intro j h1 h2
    have hj : j < 4 := by simpa [prtL] using h2
    by_cases hji : i = j
    · subst hji
      simp [prtL, setF]
    · have hji' : j ≠ i := fun e => hji e.symm
      simp [prtL, setF, Array.getElem_setIfInBounds, hji, hji']
/-- The part of a list that gave the i-th answer. -/
def prts (row : Nat) (l : List (List Int)) : Nat → List (List Int) := fun i => l.filter fun a => a.getD row 0 == (i : Int) - 1
theorem prts_step {row : Nat} {l : List (List Int)} {k i : Nat} {x : List Int} (hx : l[k]? = some x) (hi : x.getD row 0 = (i : Int) - 1) : prts row (l.take (k + 1)) = setF (prts row (l.take k)) i (prts row (l.take k) i ++ [x]) := by
  obtain ⟨hlt, rfl⟩ := List.getElem?_eq_some_iff.1 hx
  funext j
  unfold prts setF
  rw [List.take_succ_eq_append_getElem hlt, List.filter_append]
  by_cases hji : j = i
  · subst hji
    rw [if_pos rfl]
    simp only [List.filter_cons, hi, beq_self_eq_true, if_true, List.filter_nil]
  · rw [if_neg hji]
    have : (l[k].getD row 0 == (j : Int) - 1) = false := by
      rw [hi]; simp; omega
    simp only [List.filter_cons, this, List.filter_nil]
    simp
end
theorem bk_news {w : World} {b : Nat} {t : TypeId} {l : List Value} (h : Bk w b t l.toArray) : ∀ j u, l[j]? = some u → w.cell? ((⟨b, 0, none⟩ : Addr).add j) = some u := fun j u hu => by
  rw [addr_add, Nat.zero_add, h.cell]; simpa using hu
/-- The worlds within a round of the loop that deals the answers out. -/
def T107 (w0 : World) (bP b11 base i : Nat) (A : Nat → Option Addr) (c : Nat → Nat) (S : Nat → List (List Int)) (x : List Int) : Nat → World → Prop
  | 0, w => Ext w0 w
  | 1, w => Below base w0 w ∧ Bk w b11 105 (ivs x).toArray
  | _ + 2, w => (∃ A' c', Bk w bP 157 (prt (setF A i A') (setF c i c') (setF S i (S i ++ [x]))) ∧ Parts w base (setF A i A') (setF c i c') (setF S i (S i ++ [x]))) ∧ Cg bP bP bP base w0 w ∧ Bk w b11 105 (ivs x).toArray
section
variable {w0 : World} {bP b11 base i : Nat} {A : Nat → Option Addr} {c : Nat → Nat} {S : Nat → List (List Int)} {x : List Int}
theorem T107_ext (hb : base ≤ w0.heap.size) : ∀ k a b, T107 w0 bP b11 base i A c S x k a → Ext a b → T107 w0 bP b11 base i A c S x k b
  | 0, _, _, h, g => Ext.trans h g
  | 1, _, _, ⟨h1, h2⟩, g => ⟨h1.trans ((below_of_ext g).mono (Nat.le_trans hb h1.size)), h2.ext g⟩
  | _ + 2, _, _, ⟨⟨A', c', h1, h2⟩, h3, h4⟩, g => ⟨⟨A', c', h1.ext g, h2.ext g⟩, h3.ext g, h4.ext g⟩
theorem T107_b11 {k : Nat} {w : World} (hb : Bk w0 b11 105 (ivs x).toArray) (h : T107 w0 bP b11 base i A c S x k w) : Bk w b11 105 (ivs x).toArray := by
  match k, h with
  | 0, h => exact hb.ext h
  | 1, h => exact h.2
  | _ + 2, h => exact h.2.2
theorem T107_0 {k : Nat} {w : World} (h : T107 w0 bP b11 base i A c S x k w) (hk : k = 0) : Ext w0 w := by subst hk; exact h
theorem T107_1 {k : Nat} {w : World} (h : T107 w0 bP b11 base i A c S x k w) (hk : k = 1) : Below base w0 w ∧ Bk w b11 105 (ivs x).toArray := by subst hk; exact h
theorem T107_app {wR w1 w2 : World} {A' : Option Addr} {c' : Nat} (hR : Parts wR base A c S) (hi : i < 4) (hn : wR.heap.size ≤ b11) (hb : Bk w0 b11 105 (ivs x).toArray) (hbase : base ≤ w0.heap.size) (g0 : Ext w0 w1)
    (hown : OwnS w1 base 105 7 (A i) (S i).length (c i) (flat ivs (S i))) (g : w1.grownBy w2 (Value.ownBlock (.slice (A i) (S i).length (c i)))) : T107 w0 bP b11 base i A c S x 1 w2 :=
  ⟨((below_of_ext g0).mono hbase).trans (below_row hown (Nat.le_trans hbase g0.size) (Nat.le_refl _) g), Bk.row (hR.own i hi) (hb.ext g0) hn g⟩
theorem T107_set {w1 w2 : World} {A' : Option Addr} {c' : Nat} (hbase : base ≤ w0.heap.size) (hP : bP < base) (hne : b11 ≠ bP) (h : Below base w0 w1 ∧ Bk w1 b11 105 (ivs x).toArray) (hp : Parts w1 base (setF A i A') (setF c i c') (setF S i (S i ++ [x])))
    (hs : SetB w1 w2 bP 157 (prt (setF A i A') (setF c i c') (setF S i (S i ++ [x])))) : T107 w0 bP b11 base i A c S x 2 w2 :=
  ⟨⟨A', c', hs.bk, hp.upd hs.gr hP⟩, ((Cg.refl hbase).bw h.1 (Nat.le_refl _)).upd hs.gr (.inr (.inl rfl)), h.2.upd hs.gr hne⟩
end
section
variable {P : Program} {a : Act} {w : World} {dst : Option Tmp} {ty : TypeId} {pos : String} {aft : Array Edge} {g : Option (Nat × Bool)}
/-- An element of an array of one-cell elements. -/
theorem x_index1 {t e : TypeId} {x y : Operand} {n k : Nat} {cs : Array Value} {i : Int} {v : Value} (ht : P.underlying t = some (.array n e)) (he : One P e) (hx : a.eval x = .agg cs) (hy : a.eval y = .int .i64 i) (hi : i = k) (hk : k < n) (hv : cs[k]? = some v) :
    Ex1 P ⟨dst, .index t x y, ty, pos, aft, g⟩ a w (fun u w' => u = v ∧ w' = w) := by
  refine ex1_v (S := Instr.index t (.agg cs) (.int .i64 i)) (by simp only [execOp, hx, hy]) ?_
  subst hi
  obtain ⟨h1, h2⟩ := he
  cases hinf : P.info? e with
  | none => simp [hinf] at h2
  | some inf =>
    have hs : inf.size = 1 := by simpa [hinf] using h2
    have hk' : (k : Int) < n := by omega
    cases hu : P.underlying e with
    | none => simp [hu] at h1
    | some d => cases d <;> simp [hu] at h1 <;> simp [Instr.index, asIntOf, underlying, program, Sem.run, ht, hk', sizeOf, typeInfo, hinf, hs, part, isAgg, hu, hv] <;> (intro hh; omega)
end
end Go.Proofs.Ythogdgkafaclaaa
end
section
namespace Go.Proofs.Ythogdgkafaclaaa
open Go.RowKit
/-- The answers agree in what is said. -/
def agree (ans a : List Int) : Bool := (List.range 7).all fun i => ans.getD i 0 == -2 || a.getD i 0 == ans.getD i 0
def filt (T : List (List Int)) (ans : List Int) : List (List Int) := T.filter (agree ans)
theorem agree_iff {ans a : List Int} : agree ans a = true ↔ ∀ i, i < 7 → ans.getD i 0 = -2 ∨ a.getD i 0 = ans.getD i 0 := by
  simp [agree, List.all_eq_true]
theorem getD_set_eq {l : List Int} {i : Nat} {v : Int} (h : i < l.length) : (l.set i v).getD i 0 = v := by simp [List.getElem?_set, h]
theorem getD_set_ne2 {l : List Int} {i j : Nat} {v : Int} (h : j ≠ i) : (l.set i v).getD j 0 = l.getD j 0 := by
  simp [List.getElem?_set, Ne.symm h]
theorem agree_set {ans a : List Int} {row : Nat} {v : Int} (hl : ans.length = 7) (hr : row < 7) (hm : ans.getD row 0 = -2) (hv : v ≠ -2) : agree (ans.set row v) a = (agree ans a && a.getD row 0 == v) := by
  rw [Bool.eq_iff_iff, Bool.and_eq_true, agree_iff, agree_iff, beq_iff_eq]
  constructor
  · intro h
    refine ⟨fun i hi => ?_, ?_⟩
    · by_cases hir : i = row
      · subst hir; exact .inl hm
      · have := h i hi; rwa [getD_set_ne2 hir] at this
    · have := h row hr
      rw [getD_set_eq (by omega)] at this
      rcases this with h1 | h1
      · exact absurd h1 hv
      · exact h1
  · rintro ⟨h, h2⟩ i hi
    by_cases hir : i = row
    · subst hir; rw [getD_set_eq (by omega)]; exact .inr h2
    · rw [getD_set_ne2 hir]; exact h i hi
theorem filt_set {T : List (List Int)} {ans : List Int} {row : Nat} {v : Int} (hl : ans.length = 7) (hr : row < 7) (hm : ans.getD row 0 = -2) (hv : v ≠ -2) : filt T (ans.set row v) = (filt T ans).filter (fun a => a.getD row 0 == v) := by
  unfold filt
  rw [List.filter_filter]
  congr 1
  funext a
  rw [agree_set hl hr hm hv, Bool.and_comm]
theorem prts_filt {T : List (List Int)} {ans : List Int} {row : Nat} (hl : ans.length = 7) (hr : row < 7) (hm : ans.getD row 0 = -2) (i : Nat) : prts row (filt T ans) i = filt T (ans.set row ((i : Int) - 1)) := by
  rw [filt_set hl hr hm (by omega)]; rfl
/-- How many rows have not been asked about. -/
def unask (f : Fld) (ans : List Int) : Nat := (List.range f.rows.toNat).countP fun i => ans.getD i 0 == -2
theorem countP_one {p q : Nat → Bool} {r : Nat} (hp : p r = true) (hq : q r = false) (he : ∀ i, i ≠ r → q i = p i) : ∀ n, (r < n → (List.range n).countP q + 1 = (List.range n).countP p) ∧ (n ≤ r → (List.range n).countP q = (List.range n).countP p)
  | 0 => ⟨fun h => absurd h (by omega), fun _ => rfl⟩
  | n + 1 => by
    obtain ⟨h1, h2⟩ := countP_one hp hq he n
    rw [List.range_succ, List.countP_append, List.countP_append]
    simp only [List.countP_singleton]
    constructor
    · intro h
      rcases Nat.lt_or_ge r n with hr | hr
      · have := h1 hr
        rw [he n (by omega)]; omega
      · obtain rfl : n = r := by omega
        have := h2 (Nat.le_refl _)
        rw [hp, hq, this]; simp
    · intro h
      have := h2 (by omega)
      rw [he n (by omega), this]
theorem unask_set {f : Fld} {ans : List Int} {row : Nat} {v : Int} (hl : ans.length = 7) (hr : row < f.rows.toNat) (h7 : f.rows ≤ 7) (hm : ans.getD row 0 = -2) (hv : v ≠ -2) : unask f (ans.set row v) + 1 = unask f ans := by
  refine (countP_one (r := row) (by rw [hm]; rfl) ?_ (fun i hi => ?_) f.rows.toNat).1 hr
  · rw [getD_set_eq (by omega)]; simpa using hv
  · rw [getD_set_ne2 hi]
/-- The most questions left behind a row. -/
def wst (g : List Int → Int × Int) (T : List (List Int)) (ans : List Int) (row : Nat) (k : Nat) : Int :=
  (List.range k).foldl (fun (m : Int) (i : Nat) => if filt T (ans.set row ((i : Int) - 1)) = [] then m else max m (g (ans.set row ((i : Int) - 1))).2) 0
/-- The loop over the rows. -/
def qlp (f : Fld) (g : Nat → Int) (ans : List Int) (k : Nat) : Int × Int :=
  (List.range k).foldl (fun r i => if ans.getD i 0 = -2 then (if 1 + g i < r.2 then ((i : Int), 1 + g i) else r) else r) (-1, f.rows + 1)
def qst (f : Fld) (n : Int) (T : List (List Int)) : Nat → List Int → Int × Int
  | 0, ans => if (filt T ans).all (sameD f n (filt T ans)) then (-1, 0) else (-1, f.rows + 1)
  | k + 1, ans => if (filt T ans).all (sameD f n (filt T ans)) then (-1, 0) else qlp f (fun i => wst (qst f n T k) T ans i 4) ans f.rows.toNat
theorem range_fold {α : Type} (g : α → Nat → α) (z : α) (k : Nat) : (List.range (k + 1)).foldl g z = g ((List.range k).foldl g z) k := by
  rw [List.range_succ, List.foldl_append]; rfl
theorem wst_succ (g : List Int → Int × Int) (T : List (List Int)) (ans : List Int) (row k : Nat) : wst g T ans row (k + 1) = if filt T (ans.set row ((k : Int) - 1)) = [] then wst g T ans row k else max (wst g T ans row k) (g (ans.set row ((k : Int) - 1))).2 := range_fold _ _ _
theorem qlp_succ (f : Fld) (g : Nat → Int) (ans : List Int) (k : Nat) : qlp f g ans (k + 1) = if ans.getD k 0 = -2 then (if 1 + g k < (qlp f g ans k).2 then ((k : Int), 1 + g k) else qlp f g ans k) else qlp f g ans k := range_fold _ _ _
theorem qlp_none (f : Fld) (g : Nat → Int) (ans : List Int) (h : unask f ans = 0) : ∀ k, k ≤ f.rows.toNat → qlp f g ans k = (-1, f.rows + 1)
  | 0, _ => rfl
  | k + 1, hk => by
    rw [qlp_succ, qlp_none f g ans h k (by omega), if_neg]
    intro hm
    unfold unask at h
    rw [List.countP_eq_zero] at h
    exact h k (by simp; omega) (by rw [hm]; rfl)
/-- What is known is right. -/
def KnownOk (f : Fld) (n : Int) (T : List (List Int)) (L : List (List Int × Int)) : Prop := ∀ key v, mget L key = some v → v = (qst f n T (unask f key) key).2
theorem known_nil (f : Fld) (n : Int) (T : List (List Int)) : KnownOk f n T [] := by intro key v h; simp [mget] at h
theorem known_put {f : Fld} {n : Int} {T : List (List Int)} {L : List (List Int × Int)} (h : KnownOk f n T L) (key : List Int) : KnownOk f n T (mput L key (qst f n T (unask f key) key).2) := by
  intro k v hk
  rw [mget_mput] at hk
  split at hk
  · rename_i e; rw [e]; exact (Option.some.inj hk).symm
  · exact h k v hk
theorem bk_nm {w : World} {b r n : Nat} {t : TypeId} {cs : Array Value} {L : List (List Int × Int)} (h : Bk w b t cs) (hm : MapF w r n L) : b ≠ r := by
  rintro rfl
  obtain ⟨es, clock, hm, _⟩ := hm
  rw [show w.heap[b]? = _ from h] at hm
  simp at hm
theorem own_nm {w : World} {base e sz n c r m : Nat} {A : Option Addr} {xs : List Value} {L : List (List Int × Int)} (h : OwnS w base e sz A n c xs) (hm : MapF w r m L) : ∀ o, A ≠ some ⟨r, o, none⟩ := fun o hA => by
  obtain ⟨_, _, cur, hc⟩ := h.blk hA
  obtain ⟨es, clock, hm, _⟩ := hm
  rw [hc] at hm
  simp at hm
theorem filt_len {T : List (List Int)} {ans : List Int} (h : ∀ x ∈ T, x.length = 7) : ∀ x ∈ filt T ans, x.length = 7 := fun x hx => h x (List.mem_filter.1 hx).1
theorem filt_le {T : List (List Int)} {ans : List Int} : (filt T ans).length ≤ T.length := List.length_filter_le _ _
end Go.Proofs.Ythogdgkafaclaaa
namespace Go.Proofs.Ythogdgkafaclaaa
/-- The most questions left behind the i-th row; nothing if no row is left. -/
def gW (f : Fld) (n : Int) (T : List (List Int)) (ans : List Int) : Nat → Nat → Int
  | 0 => fun _ => 0
  | k + 1 => fun i => wst (qst f n T k) T ans i 4
theorem qst_eq {f : Fld} {n : Int} {T : List (List Int)} {ans : List Int} {k : Nat} (h : unask f ans = k) : qst f n T k ans = if (filt T ans).all (sameD f n (filt T ans)) then (-1, 0) else qlp f (gW f n T ans k) ans f.rows.toNat := by
  cases k with
  | zero =>
    rw [qlp_none f _ ans h f.rows.toNat (Nat.le_refl _)]
    rfl
  | succ k => rfl
theorem unask_pos {f : Fld} {ans : List Int} {i : Nat} (hi : i < f.rows.toNat) (hm : ans.getD i 0 = -2) : 0 < unask f ans := by
  unfold unask
  rw [List.countP_pos_iff]
  exact ⟨i, by simpa using hi, by rw [hm]; rfl⟩
theorem qlp_bd (f : Fld) (g : Nat → Int) (ans : List Int) : ∀ (k : Nat), (k : Int) ≤ f.rows → -1 ≤ (qlp f g ans k).1 ∧ (qlp f g ans k).1 ≤ k ∧ (qlp f g ans k).2 ≤ f.rows + 1
  | 0, _ => by simp [qlp]
  | k + 1, h => by
    have ih := qlp_bd f g ans k (by omega)
    rw [qlp_succ]
    split
    · split
      · rename_i h1
        refine ⟨?_, ?_, ?_⟩ <;> simp only [] <;> omega
      · omega
    · omega
theorem qst_lo (f : Fld) (n : Int) (T : List (List Int)) (hr : 0 ≤ f.rows) : ∀ k ans, 0 ≤ (qst f n T k ans).2 ∧ (qst f n T k ans).2 ≤ f.rows + 1
  | 0, ans => by unfold qst; split <;> simp <;> omega
  | k + 1, ans => by
    unfold qst
    split
    · simp; omega
    · have key : ∀ m, m ≤ f.rows.toNat → 0 ≤ (qlp f (fun i => wst (qst f n T k) T ans i 4) ans m).2 := by
        intro m
        induction m with
        | zero => intro _; simp [qlp]; omega
        | succ m ih =>
          intro hm
          have := ih (by omega)
          rw [qlp_succ]
          split
          · split
            · have hw : 0 ≤ wst (qst f n T k) T ans m 4 := by
                have : ∀ j, 0 ≤ wst (qst f n T k) T ans m j := by
                  intro j
                  induction j with
                  | zero => simp [wst]
                  | succ j ihj => rw [wst_succ]; split <;> omega
                exact this 4
              simp only []; omega
            · exact this
          · exact this
      exact ⟨key _ (Nat.le_refl _), (qlp_bd f _ ans _ (by omega)).2.2⟩
theorem wst_bd (f : Fld) (n : Int) (T : List (List Int)) (hr : 0 ≤ f.rows) (k : Nat) (ans : List Int) (i : Nat) : ∀ j, 0 ≤ wst (qst f n T k) T ans i j ∧ wst (qst f n T k) T ans i j ≤ f.rows + 1
  | 0 => by simp [wst]; omega
  | j + 1 => by
    have ih := wst_bd f n T hr k ans i j
    have := qst_lo f n T hr k (ans.set i ((j : Int) - 1))
    rw [wst_succ]; split <;> omega
end Go.Proofs.Ythogdgkafaclaaa
end
section
set_option linter.unusedVariables false
set_option linter.unusedSimpArgs false
namespace Go.Proofs.Ythogdgkafaclaaa
open Go.RowKit
attribute [local irreducible] Ex1 WL CC CW LV Ret ObOp Agg One Own
def Qs (f : Fld) (A : Option Addr) (c : Nat) (n : Int) (q qz r : Nat) (sv : Value) (k : Nat) : Prop := ∀ (ans : List Int) (B : Option Addr) (d : Nat) (L : List (List Int × Int)) (w : World), (unask f ans = k) → (ans.length = 7) → ((filt (truths f []) ans) ≠ []) → (KnownOk f n (truths f []) L) → Bk w qz 114 #[pt q 0, I n, .map (some r)] → Bk w q 102 #[I f.rows, I f.wd, I f.lo, I f.hi, .slice A f.ts.length c, sv] → OwnS w 0 105 7 B ((filt (truths f []) ans).length) d (flat ivs (filt (truths f []) ans)) → MapF w r 7 L → Ret Try.prog 78 #[.pointer (some ⟨qz, 0, none⟩), .slice B ((filt (truths f []) ans).length) d, ansV ans] w (fun v w' => v = .tuple #[.int .i64 (qst f n (truths f []) k ans).1, .int .i64 (qst f n (truths f []) k ans).2] ∧ Upd r w w' ∧ ∃ L2, MapF w' r 7 L2 ∧ KnownOk f n (truths f []) L2)
def Ws (f : Fld) (A : Option Addr) (c : Nat) (n : Int) (q qz r : Nat) (sv : Value) (k : Nat) : Prop := ∀ (ans : List Int) (B : Option Addr) (d : Nat) (L : List (List Int × Int)) (row : Nat) (w : World), (unask f ans = k + 1) → (ans.length = 7) → ((filt (truths f []) ans) ≠ []) → (row < f.rows.toNat) → (ans.getD row 0 = -2) → (KnownOk f n (truths f []) L) → Bk w qz 114 #[pt q 0, I n, .map (some r)] → Bk w q 102 #[I f.rows, I f.wd, I f.lo, I f.hi, .slice A f.ts.length c, sv] → OwnS w 0 105 7 B ((filt (truths f []) ans).length) d (flat ivs (filt (truths f []) ans)) → MapF w r 7 L → Ret Try.prog 107 #[.pointer (some ⟨qz, 0, none⟩), .slice B ((filt (truths f []) ans).length) d, ansV ans, .int .i64 (row : Int)] w (fun v w' => v = .int .i64 (wst (qst f n (truths f []) k) (truths f []) ans row 4) ∧ Upd r w w' ∧ ∃ L2, MapF w' r 7 L2 ∧ KnownOk f n (truths f []) L2)
theorem c107s (f : Fld) (A : Option Addr) (c : Nat) (n : Int) (q qz r : Nat) (sv : Value) (k : Nat) (ih : Qs f A c n q qz r sv k) (ans : List Int) (B : Option Addr) (d : Nat) (L : List (List Int × Int)) (row : Nat) (w : World) (hr0 : 1 ≤ f.rows) (hr1 : f.rows ≤ 7) (hw0 : 1 ≤ f.wd) (hw1 : f.wd ≤ 3) (hun : unask f ans = k + 1) (ha7 : ans.length = 7) (hne0 : (filt (truths f []) ans) ≠ []) (hrow : row < f.rows.toNat) (hmr : ans.getD row 0 = -2) (hKn : KnownOk f n (truths f []) L) (hqz : Bk w qz 114 #[pt q 0, I n, .map (some r)]) (hq : Bk w q 102 #[I f.rows, I f.wd, I f.lo, I f.hi, .slice A f.ts.length c, sv]) (hl : OwnS w 0 105 7 B ((filt (truths f []) ans).length) d (flat ivs (filt (truths f []) ans))) (mpr : MapF w r 7 L) :
    Ret Try.prog 107 #[pt qz 0, .slice B ((filt (truths f []) ans).length) d, ansV ans, I ((row : Nat) : Int)] w (fun v w' => v = .int .i64 (wst (qst f n (truths f []) k) (truths f []) ans row 4) ∧ Upd r w w' ∧ ∃ L2, MapF w' r 7 L2 ∧ KnownOk f n (truths f []) L2) := by
  have hqzl := hqz.lt
  have hql := hq.lt
  have hrl : r < w.heap.size := mpr.lt
  have hltB : ∀ k o, B = some ⟨k, o, none⟩ → k < w.heap.size := fun k o hA => (hl.blk hA).2.1
  have h7 := truths_len (f := f) (out := []) (by omega)
  have h7l := filt_len (ans := ans) h7
  have hcnt := truths_count (f := f) (out := []) (by omega) (by omega)
  have hfl := filt_le (T := truths f []) (ans := ans)
  have hneB := own_nm hl mpr
  have hnqz := bk_nm hqz mpr
  have hnq := bk_nm hq mpr
  refine ret_of_cc (N := 78) Try.func107 rfl rfl (by simp) ?_
  intro fr0 ha hdf
  have hp0 := sl_arg (i := 0) (v := pt qz 0) ha rfl
  have hp1 := sl_arg (i := 1) (v := .slice B ((filt (truths f []) ans).length) d) ha rfl
  have hp2 := sl_arg (i := 2) (v := ansV ans) ha rfl
  have hp3 := sl_arg (i := 3) (v := I ((row : Nat) : Int)) ha rfl
  clear ha
  refine cc_seq <| cc_region <| we rfl (fun st => x_box (v := ansV ans) (cs := (ivs ans).toArray) (ee st hp2) rfl) ?_
  rintro _ w1 ⟨b1, rfl, nb1⟩
  have lo1 : w.heap.size ≤ b1 := by rw [nb1.b_eq]; exact (show Upd r w w from World.grownBy.refl w _).size
  refine wa rfl (v := I 0) rfl <| wl_end <| lv_next <| cc_seq <| cc_region <| we rfl (fun st => x_alloc (cs := #[.slice none 0 0, .slice none 0 0, .slice none 0 0, .slice none 0 0]) zero_157 rfl) ?_
  rintro _ w2 ⟨b2, rfl, nb2⟩
  have hB_w1 : Upd r w w1 := (up_ext (show Upd r w w from World.grownBy.refl w _) nb1.gr)
  have lo2 : w.heap.size ≤ b2 := by rw [nb2.b_eq]; exact hB_w1.size
  have ltb1_2 : b1 < b2 := by rw [nb2.b_eq]; exact nb1.bk.lt
  refine wl_end ?_
  have hP0 : Bk w2 b2 157 (prtL (fun _ => none) (fun _ => 0) (fun _ => [])).toArray := nb2.bk
  refine lv_next <| cc_seq <| cc_seq <| cc_region <| wm rfl (v := .slice B ((filt (truths f []) ans).length) d) hp1 <| wd rfl (fun st => x_len Try.underlying100 (ee st rfl)) <| wm rfl (v := I 0) rfl <| wl_end <| lv_next <| cc_block ?_
  obtain ⟨NB, hqNB⟩ : ∃ n, n = w2.heap.size := ⟨_, rfl⟩
  have hB_w2 : Upd r w w2 := (up_ext hB_w1 nb2.gr)
  have hnNB : w.heap.size ≤ NB := by rw [hqNB]; exact hB_w2.size
  have bk1_w2 := (nb1.bk.ext nb2.gr)
  have hnNB_b1 : b1 < NB := by rw [hqNB]; exact bk1_w2.lt
  have hnNB_b2 : b2 < NB := by rw [hqNB]; exact hP0.lt
  have hsNB : NB ≤ w2.heap.size := by omega
  have hqz_w2 := ((hqz.ext nb1.gr).ext nb2.gr)
  have hq_w2 := ((hq.ext nb1.gr).ext nb2.gr)
  have hl_w2 := ((hl.ext nb1.gr).ext nb2.gr)
  have mpr_w2 := ((mpr.ext nb1.gr).ext nb2.gr)
  refine cc_loop (fun (m_ : Nat) (fr_ : Act) (w_ : World) => ∃ (j : Nat), ∃ (A2 : Nat → Option Addr), ∃ (c2 : Nat → Nat), m_ = (filt (truths f []) ans).length - j ∧ (j ≤ (filt (truths f []) ans).length) ∧ fr_.tmps.size = 78 ∧ fr_.defers = [] ∧ sl fr_ 0 = pt qz 0 ∧ sl fr_ 1 = .slice B ((filt (truths f []) ans).length) d ∧ sl fr_ 2 = ansV ans ∧ sl fr_ 3 = I ((row : Nat) : Int) ∧ sl fr_ 6 = pt b1 0 ∧ sl fr_ 8 = I 0 ∧ sl fr_ 9 = pt b2 0 ∧ sl fr_ 16 = .slice B ((filt (truths f []) ans).length) d ∧ sl fr_ 17 = I (((filt (truths f []) ans).length : Nat) : Int) ∧ sl fr_ 18 = I ((j : Nat) : Int) ∧ Upd r w w_ ∧ Bk w_ qz 114 #[pt q 0, I n, .map (some r)] ∧ Bk w_ q 102 #[I f.rows, I f.wd, I f.lo, I f.hi, .slice A f.ts.length c, sv] ∧ OwnS w_ 0 105 7 B ((filt (truths f []) ans).length) d (flat ivs (filt (truths f []) ans)) ∧ MapF w_ r 7 L ∧ Bk w_ b1 105 ((ivs ans).toArray) ∧ Bk w_ b2 157 ((prtL A2 c2 (prts row ((filt (truths f []) ans).take j))).toArray) ∧ NB ≤ w_.heap.size ∧ Parts w_ NB A2 c2 (prts row ((filt (truths f []) ans).take j))) ((filt (truths f []) ans).length - 0) ?init3 ?round3
  case init3 =>
    intro st
    exact ⟨0, (fun _ => none), (fun _ => 0), rfl, by omega, (puts_size _ _).trans st.sz, (puts_defers _ _).trans st.df, (sl_puts st 0).trans hp0, (sl_puts st 1).trans hp1, (sl_puts st 2).trans hp2, (sl_puts st 3).trans hp3, (sl_puts st 6).trans rfl, (sl_puts st 8).trans rfl, (sl_puts st 9).trans rfl, (sl_puts st 16).trans rfl, (sl_puts st 17).trans rfl, (sl_puts st 18).trans (vint (by omega)), hB_w2, hqz_w2, hq_w2, hl_w2, mpr_w2, bk1_w2, hP0, hsNB, (Parts.nil _ _)⟩
  case round3 =>
    rintro m_ fr3 w3 ⟨j, A2, c2, rfl, hj, hsz3, hdf3, hs3_0, hs3_1, hs3_2, hs3_3, hs3_6, hs3_8, hs3_9, hs3_16, hs3_17, hs3_18, hB_w3, hqz_w3, hq_w3, hl_w3, mpr_w3, bk1_w3, bk2_w3, hsNB_w3, hPt_w3⟩
    refine round_cc (N := 78) hsz3 hdf3 ?_
    obtain ⟨MB, hqMB⟩ : ∃ n, n = w3.heap.size := ⟨_, rfl⟩
    have hnMB : w.heap.size ≤ MB := by rw [hqMB]; exact hB_w3.size
    have hnMB_b1 : b1 < MB := by rw [hqMB]; exact bk1_w3.lt
    have hnMB_b2 : b2 < MB := by rw [hqMB]; exact bk2_w3.lt
    have hnMB_hsNB : NB ≤ MB := by rw [hqMB]; exact hsNB_w3
    have hsMB : MB ≤ w3.heap.size := by omega
    have hPM : ∀ i, i < 4 → ∀ k o, A2 i = some ⟨k, o, none⟩ → k < MB := fun i hi k o hA => by rw [hqMB]; exact hPt_w3.lt i hi k o hA
    have hPR := hPt_w3
    refine cc_seq <| cc_region <| wd rfl (fun st => x_lss (ee st hs3_18) (ee st hs3_17)) <| wl_end <| lv_next <| cc_seq ?_
    rcases bool_cases (decide (((j : Nat) : Int) < (((filt (truths f []) ans).length : Nat) : Int))) with hc4 | hc4
    · refine cc_cond_t rfl hc4 ?_
      have hc4p := hc4
      have hc4p := of_decide_eq_true hc4p
      refine cc_skip <| lv_next <| cc_seq <| cc_block <| cc_seq <| cc_region ?_
      obtain ⟨bq5, oq5, hA5, -, -, -⟩ := Rd.elem7 h7l hl_w3.rd (k := j) (by omega)
      obtain ⟨x6, hx6⟩ : ∃ x, ((filt (truths f []) ans))[j]? = some x := ⟨_, List.getElem?_eq_getElem (by omega)⟩
      refine wd rfl (fun st => x_indexAddrN (k := j) Try.underlying100 sz_105 (ee st hs3_16) hA5 (ee st hs3_18) rfl (by omega)) <| wd rfl (fun st => x_load_rdn (l := ivs x6) agg_105 (ee st rfl) (hl_w3.rd.cells hA5) (flat7_at h7l hx6) (by rw [ivs_len]; exact (h7l x6 (List.mem_of_getElem? hx6)))) <| we rfl (fun st => x_alloc (cs := #[I 0, I 0, I 0, I 0, I 0, I 0, I 0]) zero_105 rfl) ?_
      rintro _ w7 ⟨b7, rfl, nb7⟩
      have lo7 : w.heap.size ≤ b7 := by rw [nb7.b_eq]; exact hB_w3.size
      have lNB_7 : NB ≤ b7 := by rw [nb7.b_eq]; exact hsNB_w3
      have lMB_7 : MB ≤ b7 := by rw [nb7.b_eq]; exact hsMB
      have ltb1_7 : b1 < b7 := by rw [nb7.b_eq]; exact bk1_w3.lt
      have ltb2_7 : b2 < b7 := by rw [nb7.b_eq]; exact bk2_w3.lt
      refine wl_ex0 rfl rfl (fun st => x_store_all (n := 7) (cs' := (ivs x6).toArray) (ee st rfl) (ee st rfl) sz_105 nb7.bk rfl (by simp [ivs, (h7l x6 (List.mem_of_getElem? hx6))]) rfl (one_ivs x6)) ?_
      rintro _ w8 sb8
      refine wl_end <| lv_next ?_
      have hxb := truths_bd (f := f) (out := []) (by omega) x6 (List.mem_filter.1 (List.mem_of_getElem? hx6)).1 row hrow
      obtain ⟨i9, hi9, hi4⟩ : ∃ i : Nat, x6.getD row 0 + 1 = (i : Int) ∧ i < 4 := ⟨(x6.getD row 0 + 1).toNat, by omega, by omega⟩
      have hx7 : x6.length = 7 := h7l x6 (List.mem_of_getElem? hx6)
      have hpl : ((prts row ((filt (truths f []) ans).take j)) i9).length ≤ (filt (truths f []) ans).length := Nat.le_trans (List.length_filter_le _ _) (List.length_take_le' _ _)
      have bk2_w8 := ((bk2_w3.ext nb7.gr).upd sb8.gr (by omega))
      have hPt_w8 := ((hPt_w3.ext nb7.gr).updx sb8.gr hPM (by omega))
      have hsNB_w8 := (Nat.le_trans (Nat.le_trans hsNB_w3 nb7.gr.size) sb8.gr.size)
      refine cc_anys (T107 w8 b2 b7 NB i9 A2 c2 (prts row ((filt (truths f []) ans).take j)) x6) [12, 14] [Kc (I ((row : Nat) : Int)), Kc (pt b7 row), Kc (I (x6.getD row 0)), Kc (I ((x6.getD row 0) + 1)), Kc (I ((row : Nat) : Int)), Kc (pt b7 row), Kc (I (x6.getD row 0)), Kc (I ((x6.getD row 0) + 1)), Kc (pt b2 i9), Kc (.slice (A2 i9) (((prts row ((filt (truths f []) ans).take j)) i9).length) (c2 i9)), Kc (ansV x6), Kn w8.heap.size (fun b => .slice (some ⟨b, 0, none⟩) 1 1) 105 (ivs x6).toArray, ⟨fun v w_ => ∃ A5 c5, v = .slice A5 (((prts row ((filt (truths f []) ans).take j)) i9).length + 1) c5 ∧ Parts w_ NB (setF A2 i9 A5) (setF c2 i9 c5) (setF (prts row ((filt (truths f []) ans).take j)) i9 ((prts row ((filt (truths f []) ans).take j)) i9 ++ [x6])), fun _ _ _ ⟨A5, c5, h1, h2⟩ g => ⟨A5, c5, h1, h2.ext g⟩⟩, Kc (pt b2 i9), Kt] mixed rfl
          (T107_ext hsNB_w8) (ext_drew _)
          (obs_cons (ob_det rfl rfl (fun _ => rfl) (fun a' w' ph K => x_move (v := I ((row : Nat) : Int)) (es (t := 3) (v := I ((row : Nat) : Int)) ((K.out 3 rfl).trans hs3_3))))
          (obs_cons (ob_det rfl rfl (fun _ => rfl) (fun a' w' ph K => x_indexAddrA1 (k := row) Try.underlying105 sz_3 (es (t := 11) (v := pt b7 0) ((K.out 11 rfl).trans rfl)) (es (t := 22) (v := I ((row : Nat) : Int)) (K.dep 0 22 rfl rfl)) rfl (by omega)))
          (obs_cons (ob_det rfl rfl (fun _ => rfl) (fun a' w' ph K => x_load1 (v := .int .i64 (x6.getD row 0)) one_3 (es (t := 23) (v := pt b7 row) (K.dep 1 23 rfl rfl)) (T107_b11 sb8.bk K.phT) (ivs_getL x6 row (by rw [(h7l x6 (List.mem_of_getElem? hx6))]; omega))))
          (obs_cons (ob_det rfl rfl (fun _ => rfl) (fun a' w' ph K => x_add (es (t := 24) (v := I (x6.getD row 0)) (K.dep 2 24 rfl rfl)) (ec (v := I 1)) ⟨by omega, by omega⟩))
          (obs_cons (ob_det rfl rfl (fun _ => rfl) (fun a' w' ph K => x_move (v := I ((row : Nat) : Int)) (es (t := 3) (v := I ((row : Nat) : Int)) ((K.out 3 rfl).trans hs3_3))))
          (obs_cons (ob_det rfl rfl (fun _ => rfl) (fun a' w' ph K => x_indexAddrA1 (k := row) Try.underlying105 sz_3 (es (t := 11) (v := pt b7 0) ((K.out 11 rfl).trans rfl)) (es (t := 26) (v := I ((row : Nat) : Int)) (K.dep 4 26 rfl rfl)) rfl (by omega)))
          (obs_cons (ob_det rfl rfl (fun _ => rfl) (fun a' w' ph K => x_load1 (v := .int .i64 (x6.getD row 0)) one_3 (es (t := 27) (v := pt b7 row) (K.dep 5 27 rfl rfl)) (T107_b11 sb8.bk K.phT) (ivs_getL x6 row (by rw [(h7l x6 (List.mem_of_getElem? hx6))]; omega))))
          (obs_cons (ob_det rfl rfl (fun _ => rfl) (fun a' w' ph K => x_add (es (t := 28) (v := I (x6.getD row 0)) (K.dep 6 28 rfl rfl)) (ec (v := I 1)) ⟨by omega, by omega⟩))
          (obs_cons (ob_det rfl rfl (fun _ => rfl) (fun a' w' ph K => x_indexAddrA1 (k := i9) Try.underlying157 sz_100 (es (t := 9) (v := pt b2 0) ((K.out 9 rfl).trans hs3_9)) (es (t := 29) (v := I ((x6.getD row 0) + 1)) (K.dep 7 29 rfl rfl)) hi9 hi4))
          (obs_cons (ob_det rfl rfl (fun _ => rfl) (fun a' w' ph K => x_load1 (v := .slice (A2 i9) (((prts row ((filt (truths f []) ans).take j)) i9).length) (c2 i9)) one_100 (es (t := 30) (v := pt b2 i9) (K.dep 8 30 rfl rfl)) (bk2_w8.ext (T107_0 K.phT (Nat.le_zero.1 (K.lat 0 12 _ rfl rfl rfl)))) (prt_get A2 c2 (prts row ((filt (truths f []) ans).take j)) hi4)))
          (obs_cons (ob_det rfl rfl (fun _ => rfl) (fun a' w' ph K => x_load_all agg_105 (es (t := 11) (v := pt b7 0) ((K.out 11 rfl).trans rfl)) (T107_b11 sb8.bk K.phT) (by simp [ivs, (h7l x6 (List.mem_of_getElem? hx6))])))
          (obs_cons (ob_ext rfl rfl (fun a' w' ph K => (x_buildSlice (e := 105) (cs := (ivs x6).toArray) (pm1 (es (t := 32) (v := ansV x6) (K.dep 10 32 rfl rfl))) (bs_100 x6 (h7l x6 (List.mem_of_getElem? hx6)) _)).mono (fun u w'' hh => kn_mk ((T107_0 K.phT (Nat.le_zero.1 (K.lat 0 12 _ rfl rfl rfl)))).size hh)))
          (obs_cons (ob_spec rfl rfl (fun a' w' ph K => match K.dep 11 33 rfl rfl with | ⟨bb11, e11, l11, k11⟩ => (x_appendG Try.underlying100 info_105 rfl (by decide) (es (t := 31) (v := .slice (A2 i9) (((prts row ((filt (truths f []) ans).take j)) i9).length) (c2 i9)) (K.dep 9 31 rfl rfl)) (es (t := 33) (v := .slice (some ⟨bb11, 0, none⟩) 1 1) e11) ((hPt_w8.own i9 hi4).ext (T107_0 K.phT (K.spi 0 rfl))) (bk_news k11) (by rw [ivs_len]; omega) (one_ivs' x6) (by simp [maxLen]; omega) (by omega) (Nat.le_trans hsNB_w8 ((T107_0 K.phT (K.spi 0 rfl))).size)).mono (fun v w'' ⟨A5, c5, hv, hO2, hg, _, hf⟩ => ⟨⟨A5, c5, hv, (hPt_w8.ext (T107_0 K.phT (K.spi 0 rfl))).app hi4 hO2 hg hf⟩, sk_of ⟨fun _ _ h => h, fun _ _ h => h, fun _ _ h => h, fun _ _ h => h, fun _ _ h => h, fun _ _ h => h, fun _ _ h => h, fun _ _ h => h, fun _ _ h => h, fun _ _ h => h, fun _ _ h => h, fun _ _ ⟨b, h1, h2, h3⟩ => ⟨b, h1, h2, Bk.row (hPt_w8.own i9 hi4) h3 h2 hg⟩, fun h => absurd rfl h, fun _ _ h => h, fun _ _ h => h, trivial⟩, by have e := K.spi 0 rfl; subst e; exact T107_app (A' := A5) (c' := c5) hPR hi4 (by omega) sb8.bk hsNB_w8 (T107_0 K.phT (K.spi 0 rfl)) ((hPt_w8.own i9 hi4).ext (T107_0 K.phT (K.spi 0 rfl))) hg⟩)))
          (obs_cons (ob_det rfl rfl (fun _ => rfl) (fun a' w' ph K => match K.dep 11 33 rfl rfl with | ⟨bb11, e11, l11, k11⟩ => match K.dep 12 34 rfl rfl with | ⟨A5, c5, e12, k12⟩ => x_indexAddrA1 (k := i9) Try.underlying157 sz_100 (es (t := 9) (v := pt b2 0) ((K.out 9 rfl).trans hs3_9)) (es (t := 25) (v := I ((x6.getD row 0) + 1)) (K.dep 3 25 rfl rfl)) hi9 hi4))
          (obs_cons (ob_spec rfl rfl (fun a' w' ph K => match K.dep 11 33 rfl rfl with | ⟨bb11, e11, l11, k11⟩ => match K.dep 12 34 rfl rfl with | ⟨A5, c5, e12, k12⟩ => (x_store (n := 1) (l := [.slice A5 (((prts row ((filt (truths f []) ans).take j)) i9).length + 1) c5]) (es (t := 35) (v := pt b2 i9) (K.dep 13 35 rfl rfl)) (es (t := 34) (v := .slice A5 (((prts row ((filt (truths f []) ans).take j)) i9).length + 1) c5) e12) sz_100 (bk2_w8.bw (T107_1 K.phT (K.spi 1 rfl)).1 (by omega)) rfl rfl (by simp [prtL]; omega) (one_cells rfl) (prt_set A2 c2 (prts row ((filt (truths f []) ans).take j)) hi4 rfl)).mono (fun v w'' hs => ⟨trivial, sk_of ⟨fun _ _ h => h, fun _ _ h => h, fun _ _ h => h, fun _ _ h => h, fun _ _ h => h, fun _ _ h => h, fun _ _ h => h, fun _ _ h => h, fun _ _ h => h, fun _ _ h => h, fun _ _ h => h, fun _ _ ⟨b, h1, h2, h3⟩ => ⟨b, h1, h2, h3.upd hs.gr (by omega)⟩, fun _ _ ⟨A7, c7, h1, h2⟩ => ⟨A7, c7, h1, h2.upd hs.gr (by omega)⟩, fun _ _ h => h, fun h => absurd rfl h, trivial⟩, by have e := K.spi 1 rfl; subst e; exact T107_set hsNB_w8 (by omega) (by omega) (T107_1 K.phT (K.spi 1 rfl)) k12 hs⟩)))
          (obs_nil _)))))))))))))))) ?_
      intro w9 hx9
      rintro _ rfl _ rfl _ rfl _ rfl _ rfl _ rfl _ rfl _ rfl _ rfl _ rfl _ rfl _ ⟨bb11, rfl, lobb11, bkbb11⟩ _ ⟨A6, c6, rfl, hP6⟩ _ rfl
      obtain ⟨⟨A5, c5, hP9, hPt9⟩, hcg9, -⟩ := hx9
      refine lv_block <| lv_next <| cc_region <| wd rfl (fun st => x_add (ee st hs3_18) (ee st rfl) ⟨by omega, by omega⟩) <| wm rfl (v := I (((j : Nat) : Int) + 1)) rfl <| wl_end ?_
      have hB_w9 : Upd r w w9 := (up_cg (up_new (up_ext hB_w3 nb7.gr) sb8.gr (by omega)) hcg9 (by omega))
      have hqz_w9 := (((hqz_w3.ext nb7.gr).upd sb8.gr (by omega)).cg hcg9 (by omega))
      have hq_w9 := (((hq_w3.ext nb7.gr).upd sb8.gr (by omega)).cg hcg9 (by omega))
      have hl_w9 := (((hl_w3.ext nb7.gr).updx sb8.gr hltB (by omega)).cgx hcg9 hltB (by omega))
      have mpr_w9 := (((mpr_w3.ext nb7.gr).upd sb8.gr (by omega)).cg hcg9 (by omega))
      have bk1_w9 := (((bk1_w3.ext nb7.gr).upd sb8.gr (by omega)).cg hcg9 (by omega))
      have hsNB_w9 := (Nat.le_trans hsNB_w8 hcg9.size)
      refine lv_round ((filt (truths f []) ans).length - (j + 1)) (by omega) (fun st => ?_)
      exact ⟨(j + 1), (setF A2 i9 A5), (setF c2 i9 c5), rfl, by omega, (puts_size _ _).trans st.sz, (puts_defers _ _).trans st.df, (sl_puts st 0).trans hs3_0, (sl_puts st 1).trans hs3_1, (sl_puts st 2).trans hs3_2, (sl_puts st 3).trans hs3_3, (sl_puts st 6).trans hs3_6, (sl_puts st 8).trans hs3_8, (sl_puts st 9).trans hs3_9, (sl_puts st 16).trans hs3_16, (sl_puts st 17).trans hs3_17, (sl_puts st 18).trans (vint (by omega)), hB_w9, hqz_w9, hq_w9, hl_w9, mpr_w9, bk1_w9, (by rw [prts_step (i := i9) hx6 (by omega)]; exact hP9), hsNB_w9, (by rw [prts_step (i := i9) hx6 (by omega)]; exact hPt9)⟩
    · refine cc_cond_f rfl hc4 ?_
      have hc4p := hc4
      have hc4p := of_decide_eq_false hc4p
      refine cc_exit <| lv_then_exit <| lv_then_exit <| lv_block_hit <| lv_next <| cc_seq <| cc_seq ?_
      have hjl : j = (filt (truths f []) ans).length := by omega
      have hSF : (prts row ((filt (truths f []) ans).take j)) = (fun i : Nat => filt (truths f []) (ans.set row ((i : Int) - 1))) := by funext i; rw [hjl, List.take_of_length_le (Nat.le_refl _)]; exact prts_filt ha7 (by omega) hmr i
      have hP5 : Bk w3 b2 157 (prt A2 c2 (fun i : Nat => filt (truths f []) (ans.set row ((i : Int) - 1)))) := by rw [← hSF]; exact bk2_w3
      have hPt5 : Parts w3 NB A2 c2 (fun i : Nat => filt (truths f []) (ans.set row ((i : Int) - 1))) := by rw [← hSF]; exact hPt_w3
      refine cc_region <| wd rfl (fun st => x_load_all (cs := prt A2 c2 (fun i : Nat => filt (truths f []) (ans.set row ((i : Int) - 1)))) agg_157 (ee st hs3_9) hP5 (by simp [prtL])) <| wm rfl (v := I 0) rfl <| wl_end <| lv_next <| cc_block ?_
      refine cc_loop (fun (m_ : Nat) (fr_ : Act) (w_ : World) => ∃ (i : Nat), ∃ (a2 : List Int), ∃ (L2 : List (List Int × Int)), m_ = 4 - i ∧ (i ≤ 4) ∧ (a2.length = 7) ∧ (∀ v, a2.set row v = ans.set row v) ∧ (KnownOk f n (truths f []) L2) ∧ fr_.tmps.size = 78 ∧ fr_.defers = [] ∧ sl fr_ 0 = pt qz 0 ∧ sl fr_ 1 = .slice B ((filt (truths f []) ans).length) d ∧ sl fr_ 2 = ansV ans ∧ sl fr_ 3 = I ((row : Nat) : Int) ∧ sl fr_ 6 = pt b1 0 ∧ sl fr_ 9 = pt b2 0 ∧ sl fr_ 16 = .slice B ((filt (truths f []) ans).length) d ∧ sl fr_ 17 = I (((filt (truths f []) ans).length : Nat) : Int) ∧ sl fr_ 18 = I ((j : Nat) : Int) ∧ sl fr_ 19 = .bool (decide (((j : Nat) : Int) < (((filt (truths f []) ans).length : Nat) : Int))) ∧ sl fr_ 37 = .agg (prt A2 c2 (fun i : Nat => filt (truths f []) (ans.set row ((i : Int) - 1)))) ∧ sl fr_ 8 = I (wst (qst f n (truths f []) k) (truths f []) ans row i) ∧ sl fr_ 38 = I ((i : Nat) : Int) ∧ Upd r w w_ ∧ Bk w_ qz 114 #[pt q 0, I n, .map (some r)] ∧ Bk w_ q 102 #[I f.rows, I f.wd, I f.lo, I f.hi, .slice A f.ts.length c, sv] ∧ MapF w_ r 7 L2 ∧ Bk w_ b1 105 ((ivs a2).toArray) ∧ NB ≤ w_.heap.size ∧ Parts w_ NB A2 c2 (fun i : Nat => filt (truths f []) (ans.set row ((i : Int) - 1))) ∧ MB ≤ w_.heap.size) (4 - 0) ?init10 ?round10
      case init10 =>
        intro st
        exact ⟨0, ans, L, rfl, by omega, ha7, (fun _ => rfl), hKn, (puts_size _ _).trans st.sz, (puts_defers _ _).trans st.df, (sl_puts st 0).trans hs3_0, (sl_puts st 1).trans hs3_1, (sl_puts st 2).trans hs3_2, (sl_puts st 3).trans hs3_3, (sl_puts st 6).trans hs3_6, (sl_puts st 9).trans hs3_9, (sl_puts st 16).trans hs3_16, (sl_puts st 17).trans hs3_17, (sl_puts st 18).trans hs3_18, (sl_puts st 19).trans rfl, (sl_puts st 37).trans rfl, (sl_puts st 8).trans (hs3_8.trans rfl), (sl_puts st 38).trans (vint (by omega)), hB_w3, hqz_w3, hq_w3, mpr_w3, bk1_w3, hsNB_w3, hPt5, hsMB⟩
      case round10 =>
        rintro m_ fr10 w10 ⟨i, a2, L2, rfl, hi, ha2, hset, hK2, hsz10, hdf10, hs10_0, hs10_1, hs10_2, hs10_3, hs10_6, hs10_9, hs10_16, hs10_17, hs10_18, hs10_19, hs10_37, hs10_8, hs10_38, hB_w10, hqz_w10, hq_w10, mpr_w10, bk1_w10, hsNB_w10, hPt_w10, hsMB_w10⟩
        refine round_cc (N := 78) hsz10 hdf10 <| cc_seq <| cc_region <| wd rfl (fun st => x_lss (ee st hs10_38) (ee st rfl)) <| wl_end <| lv_next <| cc_seq ?_
        rcases bool_cases (decide (((i : Nat) : Int) < 4)) with hc11 | hc11
        · refine cc_cond_t rfl hc11 ?_
          have hc11p := hc11
          have hc11p := of_decide_eq_true hc11p
          refine cc_skip <| lv_next <| cc_seq <| cc_block <| cc_seq <| cc_region <| wm rfl (v := I ((i : Nat) : Int)) hs10_38 <| wd rfl (fun st => x_index1 (k := i) (v := .slice (A2 i) (filt (truths f []) (ans.set row ((i : Int) - 1))).length (c2 i)) Try.underlying157 one_100 (ee st hs10_37) (ee st hs10_38) rfl (by omega) (by simpa using prt_get A2 c2 (fun i : Nat => filt (truths f []) (ans.set row ((i : Int) - 1))) (i := i) (by omega))) <| wa rfl (v := I ((i : Nat) : Int)) rfl <| wa rfl (v := .slice (A2 i) ((filt (truths f []) (ans.set row ((i : Int) - 1))).length) (c2 i)) rfl <| wl_end <| lv_next <| cc_seq <| cc_seq <| cc_region <| wm rfl (v := .slice (A2 i) ((filt (truths f []) (ans.set row ((i : Int) - 1))).length) (c2 i)) rfl <| wd rfl (fun st => x_len Try.underlying100 (ee st rfl)) <| wd rfl (fun st => x_eql (ee st rfl) (ee st rfl)) <| wl_end <| lv_next ?_
          rcases bool_cases ((((filt (truths f []) (ans.set row ((i : Int) - 1))).length : Nat) : Int) == 0) with hc12 | hc12
          · refine cc_cond_t rfl hc12 ?_
            have hc12p := hc12
            have hc12p := eq_of_beq hc12p
            refine cc_exit <| lv_then_exit <| lv_block_hit <| lv_next <| cc_region <| wd rfl (fun st => x_add (ee st hs10_38) (ee st rfl) ⟨by omega, by omega⟩) <| wm rfl (v := I (((i : Nat) : Int) + 1)) rfl <| wl_end ?_
            have hnil : (filt (truths f []) (ans.set row ((i : Int) - 1))) = [] := List.eq_nil_of_length_eq_zero (by have := hc12p; omega)
            refine lv_round (4 - (i + 1)) (by omega) (fun st => ?_)
            exact ⟨(i + 1), a2, L2, rfl, by omega, ha2, hset, hK2, (puts_size _ _).trans st.sz, (puts_defers _ _).trans st.df, (sl_puts st 0).trans hs10_0, (sl_puts st 1).trans hs10_1, (sl_puts st 2).trans hs10_2, (sl_puts st 3).trans hs10_3, (sl_puts st 6).trans hs10_6, (sl_puts st 9).trans hs10_9, (sl_puts st 16).trans hs10_16, (sl_puts st 17).trans hs10_17, (sl_puts st 18).trans hs10_18, (sl_puts st 19).trans hs10_19, (sl_puts st 37).trans hs10_37, (sl_puts st 8).trans (hs10_8.trans (vint (by rw [wst_succ, if_pos hnil]))), (sl_puts st 38).trans (vint (by omega)), hB_w10, hqz_w10, hq_w10, mpr_w10, bk1_w10, hsNB_w10, hPt_w10, hsMB_w10⟩
          · refine cc_cond_f rfl hc12 ?_
            have hc12p := hc12
            have hc12p := ne_of_beq_false hc12p
            refine cc_skip <| lv_next <| cc_seq <| cc_region <| wm rfl (v := I ((row : Nat) : Int)) hs10_3 <| wm rfl (v := I ((i : Nat) : Int)) rfl <| wd rfl (fun st => x_sub (ee st rfl) (ee st rfl) ⟨by omega, by omega⟩) <| wd rfl (fun st => x_indexAddrA1 (k := row) Try.underlying105 sz_3 (ee st hs10_6) (ee st rfl) rfl (by omega)) <| wl_ex0 rfl rfl (fun st => x_store_int (ee st rfl) (ee st rfl) sz_3 bk1_w10 (by rw [ha2]; omega)) ?_
            rintro _ w13 sb13
            refine wl_end ?_
            have hab_w13 : Bk w13 b1 105 (ivs (ans.set row ((i : Int) - 1))).toArray := by rw [← hset]; exact sb13.bk
            have hun2 : unask f (ans.set row ((i : Int) - 1)) = k := by have := unask_set (v := (i : Int) - 1) ha7 (f := f) (row := row) hrow (by omega) hmr (by omega); omega
            have hkl : (ans.set row ((i : Int) - 1)).length = 7 := by simpa using ha7
            refine lv_next <| cc_seq ?_
            have hqz_w13 := (hqz_w10.upd sb13.gr (by omega))
            have mpr_w13 := (mpr_w10.upd sb13.gr (by omega))
            refine cc_any0 [Kc (pt qz 0), Kc (pt qz 0), Kc (pt qz 2), Kc (.map (some r)), Kc (ansV (ans.set row ((i : Int) - 1))), Kc (.tuple #[I ((mget L2 (ans.set row ((i : Int) - 1))).getD 0), .bool ((mget L2 (ans.set row ((i : Int) - 1))).isSome)]), Kc (.tuple #[I ((mget L2 (ans.set row ((i : Int) - 1))).getD 0), .bool ((mget L2 (ans.set row ((i : Int) - 1))).isSome)]), Kc (I ((mget L2 (ans.set row ((i : Int) - 1))).getD 0)), Kc (.bool ((mget L2 (ans.set row ((i : Int) - 1))).isSome)), Kc (I ((mget L2 (ans.set row ((i : Int) - 1))).getD 0)), Kc (.bool ((mget L2 (ans.set row ((i : Int) - 1))).isSome))] mixed rfl
                (obs_cons (ob_det rfl rfl (fun _ => rfl) (fun a' w' ph K => x_move (v := pt qz 0) (es (t := 0) (v := pt qz 0) ((K.out 0 rfl).trans hs10_0))))
                (obs_cons (ob_det rfl rfl (fun _ => rfl) (fun a' w' ph K => x_nilCheck (es (t := 50) (v := pt qz 0) (K.dep 0 50 rfl rfl))))
                (obs_cons (ob_det rfl rfl (fun _ => rfl) (fun a' w' ph K => x_fieldAddr (es (t := 51) (v := pt qz 0) (K.dep 1 51 rfl rfl)) (fz_114_2 _ _)))
                (obs_cons (ob_det rfl rfl (fun _ => rfl) (fun a' w' ph K => x_load1 (v := .map (some r)) one_112 (es (t := 52) (v := pt qz 2) (K.dep 2 52 rfl rfl)) (hqz_w13.ext K.phT) rfl))
                (obs_cons (ob_det rfl rfl (fun _ => rfl) (fun a' w' ph K => x_load_all agg_105 (es (t := 6) (v := pt b1 0) ((K.out 6 rfl).trans hs10_6)) (hab_w13.ext K.phT) (by simp [ivs, (by simpa using ha7)])))
                (obs_cons (ob_det rfl rfl (fun _ => rfl) (fun a' w' ph K => x_lookup_ok (k := ans.set row ((i : Int) - 1)) Try.underlying112 zero_3 keq_105 kchk_105 kwide_105 (es (t := 53) (v := .map (some r)) (K.dep 3 53 rfl rfl)) (es (t := 54) (v := ansV (ans.set row ((i : Int) - 1))) (K.dep 4 54 rfl rfl)) (by simpa using ha7) (mpr_w13.ext K.phT)))
                (obs_cons (ob_det rfl rfl (fun _ => rfl) (fun a' w' ph K => x_move (v := .tuple #[I ((mget L2 (ans.set row ((i : Int) - 1))).getD 0), .bool ((mget L2 (ans.set row ((i : Int) - 1))).isSome)]) (es (t := 55) (v := .tuple #[I ((mget L2 (ans.set row ((i : Int) - 1))).getD 0), .bool ((mget L2 (ans.set row ((i : Int) - 1))).isSome)]) (K.dep 5 55 rfl rfl))))
                (obs_cons (ob_det rfl rfl (fun _ => rfl) (fun a' w' ph K => x_extract (v := I ((mget L2 (ans.set row ((i : Int) - 1))).getD 0)) (es (t := 49) (v := .tuple #[I ((mget L2 (ans.set row ((i : Int) - 1))).getD 0), .bool ((mget L2 (ans.set row ((i : Int) - 1))).isSome)]) (K.dep 6 49 rfl rfl)) rfl))
                (obs_cons (ob_det rfl rfl (fun _ => rfl) (fun a' w' ph K => x_extract (v := .bool ((mget L2 (ans.set row ((i : Int) - 1))).isSome)) (es (t := 49) (v := .tuple #[I ((mget L2 (ans.set row ((i : Int) - 1))).getD 0), .bool ((mget L2 (ans.set row ((i : Int) - 1))).isSome)]) (K.dep 6 49 rfl rfl)) rfl))
                (obs_cons (ob_det rfl rfl (fun _ => rfl) (fun a' w' ph K => x_assign (v := I ((mget L2 (ans.set row ((i : Int) - 1))).getD 0)) (es (t := 56) (v := I ((mget L2 (ans.set row ((i : Int) - 1))).getD 0)) (K.dep 7 56 rfl rfl))))
                (obs_cons (ob_det rfl rfl (fun _ => rfl) (fun a' w' ph K => x_assign (v := .bool ((mget L2 (ans.set row ((i : Int) - 1))).isSome)) (es (t := 57) (v := .bool ((mget L2 (ans.set row ((i : Int) - 1))).isSome)) (K.dep 8 57 rfl rfl))))
                (obs_nil _)))))))))))) ?_
            intro w14 hx14
            rintro _ rfl _ rfl _ rfl _ rfl _ rfl _ rfl _ rfl _ rfl _ rfl _ rfl _ rfl
            refine lv_next <| cc_seq <| cc_seq <| cc_region <| wm rfl (v := .bool ((mget L2 (ans.set row ((i : Int) - 1))).isSome)) rfl <| wd rfl (fun st => x_not (ee st rfl)) <| wl_end <| lv_next ?_
            rcases bool_cases (!((mget L2 (ans.set row ((i : Int) - 1))).isSome)) with hc15 | hc15
            · refine cc_cond_t rfl hc15 ?_
              have hc15p := hc15
              have hc15p := not_t hc15p
              have hc15_16 : ((mget L2 (ans.set row ((i : Int) - 1))).isSome) = false := by simpa using hc15
              refine cc_seq <| cc_region <| wm rfl (v := pt qz 0) hs10_0 <| wm rfl (v := .slice (A2 i) ((filt (truths f []) (ans.set row ((i : Int) - 1))).length) (c2 i)) rfl ?_
              have bk1_w14 := (hab_w13.ext hx14)
              refine wd rfl (fun st => x_load_all agg_105 (ee st hs10_6) bk1_w14 (by simp [ivs, (by simpa using ha7)])) ?_
              have hPt_w14 := ((hPt_w10.upd sb13.gr (by omega)).ext hx14)
              have hneS : (filt (truths f []) (ans.set row ((i : Int) - 1))) ≠ [] := by intro e; rw [e] at hc12p; exact absurd hc12p (by decide)
              have hOi : OwnS w14 0 105 7 (A2 i) (filt (truths f []) (ans.set row ((i : Int) - 1))).length (c2 i) (flat ivs (filt (truths f []) (ans.set row ((i : Int) - 1)))) := (hPt_w14.own i (by omega)).weak (Nat.zero_le _)
              have hqz_w14 := (hqz_w13.ext hx14)
              have hq_w14 := ((hq_w10.upd sb13.gr (by omega)).ext hx14)
              have mpr_w14 := (mpr_w13.ext hx14)
              refine we rfl (fun st => x_call0 own_78 (ee st rfl) (am3 (ee st rfl) (ee st rfl) (ee st rfl)) (ih (ans.set row ((i : Int) - 1)) (A2 i) (c2 i) L2 _ hun2 hkl hneS hK2 hqz_w14 hq_w14 hOi mpr_w14)) ?_
              rintro _ w17 ⟨rfl, hup17, L3, hm17, hK3⟩
              refine wm rfl (v := .tuple #[I ((qst f n (truths f []) k (ans.set row ((i : Int) - 1))).1), I ((qst f n (truths f []) k (ans.set row ((i : Int) - 1))).2)]) rfl <| wd rfl (fun st => x_extract (v := I ((qst f n (truths f []) k (ans.set row ((i : Int) - 1))).1)) (ee st rfl) rfl) <| wd rfl (fun st => x_extract (v := I ((qst f n (truths f []) k (ans.set row ((i : Int) - 1))).2)) (ee st rfl) rfl) <| wa rfl (v := I ((qst f n (truths f []) k (ans.set row ((i : Int) - 1))).2)) rfl <| wl_end <| lv_next ?_
              have hqz_w17 := (hqz_w14.upd hup17 (by omega))
              have bk1_w17 := (bk1_w14.upd hup17 (by omega))
              refine cc_any (fun _ _ => True) (T2 w17 r (fun w_ => MapF w_ r 7 (mput L3 (ans.set row ((i : Int) - 1)) ((qst f n (truths f []) k (ans.set row ((i : Int) - 1))).2)))) [6] [Kc (pt qz 0), Kc (pt qz 0), Kc (pt qz 2), Kc (.map (some r)), Kc (ansV (ans.set row ((i : Int) - 1))), Kc (I ((qst f n (truths f []) k (ans.set row ((i : Int) - 1))).2)), Kt] mixed rfl (fun _ _ _ => trivial) (T2_ext (fun _ _ h g => h.ext g)) (ext_drew w17)
                  (obs_cons (ob_det rfl rfl (fun _ => rfl) (fun a' w' ph K => x_move (v := pt qz 0) (es (t := 0) (v := pt qz 0) ((K.out 0 rfl).trans hs10_0))))
                  (obs_cons (ob_det rfl rfl (fun _ => rfl) (fun a' w' ph K => x_nilCheck (es (t := 67) (v := pt qz 0) (K.dep 0 67 rfl rfl))))
                  (obs_cons (ob_det rfl rfl (fun _ => rfl) (fun a' w' ph K => x_fieldAddr (es (t := 68) (v := pt qz 0) (K.dep 1 68 rfl rfl)) (fz_114_2 _ _)))
                  (obs_cons (ob_det rfl rfl (fun _ => rfl) (fun a' w' ph K => x_load1 (v := .map (some r)) one_112 (es (t := 69) (v := pt qz 2) (K.dep 2 69 rfl rfl)) (hqz_w17.t2 K.phT (by omega)) rfl))
                  (obs_cons (ob_det rfl rfl (fun _ => rfl) (fun a' w' ph K => x_load_all agg_105 (es (t := 6) (v := pt b1 0) ((K.out 6 rfl).trans hs10_6)) (bk1_w17.t2 K.phT (by omega)) (by simp [ivs, (by simpa using ha7)])))
                  (obs_cons (ob_det rfl rfl (fun _ => rfl) (fun a' w' ph K => x_move (v := I ((qst f n (truths f []) k (ans.set row ((i : Int) - 1))).2)) (es (t := 14) (v := I ((qst f n (truths f []) k (ans.set row ((i : Int) - 1))).2)) ((K.out 14 rfl).trans rfl))))
                  (obs_cons (ob_spec rfl rfl (fun a' w' ph K => (x_mapUpdate (k := ans.set row ((i : Int) - 1)) Try.underlying112 keq_105 kchk_105 kwide_105 (es (t := 70) (v := .map (some r)) (K.dep 3 70 rfl rfl)) (es (t := 71) (v := ansV (ans.set row ((i : Int) - 1))) (K.dep 4 71 rfl rfl)) (es (t := 72) (v := I ((qst f n (truths f []) k (ans.set row ((i : Int) - 1))).2)) (K.dep 5 72 rfl rfl)) (by simpa using ha7) (hm17.ext (T2_zero K.phT (K.spi 0 rfl)))).mono (fun _ _ h => ⟨trivial, trivial, T2_up K.phT (K.spi 0 rfl) h.gr h.mp⟩)))
                  (obs_nil _)))))))) ?_
              rintro w18 ⟨hx18, hm18⟩
              rintro _ rfl _ rfl _ rfl _ rfl _ rfl _ rfl
              refine lv_next <| cc_region <| wm rfl (v := I (wst (qst f n (truths f []) k) (truths f []) ans row i)) hs10_8 <| wm rfl (v := I ((qst f n (truths f []) k (ans.set row ((i : Int) - 1))).2)) rfl <| wd rfl (fun st => x_max (ee st rfl) (ee st rfl)) <| wa rfl (v := I (max (wst (qst f n (truths f []) k) (truths f []) ans row i) ((qst f n (truths f []) k (ans.set row ((i : Int) - 1))).2))) rfl <| wl_end <| lv_block <| lv_next <| cc_region <| wd rfl (fun st => x_add (ee st hs10_38) (ee st rfl) ⟨by omega, by omega⟩) <| wm rfl (v := I (((i : Nat) : Int) + 1)) rfl <| wl_end ?_
              have hnn := hneS
              have hKp : KnownOk f n (truths f []) (mput L3 (ans.set row ((i : Int) - 1)) (qst f n (truths f []) k (ans.set row ((i : Int) - 1))).2) := by have h := known_put hK3 (ans.set row ((i : Int) - 1)); rw [hun2] at h; exact h
              have hB_w18 : Upd r w w18 := (up_upd (up_upd (up_ext (up_new hB_w10 sb13.gr (by omega)) hx14) hup17) hx18)
              have hqz_w18 := (hqz_w17.upd hx18 (by omega))
              have hq_w18 := ((hq_w14.upd hup17 (by omega)).upd hx18 (by omega))
              have bk1_w18 := (bk1_w17.upd hx18 (by omega))
              have hsNB_w18 := (Nat.le_trans (Nat.le_trans (Nat.le_trans (Nat.le_trans hsNB_w10 sb13.gr.size) hx14.size) hup17.size) hx18.size)
              have hPt_w18 := ((hPt_w14.upd hup17 (by omega)).upd hx18 (by omega))
              have hsMB_w18 := (Nat.le_trans (Nat.le_trans (Nat.le_trans (Nat.le_trans hsMB_w10 sb13.gr.size) hx14.size) hup17.size) hx18.size)
              refine lv_round (4 - (i + 1)) (by omega) (fun st => ?_)
              exact ⟨(i + 1), (ans.set row ((i : Int) - 1)), (mput L3 (ans.set row ((i : Int) - 1)) (qst f n (truths f []) k (ans.set row ((i : Int) - 1))).2), rfl, by omega, hkl, (fun v => by rw [List.set_set]), hKp, (puts_size _ _).trans st.sz, (puts_defers _ _).trans st.df, (sl_puts st 0).trans hs10_0, (sl_puts st 1).trans hs10_1, (sl_puts st 2).trans hs10_2, (sl_puts st 3).trans hs10_3, (sl_puts st 6).trans hs10_6, (sl_puts st 9).trans hs10_9, (sl_puts st 16).trans hs10_16, (sl_puts st 17).trans hs10_17, (sl_puts st 18).trans hs10_18, (sl_puts st 19).trans hs10_19, (sl_puts st 37).trans hs10_37, (sl_puts st 8).trans (vint (by rw [wst_succ, if_neg hnn])), (sl_puts st 38).trans (vint (by omega)), hB_w18, hqz_w18, hq_w18, hm18, bk1_w18, hsNB_w18, hPt_w18, hsMB_w18⟩
            · refine cc_cond_f rfl hc15 ?_
              have hc15p := hc15
              have hc15p := not_f hc15p
              have hc15_19 : ((mget L2 (ans.set row ((i : Int) - 1))).isSome) = true := by simpa using hc15
              refine cc_skip <| lv_next <| cc_region <| wm rfl (v := I (wst (qst f n (truths f []) k) (truths f []) ans row i)) hs10_8 <| wm rfl (v := I ((mget L2 (ans.set row ((i : Int) - 1))).getD 0)) rfl <| wd rfl (fun st => x_max (ee st rfl) (ee st rfl)) <| wa rfl (v := I (max (wst (qst f n (truths f []) k) (truths f []) ans row i) ((mget L2 (ans.set row ((i : Int) - 1))).getD 0))) rfl <| wl_end <| lv_block <| lv_next <| cc_region <| wd rfl (fun st => x_add (ee st hs10_38) (ee st rfl) ⟨by omega, by omega⟩) <| wm rfl (v := I (((i : Nat) : Int) + 1)) rfl <| wl_end ?_
              have hnn : (filt (truths f []) (ans.set row ((i : Int) - 1))) ≠ [] := by intro e; rw [e] at hc12p; exact absurd hc12p (by decide)
              obtain ⟨v9, hv9⟩ : ∃ v, mget L2 (ans.set row ((i : Int) - 1)) = some v := Option.isSome_iff_exists.1 hc15_19
              have hq9 : v9 = (qst f n (truths f []) k (ans.set row ((i : Int) - 1))).2 := by have h := hK2 _ _ hv9; rw [hun2] at h; exact h
              have hB_w14 : Upd r w w14 := (up_ext (up_new hB_w10 sb13.gr (by omega)) hx14)
              have hqz_w14 := (hqz_w13.ext hx14)
              have hq_w14 := ((hq_w10.upd sb13.gr (by omega)).ext hx14)
              have mpr_w14 := (mpr_w13.ext hx14)
              have bk1_w14 := (hab_w13.ext hx14)
              have hsNB_w14 := (Nat.le_trans (Nat.le_trans hsNB_w10 sb13.gr.size) hx14.size)
              have hPt_w14 := ((hPt_w10.upd sb13.gr (by omega)).ext hx14)
              have hsMB_w14 := (Nat.le_trans (Nat.le_trans hsMB_w10 sb13.gr.size) hx14.size)
              refine lv_round (4 - (i + 1)) (by omega) (fun st => ?_)
              exact ⟨(i + 1), (ans.set row ((i : Int) - 1)), L2, rfl, by omega, hkl, (fun v => by rw [List.set_set]), hK2, (puts_size _ _).trans st.sz, (puts_defers _ _).trans st.df, (sl_puts st 0).trans hs10_0, (sl_puts st 1).trans hs10_1, (sl_puts st 2).trans hs10_2, (sl_puts st 3).trans hs10_3, (sl_puts st 6).trans hs10_6, (sl_puts st 9).trans hs10_9, (sl_puts st 16).trans hs10_16, (sl_puts st 17).trans hs10_17, (sl_puts st 18).trans hs10_18, (sl_puts st 19).trans hs10_19, (sl_puts st 37).trans hs10_37, (sl_puts st 8).trans (vint (by rw [wst_succ, if_neg hnn, hv9, ← hq9]; rfl)), (sl_puts st 38).trans (vint (by omega)), hB_w14, hqz_w14, hq_w14, mpr_w14, bk1_w14, hsNB_w14, hPt_w14, hsMB_w14⟩
        · refine cc_cond_f rfl hc11 ?_
          have hc11p := hc11
          have hc11p := of_decide_eq_false hc11p
          refine cc_exit <| lv_then_exit <| lv_then_exit <| lv_block_hit <| lv_next <| cc_seq <| cc_region <| wm rfl (v := I (wst (qst f n (truths f []) k) (truths f []) ans row i)) hs10_8 <| wa rfl (v := I (wst (qst f n (truths f []) k) (truths f []) ans row i)) rfl <| wl_end <| lv_next <| cc_ret <| lv_ret1 rfl rfl ?_
          obtain rfl : i = 4 := by omega
          exact ⟨rfl, hB_w10, L2, mpr_w10, hK2⟩
end Go.Proofs.Ythogdgkafaclaaa
end
section
set_option linter.unusedVariables false
set_option linter.unusedSimpArgs false
namespace Go.Proofs.Ythogdgkafaclaaa
open Go.RowKit
attribute [local irreducible] Ex1 WL CC CW LV Ret ObOp Agg One Own
theorem c78s (f : Fld) (A : Option Addr) (c : Nat) (n : Int) (q qz r : Nat) (sv : Value) (k : Nat) (ihW : ∀ k2, k2 + 1 = k → Ws f A c n q qz r sv k2) (ans : List Int) (B : Option Addr) (d : Nat) (L : List (List Int × Int)) (w : World) (hr0 : 1 ≤ f.rows) (hr1 : f.rows ≤ 7) (hw0 : 1 ≤ f.wd) (hw1 : f.wd ≤ 3) (hun : unask f ans = k) (ha7 : ans.length = 7) (hne0 : (filt (truths f []) ans) ≠ []) (hKn : KnownOk f n (truths f []) L) (hqz : Bk w qz 114 #[pt q 0, I n, .map (some r)]) (hq : Bk w q 102 #[I f.rows, I f.wd, I f.lo, I f.hi, .slice A f.ts.length c, sv]) (hl : OwnS w 0 105 7 B ((filt (truths f []) ans).length) d (flat ivs (filt (truths f []) ans))) (mpr : MapF w r 7 L) :
    Ret Try.prog 78 #[pt qz 0, .slice B ((filt (truths f []) ans).length) d, ansV ans] w (fun v w' => v = .tuple #[.int .i64 (qst f n (truths f []) k ans).1, .int .i64 (qst f n (truths f []) k ans).2] ∧ Upd r w w' ∧ ∃ L2, MapF w' r 7 L2 ∧ KnownOk f n (truths f []) L2) := by
  have hqzl := hqz.lt
  have hql := hq.lt
  have hrl : r < w.heap.size := mpr.lt
  have hltB : ∀ k o, B = some ⟨k, o, none⟩ → k < w.heap.size := fun k o hA => (hl.blk hA).2.1
  have h7 := truths_len (f := f) (out := []) (by omega)
  have h7l := filt_len (ans := ans) h7
  have hcnt := truths_count (f := f) (out := []) (by omega) (by omega)
  have hfl := filt_le (T := truths f []) (ans := ans)
  have hpos : 0 < (filt (truths f []) ans).length := List.length_pos_iff.2 hne0
  have hlen : (filt (truths f []) ans).length ≤ 100000 := by omega
  have hneB := own_nm hl mpr
  have hnqz := bk_nm hqz mpr
  have hnq := bk_nm hq mpr
  have hlr := hl.rd.mono (Nat.zero_le _) (Nat.le_refl _) (Nat.le_refl _)
  refine ret_of_cc (N := 51) Try.func78 rfl rfl (by simp) ?_
  intro fr0 ha hdf
  have hp0 := sl_arg (i := 0) (v := pt qz 0) ha rfl
  have hp1 := sl_arg (i := 1) (v := .slice B ((filt (truths f []) ans).length) d) ha rfl
  have hp2 := sl_arg (i := 2) (v := ansV ans) ha rfl
  clear ha
  refine cc_seq <| cc_region <| we rfl (fun st => x_box (v := pt qz 0) (cs := #[pt qz 0]) (ee st hp0) rfl) ?_
  rintro _ w1 ⟨b1, rfl, nb1⟩
  have lo1 : w.heap.size ≤ b1 := by rw [nb1.b_eq]; exact (show Upd r w w from World.grownBy.refl w _).size
  refine we rfl (fun st => x_box (v := .slice B ((filt (truths f []) ans).length) d) (cs := #[.slice B ((filt (truths f []) ans).length) d]) (ee st hp1) rfl) ?_
  rintro _ w2 ⟨b2, rfl, nb2⟩
  have hB_w1 : Upd r w w1 := (up_ext (show Upd r w w from World.grownBy.refl w _) nb1.gr)
  have lo2 : w.heap.size ≤ b2 := by rw [nb2.b_eq]; exact hB_w1.size
  have ltb1_2 : b1 < b2 := by rw [nb2.b_eq]; exact nb1.bk.lt
  refine we rfl (fun st => x_box (v := ansV ans) (cs := (ivs ans).toArray) (ee st hp2) rfl) ?_
  rintro _ w3 ⟨b3, rfl, nb3⟩
  have hB_w2 : Upd r w w2 := (up_ext hB_w1 nb2.gr)
  have lo3 : w.heap.size ≤ b3 := by rw [nb3.b_eq]; exact hB_w2.size
  have bk1_w2 := (nb1.bk.ext nb2.gr)
  have ltb1_3 : b1 < b3 := by rw [nb3.b_eq]; exact bk1_w2.lt
  have ltb2_3 : b2 < b3 := by rw [nb3.b_eq]; exact nb2.bk.lt
  refine wa rfl (v := I 0) rfl <| wa rfl (v := I 0) rfl <| wl_end <| lv_next <| cc_seq <| cc_seq <| cc_region ?_
  have bk2_w3 := (nb2.bk.ext nb3.gr)
  refine wd rfl (fun st => x_load1 (v := .slice B ((filt (truths f []) ans).length) d) one_100 (ee st rfl) bk2_w3 rfl) <| wd rfl (fun st => x_makeFunc (vs := #[]) (us := #[pt b1 0, pt b2 0]) am0 (am2 (ee st rfl) (ee st rfl))) ?_
  have bk1_w3 := (bk1_w2.ext nb3.gr)
  have hqz_w3 := (((hqz.ext nb1.gr).ext nb2.gr).ext nb3.gr)
  have hq_w3 := (((hq.ext nb1.gr).ext nb2.gr).ext nb3.gr)
  have hlr_w3 := (((hlr.ext nb1.gr).ext nb2.gr).ext nb3.gr)
  refine we rfl (fun st => x_call (first := #[]) (cap := #[]) (vs := #[.slice B ((filt (truths f []) ans).length) d, .func (.func 106) #[] #[pt b1 0, pt b2 0]]) (all := #[.slice B ((filt (truths f []) ans).length) d, .func (.func 106) #[] #[pt b1 0, pt b2 0]]) own_105 (ee st rfl) (am2 (ee st rfl) (ee st rfl)) (by simp) (c105 f A c n q qz b1 b2 r sv (filt (truths f []) ans) B d (filt (truths f []) ans) B d _ hr0 hr1 hpos hlen h7l h7l hlen bk1_w3 hqz_w3 hq_w3 bk2_w3 hlr_w3.wide hlr_w3.wide)) ?_
  rintro _ w4 ⟨rfl, hx4⟩
  refine wl_end <| lv_next ?_
  rcases bool_cases ((filt (truths f []) ans).all (sameD f n (filt (truths f []) ans))) with hc5 | hc5
  · refine cc_cond_t rfl hc5 <| cc_seq <| cc_region <| wa rfl (v := I (-1)) rfl <| wa rfl (v := I 0) rfl <| wl_end <| lv_next <| cc_ret <| lv_then_ret <| lv_ret2 rfl rfl rfl ?_
    have hB_w4 : Upd r w w4 := (up_ext (up_ext hB_w2 nb3.gr) hx4)
    have mpr_w4 := ((((mpr.ext nb1.gr).ext nb2.gr).ext nb3.gr).ext hx4)
    refine ⟨?_, hB_w4, L, mpr_w4, hKn⟩
    rw [qst_eq hun, if_pos hc5]
    rfl
  · refine cc_cond_f rfl hc5 <| cc_skip <| lv_next <| cc_seq ?_
    have bk1_w4 := (bk1_w3.ext hx4)
    have hqz_w4 := (hqz_w3.ext hx4)
    have hq_w4 := (hq_w3.ext hx4)
    refine cc_any0 [Kc (pt qz 0), Kc (pt qz 0), Kc (pt qz 0), Kc (pt q 0), Kc (pt q 0), Kc (pt q 0), Kc (pt q 0), Kc (I f.rows), Kc (I (f.rows + 1)), Kc (I (-1)), Kc (I (f.rows + 1))] mixed rfl
        (obs_cons (ob_det rfl rfl (fun _ => rfl) (fun a' w' ph K => x_load1 (v := pt qz 0) one_111 (es (t := 3) (v := pt b1 0) ((K.out 3 rfl).trans rfl)) (bk1_w4.ext K.phT) rfl))
        (obs_cons (ob_det rfl rfl (fun _ => rfl) (fun a' w' ph K => x_nilCheck (es (t := 13) (v := pt qz 0) (K.dep 0 13 rfl rfl))))
        (obs_cons (ob_det rfl rfl (fun _ => rfl) (fun a' w' ph K => x_fieldAddr (es (t := 14) (v := pt qz 0) (K.dep 1 14 rfl rfl)) (fz_114_0 _ _)))
        (obs_cons (ob_det rfl rfl (fun _ => rfl) (fun a' w' ph K => x_load1 (v := pt q 0) one_97 (es (t := 15) (v := pt qz 0) (K.dep 2 15 rfl rfl)) (hqz_w4.ext K.phT) rfl))
        (obs_cons (ob_det rfl rfl (fun _ => rfl) (fun a' w' ph K => x_nilCheck (es (t := 16) (v := pt q 0) (K.dep 3 16 rfl rfl))))
        (obs_cons (ob_det rfl rfl (fun _ => rfl) (fun a' w' ph K => x_fieldAddr (es (t := 17) (v := pt q 0) (K.dep 4 17 rfl rfl)) (fz_102_0 _ _)))
        (obs_cons (ob_det rfl rfl (fun _ => rfl) (fun a' w' ph K => x_fieldAddr (es (t := 18) (v := pt q 0) (K.dep 5 18 rfl rfl)) (fz_36_0 _ _)))
        (obs_cons (ob_det rfl rfl (fun _ => rfl) (fun a' w' ph K => x_load1 (v := I f.rows) one_3 (es (t := 19) (v := pt q 0) (K.dep 6 19 rfl rfl)) (hq_w4.ext K.phT) rfl))
        (obs_cons (ob_det rfl rfl (fun _ => rfl) (fun a' w' ph K => x_add (es (t := 20) (v := I f.rows) (K.dep 7 20 rfl rfl)) (ec (v := I 1)) ⟨by omega, by omega⟩))
        (obs_cons (ob_det rfl rfl (fun _ => rfl) (fun a' w' ph K => x_assign (v := I (-1)) (ec (v := I (-1)))))
        (obs_cons (ob_det rfl rfl (fun _ => rfl) (fun a' w' ph K => x_assign (v := I (f.rows + 1)) (es (t := 21) (v := I (f.rows + 1)) (K.dep 8 21 rfl rfl))))
        (obs_nil _)))))))))))) ?_
    intro w6 hx6
    rintro _ rfl _ rfl _ rfl _ rfl _ rfl _ rfl _ rfl _ rfl _ rfl _ rfl _ rfl
    refine lv_next <| cc_seq <| cc_seq <| cc_region ?_
    have bk1_w6 := (bk1_w4.ext hx6)
    refine wd rfl (fun st => x_load1 (v := pt qz 0) one_111 (ee st rfl) bk1_w6 rfl) <| wd rfl (fun st => x_nilCheck (ee st rfl)) <| wd rfl (fun st => x_fieldAddr (ee st rfl) (fz_114_0 _ _)) ?_
    have hqz_w6 := (hqz_w4.ext hx6)
    refine wd rfl (fun st => x_load1 (v := pt q 0) one_97 (ee st rfl) hqz_w6 rfl) <| wd rfl (fun st => x_nilCheck (ee st rfl)) <| wd rfl (fun st => x_fieldAddr (ee st rfl) (fz_102_0 _ _)) <| wd rfl (fun st => x_fieldAddr (ee st rfl) (fz_36_0 _ _)) ?_
    have hq_w6 := (hq_w4.ext hx6)
    refine wd rfl (fun st => x_load1 (v := I f.rows) one_3 (ee st rfl) hq_w6 rfl) <| wm rfl (v := I 0) rfl <| wl_end <| lv_next <| cc_block ?_
    have hl_w6 := (((((hl.ext nb1.gr).ext nb2.gr).ext nb3.gr).ext hx4).ext hx6)
    have mpr_w6 := (((((mpr.ext nb1.gr).ext nb2.gr).ext nb3.gr).ext hx4).ext hx6)
    have bk2_w6 := ((bk2_w3.ext hx4).ext hx6)
    have bk3_w6 := ((nb3.bk.ext hx4).ext hx6)
    have hB_w6 : Upd r w w6 := (up_ext (up_ext (up_ext hB_w2 nb3.gr) hx4) hx6)
    refine cc_loop (fun (m_ : Nat) (fr_ : Act) (w_ : World) => ∃ (j : Nat), ∃ (L2 : List (List Int × Int)), m_ = f.rows.toNat - j ∧ (j ≤ f.rows.toNat) ∧ (KnownOk f n (truths f []) L2) ∧ fr_.tmps.size = 51 ∧ fr_.defers = [] ∧ sl fr_ 0 = pt qz 0 ∧ sl fr_ 1 = .slice B ((filt (truths f []) ans).length) d ∧ sl fr_ 2 = ansV ans ∧ sl fr_ 3 = pt b1 0 ∧ sl fr_ 4 = pt b2 0 ∧ sl fr_ 5 = pt b3 0 ∧ sl fr_ 10 = .slice B ((filt (truths f []) ans).length) d ∧ sl fr_ 11 = .func (.func 106) #[] #[pt b1 0, pt b2 0] ∧ sl fr_ 12 = .bool ((filt (truths f []) ans).all (sameD f n (filt (truths f []) ans))) ∧ sl fr_ 13 = pt qz 0 ∧ sl fr_ 14 = pt qz 0 ∧ sl fr_ 15 = pt qz 0 ∧ sl fr_ 16 = pt q 0 ∧ sl fr_ 17 = pt q 0 ∧ sl fr_ 18 = pt q 0 ∧ sl fr_ 19 = pt q 0 ∧ sl fr_ 20 = I f.rows ∧ sl fr_ 21 = I (f.rows + 1) ∧ sl fr_ 22 = pt qz 0 ∧ sl fr_ 23 = pt qz 0 ∧ sl fr_ 24 = pt qz 0 ∧ sl fr_ 25 = pt q 0 ∧ sl fr_ 26 = pt q 0 ∧ sl fr_ 27 = pt q 0 ∧ sl fr_ 28 = pt q 0 ∧ sl fr_ 29 = I f.rows ∧ sl fr_ 6 = I ((qlp f (gW f n (truths f []) ans k) ans j).1) ∧ sl fr_ 7 = I ((qlp f (gW f n (truths f []) ans k) ans j).2) ∧ sl fr_ 30 = I ((j : Nat) : Int) ∧ Upd r w w_ ∧ Bk w_ qz 114 #[pt q 0, I n, .map (some r)] ∧ Bk w_ q 102 #[I f.rows, I f.wd, I f.lo, I f.hi, .slice A f.ts.length c, sv] ∧ OwnS w_ 0 105 7 B ((filt (truths f []) ans).length) d (flat ivs (filt (truths f []) ans)) ∧ MapF w_ r 7 L2 ∧ Bk w_ b1 111 #[pt qz 0] ∧ Bk w_ b2 100 #[.slice B ((filt (truths f []) ans).length) d] ∧ Bk w_ b3 105 ((ivs ans).toArray)) (f.rows.toNat - 0) ?init7 ?round7
    case init7 =>
      intro st
      exact ⟨0, L, rfl, by omega, hKn, (puts_size _ _).trans st.sz, (puts_defers _ _).trans st.df, (sl_puts st 0).trans hp0, (sl_puts st 1).trans hp1, (sl_puts st 2).trans hp2, (sl_puts st 3).trans rfl, (sl_puts st 4).trans rfl, (sl_puts st 5).trans rfl, (sl_puts st 10).trans rfl, (sl_puts st 11).trans rfl, (sl_puts st 12).trans rfl, (sl_puts st 13).trans rfl, (sl_puts st 14).trans rfl, (sl_puts st 15).trans rfl, (sl_puts st 16).trans rfl, (sl_puts st 17).trans rfl, (sl_puts st 18).trans rfl, (sl_puts st 19).trans rfl, (sl_puts st 20).trans rfl, (sl_puts st 21).trans rfl, (sl_puts st 22).trans rfl, (sl_puts st 23).trans rfl, (sl_puts st 24).trans rfl, (sl_puts st 25).trans rfl, (sl_puts st 26).trans rfl, (sl_puts st 27).trans rfl, (sl_puts st 28).trans rfl, (sl_puts st 29).trans rfl, (sl_puts st 6).trans (rfl), (sl_puts st 7).trans (rfl), (sl_puts st 30).trans (vint (by omega)), hB_w6, hqz_w6, hq_w6, hl_w6, mpr_w6, bk1_w6, bk2_w6, bk3_w6⟩
    case round7 =>
      rintro m_ fr7 w7 ⟨j, L2, rfl, hj, hK2, hsz7, hdf7, hs7_0, hs7_1, hs7_2, hs7_3, hs7_4, hs7_5, hs7_10, hs7_11, hs7_12, hs7_13, hs7_14, hs7_15, hs7_16, hs7_17, hs7_18, hs7_19, hs7_20, hs7_21, hs7_22, hs7_23, hs7_24, hs7_25, hs7_26, hs7_27, hs7_28, hs7_29, hs7_6, hs7_7, hs7_30, hB_w7, hqz_w7, hq_w7, hl_w7, mpr_w7, bk1_w7, bk2_w7, bk3_w7⟩
      refine round_cc (N := 51) hsz7 hdf7 ?_
      have hqb := qlp_bd f (gW f n (truths f []) ans k) ans j (by omega)
      refine cc_seq <| cc_region <| wd rfl (fun st => x_lss (ee st hs7_30) (ee st hs7_29)) <| wl_end <| lv_next <| cc_seq ?_
      rcases bool_cases (decide (((j : Nat) : Int) < f.rows)) with hc8 | hc8
      · refine cc_cond_t rfl hc8 ?_
        have hc8p := hc8
        have hc8p := of_decide_eq_true hc8p
        refine cc_skip <| lv_next <| cc_seq <| cc_block <| cc_seq <| cc_region <| wm rfl (v := I ((j : Nat) : Int)) hs7_30 <| wa rfl (v := I ((j : Nat) : Int)) rfl <| wl_end <| lv_next <| cc_seq <| cc_seq <| cc_region <| wm rfl (v := I ((j : Nat) : Int)) rfl <| wd rfl (fun st => x_indexAddrA1 (k := j) Try.underlying105 sz_3 (ee st hs7_5) (ee st rfl) rfl (by omega)) <| wd rfl (fun st => x_load1 (v := .int .i64 (ans.getD j 0)) one_3 (ee st rfl) bk3_w7 (ivs_getL ans j (by rw [ha7]; omega))) <| wd rfl (fun st => x_neq (ee st rfl) (ee st rfl)) <| wl_end <| lv_next ?_
        rcases bool_cases ((ans.getD j 0) != (-2)) with hc9 | hc9
        · refine cc_cond_t rfl hc9 ?_
          have hc9p := hc9
          have hc9p := bne_t hc9p
          refine cc_exit <| lv_then_exit <| lv_block_hit <| lv_next <| cc_region <| wd rfl (fun st => x_add (ee st hs7_30) (ee st rfl) ⟨by omega, by omega⟩) <| wm rfl (v := I (((j : Nat) : Int) + 1)) rfl <| wl_end ?_
          refine lv_round (f.rows.toNat - (j + 1)) (by omega) (fun st => ?_)
          exact ⟨(j + 1), L2, rfl, by omega, hK2, (puts_size _ _).trans st.sz, (puts_defers _ _).trans st.df, (sl_puts st 0).trans hs7_0, (sl_puts st 1).trans hs7_1, (sl_puts st 2).trans hs7_2, (sl_puts st 3).trans hs7_3, (sl_puts st 4).trans hs7_4, (sl_puts st 5).trans hs7_5, (sl_puts st 10).trans hs7_10, (sl_puts st 11).trans hs7_11, (sl_puts st 12).trans hs7_12, (sl_puts st 13).trans hs7_13, (sl_puts st 14).trans hs7_14, (sl_puts st 15).trans hs7_15, (sl_puts st 16).trans hs7_16, (sl_puts st 17).trans hs7_17, (sl_puts st 18).trans hs7_18, (sl_puts st 19).trans hs7_19, (sl_puts st 20).trans hs7_20, (sl_puts st 21).trans hs7_21, (sl_puts st 22).trans hs7_22, (sl_puts st 23).trans hs7_23, (sl_puts st 24).trans hs7_24, (sl_puts st 25).trans hs7_25, (sl_puts st 26).trans hs7_26, (sl_puts st 27).trans hs7_27, (sl_puts st 28).trans hs7_28, (sl_puts st 29).trans hs7_29, (sl_puts st 6).trans (hs7_6.trans (vint (by rw [qlp_succ, if_neg hc9p]))), (sl_puts st 7).trans (hs7_7.trans (vint (by rw [qlp_succ, if_neg hc9p]))), (sl_puts st 30).trans (vint (by omega)), hB_w7, hqz_w7, hq_w7, hl_w7, mpr_w7, bk1_w7, bk2_w7, bk3_w7⟩
        · refine cc_cond_f rfl hc9 ?_
          have hc9p := hc9
          have hc9p := bne_f hc9p
          refine cc_skip <| lv_next <| cc_seq <| cc_region <| wd rfl (fun st => x_load1 (v := pt qz 0) one_111 (ee st hs7_3) bk1_w7 rfl) <| wd rfl (fun st => x_load1 (v := .slice B ((filt (truths f []) ans).length) d) one_100 (ee st hs7_4) bk2_w7 rfl) <| wd rfl (fun st => x_load_all agg_105 (ee st hs7_5) bk3_w7 (by simp [ivs, ha7])) <| wm rfl (v := I ((j : Nat) : Int)) rfl ?_
          have hm2 : ans.getD j 0 = -2 := hc9p
          have hpos9 := unask_pos (f := f) (i := j) (by omega) hm2
          obtain ⟨k2, hk2⟩ : ∃ k2, k = k2 + 1 := ⟨k - 1, by omega⟩
          have hgw : gW f n (truths f []) ans k j = wst (qst f n (truths f []) k2) (truths f []) ans j 4 := by rw [hk2]; rfl
          have hwb := wst_bd f n (truths f []) (by omega) k2 ans j 4
          refine we rfl (fun st => x_call0 own_107 (ee st rfl) (am4 (ee st rfl) (ee st rfl) (ee st rfl) (ee st rfl)) (ihW k2 hk2.symm ans B d L2 j _ (hun.trans hk2) ha7 hne0 (by omega) hm2 hK2 hqz_w7 hq_w7 hl_w7 mpr_w7)) ?_
          rintro _ w10 ⟨rfl, hup10, L3, hm10, hK3⟩
          refine wd rfl (fun st => x_add (ee st rfl) (ee st rfl) ⟨by omega, by omega⟩) <| wa rfl (v := I (1 + (wst (qst f n (truths f []) k2) (truths f []) ans j 4))) rfl <| wl_end <| lv_next <| cc_seq <| cc_region <| wm rfl (v := I (1 + (wst (qst f n (truths f []) k2) (truths f []) ans j 4))) rfl <| wm rfl (v := I ((qlp f (gW f n (truths f []) ans k) ans j).2)) hs7_7 <| wd rfl (fun st => x_lss (ee st rfl) (ee st rfl)) <| wl_end <| lv_next ?_
          rcases bool_cases (decide ((1 + (wst (qst f n (truths f []) k2) (truths f []) ans j 4)) < ((qlp f (gW f n (truths f []) ans k) ans j).2))) with hc11 | hc11
          · refine cc_cond_t rfl hc11 ?_
            have hc11p := hc11
            have hc11p := of_decide_eq_true hc11p
            refine cc_region <| wm rfl (v := I ((j : Nat) : Int)) rfl <| wm rfl (v := I (1 + (wst (qst f n (truths f []) k2) (truths f []) ans j 4))) rfl <| wa rfl (v := I ((j : Nat) : Int)) rfl <| wa rfl (v := I (1 + (wst (qst f n (truths f []) k2) (truths f []) ans j 4))) rfl <| wl_end <| lv_block <| lv_next <| cc_region <| wd rfl (fun st => x_add (ee st hs7_30) (ee st rfl) ⟨by omega, by omega⟩) <| wm rfl (v := I (((j : Nat) : Int) + 1)) rfl <| wl_end ?_
            have hB_w10 : Upd r w w10 := (up_upd hB_w7 hup10)
            have hqz_w10 := (hqz_w7.upd hup10 (by omega))
            have hq_w10 := (hq_w7.upd hup10 (by omega))
            have hl_w10 := (hl_w7.updn hup10 hneB)
            have bk1_w10 := (bk1_w7.upd hup10 (by omega))
            have bk2_w10 := (bk2_w7.upd hup10 (by omega))
            have bk3_w10 := (bk3_w7.upd hup10 (by omega))
            refine lv_round (f.rows.toNat - (j + 1)) (by omega) (fun st => ?_)
            exact ⟨(j + 1), L3, rfl, by omega, hK3, (puts_size _ _).trans st.sz, (puts_defers _ _).trans st.df, (sl_puts st 0).trans hs7_0, (sl_puts st 1).trans hs7_1, (sl_puts st 2).trans hs7_2, (sl_puts st 3).trans hs7_3, (sl_puts st 4).trans hs7_4, (sl_puts st 5).trans hs7_5, (sl_puts st 10).trans hs7_10, (sl_puts st 11).trans hs7_11, (sl_puts st 12).trans hs7_12, (sl_puts st 13).trans hs7_13, (sl_puts st 14).trans hs7_14, (sl_puts st 15).trans hs7_15, (sl_puts st 16).trans hs7_16, (sl_puts st 17).trans hs7_17, (sl_puts st 18).trans hs7_18, (sl_puts st 19).trans hs7_19, (sl_puts st 20).trans hs7_20, (sl_puts st 21).trans hs7_21, (sl_puts st 22).trans hs7_22, (sl_puts st 23).trans hs7_23, (sl_puts st 24).trans hs7_24, (sl_puts st 25).trans hs7_25, (sl_puts st 26).trans hs7_26, (sl_puts st 27).trans hs7_27, (sl_puts st 28).trans hs7_28, (sl_puts st 29).trans hs7_29, (sl_puts st 6).trans (vint (by simp only [qlp_succ, if_pos hm2, hgw, if_pos hc11p])), (sl_puts st 7).trans (vint (by simp only [qlp_succ, if_pos hm2, hgw, if_pos hc11p])), (sl_puts st 30).trans (vint (by omega)), hB_w10, hqz_w10, hq_w10, hl_w10, hm10, bk1_w10, bk2_w10, bk3_w10⟩
          · refine cc_cond_f rfl hc11 ?_
            have hc11p := hc11
            have hc11p := of_decide_eq_false hc11p
            refine cc_skip <| lv_block <| lv_next <| cc_region <| wd rfl (fun st => x_add (ee st hs7_30) (ee st rfl) ⟨by omega, by omega⟩) <| wm rfl (v := I (((j : Nat) : Int) + 1)) rfl <| wl_end ?_
            have hB_w10 : Upd r w w10 := (up_upd hB_w7 hup10)
            have hqz_w10 := (hqz_w7.upd hup10 (by omega))
            have hq_w10 := (hq_w7.upd hup10 (by omega))
            have hl_w10 := (hl_w7.updn hup10 hneB)
            have bk1_w10 := (bk1_w7.upd hup10 (by omega))
            have bk2_w10 := (bk2_w7.upd hup10 (by omega))
            have bk3_w10 := (bk3_w7.upd hup10 (by omega))
            refine lv_round (f.rows.toNat - (j + 1)) (by omega) (fun st => ?_)
            exact ⟨(j + 1), L3, rfl, by omega, hK3, (puts_size _ _).trans st.sz, (puts_defers _ _).trans st.df, (sl_puts st 0).trans hs7_0, (sl_puts st 1).trans hs7_1, (sl_puts st 2).trans hs7_2, (sl_puts st 3).trans hs7_3, (sl_puts st 4).trans hs7_4, (sl_puts st 5).trans hs7_5, (sl_puts st 10).trans hs7_10, (sl_puts st 11).trans hs7_11, (sl_puts st 12).trans hs7_12, (sl_puts st 13).trans hs7_13, (sl_puts st 14).trans hs7_14, (sl_puts st 15).trans hs7_15, (sl_puts st 16).trans hs7_16, (sl_puts st 17).trans hs7_17, (sl_puts st 18).trans hs7_18, (sl_puts st 19).trans hs7_19, (sl_puts st 20).trans hs7_20, (sl_puts st 21).trans hs7_21, (sl_puts st 22).trans hs7_22, (sl_puts st 23).trans hs7_23, (sl_puts st 24).trans hs7_24, (sl_puts st 25).trans hs7_25, (sl_puts st 26).trans hs7_26, (sl_puts st 27).trans hs7_27, (sl_puts st 28).trans hs7_28, (sl_puts st 29).trans hs7_29, (sl_puts st 6).trans (hs7_6.trans (vint (by simp only [qlp_succ, if_pos hm2, hgw, if_neg hc11p]))), (sl_puts st 7).trans (hs7_7.trans (vint (by simp only [qlp_succ, if_pos hm2, hgw, if_neg hc11p]))), (sl_puts st 30).trans (vint (by omega)), hB_w10, hqz_w10, hq_w10, hl_w10, hm10, bk1_w10, bk2_w10, bk3_w10⟩
      · refine cc_cond_f rfl hc8 ?_
        have hc8p := hc8
        have hc8p := of_decide_eq_false hc8p
        refine cc_exit <| lv_then_exit <| lv_then_exit <| lv_block_hit <| lv_next <| cc_seq <| cc_region <| wm rfl (v := I ((qlp f (gW f n (truths f []) ans k) ans j).1)) hs7_6 <| wm rfl (v := I ((qlp f (gW f n (truths f []) ans k) ans j).2)) hs7_7 <| wa rfl (v := I ((qlp f (gW f n (truths f []) ans k) ans j).1)) rfl <| wa rfl (v := I ((qlp f (gW f n (truths f []) ans k) ans j).2)) rfl <| wl_end <| lv_next <| cc_ret <| lv_ret2 rfl rfl rfl ?_
        obtain rfl : j = f.rows.toNat := by omega
        refine ⟨?_, hB_w7, L2, mpr_w7, hK2⟩
        rw [qst_eq hun, if_neg (by rw [hc5]; simp)]
        rfl
theorem cQ (f : Fld) (A : Option Addr) (c : Nat) (n : Int) (q qz r : Nat) (sv : Value) (hr0 : 1 ≤ f.rows) (hr1 : f.rows ≤ 7) (hw0 : 1 ≤ f.wd) (hw1 : f.wd ≤ 3) (k : Nat) : Qs f A c n q qz r sv k := by
  induction k with
  | zero => exact fun ans B d L w h1 h2 h3 h4 k1 k2 k3 k4 => c78s f A c n q qz r sv 0 (fun k2 h => absurd h (by omega)) ans B d L w hr0 hr1 hw0 hw1 h1 h2 h3 h4 k1 k2 k3 k4
  | succ k ih =>
    have hW : Ws f A c n q qz r sv k := fun ans B d L row w h1 h2 h3 h4 h5 h6 k1 k2 k3 k4 => c107s f A c n q qz r sv k ih ans B d L row w hr0 hr1 hw0 hw1 h1 h2 h3 h4 h5 h6 k1 k2 k3 k4
    exact fun ans B d L w h1 h2 h3 h4 k1 k2 k3 k4 => c78s f A c n q qz r sv (k + 1) (fun k2 h => (by have e : k2 = k := Nat.succ.inj h; rw [e]; exact hW)) ans B d L w hr0 hr1 hw0 hw1 h1 h2 h3 h4 k1 k2 k3 k4
end Go.Proofs.Ythogdgkafaclaaa
end
