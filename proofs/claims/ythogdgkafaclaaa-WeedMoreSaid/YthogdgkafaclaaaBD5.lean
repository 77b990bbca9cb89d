import Derived.Test.YthogdgkafaclaaaBD4
import Derived.WalkKit
import Derived.KernelRfl
import Derived.WalkSpells
import Derived.WalkLawsBesides
import Derived.Maps.AppendAt
import Derived.OrdersIn
import Derived.RangeFuncIn
import Derived.RangeFuncLeaves
import Derived.RangeFuncRecord
import Derived.RangeFuncSeq
import Derived.Scope
import Derived.DeepKeys3
import Derived.Laws.CopyRow
import Derived.Laws.OwnMore
import Derived.Shelf.Sort.Plain
import Derived.Ground.Names2Prog
import Derived.Shelf.Slices.Clone
import Derived.Shelf.Slices.CompactI
import Derived.Shelf.Slices.Cells
import Derived.Shelf.Slices.In.SortNone
import Derived.Ground.SlgnProg
import Derived.Shelf.SlicesE.Clone
import Derived.Sort.OwnSortedInts
import Derived.Lib.RowBridge
import Derived.Test.YthogdgkafaclaaaProg
/-
  The contracts of the functions of the program and of the reference, and the logic that they are proved in: the base that several claims of this seat share.
-/
set_option linter.all false
section
set_option linter.unusedVariables false
set_option linter.unusedSimpArgs false
namespace Go.Proofs.Ythogdgkafaclaaa
open Go.RowKit
open AF
theorem mixedA10 : Try.prog.follows .mixedOrders = true := by kernel_rfl
attribute [local irreducible] Ex1 WL CC CW LV Ret ObOp Agg One Own
theorem a21 (K_ : Nat) (Z : Nat → Prop) (w : World) (hG : G_awake K_ = some true) :
    Ret Try.prog 21 #[] w (fun v w' => Ext w w' ∧ v = .bool true) := by
 unfold G_awake at hG
 refine ret_of_cc (N := 119) Try.func21 rfl rfl (by simp) ?_
 intro fr0 ha hdf
 clear ha
 have hp0 := Hp.refl w
 refine cc_seq <| cc_region <| wa rfl (v := .bool false) rfl <| wl_end <| lv_next <| cc_seq <| cc_region ?_
 replace hG := bind_some hG; obtain ⟨r1, hr1, hG⟩ := hG
 refine we rfl (fun st => x_call0 own_61 (ee st rfl) (am1 (ee st rfl)) (a61 K_ ([] : List Tly) none 0 (ZZ Z w.heap.size []) _ (Sl.nil eTly _ _) r1 hr1)) ?_
 rintro _ w2 ⟨hx1, ⟨_, rfl, ⟨A1_r0, c1_r0, rfl, hS1_r0⟩⟩⟩
 have hp1 : Hp w [] w2 := hp0.ext hx1
 have hS1_r0 := hS1_r0.mv (hp0.call (Nat.le_refl _))
 replace hG := bind_some hG; obtain ⟨r3, hr3, hG⟩ := hG
 refine we rfl (fun st => x_call0 own_22 (ee st rfl) (am1 (ee st rfl)) (a22 K_ r1 A1_r0 c1_r0 (ZZ Z w.heap.size []) _ hS1_r0 r3 hr3)) ?_
 rintro _ w4 ⟨hx3, _, _, rfl, ⟨A3_ra, c3_ra, rfl, hS3_ra⟩, rfl⟩
 have hp2 : Hp w [] w4 := hp1.ext hx3
 have hS3_ra := hS3_ra.mv (hp1.call (Nat.le_refl _))
 refine wm rfl (v := .tuple #[.slice A3_ra r3.1.length c3_ra, I r3.2]) rfl <| wd rfl (fun st => x_extract (v := .slice A3_ra r3.1.length c3_ra) (ee st rfl) rfl) <| wd rfl (fun st => x_extract (v := I r3.2) (ee st rfl) rfl) <| wa rfl (v := .slice A3_ra r3.1.length c3_ra) rfl <| wa rfl (v := I r3.2) rfl <| wl_end <| lv_next <| cc_seq <| cc_region ?_
 replace hG := bind_some hG; obtain ⟨r5, hr5, hG⟩ := hG
 refine we rfl (fun st => x_call0 own_61 (ee st rfl) (am1 (ee st rfl)) (a61 K_ ([] : List Tly) none 0 (ZZ Z w.heap.size []) _ (Sl.nil eTly _ _) r5 hr5)) ?_
 rintro _ w6 ⟨hx5, ⟨_, rfl, ⟨A5_r0, c5_r0, rfl, hS5_r0⟩⟩⟩
 have hp3 : Hp w [] w6 := hp2.ext hx5
 have hS5_r0 := hS5_r0.mv (hp2.call (Nat.le_refl _))
 replace hG := bind_some hG; obtain ⟨r7, hr7, hG⟩ := hG
 refine we rfl (fun st => x_call0 own_27 (ee st rfl) (am2 (ee st rfl) (ee st rfl)) (a27 K_ r5 3 A5_r0 c5_r0 (ZZ Z w.heap.size []) _ hS5_r0 r7 hr7)) ?_
 rintro _ w8 ⟨hx7, _, _, rfl, ⟨A7_ra, c7_ra, rfl, hS7_ra⟩, rfl⟩
 have hp4 : Hp w [] w8 := hp3.ext hx7
 have hS7_ra := hS7_ra.mv (hp3.call (Nat.le_refl _))
 refine wm rfl (v := .tuple #[.slice A7_ra r7.1.length c7_ra, I r7.2]) rfl <| wd rfl (fun st => x_extract (v := .slice A7_ra r7.1.length c7_ra) (ee st rfl) rfl) <| wd rfl (fun st => x_extract (v := I r7.2) (ee st rfl) rfl) <| wa rfl (v := .slice A7_ra r7.1.length c7_ra) rfl <| wa rfl (v := I r7.2) rfl <| wl_end <| lv_next <| cc_seq <| cc_region ?_
 replace hG := bind_some hG; obtain ⟨r9, hr9, hG⟩ := hG
 refine we rfl (fun st => x_call0 own_62 (ee st rfl) am0 (a62 K_ ZA _ r9 hr9)) ?_
 rintro _ w10 ⟨hx9, ⟨_, rfl, rfl⟩⟩
 have hp5 : Hp w [] w10 := hp4.ext hx9
 refine we rfl (fun st => x_buildSlice (e := 95) (vs := #[(0, .agg #[I r9.who, I r9.fr, I r9.to, I r9.lo, I r9.hi])]) (cs := #[I r9.who, I r9.fr, I r9.to, I r9.lo, I r9.hi]) (pm1 (ee st rfl)) (by kernel_rfl)) ?_
 rintro _ w11 ⟨b11, rfl, nb11⟩
 have hp6 : Hp w [some b11] w11 := hp5.new nb11.gr (Nat.le_of_eq nb11.b_eq.symm) (Nat.lt_of_lt_of_eq (Nat.lt_succ_self _) nb11.sz.symm)
 have hp7 : Hp w [] w11 := hp6.erase 0
 have bk11_7 : Bk w11 b11 95 #[I r9.who, I r9.fr, I r9.to, I r9.lo, I r9.hi] := nb11.bk
 have bk11_z : Sl eTly w11 (ZZ Z w.heap.size []) (some ⟨b11, 0, none⟩) 1 [r9] := sl_bk (xs := [r9]) (css := [[I r9.who, I r9.fr, I r9.to, I r9.lo, I r9.hi]]) bk11_7 (hp6.lit 0 rfl) ⟨rfl, trivial⟩ rfl (Nat.le_refl _)
 replace hG := bind_some hG; obtain ⟨r12, hr12, hG⟩ := hG
 refine we rfl (fun st => x_call0 own_61 (ee st rfl) (am1 (ee st rfl)) (a61 K_ [r9] (some ⟨b11, 0, none⟩) 1 (ZZ Z w.heap.size []) _ bk11_z r12 hr12)) ?_
 rintro _ w13 ⟨hx12, ⟨_, rfl, ⟨A12_r0, c12_r0, rfl, hS12_r0⟩⟩⟩
 have hp8 : Hp w [] w13 := hp7.ext hx12
 have hS12_r0 := hS12_r0.mv (hp7.call (Nat.le_refl _))
 replace hG := bind_some hG; obtain ⟨r14, hr14, hG⟩ := hG
 refine we rfl (fun st => x_call0 own_42 (ee st rfl) (am2 (ee st rfl) (ee st rfl)) (a42 K_ r12 0 A12_r0 c12_r0 (ZZ Z w.heap.size []) _ hS12_r0 r14 hr14)) ?_
 rintro _ w15 ⟨hx14, _, _, rfl, ⟨A14_ra, c14_ra, rfl, hS14_ra⟩, rfl⟩
 have hp9 : Hp w [] w15 := hp8.ext hx14
 have hS14_ra := hS14_ra.mv (hp8.call (Nat.le_refl _))
 refine wm rfl (v := .tuple #[.slice A14_ra r14.1.length c14_ra, I r14.2]) rfl <| wd rfl (fun st => x_extract (v := .slice A14_ra r14.1.length c14_ra) (ee st rfl) rfl) <| wd rfl (fun st => x_extract (v := I r14.2) (ee st rfl) rfl) <| wa rfl (v := .slice A14_ra r14.1.length c14_ra) rfl <| wa rfl (v := I r14.2) rfl <| wl_end <| lv_next <| cc_seq <| cc_region ?_
 replace hG := bind_some hG; obtain ⟨r16, hr16, hG⟩ := hG
 refine we rfl (fun st => x_call0 own_61 (ee st rfl) (am1 (ee st rfl)) (a61 K_ ([] : List Tly) none 0 (ZZ Z w.heap.size []) _ (Sl.nil eTly _ _) r16 hr16)) ?_
 rintro _ w17 ⟨hx16, ⟨_, rfl, ⟨A16_r0, c16_r0, rfl, hS16_r0⟩⟩⟩
 have hp10 : Hp w [] w17 := hp9.ext hx16
 have hS16_r0 := hS16_r0.mv (hp9.call (Nat.le_refl _))
 replace hG := bind_some hG; obtain ⟨r18, hr18, hG⟩ := hG
 refine we rfl (fun st => x_call0 own_32 (ee st rfl) (am2 (ee st rfl) (ee st rfl)) (a32 K_ r16 0 A16_r0 c16_r0 ZA _ hS16_r0.all r18 hr18)) ?_
 rintro _ w19 ⟨hx18, _, _, _, rfl, rfl, rfl, rfl⟩
 have hp11 : Hp w [] w19 := hp10.ext hx18
 refine wm rfl (v := .tuple #[I r18.1, I r18.2.1, I r18.2.2]) rfl <| wd rfl (fun st => x_extract (v := I r18.1) (ee st rfl) rfl) <| wd rfl (fun st => x_extract (v := I r18.2.1) (ee st rfl) rfl) <| wd rfl (fun st => x_extract (v := I r18.2.2) (ee st rfl) rfl) <| wa rfl (v := I r18.1) rfl <| wa rfl (v := I r18.2.1) rfl <| wa rfl (v := I r18.2.2) rfl <| wl_end <| lv_next <| cc_seq <| cc_region ?_
 replace hG := bind_some hG; obtain ⟨r20, hr20, hG⟩ := hG
 refine we rfl (fun st => x_call0 own_63 (ee st rfl) am0 (a63 K_ ZA _ r20 hr20)) ?_
 rintro _ w21 ⟨hx20, ⟨_, rfl, rfl⟩⟩
 have hp12 : Hp w [] w21 := hp11.ext hx20
 refine we rfl (fun st => x_buildSlice (e := 95) (vs := #[(0, .agg #[I r20.who, I r20.fr, I r20.to, I r20.lo, I r20.hi])]) (cs := #[I r20.who, I r20.fr, I r20.to, I r20.lo, I r20.hi]) (pm1 (ee st rfl)) (by kernel_rfl)) ?_
 rintro _ w22 ⟨b22, rfl, nb22⟩
 have hp13 : Hp w [some b22] w22 := hp12.new nb22.gr (Nat.le_of_eq nb22.b_eq.symm) (Nat.lt_of_lt_of_eq (Nat.lt_succ_self _) nb22.sz.symm)
 have hp14 : Hp w [] w22 := hp13.erase 0
 have bk22_14 : Bk w22 b22 95 #[I r20.who, I r20.fr, I r20.to, I r20.lo, I r20.hi] := nb22.bk
 have bk22_z : Sl eTly w22 (ZZ Z w.heap.size []) (some ⟨b22, 0, none⟩) 1 [r20] := sl_bk (xs := [r20]) (css := [[I r20.who, I r20.fr, I r20.to, I r20.lo, I r20.hi]]) bk22_14 (hp13.lit 0 rfl) ⟨rfl, trivial⟩ rfl (Nat.le_refl _)
 replace hG := bind_some hG; obtain ⟨r23, hr23, hG⟩ := hG
 refine we rfl (fun st => x_call0 own_61 (ee st rfl) (am1 (ee st rfl)) (a61 K_ [r20] (some ⟨b22, 0, none⟩) 1 (ZZ Z w.heap.size []) _ bk22_z r23 hr23)) ?_
 rintro _ w24 ⟨hx23, ⟨_, rfl, ⟨A23_r0, c23_r0, rfl, hS23_r0⟩⟩⟩
 have hp15 : Hp w [] w24 := hp14.ext hx23
 have hS23_r0 := hS23_r0.mv (hp14.call (Nat.le_refl _))
 replace hG := bind_some hG; obtain ⟨r25, hr25, hG⟩ := hG
 refine we rfl (fun st => x_call0 own_34 (ee st rfl) (am1 (ee st rfl)) (a34 K_ r23 A23_r0 c23_r0 ZA _ hS23_r0.all r25 hr25)) ?_
 rintro _ w26 ⟨hx25, _, _, rfl, rfl, rfl⟩
 have hp16 : Hp w [] w26 := hp15.ext hx25
 refine wm rfl (v := .tuple #[I r25.1, I r25.2]) rfl <| wd rfl (fun st => x_extract (v := I r25.1) (ee st rfl) rfl) <| wd rfl (fun st => x_extract (v := I r25.2) (ee st rfl) rfl) <| wa rfl (v := I r25.1) rfl <| wa rfl (v := I r25.2) rfl <| wl_end <| lv_next <| cc_seq <| cc_region ?_
 replace hG := bind_some hG; obtain ⟨r27, hr27, hG⟩ := hG
 refine we rfl (fun st => x_call0 own_63 (ee st rfl) am0 (a63 K_ ZA _ r27 hr27)) ?_
 rintro _ w28 ⟨hx27, ⟨_, rfl, rfl⟩⟩
 have hp17 : Hp w [] w28 := hp16.ext hx27
 refine we rfl (fun st => x_buildSlice (e := 95) (vs := #[(0, .agg #[I r27.who, I r27.fr, I r27.to, I r27.lo, I r27.hi])]) (cs := #[I r27.who, I r27.fr, I r27.to, I r27.lo, I r27.hi]) (pm1 (ee st rfl)) (by kernel_rfl)) ?_
 rintro _ w29 ⟨b29, rfl, nb29⟩
 have hp18 : Hp w [some b29] w29 := hp17.new nb29.gr (Nat.le_of_eq nb29.b_eq.symm) (Nat.lt_of_lt_of_eq (Nat.lt_succ_self _) nb29.sz.symm)
 have hp19 : Hp w [] w29 := hp18.erase 0
 have bk29_19 : Bk w29 b29 95 #[I r27.who, I r27.fr, I r27.to, I r27.lo, I r27.hi] := nb29.bk
 have bk29_z : Sl eTly w29 (ZZ Z w.heap.size []) (some ⟨b29, 0, none⟩) 1 [r27] := sl_bk (xs := [r27]) (css := [[I r27.who, I r27.fr, I r27.to, I r27.lo, I r27.hi]]) bk29_19 (hp18.lit 0 rfl) ⟨rfl, trivial⟩ rfl (Nat.le_refl _)
 replace hG := bind_some hG; obtain ⟨r30, hr30, hG⟩ := hG
 refine we rfl (fun st => x_call0 own_61 (ee st rfl) (am1 (ee st rfl)) (a61 K_ [r27] (some ⟨b29, 0, none⟩) 1 (ZZ Z w.heap.size []) _ bk29_z r30 hr30)) ?_
 rintro _ w31 ⟨hx30, ⟨_, rfl, ⟨A30_r0, c30_r0, rfl, hS30_r0⟩⟩⟩
 have hp20 : Hp w [] w31 := hp19.ext hx30
 have hS30_r0 := hS30_r0.mv (hp19.call (Nat.le_refl _))
 replace hG := bind_some hG; obtain ⟨r32, hr32, hG⟩ := hG
 refine we rfl (fun st => x_call0 own_35 (ee st rfl) (am1 (ee st rfl)) (a35 K_ r30 A30_r0 c30_r0 (ZZ Z w.heap.size []) _ hS30_r0 r32 hr32)) ?_
 rintro _ w33 ⟨hx32, _, _, rfl, ⟨A32_ra, c32_ra, rfl, hS32_ra⟩, rfl⟩
 have hp21 : Hp w [] w33 := hp20.ext hx32
 have hS32_ra := hS32_ra.mv (hp20.call (Nat.le_refl _))
 refine wm rfl (v := .tuple #[.slice A32_ra r32.1.length c32_ra, I r32.2]) rfl <| wd rfl (fun st => x_extract (v := .slice A32_ra r32.1.length c32_ra) (ee st rfl) rfl) <| wd rfl (fun st => x_extract (v := I r32.2) (ee st rfl) rfl) <| wa rfl (v := .slice A32_ra r32.1.length c32_ra) rfl <| wa rfl (v := I r32.2) rfl <| wl_end <| lv_next <| cc_seq ?_
 rcases bool_cases (r3.2 == 0) with hc35 | hc35
 ·replace hG := cond_t hG hc35
  rcases bool_cases ((r3.1.length : Int) == 2) with hc36 | hc36
  ·replace hG := cond_t hG hc36
   replace hG := idx_bind hG; obtain ⟨i37, x37, hi37, hx37, hl37, hG⟩ := hG
   have hS3_ra_21 : Sl eR w33 (ZZ Z w.heap.size []) A3_ra c3_ra r3.1 := (((((((((((((((((((hS3_ra.mv (mv_ext hx5)).mv (mv_ext hx7)).mv (mv_ext hx9)).mv (mv_new nb11.gr (Nat.le_of_eq nb11.b_eq.symm))).mv (mv_erase 0)).mv (mv_ext hx12)).mv (mv_ext hx14)).mv (mv_ext hx16)).mv (mv_ext hx18)).mv (mv_ext hx20)).mv (mv_new nb22.gr (Nat.le_of_eq nb22.b_eq.symm))).mv (mv_erase 0)).mv (mv_ext hx23)).mv (mv_ext hx25)).mv (mv_ext hx27)).mv (mv_new nb29.gr (Nat.le_of_eq nb29.b_eq.symm))).mv (mv_erase 0)).mv (mv_ext hx30)).mv (mv_ext hx32))
   obtain ⟨b37, o37, _, hA37, rfl, hz37⟩ := Sl.elem hS3_ra_21 (by decide) hx37
   replace hG := bind_some hG; obtain ⟨r38, hr38, hG⟩ := hG
   rcases bool_cases ([x37.1, x37.2] == [r38.1, r38.2]) with hc39 | hc39
   ·replace hG := cond_t hG hc39
    replace hG := idx_bind hG; obtain ⟨i40, x40, hi40, hx40, hl40, hG⟩ := hG
    obtain ⟨b40, o40, _, hA40, rfl, hz40⟩ := Sl.elem hS3_ra_21 (by decide) hx40
    replace hG := bind_some hG; obtain ⟨r41, hr41, hG⟩ := hG
    rcases bool_cases ([x40.1, x40.2] == [r41.1, r41.2]) with hc42 | hc42
    ·replace hG := cond_t hG hc42
     rcases bool_cases (r7.2 == 0) with hc43 | hc43
     ·replace hG := cond_t hG hc43
      have hS7_ra_21 : Sl (eInt .i64) w33 (ZZ Z w.heap.size []) A7_ra c7_ra r7.1 := (((((((((((((((((hS7_ra.mv (mv_ext hx9)).mv (mv_new nb11.gr (Nat.le_of_eq nb11.b_eq.symm))).mv (mv_erase 0)).mv (mv_ext hx12)).mv (mv_ext hx14)).mv (mv_ext hx16)).mv (mv_ext hx18)).mv (mv_ext hx20)).mv (mv_new nb22.gr (Nat.le_of_eq nb22.b_eq.symm))).mv (mv_erase 0)).mv (mv_ext hx23)).mv (mv_ext hx25)).mv (mv_ext hx27)).mv (mv_new nb29.gr (Nat.le_of_eq nb29.b_eq.symm))).mv (mv_erase 0)).mv (mv_ext hx30)).mv (mv_ext hx32))
      replace hG := bind_some hG; obtain ⟨r44, hr44, hG⟩ := hG
      rcases bool_cases (r44) with hc45 | hc45
      ·replace hG := cond_t hG hc45
       rcases bool_cases (r14.2 == 0) with hc46 | hc46
       ·replace hG := cond_t hG hc46
        have hS14_ra_21 : Sl (eInt .i64) w33 (ZZ Z w.heap.size []) A14_ra c14_ra r14.1 := ((((((((((((hS14_ra.mv (mv_ext hx16)).mv (mv_ext hx18)).mv (mv_ext hx20)).mv (mv_new nb22.gr (Nat.le_of_eq nb22.b_eq.symm))).mv (mv_erase 0)).mv (mv_ext hx23)).mv (mv_ext hx25)).mv (mv_ext hx27)).mv (mv_new nb29.gr (Nat.le_of_eq nb29.b_eq.symm))).mv (mv_erase 0)).mv (mv_ext hx30)).mv (mv_ext hx32))
        replace hG := bind_some hG; obtain ⟨r47, hr47, hG⟩ := hG
        rcases bool_cases (r47) with hc48 | hc48
        ·replace hG := cond_t hG hc48
         rcases bool_cases (r18.2.2 == 0) with hc49 | hc49
         ·replace hG := cond_t hG hc49
          rcases bool_cases (r18.1 == 0) with hc50 | hc50
          ·replace hG := cond_t hG hc50
           rcases bool_cases (r18.2.1 == 3) with hc51 | hc51
           ·replace hG := cond_t hG hc51
            rcases bool_cases (r25.2 == 0) with hc52 | hc52
            ·replace hG := cond_t hG hc52
             rcases bool_cases (r25.1 == 2) with hc53 | hc53
             ·replace hG := cond_t hG hc53
              rcases bool_cases (r32.2 == 0) with hc54 | hc54
              ·replace hG := cond_t hG hc54
               replace hG := bind_some hG; obtain ⟨r55, hr55, hG⟩ := hG
               refine cc_anyM0 68 [Kc (I r3.2), Kc (.bool (r3.2 == 0)), Kc (.bool (r3.2 == 0)), Kc (.slice A3_ra r3.1.length c3_ra), Kc (I (r3.1.length : Int)), Kc (.bool ((r3.1.length : Int) == 2)), Kc (.bool ((r3.1.length : Int) == 2)), Kc (.bool ((r3.1.length : Int) == 2)), Kc (.slice A3_ra r3.1.length c3_ra), Kc (pt b37 (o37 + i37 * 2)), Kc (.agg #[I x37.1, I x37.2]), Kc (.agg #[I r38.1, I r38.2]), Kc (.bool ([x37.1, x37.2] == [r38.1, r38.2])), Kc (.bool ([x37.1, x37.2] == [r38.1, r38.2])), Kc (.bool ([x37.1, x37.2] == [r38.1, r38.2])), Kc (.slice A3_ra r3.1.length c3_ra), Kc (pt b40 (o40 + i40 * 2)), Kc (.agg #[I x40.1, I x40.2]), Kc (.agg #[I r41.1, I r41.2]), Kc (.bool ([x40.1, x40.2] == [r41.1, r41.2])), Kc (.bool ([x40.1, x40.2] == [r41.1, r41.2])), Kc (.bool ([x40.1, x40.2] == [r41.1, r41.2])), Kc (I r7.2), Kc (.bool (r7.2 == 0)), Kc (.bool (r7.2 == 0)), Kc (.bool (r7.2 == 0)), Kc (.slice A7_ra r7.1.length c7_ra), Kn w33.heap.size (fun b => .slice (some ⟨b, 0, none⟩) 2 2) 3 #[I 0, I 1], Kc (.bool r44), Kc (.bool r44), Kc (.bool r44), Kc (I r14.2), Kc (.bool (r14.2 == 0)), Kc (.bool (r14.2 == 0)), Kc (.bool (r14.2 == 0)), Kc (.slice A14_ra r14.1.length c14_ra), Kn w33.heap.size (fun b => .slice (some ⟨b, 0, none⟩) 2 2) 3 #[I 2, I 3], Kc (.bool r47), Kc (.bool r47), Kc (.bool r47), Kc (I r18.2.2), Kc (.bool (r18.2.2 == 0)), Kc (.bool (r18.2.2 == 0)), Kc (.bool (r18.2.2 == 0)), Kc (I r18.1), Kc (.bool (r18.1 == 0)), Kc (.bool (r18.1 == 0)), Kc (.bool (r18.1 == 0)), Kc (I r18.2.1), Kc (.bool (r18.2.1 == 3)), Kc (.bool (r18.2.1 == 3)), Kc (.bool (r18.2.1 == 3)), Kc (I r25.2), Kc (.bool (r25.2 == 0)), Kc (.bool (r25.2 == 0)), Kc (.bool (r25.2 == 0)), Kc (I r25.1), Kc (.bool (r25.1 == 2)), Kc (.bool (r25.1 == 2)), Kc (.bool (r25.1 == 2)), Kc (I r32.2), Kc (.bool (r32.2 == 0)), Kc (.bool (r32.2 == 0)), Kc (.bool (r32.2 == 0)), Kc (.slice A32_ra r32.1.length c32_ra), Kn w33.heap.size (fun b => .slice (some ⟨b, 0, none⟩) 1 1) 3 #[I 0], Kc (.bool r55), Kc (.bool r55)] mixedA10 rfl rfl
                   (obsN_cons (od rfl (fun _ => rfl) (fun K => x_move (v := I r3.2) (es (t := 2) (v := I r3.2) ((K.out 2 rfl).trans rfl))))
                   (obsN_cons (od rfl (fun _ => rfl) (fun K => x_eql (es (t := 51) (v := I r3.2) (K.dep 0 51 rfl rfl)) (ec (v := I 0))))
                   (obsN_cons (od rfl (fun _ => rfl) (fun K => x_move (v := .bool (r3.2 == 0)) (es (t := 52) (v := .bool (r3.2 == 0)) (K.dep 1 52 rfl rfl))))
                   (obsN_cons (ob_detg rfl rfl rfl (fun _ => rfl) (fun a' w' ph K => (guard_eq (show sl a' 53 = .bool (r3.2 == 0) from K.dep 2 53 rfl rfl) hc35)) (fun a' w' ph K => x_move (v := .slice A3_ra r3.1.length c3_ra) (es (t := 1) (v := .slice A3_ra r3.1.length c3_ra) ((K.out 1 rfl).trans rfl))))
                   (obsN_cons (ob_detg rfl rfl rfl (fun _ => rfl) (fun a' w' ph K => (guard_eq (show sl a' 53 = .bool (r3.2 == 0) from K.dep 2 53 rfl rfl) hc35)) (fun a' w' ph K => x_len Try.underlying29 (es (t := 54) (v := .slice A3_ra r3.1.length c3_ra) (K.dep 3 54 rfl rfl))))
                   (obsN_cons (ob_detg rfl rfl rfl (fun _ => rfl) (fun a' w' ph K => (guard_eq (show sl a' 53 = .bool (r3.2 == 0) from K.dep 2 53 rfl rfl) hc35)) (fun a' w' ph K => x_eql (es (t := 55) (v := I (r3.1.length : Int)) (K.dep 4 55 rfl rfl)) (ec (v := I 2))))
                   (obsN_cons (od rfl (fun _ => rfl) (fun K => x_pick_t (v := .bool ((r3.1.length : Int) == 2)) (es (t := 53) (v := .bool (r3.2 == 0)) (K.dep 2 53 rfl rfl)) hc35 (es (t := 56) (v := .bool ((r3.1.length : Int) == 2)) (K.dep 5 56 rfl rfl))))
                   (obsN_cons (od rfl (fun _ => rfl) (fun K => x_move (v := .bool ((r3.1.length : Int) == 2)) (es (t := 57) (v := .bool ((r3.1.length : Int) == 2)) (K.dep 6 57 rfl rfl))))
                   (obsN_cons (ob_detg rfl rfl rfl (fun _ => rfl) (fun a' w' ph K => (guard_eq (show sl a' 58 = .bool ((r3.1.length : Int) == 2) from K.dep 7 58 rfl rfl) hc36)) (fun a' w' ph K => x_move (v := .slice A3_ra r3.1.length c3_ra) (es (t := 1) (v := .slice A3_ra r3.1.length c3_ra) ((K.out 1 rfl).trans rfl))))
                   (obsN_cons (ob_detg rfl rfl rfl (fun _ => rfl) (fun a' w' ph K => (guard_eq (show sl a' 58 = .bool ((r3.1.length : Int) == 2) from K.dep 7 58 rfl rfl) hc36)) (fun a' w' ph K => x_indexAddrN (k := i37) Try.underlying29 sz_33 (es (t := 59) (v := .slice A3_ra r3.1.length c3_ra) (K.dep 8 59 rfl rfl)) hA37 (ec (v := I 0)) hi37 hl37))
                   (obsN_cons (ob_detg rfl rfl rfl (fun _ => rfl) (fun a' w' ph K => (guard_eq (show sl a' 58 = .bool ((r3.1.length : Int) == 2) from K.dep 7 58 rfl rfl) hc36)) (fun a' w' ph K => x_load_zn0 (l := [I x37.1, I x37.2]) agg_33 (es (t := 60) (v := pt b37 (o37 + i37 * 2)) (K.dep 9 60 rfl rfl)) (hz37.mv (mv_ext K.phT)) rfl rfl))
                   (obsN_cons (ob_extg rfl rfl rfl (fun a' w' ph K => (guard_eq (show sl a' 58 = .bool ((r3.1.length : Int) == 2) from K.dep 7 58 rfl rfl) hc36)) (fun a' w' ph K => (x_call0 own_50 rfl (am2 (ec (v := I 2)) (ec (v := I 3))) (a50 K_ 2 3 ZA _ r38 hr38)).mono (fun _ _ h => ⟨(by obtain ⟨_, rfl, rfl⟩ := h.2; rfl), h.1⟩)))
                   (obsN_cons (ob_detg rfl rfl rfl (fun _ => rfl) (fun a' w' ph K => (guard_eq (show sl a' 58 = .bool ((r3.1.length : Int) == 2) from K.dep 7 58 rfl rfl) hc36)) (fun a' w' ph K => x_eqA (x1 := [x37.1, x37.2]) (x2 := [r38.1, r38.2]) keq_33 eqg_33 (es (t := 61) (v := .agg #[I x37.1, I x37.2]) (K.dep 10 61 rfl rfl)) (es (t := 62) (v := .agg #[I r38.1, I r38.2]) (K.dep 11 62 rfl rfl)) rfl rfl rfl rfl))
                   (obsN_cons (od rfl (fun _ => rfl) (fun K => x_pick_t (v := .bool ([x37.1, x37.2] == [r38.1, r38.2])) (es (t := 58) (v := .bool ((r3.1.length : Int) == 2)) (K.dep 7 58 rfl rfl)) hc36 (es (t := 63) (v := .bool ([x37.1, x37.2] == [r38.1, r38.2])) (K.dep 12 63 rfl rfl))))
                   (obsN_cons (od rfl (fun _ => rfl) (fun K => x_move (v := .bool ([x37.1, x37.2] == [r38.1, r38.2])) (es (t := 64) (v := .bool ([x37.1, x37.2] == [r38.1, r38.2])) (K.dep 13 64 rfl rfl))))
                   (obsN_cons (ob_detg rfl rfl rfl (fun _ => rfl) (fun a' w' ph K => (guard_eq (show sl a' 65 = .bool ([x37.1, x37.2] == [r38.1, r38.2]) from K.dep 14 65 rfl rfl) hc39)) (fun a' w' ph K => x_move (v := .slice A3_ra r3.1.length c3_ra) (es (t := 1) (v := .slice A3_ra r3.1.length c3_ra) ((K.out 1 rfl).trans rfl))))
                   (obsN_cons (ob_detg rfl rfl rfl (fun _ => rfl) (fun a' w' ph K => (guard_eq (show sl a' 65 = .bool ([x37.1, x37.2] == [r38.1, r38.2]) from K.dep 14 65 rfl rfl) hc39)) (fun a' w' ph K => x_indexAddrN (k := i40) Try.underlying29 sz_33 (es (t := 66) (v := .slice A3_ra r3.1.length c3_ra) (K.dep 15 66 rfl rfl)) hA40 (ec (v := I 1)) hi40 hl40))
                   (obsN_cons (ob_detg rfl rfl rfl (fun _ => rfl) (fun a' w' ph K => (guard_eq (show sl a' 65 = .bool ([x37.1, x37.2] == [r38.1, r38.2]) from K.dep 14 65 rfl rfl) hc39)) (fun a' w' ph K => x_load_zn0 (l := [I x40.1, I x40.2]) agg_33 (es (t := 67) (v := pt b40 (o40 + i40 * 2)) (K.dep 16 67 rfl rfl)) (hz40.mv (mv_ext K.phT)) rfl rfl))
                   (obsN_cons (ob_extg rfl rfl rfl (fun a' w' ph K => (guard_eq (show sl a' 65 = .bool ([x37.1, x37.2] == [r38.1, r38.2]) from K.dep 14 65 rfl rfl) hc39)) (fun a' w' ph K => (x_call0 own_50 rfl (am2 (ec (v := I 1)) (ec (v := I 2))) (a50 K_ 1 2 ZA _ r41 hr41)).mono (fun _ _ h => ⟨(by obtain ⟨_, rfl, rfl⟩ := h.2; rfl), h.1⟩)))
                   (obsN_cons (ob_detg rfl rfl rfl (fun _ => rfl) (fun a' w' ph K => (guard_eq (show sl a' 65 = .bool ([x37.1, x37.2] == [r38.1, r38.2]) from K.dep 14 65 rfl rfl) hc39)) (fun a' w' ph K => x_eqA (x1 := [x40.1, x40.2]) (x2 := [r41.1, r41.2]) keq_33 eqg_33 (es (t := 68) (v := .agg #[I x40.1, I x40.2]) (K.dep 17 68 rfl rfl)) (es (t := 69) (v := .agg #[I r41.1, I r41.2]) (K.dep 18 69 rfl rfl)) rfl rfl rfl rfl))
                   (obsN_cons (od rfl (fun _ => rfl) (fun K => x_pick_t (v := .bool ([x40.1, x40.2] == [r41.1, r41.2])) (es (t := 65) (v := .bool ([x37.1, x37.2] == [r38.1, r38.2])) (K.dep 14 65 rfl rfl)) hc39 (es (t := 70) (v := .bool ([x40.1, x40.2] == [r41.1, r41.2])) (K.dep 19 70 rfl rfl))))
                   (obsN_cons (od rfl (fun _ => rfl) (fun K => x_move (v := .bool ([x40.1, x40.2] == [r41.1, r41.2])) (es (t := 71) (v := .bool ([x40.1, x40.2] == [r41.1, r41.2])) (K.dep 20 71 rfl rfl))))
                   (obsN_cons (ob_detg rfl rfl rfl (fun _ => rfl) (fun a' w' ph K => (guard_eq (show sl a' 72 = .bool ([x40.1, x40.2] == [r41.1, r41.2]) from K.dep 21 72 rfl rfl) hc42)) (fun a' w' ph K => x_move (v := I r7.2) (es (t := 4) (v := I r7.2) ((K.out 4 rfl).trans rfl))))
                   (obsN_cons (ob_detg rfl rfl rfl (fun _ => rfl) (fun a' w' ph K => (guard_eq (show sl a' 72 = .bool ([x40.1, x40.2] == [r41.1, r41.2]) from K.dep 21 72 rfl rfl) hc42)) (fun a' w' ph K => x_eql (es (t := 73) (v := I r7.2) (K.dep 22 73 rfl rfl)) (ec (v := I 0))))
                   (obsN_cons (od rfl (fun _ => rfl) (fun K => x_pick_t (v := .bool (r7.2 == 0)) (es (t := 72) (v := .bool ([x40.1, x40.2] == [r41.1, r41.2])) (K.dep 21 72 rfl rfl)) hc42 (es (t := 74) (v := .bool (r7.2 == 0)) (K.dep 23 74 rfl rfl))))
                   (obsN_cons (od rfl (fun _ => rfl) (fun K => x_move (v := .bool (r7.2 == 0)) (es (t := 75) (v := .bool (r7.2 == 0)) (K.dep 24 75 rfl rfl))))
                   (obsN_cons (ob_detg rfl rfl rfl (fun _ => rfl) (fun a' w' ph K => (guard_eq (show sl a' 76 = .bool (r7.2 == 0) from K.dep 25 76 rfl rfl) hc43)) (fun a' w' ph K => x_move (v := .slice A7_ra r7.1.length c7_ra) (es (t := 3) (v := .slice A7_ra r7.1.length c7_ra) ((K.out 3 rfl).trans rfl))))
                   (obsN_cons (ob_extg rfl rfl rfl (fun a' w' ph K => (guard_eq (show sl a' 76 = .bool (r7.2 == 0) from K.dep 25 76 rfl rfl) hc43)) (fun a' w' ph K => (x_buildSlice (e := 3) (vs := #[(0, I 0), (1, I 1)]) (cs := #[I 0, I 1]) (pm2 (ec (v := I 0)) (ec (v := I 1))) (by kernel_rfl)).mono (fun u w'' hh => kn_mk K.phT.size hh)))
                   (obsN_cons (ob_extg rfl rfl rfl (fun a' w' ph K => (guard_eq (show sl a' 76 = .bool (r7.2 == 0) from K.dep 25 76 rfl rfl) hc43)) (fun a' w' ph K => match K.dep 27 78 rfl rfl with | ⟨bb34_27, e34_27, l34_27, k34_27⟩ => (x_call0 own_30 rfl (am2 (es (t := 77) (v := .slice A7_ra r7.1.length c7_ra) (K.dep 26 77 rfl rfl)) (es (t := 78) (v := .slice (some ⟨bb34_27, 0, none⟩) 2 2) e34_27)) (a30 K_ r7.1 [0, 1] A7_ra c7_ra (some ⟨bb34_27, 0, none⟩) 2 ZA _ (hS7_ra_21.mv (mv_ext K.phT)).all (sl_bk (xs := [0, 1]) (css := [[I 0], [I 1]]) k34_27 trivial ⟨rfl, rfl, trivial⟩ rfl (Nat.le_refl _)) r44 hr44)).mono (fun _ _ h => ⟨h.2, h.1⟩)))
                   (obsN_cons (od rfl (fun _ => rfl) (fun K => x_pick_t (v := .bool r44) (es (t := 76) (v := .bool (r7.2 == 0)) (K.dep 25 76 rfl rfl)) hc43 (es (t := 79) (v := .bool r44) (K.dep 28 79 rfl rfl))))
                   (obsN_cons (od rfl (fun _ => rfl) (fun K => x_move (v := .bool r44) (es (t := 80) (v := .bool r44) (K.dep 29 80 rfl rfl))))
                   (obsN_cons (ob_detg rfl rfl rfl (fun _ => rfl) (fun a' w' ph K => (guard_eq (show sl a' 81 = .bool r44 from K.dep 30 81 rfl rfl) hc45)) (fun a' w' ph K => x_move (v := I r14.2) (es (t := 6) (v := I r14.2) ((K.out 6 rfl).trans rfl))))
                   (obsN_cons (ob_detg rfl rfl rfl (fun _ => rfl) (fun a' w' ph K => (guard_eq (show sl a' 81 = .bool r44 from K.dep 30 81 rfl rfl) hc45)) (fun a' w' ph K => x_eql (es (t := 82) (v := I r14.2) (K.dep 31 82 rfl rfl)) (ec (v := I 0))))
                   (obsN_cons (od rfl (fun _ => rfl) (fun K => x_pick_t (v := .bool (r14.2 == 0)) (es (t := 81) (v := .bool r44) (K.dep 30 81 rfl rfl)) hc45 (es (t := 83) (v := .bool (r14.2 == 0)) (K.dep 32 83 rfl rfl))))
                   (obsN_cons (od rfl (fun _ => rfl) (fun K => x_move (v := .bool (r14.2 == 0)) (es (t := 84) (v := .bool (r14.2 == 0)) (K.dep 33 84 rfl rfl))))
                   (obsN_cons (ob_detg rfl rfl rfl (fun _ => rfl) (fun a' w' ph K => (guard_eq (show sl a' 85 = .bool (r14.2 == 0) from K.dep 34 85 rfl rfl) hc46)) (fun a' w' ph K => x_move (v := .slice A14_ra r14.1.length c14_ra) (es (t := 5) (v := .slice A14_ra r14.1.length c14_ra) ((K.out 5 rfl).trans rfl))))
                   (obsN_cons (ob_extg rfl rfl rfl (fun a' w' ph K => (guard_eq (show sl a' 85 = .bool (r14.2 == 0) from K.dep 34 85 rfl rfl) hc46)) (fun a' w' ph K => (x_buildSlice (e := 3) (vs := #[(0, I 2), (1, I 3)]) (cs := #[I 2, I 3]) (pm2 (ec (v := I 2)) (ec (v := I 3))) (by kernel_rfl)).mono (fun u w'' hh => kn_mk K.phT.size hh)))
                   (obsN_cons (ob_extg rfl rfl rfl (fun a' w' ph K => (guard_eq (show sl a' 85 = .bool (r14.2 == 0) from K.dep 34 85 rfl rfl) hc46)) (fun a' w' ph K => match K.dep 36 87 rfl rfl with | ⟨bb34_36, e34_36, l34_36, k34_36⟩ => (x_call0 own_30 rfl (am2 (es (t := 86) (v := .slice A14_ra r14.1.length c14_ra) (K.dep 35 86 rfl rfl)) (es (t := 87) (v := .slice (some ⟨bb34_36, 0, none⟩) 2 2) e34_36)) (a30 K_ r14.1 [2, 3] A14_ra c14_ra (some ⟨bb34_36, 0, none⟩) 2 ZA _ (hS14_ra_21.mv (mv_ext K.phT)).all (sl_bk (xs := [2, 3]) (css := [[I 2], [I 3]]) k34_36 trivial ⟨rfl, rfl, trivial⟩ rfl (Nat.le_refl _)) r47 hr47)).mono (fun _ _ h => ⟨h.2, h.1⟩)))
                   (obsN_cons (od rfl (fun _ => rfl) (fun K => x_pick_t (v := .bool r47) (es (t := 85) (v := .bool (r14.2 == 0)) (K.dep 34 85 rfl rfl)) hc46 (es (t := 88) (v := .bool r47) (K.dep 37 88 rfl rfl))))
                   (obsN_cons (od rfl (fun _ => rfl) (fun K => x_move (v := .bool r47) (es (t := 89) (v := .bool r47) (K.dep 38 89 rfl rfl))))
                   (obsN_cons (ob_detg rfl rfl rfl (fun _ => rfl) (fun a' w' ph K => (guard_eq (show sl a' 90 = .bool r47 from K.dep 39 90 rfl rfl) hc48)) (fun a' w' ph K => x_move (v := I r18.2.2) (es (t := 9) (v := I r18.2.2) ((K.out 9 rfl).trans rfl))))
                   (obsN_cons (ob_detg rfl rfl rfl (fun _ => rfl) (fun a' w' ph K => (guard_eq (show sl a' 90 = .bool r47 from K.dep 39 90 rfl rfl) hc48)) (fun a' w' ph K => x_eql (es (t := 91) (v := I r18.2.2) (K.dep 40 91 rfl rfl)) (ec (v := I 0))))
                   (obsN_cons (od rfl (fun _ => rfl) (fun K => x_pick_t (v := .bool (r18.2.2 == 0)) (es (t := 90) (v := .bool r47) (K.dep 39 90 rfl rfl)) hc48 (es (t := 92) (v := .bool (r18.2.2 == 0)) (K.dep 41 92 rfl rfl))))
                   (obsN_cons (od rfl (fun _ => rfl) (fun K => x_move (v := .bool (r18.2.2 == 0)) (es (t := 93) (v := .bool (r18.2.2 == 0)) (K.dep 42 93 rfl rfl))))
                   (obsN_cons (ob_detg rfl rfl rfl (fun _ => rfl) (fun a' w' ph K => (guard_eq (show sl a' 94 = .bool (r18.2.2 == 0) from K.dep 43 94 rfl rfl) hc49)) (fun a' w' ph K => x_move (v := I r18.1) (es (t := 7) (v := I r18.1) ((K.out 7 rfl).trans rfl))))
                   (obsN_cons (ob_detg rfl rfl rfl (fun _ => rfl) (fun a' w' ph K => (guard_eq (show sl a' 94 = .bool (r18.2.2 == 0) from K.dep 43 94 rfl rfl) hc49)) (fun a' w' ph K => x_eql (es (t := 95) (v := I r18.1) (K.dep 44 95 rfl rfl)) (ec (v := I 0))))
                   (obsN_cons (od rfl (fun _ => rfl) (fun K => x_pick_t (v := .bool (r18.1 == 0)) (es (t := 94) (v := .bool (r18.2.2 == 0)) (K.dep 43 94 rfl rfl)) hc49 (es (t := 96) (v := .bool (r18.1 == 0)) (K.dep 45 96 rfl rfl))))
                   (obsN_cons (od rfl (fun _ => rfl) (fun K => x_move (v := .bool (r18.1 == 0)) (es (t := 97) (v := .bool (r18.1 == 0)) (K.dep 46 97 rfl rfl))))
                   (obsN_cons (ob_detg rfl rfl rfl (fun _ => rfl) (fun a' w' ph K => (guard_eq (show sl a' 98 = .bool (r18.1 == 0) from K.dep 47 98 rfl rfl) hc50)) (fun a' w' ph K => x_move (v := I r18.2.1) (es (t := 8) (v := I r18.2.1) ((K.out 8 rfl).trans rfl))))
                   (obsN_cons (ob_detg rfl rfl rfl (fun _ => rfl) (fun a' w' ph K => (guard_eq (show sl a' 98 = .bool (r18.1 == 0) from K.dep 47 98 rfl rfl) hc50)) (fun a' w' ph K => x_eql (es (t := 99) (v := I r18.2.1) (K.dep 48 99 rfl rfl)) (ec (v := I 3))))
                   (obsN_cons (od rfl (fun _ => rfl) (fun K => x_pick_t (v := .bool (r18.2.1 == 3)) (es (t := 98) (v := .bool (r18.1 == 0)) (K.dep 47 98 rfl rfl)) hc50 (es (t := 100) (v := .bool (r18.2.1 == 3)) (K.dep 49 100 rfl rfl))))
                   (obsN_cons (od rfl (fun _ => rfl) (fun K => x_move (v := .bool (r18.2.1 == 3)) (es (t := 101) (v := .bool (r18.2.1 == 3)) (K.dep 50 101 rfl rfl))))
                   (obsN_cons (ob_detg rfl rfl rfl (fun _ => rfl) (fun a' w' ph K => (guard_eq (show sl a' 102 = .bool (r18.2.1 == 3) from K.dep 51 102 rfl rfl) hc51)) (fun a' w' ph K => x_move (v := I r25.2) (es (t := 11) (v := I r25.2) ((K.out 11 rfl).trans rfl))))
                   (obsN_cons (ob_detg rfl rfl rfl (fun _ => rfl) (fun a' w' ph K => (guard_eq (show sl a' 102 = .bool (r18.2.1 == 3) from K.dep 51 102 rfl rfl) hc51)) (fun a' w' ph K => x_eql (es (t := 103) (v := I r25.2) (K.dep 52 103 rfl rfl)) (ec (v := I 0))))
                   (obsN_cons (od rfl (fun _ => rfl) (fun K => x_pick_t (v := .bool (r25.2 == 0)) (es (t := 102) (v := .bool (r18.2.1 == 3)) (K.dep 51 102 rfl rfl)) hc51 (es (t := 104) (v := .bool (r25.2 == 0)) (K.dep 53 104 rfl rfl))))
                   (obsN_cons (od rfl (fun _ => rfl) (fun K => x_move (v := .bool (r25.2 == 0)) (es (t := 105) (v := .bool (r25.2 == 0)) (K.dep 54 105 rfl rfl))))
                   (obsN_cons (ob_detg rfl rfl rfl (fun _ => rfl) (fun a' w' ph K => (guard_eq (show sl a' 106 = .bool (r25.2 == 0) from K.dep 55 106 rfl rfl) hc52)) (fun a' w' ph K => x_move (v := I r25.1) (es (t := 10) (v := I r25.1) ((K.out 10 rfl).trans rfl))))
                   (obsN_cons (ob_detg rfl rfl rfl (fun _ => rfl) (fun a' w' ph K => (guard_eq (show sl a' 106 = .bool (r25.2 == 0) from K.dep 55 106 rfl rfl) hc52)) (fun a' w' ph K => x_eql (es (t := 107) (v := I r25.1) (K.dep 56 107 rfl rfl)) (ec (v := I 2))))
                   (obsN_cons (od rfl (fun _ => rfl) (fun K => x_pick_t (v := .bool (r25.1 == 2)) (es (t := 106) (v := .bool (r25.2 == 0)) (K.dep 55 106 rfl rfl)) hc52 (es (t := 108) (v := .bool (r25.1 == 2)) (K.dep 57 108 rfl rfl))))
                   (obsN_cons (od rfl (fun _ => rfl) (fun K => x_move (v := .bool (r25.1 == 2)) (es (t := 109) (v := .bool (r25.1 == 2)) (K.dep 58 109 rfl rfl))))
                   (obsN_cons (ob_detg rfl rfl rfl (fun _ => rfl) (fun a' w' ph K => (guard_eq (show sl a' 110 = .bool (r25.1 == 2) from K.dep 59 110 rfl rfl) hc53)) (fun a' w' ph K => x_move (v := I r32.2) (es (t := 13) (v := I r32.2) ((K.out 13 rfl).trans rfl))))
                   (obsN_cons (ob_detg rfl rfl rfl (fun _ => rfl) (fun a' w' ph K => (guard_eq (show sl a' 110 = .bool (r25.1 == 2) from K.dep 59 110 rfl rfl) hc53)) (fun a' w' ph K => x_eql (es (t := 111) (v := I r32.2) (K.dep 60 111 rfl rfl)) (ec (v := I 0))))
                   (obsN_cons (od rfl (fun _ => rfl) (fun K => x_pick_t (v := .bool (r32.2 == 0)) (es (t := 110) (v := .bool (r25.1 == 2)) (K.dep 59 110 rfl rfl)) hc53 (es (t := 112) (v := .bool (r32.2 == 0)) (K.dep 61 112 rfl rfl))))
                   (obsN_cons (od rfl (fun _ => rfl) (fun K => x_move (v := .bool (r32.2 == 0)) (es (t := 113) (v := .bool (r32.2 == 0)) (K.dep 62 113 rfl rfl))))
                   (obsN_cons (ob_detg rfl rfl rfl (fun _ => rfl) (fun a' w' ph K => (guard_eq (show sl a' 114 = .bool (r32.2 == 0) from K.dep 63 114 rfl rfl) hc54)) (fun a' w' ph K => x_move (v := .slice A32_ra r32.1.length c32_ra) (es (t := 12) (v := .slice A32_ra r32.1.length c32_ra) ((K.out 12 rfl).trans rfl))))
                   (obsN_cons (ob_extg rfl rfl rfl (fun a' w' ph K => (guard_eq (show sl a' 114 = .bool (r32.2 == 0) from K.dep 63 114 rfl rfl) hc54)) (fun a' w' ph K => (x_buildSlice (e := 3) (vs := #[(0, I 0)]) (cs := #[I 0]) (pm1 (ec (v := I 0))) (by kernel_rfl)).mono (fun u w'' hh => kn_mk K.phT.size hh)))
                   (obsN_cons (ob_extg rfl rfl rfl (fun a' w' ph K => (guard_eq (show sl a' 114 = .bool (r32.2 == 0) from K.dep 63 114 rfl rfl) hc54)) (fun a' w' ph K => match K.dep 65 116 rfl rfl with | ⟨bb34_65, e34_65, l34_65, k34_65⟩ => (x_call0 own_30 rfl (am2 (es (t := 115) (v := .slice A32_ra r32.1.length c32_ra) (K.dep 64 115 rfl rfl)) (es (t := 116) (v := .slice (some ⟨bb34_65, 0, none⟩) 1 1) e34_65)) (a30 K_ r32.1 [0] A32_ra c32_ra (some ⟨bb34_65, 0, none⟩) 1 ZA _ (hS32_ra.mv (mv_ext K.phT)).all (sl_bk (xs := [0]) (css := [[I 0]]) k34_65 trivial ⟨rfl, trivial⟩ rfl (Nat.le_refl _)) r55 hr55)).mono (fun _ _ h => ⟨h.2, h.1⟩)))
                   (obsN_cons (od rfl (fun _ => rfl) (fun K => x_pick_t (v := .bool r55) (es (t := 114) (v := .bool (r32.2 == 0)) (K.dep 63 114 rfl rfl)) hc54 (es (t := 117) (v := .bool r55) (K.dep 66 117 rfl rfl))))
                   (obsN_nil _))))))))))))))))))))))))))))))))))))))))))))))))))))))))))))))))))))) ?_
               intro w34
               rintro _ rfl _ rfl _ rfl _ rfl _ rfl _ rfl _ rfl _ rfl _ rfl _ rfl _ rfl _ rfl _ rfl _ rfl _ rfl _ rfl _ rfl _ rfl _ rfl _ rfl _ rfl _ rfl _ rfl _ rfl _ rfl _ rfl _ rfl _ ⟨bb34_27, rfl, lobb34_27, bkbb34_27⟩ _ rfl _ rfl _ rfl _ rfl _ rfl _ rfl _ rfl _ rfl _ ⟨bb34_36, rfl, lobb34_36, bkbb34_36⟩ _ rfl _ rfl _ rfl _ rfl _ rfl _ rfl _ rfl _ rfl _ rfl _ rfl _ rfl _ rfl _ rfl _ rfl _ rfl _ rfl _ rfl _ rfl _ rfl _ rfl _ rfl _ rfl _ rfl _ rfl _ rfl _ rfl _ rfl _ rfl _ ⟨bb34_65, rfl, lobb34_65, bkbb34_65⟩ _ rfl _ rfl hx34
               have hp22 : Hp w [] w34 := hp21.ext hx34
               refine wa rfl (v := .bool r55) rfl <| wl_end <| lv_next <| cc_ret ?_
               have hr_ := Option.some.inj hG
               refine lv_ret1 rfl rfl ?_
               exact ⟨hp22.fin, congrArg Value.bool hr_⟩
              ·replace hG := cond_f hG hc54
               exact absurd (Option.some.inj hG) (by decide)
             ·replace hG := cond_f hG hc53
              exact absurd (Option.some.inj hG) (by decide)
            ·replace hG := cond_f hG hc52
             exact absurd (Option.some.inj hG) (by decide)
           ·replace hG := cond_f hG hc51
            exact absurd (Option.some.inj hG) (by decide)
          ·replace hG := cond_f hG hc50
           exact absurd (Option.some.inj hG) (by decide)
         ·replace hG := cond_f hG hc49
          exact absurd (Option.some.inj hG) (by decide)
        ·replace hG := cond_f hG hc48
         exact absurd (Option.some.inj hG) (by decide)
       ·replace hG := cond_f hG hc46
        exact absurd (Option.some.inj hG) (by decide)
      ·replace hG := cond_f hG hc45
       exact absurd (Option.some.inj hG) (by decide)
     ·replace hG := cond_f hG hc43
      exact absurd (Option.some.inj hG) (by decide)
    ·replace hG := cond_f hG hc42
     exact absurd (Option.some.inj hG) (by decide)
   ·replace hG := cond_f hG hc39
    exact absurd (Option.some.inj hG) (by decide)
  ·replace hG := cond_f hG hc36
   exact absurd (Option.some.inj hG) (by decide)
 ·replace hG := cond_f hG hc35
  exact absurd (Option.some.inj hG) (by decide)
end Go.Proofs.Ythogdgkafaclaaa
end
