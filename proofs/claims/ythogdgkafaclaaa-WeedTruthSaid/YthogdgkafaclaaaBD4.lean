import Derived.Test.YthogdgkafaclaaaBD3
import Derived.WalkKit
import Derived.KernelRfl
import Derived.WalkSpells
import Derived.WalkLawsBesides
import Derived.Maps.AppendAt
import Derived.OrdersIn
import Derived.RangeFuncIn
import Derived.RangeFuncLeaves
import Derived.RangeFuncRecord
import Derived.RangeFuncSeq
import Derived.Scope
import Derived.DeepKeys3
import Derived.Laws.CopyRow
import Derived.Laws.OwnMore
import Derived.Shelf.Sort.Plain
import Derived.Ground.Names2Prog
import Derived.Shelf.Slices.Clone
import Derived.Shelf.Slices.CompactI
import Derived.Shelf.Slices.Cells
import Derived.Shelf.Slices.In.SortNone
import Derived.Ground.SlgnProg
import Derived.Shelf.SlicesE.Clone
import Derived.Sort.OwnSortedInts
import Derived.Lib.RowBridge
import Derived.Test.YthogdgkafaclaaaProg
/-
  The contracts of the functions of the program and of the reference, and the logic that they are proved in: the base that several claims of this seat share.
-/
set_option linter.all false
section
namespace Go.Proofs
open Go.Shelf
def Try.lays189_ren : Go.Shelf.Ren := ⟨fun | 189 => 74 | 125 => 104 | 257 => 103 | 128 => 128 | 129 => 129 | 294 => 119 | 295 => 120 | 296 => 121 | 297 => 122 | 298 => 123 | 299 => 124 | 216 => 125 | 300 => 126 | 301 => 127 | 328 => 135 | 329 => 136 | 330 => 137 | 331 => 138 | 332 => 139 | 215 => 140 | 343 => 142 | n => n, fun | 28 => 43 | 3 => 3 | 46 => 63 | 0 => 0 | 51 => 154 | 53 => 156 | 4 => 4 | 183 => 149 | 182 => 148 | 131 => 89 | 5 => 5 | 9 => 9 | 218 => 161 | 222 => 165 | 228 => 168 | 229 => 53 | n => n, fun | n => n⟩
theorem Try.lays189 : Go.Proofs.Lays.n189 Try.prog Try.lays189_ren := {
  mixed := by kernel_rfl
  f125 := Try.func104.trans (congrArg some (by kernel_rfl))
  f128 := Try.func128.trans (congrArg some (by kernel_rfl))
  f129 := Try.func129.trans (congrArg some (by kernel_rfl))
  f189 := Try.func74.trans (congrArg some (by kernel_rfl))
  f215 := Try.func140.trans (congrArg some (by kernel_rfl))
  f216 := Try.func125.trans (congrArg some (by kernel_rfl))
  f257 := Try.func103.trans (congrArg some (by kernel_rfl))
  f294 := Try.func119.trans (congrArg some (by kernel_rfl))
  f295 := Try.func120.trans (congrArg some (by kernel_rfl))
  f296 := Try.func121.trans (congrArg some (by kernel_rfl))
  f297 := Try.func122.trans (congrArg some (by kernel_rfl))
  f298 := Try.func123.trans (congrArg some (by kernel_rfl))
  f299 := Try.func124.trans (congrArg some (by kernel_rfl))
  f300 := Try.func126.trans (congrArg some (by kernel_rfl))
  f301 := Try.func127.trans (congrArg some (by kernel_rfl))
  f328 := Try.func135.trans (congrArg some (by kernel_rfl))
  f329 := Try.func136.trans (congrArg some (by kernel_rfl))
  f330 := Try.func137.trans (congrArg some (by kernel_rfl))
  f331 := Try.func138.trans (congrArg some (by kernel_rfl))
  f332 := Try.func139.trans (congrArg some (by kernel_rfl))
  f343 := Try.func142.trans (congrArg some (by kernel_rfl))
  t0 := Try.underlying0
  a0 := Try.isAgg0
  z0 := Try.sizeOf0
  v0 := Try.zeroValue0
  t3 := Try.underlying3
  a3 := Try.isAgg3
  z3 := Try.sizeOf3
  v3 := Try.zeroValue3
  t4 := Try.underlying4
  a4 := Try.isAgg4
  z4 := Try.sizeOf4
  v4 := Try.zeroValue4
  t5 := Try.underlying5
  a5 := Try.isAgg5
  z5 := Try.sizeOf5
  v5 := Try.zeroValue5
  t9 := Try.underlying9
  a9 := Try.isAgg9
  z9 := Try.sizeOf9
  v9 := Try.zeroValue9
  t28 := Try.underlying43
  a28 := Try.isAgg43
  z28 := Try.sizeOf43
  v28 := Try.zeroValue43
  t46 := Try.underlying63
  a46 := Try.isAgg63
  z46 := Try.sizeOf63
  v46 := Try.zeroValue63
  t51 := Try.underlying154
  a51 := Try.isAgg154
  z51 := Try.sizeOf154
  v51 := Try.zeroValue154
  t53 := Try.underlying156
  a53 := Try.isAgg156
  z53 := Try.sizeOf156
  v53 := Try.zeroValue156
  t131 := Try.underlying89
  a131 := Try.isAgg89
  z131 := Try.sizeOf89
  v131 := Try.zeroValue89
  t182 := Try.underlying148
  a182 := Try.isAgg148
  z182 := Try.sizeOf148
  v182 := Try.zeroValue148
  t183 := Try.underlying149
  a183 := Try.isAgg149
  z183 := Try.sizeOf149
  v183 := Try.zeroValue149
  t218 := Try.underlying161
  a218 := Try.isAgg161
  z218 := Try.sizeOf161
  v218 := Try.zeroValue161
  t222 := Try.underlying165
  a222 := Try.isAgg165
  z222 := Try.sizeOf165
  v222 := Try.zeroValue165
  t228 := Try.underlying168
  a228 := Try.isAgg168
  z228 := Try.sizeOf168
  v228 := Try.zeroValue168
  t229 := Try.underlying53
  a229 := Try.isAgg53
  z229 := Try.sizeOf53
  v229 := Try.zeroValue53 }
open Go.Sort Go.RowKit in
theorem Try.slices_Sort_int (blk off cap : Nat) (zs : List Int) (w : World) (hH : Holds (Value.int .i64) w blk off zs.toArray) (hblk : blk < w.heap.size) (hsz : zs.length < 4611686018427387904) :
    Calls Try.prog 74 #[.slice (some ⟨blk, off, none⟩) zs.length cap] w fun e w' =>
      e = .returned (.tuple #[]) ∧ ∃ n os, w' = grow (putRow (Value.int .i64) (Sort.ahead w n) blk off (zs.mergeSort fun x y => decide (x ≤ y)).toArray) os := Any.slices_Sort_int Try.lays189 blk off cap zs w hH hblk hsz
def Try.laysNm220_ren : Go.Shelf.Ren := ⟨fun | 20 => 75 | n => n, fun | 22 => 43 | 3 => 3 | 4 => 4 | 0 => 0 | n => n, fun | n => n⟩
theorem Try.laysNm220 : Go.Proofs.Lays2.n20 Try.prog Try.laysNm220_ren := {
  mixed := by kernel_rfl
  f20 := Try.func75.trans (congrArg some (by kernel_rfl))
  t0 := Try.underlying0
  a0 := Try.isAgg0
  z0 := Try.sizeOf0
  v0 := Try.zeroValue0
  t3 := Try.underlying3
  a3 := Try.isAgg3
  z3 := Try.sizeOf3
  v3 := Try.zeroValue3
  t4 := Try.underlying4
  a4 := Try.isAgg4
  z4 := Try.sizeOf4
  v4 := Try.zeroValue4
  t22 := Try.underlying43
  a22 := Try.isAgg43
  z22 := Try.sizeOf43
  v22 := Try.zeroValue43
  i3 := by kernel_rfl }
open Go.RowKit Go.Lib Go.Sort in
/-- slices.Compact at []int: "Compact replaces consecutive runs of equal elements with a single copy. This is like the uniq command found on Unix. Compact modifies the contents of the slice s and returns the modified slice, which may have a smaller length. Compact zeroes the elements between the new length and the original length. The result preserves the nilness of s.": IT RETURNS THE SLICE CUT TO 'Lib.compact zs'; ITS CELLS HOLD 'Lib.compact zs', THEN ZERO VALUES up to the old length; all else is as it was, but for the count of draws. IN THE WORDS OF slices.Sort's CONTRACT ('Holds', 'putRow'): so the everyday 'slices.Sort(xs); xs = slices.Compact(xs)' goes from the one contract to the other. It asks 'zs.length ≤ cap' (every slice's: the reslicing 's[:k]' looks at it). Length 0, nil: '.._empty'. (LAID: no walk: one application.) -/
theorem Try.slices_Compact_int (blk off cap : Nat) (zs : List Int) (w : World) (hH : Holds (Value.int .i64) w blk off zs.toArray) (hsz : zs.length ≤ 9223372036854775807) (hcap : zs.length ≤ cap) :
    Calls Try.prog 75 #[.slice (some ⟨blk, off, none⟩) zs.length cap] w fun e w' => e = .returned (.slice (some ⟨blk, off, none⟩) (Lib.compact zs).length cap) ∧ ∃ q, w' = putRow (Value.int .i64) (Sort.ahead w q) blk off (Lib.compact zs ++ List.replicate (zs.length - (Lib.compact zs).length) 0).toArray := Any.slices_Compact_int Try.laysNm220 blk off cap zs w hH hsz hcap
end Go.Proofs
end
section
set_option linter.unusedVariables false
set_option linter.unusedSimpArgs false
namespace Go.Proofs.Ythogdgkafaclaaa
open Go.RowKit
attribute [local irreducible] Ex1 WL CC CW LV Ret ObOp Agg One Own
open Go.Sort in
theorem c74 (xs : List Int) (A : Option Addr) (c base : Nat) (w : World) (hne : xs ≠ []) (hl : xs.length ≤ 100000) (hO : OwnS w base 3 1 A xs.length c (ivs xs)) :
    Ret Try.prog 74 #[.slice A xs.length c] w (fun v w' => v = .tuple #[] ∧ w.grownBy w' (ob A) ∧ OwnS w' base 3 1 A xs.length c (ivs (xs.mergeSort fun x y => decide (x ≤ y)))) := by
  rcases hO.2 with ⟨_, h0⟩ | ⟨g, cap, cur, hv, hbg, hg, hnc, hcm, hcs, htake⟩
  · exact absurd (List.eq_nil_of_length_eq_zero h0) hne
  · cases hv
    have hH := holds_of_blockI (ss := xs) hg (by simpa [ivs] using htake)
    unfold Ret
    refine (Try.slices_Sort_int g 0 c xs w hH (lt_of_block hg) (by omega)).mono ?_
    rintro e w' ⟨rfl, n, os, rfl⟩
    refine ⟨_, rfl, rfl, grownBy_sortedI _, ?_⟩
    have hls : (xs.mergeSort fun x y => decide (x ≤ y)).length = xs.length := List.length_mergeSort _
    exact ownsRow_sortedI (ss := xs) hls hbg hg hnc hcm hcs
open Go.Sort in
theorem c75 (xs : List Int) (A : Option Addr) (c base : Nat) (w : World) (hne : xs ≠ []) (hl : xs.length ≤ 100000) (hO : OwnS w base 3 1 A xs.length c (ivs xs)) :
    Ret Try.prog 75 #[.slice A xs.length c] w (fun v w' => v = .slice A (Lib.compact xs).length c ∧ w.grownBy w' (ob A) ∧ OwnS w' base 3 1 A (Lib.compact xs).length c (ivs (Lib.compact xs))) := by
  rcases hO.2 with ⟨_, h0⟩ | ⟨g, cap, cur, hv, hbg, hg, hnc, hcm, hcs, htake⟩
  · exact absurd (List.eq_nil_of_length_eq_zero h0) hne
  · cases hv
    have hH := holds_of_blockI (ss := xs) hg (by simpa [ivs] using htake)
    unfold Ret
    refine (Try.slices_Compact_int g 0 c xs w hH (by omega) hnc).mono ?_
    rintro e w' ⟨rfl, q, rfl⟩
    have hle := Lib.compact_length_le xs
    have hgw : ∀ (w1 : World), grow w1 #[] = w1 := fun w1 => by unfold grow; simp
    have hgr := grownBy_sortedI (w := w) (g := g) (n := q) (os := #[]) (Lib.compact xs ++ List.replicate (xs.length - (Lib.compact xs).length) 0).toArray
    have hhp := heap_sortedI (n := q) (os := #[]) (Lib.compact xs ++ List.replicate (xs.length - (Lib.compact xs).length) 0).toArray hg
    rw [hgw] at hgr hhp
    refine ⟨_, rfl, rfl, hgr, by simp [ivs], .inr ⟨g, c, _, rfl, hbg, hhp, Nat.le_trans hle hnc, hcm, by simp [putCells, hcs], ?_⟩⟩
    have htp := take_putCellsI cur (Lib.compact xs ++ List.replicate (xs.length - (Lib.compact xs).length) 0) (by simp; omega)
    have h2 := congrArg (List.take (Lib.compact xs).length) htp
    rw [List.take_take, List.length_append, List.length_replicate] at h2
    rw [Nat.min_eq_left (by omega)] at h2
    rw [Nat.mul_one, h2, List.map_append, List.take_append_of_le_length (by simp), List.take_of_length_le (by simp)]
    rfl
end Go.Proofs.Ythogdgkafaclaaa
end
section
set_option linter.unusedVariables false
set_option linter.unusedSimpArgs false
namespace Go.Proofs.Ythogdgkafaclaaa
open Go.RowKit
attribute [local irreducible] Ex1 WL CC CW LV Ret ObOp Agg One Own
def whoF (T : List (List Int)) (row : Int) : List Int := Lib.compact ((T.map fun a : List Int => a.getD row.toNat 0).mergeSort fun x y => decide (x ≤ y))
theorem mapTake_succ {T : List (List Int)} {k : Nat} {x : List Int} {r : Nat} (h : T[k]? = some x) : (T.take (k + 1)).map (fun a : List Int => a.getD r 0) = (T.take k).map (fun a : List Int => a.getD r 0) ++ [x.getD r 0] := by
  obtain ⟨hlt, rfl⟩ := List.getElem?_eq_some_iff.1 h
  rw [List.take_succ_eq_append_getElem hlt, List.map_append]; rfl
theorem c27 (f : Fld) (A : Option Addr) (c : Nat) (row : Int) (w : World) (hT : Rd w 0 w.heap.size A (flat encT f.ts)) :
    Ret Try.prog 27 #[.agg #[I f.rows, I f.wd, I f.lo, I f.hi, .slice A f.ts.length c], I row] w (fun v w' => Ext w w' ∧ (askE f (inR row 0 (f.rows - 1)) ≠ 0 → v = .tuple #[.slice none 0 0, .int .i64 (askE f (inR row 0 (f.rows - 1)))]) ∧ (askE f (inR row 0 (f.rows - 1)) = 0 → ∃ A2 c2, v = .tuple #[.slice A2 (whoF (truths f []) row).length c2, .int .i64 0] ∧ OwnS w' w.heap.size 3 1 A2 (whoF (truths f []) row).length c2 (ivs (whoF (truths f []) row)))) := by
  refine ret_of_cc (N := 40) Try.func27 rfl rfl (by simp) ?_
  intro fr0 ha hdf
  have hp0 := sl_arg (i := 0) (v := .agg #[I f.rows, I f.wd, I f.lo, I f.hi, .slice A f.ts.length c]) ha rfl
  have hp1 := sl_arg (i := 1) (v := I row) ha rfl
  clear ha
  refine cc_seq <| cc_region <| we rfl (fun st => x_box (v := .agg #[I f.rows, I f.wd, I f.lo, I f.hi, .slice A f.ts.length c]) (cs := #[I f.rows, I f.wd, I f.lo, I f.hi, .slice A f.ts.length c]) (ee st hp0) rfl) ?_
  rintro _ w1 ⟨b1, rfl, nb1⟩
  have lo1 : w.heap.size ≤ b1 := by rw [nb1.b_eq]; exact (Below.refl w.heap.size w).size
  refine we rfl (fun st => x_box (v := I row) (cs := #[I row]) (ee st hp1) rfl) ?_
  rintro _ w2 ⟨b2, rfl, nb2⟩
  have hB_w1 := (bl_ext (Below.refl w.heap.size w) nb1.gr)
  have lo2 : w.heap.size ≤ b2 := by rw [nb2.b_eq]; exact hB_w1.size
  have ltb1_2 : b1 < b2 := by rw [nb2.b_eq]; exact nb1.bk.lt
  refine wa rfl (v := .slice none 0 0) rfl <| wa rfl (v := I 0) rfl <| wl_end <| lv_next <| cc_seq <| cc_region ?_
  have bk1_w2 := (nb1.bk.ext nb2.gr)
  refine wd rfl (fun st => x_loadn (l := [I f.rows, I f.wd, I f.lo, I f.hi, .slice A f.ts.length c]) agg_36 (ee st rfl) bk1_w2 rfl rfl) <| wd rfl (fun st => x_makeFunc (vs := #[]) (us := #[pt b1 0, pt b2 0]) am0 (am2 (ee st rfl) (ee st rfl))) ?_
  have hT_w2 := ((hT.ext nb1.gr).ext nb2.gr)
  refine we rfl (fun st => x_call0 own_66 (ee st rfl) (am2 (ee st rfl) (ee st rfl)) (c66 f A c 72 #[pt b1 0, pt b2 0] (inR row 0 (f.rows - 1)) _ own_72 (fun hck w1 hx => c72 f A c b1 b2 row w1 (by have := check_ok hck; omega) (by have := check_ok hck; omega) (bk1_w2.ext hx) (nb2.bk.ext hx)) hT_w2.wide)) ?_
  rintro v3 w3 ⟨hx3, he1, he2⟩
  have hB_w2 := (bl_ext hB_w1 nb2.gr)
  rcases Decidable.em (askE f (inR row 0 (f.rows - 1)) = 0) with hE | hE
  · skip
    obtain ⟨q3, A9, c9, rfl, hq0, hbq, hOT⟩ := he2 hE
    have hrd := hOT.rd
    have h00 : ((0 : Int) != 0) = false := rfl
    obtain ⟨hck, hbb, hTne⟩ := askE_zero hE
    obtain ⟨⟨hr0, hr1⟩, ⟨hw0, hw1⟩, h5, hok, -, -⟩ := check_ok hck
    have h7 := truths_len (f := f) (out := []) (by omega)
    have hTpos : 0 < (truths f []).length := List.length_pos_iff.2 hTne
    have hcnt := truths_count (f := f) (out := []) (by omega) (by omega)
    have hq3_lt := hbq.lt
    obtain ⟨Q9, hqQ9⟩ : ∃ n, n = w3.heap.size := ⟨_, rfl⟩
    have hB_w3 := (bl_ext hB_w2 hx3)
    have hnQ9 : w.heap.size ≤ Q9 := by rw [hqQ9]; exact hB_w3.size
    have bk1_w3 := (bk1_w2.ext hx3)
    have hnQ9_b1 : b1 < Q9 := by rw [hqQ9]; exact bk1_w3.lt
    have bk2_w3 := (nb2.bk.ext hx3)
    have hnQ9_b2 : b2 < Q9 := by rw [hqQ9]; exact bk2_w3.lt
    have hnQ9_q3 : q3 < Q9 := by rw [hqQ9]; exact hbq.lt
    have hnQ9_hrd : w3.heap.size ≤ Q9 := by rw [hqQ9]; exact hrd.le
    have hsQ9 : Q9 ≤ w3.heap.size := by omega
    refine wm rfl (v := .tuple #[pt q3 0, I (0 : Int)]) rfl <| wd rfl (fun st => x_extract (v := pt q3 0) (ee st rfl) rfl) <| wd rfl (fun st => x_extract (v := I (0 : Int)) (ee st rfl) rfl) <| wa rfl (v := pt q3 0) rfl <| wa rfl (v := I (0 : Int)) rfl <| wl_end <| lv_next <| cc_seq <| cc_seq <| cc_region <| wm rfl (v := I (0 : Int)) rfl <| wd rfl (fun st => x_neq (ee st rfl) (ee st rfl)) <| wl_end <| lv_next <| cc_cond_f rfl h00 <| cc_skip <| lv_next <| cc_seq <| cc_region <| wa rfl (v := .slice none 0 0) rfl <| wl_end <| lv_next <| cc_seq <| cc_seq <| cc_region <| wm rfl (v := pt q3 0) rfl <| wd rfl (fun st => x_nilCheck (ee st rfl)) <| wd rfl (fun st => x_fieldAddr (ee st rfl) (fz_102_1 _ _)) <| wd rfl (fun st => x_load1 (v := .slice A9 ((truths f []).length) c9) one_100 (ee st rfl) hbq rfl) <| wd rfl (fun st => x_len Try.underlying100 (ee st rfl)) <| wm rfl (v := I 0) rfl <| wl_end <| lv_next <| cc_block ?_
    obtain ⟨NB, hqNB⟩ : ∃ n, n = w3.heap.size := ⟨_, rfl⟩
    have hnNB : w.heap.size ≤ NB := by rw [hqNB]; exact hB_w3.size
    have hnNB_b1 : b1 < NB := by rw [hqNB]; exact bk1_w3.lt
    have hnNB_b2 : b2 < NB := by rw [hqNB]; exact bk2_w3.lt
    have hnNB_q3 : q3 < NB := by rw [hqNB]; exact hbq.lt
    have hnNB_hrd : w3.heap.size ≤ NB := by rw [hqNB]; exact hrd.le
    have hnNB_hsQ9 : Q9 ≤ NB := by rw [hqNB]; exact hsQ9
    have hsNB : NB ≤ w3.heap.size := by omega
    have hrw := inR_iff.1 hbb
    have hT_w3 := (hT_w2.ext hx3)
    refine cc_loop (fun (m_ : Nat) (fr_ : Act) (w_ : World) => ∃ (k : Nat), ∃ (A2 : Option Addr), ∃ (c2 : Nat), m_ = (truths f []).length - k ∧ (k ≤ (truths f []).length) ∧ fr_.tmps.size = 40 ∧ fr_.defers = [] ∧ sl fr_ 0 = .agg #[I f.rows, I f.wd, I f.lo, I f.hi, .slice A f.ts.length c] ∧ sl fr_ 1 = I row ∧ sl fr_ 2 = pt b1 0 ∧ sl fr_ 3 = pt b2 0 ∧ sl fr_ 4 = .slice none 0 0 ∧ sl fr_ 5 = I 0 ∧ sl fr_ 6 = pt q3 0 ∧ sl fr_ 7 = I (0 : Int) ∧ sl fr_ 11 = .tuple #[pt q3 0, I (0 : Int)] ∧ sl fr_ 12 = .agg #[I f.rows, I f.wd, I f.lo, I f.hi, .slice A f.ts.length c] ∧ sl fr_ 13 = .func (.func 72) #[] #[pt b1 0, pt b2 0] ∧ sl fr_ 14 = .tuple #[pt q3 0, I (0 : Int)] ∧ sl fr_ 15 = pt q3 0 ∧ sl fr_ 16 = I (0 : Int) ∧ sl fr_ 17 = I (0 : Int) ∧ sl fr_ 18 = .bool ((0 : Int) != 0) ∧ sl fr_ 20 = pt q3 0 ∧ sl fr_ 21 = pt q3 0 ∧ sl fr_ 22 = pt q3 5 ∧ sl fr_ 23 = .slice A9 ((truths f []).length) c9 ∧ sl fr_ 24 = I (((truths f []).length : Nat) : Int) ∧ sl fr_ 8 = .slice A2 k c2 ∧ sl fr_ 25 = I ((k : Nat) : Int) ∧ Below w.heap.size w w_ ∧ Rd w_ 0 w.heap.size A (flat encT f.ts) ∧ Bk w_ b1 36 #[I f.rows, I f.wd, I f.lo, I f.hi, .slice A f.ts.length c] ∧ Bk w_ b2 3 #[I row] ∧ Bk w_ q3 102 #[I f.rows, I f.wd, I f.lo, I f.hi, .slice A f.ts.length c, .slice A9 ((truths f []).length) c9] ∧ Rd w_ w2.heap.size w3.heap.size A9 (flat ivs (truths f [])) ∧ Q9 ≤ w_.heap.size ∧ NB ≤ w_.heap.size ∧ OwnS w_ NB 3 1 A2 k c2 (ivs (((truths f []).take k).map fun a : List Int => a.getD row.toNat 0))) ((truths f []).length - 0) ?init4 ?round4
    case init4 =>
      intro st
      exact ⟨0, none, 0, rfl, by omega, (puts_size _ _).trans st.sz, (puts_defers _ _).trans st.df, (sl_puts st 0).trans hp0, (sl_puts st 1).trans hp1, (sl_puts st 2).trans rfl, (sl_puts st 3).trans rfl, (sl_puts st 4).trans rfl, (sl_puts st 5).trans rfl, (sl_puts st 6).trans rfl, (sl_puts st 7).trans rfl, (sl_puts st 11).trans rfl, (sl_puts st 12).trans rfl, (sl_puts st 13).trans rfl, (sl_puts st 14).trans rfl, (sl_puts st 15).trans rfl, (sl_puts st 16).trans rfl, (sl_puts st 17).trans rfl, (sl_puts st 18).trans rfl, (sl_puts st 20).trans rfl, (sl_puts st 21).trans rfl, (sl_puts st 22).trans rfl, (sl_puts st 23).trans rfl, (sl_puts st 24).trans rfl, (sl_puts st 8).trans (rfl), (sl_puts st 25).trans (rfl), hB_w3, hT_w3, bk1_w3, bk2_w3, hbq, hrd, hsQ9, hsNB, (OwnS.nil _ _ _ _)⟩
    case round4 =>
      rintro m_ fr4 w4 ⟨k, A2, c2, rfl, hk, hsz4, hdf4, hs4_0, hs4_1, hs4_2, hs4_3, hs4_4, hs4_5, hs4_6, hs4_7, hs4_11, hs4_12, hs4_13, hs4_14, hs4_15, hs4_16, hs4_17, hs4_18, hs4_20, hs4_21, hs4_22, hs4_23, hs4_24, hs4_8, hs4_25, hB_w4, hT_w4, bk1_w4, bk2_w4, hbq_w4, hrd_w4, hsQ9_w4, hsNB_w4, hOwn_w4⟩
      refine round_cc (N := 40) hsz4 hdf4 ?_
      obtain ⟨MB, hqMB⟩ : ∃ n, n = w4.heap.size := ⟨_, rfl⟩
      have hnMB : w.heap.size ≤ MB := by rw [hqMB]; exact hB_w4.size
      have hnMB_b1 : b1 < MB := by rw [hqMB]; exact bk1_w4.lt
      have hnMB_b2 : b2 < MB := by rw [hqMB]; exact bk2_w4.lt
      have hnMB_q3 : q3 < MB := by rw [hqMB]; exact hbq_w4.lt
      have hnMB_hrd : w3.heap.size ≤ MB := by rw [hqMB]; exact hrd_w4.le
      have hnMB_hsQ9 : Q9 ≤ MB := by rw [hqMB]; exact hsQ9_w4
      have hnMB_hsNB : NB ≤ MB := by rw [hqMB]; exact hsNB_w4
      have hsMB : MB ≤ w4.heap.size := by omega
      have hltO : ∀ k o, A2 = some ⟨k, o, none⟩ → k < MB := fun k o h => by rw [hqMB]; exact (hOwn_w4.blk h).2.1
      refine cc_seq <| cc_region <| wd rfl (fun st => x_lss (ee st hs4_25) (ee st hs4_24)) <| wl_end <| lv_next <| cc_seq ?_
      rcases bool_cases (decide (((k : Nat) : Int) < (((truths f []).length : Nat) : Int))) with hc5 | hc5
      · refine cc_cond_t rfl hc5 ?_
        have hc5p := hc5
        have hc5p := of_decide_eq_true hc5p
        refine cc_skip <| lv_next <| cc_seq <| cc_block <| cc_seq <| cc_region ?_
        obtain ⟨bq6, oq6, hA6, -, -, -⟩ := Rd.elem7 h7 hrd_w4 (k := k) (by omega)
        obtain ⟨x7, hx7⟩ : ∃ x, (truths f [])[k]? = some x := ⟨_, List.getElem?_eq_getElem (by omega)⟩
        refine wd rfl (fun st => x_indexAddrN (k := k) Try.underlying100 sz_105 (ee st hs4_23) hA6 (ee st hs4_25) rfl (by omega)) <| wd rfl (fun st => x_load_rdn (l := ivs x7) agg_105 (ee st rfl) (hrd_w4.cells hA6) (flat7_at h7 hx7) (by rw [ivs_len]; exact (h7 x7 (List.mem_of_getElem? hx7)))) <| we rfl (fun st => x_alloc (cs := #[I 0, I 0, I 0, I 0, I 0, I 0, I 0]) zero_105 rfl) ?_
        rintro _ w8 ⟨b8, rfl, nb8⟩
        have lo8 : w.heap.size ≤ b8 := by rw [nb8.b_eq]; exact hB_w4.size
        have lQ9_8 : Q9 ≤ b8 := by rw [nb8.b_eq]; exact hsQ9_w4
        have lNB_8 : NB ≤ b8 := by rw [nb8.b_eq]; exact hsNB_w4
        have lMB_8 : MB ≤ b8 := by rw [nb8.b_eq]; exact hsMB
        have ltb1_8 : b1 < b8 := by rw [nb8.b_eq]; exact bk1_w4.lt
        have ltb2_8 : b2 < b8 := by rw [nb8.b_eq]; exact bk2_w4.lt
        have ltq3_8 : q3 < b8 := by rw [nb8.b_eq]; exact hbq_w4.lt
        refine wl_ex0 rfl rfl (fun st => x_store_all (n := 7) (cs' := (ivs x7).toArray) (ee st rfl) (ee st rfl) sz_105 nb8.bk rfl (by simp [ivs, (h7 x7 (List.mem_of_getElem? hx7))]) rfl (one_ivs x7)) ?_
        rintro _ w9 sb9
        refine wl_end <| lv_next <| cc_region <| wm rfl (v := .slice A2 k c2) hs4_8 ?_
        have bk2_w9 := ((bk2_w4.ext nb8.gr).upd sb9.gr (by omega))
        refine wd rfl (fun st => x_load1 (v := I row) one_3 (ee st hs4_3) bk2_w9 rfl) <| wd rfl (fun st => x_indexAddrA1 (k := (row).toNat) Try.underlying105 sz_3 (ee st rfl) (ee st rfl) (by omega) (by omega)) <| wd rfl (fun st => x_load1 (v := .int .i64 (x7.getD ((row).toNat) 0)) one_3 (ee st rfl) sb9.bk (ivs_getL x7 ((row).toNat) (by rw [(h7 x7 (List.mem_of_getElem? hx7))]; omega))) <| we rfl (fun st => x_buildSlice (e := 3) (vs := #[(0, I (x7.getD ((row).toNat) 0))]) (cs := #[I (x7.getD ((row).toNat) 0)]) (pm1 (ee st rfl)) (by kernel_rfl)) ?_
        rintro _ w10 ⟨b10, rfl, nb10⟩
        have hB_w9 := (bl_upd (bl_ext hB_w4 nb8.gr) sb9.gr (by omega))
        have lo10 : w.heap.size ≤ b10 := by rw [nb10.b_eq]; exact hB_w9.size
        have hsQ9_w9 := (Nat.le_trans (Nat.le_trans hsQ9_w4 nb8.gr.size) sb9.gr.size)
        have lQ9_10 : Q9 ≤ b10 := by rw [nb10.b_eq]; exact hsQ9_w9
        have hsNB_w9 := (Nat.le_trans (Nat.le_trans hsNB_w4 nb8.gr.size) sb9.gr.size)
        have lNB_10 : NB ≤ b10 := by rw [nb10.b_eq]; exact hsNB_w9
        have hsMB_w9 := (Nat.le_trans (Nat.le_trans hsMB nb8.gr.size) sb9.gr.size)
        have lMB_10 : MB ≤ b10 := by rw [nb10.b_eq]; exact hsMB_w9
        have bk1_w9 := ((bk1_w4.ext nb8.gr).upd sb9.gr (by omega))
        have ltb1_10 : b1 < b10 := by rw [nb10.b_eq]; exact bk1_w9.lt
        have ltb2_10 : b2 < b10 := by rw [nb10.b_eq]; exact bk2_w9.lt
        have hbq_w9 := ((hbq_w4.ext nb8.gr).upd sb9.gr (by omega))
        have ltq3_10 : q3 < b10 := by rw [nb10.b_eq]; exact hbq_w9.lt
        have ltb8_10 : b8 < b10 := by rw [nb10.b_eq]; exact sb9.bk.lt
        have hOwn_w10 := (((hOwn_w4.ext nb8.gr).updx sb9.gr hltO (by omega)).ext nb10.gr)
        have hsNB_w10 := (Nat.le_trans hsNB_w9 nb10.gr.size)
        refine we rfl (fun st => x_append Try.underlying43 info_3 rfl (by decide) (ee st rfl) (ee st rfl) hOwn_w10 nb10.bk (by first | rfl | simp [ivs]) (one_cells rfl) (by simp [maxLen]; omega) (by omega) hsNB_w10) ?_
        rintro _ w11 ⟨A11, c11, rfl, hO11, hg11⟩
        have hbw11 := below_row hOwn_w10 hsNB_w10 (Nat.le_refl _) hg11
        have hO11 : OwnS w11 NB 3 1 A11 (k + 1) c11 (ivs (((truths f []).take (k + 1)).map fun a : List Int => a.getD row.toNat 0)) := by have h := hO11; rw [mapTake_succ hx7, ivs_snoc]; exact h
        refine wa rfl (v := .slice A11 (k + 1) c11) rfl <| wl_end <| lv_block <| lv_next <| cc_region <| wd rfl (fun st => x_add (ee st hs4_25) (ee st rfl) ⟨by omega, by omega⟩) <| wm rfl (v := I (((k : Nat) : Int) + 1)) rfl <| wl_end ?_
        have hB_w11 := (bl_bw (bl_ext hB_w9 nb10.gr) hbw11 (by omega))
        have hT_w11 := ((((hT_w4.ext nb8.gr).upd sb9.gr (by omega)).ext nb10.gr).bw hbw11 (by omega))
        have bk1_w11 := ((bk1_w9.ext nb10.gr).bw hbw11 (by omega))
        have bk2_w11 := ((bk2_w9.ext nb10.gr).bw hbw11 (by omega))
        have hbq_w11 := ((hbq_w9.ext nb10.gr).bw hbw11 (by omega))
        have hrd_w11 := ((((hrd_w4.ext nb8.gr).upd sb9.gr (by omega)).ext nb10.gr).bw hbw11 (by omega))
        have hsQ9_w11 := (Nat.le_trans (Nat.le_trans hsQ9_w9 nb10.gr.size) hbw11.size)
        have hsNB_w11 := (Nat.le_trans hsNB_w10 hbw11.size)
        refine lv_round ((truths f []).length - (k + 1)) (by omega) (fun st => ?_)
        exact ⟨(k + 1), A11, c11, rfl, by omega, (puts_size _ _).trans st.sz, (puts_defers _ _).trans st.df, (sl_puts st 0).trans hs4_0, (sl_puts st 1).trans hs4_1, (sl_puts st 2).trans hs4_2, (sl_puts st 3).trans hs4_3, (sl_puts st 4).trans hs4_4, (sl_puts st 5).trans hs4_5, (sl_puts st 6).trans hs4_6, (sl_puts st 7).trans hs4_7, (sl_puts st 11).trans hs4_11, (sl_puts st 12).trans hs4_12, (sl_puts st 13).trans hs4_13, (sl_puts st 14).trans hs4_14, (sl_puts st 15).trans hs4_15, (sl_puts st 16).trans hs4_16, (sl_puts st 17).trans hs4_17, (sl_puts st 18).trans hs4_18, (sl_puts st 20).trans hs4_20, (sl_puts st 21).trans hs4_21, (sl_puts st 22).trans hs4_22, (sl_puts st 23).trans hs4_23, (sl_puts st 24).trans hs4_24, (sl_puts st 8).trans (rfl), (sl_puts st 25).trans (vint (by omega)), hB_w11, hT_w11, bk1_w11, bk2_w11, hbq_w11, hrd_w11, hsQ9_w11, hsNB_w11, hO11⟩
      · refine cc_cond_f rfl hc5 ?_
        have hc5p := hc5
        have hc5p := of_decide_eq_false hc5p
        refine cc_exit <| lv_then_exit <| lv_then_exit <| lv_block_hit <| lv_next <| cc_seq <| cc_region <| wm rfl (v := .slice A2 k c2) hs4_8 ?_
        have hkT : k = (truths f []).length := by omega
        have hTk : (((truths f []).take k).map fun a : List Int => a.getD row.toNat 0) = ((truths f []).map fun a : List Int => a.getD row.toNat 0) := by rw [List.take_of_length_le (by omega)]
        have hO9 : OwnS w4 NB 3 1 A2 ((truths f []).map fun a : List Int => a.getD row.toNat 0).length c2 (ivs ((truths f []).map fun a : List Int => a.getD row.toNat 0)) := by have h := hOwn_w4; rw [hTk] at h; rw [List.length_map, ← hkT]; exact h
        have hlm : ((truths f []).map fun a : List Int => a.getD row.toNat 0).length = (truths f []).length := List.length_map _
        have hc74 := c74 ((truths f []).map fun a : List Int => a.getD row.toNat 0) A2 c2 NB w4 (fun e => hTne (List.map_eq_nil_iff.1 e)) (by omega) hO9
        rw [hlm, ← hkT] at hc74
        refine we rfl (fun st => x_call0 own_74 (ee st rfl) (am1 (ee st rfl)) hc74) ?_
        rintro _ w12 ⟨rfl, hg12, hOs⟩
        have hbw12 := below_row hO9 hsNB_w4 (Nat.le_refl _) (ob_own A2 _ c2 ▸ hg12)
        refine wl_end <| lv_next <| cc_seq <| cc_region <| wm rfl (v := .slice A2 k c2) hs4_8 ?_
        have hls : (((truths f []).map fun a : List Int => a.getD row.toNat 0).mergeSort fun x y => decide (x ≤ y)).length = ((truths f []).map fun a : List Int => a.getD row.toNat 0).length := List.length_mergeSort _
        have hO8 : OwnS w12 NB 3 1 A2 (((truths f []).map fun a : List Int => a.getD row.toNat 0).mergeSort fun x y => decide (x ≤ y)).length c2 (ivs (((truths f []).map fun a : List Int => a.getD row.toNat 0).mergeSort fun x y => decide (x ≤ y))) := by rw [hls, hlm, ← hkT]; exact hOs
        have hc75 := c75 (((truths f []).map fun a : List Int => a.getD row.toNat 0).mergeSort fun x y => decide (x ≤ y)) A2 c2 NB w12 (fun e => hTne (by have h9 := congrArg List.length e; rw [hls, hlm] at h9; exact List.eq_nil_of_length_eq_zero h9)) (by omega) hO8
        rw [hls, hlm, ← hkT] at hc75
        refine we rfl (fun st => x_call0 own_75 (ee st rfl) (am1 (ee st rfl)) hc75) ?_
        rintro _ w13 ⟨rfl, hg13, hOc⟩
        have hsNB_w12 := (Nat.le_trans hsNB_w4 hbw12.size)
        have hbw13 := below_row hO8 hsNB_w12 (Nat.le_refl _) (ob_own A2 _ c2 ▸ hg13)
        refine wa rfl (v := .slice A2 ((whoF (truths f []) row).length) c2) rfl <| wa rfl (v := I 0) rfl <| wl_end <| lv_next <| cc_ret <| lv_ret2 rfl rfl rfl ?_
        have hB_w13 := (bl_bw (bl_bw hB_w4 hbw12 (by omega)) hbw13 (by omega))
        exact ⟨ext_of_below hB_w13, fun h => absurd hE h, fun _ => ⟨A2, c2, rfl, hOc.weak hnNB⟩⟩
  · skip
    obtain rfl := he1 hE
    have hEb : (askE f (inR row 0 (f.rows - 1)) != 0) = true := by simpa using hE
    refine wm rfl (v := .tuple #[.pointer none, I (askE f (inR row 0 (f.rows - 1)))]) rfl <| wd rfl (fun st => x_extract (v := .pointer none) (ee st rfl) rfl) <| wd rfl (fun st => x_extract (v := I (askE f (inR row 0 (f.rows - 1)))) (ee st rfl) rfl) <| wa rfl (v := .pointer none) rfl <| wa rfl (v := I (askE f (inR row 0 (f.rows - 1)))) rfl <| wl_end <| lv_next <| cc_seq <| cc_seq <| cc_region <| wm rfl (v := I (askE f (inR row 0 (f.rows - 1)))) rfl <| wd rfl (fun st => x_neq (ee st rfl) (ee st rfl)) <| wl_end <| lv_next <| cc_cond_t rfl hEb <| cc_seq <| cc_region <| wm rfl (v := I (askE f (inR row 0 (f.rows - 1)))) rfl <| wa rfl (v := .slice none 0 0) rfl <| wa rfl (v := I (askE f (inR row 0 (f.rows - 1)))) rfl <| wl_end <| lv_next <| cc_ret <| lv_then_ret <| lv_ret2 rfl rfl rfl ?_
    have hB_w3 := (bl_ext hB_w2 hx3)
    exact ⟨ext_of_below hB_w3, fun _ => rfl, fun h => absurd h hE⟩
end Go.Proofs.Ythogdgkafaclaaa
end
section
set_option linter.unusedVariables false
set_option linter.unusedSimpArgs false
namespace Go.Proofs.Ythogdgkafaclaaa
open Go.RowKit
attribute [local irreducible] Ex1 WL CC CW LV Ret ObOp Agg One Own
def nextF (f : Fld) (n : Int) : Int × Int := qst f n (truths f []) (unask f (List.replicate 7 (-2))) (List.replicate 7 (-2))
def fillL (j : Nat) : List Int := List.replicate j (-2) ++ List.replicate (7 - j) 0
theorem fillL_len {j : Nat} (h : j ≤ 7) : (fillL j).length = 7 := by unfold fillL; simp; omega
theorem fillL_step {j : Nat} (h : j < 7) : (fillL j).set j (-2) = fillL (j + 1) := by
  unfold fillL
  apply List.ext_getElem
  · simp; omega
  · intro i h1 h2
    simp [List.getElem_set, List.getElem_append]
    split <;> split <;> omega
theorem filt_none (T : List (List Int)) : filt T (List.replicate 7 (-2)) = T := by
  unfold filt
  rw [List.filter_eq_self]
  intro a _
  rw [agree_iff]
  intro i hi
  left
  rw [List.getD_eq_getElem?_getD, List.getElem?_replicate, if_pos hi]; rfl
theorem c32 (f : Fld) (A : Option Addr) (c : Nat) (n : Int) (w : World) (hT : Rd w 0 w.heap.size A (flat encT f.ts)) :
    Ret Try.prog 32 #[.agg #[I f.rows, I f.wd, I f.lo, I f.hi, .slice A f.ts.length c], I n] w (fun v w' => Ext w w' ∧ (askE f (inR n 0 (f.wd - 1)) ≠ 0 → v = .tuple #[.int .i64 0, .int .i64 0, .int .i64 (askE f (inR n 0 (f.wd - 1)))]) ∧ (askE f (inR n 0 (f.wd - 1)) = 0 → v = .tuple #[.int .i64 (nextF f n).1, .int .i64 (nextF f n).2, .int .i64 0])) := by
  refine ret_of_cc (N := 43) Try.func32 rfl rfl (by simp) ?_
  intro fr0 ha hdf
  have hp0 := sl_arg (i := 0) (v := .agg #[I f.rows, I f.wd, I f.lo, I f.hi, .slice A f.ts.length c]) ha rfl
  have hp1 := sl_arg (i := 1) (v := I n) ha rfl
  clear ha
  refine cc_seq <| cc_region <| we rfl (fun st => x_box (v := .agg #[I f.rows, I f.wd, I f.lo, I f.hi, .slice A f.ts.length c]) (cs := #[I f.rows, I f.wd, I f.lo, I f.hi, .slice A f.ts.length c]) (ee st hp0) rfl) ?_
  rintro _ w1 ⟨b1, rfl, nb1⟩
  have lo1 : w.heap.size ≤ b1 := by rw [nb1.b_eq]; exact (Below.refl w.heap.size w).size
  refine we rfl (fun st => x_box (v := I n) (cs := #[I n]) (ee st hp1) rfl) ?_
  rintro _ w2 ⟨b2, rfl, nb2⟩
  have hB_w1 := (bl_ext (Below.refl w.heap.size w) nb1.gr)
  have lo2 : w.heap.size ≤ b2 := by rw [nb2.b_eq]; exact hB_w1.size
  have ltb1_2 : b1 < b2 := by rw [nb2.b_eq]; exact nb1.bk.lt
  refine wa rfl (v := I 0) rfl <| wa rfl (v := I 0) rfl <| wa rfl (v := I 0) rfl <| wl_end <| lv_next <| cc_seq <| cc_region ?_
  have bk1_w2 := (nb1.bk.ext nb2.gr)
  refine wd rfl (fun st => x_loadn (l := [I f.rows, I f.wd, I f.lo, I f.hi, .slice A f.ts.length c]) agg_36 (ee st rfl) bk1_w2 rfl rfl) <| wd rfl (fun st => x_makeFunc (vs := #[]) (us := #[pt b1 0, pt b2 0]) am0 (am2 (ee st rfl) (ee st rfl))) ?_
  have hT_w2 := ((hT.ext nb1.gr).ext nb2.gr)
  refine we rfl (fun st => x_call0 own_66 (ee st rfl) (am2 (ee st rfl) (ee st rfl)) (c66 f A c 76 #[pt b1 0, pt b2 0] (inR n 0 (f.wd - 1)) _ own_76 (fun hck w1 hx => c76 f A c b1 b2 n w1 (by have := check_ok hck; omega) (by have := check_ok hck; omega) (bk1_w2.ext hx) (nb2.bk.ext hx)) hT_w2.wide)) ?_
  rintro v3 w3 ⟨hx3, he1, he2⟩
  have hB_w2 := (bl_ext hB_w1 nb2.gr)
  rcases Decidable.em (askE f (inR n 0 (f.wd - 1)) = 0) with hE | hE
  · skip
    obtain ⟨q3, A9, c9, rfl, hq0, hbq, hOT⟩ := he2 hE
    have hrd := hOT.rd
    have h00 : ((0 : Int) != 0) = false := rfl
    obtain ⟨hck, hbb, hTne⟩ := askE_zero hE
    obtain ⟨⟨hr0, hr1⟩, ⟨hw0, hw1⟩, h5, hok, -, -⟩ := check_ok hck
    have h7 := truths_len (f := f) (out := []) (by omega)
    have hTpos : 0 < (truths f []).length := List.length_pos_iff.2 hTne
    have hcnt := truths_count (f := f) (out := []) (by omega) (by omega)
    have hq3_lt := hbq.lt
    obtain ⟨Q9, hqQ9⟩ : ∃ n, n = w3.heap.size := ⟨_, rfl⟩
    have hB_w3 := (bl_ext hB_w2 hx3)
    have hnQ9 : w.heap.size ≤ Q9 := by rw [hqQ9]; exact hB_w3.size
    have bk1_w3 := (bk1_w2.ext hx3)
    have hnQ9_b1 : b1 < Q9 := by rw [hqQ9]; exact bk1_w3.lt
    have bk2_w3 := (nb2.bk.ext hx3)
    have hnQ9_b2 : b2 < Q9 := by rw [hqQ9]; exact bk2_w3.lt
    have hnQ9_q3 : q3 < Q9 := by rw [hqQ9]; exact hbq.lt
    have hnQ9_hrd : w3.heap.size ≤ Q9 := by rw [hqQ9]; exact hrd.le
    have hsQ9 : Q9 ≤ w3.heap.size := by omega
    refine wm rfl (v := .tuple #[pt q3 0, I (0 : Int)]) rfl <| wd rfl (fun st => x_extract (v := pt q3 0) (ee st rfl) rfl) <| wd rfl (fun st => x_extract (v := I (0 : Int)) (ee st rfl) rfl) <| wa rfl (v := pt q3 0) rfl <| wa rfl (v := I (0 : Int)) rfl <| wl_end <| lv_next <| cc_seq <| cc_seq <| cc_region <| wm rfl (v := I (0 : Int)) rfl <| wd rfl (fun st => x_neq (ee st rfl) (ee st rfl)) <| wl_end <| lv_next <| cc_cond_f rfl h00 <| cc_skip <| lv_next <| cc_seq ?_
    have hlt9 : ∀ k o, A9 = some ⟨k, o, none⟩ → k < Q9 := fun k o h => by rw [hqQ9]; exact (hOT.blk h).2.1
    refine cc_region <| we rfl (fun st => x_alloc (cs := #[I 0, I 0, I 0, I 0, I 0, I 0, I 0]) zero_105 rfl) ?_
    rintro _ w4 ⟨b4, rfl, nb4⟩
    have lo4 : w.heap.size ≤ b4 := by rw [nb4.b_eq]; exact hB_w3.size
    have lQ9_4 : Q9 ≤ b4 := by rw [nb4.b_eq]; exact hsQ9
    have ltb1_4 : b1 < b4 := by rw [nb4.b_eq]; exact bk1_w3.lt
    have ltb2_4 : b2 < b4 := by rw [nb4.b_eq]; exact bk2_w3.lt
    have ltq3_4 : q3 < b4 := by rw [nb4.b_eq]; exact hbq.lt
    refine wl_end ?_
    have hz0 : Bk w4 b4 105 (ivs (fillL 0)).toArray := nb4.bk
    refine lv_next <| cc_seq <| cc_seq <| cc_region <| wm rfl (v := I 0) rfl <| wl_end <| lv_next <| cc_block ?_
    have hT_w4 := ((hT_w2.ext hx3).ext nb4.gr)
    have bk1_w4 := (bk1_w3.ext nb4.gr)
    have bk2_w4 := (bk2_w3.ext nb4.gr)
    have hbq_w4 := (hbq.ext nb4.gr)
    have hOT_w4 := (hOT.ext nb4.gr)
    have hrd_w4 := (hrd.ext nb4.gr)
    have hsQ9_w4 := (Nat.le_trans hsQ9 nb4.gr.size)
    have hB_w4 := (bl_ext hB_w3 nb4.gr)
    refine cc_loop (fun (m_ : Nat) (fr_ : Act) (w_ : World) => ∃ (j : Nat), m_ = 7 - j ∧ (j ≤ 7) ∧ fr_.tmps.size = 43 ∧ fr_.defers = [] ∧ sl fr_ 0 = .agg #[I f.rows, I f.wd, I f.lo, I f.hi, .slice A f.ts.length c] ∧ sl fr_ 1 = I n ∧ sl fr_ 2 = pt b1 0 ∧ sl fr_ 3 = pt b2 0 ∧ sl fr_ 4 = I 0 ∧ sl fr_ 5 = I 0 ∧ sl fr_ 6 = I (0 : Int) ∧ sl fr_ 7 = pt q3 0 ∧ sl fr_ 8 = pt b4 0 ∧ sl fr_ 11 = .tuple #[pt q3 0, I (0 : Int)] ∧ sl fr_ 12 = .agg #[I f.rows, I f.wd, I f.lo, I f.hi, .slice A f.ts.length c] ∧ sl fr_ 13 = .func (.func 76) #[] #[pt b1 0, pt b2 0] ∧ sl fr_ 14 = .tuple #[pt q3 0, I (0 : Int)] ∧ sl fr_ 15 = pt q3 0 ∧ sl fr_ 16 = I (0 : Int) ∧ sl fr_ 17 = I (0 : Int) ∧ sl fr_ 18 = .bool ((0 : Int) != 0) ∧ sl fr_ 20 = I ((j : Nat) : Int) ∧ Below w.heap.size w w_ ∧ Rd w_ 0 w.heap.size A (flat encT f.ts) ∧ Bk w_ b1 36 #[I f.rows, I f.wd, I f.lo, I f.hi, .slice A f.ts.length c] ∧ Bk w_ b2 3 #[I n] ∧ Bk w_ q3 102 #[I f.rows, I f.wd, I f.lo, I f.hi, .slice A f.ts.length c, .slice A9 ((truths f []).length) c9] ∧ OwnS w_ w2.heap.size 105 7 A9 ((truths f []).length) c9 (flat ivs (truths f [])) ∧ Rd w_ w2.heap.size w3.heap.size A9 (flat ivs (truths f [])) ∧ Q9 ≤ w_.heap.size ∧ Bk w_ b4 105 ((ivs (fillL j)).toArray)) (7 - 0) ?init5 ?round5
    case init5 =>
      intro st
      exact ⟨0, rfl, by omega, (puts_size _ _).trans st.sz, (puts_defers _ _).trans st.df, (sl_puts st 0).trans hp0, (sl_puts st 1).trans hp1, (sl_puts st 2).trans rfl, (sl_puts st 3).trans rfl, (sl_puts st 4).trans rfl, (sl_puts st 5).trans rfl, (sl_puts st 6).trans rfl, (sl_puts st 7).trans rfl, (sl_puts st 8).trans rfl, (sl_puts st 11).trans rfl, (sl_puts st 12).trans rfl, (sl_puts st 13).trans rfl, (sl_puts st 14).trans rfl, (sl_puts st 15).trans rfl, (sl_puts st 16).trans rfl, (sl_puts st 17).trans rfl, (sl_puts st 18).trans rfl, (sl_puts st 20).trans (rfl), hB_w4, hT_w4, bk1_w4, bk2_w4, hbq_w4, hOT_w4, hrd_w4, hsQ9_w4, hz0⟩
    case round5 =>
      rintro m_ fr5 w5 ⟨j, rfl, hj, hsz5, hdf5, hs5_0, hs5_1, hs5_2, hs5_3, hs5_4, hs5_5, hs5_6, hs5_7, hs5_8, hs5_11, hs5_12, hs5_13, hs5_14, hs5_15, hs5_16, hs5_17, hs5_18, hs5_20, hB_w5, hT_w5, bk1_w5, bk2_w5, hbq_w5, hOT_w5, hrd_w5, hsQ9_w5, bk4_w5⟩
      refine round_cc (N := 43) hsz5 hdf5 <| cc_seq <| cc_region <| wd rfl (fun st => x_lss (ee st hs5_20) (ee st rfl)) <| wl_end <| lv_next <| cc_seq ?_
      rcases bool_cases (decide (((j : Nat) : Int) < 7)) with hc6 | hc6
      · refine cc_cond_t rfl hc6 ?_
        have hc6p := hc6
        have hc6p := of_decide_eq_true hc6p
        refine cc_skip <| lv_next <| cc_seq <| cc_block <| cc_seq <| cc_region <| wm rfl (v := I ((j : Nat) : Int)) hs5_20 <| wa rfl (v := I ((j : Nat) : Int)) rfl <| wl_end <| lv_next <| cc_region <| wm rfl (v := I ((j : Nat) : Int)) rfl <| wd rfl (fun st => x_indexAddrA1 (k := j) Try.underlying105 sz_3 (ee st hs5_8) (ee st rfl) rfl (by omega)) <| wl_ex0 rfl rfl (fun st => x_store_int (ee st rfl) (ee st rfl) sz_3 bk4_w5 (by rw [(fillL_len (by omega))]; omega)) ?_
        rintro _ w7 sb7
        refine wl_end <| lv_block <| lv_next <| cc_region <| wd rfl (fun st => x_add (ee st hs5_20) (ee st rfl) ⟨by omega, by omega⟩) <| wm rfl (v := I (((j : Nat) : Int) + 1)) rfl <| wl_end ?_
        have hB_w7 := (bl_upd hB_w5 sb7.gr (by omega))
        have hT_w7 := (hT_w5.upd sb7.gr (by omega))
        have bk1_w7 := (bk1_w5.upd sb7.gr (by omega))
        have bk2_w7 := (bk2_w5.upd sb7.gr (by omega))
        have hbq_w7 := (hbq_w5.upd sb7.gr (by omega))
        have hOT_w7 := (hOT_w5.updx sb7.gr hlt9 (by omega))
        have hrd_w7 := (hrd_w5.upd sb7.gr (by omega))
        have hsQ9_w7 := (Nat.le_trans hsQ9_w5 sb7.gr.size)
        refine lv_round (7 - (j + 1)) (by omega) (fun st => ?_)
        exact ⟨(j + 1), rfl, by omega, (puts_size _ _).trans st.sz, (puts_defers _ _).trans st.df, (sl_puts st 0).trans hs5_0, (sl_puts st 1).trans hs5_1, (sl_puts st 2).trans hs5_2, (sl_puts st 3).trans hs5_3, (sl_puts st 4).trans hs5_4, (sl_puts st 5).trans hs5_5, (sl_puts st 6).trans hs5_6, (sl_puts st 7).trans hs5_7, (sl_puts st 8).trans hs5_8, (sl_puts st 11).trans hs5_11, (sl_puts st 12).trans hs5_12, (sl_puts st 13).trans hs5_13, (sl_puts st 14).trans hs5_14, (sl_puts st 15).trans hs5_15, (sl_puts st 16).trans hs5_16, (sl_puts st 17).trans hs5_17, (sl_puts st 18).trans hs5_18, (sl_puts st 20).trans (vint (by omega)), hB_w7, hT_w7, bk1_w7, bk2_w7, hbq_w7, hOT_w7, hrd_w7, hsQ9_w7, (by rw [← fillL_step (by omega)]; exact sb7.bk)⟩
      · refine cc_cond_f rfl hc6 ?_
        have hc6p := hc6
        have hc6p := of_decide_eq_false hc6p
        refine cc_exit <| lv_then_exit <| lv_then_exit <| lv_block_hit <| lv_next <| cc_seq ?_
        have hz7 : Bk w5 b4 105 (ivs (List.replicate 7 (-2) : List Int)).toArray := by have h := bk4_w5; have e : j = 7 := (by omega); rw [e] at h; exact h
        refine cc_region <| wm rfl (v := pt q3 0) hs5_7 <| wd rfl (fun st => x_load1 (v := I n) one_3 (ee st hs5_3) bk2_w5 rfl) <| we rfl (fun st => x_makeMap (n := 7)) ?_
        rintro _ w8 ⟨r8, rfl, nb8⟩
        have lo8 : w.heap.size ≤ r8 := by rw [nb8.b_eq]; exact hB_w5.size
        have lQ9_8 : Q9 ≤ r8 := by rw [nb8.b_eq]; exact hsQ9_w5
        have ltb1_8 : b1 < r8 := by rw [nb8.b_eq]; exact bk1_w5.lt
        have ltb2_8 : b2 < r8 := by rw [nb8.b_eq]; exact bk2_w5.lt
        have ltq3_8 : q3 < r8 := by rw [nb8.b_eq]; exact hbq_w5.lt
        have ltb4_8 : b4 < r8 := by rw [nb8.b_eq]; exact hz7.lt
        refine wd rfl (fun st => x_build (vs := #[(0, pt q3 0), (1, I n), (2, .map (some r8))]) (v := .agg #[pt q3 0, I n, .map (some r8)]) (pm3 (ee st rfl) (ee st rfl) (ee st rfl)) (by kernel_rfl)) <| we rfl (fun st => x_box (v := .agg #[pt q3 0, I n, .map (some r8)]) (cs := #[pt q3 0, I n, .map (some r8)]) (ee st rfl) rfl) ?_
        rintro _ w10 ⟨b10, rfl, nb10⟩
        have hB_w8 := (bl_ext hB_w5 nb8.gr)
        have lo10 : w.heap.size ≤ b10 := by rw [nb10.b_eq]; exact hB_w8.size
        have hsQ9_w8 := (Nat.le_trans hsQ9_w5 nb8.gr.size)
        have lQ9_10 : Q9 ≤ b10 := by rw [nb10.b_eq]; exact hsQ9_w8
        have bk1_w8 := (bk1_w5.ext nb8.gr)
        have ltb1_10 : b1 < b10 := by rw [nb10.b_eq]; exact bk1_w8.lt
        have bk2_w8 := (bk2_w5.ext nb8.gr)
        have ltb2_10 : b2 < b10 := by rw [nb10.b_eq]; exact bk2_w8.lt
        have hbq_w8 := (hbq_w5.ext nb8.gr)
        have ltq3_10 : q3 < b10 := by rw [nb10.b_eq]; exact hbq_w8.lt
        have bk4_w8 := (hz7.ext nb8.gr)
        have ltb4_10 : b4 < b10 := by rw [nb10.b_eq]; exact bk4_w8.lt
        have ltr8_10 : r8 < b10 := by rw [nb10.b_eq]; exact nb8.mp.lt
        refine wa rfl (v := pt b10 0) rfl <| wl_end <| lv_next <| cc_seq ?_
        have hbq_w10 := (hbq_w8.ext nb10.gr)
        have hOT_w10 := ((hOT_w5.ext nb8.gr).ext nb10.gr)
        have mpr8_w10 := (nb8.mp.ext nb10.gr)
        have hfl7 := filt_none (truths f [])
        have hO0 : OwnS w10 0 105 7 A9 (filt (truths f []) (List.replicate 7 (-2) : List Int)).length c9 (flat ivs (filt (truths f []) (List.replicate 7 (-2) : List Int))) := by rw [hfl7]; exact hOT_w10.weak (Nat.zero_le _)
        have hcQ := fun (w9 : World) (hx : Ext w10 w9) => cQ f A c n q3 b10 r8 (.slice A9 (truths f []).length c9) hr0 hr1 hw0 hw1 (unask f (List.replicate 7 (-2) : List Int)) (List.replicate 7 (-2) : List Int) A9 c9 [] w9 rfl rfl (by rw [hfl7]; exact hTne) (known_nil _ _ _) (nb10.bk.ext hx) (hbq_w10.ext hx) (hO0.ext hx) (mpr8_w10.ext hx)
        rw [hfl7] at hcQ
        have hlr9 := mpr8_w10.lt
        have bk4_w10 := (bk4_w8.ext nb10.gr)
        refine cc_anys (T2 w10 r8 (fun _ => True)) [6] [Kc (pt b10 0), Kc (pt q3 0), Kc (pt q3 0), Kc (pt q3 5), Kc (.slice A9 ((truths f []).length) c9), Kc (ansV (List.replicate 7 (-2) : List Int)), Kc (.tuple #[I ((nextF f n).1), I ((nextF f n).2)]), Kc (.tuple #[I ((nextF f n).1), I ((nextF f n).2)]), Kc (I ((nextF f n).1)), Kc (I ((nextF f n).2)), Kc (I ((nextF f n).1)), Kc (I ((nextF f n).2))] mixed rfl
            (T2_ext (fun _ _ h _ => h)) (ext_drew _)
            (obs_cons (ob_det rfl rfl (fun _ => rfl) (fun a' w' ph K => x_move (v := pt b10 0) (es (t := 10) (v := pt b10 0) ((K.out 10 rfl).trans rfl))))
            (obs_cons (ob_det rfl rfl (fun _ => rfl) (fun a' w' ph K => x_move (v := pt q3 0) (es (t := 7) (v := pt q3 0) ((K.out 7 rfl).trans hs5_7))))
            (obs_cons (ob_det rfl rfl (fun _ => rfl) (fun a' w' ph K => x_nilCheck (es (t := 33) (v := pt q3 0) (K.dep 1 33 rfl rfl))))
            (obs_cons (ob_det rfl rfl (fun _ => rfl) (fun a' w' ph K => x_fieldAddr (es (t := 34) (v := pt q3 0) (K.dep 2 34 rfl rfl)) (fz_102_1 _ _)))
            (obs_cons (ob_det rfl rfl (fun _ => rfl) (fun a' w' ph K => x_load1 (v := .slice A9 ((truths f []).length) c9) one_100 (es (t := 35) (v := pt q3 5) (K.dep 3 35 rfl rfl)) (hbq_w10.ext (T2_zero K.phT (Nat.le_zero.1 (K.lat 0 6 _ rfl rfl rfl)))) rfl))
            (obs_cons (ob_det rfl rfl (fun _ => rfl) (fun a' w' ph K => x_load_all agg_105 (es (t := 8) (v := pt b4 0) ((K.out 8 rfl).trans hs5_8)) (bk4_w10.ext (T2_zero K.phT (Nat.le_zero.1 (K.lat 0 6 _ rfl rfl rfl)))) (by simp [ivs, List.length_replicate])))
            (obs_cons (ob_spec rfl rfl (fun a' w' ph K => (x_call0 own_78 rfl (am3 (es (t := 32) (v := pt b10 0) (K.dep 0 32 rfl rfl)) (es (t := 36) (v := .slice A9 ((truths f []).length) c9) (K.dep 4 36 rfl rfl)) (es (t := 37) (v := ansV (List.replicate 7 (-2) : List Int)) (K.dep 5 37 rfl rfl))) (hcQ _ (T2_zero K.phT (K.spi 0 rfl)))).mono (fun v w'' h => ⟨h.1, sk_of ⟨fun _ _ h => h, fun _ _ h => h, fun _ _ h => h, fun _ _ h => h, fun _ _ h => h, fun _ _ h => h, fun h => absurd rfl h, fun _ _ h => h, fun _ _ h => h, fun _ _ h => h, fun _ _ h => h, fun _ _ h => h, trivial⟩, T2_up K.phT (K.spi 0 rfl) h.2.1 trivial⟩)))
            (obs_cons (ob_det rfl rfl (fun _ => rfl) (fun a' w' ph K => x_move (v := .tuple #[I ((nextF f n).1), I ((nextF f n).2)]) (es (t := 38) (v := .tuple #[I ((nextF f n).1), I ((nextF f n).2)]) (K.dep 6 38 rfl rfl))))
            (obs_cons (ob_det rfl rfl (fun _ => rfl) (fun a' w' ph K => x_extract (v := I ((nextF f n).1)) (es (t := 31) (v := .tuple #[I ((nextF f n).1), I ((nextF f n).2)]) (K.dep 7 31 rfl rfl)) rfl))
            (obs_cons (ob_det rfl rfl (fun _ => rfl) (fun a' w' ph K => x_extract (v := I ((nextF f n).2)) (es (t := 31) (v := .tuple #[I ((nextF f n).1), I ((nextF f n).2)]) (K.dep 7 31 rfl rfl)) rfl))
            (obs_cons (ob_det rfl rfl (fun _ => rfl) (fun a' w' ph K => x_assign (v := I ((nextF f n).1)) (es (t := 39) (v := I ((nextF f n).1)) (K.dep 8 39 rfl rfl))))
            (obs_cons (ob_det rfl rfl (fun _ => rfl) (fun a' w' ph K => x_assign (v := I ((nextF f n).2)) (es (t := 40) (v := I ((nextF f n).2)) (K.dep 9 40 rfl rfl))))
            (obs_nil _))))))))))))) ?_
        intro w11 hx11
        rintro _ rfl _ rfl _ rfl _ rfl _ rfl _ rfl _ rfl _ rfl _ rfl _ rfl _ rfl _ rfl
        refine lv_next <| cc_seq <| cc_region <| wm rfl (v := I ((nextF f n).1)) rfl <| wm rfl (v := I ((nextF f n).2)) rfl <| wa rfl (v := I ((nextF f n).1)) rfl <| wa rfl (v := I ((nextF f n).2)) rfl <| wa rfl (v := I 0) rfl <| wl_end <| lv_next <| cc_ret <| lv_ret3 rfl rfl rfl rfl ?_
        have hB_w11 := (bl_upd (bl_ext hB_w8 nb10.gr) hx11.1 (by omega))
        exact ⟨ext_of_below hB_w11, fun h => absurd hE h, fun _ => rfl⟩
  · skip
    obtain rfl := he1 hE
    have hEb : (askE f (inR n 0 (f.wd - 1)) != 0) = true := by simpa using hE
    refine wm rfl (v := .tuple #[.pointer none, I (askE f (inR n 0 (f.wd - 1)))]) rfl <| wd rfl (fun st => x_extract (v := .pointer none) (ee st rfl) rfl) <| wd rfl (fun st => x_extract (v := I (askE f (inR n 0 (f.wd - 1)))) (ee st rfl) rfl) <| wa rfl (v := .pointer none) rfl <| wa rfl (v := I (askE f (inR n 0 (f.wd - 1)))) rfl <| wl_end <| lv_next <| cc_seq <| cc_seq <| cc_region <| wm rfl (v := I (askE f (inR n 0 (f.wd - 1)))) rfl <| wd rfl (fun st => x_neq (ee st rfl) (ee st rfl)) <| wl_end <| lv_next <| cc_cond_t rfl hEb <| cc_seq <| cc_region <| wm rfl (v := I (askE f (inR n 0 (f.wd - 1)))) rfl <| wa rfl (v := I 0) rfl <| wa rfl (v := I 0) rfl <| wa rfl (v := I (askE f (inR n 0 (f.wd - 1)))) rfl <| wl_end <| lv_next <| cc_ret <| lv_then_ret <| lv_ret3 rfl rfl rfl rfl ?_
    have hB_w3 := (bl_ext hB_w2 hx3)
    exact ⟨ext_of_below hB_w3, fun _ => rfl, fun h => absurd h hE⟩
end Go.Proofs.Ythogdgkafaclaaa
end
section
namespace Go.Proofs.Ythogdgkafaclaaa
def whoB (f : Fld) (n : Int) : Bool := inR n 0 (f.wd - 1)
def Q_Check (_K : Nat) (f : Fld) : Option Int := some (check f)
def Q_Done (_K : Nat) (f : Fld) : Option (List (Int × Int) × Int) := some (if askE f true = 0 then (donesTo f (truths f []) f.wd.toNat, 0) else ([], askE f true))
def Q_Who (_K : Nat) (f : Fld) (row : Int) : Option (List Int × Int) := some (if askE f (inR row 0 (f.rows - 1)) = 0 then (whoF (truths f []) row, 0) else ([], askE f (inR row 0 (f.rows - 1))))
def Q_Ask (_K : Nat) (f : Fld) (n : Int) : Option (List Int × Int) := some (if askE f (whoB f n) = 0 then (shortestL f.rows (fun rows => settlesB f (truths f []) n rows), 0) else ([], askE f (whoB f n)))
def Q_Next (_K : Nat) (f : Fld) (n : Int) : Option (Int × Int × Int) := some (if askE f (whoB f n) = 0 then ((nextF f n).1, (nextF f n).2, 0) else (0, 0, askE f (whoB f n)))
def Q_First (_K : Nat) (f : Fld) : Option (Int × Int) := some (if check f = 0 then (match firstF f with | some i => ((i : Int), 0) | none => (0, 7)) else (0, check f))
def Q_Leave (_K : Nat) (f : Fld) : Option (List Int × Int) := some (if check f = 0 then (shortestL (f.ts.length : Int) (fun out => decide (truths f out ≠ [])), 0) else ([], check f))
def Q_ProveTruth (_K : Nat) (f : Fld) (xs : List Int) : Option Bool := (ifo ((xs.length : Int) ≤ 100000)).bind fun _ => some (check f == 0 && decide ((xs.length : Int) = f.rows) && xs.all (okWho f) && rightB f (pad xs) [])
def Q_ProveAsk (_K : Nat) (f : Fld) (n : Int) (rows : List Int) : Option Bool := (ifo ((rows.length : Int) ≤ 100000)).bind fun _ => some ((askE f (whoB f n) == 0) && incB f rows && settlesB f (truths f []) n rows)
end Go.Proofs.Ythogdgkafaclaaa
end
section
set_option linter.unusedVariables false
set_option linter.unusedSimpArgs false
namespace Go.Proofs.Ythogdgkafaclaaa
open Go.RowKit
def G_awake (K_ : Nat) : Option (Bool) :=
  (G_four K_ ([] : List Tly)).bind fun r1 => (Q_Done K_ r1).bind fun r3 => (G_four K_ ([] : List Tly)).bind fun r5 => (Q_Who K_ r5 3).bind fun r7 => (G_two K_).bind fun r9 => (G_four K_ [r9]).bind fun r12 => (Q_Ask K_ r12 0).bind fun r14 => (G_four K_ ([] : List Tly)).bind fun r16 => (Q_Next K_ r16 0).bind fun r18 => (G_wrong K_).bind fun r20 => (G_four K_ [r20]).bind fun r23 => (Q_First K_ r23).bind fun r25 => (G_wrong K_).bind fun r27 => (G_four K_ [r27]).bind fun r30 => (Q_Leave K_ r30).bind fun r32 => cond (r3.2 == 0) (cond ((r3.1.length : Int) == 2) ((idx r3.1 (0 : Int)).bind fun x37 => (G_between K_ 2 3).bind fun r38 => cond ([x37.1, x37.2] == [r38.1, r38.2]) ((idx r3.1 (1 : Int)).bind fun x40 => (G_between K_ 1 2).bind fun r41 => cond ([x40.1, x40.2] == [r41.1, r41.2]) (cond (r7.2 == 0) ((G_same K_ r7.1 [0, 1]).bind fun r44 => cond (r44) (cond (r14.2 == 0) ((G_same K_ r14.1 [2, 3]).bind fun r47 => cond (r47) (cond (r18.2.2 == 0) (cond (r18.1 == 0) (cond (r18.2.1 == 3) (cond (r25.2 == 0) (cond (r25.1 == 2) (cond (r32.2 == 0) ((G_same K_ r32.1 [0]).bind fun r55 => some (r55)) (some (false))) (some (false))) (some (false))) (some (false))) (some (false))) (some (false))) (some (false))) (some (false))) (some (false))) (some (false))) (some (false))) (some (false))) (some (false))) (some (false))
end Go.Proofs.Ythogdgkafaclaaa
end
section
namespace Go.Proofs.Ythogdgkafaclaaa
namespace AF
theorem fz_23_0 (b : Nat) (w : World) : (Instr.fieldAt 23 (.pointer (some ⟨b, 0, none⟩)) 0).run Try.prog w = .ok (.pointer (some ⟨b, 0, none⟩)) w := by kernel_rfl
theorem one_3 : One Try.prog 3 := by unfold One; exact ⟨by kernel_rfl, by kernel_rfl⟩
theorem fz_23_1 (b : Nat) (w : World) : (Instr.fieldAt 23 (.pointer (some ⟨b, 0, none⟩)) 1).run Try.prog w = .ok (.pointer (some ⟨b, 1, none⟩)) w := by kernel_rfl
theorem sz_3 : (Try.prog.info? 3).map (·.size) = some 1 := by kernel_rfl
theorem fz_26_0 (b : Nat) (w : World) : (Instr.fieldAt 26 (.pointer (some ⟨b, 0, none⟩)) 0).run Try.prog w = .ok (.pointer (some ⟨b, 0, none⟩)) w := by kernel_rfl
theorem fz_26_1 (b : Nat) (w : World) : (Instr.fieldAt 26 (.pointer (some ⟨b, 0, none⟩)) 1).run Try.prog w = .ok (.pointer (some ⟨b, 1, none⟩)) w := by kernel_rfl
theorem sz_23 : (Try.prog.info? 23).map (·.size) = some 2 := by kernel_rfl
theorem agg_23 : Agg Try.prog 23 2 := by unfold Agg; exact ⟨by kernel_rfl, by kernel_rfl⟩
theorem fz_26_3 (b : Nat) (w : World) : (Instr.fieldAt 26 (.pointer (some ⟨b, 0, none⟩)) 3).run Try.prog w = .ok (.pointer (some ⟨b, 4, none⟩)) w := by kernel_rfl
theorem one_24 : One Try.prog 24 := by unfold One; exact ⟨by kernel_rfl, by kernel_rfl⟩
theorem sm_3 : (Try.prog.underlying 3).isSome = true := by kernel_rfl
theorem own_89 : Own Try.prog 89 := by unfold Own; kernel_rfl
theorem info_3 : (Try.prog.info? 3).map (fun i => (i.zero, i.size, i.bytes)) = some (some (I 0), 1, 8) := by kernel_rfl
theorem fz_68_0 (b : Nat) (w : World) : (Instr.fieldAt 68 (.pointer (some ⟨b, 0, none⟩)) 0).run Try.prog w = .ok (.pointer (some ⟨b, 0, none⟩)) w := by kernel_rfl
theorem fz_68_1 (b : Nat) (w : World) : (Instr.fieldAt 68 (.pointer (some ⟨b, 0, none⟩)) 1).run Try.prog w = .ok (.pointer (some ⟨b, 1, none⟩)) w := by kernel_rfl
theorem fz_68_2 (b : Nat) (w : World) : (Instr.fieldAt 68 (.pointer (some ⟨b, 0, none⟩)) 2).run Try.prog w = .ok (.pointer (some ⟨b, 2, none⟩)) w := by kernel_rfl
theorem own_41 : Own Try.prog 41 := by unfold Own; kernel_rfl
theorem fz_68_3 (b : Nat) (w : World) : (Instr.fieldAt 68 (.pointer (some ⟨b, 0, none⟩)) 3).run Try.prog w = .ok (.pointer (some ⟨b, 3, none⟩)) w := by kernel_rfl
theorem own_29 : Own Try.prog 29 := by unfold Own; kernel_rfl
theorem fz_26_2 (b : Nat) (w : World) : (Instr.fieldAt 26 (.pointer (some ⟨b, 0, none⟩)) 2).run Try.prog w = .ok (.pointer (some ⟨b, 2, none⟩)) w := by kernel_rfl
theorem fl_23_0_2 (b : Nat) (w : World) : (Instr.fieldAt 23 (.pointer (some ⟨b, 2, none⟩)) 0).run Try.prog w = .ok (.pointer (some ⟨b, 2, none⟩)) w := by kernel_rfl
theorem fl_23_1_2 (b : Nat) (w : World) : (Instr.fieldAt 23 (.pointer (some ⟨b, 2, none⟩)) 1).run Try.prog w = .ok (.pointer (some ⟨b, 3, none⟩)) w := by kernel_rfl
theorem agg_26 : Agg Try.prog 26 5 := by unfold Agg; exact ⟨by kernel_rfl, by kernel_rfl⟩
theorem sz_68 : (Try.prog.info? 68).map (·.size) = some 5 := by kernel_rfl
theorem agg_68 : Agg Try.prog 68 5 := by unfold Agg; exact ⟨by kernel_rfl, by kernel_rfl⟩
theorem own_98 : Own Try.prog 98 := by unfold Own; kernel_rfl
theorem zero_68 : (Try.prog.info? 68).bind (·.zero) = some (.agg #[I 0, I 0, I 0, I 0, I 0]) := by kernel_rfl
theorem own_65 : Own Try.prog 65 := by unfold Own; kernel_rfl
theorem sz_43 : (Try.prog.info? 43).map (·.size) = some 1 := by kernel_rfl
theorem one_43 : One Try.prog 43 := by unfold One; exact ⟨by kernel_rfl, by kernel_rfl⟩
theorem own_82 : Own Try.prog 82 := by unfold Own; kernel_rfl
theorem own_47 : Own Try.prog 47 := by unfold Own; kernel_rfl
theorem own_49 : Own Try.prog 49 := by unfold Own; kernel_rfl
theorem own_48 : Own Try.prog 48 := by unfold Own; kernel_rfl
theorem own_64 : Own Try.prog 64 := by unfold Own; kernel_rfl
theorem zero_33 : (Try.prog.info? 33).bind (·.zero) = some (.agg #[I 0, I 0]) := by kernel_rfl
theorem sz_33 : (Try.prog.info? 33).map (·.size) = some 2 := by kernel_rfl
theorem agg_33 : Agg Try.prog 33 2 := by unfold Agg; exact ⟨by kernel_rfl, by kernel_rfl⟩
theorem own_20 : Own Try.prog 20 := by unfold Own; kernel_rfl
theorem own_28 : Own Try.prog 28 := by unfold Own; kernel_rfl
theorem fz_33_0 (b : Nat) (w : World) : (Instr.fieldAt 33 (.pointer (some ⟨b, 0, none⟩)) 0).run Try.prog w = .ok (.pointer (some ⟨b, 0, none⟩)) w := by kernel_rfl
theorem fz_33_1 (b : Nat) (w : World) : (Instr.fieldAt 33 (.pointer (some ⟨b, 0, none⟩)) 1).run Try.prog w = .ok (.pointer (some ⟨b, 1, none⟩)) w := by kernel_rfl
theorem sz_82 : (Try.prog.info? 82).map (·.size) = some 1 := by kernel_rfl
theorem one_82 : One Try.prog 82 := by unfold One; exact ⟨by kernel_rfl, by kernel_rfl⟩
theorem sm_82 : (Try.prog.underlying 82).isSome = true := by kernel_rfl
theorem zero_26 : (Try.prog.info? 26).bind (·.zero) = some (.agg #[I 0, I 0, I 0, I 0, .slice none 0 0]) := by kernel_rfl
theorem sz_26 : (Try.prog.info? 26).map (·.size) = some 5 := by kernel_rfl
theorem sz_24 : (Try.prog.info? 24).map (·.size) = some 1 := by kernel_rfl
theorem info_68 : (Try.prog.info? 68).map (fun i => (i.zero, i.size, i.bytes)) = some (some (.agg #[I 0, I 0, I 0, I 0, I 0]), 5, 40) := by kernel_rfl
theorem zero_36 : (Try.prog.info? 36).bind (·.zero) = some (.agg #[I 0, I 0, I 0, I 0, .slice none 0 0]) := by kernel_rfl
theorem own_25 : Own Try.prog 25 := by unfold Own; kernel_rfl
theorem sz_36 : (Try.prog.info? 36).map (·.size) = some 5 := by kernel_rfl
theorem fz_36_3 (b : Nat) (w : World) : (Instr.fieldAt 36 (.pointer (some ⟨b, 0, none⟩)) 3).run Try.prog w = .ok (.pointer (some ⟨b, 4, none⟩)) w := by kernel_rfl
theorem one_34 : One Try.prog 34 := by unfold One; exact ⟨by kernel_rfl, by kernel_rfl⟩
theorem info_95 : (Try.prog.info? 95).map (fun i => (i.zero, i.size, i.bytes)) = some (some (.agg #[I 0, I 0, I 0, I 0, I 0]), 5, 40) := by kernel_rfl
theorem sz_34 : (Try.prog.info? 34).map (·.size) = some 1 := by kernel_rfl
theorem agg_36 : Agg Try.prog 36 5 := by unfold Agg; exact ⟨by kernel_rfl, by kernel_rfl⟩
theorem own_50 : Own Try.prog 50 := by unfold Own; kernel_rfl
theorem zero_95 : (Try.prog.info? 95).bind (·.zero) = some (.agg #[I 0, I 0, I 0, I 0, I 0]) := by kernel_rfl
theorem sz_95 : (Try.prog.info? 95).map (·.size) = some 5 := by kernel_rfl
theorem agg_95 : Agg Try.prog 95 5 := by unfold Agg; exact ⟨by kernel_rfl, by kernel_rfl⟩
theorem own_96 : Own Try.prog 96 := by unfold Own; kernel_rfl
theorem own_61 : Own Try.prog 61 := by unfold Own; kernel_rfl
theorem own_22 : Own Try.prog 22 := by unfold Own; kernel_rfl
theorem own_27 : Own Try.prog 27 := by unfold Own; kernel_rfl
theorem own_62 : Own Try.prog 62 := by unfold Own; kernel_rfl
theorem own_42 : Own Try.prog 42 := by unfold Own; kernel_rfl
theorem own_32 : Own Try.prog 32 := by unfold Own; kernel_rfl
theorem own_63 : Own Try.prog 63 := by unfold Own; kernel_rfl
theorem own_34 : Own Try.prog 34 := by unfold Own; kernel_rfl
theorem own_35 : Own Try.prog 35 := by unfold Own; kernel_rfl
theorem keq_33 : KEq Try.prog 33 2 := keq_struct 2 Try.underlying33 (by kernel_rfl) rfl rfl one_3 Try.underlying3
theorem eqg_33 : Try.prog.eqGuardType Try.prog.depth 33 = false := by kernel_rfl
theorem own_30 : Own Try.prog 30 := by unfold Own; kernel_rfl
theorem own_21 : Own Try.prog 21 := by unfold Own; kernel_rfl
theorem own_23 : Own Try.prog 23 := by unfold Own; kernel_rfl
theorem own_39 : Own Try.prog 39 := by unfold Own; kernel_rfl
theorem sm_5 : (Try.prog.underlying 5).isSome = true := by kernel_rfl
theorem own_44 : Own Try.prog 44 := by unfold Own; kernel_rfl
theorem own_45 : Own Try.prog 45 := by unfold Own; kernel_rfl
theorem fa_68_3 (b o : Nat) (w : World) : (Instr.fieldAt 68 (.pointer (some ⟨b, o, none⟩)) 3).run Try.prog w = .ok (.pointer (some ⟨b, o + 3, none⟩)) w := by kernel_rfl
theorem fb_23_0_3 (b o : Nat) (w : World) : (Instr.fieldAt 23 (.pointer (some ⟨b, o + 3, none⟩)) 0).run Try.prog w = .ok (.pointer (some ⟨b, o + 3, none⟩)) w := by kernel_rfl
theorem fb_23_1_3 (b o : Nat) (w : World) : (Instr.fieldAt 23 (.pointer (some ⟨b, o + 3, none⟩)) 1).run Try.prog w = .ok (.pointer (some ⟨b, o + 4, none⟩)) w := by kernel_rfl
theorem own_46 : Own Try.prog 46 := by unfold Own; kernel_rfl
theorem own_51 : Own Try.prog 51 := by unfold Own; kernel_rfl
theorem own_53 : Own Try.prog 53 := by unfold Own; kernel_rfl
theorem own_52 : Own Try.prog 52 := by unfold Own; kernel_rfl
theorem own_55 : Own Try.prog 55 := by unfold Own; kernel_rfl
theorem own_56 : Own Try.prog 56 := by unfold Own; kernel_rfl
theorem own_57 : Own Try.prog 57 := by unfold Own; kernel_rfl
theorem fz_36_2 (b : Nat) (w : World) : (Instr.fieldAt 36 (.pointer (some ⟨b, 0, none⟩)) 2).run Try.prog w = .ok (.pointer (some ⟨b, 2, none⟩)) w := by kernel_rfl
theorem fz_36_0 (b : Nat) (w : World) : (Instr.fieldAt 36 (.pointer (some ⟨b, 0, none⟩)) 0).run Try.prog w = .ok (.pointer (some ⟨b, 0, none⟩)) w := by kernel_rfl
theorem fz_36_1 (b : Nat) (w : World) : (Instr.fieldAt 36 (.pointer (some ⟨b, 0, none⟩)) 1).run Try.prog w = .ok (.pointer (some ⟨b, 1, none⟩)) w := by kernel_rfl
theorem fa_95_0 (b o : Nat) (w : World) : (Instr.fieldAt 95 (.pointer (some ⟨b, o, none⟩)) 0).run Try.prog w = .ok (.pointer (some ⟨b, o, none⟩)) w := by kernel_rfl
theorem fa_95_1 (b o : Nat) (w : World) : (Instr.fieldAt 95 (.pointer (some ⟨b, o, none⟩)) 1).run Try.prog w = .ok (.pointer (some ⟨b, o + 1, none⟩)) w := by kernel_rfl
end AF
end Go.Proofs.Ythogdgkafaclaaa
end
section
set_option linter.unusedVariables false
set_option linter.unusedSimpArgs false
namespace Go.Proofs.Ythogdgkafaclaaa
open Go.RowKit
open AF
attribute [local irreducible] Ex1 WL CC CW LV Ret ObOp Agg One Own
theorem a29 (K_ : Nat) (p0 : Int) (p1 : Int) (p2 : Int) (Z : Nat → Prop) (w : World) (r_ : Bool) (hG : G_In K_ p0 p1 p2 = some r_) :
    Ret Try.prog 29 #[I p0, I p1, I p2] w (fun v w' => Ext w w' ∧ vBool.R w' (ZZ Z w.heap.size []) v r_) := by
 unfold G_In at hG
 refine ret_of_cc (N := 15) Try.func29 rfl rfl (by simp) ?_
 intro fr0 ha hdf
 have hp_0 := sl_arg (i := 0) (v := I p0) ha rfl
 have hp_1 := sl_arg (i := 1) (v := I p1) ha rfl
 have hp_2 := sl_arg (i := 2) (v := I p2) ha rfl
 clear ha
 have hp0 := Hp.refl w
 refine cc_seq <| cc_region <| wa rfl (v := .bool false) rfl <| wl_end <| lv_next <| cc_seq <| cc_region <| wm rfl (v := I p0) hp_0 <| wm rfl (v := I p1) hp_1 <| wd rfl (fun st => x_geq (ee st rfl) (ee st rfl)) <| wm rfl (v := .bool (decide (p1 ≤ p0))) rfl ?_
 rcases bool_cases (decide (p1 ≤ p0)) with hc1 | hc1
 ·replace hG := cond_t hG hc1
  refine wl_detg rfl rfl (guard_eq rfl hc1) rfl (by decide) (fun st => x_move (v := I p0) (ee st hp_0)) <| wl_detg rfl rfl (guard_eq rfl hc1) rfl (by decide) (fun st => x_move (v := I p2) (ee st hp_2)) <| wl_detg rfl rfl (guard_eq rfl hc1) rfl (by decide) (fun st => x_leq (ee st rfl) (ee st rfl)) <| wd rfl (fun st => x_pick_t (v := .bool (decide (p0 ≤ p2))) (ee st rfl) hc1 (ee st rfl)) <| wa rfl (v := .bool (decide (p0 ≤ p2))) rfl <| wl_end <| lv_next <| cc_ret ?_
  obtain rfl := Option.some.inj hG
  refine lv_ret1 rfl rfl ?_
  exact ⟨hp0.fin, rfl⟩
 ·replace hG := cond_f hG hc1
  refine wl_skip (c := false) rfl rfl (guard_eq rfl hc1) (by decide) rfl (by decide) <| wl_skip (c := false) rfl rfl (guard_eq rfl hc1) (by decide) rfl (by decide) <| wl_skip (c := false) rfl rfl (guard_eq rfl hc1) (by decide) rfl (by decide) <| wd rfl (fun st => x_pick_f (v := .bool false) (ee st rfl) hc1 (ee st rfl)) <| wa rfl (v := .bool false) rfl <| wl_end <| lv_next <| cc_ret ?_
  obtain rfl := Option.some.inj hG
  refine lv_ret1 rfl rfl ?_
  exact ⟨hp0.fin, rfl⟩
theorem a98 (K_ : Nat) (p0 : (Int × Int)) (p1 : Int) (p2 : Int) (Z : Nat → Prop) (w : World) (r_ : Bool) (hG : G_Within K_ p0 p1 p2 = some r_) :
    Ret Try.prog 98 #[.agg #[I p0.1, I p0.2], I p1, I p2] w (fun v w' => Ext w w' ∧ vBool.R w' (ZZ Z w.heap.size []) v r_) := by
 unfold G_Within at hG
 refine ret_of_cc (N := 24) Try.func98 rfl rfl (by simp) ?_
 intro fr0 ha hdf
 have hp_0 := sl_arg (i := 0) (v := .agg #[I p0.1, I p0.2]) ha rfl
 have hp_1 := sl_arg (i := 1) (v := I p1) ha rfl
 have hp_2 := sl_arg (i := 2) (v := I p2) ha rfl
 clear ha
 have hp0 := Hp.refl w
 refine cc_seq <| cc_region <| we rfl (fun st => x_box (v := .agg #[I p0.1, I p0.2]) (cs := #[I p0.1, I p0.2]) (ee st hp_0) rfl) ?_
 rintro _ w1 ⟨b1, rfl, nb1⟩
 have hp1 : Hp w [some b1] w1 := hp0.new nb1.gr (Nat.le_of_eq nb1.b_eq.symm) (Nat.lt_of_lt_of_eq (Nat.lt_succ_self _) nb1.sz.symm)
 refine wa rfl (v := .bool false) rfl <| wl_end <| lv_next <| cc_seq <| cc_region <| wd rfl (fun st => x_fieldAddr (ee st rfl) (fz_23_0 _ _)) <| wd rfl (fun st => x_load1 (v := I p0.1) one_3 (ee st rfl) nb1.bk rfl) <| wm rfl (v := I p1) hp_1 <| wd rfl (fun st => x_geq (ee st rfl) (ee st rfl)) <| wm rfl (v := .bool (decide (p1 ≤ p0.1))) rfl ?_
 rcases bool_cases (decide (p1 ≤ p0.1)) with hc2 | hc2
 ·replace hG := cond_t hG hc2
  refine wl_detg rfl rfl (guard_eq rfl hc2) rfl (by decide) (fun st => x_fieldAddr (ee st rfl) (fz_23_0 _ _)) <| wl_detg rfl rfl (guard_eq rfl hc2) rfl (by decide) (fun st => x_load1 (v := I p0.1) one_3 (ee st rfl) nb1.bk rfl) <| wl_detg rfl rfl (guard_eq rfl hc2) rfl (by decide) (fun st => x_fieldAddr (ee st rfl) (fz_23_1 _ _)) <| wl_detg rfl rfl (guard_eq rfl hc2) rfl (by decide) (fun st => x_load1 (v := I p0.2) one_3 (ee st rfl) nb1.bk rfl) <| wl_detg rfl rfl (guard_eq rfl hc2) rfl (by decide) (fun st => x_leq (ee st rfl) (ee st rfl)) <| wd rfl (fun st => x_pick_t (v := .bool (decide (p0.1 ≤ p0.2))) (ee st rfl) hc2 (ee st rfl)) <| wm rfl (v := .bool (decide (p0.1 ≤ p0.2))) rfl ?_
  rcases bool_cases (decide (p0.1 ≤ p0.2)) with hc3 | hc3
  ·replace hG := cond_t hG hc3
   refine wl_detg rfl rfl (guard_eq rfl hc3) rfl (by decide) (fun st => x_fieldAddr (ee st rfl) (fz_23_1 _ _)) <| wl_detg rfl rfl (guard_eq rfl hc3) rfl (by decide) (fun st => x_load1 (v := I p0.2) one_3 (ee st rfl) nb1.bk rfl) <| wl_detg rfl rfl (guard_eq rfl hc3) rfl (by decide) (fun st => x_move (v := I p2) (ee st hp_2)) <| wl_detg rfl rfl (guard_eq rfl hc3) rfl (by decide) (fun st => x_leq (ee st rfl) (ee st rfl)) <| wd rfl (fun st => x_pick_t (v := .bool (decide (p0.2 ≤ p2))) (ee st rfl) hc3 (ee st rfl)) <| wa rfl (v := .bool (decide (p0.2 ≤ p2))) rfl <| wl_end <| lv_next <| cc_ret ?_
   obtain rfl := Option.some.inj hG
   refine lv_ret1 rfl rfl ?_
   exact ⟨hp1.fin, rfl⟩
  ·replace hG := cond_f hG hc3
   refine wl_skip (c := false) rfl rfl (guard_eq rfl hc3) (by decide) rfl (by decide) <| wl_skip (c := false) rfl rfl (guard_eq rfl hc3) (by decide) rfl (by decide) <| wl_skip (c := false) rfl rfl (guard_eq rfl hc3) (by decide) rfl (by decide) <| wl_skip (c := false) rfl rfl (guard_eq rfl hc3) (by decide) rfl (by decide) <| wd rfl (fun st => x_pick_f (v := .bool false) (ee st rfl) hc3 (ee st rfl)) <| wa rfl (v := .bool false) rfl <| wl_end <| lv_next <| cc_ret ?_
   obtain rfl := Option.some.inj hG
   refine lv_ret1 rfl rfl ?_
   exact ⟨hp1.fin, rfl⟩
 ·replace hG := cond_f hG hc2
  refine wl_skip (c := false) rfl rfl (guard_eq rfl hc2) (by decide) rfl (by decide) <| wl_skip (c := false) rfl rfl (guard_eq rfl hc2) (by decide) rfl (by decide) <| wl_skip (c := false) rfl rfl (guard_eq rfl hc2) (by decide) rfl (by decide) <| wl_skip (c := false) rfl rfl (guard_eq rfl hc2) (by decide) rfl (by decide) <| wl_skip (c := false) rfl rfl (guard_eq rfl hc2) (by decide) rfl (by decide) <| wd rfl (fun st => x_pick_f (v := .bool false) (ee st rfl) hc2 (ee st rfl)) <| wm rfl (v := .bool false) rfl <| wl_skip rfl rfl rfl (by decide) rfl (by decide) <| wl_skip rfl rfl rfl (by decide) rfl (by decide) <| wl_skip rfl rfl rfl (by decide) rfl (by decide) <| wl_skip rfl rfl rfl (by decide) rfl (by decide) <| wd rfl (fun st => x_pick_f (v := .bool false) (ee st rfl) rfl (ee st rfl)) <| wa rfl (v := .bool false) rfl <| wl_end <| lv_next <| cc_ret ?_
  obtain rfl := Option.some.inj hG
  refine lv_ret1 rfl rfl ?_
  exact ⟨hp1.fin, rfl⟩
theorem a41 (K_ : Nat) (p0 : List Int) (p1 : Int) (p2 : Int) (p3 : Int) (A0_0 : Option Addr) (c0_0 : Nat) (Z : Nat → Prop) (w : World) (hS0_0 : Sl (eInt .i64) w Z A0_0 c0_0 p0) (r_ : Int) (hG : G_Did K_ p0 p1 p2 p3 = some r_) :
    Ret Try.prog 41 #[.slice A0_0 p0.length c0_0, I p1, I p2, I p3] w (fun v w' => Ext w w' ∧ (vInt .i64).R w' (ZZ Z w.heap.size []) v r_) := by
 unfold G_Did at hG
 refine ret_of_cc (N := 26) Try.func41 rfl rfl (by simp) ?_
 intro fr0 ha hdf
 have hp_0 := sl_arg (i := 0) (v := .slice A0_0 p0.length c0_0) ha rfl
 have hp_1 := sl_arg (i := 1) (v := I p1) ha rfl
 have hp_2 := sl_arg (i := 2) (v := I p2) ha rfl
 have hp_3 := sl_arg (i := 3) (v := I p3) ha rfl
 clear ha
 have hp0 := Hp.refl w
 have hS0_0_0 := hS0_0.mv (mv_start w)
 refine cc_seq <| cc_region <| wa rfl (v := I 0) rfl <| wl_end <| lv_next <| cc_seq <| cc_region <| wa rfl (v := I 0) rfl <| wl_end <| lv_next <| cc_seq <| cc_seq <| cc_region <| wm rfl (v := I p2) hp_2 <| wa rfl (v := I p2) rfl <| wl_end <| lv_next <| cc_block ?_
 replace hG := bind_some hG; obtain ⟨z1, hL1, hG⟩ := hG
 refine cc_join (fun e_ fr_ w_ => (e_ = .exit 0 ∧ fr_.tmps.size = 26 ∧ fr_.defers = [] ∧ sl fr_ 9 = I z1 ∧ w = w_)) ?lp1 ?af1
 case lp1 =>
  clear hG
  refine cc_loop (fun (m_ : Nat) (fr_ : Act) (w_ : World) => ∃ s1_9, ∃ s1_10, G_Did_L1 p0 p1 p3 m_ s1_9 s1_10 = some z1 ∧ fr_.tmps.size = 26 ∧ fr_.defers = [] ∧ sl fr_ 0 = .slice A0_0 p0.length c0_0 ∧ sl fr_ 1 = I p1 ∧ sl fr_ 3 = I p3 ∧ sl fr_ 9 = I s1_9 ∧ sl fr_ 10 = I s1_10 ∧ w = w_) K_ ?in1 ?rd1
  case in1 =>
   intro st
   exact ⟨(0 : Int), p2, hL1, (puts_size _ _).trans st.sz, (puts_defers _ _).trans st.df, (sl_puts st 0).trans hp_0, (sl_puts st 1).trans hp_1, (sl_puts st 3).trans hp_3, (sl_puts st 9).trans rfl, (sl_puts st 10).trans rfl, rfl⟩
  case rd1 =>
   rintro (_ | m_) fr1 _ ⟨s1_9, s1_10, hL1, hsz1, hdf1, hs1_0, hs1_1, hs1_3, hs1_9, hs1_10, rfl⟩
   ·exact absurd (show none = some _ from hL1) (by simp)
   rw [G_Did_L1.eq_2] at hL1
   have hG := hL1; clear hL1
   refine round_cc (N := 26) hsz1 hdf1 <| cc_seq <| cc_seq <| cc_region <| wm rfl (v := I s1_10) hs1_10 <| wm rfl (v := I p3) hs1_3 <| wd rfl (fun st => x_leq (ee st rfl) (ee st rfl)) <| wl_end <| lv_next ?_
   rcases bool_cases (decide (s1_10 ≤ p3)) with hc2 | hc2
   ·replace hG := cond_t hG hc2
    refine cc_cond_t rfl hc2 <| cc_skip <| lv_next <| cc_seq <| cc_block <| cc_seq <| cc_region <| wm rfl (v := .slice A0_0 p0.length c0_0) hs1_0 <| wm rfl (v := I s1_10) hs1_10 ?_
    replace hG := idx_bind hG; obtain ⟨i3, x3, hi3, hx3, hl3, hG⟩ := hG
    obtain ⟨b3, o3, _, hA3, rfl, hz3⟩ := Sl.elem1 hS0_0_0 rfl hx3
    refine wd rfl (fun st => x_indexAddr1 (k := i3) Try.underlying43 sz_3 (ee st rfl) hA3 (ee st rfl) hi3 hl3) <| wd rfl (fun st => x_load_z0 (v := I x3) one_3 (ee st rfl) hz3 rfl) <| wm rfl (v := I p1) hs1_1 <| wd rfl (fun st => x_eql (ee st rfl) (ee st rfl)) <| wl_end <| lv_next ?_
    rcases bool_cases (x3 == p1) with hc4 | hc4
    ·replace hG := cond_t hG hc4
     refine cc_cond_t rfl hc4 <| cc_region <| wm rfl (v := I s1_9) hs1_9 ?_
     replace hG := i64_bind hG; obtain ⟨hf5, hG⟩ := hG
     refine wd rfl (fun st => x_add (ee st rfl) (ee st rfl) hf5) <| wa rfl (v := I (s1_9 + 1)) rfl <| wl_end <| lv_block <| lv_next <| cc_region <| wm rfl (v := I s1_10) hs1_10 ?_
     replace hG := i64_bind hG; obtain ⟨hf6, hG⟩ := hG
     refine wd rfl (fun st => x_add (ee st rfl) (ee st rfl) hf6) <| wa rfl (v := I (s1_10 + 1)) rfl <| wl_end ?_
     refine lv_round m_ (Nat.lt_succ_self _) (fun st => ?_)
     exact ⟨(s1_9 + 1), (s1_10 + 1), hG, (puts_size _ _).trans st.sz, (puts_defers _ _).trans st.df, (sl_puts st 0).trans hs1_0, (sl_puts st 1).trans hs1_1, (sl_puts st 3).trans hs1_3, (sl_puts st 9).trans rfl, (sl_puts st 10).trans rfl, rfl⟩
    ·replace hG := cond_f hG hc4
     refine cc_cond_f rfl hc4 <| cc_skip <| lv_block <| lv_next <| cc_region <| wm rfl (v := I s1_10) hs1_10 ?_
     replace hG := i64_bind hG; obtain ⟨hf7, hG⟩ := hG
     refine wd rfl (fun st => x_add (ee st rfl) (ee st rfl) hf7) <| wa rfl (v := I (s1_10 + 1)) rfl <| wl_end ?_
     refine lv_round m_ (Nat.lt_succ_self _) (fun st => ?_)
     exact ⟨s1_9, (s1_10 + 1), hG, (puts_size _ _).trans st.sz, (puts_defers _ _).trans st.df, (sl_puts st 0).trans hs1_0, (sl_puts st 1).trans hs1_1, (sl_puts st 3).trans hs1_3, (sl_puts st 9).trans hs1_9, (sl_puts st 10).trans rfl, rfl⟩
   ·replace hG := cond_f hG hc2
    refine cc_cond_f rfl hc2 <| cc_exit <| lv_then_exit <| lv_then_exit ?_
    obtain rfl := Option.some.inj hG
    refine lv_to (fun st => ?_)
    exact ⟨rfl, (puts_size _ _).trans st.sz, (puts_defers _ _).trans st.df, (sl_puts st 9).trans hs1_9, rfl⟩
 case af1 =>
  rintro e_ fr1a _ (⟨rfl, hsz1a, hdf1a, hs1a_9, rfl⟩)
  refine lv_fr (X := X0) (N := 26) hsz1a hdf1a <| lv_block_hit <| lv_next <| cc_seq <| cc_region <| wm rfl (v := I z1) hs1a_9 <| wa rfl (v := I z1) rfl <| wl_end <| lv_next <| cc_ret ?_
  obtain rfl := Option.some.inj hG
  refine lv_ret1 rfl rfl ?_
  exact ⟨hp0.fin, rfl⟩
theorem a65 (K_ : Nat) (p0 : Fld) (A0_0 : Option Addr) (c0_0 : Nat) (Z : Nat → Prop) (w : World) (hS0_0 : Sl eTly w Z A0_0 c0_0 p0.ts) (r_ : Int) (hG : G_Many K_ p0 = some r_) :
    Ret Try.prog 65 #[.agg #[I p0.rows, I p0.wd, I p0.lo, I p0.hi, .slice A0_0 p0.ts.length c0_0]] w (fun v w' => Ext w w' ∧ (vInt .i64).R w' (ZZ Z w.heap.size []) v r_) := by
 unfold G_Many at hG
 refine ret_of_cc (N := 17) Try.func65 rfl rfl (by simp) ?_
 intro fr0 ha hdf
 have hp_0 := sl_arg (i := 0) (v := .agg #[I p0.rows, I p0.wd, I p0.lo, I p0.hi, .slice A0_0 p0.ts.length c0_0]) ha rfl
 clear ha
 have hp0 := Hp.refl w
 have hS0_0_0 := hS0_0.mv (mv_start w)
 refine cc_seq <| cc_region <| we rfl (fun st => x_box (v := .agg #[I p0.rows, I p0.wd, I p0.lo, I p0.hi, .slice A0_0 p0.ts.length c0_0]) (cs := #[I p0.rows, I p0.wd, I p0.lo, I p0.hi, .slice A0_0 p0.ts.length c0_0]) (ee st hp_0) rfl) ?_
 rintro _ w1 ⟨b1, rfl, nb1⟩
 have hp1 : Hp w [some b1] w1 := hp0.new nb1.gr (Nat.le_of_eq nb1.b_eq.symm) (Nat.lt_of_lt_of_eq (Nat.lt_succ_self _) nb1.sz.symm)
 refine wa rfl (v := I 0) rfl <| wl_end <| lv_next <| cc_seq <| cc_region <| wa rfl (v := I 1) rfl <| wl_end <| lv_next <| cc_seq <| cc_seq <| cc_region <| wa rfl (v := I 0) rfl <| wl_end <| lv_next <| cc_block ?_
 replace hG := bind_some hG; obtain ⟨z2, hL2, hG⟩ := hG
 refine cc_join (fun e_ fr_ w_ => (e_ = .exit 0 ∧ fr_.tmps.size = 17 ∧ fr_.defers = [] ∧ sl fr_ 3 = I z2 ∧ w1 = w_)) ?lp2 ?af2
 case lp2 =>
  clear hG
  refine cc_loop (fun (m_ : Nat) (fr_ : Act) (w_ : World) => ∃ s2_3, ∃ s2_4, G_Many_L2 p0 m_ s2_3 s2_4 = some z2 ∧ fr_.tmps.size = 17 ∧ fr_.defers = [] ∧ sl fr_ 1 = pt b1 0 ∧ sl fr_ 3 = I s2_3 ∧ sl fr_ 4 = I s2_4 ∧ w1 = w_) K_ ?in2 ?rd2
  case in2 =>
   intro st
   exact ⟨(1 : Int), (0 : Int), hL2, (puts_size _ _).trans st.sz, (puts_defers _ _).trans st.df, (sl_puts st 1).trans rfl, (sl_puts st 3).trans rfl, (sl_puts st 4).trans rfl, rfl⟩
  case rd2 =>
   rintro (_ | m_) fr2 _ ⟨s2_3, s2_4, hL2, hsz2, hdf2, hs2_1, hs2_3, hs2_4, rfl⟩
   ·exact absurd (show none = some _ from hL2) (by simp)
   rw [G_Many_L2.eq_2] at hL2
   have hG := hL2; clear hL2
   refine round_cc (N := 17) hsz2 hdf2 <| cc_seq <| cc_seq <| cc_region <| wm rfl (v := I s2_4) hs2_4 <| wd rfl (fun st => x_fieldAddr (ee st hs2_1) (fz_26_0 _ _)) <| wd rfl (fun st => x_load1 (v := I p0.rows) one_3 (ee st rfl) nb1.bk rfl) <| wd rfl (fun st => x_lss (ee st rfl) (ee st rfl)) <| wl_end <| lv_next ?_
   rcases bool_cases (decide (s2_4 < p0.rows)) with hc3 | hc3
   ·replace hG := cond_t hG hc3
    refine cc_cond_t rfl hc3 <| cc_skip <| lv_next <| cc_seq <| cc_block <| cc_region <| wm rfl (v := I s2_3) hs2_3 <| wd rfl (fun st => x_fieldAddr (ee st hs2_1) (fz_26_1 _ _)) <| wd rfl (fun st => x_load1 (v := I p0.wd) one_3 (ee st rfl) nb1.bk rfl) ?_
    replace hG := i64_bind hG; obtain ⟨hf4, hG⟩ := hG
    refine wd rfl (fun st => x_add (ee st rfl) (ee st rfl) hf4) ?_
    replace hG := i64_bind hG; obtain ⟨hf5, hG⟩ := hG
    refine wd rfl (fun st => x_mul (ee st rfl) (ee st rfl) hf5) <| wa rfl (v := I (s2_3 * (p0.wd + 1))) rfl <| wl_end <| lv_block <| lv_next <| cc_region <| wm rfl (v := I s2_4) hs2_4 ?_
    replace hG := i64_bind hG; obtain ⟨hf6, hG⟩ := hG
    refine wd rfl (fun st => x_add (ee st rfl) (ee st rfl) hf6) <| wa rfl (v := I (s2_4 + 1)) rfl <| wl_end ?_
    refine lv_round m_ (Nat.lt_succ_self _) (fun st => ?_)
    exact ⟨(s2_3 * (p0.wd + 1)), (s2_4 + 1), hG, (puts_size _ _).trans st.sz, (puts_defers _ _).trans st.df, (sl_puts st 1).trans hs2_1, (sl_puts st 3).trans rfl, (sl_puts st 4).trans rfl, rfl⟩
   ·replace hG := cond_f hG hc3
    refine cc_cond_f rfl hc3 <| cc_exit <| lv_then_exit <| lv_then_exit ?_
    obtain rfl := Option.some.inj hG
    refine lv_to (fun st => ?_)
    exact ⟨rfl, (puts_size _ _).trans st.sz, (puts_defers _ _).trans st.df, (sl_puts st 3).trans hs2_3, rfl⟩
 case af2 =>
  rintro e_ fr2a _ (⟨rfl, hsz2a, hdf2a, hs2a_3, rfl⟩)
  refine lv_fr (X := X0) (N := 17) hsz2a hdf2a <| lv_block_hit <| lv_next <| cc_seq <| cc_region <| wm rfl (v := I z2) hs2a_3 <| wa rfl (v := I z2) rfl <| wl_end <| lv_next <| cc_ret ?_
  obtain rfl := Option.some.inj hG
  refine lv_ret1 rfl rfl ?_
  exact ⟨hp1.fin, rfl⟩
end Go.Proofs.Ythogdgkafaclaaa
end
section
set_option linter.unusedVariables false
set_option linter.unusedSimpArgs false
namespace Go.Proofs.Ythogdgkafaclaaa
open Go.RowKit
open AF
theorem mixedA2 : Try.prog.follows .mixedOrders = true := by kernel_rfl
attribute [local irreducible] Ex1 WL CC CW LV Ret ObOp Agg One Own
theorem a47 (K_ : Nat) (p0 : Fld) (A0_0 : Option Addr) (c0_0 : Nat) (Z : Nat → Prop) (w : World) (hS0_0 : Sl eTly w Z A0_0 c0_0 p0.ts) (r_ : Int) (hG : G_Full K_ p0 = some r_) :
    Ret Try.prog 47 #[.agg #[I p0.rows, I p0.wd, I p0.lo, I p0.hi, .slice A0_0 p0.ts.length c0_0]] w (fun v w' => Ext w w' ∧ (vInt .i64).R w' (ZZ Z w.heap.size []) v r_) := by
 unfold G_Full at hG
 refine ret_of_cc (N := 9) Try.func47 rfl rfl (by simp) ?_
 intro fr0 ha hdf
 have hp_0 := sl_arg (i := 0) (v := .agg #[I p0.rows, I p0.wd, I p0.lo, I p0.hi, .slice A0_0 p0.ts.length c0_0]) ha rfl
 clear ha
 have hp0 := Hp.refl w
 have hS0_0_0 := hS0_0.mv (mv_start w)
 refine cc_seq <| cc_region <| we rfl (fun st => x_box (v := .agg #[I p0.rows, I p0.wd, I p0.lo, I p0.hi, .slice A0_0 p0.ts.length c0_0]) (cs := #[I p0.rows, I p0.wd, I p0.lo, I p0.hi, .slice A0_0 p0.ts.length c0_0]) (ee st hp_0) rfl) ?_
 rintro _ w1 ⟨b1, rfl, nb1⟩
 have hp1 : Hp w [some b1] w1 := hp0.new nb1.gr (Nat.le_of_eq nb1.b_eq.symm) (Nat.lt_of_lt_of_eq (Nat.lt_succ_self _) nb1.sz.symm)
 refine wa rfl (v := I 0) rfl <| wl_end <| lv_next <| cc_seq <| cc_region <| wd rfl (fun st => x_fieldAddr (ee st rfl) (fz_26_3 _ _)) <| wd rfl (fun st => x_load1 (v := .slice A0_0 p0.ts.length c0_0) one_24 (ee st rfl) nb1.bk rfl) <| wd rfl (fun st => x_len Try.underlying24 (ee st rfl)) ?_
 replace hG := cvO_bind hG; obtain ⟨hf2, hG⟩ := hG
 refine wd rfl (fun st => x_conv (k := .u64) sm_3 Try.underlying63 (ee st rfl) hf2) ?_
 replace hG := shlO_bind hG; obtain ⟨hf3, hG⟩ := hG
 refine wd rfl (fun st => x_shl (ee st rfl) (ee st rfl) hf3) ?_
 replace hG := i64_bind hG; obtain ⟨hf4, hG⟩ := hG
 refine wd rfl (fun st => x_sub (ee st rfl) (ee st rfl) hf4) <| wa rfl (v := I ((shlI (1 : Int) (p0.ts.length : Int)) - 1)) rfl <| wl_end <| lv_next <| cc_ret ?_
 obtain rfl := Option.some.inj hG
 refine lv_ret1 rfl rfl ?_
 exact ⟨hp1.fin, rfl⟩
theorem a89 (K_ : Nat) (p0 : List Int) (p1 : List Int) (A0_0 : Option Addr) (c0_0 : Nat) (A1_0 : Option Addr) (c1_0 : Nat) (Z : Nat → Prop) (w : World) (hS0_0 : Sl (eInt .i64) w Z A0_0 c0_0 p0) (hS1_0 : Sl (eInt .i64) w Z A1_0 c1_0 p1) (r_ : Bool) (hG : G_Before K_ p0 p1 = some r_) :
    Ret Try.prog 89 #[.slice A0_0 p0.length c0_0, .slice A1_0 p1.length c1_0] w (fun v w' => Ext w w' ∧ vBool.R w' (ZZ Z w.heap.size []) v r_) := by
 unfold G_Before at hG
 refine ret_of_cc (N := 41) Try.func89 rfl rfl (by simp) ?_
 intro fr0 ha hdf
 have hp_0 := sl_arg (i := 0) (v := .slice A0_0 p0.length c0_0) ha rfl
 have hp_1 := sl_arg (i := 1) (v := .slice A1_0 p1.length c1_0) ha rfl
 clear ha
 have hp0 := Hp.refl w
 have hS0_0_0 := hS0_0.mv (mv_start w)
 have hS1_0_0 := hS1_0.mv (mv_start w)
 refine cc_seq <| cc_region <| wa rfl (v := .bool false) rfl <| wl_end <| lv_next <| cc_seq <| cc_seq <| cc_region <| wa rfl (v := I 0) rfl <| wl_end <| lv_next <| cc_block ?_
 replace hG := bind_some hG; obtain ⟨z1, hL1, hG⟩ := hG
 refine cc_join (fun e_ fr_ w_ => (e_ = .ret ∧ ∃ q1, z1 = .inl q1 ∧ fr_.tmps.size = 41 ∧ fr_.defers = [] ∧ sl fr_ 4 = .bool q1 ∧ Hp w [] w_) ∨ (e_ = .exit 0 ∧ ∃ q1, z1 = .inr q1 ∧ fr_.tmps.size = 41 ∧ fr_.defers = [] ∧ sl fr_ 0 = .slice A0_0 p0.length c0_0 ∧ sl fr_ 1 = .slice A1_0 p1.length c1_0 ∧ Hp w [] w_ ∧ Sl (eInt .i64) w_ (ZZ Z w.heap.size []) A0_0 c0_0 p0 ∧ Sl (eInt .i64) w_ (ZZ Z w.heap.size []) A1_0 c1_0 p1)) ?lp1 ?af1
 case lp1 =>
  clear hG
  refine cc_loop (fun (m_ : Nat) (fr_ : Act) (w_ : World) => ∃ s1_5, G_Before_L1 p0 p1 m_ s1_5 = some z1 ∧ fr_.tmps.size = 41 ∧ fr_.defers = [] ∧ sl fr_ 0 = .slice A0_0 p0.length c0_0 ∧ sl fr_ 1 = .slice A1_0 p1.length c1_0 ∧ sl fr_ 5 = I s1_5 ∧ Hp w [] w_ ∧ Sl (eInt .i64) w_ (ZZ Z w.heap.size []) A0_0 c0_0 p0 ∧ Sl (eInt .i64) w_ (ZZ Z w.heap.size []) A1_0 c1_0 p1) K_ ?in1 ?rd1
  case in1 =>
   intro st
   exact ⟨(0 : Int), hL1, (puts_size _ _).trans st.sz, (puts_defers _ _).trans st.df, (sl_puts st 0).trans hp_0, (sl_puts st 1).trans hp_1, (sl_puts st 5).trans rfl, hp0, hS0_0_0, hS1_0_0⟩
  case rd1 =>
   rintro (_ | m_) fr1 w1r ⟨s1_5, hL1, hsz1, hdf1, hs1_0, hs1_1, hs1_5, hp1, f1_hS0_0, f1_hS1_0⟩
   ·exact absurd (show none = some _ from hL1) (by simp)
   rw [G_Before_L1.eq_2] at hL1
   have hG := hL1; clear hL1
   refine round_cc (N := 41) hsz1 hdf1 <| cc_seq <| cc_seq <| cc_region <| wm rfl (v := I s1_5) hs1_5 <| wm rfl (v := .slice A0_0 p0.length c0_0) hs1_0 <| wd rfl (fun st => x_len Try.underlying43 (ee st rfl)) <| wd rfl (fun st => x_lss (ee st rfl) (ee st rfl)) <| wm rfl (v := .bool (decide (s1_5 < (p0.length : Int)))) rfl ?_
   rcases bool_cases (decide (s1_5 < (p0.length : Int))) with hc2 | hc2
   ·replace hG := cond_t hG hc2
    refine wl_detg rfl rfl (guard_eq rfl hc2) rfl (by decide) (fun st => x_move (v := I s1_5) (ee st hs1_5)) <| wl_detg rfl rfl (guard_eq rfl hc2) rfl (by decide) (fun st => x_move (v := .slice A1_0 p1.length c1_0) (ee st hs1_1)) <| wl_detg rfl rfl (guard_eq rfl hc2) rfl (by decide) (fun st => x_len Try.underlying43 (ee st rfl)) <| wl_detg rfl rfl (guard_eq rfl hc2) rfl (by decide) (fun st => x_lss (ee st rfl) (ee st rfl)) <| wd rfl (fun st => x_pick_t (v := .bool (decide (s1_5 < (p1.length : Int)))) (ee st rfl) hc2 (ee st rfl)) <| wl_end <| lv_next ?_
    rcases bool_cases (decide (s1_5 < (p1.length : Int))) with hc3 | hc3
    ·replace hG := cond_t hG hc3
     refine cc_cond_t rfl hc3 <| cc_skip <| lv_next <| cc_seq <| cc_block <| cc_seq ?_
     replace hG := idx_bind hG; obtain ⟨i5, x5, hi5, hx5, hl5, hG⟩ := hG
     obtain ⟨b5, o5, _, hA5, rfl, hz5⟩ := Sl.elem1 f1_hS0_0 rfl hx5
     replace hG := idx_bind hG; obtain ⟨i6, x6, hi6, hx6, hl6, hG⟩ := hG
     obtain ⟨b6, o6, _, hA6, rfl, hz6⟩ := Sl.elem1 f1_hS1_0 rfl hx6
     refine cc_anyM0 9 [Kc (.slice A0_0 p0.length c0_0), Kc (I s1_5), Kc (pt b5 (o5 + i5)), Kc (I x5), Kc (.slice A1_0 p1.length c1_0), Kc (I s1_5), Kc (pt b6 (o6 + i6)), Kc (I x6), Kc (.bool (x5 != x6))] mixedA2 rfl rfl
         (obsN_cons (od rfl (fun _ => rfl) (fun K => x_move (v := .slice A0_0 p0.length c0_0) (es (t := 0) (v := .slice A0_0 p0.length c0_0) ((K.out 0 rfl).trans hs1_0))))
         (obsN_cons (od rfl (fun _ => rfl) (fun K => x_move (v := I s1_5) (es (t := 5) (v := I s1_5) ((K.out 5 rfl).trans hs1_5))))
         (obsN_cons (od rfl (fun _ => rfl) (fun K => x_indexAddr1 (k := i5) Try.underlying43 sz_3 (es (t := 18) (v := .slice A0_0 p0.length c0_0) (K.dep 0 18 rfl rfl)) hA5 (es (t := 19) (v := I s1_5) (K.dep 1 19 rfl rfl)) hi5 hl5))
         (obsN_cons (od rfl (fun _ => rfl) (fun K => x_load_z0 (v := I x5) one_3 (es (t := 20) (v := pt b5 (o5 + i5)) (K.dep 2 20 rfl rfl)) (hz5.mv (mv_ext K.phT)) rfl))
         (obsN_cons (od rfl (fun _ => rfl) (fun K => x_move (v := .slice A1_0 p1.length c1_0) (es (t := 1) (v := .slice A1_0 p1.length c1_0) ((K.out 1 rfl).trans hs1_1))))
         (obsN_cons (od rfl (fun _ => rfl) (fun K => x_move (v := I s1_5) (es (t := 5) (v := I s1_5) ((K.out 5 rfl).trans hs1_5))))
         (obsN_cons (od rfl (fun _ => rfl) (fun K => x_indexAddr1 (k := i6) Try.underlying43 sz_3 (es (t := 22) (v := .slice A1_0 p1.length c1_0) (K.dep 4 22 rfl rfl)) hA6 (es (t := 23) (v := I s1_5) (K.dep 5 23 rfl rfl)) hi6 hl6))
         (obsN_cons (od rfl (fun _ => rfl) (fun K => x_load_z0 (v := I x6) one_3 (es (t := 24) (v := pt b6 (o6 + i6)) (K.dep 6 24 rfl rfl)) (hz6.mv (mv_ext K.phT)) rfl))
         (obsN_cons (od rfl (fun _ => rfl) (fun K => x_neq (es (t := 21) (v := I x5) (K.dep 3 21 rfl rfl)) (es (t := 25) (v := I x6) (K.dep 7 25 rfl rfl))))
         (obsN_nil _)))))))))) ?_
     intro w4
     rintro _ rfl _ rfl _ rfl _ rfl _ rfl _ rfl _ rfl _ rfl _ rfl hx4
     have hp2 : Hp w [] w4 := hp1.ext hx4
     refine wl_end <| lv_next ?_
     rcases bool_cases (x5 != x6) with hc7 | hc7
     ·replace hG := cond_t hG hc7
      refine cc_cond_t rfl hc7 <| cc_seq ?_
      replace hG := idx_bind hG; obtain ⟨i9, x9, hi9, hx9, hl9, hG⟩ := hG
      have hS0_0_2 : Sl (eInt .i64) w4 (ZZ Z w.heap.size []) A0_0 c0_0 p0 := (f1_hS0_0.mv (mv_ext hx4))
      obtain ⟨b9, o9, _, hA9, rfl, hz9⟩ := Sl.elem1 hS0_0_2 rfl hx9
      replace hG := idx_bind hG; obtain ⟨i10, x10, hi10, hx10, hl10, hG⟩ := hG
      have hS1_0_2 : Sl (eInt .i64) w4 (ZZ Z w.heap.size []) A1_0 c1_0 p1 := (f1_hS1_0.mv (mv_ext hx4))
      obtain ⟨b10, o10, _, hA10, rfl, hz10⟩ := Sl.elem1 hS1_0_2 rfl hx10
      refine cc_anyM0 9 [Kc (.slice A0_0 p0.length c0_0), Kc (I s1_5), Kc (pt b9 (o9 + i9)), Kc (I x9), Kc (.slice A1_0 p1.length c1_0), Kc (I s1_5), Kc (pt b10 (o10 + i10)), Kc (I x10), Kc (.bool (decide (x9 < x10)))] mixedA2 rfl rfl
          (obsN_cons (od rfl (fun _ => rfl) (fun K => x_move (v := .slice A0_0 p0.length c0_0) (es (t := 0) (v := .slice A0_0 p0.length c0_0) ((K.out 0 rfl).trans hs1_0))))
          (obsN_cons (od rfl (fun _ => rfl) (fun K => x_move (v := I s1_5) (es (t := 5) (v := I s1_5) ((K.out 5 rfl).trans hs1_5))))
          (obsN_cons (od rfl (fun _ => rfl) (fun K => x_indexAddr1 (k := i9) Try.underlying43 sz_3 (es (t := 27) (v := .slice A0_0 p0.length c0_0) (K.dep 0 27 rfl rfl)) hA9 (es (t := 28) (v := I s1_5) (K.dep 1 28 rfl rfl)) hi9 hl9))
          (obsN_cons (od rfl (fun _ => rfl) (fun K => x_load_z0 (v := I x9) one_3 (es (t := 29) (v := pt b9 (o9 + i9)) (K.dep 2 29 rfl rfl)) (hz9.mv (mv_ext K.phT)) rfl))
          (obsN_cons (od rfl (fun _ => rfl) (fun K => x_move (v := .slice A1_0 p1.length c1_0) (es (t := 1) (v := .slice A1_0 p1.length c1_0) ((K.out 1 rfl).trans hs1_1))))
          (obsN_cons (od rfl (fun _ => rfl) (fun K => x_move (v := I s1_5) (es (t := 5) (v := I s1_5) ((K.out 5 rfl).trans hs1_5))))
          (obsN_cons (od rfl (fun _ => rfl) (fun K => x_indexAddr1 (k := i10) Try.underlying43 sz_3 (es (t := 31) (v := .slice A1_0 p1.length c1_0) (K.dep 4 31 rfl rfl)) hA10 (es (t := 32) (v := I s1_5) (K.dep 5 32 rfl rfl)) hi10 hl10))
          (obsN_cons (od rfl (fun _ => rfl) (fun K => x_load_z0 (v := I x10) one_3 (es (t := 33) (v := pt b10 (o10 + i10)) (K.dep 6 33 rfl rfl)) (hz10.mv (mv_ext K.phT)) rfl))
          (obsN_cons (od rfl (fun _ => rfl) (fun K => x_lss (es (t := 30) (v := I x9) (K.dep 3 30 rfl rfl)) (es (t := 34) (v := I x10) (K.dep 7 34 rfl rfl))))
          (obsN_nil _)))))))))) ?_
      intro w8
      rintro _ rfl _ rfl _ rfl _ rfl _ rfl _ rfl _ rfl _ rfl _ rfl hx8
      have hp3 : Hp w [] w8 := hp2.ext hx8
      refine wa rfl (v := .bool (decide (x9 < x10))) rfl <| wl_end <| lv_next <| cc_ret <| lv_block_ret <| lv_then_ret <| lv_then_ret ?_
      obtain rfl := Option.some.inj hG
      refine lv_to (fun st => ?_)
      exact .inl ⟨rfl, (decide (x9 < x10)), rfl, (puts_size _ _).trans st.sz, (puts_defers _ _).trans st.df, (sl_puts st 4).trans rfl, hp3⟩
     ·replace hG := cond_f hG hc7
      refine cc_cond_f rfl hc7 <| cc_skip <| lv_block <| lv_next <| cc_region <| wm rfl (v := I s1_5) hs1_5 ?_
      replace hG := i64_bind hG; obtain ⟨hf11, hG⟩ := hG
      refine wd rfl (fun st => x_add (ee st rfl) (ee st rfl) hf11) <| wa rfl (v := I (s1_5 + 1)) rfl <| wl_end ?_
      have hS0_0_2 : Sl (eInt .i64) w4 (ZZ Z w.heap.size []) A0_0 c0_0 p0 := (f1_hS0_0.mv (mv_ext hx4))
      have hS1_0_2 : Sl (eInt .i64) w4 (ZZ Z w.heap.size []) A1_0 c1_0 p1 := (f1_hS1_0.mv (mv_ext hx4))
      refine lv_round m_ (Nat.lt_succ_self _) (fun st => ?_)
      exact ⟨(s1_5 + 1), hG, (puts_size _ _).trans st.sz, (puts_defers _ _).trans st.df, (sl_puts st 0).trans hs1_0, (sl_puts st 1).trans hs1_1, (sl_puts st 5).trans rfl, hp2, hS0_0_2, hS1_0_2⟩
    ·replace hG := cond_f hG hc3
     refine cc_cond_f rfl hc3 <| cc_exit <| lv_then_exit <| lv_then_exit ?_
     obtain rfl := Option.some.inj hG
     refine lv_to (fun st => ?_)
     exact .inr ⟨rfl, (), rfl, (puts_size _ _).trans st.sz, (puts_defers _ _).trans st.df, (sl_puts st 0).trans hs1_0, (sl_puts st 1).trans hs1_1, hp1, f1_hS0_0, f1_hS1_0⟩
   ·replace hG := cond_f hG hc2
    refine wl_skip (c := false) rfl rfl (guard_eq rfl hc2) (by decide) rfl (by decide) <| wl_skip (c := false) rfl rfl (guard_eq rfl hc2) (by decide) rfl (by decide) <| wl_skip (c := false) rfl rfl (guard_eq rfl hc2) (by decide) rfl (by decide) <| wl_skip (c := false) rfl rfl (guard_eq rfl hc2) (by decide) rfl (by decide) <| wd rfl (fun st => x_pick_f (v := .bool false) (ee st rfl) hc2 (ee st rfl)) <| wl_end <| lv_next <| cc_cond_f rfl rfl <| cc_exit <| lv_then_exit <| lv_then_exit ?_
    obtain rfl := Option.some.inj hG
    refine lv_to (fun st => ?_)
    exact .inr ⟨rfl, (), rfl, (puts_size _ _).trans st.sz, (puts_defers _ _).trans st.df, (sl_puts st 0).trans hs1_0, (sl_puts st 1).trans hs1_1, hp1, f1_hS0_0, f1_hS1_0⟩
 case af1 =>
  rintro e_ fr1a w1a (⟨rfl, q1, rfl, hsz1a, hdf1a, hs1a_4, hp1a⟩ | ⟨rfl, q1, rfl, hsz1a, hdf1a, hs1a_0, hs1a_1, hp1a, g1_hS0_0, g1_hS1_0⟩)
  ·skip
   replace hG := inl_some hG
   refine lv_fr (X := X0) (N := 41) hsz1a hdf1a <| lv_block_ret <| lv_then_ret ?_
   obtain rfl := Option.some.inj hG
   refine lv_ret1 rfl hs1a_4 ?_
   exact ⟨hp1a.fin, rfl⟩
  ·skip
   replace hG := inr_some hG
   refine lv_fr (X := X0) (N := 41) hsz1a hdf1a <| lv_block_hit <| lv_next <| cc_seq <| cc_region <| wm rfl (v := .slice A0_0 p0.length c0_0) hs1a_0 <| wd rfl (fun st => x_len Try.underlying43 (ee st rfl)) <| wm rfl (v := .slice A1_0 p1.length c1_0) hs1a_1 <| wd rfl (fun st => x_len Try.underlying43 (ee st rfl)) <| wd rfl (fun st => x_lss (ee st rfl) (ee st rfl)) <| wa rfl (v := .bool (decide ((p0.length : Int) < (p1.length : Int)))) rfl <| wl_end <| lv_next <| cc_ret ?_
   obtain rfl := Option.some.inj hG
   refine lv_ret1 rfl rfl ?_
   exact ⟨hp1a.fin, rfl⟩
theorem a48 (K_ : Nat) (p0 : List Int) (p1 : List Int) (A0_0 : Option Addr) (c0_0 : Nat) (A1_0 : Option Addr) (c1_0 : Nat) (Z : Nat → Prop) (w : World) (hS0_0 : Sl (eInt .i64) w Z A0_0 c0_0 p0) (hS1_0 : Sl (eInt .i64) w Z A1_0 c1_0 p1) (r_ : Bool) (hG : G_Shorter K_ p0 p1 = some r_) :
    Ret Try.prog 48 #[.slice A0_0 p0.length c0_0, .slice A1_0 p1.length c1_0] w (fun v w' => Ext w w' ∧ vBool.R w' (ZZ Z w.heap.size []) v r_) := by
 unfold G_Shorter at hG
 refine ret_of_cc (N := 22) Try.func48 rfl rfl (by simp) ?_
 intro fr0 ha hdf
 have hp_0 := sl_arg (i := 0) (v := .slice A0_0 p0.length c0_0) ha rfl
 have hp_1 := sl_arg (i := 1) (v := .slice A1_0 p1.length c1_0) ha rfl
 clear ha
 have hp0 := Hp.refl w
 have hS0_0_0 := hS0_0.mv (mv_start w)
 have hS1_0_0 := hS1_0.mv (mv_start w)
 refine cc_seq <| cc_region <| wa rfl (v := .bool false) rfl <| wl_end <| lv_next <| cc_seq <| cc_region <| wm rfl (v := .slice A0_0 p0.length c0_0) hp_0 <| wd rfl (fun st => x_len Try.underlying43 (ee st rfl)) <| wm rfl (v := .slice A1_0 p1.length c1_0) hp_1 <| wd rfl (fun st => x_len Try.underlying43 (ee st rfl)) <| wd rfl (fun st => x_lss (ee st rfl) (ee st rfl)) <| wm rfl (v := .bool (decide ((p0.length : Int) < (p1.length : Int)))) rfl ?_
 rcases bool_cases (decide ((p0.length : Int) < (p1.length : Int))) with hc1 | hc1
 ·replace hG := cond_t hG hc1
  refine wl_skip (c := true) rfl rfl (guard_eq rfl hc1) (by decide) rfl (by decide) <| wl_skip (c := true) rfl rfl (guard_eq rfl hc1) (by decide) rfl (by decide) <| wl_skip (c := true) rfl rfl (guard_eq rfl hc1) (by decide) rfl (by decide) <| wl_skip (c := true) rfl rfl (guard_eq rfl hc1) (by decide) rfl (by decide) <| wl_skip (c := true) rfl rfl (guard_eq rfl hc1) (by decide) rfl (by decide) <| wl_skip (c := true) rfl rfl (guard_eq rfl hc1) (by decide) rfl (by decide) <| wl_skip_u rfl rfl rfl rfl (by decide) <| wl_skip_u rfl rfl rfl rfl (by decide) <| wl_skip_u rfl rfl rfl rfl (by decide) <| wl_skip (c := true) rfl rfl (guard_eq rfl hc1) (by decide) rfl (by decide) <| wd rfl (fun st => x_pick_t (v := .bool true) (ee st rfl) hc1 (ee st rfl)) <| wa rfl (v := .bool true) rfl <| wl_end <| lv_next <| cc_ret ?_
  obtain rfl := Option.some.inj hG
  refine lv_ret1 rfl rfl ?_
  exact ⟨hp0.fin, rfl⟩
 ·replace hG := cond_f hG hc1
  refine wl_detg rfl rfl (guard_eq rfl hc1) rfl (by decide) (fun st => x_move (v := .slice A0_0 p0.length c0_0) (ee st hp_0)) <| wl_detg rfl rfl (guard_eq rfl hc1) rfl (by decide) (fun st => x_len Try.underlying43 (ee st rfl)) <| wl_detg rfl rfl (guard_eq rfl hc1) rfl (by decide) (fun st => x_move (v := .slice A1_0 p1.length c1_0) (ee st hp_1)) <| wl_detg rfl rfl (guard_eq rfl hc1) rfl (by decide) (fun st => x_len Try.underlying43 (ee st rfl)) <| wl_detg rfl rfl (guard_eq rfl hc1) rfl (by decide) (fun st => x_eql (ee st rfl) (ee st rfl)) <| wl_detg rfl rfl (guard_eq rfl hc1) rfl (by decide) (fun st => x_move (v := .bool ((p0.length : Int) == (p1.length : Int))) (ee st rfl)) ?_
  rcases bool_cases ((p0.length : Int) == (p1.length : Int)) with hc2 | hc2
  ·replace hG := cond_t hG hc2
   refine wl_detg rfl rfl (guard_eq rfl hc2) rfl (by decide) (fun st => x_move (v := .slice A0_0 p0.length c0_0) (ee st hp_0)) <| wl_detg rfl rfl (guard_eq rfl hc2) rfl (by decide) (fun st => x_move (v := .slice A1_0 p1.length c1_0) (ee st hp_1)) ?_
   replace hG := bind_some hG; obtain ⟨r3, hr3, hG⟩ := hG
   refine wl_exg rfl rfl (guard_eq rfl hc2) rfl (by decide) (fun st => x_call0 own_89 (ee st rfl) (am2 (ee st rfl) (ee st rfl)) (a89 K_ p0 p1 A0_0 c0_0 A1_0 c1_0 ZA _ hS0_0_0.all hS1_0_0.all r3 hr3)) ?_
   rintro _ w4 ⟨hx3, rfl⟩
   have hp1 : Hp w [] w4 := hp0.ext hx3
   refine wl_detg rfl rfl (guard_eq rfl hc1) rfl (by decide) (fun st => x_pick_t (v := .bool r3) (ee st rfl) hc2 (ee st rfl)) <| wd rfl (fun st => x_pick_f (v := .bool r3) (ee st rfl) hc1 (ee st rfl)) <| wa rfl (v := .bool r3) rfl <| wl_end <| lv_next <| cc_ret ?_
   obtain rfl := Option.some.inj hG
   refine lv_ret1 rfl rfl ?_
   exact ⟨hp1.fin, rfl⟩
  ·replace hG := cond_f hG hc2
   refine wl_skip (c := false) rfl rfl (guard_eq rfl hc2) (by decide) rfl (by decide) <| wl_skip (c := false) rfl rfl (guard_eq rfl hc2) (by decide) rfl (by decide) <| wl_skip (c := false) rfl rfl (guard_eq rfl hc2) (by decide) rfl (by decide) <| wl_detg rfl rfl (guard_eq rfl hc1) rfl (by decide) (fun st => x_pick_f (v := .bool false) (ee st rfl) hc2 (ee st rfl)) <| wd rfl (fun st => x_pick_f (v := .bool false) (ee st rfl) hc1 (ee st rfl)) <| wa rfl (v := .bool false) rfl <| wl_end <| lv_next <| cc_ret ?_
   obtain rfl := Option.some.inj hG
   refine lv_ret1 rfl rfl ?_
   exact ⟨hp0.fin, rfl⟩
theorem a49 (K_ : Nat) (p0 : Int) (Z : Nat → Prop) (w : World) (r_ : (List Int)) (hG : G_Bits K_ p0 = some r_) :
    Ret Try.prog 49 #[I p0] w (fun v w' => Ext w w' ∧ (vSl (eInt .i64)).R w' (ZZ Z w.heap.size []) v r_) := by
 unfold G_Bits at hG
 refine ret_of_cc (N := 23) Try.func49 rfl rfl (by simp) ?_
 intro fr0 ha hdf
 have hp_0 := sl_arg (i := 0) (v := I p0) ha rfl
 clear ha
 have hp0 := Hp.refl w
 refine cc_seq <| cc_region <| wa rfl (v := .slice none 0 0) rfl <| wl_end <| lv_next <| cc_seq <| cc_region <| wa rfl (v := .slice none 0 0) rfl <| wl_end <| lv_next <| cc_seq <| cc_seq <| cc_region <| wa rfl (v := I 0) rfl <| wl_end <| lv_next <| cc_block ?_
 have hp1 : Hp w [none] w := hp0.nil
 have hR2 : OwnR (eInt .i64) 3 w w (ZZ Z w.heap.size [none]) none 0 [] := OwnR.nil _ _ _ _ _
 replace hG := bind_some hG; obtain ⟨z1, hL1, hG⟩ := hG
 refine cc_join (fun e_ fr_ w_ => (e_ = .exit 0 ∧ ∃ Ae1_0_30 Ce1_0_30, fr_.tmps.size = 23 ∧ fr_.defers = [] ∧ sl fr_ 3 = .slice Ae1_0_30 z1.length Ce1_0_30 ∧ Hp w [ob Ae1_0_30] w_ ∧ OwnR (eInt .i64) 3 w w_ (ZZ Z w.heap.size [ob Ae1_0_30]) Ae1_0_30 Ce1_0_30 z1)) ?lp1 ?af1
 case lp1 =>
  clear hG
  refine cc_loop (fun (m_ : Nat) (fr_ : Act) (w_ : World) => ∃ s1_3, ∃ s1_4, ∃ As1_3 Cs1_3, G_Bits_L1 p0 m_ s1_3 s1_4 = some z1 ∧ fr_.tmps.size = 23 ∧ fr_.defers = [] ∧ sl fr_ 0 = I p0 ∧ sl fr_ 3 = .slice As1_3 s1_3.length Cs1_3 ∧ sl fr_ 4 = I s1_4 ∧ Hp w [ob As1_3] w_ ∧ OwnR (eInt .i64) 3 w w_ (ZZ Z w.heap.size [ob As1_3]) As1_3 Cs1_3 s1_3) K_ ?in1 ?rd1
  case in1 =>
   intro st
   exact ⟨([] : List Int), (0 : Int), none, 0, hL1, (puts_size _ _).trans st.sz, (puts_defers _ _).trans st.df, (sl_puts st 0).trans hp_0, (sl_puts st 3).trans rfl, (sl_puts st 4).trans rfl, hp1, hR2⟩
  case rd1 =>
   rintro (_ | m_) fr1 w1r ⟨s1_3, s1_4, As1_3, Cs1_3, hL1, hsz1, hdf1, hs1_0, hs1_3, hs1_4, hp2, f1_Hs1_3⟩
   ·exact absurd (show none = some _ from hL1) (by simp)
   rw [G_Bits_L1.eq_2] at hL1
   have hG := hL1; clear hL1
   refine round_cc (N := 23) hsz1 hdf1 <| cc_seq <| cc_seq <| cc_region <| wm rfl (v := I p0) hs1_0 <| wm rfl (v := I s1_4) hs1_4 ?_
   replace hG := cvO_bind hG; obtain ⟨hf3, hG⟩ := hG
   refine wd rfl (fun st => x_conv (k := .u64) sm_3 Try.underlying63 (ee st rfl) hf3) ?_
   replace hG := shrO_bind hG; obtain ⟨hf4, hG⟩ := hG
   refine wd rfl (fun st => x_shr (ee st rfl) (ee st rfl) hf4) <| wd rfl (fun st => x_gtr (ee st rfl) (ee st rfl)) <| wl_end <| lv_next ?_
   rcases bool_cases (decide (0 < (shrI p0 s1_4))) with hc5 | hc5
   ·replace hG := cond_t hG hc5
    refine cc_cond_t rfl hc5 <| cc_skip <| lv_next <| cc_seq <| cc_block <| cc_seq <| cc_region <| wm rfl (v := I p0) hs1_0 <| wm rfl (v := I s1_4) hs1_4 ?_
    replace hG := cvO_bind hG; obtain ⟨hf6, hG⟩ := hG
    refine wd rfl (fun st => x_conv (k := .u64) sm_3 Try.underlying63 (ee st rfl) hf6) ?_
    replace hG := shrO_bind hG; obtain ⟨hf7, hG⟩ := hG
    refine wd rfl (fun st => x_shr (ee st rfl) (ee st rfl) hf7) ?_
    replace hG := rem_bind hG; obtain ⟨hf8, hG⟩ := hG
    refine wd rfl (fun st => x_rem (ee st rfl) (ee st rfl) hf8.1 hf8.2) <| wd rfl (fun st => x_eql (ee st rfl) (ee st rfl)) <| wl_end <| lv_next ?_
    rcases bool_cases (((shrI p0 s1_4) % 2) == 1) with hc9 | hc9
    ·replace hG := cond_t hG hc9
     refine cc_cond_t rfl hc9 <| cc_region <| wm rfl (v := .slice As1_3 s1_3.length Cs1_3) hs1_3 <| wm rfl (v := I s1_4) hs1_4 <| we rfl (fun st => x_buildSlice (e := 3) (vs := #[(0, I s1_4)]) (cs := #[I s1_4]) (pm1 (ee st rfl)) (by kernel_rfl)) ?_
     rintro _ w10 ⟨b10, rfl, nb10⟩
     have hp3 : Hp w [some b10, ob As1_3] w10 := hp2.new nb10.gr (Nat.le_of_eq nb10.b_eq.symm) (Nat.lt_of_lt_of_eq (Nat.lt_succ_self _) nb10.sz.symm)
     have Hs1_3_3 : OwnR (eInt .i64) 3 w w10 (ZZ Z w.heap.size [some b10, ob As1_3]) As1_3 Cs1_3 s1_3 := (f1_Hs1_3.ext nb10.gr (mv_new nb10.gr (Nat.le_of_eq nb10.b_eq.symm)))
     replace hG := ifo_bind hG; obtain ⟨hf11, hG⟩ := hG
     refine we rfl (fun st => x_appR (ys := [s1_4]) Try.underlying43 info_3 rfl rfl (by decide) (ee st rfl) rfl (ee st rfl) Hs1_3_3 (news_bk (css := [[I s1_4]]) nb10.bk ⟨rfl, trivial⟩ rfl) (by have := hf11; simp only [maxLen]; omega) (by have := hf11; omega) hp3.bl.size (by simp)) ?_
     rintro _ w12 ⟨A12, c12, rfl, hg12, hy12, hO12⟩
     have hp4 : Hp w [some b10, ob A12] w12 := hp3.row hg12 1 rfl (hp3.ge 1 rfl) hy12
     have hR12 : OwnR (eInt .i64) 3 w w12 (ZZ Z w.heap.size [some b10, ob A12]) A12 c12 (s1_3 ++ [s1_4]) := ownR_of hO12 (hp3.mvr hg12 1 rfl (fun k hk => (hy12 k hk).1))
     refine wa rfl (v := .slice A12 ((s1_3 ++ [s1_4]).length) c12) rfl <| wl_end <| lv_block <| lv_next <| cc_region <| wm rfl (v := I s1_4) hs1_4 ?_
     replace hG := i64_bind hG; obtain ⟨hf13, hG⟩ := hG
     refine wd rfl (fun st => x_add (ee st rfl) (ee st rfl) hf13) <| wa rfl (v := I (s1_4 + 1)) rfl <| wl_end ?_
     have hp5 : Hp w [ob A12] w12 := hp4.erase 0
     have hR12_5 : OwnR (eInt .i64) 3 w w12 (ZZ Z w.heap.size [ob A12]) A12 c12 (s1_3 ++ [s1_4]) := (hR12.up (mv_erase 0))
     refine lv_round m_ (Nat.lt_succ_self _) (fun st => ?_)
     exact ⟨(s1_3 ++ [s1_4]), (s1_4 + 1), A12, c12, hG, (puts_size _ _).trans st.sz, (puts_defers _ _).trans st.df, (sl_puts st 0).trans hs1_0, (sl_puts st 3).trans rfl, (sl_puts st 4).trans rfl, hp5, hR12_5⟩
    ·replace hG := cond_f hG hc9
     refine cc_cond_f rfl hc9 <| cc_skip <| lv_block <| lv_next <| cc_region <| wm rfl (v := I s1_4) hs1_4 ?_
     replace hG := i64_bind hG; obtain ⟨hf14, hG⟩ := hG
     refine wd rfl (fun st => x_add (ee st rfl) (ee st rfl) hf14) <| wa rfl (v := I (s1_4 + 1)) rfl <| wl_end ?_
     refine lv_round m_ (Nat.lt_succ_self _) (fun st => ?_)
     exact ⟨s1_3, (s1_4 + 1), As1_3, Cs1_3, hG, (puts_size _ _).trans st.sz, (puts_defers _ _).trans st.df, (sl_puts st 0).trans hs1_0, (sl_puts st 3).trans hs1_3, (sl_puts st 4).trans rfl, hp2, f1_Hs1_3⟩
   ·replace hG := cond_f hG hc5
    refine cc_cond_f rfl hc5 <| cc_exit <| lv_then_exit <| lv_then_exit ?_
    obtain rfl := Option.some.inj hG
    refine lv_to (fun st => ?_)
    exact ⟨rfl, As1_3, Cs1_3, (puts_size _ _).trans st.sz, (puts_defers _ _).trans st.df, (sl_puts st 3).trans hs1_3, hp2, f1_Hs1_3⟩
 case af1 =>
  rintro e_ fr1a w1a (⟨rfl, Ae1_0_30, Ce1_0_30, hsz1a, hdf1a, hs1a_3, hp1a, g1_He1_0_30⟩)
  refine lv_fr (X := X0) (N := 23) hsz1a hdf1a <| lv_block_hit <| lv_next <| cc_seq <| cc_region <| wm rfl (v := .slice Ae1_0_30 z1.length Ce1_0_30) hs1a_3 <| wa rfl (v := .slice Ae1_0_30 z1.length Ce1_0_30) rfl <| wl_end <| lv_next <| cc_ret ?_
  obtain rfl := Option.some.inj hG
  refine lv_ret1 rfl rfl ?_
  exact ⟨hp1a.fin, ⟨_, _, rfl, g1_He1_0_30.fin⟩⟩
theorem a64 (K_ : Nat) (p0 : Fld) (A0_0 : Option Addr) (c0_0 : Nat) (Z : Nat → Prop) (w : World) (hS0_0 : Sl eTly w Z A0_0 c0_0 p0.ts) (r_ : Int) (hG : G_Fault K_ p0 = some r_) :
    Ret Try.prog 64 #[.agg #[I p0.rows, I p0.wd, I p0.lo, I p0.hi, .slice A0_0 p0.ts.length c0_0]] w (fun v w' => Ext w w' ∧ (vInt .i64).R w' (ZZ Z w.heap.size []) v r_) := by
 unfold G_Fault at hG
 refine ret_of_cc (N := 85) Try.func64 rfl rfl (by simp) ?_
 intro fr0 ha hdf
 have hp_0 := sl_arg (i := 0) (v := .agg #[I p0.rows, I p0.wd, I p0.lo, I p0.hi, .slice A0_0 p0.ts.length c0_0]) ha rfl
 clear ha
 have hp0 := Hp.refl w
 have hS0_0_0 := hS0_0.mv (mv_start w)
 refine cc_seq <| cc_region <| we rfl (fun st => x_box (v := .agg #[I p0.rows, I p0.wd, I p0.lo, I p0.hi, .slice A0_0 p0.ts.length c0_0]) (cs := #[I p0.rows, I p0.wd, I p0.lo, I p0.hi, .slice A0_0 p0.ts.length c0_0]) (ee st hp_0) rfl) ?_
 rintro _ w1 ⟨b1, rfl, nb1⟩
 have hp1 : Hp w [some b1] w1 := hp0.new nb1.gr (Nat.le_of_eq nb1.b_eq.symm) (Nat.lt_of_lt_of_eq (Nat.lt_succ_self _) nb1.sz.symm)
 refine wa rfl (v := I 0) rfl <| wl_end <| lv_next <| cc_seq <| cc_seq <| cc_region <| wd rfl (fun st => x_fieldAddr (ee st rfl) (fz_26_0 _ _)) <| wd rfl (fun st => x_load1 (v := I p0.rows) one_3 (ee st rfl) nb1.bk rfl) <| wd rfl (fun st => x_gtr (ee st rfl) (ee st rfl)) <| wm rfl (v := .bool (decide (7 < p0.rows))) rfl ?_
 rcases bool_cases (decide (7 < p0.rows)) with hc2 | hc2
 ·replace hG := cond_t hG hc2
  refine wl_skip (c := true) rfl rfl (guard_eq rfl hc2) (by decide) rfl (by decide) <| wl_skip (c := true) rfl rfl (guard_eq rfl hc2) (by decide) rfl (by decide) <| wl_skip (c := true) rfl rfl (guard_eq rfl hc2) (by decide) rfl (by decide) <| wd rfl (fun st => x_pick_t (v := .bool true) (ee st rfl) hc2 (ee st rfl)) <| wm rfl (v := .bool true) rfl <| wl_skip rfl rfl rfl (by decide) rfl (by decide) <| wl_skip rfl rfl rfl (by decide) rfl (by decide) <| wl_skip rfl rfl rfl (by decide) rfl (by decide) <| wl_skip rfl rfl rfl (by decide) rfl (by decide) <| wd rfl (fun st => x_pick_t (v := .bool true) (ee st rfl) rfl (ee st rfl)) <| wl_end <| lv_next <| cc_cond_t rfl rfl <| cc_seq <| cc_region <| wa rfl (v := I 3) rfl <| wl_end <| lv_next <| cc_ret <| lv_then_ret ?_
  obtain rfl := Option.some.inj hG
  refine lv_ret1 rfl rfl ?_
  exact ⟨hp1.fin, rfl⟩
 ·replace hG := cond_f hG hc2
  refine wl_detg rfl rfl (guard_eq rfl hc2) rfl (by decide) (fun st => x_fieldAddr (ee st rfl) (fz_26_1 _ _)) <| wl_detg rfl rfl (guard_eq rfl hc2) rfl (by decide) (fun st => x_load1 (v := I p0.wd) one_3 (ee st rfl) nb1.bk rfl) <| wl_detg rfl rfl (guard_eq rfl hc2) rfl (by decide) (fun st => x_gtr (ee st rfl) (ee st rfl)) <| wd rfl (fun st => x_pick_f (v := .bool (decide (3 < p0.wd))) (ee st rfl) hc2 (ee st rfl)) <| wm rfl (v := .bool (decide (3 < p0.wd))) rfl ?_
  rcases bool_cases (decide (3 < p0.wd)) with hc3 | hc3
  ·replace hG := cond_t hG hc3
   refine wl_skip (c := true) rfl rfl (guard_eq rfl hc3) (by decide) rfl (by decide) <| wl_skip (c := true) rfl rfl (guard_eq rfl hc3) (by decide) rfl (by decide) <| wl_skip (c := true) rfl rfl (guard_eq rfl hc3) (by decide) rfl (by decide) <| wl_skip (c := true) rfl rfl (guard_eq rfl hc3) (by decide) rfl (by decide) <| wd rfl (fun st => x_pick_t (v := .bool true) (ee st rfl) hc3 (ee st rfl)) <| wl_end <| lv_next <| cc_cond_t rfl rfl <| cc_seq <| cc_region <| wa rfl (v := I 3) rfl <| wl_end <| lv_next <| cc_ret <| lv_then_ret ?_
   obtain rfl := Option.some.inj hG
   refine lv_ret1 rfl rfl ?_
   exact ⟨hp1.fin, rfl⟩
  ·replace hG := cond_f hG hc3
   refine wl_detg rfl rfl (guard_eq rfl hc3) rfl (by decide) (fun st => x_fieldAddr (ee st rfl) (fz_26_3 _ _)) <| wl_detg rfl rfl (guard_eq rfl hc3) rfl (by decide) (fun st => x_load1 (v := .slice A0_0 p0.ts.length c0_0) one_24 (ee st rfl) nb1.bk rfl) <| wl_detg rfl rfl (guard_eq rfl hc3) rfl (by decide) (fun st => x_len Try.underlying24 (ee st rfl)) <| wl_detg rfl rfl (guard_eq rfl hc3) rfl (by decide) (fun st => x_gtr (ee st rfl) (ee st rfl)) <| wd rfl (fun st => x_pick_f (v := .bool (decide (5 < (p0.ts.length : Int)))) (ee st rfl) hc3 (ee st rfl)) <| wl_end <| lv_next ?_
   rcases bool_cases (decide (5 < (p0.ts.length : Int))) with hc4 | hc4
   ·replace hG := cond_t hG hc4
    refine cc_cond_t rfl hc4 <| cc_seq <| cc_region <| wa rfl (v := I 3) rfl <| wl_end <| lv_next <| cc_ret <| lv_then_ret ?_
    obtain rfl := Option.some.inj hG
    refine lv_ret1 rfl rfl ?_
    exact ⟨hp1.fin, rfl⟩
   ·replace hG := cond_f hG hc4
    refine cc_cond_f rfl hc4 <| cc_skip <| lv_next <| cc_seq <| cc_seq <| cc_region <| wd rfl (fun st => x_fieldAddr (ee st rfl) (fz_26_0 _ _)) <| wd rfl (fun st => x_load1 (v := I p0.rows) one_3 (ee st rfl) nb1.bk rfl) <| wd rfl (fun st => x_lss (ee st rfl) (ee st rfl)) <| wm rfl (v := .bool (decide (p0.rows < 1))) rfl ?_
    rcases bool_cases (decide (p0.rows < 1)) with hc5 | hc5
    ·replace hG := cond_t hG hc5
     refine wl_skip (c := true) rfl rfl (guard_eq rfl hc5) (by decide) rfl (by decide) <| wl_skip (c := true) rfl rfl (guard_eq rfl hc5) (by decide) rfl (by decide) <| wl_skip (c := true) rfl rfl (guard_eq rfl hc5) (by decide) rfl (by decide) <| wd rfl (fun st => x_pick_t (v := .bool true) (ee st rfl) hc5 (ee st rfl)) <| wm rfl (v := .bool true) rfl <| wl_skip rfl rfl rfl (by decide) rfl (by decide) <| wl_skip rfl rfl rfl (by decide) rfl (by decide) <| wl_skip rfl rfl rfl (by decide) rfl (by decide) <| wl_skip rfl rfl rfl (by decide) rfl (by decide) <| wl_skip rfl rfl rfl (by decide) rfl (by decide) <| wl_skip rfl rfl rfl (by decide) rfl (by decide) <| wd rfl (fun st => x_pick_t (v := .bool true) (ee st rfl) rfl (ee st rfl)) <| wl_end <| lv_next <| cc_cond_t rfl rfl <| cc_seq <| cc_region <| wa rfl (v := I 1) rfl <| wl_end <| lv_next <| cc_ret <| lv_then_ret ?_
     obtain rfl := Option.some.inj hG
     refine lv_ret1 rfl rfl ?_
     exact ⟨hp1.fin, rfl⟩
    ·replace hG := cond_f hG hc5
     refine wl_detg rfl rfl (guard_eq rfl hc5) rfl (by decide) (fun st => x_fieldAddr (ee st rfl) (fz_26_1 _ _)) <| wl_detg rfl rfl (guard_eq rfl hc5) rfl (by decide) (fun st => x_load1 (v := I p0.wd) one_3 (ee st rfl) nb1.bk rfl) <| wl_detg rfl rfl (guard_eq rfl hc5) rfl (by decide) (fun st => x_lss (ee st rfl) (ee st rfl)) <| wd rfl (fun st => x_pick_f (v := .bool (decide (p0.wd < 1))) (ee st rfl) hc5 (ee st rfl)) <| wm rfl (v := .bool (decide (p0.wd < 1))) rfl ?_
     rcases bool_cases (decide (p0.wd < 1)) with hc6 | hc6
     ·replace hG := cond_t hG hc6
      refine wl_skip (c := true) rfl rfl (guard_eq rfl hc6) (by decide) rfl (by decide) <| wl_skip (c := true) rfl rfl (guard_eq rfl hc6) (by decide) rfl (by decide) <| wl_skip (c := true) rfl rfl (guard_eq rfl hc6) (by decide) rfl (by decide) <| wl_skip (c := true) rfl rfl (guard_eq rfl hc6) (by decide) rfl (by decide) <| wl_skip (c := true) rfl rfl (guard_eq rfl hc6) (by decide) rfl (by decide) <| wl_skip (c := true) rfl rfl (guard_eq rfl hc6) (by decide) rfl (by decide) <| wd rfl (fun st => x_pick_t (v := .bool true) (ee st rfl) hc6 (ee st rfl)) <| wl_end <| lv_next <| cc_cond_t rfl rfl <| cc_seq <| cc_region <| wa rfl (v := I 1) rfl <| wl_end <| lv_next <| cc_ret <| lv_then_ret ?_
      obtain rfl := Option.some.inj hG
      refine lv_ret1 rfl rfl ?_
      exact ⟨hp1.fin, rfl⟩
     ·replace hG := cond_f hG hc6
      refine wl_detg rfl rfl (guard_eq rfl hc6) rfl (by decide) (fun st => x_fieldAddr (ee st rfl) (fz_26_2 _ _)) <| wl_detg rfl rfl (guard_eq rfl hc6) rfl (by decide) (fun st => x_loadn (l := [I p0.lo, I p0.hi]) agg_23 (ee st rfl) nb1.bk rfl rfl) <| wl_detg rfl rfl (guard_eq rfl hc6) rfl (by decide) (fun st => x_fieldAddr (ee st rfl) (fz_26_0 _ _)) <| wl_detg rfl rfl (guard_eq rfl hc6) rfl (by decide) (fun st => x_load1 (v := I p0.rows) one_3 (ee st rfl) nb1.bk rfl) ?_
      replace hG := bind_some hG; obtain ⟨r7, hr7, hG⟩ := hG
      refine wl_exg rfl rfl (guard_eq rfl hc6) rfl (by decide) (fun st => x_call0 own_98 (ee st rfl) (am3 (ee st rfl) (ee st rfl) (ee st rfl)) (a98 K_ (⟨p0.lo, p0.hi⟩ : (Int × Int)) 0 p0.rows ZA _ r7 hr7)) ?_
      rintro _ w8 ⟨hx7, rfl⟩
      have hp2 : Hp w [some b1] w8 := hp1.ext hx7
      refine wl_detg rfl rfl (guard_eq rfl hc6) rfl (by decide) (fun st => x_not (ee st rfl)) <| wd rfl (fun st => x_pick_f (v := .bool !r7) (ee st rfl) hc6 (ee st rfl)) <| wl_end <| lv_next ?_
      rcases bool_cases (!r7) with hc9 | hc9
      ·replace hG := cond_t hG hc9
       have hc9_10 : r7 = false := by simpa using hc9
       refine cc_cond_t rfl hc9 <| cc_seq <| cc_region <| wa rfl (v := I 1) rfl <| wl_end <| lv_next <| cc_ret <| lv_then_ret ?_
       obtain rfl := Option.some.inj hG
       refine lv_ret1 rfl rfl ?_
       exact ⟨hp2.fin, rfl⟩
      ·replace hG := cond_f hG hc9
       have hc9_11 : r7 = true := by simpa using hc9
       refine cc_cond_f rfl hc9 <| cc_skip <| lv_next <| cc_seq <| cc_seq <| cc_region <| wa rfl (v := I 0) rfl <| wl_end <| lv_next <| cc_block ?_
       replace hG := bind_some hG; obtain ⟨z12, hL12, hG⟩ := hG
       refine cc_join (fun e_ fr_ w_ => (e_ = .ret ∧ ∃ q12, z12 = .inl q12 ∧ fr_.tmps.size = 85 ∧ fr_.defers = [] ∧ sl fr_ 2 = I q12 ∧ Hp w [some b1] w_) ∨ (e_ = .exit 0 ∧ ∃ q12, z12 = .inr q12 ∧ fr_.tmps.size = 85 ∧ fr_.defers = [] ∧ sl fr_ 1 = pt b1 0 ∧ Hp w [some b1] w_ ∧ Bk w_ b1 26 #[I p0.rows, I p0.wd, I p0.lo, I p0.hi, .slice A0_0 p0.ts.length c0_0] ∧ Sl eTly w_ (ZZ Z w.heap.size [some b1]) A0_0 c0_0 p0.ts)) ?lp12 ?af12
       case lp12 =>
        clear hG
        refine cc_loop (fun (m_ : Nat) (fr_ : Act) (w_ : World) => ∃ s12_3, G_Fault_L12 K_ p0 m_ s12_3 = some z12 ∧ fr_.tmps.size = 85 ∧ fr_.defers = [] ∧ sl fr_ 1 = pt b1 0 ∧ sl fr_ 3 = I s12_3 ∧ Hp w [some b1] w_ ∧ Bk w_ b1 26 #[I p0.rows, I p0.wd, I p0.lo, I p0.hi, .slice A0_0 p0.ts.length c0_0] ∧ Sl eTly w_ (ZZ Z w.heap.size [some b1]) A0_0 c0_0 p0.ts) K_ ?in12 ?rd12
        case in12 =>
         intro st
         have bk1_2 : Bk w8 b1 26 #[I p0.rows, I p0.wd, I p0.lo, I p0.hi, .slice A0_0 p0.ts.length c0_0] := (nb1.bk.ext hx7)
         have hS0_0_2 : Sl eTly w8 (ZZ Z w.heap.size [some b1]) A0_0 c0_0 p0.ts := ((hS0_0_0.mv (mv_new nb1.gr (Nat.le_of_eq nb1.b_eq.symm))).mv (mv_ext hx7))
         exact ⟨(0 : Int), hL12, (puts_size _ _).trans st.sz, (puts_defers _ _).trans st.df, (sl_puts st 1).trans rfl, (sl_puts st 3).trans rfl, hp2, bk1_2, hS0_0_2⟩
        case rd12 =>
         rintro (_ | m_) fr12 w12r ⟨s12_3, hL12, hsz12, hdf12, hs12_1, hs12_3, hp3, f12_bk1, f12_hS0_0⟩
         ·exact absurd (show none = some _ from hL12) (by simp)
         rw [G_Fault_L12.eq_2] at hL12
         have hG := hL12; clear hL12
         refine round_cc (N := 85) hsz12 hdf12 <| cc_seq <| cc_seq <| cc_region <| wm rfl (v := I s12_3) hs12_3 <| wd rfl (fun st => x_fieldAddr (ee st hs12_1) (fz_26_3 _ _)) <| wd rfl (fun st => x_load1 (v := .slice A0_0 p0.ts.length c0_0) one_24 (ee st rfl) f12_bk1 rfl) <| wd rfl (fun st => x_len Try.underlying24 (ee st rfl)) <| wd rfl (fun st => x_lss (ee st rfl) (ee st rfl)) <| wl_end <| lv_next ?_
         rcases bool_cases (decide (s12_3 < (p0.ts.length : Int))) with hc13 | hc13
         ·replace hG := cond_t hG hc13
          refine cc_cond_t rfl hc13 <| cc_skip <| lv_next <| cc_seq <| cc_block <| cc_seq <| cc_region <| wd rfl (fun st => x_fieldAddr (ee st hs12_1) (fz_26_3 _ _)) <| wd rfl (fun st => x_load1 (v := .slice A0_0 p0.ts.length c0_0) one_24 (ee st rfl) f12_bk1 rfl) <| wm rfl (v := I s12_3) hs12_3 ?_
          replace hG := idx_bind hG; obtain ⟨i14, x14, hi14, hx14, hl14, hG⟩ := hG
          obtain ⟨b14, o14, _, hA14, rfl, hz14⟩ := Sl.elem f12_hS0_0 (by decide) hx14
          refine wd rfl (fun st => x_indexAddrN (k := i14) Try.underlying24 sz_68 (ee st rfl) hA14 (ee st rfl) hi14 hl14) <| wd rfl (fun st => x_load_zn0 (l := [I x14.who, I x14.fr, I x14.to, I x14.lo, I x14.hi]) agg_68 (ee st rfl) hz14 rfl rfl) <| we rfl (fun st => x_alloc (cs := #[I 0, I 0, I 0, I 0, I 0]) zero_68 rfl) ?_
          rintro _ w15 ⟨b15, rfl, nb15⟩
          have hp4 : Hp w [some b15, some b1] w15 := hp3.new nb15.gr (Nat.le_of_eq nb15.b_eq.symm) (Nat.lt_of_lt_of_eq (Nat.lt_succ_self _) nb15.sz.symm)
          refine wl_ex0 rfl rfl (fun st => x_store (n := 5) (l := [I x14.who, I x14.fr, I x14.to, I x14.lo, I x14.hi]) (cs' := #[I x14.who, I x14.fr, I x14.to, I x14.lo, I x14.hi]) (ee st rfl) (ee st rfl) sz_68 nb15.bk rfl rfl (show 0 + 5 ≤ 5 by decide) (one_cells rfl) rfl) ?_
          rintro _ w16 sb16
          have hp5 : Hp w [some b15, some b1] w16 := hp4.gr sb16.gr (hp4.ge 0 rfl)
          refine wl_end <| lv_next <| cc_seq <| cc_region <| wd rfl (fun st => x_fieldAddr (ee st rfl) (fz_68_0 _ _)) <| wd rfl (fun st => x_load1 (v := I x14.who) one_3 (ee st rfl) sb16.bk rfl) <| wd rfl (fun st => x_fieldAddr (ee st hs12_1) (fz_26_1 _ _)) ?_
          have bk1_5 : Bk w16 b1 26 #[I p0.rows, I p0.wd, I p0.lo, I p0.hi, .slice A0_0 p0.ts.length c0_0] := ((f12_bk1.ext nb15.gr).gr sb16.gr (hp4.ne 1 0 rfl rfl rfl))
          refine wd rfl (fun st => x_load1 (v := I p0.wd) one_3 (ee st rfl) bk1_5 rfl) ?_
          replace hG := i64_bind hG; obtain ⟨hf17, hG⟩ := hG
          refine wd rfl (fun st => x_sub (ee st rfl) (ee st rfl) hf17) ?_
          replace hG := bind_some hG; obtain ⟨r18, hr18, hG⟩ := hG
          refine we rfl (fun st => x_call0 own_29 (ee st rfl) (am3 (ee st rfl) (ee st rfl) (ee st rfl)) (a29 K_ x14.who 0 (p0.wd - 1) ZA _ r18 hr18)) ?_
          rintro _ w19 ⟨hx18, rfl⟩
          have hp6 : Hp w [some b15, some b1] w19 := hp5.ext hx18
          refine wd rfl (fun st => x_not (ee st rfl)) <| wm rfl (v := .bool !r18) rfl ?_
          rcases bool_cases (!r18) with hc20 | hc20
          ·replace hG := cond_t hG hc20
           have hc20_21 : r18 = false := by simpa using hc20
           refine wl_skip (c := true) rfl rfl (guard_eq rfl hc20) (by decide) rfl (by decide) <| wl_skip (c := true) rfl rfl (guard_eq rfl hc20) (by decide) rfl (by decide) <| wl_skip (c := true) rfl rfl (guard_eq rfl hc20) (by decide) rfl (by decide) <| wl_skip (c := true) rfl rfl (guard_eq rfl hc20) (by decide) rfl (by decide) <| wl_skip (c := true) rfl rfl (guard_eq rfl hc20) (by decide) rfl (by decide) <| wl_skip (c := true) rfl rfl (guard_eq rfl hc20) (by decide) rfl (by decide) <| wl_skip (c := true) rfl rfl (guard_eq rfl hc20) (by decide) rfl (by decide) <| wd rfl (fun st => x_pick_t (v := .bool true) (ee st rfl) hc20 (ee st rfl)) <| wm rfl (v := .bool true) rfl <| wl_skip rfl rfl rfl (by decide) rfl (by decide) <| wl_skip rfl rfl rfl (by decide) rfl (by decide) <| wl_skip rfl rfl rfl (by decide) rfl (by decide) <| wl_skip rfl rfl rfl (by decide) rfl (by decide) <| wl_skip rfl rfl rfl (by decide) rfl (by decide) <| wl_skip rfl rfl rfl (by decide) rfl (by decide) <| wl_skip rfl rfl rfl (by decide) rfl (by decide) <| wl_skip rfl rfl rfl (by decide) rfl (by decide) <| wl_skip rfl rfl rfl (by decide) rfl (by decide) <| wd rfl (fun st => x_pick_t (v := .bool true) (ee st rfl) rfl (ee st rfl)) <| wm rfl (v := .bool true) rfl <| wl_skip rfl rfl rfl (by decide) rfl (by decide) <| wl_skip rfl rfl rfl (by decide) rfl (by decide) <| wl_skip rfl rfl rfl (by decide) rfl (by decide) <| wl_skip rfl rfl rfl (by decide) rfl (by decide) <| wl_skip rfl rfl rfl (by decide) rfl (by decide) <| wl_skip rfl rfl rfl (by decide) rfl (by decide) <| wd rfl (fun st => x_pick_t (v := .bool true) (ee st rfl) rfl (ee st rfl)) <| wl_end <| lv_next <| cc_cond_t rfl rfl <| cc_seq <| cc_region <| wa rfl (v := I 1) rfl <| wl_end <| lv_next <| cc_ret <| lv_block_ret <| lv_then_ret <| lv_then_ret ?_
           have hp7 : Hp w [some b1] w19 := hp6.erase 0
           obtain rfl := Option.some.inj hG
           refine lv_to (fun st => ?_)
           exact .inl ⟨rfl, (1 : Int), rfl, (puts_size _ _).trans st.sz, (puts_defers _ _).trans st.df, (sl_puts st 2).trans rfl, hp7⟩
          ·replace hG := cond_f hG hc20
           have hc20_22 : r18 = true := by simpa using hc20
           refine wl_detg rfl rfl (guard_eq rfl hc20) rfl (by decide) (fun st => x_fieldAddr (ee st rfl) (fz_68_1 _ _)) ?_
           have bk15_6 : Bk w19 b15 68 #[I x14.who, I x14.fr, I x14.to, I x14.lo, I x14.hi] := (sb16.bk.ext hx18)
           refine wl_detg rfl rfl (guard_eq rfl hc20) rfl (by decide) (fun st => x_load1 (v := I x14.fr) one_3 (ee st rfl) bk15_6 rfl) <| wl_detg rfl rfl (guard_eq rfl hc20) rfl (by decide) (fun st => x_fieldAddr (ee st hs12_1) (fz_26_0 _ _)) ?_
           have bk1_6 : Bk w19 b1 26 #[I p0.rows, I p0.wd, I p0.lo, I p0.hi, .slice A0_0 p0.ts.length c0_0] := (bk1_5.ext hx18)
           refine wl_detg rfl rfl (guard_eq rfl hc20) rfl (by decide) (fun st => x_load1 (v := I p0.rows) one_3 (ee st rfl) bk1_6 rfl) ?_
           replace hG := i64_bind hG; obtain ⟨hf23, hG⟩ := hG
           refine wl_detg rfl rfl (guard_eq rfl hc20) rfl (by decide) (fun st => x_sub (ee st rfl) (ee st rfl) hf23) ?_
           replace hG := bind_some hG; obtain ⟨r24, hr24, hG⟩ := hG
           refine wl_exg rfl rfl (guard_eq rfl hc20) rfl (by decide) (fun st => x_call0 own_29 (ee st rfl) (am3 (ee st rfl) (ee st rfl) (ee st rfl)) (a29 K_ x14.fr 0 (p0.rows - 1) ZA _ r24 hr24)) ?_
           rintro _ w25 ⟨hx24, rfl⟩
           have hp8 : Hp w [some b15, some b1] w25 := hp6.ext hx24
           refine wl_detg rfl rfl (guard_eq rfl hc20) rfl (by decide) (fun st => x_not (ee st rfl)) <| wd rfl (fun st => x_pick_f (v := .bool !r24) (ee st rfl) hc20 (ee st rfl)) <| wm rfl (v := .bool !r24) rfl ?_
           rcases bool_cases (!r24) with hc26 | hc26
           ·replace hG := cond_t hG hc26
            have hc26_27 : r24 = false := by simpa using hc26
            refine wl_skip (c := true) rfl rfl (guard_eq rfl hc26) (by decide) rfl (by decide) <| wl_skip (c := true) rfl rfl (guard_eq rfl hc26) (by decide) rfl (by decide) <| wl_skip (c := true) rfl rfl (guard_eq rfl hc26) (by decide) rfl (by decide) <| wl_skip (c := true) rfl rfl (guard_eq rfl hc26) (by decide) rfl (by decide) <| wl_skip (c := true) rfl rfl (guard_eq rfl hc26) (by decide) rfl (by decide) <| wl_skip (c := true) rfl rfl (guard_eq rfl hc26) (by decide) rfl (by decide) <| wl_skip (c := true) rfl rfl (guard_eq rfl hc26) (by decide) rfl (by decide) <| wl_skip (c := true) rfl rfl (guard_eq rfl hc26) (by decide) rfl (by decide) <| wl_skip (c := true) rfl rfl (guard_eq rfl hc26) (by decide) rfl (by decide) <| wd rfl (fun st => x_pick_t (v := .bool true) (ee st rfl) hc26 (ee st rfl)) <| wm rfl (v := .bool true) rfl <| wl_skip rfl rfl rfl (by decide) rfl (by decide) <| wl_skip rfl rfl rfl (by decide) rfl (by decide) <| wl_skip rfl rfl rfl (by decide) rfl (by decide) <| wl_skip rfl rfl rfl (by decide) rfl (by decide) <| wl_skip rfl rfl rfl (by decide) rfl (by decide) <| wl_skip rfl rfl rfl (by decide) rfl (by decide) <| wd rfl (fun st => x_pick_t (v := .bool true) (ee st rfl) rfl (ee st rfl)) <| wl_end <| lv_next <| cc_cond_t rfl rfl <| cc_seq <| cc_region <| wa rfl (v := I 1) rfl <| wl_end <| lv_next <| cc_ret <| lv_block_ret <| lv_then_ret <| lv_then_ret ?_
            have hp9 : Hp w [some b1] w25 := hp8.erase 0
            obtain rfl := Option.some.inj hG
            refine lv_to (fun st => ?_)
            exact .inl ⟨rfl, (1 : Int), rfl, (puts_size _ _).trans st.sz, (puts_defers _ _).trans st.df, (sl_puts st 2).trans rfl, hp9⟩
           ·replace hG := cond_f hG hc26
            have hc26_28 : r24 = true := by simpa using hc26
            refine wl_detg rfl rfl (guard_eq rfl hc26) rfl (by decide) (fun st => x_fieldAddr (ee st rfl) (fz_68_2 _ _)) ?_
            have bk15_8 : Bk w25 b15 68 #[I x14.who, I x14.fr, I x14.to, I x14.lo, I x14.hi] := (bk15_6.ext hx24)
            refine wl_detg rfl rfl (guard_eq rfl hc26) rfl (by decide) (fun st => x_load1 (v := I x14.to) one_3 (ee st rfl) bk15_8 rfl) <| wl_detg rfl rfl (guard_eq rfl hc26) rfl (by decide) (fun st => x_fieldAddr (ee st rfl) (fz_68_1 _ _)) <| wl_detg rfl rfl (guard_eq rfl hc26) rfl (by decide) (fun st => x_load1 (v := I x14.fr) one_3 (ee st rfl) bk15_8 rfl) <| wl_detg rfl rfl (guard_eq rfl hc26) rfl (by decide) (fun st => x_fieldAddr (ee st hs12_1) (fz_26_0 _ _)) ?_
            have bk1_8 : Bk w25 b1 26 #[I p0.rows, I p0.wd, I p0.lo, I p0.hi, .slice A0_0 p0.ts.length c0_0] := (bk1_6.ext hx24)
            refine wl_detg rfl rfl (guard_eq rfl hc26) rfl (by decide) (fun st => x_load1 (v := I p0.rows) one_3 (ee st rfl) bk1_8 rfl) ?_
            replace hG := i64_bind hG; obtain ⟨hf29, hG⟩ := hG
            refine wl_detg rfl rfl (guard_eq rfl hc26) rfl (by decide) (fun st => x_sub (ee st rfl) (ee st rfl) hf29) ?_
            replace hG := bind_some hG; obtain ⟨r30, hr30, hG⟩ := hG
            refine wl_exg rfl rfl (guard_eq rfl hc26) rfl (by decide) (fun st => x_call0 own_29 (ee st rfl) (am3 (ee st rfl) (ee st rfl) (ee st rfl)) (a29 K_ x14.to x14.fr (p0.rows - 1) ZA _ r30 hr30)) ?_
            rintro _ w31 ⟨hx30, rfl⟩
            have hp10 : Hp w [some b15, some b1] w31 := hp8.ext hx30
            refine wl_detg rfl rfl (guard_eq rfl hc26) rfl (by decide) (fun st => x_not (ee st rfl)) <| wd rfl (fun st => x_pick_f (v := .bool !r30) (ee st rfl) hc26 (ee st rfl)) <| wm rfl (v := .bool !r30) rfl ?_
            rcases bool_cases (!r30) with hc32 | hc32
            ·replace hG := cond_t hG hc32
             have hc32_33 : r30 = false := by simpa using hc32
             refine wl_skip (c := true) rfl rfl (guard_eq rfl hc32) (by decide) rfl (by decide) <| wl_skip (c := true) rfl rfl (guard_eq rfl hc32) (by decide) rfl (by decide) <| wl_skip (c := true) rfl rfl (guard_eq rfl hc32) (by decide) rfl (by decide) <| wl_skip (c := true) rfl rfl (guard_eq rfl hc32) (by decide) rfl (by decide) <| wl_skip (c := true) rfl rfl (guard_eq rfl hc32) (by decide) rfl (by decide) <| wl_skip (c := true) rfl rfl (guard_eq rfl hc32) (by decide) rfl (by decide) <| wd rfl (fun st => x_pick_t (v := .bool true) (ee st rfl) hc32 (ee st rfl)) <| wl_end <| lv_next <| cc_cond_t rfl rfl <| cc_seq <| cc_region <| wa rfl (v := I 1) rfl <| wl_end <| lv_next <| cc_ret <| lv_block_ret <| lv_then_ret <| lv_then_ret ?_
             have hp11 : Hp w [some b1] w31 := hp10.erase 0
             obtain rfl := Option.some.inj hG
             refine lv_to (fun st => ?_)
             exact .inl ⟨rfl, (1 : Int), rfl, (puts_size _ _).trans st.sz, (puts_defers _ _).trans st.df, (sl_puts st 2).trans rfl, hp11⟩
            ·replace hG := cond_f hG hc32
             have hc32_34 : r30 = true := by simpa using hc32
             refine wl_detg rfl rfl (guard_eq rfl hc32) rfl (by decide) (fun st => x_fieldAddr (ee st rfl) (fz_68_3 _ _)) ?_
             have bk15_10 : Bk w31 b15 68 #[I x14.who, I x14.fr, I x14.to, I x14.lo, I x14.hi] := (bk15_8.ext hx30)
             refine wl_detg rfl rfl (guard_eq rfl hc32) rfl (by decide) (fun st => x_loadn (l := [I x14.lo, I x14.hi]) agg_23 (ee st rfl) bk15_10 rfl rfl) <| wl_detg rfl rfl (guard_eq rfl hc32) rfl (by decide) (fun st => x_fieldAddr (ee st hs12_1) (fz_26_0 _ _)) ?_
             have bk1_10 : Bk w31 b1 26 #[I p0.rows, I p0.wd, I p0.lo, I p0.hi, .slice A0_0 p0.ts.length c0_0] := (bk1_8.ext hx30)
             refine wl_detg rfl rfl (guard_eq rfl hc32) rfl (by decide) (fun st => x_load1 (v := I p0.rows) one_3 (ee st rfl) bk1_10 rfl) ?_
             replace hG := bind_some hG; obtain ⟨r35, hr35, hG⟩ := hG
             refine wl_exg rfl rfl (guard_eq rfl hc32) rfl (by decide) (fun st => x_call0 own_98 (ee st rfl) (am3 (ee st rfl) (ee st rfl) (ee st rfl)) (a98 K_ (⟨x14.lo, x14.hi⟩ : (Int × Int)) 0 p0.rows ZA _ r35 hr35)) ?_
             rintro _ w36 ⟨hx35, rfl⟩
             have hp12 : Hp w [some b15, some b1] w36 := hp10.ext hx35
             refine wl_detg rfl rfl (guard_eq rfl hc32) rfl (by decide) (fun st => x_not (ee st rfl)) <| wd rfl (fun st => x_pick_f (v := .bool !r35) (ee st rfl) hc32 (ee st rfl)) <| wl_end <| lv_next ?_
             rcases bool_cases (!r35) with hc37 | hc37
             ·replace hG := cond_t hG hc37
              have hc37_38 : r35 = false := by simpa using hc37
              refine cc_cond_t rfl hc37 <| cc_seq <| cc_region <| wa rfl (v := I 1) rfl <| wl_end <| lv_next <| cc_ret <| lv_block_ret <| lv_then_ret <| lv_then_ret ?_
              have hp13 : Hp w [some b1] w36 := hp12.erase 0
              obtain rfl := Option.some.inj hG
              refine lv_to (fun st => ?_)
              exact .inl ⟨rfl, (1 : Int), rfl, (puts_size _ _).trans st.sz, (puts_defers _ _).trans st.df, (sl_puts st 2).trans rfl, hp13⟩
             ·replace hG := cond_f hG hc37
              have hc37_39 : r35 = true := by simpa using hc37
              refine cc_cond_f rfl hc37 <| cc_skip <| lv_block <| lv_next <| cc_region <| wm rfl (v := I s12_3) hs12_3 ?_
              replace hG := i64_bind hG; obtain ⟨hf40, hG⟩ := hG
              refine wd rfl (fun st => x_add (ee st rfl) (ee st rfl) hf40) <| wa rfl (v := I (s12_3 + 1)) rfl <| wl_end ?_
              have hp14 : Hp w [some b1] w36 := hp12.erase 0
              have bk1_14 : Bk w36 b1 26 #[I p0.rows, I p0.wd, I p0.lo, I p0.hi, .slice A0_0 p0.ts.length c0_0] := (bk1_10.ext hx35)
              have hS0_0_14 : Sl eTly w36 (ZZ Z w.heap.size [some b1]) A0_0 c0_0 p0.ts := (((((((f12_hS0_0.mv (mv_new nb15.gr (Nat.le_of_eq nb15.b_eq.symm))).mv (hp4.mv0 sb16.gr 0 rfl)).mv (mv_ext hx18)).mv (mv_ext hx24)).mv (mv_ext hx30)).mv (mv_ext hx35)).mv (mv_erase 0))
              refine lv_round m_ (Nat.lt_succ_self _) (fun st => ?_)
              exact ⟨(s12_3 + 1), hG, (puts_size _ _).trans st.sz, (puts_defers _ _).trans st.df, (sl_puts st 1).trans hs12_1, (sl_puts st 3).trans rfl, hp14, bk1_14, hS0_0_14⟩
         ·replace hG := cond_f hG hc13
          refine cc_cond_f rfl hc13 <| cc_exit <| lv_then_exit <| lv_then_exit ?_
          obtain rfl := Option.some.inj hG
          refine lv_to (fun st => ?_)
          exact .inr ⟨rfl, (), rfl, (puts_size _ _).trans st.sz, (puts_defers _ _).trans st.df, (sl_puts st 1).trans hs12_1, hp3, f12_bk1, f12_hS0_0⟩
       case af12 =>
        rintro e_ fr12a w12a (⟨rfl, q12, rfl, hsz12a, hdf12a, hs12a_2, hp12a⟩ | ⟨rfl, q12, rfl, hsz12a, hdf12a, hs12a_1, hp12a, g12_bk1, g12_hS0_0⟩)
        ·skip
         replace hG := inl_some hG
         refine lv_fr (X := X0) (N := 85) hsz12a hdf12a <| lv_block_ret <| lv_then_ret ?_
         obtain rfl := Option.some.inj hG
         refine lv_ret1 rfl hs12a_2 ?_
         exact ⟨hp12a.fin, rfl⟩
        ·skip
         replace hG := inr_some hG
         refine lv_fr (X := X0) (N := 85) hsz12a hdf12a <| lv_block_hit <| lv_next <| cc_seq <| cc_seq <| cc_region <| wd rfl (fun st => x_loadn (l := [I p0.rows, I p0.wd, I p0.lo, I p0.hi, .slice A0_0 p0.ts.length c0_0]) agg_26 (ee st hs12a_1) g12_bk1 rfl rfl) ?_
         replace hG := bind_some hG; obtain ⟨r41, hr41, hG⟩ := hG
         refine we rfl (fun st => x_call0 own_65 (ee st rfl) (am1 (ee st rfl)) (a65 K_ p0 A0_0 c0_0 ZA _ g12_hS0_0.all r41 hr41)) ?_
         rintro _ w42 ⟨hx41, rfl⟩
         have hp17 : Hp w [some b1] w42 := hp12a.ext hx41
         refine wd rfl (fun st => x_gtr (ee st rfl) (ee st rfl)) <| wl_end <| lv_next ?_
         rcases bool_cases (decide (2500 < r41)) with hc43 | hc43
         ·replace hG := cond_t hG hc43
          refine cc_cond_t rfl hc43 <| cc_seq <| cc_region <| wa rfl (v := I 3) rfl <| wl_end <| lv_next <| cc_ret <| lv_then_ret ?_
          obtain rfl := Option.some.inj hG
          refine lv_ret1 rfl rfl ?_
          exact ⟨hp17.fin, rfl⟩
         ·replace hG := cond_f hG hc43
          refine cc_cond_f rfl hc43 <| cc_skip <| lv_next <| cc_seq <| cc_region <| wa rfl (v := I 0) rfl <| wl_end <| lv_next <| cc_ret ?_
          obtain rfl := Option.some.inj hG
          refine lv_ret1 rfl rfl ?_
          exact ⟨hp17.fin, rfl⟩
end Go.Proofs.Ythogdgkafaclaaa
end
section
set_option linter.unusedVariables false
set_option linter.unusedSimpArgs false
namespace Go.Proofs.Ythogdgkafaclaaa
open Go.RowKit
open AF
theorem mixedA3 : Try.prog.follows .mixedOrders = true := by kernel_rfl
attribute [local irreducible] Ex1 WL CC CW LV Ret ObOp Agg One Own
theorem a82 (K_ : Nat) (p0 : Fld) (p1 : Int) (A0_0 : Option Addr) (c0_0 : Nat) (Z : Nat → Prop) (w : World) (hS0_0 : Sl eTly w Z A0_0 c0_0 p0.ts) (r_ : (List Int)) (hG : G_Nth K_ p0 p1 = some r_) :
    Ret Try.prog 82 #[.agg #[I p0.rows, I p0.wd, I p0.lo, I p0.hi, .slice A0_0 p0.ts.length c0_0], I p1] w (fun v w' => Ext w w' ∧ (vSl (eInt .i64)).R w' (ZZ Z w.heap.size []) v r_) := by
 unfold G_Nth at hG
 refine ret_of_cc (N := 28) Try.func82 rfl rfl (by simp) ?_
 intro fr0 ha hdf
 have hp_0 := sl_arg (i := 0) (v := .agg #[I p0.rows, I p0.wd, I p0.lo, I p0.hi, .slice A0_0 p0.ts.length c0_0]) ha rfl
 have hp_1 := sl_arg (i := 1) (v := I p1) ha rfl
 clear ha
 have hp0 := Hp.refl w
 have hS0_0_0 := hS0_0.mv (mv_start w)
 refine cc_seq <| cc_region <| we rfl (fun st => x_box (v := .agg #[I p0.rows, I p0.wd, I p0.lo, I p0.hi, .slice A0_0 p0.ts.length c0_0]) (cs := #[I p0.rows, I p0.wd, I p0.lo, I p0.hi, .slice A0_0 p0.ts.length c0_0]) (ee st hp_0) rfl) ?_
 rintro _ w1 ⟨b1, rfl, nb1⟩
 have hp1 : Hp w [some b1] w1 := hp0.new nb1.gr (Nat.le_of_eq nb1.b_eq.symm) (Nat.lt_of_lt_of_eq (Nat.lt_succ_self _) nb1.sz.symm)
 refine wa rfl (v := .slice none 0 0) rfl <| wl_end <| lv_next <| cc_seq <| cc_region <| wa rfl (v := .slice none 0 0) rfl <| wl_end <| lv_next <| cc_seq <| cc_seq <| cc_region <| wa rfl (v := I 0) rfl <| wl_end <| lv_next <| cc_block ?_
 have hp2 : Hp w [none, some b1] w1 := hp1.nil
 have hR3 : OwnR (eInt .i64) 3 w w1 (ZZ Z w.heap.size [none, some b1]) none 0 [] := OwnR.nil _ _ _ _ _
 replace hG := bind_some hG; obtain ⟨z2, hL2, hG⟩ := hG
 refine cc_join (fun e_ fr_ w_ => (e_ = .exit 0 ∧ ∃ Ae2_0_50 Ce2_0_50, fr_.tmps.size = 28 ∧ fr_.defers = [] ∧ sl fr_ 5 = .slice Ae2_0_50 z2.length Ce2_0_50 ∧ Hp w [ob Ae2_0_50, some b1] w_ ∧ OwnR (eInt .i64) 3 w w_ (ZZ Z w.heap.size [ob Ae2_0_50, some b1]) Ae2_0_50 Ce2_0_50 z2)) ?lp2 ?af2
 case lp2 =>
  clear hG
  refine cc_loop (fun (m_ : Nat) (fr_ : Act) (w_ : World) => ∃ s2_1, ∃ s2_5, ∃ s2_6, ∃ As2_5 Cs2_5, G_Nth_L2 p0 m_ s2_1 s2_5 s2_6 = some z2 ∧ fr_.tmps.size = 28 ∧ fr_.defers = [] ∧ sl fr_ 1 = I s2_1 ∧ sl fr_ 2 = pt b1 0 ∧ sl fr_ 5 = .slice As2_5 s2_5.length Cs2_5 ∧ sl fr_ 6 = I s2_6 ∧ Hp w [ob As2_5, some b1] w_ ∧ OwnR (eInt .i64) 3 w w_ (ZZ Z w.heap.size [ob As2_5, some b1]) As2_5 Cs2_5 s2_5 ∧ Bk w_ b1 26 #[I p0.rows, I p0.wd, I p0.lo, I p0.hi, .slice A0_0 p0.ts.length c0_0] ∧ Sl eTly w_ (ZZ Z w.heap.size [ob As2_5, some b1]) A0_0 c0_0 p0.ts) K_ ?in2 ?rd2
  case in2 =>
   intro st
   have bk1_2 : Bk w1 b1 26 #[I p0.rows, I p0.wd, I p0.lo, I p0.hi, .slice A0_0 p0.ts.length c0_0] := nb1.bk
   have hS0_0_2 : Sl eTly w1 (ZZ Z w.heap.size [none, some b1]) A0_0 c0_0 p0.ts := ((hS0_0_0.mv (mv_new nb1.gr (Nat.le_of_eq nb1.b_eq.symm))).mv mv_nil)
   exact ⟨p1, ([] : List Int), (0 : Int), none, 0, hL2, (puts_size _ _).trans st.sz, (puts_defers _ _).trans st.df, (sl_puts st 1).trans hp_1, (sl_puts st 2).trans rfl, (sl_puts st 5).trans rfl, (sl_puts st 6).trans rfl, hp2, hR3, bk1_2, hS0_0_2⟩
  case rd2 =>
   rintro (_ | m_) fr2 w2r ⟨s2_1, s2_5, s2_6, As2_5, Cs2_5, hL2, hsz2, hdf2, hs2_1, hs2_2, hs2_5, hs2_6, hp3, f2_Hs2_5, f2_bk1, f2_hS0_0⟩
   ·exact absurd (show none = some _ from hL2) (by simp)
   rw [G_Nth_L2.eq_2] at hL2
   have hG := hL2; clear hL2
   refine round_cc (N := 28) hsz2 hdf2 <| cc_seq <| cc_seq <| cc_region <| wm rfl (v := I s2_6) hs2_6 <| wd rfl (fun st => x_fieldAddr (ee st hs2_2) (fz_26_0 _ _)) <| wd rfl (fun st => x_load1 (v := I p0.rows) one_3 (ee st rfl) f2_bk1 rfl) <| wd rfl (fun st => x_lss (ee st rfl) (ee st rfl)) <| wl_end <| lv_next ?_
   rcases bool_cases (decide (s2_6 < p0.rows)) with hc4 | hc4
   ·replace hG := cond_t hG hc4
    refine cc_cond_t rfl hc4 <| cc_skip <| lv_next <| cc_seq <| cc_block ?_
    replace hG := i64_bind hG; obtain ⟨hf6, hG⟩ := hG
    replace hG := rem_bind hG; obtain ⟨hf7, hG⟩ := hG
    replace hG := i64_bind hG; obtain ⟨hf8, hG⟩ := hG
    replace hG := ifo_bind hG; obtain ⟨hf9, hG⟩ := hG
    replace hG := i64_bind hG; obtain ⟨hf10, hG⟩ := hG
    replace hG := quo_bind hG; obtain ⟨hf11, hG⟩ := hG
    replace hG := i64_bind hG; obtain ⟨hf12, hG⟩ := hG
    refine cc_anyM 15 (fun ph _ w_ => T3 w2r (ob As2_5) ph w_) (fun _ => []) [8] [Kc (.slice As2_5 s2_5.length Cs2_5), Kc (I s2_1), Kc (pt b1 1), Kc (I p0.wd), Kc (I (p0.wd + 1)), Kc (I (s2_1 % (p0.wd + 1))), Kc (I ((s2_1 % (p0.wd + 1)) - 1)), Kn w2r.heap.size (fun b => .slice (some ⟨b, 0, none⟩) 1 1) 3 #[I ((s2_1 % (p0.wd + 1)) - 1)], ⟨fun v_ w_ => ∃ A_ c_, v_ = .slice A_ (s2_5 ++ [(s2_1 % (p0.wd + 1)) - 1]).length c_ ∧ w2r.grownBy w_ (ob As2_5) ∧ (∀ k, ob A_ = some k → (ob As2_5 = some k ∨ w2r.heap.size ≤ k) ∧ k < w_.heap.size) ∧ OwnR (eInt .i64) 3 w w_ (ZZ Z w.heap.size [ob A_, some b1]) A_ c_ (s2_5 ++ [(s2_1 % (p0.wd + 1)) - 1]), fun _ _ _ ⟨A_, c_, h1, h2, h3, h4⟩ g => ⟨A_, c_, h1, h2.trans (g.but _), (fun k hk => ⟨(h3 k hk).1, Nat.lt_of_lt_of_le (h3 k hk).2 g.size⟩), h4.ext g (mv_ext g)⟩⟩, Kc (I s2_1), Kc (pt b1 1), Kc (I p0.wd), Kc (I (p0.wd + 1)), Kc (I (s2_1 / (p0.wd + 1))), ⟨fun v_ w_ => ∃ A_ c_, v_ = .slice A_ (s2_5 ++ [(s2_1 % (p0.wd + 1)) - 1]).length c_ ∧ w2r.grownBy w_ (ob As2_5) ∧ (∀ k, ob A_ = some k → (ob As2_5 = some k ∨ w2r.heap.size ≤ k) ∧ k < w_.heap.size) ∧ OwnR (eInt .i64) 3 w w_ (ZZ Z w.heap.size [ob A_, some b1]) A_ c_ (s2_5 ++ [(s2_1 % (p0.wd + 1)) - 1]), fun _ _ _ ⟨A_, c_, h1, h2, h3, h4⟩ g => ⟨A_, c_, h1, h2.trans (g.but _), (fun k hk => ⟨(h3 k hk).1, Nat.lt_of_lt_of_le (h3 k hk).2 g.size⟩), h4.ext g (mv_ext g)⟩⟩] mixedA3 rfl rfl (okD_nil _ _) (fun _ _ _ _ _ h g _ => T3_ext h g) (fun _ => ext_drew _)
        (obsN_cons (od rfl (fun _ => rfl) (fun K => x_move (v := .slice As2_5 s2_5.length Cs2_5) (es (t := 5) (v := .slice As2_5 s2_5.length Cs2_5) ((K.later 14 5 _ rfl rfl rfl).trans hs2_5))))
        (obsN_cons (od rfl (fun _ => rfl) (fun K => x_move (v := I s2_1) (es (t := 1) (v := I s2_1) ((K.later 15 1 _ rfl rfl rfl).trans hs2_1))))
        (obsN_cons (od rfl (fun _ => rfl) (fun K => x_fieldAddr (es (t := 2) (v := pt b1 0) ((K.out 2 rfl).trans hs2_2)) (fz_26_1 _ _)))
        (obsN_cons (od rfl (fun _ => rfl) (fun K => x_load1 (v := I p0.wd) one_3 (es (t := 15) (v := pt b1 1) (K.dep 2 15 rfl rfl)) (f2_bk1.gr (T3_gr K.phT) (hp3.ne 1 0 rfl rfl rfl)) rfl))
        (obsN_cons (od rfl (fun _ => rfl) (fun K => x_add (es (t := 16) (v := I p0.wd) (K.dep 3 16 rfl rfl)) (ec (v := I 1)) hf6))
        (obsN_cons (od rfl (fun _ => rfl) (fun K => x_rem (es (t := 14) (v := I s2_1) (K.dep 1 14 rfl rfl)) (es (t := 17) (v := I (p0.wd + 1)) (K.dep 4 17 rfl rfl)) hf7.1 hf7.2))
        (obsN_cons (od rfl (fun _ => rfl) (fun K => x_sub (es (t := 18) (v := I (s2_1 % (p0.wd + 1))) (K.dep 5 18 rfl rfl)) (ec (v := I 1)) hf8))
        (obsN_cons (ob_ext rfl rfl (fun a' w' ph K => (x_buildSlice (e := 3) (vs := #[(0, I ((s2_1 % (p0.wd + 1)) - 1))]) (cs := #[I ((s2_1 % (p0.wd + 1)) - 1)]) (pm1 (es (t := 19) (v := I ((s2_1 % (p0.wd + 1)) - 1)) (K.dep 6 19 rfl rfl))) (by kernel_rfl)).mono (fun u w'' hh => kn_mk (T3_gr K.phT).size hh)))
        (obsN_cons (ob_spec rfl rfl (fun a' w' ph K => match K.dep 7 20 rfl rfl with | ⟨bb5_7, e5_7, l5_7, k5_7⟩ => (x_appR (ys := [(s2_1 % (p0.wd + 1)) - 1]) Try.underlying43 info_3 rfl rfl (by decide) (es (t := 13) (v := .slice As2_5 s2_5.length Cs2_5) (K.dep 0 13 rfl rfl)) rfl (es (t := 20) (v := .slice (some ⟨bb5_7, 0, none⟩) 1 1) e5_7) (f2_Hs2_5.ext (T3_zero K.phT (K.spi 0 rfl)) (mv_ext (T3_zero K.phT (K.spi 0 rfl)))) (news_bk (css := [[I ((s2_1 % (p0.wd + 1)) - 1)]]) k5_7 ⟨rfl, trivial⟩ rfl) (by have := hf9; simp only [maxLen]; omega) (by have := hf9; omega) (Nat.le_trans hp3.bl.size (T3_zero K.phT (K.spi 0 rfl)).size) (by simp)).mono (fun v w'' ⟨A_, c_, hv, hg, hy, hO⟩ => ⟨⟨A_, c_, hv, T3_all (T3_zero K.phT (K.spi 0 rfl)) hg, T3_y (T3_zero K.phT (K.spi 0 rfl)) hy, ownR_of (hO) ((hp3.ext (T3_zero K.phT (K.spi 0 rfl))).mvr hg 0 rfl (fun k hk => (hy k hk).1))⟩, skl_of ⟨fun _ _ _ h => h, fun _ _ _ h => h, fun _ _ _ h => h, fun _ _ _ h => h, fun _ _ _ h => h, fun _ _ _ h => h, fun _ _ _ h => h, fun _ _ _ ⟨b, h1, h2, h3⟩ => ⟨b, h1, h2, h3.gr hg (by rintro e; have := (hp3.lo b (by rw [e]; exact List.mem_of_getElem? (show [ob As2_5, some b1][0]? = some _ from rfl))).2; omega)⟩, fun h => absurd rfl h, fun _ _ _ h => h, fun _ _ _ h => h, fun _ _ _ h => h, fun _ _ _ h => h, fun _ _ _ h => h, fun _ hd => absurd (hd _ rfl) (by decide), trivial⟩, T3_up K.phT (K.spi 0 rfl) hg⟩)))
        (obsN_cons (od rfl (fun _ => rfl) (fun K => x_move (v := I s2_1) (es (t := 1) (v := I s2_1) ((K.later 15 1 _ rfl rfl rfl).trans hs2_1))))
        (obsN_cons (od rfl (fun _ => rfl) (fun K => x_fieldAddr (es (t := 2) (v := pt b1 0) ((K.out 2 rfl).trans hs2_2)) (fz_26_1 _ _)))
        (obsN_cons (od rfl (fun _ => rfl) (fun K => x_load1 (v := I p0.wd) one_3 (es (t := 23) (v := pt b1 1) (K.dep 10 23 rfl rfl)) (f2_bk1.gr (T3_gr K.phT) (hp3.ne 1 0 rfl rfl rfl)) rfl))
        (obsN_cons (od rfl (fun _ => rfl) (fun K => x_add (es (t := 24) (v := I p0.wd) (K.dep 11 24 rfl rfl)) (ec (v := I 1)) hf10))
        (obsN_cons (od rfl (fun _ => rfl) (fun K => x_quoN (es (t := 22) (v := I s2_1) (K.dep 9 22 rfl rfl)) (es (t := 25) (v := I (p0.wd + 1)) (K.dep 12 25 rfl rfl)) hf11.1 hf11.2 hf12))
        (obsN_cons (ob_ext rfl rfl (fun a' w' ph K => (x_assign (v := sl a' 21) rfl).mono (fun u w'' ⟨hu, hw⟩ => by subst hu; subst hw; exact ⟨K.dep 8 21 rfl rfl, Ext.refl _⟩)))
        (obsN_nil _)))))))))))))))) ?_
    intro w5
    rintro _ rfl _ rfl _ rfl _ rfl _ rfl _ rfl _ rfl _ ⟨bb5_7, rfl, lobb5_7, bkbb5_7⟩ _ _ _ rfl _ rfl _ rfl _ rfl _ rfl _ ⟨Aa5, ca5, rfl, hga5, hya5, hRa5⟩ hx5
    have hp4 : Hp w [ob Aa5, some b1] w5 := hp3.row hga5 0 rfl (hp3.ge 0 rfl) hya5
    refine wa rfl (v := I (s2_1 / (p0.wd + 1))) rfl <| wl_end <| lv_block <| lv_next <| cc_region <| wm rfl (v := I s2_6) hs2_6 ?_
    replace hG := i64_bind hG; obtain ⟨hf13, hG⟩ := hG
    refine wd rfl (fun st => x_add (ee st rfl) (ee st rfl) hf13) <| wa rfl (v := I (s2_6 + 1)) rfl <| wl_end ?_
    have bk1_4 : Bk w5 b1 26 #[I p0.rows, I p0.wd, I p0.lo, I p0.hi, .slice A0_0 p0.ts.length c0_0] := (f2_bk1.gr hga5 (hp3.ne 1 0 rfl rfl rfl))
    have hS0_0_4 : Sl eTly w5 (ZZ Z w.heap.size [ob Aa5, some b1]) A0_0 c0_0 p0.ts := (f2_hS0_0.mv (hp3.mvr hga5 0 rfl (fun k hk => (hya5 k hk).1)))
    refine lv_round m_ (Nat.lt_succ_self _) (fun st => ?_)
    exact ⟨(s2_1 / (p0.wd + 1)), (s2_5 ++ [(s2_1 % (p0.wd + 1)) - 1]), (s2_6 + 1), Aa5, ca5, hG, (puts_size _ _).trans st.sz, (puts_defers _ _).trans st.df, (sl_puts st 1).trans rfl, (sl_puts st 2).trans hs2_2, (sl_puts st 5).trans rfl, (sl_puts st 6).trans rfl, hp4, hRa5, bk1_4, hS0_0_4⟩
   ·replace hG := cond_f hG hc4
    refine cc_cond_f rfl hc4 <| cc_exit <| lv_then_exit <| lv_then_exit ?_
    obtain rfl := Option.some.inj hG
    refine lv_to (fun st => ?_)
    exact ⟨rfl, As2_5, Cs2_5, (puts_size _ _).trans st.sz, (puts_defers _ _).trans st.df, (sl_puts st 5).trans hs2_5, hp3, f2_Hs2_5⟩
 case af2 =>
  rintro e_ fr2a w2a (⟨rfl, Ae2_0_50, Ce2_0_50, hsz2a, hdf2a, hs2a_5, hp2a, g2_He2_0_50⟩)
  refine lv_fr (X := X0) (N := 28) hsz2a hdf2a <| lv_block_hit <| lv_next <| cc_seq <| cc_region <| wm rfl (v := .slice Ae2_0_50 z2.length Ce2_0_50) hs2a_5 <| wa rfl (v := .slice Ae2_0_50 z2.length Ce2_0_50) rfl <| wl_end <| lv_next <| cc_ret ?_
  obtain rfl := Option.some.inj hG
  refine lv_ret1 rfl rfl ?_
  exact ⟨hp2a.fin, ⟨_, _, rfl, g2_He2_0_50.fin⟩⟩
end Go.Proofs.Ythogdgkafaclaaa
end
section
set_option linter.unusedVariables false
set_option linter.unusedSimpArgs false
namespace Go.Proofs.Ythogdgkafaclaaa
open Go.RowKit
open AF
theorem mixedA5 : Try.prog.follows .mixedOrders = true := by kernel_rfl
attribute [local irreducible] Ex1 WL CC CW LV Ret ObOp Agg One Own
theorem a28 (K_ : Nat) (p0 : Fld) (A0_0 : Option Addr) (c0_0 : Nat) (Z : Nat → Prop) (w : World) (hS0_0 : Sl eTly w Z A0_0 c0_0 p0.ts) (r_ : Int) (hG : G_fault K_ p0 = some r_) :
    Ret Try.prog 28 #[.agg #[I p0.rows, I p0.wd, I p0.lo, I p0.hi, .slice A0_0 p0.ts.length c0_0]] w (fun v w' => Ext w w' ∧ (vInt .i64).R w' (ZZ Z w.heap.size []) v r_) := by
 unfold G_fault at hG
 refine ret_of_cc (N := 5) Try.func28 rfl rfl (by simp) ?_
 intro fr0 ha hdf
 have hp_0 := sl_arg (i := 0) (v := .agg #[I p0.rows, I p0.wd, I p0.lo, I p0.hi, .slice A0_0 p0.ts.length c0_0]) ha rfl
 clear ha
 have hp0 := Hp.refl w
 have hS0_0_0 := hS0_0.mv (mv_start w)
 refine cc_seq <| cc_region <| we rfl (fun st => x_box (v := .agg #[I p0.rows, I p0.wd, I p0.lo, I p0.hi, .slice A0_0 p0.ts.length c0_0]) (cs := #[I p0.rows, I p0.wd, I p0.lo, I p0.hi, .slice A0_0 p0.ts.length c0_0]) (ee st hp_0) rfl) ?_
 rintro _ w1 ⟨b1, rfl, nb1⟩
 have hp1 : Hp w [some b1] w1 := hp0.new nb1.gr (Nat.le_of_eq nb1.b_eq.symm) (Nat.lt_of_lt_of_eq (Nat.lt_succ_self _) nb1.sz.symm)
 refine wa rfl (v := I 0) rfl <| wl_end <| lv_next <| cc_seq <| cc_region <| wd rfl (fun st => x_loadn (l := [I p0.rows, I p0.wd, I p0.lo, I p0.hi, .slice A0_0 p0.ts.length c0_0]) agg_26 (ee st rfl) nb1.bk rfl rfl) ?_
 have hS0_0_1 : Sl eTly w1 (ZZ Z w.heap.size [some b1]) A0_0 c0_0 p0.ts := (hS0_0_0.mv (mv_new nb1.gr (Nat.le_of_eq nb1.b_eq.symm)))
 replace hG := bind_some hG; obtain ⟨r2, hr2, hG⟩ := hG
 refine we rfl (fun st => x_call0 own_64 (ee st rfl) (am1 (ee st rfl)) (a64 K_ p0 A0_0 c0_0 ZA _ hS0_0_1.all r2 hr2)) ?_
 rintro _ w3 ⟨hx2, rfl⟩
 have hp2 : Hp w [some b1] w3 := hp1.ext hx2
 refine wa rfl (v := I r2) rfl <| wl_end <| lv_next <| cc_ret ?_
 obtain rfl := Option.some.inj hG
 refine lv_ret1 rfl rfl ?_
 exact ⟨hp2.fin, rfl⟩
theorem a20 (K_ : Nat) (p0 : Fld) (A0_0 : Option Addr) (c0_0 : Nat) (Z : Nat → Prop) (w : World) (hS0_0 : Sl eTly w Z A0_0 c0_0 p0.ts) (r_ : Bool) (hG : G_Thin K_ p0 = some r_) :
    Ret Try.prog 20 #[.agg #[I p0.rows, I p0.wd, I p0.lo, I p0.hi, .slice A0_0 p0.ts.length c0_0]] w (fun v w' => Ext w w' ∧ vBool.R w' (ZZ Z w.heap.size []) v r_) := by
 unfold G_Thin at hG
 refine ret_of_cc (N := 17) Try.func20 rfl rfl (by simp) ?_
 intro fr0 ha hdf
 have hp_0 := sl_arg (i := 0) (v := .agg #[I p0.rows, I p0.wd, I p0.lo, I p0.hi, .slice A0_0 p0.ts.length c0_0]) ha rfl
 clear ha
 have hp0 := Hp.refl w
 have hS0_0_0 := hS0_0.mv (mv_start w)
 refine cc_seq <| cc_region <| we rfl (fun st => x_box (v := .agg #[I p0.rows, I p0.wd, I p0.lo, I p0.hi, .slice A0_0 p0.ts.length c0_0]) (cs := #[I p0.rows, I p0.wd, I p0.lo, I p0.hi, .slice A0_0 p0.ts.length c0_0]) (ee st hp_0) rfl) ?_
 rintro _ w1 ⟨b1, rfl, nb1⟩
 have hp1 : Hp w [some b1] w1 := hp0.new nb1.gr (Nat.le_of_eq nb1.b_eq.symm) (Nat.lt_of_lt_of_eq (Nat.lt_succ_self _) nb1.sz.symm)
 refine wa rfl (v := .bool false) rfl <| wl_end <| lv_next <| cc_seq <| cc_region <| wd rfl (fun st => x_fieldAddr (ee st rfl) (fz_26_3 _ _)) <| wd rfl (fun st => x_load1 (v := .slice A0_0 p0.ts.length c0_0) one_24 (ee st rfl) nb1.bk rfl) <| wd rfl (fun st => x_len Try.underlying24 (ee st rfl)) <| wd rfl (fun st => x_leq (ee st rfl) (ee st rfl)) <| wm rfl (v := .bool (decide ((p0.ts.length : Int) ≤ 7))) rfl ?_
 rcases bool_cases (decide ((p0.ts.length : Int) ≤ 7)) with hc2 | hc2
 ·replace hG := cond_t hG hc2
  refine wl_detg rfl rfl (guard_eq rfl hc2) rfl (by decide) (fun st => x_loadn (l := [I p0.rows, I p0.wd, I p0.lo, I p0.hi, .slice A0_0 p0.ts.length c0_0]) agg_26 (ee st rfl) nb1.bk rfl rfl) ?_
  have hS0_0_1 : Sl eTly w1 (ZZ Z w.heap.size [some b1]) A0_0 c0_0 p0.ts := (hS0_0_0.mv (mv_new nb1.gr (Nat.le_of_eq nb1.b_eq.symm)))
  replace hG := bind_some hG; obtain ⟨r3, hr3, hG⟩ := hG
  refine wl_exg rfl rfl (guard_eq rfl hc2) rfl (by decide) (fun st => x_call0 own_64 (ee st rfl) (am1 (ee st rfl)) (a64 K_ p0 A0_0 c0_0 ZA _ hS0_0_1.all r3 hr3)) ?_
  rintro _ w4 ⟨hx3, rfl⟩
  have hp2 : Hp w [some b1] w4 := hp1.ext hx3
  refine wl_detg rfl rfl (guard_eq rfl hc2) rfl (by decide) (fun st => x_neq (ee st rfl) (ee st rfl)) <| wl_detg rfl rfl (guard_eq rfl hc2) rfl (by decide) (fun st => x_move (v := .bool (r3 != 0)) (ee st rfl)) ?_
  rcases bool_cases (r3 != 0) with hc5 | hc5
  ·replace hG := cond_t hG hc5
   refine wl_skip (c := true) rfl rfl (guard_eq rfl hc5) (by decide) rfl (by decide) <| wl_skip (c := true) rfl rfl (guard_eq rfl hc5) (by decide) rfl (by decide) <| wl_skip (c := true) rfl rfl (guard_eq rfl hc5) (by decide) rfl (by decide) <| wl_detg rfl rfl (guard_eq rfl hc2) rfl (by decide) (fun st => x_pick_t (v := .bool true) (ee st rfl) hc5 (ee st rfl)) <| wd rfl (fun st => x_pick_t (v := .bool true) (ee st rfl) hc2 (ee st rfl)) <| wa rfl (v := .bool true) rfl <| wl_end <| lv_next <| cc_ret ?_
   obtain rfl := Option.some.inj hG
   refine lv_ret1 rfl rfl ?_
   exact ⟨hp2.fin, rfl⟩
  ·replace hG := cond_f hG hc5
   have bk1_2 : Bk w4 b1 26 #[I p0.rows, I p0.wd, I p0.lo, I p0.hi, .slice A0_0 p0.ts.length c0_0] := (nb1.bk.ext hx3)
   refine wl_detg rfl rfl (guard_eq rfl hc5) rfl (by decide) (fun st => x_loadn (l := [I p0.rows, I p0.wd, I p0.lo, I p0.hi, .slice A0_0 p0.ts.length c0_0]) agg_26 (ee st rfl) bk1_2 rfl rfl) ?_
   have hS0_0_2 : Sl eTly w4 (ZZ Z w.heap.size [some b1]) A0_0 c0_0 p0.ts := (hS0_0_1.mv (mv_ext hx3))
   replace hG := bind_some hG; obtain ⟨r6, hr6, hG⟩ := hG
   refine wl_exg rfl rfl (guard_eq rfl hc5) rfl (by decide) (fun st => x_call0 own_65 (ee st rfl) (am1 (ee st rfl)) (a65 K_ p0 A0_0 c0_0 ZA _ hS0_0_2.all r6 hr6)) ?_
   rintro _ w7 ⟨hx6, rfl⟩
   have hp3 : Hp w [some b1] w7 := hp2.ext hx6
   refine wl_detg rfl rfl (guard_eq rfl hc5) rfl (by decide) (fun st => x_leq (ee st rfl) (ee st rfl)) <| wl_detg rfl rfl (guard_eq rfl hc2) rfl (by decide) (fun st => x_pick_f (v := .bool (decide (r6 ≤ 250))) (ee st rfl) hc5 (ee st rfl)) <| wd rfl (fun st => x_pick_t (v := .bool (decide (r6 ≤ 250))) (ee st rfl) hc2 (ee st rfl)) <| wa rfl (v := .bool (decide (r6 ≤ 250))) rfl <| wl_end <| lv_next <| cc_ret ?_
   obtain rfl := Option.some.inj hG
   refine lv_ret1 rfl rfl ?_
   exact ⟨hp3.fin, rfl⟩
 ·replace hG := cond_f hG hc2
  refine wl_skip (c := false) rfl rfl (guard_eq rfl hc2) (by decide) rfl (by decide) <| wl_skip (c := false) rfl rfl (guard_eq rfl hc2) (by decide) rfl (by decide) <| wl_skip (c := false) rfl rfl (guard_eq rfl hc2) (by decide) rfl (by decide) <| wl_skip (c := false) rfl rfl (guard_eq rfl hc2) (by decide) rfl (by decide) <| wl_skip_u rfl rfl rfl rfl (by decide) <| wl_skip_u rfl rfl rfl rfl (by decide) <| wl_skip_u rfl rfl rfl rfl (by decide) <| wl_skip (c := false) rfl rfl (guard_eq rfl hc2) (by decide) rfl (by decide) <| wd rfl (fun st => x_pick_f (v := .bool false) (ee st rfl) hc2 (ee st rfl)) <| wa rfl (v := .bool false) rfl <| wl_end <| lv_next <| cc_ret ?_
  obtain rfl := Option.some.inj hG
  refine lv_ret1 rfl rfl ?_
  exact ⟨hp1.fin, rfl⟩
theorem a25 (K_ : Nat) (p0 : (Int × Int)) (Z : Nat → Prop) (w : World) (r_ : (Int × Int)) (hG : G_to K_ p0 = some r_) :
    Ret Try.prog 25 #[.agg #[I p0.1, I p0.2]] w (fun v w' => Ext w w' ∧ (vAgg eR).R w' (ZZ Z w.heap.size []) v r_) := by
 unfold G_to at hG
 refine ret_of_cc (N := 8) Try.func25 rfl rfl (by simp) ?_
 intro fr0 ha hdf
 have hp_0 := sl_arg (i := 0) (v := .agg #[I p0.1, I p0.2]) ha rfl
 clear ha
 have hp0 := Hp.refl w
 refine cc_seq <| cc_region <| we rfl (fun st => x_box (v := .agg #[I p0.1, I p0.2]) (cs := #[I p0.1, I p0.2]) (ee st hp_0) rfl) ?_
 rintro _ w1 ⟨b1, rfl, nb1⟩
 have hp1 : Hp w [some b1] w1 := hp0.new nb1.gr (Nat.le_of_eq nb1.b_eq.symm) (Nat.lt_of_lt_of_eq (Nat.lt_succ_self _) nb1.sz.symm)
 refine we rfl (fun st => x_alloc (cs := #[I 0, I 0]) zero_33 rfl) ?_
 rintro _ w2 ⟨b2, rfl, nb2⟩
 have hp2 : Hp w [some b2, some b1] w2 := hp1.new nb2.gr (Nat.le_of_eq nb2.b_eq.symm) (Nat.lt_of_lt_of_eq (Nat.lt_succ_self _) nb2.sz.symm)
 refine wl_end <| lv_next <| cc_seq <| cc_region <| wd rfl (fun st => x_fieldAddr (ee st rfl) (fz_23_0 _ _)) ?_
 have bk1_2 : Bk w2 b1 23 #[I p0.1, I p0.2] := (nb1.bk.ext nb2.gr)
 refine wd rfl (fun st => x_load1 (v := I p0.1) one_3 (ee st rfl) bk1_2 rfl) <| wd rfl (fun st => x_fieldAddr (ee st rfl) (fz_23_1 _ _)) <| wd rfl (fun st => x_load1 (v := I p0.2) one_3 (ee st rfl) bk1_2 rfl) <| wd rfl (fun st => x_build (vs := #[(0, I p0.1), (1, I p0.2)]) (v := .agg #[I p0.1, I p0.2]) (pm2 (ee st rfl) (ee st rfl)) (by kernel_rfl)) <| wl_ex0 rfl rfl (fun st => x_store (n := 2) (l := [I p0.1, I p0.2]) (cs' := #[I p0.1, I p0.2]) (ee st rfl) (ee st rfl) sz_33 nb2.bk rfl rfl (show 0 + 2 ≤ 2 by decide) (one_cells rfl) rfl) ?_
 rintro _ w4 sb4
 have hp3 : Hp w [some b2, some b1] w4 := hp2.gr sb4.gr (hp2.ge 0 rfl)
 refine wl_end <| lv_next <| cc_ret ?_
 obtain rfl := Option.some.inj hG
 refine lv_retc (v := .agg #[I p0.1, I p0.2]) rfl rfl (run_loadn_bk agg_33 sb4.bk rfl rfl) ?_
 exact ⟨hp3.fin, ⟨_, rfl, rfl⟩⟩
theorem a30 (K_ : Nat) (p0 : List Int) (p1 : List Int) (A0_0 : Option Addr) (c0_0 : Nat) (A1_0 : Option Addr) (c1_0 : Nat) (Z : Nat → Prop) (w : World) (hS0_0 : Sl (eInt .i64) w Z A0_0 c0_0 p0) (hS1_0 : Sl (eInt .i64) w Z A1_0 c1_0 p1) (r_ : Bool) (hG : G_same K_ p0 p1 = some r_) :
    Ret Try.prog 30 #[.slice A0_0 p0.length c0_0, .slice A1_0 p1.length c1_0] w (fun v w' => Ext w w' ∧ vBool.R w' (ZZ Z w.heap.size []) v r_) := by
 unfold G_same at hG
 refine ret_of_cc (N := 26) Try.func30 rfl rfl (by simp) ?_
 intro fr0 ha hdf
 have hp_0 := sl_arg (i := 0) (v := .slice A0_0 p0.length c0_0) ha rfl
 have hp_1 := sl_arg (i := 1) (v := .slice A1_0 p1.length c1_0) ha rfl
 clear ha
 have hp0 := Hp.refl w
 have hS0_0_0 := hS0_0.mv (mv_start w)
 have hS1_0_0 := hS1_0.mv (mv_start w)
 refine cc_seq <| cc_region <| wa rfl (v := .bool false) rfl <| wl_end <| lv_next <| cc_seq <| cc_seq <| cc_region <| wm rfl (v := .slice A0_0 p0.length c0_0) hp_0 <| wd rfl (fun st => x_len Try.underlying43 (ee st rfl)) <| wm rfl (v := .slice A1_0 p1.length c1_0) hp_1 <| wd rfl (fun st => x_len Try.underlying43 (ee st rfl)) <| wd rfl (fun st => x_neq (ee st rfl) (ee st rfl)) <| wl_end <| lv_next ?_
 rcases bool_cases ((p0.length : Int) != (p1.length : Int)) with hc1 | hc1
 ·replace hG := cond_t hG hc1
  refine cc_cond_t rfl hc1 <| cc_seq <| cc_region <| wa rfl (v := .bool false) rfl <| wl_end <| lv_next <| cc_ret <| lv_then_ret ?_
  obtain rfl := Option.some.inj hG
  refine lv_ret1 rfl rfl ?_
  exact ⟨hp0.fin, rfl⟩
 ·replace hG := cond_f hG hc1
  refine cc_cond_f rfl hc1 <| cc_skip <| lv_next <| cc_seq <| cc_seq <| cc_region <| wa rfl (v := I 0) rfl <| wl_end <| lv_next <| cc_block ?_
  replace hG := bind_some hG; obtain ⟨z2, hL2, hG⟩ := hG
  refine cc_join (fun e_ fr_ w_ => (e_ = .ret ∧ ∃ q2, z2 = .inl q2 ∧ fr_.tmps.size = 26 ∧ fr_.defers = [] ∧ sl fr_ 4 = .bool q2 ∧ Hp w [] w_) ∨ (e_ = .exit 0 ∧ ∃ q2, z2 = .inr q2 ∧ fr_.tmps.size = 26 ∧ fr_.defers = [] ∧ Hp w [] w_)) ?lp2 ?af2
  case lp2 =>
   clear hG
   refine cc_loop (fun (m_ : Nat) (fr_ : Act) (w_ : World) => ∃ s2_5, G_same_L2 p0 p1 m_ s2_5 = some z2 ∧ fr_.tmps.size = 26 ∧ fr_.defers = [] ∧ sl fr_ 0 = .slice A0_0 p0.length c0_0 ∧ sl fr_ 1 = .slice A1_0 p1.length c1_0 ∧ sl fr_ 5 = I s2_5 ∧ Hp w [] w_ ∧ Sl (eInt .i64) w_ (ZZ Z w.heap.size []) A0_0 c0_0 p0 ∧ Sl (eInt .i64) w_ (ZZ Z w.heap.size []) A1_0 c1_0 p1) K_ ?in2 ?rd2
   case in2 =>
    intro st
    exact ⟨(0 : Int), hL2, (puts_size _ _).trans st.sz, (puts_defers _ _).trans st.df, (sl_puts st 0).trans hp_0, (sl_puts st 1).trans hp_1, (sl_puts st 5).trans rfl, hp0, hS0_0_0, hS1_0_0⟩
   case rd2 =>
    rintro (_ | m_) fr2 w2r ⟨s2_5, hL2, hsz2, hdf2, hs2_0, hs2_1, hs2_5, hp1, f2_hS0_0, f2_hS1_0⟩
    ·exact absurd (show none = some _ from hL2) (by simp)
    rw [G_same_L2.eq_2] at hL2
    have hG := hL2; clear hL2
    refine round_cc (N := 26) hsz2 hdf2 <| cc_seq <| cc_seq <| cc_region <| wm rfl (v := I s2_5) hs2_5 <| wm rfl (v := .slice A0_0 p0.length c0_0) hs2_0 <| wd rfl (fun st => x_len Try.underlying43 (ee st rfl)) <| wd rfl (fun st => x_lss (ee st rfl) (ee st rfl)) <| wl_end <| lv_next ?_
    rcases bool_cases (decide (s2_5 < (p0.length : Int))) with hc3 | hc3
    ·replace hG := cond_t hG hc3
     refine cc_cond_t rfl hc3 <| cc_skip <| lv_next <| cc_seq <| cc_block <| cc_seq ?_
     replace hG := idx_bind hG; obtain ⟨i5, x5, hi5, hx5, hl5, hG⟩ := hG
     obtain ⟨b5, o5, _, hA5, rfl, hz5⟩ := Sl.elem1 f2_hS0_0 rfl hx5
     replace hG := idx_bind hG; obtain ⟨i6, x6, hi6, hx6, hl6, hG⟩ := hG
     obtain ⟨b6, o6, _, hA6, rfl, hz6⟩ := Sl.elem1 f2_hS1_0 rfl hx6
     refine cc_anyM0 9 [Kc (.slice A0_0 p0.length c0_0), Kc (I s2_5), Kc (pt b5 (o5 + i5)), Kc (I x5), Kc (.slice A1_0 p1.length c1_0), Kc (I s2_5), Kc (pt b6 (o6 + i6)), Kc (I x6), Kc (.bool (x5 != x6))] mixedA5 rfl rfl
         (obsN_cons (od rfl (fun _ => rfl) (fun K => x_move (v := .slice A0_0 p0.length c0_0) (es (t := 0) (v := .slice A0_0 p0.length c0_0) ((K.out 0 rfl).trans hs2_0))))
         (obsN_cons (od rfl (fun _ => rfl) (fun K => x_move (v := I s2_5) (es (t := 5) (v := I s2_5) ((K.out 5 rfl).trans hs2_5))))
         (obsN_cons (od rfl (fun _ => rfl) (fun K => x_indexAddr1 (k := i5) Try.underlying43 sz_3 (es (t := 17) (v := .slice A0_0 p0.length c0_0) (K.dep 0 17 rfl rfl)) hA5 (es (t := 18) (v := I s2_5) (K.dep 1 18 rfl rfl)) hi5 hl5))
         (obsN_cons (od rfl (fun _ => rfl) (fun K => x_load_z0 (v := I x5) one_3 (es (t := 19) (v := pt b5 (o5 + i5)) (K.dep 2 19 rfl rfl)) (hz5.mv (mv_ext K.phT)) rfl))
         (obsN_cons (od rfl (fun _ => rfl) (fun K => x_move (v := .slice A1_0 p1.length c1_0) (es (t := 1) (v := .slice A1_0 p1.length c1_0) ((K.out 1 rfl).trans hs2_1))))
         (obsN_cons (od rfl (fun _ => rfl) (fun K => x_move (v := I s2_5) (es (t := 5) (v := I s2_5) ((K.out 5 rfl).trans hs2_5))))
         (obsN_cons (od rfl (fun _ => rfl) (fun K => x_indexAddr1 (k := i6) Try.underlying43 sz_3 (es (t := 21) (v := .slice A1_0 p1.length c1_0) (K.dep 4 21 rfl rfl)) hA6 (es (t := 22) (v := I s2_5) (K.dep 5 22 rfl rfl)) hi6 hl6))
         (obsN_cons (od rfl (fun _ => rfl) (fun K => x_load_z0 (v := I x6) one_3 (es (t := 23) (v := pt b6 (o6 + i6)) (K.dep 6 23 rfl rfl)) (hz6.mv (mv_ext K.phT)) rfl))
         (obsN_cons (od rfl (fun _ => rfl) (fun K => x_neq (es (t := 20) (v := I x5) (K.dep 3 20 rfl rfl)) (es (t := 24) (v := I x6) (K.dep 7 24 rfl rfl))))
         (obsN_nil _)))))))))) ?_
     intro w4
     rintro _ rfl _ rfl _ rfl _ rfl _ rfl _ rfl _ rfl _ rfl _ rfl hx4
     have hp2 : Hp w [] w4 := hp1.ext hx4
     refine wl_end <| lv_next ?_
     rcases bool_cases (x5 != x6) with hc7 | hc7
     ·replace hG := cond_t hG hc7
      refine cc_cond_t rfl hc7 <| cc_seq <| cc_region <| wa rfl (v := .bool false) rfl <| wl_end <| lv_next <| cc_ret <| lv_block_ret <| lv_then_ret <| lv_then_ret ?_
      obtain rfl := Option.some.inj hG
      refine lv_to (fun st => ?_)
      exact .inl ⟨rfl, false, rfl, (puts_size _ _).trans st.sz, (puts_defers _ _).trans st.df, (sl_puts st 4).trans rfl, hp2⟩
     ·replace hG := cond_f hG hc7
      refine cc_cond_f rfl hc7 <| cc_skip <| lv_block <| lv_next <| cc_region <| wm rfl (v := I s2_5) hs2_5 ?_
      replace hG := i64_bind hG; obtain ⟨hf8, hG⟩ := hG
      refine wd rfl (fun st => x_add (ee st rfl) (ee st rfl) hf8) <| wa rfl (v := I (s2_5 + 1)) rfl <| wl_end ?_
      have hS0_0_2 : Sl (eInt .i64) w4 (ZZ Z w.heap.size []) A0_0 c0_0 p0 := (f2_hS0_0.mv (mv_ext hx4))
      have hS1_0_2 : Sl (eInt .i64) w4 (ZZ Z w.heap.size []) A1_0 c1_0 p1 := (f2_hS1_0.mv (mv_ext hx4))
      refine lv_round m_ (Nat.lt_succ_self _) (fun st => ?_)
      exact ⟨(s2_5 + 1), hG, (puts_size _ _).trans st.sz, (puts_defers _ _).trans st.df, (sl_puts st 0).trans hs2_0, (sl_puts st 1).trans hs2_1, (sl_puts st 5).trans rfl, hp2, hS0_0_2, hS1_0_2⟩
    ·replace hG := cond_f hG hc3
     refine cc_cond_f rfl hc3 <| cc_exit <| lv_then_exit <| lv_then_exit ?_
     obtain rfl := Option.some.inj hG
     refine lv_to (fun st => ?_)
     exact .inr ⟨rfl, (), rfl, (puts_size _ _).trans st.sz, (puts_defers _ _).trans st.df, hp1⟩
  case af2 =>
   rintro e_ fr2a w2a (⟨rfl, q2, rfl, hsz2a, hdf2a, hs2a_4, hp2a⟩ | ⟨rfl, q2, rfl, hsz2a, hdf2a, hp2a⟩)
   ·skip
    replace hG := inl_some hG
    refine lv_fr (X := X0) (N := 26) hsz2a hdf2a <| lv_block_ret <| lv_then_ret ?_
    obtain rfl := Option.some.inj hG
    refine lv_ret1 rfl hs2a_4 ?_
    exact ⟨hp2a.fin, rfl⟩
   ·skip
    replace hG := inr_some hG
    refine lv_fr (X := X0) (N := 26) hsz2a hdf2a <| lv_block_hit <| lv_next <| cc_seq <| cc_region <| wa rfl (v := .bool true) rfl <| wl_end <| lv_next <| cc_ret ?_
    obtain rfl := Option.some.inj hG
    refine lv_ret1 rfl rfl ?_
    exact ⟨hp2a.fin, rfl⟩
theorem a39 (K_ : Nat) (p0 : Fld) (A0_0 : Option Addr) (c0_0 : Nat) (Z : Nat → Prop) (w : World) (hS0_0 : Sl eTly w Z A0_0 c0_0 p0.ts) (r_ : Bool) (hG : G_ready K_ p0 = some r_) :
    Ret Try.prog 39 #[.agg #[I p0.rows, I p0.wd, I p0.lo, I p0.hi, .slice A0_0 p0.ts.length c0_0]] w (fun v w' => Ext w w' ∧ vBool.R w' (ZZ Z w.heap.size []) v r_) := by
 unfold G_ready at hG
 refine ret_of_cc (N := 10) Try.func39 rfl rfl (by simp) ?_
 intro fr0 ha hdf
 have hp_0 := sl_arg (i := 0) (v := .agg #[I p0.rows, I p0.wd, I p0.lo, I p0.hi, .slice A0_0 p0.ts.length c0_0]) ha rfl
 clear ha
 have hp0 := Hp.refl w
 have hS0_0_0 := hS0_0.mv (mv_start w)
 refine cc_seq <| cc_region <| we rfl (fun st => x_box (v := .agg #[I p0.rows, I p0.wd, I p0.lo, I p0.hi, .slice A0_0 p0.ts.length c0_0]) (cs := #[I p0.rows, I p0.wd, I p0.lo, I p0.hi, .slice A0_0 p0.ts.length c0_0]) (ee st hp_0) rfl) ?_
 rintro _ w1 ⟨b1, rfl, nb1⟩
 have hp1 : Hp w [some b1] w1 := hp0.new nb1.gr (Nat.le_of_eq nb1.b_eq.symm) (Nat.lt_of_lt_of_eq (Nat.lt_succ_self _) nb1.sz.symm)
 refine wa rfl (v := .bool false) rfl <| wl_end <| lv_next <| cc_seq <| cc_region <| wd rfl (fun st => x_loadn (l := [I p0.rows, I p0.wd, I p0.lo, I p0.hi, .slice A0_0 p0.ts.length c0_0]) agg_26 (ee st rfl) nb1.bk rfl rfl) ?_
 have hS0_0_1 : Sl eTly w1 (ZZ Z w.heap.size [some b1]) A0_0 c0_0 p0.ts := (hS0_0_0.mv (mv_new nb1.gr (Nat.le_of_eq nb1.b_eq.symm)))
 replace hG := bind_some hG; obtain ⟨r2, hr2, hG⟩ := hG
 refine we rfl (fun st => x_call0 own_20 (ee st rfl) (am1 (ee st rfl)) (a20 K_ p0 A0_0 c0_0 ZA _ hS0_0_1.all r2 hr2)) ?_
 rintro _ w3 ⟨hx2, rfl⟩
 have hp2 : Hp w [some b1] w3 := hp1.ext hx2
 refine wm rfl (v := .bool r2) rfl ?_
 rcases bool_cases (r2) with hc4 | hc4
 ·replace hG := cond_t hG hc4
  have bk1_2 : Bk w3 b1 26 #[I p0.rows, I p0.wd, I p0.lo, I p0.hi, .slice A0_0 p0.ts.length c0_0] := (nb1.bk.ext hx2)
  refine wl_detg rfl rfl (guard_eq rfl hc4) rfl (by decide) (fun st => x_loadn (l := [I p0.rows, I p0.wd, I p0.lo, I p0.hi, .slice A0_0 p0.ts.length c0_0]) agg_26 (ee st rfl) bk1_2 rfl rfl) ?_
  have hS0_0_2 : Sl eTly w3 (ZZ Z w.heap.size [some b1]) A0_0 c0_0 p0.ts := (hS0_0_1.mv (mv_ext hx2))
  replace hG := bind_some hG; obtain ⟨r5, hr5, hG⟩ := hG
  refine wl_exg rfl rfl (guard_eq rfl hc4) rfl (by decide) (fun st => x_call0 own_28 (ee st rfl) (am1 (ee st rfl)) (a28 K_ p0 A0_0 c0_0 ZA _ hS0_0_2.all r5 hr5)) ?_
  rintro _ w6 ⟨hx5, rfl⟩
  have hp3 : Hp w [some b1] w6 := hp2.ext hx5
  refine wl_detg rfl rfl (guard_eq rfl hc4) rfl (by decide) (fun st => x_eql (ee st rfl) (ee st rfl)) <| wd rfl (fun st => x_pick_t (v := .bool (r5 == 0)) (ee st rfl) hc4 (ee st rfl)) <| wa rfl (v := .bool (r5 == 0)) rfl <| wl_end <| lv_next <| cc_ret ?_
  obtain rfl := Option.some.inj hG
  refine lv_ret1 rfl rfl ?_
  exact ⟨hp3.fin, rfl⟩
 ·replace hG := cond_f hG hc4
  refine wl_skip (c := false) rfl rfl (guard_eq rfl hc4) (by decide) rfl (by decide) <| wl_skip (c := false) rfl rfl (guard_eq rfl hc4) (by decide) rfl (by decide) <| wl_skip (c := false) rfl rfl (guard_eq rfl hc4) (by decide) rfl (by decide) <| wd rfl (fun st => x_pick_f (v := .bool false) (ee st rfl) hc4 (ee st rfl)) <| wa rfl (v := .bool false) rfl <| wl_end <| lv_next <| cc_ret ?_
  obtain rfl := Option.some.inj hG
  refine lv_ret1 rfl rfl ?_
  exact ⟨hp2.fin, rfl⟩
theorem a44 (K_ : Nat) (p0 : (Int × Int)) (p1 : (Int × Int)) (Z : Nat → Prop) (w : World) (r_ : Bool) (hG : G_inside K_ p0 p1 = some r_) :
    Ret Try.prog 44 #[.agg #[I p0.1, I p0.2], .agg #[I p1.1, I p1.2]] w (fun v w' => Ext w w' ∧ vBool.R w' (ZZ Z w.heap.size []) v r_) := by
 unfold G_inside at hG
 refine ret_of_cc (N := 17) Try.func44 rfl rfl (by simp) ?_
 intro fr0 ha hdf
 have hp_0 := sl_arg (i := 0) (v := .agg #[I p0.1, I p0.2]) ha rfl
 have hp_1 := sl_arg (i := 1) (v := .agg #[I p1.1, I p1.2]) ha rfl
 clear ha
 have hp0 := Hp.refl w
 refine cc_seq <| cc_region <| we rfl (fun st => x_box (v := .agg #[I p0.1, I p0.2]) (cs := #[I p0.1, I p0.2]) (ee st hp_0) rfl) ?_
 rintro _ w1 ⟨b1, rfl, nb1⟩
 have hp1 : Hp w [some b1] w1 := hp0.new nb1.gr (Nat.le_of_eq nb1.b_eq.symm) (Nat.lt_of_lt_of_eq (Nat.lt_succ_self _) nb1.sz.symm)
 refine we rfl (fun st => x_box (v := .agg #[I p1.1, I p1.2]) (cs := #[I p1.1, I p1.2]) (ee st hp_1) rfl) ?_
 rintro _ w2 ⟨b2, rfl, nb2⟩
 have hp2 : Hp w [some b2, some b1] w2 := hp1.new nb2.gr (Nat.le_of_eq nb2.b_eq.symm) (Nat.lt_of_lt_of_eq (Nat.lt_succ_self _) nb2.sz.symm)
 refine wa rfl (v := .bool false) rfl <| wl_end <| lv_next <| cc_seq <| cc_region <| wd rfl (fun st => x_fieldAddr (ee st rfl) (fz_33_0 _ _)) ?_
 have bk1_2 : Bk w2 b1 33 #[I p0.1, I p0.2] := (nb1.bk.ext nb2.gr)
 refine wd rfl (fun st => x_load1 (v := I p0.1) one_3 (ee st rfl) bk1_2 rfl) <| wd rfl (fun st => x_fieldAddr (ee st rfl) (fz_33_0 _ _)) <| wd rfl (fun st => x_load1 (v := I p1.1) one_3 (ee st rfl) nb2.bk rfl) <| wd rfl (fun st => x_geq (ee st rfl) (ee st rfl)) <| wm rfl (v := .bool (decide (p1.1 ≤ p0.1))) rfl ?_
 rcases bool_cases (decide (p1.1 ≤ p0.1)) with hc3 | hc3
 ·replace hG := cond_t hG hc3
  refine wl_detg rfl rfl (guard_eq rfl hc3) rfl (by decide) (fun st => x_fieldAddr (ee st rfl) (fz_33_1 _ _)) <| wl_detg rfl rfl (guard_eq rfl hc3) rfl (by decide) (fun st => x_load1 (v := I p0.2) one_3 (ee st rfl) bk1_2 rfl) <| wl_detg rfl rfl (guard_eq rfl hc3) rfl (by decide) (fun st => x_fieldAddr (ee st rfl) (fz_33_1 _ _)) <| wl_detg rfl rfl (guard_eq rfl hc3) rfl (by decide) (fun st => x_load1 (v := I p1.2) one_3 (ee st rfl) nb2.bk rfl) <| wl_detg rfl rfl (guard_eq rfl hc3) rfl (by decide) (fun st => x_leq (ee st rfl) (ee st rfl)) <| wd rfl (fun st => x_pick_t (v := .bool (decide (p0.2 ≤ p1.2))) (ee st rfl) hc3 (ee st rfl)) <| wa rfl (v := .bool (decide (p0.2 ≤ p1.2))) rfl <| wl_end <| lv_next <| cc_ret ?_
  obtain rfl := Option.some.inj hG
  refine lv_ret1 rfl rfl ?_
  exact ⟨hp2.fin, rfl⟩
 ·replace hG := cond_f hG hc3
  refine wl_skip (c := false) rfl rfl (guard_eq rfl hc3) (by decide) rfl (by decide) <| wl_skip (c := false) rfl rfl (guard_eq rfl hc3) (by decide) rfl (by decide) <| wl_skip (c := false) rfl rfl (guard_eq rfl hc3) (by decide) rfl (by decide) <| wl_skip (c := false) rfl rfl (guard_eq rfl hc3) (by decide) rfl (by decide) <| wl_skip (c := false) rfl rfl (guard_eq rfl hc3) (by decide) rfl (by decide) <| wd rfl (fun st => x_pick_f (v := .bool false) (ee st rfl) hc3 (ee st rfl)) <| wa rfl (v := .bool false) rfl <| wl_end <| lv_next <| cc_ret ?_
  obtain rfl := Option.some.inj hG
  refine lv_ret1 rfl rfl ?_
  exact ⟨hp2.fin, rfl⟩
theorem a45 (K_ : Nat) (p0 : List Int) (p1 : Int) (A0_0 : Option Addr) (c0_0 : Nat) (Z : Nat → Prop) (w : World) (hS0_0 : Sl (eInt .i64) w Z A0_0 c0_0 p0) (r_ : Bool) (hG : G_has K_ p0 p1 = some r_) :
    Ret Try.prog 45 #[.slice A0_0 p0.length c0_0, I p1] w (fun v w' => Ext w w' ∧ vBool.R w' (ZZ Z w.heap.size []) v r_) := by
 unfold G_has at hG
 refine ret_of_cc (N := 18) Try.func45 rfl rfl (by simp) ?_
 intro fr0 ha hdf
 have hp_0 := sl_arg (i := 0) (v := .slice A0_0 p0.length c0_0) ha rfl
 have hp_1 := sl_arg (i := 1) (v := I p1) ha rfl
 clear ha
 have hp0 := Hp.refl w
 have hS0_0_0 := hS0_0.mv (mv_start w)
 refine cc_seq <| cc_region <| wa rfl (v := .bool false) rfl <| wl_end <| lv_next <| cc_seq <| cc_seq <| cc_region <| wa rfl (v := I 0) rfl <| wl_end <| lv_next <| cc_block ?_
 replace hG := bind_some hG; obtain ⟨z1, hL1, hG⟩ := hG
 refine cc_join (fun e_ fr_ w_ => (e_ = .ret ∧ ∃ q1, z1 = .inl q1 ∧ fr_.tmps.size = 18 ∧ fr_.defers = [] ∧ sl fr_ 4 = .bool q1 ∧ w = w_) ∨ (e_ = .exit 0 ∧ ∃ q1, z1 = .inr q1 ∧ fr_.tmps.size = 18 ∧ fr_.defers = [] ∧ w = w_)) ?lp1 ?af1
 case lp1 =>
  clear hG
  refine cc_loop (fun (m_ : Nat) (fr_ : Act) (w_ : World) => ∃ s1_5, G_has_L1 p0 p1 m_ s1_5 = some z1 ∧ fr_.tmps.size = 18 ∧ fr_.defers = [] ∧ sl fr_ 0 = .slice A0_0 p0.length c0_0 ∧ sl fr_ 1 = I p1 ∧ sl fr_ 5 = I s1_5 ∧ w = w_) K_ ?in1 ?rd1
  case in1 =>
   intro st
   exact ⟨(0 : Int), hL1, (puts_size _ _).trans st.sz, (puts_defers _ _).trans st.df, (sl_puts st 0).trans hp_0, (sl_puts st 1).trans hp_1, (sl_puts st 5).trans rfl, rfl⟩
  case rd1 =>
   rintro (_ | m_) fr1 _ ⟨s1_5, hL1, hsz1, hdf1, hs1_0, hs1_1, hs1_5, rfl⟩
   ·exact absurd (show none = some _ from hL1) (by simp)
   rw [G_has_L1.eq_2] at hL1
   have hG := hL1; clear hL1
   refine round_cc (N := 18) hsz1 hdf1 <| cc_seq <| cc_seq <| cc_region <| wm rfl (v := I s1_5) hs1_5 <| wm rfl (v := .slice A0_0 p0.length c0_0) hs1_0 <| wd rfl (fun st => x_len Try.underlying43 (ee st rfl)) <| wd rfl (fun st => x_lss (ee st rfl) (ee st rfl)) <| wl_end <| lv_next ?_
   rcases bool_cases (decide (s1_5 < (p0.length : Int))) with hc2 | hc2
   ·replace hG := cond_t hG hc2
    refine cc_cond_t rfl hc2 <| cc_skip <| lv_next <| cc_seq <| cc_block <| cc_seq <| cc_region <| wm rfl (v := .slice A0_0 p0.length c0_0) hs1_0 <| wm rfl (v := I s1_5) hs1_5 ?_
    replace hG := idx_bind hG; obtain ⟨i3, x3, hi3, hx3, hl3, hG⟩ := hG
    obtain ⟨b3, o3, _, hA3, rfl, hz3⟩ := Sl.elem1 hS0_0_0 rfl hx3
    refine wd rfl (fun st => x_indexAddr1 (k := i3) Try.underlying43 sz_3 (ee st rfl) hA3 (ee st rfl) hi3 hl3) <| wd rfl (fun st => x_load_z0 (v := I x3) one_3 (ee st rfl) hz3 rfl) <| wm rfl (v := I p1) hs1_1 <| wd rfl (fun st => x_eql (ee st rfl) (ee st rfl)) <| wl_end <| lv_next ?_
    rcases bool_cases (x3 == p1) with hc4 | hc4
    ·replace hG := cond_t hG hc4
     refine cc_cond_t rfl hc4 <| cc_seq <| cc_region <| wa rfl (v := .bool true) rfl <| wl_end <| lv_next <| cc_ret <| lv_block_ret <| lv_then_ret <| lv_then_ret ?_
     obtain rfl := Option.some.inj hG
     refine lv_to (fun st => ?_)
     exact .inl ⟨rfl, true, rfl, (puts_size _ _).trans st.sz, (puts_defers _ _).trans st.df, (sl_puts st 4).trans rfl, rfl⟩
    ·replace hG := cond_f hG hc4
     refine cc_cond_f rfl hc4 <| cc_skip <| lv_block <| lv_next <| cc_region <| wm rfl (v := I s1_5) hs1_5 ?_
     replace hG := i64_bind hG; obtain ⟨hf5, hG⟩ := hG
     refine wd rfl (fun st => x_add (ee st rfl) (ee st rfl) hf5) <| wa rfl (v := I (s1_5 + 1)) rfl <| wl_end ?_
     refine lv_round m_ (Nat.lt_succ_self _) (fun st => ?_)
     exact ⟨(s1_5 + 1), hG, (puts_size _ _).trans st.sz, (puts_defers _ _).trans st.df, (sl_puts st 0).trans hs1_0, (sl_puts st 1).trans hs1_1, (sl_puts st 5).trans rfl, rfl⟩
   ·replace hG := cond_f hG hc2
    refine cc_cond_f rfl hc2 <| cc_exit <| lv_then_exit <| lv_then_exit ?_
    obtain rfl := Option.some.inj hG
    refine lv_to (fun st => ?_)
    exact .inr ⟨rfl, (), rfl, (puts_size _ _).trans st.sz, (puts_defers _ _).trans st.df, rfl⟩
 case af1 =>
  rintro e_ fr1a _ (⟨rfl, q1, rfl, hsz1a, hdf1a, hs1a_4, rfl⟩ | ⟨rfl, q1, rfl, hsz1a, hdf1a, rfl⟩)
  ·skip
   replace hG := inl_some hG
   refine lv_fr (X := X0) (N := 18) hsz1a hdf1a <| lv_block_ret <| lv_then_ret ?_
   obtain rfl := Option.some.inj hG
   refine lv_ret1 rfl hs1a_4 ?_
   exact ⟨hp0.fin, rfl⟩
  ·skip
   replace hG := inr_some hG
   refine lv_fr (X := X0) (N := 18) hsz1a hdf1a <| lv_block_hit <| lv_next <| cc_seq <| cc_region <| wa rfl (v := .bool false) rfl <| wl_end <| lv_next <| cc_ret ?_
   obtain rfl := Option.some.inj hG
   refine lv_ret1 rfl rfl ?_
   exact ⟨hp0.fin, rfl⟩
theorem a50 (K_ : Nat) (p0 : Int) (p1 : Int) (Z : Nat → Prop) (w : World) (r_ : (Int × Int)) (hG : G_between K_ p0 p1 = some r_) :
    Ret Try.prog 50 #[I p0, I p1] w (fun v w' => Ext w w' ∧ (vAgg eR).R w' (ZZ Z w.heap.size []) v r_) := by
 unfold G_between at hG
 refine ret_of_cc (N := 8) Try.func50 rfl rfl (by simp) ?_
 intro fr0 ha hdf
 have hp_0 := sl_arg (i := 0) (v := I p0) ha rfl
 have hp_1 := sl_arg (i := 1) (v := I p1) ha rfl
 clear ha
 have hp0 := Hp.refl w
 refine cc_seq <| cc_region <| we rfl (fun st => x_alloc (cs := #[I 0, I 0]) zero_33 rfl) ?_
 rintro _ w1 ⟨b1, rfl, nb1⟩
 have hp1 : Hp w [some b1] w1 := hp0.new nb1.gr (Nat.le_of_eq nb1.b_eq.symm) (Nat.lt_of_lt_of_eq (Nat.lt_succ_self _) nb1.sz.symm)
 refine wl_end <| lv_next <| cc_seq <| cc_region <| wm rfl (v := I p0) hp_0 <| wm rfl (v := I p1) hp_1 <| wd rfl (fun st => x_build (vs := #[(0, I p0), (1, I p1)]) (v := .agg #[I p0, I p1]) (pm2 (ee st rfl) (ee st rfl)) (by kernel_rfl)) <| wl_ex0 rfl rfl (fun st => x_store (n := 2) (l := [I p0, I p1]) (cs' := #[I p0, I p1]) (ee st rfl) (ee st rfl) sz_33 nb1.bk rfl rfl (show 0 + 2 ≤ 2 by decide) (one_cells rfl) rfl) ?_
 rintro _ w3 sb3
 have hp2 : Hp w [some b1] w3 := hp1.gr sb3.gr (hp1.ge 0 rfl)
 refine wl_end <| lv_next <| cc_ret ?_
 obtain rfl := Option.some.inj hG
 refine lv_retc (v := .agg #[I p0, I p1]) rfl rfl (run_loadn_bk agg_33 sb3.bk rfl rfl) ?_
 exact ⟨hp2.fin, ⟨_, rfl, rfl⟩⟩
theorem a56 (K_ : Nat) (p0 : Int) (p1 : (Int × Int)) (Z : Nat → Prop) (w : World) (r_ : Bool) (hG : G_in_ K_ p0 p1 = some r_) :
    Ret Try.prog 56 #[I p0, .agg #[I p1.1, I p1.2]] w (fun v w' => Ext w w' ∧ vBool.R w' (ZZ Z w.heap.size []) v r_) := by
 unfold G_in_ at hG
 refine ret_of_cc (N := 15) Try.func56 rfl rfl (by simp) ?_
 intro fr0 ha hdf
 have hp_0 := sl_arg (i := 0) (v := I p0) ha rfl
 have hp_1 := sl_arg (i := 1) (v := .agg #[I p1.1, I p1.2]) ha rfl
 clear ha
 have hp0 := Hp.refl w
 refine cc_seq <| cc_region <| we rfl (fun st => x_box (v := .agg #[I p1.1, I p1.2]) (cs := #[I p1.1, I p1.2]) (ee st hp_1) rfl) ?_
 rintro _ w1 ⟨b1, rfl, nb1⟩
 have hp1 : Hp w [some b1] w1 := hp0.new nb1.gr (Nat.le_of_eq nb1.b_eq.symm) (Nat.lt_of_lt_of_eq (Nat.lt_succ_self _) nb1.sz.symm)
 refine wa rfl (v := .bool false) rfl <| wl_end <| lv_next <| cc_seq <| cc_region <| wm rfl (v := I p0) hp_0 <| wd rfl (fun st => x_fieldAddr (ee st rfl) (fz_33_0 _ _)) <| wd rfl (fun st => x_load1 (v := I p1.1) one_3 (ee st rfl) nb1.bk rfl) <| wd rfl (fun st => x_geq (ee st rfl) (ee st rfl)) <| wm rfl (v := .bool (decide (p1.1 ≤ p0))) rfl ?_
 rcases bool_cases (decide (p1.1 ≤ p0)) with hc2 | hc2
 ·replace hG := cond_t hG hc2
  refine wl_detg rfl rfl (guard_eq rfl hc2) rfl (by decide) (fun st => x_move (v := I p0) (ee st hp_0)) <| wl_detg rfl rfl (guard_eq rfl hc2) rfl (by decide) (fun st => x_fieldAddr (ee st rfl) (fz_33_1 _ _)) <| wl_detg rfl rfl (guard_eq rfl hc2) rfl (by decide) (fun st => x_load1 (v := I p1.2) one_3 (ee st rfl) nb1.bk rfl) <| wl_detg rfl rfl (guard_eq rfl hc2) rfl (by decide) (fun st => x_leq (ee st rfl) (ee st rfl)) <| wd rfl (fun st => x_pick_t (v := .bool (decide (p0 ≤ p1.2))) (ee st rfl) hc2 (ee st rfl)) <| wa rfl (v := .bool (decide (p0 ≤ p1.2))) rfl <| wl_end <| lv_next <| cc_ret ?_
  obtain rfl := Option.some.inj hG
  refine lv_ret1 rfl rfl ?_
  exact ⟨hp1.fin, rfl⟩
 ·replace hG := cond_f hG hc2
  refine wl_skip (c := false) rfl rfl (guard_eq rfl hc2) (by decide) rfl (by decide) <| wl_skip (c := false) rfl rfl (guard_eq rfl hc2) (by decide) rfl (by decide) <| wl_skip (c := false) rfl rfl (guard_eq rfl hc2) (by decide) rfl (by decide) <| wl_skip (c := false) rfl rfl (guard_eq rfl hc2) (by decide) rfl (by decide) <| wd rfl (fun st => x_pick_f (v := .bool false) (ee st rfl) hc2 (ee st rfl)) <| wa rfl (v := .bool false) rfl <| wl_end <| lv_next <| cc_ret ?_
  obtain rfl := Option.some.inj hG
  refine lv_ret1 rfl rfl ?_
  exact ⟨hp1.fin, rfl⟩
theorem a96 (K_ : Nat) (p0 : List Int) (p1 : Int) (A0_0 : Option Addr) (c0_0 : Nat) (Z : Nat → Prop) (w : World) (hS0_0 : Sl (eInt .u16) w Z A0_0 c0_0 p0) (r_ : Int) (hG : G_word K_ p0 p1 = some r_) :
    Ret Try.prog 96 #[.slice A0_0 p0.length c0_0, I p1] w (fun v w' => Ext w w' ∧ (vInt .i64).R w' (ZZ Z w.heap.size []) v r_) := by
 unfold G_word at hG
 refine ret_of_cc (N := 16) Try.func96 rfl rfl (by simp) ?_
 intro fr0 ha hdf
 have hp_0 := sl_arg (i := 0) (v := .slice A0_0 p0.length c0_0) ha rfl
 have hp_1 := sl_arg (i := 1) (v := I p1) ha rfl
 clear ha
 have hp0 := Hp.refl w
 have hS0_0_0 := hS0_0.mv (mv_start w)
 refine cc_seq <| cc_region <| wa rfl (v := I 0) rfl <| wl_end <| lv_next <| cc_seq <| cc_seq <| cc_region <| wm rfl (v := .slice A0_0 p0.length c0_0) hp_0 <| wd rfl (fun st => x_len Try.underlying83 (ee st rfl)) <| wd rfl (fun st => x_eql (ee st rfl) (ee st rfl)) <| wl_end <| lv_next ?_
 rcases bool_cases ((p0.length : Int) == 0) with hc1 | hc1
 ·replace hG := cond_t hG hc1
  refine cc_cond_t rfl hc1 <| cc_seq <| cc_region <| wa rfl (v := I 0) rfl <| wl_end <| lv_next <| cc_ret <| lv_then_ret ?_
  obtain rfl := Option.some.inj hG
  refine lv_ret1 rfl rfl ?_
  exact ⟨hp0.fin, rfl⟩
 ·replace hG := cond_f hG hc1
  refine cc_cond_f rfl hc1 <| cc_skip <| lv_next <| cc_seq <| cc_region <| wm rfl (v := .slice A0_0 p0.length c0_0) hp_0 <| wm rfl (v := I p1) hp_1 <| wm rfl (v := .slice A0_0 p0.length c0_0) hp_0 <| wd rfl (fun st => x_len Try.underlying83 (ee st rfl)) ?_
  replace hG := rem_bind hG; obtain ⟨hf2, hG⟩ := hG
  refine wd rfl (fun st => x_rem (ee st rfl) (ee st rfl) hf2.1 hf2.2) ?_
  replace hG := idx_bind hG; obtain ⟨i3, x3, hi3, hx3, hl3, hG⟩ := hG
  obtain ⟨b3, o3, _, hA3, rfl, hz3⟩ := Sl.elem1 hS0_0_0 rfl hx3
  refine wd rfl (fun st => x_indexAddr1 (k := i3) Try.underlying83 sz_82 (ee st rfl) hA3 (ee st rfl) hi3 hl3) <| wd rfl (fun st => x_load_z0 (v := .int .u16 x3) one_82 (ee st rfl) hz3 rfl) ?_
  replace hG := cvO_bind hG; obtain ⟨hf4, hG⟩ := hG
  refine wd rfl (fun st => x_conv (k := .i64) sm_82 Try.underlying3 (ee st rfl) hf4) <| wa rfl (v := I x3) rfl <| wl_end <| lv_next <| cc_ret ?_
  obtain rfl := Option.some.inj hG
  refine lv_ret1 rfl rfl ?_
  exact ⟨hp0.fin, rfl⟩
end Go.Proofs.Ythogdgkafaclaaa
end
section
set_option linter.unusedVariables false
set_option linter.unusedSimpArgs false
namespace Go.Proofs.Ythogdgkafaclaaa
open Go.RowKit
open AF
theorem mixedA6 : Try.prog.follows .mixedOrders = true := by kernel_rfl
attribute [local irreducible] Ex1 WL CC CW LV Ret ObOp Agg One Own
theorem a53 (K_ : Nat) (p0 : List Int) (A0_0 : Option Addr) (c0_0 : Nat) (Z : Nat → Prop) (w : World) (hS0_0 : Sl (eInt .i64) w Z A0_0 c0_0 p0) (r_ : (List Int)) (hG : G_list K_ p0 = some r_) :
    Ret Try.prog 53 #[.slice A0_0 p0.length c0_0] w (fun v w' => Ext w w' ∧ (vSl (eInt .i64)).R w' (ZZ Z w.heap.size []) v r_) := by
 unfold G_list at hG
 refine ret_of_cc (N := 6) Try.func53 rfl rfl (by simp) ?_
 intro fr0 ha hdf
 have hp_0 := sl_arg (i := 0) (v := .slice A0_0 p0.length c0_0) ha rfl
 clear ha
 have hp0 := Hp.refl w
 have hS0_0_0 := hS0_0.mv (mv_start w)
 refine cc_seq <| cc_region <| wa rfl (v := .slice none 0 0) rfl <| wl_end <| lv_next <| cc_seq <| cc_region <| we rfl (fun st => x_buildSlice (e := 3) (vs := #[]) (cs := #[]) pm0 (by kernel_rfl)) ?_
 rintro _ w1 ⟨b1, rfl, nb1⟩
 have hp1 : Hp w [some b1] w1 := hp0.new nb1.gr (Nat.le_of_eq nb1.b_eq.symm) (Nat.lt_of_lt_of_eq (Nat.lt_succ_self _) nb1.sz.symm)
 refine wm rfl (v := .slice A0_0 p0.length c0_0) hp_0 ?_
 have hR2 : OwnR (eInt .i64) 3 w w1 (ZZ Z w.heap.size [some b1]) (some ⟨b1, 0, none⟩) 0 ([] : List Int) := row_bk (css := []) nb1.bk (hp1.ge 0 rfl _ rfl) trivial rfl (by simp [maxLen])
 replace hG := ifo_bind hG; obtain ⟨hf3, hG⟩ := hG
 have hS0_0_1 : Sl (eInt .i64) w1 (ZZ Z w.heap.size [some b1]) A0_0 c0_0 p0 := (hS0_0_0.mv (mv_new nb1.gr (Nat.le_of_eq nb1.b_eq.symm)))
 refine we rfl (fun st => x_appS (ys := p0) Try.underlying43 info_3 rfl rfl (by decide) (ee st rfl) rfl (ee st rfl) hR2 hS0_0_1 (by have := hf3; simp only [maxLen]; omega) (by have := hf3; omega) hp1.bl.size) ?_
 rintro _ w4 ⟨A4, c4, rfl, hg4, hy4, hO4⟩
 have hp2 : Hp w [ob A4] w4 := hp1.row hg4 0 rfl (hp1.ge 0 rfl) hy4
 have hR4 : OwnR (eInt .i64) 3 w w4 (ZZ Z w.heap.size [ob A4]) A4 c4 (([] : List Int) ++ p0) := ownR_of hO4 (hp1.mvr hg4 0 rfl (fun k hk => (hy4 k hk).1))
 refine wa rfl (v := .slice A4 ((([] : List Int) ++ p0).length) c4) rfl <| wl_end <| lv_next <| cc_ret ?_
 obtain rfl := Option.some.inj hG
 refine lv_ret1 rfl rfl ?_
 exact ⟨hp2.fin, ⟨_, _, rfl, hR4.fin⟩⟩
theorem a46 (K_ : Nat) (p0 : Fld) (p1 : Int) (A0_0 : Option Addr) (c0_0 : Nat) (Z : Nat → Prop) (w : World) (hS0_0 : Sl eTly w Z A0_0 c0_0 p0.ts) (r_ : Fld) (hG : G_some_ K_ p0 p1 = some r_) :
    Ret Try.prog 46 #[.agg #[I p0.rows, I p0.wd, I p0.lo, I p0.hi, .slice A0_0 p0.ts.length c0_0], I p1] w (fun v w' => Ext w w' ∧ (vAgg eFld).R w' (ZZ Z w.heap.size []) v r_) := by
 unfold G_some_ at hG
 refine ret_of_cc (N := 33) Try.func46 rfl rfl (by simp) ?_
 intro fr0 ha hdf
 have hp_0 := sl_arg (i := 0) (v := .agg #[I p0.rows, I p0.wd, I p0.lo, I p0.hi, .slice A0_0 p0.ts.length c0_0]) ha rfl
 have hp_1 := sl_arg (i := 1) (v := I p1) ha rfl
 clear ha
 have hp0 := Hp.refl w
 have hS0_0_0 := hS0_0.mv (mv_start w)
 refine cc_seq <| cc_region <| we rfl (fun st => x_box (v := .agg #[I p0.rows, I p0.wd, I p0.lo, I p0.hi, .slice A0_0 p0.ts.length c0_0]) (cs := #[I p0.rows, I p0.wd, I p0.lo, I p0.hi, .slice A0_0 p0.ts.length c0_0]) (ee st hp_0) rfl) ?_
 rintro _ w1 ⟨b1, rfl, nb1⟩
 have hp1 : Hp w [some b1] w1 := hp0.new nb1.gr (Nat.le_of_eq nb1.b_eq.symm) (Nat.lt_of_lt_of_eq (Nat.lt_succ_self _) nb1.sz.symm)
 refine we rfl (fun st => x_alloc (cs := #[I 0, I 0, I 0, I 0, .slice none 0 0]) zero_26 rfl) ?_
 rintro _ w2 ⟨b2, rfl, nb2⟩
 have hp2 : Hp w [some b2, some b1] w2 := hp1.new nb2.gr (Nat.le_of_eq nb2.b_eq.symm) (Nat.lt_of_lt_of_eq (Nat.lt_succ_self _) nb2.sz.symm)
 refine wl_end <| lv_next <| cc_seq <| cc_region ?_
 have bk1_2 : Bk w2 b1 26 #[I p0.rows, I p0.wd, I p0.lo, I p0.hi, .slice A0_0 p0.ts.length c0_0] := (nb1.bk.ext nb2.gr)
 refine wd rfl (fun st => x_loadn (l := [I p0.rows, I p0.wd, I p0.lo, I p0.hi, .slice A0_0 p0.ts.length c0_0]) agg_26 (ee st rfl) bk1_2 rfl rfl) <| we rfl (fun st => x_alloc (cs := #[I 0, I 0, I 0, I 0, .slice none 0 0]) zero_26 rfl) ?_
 rintro _ w3 ⟨b3, rfl, nb3⟩
 have hp3 : Hp w [some b3, some b2, some b1] w3 := hp2.new nb3.gr (Nat.le_of_eq nb3.b_eq.symm) (Nat.lt_of_lt_of_eq (Nat.lt_succ_self _) nb3.sz.symm)
 refine wl_ex0 rfl rfl (fun st => x_store (n := 5) (l := [I p0.rows, I p0.wd, I p0.lo, I p0.hi, .slice A0_0 p0.ts.length c0_0]) (cs' := #[I p0.rows, I p0.wd, I p0.lo, I p0.hi, .slice A0_0 p0.ts.length c0_0]) (ee st rfl) (ee st rfl) sz_26 nb3.bk rfl rfl (show 0 + 5 ≤ 5 by decide) (one_cells rfl) rfl) ?_
 rintro _ w4 sb4
 have hp4 : Hp w [some b3, some b2, some b1] w4 := hp3.gr sb4.gr (hp3.ge 0 rfl)
 refine wl_end <| lv_next <| cc_seq <| cc_region <| wd rfl (fun st => x_fieldAddr (ee st rfl) (fz_26_3 _ _)) <| wl_ex0 rfl rfl (fun st => x_store (n := 1) (l := [.slice none 0 0]) (cs' := #[I p0.rows, I p0.wd, I p0.lo, I p0.hi, .slice none 0 0]) (ee st rfl) (ee st rfl) sz_24 sb4.bk rfl rfl (show 4 + 1 ≤ 5 by decide) (one_cells rfl) rfl) ?_
 rintro _ w5 sb5
 have hp5 : Hp w [some b3, some b2, some b1] w5 := hp4.gr sb5.gr (hp4.ge 0 rfl)
 refine wl_end <| lv_next <| cc_seq <| cc_seq <| cc_region <| wa rfl (v := I 0) rfl <| wl_end <| lv_next <| cc_block ?_
 have hp6 : Hp w [none, some b3, some b2, some b1] w5 := hp5.nil
 have hR7 : OwnR eTly 68 w w5 (ZZ Z w.heap.size [none, some b3, some b2, some b1]) none 0 [] := OwnR.nil _ _ _ _ _
 replace hG := bind_some hG; obtain ⟨z6, hL6, hG⟩ := hG
 refine cc_join (fun e_ fr_ w_ => (e_ = .exit 0 ∧ ∃ Ae6_0_b34 Ce6_0_b34, fr_.tmps.size = 33 ∧ fr_.defers = [] ∧ sl fr_ 4 = pt b2 0 ∧ sl fr_ 5 = pt b3 0 ∧ Hp w [ob Ae6_0_b34, some b3, some b2, some b1] w_ ∧ OwnR eTly 68 w w_ (ZZ Z w.heap.size [ob Ae6_0_b34, some b3, some b2, some b1]) Ae6_0_b34 Ce6_0_b34 z6 ∧ Bk w_ b2 26 #[I 0, I 0, I 0, I 0, .slice none 0 0] ∧ Bk w_ b3 26 #[I p0.rows, I p0.wd, I p0.lo, I p0.hi, .slice Ae6_0_b34 z6.length Ce6_0_b34])) ?lp6 ?af6
 case lp6 =>
  clear hG
  refine cc_loop (fun (m_ : Nat) (fr_ : Act) (w_ : World) => ∃ s6_6, ∃ s6_b34, ∃ As6_b34 Cs6_b34, G_some__L6 p0 p1 m_ s6_6 s6_b34 = some z6 ∧ fr_.tmps.size = 33 ∧ fr_.defers = [] ∧ sl fr_ 1 = I p1 ∧ sl fr_ 2 = pt b1 0 ∧ sl fr_ 4 = pt b2 0 ∧ sl fr_ 5 = pt b3 0 ∧ sl fr_ 6 = I s6_6 ∧ Hp w [ob As6_b34, some b3, some b2, some b1] w_ ∧ OwnR eTly 68 w w_ (ZZ Z w.heap.size [ob As6_b34, some b3, some b2, some b1]) As6_b34 Cs6_b34 s6_b34 ∧ Bk w_ b1 26 #[I p0.rows, I p0.wd, I p0.lo, I p0.hi, .slice A0_0 p0.ts.length c0_0] ∧ Bk w_ b2 26 #[I 0, I 0, I 0, I 0, .slice none 0 0] ∧ Bk w_ b3 26 #[I p0.rows, I p0.wd, I p0.lo, I p0.hi, .slice As6_b34 s6_b34.length Cs6_b34] ∧ Sl eTly w_ (ZZ Z w.heap.size [ob As6_b34, some b3, some b2, some b1]) A0_0 c0_0 p0.ts) K_ ?in6 ?rd6
  case in6 =>
   intro st
   have bk1_6 : Bk w5 b1 26 #[I p0.rows, I p0.wd, I p0.lo, I p0.hi, .slice A0_0 p0.ts.length c0_0] := (((bk1_2.ext nb3.gr).gr sb4.gr (hp3.ne 2 0 rfl rfl rfl)).gr sb5.gr (hp4.ne 2 0 rfl rfl rfl))
   have bk2_6 : Bk w5 b2 26 #[I 0, I 0, I 0, I 0, .slice none 0 0] := (((nb2.bk.ext nb3.gr).gr sb4.gr (hp3.ne 1 0 rfl rfl rfl)).gr sb5.gr (hp4.ne 1 0 rfl rfl rfl))
   have bk3_6 : Bk w5 b3 26 #[I p0.rows, I p0.wd, I p0.lo, I p0.hi, .slice none (([] : List Tly).length) 0] := sb5.bk
   have hS0_0_6 : Sl eTly w5 (ZZ Z w.heap.size [none, some b3, some b2, some b1]) A0_0 c0_0 p0.ts := ((((((hS0_0_0.mv (mv_new nb1.gr (Nat.le_of_eq nb1.b_eq.symm))).mv (mv_new nb2.gr (Nat.le_of_eq nb2.b_eq.symm))).mv (mv_new nb3.gr (Nat.le_of_eq nb3.b_eq.symm))).mv (hp3.mv0 sb4.gr 0 rfl)).mv (hp4.mv0 sb5.gr 0 rfl)).mv mv_nil)
   exact ⟨(0 : Int), ([] : List Tly), none, 0, hL6, (puts_size _ _).trans st.sz, (puts_defers _ _).trans st.df, (sl_puts st 1).trans hp_1, (sl_puts st 2).trans rfl, (sl_puts st 4).trans rfl, (sl_puts st 5).trans rfl, (sl_puts st 6).trans rfl, hp6, hR7, bk1_6, bk2_6, bk3_6, hS0_0_6⟩
  case rd6 =>
   rintro (_ | m_) fr6 w6r ⟨s6_6, s6_b34, As6_b34, Cs6_b34, hL6, hsz6, hdf6, hs6_1, hs6_2, hs6_4, hs6_5, hs6_6, hp7, f6_Hs6_b34, f6_bk1, f6_bk2, f6_bk3, f6_hS0_0⟩
   ·exact absurd (show none = some _ from hL6) (by simp)
   rw [G_some__L6.eq_2] at hL6
   have hG := hL6; clear hL6
   refine round_cc (N := 33) hsz6 hdf6 <| cc_seq <| cc_seq <| cc_region <| wm rfl (v := I s6_6) hs6_6 <| wd rfl (fun st => x_fieldAddr (ee st hs6_2) (fz_26_3 _ _)) <| wd rfl (fun st => x_load1 (v := .slice A0_0 p0.ts.length c0_0) one_24 (ee st rfl) f6_bk1 rfl) <| wd rfl (fun st => x_len Try.underlying24 (ee st rfl)) <| wd rfl (fun st => x_lss (ee st rfl) (ee st rfl)) <| wl_end <| lv_next ?_
   rcases bool_cases (decide (s6_6 < (p0.ts.length : Int))) with hc8 | hc8
   ·replace hG := cond_t hG hc8
    refine cc_cond_t rfl hc8 <| cc_skip <| lv_next <| cc_seq <| cc_block <| cc_seq <| cc_region <| wm rfl (v := I p1) hs6_1 <| wm rfl (v := I s6_6) hs6_6 ?_
    replace hG := cvO_bind hG; obtain ⟨hf9, hG⟩ := hG
    refine wd rfl (fun st => x_conv (k := .u64) sm_3 Try.underlying63 (ee st rfl) hf9) ?_
    replace hG := shrO_bind hG; obtain ⟨hf10, hG⟩ := hG
    refine wd rfl (fun st => x_shr (ee st rfl) (ee st rfl) hf10) ?_
    replace hG := rem_bind hG; obtain ⟨hf11, hG⟩ := hG
    refine wd rfl (fun st => x_rem (ee st rfl) (ee st rfl) hf11.1 hf11.2) <| wd rfl (fun st => x_eql (ee st rfl) (ee st rfl)) <| wl_end <| lv_next ?_
    rcases bool_cases (((shrI p1 s6_6) % 2) == 1) with hc12 | hc12
    ·replace hG := cond_t hG hc12
     refine cc_cond_t rfl hc12 ?_
     replace hG := idx_bind hG; obtain ⟨i14, x14, hi14, hx14, hl14, hG⟩ := hG
     obtain ⟨b14, o14, _, hA14, rfl, hz14⟩ := Sl.elem f6_hS0_0 (by decide) hx14
     replace hG := ifo_bind hG; obtain ⟨hf15, hG⟩ := hG
     refine cc_anyM 9 (fun ph _ w_ => T3 w6r (ob As6_b34) ph w_) (fun _ => []) [8] [Kc (pt b3 4), Kc (.slice As6_b34 s6_b34.length Cs6_b34), Kc (pt b1 4), Kc (.slice A0_0 p0.ts.length c0_0), Kc (I s6_6), Kc (pt b14 (o14 + i14 * 5)), Kc (.agg #[I x14.who, I x14.fr, I x14.to, I x14.lo, I x14.hi]), Kn w6r.heap.size (fun b => .slice (some ⟨b, 0, none⟩) 1 1) 68 #[I x14.who, I x14.fr, I x14.to, I x14.lo, I x14.hi], ⟨fun v_ w_ => ∃ A_ c_, v_ = .slice A_ (s6_b34 ++ [x14]).length c_ ∧ w6r.grownBy w_ (ob As6_b34) ∧ (∀ k, ob A_ = some k → (ob As6_b34 = some k ∨ w6r.heap.size ≤ k) ∧ k < w_.heap.size) ∧ OwnR eTly 68 w w_ (ZZ Z w.heap.size [ob A_, some b3, some b2, some b1]) A_ c_ (s6_b34 ++ [x14]), fun _ _ _ ⟨A_, c_, h1, h2, h3, h4⟩ g => ⟨A_, c_, h1, h2.trans (g.but _), (fun k hk => ⟨(h3 k hk).1, Nat.lt_of_lt_of_le (h3 k hk).2 g.size⟩), h4.ext g (mv_ext g)⟩⟩] mixedA6 rfl rfl (okD_nil _ _) (fun _ _ _ _ _ h g _ => T3_ext h g) (fun _ => ext_drew _)
         (obsN_cons (od rfl (fun _ => rfl) (fun K => x_fieldAddr (es (t := 5) (v := pt b3 0) ((K.out 5 rfl).trans hs6_5)) (fz_26_3 _ _)))
         (obsN_cons (od rfl (fun _ => rfl) (fun K => x_load1 (v := .slice As6_b34 s6_b34.length Cs6_b34) one_24 (es (t := 22) (v := pt b3 4) (K.dep 0 22 rfl rfl)) (f6_bk3.gr (T3_gr K.phT) (hp7.ne 1 0 rfl rfl rfl)) rfl))
         (obsN_cons (od rfl (fun _ => rfl) (fun K => x_fieldAddr (es (t := 2) (v := pt b1 0) ((K.out 2 rfl).trans hs6_2)) (fz_26_3 _ _)))
         (obsN_cons (od rfl (fun _ => rfl) (fun K => x_load1 (v := .slice A0_0 p0.ts.length c0_0) one_24 (es (t := 24) (v := pt b1 4) (K.dep 2 24 rfl rfl)) (f6_bk1.gr (T3_gr K.phT) (hp7.ne 3 0 rfl rfl rfl)) rfl))
         (obsN_cons (od rfl (fun _ => rfl) (fun K => x_move (v := I s6_6) (es (t := 6) (v := I s6_6) ((K.out 6 rfl).trans hs6_6))))
         (obsN_cons (od rfl (fun _ => rfl) (fun K => x_indexAddrN (k := i14) Try.underlying24 sz_68 (es (t := 25) (v := .slice A0_0 p0.ts.length c0_0) (K.dep 3 25 rfl rfl)) hA14 (es (t := 26) (v := I s6_6) (K.dep 4 26 rfl rfl)) hi14 hl14))
         (obsN_cons (od rfl (fun _ => rfl) (fun K => x_load_zn0 (l := [I x14.who, I x14.fr, I x14.to, I x14.lo, I x14.hi]) agg_68 (es (t := 27) (v := pt b14 (o14 + i14 * 5)) (K.dep 5 27 rfl rfl)) (hz14.mv (hp7.mv0 (T3_gr K.phT) 0 rfl)) rfl rfl))
         (obsN_cons (ob_ext rfl rfl (fun a' w' ph K => (x_buildSlice (e := 68) (vs := #[(0, .agg #[I x14.who, I x14.fr, I x14.to, I x14.lo, I x14.hi])]) (cs := #[I x14.who, I x14.fr, I x14.to, I x14.lo, I x14.hi]) (pm1 (es (t := 28) (v := .agg #[I x14.who, I x14.fr, I x14.to, I x14.lo, I x14.hi]) (K.dep 6 28 rfl rfl))) (by kernel_rfl)).mono (fun u w'' hh => kn_mk (T3_gr K.phT).size hh)))
         (obsN_cons (ob_spec rfl rfl (fun a' w' ph K => match K.dep 7 29 rfl rfl with | ⟨bb13_7, e13_7, l13_7, k13_7⟩ => (x_appR (ys := [x14]) Try.underlying24 info_68 rfl rfl (by decide) (es (t := 23) (v := .slice As6_b34 s6_b34.length Cs6_b34) (K.dep 1 23 rfl rfl)) rfl (es (t := 29) (v := .slice (some ⟨bb13_7, 0, none⟩) 1 1) e13_7) (f6_Hs6_b34.ext (T3_zero K.phT (K.spi 0 rfl)) (mv_ext (T3_zero K.phT (K.spi 0 rfl)))) (news_bk (css := [[I x14.who, I x14.fr, I x14.to, I x14.lo, I x14.hi]]) k13_7 ⟨rfl, trivial⟩ rfl) (by have := hf15; simp only [maxLen]; omega) (by have := hf15; omega) (Nat.le_trans hp7.bl.size (T3_zero K.phT (K.spi 0 rfl)).size) (by simp)).mono (fun v w'' ⟨A_, c_, hv, hg, hy, hO⟩ => ⟨⟨A_, c_, hv, T3_all (T3_zero K.phT (K.spi 0 rfl)) hg, T3_y (T3_zero K.phT (K.spi 0 rfl)) hy, ownR_of (hO) ((hp7.ext (T3_zero K.phT (K.spi 0 rfl))).mvr hg 0 rfl (fun k hk => (hy k hk).1))⟩, skl_of ⟨fun _ _ _ h => h, fun _ _ _ h => h, fun _ _ _ h => h, fun _ _ _ h => h, fun _ _ _ h => h, fun _ _ _ h => h, fun _ _ _ h => h, fun _ _ _ ⟨b, h1, h2, h3⟩ => ⟨b, h1, h2, h3.gr hg (by rintro e; have := (hp7.lo b (by rw [e]; exact List.mem_of_getElem? (show [ob As6_b34, some b3, some b2, some b1][0]? = some _ from rfl))).2; omega)⟩, fun h => absurd rfl h, trivial⟩, T3_up K.phT (K.spi 0 rfl) hg⟩)))
         (obsN_nil _)))))))))) ?_
     intro w13
     rintro _ rfl _ rfl _ rfl _ rfl _ rfl _ rfl _ rfl _ ⟨bb13_7, rfl, lobb13_7, bkbb13_7⟩ _ ⟨Aa13, ca13, rfl, hga13, hya13, hRa13⟩ hx13
     have hp8 : Hp w [ob Aa13, some b3, some b2, some b1] w13 := hp7.row hga13 0 rfl (hp7.ge 0 rfl) hya13
     refine wd rfl (fun st => x_fieldAddr (ee st hs6_5) (fz_26_3 _ _)) ?_
     have bk3_8 : Bk w13 b3 26 #[I p0.rows, I p0.wd, I p0.lo, I p0.hi, .slice As6_b34 s6_b34.length Cs6_b34] := (f6_bk3.gr hga13 (hp7.ne 1 0 rfl rfl rfl))
     refine wl_ex0 rfl rfl (fun st => x_store (n := 1) (l := [.slice Aa13 ((s6_b34 ++ [x14]).length) ca13]) (cs' := #[I p0.rows, I p0.wd, I p0.lo, I p0.hi, .slice Aa13 ((s6_b34 ++ [x14]).length) ca13]) (ee st rfl) (ee st rfl) sz_24 bk3_8 rfl rfl (show 4 + 1 ≤ 5 by decide) (one_cells rfl) rfl) ?_
     rintro _ w16 sb16
     have hp9 : Hp w [ob Aa13, some b3, some b2, some b1] w16 := hp8.gr sb16.gr (hp8.ge 1 rfl)
     refine wl_end <| lv_block <| lv_next <| cc_region <| wm rfl (v := I s6_6) hs6_6 ?_
     replace hG := i64_bind hG; obtain ⟨hf17, hG⟩ := hG
     refine wd rfl (fun st => x_add (ee st rfl) (ee st rfl) hf17) <| wa rfl (v := I (s6_6 + 1)) rfl <| wl_end ?_
     have hRa13_9 : OwnR eTly 68 w w16 (ZZ Z w.heap.size [ob Aa13, some b3, some b2, some b1]) Aa13 ca13 (s6_b34 ++ [x14]) := (hRa13.gr sb16.gr (fun k hk => hp8.ne 0 1 rfl (congrArg some hk) rfl) (hp8.mv0 sb16.gr 1 rfl))
     have bk1_9 : Bk w16 b1 26 #[I p0.rows, I p0.wd, I p0.lo, I p0.hi, .slice A0_0 p0.ts.length c0_0] := ((f6_bk1.gr hga13 (hp7.ne 3 0 rfl rfl rfl)).gr sb16.gr (hp8.ne 3 1 rfl rfl rfl))
     have bk2_9 : Bk w16 b2 26 #[I 0, I 0, I 0, I 0, .slice none 0 0] := ((f6_bk2.gr hga13 (hp7.ne 2 0 rfl rfl rfl)).gr sb16.gr (hp8.ne 2 1 rfl rfl rfl))
     have hS0_0_9 : Sl eTly w16 (ZZ Z w.heap.size [ob Aa13, some b3, some b2, some b1]) A0_0 c0_0 p0.ts := ((f6_hS0_0.mv (hp7.mvr hga13 0 rfl (fun k hk => (hya13 k hk).1))).mv (hp8.mv0 sb16.gr 1 rfl))
     refine lv_round m_ (Nat.lt_succ_self _) (fun st => ?_)
     exact ⟨(s6_6 + 1), (s6_b34 ++ [x14]), Aa13, ca13, hG, (puts_size _ _).trans st.sz, (puts_defers _ _).trans st.df, (sl_puts st 1).trans hs6_1, (sl_puts st 2).trans hs6_2, (sl_puts st 4).trans hs6_4, (sl_puts st 5).trans hs6_5, (sl_puts st 6).trans rfl, hp9, hRa13_9, bk1_9, bk2_9, sb16.bk, hS0_0_9⟩
    ·replace hG := cond_f hG hc12
     refine cc_cond_f rfl hc12 <| cc_skip <| lv_block <| lv_next <| cc_region <| wm rfl (v := I s6_6) hs6_6 ?_
     replace hG := i64_bind hG; obtain ⟨hf18, hG⟩ := hG
     refine wd rfl (fun st => x_add (ee st rfl) (ee st rfl) hf18) <| wa rfl (v := I (s6_6 + 1)) rfl <| wl_end ?_
     refine lv_round m_ (Nat.lt_succ_self _) (fun st => ?_)
     exact ⟨(s6_6 + 1), s6_b34, As6_b34, Cs6_b34, hG, (puts_size _ _).trans st.sz, (puts_defers _ _).trans st.df, (sl_puts st 1).trans hs6_1, (sl_puts st 2).trans hs6_2, (sl_puts st 4).trans hs6_4, (sl_puts st 5).trans hs6_5, (sl_puts st 6).trans rfl, hp7, f6_Hs6_b34, f6_bk1, f6_bk2, f6_bk3, f6_hS0_0⟩
   ·replace hG := cond_f hG hc8
    refine cc_cond_f rfl hc8 <| cc_exit <| lv_then_exit <| lv_then_exit ?_
    obtain rfl := Option.some.inj hG
    refine lv_to (fun st => ?_)
    exact ⟨rfl, As6_b34, Cs6_b34, (puts_size _ _).trans st.sz, (puts_defers _ _).trans st.df, (sl_puts st 4).trans hs6_4, (sl_puts st 5).trans hs6_5, hp7, f6_Hs6_b34, f6_bk2, f6_bk3⟩
 case af6 =>
  rintro e_ fr6a w6a (⟨rfl, Ae6_0_b34, Ce6_0_b34, hsz6a, hdf6a, hs6a_4, hs6a_5, hp6a, g6_He6_0_b34, g6_bk2, g6_bk3⟩)
  refine lv_fr (X := X0) (N := 33) hsz6a hdf6a <| lv_block_hit <| lv_next <| cc_seq <| cc_region <| wd rfl (fun st => x_loadn (l := [I p0.rows, I p0.wd, I p0.lo, I p0.hi, .slice Ae6_0_b34 z6.length Ce6_0_b34]) agg_26 (ee st hs6a_5) g6_bk3 rfl rfl) <| wl_ex0 rfl rfl (fun st => x_store (n := 5) (l := [I p0.rows, I p0.wd, I p0.lo, I p0.hi, .slice Ae6_0_b34 z6.length Ce6_0_b34]) (cs' := #[I p0.rows, I p0.wd, I p0.lo, I p0.hi, .slice Ae6_0_b34 z6.length Ce6_0_b34]) (ee st hs6a_4) (ee st rfl) sz_26 g6_bk2 rfl rfl (show 0 + 5 ≤ 5 by decide) (one_cells rfl) rfl) ?_
  rintro _ w19 sb19
  have hp11 : Hp w [ob Ae6_0_b34, some b3, some b2, some b1] w19 := hp6a.gr sb19.gr (hp6a.ge 2 rfl)
  refine wl_end <| lv_next <| cc_ret ?_
  obtain rfl := Option.some.inj hG
  refine lv_retc (v := .agg #[I p0.rows, I p0.wd, I p0.lo, I p0.hi, .slice Ae6_0_b34 z6.length Ce6_0_b34]) rfl hs6a_4 (run_loadn_bk agg_26 sb19.bk rfl rfl) ?_
  have He6_0_b34_11 : OwnR eTly 68 w w19 (ZZ Z w.heap.size [ob Ae6_0_b34, some b3, some b2, some b1]) Ae6_0_b34 Ce6_0_b34 z6 := (g6_He6_0_b34.gr sb19.gr (fun k hk => hp6a.ne 0 2 rfl (congrArg some hk) rfl) (hp6a.mv0 sb19.gr 2 rfl))
  exact ⟨hp11.fin, ⟨_, rfl, _, _, rfl, He6_0_b34_11.fin⟩⟩
theorem a23 (K_ : Nat) (p0 : Fld) (A0_0 : Option Addr) (c0_0 : Nat) (Z : Nat → Prop) (w : World) (hS0_0 : Sl eTly w Z A0_0 c0_0 p0.ts) (r_ : Fld) (hG : G_Field K_ p0 = some r_) :
    Ret Try.prog 23 #[.agg #[I p0.rows, I p0.wd, I p0.lo, I p0.hi, .slice A0_0 p0.ts.length c0_0]] w (fun v w' => Ext w w' ∧ (vAgg eFld).R w' (ZZ Z w.heap.size []) v r_) := by
 unfold G_Field at hG
 refine ret_of_cc (N := 42) Try.func23 rfl rfl (by simp) ?_
 intro fr0 ha hdf
 have hp_0 := sl_arg (i := 0) (v := .agg #[I p0.rows, I p0.wd, I p0.lo, I p0.hi, .slice A0_0 p0.ts.length c0_0]) ha rfl
 clear ha
 have hp0 := Hp.refl w
 have hS0_0_0 := hS0_0.mv (mv_start w)
 refine cc_seq <| cc_region <| we rfl (fun st => x_box (v := .agg #[I p0.rows, I p0.wd, I p0.lo, I p0.hi, .slice A0_0 p0.ts.length c0_0]) (cs := #[I p0.rows, I p0.wd, I p0.lo, I p0.hi, .slice A0_0 p0.ts.length c0_0]) (ee st hp_0) rfl) ?_
 rintro _ w1 ⟨b1, rfl, nb1⟩
 have hp1 : Hp w [some b1] w1 := hp0.new nb1.gr (Nat.le_of_eq nb1.b_eq.symm) (Nat.lt_of_lt_of_eq (Nat.lt_succ_self _) nb1.sz.symm)
 refine we rfl (fun st => x_alloc (cs := #[I 0, I 0, I 0, I 0, .slice none 0 0]) zero_36 rfl) ?_
 rintro _ w2 ⟨b2, rfl, nb2⟩
 have hp2 : Hp w [some b2, some b1] w2 := hp1.new nb2.gr (Nat.le_of_eq nb2.b_eq.symm) (Nat.lt_of_lt_of_eq (Nat.lt_succ_self _) nb2.sz.symm)
 refine wl_end <| lv_next <| cc_seq ?_
 have bk1_2 : Bk w2 b1 26 #[I p0.rows, I p0.wd, I p0.lo, I p0.hi, .slice A0_0 p0.ts.length c0_0] := (nb1.bk.ext nb2.gr)
 replace hG := bind_some hG; obtain ⟨r4, hr4, hG⟩ := hG
 refine cc_anyM0 9 [Kc (pt b1 0), Kc (I p0.rows), Kc (pt b1 1), Kc (I p0.wd), Kc (pt b1 2), Kc (.agg #[I p0.lo, I p0.hi]), Kc (.agg #[I r4.1, I r4.2]), Kc (.agg #[I p0.rows, I p0.wd, I r4.1, I r4.2, .slice none 0 0]), Kn w2.heap.size (fun b => .pointer (some ⟨b, 0, none⟩)) 36 #[I 0, I 0, I 0, I 0, .slice none 0 0]] mixedA6 rfl rfl
     (obsN_cons (od rfl (fun _ => rfl) (fun K => x_fieldAddr (es (t := 1) (v := pt b1 0) ((K.out 1 rfl).trans rfl)) (fz_26_0 _ _)))
     (obsN_cons (od rfl (fun _ => rfl) (fun K => x_load1 (v := I p0.rows) one_3 (es (t := 6) (v := pt b1 0) (K.dep 0 6 rfl rfl)) (bk1_2.ext K.phT) rfl))
     (obsN_cons (od rfl (fun _ => rfl) (fun K => x_fieldAddr (es (t := 1) (v := pt b1 0) ((K.out 1 rfl).trans rfl)) (fz_26_1 _ _)))
     (obsN_cons (od rfl (fun _ => rfl) (fun K => x_load1 (v := I p0.wd) one_3 (es (t := 8) (v := pt b1 1) (K.dep 2 8 rfl rfl)) (bk1_2.ext K.phT) rfl))
     (obsN_cons (od rfl (fun _ => rfl) (fun K => x_fieldAddr (es (t := 1) (v := pt b1 0) ((K.out 1 rfl).trans rfl)) (fz_26_2 _ _)))
     (obsN_cons (od rfl (fun _ => rfl) (fun K => x_loadn (l := [I p0.lo, I p0.hi]) agg_23 (es (t := 10) (v := pt b1 2) (K.dep 4 10 rfl rfl)) (bk1_2.ext K.phT) rfl rfl))
     (obsN_cons (ob_ext rfl rfl (fun a' w' ph K => (x_call0 own_25 rfl (am1 (es (t := 11) (v := .agg #[I p0.lo, I p0.hi]) (K.dep 5 11 rfl rfl))) (a25 K_ (⟨p0.lo, p0.hi⟩ : (Int × Int)) ZA _ r4 hr4)).mono (fun _ _ h => ⟨(by obtain ⟨_, rfl, rfl⟩ := h.2; rfl), h.1⟩)))
     (obsN_cons (od rfl (fun _ => rfl) (fun K => x_build (vs := #[(0, I p0.rows), (1, I p0.wd), (2, .agg #[I r4.1, I r4.2])]) (v := .agg #[I p0.rows, I p0.wd, I r4.1, I r4.2, .slice none 0 0]) (pm3 (es (t := 7) (v := I p0.rows) (K.dep 1 7 rfl rfl)) (es (t := 9) (v := I p0.wd) (K.dep 3 9 rfl rfl)) (es (t := 12) (v := .agg #[I r4.1, I r4.2]) (K.dep 6 12 rfl rfl))) (by kernel_rfl)))
     (obsN_cons (ob_ext rfl rfl (fun a' w' ph K => (x_alloc (cs := #[I 0, I 0, I 0, I 0, .slice none 0 0]) zero_36 rfl).mono (fun u w'' hh => kn_mk K.phT.size hh)))
     (obsN_nil _)))))))))) ?_
 intro w3
 rintro _ rfl _ rfl _ rfl _ rfl _ rfl _ rfl _ rfl _ rfl _ ⟨bb3_8, rfl, lobb3_8, bkbb3_8⟩ hx3
 have hp3 : Hp w [some b2, some b1] w3 := hp2.ext hx3
 have hlebb3_8 : w2.heap.size ≤ bb3_8 := lobb3_8
 have hp4 : Hp w [some bb3_8, some b2, some b1] w3 := hp2.new hx3 lobb3_8 bkbb3_8.lt
 refine wl_ex0 rfl rfl (fun st => x_store (n := 5) (l := [I p0.rows, I p0.wd, I r4.1, I r4.2, .slice none 0 0]) (cs' := #[I p0.rows, I p0.wd, I r4.1, I r4.2, .slice none 0 0]) (ee st rfl) (ee st rfl) sz_36 bkbb3_8 rfl rfl (show 0 + 5 ≤ 5 by decide) (one_cells rfl) rfl) ?_
 rintro _ w6 sb6
 have hp5 : Hp w [some bb3_8, some b2, some b1] w6 := hp4.gr sb6.gr (hp4.ge 0 rfl)
 refine wl_end <| lv_next <| cc_seq <| cc_seq <| cc_region <| wa rfl (v := I 0) rfl <| wl_end <| lv_next <| cc_block ?_
 have hp6 : Hp w [none, some bb3_8, some b2, some b1] w6 := hp5.nil
 have hR8 : OwnR eTly 95 w w6 (ZZ Z w.heap.size [none, some bb3_8, some b2, some b1]) none 0 [] := OwnR.nil _ _ _ _ _
 replace hG := bind_some hG; obtain ⟨z7, hL7, hG⟩ := hG
 refine cc_join (fun e_ fr_ w_ => (e_ = .exit 0 ∧ ∃ Ae7_0_bb3_84 Ce7_0_bb3_84, fr_.tmps.size = 42 ∧ fr_.defers = [] ∧ sl fr_ 2 = pt b2 0 ∧ sl fr_ 3 = pt bb3_8 0 ∧ Hp w [ob Ae7_0_bb3_84, some bb3_8, some b2, some b1] w_ ∧ OwnR eTly 95 w w_ (ZZ Z w.heap.size [ob Ae7_0_bb3_84, some bb3_8, some b2, some b1]) Ae7_0_bb3_84 Ce7_0_bb3_84 z7 ∧ Bk w_ b2 36 #[I 0, I 0, I 0, I 0, .slice none 0 0] ∧ Bk w_ bb3_8 36 #[I p0.rows, I p0.wd, I r4.1, I r4.2, .slice Ae7_0_bb3_84 z7.length Ce7_0_bb3_84])) ?lp7 ?af7
 case lp7 =>
  clear hG
  refine cc_loop (fun (m_ : Nat) (fr_ : Act) (w_ : World) => ∃ s7_4, ∃ s7_bb3_84, ∃ As7_bb3_84 Cs7_bb3_84, G_Field_L7 K_ p0 m_ s7_4 s7_bb3_84 = some z7 ∧ fr_.tmps.size = 42 ∧ fr_.defers = [] ∧ sl fr_ 1 = pt b1 0 ∧ sl fr_ 2 = pt b2 0 ∧ sl fr_ 3 = pt bb3_8 0 ∧ sl fr_ 4 = I s7_4 ∧ Hp w [ob As7_bb3_84, some bb3_8, some b2, some b1] w_ ∧ OwnR eTly 95 w w_ (ZZ Z w.heap.size [ob As7_bb3_84, some bb3_8, some b2, some b1]) As7_bb3_84 Cs7_bb3_84 s7_bb3_84 ∧ Bk w_ b1 26 #[I p0.rows, I p0.wd, I p0.lo, I p0.hi, .slice A0_0 p0.ts.length c0_0] ∧ Bk w_ b2 36 #[I 0, I 0, I 0, I 0, .slice none 0 0] ∧ Sl eTly w_ (ZZ Z w.heap.size [ob As7_bb3_84, some bb3_8, some b2, some b1]) A0_0 c0_0 p0.ts ∧ Bk w_ bb3_8 36 #[I p0.rows, I p0.wd, I r4.1, I r4.2, .slice As7_bb3_84 s7_bb3_84.length Cs7_bb3_84]) K_ ?in7 ?rd7
  case in7 =>
   intro st
   have bk1_6 : Bk w6 b1 26 #[I p0.rows, I p0.wd, I p0.lo, I p0.hi, .slice A0_0 p0.ts.length c0_0] := ((bk1_2.ext hx3).gr sb6.gr (hp4.ne 2 0 rfl rfl rfl))
   have bk2_6 : Bk w6 b2 36 #[I 0, I 0, I 0, I 0, .slice none 0 0] := ((nb2.bk.ext hx3).gr sb6.gr (hp4.ne 1 0 rfl rfl rfl))
   have hS0_0_6 : Sl eTly w6 (ZZ Z w.heap.size [none, some bb3_8, some b2, some b1]) A0_0 c0_0 p0.ts := (((((hS0_0_0.mv (mv_new nb1.gr (Nat.le_of_eq nb1.b_eq.symm))).mv (mv_new nb2.gr (Nat.le_of_eq nb2.b_eq.symm))).mv (mv_new hx3 lobb3_8)).mv (hp4.mv0 sb6.gr 0 rfl)).mv mv_nil)
   have kb3_8_6 : Bk w6 bb3_8 36 #[I p0.rows, I p0.wd, I r4.1, I r4.2, .slice none (([] : List Tly).length) 0] := sb6.bk
   exact ⟨(0 : Int), ([] : List Tly), none, 0, hL7, (puts_size _ _).trans st.sz, (puts_defers _ _).trans st.df, (sl_puts st 1).trans rfl, (sl_puts st 2).trans rfl, (sl_puts st 3).trans rfl, (sl_puts st 4).trans rfl, hp6, hR8, bk1_6, bk2_6, hS0_0_6, kb3_8_6⟩
  case rd7 =>
   rintro (_ | m_) fr7 w7r ⟨s7_4, s7_bb3_84, As7_bb3_84, Cs7_bb3_84, hL7, hsz7, hdf7, hs7_1, hs7_2, hs7_3, hs7_4, hp7, f7_Hs7_bb3_84, f7_bk1, f7_bk2, f7_hS0_0, f7_kb3_8⟩
   ·exact absurd (show none = some _ from hL7) (by simp)
   rw [G_Field_L7.eq_2] at hL7
   have hG := hL7; clear hL7
   refine round_cc (N := 42) hsz7 hdf7 <| cc_seq <| cc_seq <| cc_region <| wm rfl (v := I s7_4) hs7_4 <| wd rfl (fun st => x_fieldAddr (ee st hs7_1) (fz_26_3 _ _)) <| wd rfl (fun st => x_load1 (v := .slice A0_0 p0.ts.length c0_0) one_24 (ee st rfl) f7_bk1 rfl) <| wd rfl (fun st => x_len Try.underlying24 (ee st rfl)) <| wd rfl (fun st => x_lss (ee st rfl) (ee st rfl)) <| wl_end <| lv_next ?_
   rcases bool_cases (decide (s7_4 < (p0.ts.length : Int))) with hc9 | hc9
   ·replace hG := cond_t hG hc9
    refine cc_cond_t rfl hc9 <| cc_skip <| lv_next <| cc_seq <| cc_block <| cc_seq <| cc_region <| wd rfl (fun st => x_fieldAddr (ee st hs7_1) (fz_26_3 _ _)) <| wd rfl (fun st => x_load1 (v := .slice A0_0 p0.ts.length c0_0) one_24 (ee st rfl) f7_bk1 rfl) <| wm rfl (v := I s7_4) hs7_4 ?_
    replace hG := idx_bind hG; obtain ⟨i10, x10, hi10, hx10, hl10, hG⟩ := hG
    obtain ⟨b10, o10, _, hA10, rfl, hz10⟩ := Sl.elem f7_hS0_0 (by decide) hx10
    refine wd rfl (fun st => x_indexAddrN (k := i10) Try.underlying24 sz_68 (ee st rfl) hA10 (ee st rfl) hi10 hl10) <| wd rfl (fun st => x_load_zn0 (l := [I x10.who, I x10.fr, I x10.to, I x10.lo, I x10.hi]) agg_68 (ee st rfl) hz10 rfl rfl) <| we rfl (fun st => x_alloc (cs := #[I 0, I 0, I 0, I 0, I 0]) zero_68 rfl) ?_
    rintro _ w11 ⟨b11, rfl, nb11⟩
    have hp8 : Hp w [some b11, ob As7_bb3_84, some bb3_8, some b2, some b1] w11 := hp7.new nb11.gr (Nat.le_of_eq nb11.b_eq.symm) (Nat.lt_of_lt_of_eq (Nat.lt_succ_self _) nb11.sz.symm)
    refine wl_ex0 rfl rfl (fun st => x_store (n := 5) (l := [I x10.who, I x10.fr, I x10.to, I x10.lo, I x10.hi]) (cs' := #[I x10.who, I x10.fr, I x10.to, I x10.lo, I x10.hi]) (ee st rfl) (ee st rfl) sz_68 nb11.bk rfl rfl (show 0 + 5 ≤ 5 by decide) (one_cells rfl) rfl) ?_
    rintro _ w12 sb12
    have hp9 : Hp w [some b11, ob As7_bb3_84, some bb3_8, some b2, some b1] w12 := hp8.gr sb12.gr (hp8.ge 0 rfl)
    refine wl_end <| lv_next ?_
    have kb3_8_9 : Bk w12 bb3_8 36 #[I p0.rows, I p0.wd, I r4.1, I r4.2, .slice As7_bb3_84 s7_bb3_84.length Cs7_bb3_84] := ((f7_kb3_8.ext nb11.gr).gr sb12.gr (hp8.ne 2 0 rfl rfl rfl))
    replace hG := bind_some hG; obtain ⟨r14, hr14, hG⟩ := hG
    have Hs7_bb3_84_9 : OwnR eTly 95 w w12 (ZZ Z w.heap.size [some b11, ob As7_bb3_84, some bb3_8, some b2, some b1]) As7_bb3_84 Cs7_bb3_84 s7_bb3_84 := ((f7_Hs7_bb3_84.ext nb11.gr (mv_new nb11.gr (Nat.le_of_eq nb11.b_eq.symm))).gr sb12.gr (fun k hk => hp8.ne 1 0 rfl (congrArg some hk) rfl) (hp8.mv0 sb12.gr 0 rfl))
    replace hG := ifo_bind hG; obtain ⟨hf16, hG⟩ := hG
    refine cc_anyM 14 (fun ph _ w_ => T3 w12 (ob As7_bb3_84) ph w_) (fun _ => []) [13] [Kc (pt bb3_8 4), Kc (.slice As7_bb3_84 s7_bb3_84.length Cs7_bb3_84), Kc (pt b11 0), Kc (I x10.who), Kc (pt b11 1), Kc (I x10.fr), Kc (pt b11 2), Kc (I x10.to), Kc (pt b11 3), Kc (.agg #[I x10.lo, I x10.hi]), Kc (.agg #[I r14.1, I r14.2]), Kc (.agg #[I x10.who, I x10.fr, I x10.to, I r14.1, I r14.2]), Kn w12.heap.size (fun b => .slice (some ⟨b, 0, none⟩) 1 1) 95 #[I x10.who, I x10.fr, I x10.to, I r14.1, I r14.2], ⟨fun v_ w_ => ∃ A_ c_, v_ = .slice A_ (s7_bb3_84 ++ [(⟨x10.who, x10.fr, x10.to, r14.1, r14.2⟩ : Tly)]).length c_ ∧ w12.grownBy w_ (ob As7_bb3_84) ∧ (∀ k, ob A_ = some k → (ob As7_bb3_84 = some k ∨ w12.heap.size ≤ k) ∧ k < w_.heap.size) ∧ OwnR eTly 95 w w_ (ZZ Z w.heap.size [some b11, ob A_, some bb3_8, some b2, some b1]) A_ c_ (s7_bb3_84 ++ [(⟨x10.who, x10.fr, x10.to, r14.1, r14.2⟩ : Tly)]), fun _ _ _ ⟨A_, c_, h1, h2, h3, h4⟩ g => ⟨A_, c_, h1, h2.trans (g.but _), (fun k hk => ⟨(h3 k hk).1, Nat.lt_of_lt_of_le (h3 k hk).2 g.size⟩), h4.ext g (mv_ext g)⟩⟩] mixedA6 rfl rfl (okD_nil _ _) (fun _ _ _ _ _ h g _ => T3_ext h g) (fun _ => ext_drew _)
        (obsN_cons (od rfl (fun _ => rfl) (fun K => x_fieldAddr (es (t := 3) (v := pt bb3_8 0) ((K.out 3 rfl).trans hs7_3)) (fz_36_3 _ _)))
        (obsN_cons (od rfl (fun _ => rfl) (fun K => x_load1 (v := .slice As7_bb3_84 s7_bb3_84.length Cs7_bb3_84) one_34 (es (t := 26) (v := pt bb3_8 4) (K.dep 0 26 rfl rfl)) (kb3_8_9.gr (T3_gr K.phT) (hp9.ne 2 1 rfl rfl rfl)) rfl))
        (obsN_cons (od rfl (fun _ => rfl) (fun K => x_fieldAddr (es (t := 5) (v := pt b11 0) ((K.out 5 rfl).trans rfl)) (fz_68_0 _ _)))
        (obsN_cons (od rfl (fun _ => rfl) (fun K => x_load1 (v := I x10.who) one_3 (es (t := 28) (v := pt b11 0) (K.dep 2 28 rfl rfl)) (sb12.bk.gr (T3_gr K.phT) (hp9.ne 0 1 rfl rfl rfl)) rfl))
        (obsN_cons (od rfl (fun _ => rfl) (fun K => x_fieldAddr (es (t := 5) (v := pt b11 0) ((K.out 5 rfl).trans rfl)) (fz_68_1 _ _)))
        (obsN_cons (od rfl (fun _ => rfl) (fun K => x_load1 (v := I x10.fr) one_3 (es (t := 30) (v := pt b11 1) (K.dep 4 30 rfl rfl)) (sb12.bk.gr (T3_gr K.phT) (hp9.ne 0 1 rfl rfl rfl)) rfl))
        (obsN_cons (od rfl (fun _ => rfl) (fun K => x_fieldAddr (es (t := 5) (v := pt b11 0) ((K.out 5 rfl).trans rfl)) (fz_68_2 _ _)))
        (obsN_cons (od rfl (fun _ => rfl) (fun K => x_load1 (v := I x10.to) one_3 (es (t := 32) (v := pt b11 2) (K.dep 6 32 rfl rfl)) (sb12.bk.gr (T3_gr K.phT) (hp9.ne 0 1 rfl rfl rfl)) rfl))
        (obsN_cons (od rfl (fun _ => rfl) (fun K => x_fieldAddr (es (t := 5) (v := pt b11 0) ((K.out 5 rfl).trans rfl)) (fz_68_3 _ _)))
        (obsN_cons (od rfl (fun _ => rfl) (fun K => x_loadn (l := [I x10.lo, I x10.hi]) agg_23 (es (t := 34) (v := pt b11 3) (K.dep 8 34 rfl rfl)) (sb12.bk.gr (T3_gr K.phT) (hp9.ne 0 1 rfl rfl rfl)) rfl rfl))
        (obsN_cons (ob_ext rfl rfl (fun a' w' ph K => (x_call0 own_25 rfl (am1 (es (t := 35) (v := .agg #[I x10.lo, I x10.hi]) (K.dep 9 35 rfl rfl))) (a25 K_ (⟨x10.lo, x10.hi⟩ : (Int × Int)) ZA _ r14 hr14)).mono (fun _ _ h => ⟨(by obtain ⟨_, rfl, rfl⟩ := h.2; rfl), h.1⟩)))
        (obsN_cons (od rfl (fun _ => rfl) (fun K => x_build (vs := #[(0, I x10.who), (1, I x10.fr), (2, I x10.to), (3, .agg #[I r14.1, I r14.2])]) (v := .agg #[I x10.who, I x10.fr, I x10.to, I r14.1, I r14.2]) (pm4 (es (t := 29) (v := I x10.who) (K.dep 3 29 rfl rfl)) (es (t := 31) (v := I x10.fr) (K.dep 5 31 rfl rfl)) (es (t := 33) (v := I x10.to) (K.dep 7 33 rfl rfl)) (es (t := 36) (v := .agg #[I r14.1, I r14.2]) (K.dep 10 36 rfl rfl))) (by kernel_rfl)))
        (obsN_cons (ob_ext rfl rfl (fun a' w' ph K => (x_buildSlice (e := 95) (vs := #[(0, .agg #[I x10.who, I x10.fr, I x10.to, I r14.1, I r14.2])]) (cs := #[I x10.who, I x10.fr, I x10.to, I r14.1, I r14.2]) (pm1 (es (t := 37) (v := .agg #[I x10.who, I x10.fr, I x10.to, I r14.1, I r14.2]) (K.dep 11 37 rfl rfl))) (by kernel_rfl)).mono (fun u w'' hh => kn_mk (T3_gr K.phT).size hh)))
        (obsN_cons (ob_spec rfl rfl (fun a' w' ph K => match K.dep 12 38 rfl rfl with | ⟨bb13_12, e13_12, l13_12, k13_12⟩ => (x_appR (ys := [(⟨x10.who, x10.fr, x10.to, r14.1, r14.2⟩ : Tly)]) Try.underlying34 info_95 rfl rfl (by decide) (es (t := 27) (v := .slice As7_bb3_84 s7_bb3_84.length Cs7_bb3_84) (K.dep 1 27 rfl rfl)) rfl (es (t := 38) (v := .slice (some ⟨bb13_12, 0, none⟩) 1 1) e13_12) (Hs7_bb3_84_9.ext (T3_zero K.phT (K.spi 0 rfl)) (mv_ext (T3_zero K.phT (K.spi 0 rfl)))) (news_bk (css := [[I x10.who, I x10.fr, I x10.to, I r14.1, I r14.2]]) k13_12 ⟨rfl, trivial⟩ rfl) (by have := hf16; simp only [maxLen]; omega) (by have := hf16; omega) (Nat.le_trans hp9.bl.size (T3_zero K.phT (K.spi 0 rfl)).size) (by simp)).mono (fun v w'' ⟨A_, c_, hv, hg, hy, hO⟩ => ⟨⟨A_, c_, hv, T3_all (T3_zero K.phT (K.spi 0 rfl)) hg, T3_y (T3_zero K.phT (K.spi 0 rfl)) hy, ownR_of (hO) ((hp9.ext (T3_zero K.phT (K.spi 0 rfl))).mvr hg 1 rfl (fun k hk => (hy k hk).1))⟩, skl_of ⟨fun _ _ _ h => h, fun _ _ _ h => h, fun _ _ _ h => h, fun _ _ _ h => h, fun _ _ _ h => h, fun _ _ _ h => h, fun _ _ _ h => h, fun _ _ _ h => h, fun _ _ _ h => h, fun _ _ _ h => h, fun _ _ _ h => h, fun _ _ _ h => h, fun _ _ _ ⟨b, h1, h2, h3⟩ => ⟨b, h1, h2, h3.gr hg (by rintro e; have := (hp9.lo b (by rw [e]; exact List.mem_of_getElem? (show [some b11, ob As7_bb3_84, some bb3_8, some b2, some b1][1]? = some _ from rfl))).2; omega)⟩, fun h => absurd rfl h, trivial⟩, T3_up K.phT (K.spi 0 rfl) hg⟩)))
        (obsN_nil _))))))))))))))) ?_
    intro w13
    rintro _ rfl _ rfl _ rfl _ rfl _ rfl _ rfl _ rfl _ rfl _ rfl _ rfl _ rfl _ rfl _ ⟨bb13_12, rfl, lobb13_12, bkbb13_12⟩ _ ⟨Aa13, ca13, rfl, hga13, hya13, hRa13⟩ hx13
    have hp10 : Hp w [some b11, ob Aa13, some bb3_8, some b2, some b1] w13 := hp9.row hga13 1 rfl (hp9.ge 1 rfl) hya13
    refine wd rfl (fun st => x_fieldAddr (ee st hs7_3) (fz_36_3 _ _)) ?_
    have kb3_8_10 : Bk w13 bb3_8 36 #[I p0.rows, I p0.wd, I r4.1, I r4.2, .slice As7_bb3_84 s7_bb3_84.length Cs7_bb3_84] := (kb3_8_9.gr hga13 (hp9.ne 2 1 rfl rfl rfl))
    refine wl_ex0 rfl rfl (fun st => x_store (n := 1) (l := [.slice Aa13 ((s7_bb3_84 ++ [(⟨x10.who, x10.fr, x10.to, r14.1, r14.2⟩ : Tly)]).length) ca13]) (cs' := #[I p0.rows, I p0.wd, I r4.1, I r4.2, .slice Aa13 ((s7_bb3_84 ++ [(⟨x10.who, x10.fr, x10.to, r14.1, r14.2⟩ : Tly)]).length) ca13]) (ee st rfl) (ee st rfl) sz_34 kb3_8_10 rfl rfl (show 4 + 1 ≤ 5 by decide) (one_cells rfl) rfl) ?_
    rintro _ w17 sb17
    have hp11 : Hp w [some b11, ob Aa13, some bb3_8, some b2, some b1] w17 := hp10.gr sb17.gr (hp10.ge 2 rfl)
    refine wl_end <| lv_block <| lv_next <| cc_region <| wm rfl (v := I s7_4) hs7_4 ?_
    replace hG := i64_bind hG; obtain ⟨hf18, hG⟩ := hG
    refine wd rfl (fun st => x_add (ee st rfl) (ee st rfl) hf18) <| wa rfl (v := I (s7_4 + 1)) rfl <| wl_end ?_
    have hp12 : Hp w [ob Aa13, some bb3_8, some b2, some b1] w17 := hp11.erase 0
    have hRa13_12 : OwnR eTly 95 w w17 (ZZ Z w.heap.size [ob Aa13, some bb3_8, some b2, some b1]) Aa13 ca13 (s7_bb3_84 ++ [(⟨x10.who, x10.fr, x10.to, r14.1, r14.2⟩ : Tly)]) := ((hRa13.gr sb17.gr (fun k hk => hp10.ne 1 2 rfl (congrArg some hk) rfl) (hp10.mv0 sb17.gr 2 rfl)).up (mv_erase 0))
    have bk1_12 : Bk w17 b1 26 #[I p0.rows, I p0.wd, I p0.lo, I p0.hi, .slice A0_0 p0.ts.length c0_0] := ((((f7_bk1.ext nb11.gr).gr sb12.gr (hp8.ne 4 0 rfl rfl rfl)).gr hga13 (hp9.ne 4 1 rfl rfl rfl)).gr sb17.gr (hp10.ne 4 2 rfl rfl rfl))
    have bk2_12 : Bk w17 b2 36 #[I 0, I 0, I 0, I 0, .slice none 0 0] := ((((f7_bk2.ext nb11.gr).gr sb12.gr (hp8.ne 3 0 rfl rfl rfl)).gr hga13 (hp9.ne 3 1 rfl rfl rfl)).gr sb17.gr (hp10.ne 3 2 rfl rfl rfl))
    have hS0_0_12 : Sl eTly w17 (ZZ Z w.heap.size [ob Aa13, some bb3_8, some b2, some b1]) A0_0 c0_0 p0.ts := (((((f7_hS0_0.mv (mv_new nb11.gr (Nat.le_of_eq nb11.b_eq.symm))).mv (hp8.mv0 sb12.gr 0 rfl)).mv (hp9.mvr hga13 1 rfl (fun k hk => (hya13 k hk).1))).mv (hp10.mv0 sb17.gr 2 rfl)).mv (mv_erase 0))
    have kb3_8_12 : Bk w17 bb3_8 36 #[I p0.rows, I p0.wd, I r4.1, I r4.2, .slice Aa13 ((s7_bb3_84 ++ [(⟨x10.who, x10.fr, x10.to, r14.1, r14.2⟩ : Tly)]).length) ca13] := sb17.bk
    refine lv_round m_ (Nat.lt_succ_self _) (fun st => ?_)
    exact ⟨(s7_4 + 1), (s7_bb3_84 ++ [(⟨x10.who, x10.fr, x10.to, r14.1, r14.2⟩ : Tly)]), Aa13, ca13, hG, (puts_size _ _).trans st.sz, (puts_defers _ _).trans st.df, (sl_puts st 1).trans hs7_1, (sl_puts st 2).trans hs7_2, (sl_puts st 3).trans hs7_3, (sl_puts st 4).trans rfl, hp12, hRa13_12, bk1_12, bk2_12, hS0_0_12, kb3_8_12⟩
   ·replace hG := cond_f hG hc9
    refine cc_cond_f rfl hc9 <| cc_exit <| lv_then_exit <| lv_then_exit ?_
    obtain rfl := Option.some.inj hG
    refine lv_to (fun st => ?_)
    exact ⟨rfl, As7_bb3_84, Cs7_bb3_84, (puts_size _ _).trans st.sz, (puts_defers _ _).trans st.df, (sl_puts st 2).trans hs7_2, (sl_puts st 3).trans hs7_3, hp7, f7_Hs7_bb3_84, f7_bk2, f7_kb3_8⟩
 case af7 =>
  rintro e_ fr7a w7a (⟨rfl, Ae7_0_bb3_84, Ce7_0_bb3_84, hsz7a, hdf7a, hs7a_2, hs7a_3, hp7a, g7_He7_0_bb3_84, g7_bk2, g7_kb3_8⟩)
  refine lv_fr (X := X0) (N := 42) hsz7a hdf7a <| lv_block_hit <| lv_next <| cc_seq <| cc_region <| wd rfl (fun st => x_loadn (l := [I p0.rows, I p0.wd, I r4.1, I r4.2, .slice Ae7_0_bb3_84 z7.length Ce7_0_bb3_84]) agg_36 (ee st hs7a_3) g7_kb3_8 rfl rfl) <| wl_ex0 rfl rfl (fun st => x_store (n := 5) (l := [I p0.rows, I p0.wd, I r4.1, I r4.2, .slice Ae7_0_bb3_84 z7.length Ce7_0_bb3_84]) (cs' := #[I p0.rows, I p0.wd, I r4.1, I r4.2, .slice Ae7_0_bb3_84 z7.length Ce7_0_bb3_84]) (ee st hs7a_2) (ee st rfl) sz_36 g7_bk2 rfl rfl (show 0 + 5 ≤ 5 by decide) (one_cells rfl) rfl) ?_
  rintro _ w19 sb19
  have hp14 : Hp w [ob Ae7_0_bb3_84, some bb3_8, some b2, some b1] w19 := hp7a.gr sb19.gr (hp7a.ge 2 rfl)
  refine wl_end <| lv_next <| cc_ret ?_
  obtain rfl := Option.some.inj hG
  refine lv_retc (v := .agg #[I p0.rows, I p0.wd, I r4.1, I r4.2, .slice Ae7_0_bb3_84 z7.length Ce7_0_bb3_84]) rfl hs7a_2 (run_loadn_bk agg_36 sb19.bk rfl rfl) ?_
  have He7_0_bb3_84_14 : OwnR eTly 95 w w19 (ZZ Z w.heap.size [ob Ae7_0_bb3_84, some bb3_8, some b2, some b1]) Ae7_0_bb3_84 Ce7_0_bb3_84 z7 := (g7_He7_0_bb3_84.gr sb19.gr (fun k hk => hp7a.ne 0 2 rfl (congrArg some hk) rfl) (hp7a.mv0 sb19.gr 2 rfl))
  exact ⟨hp14.fin, ⟨_, rfl, _, _, rfl, He7_0_bb3_84_14.fin⟩⟩
end Go.Proofs.Ythogdgkafaclaaa
end
section
set_option linter.unusedVariables false
set_option linter.unusedSimpArgs false
namespace Go.Proofs.Ythogdgkafaclaaa
open Go.RowKit
open AF
attribute [local irreducible] Ex1 WL CC CW LV Ret ObOp Agg One Own
theorem a61 (K_ : Nat) (p0 : List Tly) (A0_0 : Option Addr) (c0_0 : Nat) (Z : Nat → Prop) (w : World) (hS0_0 : Sl eTly w Z A0_0 c0_0 p0) (r_ : Fld) (hG : G_four K_ p0 = some r_) :
    Ret Try.prog 61 #[.slice A0_0 p0.length c0_0] w (fun v w' => Ext w w' ∧ (vAgg eFld).R w' (ZZ Z w.heap.size []) v r_) := by
 unfold G_four at hG
 refine ret_of_cc (N := 11) Try.func61 rfl rfl (by simp) ?_
 intro fr0 ha hdf
 have hp_0 := sl_arg (i := 0) (v := .slice A0_0 p0.length c0_0) ha rfl
 clear ha
 have hp0 := Hp.refl w
 have hS0_0_0 := hS0_0.mv (mv_start w)
 refine cc_seq <| cc_region <| we rfl (fun st => x_alloc (cs := #[I 0, I 0, I 0, I 0, .slice none 0 0]) zero_36 rfl) ?_
 rintro _ w1 ⟨b1, rfl, nb1⟩
 have hp1 : Hp w [some b1] w1 := hp0.new nb1.gr (Nat.le_of_eq nb1.b_eq.symm) (Nat.lt_of_lt_of_eq (Nat.lt_succ_self _) nb1.sz.symm)
 refine wl_end <| lv_next <| cc_seq <| cc_region ?_
 replace hG := bind_some hG; obtain ⟨r2, hr2, hG⟩ := hG
 refine we rfl (fun st => x_call0 own_50 (ee st rfl) (am2 (ee st rfl) (ee st rfl)) (a50 K_ 2 3 ZA _ r2 hr2)) ?_
 rintro _ w3 ⟨hx2, ⟨_, rfl, rfl⟩⟩
 have hp2 : Hp w [some b1] w3 := hp1.ext hx2
 refine wd rfl (fun st => x_build (vs := #[(0, I 0), (1, I 0), (2, I 2), (3, .agg #[I r2.1, I r2.2])]) (v := .agg #[I 0, I 0, I 2, I r2.1, I r2.2]) (pm4 (ee st rfl) (ee st rfl) (ee st rfl) (ee st rfl)) (by kernel_rfl)) ?_
 replace hG := bind_some hG; obtain ⟨r5, hr5, hG⟩ := hG
 refine we rfl (fun st => x_call0 own_50 (ee st rfl) (am2 (ee st rfl) (ee st rfl)) (a50 K_ 1 2 ZA _ r5 hr5)) ?_
 rintro _ w6 ⟨hx5, ⟨_, rfl, rfl⟩⟩
 have hp3 : Hp w [some b1] w6 := hp2.ext hx5
 refine wd rfl (fun st => x_build (vs := #[(0, I 1), (1, I 2), (2, I 3), (3, .agg #[I r5.1, I r5.2])]) (v := .agg #[I 1, I 2, I 3, I r5.1, I r5.2]) (pm4 (ee st rfl) (ee st rfl) (ee st rfl) (ee st rfl)) (by kernel_rfl)) <| we rfl (fun st => x_buildSlice (e := 95) (vs := #[(0, .agg #[I 0, I 0, I 2, I r2.1, I r2.2]), (1, .agg #[I 1, I 2, I 3, I r5.1, I r5.2])]) (cs := #[I 0, I 0, I 2, I r2.1, I r2.2, I 1, I 2, I 3, I r5.1, I r5.2]) (pm2 (ee st rfl) (ee st rfl)) (by kernel_rfl)) ?_
 rintro _ w8 ⟨b8, rfl, nb8⟩
 have hp4 : Hp w [some b8, some b1] w8 := hp3.new nb8.gr (Nat.le_of_eq nb8.b_eq.symm) (Nat.lt_of_lt_of_eq (Nat.lt_succ_self _) nb8.sz.symm)
 refine wm rfl (v := .slice A0_0 p0.length c0_0) hp_0 ?_
 have hR9 : OwnR eTly 95 w w8 (ZZ Z w.heap.size [some b8, some b1]) (some ⟨b8, 0, none⟩) 2 [(⟨0, 0, 2, r2.1, r2.2⟩ : Tly), (⟨1, 2, 3, r5.1, r5.2⟩ : Tly)] := row_bk (css := [[I 0, I 0, I 2, I r2.1, I r2.2], [I 1, I 2, I 3, I r5.1, I r5.2]]) nb8.bk (hp4.ge 0 rfl _ rfl) ⟨rfl, rfl, trivial⟩ rfl (by simp [maxLen])
 replace hG := ifo_bind hG; obtain ⟨hf10, hG⟩ := hG
 have hS0_0_4 : Sl eTly w8 (ZZ Z w.heap.size [some b8, some b1]) A0_0 c0_0 p0 := ((((hS0_0_0.mv (mv_new nb1.gr (Nat.le_of_eq nb1.b_eq.symm))).mv (mv_ext hx2)).mv (mv_ext hx5)).mv (mv_new nb8.gr (Nat.le_of_eq nb8.b_eq.symm)))
 refine we rfl (fun st => x_appS (ys := p0) Try.underlying34 info_95 rfl rfl (by decide) (ee st rfl) rfl (ee st rfl) hR9 hS0_0_4 (by have := hf10; simp only [maxLen]; omega) (by have := hf10; omega) hp4.bl.size) ?_
 rintro _ w11 ⟨A11, c11, rfl, hg11, hy11, hO11⟩
 have hp5 : Hp w [ob A11, some b1] w11 := hp4.row hg11 0 rfl (hp4.ge 0 rfl) hy11
 have hR11 : OwnR eTly 95 w w11 (ZZ Z w.heap.size [ob A11, some b1]) A11 c11 ([(⟨0, 0, 2, r2.1, r2.2⟩ : Tly), (⟨1, 2, 3, r5.1, r5.2⟩ : Tly)] ++ p0) := ownR_of hO11 (hp4.mvr hg11 0 rfl (fun k hk => (hy11 k hk).1))
 refine wd rfl (fun st => x_build (vs := #[(0, I 4), (1, I 2), (3, .slice A11 (([(⟨0, 0, 2, r2.1, r2.2⟩ : Tly), (⟨1, 2, 3, r5.1, r5.2⟩ : Tly)] ++ p0).length) c11)]) (v := .agg #[I 4, I 2, I 0, I 0, .slice A11 (([(⟨0, 0, 2, r2.1, r2.2⟩ : Tly), (⟨1, 2, 3, r5.1, r5.2⟩ : Tly)] ++ p0).length) c11]) (pm3 (ee st rfl) (ee st rfl) (ee st rfl)) (by kernel_rfl)) ?_
 have bk1_5 : Bk w11 b1 36 #[I 0, I 0, I 0, I 0, .slice none 0 0] := ((((nb1.bk.ext hx2).ext hx5).ext nb8.gr).gr hg11 (hp4.ne 1 0 rfl rfl rfl))
 refine wl_ex0 rfl rfl (fun st => x_store (n := 5) (l := [I 4, I 2, I 0, I 0, .slice A11 (([(⟨0, 0, 2, r2.1, r2.2⟩ : Tly), (⟨1, 2, 3, r5.1, r5.2⟩ : Tly)] ++ p0).length) c11]) (cs' := #[I 4, I 2, I 0, I 0, .slice A11 (([(⟨0, 0, 2, r2.1, r2.2⟩ : Tly), (⟨1, 2, 3, r5.1, r5.2⟩ : Tly)] ++ p0).length) c11]) (ee st rfl) (ee st rfl) sz_36 bk1_5 rfl rfl (show 0 + 5 ≤ 5 by decide) (one_cells rfl) rfl) ?_
 rintro _ w13 sb13
 have hp6 : Hp w [ob A11, some b1] w13 := hp5.gr sb13.gr (hp5.ge 1 rfl)
 refine wl_end <| lv_next <| cc_ret ?_
 obtain rfl := Option.some.inj hG
 refine lv_retc (v := .agg #[I 4, I 2, I 0, I 0, .slice A11 (([(⟨0, 0, 2, r2.1, r2.2⟩ : Tly), (⟨1, 2, 3, r5.1, r5.2⟩ : Tly)] ++ p0).length) c11]) rfl rfl (run_loadn_bk agg_36 sb13.bk rfl rfl) ?_
 have hR11_6 : OwnR eTly 95 w w13 (ZZ Z w.heap.size [ob A11, some b1]) A11 c11 ([(⟨0, 0, 2, r2.1, r2.2⟩ : Tly), (⟨1, 2, 3, r5.1, r5.2⟩ : Tly)] ++ p0) := (hR11.gr sb13.gr (fun k hk => hp5.ne 0 1 rfl (congrArg some hk) rfl) (hp5.mv0 sb13.gr 1 rfl))
 exact ⟨hp6.fin, ⟨_, rfl, _, _, rfl, hR11_6.fin⟩⟩
theorem a62 (K_ : Nat) (Z : Nat → Prop) (w : World) (r_ : Tly) (hG : G_two K_ = some r_) :
    Ret Try.prog 62 #[] w (fun v w' => Ext w w' ∧ (vAgg eTly).R w' (ZZ Z w.heap.size []) v r_) := by
 unfold G_two at hG
 refine ret_of_cc (N := 3) Try.func62 rfl rfl (by simp) ?_
 intro fr0 ha hdf
 clear ha
 have hp0 := Hp.refl w
 refine cc_seq <| cc_region <| we rfl (fun st => x_alloc (cs := #[I 0, I 0, I 0, I 0, I 0]) zero_95 rfl) ?_
 rintro _ w1 ⟨b1, rfl, nb1⟩
 have hp1 : Hp w [some b1] w1 := hp0.new nb1.gr (Nat.le_of_eq nb1.b_eq.symm) (Nat.lt_of_lt_of_eq (Nat.lt_succ_self _) nb1.sz.symm)
 refine wl_end <| lv_next <| cc_seq <| cc_region ?_
 replace hG := bind_some hG; obtain ⟨r2, hr2, hG⟩ := hG
 refine we rfl (fun st => x_call0 own_50 (ee st rfl) (am2 (ee st rfl) (ee st rfl)) (a50 K_ 2 2 ZA _ r2 hr2)) ?_
 rintro _ w3 ⟨hx2, ⟨_, rfl, rfl⟩⟩
 have hp2 : Hp w [some b1] w3 := hp1.ext hx2
 refine wd rfl (fun st => x_build (vs := #[(0, I 0), (1, I 0), (2, I 1), (3, .agg #[I r2.1, I r2.2])]) (v := .agg #[I 0, I 0, I 1, I r2.1, I r2.2]) (pm4 (ee st rfl) (ee st rfl) (ee st rfl) (ee st rfl)) (by kernel_rfl)) ?_
 have bk1_2 : Bk w3 b1 95 #[I 0, I 0, I 0, I 0, I 0] := (nb1.bk.ext hx2)
 refine wl_ex0 rfl rfl (fun st => x_store (n := 5) (l := [I 0, I 0, I 1, I r2.1, I r2.2]) (cs' := #[I 0, I 0, I 1, I r2.1, I r2.2]) (ee st rfl) (ee st rfl) sz_95 bk1_2 rfl rfl (show 0 + 5 ≤ 5 by decide) (one_cells rfl) rfl) ?_
 rintro _ w5 sb5
 have hp3 : Hp w [some b1] w5 := hp2.gr sb5.gr (hp2.ge 0 rfl)
 refine wl_end <| lv_next <| cc_ret ?_
 obtain rfl := Option.some.inj hG
 refine lv_retc (v := .agg #[I 0, I 0, I 1, I r2.1, I r2.2]) rfl rfl (run_loadn_bk agg_95 sb5.bk rfl rfl) ?_
 exact ⟨hp3.fin, ⟨_, rfl, rfl⟩⟩
theorem a63 (K_ : Nat) (Z : Nat → Prop) (w : World) (r_ : Tly) (hG : G_wrong K_ = some r_) :
    Ret Try.prog 63 #[] w (fun v w' => Ext w w' ∧ (vAgg eTly).R w' (ZZ Z w.heap.size []) v r_) := by
 unfold G_wrong at hG
 refine ret_of_cc (N := 3) Try.func63 rfl rfl (by simp) ?_
 intro fr0 ha hdf
 clear ha
 have hp0 := Hp.refl w
 refine cc_seq <| cc_region <| we rfl (fun st => x_alloc (cs := #[I 0, I 0, I 0, I 0, I 0]) zero_95 rfl) ?_
 rintro _ w1 ⟨b1, rfl, nb1⟩
 have hp1 : Hp w [some b1] w1 := hp0.new nb1.gr (Nat.le_of_eq nb1.b_eq.symm) (Nat.lt_of_lt_of_eq (Nat.lt_succ_self _) nb1.sz.symm)
 refine wl_end <| lv_next <| cc_seq <| cc_region ?_
 replace hG := bind_some hG; obtain ⟨r2, hr2, hG⟩ := hG
 refine we rfl (fun st => x_call0 own_50 (ee st rfl) (am2 (ee st rfl) (ee st rfl)) (a50 K_ 2 2 ZA _ r2 hr2)) ?_
 rintro _ w3 ⟨hx2, ⟨_, rfl, rfl⟩⟩
 have hp2 : Hp w [some b1] w3 := hp1.ext hx2
 refine wd rfl (fun st => x_build (vs := #[(0, I 1), (1, I 0), (2, I 1), (3, .agg #[I r2.1, I r2.2])]) (v := .agg #[I 1, I 0, I 1, I r2.1, I r2.2]) (pm4 (ee st rfl) (ee st rfl) (ee st rfl) (ee st rfl)) (by kernel_rfl)) ?_
 have bk1_2 : Bk w3 b1 95 #[I 0, I 0, I 0, I 0, I 0] := (nb1.bk.ext hx2)
 refine wl_ex0 rfl rfl (fun st => x_store (n := 5) (l := [I 1, I 0, I 1, I r2.1, I r2.2]) (cs' := #[I 1, I 0, I 1, I r2.1, I r2.2]) (ee st rfl) (ee st rfl) sz_95 bk1_2 rfl rfl (show 0 + 5 ≤ 5 by decide) (one_cells rfl) rfl) ?_
 rintro _ w5 sb5
 have hp3 : Hp w [some b1] w5 := hp2.gr sb5.gr (hp2.ge 0 rfl)
 refine wl_end <| lv_next <| cc_ret ?_
 obtain rfl := Option.some.inj hG
 refine lv_retc (v := .agg #[I 1, I 0, I 1, I r2.1, I r2.2]) rfl rfl (run_loadn_bk agg_95 sb5.bk rfl rfl) ?_
 exact ⟨hp3.fin, ⟨_, rfl, rfl⟩⟩
end Go.Proofs.Ythogdgkafaclaaa
end
section
set_option linter.unusedVariables false
set_option linter.unusedSimpArgs false
namespace Go.Proofs.Ythogdgkafaclaaa
open Go.RowKit
open AF
theorem mixedA9 : Try.prog.follows .mixedOrders = true := by kernel_rfl
attribute [local irreducible] Ex1 WL CC CW LV Ret ObOp Agg One Own
theorem a55 (K_ : Nat) (p0 : Fld) (p1 : Int) (p2 : List Int) (A0_0 : Option Addr) (c0_0 : Nat) (A2_0 : Option Addr) (c2_0 : Nat) (Z : Nat → Prop) (w : World) (hS0_0 : Sl eTly w Z A0_0 c0_0 p0.ts) (hS2_0 : Sl (eInt .u16) w Z A2_0 c2_0 p2) (r_ : Fld × (List Int)) (hG : G_Told K_ p0 p1 p2 = some r_) :
    Ret Try.prog 55 #[.agg #[I p0.rows, I p0.wd, I p0.lo, I p0.hi, .slice A0_0 p0.ts.length c0_0], .int .u16 p1, .slice A2_0 p2.length c2_0] w (fun v w' => Ext w w' ∧ (vT2 (vAgg eFld) (vSl (eInt .i64))).R w' (ZZ Z w.heap.size []) v r_) := by
 unfold G_Told at hG
 refine ret_of_cc (N := 106) Try.func55 rfl rfl (by simp) ?_
 intro fr0 ha hdf
 have hp_0 := sl_arg (i := 0) (v := .agg #[I p0.rows, I p0.wd, I p0.lo, I p0.hi, .slice A0_0 p0.ts.length c0_0]) ha rfl
 have hp_1 := sl_arg (i := 1) (v := .int .u16 p1) ha rfl
 have hp_2 := sl_arg (i := 2) (v := .slice A2_0 p2.length c2_0) ha rfl
 clear ha
 have hp0 := Hp.refl w
 have hS0_0_0 := hS0_0.mv (mv_start w)
 have hS2_0_0 := hS2_0.mv (mv_start w)
 refine cc_seq <| cc_region <| we rfl (fun st => x_box (v := .agg #[I p0.rows, I p0.wd, I p0.lo, I p0.hi, .slice A0_0 p0.ts.length c0_0]) (cs := #[I p0.rows, I p0.wd, I p0.lo, I p0.hi, .slice A0_0 p0.ts.length c0_0]) (ee st hp_0) rfl) ?_
 rintro _ w1 ⟨b1, rfl, nb1⟩
 have hp1 : Hp w [some b1] w1 := hp0.new nb1.gr (Nat.le_of_eq nb1.b_eq.symm) (Nat.lt_of_lt_of_eq (Nat.lt_succ_self _) nb1.sz.symm)
 refine we rfl (fun st => x_alloc (cs := #[I 0, I 0, I 0, I 0, .slice none 0 0]) zero_26 rfl) ?_
 rintro _ w2 ⟨b2, rfl, nb2⟩
 have hp2 : Hp w [some b2, some b1] w2 := hp1.new nb2.gr (Nat.le_of_eq nb2.b_eq.symm) (Nat.lt_of_lt_of_eq (Nat.lt_succ_self _) nb2.sz.symm)
 refine wa rfl (v := .slice none 0 0) rfl <| wl_end <| lv_next <| cc_seq ?_
 have bk1_2 : Bk w2 b1 26 #[I p0.rows, I p0.wd, I p0.lo, I p0.hi, .slice A0_0 p0.ts.length c0_0] := (nb1.bk.ext nb2.gr)
 replace hG := cvO_bind hG; obtain ⟨hf4, hG⟩ := hG
 have hS0_0_2 : Sl eTly w2 (ZZ Z w.heap.size [some b2, some b1]) A0_0 c0_0 p0.ts := ((hS0_0_0.mv (mv_new nb1.gr (Nat.le_of_eq nb1.b_eq.symm))).mv (mv_new nb2.gr (Nat.le_of_eq nb2.b_eq.symm)))
 replace hG := bind_some hG; obtain ⟨r5, hr5, hG⟩ := hG
 replace hG := rem_bind hG; obtain ⟨hf6, hG⟩ := hG
 replace hG := bind_some hG; obtain ⟨r7, hr7, hG⟩ := hG
 refine cc_anyM0 7 [Kc (.agg #[I p0.rows, I p0.wd, I p0.lo, I p0.hi, .slice A0_0 p0.ts.length c0_0]), Kc (.int .u16 p1), Kc (I p1), Kc (.agg #[I p0.rows, I p0.wd, I p0.lo, I p0.hi, .slice A0_0 p0.ts.length c0_0]), Kc (I r5), Kc (I (p1 % r5)), Kv (vSl (eInt .i64)) (ZZ Z w.heap.size [some b2, some b1]) r7] mixedA9 rfl rfl
     (obsN_cons (od rfl (fun _ => rfl) (fun K => x_loadn (l := [I p0.rows, I p0.wd, I p0.lo, I p0.hi, .slice A0_0 p0.ts.length c0_0]) agg_26 (es (t := 3) (v := pt b1 0) ((K.out 3 rfl).trans rfl)) (bk1_2.ext K.phT) rfl rfl))
     (obsN_cons (od rfl (fun _ => rfl) (fun K => x_move (v := .int .u16 p1) (es (t := 1) (v := .int .u16 p1) ((K.out 1 rfl).trans hp_1))))
     (obsN_cons (od rfl (fun _ => rfl) (fun K => x_conv (k := .i64) sm_82 Try.underlying3 (es (t := 16) (v := .int .u16 p1) (K.dep 1 16 rfl rfl)) hf4))
     (obsN_cons (od rfl (fun _ => rfl) (fun K => x_loadn (l := [I p0.rows, I p0.wd, I p0.lo, I p0.hi, .slice A0_0 p0.ts.length c0_0]) agg_26 (es (t := 3) (v := pt b1 0) ((K.out 3 rfl).trans rfl)) (bk1_2.ext K.phT) rfl rfl))
     (obsN_cons (ob_ext rfl rfl (fun a' w' ph K => (x_call0 own_65 rfl (am1 (es (t := 18) (v := .agg #[I p0.rows, I p0.wd, I p0.lo, I p0.hi, .slice A0_0 p0.ts.length c0_0]) (K.dep 3 18 rfl rfl))) (a65 K_ p0 A0_0 c0_0 ZA _ (hS0_0_2.mv (mv_ext K.phT)).all r5 hr5)).mono (fun _ _ h => ⟨h.2, h.1⟩)))
     (obsN_cons (od rfl (fun _ => rfl) (fun K => x_rem (es (t := 17) (v := I p1) (K.dep 2 17 rfl rfl)) (es (t := 19) (v := I r5) (K.dep 4 19 rfl rfl)) hf6.1 hf6.2))
     (obsN_cons (ob_ext rfl rfl (fun a' w' ph K => (x_call0 own_82 rfl (am2 (es (t := 15) (v := .agg #[I p0.rows, I p0.wd, I p0.lo, I p0.hi, .slice A0_0 p0.ts.length c0_0]) (K.dep 0 15 rfl rfl)) (es (t := 20) (v := I (p1 % r5)) (K.dep 5 20 rfl rfl))) (a82 K_ p0 (p1 % r5) A0_0 c0_0 (ZZ Z w.heap.size [some b2, some b1]) _ (hS0_0_2.mv (mv_ext K.phT)) r7 hr7)).mono (fun _ _ h => ⟨(vSl (eInt .i64)).mv h.2 (hp2.call K.phT.size), h.1⟩)))
     (obsN_nil _)))))))) ?_
 intro w3
 rintro _ rfl _ rfl _ rfl _ rfl _ rfl _ rfl _ ⟨A7_r, c7_r, rfl, hS7_r⟩ hx3
 have hp3 : Hp w [some b2, some b1] w3 := hp2.ext hx3
 refine wa rfl (v := .slice A7_r r7.length c7_r) rfl <| wl_end <| lv_next <| cc_seq <| cc_region ?_
 have bk1_3 : Bk w3 b1 26 #[I p0.rows, I p0.wd, I p0.lo, I p0.hi, .slice A0_0 p0.ts.length c0_0] := (bk1_2.ext hx3)
 refine wd rfl (fun st => x_loadn (l := [I p0.rows, I p0.wd, I p0.lo, I p0.hi, .slice A0_0 p0.ts.length c0_0]) agg_26 (ee st rfl) bk1_3 rfl rfl) <| we rfl (fun st => x_alloc (cs := #[I 0, I 0, I 0, I 0, .slice none 0 0]) zero_26 rfl) ?_
 rintro _ w8 ⟨b8, rfl, nb8⟩
 have hp4 : Hp w [some b8, some b2, some b1] w8 := hp3.new nb8.gr (Nat.le_of_eq nb8.b_eq.symm) (Nat.lt_of_lt_of_eq (Nat.lt_succ_self _) nb8.sz.symm)
 refine wl_ex0 rfl rfl (fun st => x_store (n := 5) (l := [I p0.rows, I p0.wd, I p0.lo, I p0.hi, .slice A0_0 p0.ts.length c0_0]) (cs' := #[I p0.rows, I p0.wd, I p0.lo, I p0.hi, .slice A0_0 p0.ts.length c0_0]) (ee st rfl) (ee st rfl) sz_26 nb8.bk rfl rfl (show 0 + 5 ≤ 5 by decide) (one_cells rfl) rfl) ?_
 rintro _ w9 sb9
 have hp5 : Hp w [some b8, some b2, some b1] w9 := hp4.gr sb9.gr (hp4.ge 0 rfl)
 refine wl_end <| lv_next <| cc_seq <| cc_region <| wm rfl (v := .slice A7_r r7.length c7_r) rfl <| wd rfl (fun st => x_fieldAddr (ee st rfl) (fz_26_0 _ _)) ?_
 have bk1_5 : Bk w9 b1 26 #[I p0.rows, I p0.wd, I p0.lo, I p0.hi, .slice A0_0 p0.ts.length c0_0] := ((bk1_3.ext nb8.gr).gr sb9.gr (hp4.ne 2 0 rfl rfl rfl))
 refine wd rfl (fun st => x_load1 (v := I p0.rows) one_3 (ee st rfl) bk1_5 rfl) ?_
 replace hG := i64_bind hG; obtain ⟨hf10, hG⟩ := hG
 refine wd rfl (fun st => x_sub (ee st rfl) (ee st rfl) hf10) ?_
 have hS7_r_5 : Sl (eInt .i64) w9 (ZZ Z w.heap.size [some b8, some b2, some b1]) A7_r c7_r r7 := ((hS7_r.mv (mv_new nb8.gr (Nat.le_of_eq nb8.b_eq.symm))).mv (hp4.mv0 sb9.gr 0 rfl))
 replace hG := bind_some hG; obtain ⟨r11, hr11, hG⟩ := hG
 refine we rfl (fun st => x_call0 own_41 (ee st rfl) (am4 (ee st rfl) (ee st rfl) (ee st rfl) (ee st rfl)) (a41 K_ r7 (-1) 0 (p0.rows - 1) A7_r c7_r ZA _ hS7_r_5.all r11 hr11)) ?_
 rintro _ w12 ⟨hx11, rfl⟩
 have hp6 : Hp w [some b8, some b2, some b1] w12 := hp5.ext hx11
 refine wa rfl (v := I r11) rfl <| wl_end <| lv_next <| cc_seq <| cc_region <| wd rfl (fun st => x_fieldAddr (ee st rfl) (fz_26_2 _ _)) <| wd rfl (fun st => x_fieldAddr (ee st rfl) (fl_23_0_2 _ _)) ?_
 have bk1_6 : Bk w12 b1 26 #[I p0.rows, I p0.wd, I p0.lo, I p0.hi, .slice A0_0 p0.ts.length c0_0] := (bk1_5.ext hx11)
 refine wd rfl (fun st => x_load1 (v := I p0.lo) one_3 (ee st rfl) bk1_6 rfl) <| wm rfl (v := I r11) rfl <| wd rfl (fun st => x_min (ee st rfl) (ee st rfl)) <| wd rfl (fun st => x_fieldAddr (ee st rfl) (fz_26_2 _ _)) <| wd rfl (fun st => x_fieldAddr (ee st rfl) (fl_23_1_2 _ _)) <| wd rfl (fun st => x_load1 (v := I p0.hi) one_3 (ee st rfl) bk1_6 rfl) <| wm rfl (v := I r11) rfl <| wd rfl (fun st => x_max (ee st rfl) (ee st rfl)) <| wd rfl (fun st => x_build (vs := #[(0, I (min p0.lo r11)), (1, I (max p0.hi r11))]) (v := .agg #[I (min p0.lo r11), I (max p0.hi r11)]) (pm2 (ee st rfl) (ee st rfl)) (by kernel_rfl)) <| wd rfl (fun st => x_fieldAddr (ee st rfl) (fz_26_2 _ _)) ?_
 have bk8_6 : Bk w12 b8 26 #[I p0.rows, I p0.wd, I p0.lo, I p0.hi, .slice A0_0 p0.ts.length c0_0] := (sb9.bk.ext hx11)
 refine wl_ex0 rfl rfl (fun st => x_store (n := 2) (l := [I (min p0.lo r11), I (max p0.hi r11)]) (cs' := #[I p0.rows, I p0.wd, I (min p0.lo r11), I (max p0.hi r11), .slice A0_0 p0.ts.length c0_0]) (ee st rfl) (ee st rfl) sz_23 bk8_6 rfl rfl (show 2 + 2 ≤ 5 by decide) (one_cells rfl) rfl) ?_
 rintro _ w14 sb14
 have hp7 : Hp w [some b8, some b2, some b1] w14 := hp6.gr sb14.gr (hp6.ge 0 rfl)
 refine wl_end <| lv_next <| cc_seq <| cc_region <| wd rfl (fun st => x_fieldAddr (ee st rfl) (fz_26_3 _ _)) <| wl_ex0 rfl rfl (fun st => x_store (n := 1) (l := [.slice none 0 0]) (cs' := #[I p0.rows, I p0.wd, I (min p0.lo r11), I (max p0.hi r11), .slice none 0 0]) (ee st rfl) (ee st rfl) sz_24 sb14.bk rfl rfl (show 4 + 1 ≤ 5 by decide) (one_cells rfl) rfl) ?_
 rintro _ w15 sb15
 have hp8 : Hp w [some b8, some b2, some b1] w15 := hp7.gr sb15.gr (hp7.ge 0 rfl)
 refine wl_end <| lv_next <| cc_seq <| cc_seq <| cc_region <| wa rfl (v := I 0) rfl <| wl_end <| lv_next <| cc_block ?_
 have hp9 : Hp w [none, some b8, some b2, some b1] w15 := hp8.nil
 have hR17 : OwnR eTly 68 w w15 (ZZ Z w.heap.size [none, some b8, some b2, some b1]) none 0 [] := OwnR.nil _ _ _ _ _
 replace hG := bind_some hG; obtain ⟨z16, hL16, hG⟩ := hG
 refine cc_join (fun e_ fr_ w_ => (e_ = .exit 0 ∧ ∃ Ae16_0_b84 Ce16_0_b84, fr_.tmps.size = 106 ∧ fr_.defers = [] ∧ sl fr_ 6 = pt b2 0 ∧ sl fr_ 8 = .slice A7_r r7.length c7_r ∧ sl fr_ 9 = pt b8 0 ∧ Hp w [ob Ae16_0_b84, some b8, some b2, some b1] w_ ∧ OwnR eTly 68 w w_ (ZZ Z w.heap.size [ob Ae16_0_b84, some b8, some b2, some b1]) Ae16_0_b84 Ce16_0_b84 z16 ∧ Bk w_ b2 26 #[I 0, I 0, I 0, I 0, .slice none 0 0] ∧ Bk w_ b8 26 #[I p0.rows, I p0.wd, I (min p0.lo r11), I (max p0.hi r11), .slice Ae16_0_b84 z16.length Ce16_0_b84] ∧ Sl (eInt .i64) w_ (ZZ Z w.heap.size [ob Ae16_0_b84, some b8, some b2, some b1]) A7_r c7_r r7)) ?lp16 ?af16
 case lp16 =>
  clear hG
  refine cc_loop (fun (m_ : Nat) (fr_ : Act) (w_ : World) => ∃ s16_11, ∃ s16_b84, ∃ As16_b84 Cs16_b84, G_Told_L16 K_ p0 p2 r7 m_ s16_11 s16_b84 = some z16 ∧ fr_.tmps.size = 106 ∧ fr_.defers = [] ∧ sl fr_ 2 = .slice A2_0 p2.length c2_0 ∧ sl fr_ 3 = pt b1 0 ∧ sl fr_ 6 = pt b2 0 ∧ sl fr_ 8 = .slice A7_r r7.length c7_r ∧ sl fr_ 9 = pt b8 0 ∧ sl fr_ 11 = I s16_11 ∧ Hp w [ob As16_b84, some b8, some b2, some b1] w_ ∧ OwnR eTly 68 w w_ (ZZ Z w.heap.size [ob As16_b84, some b8, some b2, some b1]) As16_b84 Cs16_b84 s16_b84 ∧ Bk w_ b1 26 #[I p0.rows, I p0.wd, I p0.lo, I p0.hi, .slice A0_0 p0.ts.length c0_0] ∧ Bk w_ b2 26 #[I 0, I 0, I 0, I 0, .slice none 0 0] ∧ Bk w_ b8 26 #[I p0.rows, I p0.wd, I (min p0.lo r11), I (max p0.hi r11), .slice As16_b84 s16_b84.length Cs16_b84] ∧ Sl eTly w_ (ZZ Z w.heap.size [ob As16_b84, some b8, some b2, some b1]) A0_0 c0_0 p0.ts ∧ Sl (eInt .u16) w_ (ZZ Z w.heap.size [ob As16_b84, some b8, some b2, some b1]) A2_0 c2_0 p2 ∧ Sl (eInt .i64) w_ (ZZ Z w.heap.size [ob As16_b84, some b8, some b2, some b1]) A7_r c7_r r7) K_ ?in16 ?rd16
  case in16 =>
   intro st
   have bk1_9 : Bk w15 b1 26 #[I p0.rows, I p0.wd, I p0.lo, I p0.hi, .slice A0_0 p0.ts.length c0_0] := ((bk1_6.gr sb14.gr (hp6.ne 2 0 rfl rfl rfl)).gr sb15.gr (hp7.ne 2 0 rfl rfl rfl))
   have bk2_9 : Bk w15 b2 26 #[I 0, I 0, I 0, I 0, .slice none 0 0] := ((((((nb2.bk.ext hx3).ext nb8.gr).gr sb9.gr (hp4.ne 1 0 rfl rfl rfl)).ext hx11).gr sb14.gr (hp6.ne 1 0 rfl rfl rfl)).gr sb15.gr (hp7.ne 1 0 rfl rfl rfl))
   have bk8_9 : Bk w15 b8 26 #[I p0.rows, I p0.wd, I (min p0.lo r11), I (max p0.hi r11), .slice none (([] : List Tly).length) 0] := sb15.bk
   have hS0_0_9 : Sl eTly w15 (ZZ Z w.heap.size [none, some b8, some b2, some b1]) A0_0 c0_0 p0.ts := (((((((hS0_0_2.mv (mv_ext hx3)).mv (mv_new nb8.gr (Nat.le_of_eq nb8.b_eq.symm))).mv (hp4.mv0 sb9.gr 0 rfl)).mv (mv_ext hx11)).mv (hp6.mv0 sb14.gr 0 rfl)).mv (hp7.mv0 sb15.gr 0 rfl)).mv mv_nil)
   have hS2_0_9 : Sl (eInt .u16) w15 (ZZ Z w.heap.size [none, some b8, some b2, some b1]) A2_0 c2_0 p2 := (((((((((hS2_0_0.mv (mv_new nb1.gr (Nat.le_of_eq nb1.b_eq.symm))).mv (mv_new nb2.gr (Nat.le_of_eq nb2.b_eq.symm))).mv (mv_ext hx3)).mv (mv_new nb8.gr (Nat.le_of_eq nb8.b_eq.symm))).mv (hp4.mv0 sb9.gr 0 rfl)).mv (mv_ext hx11)).mv (hp6.mv0 sb14.gr 0 rfl)).mv (hp7.mv0 sb15.gr 0 rfl)).mv mv_nil)
   have hS7_r_9 : Sl (eInt .i64) w15 (ZZ Z w.heap.size [none, some b8, some b2, some b1]) A7_r c7_r r7 := ((((hS7_r_5.mv (mv_ext hx11)).mv (hp6.mv0 sb14.gr 0 rfl)).mv (hp7.mv0 sb15.gr 0 rfl)).mv mv_nil)
   exact ⟨(0 : Int), ([] : List Tly), none, 0, hL16, (puts_size _ _).trans st.sz, (puts_defers _ _).trans st.df, (sl_puts st 2).trans hp_2, (sl_puts st 3).trans rfl, (sl_puts st 6).trans rfl, (sl_puts st 8).trans rfl, (sl_puts st 9).trans rfl, (sl_puts st 11).trans rfl, hp9, hR17, bk1_9, bk2_9, bk8_9, hS0_0_9, hS2_0_9, hS7_r_9⟩
  case rd16 =>
   rintro (_ | m_) fr16 w16r ⟨s16_11, s16_b84, As16_b84, Cs16_b84, hL16, hsz16, hdf16, hs16_2, hs16_3, hs16_6, hs16_8, hs16_9, hs16_11, hp10, f16_Hs16_b84, f16_bk1, f16_bk2, f16_bk8, f16_hS0_0, f16_hS2_0, f16_hS7_r⟩
   ·exact absurd (show none = some _ from hL16) (by simp)
   rw [G_Told_L16.eq_2] at hL16
   have hG := hL16; clear hL16
   refine round_cc (N := 106) hsz16 hdf16 <| cc_seq <| cc_seq <| cc_region <| wm rfl (v := I s16_11) hs16_11 <| wm rfl (v := .slice A2_0 p2.length c2_0) hs16_2 ?_
   replace hG := bind_some hG; obtain ⟨r18, hr18, hG⟩ := hG
   refine we rfl (fun st => x_call0 own_96 (ee st rfl) (am2 (ee st rfl) (ee st rfl)) (a96 K_ p2 0 A2_0 c2_0 ZA _ f16_hS2_0.all r18 hr18)) ?_
   rintro _ w19 ⟨hx18, rfl⟩
   have hp11 : Hp w [ob As16_b84, some b8, some b2, some b1] w19 := hp10.ext hx18
   replace hG := rem_bind hG; obtain ⟨hf20, hG⟩ := hG
   refine wd rfl (fun st => x_rem (ee st rfl) (ee st rfl) hf20.1 hf20.2) <| wd rfl (fun st => x_lss (ee st rfl) (ee st rfl)) <| wl_end <| lv_next ?_
   rcases bool_cases (decide (s16_11 < (r18 % 6))) with hc21 | hc21
   ·replace hG := cond_t hG hc21
    refine cc_cond_t rfl hc21 <| cc_skip <| lv_next <| cc_seq <| cc_block <| cc_seq <| cc_region <| wm rfl (v := .slice A2_0 p2.length c2_0) hs16_2 <| wm rfl (v := I s16_11) hs16_11 ?_
    replace hG := i64_bind hG; obtain ⟨hf22, hG⟩ := hG
    refine wd rfl (fun st => x_add (ee st rfl) (ee st rfl) hf22) ?_
    have hS2_0_11 : Sl (eInt .u16) w19 (ZZ Z w.heap.size [ob As16_b84, some b8, some b2, some b1]) A2_0 c2_0 p2 := (f16_hS2_0.mv (mv_ext hx18))
    replace hG := bind_some hG; obtain ⟨r23, hr23, hG⟩ := hG
    refine we rfl (fun st => x_call0 own_96 (ee st rfl) (am2 (ee st rfl) (ee st rfl)) (a96 K_ p2 (s16_11 + 1) A2_0 c2_0 ZA _ hS2_0_11.all r23 hr23)) ?_
    rintro _ w24 ⟨hx23, rfl⟩
    have hp12 : Hp w [ob As16_b84, some b8, some b2, some b1] w24 := hp11.ext hx23
    refine wa rfl (v := I r23) rfl <| wl_end <| lv_next <| cc_seq ?_
    have bk1_12 : Bk w24 b1 26 #[I p0.rows, I p0.wd, I p0.lo, I p0.hi, .slice A0_0 p0.ts.length c0_0] := ((f16_bk1.ext hx18).ext hx23)
    replace hG := rem_bind hG; obtain ⟨hf26, hG⟩ := hG
    replace hG := quo_bind hG; obtain ⟨hf27, hG⟩ := hG
    replace hG := i64_bind hG; obtain ⟨hf28, hG⟩ := hG
    replace hG := rem_bind hG; obtain ⟨hf29, hG⟩ := hG
    refine cc_anyM0 11 [Kc (I r23), Kc (pt b1 1), Kc (I p0.wd), Kc (I (r23 % p0.wd)), Kc (I r23), Kc (I (r23 / 4)), Kc (pt b1 0), Kc (I p0.rows), Kc (I ((r23 / 4) % p0.rows)), Kc (.agg #[I (r23 % p0.wd), I ((r23 / 4) % p0.rows), I 0, I 0, I 0]), Kn w24.heap.size (fun b => .pointer (some ⟨b, 0, none⟩)) 68 #[I 0, I 0, I 0, I 0, I 0]] mixedA9 rfl rfl
        (obsN_cons (od rfl (fun _ => rfl) (fun K => x_move (v := I r23) (es (t := 12) (v := I r23) ((K.out 12 rfl).trans rfl))))
        (obsN_cons (od rfl (fun _ => rfl) (fun K => x_fieldAddr (es (t := 3) (v := pt b1 0) ((K.out 3 rfl).trans hs16_3)) (fz_26_1 _ _)))
        (obsN_cons (od rfl (fun _ => rfl) (fun K => x_load1 (v := I p0.wd) one_3 (es (t := 53) (v := pt b1 1) (K.dep 1 53 rfl rfl)) (bk1_12.ext K.phT) rfl))
        (obsN_cons (od rfl (fun _ => rfl) (fun K => x_rem (es (t := 52) (v := I r23) (K.dep 0 52 rfl rfl)) (es (t := 54) (v := I p0.wd) (K.dep 2 54 rfl rfl)) hf26.1 hf26.2))
        (obsN_cons (od rfl (fun _ => rfl) (fun K => x_move (v := I r23) (es (t := 12) (v := I r23) ((K.out 12 rfl).trans rfl))))
        (obsN_cons (od rfl (fun _ => rfl) (fun K => x_quoN (es (t := 56) (v := I r23) (K.dep 4 56 rfl rfl)) (ec (v := I 4)) hf27.1 hf27.2 hf28))
        (obsN_cons (od rfl (fun _ => rfl) (fun K => x_fieldAddr (es (t := 3) (v := pt b1 0) ((K.out 3 rfl).trans hs16_3)) (fz_26_0 _ _)))
        (obsN_cons (od rfl (fun _ => rfl) (fun K => x_load1 (v := I p0.rows) one_3 (es (t := 58) (v := pt b1 0) (K.dep 6 58 rfl rfl)) (bk1_12.ext K.phT) rfl))
        (obsN_cons (od rfl (fun _ => rfl) (fun K => x_rem (es (t := 57) (v := I (r23 / 4)) (K.dep 5 57 rfl rfl)) (es (t := 59) (v := I p0.rows) (K.dep 7 59 rfl rfl)) hf29.1 hf29.2))
        (obsN_cons (od rfl (fun _ => rfl) (fun K => x_build (vs := #[(0, I (r23 % p0.wd)), (1, I ((r23 / 4) % p0.rows))]) (v := .agg #[I (r23 % p0.wd), I ((r23 / 4) % p0.rows), I 0, I 0, I 0]) (pm2 (es (t := 55) (v := I (r23 % p0.wd)) (K.dep 3 55 rfl rfl)) (es (t := 60) (v := I ((r23 / 4) % p0.rows)) (K.dep 8 60 rfl rfl))) (by kernel_rfl)))
        (obsN_cons (ob_ext rfl rfl (fun a' w' ph K => (x_alloc (cs := #[I 0, I 0, I 0, I 0, I 0]) zero_68 rfl).mono (fun u w'' hh => kn_mk K.phT.size hh)))
        (obsN_nil _)))))))))))) ?_
    intro w25
    rintro _ rfl _ rfl _ rfl _ rfl _ rfl _ rfl _ rfl _ rfl _ rfl _ rfl _ ⟨bb25_10, rfl, lobb25_10, bkbb25_10⟩ hx25
    have hp13 : Hp w [ob As16_b84, some b8, some b2, some b1] w25 := hp12.ext hx25
    have hlebb25_10 : w24.heap.size ≤ bb25_10 := lobb25_10
    have hp14 : Hp w [some bb25_10, ob As16_b84, some b8, some b2, some b1] w25 := hp12.new hx25 lobb25_10 bkbb25_10.lt
    refine wl_ex0 rfl rfl (fun st => x_store (n := 5) (l := [I (r23 % p0.wd), I ((r23 / 4) % p0.rows), I 0, I 0, I 0]) (cs' := #[I (r23 % p0.wd), I ((r23 / 4) % p0.rows), I 0, I 0, I 0]) (ee st rfl) (ee st rfl) sz_68 bkbb25_10 rfl rfl (show 0 + 5 ≤ 5 by decide) (one_cells rfl) rfl) ?_
    rintro _ w31 sb31
    have hp15 : Hp w [some bb25_10, ob As16_b84, some b8, some b2, some b1] w31 := hp14.gr sb31.gr (hp14.ge 0 rfl)
    refine wl_end <| lv_next <| cc_seq ?_
    replace hG := quo_bind hG; obtain ⟨hf33, hG⟩ := hG
    replace hG := i64_bind hG; obtain ⟨hf34, hG⟩ := hG
    have bk1_15 : Bk w31 b1 26 #[I p0.rows, I p0.wd, I p0.lo, I p0.hi, .slice A0_0 p0.ts.length c0_0] := ((bk1_12.ext hx25).gr sb31.gr (hp14.ne 4 0 rfl rfl rfl))
    replace hG := i64_bind hG; obtain ⟨hf35, hG⟩ := hG
    replace hG := rem_bind hG; obtain ⟨hf36, hG⟩ := hG
    replace hG := i64_bind hG; obtain ⟨hf37, hG⟩ := hG
    refine cc_anyM0 11 [Kc (pt bb25_10 1), Kc (I ((r23 / 4) % p0.rows)), Kc (I r23), Kc (I (r23 / 32)), Kc (pt b1 0), Kc (I p0.rows), Kc (pt bb25_10 1), Kc (I ((r23 / 4) % p0.rows)), Kc (I (p0.rows - ((r23 / 4) % p0.rows))), Kc (I ((r23 / 32) % (p0.rows - ((r23 / 4) % p0.rows)))), Kc (I (((r23 / 4) % p0.rows) + ((r23 / 32) % (p0.rows - ((r23 / 4) % p0.rows)))))] mixedA9 rfl rfl
        (obsN_cons (od rfl (fun _ => rfl) (fun K => x_fieldAddr (es (t := 13) (v := pt bb25_10 0) ((K.out 13 rfl).trans rfl)) (fz_68_1 _ _)))
        (obsN_cons (od rfl (fun _ => rfl) (fun K => x_load1 (v := I ((r23 / 4) % p0.rows)) one_3 (es (t := 62) (v := pt bb25_10 1) (K.dep 0 62 rfl rfl)) (sb31.bk.ext K.phT) rfl))
        (obsN_cons (od rfl (fun _ => rfl) (fun K => x_move (v := I r23) (es (t := 12) (v := I r23) ((K.out 12 rfl).trans rfl))))
        (obsN_cons (od rfl (fun _ => rfl) (fun K => x_quoN (es (t := 64) (v := I r23) (K.dep 2 64 rfl rfl)) (ec (v := I 32)) hf33.1 hf33.2 hf34))
        (obsN_cons (od rfl (fun _ => rfl) (fun K => x_fieldAddr (es (t := 3) (v := pt b1 0) ((K.out 3 rfl).trans hs16_3)) (fz_26_0 _ _)))
        (obsN_cons (od rfl (fun _ => rfl) (fun K => x_load1 (v := I p0.rows) one_3 (es (t := 66) (v := pt b1 0) (K.dep 4 66 rfl rfl)) (bk1_15.ext K.phT) rfl))
        (obsN_cons (od rfl (fun _ => rfl) (fun K => x_fieldAddr (es (t := 13) (v := pt bb25_10 0) ((K.out 13 rfl).trans rfl)) (fz_68_1 _ _)))
        (obsN_cons (od rfl (fun _ => rfl) (fun K => x_load1 (v := I ((r23 / 4) % p0.rows)) one_3 (es (t := 68) (v := pt bb25_10 1) (K.dep 6 68 rfl rfl)) (sb31.bk.ext K.phT) rfl))
        (obsN_cons (od rfl (fun _ => rfl) (fun K => x_sub (es (t := 67) (v := I p0.rows) (K.dep 5 67 rfl rfl)) (es (t := 69) (v := I ((r23 / 4) % p0.rows)) (K.dep 7 69 rfl rfl)) hf35))
        (obsN_cons (od rfl (fun _ => rfl) (fun K => x_rem (es (t := 65) (v := I (r23 / 32)) (K.dep 3 65 rfl rfl)) (es (t := 70) (v := I (p0.rows - ((r23 / 4) % p0.rows))) (K.dep 8 70 rfl rfl)) hf36.1 hf36.2))
        (obsN_cons (od rfl (fun _ => rfl) (fun K => x_add (es (t := 63) (v := I ((r23 / 4) % p0.rows)) (K.dep 1 63 rfl rfl)) (es (t := 71) (v := I ((r23 / 32) % (p0.rows - ((r23 / 4) % p0.rows)))) (K.dep 9 71 rfl rfl)) hf37))
        (obsN_nil _)))))))))))) ?_
    intro w32
    rintro _ rfl _ rfl _ rfl _ rfl _ rfl _ rfl _ rfl _ rfl _ rfl _ rfl _ rfl hx32
    have hp16 : Hp w [some bb25_10, ob As16_b84, some b8, some b2, some b1] w32 := hp15.ext hx32
    refine wd rfl (fun st => x_fieldAddr (ee st rfl) (fz_68_2 _ _)) ?_
    have kb25_10_16 : Bk w32 bb25_10 68 #[I (r23 % p0.wd), I ((r23 / 4) % p0.rows), I 0, I 0, I 0] := (sb31.bk.ext hx32)
    refine wl_ex0 rfl rfl (fun st => x_store (n := 1) (l := [I (((r23 / 4) % p0.rows) + ((r23 / 32) % (p0.rows - ((r23 / 4) % p0.rows))))]) (cs' := #[I (r23 % p0.wd), I ((r23 / 4) % p0.rows), I (((r23 / 4) % p0.rows) + ((r23 / 32) % (p0.rows - ((r23 / 4) % p0.rows)))), I 0, I 0]) (ee st rfl) (ee st rfl) sz_3 kb25_10_16 rfl rfl (show 2 + 1 ≤ 5 by decide) (one_cells rfl) rfl) ?_
    rintro _ w38 sb38
    have hp17 : Hp w [some bb25_10, ob As16_b84, some b8, some b2, some b1] w38 := hp16.gr sb38.gr (hp16.ge 0 rfl)
    refine wl_end <| lv_next <| cc_seq <| cc_region <| wm rfl (v := .slice A7_r r7.length c7_r) hs16_8 <| wd rfl (fun st => x_fieldAddr (ee st rfl) (fz_68_0 _ _)) <| wd rfl (fun st => x_load1 (v := I (r23 % p0.wd)) one_3 (ee st rfl) sb38.bk rfl) <| wd rfl (fun st => x_fieldAddr (ee st rfl) (fz_68_1 _ _)) <| wd rfl (fun st => x_load1 (v := I ((r23 / 4) % p0.rows)) one_3 (ee st rfl) sb38.bk rfl) <| wd rfl (fun st => x_fieldAddr (ee st rfl) (fz_68_2 _ _)) <| wd rfl (fun st => x_load1 (v := I (((r23 / 4) % p0.rows) + ((r23 / 32) % (p0.rows - ((r23 / 4) % p0.rows))))) one_3 (ee st rfl) sb38.bk rfl) ?_
    have hS7_r_17 : Sl (eInt .i64) w38 (ZZ Z w.heap.size [some bb25_10, ob As16_b84, some b8, some b2, some b1]) A7_r c7_r r7 := ((((((f16_hS7_r.mv (mv_ext hx18)).mv (mv_ext hx23)).mv (mv_new hx25 lobb25_10)).mv (hp14.mv0 sb31.gr 0 rfl)).mv (mv_ext hx32)).mv (hp16.mv0 sb38.gr 0 rfl))
    replace hG := bind_some hG; obtain ⟨r39, hr39, hG⟩ := hG
    refine we rfl (fun st => x_call0 own_41 (ee st rfl) (am4 (ee st rfl) (ee st rfl) (ee st rfl) (ee st rfl)) (a41 K_ r7 (r23 % p0.wd) ((r23 / 4) % p0.rows) (((r23 / 4) % p0.rows) + ((r23 / 32) % (p0.rows - ((r23 / 4) % p0.rows)))) A7_r c7_r ZA _ hS7_r_17.all r39 hr39)) ?_
    rintro _ w40 ⟨hx39, rfl⟩
    have hp18 : Hp w [some bb25_10, ob As16_b84, some b8, some b2, some b1] w40 := hp17.ext hx39
    refine wa rfl (v := I r39) rfl <| wl_end <| lv_next <| cc_seq <| cc_region <| wm rfl (v := I r39) rfl <| wm rfl (v := I r23) rfl ?_
    replace hG := quo_bind hG; obtain ⟨hf41, hG⟩ := hG
    replace hG := i64_bind hG; obtain ⟨hf42, hG⟩ := hG
    refine wd rfl (fun st => x_quoN (ee st rfl) (ee st rfl) hf41.1 hf41.2 hf42) ?_
    replace hG := rem_bind hG; obtain ⟨hf43, hG⟩ := hG
    refine wd rfl (fun st => x_rem (ee st rfl) (ee st rfl) hf43.1 hf43.2) ?_
    replace hG := i64_bind hG; obtain ⟨hf44, hG⟩ := hG
    refine wd rfl (fun st => x_sub (ee st rfl) (ee st rfl) hf44) <| wd rfl (fun st => x_max (ee st rfl) (ee st rfl)) <| wd rfl (fun st => x_fieldAddr (ee st hs16_3) (fz_26_0 _ _)) ?_
    have bk1_18 : Bk w40 b1 26 #[I p0.rows, I p0.wd, I p0.lo, I p0.hi, .slice A0_0 p0.ts.length c0_0] := (((bk1_15.ext hx32).gr sb38.gr (hp16.ne 4 0 rfl rfl rfl)).ext hx39)
    refine wd rfl (fun st => x_load1 (v := I p0.rows) one_3 (ee st rfl) bk1_18 rfl) <| wm rfl (v := I r39) rfl <| wm rfl (v := I r23) rfl ?_
    replace hG := quo_bind hG; obtain ⟨hf45, hG⟩ := hG
    replace hG := i64_bind hG; obtain ⟨hf46, hG⟩ := hG
    refine wd rfl (fun st => x_quoN (ee st rfl) (ee st rfl) hf45.1 hf45.2 hf46) ?_
    replace hG := rem_bind hG; obtain ⟨hf47, hG⟩ := hG
    refine wd rfl (fun st => x_rem (ee st rfl) (ee st rfl) hf47.1 hf47.2) ?_
    replace hG := i64_bind hG; obtain ⟨hf48, hG⟩ := hG
    refine wd rfl (fun st => x_add (ee st rfl) (ee st rfl) hf48) <| wd rfl (fun st => x_min (ee st rfl) (ee st rfl)) <| wd rfl (fun st => x_build (vs := #[(0, I (max (0 : Int) (r39 - ((r23 / 256) % 2)))), (1, I (min p0.rows (r39 + ((r23 / 512) % 2))))]) (v := .agg #[I (max (0 : Int) (r39 - ((r23 / 256) % 2))), I (min p0.rows (r39 + ((r23 / 512) % 2)))]) (pm2 (ee st rfl) (ee st rfl)) (by kernel_rfl)) <| wd rfl (fun st => x_fieldAddr (ee st rfl) (fz_68_3 _ _)) ?_
    have kb25_10_18 : Bk w40 bb25_10 68 #[I (r23 % p0.wd), I ((r23 / 4) % p0.rows), I (((r23 / 4) % p0.rows) + ((r23 / 32) % (p0.rows - ((r23 / 4) % p0.rows)))), I 0, I 0] := (sb38.bk.ext hx39)
    refine wl_ex0 rfl rfl (fun st => x_store (n := 2) (l := [I (max (0 : Int) (r39 - ((r23 / 256) % 2))), I (min p0.rows (r39 + ((r23 / 512) % 2)))]) (cs' := #[I (r23 % p0.wd), I ((r23 / 4) % p0.rows), I (((r23 / 4) % p0.rows) + ((r23 / 32) % (p0.rows - ((r23 / 4) % p0.rows)))), I (max (0 : Int) (r39 - ((r23 / 256) % 2))), I (min p0.rows (r39 + ((r23 / 512) % 2)))]) (ee st rfl) (ee st rfl) sz_23 kb25_10_18 rfl rfl (show 3 + 2 ≤ 5 by decide) (one_cells rfl) rfl) ?_
    rintro _ w50 sb50
    have hp19 : Hp w [some bb25_10, ob As16_b84, some b8, some b2, some b1] w50 := hp18.gr sb50.gr (hp18.ge 0 rfl)
    refine wl_end <| lv_next <| cc_region <| wd rfl (fun st => x_fieldAddr (ee st hs16_9) (fz_26_3 _ _)) ?_
    have bk8_19 : Bk w50 b8 26 #[I p0.rows, I p0.wd, I (min p0.lo r11), I (max p0.hi r11), .slice As16_b84 s16_b84.length Cs16_b84] := ((((((((f16_bk8.ext hx18).ext hx23).ext hx25).gr sb31.gr (hp14.ne 2 0 rfl rfl rfl)).ext hx32).gr sb38.gr (hp16.ne 2 0 rfl rfl rfl)).ext hx39).gr sb50.gr (hp18.ne 2 0 rfl rfl rfl))
    refine wd rfl (fun st => x_load1 (v := .slice As16_b84 s16_b84.length Cs16_b84) one_24 (ee st rfl) bk8_19 rfl) <| wd rfl (fun st => x_loadn (l := [I (r23 % p0.wd), I ((r23 / 4) % p0.rows), I (((r23 / 4) % p0.rows) + ((r23 / 32) % (p0.rows - ((r23 / 4) % p0.rows)))), I (max (0 : Int) (r39 - ((r23 / 256) % 2))), I (min p0.rows (r39 + ((r23 / 512) % 2)))]) agg_68 (ee st rfl) sb50.bk rfl rfl) <| we rfl (fun st => x_buildSlice (e := 68) (vs := #[(0, .agg #[I (r23 % p0.wd), I ((r23 / 4) % p0.rows), I (((r23 / 4) % p0.rows) + ((r23 / 32) % (p0.rows - ((r23 / 4) % p0.rows)))), I (max (0 : Int) (r39 - ((r23 / 256) % 2))), I (min p0.rows (r39 + ((r23 / 512) % 2)))])]) (cs := #[I (r23 % p0.wd), I ((r23 / 4) % p0.rows), I (((r23 / 4) % p0.rows) + ((r23 / 32) % (p0.rows - ((r23 / 4) % p0.rows)))), I (max (0 : Int) (r39 - ((r23 / 256) % 2))), I (min p0.rows (r39 + ((r23 / 512) % 2)))]) (pm1 (ee st rfl)) (by kernel_rfl)) ?_
    rintro _ w51 ⟨b51, rfl, nb51⟩
    have hp20 : Hp w [some b51, some bb25_10, ob As16_b84, some b8, some b2, some b1] w51 := hp19.new nb51.gr (Nat.le_of_eq nb51.b_eq.symm) (Nat.lt_of_lt_of_eq (Nat.lt_succ_self _) nb51.sz.symm)
    have Hs16_b84_20 : OwnR eTly 68 w w51 (ZZ Z w.heap.size [some b51, some bb25_10, ob As16_b84, some b8, some b2, some b1]) As16_b84 Cs16_b84 s16_b84 := (((((((((f16_Hs16_b84.ext hx18 (mv_ext hx18)).ext hx23 (mv_ext hx23)).ext hx25 (mv_new hx25 lobb25_10)).gr sb31.gr (fun k hk => hp14.ne 1 0 rfl (congrArg some hk) rfl) (hp14.mv0 sb31.gr 0 rfl)).ext hx32 (mv_ext hx32)).gr sb38.gr (fun k hk => hp16.ne 1 0 rfl (congrArg some hk) rfl) (hp16.mv0 sb38.gr 0 rfl)).ext hx39 (mv_ext hx39)).gr sb50.gr (fun k hk => hp18.ne 1 0 rfl (congrArg some hk) rfl) (hp18.mv0 sb50.gr 0 rfl)).ext nb51.gr (mv_new nb51.gr (Nat.le_of_eq nb51.b_eq.symm)))
    replace hG := ifo_bind hG; obtain ⟨hf52, hG⟩ := hG
    refine we rfl (fun st => x_appR (ys := [(⟨r23 % p0.wd, (r23 / 4) % p0.rows, ((r23 / 4) % p0.rows) + ((r23 / 32) % (p0.rows - ((r23 / 4) % p0.rows))), max (0 : Int) (r39 - ((r23 / 256) % 2)), min p0.rows (r39 + ((r23 / 512) % 2))⟩ : Tly)]) Try.underlying24 info_68 rfl rfl (by decide) (ee st rfl) rfl (ee st rfl) Hs16_b84_20 (news_bk (css := [[I (r23 % p0.wd), I ((r23 / 4) % p0.rows), I (((r23 / 4) % p0.rows) + ((r23 / 32) % (p0.rows - ((r23 / 4) % p0.rows)))), I (max (0 : Int) (r39 - ((r23 / 256) % 2))), I (min p0.rows (r39 + ((r23 / 512) % 2)))]]) nb51.bk ⟨rfl, trivial⟩ rfl) (by have := hf52; simp only [maxLen]; omega) (by have := hf52; omega) hp20.bl.size (by simp)) ?_
    rintro _ w53 ⟨A53, c53, rfl, hg53, hy53, hO53⟩
    have hp21 : Hp w [some b51, some bb25_10, ob A53, some b8, some b2, some b1] w53 := hp20.row hg53 2 rfl (hp20.ge 2 rfl) hy53
    have hR53 : OwnR eTly 68 w w53 (ZZ Z w.heap.size [some b51, some bb25_10, ob A53, some b8, some b2, some b1]) A53 c53 (s16_b84 ++ [(⟨r23 % p0.wd, (r23 / 4) % p0.rows, ((r23 / 4) % p0.rows) + ((r23 / 32) % (p0.rows - ((r23 / 4) % p0.rows))), max (0 : Int) (r39 - ((r23 / 256) % 2)), min p0.rows (r39 + ((r23 / 512) % 2))⟩ : Tly)]) := ownR_of hO53 (hp20.mvr hg53 2 rfl (fun k hk => (hy53 k hk).1))
    refine wd rfl (fun st => x_fieldAddr (ee st hs16_9) (fz_26_3 _ _)) ?_
    have bk8_21 : Bk w53 b8 26 #[I p0.rows, I p0.wd, I (min p0.lo r11), I (max p0.hi r11), .slice As16_b84 s16_b84.length Cs16_b84] := ((bk8_19.ext nb51.gr).gr hg53 (hp20.ne 3 2 rfl rfl rfl))
    refine wl_ex0 rfl rfl (fun st => x_store (n := 1) (l := [.slice A53 ((s16_b84 ++ [(⟨r23 % p0.wd, (r23 / 4) % p0.rows, ((r23 / 4) % p0.rows) + ((r23 / 32) % (p0.rows - ((r23 / 4) % p0.rows))), max (0 : Int) (r39 - ((r23 / 256) % 2)), min p0.rows (r39 + ((r23 / 512) % 2))⟩ : Tly)]).length) c53]) (cs' := #[I p0.rows, I p0.wd, I (min p0.lo r11), I (max p0.hi r11), .slice A53 ((s16_b84 ++ [(⟨r23 % p0.wd, (r23 / 4) % p0.rows, ((r23 / 4) % p0.rows) + ((r23 / 32) % (p0.rows - ((r23 / 4) % p0.rows))), max (0 : Int) (r39 - ((r23 / 256) % 2)), min p0.rows (r39 + ((r23 / 512) % 2))⟩ : Tly)]).length) c53]) (ee st rfl) (ee st rfl) sz_24 bk8_21 rfl rfl (show 4 + 1 ≤ 5 by decide) (one_cells rfl) rfl) ?_
    rintro _ w54 sb54
    have hp22 : Hp w [some b51, some bb25_10, ob A53, some b8, some b2, some b1] w54 := hp21.gr sb54.gr (hp21.ge 3 rfl)
    refine wl_end <| lv_block <| lv_next <| cc_region <| wm rfl (v := I s16_11) hs16_11 ?_
    replace hG := i64_bind hG; obtain ⟨hf55, hG⟩ := hG
    refine wd rfl (fun st => x_add (ee st rfl) (ee st rfl) hf55) <| wa rfl (v := I (s16_11 + 1)) rfl <| wl_end ?_
    have hp23 : Hp w [some bb25_10, ob A53, some b8, some b2, some b1] w54 := hp22.erase 0
    have hp24 : Hp w [ob A53, some b8, some b2, some b1] w54 := hp23.erase 0
    have hR53_24 : OwnR eTly 68 w w54 (ZZ Z w.heap.size [ob A53, some b8, some b2, some b1]) A53 c53 (s16_b84 ++ [(⟨r23 % p0.wd, (r23 / 4) % p0.rows, ((r23 / 4) % p0.rows) + ((r23 / 32) % (p0.rows - ((r23 / 4) % p0.rows))), max (0 : Int) (r39 - ((r23 / 256) % 2)), min p0.rows (r39 + ((r23 / 512) % 2))⟩ : Tly)]) := (((hR53.gr sb54.gr (fun k hk => hp21.ne 2 3 rfl (congrArg some hk) rfl) (hp21.mv0 sb54.gr 3 rfl)).up (mv_erase 0)).up (mv_erase 0))
    have bk1_24 : Bk w54 b1 26 #[I p0.rows, I p0.wd, I p0.lo, I p0.hi, .slice A0_0 p0.ts.length c0_0] := ((((bk1_18.gr sb50.gr (hp18.ne 4 0 rfl rfl rfl)).ext nb51.gr).gr hg53 (hp20.ne 5 2 rfl rfl rfl)).gr sb54.gr (hp21.ne 5 3 rfl rfl rfl))
    have bk2_24 : Bk w54 b2 26 #[I 0, I 0, I 0, I 0, .slice none 0 0] := (((((((((((f16_bk2.ext hx18).ext hx23).ext hx25).gr sb31.gr (hp14.ne 3 0 rfl rfl rfl)).ext hx32).gr sb38.gr (hp16.ne 3 0 rfl rfl rfl)).ext hx39).gr sb50.gr (hp18.ne 3 0 rfl rfl rfl)).ext nb51.gr).gr hg53 (hp20.ne 4 2 rfl rfl rfl)).gr sb54.gr (hp21.ne 4 3 rfl rfl rfl))
    have bk8_24 : Bk w54 b8 26 #[I p0.rows, I p0.wd, I (min p0.lo r11), I (max p0.hi r11), .slice A53 ((s16_b84 ++ [(⟨r23 % p0.wd, (r23 / 4) % p0.rows, ((r23 / 4) % p0.rows) + ((r23 / 32) % (p0.rows - ((r23 / 4) % p0.rows))), max (0 : Int) (r39 - ((r23 / 256) % 2)), min p0.rows (r39 + ((r23 / 512) % 2))⟩ : Tly)]).length) c53] := sb54.bk
    have hS0_0_24 : Sl eTly w54 (ZZ Z w.heap.size [ob A53, some b8, some b2, some b1]) A0_0 c0_0 p0.ts := (((((((((((((f16_hS0_0.mv (mv_ext hx18)).mv (mv_ext hx23)).mv (mv_new hx25 lobb25_10)).mv (hp14.mv0 sb31.gr 0 rfl)).mv (mv_ext hx32)).mv (hp16.mv0 sb38.gr 0 rfl)).mv (mv_ext hx39)).mv (hp18.mv0 sb50.gr 0 rfl)).mv (mv_new nb51.gr (Nat.le_of_eq nb51.b_eq.symm))).mv (hp20.mvr hg53 2 rfl (fun k hk => (hy53 k hk).1))).mv (hp21.mv0 sb54.gr 3 rfl)).mv (mv_erase 0)).mv (mv_erase 0))
    have hS2_0_24 : Sl (eInt .u16) w54 (ZZ Z w.heap.size [ob A53, some b8, some b2, some b1]) A2_0 c2_0 p2 := ((((((((((((hS2_0_11.mv (mv_ext hx23)).mv (mv_new hx25 lobb25_10)).mv (hp14.mv0 sb31.gr 0 rfl)).mv (mv_ext hx32)).mv (hp16.mv0 sb38.gr 0 rfl)).mv (mv_ext hx39)).mv (hp18.mv0 sb50.gr 0 rfl)).mv (mv_new nb51.gr (Nat.le_of_eq nb51.b_eq.symm))).mv (hp20.mvr hg53 2 rfl (fun k hk => (hy53 k hk).1))).mv (hp21.mv0 sb54.gr 3 rfl)).mv (mv_erase 0)).mv (mv_erase 0))
    have hS7_r_24 : Sl (eInt .i64) w54 (ZZ Z w.heap.size [ob A53, some b8, some b2, some b1]) A7_r c7_r r7 := (((((((hS7_r_17.mv (mv_ext hx39)).mv (hp18.mv0 sb50.gr 0 rfl)).mv (mv_new nb51.gr (Nat.le_of_eq nb51.b_eq.symm))).mv (hp20.mvr hg53 2 rfl (fun k hk => (hy53 k hk).1))).mv (hp21.mv0 sb54.gr 3 rfl)).mv (mv_erase 0)).mv (mv_erase 0))
    refine lv_round m_ (Nat.lt_succ_self _) (fun st => ?_)
    exact ⟨(s16_11 + 1), (s16_b84 ++ [(⟨r23 % p0.wd, (r23 / 4) % p0.rows, ((r23 / 4) % p0.rows) + ((r23 / 32) % (p0.rows - ((r23 / 4) % p0.rows))), max (0 : Int) (r39 - ((r23 / 256) % 2)), min p0.rows (r39 + ((r23 / 512) % 2))⟩ : Tly)]), A53, c53, hG, (puts_size _ _).trans st.sz, (puts_defers _ _).trans st.df, (sl_puts st 2).trans hs16_2, (sl_puts st 3).trans hs16_3, (sl_puts st 6).trans hs16_6, (sl_puts st 8).trans hs16_8, (sl_puts st 9).trans hs16_9, (sl_puts st 11).trans rfl, hp24, hR53_24, bk1_24, bk2_24, bk8_24, hS0_0_24, hS2_0_24, hS7_r_24⟩
   ·replace hG := cond_f hG hc21
    refine cc_cond_f rfl hc21 <| cc_exit <| lv_then_exit <| lv_then_exit ?_
    obtain rfl := Option.some.inj hG
    have Hs16_b84_11 : OwnR eTly 68 w w19 (ZZ Z w.heap.size [ob As16_b84, some b8, some b2, some b1]) As16_b84 Cs16_b84 s16_b84 := (f16_Hs16_b84.ext hx18 (mv_ext hx18))
    have bk2_11 : Bk w19 b2 26 #[I 0, I 0, I 0, I 0, .slice none 0 0] := (f16_bk2.ext hx18)
    have bk8_11 : Bk w19 b8 26 #[I p0.rows, I p0.wd, I (min p0.lo r11), I (max p0.hi r11), .slice As16_b84 s16_b84.length Cs16_b84] := (f16_bk8.ext hx18)
    have hS7_r_11 : Sl (eInt .i64) w19 (ZZ Z w.heap.size [ob As16_b84, some b8, some b2, some b1]) A7_r c7_r r7 := (f16_hS7_r.mv (mv_ext hx18))
    refine lv_to (fun st => ?_)
    exact ⟨rfl, As16_b84, Cs16_b84, (puts_size _ _).trans st.sz, (puts_defers _ _).trans st.df, (sl_puts st 6).trans hs16_6, (sl_puts st 8).trans hs16_8, (sl_puts st 9).trans hs16_9, hp11, Hs16_b84_11, bk2_11, bk8_11, hS7_r_11⟩
 case af16 =>
  rintro e_ fr16a w16a (⟨rfl, Ae16_0_b84, Ce16_0_b84, hsz16a, hdf16a, hs16a_6, hs16a_8, hs16a_9, hp16a, g16_He16_0_b84, g16_bk2, g16_bk8, g16_hS7_r⟩)
  refine lv_fr (X := X0) (N := 106) hsz16a hdf16a <| lv_block_hit <| lv_next <| cc_seq <| cc_region <| wd rfl (fun st => x_loadn (l := [I p0.rows, I p0.wd, I (min p0.lo r11), I (max p0.hi r11), .slice Ae16_0_b84 z16.length Ce16_0_b84]) agg_26 (ee st hs16a_9) g16_bk8 rfl rfl) <| wm rfl (v := .slice A7_r r7.length c7_r) hs16a_8 <| wl_ex0 rfl rfl (fun st => x_store (n := 5) (l := [I p0.rows, I p0.wd, I (min p0.lo r11), I (max p0.hi r11), .slice Ae16_0_b84 z16.length Ce16_0_b84]) (cs' := #[I p0.rows, I p0.wd, I (min p0.lo r11), I (max p0.hi r11), .slice Ae16_0_b84 z16.length Ce16_0_b84]) (ee st hs16a_6) (ee st rfl) sz_26 g16_bk2 rfl rfl (show 0 + 5 ≤ 5 by decide) (one_cells rfl) rfl) ?_
  rintro _ w56 sb56
  have hp26 : Hp w [ob Ae16_0_b84, some b8, some b2, some b1] w56 := hp16a.gr sb56.gr (hp16a.ge 2 rfl)
  refine wa rfl (v := .slice A7_r r7.length c7_r) rfl <| wl_end <| lv_next <| cc_ret ?_
  obtain rfl := Option.some.inj hG
  refine lv_retm2 (N := 106) (v := .agg #[I p0.rows, I p0.wd, I (min p0.lo r11), I (max p0.hi r11), .slice Ae16_0_b84 z16.length Ce16_0_b84]) (v' := .slice A7_r r7.length c7_r) rfl ⟨_, hs16a_6, run_loadn_bk agg_26 sb56.bk rfl rfl⟩ rfl ?_
  have He16_0_b84_26 : OwnR eTly 68 w w56 (ZZ Z w.heap.size [ob Ae16_0_b84, some b8, some b2, some b1]) Ae16_0_b84 Ce16_0_b84 z16 := (g16_He16_0_b84.gr sb56.gr (fun k hk => hp16a.ne 0 2 rfl (congrArg some hk) rfl) (hp16a.mv0 sb56.gr 2 rfl))
  have hS7_r_26 : Sl (eInt .i64) w56 (ZZ Z w.heap.size [ob Ae16_0_b84, some b8, some b2, some b1]) A7_r c7_r r7 := (g16_hS7_r.mv (hp16a.mv0 sb56.gr 2 rfl))
  exact ⟨hp26.fin, _, _, rfl, ⟨_, rfl, _, _, rfl, He16_0_b84_26.fin⟩, ⟨_, _, rfl, hS7_r_26.mv mv_drop⟩⟩
end Go.Proofs.Ythogdgkafaclaaa
end
section
namespace Go.Proofs.Ythogdgkafaclaaa
open Go.RowKit
section
variable {α : Type} {e : Enc α} {w w' : World} {Z : Nat → Prop} {A : Option Addr} {c : Nat} {xs : List α}
theorem r2_map (g : α → List Value) (h : ∀ x, e.R w Z (g x) x) : ∀ xs : List α, R2 e w Z (xs.map g) xs
  | [] => trivial
  | x :: xs => ⟨h x, r2_map g h xs⟩
theorem r2_eq {g : α → List Value} (h : ∀ cs x, e.R w Z cs x → cs = g x) : ∀ {css : List (List Value)} {xs : List α}, R2 e w Z css xs → css = xs.map g
  | [], [], _ => rfl
  | c :: cs, x :: xs, hh => by rw [h c x hh.1, r2_eq h hh.2]; rfl
  | [], _ :: _, hh => hh.elim
  | _ :: _, [], hh => hh.elim
theorem sl_rd {g : α → List Value} (h : ∀ cs x, e.R w Z cs x → cs = g x) (hs : Sl e w Z A c xs) : Rd w 0 w.heap.size A (flat g xs) := by
  obtain ⟨_, _, css, h1, h2⟩ := hs
  have := h2.rd
  rw [r2_eq h h1] at this
  simpa [flat, List.flatMap] using this
theorem sl_own {g : α → List Value} {t sz : Nat} (hsz : e.sz = sz) (h : ∀ x, e.R w' (ZZ Z w.heap.size []) (g x) x) (ho : OwnS w' w.heap.size t sz A xs.length c (flat g xs)) : Sl e w' (ZZ Z w.heap.size []) A c xs := by
  subst hsz
  have : OwnR e t w w' (ZZ Z w.heap.size []) A c xs := ⟨xs.map g, r2_map g h xs, by simpa [flat, List.flatMap] using ho⟩
  exact this.sl fun k _ hk => .inr ⟨hk, by simp⟩
end
theorem flat_one : ∀ xs : List Int, flat (fun x : Int => [Value.int .i64 x]) xs = ivs xs
  | [] => rfl
  | x :: xs => by
    have ih := flat_one xs
    unfold flat ivs at *
    rw [List.flatMap_cons, ih]; rfl
theorem sl_int {w : World} {Z : Nat → Prop} {A : Option Addr} {c : Nat} {xs : List Int} (hs : Sl (eInt .i64) w Z A c xs) : Rd w 0 w.heap.size A (ivs xs) := by
  have := sl_rd (g := fun x => [.int .i64 x]) (fun _ _ h => h) hs
  rwa [flat_one] at this
theorem sl_owni {w w' : World} {Z : Nat → Prop} {A : Option Addr} {c : Nat} {xs : List Int} (ho : OwnS w' w.heap.size 3 1 A xs.length c (ivs xs)) : Sl (eInt .i64) w' (ZZ Z w.heap.size []) A c xs := by
  refine sl_own (g := fun x => [.int .i64 x]) rfl (fun _ => rfl) (t := 3) ?_
  rw [flat_one]; exact ho
abbrev fv (f : Fld) (A : Option Addr) (c : Nat) : Value := .agg #[.int .i64 f.rows, .int .i64 f.wd, .int .i64 f.lo, .int .i64 f.hi, .slice A f.ts.length c]
theorem slT {w : World} {Z : Nat → Prop} {A : Option Addr} {c : Nat} {ts : List Tly} (hs : Sl eTly w Z A c ts) : Rd w 0 w.heap.size A (flat encT ts) := sl_rd (g := encT) (fun _ _ h => h) hs
attribute [local irreducible] Ret
section
variable (K_ : Nat) (f : Fld)
theorem a51 (A : Option Addr) (c : Nat) (Z : Nat → Prop) (w : World) (hS : Sl eTly w Z A c f.ts) (r_ : Int) (hG : Q_Check K_ f = some r_) :
    Ret Try.prog 51 #[fv f A c] w (fun v w' => Ext w w' ∧ (vInt .i64).R w' (ZZ Z w.heap.size []) v r_) := by
  obtain rfl := Option.some.inj hG
  exact (c51 f A c w (slT hS)).mono fun v w' h => ⟨h.2, h.1⟩
theorem a22 (A : Option Addr) (c : Nat) (Z : Nat → Prop) (w : World) (hS : Sl eTly w Z A c f.ts) (r_ : List (Int × Int) × Int) (hG : Q_Done K_ f = some r_) :
    Ret Try.prog 22 #[fv f A c] w (fun v w' => Ext w w' ∧ (vT2 (vSl eR) (vInt .i64)).R w' (ZZ Z w.heap.size []) v r_) := by
  obtain rfl := Option.some.inj hG
  refine (c22 f A c w (slT hS)).mono ?_
  rintro v w' ⟨hx, h1, h2⟩
  refine ⟨hx, ?_⟩
  by_cases h0 : askE f true = 0
  · rw [if_pos h0]
    obtain ⟨A2, c2, rfl, hO⟩ := h2 h0
    have hl : (donesTo f (truths f []) f.wd.toNat).length = f.wd.toNat := by simp [donesTo]
    exact ⟨_, _, rfl, ⟨A2, c2, by rw [hl], sl_own (g := encR) (t := 33) rfl (fun _ => rfl) (by rw [hl]; exact hO)⟩, rfl⟩
  · rw [if_neg h0, h1 h0]
    exact ⟨_, _, rfl, ⟨none, 0, rfl, Sl.nil _ _ _⟩, rfl⟩
theorem a27 (row : Int) (A : Option Addr) (c : Nat) (Z : Nat → Prop) (w : World) (hS : Sl eTly w Z A c f.ts) (r_ : List Int × Int) (hG : Q_Who K_ f row = some r_) :
    Ret Try.prog 27 #[fv f A c, .int .i64 row] w (fun v w' => Ext w w' ∧ (vT2 (vSl (eInt .i64)) (vInt .i64)).R w' (ZZ Z w.heap.size []) v r_) := by
  obtain rfl := Option.some.inj hG
  refine (c27 f A c row w (slT hS)).mono ?_
  rintro v w' ⟨hx, h1, h2⟩
  refine ⟨hx, ?_⟩
  by_cases h0 : askE f (inR row 0 (f.rows - 1)) = 0
  · rw [if_pos h0]
    obtain ⟨A2, c2, rfl, hO⟩ := h2 h0
    exact ⟨_, _, rfl, ⟨A2, c2, rfl, sl_owni hO⟩, rfl⟩
  · rw [if_neg h0, h1 h0]
    exact ⟨_, _, rfl, ⟨none, 0, rfl, Sl.nil _ _ _⟩, rfl⟩
theorem a42 (n : Int) (A : Option Addr) (c : Nat) (Z : Nat → Prop) (w : World) (hS : Sl eTly w Z A c f.ts) (r_ : List Int × Int) (hG : Q_Ask K_ f n = some r_) :
    Ret Try.prog 42 #[fv f A c, .int .i64 n] w (fun v w' => Ext w w' ∧ (vT2 (vSl (eInt .i64)) (vInt .i64)).R w' (ZZ Z w.heap.size []) v r_) := by
  obtain rfl := Option.some.inj hG
  refine (c42 f A c n w (slT hS)).mono ?_
  rintro v w' ⟨hx, h1, h2⟩
  refine ⟨hx, ?_⟩
  by_cases h0 : askE f (whoB f n) = 0
  · rw [if_pos h0]
    obtain ⟨A2, c2, rfl, hO⟩ := h2 h0
    exact ⟨_, _, rfl, ⟨A2, c2, rfl, sl_owni hO⟩, rfl⟩
  · rw [if_neg h0, h1 h0]
    exact ⟨_, _, rfl, ⟨none, 0, rfl, Sl.nil _ _ _⟩, rfl⟩
theorem a35 (A : Option Addr) (c : Nat) (Z : Nat → Prop) (w : World) (hS : Sl eTly w Z A c f.ts) (r_ : List Int × Int) (hG : Q_Leave K_ f = some r_) :
    Ret Try.prog 35 #[fv f A c] w (fun v w' => Ext w w' ∧ (vT2 (vSl (eInt .i64)) (vInt .i64)).R w' (ZZ Z w.heap.size []) v r_) := by
  obtain rfl := Option.some.inj hG
  refine (c35 f A c w (slT hS)).mono ?_
  rintro v w' ⟨hx, h1, h2⟩
  refine ⟨hx, ?_⟩
  by_cases h0 : check f = 0
  · rw [if_pos h0]
    obtain ⟨A2, c2, rfl, hO⟩ := h2 h0
    exact ⟨_, _, rfl, ⟨A2, c2, rfl, sl_owni hO⟩, rfl⟩
  · rw [if_neg h0, h1 h0]
    exact ⟨_, _, rfl, ⟨none, 0, rfl, Sl.nil _ _ _⟩, rfl⟩
theorem a32 (n : Int) (A : Option Addr) (c : Nat) (Z : Nat → Prop) (w : World) (hS : Sl eTly w Z A c f.ts) (r_ : Int × Int × Int) (hG : Q_Next K_ f n = some r_) :
    Ret Try.prog 32 #[fv f A c, .int .i64 n] w (fun v w' => Ext w w' ∧ (vT3 (vInt .i64) (vInt .i64) (vInt .i64)).R w' (ZZ Z w.heap.size []) v r_) := by
  obtain rfl := Option.some.inj hG
  refine (c32 f A c n w (slT hS)).mono ?_
  rintro v w' ⟨hx, h1, h2⟩
  refine ⟨hx, ?_⟩
  by_cases h0 : askE f (whoB f n) = 0
  · rw [if_pos h0, h2 h0]
    exact ⟨_, _, _, rfl, rfl, rfl, rfl⟩
  · rw [if_neg h0, h1 h0]
    exact ⟨_, _, _, rfl, rfl, rfl, rfl⟩
theorem a34 (A : Option Addr) (c : Nat) (Z : Nat → Prop) (w : World) (hS : Sl eTly w Z A c f.ts) (r_ : Int × Int) (hG : Q_First K_ f = some r_) :
    Ret Try.prog 34 #[fv f A c] w (fun v w' => Ext w w' ∧ (vT2 (vInt .i64) (vInt .i64)).R w' (ZZ Z w.heap.size []) v r_) := by
  obtain rfl := Option.some.inj hG
  refine (c34 f A c w hS.1 (slT hS)).mono ?_
  rintro v w' ⟨hx, h1, h2⟩
  refine ⟨hx, ?_⟩
  by_cases h0 : check f = 0
  · rw [if_pos h0, h2 h0]
    cases firstF f with
    | none => exact ⟨_, _, rfl, rfl, rfl⟩
    | some i => exact ⟨_, _, rfl, rfl, rfl⟩
  · rw [if_neg h0, h1 h0]
    exact ⟨_, _, rfl, rfl, rfl⟩
theorem a52 (xs : List Int) (A : Option Addr) (c : Nat) (B : Option Addr) (d : Nat) (Z : Nat → Prop) (w : World) (hS : Sl eTly w Z A c f.ts) (hX : Sl (eInt .i64) w Z B d xs) (r_ : Bool) (hG : Q_ProveTruth K_ f xs = some r_) :
    Ret Try.prog 52 #[fv f A c, .slice B xs.length d] w (fun v w' => Ext w w' ∧ vBool.R w' (ZZ Z w.heap.size []) v r_) := by
  replace hG := ifo_bind hG
  obtain ⟨hl, hG⟩ := hG
  obtain rfl := Option.some.inj hG
  exact (c52 f A c xs B d w (by omega) (slT hS) (sl_int hX)).mono fun v w' h => ⟨h.2, h.1⟩
theorem a57 (n : Int) (rows : List Int) (A : Option Addr) (c : Nat) (B : Option Addr) (d : Nat) (Z : Nat → Prop) (w : World) (hS : Sl eTly w Z A c f.ts) (hX : Sl (eInt .i64) w Z B d rows) (r_ : Bool) (hG : Q_ProveAsk K_ f n rows = some r_) :
    Ret Try.prog 57 #[fv f A c, .int .i64 n, .slice B rows.length d] w (fun v w' => Ext w w' ∧ vBool.R w' (ZZ Z w.heap.size []) v r_) := by
  replace hG := ifo_bind hG
  obtain ⟨hl, hG⟩ := hG
  obtain rfl := Option.some.inj hG
  exact (c57 f A c n rows B d w (by omega) (slT hS) (sl_int hX)).mono fun v w' h => ⟨h.2, h.1⟩
end
end Go.Proofs.Ythogdgkafaclaaa
end
