import Derived.Test.YthogdgkafaclaaaBD5
import Derived.ProofKit
import Derived.ChangeSame
import Derived.SizedLaws
import Derived.Deep.Slices
import Derived.Test.YthogdgkafaclaaaProg
import Derived.Test.YthogdgkafaclaaaRows
/-
  Proved: the law WeedNames returns true for every argument that the row hands over, and leaves every argument as it was; no condition beside the row's own.
-/
set_option linter.all false
section
namespace Go.Proofs.Ythogdgkafaclaaa
theorem bd {α β : Type} {x : Option α} {a : α} {f : α → Option β} (h : x = some a) : x.bind f = f a := by rw [h]; rfl
theorem ifob {β : Type} {p : Prop} [Decidable p] {f : Unit → Option β} (h : p) : (ifo p).bind f = f () := bd (if_pos h)
theorem ct {α : Type} {b : Bool} {x y : α} (h : b = true) : cond b x y = x := by rw [h]; rfl
theorem cf {α : Type} {b : Bool} {x y : α} (h : b = false) : cond b x y = y := by rw [h]; rfl
theorem nt {α : Type} {x y : α} : cond (!true) x y = y := rfl
end Go.Proofs.Ythogdgkafaclaaa
end
section
namespace Go.Proofs.Ythogdgkafaclaaa
theorem mem_whos {wd x : Int} (hw : 0 ≤ wd) : x ∈ whos wd ↔ -1 ≤ x ∧ x ≤ wd - 1 := by
  simp only [whos, List.mem_map, List.mem_range]
  constructor
  · rintro ⟨j, hj, rfl⟩; omega
  · intro h; exact ⟨(x + 1).toNat, by omega, by omega⟩
end Go.Proofs.Ythogdgkafaclaaa
end
section
namespace Go.Proofs.Ythogdgkafaclaaa
theorem sorted_ext : ∀ {l m : List Int}, l.Pairwise (· < ·) → m.Pairwise (· < ·) → (∀ x, x ∈ l ↔ x ∈ m) → l = m
  | [], [], _, _, _ => rfl
  | [], b :: m, _, _, h => by have := (h b).2 (List.mem_cons_self ..); cases this
  | a :: l, [], _, _, h => by have := (h a).1 (List.mem_cons_self ..); cases this
  | a :: l, b :: m, h1, h2, h => by
    rw [List.pairwise_cons] at h1 h2
    have hab : a = b := by
      rcases List.mem_cons.1 ((h a).1 (List.mem_cons_self ..)) with e | e
      · exact e
      · rcases List.mem_cons.1 ((h b).2 (List.mem_cons_self ..)) with e2 | e2
        · exact e2.symm
        · have := h1.1 b e2; have := h2.1 a e; omega
    subst hab
    congr 1
    refine sorted_ext h1.2 h2.2 fun x => ⟨fun hx => ?_, fun hx => ?_⟩
    · rcases List.mem_cons.1 ((h x).1 (List.mem_cons_of_mem _ hx)) with e | e
      · have := h1.1 x hx; omega
      · exact e
    · rcases List.mem_cons.1 ((h x).2 (List.mem_cons_of_mem _ hx)) with e | e
      · have := h2.1 x hx; omega
      · exact e
theorem getI {zs : List Int} {m : Nat} (h : m < zs.length) : zs.toArray[m]! = zs[m] := by
  rw [getElem!_pos zs.toArray m (by simpa using h)]; simp
theorem compact_inv {zs : List Int} (hs : zs.Pairwise (· ≤ ·)) : ∀ m, m ≤ zs.length → (Lib.compactUpTo zs.toArray m).Pairwise (· < ·) ∧ ∀ x, x ∈ Lib.compactUpTo zs.toArray m ↔ x ∈ zs.take m
  | 0, _ => by simp [Lib.compactUpTo]
  | m + 1, h => by
    obtain ⟨h1, h2⟩ := compact_inv hs m (by omega)
    have hm : m < zs.length := by omega
    rw [Lib.compactUpTo_succ, List.take_succ_eq_append_getElem hm, getI hm]
    have hle : ∀ x ∈ zs.take m, x ≤ zs[m] := fun x hx => by
      obtain ⟨i, hi, rfl⟩ := List.mem_iff_getElem.1 hx
      rw [List.getElem_take]
      simp at hi
      exact (List.pairwise_iff_getElem.1 hs) i m _ hm (by omega)
    by_cases hk : Lib.keeps zs.toArray m = true
    · rw [if_pos hk]
      refine ⟨?_, fun x => by rw [List.mem_append, List.mem_append, h2]⟩
      rw [List.pairwise_append]
      refine ⟨h1, by simp, fun x hx y hy => ?_⟩
      obtain rfl : y = zs[m] := by simpa using hy
      have hx2 := (h2 x).1 hx
      have hx3 := hle x hx2
      simp only [Lib.keeps, decide_eq_true_eq] at hk
      rcases hk with rfl | hk
      · simp at hx2
      · have hm1 : 0 < m := by
          rcases Nat.eq_zero_or_pos m with rfl | h0
          · simp at hx2
          · exact h0
        rw [getI hm, getI (by omega : m - 1 < zs.length)] at hk
        obtain ⟨i, hi, rfl⟩ := List.mem_iff_getElem.1 hx2
        rw [List.getElem_take] at hx3 ⊢
        simp at hi
        have h5 : zs[m - 1] ≤ zs[m] := (List.pairwise_iff_getElem.1 hs) (m - 1) m _ hm (by omega)
        have h4 : zs[i] ≤ zs[m - 1] := by
          by_cases e : i = m - 1
          · subst e; exact Int.le_refl _
          · exact (List.pairwise_iff_getElem.1 hs) i (m - 1) _ _ (by omega)
        have h6 : zs[m] ≠ zs[m - 1] := hk
        show zs[i] < zs[m]
        omega
    · rw [if_neg hk, List.append_nil]
      refine ⟨h1, fun x => ?_⟩
      rw [h2]
      have hk2 : ¬ (m = 0 ∨ zs.toArray[m]! ≠ zs.toArray[m - 1]!) := by simpa [Lib.keeps] using hk
      have hm1 : 0 < m := by
        rcases Nat.eq_zero_or_pos m with rfl | h0
        · exact absurd (.inl rfl) hk2
        · exact h0
      have he : zs.toArray[m]! = zs.toArray[m - 1]! := Decidable.byContradiction fun e => hk2 (.inr e)
      rw [getI hm, getI (by omega : m - 1 < zs.length)] at he
      have hin : zs[m] ∈ zs.take m := by
        rw [he, List.mem_iff_getElem]
        exact ⟨m - 1, by simp; omega, by simp⟩
      simp only [List.mem_append, List.mem_singleton]
      exact ⟨.inl, fun h => h.elim id fun e => e ▸ hin⟩
theorem whos_sorted (wd : Int) : (whos wd).Pairwise (· < ·) := by
  unfold whos
  rw [List.pairwise_map]
  exact List.pairwise_lt_range.imp fun h => by omega
/-- Who stands in a row of some lists. -/
def whoS (wd : Int) (T : List (List Int)) (row : Nat) : List Int := (whos wd).filter fun x => T.any fun a => a.getD row 0 == x
theorem whoF_eq {wd : Int} {T : List (List Int)} {row : Int} (hw : 0 ≤ wd) (hb : ∀ a ∈ T, -1 ≤ a.getD row.toNat 0 ∧ a.getD row.toNat 0 ≤ wd - 1) : whoF T row = whoS wd T row.toNat := by
  unfold whoF
  have hs : ((T.map fun a : List Int => a.getD row.toNat 0).mergeSort fun x y => decide (x ≤ y)).Pairwise (· ≤ ·) := by
    have := List.pairwise_mergeSort (le := fun x y : Int => decide (x ≤ y)) (fun a b c h1 h2 => by simp at *; omega) (fun a b => by simp; omega) (T.map fun a : List Int => a.getD row.toNat 0)
    exact this.imp fun h => by simpa using h
  obtain ⟨h1, h2⟩ := compact_inv hs _ (Nat.le_refl _)
  refine sorted_ext h1 ((whos_sorted wd).filter _) fun x => ?_
  rw [show Lib.compact ((T.map fun a : List Int => a.getD row.toNat 0).mergeSort fun x y => decide (x ≤ y)) = Lib.compactUpTo ((T.map fun a : List Int => a.getD row.toNat 0).mergeSort fun x y => decide (x ≤ y)).toArray ((T.map fun a : List Int => a.getD row.toNat 0).mergeSort fun x y => decide (x ≤ y)).length from rfl, h2, List.take_length, List.mem_mergeSort]
  unfold whoS
  simp only [List.mem_map, List.mem_filter, mem_whos hw, List.any_eq_true, beq_iff_eq]
  constructor
  · rintro ⟨a, ha, rfl⟩; exact ⟨hb a ha, a, ha, rfl⟩
  · rintro ⟨_, a, ha, e⟩; exact ⟨a, ha, e⟩
def f4 : Fld := ⟨4, 2, 0, 0, [⟨0, 0, 2, 2, 3⟩, ⟨1, 2, 3, 1, 2⟩]⟩
def f5 : Fld := ⟨4, 2, 0, 0, [⟨0, 0, 2, 2, 3⟩, ⟨1, 2, 3, 1, 2⟩, ⟨0, 0, 1, 2, 2⟩]⟩
def f6 : Fld := ⟨4, 2, 0, 0, [⟨0, 0, 2, 2, 3⟩, ⟨1, 2, 3, 1, 2⟩, ⟨1, 0, 1, 2, 2⟩]⟩
theorem who4 : whoF (truths f4 []) 3 = [0, 1] := by
  rw [whoF_eq (wd := 2) (by omega) (by decide +kernel)]
  decide +kernel
theorem awake_1000 : G_awake 1000 = some true := by
  unfold G_awake
  rw [bd (show G_four 1000 [] = some f4 from rfl), bd (show Q_Done 1000 f4 = some ([(2, 3), (1, 2)], 0) by decide +kernel), bd (show G_four 1000 [] = some f4 from rfl)]
  rw [bd (show Q_Who 1000 f4 3 = some ([0, 1], 0) by unfold Q_Who; rw [who4]; decide +kernel)]
  rw [bd (show G_two 1000 = some ⟨0, 0, 1, 2, 2⟩ from rfl), bd (show G_four 1000 [⟨0, 0, 1, 2, 2⟩] = some f5 from rfl), bd (show Q_Ask 1000 f5 0 = some ([2, 3], 0) by decide +kernel), bd (show G_four 1000 [] = some f4 from rfl)]
  rw [bd (show Q_Next 1000 f4 0 = some (0, 3, 0) by decide +kernel), bd (show G_wrong 1000 = some ⟨1, 0, 1, 2, 2⟩ from rfl), bd (show G_four 1000 [⟨1, 0, 1, 2, 2⟩] = some f6 from rfl), bd (show Q_First 1000 f6 = some (2, 0) by decide +kernel)]
  rw [bd (show G_wrong 1000 = some ⟨1, 0, 1, 2, 2⟩ from rfl), bd (show G_four 1000 [⟨1, 0, 1, 2, 2⟩] = some f6 from rfl), bd (show Q_Leave 1000 f6 = some ([0], 0) by decide +kernel)]
  decide +kernel
end Go.Proofs.Ythogdgkafaclaaa
end
section
set_option linter.unusedVariables false
set_option linter.unusedSimpArgs false
namespace Go.Proofs.Ythogdgkafaclaaa
open Go.RowKit
def G_WeedNames (K_ : Nat) : Option (Bool) :=
  (G_four K_ ([] : List Tly)).bind fun r1 => (G_between K_ 0 1).bind fun r5 => (Q_Who K_ (⟨r1.rows, r1.wd, r5.1, r5.2, r1.ts⟩ : Fld) 3).bind fun r8 => (G_four K_ ([] : List Tly)).bind fun r10 => (Q_Ask K_ r10 0).bind fun r12 => (G_two K_).bind fun r14 => (G_four K_ [r14]).bind fun r17 => (Q_Next K_ r17 0).bind fun r19 => (G_four K_ ([] : List Tly)).bind fun r21 => (Q_Leave K_ r21).bind fun r23 => (Q_Next K_ (⟨3, 1, 0, 0, ([] : List Tly)⟩ : Fld) 0).bind fun r28 => cond (r8.2 != 0) (some (false)) ((G_same K_ r8.1 [(-1), 0, 1]).bind fun r32 => cond (!r32) (some (false)) (cond (r12.2 != 0) (some (false)) ((G_same K_ r12.1 [0, 1, 2, 3]).bind fun r39 => cond (!r39) (some (false)) (cond (r19.2.2 != 0) (some (false)) (cond (r19.1 != 2) (some (false)) (cond (r19.2.1 != 2) (some (false)) (cond (r23.2 != 0) (some (false)) (cond ((r23.1.length : Int) != 0) (some (false)) (cond (r28.2.2 != 0) (some (false)) (cond (r28.1 != (-1)) (some (false)) (cond (r28.2.1 != 0) (some (false)) ((G_four K_ ([] : List Tly)).bind fun r52 => (Q_ProveTruth K_ r52 [0, 0, 1, 0]).bind fun r55 => cond (!r55) (some (false)) ((G_four K_ ([] : List Tly)).bind fun r60 => (Q_ProveTruth K_ r60 [0, 0, 0, 0]).bind fun r63 => cond (r63) (some (false)) ((G_four K_ ([] : List Tly)).bind fun r66 => (Q_ProveTruth K_ r66 [0, 0, 0, (-1)]).bind fun r69 => cond (r69) (some (false)) ((G_four K_ ([] : List Tly)).bind fun r72 => (Q_ProveTruth K_ r72 [0, 0, 0]).bind fun r75 => cond (r75) (some (false)) ((G_two K_).bind fun r78 => (G_four K_ [r78]).bind fun r81 => (Q_ProveAsk K_ r81 0 [2, 3]).bind fun r84 => cond (!r84) (some (false)) ((G_two K_).bind fun r89 => (G_four K_ [r89]).bind fun r92 => (Q_ProveAsk K_ r92 0 [2]).bind fun r95 => cond (r95) (some (false)) ((G_two K_).bind fun r98 => (G_four K_ [r98]).bind fun r101 => (Q_ProveAsk K_ r101 0 [3, 2]).bind fun r104 => cond (r104) (some (false)) ((G_two K_).bind fun r107 => (G_four K_ [r107]).bind fun r110 => (Q_ProveAsk K_ r110 2 ([] : List Int)).bind fun r112 => cond (r112) (some (false)) ((G_wrong K_).bind fun r115 => (G_four K_ [r115]).bind fun r118 => (Q_ProveAsk K_ r118 0 ([] : List Int)).bind fun r120 => cond (r120) (some (false)) ((G_wrong K_).bind fun r123 => (G_four K_ [r123]).bind fun r126 => (Q_Who K_ r126 4).bind fun r128 => (G_wrong K_).bind fun r130 => (G_four K_ [r130]).bind fun r133 => (Q_Who K_ r133 0).bind fun r135 => (G_four K_ ([] : List Tly)).bind fun r137 => (Q_Ask K_ r137 2).bind fun r139 => (G_four K_ ([] : List Tly)).bind fun r141 => (Q_Next K_ r141 (-1)).bind fun r143 => (G_four K_ ([] : List Tly)).bind fun r145 => (Q_First K_ r145).bind fun r147 => (G_wrong K_).bind fun r149 => (G_four K_ [r149]).bind fun r152 => (Q_Done K_ r152).bind fun r154 => (G_four K_ ([] : List Tly)).bind fun r156 => (G_four K_ ([] : List Tly)).bind fun r158 => (G_four K_ ([] : List Tly)).bind fun r160 => (G_four K_ ([] : List Tly)).bind fun r162 => (G_four K_ ([] : List Tly)).bind fun r164 => (G_four K_ ([] : List Tly)).bind fun r166 => (G_four K_ ([] : List Tly)).bind fun r168 => (G_four K_ ([] : List Tly)).bind fun r170 => (G_between K_ 0 5).bind fun r190 => (idx r162.ts (0 : Int)).bind fun x193 => (idx r164.ts (0 : Int)).bind fun x198 => cond (r128.2 == 2) (cond (r135.2 == 11) (cond (r139.2 == 2) (cond (r143.2.2 == 2) (cond (r147.2 == 7) (cond (r154.2 == 11) ((Q_Check K_ (⟨8, r156.wd, r156.lo, r156.hi, r156.ts⟩ : Fld)).bind fun r214 => cond (r214 == 3) ((Q_Check K_ (⟨r158.rows, 4, r158.lo, r158.hi, r158.ts⟩ : Fld)).bind fun r217 => cond (r217 == 3) ((Q_Check K_ (⟨r160.rows, r160.wd, r190.1, r190.2, r160.ts⟩ : Fld)).bind fun r220 => cond (r220 == 1) ((Q_Check K_ (⟨r162.rows, r162.wd, r162.lo, r162.hi, r162.ts.set (0 : Int).toNat (⟨2, x193.fr, x193.to, x193.lo, x193.hi⟩ : Tly)⟩ : Fld)).bind fun r223 => cond (r223 == 1) ((Q_Check K_ (⟨r164.rows, r164.wd, r164.lo, r164.hi, r164.ts.set (0 : Int).toNat (⟨x198.who, 3, x198.to, x198.lo, x198.hi⟩ : Tly)⟩ : Fld)).bind fun r226 => cond (r226 == 1) ((Q_Check K_ (⟨r166.rows, r166.wd, r166.lo, r166.hi, [(⟨0, 0, 0, 0, 0⟩ : Tly), (⟨0, 0, 0, 0, 0⟩ : Tly), (⟨0, 0, 0, 0, 0⟩ : Tly), (⟨0, 0, 0, 0, 0⟩ : Tly), (⟨0, 0, 0, 0, 0⟩ : Tly), (⟨0, 0, 0, 0, 0⟩ : Tly)]⟩ : Fld)).bind fun r229 => cond (r229 == 3) ((Q_Check K_ (⟨6, 3, r168.lo, r168.hi, r168.ts⟩ : Fld)).bind fun r232 => cond (r232 == 3) ((Q_Check K_ (⟨0, r170.wd, r170.lo, r170.hi, r170.ts⟩ : Fld)).bind fun r235 => cond (r235 == 1) ((ifo (G_awake K_ = some true)).bind fun _ => some (true)) (some (false))) (some (false))) (some (false))) (some (false))) (some (false))) (some (false))) (some (false))) (some (false))) (some (false))) (some (false))) (some (false))) (some (false))) (some (false))) (some (false)))))))))))))))))))))))
end Go.Proofs.Ythogdgkafaclaaa
end
section
namespace Go.Proofs.Ythogdgkafaclaaa
def f4w : Fld := ⟨4, 2, 0, 1, [⟨0, 0, 2, 2, 3⟩, ⟨1, 2, 3, 1, 2⟩]⟩
theorem who4w : whoF (truths f4w []) 3 = [-1, 0, 1] := by
  rw [whoF_eq (wd := 2) (by omega) (by decide +kernel)]
  decide +kernel
theorem n4 : G_four 1000 [] = some f4 := rfl
theorem n5 : G_four 1000 [⟨0, 0, 1, 2, 2⟩] = some f5 := rfl
theorem n6 : G_four 1000 [⟨1, 0, 1, 2, 2⟩] = some f6 := rfl
theorem ntwo : G_two 1000 = some ⟨0, 0, 1, 2, 2⟩ := rfl
theorem nwrong : G_wrong 1000 = some ⟨1, 0, 1, 2, 2⟩ := rfl
set_option maxRecDepth 100000 in
theorem weedNames_true : ∃ K, G_WeedNames K = some true := by
  refine ⟨1000, ?_⟩
  unfold G_WeedNames
  rw [bd n4, bd (show G_between 1000 0 1 = some (0, 1) from rfl)]
  rw [bd (show Q_Who 1000 ⟨f4.rows, f4.wd, ((0 : Int), (1 : Int)).1, ((0 : Int), (1 : Int)).2, f4.ts⟩ 3 = some ([-1, 0, 1], 0) by
    show Q_Who 1000 f4w 3 = _
    unfold Q_Who; rw [who4w]; decide +kernel)]
  rw [bd n4, bd (show Q_Ask 1000 f4 0 = some ([0, 1, 2, 3], 0) by decide +kernel), bd ntwo, bd n5, bd (show Q_Next 1000 f5 0 = some (2, 2, 0) by decide +kernel), bd n4, bd (show Q_Leave 1000 f4 = some ([], 0) by decide +kernel), bd (show Q_Next 1000 ⟨3, 1, 0, 0, []⟩ 0 = some (-1, 0, 0) by decide +kernel)]
  rw [cf (by decide), bd (show G_same 1000 [-1, 0, 1] [-1, 0, 1] = some true by decide +kernel), nt, cf (by decide), bd (show G_same 1000 [0, 1, 2, 3] [0, 1, 2, 3] = some true by decide +kernel), nt, cf (by decide), cf (by decide), cf (by decide), cf (by decide), cf (by decide), cf (by decide), cf (by decide), cf (by decide)]
  rw [bd n4, bd (show Q_ProveTruth 1000 f4 [0, 0, 1, 0] = some true by decide +kernel), nt, bd n4, bd (show Q_ProveTruth 1000 f4 [0, 0, 0, 0] = some false by decide +kernel), cf rfl, bd n4, bd (show Q_ProveTruth 1000 f4 [0, 0, 0, -1] = some false by decide +kernel), cf rfl, bd n4, bd (show Q_ProveTruth 1000 f4 [0, 0, 0] = some false by decide +kernel), cf rfl]
  rw [bd ntwo, bd n5, bd (show Q_ProveAsk 1000 f5 0 [2, 3] = some true by decide +kernel), nt, bd ntwo, bd n5, bd (show Q_ProveAsk 1000 f5 0 [2] = some false by decide +kernel), cf rfl, bd ntwo, bd n5, bd (show Q_ProveAsk 1000 f5 0 [3, 2] = some false by decide +kernel), cf rfl, bd ntwo, bd n5, bd (show Q_ProveAsk 1000 f5 2 [] = some false by decide +kernel), cf rfl, bd nwrong, bd n6, bd (show Q_ProveAsk 1000 f6 0 [] = some false by decide +kernel), cf rfl]
  rw [bd nwrong, bd n6, bd (show Q_Who 1000 f6 4 = some ([], 2) by unfold Q_Who; rw [if_neg (by decide +kernel)]; decide +kernel), bd nwrong, bd n6, bd (show Q_Who 1000 f6 0 = some ([], 11) by unfold Q_Who; rw [if_neg (by decide +kernel)]; decide +kernel)]
  rw [bd n4, bd (show Q_Ask 1000 f4 2 = some ([], 2) by decide +kernel), bd n4, bd (show Q_Next 1000 f4 (-1) = some (0, 0, 2) by decide +kernel), bd n4, bd (show Q_First 1000 f4 = some (0, 7) by decide +kernel), bd nwrong, bd n6, bd (show Q_Done 1000 f6 = some ([], 11) by decide +kernel)]
  rw [bd n4, bd n4, bd n4, bd n4, bd n4, bd n4, bd n4, bd n4, bd (show G_between 1000 0 5 = some (0, 5) from rfl), bd (show idx f4.ts (0 : Int) = some ⟨0, 0, 2, 2, 3⟩ from rfl), bd (show idx f4.ts (0 : Int) = some ⟨0, 0, 2, 2, 3⟩ from rfl)]
  rw [ct (by decide), ct (by decide), ct (by decide), ct (by decide), ct (by decide), ct (by decide)]
  rw [bd (show Q_Check 1000 _ = some 3 by decide +kernel), ct (by decide), bd (show Q_Check 1000 _ = some 3 by decide +kernel), ct (by decide), bd (show Q_Check 1000 _ = some 1 by decide +kernel), ct (by decide), bd (show Q_Check 1000 _ = some 1 by decide +kernel), ct (by decide), bd (show Q_Check 1000 _ = some 1 by decide +kernel), ct (by decide), bd (show Q_Check 1000 _ = some 3 by decide +kernel), ct (by decide), bd (show Q_Check 1000 _ = some 3 by decide +kernel), ct (by decide), bd (show Q_Check 1000 _ = some 1 by decide +kernel), ct (by decide), ifob awake_1000]
end Go.Proofs.Ythogdgkafaclaaa
end
section
set_option linter.unusedVariables false
set_option linter.unusedSimpArgs false
namespace Go.Proofs.Ythogdgkafaclaaa
open Go.RowKit
set_option maxRecDepth 100000
set_option maxHeartbeats 4000000
open AF
attribute [local irreducible] Ex1 WL CC CW LV Ret ObOp Agg One Own
theorem a61h (K_ : Nat) (p0 : List Tly) (A0_0 : Option Addr) (c0_0 : Nat) (Z : Nat → Prop) (w : World) (hS0_0 : Sl eTly w Z A0_0 c0_0 p0) (r_ : Fld) (hG : G_four K_ p0 = some r_) :
    Ret Try.prog 61 #[.slice A0_0 p0.length c0_0] w (fun v w' => Ext w w' ∧ ∃ A c, v = .agg #[I r_.rows, I r_.wd, I r_.lo, I r_.hi, .slice A r_.ts.length c] ∧ OwnR eTly 95 w w' (ZZ Z w.heap.size []) A c r_.ts) := by
 unfold G_four at hG
 refine ret_of_cc (N := 11) Try.func61 rfl rfl (by simp) ?_
 intro fr0 ha hdf
 have hp_0 := sl_arg (i := 0) (v := .slice A0_0 p0.length c0_0) ha rfl
 clear ha
 have hp0 := Hp.refl w
 have hS0_0_0 := hS0_0.mv (mv_start w)
 refine cc_seq <| cc_region <| we rfl (fun st => x_alloc (cs := #[I 0, I 0, I 0, I 0, .slice none 0 0]) zero_36 rfl) ?_
 rintro _ w1 ⟨b1, rfl, nb1⟩
 have hp1 : Hp w [some b1] w1 := hp0.new nb1.gr (Nat.le_of_eq nb1.b_eq.symm) (Nat.lt_of_lt_of_eq (Nat.lt_succ_self _) nb1.sz.symm)
 refine wl_end <| lv_next <| cc_seq <| cc_region ?_
 replace hG := bind_some hG; obtain ⟨r2, hr2, hG⟩ := hG
 refine we rfl (fun st => x_call0 own_50 (ee st rfl) (am2 (ee st rfl) (ee st rfl)) (a50 K_ 2 3 ZA _ r2 hr2)) ?_
 rintro _ w3 ⟨hx2, ⟨_, rfl, rfl⟩⟩
 have hp2 : Hp w [some b1] w3 := hp1.ext hx2
 refine wd rfl (fun st => x_build (vs := #[(0, I 0), (1, I 0), (2, I 2), (3, .agg #[I r2.1, I r2.2])]) (v := .agg #[I 0, I 0, I 2, I r2.1, I r2.2]) (pm4 (ee st rfl) (ee st rfl) (ee st rfl) (ee st rfl)) (by kernel_rfl)) ?_
 replace hG := bind_some hG; obtain ⟨r5, hr5, hG⟩ := hG
 refine we rfl (fun st => x_call0 own_50 (ee st rfl) (am2 (ee st rfl) (ee st rfl)) (a50 K_ 1 2 ZA _ r5 hr5)) ?_
 rintro _ w6 ⟨hx5, ⟨_, rfl, rfl⟩⟩
 have hp3 : Hp w [some b1] w6 := hp2.ext hx5
 refine wd rfl (fun st => x_build (vs := #[(0, I 1), (1, I 2), (2, I 3), (3, .agg #[I r5.1, I r5.2])]) (v := .agg #[I 1, I 2, I 3, I r5.1, I r5.2]) (pm4 (ee st rfl) (ee st rfl) (ee st rfl) (ee st rfl)) (by kernel_rfl)) <| we rfl (fun st => x_buildSlice (e := 95) (vs := #[(0, .agg #[I 0, I 0, I 2, I r2.1, I r2.2]), (1, .agg #[I 1, I 2, I 3, I r5.1, I r5.2])]) (cs := #[I 0, I 0, I 2, I r2.1, I r2.2, I 1, I 2, I 3, I r5.1, I r5.2]) (pm2 (ee st rfl) (ee st rfl)) (by kernel_rfl)) ?_
 rintro _ w8 ⟨b8, rfl, nb8⟩
 have hp4 : Hp w [some b8, some b1] w8 := hp3.new nb8.gr (Nat.le_of_eq nb8.b_eq.symm) (Nat.lt_of_lt_of_eq (Nat.lt_succ_self _) nb8.sz.symm)
 refine wm rfl (v := .slice A0_0 p0.length c0_0) hp_0 ?_
 have hR9 : OwnR eTly 95 w w8 (ZZ Z w.heap.size [some b8, some b1]) (some ⟨b8, 0, none⟩) 2 [(⟨0, 0, 2, r2.1, r2.2⟩ : Tly), (⟨1, 2, 3, r5.1, r5.2⟩ : Tly)] := row_bk (css := [[I 0, I 0, I 2, I r2.1, I r2.2], [I 1, I 2, I 3, I r5.1, I r5.2]]) nb8.bk (hp4.ge 0 rfl _ rfl) ⟨rfl, rfl, trivial⟩ rfl (by simp [maxLen])
 replace hG := ifo_bind hG; obtain ⟨hf10, hG⟩ := hG
 have hS0_0_4 : Sl eTly w8 (ZZ Z w.heap.size [some b8, some b1]) A0_0 c0_0 p0 := ((((hS0_0_0.mv (mv_new nb1.gr (Nat.le_of_eq nb1.b_eq.symm))).mv (mv_ext hx2)).mv (mv_ext hx5)).mv (mv_new nb8.gr (Nat.le_of_eq nb8.b_eq.symm)))
 refine we rfl (fun st => x_appS (ys := p0) Try.underlying34 info_95 rfl rfl (by decide) (ee st rfl) rfl (ee st rfl) hR9 hS0_0_4 (by have := hf10; simp only [maxLen]; omega) (by have := hf10; omega) hp4.bl.size) ?_
 rintro _ w11 ⟨A11, c11, rfl, hg11, hy11, hO11⟩
 have hp5 : Hp w [ob A11, some b1] w11 := hp4.row hg11 0 rfl (hp4.ge 0 rfl) hy11
 have hR11 : OwnR eTly 95 w w11 (ZZ Z w.heap.size [ob A11, some b1]) A11 c11 ([(⟨0, 0, 2, r2.1, r2.2⟩ : Tly), (⟨1, 2, 3, r5.1, r5.2⟩ : Tly)] ++ p0) := ownR_of hO11 (hp4.mvr hg11 0 rfl (fun k hk => (hy11 k hk).1))
 refine wd rfl (fun st => x_build (vs := #[(0, I 4), (1, I 2), (3, .slice A11 (([(⟨0, 0, 2, r2.1, r2.2⟩ : Tly), (⟨1, 2, 3, r5.1, r5.2⟩ : Tly)] ++ p0).length) c11)]) (v := .agg #[I 4, I 2, I 0, I 0, .slice A11 (([(⟨0, 0, 2, r2.1, r2.2⟩ : Tly), (⟨1, 2, 3, r5.1, r5.2⟩ : Tly)] ++ p0).length) c11]) (pm3 (ee st rfl) (ee st rfl) (ee st rfl)) (by kernel_rfl)) ?_
 have bk1_5 : Bk w11 b1 36 #[I 0, I 0, I 0, I 0, .slice none 0 0] := ((((nb1.bk.ext hx2).ext hx5).ext nb8.gr).gr hg11 (hp4.ne 1 0 rfl rfl rfl))
 refine wl_ex0 rfl rfl (fun st => x_store (n := 5) (l := [I 4, I 2, I 0, I 0, .slice A11 (([(⟨0, 0, 2, r2.1, r2.2⟩ : Tly), (⟨1, 2, 3, r5.1, r5.2⟩ : Tly)] ++ p0).length) c11]) (cs' := #[I 4, I 2, I 0, I 0, .slice A11 (([(⟨0, 0, 2, r2.1, r2.2⟩ : Tly), (⟨1, 2, 3, r5.1, r5.2⟩ : Tly)] ++ p0).length) c11]) (ee st rfl) (ee st rfl) sz_36 bk1_5 rfl rfl (show 0 + 5 ≤ 5 by decide) (one_cells rfl) rfl) ?_
 rintro _ w13 sb13
 have hp6 : Hp w [ob A11, some b1] w13 := hp5.gr sb13.gr (hp5.ge 1 rfl)
 refine wl_end <| lv_next <| cc_ret ?_
 obtain rfl := Option.some.inj hG
 refine lv_retc (v := .agg #[I 4, I 2, I 0, I 0, .slice A11 (([(⟨0, 0, 2, r2.1, r2.2⟩ : Tly), (⟨1, 2, 3, r5.1, r5.2⟩ : Tly)] ++ p0).length) c11]) rfl rfl (run_loadn_bk agg_36 sb13.bk rfl rfl) ?_
 have hR11_6 : OwnR eTly 95 w w13 (ZZ Z w.heap.size [ob A11, some b1]) A11 c11 ([(⟨0, 0, 2, r2.1, r2.2⟩ : Tly), (⟨1, 2, 3, r5.1, r5.2⟩ : Tly)] ++ p0) := (hR11.gr sb13.gr (fun k hk => hp5.ne 0 1 rfl (congrArg some hk) rfl) (hp5.mv0 sb13.gr 1 rfl))
 exact ⟨hp6.fin, _, _, rfl, hR11_6.up mv_drop⟩
theorem a19 (K_ : Nat) (Z : Nat → Prop) (w : World) (hG : G_WeedNames K_ = some true) :
    Ret Try.prog 19 #[] w (fun v w' => Ext w w' ∧ v = .bool true) := by
 unfold G_WeedNames at hG
 refine ret_of_cc (N := 291) Try.func19 rfl rfl (by simp) ?_
 intro fr0 ha hdf
 clear ha
 have hp0 := Hp.refl w
 refine cc_seq <| cc_region <| wa rfl (v := .bool false) rfl <| wl_end <| lv_next <| cc_seq <| cc_region ?_
 replace hG := bind_some hG; obtain ⟨r1, hr1, hG⟩ := hG
 refine we rfl (fun st => x_call0 own_61 (ee st rfl) (am1 (ee st rfl)) (a61h K_ ([] : List Tly) none 0 (ZZ Z w.heap.size []) _ (Sl.nil eTly _ _) r1 hr1)) ?_
 rintro _ w2 ⟨hx1, A1_h, c1_h, rfl, hR1⟩
 have hp1 : Hp w [ob A1_h] w2 := hp0.hand hx1 hR1
 have hR1_h : OwnR eTly 95 w w2 (ZZ Z w.heap.size [ob A1_h]) A1_h c1_h r1.ts := OwnR.hand hp0 hR1 (fun _ _ _ _ _ _ h => h)
 refine we rfl (fun st => x_alloc (cs := #[I 0, I 0, I 0, I 0, .slice none 0 0]) zero_36 rfl) ?_
 rintro _ w3 ⟨b3, rfl, nb3⟩
 have hp2 : Hp w [some b3, ob A1_h] w3 := hp1.new nb3.gr (Nat.le_of_eq nb3.b_eq.symm) (Nat.lt_of_lt_of_eq (Nat.lt_succ_self _) nb3.sz.symm)
 refine wl_ex0 rfl rfl (fun st => x_store (n := 5) (l := [I r1.rows, I r1.wd, I r1.lo, I r1.hi, .slice A1_h r1.ts.length c1_h]) (cs' := #[I r1.rows, I r1.wd, I r1.lo, I r1.hi, .slice A1_h r1.ts.length c1_h]) (ee st rfl) (ee st rfl) sz_36 nb3.bk rfl rfl (show 0 + 5 ≤ 5 by decide) (one_cells rfl) rfl) ?_
 rintro _ w4 sb4
 have hp3 : Hp w [some b3, ob A1_h] w4 := hp2.gr sb4.gr (hp2.ge 0 rfl)
 refine wl_end <| lv_next <| cc_seq <| cc_region ?_
 replace hG := bind_some hG; obtain ⟨r5, hr5, hG⟩ := hG
 refine we rfl (fun st => x_call0 own_50 (ee st rfl) (am2 (ee st rfl) (ee st rfl)) (a50 K_ 0 1 ZA _ r5 hr5)) ?_
 rintro _ w6 ⟨hx5, ⟨_, rfl, rfl⟩⟩
 have hp4 : Hp w [some b3, ob A1_h] w6 := hp3.ext hx5
 refine wd rfl (fun st => x_fieldAddr (ee st rfl) (fz_36_2 _ _)) ?_
 have bk3_4 : Bk w6 b3 36 #[I r1.rows, I r1.wd, I r1.lo, I r1.hi, .slice A1_h r1.ts.length c1_h] := (sb4.bk.ext hx5)
 refine wl_ex0 rfl rfl (fun st => x_store (n := 2) (l := [I r5.1, I r5.2]) (cs' := #[I r1.rows, I r1.wd, I r5.1, I r5.2, .slice A1_h r1.ts.length c1_h]) (ee st rfl) (ee st rfl) sz_33 bk3_4 rfl rfl (show 2 + 2 ≤ 5 by decide) (one_cells rfl) rfl) ?_
 rintro _ w7 sb7
 have hp5 : Hp w [some b3, ob A1_h] w7 := hp4.gr sb7.gr (hp4.ge 0 rfl)
 refine wl_end <| lv_next <| cc_seq <| cc_region <| wd rfl (fun st => x_loadn (l := [I r1.rows, I r1.wd, I r5.1, I r5.2, .slice A1_h r1.ts.length c1_h]) agg_36 (ee st rfl) sb7.bk rfl rfl) ?_
 have hR1_5 : OwnR eTly 95 w w7 (ZZ Z w.heap.size [some b3, ob A1_h]) A1_h c1_h r1.ts := ((((hR1_h.ext nb3.gr (mv_new nb3.gr (Nat.le_of_eq nb3.b_eq.symm))).gr sb4.gr (fun k hk => hp2.ne 1 0 rfl (congrArg some hk) rfl) (hp2.mv0 sb4.gr 0 rfl)).ext hx5 (mv_ext hx5)).gr sb7.gr (fun k hk => hp4.ne 1 0 rfl (congrArg some hk) rfl) (hp4.mv0 sb7.gr 0 rfl))
 have hp6 : Hp w [some b3] w7 := hp5.erase 1
 have hR1_z : Sl eTly w7 (ZZ Z w.heap.size [some b3]) A1_h c1_h r1.ts := hp5.frz 1 rfl hR1_5
 replace hG := bind_some hG; obtain ⟨r8, hr8, hG⟩ := hG
 refine we rfl (fun st => x_call0 own_27 (ee st rfl) (am2 (ee st rfl) (ee st rfl)) (a27 K_ (⟨r1.rows, r1.wd, r5.1, r5.2, r1.ts⟩ : Fld) 3 A1_h c1_h (ZZ Z w.heap.size [some b3]) _ hR1_z r8 hr8)) ?_
 rintro _ w9 ⟨hx8, _, _, rfl, ⟨A8_ra, c8_ra, rfl, hS8_ra⟩, rfl⟩
 have hp7 : Hp w [some b3] w9 := hp6.ext hx8
 have hS8_ra := hS8_ra.mv (hp6.call (Nat.le_refl _))
 refine wm rfl (v := .tuple #[.slice A8_ra r8.1.length c8_ra, I r8.2]) rfl <| wd rfl (fun st => x_extract (v := .slice A8_ra r8.1.length c8_ra) (ee st rfl) rfl) <| wd rfl (fun st => x_extract (v := I r8.2) (ee st rfl) rfl) <| wa rfl (v := .slice A8_ra r8.1.length c8_ra) rfl <| wa rfl (v := I r8.2) rfl <| wl_end <| lv_next <| cc_seq <| cc_region ?_
 replace hG := bind_some hG; obtain ⟨r10, hr10, hG⟩ := hG
 refine we rfl (fun st => x_call0 own_61 (ee st rfl) (am1 (ee st rfl)) (a61h K_ ([] : List Tly) none 0 (ZZ Z w.heap.size [some b3]) _ (Sl.nil eTly _ _) r10 hr10)) ?_
 rintro _ w11 ⟨hx10, A10_h, c10_h, rfl, hR10⟩
 have hp8 : Hp w [ob A10_h, some b3] w11 := hp7.hand hx10 hR10
 have hR10_h : OwnR eTly 95 w w11 (ZZ Z w.heap.size [ob A10_h, some b3]) A10_h c10_h r10.ts := OwnR.hand hp7 hR10 (fun _ _ _ _ _ _ h => h)
 have hp9 : Hp w [some b3] w11 := hp8.erase 0
 have hR10_z : Sl eTly w11 (ZZ Z w.heap.size [some b3]) A10_h c10_h r10.ts := hp8.frz 0 rfl hR10_h
 replace hG := bind_some hG; obtain ⟨r12, hr12, hG⟩ := hG
 refine we rfl (fun st => x_call0 own_42 (ee st rfl) (am2 (ee st rfl) (ee st rfl)) (a42 K_ r10 0 A10_h c10_h (ZZ Z w.heap.size [some b3]) _ hR10_z r12 hr12)) ?_
 rintro _ w13 ⟨hx12, _, _, rfl, ⟨A12_ra, c12_ra, rfl, hS12_ra⟩, rfl⟩
 have hp10 : Hp w [some b3] w13 := hp9.ext hx12
 have hS12_ra := hS12_ra.mv (hp9.call (Nat.le_refl _))
 refine wm rfl (v := .tuple #[.slice A12_ra r12.1.length c12_ra, I r12.2]) rfl <| wd rfl (fun st => x_extract (v := .slice A12_ra r12.1.length c12_ra) (ee st rfl) rfl) <| wd rfl (fun st => x_extract (v := I r12.2) (ee st rfl) rfl) <| wa rfl (v := .slice A12_ra r12.1.length c12_ra) rfl <| wa rfl (v := I r12.2) rfl <| wl_end <| lv_next <| cc_seq <| cc_region ?_
 replace hG := bind_some hG; obtain ⟨r14, hr14, hG⟩ := hG
 refine we rfl (fun st => x_call0 own_62 (ee st rfl) am0 (a62 K_ ZA _ r14 hr14)) ?_
 rintro _ w15 ⟨hx14, ⟨_, rfl, rfl⟩⟩
 have hp11 : Hp w [some b3] w15 := hp10.ext hx14
 refine we rfl (fun st => x_buildSlice (e := 95) (vs := #[(0, .agg #[I r14.who, I r14.fr, I r14.to, I r14.lo, I r14.hi])]) (cs := #[I r14.who, I r14.fr, I r14.to, I r14.lo, I r14.hi]) (pm1 (ee st rfl)) (by kernel_rfl)) ?_
 rintro _ w16 ⟨b16, rfl, nb16⟩
 have hp12 : Hp w [some b16, some b3] w16 := hp11.new nb16.gr (Nat.le_of_eq nb16.b_eq.symm) (Nat.lt_of_lt_of_eq (Nat.lt_succ_self _) nb16.sz.symm)
 have hp13 : Hp w [some b3] w16 := hp12.erase 0
 have bk16_13 : Bk w16 b16 95 #[I r14.who, I r14.fr, I r14.to, I r14.lo, I r14.hi] := nb16.bk
 have bk16_z : Sl eTly w16 (ZZ Z w.heap.size [some b3]) (some ⟨b16, 0, none⟩) 1 [r14] := sl_bk (xs := [r14]) (css := [[I r14.who, I r14.fr, I r14.to, I r14.lo, I r14.hi]]) bk16_13 (hp12.lit 0 rfl) ⟨rfl, trivial⟩ rfl (Nat.le_refl _)
 replace hG := bind_some hG; obtain ⟨r17, hr17, hG⟩ := hG
 refine we rfl (fun st => x_call0 own_61 (ee st rfl) (am1 (ee st rfl)) (a61h K_ [r14] (some ⟨b16, 0, none⟩) 1 (ZZ Z w.heap.size [some b3]) _ bk16_z r17 hr17)) ?_
 rintro _ w18 ⟨hx17, A17_h, c17_h, rfl, hR17⟩
 have hp14 : Hp w [ob A17_h, some b3] w18 := hp13.hand hx17 hR17
 have hR17_h : OwnR eTly 95 w w18 (ZZ Z w.heap.size [ob A17_h, some b3]) A17_h c17_h r17.ts := OwnR.hand hp13 hR17 (fun _ _ _ _ _ _ h => h)
 replace hG := bind_some hG; obtain ⟨r19, hr19, hG⟩ := hG
 refine we rfl (fun st => x_call0 own_32 (ee st rfl) (am2 (ee st rfl) (ee st rfl)) (a32 K_ r17 0 A17_h c17_h ZA _ hR17_h.all r19 hr19)) ?_
 rintro _ w20 ⟨hx19, _, _, _, rfl, rfl, rfl, rfl⟩
 have hp15 : Hp w [ob A17_h, some b3] w20 := hp14.ext hx19
 refine wm rfl (v := .tuple #[I r19.1, I r19.2.1, I r19.2.2]) rfl <| wd rfl (fun st => x_extract (v := I r19.1) (ee st rfl) rfl) <| wd rfl (fun st => x_extract (v := I r19.2.1) (ee st rfl) rfl) <| wd rfl (fun st => x_extract (v := I r19.2.2) (ee st rfl) rfl) <| wa rfl (v := I r19.1) rfl <| wa rfl (v := I r19.2.1) rfl <| wa rfl (v := I r19.2.2) rfl <| wl_end <| lv_next <| cc_seq <| cc_region ?_
 replace hG := bind_some hG; obtain ⟨r21, hr21, hG⟩ := hG
 refine we rfl (fun st => x_call0 own_61 (ee st rfl) (am1 (ee st rfl)) (a61h K_ ([] : List Tly) none 0 (ZZ Z w.heap.size [ob A17_h, some b3]) _ (Sl.nil eTly _ _) r21 hr21)) ?_
 rintro _ w22 ⟨hx21, A21_h, c21_h, rfl, hR21⟩
 have hp16 : Hp w [ob A21_h, ob A17_h, some b3] w22 := hp15.hand hx21 hR21
 have hR21_h : OwnR eTly 95 w w22 (ZZ Z w.heap.size [ob A21_h, ob A17_h, some b3]) A21_h c21_h r21.ts := OwnR.hand hp15 hR21 (fun _ _ _ _ _ _ h => h)
 have hp17 : Hp w [ob A17_h, some b3] w22 := hp16.erase 0
 have hR21_z : Sl eTly w22 (ZZ Z w.heap.size [ob A17_h, some b3]) A21_h c21_h r21.ts := hp16.frz 0 rfl hR21_h
 replace hG := bind_some hG; obtain ⟨r23, hr23, hG⟩ := hG
 refine we rfl (fun st => x_call0 own_35 (ee st rfl) (am1 (ee st rfl)) (a35 K_ r21 A21_h c21_h (ZZ Z w.heap.size [ob A17_h, some b3]) _ hR21_z r23 hr23)) ?_
 rintro _ w24 ⟨hx23, _, _, rfl, ⟨A23_ra, c23_ra, rfl, hS23_ra⟩, rfl⟩
 have hp18 : Hp w [ob A17_h, some b3] w24 := hp17.ext hx23
 have hS23_ra := hS23_ra.mv (hp17.call (Nat.le_refl _))
 refine wm rfl (v := .tuple #[.slice A23_ra r23.1.length c23_ra, I r23.2]) rfl <| wd rfl (fun st => x_extract (v := .slice A23_ra r23.1.length c23_ra) (ee st rfl) rfl) <| wd rfl (fun st => x_extract (v := I r23.2) (ee st rfl) rfl) <| wa rfl (v := .slice A23_ra r23.1.length c23_ra) rfl <| wa rfl (v := I r23.2) rfl <| wl_end <| lv_next <| cc_seq <| cc_region <| wd rfl (fun st => x_build (vs := #[(0, I 3), (1, I 1)]) (v := .agg #[I 3, I 1, I 0, I 0, .slice none 0 0]) (pm2 (ee st rfl) (ee st rfl)) (by kernel_rfl)) <| we rfl (fun st => x_alloc (cs := #[I 0, I 0, I 0, I 0, .slice none 0 0]) zero_36 rfl) ?_
 rintro _ w26 ⟨b26, rfl, nb26⟩
 have hp19 : Hp w [some b26, ob A17_h, some b3] w26 := hp18.new nb26.gr (Nat.le_of_eq nb26.b_eq.symm) (Nat.lt_of_lt_of_eq (Nat.lt_succ_self _) nb26.sz.symm)
 refine wl_ex0 rfl rfl (fun st => x_store (n := 5) (l := [I 3, I 1, I 0, I 0, .slice none 0 0]) (cs' := #[I 3, I 1, I 0, I 0, .slice none 0 0]) (ee st rfl) (ee st rfl) sz_36 nb26.bk rfl rfl (show 0 + 5 ≤ 5 by decide) (one_cells rfl) rfl) ?_
 rintro _ w27 sb27
 have hp20 : Hp w [some b26, ob A17_h, some b3] w27 := hp19.gr sb27.gr (hp19.ge 0 rfl)
 refine wl_end <| lv_next <| cc_seq <| cc_region <| wd rfl (fun st => x_loadn (l := [I 3, I 1, I 0, I 0, .slice none 0 0]) agg_36 (ee st rfl) sb27.bk rfl rfl) ?_
 replace hG := bind_some hG; obtain ⟨r28, hr28, hG⟩ := hG
 refine we rfl (fun st => x_call0 own_32 (ee st rfl) (am2 (ee st rfl) (ee st rfl)) (a32 K_ (⟨3, 1, 0, 0, ([] : List Tly)⟩ : Fld) 0 none 0 ZA _ (Sl.nil eTly _ _) r28 hr28)) ?_
 rintro _ w29 ⟨hx28, _, _, _, rfl, rfl, rfl, rfl⟩
 have hp21 : Hp w [some b26, ob A17_h, some b3] w29 := hp20.ext hx28
 refine wm rfl (v := .tuple #[I r28.1, I r28.2.1, I r28.2.2]) rfl <| wd rfl (fun st => x_extract (v := I r28.1) (ee st rfl) rfl) <| wd rfl (fun st => x_extract (v := I r28.2.1) (ee st rfl) rfl) <| wd rfl (fun st => x_extract (v := I r28.2.2) (ee st rfl) rfl) <| wa rfl (v := I r28.1) rfl <| wa rfl (v := I r28.2.1) rfl <| wa rfl (v := I r28.2.2) rfl <| wl_end <| lv_next <| cc_seq <| cc_seq <| cc_region <| wm rfl (v := I r8.2) rfl <| wd rfl (fun st => x_neq (ee st rfl) (ee st rfl)) <| wm rfl (v := .bool (r8.2 != 0)) rfl ?_
 rcases bool_cases (r8.2 != 0) with hc30 | hc30
 ·replace hG := cond_t hG hc30
  exact absurd (Option.some.inj hG) (by decide)
 ·replace hG := cond_f hG hc30
  refine wl_detg rfl rfl (guard_eq rfl hc30) rfl (by decide) (fun st => x_move (v := .slice A8_ra r8.1.length c8_ra) (ee st rfl)) <| wl_exg rfl rfl (guard_eq rfl hc30) rfl (by decide) (fun st => x_buildSlice (e := 3) (vs := #[(0, I (-1)), (1, I 0), (2, I 1)]) (cs := #[I (-1), I 0, I 1]) (pm3 (ee st rfl) (ee st rfl) (ee st rfl)) (by kernel_rfl)) ?_
  rintro _ w31 ⟨b31, rfl, nb31⟩
  have hp22 : Hp w [some b31, some b26, ob A17_h, some b3] w31 := hp21.new nb31.gr (Nat.le_of_eq nb31.b_eq.symm) (Nat.lt_of_lt_of_eq (Nat.lt_succ_self _) nb31.sz.symm)
  have hS8_ra_22 : Sl (eInt .i64) w31 (ZZ Z w.heap.size [some b31, some b26, ob A17_h, some b3]) A8_ra c8_ra r8.1 := (((((((((((((((hS8_ra.mv (mv_hand hx10 hR10)).mv (mv_erase 0)).mv (mv_ext hx12)).mv (mv_ext hx14)).mv (mv_new nb16.gr (Nat.le_of_eq nb16.b_eq.symm))).mv (mv_erase 0)).mv (mv_hand hx17 hR17)).mv (mv_ext hx19)).mv (mv_hand hx21 hR21)).mv (mv_erase 0)).mv (mv_ext hx23)).mv (mv_new nb26.gr (Nat.le_of_eq nb26.b_eq.symm))).mv (hp19.mv0 sb27.gr 0 rfl)).mv (mv_ext hx28)).mv (mv_new nb31.gr (Nat.le_of_eq nb31.b_eq.symm)))
  replace hG := bind_some hG; obtain ⟨r32, hr32, hG⟩ := hG
  refine wl_exg rfl rfl (guard_eq rfl hc30) rfl (by decide) (fun st => x_call0 own_30 (ee st rfl) (am2 (ee st rfl) (ee st rfl)) (a30 K_ r8.1 [(-1), 0, 1] A8_ra c8_ra (some ⟨b31, 0, none⟩) 3 ZA _ hS8_ra_22.all (sl_bk (xs := [(-1), 0, 1]) (css := [[I (-1)], [I 0], [I 1]]) nb31.bk trivial ⟨rfl, rfl, rfl, trivial⟩ rfl (Nat.le_refl _)) r32 hr32)) ?_
  rintro _ w33 ⟨hx32, rfl⟩
  have hp23 : Hp w [some b31, some b26, ob A17_h, some b3] w33 := hp22.ext hx32
  refine wl_detg rfl rfl (guard_eq rfl hc30) rfl (by decide) (fun st => x_not (ee st rfl)) <| wd rfl (fun st => x_pick_f (v := .bool !r32) (ee st rfl) hc30 (ee st rfl)) <| wm rfl (v := .bool !r32) rfl ?_
  rcases bool_cases (!r32) with hc34 | hc34
  ·replace hG := cond_t hG hc34
   exact absurd (Option.some.inj hG) (by decide)
  ·replace hG := cond_f hG hc34
   have hc34_36 : r32 = true := by simpa using hc34
   refine wl_detg rfl rfl (guard_eq rfl hc34) rfl (by decide) (fun st => x_move (v := I r12.2) (ee st rfl)) <| wl_detg rfl rfl (guard_eq rfl hc34) rfl (by decide) (fun st => x_neq (ee st rfl) (ee st rfl)) <| wd rfl (fun st => x_pick_f (v := .bool (r12.2 != 0)) (ee st rfl) hc34 (ee st rfl)) <| wm rfl (v := .bool (r12.2 != 0)) rfl ?_
   rcases bool_cases (r12.2 != 0) with hc37 | hc37
   ·replace hG := cond_t hG hc37
    exact absurd (Option.some.inj hG) (by decide)
   ·replace hG := cond_f hG hc37
    refine wl_detg rfl rfl (guard_eq rfl hc37) rfl (by decide) (fun st => x_move (v := .slice A12_ra r12.1.length c12_ra) (ee st rfl)) <| wl_exg rfl rfl (guard_eq rfl hc37) rfl (by decide) (fun st => x_buildSlice (e := 3) (vs := #[(0, I 0), (1, I 1), (2, I 2), (3, I 3)]) (cs := #[I 0, I 1, I 2, I 3]) (pm4 (ee st rfl) (ee st rfl) (ee st rfl) (ee st rfl)) (by kernel_rfl)) ?_
    rintro _ w38 ⟨b38, rfl, nb38⟩
    have hp24 : Hp w [some b38, some b31, some b26, ob A17_h, some b3] w38 := hp23.new nb38.gr (Nat.le_of_eq nb38.b_eq.symm) (Nat.lt_of_lt_of_eq (Nat.lt_succ_self _) nb38.sz.symm)
    have hS12_ra_24 : Sl (eInt .i64) w38 (ZZ Z w.heap.size [some b38, some b31, some b26, ob A17_h, some b3]) A12_ra c12_ra r12.1 := ((((((((((((((hS12_ra.mv (mv_ext hx14)).mv (mv_new nb16.gr (Nat.le_of_eq nb16.b_eq.symm))).mv (mv_erase 0)).mv (mv_hand hx17 hR17)).mv (mv_ext hx19)).mv (mv_hand hx21 hR21)).mv (mv_erase 0)).mv (mv_ext hx23)).mv (mv_new nb26.gr (Nat.le_of_eq nb26.b_eq.symm))).mv (hp19.mv0 sb27.gr 0 rfl)).mv (mv_ext hx28)).mv (mv_new nb31.gr (Nat.le_of_eq nb31.b_eq.symm))).mv (mv_ext hx32)).mv (mv_new nb38.gr (Nat.le_of_eq nb38.b_eq.symm)))
    replace hG := bind_some hG; obtain ⟨r39, hr39, hG⟩ := hG
    refine wl_exg rfl rfl (guard_eq rfl hc37) rfl (by decide) (fun st => x_call0 own_30 (ee st rfl) (am2 (ee st rfl) (ee st rfl)) (a30 K_ r12.1 [0, 1, 2, 3] A12_ra c12_ra (some ⟨b38, 0, none⟩) 4 ZA _ hS12_ra_24.all (sl_bk (xs := [0, 1, 2, 3]) (css := [[I 0], [I 1], [I 2], [I 3]]) nb38.bk trivial ⟨rfl, rfl, rfl, rfl, trivial⟩ rfl (Nat.le_refl _)) r39 hr39)) ?_
    rintro _ w40 ⟨hx39, rfl⟩
    have hp25 : Hp w [some b38, some b31, some b26, ob A17_h, some b3] w40 := hp24.ext hx39
    refine wl_detg rfl rfl (guard_eq rfl hc37) rfl (by decide) (fun st => x_not (ee st rfl)) <| wd rfl (fun st => x_pick_f (v := .bool !r39) (ee st rfl) hc37 (ee st rfl)) <| wm rfl (v := .bool !r39) rfl ?_
    rcases bool_cases (!r39) with hc41 | hc41
    ·replace hG := cond_t hG hc41
     exact absurd (Option.some.inj hG) (by decide)
    ·replace hG := cond_f hG hc41
     have hc41_43 : r39 = true := by simpa using hc41
     refine wl_detg rfl rfl (guard_eq rfl hc41) rfl (by decide) (fun st => x_move (v := I r19.2.2) (ee st rfl)) <| wl_detg rfl rfl (guard_eq rfl hc41) rfl (by decide) (fun st => x_neq (ee st rfl) (ee st rfl)) <| wd rfl (fun st => x_pick_f (v := .bool (r19.2.2 != 0)) (ee st rfl) hc41 (ee st rfl)) <| wm rfl (v := .bool (r19.2.2 != 0)) rfl ?_
     rcases bool_cases (r19.2.2 != 0) with hc44 | hc44
     ·replace hG := cond_t hG hc44
      exact absurd (Option.some.inj hG) (by decide)
     ·replace hG := cond_f hG hc44
      refine wl_detg rfl rfl (guard_eq rfl hc44) rfl (by decide) (fun st => x_move (v := I r19.1) (ee st rfl)) <| wl_detg rfl rfl (guard_eq rfl hc44) rfl (by decide) (fun st => x_neq (ee st rfl) (ee st rfl)) <| wd rfl (fun st => x_pick_f (v := .bool (r19.1 != 2)) (ee st rfl) hc44 (ee st rfl)) <| wm rfl (v := .bool (r19.1 != 2)) rfl ?_
      rcases bool_cases (r19.1 != 2) with hc45 | hc45
      ·replace hG := cond_t hG hc45
       exact absurd (Option.some.inj hG) (by decide)
      ·replace hG := cond_f hG hc45
       refine wl_detg rfl rfl (guard_eq rfl hc45) rfl (by decide) (fun st => x_move (v := I r19.2.1) (ee st rfl)) <| wl_detg rfl rfl (guard_eq rfl hc45) rfl (by decide) (fun st => x_neq (ee st rfl) (ee st rfl)) <| wd rfl (fun st => x_pick_f (v := .bool (r19.2.1 != 2)) (ee st rfl) hc45 (ee st rfl)) <| wm rfl (v := .bool (r19.2.1 != 2)) rfl ?_
       rcases bool_cases (r19.2.1 != 2) with hc46 | hc46
       ·replace hG := cond_t hG hc46
        exact absurd (Option.some.inj hG) (by decide)
       ·replace hG := cond_f hG hc46
        refine wl_detg rfl rfl (guard_eq rfl hc46) rfl (by decide) (fun st => x_move (v := I r23.2) (ee st rfl)) <| wl_detg rfl rfl (guard_eq rfl hc46) rfl (by decide) (fun st => x_neq (ee st rfl) (ee st rfl)) <| wd rfl (fun st => x_pick_f (v := .bool (r23.2 != 0)) (ee st rfl) hc46 (ee st rfl)) <| wm rfl (v := .bool (r23.2 != 0)) rfl ?_
        rcases bool_cases (r23.2 != 0) with hc47 | hc47
        ·replace hG := cond_t hG hc47
         exact absurd (Option.some.inj hG) (by decide)
        ·replace hG := cond_f hG hc47
         refine wl_detg rfl rfl (guard_eq rfl hc47) rfl (by decide) (fun st => x_move (v := .slice A23_ra r23.1.length c23_ra) (ee st rfl)) <| wl_detg rfl rfl (guard_eq rfl hc47) rfl (by decide) (fun st => x_len Try.underlying43 (ee st rfl)) <| wl_detg rfl rfl (guard_eq rfl hc47) rfl (by decide) (fun st => x_neq (ee st rfl) (ee st rfl)) <| wd rfl (fun st => x_pick_f (v := .bool ((r23.1.length : Int) != 0)) (ee st rfl) hc47 (ee st rfl)) <| wm rfl (v := .bool ((r23.1.length : Int) != 0)) rfl ?_
         rcases bool_cases ((r23.1.length : Int) != 0) with hc48 | hc48
         ·replace hG := cond_t hG hc48
          exact absurd (Option.some.inj hG) (by decide)
         ·replace hG := cond_f hG hc48
          refine wl_detg rfl rfl (guard_eq rfl hc48) rfl (by decide) (fun st => x_move (v := I r28.2.2) (ee st rfl)) <| wl_detg rfl rfl (guard_eq rfl hc48) rfl (by decide) (fun st => x_neq (ee st rfl) (ee st rfl)) <| wd rfl (fun st => x_pick_f (v := .bool (r28.2.2 != 0)) (ee st rfl) hc48 (ee st rfl)) <| wm rfl (v := .bool (r28.2.2 != 0)) rfl ?_
          rcases bool_cases (r28.2.2 != 0) with hc49 | hc49
          ·replace hG := cond_t hG hc49
           exact absurd (Option.some.inj hG) (by decide)
          ·replace hG := cond_f hG hc49
           refine wl_detg rfl rfl (guard_eq rfl hc49) rfl (by decide) (fun st => x_move (v := I r28.1) (ee st rfl)) <| wl_detg rfl rfl (guard_eq rfl hc49) rfl (by decide) (fun st => x_neq (ee st rfl) (ee st rfl)) <| wd rfl (fun st => x_pick_f (v := .bool (r28.1 != (-1))) (ee st rfl) hc49 (ee st rfl)) <| wm rfl (v := .bool (r28.1 != (-1))) rfl ?_
           rcases bool_cases (r28.1 != (-1)) with hc50 | hc50
           ·replace hG := cond_t hG hc50
            exact absurd (Option.some.inj hG) (by decide)
           ·replace hG := cond_f hG hc50
            refine wl_detg rfl rfl (guard_eq rfl hc50) rfl (by decide) (fun st => x_move (v := I r28.2.1) (ee st rfl)) <| wl_detg rfl rfl (guard_eq rfl hc50) rfl (by decide) (fun st => x_neq (ee st rfl) (ee st rfl)) <| wd rfl (fun st => x_pick_f (v := .bool (r28.2.1 != 0)) (ee st rfl) hc50 (ee st rfl)) <| wm rfl (v := .bool (r28.2.1 != 0)) rfl ?_
            rcases bool_cases (r28.2.1 != 0) with hc51 | hc51
            ·replace hG := cond_t hG hc51
             exact absurd (Option.some.inj hG) (by decide)
            ·replace hG := cond_f hG hc51
             replace hG := bind_some hG; obtain ⟨r52, hr52, hG⟩ := hG
             refine wl_exg rfl rfl (guard_eq rfl hc51) rfl (by decide) (fun st => x_call0 own_61 (ee st rfl) (am1 (ee st rfl)) (a61h K_ ([] : List Tly) none 0 (ZZ Z w.heap.size [some b38, some b31, some b26, ob A17_h, some b3]) _ (Sl.nil eTly _ _) r52 hr52)) ?_
             rintro _ w53 ⟨hx52, A52_h, c52_h, rfl, hR52⟩
             have hp26 : Hp w [ob A52_h, some b38, some b31, some b26, ob A17_h, some b3] w53 := hp25.hand hx52 hR52
             have hR52_h : OwnR eTly 95 w w53 (ZZ Z w.heap.size [ob A52_h, some b38, some b31, some b26, ob A17_h, some b3]) A52_h c52_h r52.ts := OwnR.hand hp25 hR52 (fun _ _ _ _ _ _ h => h)
             refine wl_exg rfl rfl (guard_eq rfl hc51) rfl (by decide) (fun st => x_buildSlice (e := 3) (vs := #[(0, I 0), (1, I 0), (2, I 1), (3, I 0)]) (cs := #[I 0, I 0, I 1, I 0]) (pm4 (ee st rfl) (ee st rfl) (ee st rfl) (ee st rfl)) (by kernel_rfl)) ?_
             rintro _ w54 ⟨b54, rfl, nb54⟩
             have hp27 : Hp w [some b54, ob A52_h, some b38, some b31, some b26, ob A17_h, some b3] w54 := hp26.new nb54.gr (Nat.le_of_eq nb54.b_eq.symm) (Nat.lt_of_lt_of_eq (Nat.lt_succ_self _) nb54.sz.symm)
             have hR52_27 : OwnR eTly 95 w w54 (ZZ Z w.heap.size [some b54, ob A52_h, some b38, some b31, some b26, ob A17_h, some b3]) A52_h c52_h r52.ts := (hR52_h.ext nb54.gr (mv_new nb54.gr (Nat.le_of_eq nb54.b_eq.symm)))
             replace hG := bind_some hG; obtain ⟨r55, hr55, hG⟩ := hG
             refine wl_exg rfl rfl (guard_eq rfl hc51) rfl (by decide) (fun st => x_call0 own_52 (ee st rfl) (am2 (ee st rfl) (ee st rfl)) (a52 K_ r52 [0, 0, 1, 0] A52_h c52_h (some ⟨b54, 0, none⟩) 4 ZA _ hR52_27.all (sl_bk (xs := [0, 0, 1, 0]) (css := [[I 0], [I 0], [I 1], [I 0]]) nb54.bk trivial ⟨rfl, rfl, rfl, rfl, trivial⟩ rfl (Nat.le_refl _)) r55 hr55)) ?_
             rintro _ w56 ⟨hx55, rfl⟩
             have hp28 : Hp w [some b54, ob A52_h, some b38, some b31, some b26, ob A17_h, some b3] w56 := hp27.ext hx55
             refine wl_detg rfl rfl (guard_eq rfl hc51) rfl (by decide) (fun st => x_not (ee st rfl)) <| wd rfl (fun st => x_pick_f (v := .bool !r55) (ee st rfl) hc51 (ee st rfl)) <| wm rfl (v := .bool !r55) rfl ?_
             rcases bool_cases (!r55) with hc57 | hc57
             ·replace hG := cond_t hG hc57
              exact absurd (Option.some.inj hG) (by decide)
             ·replace hG := cond_f hG hc57
              have hc57_59 : r55 = true := by simpa using hc57
              replace hG := bind_some hG; obtain ⟨r60, hr60, hG⟩ := hG
              refine wl_exg rfl rfl (guard_eq rfl hc57) rfl (by decide) (fun st => x_call0 own_61 (ee st rfl) (am1 (ee st rfl)) (a61h K_ ([] : List Tly) none 0 (ZZ Z w.heap.size [some b54, ob A52_h, some b38, some b31, some b26, ob A17_h, some b3]) _ (Sl.nil eTly _ _) r60 hr60)) ?_
              rintro _ w61 ⟨hx60, A60_h, c60_h, rfl, hR60⟩
              have hp29 : Hp w [ob A60_h, some b54, ob A52_h, some b38, some b31, some b26, ob A17_h, some b3] w61 := hp28.hand hx60 hR60
              have hR60_h : OwnR eTly 95 w w61 (ZZ Z w.heap.size [ob A60_h, some b54, ob A52_h, some b38, some b31, some b26, ob A17_h, some b3]) A60_h c60_h r60.ts := OwnR.hand hp28 hR60 (fun _ _ _ _ _ _ h => h)
              refine wl_exg rfl rfl (guard_eq rfl hc57) rfl (by decide) (fun st => x_buildSlice (e := 3) (vs := #[(0, I 0), (1, I 0), (2, I 0), (3, I 0)]) (cs := #[I 0, I 0, I 0, I 0]) (pm4 (ee st rfl) (ee st rfl) (ee st rfl) (ee st rfl)) (by kernel_rfl)) ?_
              rintro _ w62 ⟨b62, rfl, nb62⟩
              have hp30 : Hp w [some b62, ob A60_h, some b54, ob A52_h, some b38, some b31, some b26, ob A17_h, some b3] w62 := hp29.new nb62.gr (Nat.le_of_eq nb62.b_eq.symm) (Nat.lt_of_lt_of_eq (Nat.lt_succ_self _) nb62.sz.symm)
              have hR60_30 : OwnR eTly 95 w w62 (ZZ Z w.heap.size [some b62, ob A60_h, some b54, ob A52_h, some b38, some b31, some b26, ob A17_h, some b3]) A60_h c60_h r60.ts := (hR60_h.ext nb62.gr (mv_new nb62.gr (Nat.le_of_eq nb62.b_eq.symm)))
              replace hG := bind_some hG; obtain ⟨r63, hr63, hG⟩ := hG
              refine wl_exg rfl rfl (guard_eq rfl hc57) rfl (by decide) (fun st => x_call0 own_52 (ee st rfl) (am2 (ee st rfl) (ee st rfl)) (a52 K_ r60 [0, 0, 0, 0] A60_h c60_h (some ⟨b62, 0, none⟩) 4 ZA _ hR60_30.all (sl_bk (xs := [0, 0, 0, 0]) (css := [[I 0], [I 0], [I 0], [I 0]]) nb62.bk trivial ⟨rfl, rfl, rfl, rfl, trivial⟩ rfl (Nat.le_refl _)) r63 hr63)) ?_
              rintro _ w64 ⟨hx63, rfl⟩
              have hp31 : Hp w [some b62, ob A60_h, some b54, ob A52_h, some b38, some b31, some b26, ob A17_h, some b3] w64 := hp30.ext hx63
              refine wd rfl (fun st => x_pick_f (v := .bool r63) (ee st rfl) hc57 (ee st rfl)) <| wm rfl (v := .bool r63) rfl ?_
              rcases bool_cases (r63) with hc65 | hc65
              ·replace hG := cond_t hG hc65
               exact absurd (Option.some.inj hG) (by decide)
              ·replace hG := cond_f hG hc65
               replace hG := bind_some hG; obtain ⟨r66, hr66, hG⟩ := hG
               refine wl_exg rfl rfl (guard_eq rfl hc65) rfl (by decide) (fun st => x_call0 own_61 (ee st rfl) (am1 (ee st rfl)) (a61h K_ ([] : List Tly) none 0 (ZZ Z w.heap.size [some b62, ob A60_h, some b54, ob A52_h, some b38, some b31, some b26, ob A17_h, some b3]) _ (Sl.nil eTly _ _) r66 hr66)) ?_
               rintro _ w67 ⟨hx66, A66_h, c66_h, rfl, hR66⟩
               have hp32 : Hp w [ob A66_h, some b62, ob A60_h, some b54, ob A52_h, some b38, some b31, some b26, ob A17_h, some b3] w67 := hp31.hand hx66 hR66
               have hR66_h : OwnR eTly 95 w w67 (ZZ Z w.heap.size [ob A66_h, some b62, ob A60_h, some b54, ob A52_h, some b38, some b31, some b26, ob A17_h, some b3]) A66_h c66_h r66.ts := OwnR.hand hp31 hR66 (fun _ _ _ _ _ _ h => h)
               refine wl_exg rfl rfl (guard_eq rfl hc65) rfl (by decide) (fun st => x_buildSlice (e := 3) (vs := #[(0, I 0), (1, I 0), (2, I 0), (3, I (-1))]) (cs := #[I 0, I 0, I 0, I (-1)]) (pm4 (ee st rfl) (ee st rfl) (ee st rfl) (ee st rfl)) (by kernel_rfl)) ?_
               rintro _ w68 ⟨b68, rfl, nb68⟩
               have hp33 : Hp w [some b68, ob A66_h, some b62, ob A60_h, some b54, ob A52_h, some b38, some b31, some b26, ob A17_h, some b3] w68 := hp32.new nb68.gr (Nat.le_of_eq nb68.b_eq.symm) (Nat.lt_of_lt_of_eq (Nat.lt_succ_self _) nb68.sz.symm)
               have hR66_33 : OwnR eTly 95 w w68 (ZZ Z w.heap.size [some b68, ob A66_h, some b62, ob A60_h, some b54, ob A52_h, some b38, some b31, some b26, ob A17_h, some b3]) A66_h c66_h r66.ts := (hR66_h.ext nb68.gr (mv_new nb68.gr (Nat.le_of_eq nb68.b_eq.symm)))
               replace hG := bind_some hG; obtain ⟨r69, hr69, hG⟩ := hG
               refine wl_exg rfl rfl (guard_eq rfl hc65) rfl (by decide) (fun st => x_call0 own_52 (ee st rfl) (am2 (ee st rfl) (ee st rfl)) (a52 K_ r66 [0, 0, 0, (-1)] A66_h c66_h (some ⟨b68, 0, none⟩) 4 ZA _ hR66_33.all (sl_bk (xs := [0, 0, 0, (-1)]) (css := [[I 0], [I 0], [I 0], [I (-1)]]) nb68.bk trivial ⟨rfl, rfl, rfl, rfl, trivial⟩ rfl (Nat.le_refl _)) r69 hr69)) ?_
               rintro _ w70 ⟨hx69, rfl⟩
               have hp34 : Hp w [some b68, ob A66_h, some b62, ob A60_h, some b54, ob A52_h, some b38, some b31, some b26, ob A17_h, some b3] w70 := hp33.ext hx69
               refine wd rfl (fun st => x_pick_f (v := .bool r69) (ee st rfl) hc65 (ee st rfl)) <| wm rfl (v := .bool r69) rfl ?_
               rcases bool_cases (r69) with hc71 | hc71
               ·replace hG := cond_t hG hc71
                exact absurd (Option.some.inj hG) (by decide)
               ·replace hG := cond_f hG hc71
                replace hG := bind_some hG; obtain ⟨r72, hr72, hG⟩ := hG
                refine wl_exg rfl rfl (guard_eq rfl hc71) rfl (by decide) (fun st => x_call0 own_61 (ee st rfl) (am1 (ee st rfl)) (a61h K_ ([] : List Tly) none 0 (ZZ Z w.heap.size [some b68, ob A66_h, some b62, ob A60_h, some b54, ob A52_h, some b38, some b31, some b26, ob A17_h, some b3]) _ (Sl.nil eTly _ _) r72 hr72)) ?_
                rintro _ w73 ⟨hx72, A72_h, c72_h, rfl, hR72⟩
                have hp35 : Hp w [ob A72_h, some b68, ob A66_h, some b62, ob A60_h, some b54, ob A52_h, some b38, some b31, some b26, ob A17_h, some b3] w73 := hp34.hand hx72 hR72
                have hR72_h : OwnR eTly 95 w w73 (ZZ Z w.heap.size [ob A72_h, some b68, ob A66_h, some b62, ob A60_h, some b54, ob A52_h, some b38, some b31, some b26, ob A17_h, some b3]) A72_h c72_h r72.ts := OwnR.hand hp34 hR72 (fun _ _ _ _ _ _ h => h)
                refine wl_exg rfl rfl (guard_eq rfl hc71) rfl (by decide) (fun st => x_buildSlice (e := 3) (vs := #[(0, I 0), (1, I 0), (2, I 0)]) (cs := #[I 0, I 0, I 0]) (pm3 (ee st rfl) (ee st rfl) (ee st rfl)) (by kernel_rfl)) ?_
                rintro _ w74 ⟨b74, rfl, nb74⟩
                have hp36 : Hp w [some b74, ob A72_h, some b68, ob A66_h, some b62, ob A60_h, some b54, ob A52_h, some b38, some b31, some b26, ob A17_h, some b3] w74 := hp35.new nb74.gr (Nat.le_of_eq nb74.b_eq.symm) (Nat.lt_of_lt_of_eq (Nat.lt_succ_self _) nb74.sz.symm)
                have hR72_36 : OwnR eTly 95 w w74 (ZZ Z w.heap.size [some b74, ob A72_h, some b68, ob A66_h, some b62, ob A60_h, some b54, ob A52_h, some b38, some b31, some b26, ob A17_h, some b3]) A72_h c72_h r72.ts := (hR72_h.ext nb74.gr (mv_new nb74.gr (Nat.le_of_eq nb74.b_eq.symm)))
                replace hG := bind_some hG; obtain ⟨r75, hr75, hG⟩ := hG
                refine wl_exg rfl rfl (guard_eq rfl hc71) rfl (by decide) (fun st => x_call0 own_52 (ee st rfl) (am2 (ee st rfl) (ee st rfl)) (a52 K_ r72 [0, 0, 0] A72_h c72_h (some ⟨b74, 0, none⟩) 3 ZA _ hR72_36.all (sl_bk (xs := [0, 0, 0]) (css := [[I 0], [I 0], [I 0]]) nb74.bk trivial ⟨rfl, rfl, rfl, trivial⟩ rfl (Nat.le_refl _)) r75 hr75)) ?_
                rintro _ w76 ⟨hx75, rfl⟩
                have hp37 : Hp w [some b74, ob A72_h, some b68, ob A66_h, some b62, ob A60_h, some b54, ob A52_h, some b38, some b31, some b26, ob A17_h, some b3] w76 := hp36.ext hx75
                refine wd rfl (fun st => x_pick_f (v := .bool r75) (ee st rfl) hc71 (ee st rfl)) <| wm rfl (v := .bool r75) rfl ?_
                rcases bool_cases (r75) with hc77 | hc77
                ·replace hG := cond_t hG hc77
                 exact absurd (Option.some.inj hG) (by decide)
                ·replace hG := cond_f hG hc77
                 replace hG := bind_some hG; obtain ⟨r78, hr78, hG⟩ := hG
                 refine wl_exg rfl rfl (guard_eq rfl hc77) rfl (by decide) (fun st => x_call0 own_62 (ee st rfl) am0 (a62 K_ ZA _ r78 hr78)) ?_
                 rintro _ w79 ⟨hx78, ⟨_, rfl, rfl⟩⟩
                 have hp38 : Hp w [some b74, ob A72_h, some b68, ob A66_h, some b62, ob A60_h, some b54, ob A52_h, some b38, some b31, some b26, ob A17_h, some b3] w79 := hp37.ext hx78
                 refine wl_exg rfl rfl (guard_eq rfl hc77) rfl (by decide) (fun st => x_buildSlice (e := 95) (vs := #[(0, .agg #[I r78.who, I r78.fr, I r78.to, I r78.lo, I r78.hi])]) (cs := #[I r78.who, I r78.fr, I r78.to, I r78.lo, I r78.hi]) (pm1 (ee st rfl)) (by kernel_rfl)) ?_
                 rintro _ w80 ⟨b80, rfl, nb80⟩
                 have hp39 : Hp w [some b80, some b74, ob A72_h, some b68, ob A66_h, some b62, ob A60_h, some b54, ob A52_h, some b38, some b31, some b26, ob A17_h, some b3] w80 := hp38.new nb80.gr (Nat.le_of_eq nb80.b_eq.symm) (Nat.lt_of_lt_of_eq (Nat.lt_succ_self _) nb80.sz.symm)
                 have hp40 : Hp w [some b74, ob A72_h, some b68, ob A66_h, some b62, ob A60_h, some b54, ob A52_h, some b38, some b31, some b26, ob A17_h, some b3] w80 := hp39.erase 0
                 have bk80_40 : Bk w80 b80 95 #[I r78.who, I r78.fr, I r78.to, I r78.lo, I r78.hi] := nb80.bk
                 have bk80_z : Sl eTly w80 (ZZ Z w.heap.size [some b74, ob A72_h, some b68, ob A66_h, some b62, ob A60_h, some b54, ob A52_h, some b38, some b31, some b26, ob A17_h, some b3]) (some ⟨b80, 0, none⟩) 1 [r78] := sl_bk (xs := [r78]) (css := [[I r78.who, I r78.fr, I r78.to, I r78.lo, I r78.hi]]) bk80_40 (hp39.lit 0 rfl) ⟨rfl, trivial⟩ rfl (Nat.le_refl _)
                 replace hG := bind_some hG; obtain ⟨r81, hr81, hG⟩ := hG
                 refine wl_exg rfl rfl (guard_eq rfl hc77) rfl (by decide) (fun st => x_call0 own_61 (ee st rfl) (am1 (ee st rfl)) (a61h K_ [r78] (some ⟨b80, 0, none⟩) 1 (ZZ Z w.heap.size [some b74, ob A72_h, some b68, ob A66_h, some b62, ob A60_h, some b54, ob A52_h, some b38, some b31, some b26, ob A17_h, some b3]) _ bk80_z r81 hr81)) ?_
                 rintro _ w82 ⟨hx81, A81_h, c81_h, rfl, hR81⟩
                 have hp41 : Hp w [ob A81_h, some b74, ob A72_h, some b68, ob A66_h, some b62, ob A60_h, some b54, ob A52_h, some b38, some b31, some b26, ob A17_h, some b3] w82 := hp40.hand hx81 hR81
                 have hR81_h : OwnR eTly 95 w w82 (ZZ Z w.heap.size [ob A81_h, some b74, ob A72_h, some b68, ob A66_h, some b62, ob A60_h, some b54, ob A52_h, some b38, some b31, some b26, ob A17_h, some b3]) A81_h c81_h r81.ts := OwnR.hand hp40 hR81 (fun _ _ _ _ _ _ h => h)
                 refine wl_exg rfl rfl (guard_eq rfl hc77) rfl (by decide) (fun st => x_buildSlice (e := 3) (vs := #[(0, I 2), (1, I 3)]) (cs := #[I 2, I 3]) (pm2 (ee st rfl) (ee st rfl)) (by kernel_rfl)) ?_
                 rintro _ w83 ⟨b83, rfl, nb83⟩
                 have hp42 : Hp w [some b83, ob A81_h, some b74, ob A72_h, some b68, ob A66_h, some b62, ob A60_h, some b54, ob A52_h, some b38, some b31, some b26, ob A17_h, some b3] w83 := hp41.new nb83.gr (Nat.le_of_eq nb83.b_eq.symm) (Nat.lt_of_lt_of_eq (Nat.lt_succ_self _) nb83.sz.symm)
                 have hR81_42 : OwnR eTly 95 w w83 (ZZ Z w.heap.size [some b83, ob A81_h, some b74, ob A72_h, some b68, ob A66_h, some b62, ob A60_h, some b54, ob A52_h, some b38, some b31, some b26, ob A17_h, some b3]) A81_h c81_h r81.ts := (hR81_h.ext nb83.gr (mv_new nb83.gr (Nat.le_of_eq nb83.b_eq.symm)))
                 replace hG := bind_some hG; obtain ⟨r84, hr84, hG⟩ := hG
                 refine wl_exg rfl rfl (guard_eq rfl hc77) rfl (by decide) (fun st => x_call0 own_57 (ee st rfl) (am3 (ee st rfl) (ee st rfl) (ee st rfl)) (a57 K_ r81 0 [2, 3] A81_h c81_h (some ⟨b83, 0, none⟩) 2 ZA _ hR81_42.all (sl_bk (xs := [2, 3]) (css := [[I 2], [I 3]]) nb83.bk trivial ⟨rfl, rfl, trivial⟩ rfl (Nat.le_refl _)) r84 hr84)) ?_
                 rintro _ w85 ⟨hx84, rfl⟩
                 have hp43 : Hp w [some b83, ob A81_h, some b74, ob A72_h, some b68, ob A66_h, some b62, ob A60_h, some b54, ob A52_h, some b38, some b31, some b26, ob A17_h, some b3] w85 := hp42.ext hx84
                 refine wl_detg rfl rfl (guard_eq rfl hc77) rfl (by decide) (fun st => x_not (ee st rfl)) <| wd rfl (fun st => x_pick_f (v := .bool !r84) (ee st rfl) hc77 (ee st rfl)) <| wm rfl (v := .bool !r84) rfl ?_
                 rcases bool_cases (!r84) with hc86 | hc86
                 ·replace hG := cond_t hG hc86
                  exact absurd (Option.some.inj hG) (by decide)
                 ·replace hG := cond_f hG hc86
                  have hc86_88 : r84 = true := by simpa using hc86
                  replace hG := bind_some hG; obtain ⟨r89, hr89, hG⟩ := hG
                  refine wl_exg rfl rfl (guard_eq rfl hc86) rfl (by decide) (fun st => x_call0 own_62 (ee st rfl) am0 (a62 K_ ZA _ r89 hr89)) ?_
                  rintro _ w90 ⟨hx89, ⟨_, rfl, rfl⟩⟩
                  have hp44 : Hp w [some b83, ob A81_h, some b74, ob A72_h, some b68, ob A66_h, some b62, ob A60_h, some b54, ob A52_h, some b38, some b31, some b26, ob A17_h, some b3] w90 := hp43.ext hx89
                  refine wl_exg rfl rfl (guard_eq rfl hc86) rfl (by decide) (fun st => x_buildSlice (e := 95) (vs := #[(0, .agg #[I r89.who, I r89.fr, I r89.to, I r89.lo, I r89.hi])]) (cs := #[I r89.who, I r89.fr, I r89.to, I r89.lo, I r89.hi]) (pm1 (ee st rfl)) (by kernel_rfl)) ?_
                  rintro _ w91 ⟨b91, rfl, nb91⟩
                  have hp45 : Hp w [some b91, some b83, ob A81_h, some b74, ob A72_h, some b68, ob A66_h, some b62, ob A60_h, some b54, ob A52_h, some b38, some b31, some b26, ob A17_h, some b3] w91 := hp44.new nb91.gr (Nat.le_of_eq nb91.b_eq.symm) (Nat.lt_of_lt_of_eq (Nat.lt_succ_self _) nb91.sz.symm)
                  have hp46 : Hp w [some b83, ob A81_h, some b74, ob A72_h, some b68, ob A66_h, some b62, ob A60_h, some b54, ob A52_h, some b38, some b31, some b26, ob A17_h, some b3] w91 := hp45.erase 0
                  have bk91_46 : Bk w91 b91 95 #[I r89.who, I r89.fr, I r89.to, I r89.lo, I r89.hi] := nb91.bk
                  have bk91_z : Sl eTly w91 (ZZ Z w.heap.size [some b83, ob A81_h, some b74, ob A72_h, some b68, ob A66_h, some b62, ob A60_h, some b54, ob A52_h, some b38, some b31, some b26, ob A17_h, some b3]) (some ⟨b91, 0, none⟩) 1 [r89] := sl_bk (xs := [r89]) (css := [[I r89.who, I r89.fr, I r89.to, I r89.lo, I r89.hi]]) bk91_46 (hp45.lit 0 rfl) ⟨rfl, trivial⟩ rfl (Nat.le_refl _)
                  replace hG := bind_some hG; obtain ⟨r92, hr92, hG⟩ := hG
                  refine wl_exg rfl rfl (guard_eq rfl hc86) rfl (by decide) (fun st => x_call0 own_61 (ee st rfl) (am1 (ee st rfl)) (a61h K_ [r89] (some ⟨b91, 0, none⟩) 1 (ZZ Z w.heap.size [some b83, ob A81_h, some b74, ob A72_h, some b68, ob A66_h, some b62, ob A60_h, some b54, ob A52_h, some b38, some b31, some b26, ob A17_h, some b3]) _ bk91_z r92 hr92)) ?_
                  rintro _ w93 ⟨hx92, A92_h, c92_h, rfl, hR92⟩
                  have hp47 : Hp w [ob A92_h, some b83, ob A81_h, some b74, ob A72_h, some b68, ob A66_h, some b62, ob A60_h, some b54, ob A52_h, some b38, some b31, some b26, ob A17_h, some b3] w93 := hp46.hand hx92 hR92
                  have hR92_h : OwnR eTly 95 w w93 (ZZ Z w.heap.size [ob A92_h, some b83, ob A81_h, some b74, ob A72_h, some b68, ob A66_h, some b62, ob A60_h, some b54, ob A52_h, some b38, some b31, some b26, ob A17_h, some b3]) A92_h c92_h r92.ts := OwnR.hand hp46 hR92 (fun _ _ _ _ _ _ h => h)
                  refine wl_exg rfl rfl (guard_eq rfl hc86) rfl (by decide) (fun st => x_buildSlice (e := 3) (vs := #[(0, I 2)]) (cs := #[I 2]) (pm1 (ee st rfl)) (by kernel_rfl)) ?_
                  rintro _ w94 ⟨b94, rfl, nb94⟩
                  have hp48 : Hp w [some b94, ob A92_h, some b83, ob A81_h, some b74, ob A72_h, some b68, ob A66_h, some b62, ob A60_h, some b54, ob A52_h, some b38, some b31, some b26, ob A17_h, some b3] w94 := hp47.new nb94.gr (Nat.le_of_eq nb94.b_eq.symm) (Nat.lt_of_lt_of_eq (Nat.lt_succ_self _) nb94.sz.symm)
                  have hR92_48 : OwnR eTly 95 w w94 (ZZ Z w.heap.size [some b94, ob A92_h, some b83, ob A81_h, some b74, ob A72_h, some b68, ob A66_h, some b62, ob A60_h, some b54, ob A52_h, some b38, some b31, some b26, ob A17_h, some b3]) A92_h c92_h r92.ts := (hR92_h.ext nb94.gr (mv_new nb94.gr (Nat.le_of_eq nb94.b_eq.symm)))
                  replace hG := bind_some hG; obtain ⟨r95, hr95, hG⟩ := hG
                  refine wl_exg rfl rfl (guard_eq rfl hc86) rfl (by decide) (fun st => x_call0 own_57 (ee st rfl) (am3 (ee st rfl) (ee st rfl) (ee st rfl)) (a57 K_ r92 0 [2] A92_h c92_h (some ⟨b94, 0, none⟩) 1 ZA _ hR92_48.all (sl_bk (xs := [2]) (css := [[I 2]]) nb94.bk trivial ⟨rfl, trivial⟩ rfl (Nat.le_refl _)) r95 hr95)) ?_
                  rintro _ w96 ⟨hx95, rfl⟩
                  have hp49 : Hp w [some b94, ob A92_h, some b83, ob A81_h, some b74, ob A72_h, some b68, ob A66_h, some b62, ob A60_h, some b54, ob A52_h, some b38, some b31, some b26, ob A17_h, some b3] w96 := hp48.ext hx95
                  refine wd rfl (fun st => x_pick_f (v := .bool r95) (ee st rfl) hc86 (ee st rfl)) <| wm rfl (v := .bool r95) rfl ?_
                  rcases bool_cases (r95) with hc97 | hc97
                  ·replace hG := cond_t hG hc97
                   exact absurd (Option.some.inj hG) (by decide)
                  ·replace hG := cond_f hG hc97
                   replace hG := bind_some hG; obtain ⟨r98, hr98, hG⟩ := hG
                   refine wl_exg rfl rfl (guard_eq rfl hc97) rfl (by decide) (fun st => x_call0 own_62 (ee st rfl) am0 (a62 K_ ZA _ r98 hr98)) ?_
                   rintro _ w99 ⟨hx98, ⟨_, rfl, rfl⟩⟩
                   have hp50 : Hp w [some b94, ob A92_h, some b83, ob A81_h, some b74, ob A72_h, some b68, ob A66_h, some b62, ob A60_h, some b54, ob A52_h, some b38, some b31, some b26, ob A17_h, some b3] w99 := hp49.ext hx98
                   refine wl_exg rfl rfl (guard_eq rfl hc97) rfl (by decide) (fun st => x_buildSlice (e := 95) (vs := #[(0, .agg #[I r98.who, I r98.fr, I r98.to, I r98.lo, I r98.hi])]) (cs := #[I r98.who, I r98.fr, I r98.to, I r98.lo, I r98.hi]) (pm1 (ee st rfl)) (by kernel_rfl)) ?_
                   rintro _ w100 ⟨b100, rfl, nb100⟩
                   have hp51 : Hp w [some b100, some b94, ob A92_h, some b83, ob A81_h, some b74, ob A72_h, some b68, ob A66_h, some b62, ob A60_h, some b54, ob A52_h, some b38, some b31, some b26, ob A17_h, some b3] w100 := hp50.new nb100.gr (Nat.le_of_eq nb100.b_eq.symm) (Nat.lt_of_lt_of_eq (Nat.lt_succ_self _) nb100.sz.symm)
                   have hp52 : Hp w [some b94, ob A92_h, some b83, ob A81_h, some b74, ob A72_h, some b68, ob A66_h, some b62, ob A60_h, some b54, ob A52_h, some b38, some b31, some b26, ob A17_h, some b3] w100 := hp51.erase 0
                   have bk100_52 : Bk w100 b100 95 #[I r98.who, I r98.fr, I r98.to, I r98.lo, I r98.hi] := nb100.bk
                   have bk100_z : Sl eTly w100 (ZZ Z w.heap.size [some b94, ob A92_h, some b83, ob A81_h, some b74, ob A72_h, some b68, ob A66_h, some b62, ob A60_h, some b54, ob A52_h, some b38, some b31, some b26, ob A17_h, some b3]) (some ⟨b100, 0, none⟩) 1 [r98] := sl_bk (xs := [r98]) (css := [[I r98.who, I r98.fr, I r98.to, I r98.lo, I r98.hi]]) bk100_52 (hp51.lit 0 rfl) ⟨rfl, trivial⟩ rfl (Nat.le_refl _)
                   replace hG := bind_some hG; obtain ⟨r101, hr101, hG⟩ := hG
                   refine wl_exg rfl rfl (guard_eq rfl hc97) rfl (by decide) (fun st => x_call0 own_61 (ee st rfl) (am1 (ee st rfl)) (a61h K_ [r98] (some ⟨b100, 0, none⟩) 1 (ZZ Z w.heap.size [some b94, ob A92_h, some b83, ob A81_h, some b74, ob A72_h, some b68, ob A66_h, some b62, ob A60_h, some b54, ob A52_h, some b38, some b31, some b26, ob A17_h, some b3]) _ bk100_z r101 hr101)) ?_
                   rintro _ w102 ⟨hx101, A101_h, c101_h, rfl, hR101⟩
                   have hp53 : Hp w [ob A101_h, some b94, ob A92_h, some b83, ob A81_h, some b74, ob A72_h, some b68, ob A66_h, some b62, ob A60_h, some b54, ob A52_h, some b38, some b31, some b26, ob A17_h, some b3] w102 := hp52.hand hx101 hR101
                   have hR101_h : OwnR eTly 95 w w102 (ZZ Z w.heap.size [ob A101_h, some b94, ob A92_h, some b83, ob A81_h, some b74, ob A72_h, some b68, ob A66_h, some b62, ob A60_h, some b54, ob A52_h, some b38, some b31, some b26, ob A17_h, some b3]) A101_h c101_h r101.ts := OwnR.hand hp52 hR101 (fun _ _ _ _ _ _ h => h)
                   refine wl_exg rfl rfl (guard_eq rfl hc97) rfl (by decide) (fun st => x_buildSlice (e := 3) (vs := #[(0, I 3), (1, I 2)]) (cs := #[I 3, I 2]) (pm2 (ee st rfl) (ee st rfl)) (by kernel_rfl)) ?_
                   rintro _ w103 ⟨b103, rfl, nb103⟩
                   have hp54 : Hp w [some b103, ob A101_h, some b94, ob A92_h, some b83, ob A81_h, some b74, ob A72_h, some b68, ob A66_h, some b62, ob A60_h, some b54, ob A52_h, some b38, some b31, some b26, ob A17_h, some b3] w103 := hp53.new nb103.gr (Nat.le_of_eq nb103.b_eq.symm) (Nat.lt_of_lt_of_eq (Nat.lt_succ_self _) nb103.sz.symm)
                   have hR101_54 : OwnR eTly 95 w w103 (ZZ Z w.heap.size [some b103, ob A101_h, some b94, ob A92_h, some b83, ob A81_h, some b74, ob A72_h, some b68, ob A66_h, some b62, ob A60_h, some b54, ob A52_h, some b38, some b31, some b26, ob A17_h, some b3]) A101_h c101_h r101.ts := (hR101_h.ext nb103.gr (mv_new nb103.gr (Nat.le_of_eq nb103.b_eq.symm)))
                   replace hG := bind_some hG; obtain ⟨r104, hr104, hG⟩ := hG
                   refine wl_exg rfl rfl (guard_eq rfl hc97) rfl (by decide) (fun st => x_call0 own_57 (ee st rfl) (am3 (ee st rfl) (ee st rfl) (ee st rfl)) (a57 K_ r101 0 [3, 2] A101_h c101_h (some ⟨b103, 0, none⟩) 2 ZA _ hR101_54.all (sl_bk (xs := [3, 2]) (css := [[I 3], [I 2]]) nb103.bk trivial ⟨rfl, rfl, trivial⟩ rfl (Nat.le_refl _)) r104 hr104)) ?_
                   rintro _ w105 ⟨hx104, rfl⟩
                   have hp55 : Hp w [some b103, ob A101_h, some b94, ob A92_h, some b83, ob A81_h, some b74, ob A72_h, some b68, ob A66_h, some b62, ob A60_h, some b54, ob A52_h, some b38, some b31, some b26, ob A17_h, some b3] w105 := hp54.ext hx104
                   refine wd rfl (fun st => x_pick_f (v := .bool r104) (ee st rfl) hc97 (ee st rfl)) <| wm rfl (v := .bool r104) rfl ?_
                   rcases bool_cases (r104) with hc106 | hc106
                   ·replace hG := cond_t hG hc106
                    exact absurd (Option.some.inj hG) (by decide)
                   ·replace hG := cond_f hG hc106
                    replace hG := bind_some hG; obtain ⟨r107, hr107, hG⟩ := hG
                    refine wl_exg rfl rfl (guard_eq rfl hc106) rfl (by decide) (fun st => x_call0 own_62 (ee st rfl) am0 (a62 K_ ZA _ r107 hr107)) ?_
                    rintro _ w108 ⟨hx107, ⟨_, rfl, rfl⟩⟩
                    have hp56 : Hp w [some b103, ob A101_h, some b94, ob A92_h, some b83, ob A81_h, some b74, ob A72_h, some b68, ob A66_h, some b62, ob A60_h, some b54, ob A52_h, some b38, some b31, some b26, ob A17_h, some b3] w108 := hp55.ext hx107
                    refine wl_exg rfl rfl (guard_eq rfl hc106) rfl (by decide) (fun st => x_buildSlice (e := 95) (vs := #[(0, .agg #[I r107.who, I r107.fr, I r107.to, I r107.lo, I r107.hi])]) (cs := #[I r107.who, I r107.fr, I r107.to, I r107.lo, I r107.hi]) (pm1 (ee st rfl)) (by kernel_rfl)) ?_
                    rintro _ w109 ⟨b109, rfl, nb109⟩
                    have hp57 : Hp w [some b109, some b103, ob A101_h, some b94, ob A92_h, some b83, ob A81_h, some b74, ob A72_h, some b68, ob A66_h, some b62, ob A60_h, some b54, ob A52_h, some b38, some b31, some b26, ob A17_h, some b3] w109 := hp56.new nb109.gr (Nat.le_of_eq nb109.b_eq.symm) (Nat.lt_of_lt_of_eq (Nat.lt_succ_self _) nb109.sz.symm)
                    have hp58 : Hp w [some b103, ob A101_h, some b94, ob A92_h, some b83, ob A81_h, some b74, ob A72_h, some b68, ob A66_h, some b62, ob A60_h, some b54, ob A52_h, some b38, some b31, some b26, ob A17_h, some b3] w109 := hp57.erase 0
                    have bk109_58 : Bk w109 b109 95 #[I r107.who, I r107.fr, I r107.to, I r107.lo, I r107.hi] := nb109.bk
                    have bk109_z : Sl eTly w109 (ZZ Z w.heap.size [some b103, ob A101_h, some b94, ob A92_h, some b83, ob A81_h, some b74, ob A72_h, some b68, ob A66_h, some b62, ob A60_h, some b54, ob A52_h, some b38, some b31, some b26, ob A17_h, some b3]) (some ⟨b109, 0, none⟩) 1 [r107] := sl_bk (xs := [r107]) (css := [[I r107.who, I r107.fr, I r107.to, I r107.lo, I r107.hi]]) bk109_58 (hp57.lit 0 rfl) ⟨rfl, trivial⟩ rfl (Nat.le_refl _)
                    replace hG := bind_some hG; obtain ⟨r110, hr110, hG⟩ := hG
                    refine wl_exg rfl rfl (guard_eq rfl hc106) rfl (by decide) (fun st => x_call0 own_61 (ee st rfl) (am1 (ee st rfl)) (a61h K_ [r107] (some ⟨b109, 0, none⟩) 1 (ZZ Z w.heap.size [some b103, ob A101_h, some b94, ob A92_h, some b83, ob A81_h, some b74, ob A72_h, some b68, ob A66_h, some b62, ob A60_h, some b54, ob A52_h, some b38, some b31, some b26, ob A17_h, some b3]) _ bk109_z r110 hr110)) ?_
                    rintro _ w111 ⟨hx110, A110_h, c110_h, rfl, hR110⟩
                    have hp59 : Hp w [ob A110_h, some b103, ob A101_h, some b94, ob A92_h, some b83, ob A81_h, some b74, ob A72_h, some b68, ob A66_h, some b62, ob A60_h, some b54, ob A52_h, some b38, some b31, some b26, ob A17_h, some b3] w111 := hp58.hand hx110 hR110
                    have hR110_h : OwnR eTly 95 w w111 (ZZ Z w.heap.size [ob A110_h, some b103, ob A101_h, some b94, ob A92_h, some b83, ob A81_h, some b74, ob A72_h, some b68, ob A66_h, some b62, ob A60_h, some b54, ob A52_h, some b38, some b31, some b26, ob A17_h, some b3]) A110_h c110_h r110.ts := OwnR.hand hp58 hR110 (fun _ _ _ _ _ _ h => h)
                    replace hG := bind_some hG; obtain ⟨r112, hr112, hG⟩ := hG
                    refine wl_exg rfl rfl (guard_eq rfl hc106) rfl (by decide) (fun st => x_call0 own_57 (ee st rfl) (am3 (ee st rfl) (ee st rfl) (ee st rfl)) (a57 K_ r110 2 ([] : List Int) A110_h c110_h none 0 ZA _ hR110_h.all (Sl.nil (eInt .i64) _ _) r112 hr112)) ?_
                    rintro _ w113 ⟨hx112, rfl⟩
                    have hp60 : Hp w [ob A110_h, some b103, ob A101_h, some b94, ob A92_h, some b83, ob A81_h, some b74, ob A72_h, some b68, ob A66_h, some b62, ob A60_h, some b54, ob A52_h, some b38, some b31, some b26, ob A17_h, some b3] w113 := hp59.ext hx112
                    refine wd rfl (fun st => x_pick_f (v := .bool r112) (ee st rfl) hc106 (ee st rfl)) <| wm rfl (v := .bool r112) rfl ?_
                    rcases bool_cases (r112) with hc114 | hc114
                    ·replace hG := cond_t hG hc114
                     exact absurd (Option.some.inj hG) (by decide)
                    ·replace hG := cond_f hG hc114
                     replace hG := bind_some hG; obtain ⟨r115, hr115, hG⟩ := hG
                     refine wl_exg rfl rfl (guard_eq rfl hc114) rfl (by decide) (fun st => x_call0 own_63 (ee st rfl) am0 (a63 K_ ZA _ r115 hr115)) ?_
                     rintro _ w116 ⟨hx115, ⟨_, rfl, rfl⟩⟩
                     have hp61 : Hp w [ob A110_h, some b103, ob A101_h, some b94, ob A92_h, some b83, ob A81_h, some b74, ob A72_h, some b68, ob A66_h, some b62, ob A60_h, some b54, ob A52_h, some b38, some b31, some b26, ob A17_h, some b3] w116 := hp60.ext hx115
                     refine wl_exg rfl rfl (guard_eq rfl hc114) rfl (by decide) (fun st => x_buildSlice (e := 95) (vs := #[(0, .agg #[I r115.who, I r115.fr, I r115.to, I r115.lo, I r115.hi])]) (cs := #[I r115.who, I r115.fr, I r115.to, I r115.lo, I r115.hi]) (pm1 (ee st rfl)) (by kernel_rfl)) ?_
                     rintro _ w117 ⟨b117, rfl, nb117⟩
                     have hp62 : Hp w [some b117, ob A110_h, some b103, ob A101_h, some b94, ob A92_h, some b83, ob A81_h, some b74, ob A72_h, some b68, ob A66_h, some b62, ob A60_h, some b54, ob A52_h, some b38, some b31, some b26, ob A17_h, some b3] w117 := hp61.new nb117.gr (Nat.le_of_eq nb117.b_eq.symm) (Nat.lt_of_lt_of_eq (Nat.lt_succ_self _) nb117.sz.symm)
                     have hp63 : Hp w [ob A110_h, some b103, ob A101_h, some b94, ob A92_h, some b83, ob A81_h, some b74, ob A72_h, some b68, ob A66_h, some b62, ob A60_h, some b54, ob A52_h, some b38, some b31, some b26, ob A17_h, some b3] w117 := hp62.erase 0
                     have bk117_63 : Bk w117 b117 95 #[I r115.who, I r115.fr, I r115.to, I r115.lo, I r115.hi] := nb117.bk
                     have bk117_z : Sl eTly w117 (ZZ Z w.heap.size [ob A110_h, some b103, ob A101_h, some b94, ob A92_h, some b83, ob A81_h, some b74, ob A72_h, some b68, ob A66_h, some b62, ob A60_h, some b54, ob A52_h, some b38, some b31, some b26, ob A17_h, some b3]) (some ⟨b117, 0, none⟩) 1 [r115] := sl_bk (xs := [r115]) (css := [[I r115.who, I r115.fr, I r115.to, I r115.lo, I r115.hi]]) bk117_63 (hp62.lit 0 rfl) ⟨rfl, trivial⟩ rfl (Nat.le_refl _)
                     replace hG := bind_some hG; obtain ⟨r118, hr118, hG⟩ := hG
                     refine wl_exg rfl rfl (guard_eq rfl hc114) rfl (by decide) (fun st => x_call0 own_61 (ee st rfl) (am1 (ee st rfl)) (a61h K_ [r115] (some ⟨b117, 0, none⟩) 1 (ZZ Z w.heap.size [ob A110_h, some b103, ob A101_h, some b94, ob A92_h, some b83, ob A81_h, some b74, ob A72_h, some b68, ob A66_h, some b62, ob A60_h, some b54, ob A52_h, some b38, some b31, some b26, ob A17_h, some b3]) _ bk117_z r118 hr118)) ?_
                     rintro _ w119 ⟨hx118, A118_h, c118_h, rfl, hR118⟩
                     have hp64 : Hp w [ob A118_h, ob A110_h, some b103, ob A101_h, some b94, ob A92_h, some b83, ob A81_h, some b74, ob A72_h, some b68, ob A66_h, some b62, ob A60_h, some b54, ob A52_h, some b38, some b31, some b26, ob A17_h, some b3] w119 := hp63.hand hx118 hR118
                     have hR118_h : OwnR eTly 95 w w119 (ZZ Z w.heap.size [ob A118_h, ob A110_h, some b103, ob A101_h, some b94, ob A92_h, some b83, ob A81_h, some b74, ob A72_h, some b68, ob A66_h, some b62, ob A60_h, some b54, ob A52_h, some b38, some b31, some b26, ob A17_h, some b3]) A118_h c118_h r118.ts := OwnR.hand hp63 hR118 (fun _ _ _ _ _ _ h => h)
                     replace hG := bind_some hG; obtain ⟨r120, hr120, hG⟩ := hG
                     refine wl_exg rfl rfl (guard_eq rfl hc114) rfl (by decide) (fun st => x_call0 own_57 (ee st rfl) (am3 (ee st rfl) (ee st rfl) (ee st rfl)) (a57 K_ r118 0 ([] : List Int) A118_h c118_h none 0 ZA _ hR118_h.all (Sl.nil (eInt .i64) _ _) r120 hr120)) ?_
                     rintro _ w121 ⟨hx120, rfl⟩
                     have hp65 : Hp w [ob A118_h, ob A110_h, some b103, ob A101_h, some b94, ob A92_h, some b83, ob A81_h, some b74, ob A72_h, some b68, ob A66_h, some b62, ob A60_h, some b54, ob A52_h, some b38, some b31, some b26, ob A17_h, some b3] w121 := hp64.ext hx120
                     refine wd rfl (fun st => x_pick_f (v := .bool r120) (ee st rfl) hc114 (ee st rfl)) <| wl_end <| lv_next ?_
                     rcases bool_cases (r120) with hc122 | hc122
                     ·replace hG := cond_t hG hc122
                      exact absurd (Option.some.inj hG) (by decide)
                     ·replace hG := cond_f hG hc122
                      refine cc_cond_f rfl hc122 <| cc_skip <| lv_next <| cc_seq <| cc_region ?_
                      replace hG := bind_some hG; obtain ⟨r123, hr123, hG⟩ := hG
                      refine we rfl (fun st => x_call0 own_63 (ee st rfl) am0 (a63 K_ ZA _ r123 hr123)) ?_
                      rintro _ w124 ⟨hx123, ⟨_, rfl, rfl⟩⟩
                      have hp66 : Hp w [ob A118_h, ob A110_h, some b103, ob A101_h, some b94, ob A92_h, some b83, ob A81_h, some b74, ob A72_h, some b68, ob A66_h, some b62, ob A60_h, some b54, ob A52_h, some b38, some b31, some b26, ob A17_h, some b3] w124 := hp65.ext hx123
                      refine we rfl (fun st => x_buildSlice (e := 95) (vs := #[(0, .agg #[I r123.who, I r123.fr, I r123.to, I r123.lo, I r123.hi])]) (cs := #[I r123.who, I r123.fr, I r123.to, I r123.lo, I r123.hi]) (pm1 (ee st rfl)) (by kernel_rfl)) ?_
                      rintro _ w125 ⟨b125, rfl, nb125⟩
                      have hp67 : Hp w [some b125, ob A118_h, ob A110_h, some b103, ob A101_h, some b94, ob A92_h, some b83, ob A81_h, some b74, ob A72_h, some b68, ob A66_h, some b62, ob A60_h, some b54, ob A52_h, some b38, some b31, some b26, ob A17_h, some b3] w125 := hp66.new nb125.gr (Nat.le_of_eq nb125.b_eq.symm) (Nat.lt_of_lt_of_eq (Nat.lt_succ_self _) nb125.sz.symm)
                      have hp68 : Hp w [ob A118_h, ob A110_h, some b103, ob A101_h, some b94, ob A92_h, some b83, ob A81_h, some b74, ob A72_h, some b68, ob A66_h, some b62, ob A60_h, some b54, ob A52_h, some b38, some b31, some b26, ob A17_h, some b3] w125 := hp67.erase 0
                      have bk125_68 : Bk w125 b125 95 #[I r123.who, I r123.fr, I r123.to, I r123.lo, I r123.hi] := nb125.bk
                      have bk125_z : Sl eTly w125 (ZZ Z w.heap.size [ob A118_h, ob A110_h, some b103, ob A101_h, some b94, ob A92_h, some b83, ob A81_h, some b74, ob A72_h, some b68, ob A66_h, some b62, ob A60_h, some b54, ob A52_h, some b38, some b31, some b26, ob A17_h, some b3]) (some ⟨b125, 0, none⟩) 1 [r123] := sl_bk (xs := [r123]) (css := [[I r123.who, I r123.fr, I r123.to, I r123.lo, I r123.hi]]) bk125_68 (hp67.lit 0 rfl) ⟨rfl, trivial⟩ rfl (Nat.le_refl _)
                      replace hG := bind_some hG; obtain ⟨r126, hr126, hG⟩ := hG
                      refine we rfl (fun st => x_call0 own_61 (ee st rfl) (am1 (ee st rfl)) (a61h K_ [r123] (some ⟨b125, 0, none⟩) 1 (ZZ Z w.heap.size [ob A118_h, ob A110_h, some b103, ob A101_h, some b94, ob A92_h, some b83, ob A81_h, some b74, ob A72_h, some b68, ob A66_h, some b62, ob A60_h, some b54, ob A52_h, some b38, some b31, some b26, ob A17_h, some b3]) _ bk125_z r126 hr126)) ?_
                      rintro _ w127 ⟨hx126, A126_h, c126_h, rfl, hR126⟩
                      have hp69 : Hp w [ob A126_h, ob A118_h, ob A110_h, some b103, ob A101_h, some b94, ob A92_h, some b83, ob A81_h, some b74, ob A72_h, some b68, ob A66_h, some b62, ob A60_h, some b54, ob A52_h, some b38, some b31, some b26, ob A17_h, some b3] w127 := hp68.hand hx126 hR126
                      have hR126_h : OwnR eTly 95 w w127 (ZZ Z w.heap.size [ob A126_h, ob A118_h, ob A110_h, some b103, ob A101_h, some b94, ob A92_h, some b83, ob A81_h, some b74, ob A72_h, some b68, ob A66_h, some b62, ob A60_h, some b54, ob A52_h, some b38, some b31, some b26, ob A17_h, some b3]) A126_h c126_h r126.ts := OwnR.hand hp68 hR126 (fun _ _ _ _ _ _ h => h)
                      have hp70 : Hp w [ob A118_h, ob A110_h, some b103, ob A101_h, some b94, ob A92_h, some b83, ob A81_h, some b74, ob A72_h, some b68, ob A66_h, some b62, ob A60_h, some b54, ob A52_h, some b38, some b31, some b26, ob A17_h, some b3] w127 := hp69.erase 0
                      have hR126_z : Sl eTly w127 (ZZ Z w.heap.size [ob A118_h, ob A110_h, some b103, ob A101_h, some b94, ob A92_h, some b83, ob A81_h, some b74, ob A72_h, some b68, ob A66_h, some b62, ob A60_h, some b54, ob A52_h, some b38, some b31, some b26, ob A17_h, some b3]) A126_h c126_h r126.ts := hp69.frz 0 rfl hR126_h
                      replace hG := bind_some hG; obtain ⟨r128, hr128, hG⟩ := hG
                      refine we rfl (fun st => x_call0 own_27 (ee st rfl) (am2 (ee st rfl) (ee st rfl)) (a27 K_ r126 4 A126_h c126_h (ZZ Z w.heap.size [ob A118_h, ob A110_h, some b103, ob A101_h, some b94, ob A92_h, some b83, ob A81_h, some b74, ob A72_h, some b68, ob A66_h, some b62, ob A60_h, some b54, ob A52_h, some b38, some b31, some b26, ob A17_h, some b3]) _ hR126_z r128 hr128)) ?_
                      rintro _ w129 ⟨hx128, _, _, rfl, ⟨A128_ra, c128_ra, rfl, hS128_ra⟩, rfl⟩
                      have hp71 : Hp w [ob A118_h, ob A110_h, some b103, ob A101_h, some b94, ob A92_h, some b83, ob A81_h, some b74, ob A72_h, some b68, ob A66_h, some b62, ob A60_h, some b54, ob A52_h, some b38, some b31, some b26, ob A17_h, some b3] w129 := hp70.ext hx128
                      have hS128_ra := hS128_ra.mv (hp70.call (Nat.le_refl _))
                      refine wm rfl (v := .tuple #[.slice A128_ra r128.1.length c128_ra, I r128.2]) rfl <| wd rfl (fun st => x_extract (v := .slice A128_ra r128.1.length c128_ra) (ee st rfl) rfl) <| wd rfl (fun st => x_extract (v := I r128.2) (ee st rfl) rfl) <| wa rfl (v := I r128.2) rfl <| wl_end <| lv_next <| cc_seq <| cc_region ?_
                      replace hG := bind_some hG; obtain ⟨r130, hr130, hG⟩ := hG
                      refine we rfl (fun st => x_call0 own_63 (ee st rfl) am0 (a63 K_ ZA _ r130 hr130)) ?_
                      rintro _ w131 ⟨hx130, ⟨_, rfl, rfl⟩⟩
                      have hp72 : Hp w [ob A118_h, ob A110_h, some b103, ob A101_h, some b94, ob A92_h, some b83, ob A81_h, some b74, ob A72_h, some b68, ob A66_h, some b62, ob A60_h, some b54, ob A52_h, some b38, some b31, some b26, ob A17_h, some b3] w131 := hp71.ext hx130
                      refine we rfl (fun st => x_buildSlice (e := 95) (vs := #[(0, .agg #[I r130.who, I r130.fr, I r130.to, I r130.lo, I r130.hi])]) (cs := #[I r130.who, I r130.fr, I r130.to, I r130.lo, I r130.hi]) (pm1 (ee st rfl)) (by kernel_rfl)) ?_
                      rintro _ w132 ⟨b132, rfl, nb132⟩
                      have hp73 : Hp w [some b132, ob A118_h, ob A110_h, some b103, ob A101_h, some b94, ob A92_h, some b83, ob A81_h, some b74, ob A72_h, some b68, ob A66_h, some b62, ob A60_h, some b54, ob A52_h, some b38, some b31, some b26, ob A17_h, some b3] w132 := hp72.new nb132.gr (Nat.le_of_eq nb132.b_eq.symm) (Nat.lt_of_lt_of_eq (Nat.lt_succ_self _) nb132.sz.symm)
                      have hp74 : Hp w [ob A118_h, ob A110_h, some b103, ob A101_h, some b94, ob A92_h, some b83, ob A81_h, some b74, ob A72_h, some b68, ob A66_h, some b62, ob A60_h, some b54, ob A52_h, some b38, some b31, some b26, ob A17_h, some b3] w132 := hp73.erase 0
                      have bk132_74 : Bk w132 b132 95 #[I r130.who, I r130.fr, I r130.to, I r130.lo, I r130.hi] := nb132.bk
                      have bk132_z : Sl eTly w132 (ZZ Z w.heap.size [ob A118_h, ob A110_h, some b103, ob A101_h, some b94, ob A92_h, some b83, ob A81_h, some b74, ob A72_h, some b68, ob A66_h, some b62, ob A60_h, some b54, ob A52_h, some b38, some b31, some b26, ob A17_h, some b3]) (some ⟨b132, 0, none⟩) 1 [r130] := sl_bk (xs := [r130]) (css := [[I r130.who, I r130.fr, I r130.to, I r130.lo, I r130.hi]]) bk132_74 (hp73.lit 0 rfl) ⟨rfl, trivial⟩ rfl (Nat.le_refl _)
                      replace hG := bind_some hG; obtain ⟨r133, hr133, hG⟩ := hG
                      refine we rfl (fun st => x_call0 own_61 (ee st rfl) (am1 (ee st rfl)) (a61h K_ [r130] (some ⟨b132, 0, none⟩) 1 (ZZ Z w.heap.size [ob A118_h, ob A110_h, some b103, ob A101_h, some b94, ob A92_h, some b83, ob A81_h, some b74, ob A72_h, some b68, ob A66_h, some b62, ob A60_h, some b54, ob A52_h, some b38, some b31, some b26, ob A17_h, some b3]) _ bk132_z r133 hr133)) ?_
                      rintro _ w134 ⟨hx133, A133_h, c133_h, rfl, hR133⟩
                      have hp75 : Hp w [ob A133_h, ob A118_h, ob A110_h, some b103, ob A101_h, some b94, ob A92_h, some b83, ob A81_h, some b74, ob A72_h, some b68, ob A66_h, some b62, ob A60_h, some b54, ob A52_h, some b38, some b31, some b26, ob A17_h, some b3] w134 := hp74.hand hx133 hR133
                      have hR133_h : OwnR eTly 95 w w134 (ZZ Z w.heap.size [ob A133_h, ob A118_h, ob A110_h, some b103, ob A101_h, some b94, ob A92_h, some b83, ob A81_h, some b74, ob A72_h, some b68, ob A66_h, some b62, ob A60_h, some b54, ob A52_h, some b38, some b31, some b26, ob A17_h, some b3]) A133_h c133_h r133.ts := OwnR.hand hp74 hR133 (fun _ _ _ _ _ _ h => h)
                      have hp76 : Hp w [ob A118_h, ob A110_h, some b103, ob A101_h, some b94, ob A92_h, some b83, ob A81_h, some b74, ob A72_h, some b68, ob A66_h, some b62, ob A60_h, some b54, ob A52_h, some b38, some b31, some b26, ob A17_h, some b3] w134 := hp75.erase 0
                      have hR133_z : Sl eTly w134 (ZZ Z w.heap.size [ob A118_h, ob A110_h, some b103, ob A101_h, some b94, ob A92_h, some b83, ob A81_h, some b74, ob A72_h, some b68, ob A66_h, some b62, ob A60_h, some b54, ob A52_h, some b38, some b31, some b26, ob A17_h, some b3]) A133_h c133_h r133.ts := hp75.frz 0 rfl hR133_h
                      replace hG := bind_some hG; obtain ⟨r135, hr135, hG⟩ := hG
                      refine we rfl (fun st => x_call0 own_27 (ee st rfl) (am2 (ee st rfl) (ee st rfl)) (a27 K_ r133 0 A133_h c133_h (ZZ Z w.heap.size [ob A118_h, ob A110_h, some b103, ob A101_h, some b94, ob A92_h, some b83, ob A81_h, some b74, ob A72_h, some b68, ob A66_h, some b62, ob A60_h, some b54, ob A52_h, some b38, some b31, some b26, ob A17_h, some b3]) _ hR133_z r135 hr135)) ?_
                      rintro _ w136 ⟨hx135, _, _, rfl, ⟨A135_ra, c135_ra, rfl, hS135_ra⟩, rfl⟩
                      have hp77 : Hp w [ob A118_h, ob A110_h, some b103, ob A101_h, some b94, ob A92_h, some b83, ob A81_h, some b74, ob A72_h, some b68, ob A66_h, some b62, ob A60_h, some b54, ob A52_h, some b38, some b31, some b26, ob A17_h, some b3] w136 := hp76.ext hx135
                      have hS135_ra := hS135_ra.mv (hp76.call (Nat.le_refl _))
                      refine wm rfl (v := .tuple #[.slice A135_ra r135.1.length c135_ra, I r135.2]) rfl <| wd rfl (fun st => x_extract (v := .slice A135_ra r135.1.length c135_ra) (ee st rfl) rfl) <| wd rfl (fun st => x_extract (v := I r135.2) (ee st rfl) rfl) <| wa rfl (v := I r135.2) rfl <| wl_end <| lv_next <| cc_seq <| cc_region ?_
                      replace hG := bind_some hG; obtain ⟨r137, hr137, hG⟩ := hG
                      refine we rfl (fun st => x_call0 own_61 (ee st rfl) (am1 (ee st rfl)) (a61h K_ ([] : List Tly) none 0 (ZZ Z w.heap.size [ob A118_h, ob A110_h, some b103, ob A101_h, some b94, ob A92_h, some b83, ob A81_h, some b74, ob A72_h, some b68, ob A66_h, some b62, ob A60_h, some b54, ob A52_h, some b38, some b31, some b26, ob A17_h, some b3]) _ (Sl.nil eTly _ _) r137 hr137)) ?_
                      rintro _ w138 ⟨hx137, A137_h, c137_h, rfl, hR137⟩
                      have hp78 : Hp w [ob A137_h, ob A118_h, ob A110_h, some b103, ob A101_h, some b94, ob A92_h, some b83, ob A81_h, some b74, ob A72_h, some b68, ob A66_h, some b62, ob A60_h, some b54, ob A52_h, some b38, some b31, some b26, ob A17_h, some b3] w138 := hp77.hand hx137 hR137
                      have hR137_h : OwnR eTly 95 w w138 (ZZ Z w.heap.size [ob A137_h, ob A118_h, ob A110_h, some b103, ob A101_h, some b94, ob A92_h, some b83, ob A81_h, some b74, ob A72_h, some b68, ob A66_h, some b62, ob A60_h, some b54, ob A52_h, some b38, some b31, some b26, ob A17_h, some b3]) A137_h c137_h r137.ts := OwnR.hand hp77 hR137 (fun _ _ _ _ _ _ h => h)
                      have hp79 : Hp w [ob A118_h, ob A110_h, some b103, ob A101_h, some b94, ob A92_h, some b83, ob A81_h, some b74, ob A72_h, some b68, ob A66_h, some b62, ob A60_h, some b54, ob A52_h, some b38, some b31, some b26, ob A17_h, some b3] w138 := hp78.erase 0
                      have hR137_z : Sl eTly w138 (ZZ Z w.heap.size [ob A118_h, ob A110_h, some b103, ob A101_h, some b94, ob A92_h, some b83, ob A81_h, some b74, ob A72_h, some b68, ob A66_h, some b62, ob A60_h, some b54, ob A52_h, some b38, some b31, some b26, ob A17_h, some b3]) A137_h c137_h r137.ts := hp78.frz 0 rfl hR137_h
                      replace hG := bind_some hG; obtain ⟨r139, hr139, hG⟩ := hG
                      refine we rfl (fun st => x_call0 own_42 (ee st rfl) (am2 (ee st rfl) (ee st rfl)) (a42 K_ r137 2 A137_h c137_h (ZZ Z w.heap.size [ob A118_h, ob A110_h, some b103, ob A101_h, some b94, ob A92_h, some b83, ob A81_h, some b74, ob A72_h, some b68, ob A66_h, some b62, ob A60_h, some b54, ob A52_h, some b38, some b31, some b26, ob A17_h, some b3]) _ hR137_z r139 hr139)) ?_
                      rintro _ w140 ⟨hx139, _, _, rfl, ⟨A139_ra, c139_ra, rfl, hS139_ra⟩, rfl⟩
                      have hp80 : Hp w [ob A118_h, ob A110_h, some b103, ob A101_h, some b94, ob A92_h, some b83, ob A81_h, some b74, ob A72_h, some b68, ob A66_h, some b62, ob A60_h, some b54, ob A52_h, some b38, some b31, some b26, ob A17_h, some b3] w140 := hp79.ext hx139
                      have hS139_ra := hS139_ra.mv (hp79.call (Nat.le_refl _))
                      refine wm rfl (v := .tuple #[.slice A139_ra r139.1.length c139_ra, I r139.2]) rfl <| wd rfl (fun st => x_extract (v := .slice A139_ra r139.1.length c139_ra) (ee st rfl) rfl) <| wd rfl (fun st => x_extract (v := I r139.2) (ee st rfl) rfl) <| wa rfl (v := I r139.2) rfl <| wl_end <| lv_next <| cc_seq <| cc_region ?_
                      replace hG := bind_some hG; obtain ⟨r141, hr141, hG⟩ := hG
                      refine we rfl (fun st => x_call0 own_61 (ee st rfl) (am1 (ee st rfl)) (a61h K_ ([] : List Tly) none 0 (ZZ Z w.heap.size [ob A118_h, ob A110_h, some b103, ob A101_h, some b94, ob A92_h, some b83, ob A81_h, some b74, ob A72_h, some b68, ob A66_h, some b62, ob A60_h, some b54, ob A52_h, some b38, some b31, some b26, ob A17_h, some b3]) _ (Sl.nil eTly _ _) r141 hr141)) ?_
                      rintro _ w142 ⟨hx141, A141_h, c141_h, rfl, hR141⟩
                      have hp81 : Hp w [ob A141_h, ob A118_h, ob A110_h, some b103, ob A101_h, some b94, ob A92_h, some b83, ob A81_h, some b74, ob A72_h, some b68, ob A66_h, some b62, ob A60_h, some b54, ob A52_h, some b38, some b31, some b26, ob A17_h, some b3] w142 := hp80.hand hx141 hR141
                      have hR141_h : OwnR eTly 95 w w142 (ZZ Z w.heap.size [ob A141_h, ob A118_h, ob A110_h, some b103, ob A101_h, some b94, ob A92_h, some b83, ob A81_h, some b74, ob A72_h, some b68, ob A66_h, some b62, ob A60_h, some b54, ob A52_h, some b38, some b31, some b26, ob A17_h, some b3]) A141_h c141_h r141.ts := OwnR.hand hp80 hR141 (fun _ _ _ _ _ _ h => h)
                      replace hG := bind_some hG; obtain ⟨r143, hr143, hG⟩ := hG
                      refine we rfl (fun st => x_call0 own_32 (ee st rfl) (am2 (ee st rfl) (ee st rfl)) (a32 K_ r141 (-1) A141_h c141_h ZA _ hR141_h.all r143 hr143)) ?_
                      rintro _ w144 ⟨hx143, _, _, _, rfl, rfl, rfl, rfl⟩
                      have hp82 : Hp w [ob A141_h, ob A118_h, ob A110_h, some b103, ob A101_h, some b94, ob A92_h, some b83, ob A81_h, some b74, ob A72_h, some b68, ob A66_h, some b62, ob A60_h, some b54, ob A52_h, some b38, some b31, some b26, ob A17_h, some b3] w144 := hp81.ext hx143
                      refine wm rfl (v := .tuple #[I r143.1, I r143.2.1, I r143.2.2]) rfl <| wd rfl (fun st => x_extract (v := I r143.1) (ee st rfl) rfl) <| wd rfl (fun st => x_extract (v := I r143.2.1) (ee st rfl) rfl) <| wd rfl (fun st => x_extract (v := I r143.2.2) (ee st rfl) rfl) <| wa rfl (v := I r143.2.2) rfl <| wl_end <| lv_next <| cc_seq <| cc_region ?_
                      replace hG := bind_some hG; obtain ⟨r145, hr145, hG⟩ := hG
                      refine we rfl (fun st => x_call0 own_61 (ee st rfl) (am1 (ee st rfl)) (a61h K_ ([] : List Tly) none 0 (ZZ Z w.heap.size [ob A141_h, ob A118_h, ob A110_h, some b103, ob A101_h, some b94, ob A92_h, some b83, ob A81_h, some b74, ob A72_h, some b68, ob A66_h, some b62, ob A60_h, some b54, ob A52_h, some b38, some b31, some b26, ob A17_h, some b3]) _ (Sl.nil eTly _ _) r145 hr145)) ?_
                      rintro _ w146 ⟨hx145, A145_h, c145_h, rfl, hR145⟩
                      have hp83 : Hp w [ob A145_h, ob A141_h, ob A118_h, ob A110_h, some b103, ob A101_h, some b94, ob A92_h, some b83, ob A81_h, some b74, ob A72_h, some b68, ob A66_h, some b62, ob A60_h, some b54, ob A52_h, some b38, some b31, some b26, ob A17_h, some b3] w146 := hp82.hand hx145 hR145
                      have hR145_h : OwnR eTly 95 w w146 (ZZ Z w.heap.size [ob A145_h, ob A141_h, ob A118_h, ob A110_h, some b103, ob A101_h, some b94, ob A92_h, some b83, ob A81_h, some b74, ob A72_h, some b68, ob A66_h, some b62, ob A60_h, some b54, ob A52_h, some b38, some b31, some b26, ob A17_h, some b3]) A145_h c145_h r145.ts := OwnR.hand hp82 hR145 (fun _ _ _ _ _ _ h => h)
                      replace hG := bind_some hG; obtain ⟨r147, hr147, hG⟩ := hG
                      refine we rfl (fun st => x_call0 own_34 (ee st rfl) (am1 (ee st rfl)) (a34 K_ r145 A145_h c145_h ZA _ hR145_h.all r147 hr147)) ?_
                      rintro _ w148 ⟨hx147, _, _, rfl, rfl, rfl⟩
                      have hp84 : Hp w [ob A145_h, ob A141_h, ob A118_h, ob A110_h, some b103, ob A101_h, some b94, ob A92_h, some b83, ob A81_h, some b74, ob A72_h, some b68, ob A66_h, some b62, ob A60_h, some b54, ob A52_h, some b38, some b31, some b26, ob A17_h, some b3] w148 := hp83.ext hx147
                      refine wm rfl (v := .tuple #[I r147.1, I r147.2]) rfl <| wd rfl (fun st => x_extract (v := I r147.1) (ee st rfl) rfl) <| wd rfl (fun st => x_extract (v := I r147.2) (ee st rfl) rfl) <| wa rfl (v := I r147.2) rfl <| wl_end <| lv_next <| cc_seq <| cc_region ?_
                      replace hG := bind_some hG; obtain ⟨r149, hr149, hG⟩ := hG
                      refine we rfl (fun st => x_call0 own_63 (ee st rfl) am0 (a63 K_ ZA _ r149 hr149)) ?_
                      rintro _ w150 ⟨hx149, ⟨_, rfl, rfl⟩⟩
                      have hp85 : Hp w [ob A145_h, ob A141_h, ob A118_h, ob A110_h, some b103, ob A101_h, some b94, ob A92_h, some b83, ob A81_h, some b74, ob A72_h, some b68, ob A66_h, some b62, ob A60_h, some b54, ob A52_h, some b38, some b31, some b26, ob A17_h, some b3] w150 := hp84.ext hx149
                      refine we rfl (fun st => x_buildSlice (e := 95) (vs := #[(0, .agg #[I r149.who, I r149.fr, I r149.to, I r149.lo, I r149.hi])]) (cs := #[I r149.who, I r149.fr, I r149.to, I r149.lo, I r149.hi]) (pm1 (ee st rfl)) (by kernel_rfl)) ?_
                      rintro _ w151 ⟨b151, rfl, nb151⟩
                      have hp86 : Hp w [some b151, ob A145_h, ob A141_h, ob A118_h, ob A110_h, some b103, ob A101_h, some b94, ob A92_h, some b83, ob A81_h, some b74, ob A72_h, some b68, ob A66_h, some b62, ob A60_h, some b54, ob A52_h, some b38, some b31, some b26, ob A17_h, some b3] w151 := hp85.new nb151.gr (Nat.le_of_eq nb151.b_eq.symm) (Nat.lt_of_lt_of_eq (Nat.lt_succ_self _) nb151.sz.symm)
                      have hp87 : Hp w [ob A145_h, ob A141_h, ob A118_h, ob A110_h, some b103, ob A101_h, some b94, ob A92_h, some b83, ob A81_h, some b74, ob A72_h, some b68, ob A66_h, some b62, ob A60_h, some b54, ob A52_h, some b38, some b31, some b26, ob A17_h, some b3] w151 := hp86.erase 0
                      have bk151_87 : Bk w151 b151 95 #[I r149.who, I r149.fr, I r149.to, I r149.lo, I r149.hi] := nb151.bk
                      have bk151_z : Sl eTly w151 (ZZ Z w.heap.size [ob A145_h, ob A141_h, ob A118_h, ob A110_h, some b103, ob A101_h, some b94, ob A92_h, some b83, ob A81_h, some b74, ob A72_h, some b68, ob A66_h, some b62, ob A60_h, some b54, ob A52_h, some b38, some b31, some b26, ob A17_h, some b3]) (some ⟨b151, 0, none⟩) 1 [r149] := sl_bk (xs := [r149]) (css := [[I r149.who, I r149.fr, I r149.to, I r149.lo, I r149.hi]]) bk151_87 (hp86.lit 0 rfl) ⟨rfl, trivial⟩ rfl (Nat.le_refl _)
                      replace hG := bind_some hG; obtain ⟨r152, hr152, hG⟩ := hG
                      refine we rfl (fun st => x_call0 own_61 (ee st rfl) (am1 (ee st rfl)) (a61h K_ [r149] (some ⟨b151, 0, none⟩) 1 (ZZ Z w.heap.size [ob A145_h, ob A141_h, ob A118_h, ob A110_h, some b103, ob A101_h, some b94, ob A92_h, some b83, ob A81_h, some b74, ob A72_h, some b68, ob A66_h, some b62, ob A60_h, some b54, ob A52_h, some b38, some b31, some b26, ob A17_h, some b3]) _ bk151_z r152 hr152)) ?_
                      rintro _ w153 ⟨hx152, A152_h, c152_h, rfl, hR152⟩
                      have hp88 : Hp w [ob A152_h, ob A145_h, ob A141_h, ob A118_h, ob A110_h, some b103, ob A101_h, some b94, ob A92_h, some b83, ob A81_h, some b74, ob A72_h, some b68, ob A66_h, some b62, ob A60_h, some b54, ob A52_h, some b38, some b31, some b26, ob A17_h, some b3] w153 := hp87.hand hx152 hR152
                      have hR152_h : OwnR eTly 95 w w153 (ZZ Z w.heap.size [ob A152_h, ob A145_h, ob A141_h, ob A118_h, ob A110_h, some b103, ob A101_h, some b94, ob A92_h, some b83, ob A81_h, some b74, ob A72_h, some b68, ob A66_h, some b62, ob A60_h, some b54, ob A52_h, some b38, some b31, some b26, ob A17_h, some b3]) A152_h c152_h r152.ts := OwnR.hand hp87 hR152 (fun _ _ _ _ _ _ h => h)
                      have hp89 : Hp w [ob A145_h, ob A141_h, ob A118_h, ob A110_h, some b103, ob A101_h, some b94, ob A92_h, some b83, ob A81_h, some b74, ob A72_h, some b68, ob A66_h, some b62, ob A60_h, some b54, ob A52_h, some b38, some b31, some b26, ob A17_h, some b3] w153 := hp88.erase 0
                      have hR152_z : Sl eTly w153 (ZZ Z w.heap.size [ob A145_h, ob A141_h, ob A118_h, ob A110_h, some b103, ob A101_h, some b94, ob A92_h, some b83, ob A81_h, some b74, ob A72_h, some b68, ob A66_h, some b62, ob A60_h, some b54, ob A52_h, some b38, some b31, some b26, ob A17_h, some b3]) A152_h c152_h r152.ts := hp88.frz 0 rfl hR152_h
                      replace hG := bind_some hG; obtain ⟨r154, hr154, hG⟩ := hG
                      refine we rfl (fun st => x_call0 own_22 (ee st rfl) (am1 (ee st rfl)) (a22 K_ r152 A152_h c152_h (ZZ Z w.heap.size [ob A145_h, ob A141_h, ob A118_h, ob A110_h, some b103, ob A101_h, some b94, ob A92_h, some b83, ob A81_h, some b74, ob A72_h, some b68, ob A66_h, some b62, ob A60_h, some b54, ob A52_h, some b38, some b31, some b26, ob A17_h, some b3]) _ hR152_z r154 hr154)) ?_
                      rintro _ w155 ⟨hx154, _, _, rfl, ⟨A154_ra, c154_ra, rfl, hS154_ra⟩, rfl⟩
                      have hp90 : Hp w [ob A145_h, ob A141_h, ob A118_h, ob A110_h, some b103, ob A101_h, some b94, ob A92_h, some b83, ob A81_h, some b74, ob A72_h, some b68, ob A66_h, some b62, ob A60_h, some b54, ob A52_h, some b38, some b31, some b26, ob A17_h, some b3] w155 := hp89.ext hx154
                      have hS154_ra := hS154_ra.mv (hp89.call (Nat.le_refl _))
                      refine wm rfl (v := .tuple #[.slice A154_ra r154.1.length c154_ra, I r154.2]) rfl <| wd rfl (fun st => x_extract (v := .slice A154_ra r154.1.length c154_ra) (ee st rfl) rfl) <| wd rfl (fun st => x_extract (v := I r154.2) (ee st rfl) rfl) <| wa rfl (v := .slice A154_ra r154.1.length c154_ra) rfl <| wa rfl (v := I r154.2) rfl <| wl_end <| lv_next <| cc_seq <| cc_region ?_
                      replace hG := bind_some hG; obtain ⟨r156, hr156, hG⟩ := hG
                      refine we rfl (fun st => x_call0 own_61 (ee st rfl) (am1 (ee st rfl)) (a61h K_ ([] : List Tly) none 0 (ZZ Z w.heap.size [ob A145_h, ob A141_h, ob A118_h, ob A110_h, some b103, ob A101_h, some b94, ob A92_h, some b83, ob A81_h, some b74, ob A72_h, some b68, ob A66_h, some b62, ob A60_h, some b54, ob A52_h, some b38, some b31, some b26, ob A17_h, some b3]) _ (Sl.nil eTly _ _) r156 hr156)) ?_
                      rintro _ w157 ⟨hx156, A156_h, c156_h, rfl, hR156⟩
                      have hp91 : Hp w [ob A156_h, ob A145_h, ob A141_h, ob A118_h, ob A110_h, some b103, ob A101_h, some b94, ob A92_h, some b83, ob A81_h, some b74, ob A72_h, some b68, ob A66_h, some b62, ob A60_h, some b54, ob A52_h, some b38, some b31, some b26, ob A17_h, some b3] w157 := hp90.hand hx156 hR156
                      have hR156_h : OwnR eTly 95 w w157 (ZZ Z w.heap.size [ob A156_h, ob A145_h, ob A141_h, ob A118_h, ob A110_h, some b103, ob A101_h, some b94, ob A92_h, some b83, ob A81_h, some b74, ob A72_h, some b68, ob A66_h, some b62, ob A60_h, some b54, ob A52_h, some b38, some b31, some b26, ob A17_h, some b3]) A156_h c156_h r156.ts := OwnR.hand hp90 hR156 (fun _ _ _ _ _ _ h => h)
                      replace hG := bind_some hG; obtain ⟨r158, hr158, hG⟩ := hG
                      refine we rfl (fun st => x_call0 own_61 (ee st rfl) (am1 (ee st rfl)) (a61h K_ ([] : List Tly) none 0 (ZZ Z w.heap.size [ob A156_h, ob A145_h, ob A141_h, ob A118_h, ob A110_h, some b103, ob A101_h, some b94, ob A92_h, some b83, ob A81_h, some b74, ob A72_h, some b68, ob A66_h, some b62, ob A60_h, some b54, ob A52_h, some b38, some b31, some b26, ob A17_h, some b3]) _ (Sl.nil eTly _ _) r158 hr158)) ?_
                      rintro _ w159 ⟨hx158, A158_h, c158_h, rfl, hR158⟩
                      have hp92 : Hp w [ob A158_h, ob A156_h, ob A145_h, ob A141_h, ob A118_h, ob A110_h, some b103, ob A101_h, some b94, ob A92_h, some b83, ob A81_h, some b74, ob A72_h, some b68, ob A66_h, some b62, ob A60_h, some b54, ob A52_h, some b38, some b31, some b26, ob A17_h, some b3] w159 := hp91.hand hx158 hR158
                      have hR158_h : OwnR eTly 95 w w159 (ZZ Z w.heap.size [ob A158_h, ob A156_h, ob A145_h, ob A141_h, ob A118_h, ob A110_h, some b103, ob A101_h, some b94, ob A92_h, some b83, ob A81_h, some b74, ob A72_h, some b68, ob A66_h, some b62, ob A60_h, some b54, ob A52_h, some b38, some b31, some b26, ob A17_h, some b3]) A158_h c158_h r158.ts := OwnR.hand hp91 hR158 (fun _ _ _ _ _ _ h => h)
                      replace hG := bind_some hG; obtain ⟨r160, hr160, hG⟩ := hG
                      refine we rfl (fun st => x_call0 own_61 (ee st rfl) (am1 (ee st rfl)) (a61h K_ ([] : List Tly) none 0 (ZZ Z w.heap.size [ob A158_h, ob A156_h, ob A145_h, ob A141_h, ob A118_h, ob A110_h, some b103, ob A101_h, some b94, ob A92_h, some b83, ob A81_h, some b74, ob A72_h, some b68, ob A66_h, some b62, ob A60_h, some b54, ob A52_h, some b38, some b31, some b26, ob A17_h, some b3]) _ (Sl.nil eTly _ _) r160 hr160)) ?_
                      rintro _ w161 ⟨hx160, A160_h, c160_h, rfl, hR160⟩
                      have hp93 : Hp w [ob A160_h, ob A158_h, ob A156_h, ob A145_h, ob A141_h, ob A118_h, ob A110_h, some b103, ob A101_h, some b94, ob A92_h, some b83, ob A81_h, some b74, ob A72_h, some b68, ob A66_h, some b62, ob A60_h, some b54, ob A52_h, some b38, some b31, some b26, ob A17_h, some b3] w161 := hp92.hand hx160 hR160
                      have hR160_h : OwnR eTly 95 w w161 (ZZ Z w.heap.size [ob A160_h, ob A158_h, ob A156_h, ob A145_h, ob A141_h, ob A118_h, ob A110_h, some b103, ob A101_h, some b94, ob A92_h, some b83, ob A81_h, some b74, ob A72_h, some b68, ob A66_h, some b62, ob A60_h, some b54, ob A52_h, some b38, some b31, some b26, ob A17_h, some b3]) A160_h c160_h r160.ts := OwnR.hand hp92 hR160 (fun _ _ _ _ _ _ h => h)
                      replace hG := bind_some hG; obtain ⟨r162, hr162, hG⟩ := hG
                      refine we rfl (fun st => x_call0 own_61 (ee st rfl) (am1 (ee st rfl)) (a61h K_ ([] : List Tly) none 0 (ZZ Z w.heap.size [ob A160_h, ob A158_h, ob A156_h, ob A145_h, ob A141_h, ob A118_h, ob A110_h, some b103, ob A101_h, some b94, ob A92_h, some b83, ob A81_h, some b74, ob A72_h, some b68, ob A66_h, some b62, ob A60_h, some b54, ob A52_h, some b38, some b31, some b26, ob A17_h, some b3]) _ (Sl.nil eTly _ _) r162 hr162)) ?_
                      rintro _ w163 ⟨hx162, A162_h, c162_h, rfl, hR162⟩
                      have hp94 : Hp w [ob A162_h, ob A160_h, ob A158_h, ob A156_h, ob A145_h, ob A141_h, ob A118_h, ob A110_h, some b103, ob A101_h, some b94, ob A92_h, some b83, ob A81_h, some b74, ob A72_h, some b68, ob A66_h, some b62, ob A60_h, some b54, ob A52_h, some b38, some b31, some b26, ob A17_h, some b3] w163 := hp93.hand hx162 hR162
                      have hR162_h : OwnR eTly 95 w w163 (ZZ Z w.heap.size [ob A162_h, ob A160_h, ob A158_h, ob A156_h, ob A145_h, ob A141_h, ob A118_h, ob A110_h, some b103, ob A101_h, some b94, ob A92_h, some b83, ob A81_h, some b74, ob A72_h, some b68, ob A66_h, some b62, ob A60_h, some b54, ob A52_h, some b38, some b31, some b26, ob A17_h, some b3]) A162_h c162_h r162.ts := OwnR.hand hp93 hR162 (fun _ _ _ _ _ _ h => h)
                      replace hG := bind_some hG; obtain ⟨r164, hr164, hG⟩ := hG
                      refine we rfl (fun st => x_call0 own_61 (ee st rfl) (am1 (ee st rfl)) (a61h K_ ([] : List Tly) none 0 (ZZ Z w.heap.size [ob A162_h, ob A160_h, ob A158_h, ob A156_h, ob A145_h, ob A141_h, ob A118_h, ob A110_h, some b103, ob A101_h, some b94, ob A92_h, some b83, ob A81_h, some b74, ob A72_h, some b68, ob A66_h, some b62, ob A60_h, some b54, ob A52_h, some b38, some b31, some b26, ob A17_h, some b3]) _ (Sl.nil eTly _ _) r164 hr164)) ?_
                      rintro _ w165 ⟨hx164, A164_h, c164_h, rfl, hR164⟩
                      have hp95 : Hp w [ob A164_h, ob A162_h, ob A160_h, ob A158_h, ob A156_h, ob A145_h, ob A141_h, ob A118_h, ob A110_h, some b103, ob A101_h, some b94, ob A92_h, some b83, ob A81_h, some b74, ob A72_h, some b68, ob A66_h, some b62, ob A60_h, some b54, ob A52_h, some b38, some b31, some b26, ob A17_h, some b3] w165 := hp94.hand hx164 hR164
                      have hR164_h : OwnR eTly 95 w w165 (ZZ Z w.heap.size [ob A164_h, ob A162_h, ob A160_h, ob A158_h, ob A156_h, ob A145_h, ob A141_h, ob A118_h, ob A110_h, some b103, ob A101_h, some b94, ob A92_h, some b83, ob A81_h, some b74, ob A72_h, some b68, ob A66_h, some b62, ob A60_h, some b54, ob A52_h, some b38, some b31, some b26, ob A17_h, some b3]) A164_h c164_h r164.ts := OwnR.hand hp94 hR164 (fun _ _ _ _ _ _ h => h)
                      replace hG := bind_some hG; obtain ⟨r166, hr166, hG⟩ := hG
                      refine we rfl (fun st => x_call0 own_61 (ee st rfl) (am1 (ee st rfl)) (a61h K_ ([] : List Tly) none 0 (ZZ Z w.heap.size [ob A164_h, ob A162_h, ob A160_h, ob A158_h, ob A156_h, ob A145_h, ob A141_h, ob A118_h, ob A110_h, some b103, ob A101_h, some b94, ob A92_h, some b83, ob A81_h, some b74, ob A72_h, some b68, ob A66_h, some b62, ob A60_h, some b54, ob A52_h, some b38, some b31, some b26, ob A17_h, some b3]) _ (Sl.nil eTly _ _) r166 hr166)) ?_
                      rintro _ w167 ⟨hx166, A166_h, c166_h, rfl, hR166⟩
                      have hp96 : Hp w [ob A166_h, ob A164_h, ob A162_h, ob A160_h, ob A158_h, ob A156_h, ob A145_h, ob A141_h, ob A118_h, ob A110_h, some b103, ob A101_h, some b94, ob A92_h, some b83, ob A81_h, some b74, ob A72_h, some b68, ob A66_h, some b62, ob A60_h, some b54, ob A52_h, some b38, some b31, some b26, ob A17_h, some b3] w167 := hp95.hand hx166 hR166
                      have hR166_h : OwnR eTly 95 w w167 (ZZ Z w.heap.size [ob A166_h, ob A164_h, ob A162_h, ob A160_h, ob A158_h, ob A156_h, ob A145_h, ob A141_h, ob A118_h, ob A110_h, some b103, ob A101_h, some b94, ob A92_h, some b83, ob A81_h, some b74, ob A72_h, some b68, ob A66_h, some b62, ob A60_h, some b54, ob A52_h, some b38, some b31, some b26, ob A17_h, some b3]) A166_h c166_h r166.ts := OwnR.hand hp95 hR166 (fun _ _ _ _ _ _ h => h)
                      replace hG := bind_some hG; obtain ⟨r168, hr168, hG⟩ := hG
                      refine we rfl (fun st => x_call0 own_61 (ee st rfl) (am1 (ee st rfl)) (a61h K_ ([] : List Tly) none 0 (ZZ Z w.heap.size [ob A166_h, ob A164_h, ob A162_h, ob A160_h, ob A158_h, ob A156_h, ob A145_h, ob A141_h, ob A118_h, ob A110_h, some b103, ob A101_h, some b94, ob A92_h, some b83, ob A81_h, some b74, ob A72_h, some b68, ob A66_h, some b62, ob A60_h, some b54, ob A52_h, some b38, some b31, some b26, ob A17_h, some b3]) _ (Sl.nil eTly _ _) r168 hr168)) ?_
                      rintro _ w169 ⟨hx168, A168_h, c168_h, rfl, hR168⟩
                      have hp97 : Hp w [ob A168_h, ob A166_h, ob A164_h, ob A162_h, ob A160_h, ob A158_h, ob A156_h, ob A145_h, ob A141_h, ob A118_h, ob A110_h, some b103, ob A101_h, some b94, ob A92_h, some b83, ob A81_h, some b74, ob A72_h, some b68, ob A66_h, some b62, ob A60_h, some b54, ob A52_h, some b38, some b31, some b26, ob A17_h, some b3] w169 := hp96.hand hx168 hR168
                      have hR168_h : OwnR eTly 95 w w169 (ZZ Z w.heap.size [ob A168_h, ob A166_h, ob A164_h, ob A162_h, ob A160_h, ob A158_h, ob A156_h, ob A145_h, ob A141_h, ob A118_h, ob A110_h, some b103, ob A101_h, some b94, ob A92_h, some b83, ob A81_h, some b74, ob A72_h, some b68, ob A66_h, some b62, ob A60_h, some b54, ob A52_h, some b38, some b31, some b26, ob A17_h, some b3]) A168_h c168_h r168.ts := OwnR.hand hp96 hR168 (fun _ _ _ _ _ _ h => h)
                      replace hG := bind_some hG; obtain ⟨r170, hr170, hG⟩ := hG
                      refine we rfl (fun st => x_call0 own_61 (ee st rfl) (am1 (ee st rfl)) (a61h K_ ([] : List Tly) none 0 (ZZ Z w.heap.size [ob A168_h, ob A166_h, ob A164_h, ob A162_h, ob A160_h, ob A158_h, ob A156_h, ob A145_h, ob A141_h, ob A118_h, ob A110_h, some b103, ob A101_h, some b94, ob A92_h, some b83, ob A81_h, some b74, ob A72_h, some b68, ob A66_h, some b62, ob A60_h, some b54, ob A52_h, some b38, some b31, some b26, ob A17_h, some b3]) _ (Sl.nil eTly _ _) r170 hr170)) ?_
                      rintro _ w171 ⟨hx170, A170_h, c170_h, rfl, hR170⟩
                      have hp98 : Hp w [ob A170_h, ob A168_h, ob A166_h, ob A164_h, ob A162_h, ob A160_h, ob A158_h, ob A156_h, ob A145_h, ob A141_h, ob A118_h, ob A110_h, some b103, ob A101_h, some b94, ob A92_h, some b83, ob A81_h, some b74, ob A72_h, some b68, ob A66_h, some b62, ob A60_h, some b54, ob A52_h, some b38, some b31, some b26, ob A17_h, some b3] w171 := hp97.hand hx170 hR170
                      have hR170_h : OwnR eTly 95 w w171 (ZZ Z w.heap.size [ob A170_h, ob A168_h, ob A166_h, ob A164_h, ob A162_h, ob A160_h, ob A158_h, ob A156_h, ob A145_h, ob A141_h, ob A118_h, ob A110_h, some b103, ob A101_h, some b94, ob A92_h, some b83, ob A81_h, some b74, ob A72_h, some b68, ob A66_h, some b62, ob A60_h, some b54, ob A52_h, some b38, some b31, some b26, ob A17_h, some b3]) A170_h c170_h r170.ts := OwnR.hand hp97 hR170 (fun _ _ _ _ _ _ h => h)
                      refine we rfl (fun st => x_alloc (cs := #[I 0, I 0, I 0, I 0, .slice none 0 0]) zero_36 rfl) ?_
                      rintro _ w172 ⟨b172, rfl, nb172⟩
                      have hp99 : Hp w [some b172, ob A170_h, ob A168_h, ob A166_h, ob A164_h, ob A162_h, ob A160_h, ob A158_h, ob A156_h, ob A145_h, ob A141_h, ob A118_h, ob A110_h, some b103, ob A101_h, some b94, ob A92_h, some b83, ob A81_h, some b74, ob A72_h, some b68, ob A66_h, some b62, ob A60_h, some b54, ob A52_h, some b38, some b31, some b26, ob A17_h, some b3] w172 := hp98.new nb172.gr (Nat.le_of_eq nb172.b_eq.symm) (Nat.lt_of_lt_of_eq (Nat.lt_succ_self _) nb172.sz.symm)
                      refine we rfl (fun st => x_alloc (cs := #[I 0, I 0, I 0, I 0, .slice none 0 0]) zero_36 rfl) ?_
                      rintro _ w173 ⟨b173, rfl, nb173⟩
                      have hp100 : Hp w [some b173, some b172, ob A170_h, ob A168_h, ob A166_h, ob A164_h, ob A162_h, ob A160_h, ob A158_h, ob A156_h, ob A145_h, ob A141_h, ob A118_h, ob A110_h, some b103, ob A101_h, some b94, ob A92_h, some b83, ob A81_h, some b74, ob A72_h, some b68, ob A66_h, some b62, ob A60_h, some b54, ob A52_h, some b38, some b31, some b26, ob A17_h, some b3] w173 := hp99.new nb173.gr (Nat.le_of_eq nb173.b_eq.symm) (Nat.lt_of_lt_of_eq (Nat.lt_succ_self _) nb173.sz.symm)
                      refine we rfl (fun st => x_alloc (cs := #[I 0, I 0, I 0, I 0, .slice none 0 0]) zero_36 rfl) ?_
                      rintro _ w174 ⟨b174, rfl, nb174⟩
                      have hp101 : Hp w [some b174, some b173, some b172, ob A170_h, ob A168_h, ob A166_h, ob A164_h, ob A162_h, ob A160_h, ob A158_h, ob A156_h, ob A145_h, ob A141_h, ob A118_h, ob A110_h, some b103, ob A101_h, some b94, ob A92_h, some b83, ob A81_h, some b74, ob A72_h, some b68, ob A66_h, some b62, ob A60_h, some b54, ob A52_h, some b38, some b31, some b26, ob A17_h, some b3] w174 := hp100.new nb174.gr (Nat.le_of_eq nb174.b_eq.symm) (Nat.lt_of_lt_of_eq (Nat.lt_succ_self _) nb174.sz.symm)
                      refine we rfl (fun st => x_alloc (cs := #[I 0, I 0, I 0, I 0, .slice none 0 0]) zero_36 rfl) ?_
                      rintro _ w175 ⟨b175, rfl, nb175⟩
                      have hp102 : Hp w [some b175, some b174, some b173, some b172, ob A170_h, ob A168_h, ob A166_h, ob A164_h, ob A162_h, ob A160_h, ob A158_h, ob A156_h, ob A145_h, ob A141_h, ob A118_h, ob A110_h, some b103, ob A101_h, some b94, ob A92_h, some b83, ob A81_h, some b74, ob A72_h, some b68, ob A66_h, some b62, ob A60_h, some b54, ob A52_h, some b38, some b31, some b26, ob A17_h, some b3] w175 := hp101.new nb175.gr (Nat.le_of_eq nb175.b_eq.symm) (Nat.lt_of_lt_of_eq (Nat.lt_succ_self _) nb175.sz.symm)
                      refine we rfl (fun st => x_alloc (cs := #[I 0, I 0, I 0, I 0, .slice none 0 0]) zero_36 rfl) ?_
                      rintro _ w176 ⟨b176, rfl, nb176⟩
                      have hp103 : Hp w [some b176, some b175, some b174, some b173, some b172, ob A170_h, ob A168_h, ob A166_h, ob A164_h, ob A162_h, ob A160_h, ob A158_h, ob A156_h, ob A145_h, ob A141_h, ob A118_h, ob A110_h, some b103, ob A101_h, some b94, ob A92_h, some b83, ob A81_h, some b74, ob A72_h, some b68, ob A66_h, some b62, ob A60_h, some b54, ob A52_h, some b38, some b31, some b26, ob A17_h, some b3] w176 := hp102.new nb176.gr (Nat.le_of_eq nb176.b_eq.symm) (Nat.lt_of_lt_of_eq (Nat.lt_succ_self _) nb176.sz.symm)
                      refine we rfl (fun st => x_alloc (cs := #[I 0, I 0, I 0, I 0, .slice none 0 0]) zero_36 rfl) ?_
                      rintro _ w177 ⟨b177, rfl, nb177⟩
                      have hp104 : Hp w [some b177, some b176, some b175, some b174, some b173, some b172, ob A170_h, ob A168_h, ob A166_h, ob A164_h, ob A162_h, ob A160_h, ob A158_h, ob A156_h, ob A145_h, ob A141_h, ob A118_h, ob A110_h, some b103, ob A101_h, some b94, ob A92_h, some b83, ob A81_h, some b74, ob A72_h, some b68, ob A66_h, some b62, ob A60_h, some b54, ob A52_h, some b38, some b31, some b26, ob A17_h, some b3] w177 := hp103.new nb177.gr (Nat.le_of_eq nb177.b_eq.symm) (Nat.lt_of_lt_of_eq (Nat.lt_succ_self _) nb177.sz.symm)
                      refine we rfl (fun st => x_alloc (cs := #[I 0, I 0, I 0, I 0, .slice none 0 0]) zero_36 rfl) ?_
                      rintro _ w178 ⟨b178, rfl, nb178⟩
                      have hp105 : Hp w [some b178, some b177, some b176, some b175, some b174, some b173, some b172, ob A170_h, ob A168_h, ob A166_h, ob A164_h, ob A162_h, ob A160_h, ob A158_h, ob A156_h, ob A145_h, ob A141_h, ob A118_h, ob A110_h, some b103, ob A101_h, some b94, ob A92_h, some b83, ob A81_h, some b74, ob A72_h, some b68, ob A66_h, some b62, ob A60_h, some b54, ob A52_h, some b38, some b31, some b26, ob A17_h, some b3] w178 := hp104.new nb178.gr (Nat.le_of_eq nb178.b_eq.symm) (Nat.lt_of_lt_of_eq (Nat.lt_succ_self _) nb178.sz.symm)
                      refine we rfl (fun st => x_alloc (cs := #[I 0, I 0, I 0, I 0, .slice none 0 0]) zero_36 rfl) ?_
                      rintro _ w179 ⟨b179, rfl, nb179⟩
                      have hp106 : Hp w [some b179, some b178, some b177, some b176, some b175, some b174, some b173, some b172, ob A170_h, ob A168_h, ob A166_h, ob A164_h, ob A162_h, ob A160_h, ob A158_h, ob A156_h, ob A145_h, ob A141_h, ob A118_h, ob A110_h, some b103, ob A101_h, some b94, ob A92_h, some b83, ob A81_h, some b74, ob A72_h, some b68, ob A66_h, some b62, ob A60_h, some b54, ob A52_h, some b38, some b31, some b26, ob A17_h, some b3] w179 := hp105.new nb179.gr (Nat.le_of_eq nb179.b_eq.symm) (Nat.lt_of_lt_of_eq (Nat.lt_succ_self _) nb179.sz.symm)
                      have bk172_106 : Bk w179 b172 36 #[I 0, I 0, I 0, I 0, .slice none 0 0] := (((((((nb172.bk.ext nb173.gr).ext nb174.gr).ext nb175.gr).ext nb176.gr).ext nb177.gr).ext nb178.gr).ext nb179.gr)
                      refine wl_ex0 rfl rfl (fun st => x_store (n := 5) (l := [I r156.rows, I r156.wd, I r156.lo, I r156.hi, .slice A156_h r156.ts.length c156_h]) (cs' := #[I r156.rows, I r156.wd, I r156.lo, I r156.hi, .slice A156_h r156.ts.length c156_h]) (ee st rfl) (ee st rfl) sz_36 bk172_106 rfl rfl (show 0 + 5 ≤ 5 by decide) (one_cells rfl) rfl) ?_
                      rintro _ w180 sb180
                      have hp107 : Hp w [some b179, some b178, some b177, some b176, some b175, some b174, some b173, some b172, ob A170_h, ob A168_h, ob A166_h, ob A164_h, ob A162_h, ob A160_h, ob A158_h, ob A156_h, ob A145_h, ob A141_h, ob A118_h, ob A110_h, some b103, ob A101_h, some b94, ob A92_h, some b83, ob A81_h, some b74, ob A72_h, some b68, ob A66_h, some b62, ob A60_h, some b54, ob A52_h, some b38, some b31, some b26, ob A17_h, some b3] w180 := hp106.gr sb180.gr (hp106.ge 7 rfl)
                      have bk173_107 : Bk w180 b173 36 #[I 0, I 0, I 0, I 0, .slice none 0 0] := (((((((nb173.bk.ext nb174.gr).ext nb175.gr).ext nb176.gr).ext nb177.gr).ext nb178.gr).ext nb179.gr).gr sb180.gr (hp106.ne 6 7 rfl rfl rfl))
                      refine wl_ex0 rfl rfl (fun st => x_store (n := 5) (l := [I r158.rows, I r158.wd, I r158.lo, I r158.hi, .slice A158_h r158.ts.length c158_h]) (cs' := #[I r158.rows, I r158.wd, I r158.lo, I r158.hi, .slice A158_h r158.ts.length c158_h]) (ee st rfl) (ee st rfl) sz_36 bk173_107 rfl rfl (show 0 + 5 ≤ 5 by decide) (one_cells rfl) rfl) ?_
                      rintro _ w181 sb181
                      have hp108 : Hp w [some b179, some b178, some b177, some b176, some b175, some b174, some b173, some b172, ob A170_h, ob A168_h, ob A166_h, ob A164_h, ob A162_h, ob A160_h, ob A158_h, ob A156_h, ob A145_h, ob A141_h, ob A118_h, ob A110_h, some b103, ob A101_h, some b94, ob A92_h, some b83, ob A81_h, some b74, ob A72_h, some b68, ob A66_h, some b62, ob A60_h, some b54, ob A52_h, some b38, some b31, some b26, ob A17_h, some b3] w181 := hp107.gr sb181.gr (hp107.ge 6 rfl)
                      have bk174_108 : Bk w181 b174 36 #[I 0, I 0, I 0, I 0, .slice none 0 0] := (((((((nb174.bk.ext nb175.gr).ext nb176.gr).ext nb177.gr).ext nb178.gr).ext nb179.gr).gr sb180.gr (hp106.ne 5 7 rfl rfl rfl)).gr sb181.gr (hp107.ne 5 6 rfl rfl rfl))
                      refine wl_ex0 rfl rfl (fun st => x_store (n := 5) (l := [I r160.rows, I r160.wd, I r160.lo, I r160.hi, .slice A160_h r160.ts.length c160_h]) (cs' := #[I r160.rows, I r160.wd, I r160.lo, I r160.hi, .slice A160_h r160.ts.length c160_h]) (ee st rfl) (ee st rfl) sz_36 bk174_108 rfl rfl (show 0 + 5 ≤ 5 by decide) (one_cells rfl) rfl) ?_
                      rintro _ w182 sb182
                      have hp109 : Hp w [some b179, some b178, some b177, some b176, some b175, some b174, some b173, some b172, ob A170_h, ob A168_h, ob A166_h, ob A164_h, ob A162_h, ob A160_h, ob A158_h, ob A156_h, ob A145_h, ob A141_h, ob A118_h, ob A110_h, some b103, ob A101_h, some b94, ob A92_h, some b83, ob A81_h, some b74, ob A72_h, some b68, ob A66_h, some b62, ob A60_h, some b54, ob A52_h, some b38, some b31, some b26, ob A17_h, some b3] w182 := hp108.gr sb182.gr (hp108.ge 5 rfl)
                      have bk175_109 : Bk w182 b175 36 #[I 0, I 0, I 0, I 0, .slice none 0 0] := (((((((nb175.bk.ext nb176.gr).ext nb177.gr).ext nb178.gr).ext nb179.gr).gr sb180.gr (hp106.ne 4 7 rfl rfl rfl)).gr sb181.gr (hp107.ne 4 6 rfl rfl rfl)).gr sb182.gr (hp108.ne 4 5 rfl rfl rfl))
                      refine wl_ex0 rfl rfl (fun st => x_store (n := 5) (l := [I r162.rows, I r162.wd, I r162.lo, I r162.hi, .slice A162_h r162.ts.length c162_h]) (cs' := #[I r162.rows, I r162.wd, I r162.lo, I r162.hi, .slice A162_h r162.ts.length c162_h]) (ee st rfl) (ee st rfl) sz_36 bk175_109 rfl rfl (show 0 + 5 ≤ 5 by decide) (one_cells rfl) rfl) ?_
                      rintro _ w183 sb183
                      have hp110 : Hp w [some b179, some b178, some b177, some b176, some b175, some b174, some b173, some b172, ob A170_h, ob A168_h, ob A166_h, ob A164_h, ob A162_h, ob A160_h, ob A158_h, ob A156_h, ob A145_h, ob A141_h, ob A118_h, ob A110_h, some b103, ob A101_h, some b94, ob A92_h, some b83, ob A81_h, some b74, ob A72_h, some b68, ob A66_h, some b62, ob A60_h, some b54, ob A52_h, some b38, some b31, some b26, ob A17_h, some b3] w183 := hp109.gr sb183.gr (hp109.ge 4 rfl)
                      have bk176_110 : Bk w183 b176 36 #[I 0, I 0, I 0, I 0, .slice none 0 0] := (((((((nb176.bk.ext nb177.gr).ext nb178.gr).ext nb179.gr).gr sb180.gr (hp106.ne 3 7 rfl rfl rfl)).gr sb181.gr (hp107.ne 3 6 rfl rfl rfl)).gr sb182.gr (hp108.ne 3 5 rfl rfl rfl)).gr sb183.gr (hp109.ne 3 4 rfl rfl rfl))
                      refine wl_ex0 rfl rfl (fun st => x_store (n := 5) (l := [I r164.rows, I r164.wd, I r164.lo, I r164.hi, .slice A164_h r164.ts.length c164_h]) (cs' := #[I r164.rows, I r164.wd, I r164.lo, I r164.hi, .slice A164_h r164.ts.length c164_h]) (ee st rfl) (ee st rfl) sz_36 bk176_110 rfl rfl (show 0 + 5 ≤ 5 by decide) (one_cells rfl) rfl) ?_
                      rintro _ w184 sb184
                      have hp111 : Hp w [some b179, some b178, some b177, some b176, some b175, some b174, some b173, some b172, ob A170_h, ob A168_h, ob A166_h, ob A164_h, ob A162_h, ob A160_h, ob A158_h, ob A156_h, ob A145_h, ob A141_h, ob A118_h, ob A110_h, some b103, ob A101_h, some b94, ob A92_h, some b83, ob A81_h, some b74, ob A72_h, some b68, ob A66_h, some b62, ob A60_h, some b54, ob A52_h, some b38, some b31, some b26, ob A17_h, some b3] w184 := hp110.gr sb184.gr (hp110.ge 3 rfl)
                      have bk177_111 : Bk w184 b177 36 #[I 0, I 0, I 0, I 0, .slice none 0 0] := (((((((nb177.bk.ext nb178.gr).ext nb179.gr).gr sb180.gr (hp106.ne 2 7 rfl rfl rfl)).gr sb181.gr (hp107.ne 2 6 rfl rfl rfl)).gr sb182.gr (hp108.ne 2 5 rfl rfl rfl)).gr sb183.gr (hp109.ne 2 4 rfl rfl rfl)).gr sb184.gr (hp110.ne 2 3 rfl rfl rfl))
                      refine wl_ex0 rfl rfl (fun st => x_store (n := 5) (l := [I r166.rows, I r166.wd, I r166.lo, I r166.hi, .slice A166_h r166.ts.length c166_h]) (cs' := #[I r166.rows, I r166.wd, I r166.lo, I r166.hi, .slice A166_h r166.ts.length c166_h]) (ee st rfl) (ee st rfl) sz_36 bk177_111 rfl rfl (show 0 + 5 ≤ 5 by decide) (one_cells rfl) rfl) ?_
                      rintro _ w185 sb185
                      have hp112 : Hp w [some b179, some b178, some b177, some b176, some b175, some b174, some b173, some b172, ob A170_h, ob A168_h, ob A166_h, ob A164_h, ob A162_h, ob A160_h, ob A158_h, ob A156_h, ob A145_h, ob A141_h, ob A118_h, ob A110_h, some b103, ob A101_h, some b94, ob A92_h, some b83, ob A81_h, some b74, ob A72_h, some b68, ob A66_h, some b62, ob A60_h, some b54, ob A52_h, some b38, some b31, some b26, ob A17_h, some b3] w185 := hp111.gr sb185.gr (hp111.ge 2 rfl)
                      have bk178_112 : Bk w185 b178 36 #[I 0, I 0, I 0, I 0, .slice none 0 0] := (((((((nb178.bk.ext nb179.gr).gr sb180.gr (hp106.ne 1 7 rfl rfl rfl)).gr sb181.gr (hp107.ne 1 6 rfl rfl rfl)).gr sb182.gr (hp108.ne 1 5 rfl rfl rfl)).gr sb183.gr (hp109.ne 1 4 rfl rfl rfl)).gr sb184.gr (hp110.ne 1 3 rfl rfl rfl)).gr sb185.gr (hp111.ne 1 2 rfl rfl rfl))
                      refine wl_ex0 rfl rfl (fun st => x_store (n := 5) (l := [I r168.rows, I r168.wd, I r168.lo, I r168.hi, .slice A168_h r168.ts.length c168_h]) (cs' := #[I r168.rows, I r168.wd, I r168.lo, I r168.hi, .slice A168_h r168.ts.length c168_h]) (ee st rfl) (ee st rfl) sz_36 bk178_112 rfl rfl (show 0 + 5 ≤ 5 by decide) (one_cells rfl) rfl) ?_
                      rintro _ w186 sb186
                      have hp113 : Hp w [some b179, some b178, some b177, some b176, some b175, some b174, some b173, some b172, ob A170_h, ob A168_h, ob A166_h, ob A164_h, ob A162_h, ob A160_h, ob A158_h, ob A156_h, ob A145_h, ob A141_h, ob A118_h, ob A110_h, some b103, ob A101_h, some b94, ob A92_h, some b83, ob A81_h, some b74, ob A72_h, some b68, ob A66_h, some b62, ob A60_h, some b54, ob A52_h, some b38, some b31, some b26, ob A17_h, some b3] w186 := hp112.gr sb186.gr (hp112.ge 1 rfl)
                      have bk179_113 : Bk w186 b179 36 #[I 0, I 0, I 0, I 0, .slice none 0 0] := (((((((nb179.bk.gr sb180.gr (hp106.ne 0 7 rfl rfl rfl)).gr sb181.gr (hp107.ne 0 6 rfl rfl rfl)).gr sb182.gr (hp108.ne 0 5 rfl rfl rfl)).gr sb183.gr (hp109.ne 0 4 rfl rfl rfl)).gr sb184.gr (hp110.ne 0 3 rfl rfl rfl)).gr sb185.gr (hp111.ne 0 2 rfl rfl rfl)).gr sb186.gr (hp112.ne 0 1 rfl rfl rfl))
                      refine wl_ex0 rfl rfl (fun st => x_store (n := 5) (l := [I r170.rows, I r170.wd, I r170.lo, I r170.hi, .slice A170_h r170.ts.length c170_h]) (cs' := #[I r170.rows, I r170.wd, I r170.lo, I r170.hi, .slice A170_h r170.ts.length c170_h]) (ee st rfl) (ee st rfl) sz_36 bk179_113 rfl rfl (show 0 + 5 ≤ 5 by decide) (one_cells rfl) rfl) ?_
                      rintro _ w187 sb187
                      have hp114 : Hp w [some b179, some b178, some b177, some b176, some b175, some b174, some b173, some b172, ob A170_h, ob A168_h, ob A166_h, ob A164_h, ob A162_h, ob A160_h, ob A158_h, ob A156_h, ob A145_h, ob A141_h, ob A118_h, ob A110_h, some b103, ob A101_h, some b94, ob A92_h, some b83, ob A81_h, some b74, ob A72_h, some b68, ob A66_h, some b62, ob A60_h, some b54, ob A52_h, some b38, some b31, some b26, ob A17_h, some b3] w187 := hp113.gr sb187.gr (hp113.ge 0 rfl)
                      refine wl_end <| lv_next <| cc_seq <| cc_region <| wd rfl (fun st => x_fieldAddr (ee st rfl) (fz_36_0 _ _)) ?_
                      have bk172_114 : Bk w187 b172 36 #[I r156.rows, I r156.wd, I r156.lo, I r156.hi, .slice A156_h r156.ts.length c156_h] := (((((((sb180.bk.gr sb181.gr (hp107.ne 7 6 rfl rfl rfl)).gr sb182.gr (hp108.ne 7 5 rfl rfl rfl)).gr sb183.gr (hp109.ne 7 4 rfl rfl rfl)).gr sb184.gr (hp110.ne 7 3 rfl rfl rfl)).gr sb185.gr (hp111.ne 7 2 rfl rfl rfl)).gr sb186.gr (hp112.ne 7 1 rfl rfl rfl)).gr sb187.gr (hp113.ne 7 0 rfl rfl rfl))
                      refine wl_ex0 rfl rfl (fun st => x_store (n := 1) (l := [I 8]) (cs' := #[I 8, I r156.wd, I r156.lo, I r156.hi, .slice A156_h r156.ts.length c156_h]) (ee st rfl) (ee st rfl) sz_3 bk172_114 rfl rfl (show 0 + 1 ≤ 5 by decide) (one_cells rfl) rfl) ?_
                      rintro _ w188 sb188
                      have hp115 : Hp w [some b179, some b178, some b177, some b176, some b175, some b174, some b173, some b172, ob A170_h, ob A168_h, ob A166_h, ob A164_h, ob A162_h, ob A160_h, ob A158_h, ob A156_h, ob A145_h, ob A141_h, ob A118_h, ob A110_h, some b103, ob A101_h, some b94, ob A92_h, some b83, ob A81_h, some b74, ob A72_h, some b68, ob A66_h, some b62, ob A60_h, some b54, ob A52_h, some b38, some b31, some b26, ob A17_h, some b3] w188 := hp114.gr sb188.gr (hp114.ge 7 rfl)
                      refine wl_end <| lv_next <| cc_seq <| cc_region <| wd rfl (fun st => x_fieldAddr (ee st rfl) (fz_36_1 _ _)) ?_
                      have bk173_115 : Bk w188 b173 36 #[I r158.rows, I r158.wd, I r158.lo, I r158.hi, .slice A158_h r158.ts.length c158_h] := (((((((sb181.bk.gr sb182.gr (hp108.ne 6 5 rfl rfl rfl)).gr sb183.gr (hp109.ne 6 4 rfl rfl rfl)).gr sb184.gr (hp110.ne 6 3 rfl rfl rfl)).gr sb185.gr (hp111.ne 6 2 rfl rfl rfl)).gr sb186.gr (hp112.ne 6 1 rfl rfl rfl)).gr sb187.gr (hp113.ne 6 0 rfl rfl rfl)).gr sb188.gr (hp114.ne 6 7 rfl rfl rfl))
                      refine wl_ex0 rfl rfl (fun st => x_store (n := 1) (l := [I 4]) (cs' := #[I r158.rows, I 4, I r158.lo, I r158.hi, .slice A158_h r158.ts.length c158_h]) (ee st rfl) (ee st rfl) sz_3 bk173_115 rfl rfl (show 1 + 1 ≤ 5 by decide) (one_cells rfl) rfl) ?_
                      rintro _ w189 sb189
                      have hp116 : Hp w [some b179, some b178, some b177, some b176, some b175, some b174, some b173, some b172, ob A170_h, ob A168_h, ob A166_h, ob A164_h, ob A162_h, ob A160_h, ob A158_h, ob A156_h, ob A145_h, ob A141_h, ob A118_h, ob A110_h, some b103, ob A101_h, some b94, ob A92_h, some b83, ob A81_h, some b74, ob A72_h, some b68, ob A66_h, some b62, ob A60_h, some b54, ob A52_h, some b38, some b31, some b26, ob A17_h, some b3] w189 := hp115.gr sb189.gr (hp115.ge 6 rfl)
                      refine wl_end <| lv_next <| cc_seq <| cc_region ?_
                      replace hG := bind_some hG; obtain ⟨r190, hr190, hG⟩ := hG
                      refine we rfl (fun st => x_call0 own_50 (ee st rfl) (am2 (ee st rfl) (ee st rfl)) (a50 K_ 0 5 ZA _ r190 hr190)) ?_
                      rintro _ w191 ⟨hx190, ⟨_, rfl, rfl⟩⟩
                      have hp117 : Hp w [some b179, some b178, some b177, some b176, some b175, some b174, some b173, some b172, ob A170_h, ob A168_h, ob A166_h, ob A164_h, ob A162_h, ob A160_h, ob A158_h, ob A156_h, ob A145_h, ob A141_h, ob A118_h, ob A110_h, some b103, ob A101_h, some b94, ob A92_h, some b83, ob A81_h, some b74, ob A72_h, some b68, ob A66_h, some b62, ob A60_h, some b54, ob A52_h, some b38, some b31, some b26, ob A17_h, some b3] w191 := hp116.ext hx190
                      refine wd rfl (fun st => x_fieldAddr (ee st rfl) (fz_36_2 _ _)) ?_
                      have bk174_117 : Bk w191 b174 36 #[I r160.rows, I r160.wd, I r160.lo, I r160.hi, .slice A160_h r160.ts.length c160_h] := ((((((((sb182.bk.gr sb183.gr (hp109.ne 5 4 rfl rfl rfl)).gr sb184.gr (hp110.ne 5 3 rfl rfl rfl)).gr sb185.gr (hp111.ne 5 2 rfl rfl rfl)).gr sb186.gr (hp112.ne 5 1 rfl rfl rfl)).gr sb187.gr (hp113.ne 5 0 rfl rfl rfl)).gr sb188.gr (hp114.ne 5 7 rfl rfl rfl)).gr sb189.gr (hp115.ne 5 6 rfl rfl rfl)).ext hx190)
                      refine wl_ex0 rfl rfl (fun st => x_store (n := 2) (l := [I r190.1, I r190.2]) (cs' := #[I r160.rows, I r160.wd, I r190.1, I r190.2, .slice A160_h r160.ts.length c160_h]) (ee st rfl) (ee st rfl) sz_33 bk174_117 rfl rfl (show 2 + 2 ≤ 5 by decide) (one_cells rfl) rfl) ?_
                      rintro _ w192 sb192
                      have hp118 : Hp w [some b179, some b178, some b177, some b176, some b175, some b174, some b173, some b172, ob A170_h, ob A168_h, ob A166_h, ob A164_h, ob A162_h, ob A160_h, ob A158_h, ob A156_h, ob A145_h, ob A141_h, ob A118_h, ob A110_h, some b103, ob A101_h, some b94, ob A92_h, some b83, ob A81_h, some b74, ob A72_h, some b68, ob A66_h, some b62, ob A60_h, some b54, ob A52_h, some b38, some b31, some b26, ob A17_h, some b3] w192 := hp117.gr sb192.gr (hp117.ge 5 rfl)
                      refine wl_end <| lv_next <| cc_seq <| cc_region <| wd rfl (fun st => x_fieldAddr (ee st rfl) (fz_36_3 _ _)) ?_
                      have bk175_118 : Bk w192 b175 36 #[I r162.rows, I r162.wd, I r162.lo, I r162.hi, .slice A162_h r162.ts.length c162_h] := ((((((((sb183.bk.gr sb184.gr (hp110.ne 4 3 rfl rfl rfl)).gr sb185.gr (hp111.ne 4 2 rfl rfl rfl)).gr sb186.gr (hp112.ne 4 1 rfl rfl rfl)).gr sb187.gr (hp113.ne 4 0 rfl rfl rfl)).gr sb188.gr (hp114.ne 4 7 rfl rfl rfl)).gr sb189.gr (hp115.ne 4 6 rfl rfl rfl)).ext hx190).gr sb192.gr (hp117.ne 4 5 rfl rfl rfl))
                      refine wd rfl (fun st => x_load1 (v := .slice A162_h r162.ts.length c162_h) one_34 (ee st rfl) bk175_118 rfl) ?_
                      replace hG := idx_bind hG; obtain ⟨i193, x193, hi193, hx193, hl193, hG⟩ := hG
                      have hR162_118 : OwnR eTly 95 w w192 (ZZ Z w.heap.size [some b179, some b178, some b177, some b176, some b175, some b174, some b173, some b172, ob A170_h, ob A168_h, ob A166_h, ob A164_h, ob A162_h, ob A160_h, ob A158_h, ob A156_h, ob A145_h, ob A141_h, ob A118_h, ob A110_h, some b103, ob A101_h, some b94, ob A92_h, some b83, ob A81_h, some b74, ob A72_h, some b68, ob A66_h, some b62, ob A60_h, some b54, ob A52_h, some b38, some b31, some b26, ob A17_h, some b3]) A162_h c162_h r162.ts := ((((((((((((((((((((((((hR162_h.ext hx164 (mv_hand hx164 hR164)).ext hx166 (mv_hand hx166 hR166)).ext hx168 (mv_hand hx168 hR168)).ext hx170 (mv_hand hx170 hR170)).ext nb172.gr (mv_new nb172.gr (Nat.le_of_eq nb172.b_eq.symm))).ext nb173.gr (mv_new nb173.gr (Nat.le_of_eq nb173.b_eq.symm))).ext nb174.gr (mv_new nb174.gr (Nat.le_of_eq nb174.b_eq.symm))).ext nb175.gr (mv_new nb175.gr (Nat.le_of_eq nb175.b_eq.symm))).ext nb176.gr (mv_new nb176.gr (Nat.le_of_eq nb176.b_eq.symm))).ext nb177.gr (mv_new nb177.gr (Nat.le_of_eq nb177.b_eq.symm))).ext nb178.gr (mv_new nb178.gr (Nat.le_of_eq nb178.b_eq.symm))).ext nb179.gr (mv_new nb179.gr (Nat.le_of_eq nb179.b_eq.symm))).gr sb180.gr (fun k hk => hp106.ne 12 7 rfl (congrArg some hk) rfl) (hp106.mv0 sb180.gr 7 rfl)).gr sb181.gr (fun k hk => hp107.ne 12 6 rfl (congrArg some hk) rfl) (hp107.mv0 sb181.gr 6 rfl)).gr sb182.gr (fun k hk => hp108.ne 12 5 rfl (congrArg some hk) rfl) (hp108.mv0 sb182.gr 5 rfl)).gr sb183.gr (fun k hk => hp109.ne 12 4 rfl (congrArg some hk) rfl) (hp109.mv0 sb183.gr 4 rfl)).gr sb184.gr (fun k hk => hp110.ne 12 3 rfl (congrArg some hk) rfl) (hp110.mv0 sb184.gr 3 rfl)).gr sb185.gr (fun k hk => hp111.ne 12 2 rfl (congrArg some hk) rfl) (hp111.mv0 sb185.gr 2 rfl)).gr sb186.gr (fun k hk => hp112.ne 12 1 rfl (congrArg some hk) rfl) (hp112.mv0 sb186.gr 1 rfl)).gr sb187.gr (fun k hk => hp113.ne 12 0 rfl (congrArg some hk) rfl) (hp113.mv0 sb187.gr 0 rfl)).gr sb188.gr (fun k hk => hp114.ne 12 7 rfl (congrArg some hk) rfl) (hp114.mv0 sb188.gr 7 rfl)).gr sb189.gr (fun k hk => hp115.ne 12 6 rfl (congrArg some hk) rfl) (hp115.mv0 sb189.gr 6 rfl)).ext hx190 (mv_ext hx190)).gr sb192.gr (fun k hk => hp117.ne 12 5 rfl (congrArg some hk) rfl) (hp117.mv0 sb192.gr 5 rfl))
                      obtain ⟨b193, o193, _, hA193, rfl, hz193⟩ := Sl.elem hR162_118.all (by decide) hx193
                      refine wd rfl (fun st => x_indexAddrN (k := i193) Try.underlying34 sz_95 (ee st rfl) hA193 (ee st rfl) hi193 hl193) <| wd rfl (fun st => x_fieldAddr (ee st rfl) (fa_95_0 _ _ _)) ?_
                      have tn194 : (0 : Int).toNat = i193 := by rw [hi193, Int.toNat_natCast]
                      refine wl_ex0 rfl rfl (fun st => x_storeR (n := 1) (k := i193) (off := 0) (z' := (⟨2, x193.fr, x193.to, x193.lo, x193.hi⟩ : Tly)) (l := [I 2]) (cs := [I x193.who, I x193.fr, I x193.to, I x193.lo, I x193.hi]) (cs' := [I 2, I x193.fr, I x193.to, I x193.lo, I x193.hi]) hR162_118 hx193 hA193 rfl (ee st rfl) (ee st rfl) sz_3 rfl rfl (fun _ h => h) rfl (show 0 + 1 ≤ 5 by decide) (one_cells rfl) rfl rfl) ?_
                      rintro _ w195 ⟨hg195, hO195⟩
                      have hp119 : Hp w [some b179, some b178, some b177, some b176, some b175, some b174, some b173, some b172, ob A170_h, ob A168_h, ob A166_h, ob A164_h, ob A162_h, ob A160_h, ob A158_h, ob A156_h, ob A145_h, ob A141_h, ob A118_h, ob A110_h, some b103, ob A101_h, some b94, ob A92_h, some b83, ob A81_h, some b74, ob A72_h, some b68, ob A66_h, some b62, ob A60_h, some b54, ob A52_h, some b38, some b31, some b26, ob A17_h, some b3] w195 := hp118.gr hg195 (hp118.ge 12 rfl)
                      have hR196 : OwnR eTly 95 w w195 (ZZ Z w.heap.size [some b179, some b178, some b177, some b176, some b175, some b174, some b173, some b172, ob A170_h, ob A168_h, ob A166_h, ob A164_h, ob A162_h, ob A160_h, ob A158_h, ob A156_h, ob A145_h, ob A141_h, ob A118_h, ob A110_h, some b103, ob A101_h, some b94, ob A92_h, some b83, ob A81_h, some b74, ob A72_h, some b68, ob A66_h, some b62, ob A60_h, some b54, ob A52_h, some b38, some b31, some b26, ob A17_h, some b3]) A162_h c162_h (r162.ts.set (0 : Int).toNat (⟨2, x193.fr, x193.to, x193.lo, x193.hi⟩ : Tly)) := by rw [show r162.ts.set (0 : Int).toNat (⟨2, x193.fr, x193.to, x193.lo, x193.hi⟩ : Tly) = r162.ts.set i193 (⟨2, x193.fr, x193.to, x193.lo, x193.hi⟩ : Tly) from congrArg (fun i_ => r162.ts.set i_ (⟨2, x193.fr, x193.to, x193.lo, x193.hi⟩ : Tly)) tn194]; exact ownR_set hO195 (hp118.mv0 hg195 12 rfl)
                      have hx196 : (r162.ts.set (0 : Int).toNat (⟨2, x193.fr, x193.to, x193.lo, x193.hi⟩ : Tly))[i193]? = some (⟨2, x193.fr, x193.to, x193.lo, x193.hi⟩ : Tly) := by rw [show r162.ts.set (0 : Int).toNat (⟨2, x193.fr, x193.to, x193.lo, x193.hi⟩ : Tly) = r162.ts.set i193 (⟨2, x193.fr, x193.to, x193.lo, x193.hi⟩ : Tly) from congrArg (fun i_ => r162.ts.set i_ (⟨2, x193.fr, x193.to, x193.lo, x193.hi⟩ : Tly)) tn194]; exact List.getElem?_set_self hl193
                      have hl196 : i193 < (r162.ts.set (0 : Int).toNat (⟨2, x193.fr, x193.to, x193.lo, x193.hi⟩ : Tly)).length := by rw [List.length_set]; exact hl193
                      have bk175_119 : Bk w195 b175 36 #[I r162.rows, I r162.wd, I r162.lo, I r162.hi, .slice A162_h r162.ts.length c162_h] := (bk175_118.gr hg195 (hp118.ne 4 12 rfl rfl rfl))
                      have kl197 : Bk w195 b175 36 #[I r162.rows, I r162.wd, I r162.lo, I r162.hi, .slice A162_h ((r162.ts.set (0 : Int).toNat (⟨2, x193.fr, x193.to, x193.lo, x193.hi⟩ : Tly)).length) c162_h] := by rw [List.length_set]; exact bk175_119
                      refine wl_end <| lv_next <| cc_seq <| cc_region <| wd rfl (fun st => x_fieldAddr (ee st rfl) (fz_36_3 _ _)) ?_
                      have bk176_119 : Bk w195 b176 36 #[I r164.rows, I r164.wd, I r164.lo, I r164.hi, .slice A164_h r164.ts.length c164_h] := ((((((((sb184.bk.gr sb185.gr (hp111.ne 3 2 rfl rfl rfl)).gr sb186.gr (hp112.ne 3 1 rfl rfl rfl)).gr sb187.gr (hp113.ne 3 0 rfl rfl rfl)).gr sb188.gr (hp114.ne 3 7 rfl rfl rfl)).gr sb189.gr (hp115.ne 3 6 rfl rfl rfl)).ext hx190).gr sb192.gr (hp117.ne 3 5 rfl rfl rfl)).gr hg195 (hp118.ne 3 12 rfl rfl rfl))
                      refine wd rfl (fun st => x_load1 (v := .slice A164_h r164.ts.length c164_h) one_34 (ee st rfl) bk176_119 rfl) ?_
                      replace hG := idx_bind hG; obtain ⟨i198, x198, hi198, hx198, hl198, hG⟩ := hG
                      have hR164_119 : OwnR eTly 95 w w195 (ZZ Z w.heap.size [some b179, some b178, some b177, some b176, some b175, some b174, some b173, some b172, ob A170_h, ob A168_h, ob A166_h, ob A164_h, ob A162_h, ob A160_h, ob A158_h, ob A156_h, ob A145_h, ob A141_h, ob A118_h, ob A110_h, some b103, ob A101_h, some b94, ob A92_h, some b83, ob A81_h, some b74, ob A72_h, some b68, ob A66_h, some b62, ob A60_h, some b54, ob A52_h, some b38, some b31, some b26, ob A17_h, some b3]) A164_h c164_h r164.ts := ((((((((((((((((((((((((hR164_h.ext hx166 (mv_hand hx166 hR166)).ext hx168 (mv_hand hx168 hR168)).ext hx170 (mv_hand hx170 hR170)).ext nb172.gr (mv_new nb172.gr (Nat.le_of_eq nb172.b_eq.symm))).ext nb173.gr (mv_new nb173.gr (Nat.le_of_eq nb173.b_eq.symm))).ext nb174.gr (mv_new nb174.gr (Nat.le_of_eq nb174.b_eq.symm))).ext nb175.gr (mv_new nb175.gr (Nat.le_of_eq nb175.b_eq.symm))).ext nb176.gr (mv_new nb176.gr (Nat.le_of_eq nb176.b_eq.symm))).ext nb177.gr (mv_new nb177.gr (Nat.le_of_eq nb177.b_eq.symm))).ext nb178.gr (mv_new nb178.gr (Nat.le_of_eq nb178.b_eq.symm))).ext nb179.gr (mv_new nb179.gr (Nat.le_of_eq nb179.b_eq.symm))).gr sb180.gr (fun k hk => hp106.ne 11 7 rfl (congrArg some hk) rfl) (hp106.mv0 sb180.gr 7 rfl)).gr sb181.gr (fun k hk => hp107.ne 11 6 rfl (congrArg some hk) rfl) (hp107.mv0 sb181.gr 6 rfl)).gr sb182.gr (fun k hk => hp108.ne 11 5 rfl (congrArg some hk) rfl) (hp108.mv0 sb182.gr 5 rfl)).gr sb183.gr (fun k hk => hp109.ne 11 4 rfl (congrArg some hk) rfl) (hp109.mv0 sb183.gr 4 rfl)).gr sb184.gr (fun k hk => hp110.ne 11 3 rfl (congrArg some hk) rfl) (hp110.mv0 sb184.gr 3 rfl)).gr sb185.gr (fun k hk => hp111.ne 11 2 rfl (congrArg some hk) rfl) (hp111.mv0 sb185.gr 2 rfl)).gr sb186.gr (fun k hk => hp112.ne 11 1 rfl (congrArg some hk) rfl) (hp112.mv0 sb186.gr 1 rfl)).gr sb187.gr (fun k hk => hp113.ne 11 0 rfl (congrArg some hk) rfl) (hp113.mv0 sb187.gr 0 rfl)).gr sb188.gr (fun k hk => hp114.ne 11 7 rfl (congrArg some hk) rfl) (hp114.mv0 sb188.gr 7 rfl)).gr sb189.gr (fun k hk => hp115.ne 11 6 rfl (congrArg some hk) rfl) (hp115.mv0 sb189.gr 6 rfl)).ext hx190 (mv_ext hx190)).gr sb192.gr (fun k hk => hp117.ne 11 5 rfl (congrArg some hk) rfl) (hp117.mv0 sb192.gr 5 rfl)).gr hg195 (fun k hk => hp118.ne 11 12 rfl (congrArg some hk) rfl) (hp118.mv0 hg195 12 rfl))
                      obtain ⟨b198, o198, _, hA198, rfl, hz198⟩ := Sl.elem hR164_119.all (by decide) hx198
                      refine wd rfl (fun st => x_indexAddrN (k := i198) Try.underlying34 sz_95 (ee st rfl) hA198 (ee st rfl) hi198 hl198) <| wd rfl (fun st => x_fieldAddr (ee st rfl) (fa_95_1 _ _ _)) ?_
                      have tn199 : (0 : Int).toNat = i198 := by rw [hi198, Int.toNat_natCast]
                      refine wl_ex0 rfl rfl (fun st => x_storeR (n := 1) (k := i198) (off := 1) (z' := (⟨x198.who, 3, x198.to, x198.lo, x198.hi⟩ : Tly)) (l := [I 3]) (cs := [I x198.who, I x198.fr, I x198.to, I x198.lo, I x198.hi]) (cs' := [I x198.who, I 3, I x198.to, I x198.lo, I x198.hi]) hR164_119 hx198 hA198 rfl (ee st rfl) (ee st rfl) sz_3 rfl rfl (fun _ h => h) rfl (show 1 + 1 ≤ 5 by decide) (one_cells rfl) rfl rfl) ?_
                      rintro _ w200 ⟨hg200, hO200⟩
                      have hp120 : Hp w [some b179, some b178, some b177, some b176, some b175, some b174, some b173, some b172, ob A170_h, ob A168_h, ob A166_h, ob A164_h, ob A162_h, ob A160_h, ob A158_h, ob A156_h, ob A145_h, ob A141_h, ob A118_h, ob A110_h, some b103, ob A101_h, some b94, ob A92_h, some b83, ob A81_h, some b74, ob A72_h, some b68, ob A66_h, some b62, ob A60_h, some b54, ob A52_h, some b38, some b31, some b26, ob A17_h, some b3] w200 := hp119.gr hg200 (hp119.ge 11 rfl)
                      have hR201 : OwnR eTly 95 w w200 (ZZ Z w.heap.size [some b179, some b178, some b177, some b176, some b175, some b174, some b173, some b172, ob A170_h, ob A168_h, ob A166_h, ob A164_h, ob A162_h, ob A160_h, ob A158_h, ob A156_h, ob A145_h, ob A141_h, ob A118_h, ob A110_h, some b103, ob A101_h, some b94, ob A92_h, some b83, ob A81_h, some b74, ob A72_h, some b68, ob A66_h, some b62, ob A60_h, some b54, ob A52_h, some b38, some b31, some b26, ob A17_h, some b3]) A164_h c164_h (r164.ts.set (0 : Int).toNat (⟨x198.who, 3, x198.to, x198.lo, x198.hi⟩ : Tly)) := by rw [show r164.ts.set (0 : Int).toNat (⟨x198.who, 3, x198.to, x198.lo, x198.hi⟩ : Tly) = r164.ts.set i198 (⟨x198.who, 3, x198.to, x198.lo, x198.hi⟩ : Tly) from congrArg (fun i_ => r164.ts.set i_ (⟨x198.who, 3, x198.to, x198.lo, x198.hi⟩ : Tly)) tn199]; exact ownR_set hO200 (hp119.mv0 hg200 11 rfl)
                      have hx201 : (r164.ts.set (0 : Int).toNat (⟨x198.who, 3, x198.to, x198.lo, x198.hi⟩ : Tly))[i198]? = some (⟨x198.who, 3, x198.to, x198.lo, x198.hi⟩ : Tly) := by rw [show r164.ts.set (0 : Int).toNat (⟨x198.who, 3, x198.to, x198.lo, x198.hi⟩ : Tly) = r164.ts.set i198 (⟨x198.who, 3, x198.to, x198.lo, x198.hi⟩ : Tly) from congrArg (fun i_ => r164.ts.set i_ (⟨x198.who, 3, x198.to, x198.lo, x198.hi⟩ : Tly)) tn199]; exact List.getElem?_set_self hl198
                      have hl201 : i198 < (r164.ts.set (0 : Int).toNat (⟨x198.who, 3, x198.to, x198.lo, x198.hi⟩ : Tly)).length := by rw [List.length_set]; exact hl198
                      have bk176_120 : Bk w200 b176 36 #[I r164.rows, I r164.wd, I r164.lo, I r164.hi, .slice A164_h r164.ts.length c164_h] := (bk176_119.gr hg200 (hp119.ne 3 11 rfl rfl rfl))
                      have kl202 : Bk w200 b176 36 #[I r164.rows, I r164.wd, I r164.lo, I r164.hi, .slice A164_h ((r164.ts.set (0 : Int).toNat (⟨x198.who, 3, x198.to, x198.lo, x198.hi⟩ : Tly)).length) c164_h] := by rw [List.length_set]; exact bk176_120
                      refine wl_end <| lv_next <| cc_seq <| cc_region <| we rfl (fun st => x_makeLit (n := 6) (cs := #[I 0, I 0, I 0, I 0, I 0, I 0, I 0, I 0, I 0, I 0, I 0, I 0, I 0, I 0, I 0, I 0, I 0, I 0, I 0, I 0, I 0, I 0, I 0, I 0, I 0, I 0, I 0, I 0, I 0, I 0]) Try.underlying34 info_95 (ee st rfl) (ee st rfl) (by decide) (by simp [maxLen]) (by kernel_rfl)) ?_
                      rintro _ w203 ⟨b203, rfl, nb203⟩
                      have hp121 : Hp w [some b203, some b179, some b178, some b177, some b176, some b175, some b174, some b173, some b172, ob A170_h, ob A168_h, ob A166_h, ob A164_h, ob A162_h, ob A160_h, ob A158_h, ob A156_h, ob A145_h, ob A141_h, ob A118_h, ob A110_h, some b103, ob A101_h, some b94, ob A92_h, some b83, ob A81_h, some b74, ob A72_h, some b68, ob A66_h, some b62, ob A60_h, some b54, ob A52_h, some b38, some b31, some b26, ob A17_h, some b3] w203 := hp120.new nb203.gr (Nat.le_of_eq nb203.b_eq.symm) (Nat.lt_of_lt_of_eq (Nat.lt_succ_self _) nb203.sz.symm)
                      refine wd rfl (fun st => x_fieldAddr (ee st rfl) (fz_36_3 _ _)) ?_
                      have bk177_121 : Bk w203 b177 36 #[I r166.rows, I r166.wd, I r166.lo, I r166.hi, .slice A166_h r166.ts.length c166_h] := (((((((((sb185.bk.gr sb186.gr (hp112.ne 2 1 rfl rfl rfl)).gr sb187.gr (hp113.ne 2 0 rfl rfl rfl)).gr sb188.gr (hp114.ne 2 7 rfl rfl rfl)).gr sb189.gr (hp115.ne 2 6 rfl rfl rfl)).ext hx190).gr sb192.gr (hp117.ne 2 5 rfl rfl rfl)).gr hg195 (hp118.ne 2 12 rfl rfl rfl)).gr hg200 (hp119.ne 2 11 rfl rfl rfl)).ext nb203.gr)
                      refine wl_ex0 rfl rfl (fun st => x_store (n := 1) (l := [.slice (some ⟨b203, 0, none⟩) 6 6]) (cs' := #[I r166.rows, I r166.wd, I r166.lo, I r166.hi, .slice (some ⟨b203, 0, none⟩) 6 6]) (ee st rfl) (ee st rfl) sz_34 bk177_121 rfl rfl (show 4 + 1 ≤ 5 by decide) (one_cells rfl) rfl) ?_
                      rintro _ w204 sb204
                      have hp122 : Hp w [some b203, some b179, some b178, some b177, some b176, some b175, some b174, some b173, some b172, ob A170_h, ob A168_h, ob A166_h, ob A164_h, ob A162_h, ob A160_h, ob A158_h, ob A156_h, ob A145_h, ob A141_h, ob A118_h, ob A110_h, some b103, ob A101_h, some b94, ob A92_h, some b83, ob A81_h, some b74, ob A72_h, some b68, ob A66_h, some b62, ob A60_h, some b54, ob A52_h, some b38, some b31, some b26, ob A17_h, some b3] w204 := hp121.gr sb204.gr (hp121.ge 3 rfl)
                      refine wl_end <| lv_next <| cc_seq <| cc_region <| wd rfl (fun st => x_fieldAddr (ee st rfl) (fz_36_0 _ _)) ?_
                      have bk178_122 : Bk w204 b178 36 #[I r168.rows, I r168.wd, I r168.lo, I r168.hi, .slice A168_h r168.ts.length c168_h] := (((((((((sb186.bk.gr sb187.gr (hp113.ne 1 0 rfl rfl rfl)).gr sb188.gr (hp114.ne 1 7 rfl rfl rfl)).gr sb189.gr (hp115.ne 1 6 rfl rfl rfl)).ext hx190).gr sb192.gr (hp117.ne 1 5 rfl rfl rfl)).gr hg195 (hp118.ne 1 12 rfl rfl rfl)).gr hg200 (hp119.ne 1 11 rfl rfl rfl)).ext nb203.gr).gr sb204.gr (hp121.ne 2 3 rfl rfl rfl))
                      refine wl_ex0 rfl rfl (fun st => x_store (n := 1) (l := [I 6]) (cs' := #[I 6, I r168.wd, I r168.lo, I r168.hi, .slice A168_h r168.ts.length c168_h]) (ee st rfl) (ee st rfl) sz_3 bk178_122 rfl rfl (show 0 + 1 ≤ 5 by decide) (one_cells rfl) rfl) ?_
                      rintro _ w205 sb205
                      have hp123 : Hp w [some b203, some b179, some b178, some b177, some b176, some b175, some b174, some b173, some b172, ob A170_h, ob A168_h, ob A166_h, ob A164_h, ob A162_h, ob A160_h, ob A158_h, ob A156_h, ob A145_h, ob A141_h, ob A118_h, ob A110_h, some b103, ob A101_h, some b94, ob A92_h, some b83, ob A81_h, some b74, ob A72_h, some b68, ob A66_h, some b62, ob A60_h, some b54, ob A52_h, some b38, some b31, some b26, ob A17_h, some b3] w205 := hp122.gr sb205.gr (hp122.ge 2 rfl)
                      refine wd rfl (fun st => x_fieldAddr (ee st rfl) (fz_36_1 _ _)) <| wl_ex0 rfl rfl (fun st => x_store (n := 1) (l := [I 3]) (cs' := #[I 6, I 3, I r168.lo, I r168.hi, .slice A168_h r168.ts.length c168_h]) (ee st rfl) (ee st rfl) sz_3 sb205.bk rfl rfl (show 1 + 1 ≤ 5 by decide) (one_cells rfl) rfl) ?_
                      rintro _ w206 sb206
                      have hp124 : Hp w [some b203, some b179, some b178, some b177, some b176, some b175, some b174, some b173, some b172, ob A170_h, ob A168_h, ob A166_h, ob A164_h, ob A162_h, ob A160_h, ob A158_h, ob A156_h, ob A145_h, ob A141_h, ob A118_h, ob A110_h, some b103, ob A101_h, some b94, ob A92_h, some b83, ob A81_h, some b74, ob A72_h, some b68, ob A66_h, some b62, ob A60_h, some b54, ob A52_h, some b38, some b31, some b26, ob A17_h, some b3] w206 := hp123.gr sb206.gr (hp123.ge 2 rfl)
                      refine wl_end <| lv_next <| cc_seq <| cc_region <| wd rfl (fun st => x_fieldAddr (ee st rfl) (fz_36_0 _ _)) ?_
                      have bk179_124 : Bk w206 b179 36 #[I r170.rows, I r170.wd, I r170.lo, I r170.hi, .slice A170_h r170.ts.length c170_h] := ((((((((((sb187.bk.gr sb188.gr (hp114.ne 0 7 rfl rfl rfl)).gr sb189.gr (hp115.ne 0 6 rfl rfl rfl)).ext hx190).gr sb192.gr (hp117.ne 0 5 rfl rfl rfl)).gr hg195 (hp118.ne 0 12 rfl rfl rfl)).gr hg200 (hp119.ne 0 11 rfl rfl rfl)).ext nb203.gr).gr sb204.gr (hp121.ne 1 3 rfl rfl rfl)).gr sb205.gr (hp122.ne 1 2 rfl rfl rfl)).gr sb206.gr (hp123.ne 1 2 rfl rfl rfl))
                      refine wl_ex0 rfl rfl (fun st => x_store (n := 1) (l := [I 0]) (cs' := #[I 0, I r170.wd, I r170.lo, I r170.hi, .slice A170_h r170.ts.length c170_h]) (ee st rfl) (ee st rfl) sz_3 bk179_124 rfl rfl (show 0 + 1 ≤ 5 by decide) (one_cells rfl) rfl) ?_
                      rintro _ w207 sb207
                      have hp125 : Hp w [some b203, some b179, some b178, some b177, some b176, some b175, some b174, some b173, some b172, ob A170_h, ob A168_h, ob A166_h, ob A164_h, ob A162_h, ob A160_h, ob A158_h, ob A156_h, ob A145_h, ob A141_h, ob A118_h, ob A110_h, some b103, ob A101_h, some b94, ob A92_h, some b83, ob A81_h, some b74, ob A72_h, some b68, ob A66_h, some b62, ob A60_h, some b54, ob A52_h, some b38, some b31, some b26, ob A17_h, some b3] w207 := hp124.gr sb207.gr (hp124.ge 1 rfl)
                      refine wl_end <| lv_next <| cc_seq <| cc_region <| wm rfl (v := I r128.2) rfl <| wd rfl (fun st => x_eql (ee st rfl) (ee st rfl)) <| wm rfl (v := .bool (r128.2 == 2)) rfl ?_
                      rcases bool_cases (r128.2 == 2) with hc208 | hc208
                      ·replace hG := cond_t hG hc208
                       refine wl_detg rfl rfl (guard_eq rfl hc208) rfl (by decide) (fun st => x_move (v := I r135.2) (ee st rfl)) <| wl_detg rfl rfl (guard_eq rfl hc208) rfl (by decide) (fun st => x_eql (ee st rfl) (ee st rfl)) <| wd rfl (fun st => x_pick_t (v := .bool (r135.2 == 11)) (ee st rfl) hc208 (ee st rfl)) <| wm rfl (v := .bool (r135.2 == 11)) rfl ?_
                       rcases bool_cases (r135.2 == 11) with hc209 | hc209
                       ·replace hG := cond_t hG hc209
                        refine wl_detg rfl rfl (guard_eq rfl hc209) rfl (by decide) (fun st => x_move (v := I r139.2) (ee st rfl)) <| wl_detg rfl rfl (guard_eq rfl hc209) rfl (by decide) (fun st => x_eql (ee st rfl) (ee st rfl)) <| wd rfl (fun st => x_pick_t (v := .bool (r139.2 == 2)) (ee st rfl) hc209 (ee st rfl)) <| wm rfl (v := .bool (r139.2 == 2)) rfl ?_
                        rcases bool_cases (r139.2 == 2) with hc210 | hc210
                        ·replace hG := cond_t hG hc210
                         refine wl_detg rfl rfl (guard_eq rfl hc210) rfl (by decide) (fun st => x_move (v := I r143.2.2) (ee st rfl)) <| wl_detg rfl rfl (guard_eq rfl hc210) rfl (by decide) (fun st => x_eql (ee st rfl) (ee st rfl)) <| wd rfl (fun st => x_pick_t (v := .bool (r143.2.2 == 2)) (ee st rfl) hc210 (ee st rfl)) <| wm rfl (v := .bool (r143.2.2 == 2)) rfl ?_
                         rcases bool_cases (r143.2.2 == 2) with hc211 | hc211
                         ·replace hG := cond_t hG hc211
                          refine wl_detg rfl rfl (guard_eq rfl hc211) rfl (by decide) (fun st => x_move (v := I r147.2) (ee st rfl)) <| wl_detg rfl rfl (guard_eq rfl hc211) rfl (by decide) (fun st => x_eql (ee st rfl) (ee st rfl)) <| wd rfl (fun st => x_pick_t (v := .bool (r147.2 == 7)) (ee st rfl) hc211 (ee st rfl)) <| wm rfl (v := .bool (r147.2 == 7)) rfl ?_
                          rcases bool_cases (r147.2 == 7) with hc212 | hc212
                          ·replace hG := cond_t hG hc212
                           refine wl_detg rfl rfl (guard_eq rfl hc212) rfl (by decide) (fun st => x_move (v := I r154.2) (ee st rfl)) <| wl_detg rfl rfl (guard_eq rfl hc212) rfl (by decide) (fun st => x_eql (ee st rfl) (ee st rfl)) <| wd rfl (fun st => x_pick_t (v := .bool (r154.2 == 11)) (ee st rfl) hc212 (ee st rfl)) <| wm rfl (v := .bool (r154.2 == 11)) rfl ?_
                           rcases bool_cases (r154.2 == 11) with hc213 | hc213
                           ·replace hG := cond_t hG hc213
                            have bk172_125 : Bk w207 b172 36 #[I 8, I r156.wd, I r156.lo, I r156.hi, .slice A156_h r156.ts.length c156_h] := ((((((((((sb188.bk.gr sb189.gr (hp115.ne 7 6 rfl rfl rfl)).ext hx190).gr sb192.gr (hp117.ne 7 5 rfl rfl rfl)).gr hg195 (hp118.ne 7 12 rfl rfl rfl)).gr hg200 (hp119.ne 7 11 rfl rfl rfl)).ext nb203.gr).gr sb204.gr (hp121.ne 8 3 rfl rfl rfl)).gr sb205.gr (hp122.ne 8 2 rfl rfl rfl)).gr sb206.gr (hp123.ne 8 2 rfl rfl rfl)).gr sb207.gr (hp124.ne 8 1 rfl rfl rfl))
                            refine wl_detg rfl rfl (guard_eq rfl hc213) rfl (by decide) (fun st => x_loadn (l := [I 8, I r156.wd, I r156.lo, I r156.hi, .slice A156_h r156.ts.length c156_h]) agg_36 (ee st rfl) bk172_125 rfl rfl) ?_
                            have hR156_125 : OwnR eTly 95 w w207 (ZZ Z w.heap.size [some b203, some b179, some b178, some b177, some b176, some b175, some b174, some b173, some b172, ob A170_h, ob A168_h, ob A166_h, ob A164_h, ob A162_h, ob A160_h, ob A158_h, ob A156_h, ob A145_h, ob A141_h, ob A118_h, ob A110_h, some b103, ob A101_h, some b94, ob A92_h, some b83, ob A81_h, some b74, ob A72_h, some b68, ob A66_h, some b62, ob A60_h, some b54, ob A52_h, some b38, some b31, some b26, ob A17_h, some b3]) A156_h c156_h r156.ts := ((((((((((((((((((((((((((((((((((hR156_h.ext hx158 (mv_hand hx158 hR158)).ext hx160 (mv_hand hx160 hR160)).ext hx162 (mv_hand hx162 hR162)).ext hx164 (mv_hand hx164 hR164)).ext hx166 (mv_hand hx166 hR166)).ext hx168 (mv_hand hx168 hR168)).ext hx170 (mv_hand hx170 hR170)).ext nb172.gr (mv_new nb172.gr (Nat.le_of_eq nb172.b_eq.symm))).ext nb173.gr (mv_new nb173.gr (Nat.le_of_eq nb173.b_eq.symm))).ext nb174.gr (mv_new nb174.gr (Nat.le_of_eq nb174.b_eq.symm))).ext nb175.gr (mv_new nb175.gr (Nat.le_of_eq nb175.b_eq.symm))).ext nb176.gr (mv_new nb176.gr (Nat.le_of_eq nb176.b_eq.symm))).ext nb177.gr (mv_new nb177.gr (Nat.le_of_eq nb177.b_eq.symm))).ext nb178.gr (mv_new nb178.gr (Nat.le_of_eq nb178.b_eq.symm))).ext nb179.gr (mv_new nb179.gr (Nat.le_of_eq nb179.b_eq.symm))).gr sb180.gr (fun k hk => hp106.ne 15 7 rfl (congrArg some hk) rfl) (hp106.mv0 sb180.gr 7 rfl)).gr sb181.gr (fun k hk => hp107.ne 15 6 rfl (congrArg some hk) rfl) (hp107.mv0 sb181.gr 6 rfl)).gr sb182.gr (fun k hk => hp108.ne 15 5 rfl (congrArg some hk) rfl) (hp108.mv0 sb182.gr 5 rfl)).gr sb183.gr (fun k hk => hp109.ne 15 4 rfl (congrArg some hk) rfl) (hp109.mv0 sb183.gr 4 rfl)).gr sb184.gr (fun k hk => hp110.ne 15 3 rfl (congrArg some hk) rfl) (hp110.mv0 sb184.gr 3 rfl)).gr sb185.gr (fun k hk => hp111.ne 15 2 rfl (congrArg some hk) rfl) (hp111.mv0 sb185.gr 2 rfl)).gr sb186.gr (fun k hk => hp112.ne 15 1 rfl (congrArg some hk) rfl) (hp112.mv0 sb186.gr 1 rfl)).gr sb187.gr (fun k hk => hp113.ne 15 0 rfl (congrArg some hk) rfl) (hp113.mv0 sb187.gr 0 rfl)).gr sb188.gr (fun k hk => hp114.ne 15 7 rfl (congrArg some hk) rfl) (hp114.mv0 sb188.gr 7 rfl)).gr sb189.gr (fun k hk => hp115.ne 15 6 rfl (congrArg some hk) rfl) (hp115.mv0 sb189.gr 6 rfl)).ext hx190 (mv_ext hx190)).gr sb192.gr (fun k hk => hp117.ne 15 5 rfl (congrArg some hk) rfl) (hp117.mv0 sb192.gr 5 rfl)).gr hg195 (fun k hk => hp118.ne 15 12 rfl (congrArg some hk) rfl) (hp118.mv0 hg195 12 rfl)).gr hg200 (fun k hk => hp119.ne 15 11 rfl (congrArg some hk) rfl) (hp119.mv0 hg200 11 rfl)).ext nb203.gr (mv_new nb203.gr (Nat.le_of_eq nb203.b_eq.symm))).gr sb204.gr (fun k hk => hp121.ne 16 3 rfl (congrArg some hk) rfl) (hp121.mv0 sb204.gr 3 rfl)).gr sb205.gr (fun k hk => hp122.ne 16 2 rfl (congrArg some hk) rfl) (hp122.mv0 sb205.gr 2 rfl)).gr sb206.gr (fun k hk => hp123.ne 16 2 rfl (congrArg some hk) rfl) (hp123.mv0 sb206.gr 2 rfl)).gr sb207.gr (fun k hk => hp124.ne 16 1 rfl (congrArg some hk) rfl) (hp124.mv0 sb207.gr 1 rfl))
                            replace hG := bind_some hG; obtain ⟨r214, hr214, hG⟩ := hG
                            refine wl_exg rfl rfl (guard_eq rfl hc213) rfl (by decide) (fun st => x_call0 own_51 (ee st rfl) (am1 (ee st rfl)) (a51 K_ (⟨8, r156.wd, r156.lo, r156.hi, r156.ts⟩ : Fld) A156_h c156_h ZA _ hR156_125.all r214 hr214)) ?_
                            rintro _ w215 ⟨hx214, rfl⟩
                            have hp126 : Hp w [some b203, some b179, some b178, some b177, some b176, some b175, some b174, some b173, some b172, ob A170_h, ob A168_h, ob A166_h, ob A164_h, ob A162_h, ob A160_h, ob A158_h, ob A156_h, ob A145_h, ob A141_h, ob A118_h, ob A110_h, some b103, ob A101_h, some b94, ob A92_h, some b83, ob A81_h, some b74, ob A72_h, some b68, ob A66_h, some b62, ob A60_h, some b54, ob A52_h, some b38, some b31, some b26, ob A17_h, some b3] w215 := hp125.ext hx214
                            refine wl_detg rfl rfl (guard_eq rfl hc213) rfl (by decide) (fun st => x_eql (ee st rfl) (ee st rfl)) <| wd rfl (fun st => x_pick_t (v := .bool (r214 == 3)) (ee st rfl) hc213 (ee st rfl)) <| wm rfl (v := .bool (r214 == 3)) rfl ?_
                            rcases bool_cases (r214 == 3) with hc216 | hc216
                            ·replace hG := cond_t hG hc216
                             have bk173_126 : Bk w215 b173 36 #[I r158.rows, I 4, I r158.lo, I r158.hi, .slice A158_h r158.ts.length c158_h] := ((((((((((sb189.bk.ext hx190).gr sb192.gr (hp117.ne 6 5 rfl rfl rfl)).gr hg195 (hp118.ne 6 12 rfl rfl rfl)).gr hg200 (hp119.ne 6 11 rfl rfl rfl)).ext nb203.gr).gr sb204.gr (hp121.ne 7 3 rfl rfl rfl)).gr sb205.gr (hp122.ne 7 2 rfl rfl rfl)).gr sb206.gr (hp123.ne 7 2 rfl rfl rfl)).gr sb207.gr (hp124.ne 7 1 rfl rfl rfl)).ext hx214)
                             refine wl_detg rfl rfl (guard_eq rfl hc216) rfl (by decide) (fun st => x_loadn (l := [I r158.rows, I 4, I r158.lo, I r158.hi, .slice A158_h r158.ts.length c158_h]) agg_36 (ee st rfl) bk173_126 rfl rfl) ?_
                             have hR158_126 : OwnR eTly 95 w w215 (ZZ Z w.heap.size [some b203, some b179, some b178, some b177, some b176, some b175, some b174, some b173, some b172, ob A170_h, ob A168_h, ob A166_h, ob A164_h, ob A162_h, ob A160_h, ob A158_h, ob A156_h, ob A145_h, ob A141_h, ob A118_h, ob A110_h, some b103, ob A101_h, some b94, ob A92_h, some b83, ob A81_h, some b74, ob A72_h, some b68, ob A66_h, some b62, ob A60_h, some b54, ob A52_h, some b38, some b31, some b26, ob A17_h, some b3]) A158_h c158_h r158.ts := ((((((((((((((((((((((((((((((((((hR158_h.ext hx160 (mv_hand hx160 hR160)).ext hx162 (mv_hand hx162 hR162)).ext hx164 (mv_hand hx164 hR164)).ext hx166 (mv_hand hx166 hR166)).ext hx168 (mv_hand hx168 hR168)).ext hx170 (mv_hand hx170 hR170)).ext nb172.gr (mv_new nb172.gr (Nat.le_of_eq nb172.b_eq.symm))).ext nb173.gr (mv_new nb173.gr (Nat.le_of_eq nb173.b_eq.symm))).ext nb174.gr (mv_new nb174.gr (Nat.le_of_eq nb174.b_eq.symm))).ext nb175.gr (mv_new nb175.gr (Nat.le_of_eq nb175.b_eq.symm))).ext nb176.gr (mv_new nb176.gr (Nat.le_of_eq nb176.b_eq.symm))).ext nb177.gr (mv_new nb177.gr (Nat.le_of_eq nb177.b_eq.symm))).ext nb178.gr (mv_new nb178.gr (Nat.le_of_eq nb178.b_eq.symm))).ext nb179.gr (mv_new nb179.gr (Nat.le_of_eq nb179.b_eq.symm))).gr sb180.gr (fun k hk => hp106.ne 14 7 rfl (congrArg some hk) rfl) (hp106.mv0 sb180.gr 7 rfl)).gr sb181.gr (fun k hk => hp107.ne 14 6 rfl (congrArg some hk) rfl) (hp107.mv0 sb181.gr 6 rfl)).gr sb182.gr (fun k hk => hp108.ne 14 5 rfl (congrArg some hk) rfl) (hp108.mv0 sb182.gr 5 rfl)).gr sb183.gr (fun k hk => hp109.ne 14 4 rfl (congrArg some hk) rfl) (hp109.mv0 sb183.gr 4 rfl)).gr sb184.gr (fun k hk => hp110.ne 14 3 rfl (congrArg some hk) rfl) (hp110.mv0 sb184.gr 3 rfl)).gr sb185.gr (fun k hk => hp111.ne 14 2 rfl (congrArg some hk) rfl) (hp111.mv0 sb185.gr 2 rfl)).gr sb186.gr (fun k hk => hp112.ne 14 1 rfl (congrArg some hk) rfl) (hp112.mv0 sb186.gr 1 rfl)).gr sb187.gr (fun k hk => hp113.ne 14 0 rfl (congrArg some hk) rfl) (hp113.mv0 sb187.gr 0 rfl)).gr sb188.gr (fun k hk => hp114.ne 14 7 rfl (congrArg some hk) rfl) (hp114.mv0 sb188.gr 7 rfl)).gr sb189.gr (fun k hk => hp115.ne 14 6 rfl (congrArg some hk) rfl) (hp115.mv0 sb189.gr 6 rfl)).ext hx190 (mv_ext hx190)).gr sb192.gr (fun k hk => hp117.ne 14 5 rfl (congrArg some hk) rfl) (hp117.mv0 sb192.gr 5 rfl)).gr hg195 (fun k hk => hp118.ne 14 12 rfl (congrArg some hk) rfl) (hp118.mv0 hg195 12 rfl)).gr hg200 (fun k hk => hp119.ne 14 11 rfl (congrArg some hk) rfl) (hp119.mv0 hg200 11 rfl)).ext nb203.gr (mv_new nb203.gr (Nat.le_of_eq nb203.b_eq.symm))).gr sb204.gr (fun k hk => hp121.ne 15 3 rfl (congrArg some hk) rfl) (hp121.mv0 sb204.gr 3 rfl)).gr sb205.gr (fun k hk => hp122.ne 15 2 rfl (congrArg some hk) rfl) (hp122.mv0 sb205.gr 2 rfl)).gr sb206.gr (fun k hk => hp123.ne 15 2 rfl (congrArg some hk) rfl) (hp123.mv0 sb206.gr 2 rfl)).gr sb207.gr (fun k hk => hp124.ne 15 1 rfl (congrArg some hk) rfl) (hp124.mv0 sb207.gr 1 rfl)).ext hx214 (mv_ext hx214))
                             replace hG := bind_some hG; obtain ⟨r217, hr217, hG⟩ := hG
                             refine wl_exg rfl rfl (guard_eq rfl hc216) rfl (by decide) (fun st => x_call0 own_51 (ee st rfl) (am1 (ee st rfl)) (a51 K_ (⟨r158.rows, 4, r158.lo, r158.hi, r158.ts⟩ : Fld) A158_h c158_h ZA _ hR158_126.all r217 hr217)) ?_
                             rintro _ w218 ⟨hx217, rfl⟩
                             have hp127 : Hp w [some b203, some b179, some b178, some b177, some b176, some b175, some b174, some b173, some b172, ob A170_h, ob A168_h, ob A166_h, ob A164_h, ob A162_h, ob A160_h, ob A158_h, ob A156_h, ob A145_h, ob A141_h, ob A118_h, ob A110_h, some b103, ob A101_h, some b94, ob A92_h, some b83, ob A81_h, some b74, ob A72_h, some b68, ob A66_h, some b62, ob A60_h, some b54, ob A52_h, some b38, some b31, some b26, ob A17_h, some b3] w218 := hp126.ext hx217
                             refine wl_detg rfl rfl (guard_eq rfl hc216) rfl (by decide) (fun st => x_eql (ee st rfl) (ee st rfl)) <| wd rfl (fun st => x_pick_t (v := .bool (r217 == 3)) (ee st rfl) hc216 (ee st rfl)) <| wm rfl (v := .bool (r217 == 3)) rfl ?_
                             rcases bool_cases (r217 == 3) with hc219 | hc219
                             ·replace hG := cond_t hG hc219
                              have bk174_127 : Bk w218 b174 36 #[I r160.rows, I r160.wd, I r190.1, I r190.2, .slice A160_h r160.ts.length c160_h] := (((((((((sb192.bk.gr hg195 (hp118.ne 5 12 rfl rfl rfl)).gr hg200 (hp119.ne 5 11 rfl rfl rfl)).ext nb203.gr).gr sb204.gr (hp121.ne 6 3 rfl rfl rfl)).gr sb205.gr (hp122.ne 6 2 rfl rfl rfl)).gr sb206.gr (hp123.ne 6 2 rfl rfl rfl)).gr sb207.gr (hp124.ne 6 1 rfl rfl rfl)).ext hx214).ext hx217)
                              refine wl_detg rfl rfl (guard_eq rfl hc219) rfl (by decide) (fun st => x_loadn (l := [I r160.rows, I r160.wd, I r190.1, I r190.2, .slice A160_h r160.ts.length c160_h]) agg_36 (ee st rfl) bk174_127 rfl rfl) ?_
                              have hR160_127 : OwnR eTly 95 w w218 (ZZ Z w.heap.size [some b203, some b179, some b178, some b177, some b176, some b175, some b174, some b173, some b172, ob A170_h, ob A168_h, ob A166_h, ob A164_h, ob A162_h, ob A160_h, ob A158_h, ob A156_h, ob A145_h, ob A141_h, ob A118_h, ob A110_h, some b103, ob A101_h, some b94, ob A92_h, some b83, ob A81_h, some b74, ob A72_h, some b68, ob A66_h, some b62, ob A60_h, some b54, ob A52_h, some b38, some b31, some b26, ob A17_h, some b3]) A160_h c160_h r160.ts := ((((((((((((((((((((((((((((((((((hR160_h.ext hx162 (mv_hand hx162 hR162)).ext hx164 (mv_hand hx164 hR164)).ext hx166 (mv_hand hx166 hR166)).ext hx168 (mv_hand hx168 hR168)).ext hx170 (mv_hand hx170 hR170)).ext nb172.gr (mv_new nb172.gr (Nat.le_of_eq nb172.b_eq.symm))).ext nb173.gr (mv_new nb173.gr (Nat.le_of_eq nb173.b_eq.symm))).ext nb174.gr (mv_new nb174.gr (Nat.le_of_eq nb174.b_eq.symm))).ext nb175.gr (mv_new nb175.gr (Nat.le_of_eq nb175.b_eq.symm))).ext nb176.gr (mv_new nb176.gr (Nat.le_of_eq nb176.b_eq.symm))).ext nb177.gr (mv_new nb177.gr (Nat.le_of_eq nb177.b_eq.symm))).ext nb178.gr (mv_new nb178.gr (Nat.le_of_eq nb178.b_eq.symm))).ext nb179.gr (mv_new nb179.gr (Nat.le_of_eq nb179.b_eq.symm))).gr sb180.gr (fun k hk => hp106.ne 13 7 rfl (congrArg some hk) rfl) (hp106.mv0 sb180.gr 7 rfl)).gr sb181.gr (fun k hk => hp107.ne 13 6 rfl (congrArg some hk) rfl) (hp107.mv0 sb181.gr 6 rfl)).gr sb182.gr (fun k hk => hp108.ne 13 5 rfl (congrArg some hk) rfl) (hp108.mv0 sb182.gr 5 rfl)).gr sb183.gr (fun k hk => hp109.ne 13 4 rfl (congrArg some hk) rfl) (hp109.mv0 sb183.gr 4 rfl)).gr sb184.gr (fun k hk => hp110.ne 13 3 rfl (congrArg some hk) rfl) (hp110.mv0 sb184.gr 3 rfl)).gr sb185.gr (fun k hk => hp111.ne 13 2 rfl (congrArg some hk) rfl) (hp111.mv0 sb185.gr 2 rfl)).gr sb186.gr (fun k hk => hp112.ne 13 1 rfl (congrArg some hk) rfl) (hp112.mv0 sb186.gr 1 rfl)).gr sb187.gr (fun k hk => hp113.ne 13 0 rfl (congrArg some hk) rfl) (hp113.mv0 sb187.gr 0 rfl)).gr sb188.gr (fun k hk => hp114.ne 13 7 rfl (congrArg some hk) rfl) (hp114.mv0 sb188.gr 7 rfl)).gr sb189.gr (fun k hk => hp115.ne 13 6 rfl (congrArg some hk) rfl) (hp115.mv0 sb189.gr 6 rfl)).ext hx190 (mv_ext hx190)).gr sb192.gr (fun k hk => hp117.ne 13 5 rfl (congrArg some hk) rfl) (hp117.mv0 sb192.gr 5 rfl)).gr hg195 (fun k hk => hp118.ne 13 12 rfl (congrArg some hk) rfl) (hp118.mv0 hg195 12 rfl)).gr hg200 (fun k hk => hp119.ne 13 11 rfl (congrArg some hk) rfl) (hp119.mv0 hg200 11 rfl)).ext nb203.gr (mv_new nb203.gr (Nat.le_of_eq nb203.b_eq.symm))).gr sb204.gr (fun k hk => hp121.ne 14 3 rfl (congrArg some hk) rfl) (hp121.mv0 sb204.gr 3 rfl)).gr sb205.gr (fun k hk => hp122.ne 14 2 rfl (congrArg some hk) rfl) (hp122.mv0 sb205.gr 2 rfl)).gr sb206.gr (fun k hk => hp123.ne 14 2 rfl (congrArg some hk) rfl) (hp123.mv0 sb206.gr 2 rfl)).gr sb207.gr (fun k hk => hp124.ne 14 1 rfl (congrArg some hk) rfl) (hp124.mv0 sb207.gr 1 rfl)).ext hx214 (mv_ext hx214)).ext hx217 (mv_ext hx217))
                              replace hG := bind_some hG; obtain ⟨r220, hr220, hG⟩ := hG
                              refine wl_exg rfl rfl (guard_eq rfl hc219) rfl (by decide) (fun st => x_call0 own_51 (ee st rfl) (am1 (ee st rfl)) (a51 K_ (⟨r160.rows, r160.wd, r190.1, r190.2, r160.ts⟩ : Fld) A160_h c160_h ZA _ hR160_127.all r220 hr220)) ?_
                              rintro _ w221 ⟨hx220, rfl⟩
                              have hp128 : Hp w [some b203, some b179, some b178, some b177, some b176, some b175, some b174, some b173, some b172, ob A170_h, ob A168_h, ob A166_h, ob A164_h, ob A162_h, ob A160_h, ob A158_h, ob A156_h, ob A145_h, ob A141_h, ob A118_h, ob A110_h, some b103, ob A101_h, some b94, ob A92_h, some b83, ob A81_h, some b74, ob A72_h, some b68, ob A66_h, some b62, ob A60_h, some b54, ob A52_h, some b38, some b31, some b26, ob A17_h, some b3] w221 := hp127.ext hx220
                              refine wl_detg rfl rfl (guard_eq rfl hc219) rfl (by decide) (fun st => x_eql (ee st rfl) (ee st rfl)) <| wd rfl (fun st => x_pick_t (v := .bool (r220 == 1)) (ee st rfl) hc219 (ee st rfl)) <| wm rfl (v := .bool (r220 == 1)) rfl ?_
                              rcases bool_cases (r220 == 1) with hc222 | hc222
                              ·replace hG := cond_t hG hc222
                               have bk175_128 : Bk w221 b175 36 #[I r162.rows, I r162.wd, I r162.lo, I r162.hi, .slice A162_h ((r162.ts.set (0 : Int).toNat (⟨2, x193.fr, x193.to, x193.lo, x193.hi⟩ : Tly)).length) c162_h] := (((((((((kl197.gr hg200 (hp119.ne 4 11 rfl rfl rfl)).ext nb203.gr).gr sb204.gr (hp121.ne 5 3 rfl rfl rfl)).gr sb205.gr (hp122.ne 5 2 rfl rfl rfl)).gr sb206.gr (hp123.ne 5 2 rfl rfl rfl)).gr sb207.gr (hp124.ne 5 1 rfl rfl rfl)).ext hx214).ext hx217).ext hx220)
                               refine wl_detg rfl rfl (guard_eq rfl hc222) rfl (by decide) (fun st => x_loadn (l := [I r162.rows, I r162.wd, I r162.lo, I r162.hi, .slice A162_h ((r162.ts.set (0 : Int).toNat (⟨2, x193.fr, x193.to, x193.lo, x193.hi⟩ : Tly)).length) c162_h]) agg_36 (ee st rfl) bk175_128 rfl rfl) ?_
                               have hR196_128 : OwnR eTly 95 w w221 (ZZ Z w.heap.size [some b203, some b179, some b178, some b177, some b176, some b175, some b174, some b173, some b172, ob A170_h, ob A168_h, ob A166_h, ob A164_h, ob A162_h, ob A160_h, ob A158_h, ob A156_h, ob A145_h, ob A141_h, ob A118_h, ob A110_h, some b103, ob A101_h, some b94, ob A92_h, some b83, ob A81_h, some b74, ob A72_h, some b68, ob A66_h, some b62, ob A60_h, some b54, ob A52_h, some b38, some b31, some b26, ob A17_h, some b3]) A162_h c162_h (r162.ts.set (0 : Int).toNat (⟨2, x193.fr, x193.to, x193.lo, x193.hi⟩ : Tly)) := (((((((((hR196.gr hg200 (fun k hk => hp119.ne 12 11 rfl (congrArg some hk) rfl) (hp119.mv0 hg200 11 rfl)).ext nb203.gr (mv_new nb203.gr (Nat.le_of_eq nb203.b_eq.symm))).gr sb204.gr (fun k hk => hp121.ne 13 3 rfl (congrArg some hk) rfl) (hp121.mv0 sb204.gr 3 rfl)).gr sb205.gr (fun k hk => hp122.ne 13 2 rfl (congrArg some hk) rfl) (hp122.mv0 sb205.gr 2 rfl)).gr sb206.gr (fun k hk => hp123.ne 13 2 rfl (congrArg some hk) rfl) (hp123.mv0 sb206.gr 2 rfl)).gr sb207.gr (fun k hk => hp124.ne 13 1 rfl (congrArg some hk) rfl) (hp124.mv0 sb207.gr 1 rfl)).ext hx214 (mv_ext hx214)).ext hx217 (mv_ext hx217)).ext hx220 (mv_ext hx220))
                               replace hG := bind_some hG; obtain ⟨r223, hr223, hG⟩ := hG
                               refine wl_exg rfl rfl (guard_eq rfl hc222) rfl (by decide) (fun st => x_call0 own_51 (ee st rfl) (am1 (ee st rfl)) (a51 K_ (⟨r162.rows, r162.wd, r162.lo, r162.hi, r162.ts.set (0 : Int).toNat (⟨2, x193.fr, x193.to, x193.lo, x193.hi⟩ : Tly)⟩ : Fld) A162_h c162_h ZA _ hR196_128.all r223 hr223)) ?_
                               rintro _ w224 ⟨hx223, rfl⟩
                               have hp129 : Hp w [some b203, some b179, some b178, some b177, some b176, some b175, some b174, some b173, some b172, ob A170_h, ob A168_h, ob A166_h, ob A164_h, ob A162_h, ob A160_h, ob A158_h, ob A156_h, ob A145_h, ob A141_h, ob A118_h, ob A110_h, some b103, ob A101_h, some b94, ob A92_h, some b83, ob A81_h, some b74, ob A72_h, some b68, ob A66_h, some b62, ob A60_h, some b54, ob A52_h, some b38, some b31, some b26, ob A17_h, some b3] w224 := hp128.ext hx223
                               refine wl_detg rfl rfl (guard_eq rfl hc222) rfl (by decide) (fun st => x_eql (ee st rfl) (ee st rfl)) <| wd rfl (fun st => x_pick_t (v := .bool (r223 == 1)) (ee st rfl) hc222 (ee st rfl)) <| wm rfl (v := .bool (r223 == 1)) rfl ?_
                               rcases bool_cases (r223 == 1) with hc225 | hc225
                               ·replace hG := cond_t hG hc225
                                have bk176_129 : Bk w224 b176 36 #[I r164.rows, I r164.wd, I r164.lo, I r164.hi, .slice A164_h ((r164.ts.set (0 : Int).toNat (⟨x198.who, 3, x198.to, x198.lo, x198.hi⟩ : Tly)).length) c164_h] := (((((((((kl202.ext nb203.gr).gr sb204.gr (hp121.ne 4 3 rfl rfl rfl)).gr sb205.gr (hp122.ne 4 2 rfl rfl rfl)).gr sb206.gr (hp123.ne 4 2 rfl rfl rfl)).gr sb207.gr (hp124.ne 4 1 rfl rfl rfl)).ext hx214).ext hx217).ext hx220).ext hx223)
                                refine wl_detg rfl rfl (guard_eq rfl hc225) rfl (by decide) (fun st => x_loadn (l := [I r164.rows, I r164.wd, I r164.lo, I r164.hi, .slice A164_h ((r164.ts.set (0 : Int).toNat (⟨x198.who, 3, x198.to, x198.lo, x198.hi⟩ : Tly)).length) c164_h]) agg_36 (ee st rfl) bk176_129 rfl rfl) ?_
                                have hR201_129 : OwnR eTly 95 w w224 (ZZ Z w.heap.size [some b203, some b179, some b178, some b177, some b176, some b175, some b174, some b173, some b172, ob A170_h, ob A168_h, ob A166_h, ob A164_h, ob A162_h, ob A160_h, ob A158_h, ob A156_h, ob A145_h, ob A141_h, ob A118_h, ob A110_h, some b103, ob A101_h, some b94, ob A92_h, some b83, ob A81_h, some b74, ob A72_h, some b68, ob A66_h, some b62, ob A60_h, some b54, ob A52_h, some b38, some b31, some b26, ob A17_h, some b3]) A164_h c164_h (r164.ts.set (0 : Int).toNat (⟨x198.who, 3, x198.to, x198.lo, x198.hi⟩ : Tly)) := (((((((((hR201.ext nb203.gr (mv_new nb203.gr (Nat.le_of_eq nb203.b_eq.symm))).gr sb204.gr (fun k hk => hp121.ne 12 3 rfl (congrArg some hk) rfl) (hp121.mv0 sb204.gr 3 rfl)).gr sb205.gr (fun k hk => hp122.ne 12 2 rfl (congrArg some hk) rfl) (hp122.mv0 sb205.gr 2 rfl)).gr sb206.gr (fun k hk => hp123.ne 12 2 rfl (congrArg some hk) rfl) (hp123.mv0 sb206.gr 2 rfl)).gr sb207.gr (fun k hk => hp124.ne 12 1 rfl (congrArg some hk) rfl) (hp124.mv0 sb207.gr 1 rfl)).ext hx214 (mv_ext hx214)).ext hx217 (mv_ext hx217)).ext hx220 (mv_ext hx220)).ext hx223 (mv_ext hx223))
                                replace hG := bind_some hG; obtain ⟨r226, hr226, hG⟩ := hG
                                refine wl_exg rfl rfl (guard_eq rfl hc225) rfl (by decide) (fun st => x_call0 own_51 (ee st rfl) (am1 (ee st rfl)) (a51 K_ (⟨r164.rows, r164.wd, r164.lo, r164.hi, r164.ts.set (0 : Int).toNat (⟨x198.who, 3, x198.to, x198.lo, x198.hi⟩ : Tly)⟩ : Fld) A164_h c164_h ZA _ hR201_129.all r226 hr226)) ?_
                                rintro _ w227 ⟨hx226, rfl⟩
                                have hp130 : Hp w [some b203, some b179, some b178, some b177, some b176, some b175, some b174, some b173, some b172, ob A170_h, ob A168_h, ob A166_h, ob A164_h, ob A162_h, ob A160_h, ob A158_h, ob A156_h, ob A145_h, ob A141_h, ob A118_h, ob A110_h, some b103, ob A101_h, some b94, ob A92_h, some b83, ob A81_h, some b74, ob A72_h, some b68, ob A66_h, some b62, ob A60_h, some b54, ob A52_h, some b38, some b31, some b26, ob A17_h, some b3] w227 := hp129.ext hx226
                                refine wl_detg rfl rfl (guard_eq rfl hc225) rfl (by decide) (fun st => x_eql (ee st rfl) (ee st rfl)) <| wd rfl (fun st => x_pick_t (v := .bool (r226 == 1)) (ee st rfl) hc225 (ee st rfl)) <| wm rfl (v := .bool (r226 == 1)) rfl ?_
                                rcases bool_cases (r226 == 1) with hc228 | hc228
                                ·replace hG := cond_t hG hc228
                                 have bk177_130 : Bk w227 b177 36 #[I r166.rows, I r166.wd, I r166.lo, I r166.hi, .slice (some ⟨b203, 0, none⟩) 6 6] := ((((((((sb204.bk.gr sb205.gr (hp122.ne 3 2 rfl rfl rfl)).gr sb206.gr (hp123.ne 3 2 rfl rfl rfl)).gr sb207.gr (hp124.ne 3 1 rfl rfl rfl)).ext hx214).ext hx217).ext hx220).ext hx223).ext hx226)
                                 refine wl_detg rfl rfl (guard_eq rfl hc228) rfl (by decide) (fun st => x_loadn (l := [I r166.rows, I r166.wd, I r166.lo, I r166.hi, .slice (some ⟨b203, 0, none⟩) 6 6]) agg_36 (ee st rfl) bk177_130 rfl rfl) ?_
                                 have bk203_130 : Bk w227 b203 95 #[I 0, I 0, I 0, I 0, I 0, I 0, I 0, I 0, I 0, I 0, I 0, I 0, I 0, I 0, I 0, I 0, I 0, I 0, I 0, I 0, I 0, I 0, I 0, I 0, I 0, I 0, I 0, I 0, I 0, I 0] := (((((((((nb203.bk.gr sb204.gr (hp121.ne 0 3 rfl rfl rfl)).gr sb205.gr (hp122.ne 0 2 rfl rfl rfl)).gr sb206.gr (hp123.ne 0 2 rfl rfl rfl)).gr sb207.gr (hp124.ne 0 1 rfl rfl rfl)).ext hx214).ext hx217).ext hx220).ext hx223).ext hx226)
                                 replace hG := bind_some hG; obtain ⟨r229, hr229, hG⟩ := hG
                                 refine wl_exg rfl rfl (guard_eq rfl hc228) rfl (by decide) (fun st => x_call0 own_51 (ee st rfl) (am1 (ee st rfl)) (a51 K_ (⟨r166.rows, r166.wd, r166.lo, r166.hi, [(⟨0, 0, 0, 0, 0⟩ : Tly), (⟨0, 0, 0, 0, 0⟩ : Tly), (⟨0, 0, 0, 0, 0⟩ : Tly), (⟨0, 0, 0, 0, 0⟩ : Tly), (⟨0, 0, 0, 0, 0⟩ : Tly), (⟨0, 0, 0, 0, 0⟩ : Tly)]⟩ : Fld) (some ⟨b203, 0, none⟩) 6 ZA _ (sl_bk (xs := [(⟨0, 0, 0, 0, 0⟩ : Tly), (⟨0, 0, 0, 0, 0⟩ : Tly), (⟨0, 0, 0, 0, 0⟩ : Tly), (⟨0, 0, 0, 0, 0⟩ : Tly), (⟨0, 0, 0, 0, 0⟩ : Tly), (⟨0, 0, 0, 0, 0⟩ : Tly)]) (css := [[I 0, I 0, I 0, I 0, I 0], [I 0, I 0, I 0, I 0, I 0], [I 0, I 0, I 0, I 0, I 0], [I 0, I 0, I 0, I 0, I 0], [I 0, I 0, I 0, I 0, I 0], [I 0, I 0, I 0, I 0, I 0]]) bk203_130 trivial ⟨rfl, rfl, rfl, rfl, rfl, rfl, trivial⟩ rfl (Nat.le_refl _)) r229 hr229)) ?_
                                 rintro _ w230 ⟨hx229, rfl⟩
                                 have hp131 : Hp w [some b203, some b179, some b178, some b177, some b176, some b175, some b174, some b173, some b172, ob A170_h, ob A168_h, ob A166_h, ob A164_h, ob A162_h, ob A160_h, ob A158_h, ob A156_h, ob A145_h, ob A141_h, ob A118_h, ob A110_h, some b103, ob A101_h, some b94, ob A92_h, some b83, ob A81_h, some b74, ob A72_h, some b68, ob A66_h, some b62, ob A60_h, some b54, ob A52_h, some b38, some b31, some b26, ob A17_h, some b3] w230 := hp130.ext hx229
                                 refine wl_detg rfl rfl (guard_eq rfl hc228) rfl (by decide) (fun st => x_eql (ee st rfl) (ee st rfl)) <| wd rfl (fun st => x_pick_t (v := .bool (r229 == 3)) (ee st rfl) hc228 (ee st rfl)) <| wm rfl (v := .bool (r229 == 3)) rfl ?_
                                 rcases bool_cases (r229 == 3) with hc231 | hc231
                                 ·replace hG := cond_t hG hc231
                                  have bk178_131 : Bk w230 b178 36 #[I 6, I 3, I r168.lo, I r168.hi, .slice A168_h r168.ts.length c168_h] := (((((((sb206.bk.gr sb207.gr (hp124.ne 2 1 rfl rfl rfl)).ext hx214).ext hx217).ext hx220).ext hx223).ext hx226).ext hx229)
                                  refine wl_detg rfl rfl (guard_eq rfl hc231) rfl (by decide) (fun st => x_loadn (l := [I 6, I 3, I r168.lo, I r168.hi, .slice A168_h r168.ts.length c168_h]) agg_36 (ee st rfl) bk178_131 rfl rfl) ?_
                                  have hR168_131 : OwnR eTly 95 w w230 (ZZ Z w.heap.size [some b203, some b179, some b178, some b177, some b176, some b175, some b174, some b173, some b172, ob A170_h, ob A168_h, ob A166_h, ob A164_h, ob A162_h, ob A160_h, ob A158_h, ob A156_h, ob A145_h, ob A141_h, ob A118_h, ob A110_h, some b103, ob A101_h, some b94, ob A92_h, some b83, ob A81_h, some b74, ob A72_h, some b68, ob A66_h, some b62, ob A60_h, some b54, ob A52_h, some b38, some b31, some b26, ob A17_h, some b3]) A168_h c168_h r168.ts := ((((((((((((((((((((((((((((((((((hR168_h.ext hx170 (mv_hand hx170 hR170)).ext nb172.gr (mv_new nb172.gr (Nat.le_of_eq nb172.b_eq.symm))).ext nb173.gr (mv_new nb173.gr (Nat.le_of_eq nb173.b_eq.symm))).ext nb174.gr (mv_new nb174.gr (Nat.le_of_eq nb174.b_eq.symm))).ext nb175.gr (mv_new nb175.gr (Nat.le_of_eq nb175.b_eq.symm))).ext nb176.gr (mv_new nb176.gr (Nat.le_of_eq nb176.b_eq.symm))).ext nb177.gr (mv_new nb177.gr (Nat.le_of_eq nb177.b_eq.symm))).ext nb178.gr (mv_new nb178.gr (Nat.le_of_eq nb178.b_eq.symm))).ext nb179.gr (mv_new nb179.gr (Nat.le_of_eq nb179.b_eq.symm))).gr sb180.gr (fun k hk => hp106.ne 9 7 rfl (congrArg some hk) rfl) (hp106.mv0 sb180.gr 7 rfl)).gr sb181.gr (fun k hk => hp107.ne 9 6 rfl (congrArg some hk) rfl) (hp107.mv0 sb181.gr 6 rfl)).gr sb182.gr (fun k hk => hp108.ne 9 5 rfl (congrArg some hk) rfl) (hp108.mv0 sb182.gr 5 rfl)).gr sb183.gr (fun k hk => hp109.ne 9 4 rfl (congrArg some hk) rfl) (hp109.mv0 sb183.gr 4 rfl)).gr sb184.gr (fun k hk => hp110.ne 9 3 rfl (congrArg some hk) rfl) (hp110.mv0 sb184.gr 3 rfl)).gr sb185.gr (fun k hk => hp111.ne 9 2 rfl (congrArg some hk) rfl) (hp111.mv0 sb185.gr 2 rfl)).gr sb186.gr (fun k hk => hp112.ne 9 1 rfl (congrArg some hk) rfl) (hp112.mv0 sb186.gr 1 rfl)).gr sb187.gr (fun k hk => hp113.ne 9 0 rfl (congrArg some hk) rfl) (hp113.mv0 sb187.gr 0 rfl)).gr sb188.gr (fun k hk => hp114.ne 9 7 rfl (congrArg some hk) rfl) (hp114.mv0 sb188.gr 7 rfl)).gr sb189.gr (fun k hk => hp115.ne 9 6 rfl (congrArg some hk) rfl) (hp115.mv0 sb189.gr 6 rfl)).ext hx190 (mv_ext hx190)).gr sb192.gr (fun k hk => hp117.ne 9 5 rfl (congrArg some hk) rfl) (hp117.mv0 sb192.gr 5 rfl)).gr hg195 (fun k hk => hp118.ne 9 12 rfl (congrArg some hk) rfl) (hp118.mv0 hg195 12 rfl)).gr hg200 (fun k hk => hp119.ne 9 11 rfl (congrArg some hk) rfl) (hp119.mv0 hg200 11 rfl)).ext nb203.gr (mv_new nb203.gr (Nat.le_of_eq nb203.b_eq.symm))).gr sb204.gr (fun k hk => hp121.ne 10 3 rfl (congrArg some hk) rfl) (hp121.mv0 sb204.gr 3 rfl)).gr sb205.gr (fun k hk => hp122.ne 10 2 rfl (congrArg some hk) rfl) (hp122.mv0 sb205.gr 2 rfl)).gr sb206.gr (fun k hk => hp123.ne 10 2 rfl (congrArg some hk) rfl) (hp123.mv0 sb206.gr 2 rfl)).gr sb207.gr (fun k hk => hp124.ne 10 1 rfl (congrArg some hk) rfl) (hp124.mv0 sb207.gr 1 rfl)).ext hx214 (mv_ext hx214)).ext hx217 (mv_ext hx217)).ext hx220 (mv_ext hx220)).ext hx223 (mv_ext hx223)).ext hx226 (mv_ext hx226)).ext hx229 (mv_ext hx229))
                                  replace hG := bind_some hG; obtain ⟨r232, hr232, hG⟩ := hG
                                  refine wl_exg rfl rfl (guard_eq rfl hc231) rfl (by decide) (fun st => x_call0 own_51 (ee st rfl) (am1 (ee st rfl)) (a51 K_ (⟨6, 3, r168.lo, r168.hi, r168.ts⟩ : Fld) A168_h c168_h ZA _ hR168_131.all r232 hr232)) ?_
                                  rintro _ w233 ⟨hx232, rfl⟩
                                  have hp132 : Hp w [some b203, some b179, some b178, some b177, some b176, some b175, some b174, some b173, some b172, ob A170_h, ob A168_h, ob A166_h, ob A164_h, ob A162_h, ob A160_h, ob A158_h, ob A156_h, ob A145_h, ob A141_h, ob A118_h, ob A110_h, some b103, ob A101_h, some b94, ob A92_h, some b83, ob A81_h, some b74, ob A72_h, some b68, ob A66_h, some b62, ob A60_h, some b54, ob A52_h, some b38, some b31, some b26, ob A17_h, some b3] w233 := hp131.ext hx232
                                  refine wl_detg rfl rfl (guard_eq rfl hc231) rfl (by decide) (fun st => x_eql (ee st rfl) (ee st rfl)) <| wd rfl (fun st => x_pick_t (v := .bool (r232 == 3)) (ee st rfl) hc231 (ee st rfl)) <| wm rfl (v := .bool (r232 == 3)) rfl ?_
                                  rcases bool_cases (r232 == 3) with hc234 | hc234
                                  ·replace hG := cond_t hG hc234
                                   have bk179_132 : Bk w233 b179 36 #[I 0, I r170.wd, I r170.lo, I r170.hi, .slice A170_h r170.ts.length c170_h] := (((((((sb207.bk.ext hx214).ext hx217).ext hx220).ext hx223).ext hx226).ext hx229).ext hx232)
                                   refine wl_detg rfl rfl (guard_eq rfl hc234) rfl (by decide) (fun st => x_loadn (l := [I 0, I r170.wd, I r170.lo, I r170.hi, .slice A170_h r170.ts.length c170_h]) agg_36 (ee st rfl) bk179_132 rfl rfl) ?_
                                   have hR170_132 : OwnR eTly 95 w w233 (ZZ Z w.heap.size [some b203, some b179, some b178, some b177, some b176, some b175, some b174, some b173, some b172, ob A170_h, ob A168_h, ob A166_h, ob A164_h, ob A162_h, ob A160_h, ob A158_h, ob A156_h, ob A145_h, ob A141_h, ob A118_h, ob A110_h, some b103, ob A101_h, some b94, ob A92_h, some b83, ob A81_h, some b74, ob A72_h, some b68, ob A66_h, some b62, ob A60_h, some b54, ob A52_h, some b38, some b31, some b26, ob A17_h, some b3]) A170_h c170_h r170.ts := ((((((((((((((((((((((((((((((((((hR170_h.ext nb172.gr (mv_new nb172.gr (Nat.le_of_eq nb172.b_eq.symm))).ext nb173.gr (mv_new nb173.gr (Nat.le_of_eq nb173.b_eq.symm))).ext nb174.gr (mv_new nb174.gr (Nat.le_of_eq nb174.b_eq.symm))).ext nb175.gr (mv_new nb175.gr (Nat.le_of_eq nb175.b_eq.symm))).ext nb176.gr (mv_new nb176.gr (Nat.le_of_eq nb176.b_eq.symm))).ext nb177.gr (mv_new nb177.gr (Nat.le_of_eq nb177.b_eq.symm))).ext nb178.gr (mv_new nb178.gr (Nat.le_of_eq nb178.b_eq.symm))).ext nb179.gr (mv_new nb179.gr (Nat.le_of_eq nb179.b_eq.symm))).gr sb180.gr (fun k hk => hp106.ne 8 7 rfl (congrArg some hk) rfl) (hp106.mv0 sb180.gr 7 rfl)).gr sb181.gr (fun k hk => hp107.ne 8 6 rfl (congrArg some hk) rfl) (hp107.mv0 sb181.gr 6 rfl)).gr sb182.gr (fun k hk => hp108.ne 8 5 rfl (congrArg some hk) rfl) (hp108.mv0 sb182.gr 5 rfl)).gr sb183.gr (fun k hk => hp109.ne 8 4 rfl (congrArg some hk) rfl) (hp109.mv0 sb183.gr 4 rfl)).gr sb184.gr (fun k hk => hp110.ne 8 3 rfl (congrArg some hk) rfl) (hp110.mv0 sb184.gr 3 rfl)).gr sb185.gr (fun k hk => hp111.ne 8 2 rfl (congrArg some hk) rfl) (hp111.mv0 sb185.gr 2 rfl)).gr sb186.gr (fun k hk => hp112.ne 8 1 rfl (congrArg some hk) rfl) (hp112.mv0 sb186.gr 1 rfl)).gr sb187.gr (fun k hk => hp113.ne 8 0 rfl (congrArg some hk) rfl) (hp113.mv0 sb187.gr 0 rfl)).gr sb188.gr (fun k hk => hp114.ne 8 7 rfl (congrArg some hk) rfl) (hp114.mv0 sb188.gr 7 rfl)).gr sb189.gr (fun k hk => hp115.ne 8 6 rfl (congrArg some hk) rfl) (hp115.mv0 sb189.gr 6 rfl)).ext hx190 (mv_ext hx190)).gr sb192.gr (fun k hk => hp117.ne 8 5 rfl (congrArg some hk) rfl) (hp117.mv0 sb192.gr 5 rfl)).gr hg195 (fun k hk => hp118.ne 8 12 rfl (congrArg some hk) rfl) (hp118.mv0 hg195 12 rfl)).gr hg200 (fun k hk => hp119.ne 8 11 rfl (congrArg some hk) rfl) (hp119.mv0 hg200 11 rfl)).ext nb203.gr (mv_new nb203.gr (Nat.le_of_eq nb203.b_eq.symm))).gr sb204.gr (fun k hk => hp121.ne 9 3 rfl (congrArg some hk) rfl) (hp121.mv0 sb204.gr 3 rfl)).gr sb205.gr (fun k hk => hp122.ne 9 2 rfl (congrArg some hk) rfl) (hp122.mv0 sb205.gr 2 rfl)).gr sb206.gr (fun k hk => hp123.ne 9 2 rfl (congrArg some hk) rfl) (hp123.mv0 sb206.gr 2 rfl)).gr sb207.gr (fun k hk => hp124.ne 9 1 rfl (congrArg some hk) rfl) (hp124.mv0 sb207.gr 1 rfl)).ext hx214 (mv_ext hx214)).ext hx217 (mv_ext hx217)).ext hx220 (mv_ext hx220)).ext hx223 (mv_ext hx223)).ext hx226 (mv_ext hx226)).ext hx229 (mv_ext hx229)).ext hx232 (mv_ext hx232))
                                   replace hG := bind_some hG; obtain ⟨r235, hr235, hG⟩ := hG
                                   refine wl_exg rfl rfl (guard_eq rfl hc234) rfl (by decide) (fun st => x_call0 own_51 (ee st rfl) (am1 (ee st rfl)) (a51 K_ (⟨0, r170.wd, r170.lo, r170.hi, r170.ts⟩ : Fld) A170_h c170_h ZA _ hR170_132.all r235 hr235)) ?_
                                   rintro _ w236 ⟨hx235, rfl⟩
                                   have hp133 : Hp w [some b203, some b179, some b178, some b177, some b176, some b175, some b174, some b173, some b172, ob A170_h, ob A168_h, ob A166_h, ob A164_h, ob A162_h, ob A160_h, ob A158_h, ob A156_h, ob A145_h, ob A141_h, ob A118_h, ob A110_h, some b103, ob A101_h, some b94, ob A92_h, some b83, ob A81_h, some b74, ob A72_h, some b68, ob A66_h, some b62, ob A60_h, some b54, ob A52_h, some b38, some b31, some b26, ob A17_h, some b3] w236 := hp132.ext hx235
                                   refine wl_detg rfl rfl (guard_eq rfl hc234) rfl (by decide) (fun st => x_eql (ee st rfl) (ee st rfl)) <| wd rfl (fun st => x_pick_t (v := .bool (r235 == 1)) (ee st rfl) hc234 (ee st rfl)) <| wm rfl (v := .bool (r235 == 1)) rfl ?_
                                   rcases bool_cases (r235 == 1) with hc237 | hc237
                                   ·replace hG := cond_t hG hc237
                                    replace hG := ifo_bind hG; obtain ⟨hw238, hG⟩ := hG
                                    refine wl_exg rfl rfl (guard_eq rfl hc237) rfl (by decide) (fun st => x_call0 own_21 (ee st rfl) am0 (a21 K_ ZA _ hw238)) ?_
                                    rintro _ w239 ⟨hx238, rfl⟩
                                    have hp134 : Hp w [some b203, some b179, some b178, some b177, some b176, some b175, some b174, some b173, some b172, ob A170_h, ob A168_h, ob A166_h, ob A164_h, ob A162_h, ob A160_h, ob A158_h, ob A156_h, ob A145_h, ob A141_h, ob A118_h, ob A110_h, some b103, ob A101_h, some b94, ob A92_h, some b83, ob A81_h, some b74, ob A72_h, some b68, ob A66_h, some b62, ob A60_h, some b54, ob A52_h, some b38, some b31, some b26, ob A17_h, some b3] w239 := hp133.ext hx238
                                    refine wd rfl (fun st => x_pick_t (v := .bool true) (ee st rfl) hc237 (ee st rfl)) <| wa rfl (v := .bool true) rfl <| wl_end <| lv_next <| cc_ret ?_
                                    have hr_ := Option.some.inj hG
                                    refine lv_ret1 rfl rfl ?_
                                    exact ⟨hp134.fin, congrArg Value.bool hr_⟩
                                   ·replace hG := cond_f hG hc237
                                    exact absurd (Option.some.inj hG) (by decide)
                                  ·replace hG := cond_f hG hc234
                                   exact absurd (Option.some.inj hG) (by decide)
                                 ·replace hG := cond_f hG hc231
                                  exact absurd (Option.some.inj hG) (by decide)
                                ·replace hG := cond_f hG hc228
                                 exact absurd (Option.some.inj hG) (by decide)
                               ·replace hG := cond_f hG hc225
                                exact absurd (Option.some.inj hG) (by decide)
                              ·replace hG := cond_f hG hc222
                               exact absurd (Option.some.inj hG) (by decide)
                             ·replace hG := cond_f hG hc219
                              exact absurd (Option.some.inj hG) (by decide)
                            ·replace hG := cond_f hG hc216
                             exact absurd (Option.some.inj hG) (by decide)
                           ·replace hG := cond_f hG hc213
                            exact absurd (Option.some.inj hG) (by decide)
                          ·replace hG := cond_f hG hc212
                           exact absurd (Option.some.inj hG) (by decide)
                         ·replace hG := cond_f hG hc211
                          exact absurd (Option.some.inj hG) (by decide)
                        ·replace hG := cond_f hG hc210
                         exact absurd (Option.some.inj hG) (by decide)
                       ·replace hG := cond_f hG hc209
                        exact absurd (Option.some.inj hG) (by decide)
                      ·replace hG := cond_f hG hc208
                       exact absurd (Option.some.inj hG) (by decide)
end Go.Proofs.Ythogdgkafaclaaa
end
section
namespace Go.Proofs.Ythogdgkafaclaaa
open Go.RowKit Go.ChangeShapes Go.WideShapes
section
variable {H : Type} {enc : TypeId × Value → H} {P : Program} {W W' : World}
variable {α : Type} {e : Enc α} {wf : α → Prop} {t : TypeId} {b0 : Nat} {v : Value} {d : DataW H} {p : List MemPlace} {sp : Nat → Bool}
/-- The row's end: the call has laid new blocks alone. -/
theorem post_of_ext {f : Func} {s : ChangeSpec} {apart fresh handsOn again : Bool} {args : Array Value} {v : Value} {ds gs : List (DataW H)} {before pa pv : List MemPlace}
    (hW : DataW.Whole enc P f.params.toList s.vars apart W args.toList ds gs before)
    (hres : ∀ (b : Nat) (sp : Nat → Bool) (hd : Bool), DataW.TrodAll enc P W' b sp hd f.resultTypes.toList (v.resultList f.resultTypes.size) (s.fn H (ds ++ gs)).results [])
    (hargs : ∀ sp : Nat → Bool, (∀ p ∈ before, sp p.block = true) → DataW.TrodAll enc P W' 0 sp true f.params.toList args.toList (s.fn H (ds ++ gs)).args pa)
    (hvars : ∀ sp : Nat → Bool, (∀ p ∈ before, sp p.block = true) → DataW.TrodVars enc P W' sp s.vars (s.fn H (ds ++ gs)).vars pv)
    (hps : before = pa ++ pv) (hx : Ext W W')
    (hok : ∀ (j : Nat) (t : TypeId) (r : Value), f.resultTypes[j]? = some t → (v.resultList f.resultTypes.size)[j]? = some r → Value.okWide P W' .any 0 t r) :
    s.post enc P f apart fresh handsOn again W args v W' := by
  have hb := below_of_ext hx
  have hlt : ∀ p ∈ before, p.block < W.heap.size := fun p hp => hW.lt p hp
  have hold : ∀ p ∈ before, (fun b => decide (b < W.heap.size)) p.block = true := fun p hp => by simpa using hlt p hp
  refine ⟨ds, gs, before, [], pa, pv, hW, hres _ _ _, hargs _ hold, hvars _ hold, World.keptBut_mono (fun p hp => ⟨hp, ?_⟩) (hb.frame (· ∈ before)), fun _ => ?_⟩
  · rw [hps, List.mem_append] at hp
    exact Or.inr hp
  · obtain ⟨_, _, _, _, _, hz, hn⟩ := hW
    refine ⟨hok, _, _, ([] ++ pa) ++ pv, ⟨[] ++ pa, pv, trodAll_append (hargs _ (fun _ _ => rfl)) (hres _ _ _), hvars _ (fun _ _ => rfl), rfl, ?_, ?_⟩, ?_⟩
    · intro b off hp
      have hin : MemPlace.cell b off ∈ before := by rw [hps]; simpa using hp
      rw [hb.frozen (hlt _ hin)]
      exact hz b off hin
    · intro ha
      have := hn ha
      rw [hps] at this
      simpa using this
    · intro p hp _
      rw [hps]
      simpa using hp
theorem ret_calls {f : FuncId} {args : Array Value} {w : World} {R : Value → World → Prop} (h : Ret P f args w R) : Calls P f args w (fun e w' => ∃ v, e = .returned v ∧ R v w') := h
end
end Go.Proofs.Ythogdgkafaclaaa
end
section
set_option linter.unusedVariables false
set_option linter.unusedSimpArgs false
namespace Go.Proofs.Ythogdgkafaclaaa
open Go.RowKit
open Go.RowKit Go.ChangeShapes Go.WideShapes
theorem ownT : ownKnob Try.prog.godebug = none := by kernel_rfl
end Go.Proofs.Ythogdgkafaclaaa
end
section
set_option linter.unusedVariables false
set_option linter.unusedSimpArgs false
namespace Go.Proofs.Ythogdgkafaclaaa
open Go.RowKit
open Go.RowKit Go.ChangeShapes Go.WideShapes Go.ChangeAt
set_option maxRecDepth 100000 in
theorem weedNames_lifted (os : Os) (started : os.Started) (H : Type) (enc : TypeId × Value → H) :
    ReturnsInHanded {} Try.checked os 19 .any (Rows.weedNamesSpec.pre6 enc Try.prog Try.f19 Rows.weedNamesRow.domain false) (Rows.weedNamesSpec.post enc Try.prog Try.f19 false true false false) := by
  refine returnsInHanded_of_change_sized (C := Try.checked) ownT started (by kernel_rfl) Try.func19
    (ChangeSpec.witness6 (enc := enc) (C := Try.checked) false ⟨#[], #[], []⟩ 8 (by kernel_rfl) (by kernel_rfl) (by kernel_rfl) (by kernel_rfl)) ?_
  intro W base args ds gs before hval0 hW hcnd hsz _
  have hval : ∀ (j : Nat) t v, Try.f19.params[j]? = some t → args[j]? = some v → Value.okWide Try.prog W .any base t v := hval0
  have hW' := hW
  obtain ⟨p, q, hA0, hV, rfl, hfz, hnd⟩ := hW
  have hA : DataW.TrodAll enc Try.prog W 0 (fun _ => true) true Try.f19.params.toList args.toList ds p := hA0
  obtain ⟨rfl, rfl⟩ := trodVars_none hV
  simp only [List.append_nil] at hW'
  have hlt : ∀ x ∈ p, x.block < W.heap.size := fun x hx => by simpa using hW'.lt x hx
  have hAk := hA
  have hsz2 : (DataW.weightsEach Try.prog (Try.f19.params.toList ++ []) (ds ++ [])).all (· ≤ reachBytes) = true := hsz
  rw [Try.params19] at hA hval hsz2
  obtain ⟨rfl, rfl, rfl⟩ := trodAll_none hA
  obtain ⟨K, hG⟩ := weedNames_true
  refine (ret_calls (a19 K  ZA W  hG)).mono fun e W' ⟨v, he, hx, hv⟩ => ?_
  subst he
  subst hv
  exact ⟨_, rfl, post_of_ext (pa := []) (pv := []) hW' (fun _ _ _ => trodAll_mk1 (shut_bool Try.underlying4 _)) (fun _ _ => trodAll_mk0) (fun _ _ => rfl) rfl hx (ok_one (by kernel_rfl) rfl (okWide_bool_mk Try.underlying4 _))⟩
theorem weedNames_holds : Rows.WeedNamesSaid :=
  OpenClaim.holds_of_wide 19 Try.f19 rfl rfl rfl rfl rfl rfl rfl ⟨rfl, rfl, rfl, rfl, rfl⟩ rfl rfl rfl rfl rfl (by kernel_rfl) Try.func19 (by kernel_rfl)
    (of_decide_eq_true (by kernel_rfl)) (by unfold Func.isWrapper; first | (rw [if_pos (by decide +kernel)]; kernel_rfl) | (rw [if_neg (by decide +kernel)]; exact ⟨rfl, rfl⟩))
    (fun os started H enc _ => weedNames_lifted os started H enc)
end Go.Proofs.Ythogdgkafaclaaa
end
