import Derived.Test.YthogdgkafaclaaaBD5
import Derived.ProofKit
import Derived.ChangeSame
import Derived.SizedLaws
import Derived.Deep.Slices
import Derived.Test.YthogdgkafaclaaaProg
import Derived.Test.YthogdgkafaclaaaRows
/-
  Proved: the law WeedAlone returns true for every argument that the row hands over, and leaves every argument as it was; no condition beside the row's own.
-/
set_option linter.all false
section
namespace Go.Proofs.Ythogdgkafaclaaa
theorem bd {α β : Type} {x : Option α} {a : α} {f : α → Option β} (h : x = some a) : x.bind f = f a := by rw [h]; rfl
theorem i64b {β : Type} {x : Int} {f : Int → Option β} (h0 : -9223372036854775808 ≤ x) (h1 : x ≤ 9223372036854775807) : (i64 x).bind f = f x := bd (i64_eq h0 h1)
theorem ifob {β : Type} {p : Prop} [Decidable p] {f : Unit → Option β} (h : p) : (ifo p).bind f = f () := bd (if_pos h)
theorem remb {β : Type} {a b : Int} {f : Int → Option β} (h0 : 0 ≤ a) (h1 : 1 ≤ b) : (rem a b).bind f = f (a % b) := bd (if_pos ⟨h0, h1⟩)
theorem ct {α : Type} {b : Bool} {x y : α} (h : b = true) : cond b x y = x := by rw [h]; rfl
theorem cf {α : Type} {b : Bool} {x y : α} (h : b = false) : cond b x y = y := by rw [h]; rfl
theorem dt {p : Prop} [Decidable p] (h : p) : decide p = true := decide_eq_true h
/-- How often somebody stands in a part of a list. -/
def part (l : List Int) (who : Int) (fr n : Nat) : Nat := cnt who ((l.drop fr).take n)
theorem part_le (l : List Int) (who : Int) (fr n : Nat) : part l who fr n ≤ n := by
  unfold part cnt
  exact Nat.le_trans List.countP_le_length (by simp; omega)
/-- All tallies but none. -/
theorem allAt_nil (l : List Int) : ∀ (ts : List Tly) (i : Nat), allAt l [] i ts = ts.all fun t => inR (didK l [t.who, t.fr, t.to]) t.lo t.hi
  | [], _ => rfl
  | t :: ts, i => by
    rw [allAt, allAt_nil l ts (i + 1), List.all_cons]
    rfl
/-- Somebody's rows in a tally's stretch. -/
def tdid (l : List Int) (t : Tly) : Int := (part l t.who t.fr.toNat (t.to + 1 - t.fr).toNat : Nat)
theorem didK_part (l : List Int) (t : Tly) (h : 0 ≤ t.fr ∧ t.fr ≤ t.to) : didK l [t.who, t.fr, t.to] = tdid l t := by
  unfold didK tdid part
  have : (t.to + 1).toNat - t.fr.toNat = (t.to + 1 - t.fr).toNat := by omega
  simp only [this]
theorem part_pad (l : List Int) (who : Int) (fr n : Nat) (h : fr + n ≤ l.length) : part (pad l) who fr n = part l who fr n := by
  unfold part pad
  rw [List.drop_append_of_le_length (by omega), List.take_append_of_le_length (by simp; omega)]
theorem tdid_pad (f : Fld) (l : List Int) (t : Tly) (hl : (l.length : Int) = f.rows) (h : talOk f t = true) : tdid (pad l) t = tdid l t := by
  have := talOk_bd h
  unfold tdid
  rw [part_pad _ _ _ _ (by omega)]
/-- What the reference calls allowed, and a truth. -/
def alw (f : Fld) (l : List Int) : Bool := l.all (okWho f) && (decide ((l.length : Int) = f.rows) && inR ((part l (-1) 0 l.length : Nat) : Int) f.lo f.hi)
def tru (f : Fld) (l : List Int) : Bool := alw f l && f.ts.all fun t => inR (tdid l t) t.lo t.hi
theorem okWho_in (f : Fld) (n : Int) (hw : 1 ≤ f.wd) : okWho f n = inR n (-1) (f.wd - 1) := by
  rw [Bool.eq_iff_iff]
  simp only [okWho, Bool.or_eq_true, beq_iff_eq, inR_iff]
  omega
end Go.Proofs.Ythogdgkafaclaaa
end
section
namespace Go.Proofs.Ythogdgkafaclaaa
/-- The i-th list of so many numbers. -/
def nthL (b : Int) : Nat → Int → List Int
  | 0, _ => []
  | n + 1, i => (i % b - 1) :: nthL b n (i / b)
theorem nthL_surj (b : Int) (hb : 1 ≤ b) : ∀ (l : List Int), (∀ x ∈ l, -1 ≤ x ∧ x ≤ b - 2) → ∃ i : Nat, (i : Int) < b ^ l.length ∧ nthL b l.length i = l
  | [], _ => ⟨0, by simp, rfl⟩
  | x :: l, h => by
    obtain ⟨i, hi, he⟩ := nthL_surj b hb l fun y hy => h y (List.mem_cons_of_mem _ hy)
    have hx := h x (List.mem_cons_self ..)
    have h0 : 0 ≤ (x + 1) + b * (i : Int) := by
      have : 0 ≤ b * (i : Int) := Int.mul_nonneg (by omega) (by omega)
      omega
    refine ⟨((x + 1) + b * (i : Int)).toNat, ?_, ?_⟩
    · have h2 : b ^ (l.length + 1) = b * b ^ l.length := by rw [Int.pow_succ, Int.mul_comm]
      rw [Int.toNat_of_nonneg h0, List.length_cons, h2]
      have h1 : b * ((i : Int) + 1) ≤ b * b ^ l.length := Int.mul_le_mul_of_nonneg_left (by omega) (by omega)
      rw [Int.mul_add, Int.mul_one] at h1
      omega
    · rw [Int.toNat_of_nonneg h0]
      simp only [List.length_cons, nthL]
      rw [Int.add_mul_emod_self_left, Int.add_mul_ediv_left _ _ (by omega), Int.emod_eq_of_lt (by omega) (by omega), Int.ediv_eq_zero_of_lt (by omega) (by omega), Int.zero_add, he]
      congr 1
      omega
/-- The reference's truths. -/
def refs (f : Fld) : List (List Int) := ((List.range (many f).toNat).map fun i : Nat => nthL (f.wd + 1) f.rows.toNat (i : Int)).filter (tru f)
theorem many_nn {f : Fld} (hc : check f = 0) : 0 ≤ many f := by
  obtain ⟨hr, hw, _⟩ := check_ok hc
  exact (pow_bd7 (f.wd + 1) (by omega) (by omega) f.rows.toNat (by omega)).1
theorem tru_alw {f : Fld} {l : List Int} (h : tru f l = true) : (∀ x ∈ l, okWho f x = true) ∧ (l.length : Int) = f.rows ∧ inR ((part l (-1) 0 l.length : Nat) : Int) f.lo f.hi = true := by
  simp only [tru, alw, Bool.and_eq_true, decide_eq_true_eq, List.all_eq_true] at h
  exact ⟨h.1.1, h.1.2.1, h.1.2.2⟩
theorem mem_refs {f : Fld} (hc : check f = 0) {l : List Int} : l ∈ refs f ↔ tru f l = true := by
  obtain ⟨hr, hw, _⟩ := check_ok hc
  unfold refs
  rw [List.mem_filter]
  constructor
  · exact fun h => h.2
  · intro h
    refine ⟨?_, h⟩
    obtain ⟨h1, h2, _⟩ := tru_alw h
    obtain ⟨i, hi, he⟩ := nthL_surj (f.wd + 1) (by omega) l fun x hx => by
      have := h1 x hx
      rw [okWho_in f x hw.1, inR_iff] at this
      omega
    have hl : f.rows.toNat = l.length := by omega
    rw [List.mem_map]
    refine ⟨i, ?_, by rw [hl]; exact he⟩
    have h0 := many_nn hc
    have hm : many f = (f.wd + 1) ^ l.length := by unfold many; rw [hl]
    rw [List.mem_range]
    omega
theorem mem_whos {wd x : Int} (hw : 0 ≤ wd) : x ∈ whos wd ↔ -1 ≤ x ∧ x ≤ wd - 1 := by
  simp only [whos, List.mem_map, List.mem_range]
  constructor
  · rintro ⟨j, hj, rfl⟩; omega
  · intro h; exact ⟨(x + 1).toNat, by omega, by omega⟩
theorem mem_enum (p : List Int → Bool) (wd : Int) : ∀ (k : Nat) (pre a : List Int), a ∈ enum p wd k pre ↔ ∃ t : List Int, t.length = k ∧ (∀ x ∈ t, x ∈ whos wd) ∧ p (pad (pre ++ t)) = true ∧ a = pad (pre ++ t)
  | 0, pre, a => by
    unfold enum
    constructor
    · intro h
      split at h
      · rename_i hp
        exact ⟨[], rfl, by simp, by simpa using hp, by simpa using h⟩
      · cases h
    · rintro ⟨t, ht, _, hp, rfl⟩
      obtain rfl := List.length_eq_zero_iff.1 ht
      rw [List.append_nil] at hp ⊢
      rw [if_pos hp]; simp
  | k + 1, pre, a => by
    simp only [enum, List.mem_flatMap]
    constructor
    · rintro ⟨x, hx, h⟩
      obtain ⟨t, h1, h2, h3, h4⟩ := (mem_enum p wd k _ a).1 h
      rw [List.append_assoc, List.singleton_append] at h3 h4
      exact ⟨x :: t, by simp [h1], by simpa using ⟨hx, h2⟩, h3, h4⟩
    · rintro ⟨t, h1, h2, h3, h4⟩
      cases t with
      | nil => simp at h1
      | cons x t =>
        refine ⟨x, h2 x (List.mem_cons_self ..), (mem_enum p wd k _ a).2 ⟨t, by simpa using h1, fun y hy => h2 y (List.mem_cons_of_mem _ hy), ?_, ?_⟩⟩
        · rw [List.append_assoc, List.singleton_append]; exact h3
        · rw [List.append_assoc, List.singleton_append]; exact h4
theorem all_congr {α : Type} {p q : α → Bool} : ∀ {l : List α}, (∀ x ∈ l, p x = q x) → l.all p = l.all q
  | [], _ => rfl
  | a :: l, h => by rw [List.all_cons, List.all_cons, h a (List.mem_cons_self ..), all_congr fun x hx => h x (List.mem_cons_of_mem _ hx)]
theorem right_tru {f : Fld} {l : List Int} (ht : ∀ t ∈ f.ts, talOk f t = true) (hl : (l.length : Int) = f.rows) : rightB f (pad l) [] = (f.ts.all (fun t => inR (tdid l t) t.lo t.hi) && inR ((part l (-1) 0 l.length : Nat) : Int) f.lo f.hi) := by
  unfold rightB
  rw [allAt_nil]
  congr 1
  · refine all_congr fun t h => ?_
    have h1 := talOk_bd (ht t h)
    rw [didK_part _ _ ⟨h1.2.1.1, h1.2.1.2.1⟩, tdid_pad f l t hl (ht t h)]
  · have h2 : f.rows.toNat = l.length := by omega
    have h3 : (pad l).take f.rows.toNat = l.take l.length := by
      unfold pad; rw [h2, List.take_append_of_le_length (Nat.le_refl _)]
    rw [h3]
    unfold part
    rw [List.drop_zero]
theorem mem_truths {f : Fld} (hc : check f = 0) {a : List Int} : a ∈ truths f [] ↔ ∃ l, l ∈ refs f ∧ a = pad l := by
  obtain ⟨hr, hw, _, ht, _⟩ := check_ok hc
  unfold truths
  rw [mem_enum]
  constructor
  · rintro ⟨t, h1, h2, h3, h4⟩
    rw [List.nil_append] at h3 h4
    refine ⟨t, (mem_refs hc).2 ?_, h4⟩
    have hl : (t.length : Int) = f.rows := by omega
    have h3' : rightB f (pad t) [] = true := h3
    rw [right_tru ht hl, Bool.and_eq_true] at h3'
    have h5 : t.all (okWho f) = true := by
      rw [List.all_eq_true]
      intro x hx
      rw [okWho_in f x hw.1, inR_iff]
      have := (mem_whos (by omega)).1 (h2 x hx)
      omega
    unfold tru alw
    rw [h5, h3'.1, h3'.2]
    simp [hl]
  · rintro ⟨l, h, rfl⟩
    have h1 := (mem_refs hc).1 h
    obtain ⟨h2, h3, h4⟩ := tru_alw h1
    refine ⟨l, by omega, fun x hx => ?_, ?_, by simp⟩
    · rw [mem_whos (by omega)]
      have := h2 x hx
      rw [okWho_in f x hw.1, inR_iff] at this
      omega
    · rw [List.nil_append]
      show rightB f (pad l) [] = true
      rw [right_tru ht h3, h4]
      simp only [tru, Bool.and_eq_true] at h1
      rw [h1.2]; rfl
theorem truths_nil {f : Fld} (hc : check f = 0) : truths f [] = [] ↔ refs f = [] := by
  constructor
  · intro h
    rw [List.eq_nil_iff_forall_not_mem] at h ⊢
    exact fun l hl => h (pad l) ((mem_truths hc).2 ⟨l, hl, rfl⟩)
  · intro h
    rw [List.eq_nil_iff_forall_not_mem] at h ⊢
    rintro a ha
    obtain ⟨l, hl, _⟩ := (mem_truths hc).1 ha
    exact h l hl
/-- The error that comes with a question. -/
def sureE (f : Fld) : Int := if check f ≠ 0 then check f else if refs f = [] then 11 else 0
theorem askE_true (f : Fld) : askE f true = sureE f := by
  unfold askE sureE
  by_cases hc : check f = 0
  · simp only [hc, ne_eq, not_true_eq_false, if_false]
    by_cases h : refs f = []
    · rw [if_neg (by decide), if_pos h, if_pos ((truths_nil hc).2 h)]
    · rw [if_neg (by decide), if_neg h, if_neg (fun e => h ((truths_nil hc).1 e))]
  · rw [if_pos hc, if_pos hc]
theorem cntr_pad {f : Fld} {l : List Int} {who : Int} (hl : (l.length : Int) = f.rows) : cntr f (pad l) who = (part l who 0 l.length : Nat) := by
  unfold cntr part pad
  have h2 : f.rows.toNat = l.length := by omega
  rw [h2, List.take_append_of_le_length (Nat.le_refl _), List.drop_zero]
/-- A least and a greatest number, from a first one on. -/
theorem foldl_mm (g : List Int → Int) : ∀ (T : List (List Int)) (r : Int × Int),
    (T.foldl (fun r a => (min r.1 (g a), max r.2 (g a))) r).1 ≤ r.1 ∧ r.2 ≤ (T.foldl (fun r a => (min r.1 (g a), max r.2 (g a))) r).2 ∧
    (∀ a ∈ T, (T.foldl (fun r a => (min r.1 (g a), max r.2 (g a))) r).1 ≤ g a ∧ g a ≤ (T.foldl (fun r a => (min r.1 (g a), max r.2 (g a))) r).2) ∧
    ((T.foldl (fun r a => (min r.1 (g a), max r.2 (g a))) r).1 = r.1 ∨ ∃ a ∈ T, (T.foldl (fun r a => (min r.1 (g a), max r.2 (g a))) r).1 = g a) ∧
    ((T.foldl (fun r a => (min r.1 (g a), max r.2 (g a))) r).2 = r.2 ∨ ∃ a ∈ T, (T.foldl (fun r a => (min r.1 (g a), max r.2 (g a))) r).2 = g a)
  | [], r => ⟨Int.le_refl _, Int.le_refl _, by simp, .inl rfl, .inl rfl⟩
  | b :: T, r => by
    obtain ⟨h1, h2, h3, h4, h5⟩ := foldl_mm g T (min r.1 (g b), max r.2 (g b))
    rw [List.foldl_cons]
    simp only [] at h1 h2 h3 h4 h5
    refine ⟨by clear h4 h5; omega, by clear h4 h5; omega, ?_, ?_, ?_⟩
    · clear h4 h5
      intro a ha
      rcases List.mem_cons.1 ha with rfl | ha
      · exact ⟨by omega, by omega⟩
      · exact h3 a ha
    · clear h5
      rcases h4 with h4 | ⟨a, ha, h4⟩
      · by_cases h : r.1 ≤ g b
        · exact .inl (by omega)
        · exact .inr ⟨b, List.mem_cons_self .., by omega⟩
      · exact .inr ⟨a, List.mem_cons_of_mem _ ha, h4⟩
    · clear h4
      rcases h5 with h5 | ⟨a, ha, h5⟩
      · by_cases h : g b ≤ r.2
        · exact .inl (by omega)
        · exact .inr ⟨b, List.mem_cons_self .., by omega⟩
      · exact .inr ⟨a, List.mem_cons_of_mem _ ha, h5⟩
/-- The reference's bounds. -/
def didB (T : List (List Int)) (who : Int) : Int × Int := T.foldl (fun (r : Int × Int) (a : List Int) => (min r.1 (part a who 0 a.length : Nat), max r.2 (part a who 0 a.length : Nat))) (1099511627776, -1099511627776)
/-- Both say the same of the same truths. -/
theorem doneOf_didB {f : Fld} (hc : check f = 0) (hn : refs f ≠ []) (who : Int) : doneOf f (truths f []) who = didB (refs f) who := by
  obtain ⟨hr, hw, _⟩ := check_ok hc
  have hmin : ∀ (r : Int × Int) (a : List Int), rngS f who r a = (min r.1 (cntr f a who), max r.2 (cntr f a who)) := fun r a => rfl
  have hfold : doneOf f (truths f []) who = (truths f []).foldl (fun r a => (min r.1 (cntr f a who), max r.2 (cntr f a who))) (cntr f ((truths f []).headD []) who, cntr f ((truths f []).headD []) who) := rfl
  have hne : truths f [] ≠ [] := fun e => hn ((truths_nil hc).1 e)
  have hhd : (truths f []).headD [] ∈ truths f [] := by
    cases h : truths f [] with
    | nil => exact absurd h hne
    | cons a T => simp
  obtain ⟨p1, p2, p3, p4, p5⟩ := foldl_mm (fun a => cntr f a who) (truths f []) (cntr f ((truths f []).headD []) who, cntr f ((truths f []).headD []) who)
  obtain ⟨q1, q2, q3, q4, q5⟩ := foldl_mm (fun a => ((part a who 0 a.length : Nat) : Int)) (refs f) (1099511627776, -1099511627776)
  rw [← hfold] at p1 p2 p3 p4 p5
  have hd : didB (refs f) who = (refs f).foldl (fun r a => (min r.1 ((part a who 0 a.length : Nat) : Int), max r.2 ((part a who 0 a.length : Nat) : Int))) (1099511627776, -1099511627776) := rfl
  rw [← hd] at q1 q2 q3 q4 q5
  have hlen : ∀ l ∈ refs f, (l.length : Int) = f.rows := fun l hl => (tru_alw ((mem_refs hc).1 hl)).2.1
  -- each is met by the other
  have toP : ∀ l ∈ refs f, ∃ a ∈ truths f [], cntr f a who = ((part l who 0 l.length : Nat) : Int) := fun l hl => ⟨pad l, (mem_truths hc).2 ⟨l, hl, rfl⟩, cntr_pad (hlen l hl)⟩
  have toQ : ∀ a ∈ truths f [], ∃ l ∈ refs f, cntr f a who = ((part l who 0 l.length : Nat) : Int) := fun a ha => by
    obtain ⟨l, hl, rfl⟩ := (mem_truths hc).1 ha
    exact ⟨l, hl, cntr_pad (hlen l hl)⟩
  have bnd : ∀ l ∈ refs f, ((part l who 0 l.length : Nat) : Int) ≤ 7 := fun l hl => by
    have h1 := part_le l who 0 l.length
    have h2 := hlen l hl
    omega
  obtain ⟨l0, hl0⟩ : ∃ l, l ∈ refs f := by
    cases h : refs f with
    | nil => exact absurd h hn
    | cons a T => exact ⟨a, List.mem_cons_self ..⟩
  have b0 := bnd l0 hl0
  have m0 := q3 l0 hl0
  have P4 : ∃ a ∈ truths f [], (doneOf f (truths f []) who).1 = cntr f a who := by
    rcases p4 with h | h
    · exact ⟨_, hhd, h⟩
    · exact h
  have P5 : ∃ a ∈ truths f [], (doneOf f (truths f []) who).2 = cntr f a who := by
    rcases p5 with h | h
    · exact ⟨_, hhd, h⟩
    · exact h
  have Q4 : ∃ a ∈ refs f, (didB (refs f) who).1 = ((part a who 0 a.length : Nat) : Int) := by
    rcases q4 with h | h
    · simp only [] at h m0; omega
    · exact h
  have Q5 : ∃ a ∈ refs f, (didB (refs f) who).2 = ((part a who 0 a.length : Nat) : Int) := by
    rcases q5 with h | h
    · simp only [] at h m0; omega
    · exact h
  obtain ⟨a4, ha4, e4⟩ := P4
  obtain ⟨a5, ha5, e5⟩ := P5
  obtain ⟨l4, hl4, g4⟩ := Q4
  obtain ⟨l5, hl5, g5⟩ := Q5
  obtain ⟨x4, hx4, i4⟩ := toQ a4 ha4
  obtain ⟨x5, hx5, i5⟩ := toQ a5 ha5
  obtain ⟨y4, hy4, j4⟩ := toP l4 hl4
  obtain ⟨y5, hy5, j5⟩ := toP l5 hl5
  have u1 := (q3 x4 hx4).1
  have u2 := (q3 x5 hx5).2
  have u3 := (p3 y4 hy4).1
  have u4 := (p3 y5 hy5).2
  refine Prod.ext ?_ ?_ <;> omega
end Go.Proofs.Ythogdgkafaclaaa
end
section
namespace Go.Proofs.Ythogdgkafaclaaa
theorem sorted_ext : ∀ {l m : List Int}, l.Pairwise (· < ·) → m.Pairwise (· < ·) → (∀ x, x ∈ l ↔ x ∈ m) → l = m
  | [], [], _, _, _ => rfl
  | [], b :: m, _, _, h => by have := (h b).2 (List.mem_cons_self ..); cases this
  | a :: l, [], _, _, h => by have := (h a).1 (List.mem_cons_self ..); cases this
  | a :: l, b :: m, h1, h2, h => by
    rw [List.pairwise_cons] at h1 h2
    have hab : a = b := by
      rcases List.mem_cons.1 ((h a).1 (List.mem_cons_self ..)) with e | e
      · exact e
      · rcases List.mem_cons.1 ((h b).2 (List.mem_cons_self ..)) with e2 | e2
        · exact e2.symm
        · have := h1.1 b e2; have := h2.1 a e; omega
    subst hab
    congr 1
    refine sorted_ext h1.2 h2.2 fun x => ⟨fun hx => ?_, fun hx => ?_⟩
    · rcases List.mem_cons.1 ((h x).1 (List.mem_cons_of_mem _ hx)) with e | e
      · have := h1.1 x hx; omega
      · exact e
    · rcases List.mem_cons.1 ((h x).2 (List.mem_cons_of_mem _ hx)) with e | e
      · have := h2.1 x hx; omega
      · exact e
theorem getI {zs : List Int} {m : Nat} (h : m < zs.length) : zs.toArray[m]! = zs[m] := by
  rw [getElem!_pos zs.toArray m (by simpa using h)]; simp
theorem compact_inv {zs : List Int} (hs : zs.Pairwise (· ≤ ·)) : ∀ m, m ≤ zs.length → (Lib.compactUpTo zs.toArray m).Pairwise (· < ·) ∧ ∀ x, x ∈ Lib.compactUpTo zs.toArray m ↔ x ∈ zs.take m
  | 0, _ => by simp [Lib.compactUpTo]
  | m + 1, h => by
    obtain ⟨h1, h2⟩ := compact_inv hs m (by omega)
    have hm : m < zs.length := by omega
    rw [Lib.compactUpTo_succ, List.take_succ_eq_append_getElem hm, getI hm]
    have hle : ∀ x ∈ zs.take m, x ≤ zs[m] := fun x hx => by
      obtain ⟨i, hi, rfl⟩ := List.mem_iff_getElem.1 hx
      rw [List.getElem_take]
      simp at hi
      exact (List.pairwise_iff_getElem.1 hs) i m _ hm (by omega)
    by_cases hk : Lib.keeps zs.toArray m = true
    · rw [if_pos hk]
      refine ⟨?_, fun x => by rw [List.mem_append, List.mem_append, h2]⟩
      rw [List.pairwise_append]
      refine ⟨h1, by simp, fun x hx y hy => ?_⟩
      obtain rfl : y = zs[m] := by simpa using hy
      have hx2 := (h2 x).1 hx
      have hx3 := hle x hx2
      simp only [Lib.keeps, decide_eq_true_eq] at hk
      rcases hk with rfl | hk
      · simp at hx2
      · have hm1 : 0 < m := by
          rcases Nat.eq_zero_or_pos m with rfl | h0
          · simp at hx2
          · exact h0
        rw [getI hm, getI (by omega : m - 1 < zs.length)] at hk
        obtain ⟨i, hi, rfl⟩ := List.mem_iff_getElem.1 hx2
        rw [List.getElem_take] at hx3 ⊢
        simp at hi
        have h5 : zs[m - 1] ≤ zs[m] := (List.pairwise_iff_getElem.1 hs) (m - 1) m _ hm (by omega)
        have h4 : zs[i] ≤ zs[m - 1] := by
          by_cases e : i = m - 1
          · subst e; exact Int.le_refl _
          · exact (List.pairwise_iff_getElem.1 hs) i (m - 1) _ _ (by omega)
        have h6 : zs[m] ≠ zs[m - 1] := hk
        show zs[i] < zs[m]
        omega
    · rw [if_neg hk, List.append_nil]
      refine ⟨h1, fun x => ?_⟩
      rw [h2]
      have hk2 : ¬ (m = 0 ∨ zs.toArray[m]! ≠ zs.toArray[m - 1]!) := by simpa [Lib.keeps] using hk
      have hm1 : 0 < m := by
        rcases Nat.eq_zero_or_pos m with rfl | h0
        · exact absurd (.inl rfl) hk2
        · exact h0
      have he : zs.toArray[m]! = zs.toArray[m - 1]! := Decidable.byContradiction fun e => hk2 (.inr e)
      rw [getI hm, getI (by omega : m - 1 < zs.length)] at he
      have hin : zs[m] ∈ zs.take m := by
        rw [he, List.mem_iff_getElem]
        exact ⟨m - 1, by simp; omega, by simp⟩
      simp only [List.mem_append, List.mem_singleton]
      exact ⟨.inl, fun h => h.elim id fun e => e ▸ hin⟩
theorem whos_sorted (wd : Int) : (whos wd).Pairwise (· < ·) := by
  unfold whos
  rw [List.pairwise_map]
  exact List.pairwise_lt_range.imp fun h => by omega
/-- Who stands in a row of some lists. -/
def whoS (wd : Int) (T : List (List Int)) (row : Nat) : List Int := (whos wd).filter fun x => T.any fun a => a.getD row 0 == x
theorem whoF_eq {wd : Int} {T : List (List Int)} {row : Int} (hw : 0 ≤ wd) (hb : ∀ a ∈ T, -1 ≤ a.getD row.toNat 0 ∧ a.getD row.toNat 0 ≤ wd - 1) : whoF T row = whoS wd T row.toNat := by
  unfold whoF
  have hs : ((T.map fun a : List Int => a.getD row.toNat 0).mergeSort fun x y => decide (x ≤ y)).Pairwise (· ≤ ·) := by
    have := List.pairwise_mergeSort (le := fun x y : Int => decide (x ≤ y)) (fun a b c h1 h2 => by simp at *; omega) (fun a b => by simp; omega) (T.map fun a : List Int => a.getD row.toNat 0)
    exact this.imp fun h => by simpa using h
  obtain ⟨h1, h2⟩ := compact_inv hs _ (Nat.le_refl _)
  refine sorted_ext h1 ((whos_sorted wd).filter _) fun x => ?_
  rw [show Lib.compact ((T.map fun a : List Int => a.getD row.toNat 0).mergeSort fun x y => decide (x ≤ y)) = Lib.compactUpTo ((T.map fun a : List Int => a.getD row.toNat 0).mergeSort fun x y => decide (x ≤ y)).toArray ((T.map fun a : List Int => a.getD row.toNat 0).mergeSort fun x y => decide (x ≤ y)).length from rfl, h2, List.take_length, List.mem_mergeSort]
  unfold whoS
  simp only [List.mem_map, List.mem_filter, mem_whos hw, List.any_eq_true, beq_iff_eq]
  constructor
  · rintro ⟨a, ha, rfl⟩; exact ⟨hb a ha, a, ha, rfl⟩
  · rintro ⟨_, a, ha, e⟩; exact ⟨a, ha, e⟩
def f4 : Fld := ⟨4, 2, 0, 0, [⟨0, 0, 2, 2, 3⟩, ⟨1, 2, 3, 1, 2⟩]⟩
def f5 : Fld := ⟨4, 2, 0, 0, [⟨0, 0, 2, 2, 3⟩, ⟨1, 2, 3, 1, 2⟩, ⟨0, 0, 1, 2, 2⟩]⟩
def f6 : Fld := ⟨4, 2, 0, 0, [⟨0, 0, 2, 2, 3⟩, ⟨1, 2, 3, 1, 2⟩, ⟨1, 0, 1, 2, 2⟩]⟩
theorem who4 : whoF (truths f4 []) 3 = [0, 1] := by
  rw [whoF_eq (wd := 2) (by omega) (by decide +kernel)]
  decide +kernel
theorem awake_1000 : G_awake 1000 = some true := by
  unfold G_awake
  rw [bd (show G_four 1000 [] = some f4 from rfl), bd (show Q_Done 1000 f4 = some ([(2, 3), (1, 2)], 0) by decide +kernel), bd (show G_four 1000 [] = some f4 from rfl)]
  rw [bd (show Q_Who 1000 f4 3 = some ([0, 1], 0) by unfold Q_Who; rw [who4]; decide +kernel)]
  rw [bd (show G_two 1000 = some ⟨0, 0, 1, 2, 2⟩ from rfl), bd (show G_four 1000 [⟨0, 0, 1, 2, 2⟩] = some f5 from rfl), bd (show Q_Ask 1000 f5 0 = some ([2, 3], 0) by decide +kernel), bd (show G_four 1000 [] = some f4 from rfl)]
  rw [bd (show Q_Next 1000 f4 0 = some (0, 3, 0) by decide +kernel), bd (show G_wrong 1000 = some ⟨1, 0, 1, 2, 2⟩ from rfl), bd (show G_four 1000 [⟨1, 0, 1, 2, 2⟩] = some f6 from rfl), bd (show Q_First 1000 f6 = some (2, 0) by decide +kernel)]
  rw [bd (show G_wrong 1000 = some ⟨1, 0, 1, 2, 2⟩ from rfl), bd (show G_four 1000 [⟨1, 0, 1, 2, 2⟩] = some f6 from rfl), bd (show Q_Leave 1000 f6 = some ([0], 0) by decide +kernel)]
  decide +kernel
end Go.Proofs.Ythogdgkafaclaaa
end
section
namespace Go.Proofs.Ythogdgkafaclaaa
/-- The places of the bits that are set. -/
def bitsL (s : Nat) : List Int := ((List.range 8).filter fun x => s / 2 ^ x % 2 == 1).map fun x : Nat => (x : Int)
def lexB : List Int → List Int → Bool
  | a :: as1, b :: bs1 => if a = b then lexB as1 bs1 else decide (a < b)
  | [], _ :: _ => true
  | _, [] => false
/-- Shorter, or as1 long and before it. -/
def sh (a b : List Int) : Bool := decide (a.length < b.length) || (a.length == b.length && lexB a b)
theorem lexB_irr : ∀ a : List Int, lexB a a = false
  | [] => rfl
  | a :: as1 => by rw [lexB, if_pos rfl, lexB_irr as1]
theorem lexB_trans : ∀ a b c : List Int, lexB a b = true → lexB b c = true → lexB a c = true
  | [], b, [], h1, h2 => by cases b <;> cases h1; cases h2
  | [], b, c :: cs1, h1, h2 => rfl
  | a :: as1, [], c, h1, h2 => by cases h1
  | a :: as1, b :: bs1, [], h1, h2 => by cases h2
  | a :: as1, b :: bs1, c :: cs1, h1, h2 => by
    rw [lexB] at h1 h2 ⊢
    by_cases e : a = b
    · subst e
      rw [if_pos rfl] at h1
      by_cases e2 : a = c
      · subst e2
        rw [if_pos rfl] at h2 ⊢
        exact lexB_trans as1 bs1 cs1 h1 h2
      · rw [if_neg e2] at h2 ⊢; exact h2
    · rw [if_neg e, decide_eq_true_eq] at h1
      by_cases e2 : b = c
      · subst e2
        rw [if_neg e, decide_eq_true_eq]; exact h1
      · rw [if_neg e2, decide_eq_true_eq] at h2
        rw [if_neg (by omega), decide_eq_true_eq]; omega
theorem sh_iff {a b : List Int} : sh a b = true ↔ a.length < b.length ∨ (a.length = b.length ∧ lexB a b = true) := by simp [sh]
theorem sh_irr (a : List Int) : sh a a = false := by
  rw [Bool.eq_false_iff]; intro h
  rcases sh_iff.1 h with h | h
  · omega
  · rw [lexB_irr] at h; cases h.2
theorem sh_trans {a b c : List Int} (h : sh a b = true) (g : sh b c = true) : sh a c = true := by
  rw [sh_iff] at h g ⊢
  rcases h with h | h <;> rcases g with g | g
  · exact .inl (by omega)
  · exact .inl (by omega)
  · exact .inl (by omega)
  · exact .inr ⟨by omega, lexB_trans _ _ _ h.2 g.2⟩
theorem cand_in : ∀ n : Nat, n < 8 → ∀ s : Nat, s < 2 ^ n → bitsL s ∈ candAll (n : Int) (n + 1) := by decide +kernel
theorem cand_of : ∀ n : Nat, n < 8 → ∀ l ∈ candAll (n : Int) (n + 1), ∃ s : Nat, s < 2 ^ n ∧ bitsL s = l := by decide +kernel
theorem cand_sorted : ∀ n : Nat, n < 8 → (candAll (n : Int) (n + 1)).Pairwise fun a b => sh a b = true := by decide +kernel
theorem fnd_spec {p : List Int → Bool} : ∀ {L : List (List Int)} (cur : List Int), L.any p = true → ∃ A x B, L = A ++ x :: B ∧ p x = true ∧ (∀ a ∈ A, p a = false) ∧ fnd p cur L = x
  | [], cur, h => by cases h
  | c :: L, cur, h => by
    by_cases hc : p c = true
    · exact ⟨[], c, L, rfl, hc, by simp, by rw [fnd, if_pos hc]⟩
    · have hc' : p c = false := by simpa using hc
      rw [List.any_cons, hc', Bool.false_or] at h
      obtain ⟨A, x, B, h1, h2, h3, h4⟩ := fnd_spec c h
      refine ⟨c :: A, x, B, by rw [h1]; rfl, h2, ?_, by rw [fnd, if_neg hc]; exact h4⟩
      intro a ha
      rcases List.mem_cons.1 ha with rfl | ha
      · exact hc'
      · exact h3 a ha
/-- In turn, the reference takes a shorter list that passes. -/
def pickF (p : List Int → Bool) (cur : List Int) (s : Nat) : List Int := if (sh (bitsL s) cur && p (bitsL s)) = true then bitsL s else cur
theorem pick_inv {n : Nat} (hn : n < 8) {p : List Int → Bool} {c0 : List Int} (h0 : c0 ∈ candAll (n : Int) (n + 1)) (hp : p c0 = true) : ∀ k, k ≤ 2 ^ n →
    (List.range k).foldl (pickF p) c0 ∈ candAll (n : Int) (n + 1) ∧ p ((List.range k).foldl (pickF p) c0) = true ∧ ∀ s, s < k → p (bitsL s) = true → sh (bitsL s) ((List.range k).foldl (pickF p) c0) = false
  | 0, _ => ⟨h0, hp, fun s hs => by omega⟩
  | k + 1, hk => by
    obtain ⟨h1, h2, h3⟩ := pick_inv hn h0 hp k (by omega)
    rw [range_fold]
    generalize (List.range k).foldl (pickF p) c0 = cur at h1 h2 h3
    unfold pickF
    by_cases hc : (sh (bitsL k) cur && p (bitsL k)) = true
    · rw [if_pos hc]
      rw [Bool.and_eq_true] at hc
      refine ⟨cand_in n hn k (by omega), hc.2, fun s hs hps => ?_⟩
      rcases Nat.lt_or_ge s k with h | h
      · rw [Bool.eq_false_iff]
        intro hh
        have := h3 s h hps
        rw [sh_trans hh hc.1] at this
        cases this
      · obtain rfl : s = k := by omega
        exact sh_irr _
    · rw [if_neg hc]
      refine ⟨h1, h2, fun s hs hps => ?_⟩
      rcases Nat.lt_or_ge s k with h | h
      · exact h3 s h hps
      · obtain rfl : s = k := by omega
        rw [hps, Bool.and_true] at hc
        simpa using hc
theorem pick_fnd {n : Nat} (hn : n < 8) {p : List Int → Bool} {c0 : List Int} (h0 : c0 ∈ candAll (n : Int) (n + 1)) (hp : p c0 = true) (cur : List Int) : (List.range (2 ^ n)).foldl (pickF p) c0 = fnd p cur (candAll (n : Int) (n + 1)) := by
  obtain ⟨h1, h2, h3⟩ := pick_inv hn h0 hp (2 ^ n) (Nat.le_refl _)
  obtain ⟨A, x, B, g1, g2, g3, g4⟩ := fnd_spec (p := p) cur (List.any_eq_true.2 ⟨c0, h0, hp⟩)
  rw [g4]
  generalize (List.range (2 ^ n)).foldl (pickF p) c0 = c at h1 h2 h3
  have hs := cand_sorted n hn
  have hx : x ∈ candAll (n : Int) (n + 1) := by rw [g1]; simp
  obtain ⟨s, hs1, rfl⟩ := cand_of n hn x hx
  have h4 := h3 s hs1 g2
  rw [g1] at h1 hs
  rw [List.pairwise_append] at hs
  rcases List.mem_append.1 h1 with h | h
  · rw [g3 c h] at h2; cases h2
  · rcases List.mem_cons.1 h with h | h
    · exact h
    · have := (List.pairwise_cons.1 hs.2.1).1 c h
      rw [this] at h4; cases h4
theorem shortest_pick {n : Nat} (hn : n < 8) {p : List Int → Bool} {c0 : List Int} (h0 : c0 ∈ candAll (n : Int) (n + 1)) (hp : p c0 = true) : shortestL (n : Int) p = (List.range (2 ^ n)).foldl (pickF p) c0 := by
  unfold shortestL
  rw [show ((n : Int) + 1).toNat = n + 1 by omega, pick_fnd hn h0 hp]
end Go.Proofs.Ythogdgkafaclaaa
end
section
namespace Go.Proofs.Ythogdgkafaclaaa
/-- Two lists say the same of the rows that are asked about. -/
def alike (s : Nat) (fr n : Nat) (a b : List Int) : Bool := (List.range' fr n).all fun x => s / 2 ^ x % 2 == 0 || a.getD x 0 == b.getD x 0
theorem gd {T : List (List Int)} {i : Nat} (h : i < T.length) : T[i] = T.getD i [] := by simp [List.getElem?_eq_getElem h]
theorem gd0 {l : List Int} {i : Nat} (h : i < l.length) : l[i] = l.getD i 0 := by simp [List.getElem?_eq_getElem h]
/-- Two lists differ in somebody's number, and say the same. -/
def clash (T : List (List Int)) (who : Int) (s k i j : Nat) : Bool := ((part (T.getD i []) who 0 k : Nat) : Int) != ((part (T.getD j []) who 0 k : Nat) : Int) && alike s 0 k (T.getD i []) (T.getD j [])
/-- The reference's word whether some rows settle somebody's number. -/
def setR (T : List (List Int)) (who : Int) (k s : Nat) : Bool := !((List.range T.length).any fun i => (List.range i).any (clash T who s k i))
theorem alike_iff {s k : Nat} {a b : List Int} : alike s 0 k a b = true ↔ ∀ x, x < k → s / 2 ^ x % 2 = 0 ∨ a.getD x 0 = b.getD x 0 := by
  unfold alike
  rw [← List.range_eq_range']
  simp [List.all_eq_true]
theorem alike_comm (s k : Nat) (a b : List Int) : alike s 0 k a b = alike s 0 k b a := by
  rw [Bool.eq_iff_iff, alike_iff, alike_iff]
  exact ⟨fun h x hx => (h x hx).imp id Eq.symm, fun h x hx => (h x hx).imp id Eq.symm⟩
theorem setR_iff {T : List (List Int)} {who : Int} {k s : Nat} : setR T who k s = true ↔ ∀ a ∈ T, ∀ b ∈ T, alike s 0 k a b = true → part a who 0 k = part b who 0 k := by
  unfold setR
  rw [Bool.not_eq_true', Bool.eq_false_iff]
  constructor
  · intro h a ha b hb hab
    refine Decidable.byContradiction fun hne => h ?_
    obtain ⟨i, hi, rfl⟩ := List.mem_iff_getElem.1 ha
    obtain ⟨j, hj, rfl⟩ := List.mem_iff_getElem.1 hb
    have hij : i ≠ j := by rintro rfl; exact hne rfl
    rw [List.any_eq_true]
    rcases Nat.lt_or_gt_of_ne hij with hlt | hlt
    · refine ⟨j, by simpa using hj, List.any_eq_true.2 ⟨i, by simpa using hlt, ?_⟩⟩
      unfold clash
      rw [← gd hi, ← gd hj, alike_comm, hab, Bool.and_true]
      simp only [bne_iff_ne, ne_eq]
      omega
    · refine ⟨i, by simpa using hi, List.any_eq_true.2 ⟨j, by simpa using hlt, ?_⟩⟩
      unfold clash
      rw [← gd hi, ← gd hj, hab, Bool.and_true]
      simp only [bne_iff_ne, ne_eq]
      omega
  · intro h hc
    rw [List.any_eq_true] at hc
    obtain ⟨i, hi, hc⟩ := hc
    rw [List.any_eq_true] at hc
    obtain ⟨j, hj, hc⟩ := hc
    have hi : i < T.length := by simpa using hi
    have hj : j < i := by simpa using hj
    unfold clash at hc
    rw [← gd hi, ← gd (by omega : j < T.length), Bool.and_eq_true] at hc
    have := h _ (List.getElem_mem hi) _ (List.getElem_mem (by omega : j < T.length)) hc.2
    simp [this] at hc
theorem foldl_set_get (a : List Int) (i : Nat) (hi : i < 7) : ∀ (l z : List Int), z.length = 7 → (l.foldl (fun key r => key.set r.toNat (a.getD r.toNat 0)) z).getD i 0 = if l.any (fun r => r.toNat == i) = true then a.getD i 0 else z.getD i 0
  | [], z, _ => rfl
  | r :: l, z, hz => by
    rw [List.foldl_cons, foldl_set_get a i hi l _ (by simpa using hz), List.any_cons]
    by_cases h : l.any (fun r => r.toNat == i) = true
    · rw [if_pos h, if_pos (by simp [h])]
    · rw [if_neg h]
      by_cases hr : r.toNat = i
      · rw [if_pos (by simp [hr]), hr, getD_set_eq (by omega)]
      · rw [if_neg (by simp [hr]; simpa using h), getD_set_ne2 (Ne.symm hr)]
theorem keyOf_get (rows a : List Int) {i : Nat} (hi : i < 7) : (keyOf rows a).getD i 0 = if rows.any (fun r => r.toNat == i) = true then a.getD i 0 else 0 := by
  unfold keyOf
  rw [foldl_set_get a i hi rows _ (by simp)]
  congr 1
  have : ∀ i, i < 7 → (List.replicate 7 (0 : Int)).getD i 0 = 0 := by decide
  exact this i hi
theorem keyOf_eq {rows a b : List Int} (h : ∀ r ∈ rows, 0 ≤ r ∧ r ≤ 6) : keyOf rows a = keyOf rows b ↔ ∀ r ∈ rows, a.getD r.toNat 0 = b.getD r.toNat 0 := by
  constructor
  · intro e r hr
    have hr7 := h r hr
    have h1 := keyOf_get rows a (i := r.toNat) (by omega)
    have h2 := keyOf_get rows b (i := r.toNat) (by omega)
    have ha : rows.any (fun x => x.toNat == r.toNat) = true := List.any_eq_true.2 ⟨r, hr, by simp⟩
    rw [if_pos ha] at h1 h2
    rw [← h1, ← h2, e]
  · intro e
    refine List.ext_getElem (by rw [keyOf_len, keyOf_len]) fun i h1 h2 => ?_
    have hi : i < 7 := by rw [keyOf_len] at h1; exact h1
    rw [gd0 h1, gd0 h2, keyOf_get rows a hi, keyOf_get rows b hi]
    by_cases hc : rows.any (fun r => r.toNat == i) = true
    · rw [if_pos hc, if_pos hc]
      obtain ⟨r, hr, hri⟩ := List.any_eq_true.1 hc
      have := e r hr
      have hri : r.toNat = i := by simpa using hri
      rw [hri] at this
      exact this
    · rw [if_neg hc, if_neg hc]
theorem mem_bits {s : Nat} {r : Int} : r ∈ bitsL s ↔ ∃ x : Nat, x < 8 ∧ s / 2 ^ x % 2 = 1 ∧ r = x := by
  unfold bitsL
  simp only [List.mem_map, List.mem_filter, List.mem_range, beq_iff_eq]
  constructor
  · rintro ⟨x, ⟨h1, h2⟩, rfl⟩; exact ⟨x, h1, h2, rfl⟩
  · rintro ⟨x, h1, h2, rfl⟩; exact ⟨x, ⟨h1, h2⟩, rfl⟩
theorem bit_lt {s x k : Nat} (hs : s < 2 ^ k) (h : s / 2 ^ x % 2 = 1) : x < k := by
  refine Decidable.byContradiction fun hx => ?_
  have : s < 2 ^ x := Nat.lt_of_lt_of_le hs (Nat.pow_le_pow_right (by omega) (by omega))
  rw [Nat.div_eq_of_lt this] at h
  cases h
/-- Both say the same. -/
theorem settles_refs {f : Fld} (hc : check f = 0) (who : Int) {s : Nat} (hs : s < 2 ^ f.rows.toNat) : settlesB f (truths f []) who (bitsL s) = setR (refs f) who f.rows.toNat s := by
  obtain ⟨hr2, hw, _⟩ := check_ok hc
  have hlen : ∀ l ∈ refs f, (l.length : Int) = f.rows := fun l hl => (tru_alw ((mem_refs hc).1 hl)).2.1
  have hb : ∀ r ∈ bitsL s, 0 ≤ r ∧ r ≤ 6 := fun r hr => by
    obtain ⟨x, _, h2, rfl⟩ := mem_bits.1 hr
    have := bit_lt hs h2
    omega
  have hal : ∀ a ∈ refs f, ∀ b ∈ refs f, (keyOf (bitsL s) (pad a) = keyOf (bitsL s) (pad b) ↔ alike s 0 f.rows.toNat a b = true) := fun a ha b hb2 => by
    have h1 := hlen a ha
    have h2 := hlen b hb2
    rw [keyOf_eq hb, alike_iff]
    constructor
    · intro h x hx
      rcases Nat.mod_two_eq_zero_or_one (s / 2 ^ x) with h0 | h0
      · exact .inl h0
      · have := h (x : Int) (mem_bits.2 ⟨x, by omega, h0, rfl⟩)
        rw [show (x : Int).toNat = x by omega] at this
        unfold pad at this
        rw [getD_app (by omega), getD_app (by omega)] at this
        exact .inr this
    · intro h r hr
      obtain ⟨x, _, h0, rfl⟩ := mem_bits.1 hr
      have hx := bit_lt hs h0
      rw [show (x : Int).toNat = x by omega]
      unfold pad
      rw [getD_app (by omega), getD_app (by omega)]
      rcases h x hx with h | h
      · omega
      · exact h
  have hpt : ∀ a ∈ refs f, cntr f (pad a) who = ((part a who 0 f.rows.toNat : Nat) : Int) := fun a ha => by
    have h1 := hlen a ha
    rw [cntr_pad h1, show a.length = f.rows.toNat by omega]
  rw [Bool.eq_iff_iff, settles_iff, setR_iff]
  constructor
  · intro h a ha b hb2 hab
    have := h (pad a) ((mem_truths hc).2 ⟨a, ha, rfl⟩) (pad b) ((mem_truths hc).2 ⟨b, hb2, rfl⟩) ((hal a ha b hb2).2 hab)
    rw [hpt a ha, hpt b hb2] at this
    omega
  · intro h a ha b hb2 hab
    obtain ⟨x, hx, rfl⟩ := (mem_truths hc).1 ha
    obtain ⟨y, hy, rfl⟩ := (mem_truths hc).1 hb2
    rw [hpt x hx, hpt y hy]
    have := h x hx y hy ((hal x hx y hy).1 hab)
    omega
end Go.Proofs.Ythogdgkafaclaaa
end
section
namespace Go.Proofs.Ythogdgkafaclaaa
theorem full_all : ∀ r : Nat, r < 8 → ∀ x : Nat, x < r → (2 ^ r - 1) / 2 ^ x % 2 = 1 := by decide +kernel
theorem settles_full {f : Fld} (hc : check f = 0) (who : Int) : setR (refs f) who f.rows.toNat (2 ^ f.rows.toNat - 1) = true := by
  obtain ⟨hr2, hw, _⟩ := check_ok hc
  rw [setR_iff]
  intro a ha b hb hab
  have h1 := (tru_alw ((mem_refs hc).1 ha)).2.1
  have h2 := (tru_alw ((mem_refs hc).1 hb)).2.1
  rw [alike_iff] at hab
  have : a = b := by
    refine List.ext_getElem (by omega) fun i g1 g2 => ?_
    rw [gd0 g1, gd0 g2]
    rcases hab i (by omega) with h | h
    · rw [full_all f.rows.toNat (by omega) i (by omega)] at h; cases h
    · exact h
  rw [this]
end Go.Proofs.Ythogdgkafaclaaa
end
section
namespace Go.Proofs.Ythogdgkafaclaaa
/-- A tally is right in a list. -/
def rt (l : List Int) (t : Tly) : Bool := inR (tdid l t) t.lo t.hi
theorem shortest_spec {n : Nat} (hn : n < 8) {p : List Int → Bool} {s0 : Nat} (h0 : s0 < 2 ^ n) (hp : p (bitsL s0) = true) :
    ∃ s, s < 2 ^ n ∧ shortestL (n : Int) p = bitsL s ∧ p (bitsL s) = true ∧ ∀ s', s' < 2 ^ n → p (bitsL s') = true → sh (bitsL s') (bitsL s) = false := by
  rw [shortest_pick hn (cand_in n hn s0 h0) hp]
  obtain ⟨h1, h2, h3⟩ := pick_inv hn (cand_in n hn s0 h0) hp (2 ^ n) (Nat.le_refl _)
  obtain ⟨s, hs, he⟩ := cand_of n hn _ h1
  refine ⟨s, hs, he.symm, ?_, fun s' hs' hp' => ?_⟩
  · rw [he]; exact h2
  · rw [he]; exact h3 s' hs' hp'
theorem sh_len {a b : List Int} (h : sh a b = false) : b.length ≤ a.length := by
  rw [Bool.eq_false_iff] at h
  refine Decidable.byContradiction fun hh => h (sh_iff.2 (.inl (by omega)))
end Go.Proofs.Ythogdgkafaclaaa
end
section
namespace Go.Proofs.Ythogdgkafaclaaa
/-- By so many questions c can be known of what is in S; g says what is answered. -/
def Qn (c : List Int → Int) (g : List Int → Nat → Int) (R : Nat) : Nat → (List Int → Prop) → Prop
  | 0, S => ∀ a b, S a → S b → c a = c b
  | m + 1, S => (∀ a b, S a → S b → c a = c b) ∨ ∃ r, r < R ∧ ∀ v, Qn c g R m (fun a => S a ∧ g a r = v)
section
variable {c : List Int → Int} {g : List Int → Nat → Int} {R : Nat} {S S' : List Int → Prop}
theorem Qn_all (hc : ∀ a b, S a → S b → (∀ r, r < R → g a r = g b r) → c a = c b) : Qn c g R R S := by
  have key : ∀ (k : Nat), k ≤ R → ∀ (S : List Int → Prop), (∀ a b, S a → S b → (∀ r, r < R → g a r = g b r) → c a = c b) → (∀ a b, S a → S b → ∀ r, k ≤ r → r < R → g a r = g b r) → Qn c g R k S := by
    intro k
    induction k with
    | zero => exact fun _ S h1 h2 a b ha hb => h1 a b ha hb fun r hr => h2 a b ha hb r (Nat.zero_le _) hr
    | succ k ih =>
      intro hk S h1 h2
      refine .inr ⟨k, by omega, fun v => ih (by omega) _ (fun a b ha hb => h1 a b ha.1 hb.1) fun a b ha hb r hr1 hr2 => ?_⟩
      rcases Nat.lt_or_ge k r with h | h
      · exact h2 a b ha.1 hb.1 r h hr2
      · obtain rfl : r = k := by omega
        rw [ha.2, hb.2]
  exact key R (Nat.le_refl _) S hc fun a b _ _ r h1 h2 => by omega
end
end Go.Proofs.Ythogdgkafaclaaa
end
section
namespace Go.Proofs.Ythogdgkafaclaaa
/-- All lists, by their numbers. -/
def lists (f : Fld) : List (List Int) := (List.range (many f).toNat).map fun i : Nat => nthL (f.wd + 1) f.rows.toNat (i : Int)
end Go.Proofs.Ythogdgkafaclaaa
end
section
namespace Go.Proofs.Ythogdgkafaclaaa
/-- The reference's lists: their numbers, and what they say. -/
abbrev cR (who : Int) : List Int → Int := fun a => ((part a who 0 a.length : Nat) : Int)
abbrev gR : List Int → Nat → Int := fun a r => a.getD r 0
section
variable {f : Fld} {T : List (List Int)} {who : Int}
/-- What the lists at hand are. -/
def OkT (f : Fld) (T : List (List Int)) : Prop := T.length ≤ 250 ∧ ∀ a ∈ T, (a.length : Int) = f.rows ∧ ∀ r, r < f.rows.toNat → -1 ≤ a.getD r 0 ∧ a.getD r 0 ≤ f.wd - 1
theorem cR_ext {a b : List Int} (ha : (a.length : Int) = f.rows) (hb : (b.length : Int) = f.rows) (h : ∀ r, r < f.rows.toNat → gR a r = gR b r) : cR who a = cR who b := by
  have : a = b := by
    refine List.ext_getElem (by omega) fun i h1 h2 => ?_
    rw [gd0 h1, gd0 h2]; exact h i (by omega)
  rw [this]
theorem OkT.all (h : OkT f T) : Qn (cR who) gR f.rows.toNat f.rows.toNat (· ∈ T) := Qn_all fun a b ha hb hh => cR_ext (h.2 a ha).1 (h.2 b hb).1 hh
end
end Go.Proofs.Ythogdgkafaclaaa
end
section
namespace Go.Proofs.Ythogdgkafaclaaa
/-- The fewest rows. -/
def askL (f : Fld) (n : Int) : List Int := shortestL f.rows (fun rows => settlesB f (truths f []) n rows)
theorem ask_spec {f : Fld} (hc : check f = 0) (n : Int) : ∃ s, s < 2 ^ f.rows.toNat ∧ askL f n = bitsL s ∧ setR (refs f) n f.rows.toNat s = true ∧ ∀ s', s' < 2 ^ f.rows.toNat → setR (refs f) n f.rows.toNat s' = true → sh (bitsL s') (bitsL s) = false := by
  obtain ⟨hr, hw, _⟩ := check_ok hc
  have h1 := settles_full hc n
  have h2 : 1 ≤ 2 ^ f.rows.toNat := Nat.one_le_two_pow
  rw [← settles_refs hc n (by omega)] at h1
  obtain ⟨s, hs, e, hp, hmin⟩ := shortest_spec (n := f.rows.toNat) (by omega) (p := fun rows => settlesB f (truths f []) n rows) (s0 := 2 ^ f.rows.toNat - 1) (by omega) h1
  refine ⟨s, hs, ?_, by rw [← settles_refs hc n hs]; exact hp, fun s' hs' hp' => hmin s' hs' (by rw [← settles_refs hc n hs'] at hp'; exact hp')⟩
  unfold askL
  rw [show f.rows = (f.rows.toNat : Int) by omega]; exact e
theorem q_Ask (K : Nat) (f : Fld) (n : Int) : Q_Ask K f n = some (if askE f (whoB f n) = 0 then (askL f n, 0) else ([], askE f (whoB f n))) := rfl
theorem cv8 {β : Type} {g : Unit → Option β} {x : Int} (h : 0 ≤ x ∧ x < 256) : (cvO .i64 x).bind g = g () := bd (by
  have : ∀ x : Nat, x < 256 → cvO .i64 (x : Int) = some () := by decide +kernel
  have h2 := this x.toNat (by omega)
  rwa [show ((x.toNat : Nat) : Int) = x by omega] at h2)
theorem refs_nil {f : Fld} (hc : check f = 0) : sureE f = if refs f = [] then 11 else 0 := by unfold sureE; rw [if_neg (by simp [hc])]
end Go.Proofs.Ythogdgkafaclaaa
end
section
namespace Go.Proofs.Ythogdgkafaclaaa
/-- The error of Done. -/
theorem q_Done (K : Nat) (f : Fld) : Q_Done K f = some (if sureE f = 0 then (donesTo f (truths f []) f.wd.toNat, 0) else ([], sureE f)) := by unfold Q_Done; rw [askE_true]
end Go.Proofs.Ythogdgkafaclaaa
end
section
namespace Go.Proofs.Ythogdgkafaclaaa
/-- Both ends are reached. -/
theorem didB_ends {f : Fld} (hc : check f = 0) (hn : refs f ≠ []) (who : Int) : (∃ a ∈ refs f, cR who a = (didB (refs f) who).1) ∧ (∃ a ∈ refs f, cR who a = (didB (refs f) who).2) ∧ ∀ a ∈ refs f, (didB (refs f) who).1 ≤ cR who a ∧ cR who a ≤ (didB (refs f) who).2 := by
  obtain ⟨hr, hw, _⟩ := check_ok hc
  obtain ⟨q1, q2, q3, q4, q5⟩ := foldl_mm (fun a => ((part a who 0 a.length : Nat) : Int)) (refs f) (1099511627776, -1099511627776)
  have hd : didB (refs f) who = (refs f).foldl (fun r a => (min r.1 ((part a who 0 a.length : Nat) : Int), max r.2 ((part a who 0 a.length : Nat) : Int))) (1099511627776, -1099511627776) := rfl
  rw [← hd] at q1 q2 q3 q4 q5
  obtain ⟨l0, hl0⟩ := List.exists_mem_of_ne_nil _ hn
  have b0 : ((part l0 who 0 l0.length : Nat) : Int) ≤ 7 := by
    have h1 := part_le l0 who 0 l0.length
    have h2 := (tru_alw ((mem_refs hc).1 hl0)).2.1
    omega
  have m0 := q3 l0 hl0
  refine ⟨?_, ?_, q3⟩
  · rcases q4 with h | ⟨a, ha, h⟩
    · simp only [] at h m0; omega
    · exact ⟨a, ha, h.symm⟩
  · rcases q5 with h | ⟨a, ha, h⟩
    · simp only [] at h m0; omega
    · exact ⟨a, ha, h.symm⟩
end Go.Proofs.Ythogdgkafaclaaa
end
section
namespace Go.Proofs.Ythogdgkafaclaaa
theorem Qn_settle {c : List Int → Int} {g : List Int → Nat → Int} {R : Nat} : ∀ (L : List Nat) (S : List Int → Prop), (∀ r ∈ L, r < R) → (∀ a b, S a → S b → (∀ r ∈ L, g a r = g b r) → c a = c b) → Qn c g R L.length S
  | [], S, _, h => fun a b ha hb => h a b ha hb (by simp)
  | r :: L, S, hR, h => .inr ⟨r, hR r (List.mem_cons_self ..), fun v => Qn_settle L _ (fun x hx => hR x (List.mem_cons_of_mem _ hx)) fun a b ha hb he => h a b ha.1 hb.1 fun x hx => by
      rcases List.mem_cons.1 hx with rfl | hx
      · rw [ha.2, hb.2]
      · exact he x hx⟩
/-- No more questions than rows. -/
theorem ask_next {f : Fld} (hc : check f = 0) (n : Int) : Qn (cR n) gR f.rows.toNat (askL f n).length (· ∈ refs f) := by
  obtain ⟨hr, hw, _⟩ := check_ok hc
  obtain ⟨s, hs1, hs2, hs3, _⟩ := ask_spec hc n
  have := Qn_settle (c := cR n) (g := gR) (R := f.rows.toNat) ((List.range 8).filter fun x => s / 2 ^ x % 2 == 1) (· ∈ refs f) (fun r hr2 => bit_lt hs1 (by simpa using (List.mem_filter.1 hr2).2)) (fun a b ha hb hab => ?_)
  · rw [hs2]
    unfold bitsL
    rw [List.length_map]; exact this
  · have h1 := (tru_alw ((mem_refs hc).1 ha)).2.1
    have h2 := (tru_alw ((mem_refs hc).1 hb)).2.1
    have := setR_iff.1 hs3 a ha b hb (alike_iff.2 fun x hx => ?_)
    · show ((part a n 0 a.length : Nat) : Int) = ((part b n 0 b.length : Nat) : Int)
      rw [show a.length = f.rows.toNat by omega, show b.length = f.rows.toNat by omega, this]
    · by_cases hbit : s / 2 ^ x % 2 = 0
      · exact .inl hbit
      · exact .inr (hab x (List.mem_filter.2 ⟨by simp; omega, by simp; omega⟩))
theorem ask_nil {f : Fld} (hc : check f = 0) (n : Int) (h : ∀ a b, a ∈ refs f → b ∈ refs f → cR n a = cR n b) : (askL f n).length = 0 := by
  obtain ⟨s, hs1, hs2, hs3, hs4⟩ := ask_spec hc n
  have h0 : setR (refs f) n f.rows.toNat 0 = true := by
    rw [setR_iff]
    intro a ha b hb _
    have h1 := (tru_alw ((mem_refs hc).1 ha)).2.1
    have h2 := (tru_alw ((mem_refs hc).1 hb)).2.1
    have := h a b ha hb
    have h3 : ((part a n 0 a.length : Nat) : Int) = ((part b n 0 b.length : Nat) : Int) := this
    rw [show a.length = f.rows.toNat by omega, show b.length = f.rows.toNat by omega] at h3
    omega
  have := sh_len (hs4 0 Nat.one_le_two_pow h0)
  rw [hs2]
  have e : (bitsL 0).length = 0 := by decide
  omega
end Go.Proofs.Ythogdgkafaclaaa
end
section
namespace Go.Proofs.Ythogdgkafaclaaa
theorem part_all (l : List Int) (who : Int) : part l who 0 l.length = l.countP (fun x => x == who) := by
  unfold part cnt
  rw [List.drop_zero, List.take_length]
/-- How many rows those before somebody did, or nobody. -/
def below_ (l : List Int) (i : Int) : Nat := l.countP fun x => decide (x < i)
theorem below_zero {l : List Int} (h : ∀ x ∈ l, -1 ≤ x) : below_ l 0 = part l (-1) 0 l.length := by
  rw [part_all]
  unfold below_
  refine List.countP_congr fun x hx => ?_
  have := h x hx
  rw [decide_eq_true_eq, beq_iff_eq]; omega
theorem below_succ (l : List Int) (i : Int) : below_ l (i + 1) = below_ l i + part l i 0 l.length := by
  rw [part_all]
  unfold below_
  induction l with
  | nil => rfl
  | cons x l ih =>
    rw [List.countP_cons, List.countP_cons, List.countP_cons, ih]
    by_cases h1 : x < i
    · have h2 : ¬ x = i := by omega
      have h3 : x < i + 1 := by omega
      simp [h1, h2, h3]; omega
    · by_cases h2 : x = i
      · have h3 : x < i + 1 := by omega
        have e1 : decide (x < i + 1) = true := decide_eq_true h3
        have e2 : decide (x < i) = false := decide_eq_false h1
        have e3 : (x == i) = true := by rw [beq_iff_eq]; exact h2
        simp only [e1, e2, e3, if_true, Bool.false_eq_true, if_false]; omega
      · have h3 : ¬ x < i + 1 := by omega
        simp [h1, h2, h3]
theorem below_end {l : List Int} {n : Int} (h : ∀ x ∈ l, x < n) : below_ l n = l.length := by
  unfold below_
  rw [List.countP_eq_length]
  exact fun x hx => dt (h x hx)
theorem tru_iff {f : Fld} {l : List Int} : tru f l = true ↔ alw f l = true ∧ ∀ t ∈ f.ts, rt l t = true := by
  unfold tru rt
  rw [Bool.and_eq_true, List.all_eq_true]
theorem refs_ne {f : Fld} (hc : check f = 0) {l : List Int} (h : tru f l = true) : refs f ≠ [] := fun e => by
  have := (mem_refs hc).2 h
  rw [e] at this; cases this
theorem sureE_of {f : Fld} (hc : check f = 0) {l : List Int} (h : tru f l = true) : sureE f = 0 := by rw [refs_nil hc, if_neg (refs_ne hc h)]
theorem alw_iff {f : Fld} (hw : 1 ≤ f.wd) {l : List Int} : alw f l = true ↔ (∀ x ∈ l, -1 ≤ x ∧ x ≤ f.wd - 1) ∧ (l.length : Int) = f.rows ∧ f.lo ≤ (part l (-1) 0 l.length : Nat) ∧ ((part l (-1) 0 l.length : Nat) : Int) ≤ f.hi := by
  unfold alw
  rw [Bool.and_eq_true, Bool.and_eq_true, decide_eq_true_eq, inR_iff, List.all_eq_true]
  refine and_congr ⟨fun h x hx => ?_, fun h x hx => ?_⟩ Iff.rfl
  · have := h x hx
    rwa [okWho_in f x hw, inR_iff] at this
  · rw [okWho_in f x hw, inR_iff]; exact h x hx
def fA (n lo hi : Int) : Fld := ⟨n, 1, lo, hi, []⟩
theorem two_pow7 {n : Nat} (h : n ≤ 7) : (2 : Int) ^ n ≤ 128 := by
  have h2 : (2 : Nat) ^ n ≤ 2 ^ 7 := Nat.pow_le_pow_right (by omega) h
  have h3 : ((2 ^ n : Nat) : Int) ≤ ((2 ^ 7 : Nat) : Int) := by omega
  simpa using h3
theorem check_fA {n lo hi : Int} (h1 : 1 ≤ n ∧ n ≤ 7) (h2 : 0 ≤ lo ∧ lo ≤ hi ∧ hi ≤ n) : check (fA n lo hi) = 0 := by
  unfold check
  have hm : many (fA n lo hi) ≤ 128 := by
    have := two_pow7 (n := n.toNat) (by omega)
    exact this
  rw [if_neg, if_neg, if_neg]
  · omega
  · simp only [bad, Bool.or_eq_true, decide_eq_true_eq, Bool.not_eq_true', not_or, Bool.not_eq_false, List.all_eq_true]
    refine ⟨?_, ?_, ?_, fun t h => ?_⟩
    · show ¬ n < 1; omega
    · show ¬ (1 : Int) < 1; omega
    · unfold rngOk
      simp only [Bool.and_eq_true, decide_eq_true_eq]
      exact ⟨⟨h2.1, h2.2.1⟩, h2.2.2⟩
    · cases h
  · simp only [big, Bool.or_eq_true, decide_eq_true_eq, not_or]
    refine ⟨?_, ?_, ?_⟩
    · show ¬ (7 : Int) < n; omega
    · show ¬ (3 : Int) < 1; omega
    · show ¬ (5 : Int) < (([] : List Tly).length : Int); simp
def lA (n k : Nat) : List Int := List.replicate k (-1) ++ List.replicate (n - k) 0
theorem lA_part {n k : Nat} : part (lA n k) (-1) 0 (lA n k).length = k := by
  rw [part_all]
  unfold lA
  rw [List.countP_append, List.countP_replicate, List.countP_replicate]
  simp
theorem lA_tru {n lo hi : Int} (h1 : 1 ≤ n) {k : Nat} (h2 : lo ≤ k ∧ (k : Int) ≤ hi ∧ hi ≤ n) : tru (fA n lo hi) (lA n.toNat k) = true := by
  rw [tru_iff]
  refine ⟨?_, fun t h => by cases h⟩
  rw [alw_iff (f := fA n lo hi) (Int.le_refl 1), lA_part]
  have hl : (lA n.toNat k).length = n.toNat := by unfold lA; rw [List.length_append, List.length_replicate, List.length_replicate]; omega
  refine ⟨fun x hx => ?_, ?_, h2.1, h2.2.1⟩
  · show -1 ≤ x ∧ x ≤ (1 : Int) - 1
    unfold lA at hx
    rcases List.mem_append.1 hx with h | h
    · have := (List.mem_replicate.1 h).2; omega
    · have := (List.mem_replicate.1 h).2; omega
  · rw [hl]; show ((n.toNat : Nat) : Int) = n; omega
theorem fA_sum {n lo hi : Int} {l : List Int} (h : alw (fA n lo hi) l = true) : cR 0 l = n - (part l (-1) 0 l.length : Nat) := by
  obtain ⟨h1, h2, _⟩ := (alw_iff (f := fA n lo hi) (Int.le_refl 1)).1 h
  have e1 : ∀ x ∈ l, -1 ≤ x ∧ x ≤ (1 : Int) - 1 := h1
  have e2 : (l.length : Int) = n := h2
  have b0 := below_zero (l := l) fun x hx => (e1 x hx).1
  have b1 := below_succ l 0
  have b2 := below_end (l := l) (n := 0 + 1) fun x hx => by have := (e1 x hx).2; omega
  show ((part l 0 0 l.length : Nat) : Int) = _
  omega
theorem fA_done {n lo hi : Int} (h1 : 1 ≤ n ∧ n ≤ 7) (h2 : 0 ≤ lo ∧ lo ≤ hi ∧ hi ≤ n) : didB (refs (fA n lo hi)) 0 = (n - hi, n - lo) := by
  have hc := check_fA h1 h2
  have t1 := lA_tru (lo := lo) (hi := hi) h1.1 (k := lo.toNat) (by omega)
  have t2 := lA_tru (lo := lo) (hi := hi) h1.1 (k := hi.toNat) (by omega)
  obtain ⟨⟨a1, ha1, e1⟩, ⟨a2, ha2, e2⟩, h3⟩ := didB_ends hc (refs_ne hc t1) 0
  have g1 := h3 _ ((mem_refs hc).2 t1)
  have g2 := h3 _ ((mem_refs hc).2 t2)
  have k1 := (mem_refs hc).1 ha1
  have k2 := (mem_refs hc).1 ha2
  rw [tru_iff] at k1 k2 t1 t2
  have s1 := fA_sum k1.1
  have s2 := fA_sum k2.1
  have s3 := fA_sum t1.1
  have s4 := fA_sum t2.1
  rw [lA_part] at s3 s4
  have r1 := ((alw_iff (f := fA n lo hi) (Int.le_refl 1)).1 k1.1).2.2
  have r2 := ((alw_iff (f := fA n lo hi) (Int.le_refl 1)).1 k2.1).2.2
  have r1' : lo ≤ (part a1 (-1) 0 a1.length : Nat) ∧ ((part a1 (-1) 0 a1.length : Nat) : Int) ≤ hi := r1
  have r2' : lo ≤ (part a2 (-1) 0 a2.length : Nat) ∧ ((part a2 (-1) 0 a2.length : Nat) : Int) ≤ hi := r2
  refine Prod.ext ?_ ?_
  · show (didB (refs (fA n lo hi)) 0).1 = n - hi
    omega
  · show (didB (refs (fA n lo hi)) 0).2 = n - lo
    omega
theorem fA_ask {n lo hi : Int} (h1 : 1 ≤ n ∧ n ≤ 7) (h2 : 0 ≤ lo ∧ lo ≤ hi ∧ hi ≤ n) : (askL (fA n lo hi) 0).length = 0 ↔ lo = hi := by
  have hc := check_fA h1 h2
  constructor
  · intro h
    have hq := ask_next hc 0
    rw [h] at hq
    have t1 := lA_tru (lo := lo) (hi := hi) h1.1 (k := lo.toNat) (by omega)
    have t2 := lA_tru (lo := lo) (hi := hi) h1.1 (k := hi.toNat) (by omega)
    have e : cR 0 (lA n.toNat lo.toNat) = cR 0 (lA n.toNat hi.toNat) := hq _ _ ((mem_refs hc).2 t1) ((mem_refs hc).2 t2)
    rw [tru_iff] at t1 t2
    have s3 := fA_sum t1.1
    have s4 := fA_sum t2.1
    rw [lA_part] at s3 s4
    omega
  · rintro rfl
    refine ask_nil hc 0 fun a b ha hb => ?_
    have k1 := (mem_refs hc).1 ha
    have k2 := (mem_refs hc).1 hb
    rw [tru_iff] at k1 k2
    have s1 := fA_sum k1.1
    have s2 := fA_sum k2.1
    have r1 : lo ≤ (part a (-1) 0 a.length : Nat) ∧ ((part a (-1) 0 a.length : Nat) : Int) ≤ lo := ((alw_iff (f := fA n lo lo) (Int.le_refl 1)).1 k1.1).2.2
    have r2 : lo ≤ (part b (-1) 0 b.length : Nat) ∧ ((part b (-1) 0 b.length : Nat) : Int) ≤ lo := ((alw_iff (f := fA n lo lo) (Int.le_refl 1)).1 k2.1).2.2
    omega
end Go.Proofs.Ythogdgkafaclaaa
end
section
set_option linter.unusedVariables false
set_option linter.unusedSimpArgs false
namespace Go.Proofs.Ythogdgkafaclaaa
open Go.RowKit
def G_WeedAlone (K_ : Nat) (p0 : Int) (p1 : Int) (p2 : Int) : Option (Bool) :=
  (cvO .i64 p0).bind fun _ => (rem p0 (7 : Int)).bind fun _ => (i64 ((p0 % 7) + 1)).bind fun _ => (cvO .i64 p1).bind fun _ => (i64 (((p0 % 7) + 1) + 1)).bind fun _ => (rem p1 (((p0 % 7) + 1) + 1)).bind fun _ => (cvO .i64 p2).bind fun _ => (i64 (((p0 % 7) + 1) + 1)).bind fun _ => (rem p2 (((p0 % 7) + 1) + 1)).bind fun _ => (G_between K_ (min (p1 % (((p0 % 7) + 1) + 1)) (p2 % (((p0 % 7) + 1) + 1))) (max (p1 % (((p0 % 7) + 1) + 1)) (p2 % (((p0 % 7) + 1) + 1)))).bind fun r11 => (Q_Done K_ (⟨(p0 % 7) + 1, 1, r11.1, r11.2, ([] : List Tly)⟩ : Fld)).bind fun r16 => (Q_Ask K_ (⟨(p0 % 7) + 1, 1, r11.1, r11.2, ([] : List Tly)⟩ : Fld) 0).bind fun r18 => cond (r16.2 == 0) (cond ((r16.1.length : Int) == 1) ((idx r16.1 (0 : Int)).bind fun x23 => (i64 (((p0 % 7) + 1) - (max (p1 % (((p0 % 7) + 1) + 1)) (p2 % (((p0 % 7) + 1) + 1))))).bind fun _ => (i64 (((p0 % 7) + 1) - (min (p1 % (((p0 % 7) + 1) + 1)) (p2 % (((p0 % 7) + 1) + 1))))).bind fun _ => (G_between K_ (((p0 % 7) + 1) - (max (p1 % (((p0 % 7) + 1) + 1)) (p2 % (((p0 % 7) + 1) + 1)))) (((p0 % 7) + 1) - (min (p1 % (((p0 % 7) + 1) + 1)) (p2 % (((p0 % 7) + 1) + 1))))).bind fun r26 => cond ([x23.1, x23.2] == [r26.1, r26.2]) (cond (r18.2 == 0) (cond ((p1 % (((p0 % 7) + 1) + 1)) != (p2 % (((p0 % 7) + 1) + 1))) (cond ((p1 % (((p0 % 7) + 1) + 1)) == (p2 % (((p0 % 7) + 1) + 1))) ((ifo (G_awake K_ = some true)).bind fun _ => some (true)) (cond (decide (0 < (r18.1.length : Int))) ((ifo (G_awake K_ = some true)).bind fun _ => some (true)) (some (false)))) (cond ((r18.1.length : Int) == 0) (cond ((p1 % (((p0 % 7) + 1) + 1)) == (p2 % (((p0 % 7) + 1) + 1))) ((ifo (G_awake K_ = some true)).bind fun _ => some (true)) (cond (decide (0 < (r18.1.length : Int))) ((ifo (G_awake K_ = some true)).bind fun _ => some (true)) (some (false)))) (some (false)))) (some (false))) (some (false))) (some (false))) (some (false))
end Go.Proofs.Ythogdgkafaclaaa
end
section
namespace Go.Proofs.Ythogdgkafaclaaa
theorem mod_bd {x m : Int} (hm : 0 < m) : 0 ≤ x % m ∧ x % m < m := ⟨Int.emod_nonneg x (by omega), Int.emod_lt_of_pos x hm⟩
theorem alone_key {n a b : Int} (hn : 1 ≤ n ∧ n ≤ 7) (ha : 0 ≤ a ∧ a < n + 1) (hb : 0 ≤ b ∧ b < n + 1) :
    Q_Done 1000 (⟨n, 1, min a b, max a b, []⟩ : Fld) = some ([(n - max a b, n - min a b)], 0) ∧ ∃ l, Q_Ask 1000 (⟨n, 1, min a b, max a b, []⟩ : Fld) 0 = some (l, 0) ∧ (l.length = 0 ↔ a = b) := by
  have h2 : 0 ≤ min a b ∧ min a b ≤ max a b ∧ max a b ≤ n := by omega
  have hc := check_fA hn h2
  have t1 := lA_tru (lo := min a b) (hi := max a b) hn.1 (k := (min a b).toNat) (by omega)
  have hs : sureE (fA n (min a b) (max a b)) = 0 := sureE_of hc t1
  have hne := refs_ne hc t1
  constructor
  · show Q_Done 1000 (fA n (min a b) (max a b)) = _
    rw [q_Done 1000 _, if_pos hs]
    have : donesTo (fA n (min a b) (max a b)) (truths (fA n (min a b) (max a b)) []) (fA n (min a b) (max a b)).wd.toNat = [didB (refs (fA n (min a b) (max a b))) 0] := by
      rw [← doneOf_didB hc hne]; rfl
    rw [this, fA_done hn h2]
  · refine ⟨askL (fA n (min a b) (max a b)) 0, ?_, ?_⟩
    · show Q_Ask 1000 (fA n (min a b) (max a b)) 0 = _
      rw [q_Ask 1000 _ 0]
      have hw : whoB (fA n (min a b) (max a b)) 0 = true := inR_iff.2 ⟨by omega, by show (0 : Int) ≤ 1 - 1; omega⟩
      rw [hw, askE_true, if_pos hs]
    · rw [fA_ask hn h2]; omega
theorem weedAlone_plain (x y z : Int) (hx : 0 ≤ x ∧ x < 256) (hy : 0 ≤ y ∧ y < 256) (hz : 0 ≤ z ∧ z < 256) : G_WeedAlone 1000 x y z = some true := by
  unfold G_WeedAlone
  obtain ⟨n0, n1⟩ := mod_bd (x := x) (m := 7) (by omega)
  obtain ⟨n, hn⟩ : ∃ n, n = x % 7 + 1 := ⟨_, rfl⟩
  obtain ⟨a0, a1⟩ := mod_bd (x := y) (m := n + 1) (by omega)
  obtain ⟨b0, b1⟩ := mod_bd (x := z) (m := n + 1) (by omega)
  rw [cv8 hx, remb hx.1 (by omega), i64b (by omega) (by omega), ← hn, cv8 hy, i64b (by omega) (by omega), remb hy.1 (by omega), cv8 hz, i64b (by omega) (by omega), remb hz.1 (by omega)]
  obtain ⟨a, ha⟩ : ∃ a, a = y % (n + 1) := ⟨_, rfl⟩
  obtain ⟨b, hb⟩ : ∃ b, b = z % (n + 1) := ⟨_, rfl⟩
  rw [← ha, ← hb]
  rw [← ha] at a0 a1
  rw [← hb] at b0 b1
  obtain ⟨h1, l, h2, h3⟩ := alone_key (n := n) (a := a) (b := b) (by omega) ⟨a0, a1⟩ ⟨b0, b1⟩
  rw [bd (show G_between 1000 (min a b) (max a b) = some (min a b, max a b) from rfl), bd h1, bd h2, ct (by rfl), ct (by rfl), bd (show idx [(n - max a b, n - min a b)] (0 : Int) = some (n - max a b, n - min a b) from rfl), i64b (by omega) (by omega), i64b (by omega) (by omega), bd (show G_between 1000 (n - max a b) (n - min a b) = some (n - max a b, n - min a b) from rfl), ct (by simp), ct (by rfl)]
  by_cases hab : a = b
  · have hl := h3.2 hab
    rw [cf (by simp [hab]), ct (by rw [beq_iff_eq]; simp only []; omega), ct (by simp [hab]), ifob awake_1000]
  · have hl : l.length ≠ 0 := fun e => hab (h3.1 e)
    rw [ct (by simp [hab]), cf (by simp [hab]), ct (dt (by simp only []; omega)), ifob awake_1000]
theorem weedAlone_true (x y z : Int) (hx : 0 ≤ x ∧ x < 256) (hy : 0 ≤ y ∧ y < 256) (hz : 0 ≤ z ∧ z < 256) : ∃ K, G_WeedAlone K x y z = some true := ⟨1000, weedAlone_plain x y z hx hy hz⟩
end Go.Proofs.Ythogdgkafaclaaa
end
section
set_option linter.unusedVariables false
set_option linter.unusedSimpArgs false
namespace Go.Proofs.Ythogdgkafaclaaa
open Go.RowKit
open AF
theorem mixedL14 : Try.prog.follows .mixedOrders = true := by kernel_rfl
attribute [local irreducible] Ex1 WL CC CW LV Ret ObOp Agg One Own
theorem a14 (K_ : Nat) (p0 : Int) (p1 : Int) (p2 : Int) (Z : Nat → Prop) (w : World) (hG : G_WeedAlone K_ p0 p1 p2 = some true) :
    Ret Try.prog 14 #[.int .u8 p0, .int .u8 p1, .int .u8 p2] w (fun v w' => Ext w w' ∧ v = .bool true) := by
 unfold G_WeedAlone at hG
 refine ret_of_cc (N := 99) Try.func14 rfl rfl (by simp) ?_
 intro fr0 ha hdf
 have hp_0 := sl_arg (i := 0) (v := .int .u8 p0) ha rfl
 have hp_1 := sl_arg (i := 1) (v := .int .u8 p1) ha rfl
 have hp_2 := sl_arg (i := 2) (v := .int .u8 p2) ha rfl
 clear ha
 have hp0 := Hp.refl w
 refine cc_seq <| cc_region <| wa rfl (v := .bool false) rfl <| wl_end <| lv_next <| cc_seq <| cc_region <| wm rfl (v := .int .u8 p0) hp_0 ?_
 replace hG := cvO_bind hG; obtain ⟨hf1, hG⟩ := hG
 refine wd rfl (fun st => x_conv (k := .i64) sm_5 Try.underlying3 (ee st rfl) hf1) ?_
 replace hG := rem_bind hG; obtain ⟨hf2, hG⟩ := hG
 refine wd rfl (fun st => x_rem (ee st rfl) (ee st rfl) hf2.1 hf2.2) ?_
 replace hG := i64_bind hG; obtain ⟨hf3, hG⟩ := hG
 refine wd rfl (fun st => x_add (ee st rfl) (ee st rfl) hf3) <| wa rfl (v := I ((p0 % 7) + 1)) rfl <| wl_end <| lv_next <| cc_seq ?_
 replace hG := cvO_bind hG; obtain ⟨hf5, hG⟩ := hG
 replace hG := i64_bind hG; obtain ⟨hf6, hG⟩ := hG
 replace hG := rem_bind hG; obtain ⟨hf7, hG⟩ := hG
 replace hG := cvO_bind hG; obtain ⟨hf8, hG⟩ := hG
 replace hG := i64_bind hG; obtain ⟨hf9, hG⟩ := hG
 replace hG := rem_bind hG; obtain ⟨hf10, hG⟩ := hG
 refine cc_anyM0 11 [Kc (.int .u8 p1), Kc (I p1), Kc (I ((p0 % 7) + 1)), Kc (I (((p0 % 7) + 1) + 1)), Kc (I (p1 % (((p0 % 7) + 1) + 1))), Kc (.int .u8 p2), Kc (I p2), Kc (I ((p0 % 7) + 1)), Kc (I (((p0 % 7) + 1) + 1)), Kc (I (p2 % (((p0 % 7) + 1) + 1))), Kc (I (p1 % (((p0 % 7) + 1) + 1)))] mixedL14 rfl rfl
     (obsN_cons (od rfl (fun _ => rfl) (fun K => x_move (v := .int .u8 p1) (es (t := 1) (v := .int .u8 p1) ((K.out 1 rfl).trans hp_1))))
     (obsN_cons (od rfl (fun _ => rfl) (fun K => x_conv (k := .i64) sm_5 Try.underlying3 (es (t := 19) (v := .int .u8 p1) (K.dep 0 19 rfl rfl)) hf5))
     (obsN_cons (od rfl (fun _ => rfl) (fun K => x_move (v := I ((p0 % 7) + 1)) (es (t := 7) (v := I ((p0 % 7) + 1)) ((K.out 7 rfl).trans rfl))))
     (obsN_cons (od rfl (fun _ => rfl) (fun K => x_add (es (t := 21) (v := I ((p0 % 7) + 1)) (K.dep 2 21 rfl rfl)) (ec (v := I 1)) hf6))
     (obsN_cons (od rfl (fun _ => rfl) (fun K => x_rem (es (t := 20) (v := I p1) (K.dep 1 20 rfl rfl)) (es (t := 22) (v := I (((p0 % 7) + 1) + 1)) (K.dep 3 22 rfl rfl)) hf7.1 hf7.2))
     (obsN_cons (od rfl (fun _ => rfl) (fun K => x_move (v := .int .u8 p2) (es (t := 2) (v := .int .u8 p2) ((K.out 2 rfl).trans hp_2))))
     (obsN_cons (od rfl (fun _ => rfl) (fun K => x_conv (k := .i64) sm_5 Try.underlying3 (es (t := 24) (v := .int .u8 p2) (K.dep 5 24 rfl rfl)) hf8))
     (obsN_cons (od rfl (fun _ => rfl) (fun K => x_move (v := I ((p0 % 7) + 1)) (es (t := 7) (v := I ((p0 % 7) + 1)) ((K.out 7 rfl).trans rfl))))
     (obsN_cons (od rfl (fun _ => rfl) (fun K => x_add (es (t := 26) (v := I ((p0 % 7) + 1)) (K.dep 7 26 rfl rfl)) (ec (v := I 1)) hf9))
     (obsN_cons (od rfl (fun _ => rfl) (fun K => x_rem (es (t := 25) (v := I p2) (K.dep 6 25 rfl rfl)) (es (t := 27) (v := I (((p0 % 7) + 1) + 1)) (K.dep 8 27 rfl rfl)) hf10.1 hf10.2))
     (obsN_cons (od rfl (fun _ => rfl) (fun K => x_assign (v := I (p1 % (((p0 % 7) + 1) + 1))) (es (t := 23) (v := I (p1 % (((p0 % 7) + 1) + 1))) (K.dep 4 23 rfl rfl))))
     (obsN_nil _)))))))))))) ?_
 intro w4
 rintro _ rfl _ rfl _ rfl _ rfl _ rfl _ rfl _ rfl _ rfl _ rfl _ rfl _ rfl hx4
 have hp1 : Hp w [] w4 := hp0.ext hx4
 refine wa rfl (v := I (p2 % (((p0 % 7) + 1) + 1))) rfl <| wl_end <| lv_next <| cc_seq <| cc_region <| wm rfl (v := I ((p0 % 7) + 1)) rfl <| wm rfl (v := I (p1 % (((p0 % 7) + 1) + 1))) rfl <| wm rfl (v := I (p2 % (((p0 % 7) + 1) + 1))) rfl <| wd rfl (fun st => x_min (ee st rfl) (ee st rfl)) <| wm rfl (v := I (p1 % (((p0 % 7) + 1) + 1))) rfl <| wm rfl (v := I (p2 % (((p0 % 7) + 1) + 1))) rfl <| wd rfl (fun st => x_max (ee st rfl) (ee st rfl)) ?_
 replace hG := bind_some hG; obtain ⟨r11, hr11, hG⟩ := hG
 refine we rfl (fun st => x_call0 own_50 (ee st rfl) (am2 (ee st rfl) (ee st rfl)) (a50 K_ (min (p1 % (((p0 % 7) + 1) + 1)) (p2 % (((p0 % 7) + 1) + 1))) (max (p1 % (((p0 % 7) + 1) + 1)) (p2 % (((p0 % 7) + 1) + 1))) ZA _ r11 hr11)) ?_
 rintro _ w12 ⟨hx11, ⟨_, rfl, rfl⟩⟩
 have hp2 : Hp w [] w12 := hp1.ext hx11
 refine wd rfl (fun st => x_build (vs := #[(0, I ((p0 % 7) + 1)), (1, I 1), (2, .agg #[I r11.1, I r11.2])]) (v := .agg #[I ((p0 % 7) + 1), I 1, I r11.1, I r11.2, .slice none 0 0]) (pm3 (ee st rfl) (ee st rfl) (ee st rfl)) (by kernel_rfl)) <| we rfl (fun st => x_alloc (cs := #[I 0, I 0, I 0, I 0, .slice none 0 0]) zero_36 rfl) ?_
 rintro _ w14 ⟨b14, rfl, nb14⟩
 have hp3 : Hp w [some b14] w14 := hp2.new nb14.gr (Nat.le_of_eq nb14.b_eq.symm) (Nat.lt_of_lt_of_eq (Nat.lt_succ_self _) nb14.sz.symm)
 refine wl_ex0 rfl rfl (fun st => x_store (n := 5) (l := [I ((p0 % 7) + 1), I 1, I r11.1, I r11.2, .slice none 0 0]) (cs' := #[I ((p0 % 7) + 1), I 1, I r11.1, I r11.2, .slice none 0 0]) (ee st rfl) (ee st rfl) sz_36 nb14.bk rfl rfl (show 0 + 5 ≤ 5 by decide) (one_cells rfl) rfl) ?_
 rintro _ w15 sb15
 have hp4 : Hp w [some b14] w15 := hp3.gr sb15.gr (hp3.ge 0 rfl)
 refine wl_end <| lv_next <| cc_seq <| cc_region <| wd rfl (fun st => x_loadn (l := [I ((p0 % 7) + 1), I 1, I r11.1, I r11.2, .slice none 0 0]) agg_36 (ee st rfl) sb15.bk rfl rfl) ?_
 replace hG := bind_some hG; obtain ⟨r16, hr16, hG⟩ := hG
 refine we rfl (fun st => x_call0 own_22 (ee st rfl) (am1 (ee st rfl)) (a22 K_ (⟨(p0 % 7) + 1, 1, r11.1, r11.2, ([] : List Tly)⟩ : Fld) none 0 (ZZ Z w.heap.size [some b14]) _ (Sl.nil eTly _ _) r16 hr16)) ?_
 rintro _ w17 ⟨hx16, _, _, rfl, ⟨A16_ra, c16_ra, rfl, hS16_ra⟩, rfl⟩
 have hp5 : Hp w [some b14] w17 := hp4.ext hx16
 have hS16_ra := hS16_ra.mv (hp4.call (Nat.le_refl _))
 refine wm rfl (v := .tuple #[.slice A16_ra r16.1.length c16_ra, I r16.2]) rfl <| wd rfl (fun st => x_extract (v := .slice A16_ra r16.1.length c16_ra) (ee st rfl) rfl) <| wd rfl (fun st => x_extract (v := I r16.2) (ee st rfl) rfl) <| wa rfl (v := .slice A16_ra r16.1.length c16_ra) rfl <| wa rfl (v := I r16.2) rfl <| wl_end <| lv_next <| cc_seq <| cc_region ?_
 have bk14_5 : Bk w17 b14 36 #[I ((p0 % 7) + 1), I 1, I r11.1, I r11.2, .slice none 0 0] := (sb15.bk.ext hx16)
 refine wd rfl (fun st => x_loadn (l := [I ((p0 % 7) + 1), I 1, I r11.1, I r11.2, .slice none 0 0]) agg_36 (ee st rfl) bk14_5 rfl rfl) ?_
 replace hG := bind_some hG; obtain ⟨r18, hr18, hG⟩ := hG
 refine we rfl (fun st => x_call0 own_42 (ee st rfl) (am2 (ee st rfl) (ee st rfl)) (a42 K_ (⟨(p0 % 7) + 1, 1, r11.1, r11.2, ([] : List Tly)⟩ : Fld) 0 none 0 (ZZ Z w.heap.size [some b14]) _ (Sl.nil eTly _ _) r18 hr18)) ?_
 rintro _ w19 ⟨hx18, _, _, rfl, ⟨A18_ra, c18_ra, rfl, hS18_ra⟩, rfl⟩
 have hp6 : Hp w [some b14] w19 := hp5.ext hx18
 have hS18_ra := hS18_ra.mv (hp5.call (Nat.le_refl _))
 refine wm rfl (v := .tuple #[.slice A18_ra r18.1.length c18_ra, I r18.2]) rfl <| wd rfl (fun st => x_extract (v := .slice A18_ra r18.1.length c18_ra) (ee st rfl) rfl) <| wd rfl (fun st => x_extract (v := I r18.2) (ee st rfl) rfl) <| wa rfl (v := .slice A18_ra r18.1.length c18_ra) rfl <| wa rfl (v := I r18.2) rfl <| wl_end <| lv_next <| cc_seq ?_
 rcases bool_cases (r16.2 == 0) with hc21 | hc21
 ·replace hG := cond_t hG hc21
  rcases bool_cases ((r16.1.length : Int) == 1) with hc22 | hc22
  ·replace hG := cond_t hG hc22
   replace hG := idx_bind hG; obtain ⟨i23, x23, hi23, hx23, hl23, hG⟩ := hG
   have hS16_ra_6 : Sl eR w19 (ZZ Z w.heap.size [some b14]) A16_ra c16_ra r16.1 := (hS16_ra.mv (mv_ext hx18))
   obtain ⟨b23, o23, _, hA23, rfl, hz23⟩ := Sl.elem hS16_ra_6 (by decide) hx23
   replace hG := i64_bind hG; obtain ⟨hf24, hG⟩ := hG
   replace hG := i64_bind hG; obtain ⟨hf25, hG⟩ := hG
   replace hG := bind_some hG; obtain ⟨r26, hr26, hG⟩ := hG
   rcases bool_cases ([x23.1, x23.2] == [r26.1, r26.2]) with hc27 | hc27
   ·replace hG := cond_t hG hc27
    rcases bool_cases (r18.2 == 0) with hc28 | hc28
    ·replace hG := cond_t hG hc28
     rcases bool_cases ((p1 % (((p0 % 7) + 1) + 1)) != (p2 % (((p0 % 7) + 1) + 1))) with hc29 | hc29
     ·replace hG := cond_t hG hc29
      rcases bool_cases ((p1 % (((p0 % 7) + 1) + 1)) == (p2 % (((p0 % 7) + 1) + 1))) with hc30 | hc30
      ·replace hG := cond_t hG hc30
       replace hG := ifo_bind hG; obtain ⟨hw31, hG⟩ := hG
       refine cc_anyM0 51 [Kc (I r16.2), Kc (.bool (r16.2 == 0)), Kc (.bool (r16.2 == 0)), Kc (.slice A16_ra r16.1.length c16_ra), Kc (I (r16.1.length : Int)), Kc (.bool ((r16.1.length : Int) == 1)), Kc (.bool ((r16.1.length : Int) == 1)), Kc (.bool ((r16.1.length : Int) == 1)), Kc (.slice A16_ra r16.1.length c16_ra), Kc (pt b23 (o23 + i23 * 2)), Kc (.agg #[I x23.1, I x23.2]), Kc (I ((p0 % 7) + 1)), Kc (I (p1 % (((p0 % 7) + 1) + 1))), Kc (I (p2 % (((p0 % 7) + 1) + 1))), Kc (I (max (p1 % (((p0 % 7) + 1) + 1)) (p2 % (((p0 % 7) + 1) + 1)))), Kc (I (((p0 % 7) + 1) - (max (p1 % (((p0 % 7) + 1) + 1)) (p2 % (((p0 % 7) + 1) + 1))))), Kc (I ((p0 % 7) + 1)), Kc (I (p1 % (((p0 % 7) + 1) + 1))), Kc (I (p2 % (((p0 % 7) + 1) + 1))), Kc (I (min (p1 % (((p0 % 7) + 1) + 1)) (p2 % (((p0 % 7) + 1) + 1)))), Kc (I (((p0 % 7) + 1) - (min (p1 % (((p0 % 7) + 1) + 1)) (p2 % (((p0 % 7) + 1) + 1))))), Kc (.agg #[I r26.1, I r26.2]), Kc (.bool ([x23.1, x23.2] == [r26.1, r26.2])), Kc (.bool ([x23.1, x23.2] == [r26.1, r26.2])), Kc (.bool ([x23.1, x23.2] == [r26.1, r26.2])), Kc (I r18.2), Kc (.bool (r18.2 == 0)), Kc (.bool (r18.2 == 0)), Kc (.bool (r18.2 == 0)), Kc (I (p1 % (((p0 % 7) + 1) + 1))), Kc (I (p2 % (((p0 % 7) + 1) + 1))), Kc (.bool ((p1 % (((p0 % 7) + 1) + 1)) != (p2 % (((p0 % 7) + 1) + 1)))), Kc (.bool ((p1 % (((p0 % 7) + 1) + 1)) != (p2 % (((p0 % 7) + 1) + 1)))), Kc undef, Kc undef, Kc undef, Kc (.bool true), Kc (.bool true), Kc (.bool true), Kc (I (p1 % (((p0 % 7) + 1) + 1))), Kc (I (p2 % (((p0 % 7) + 1) + 1))), Kc (.bool ((p1 % (((p0 % 7) + 1) + 1)) == (p2 % (((p0 % 7) + 1) + 1)))), Kc (.bool ((p1 % (((p0 % 7) + 1) + 1)) == (p2 % (((p0 % 7) + 1) + 1)))), Kc undef, Kc undef, Kc undef, Kc (.bool true), Kc (.bool true), Kc (.bool true), Kc (.bool true), Kc (.bool true)] mixedL14 rfl rfl
           (obsN_cons (od rfl (fun _ => rfl) (fun K => x_move (v := I r16.2) (es (t := 12) (v := I r16.2) ((K.out 12 rfl).trans rfl))))
           (obsN_cons (od rfl (fun _ => rfl) (fun K => x_eql (es (t := 48) (v := I r16.2) (K.dep 0 48 rfl rfl)) (ec (v := I 0))))
           (obsN_cons (od rfl (fun _ => rfl) (fun K => x_move (v := .bool (r16.2 == 0)) (es (t := 49) (v := .bool (r16.2 == 0)) (K.dep 1 49 rfl rfl))))
           (obsN_cons (ob_detg rfl rfl rfl (fun _ => rfl) (fun a' w' ph K => (guard_eq (show sl a' 50 = .bool (r16.2 == 0) from K.dep 2 50 rfl rfl) hc21)) (fun a' w' ph K => x_move (v := .slice A16_ra r16.1.length c16_ra) (es (t := 11) (v := .slice A16_ra r16.1.length c16_ra) ((K.out 11 rfl).trans rfl))))
           (obsN_cons (ob_detg rfl rfl rfl (fun _ => rfl) (fun a' w' ph K => (guard_eq (show sl a' 50 = .bool (r16.2 == 0) from K.dep 2 50 rfl rfl) hc21)) (fun a' w' ph K => x_len Try.underlying29 (es (t := 51) (v := .slice A16_ra r16.1.length c16_ra) (K.dep 3 51 rfl rfl))))
           (obsN_cons (ob_detg rfl rfl rfl (fun _ => rfl) (fun a' w' ph K => (guard_eq (show sl a' 50 = .bool (r16.2 == 0) from K.dep 2 50 rfl rfl) hc21)) (fun a' w' ph K => x_eql (es (t := 52) (v := I (r16.1.length : Int)) (K.dep 4 52 rfl rfl)) (ec (v := I 1))))
           (obsN_cons (od rfl (fun _ => rfl) (fun K => x_pick_t (v := .bool ((r16.1.length : Int) == 1)) (es (t := 50) (v := .bool (r16.2 == 0)) (K.dep 2 50 rfl rfl)) hc21 (es (t := 53) (v := .bool ((r16.1.length : Int) == 1)) (K.dep 5 53 rfl rfl))))
           (obsN_cons (od rfl (fun _ => rfl) (fun K => x_move (v := .bool ((r16.1.length : Int) == 1)) (es (t := 54) (v := .bool ((r16.1.length : Int) == 1)) (K.dep 6 54 rfl rfl))))
           (obsN_cons (ob_detg rfl rfl rfl (fun _ => rfl) (fun a' w' ph K => (guard_eq (show sl a' 55 = .bool ((r16.1.length : Int) == 1) from K.dep 7 55 rfl rfl) hc22)) (fun a' w' ph K => x_move (v := .slice A16_ra r16.1.length c16_ra) (es (t := 11) (v := .slice A16_ra r16.1.length c16_ra) ((K.out 11 rfl).trans rfl))))
           (obsN_cons (ob_detg rfl rfl rfl (fun _ => rfl) (fun a' w' ph K => (guard_eq (show sl a' 55 = .bool ((r16.1.length : Int) == 1) from K.dep 7 55 rfl rfl) hc22)) (fun a' w' ph K => x_indexAddrN (k := i23) Try.underlying29 sz_33 (es (t := 56) (v := .slice A16_ra r16.1.length c16_ra) (K.dep 8 56 rfl rfl)) hA23 (ec (v := I 0)) hi23 hl23))
           (obsN_cons (ob_detg rfl rfl rfl (fun _ => rfl) (fun a' w' ph K => (guard_eq (show sl a' 55 = .bool ((r16.1.length : Int) == 1) from K.dep 7 55 rfl rfl) hc22)) (fun a' w' ph K => x_load_zn0 (l := [I x23.1, I x23.2]) agg_33 (es (t := 57) (v := pt b23 (o23 + i23 * 2)) (K.dep 9 57 rfl rfl)) (hz23.mv (mv_ext K.phT)) rfl rfl))
           (obsN_cons (ob_detg rfl rfl rfl (fun _ => rfl) (fun a' w' ph K => (guard_eq (show sl a' 55 = .bool ((r16.1.length : Int) == 1) from K.dep 7 55 rfl rfl) hc22)) (fun a' w' ph K => x_move (v := I ((p0 % 7) + 1)) (es (t := 7) (v := I ((p0 % 7) + 1)) ((K.out 7 rfl).trans rfl))))
           (obsN_cons (ob_detg rfl rfl rfl (fun _ => rfl) (fun a' w' ph K => (guard_eq (show sl a' 55 = .bool ((r16.1.length : Int) == 1) from K.dep 7 55 rfl rfl) hc22)) (fun a' w' ph K => x_move (v := I (p1 % (((p0 % 7) + 1) + 1))) (es (t := 8) (v := I (p1 % (((p0 % 7) + 1) + 1))) ((K.out 8 rfl).trans rfl))))
           (obsN_cons (ob_detg rfl rfl rfl (fun _ => rfl) (fun a' w' ph K => (guard_eq (show sl a' 55 = .bool ((r16.1.length : Int) == 1) from K.dep 7 55 rfl rfl) hc22)) (fun a' w' ph K => x_move (v := I (p2 % (((p0 % 7) + 1) + 1))) (es (t := 9) (v := I (p2 % (((p0 % 7) + 1) + 1))) ((K.out 9 rfl).trans rfl))))
           (obsN_cons (ob_detg rfl rfl rfl (fun _ => rfl) (fun a' w' ph K => (guard_eq (show sl a' 55 = .bool ((r16.1.length : Int) == 1) from K.dep 7 55 rfl rfl) hc22)) (fun a' w' ph K => x_max (es (t := 60) (v := I (p1 % (((p0 % 7) + 1) + 1))) (K.dep 12 60 rfl rfl)) (es (t := 61) (v := I (p2 % (((p0 % 7) + 1) + 1))) (K.dep 13 61 rfl rfl))))
           (obsN_cons (ob_detg rfl rfl rfl (fun _ => rfl) (fun a' w' ph K => (guard_eq (show sl a' 55 = .bool ((r16.1.length : Int) == 1) from K.dep 7 55 rfl rfl) hc22)) (fun a' w' ph K => x_sub (es (t := 59) (v := I ((p0 % 7) + 1)) (K.dep 11 59 rfl rfl)) (es (t := 62) (v := I (max (p1 % (((p0 % 7) + 1) + 1)) (p2 % (((p0 % 7) + 1) + 1)))) (K.dep 14 62 rfl rfl)) hf24))
           (obsN_cons (ob_detg rfl rfl rfl (fun _ => rfl) (fun a' w' ph K => (guard_eq (show sl a' 55 = .bool ((r16.1.length : Int) == 1) from K.dep 7 55 rfl rfl) hc22)) (fun a' w' ph K => x_move (v := I ((p0 % 7) + 1)) (es (t := 7) (v := I ((p0 % 7) + 1)) ((K.out 7 rfl).trans rfl))))
           (obsN_cons (ob_detg rfl rfl rfl (fun _ => rfl) (fun a' w' ph K => (guard_eq (show sl a' 55 = .bool ((r16.1.length : Int) == 1) from K.dep 7 55 rfl rfl) hc22)) (fun a' w' ph K => x_move (v := I (p1 % (((p0 % 7) + 1) + 1))) (es (t := 8) (v := I (p1 % (((p0 % 7) + 1) + 1))) ((K.out 8 rfl).trans rfl))))
           (obsN_cons (ob_detg rfl rfl rfl (fun _ => rfl) (fun a' w' ph K => (guard_eq (show sl a' 55 = .bool ((r16.1.length : Int) == 1) from K.dep 7 55 rfl rfl) hc22)) (fun a' w' ph K => x_move (v := I (p2 % (((p0 % 7) + 1) + 1))) (es (t := 9) (v := I (p2 % (((p0 % 7) + 1) + 1))) ((K.out 9 rfl).trans rfl))))
           (obsN_cons (ob_detg rfl rfl rfl (fun _ => rfl) (fun a' w' ph K => (guard_eq (show sl a' 55 = .bool ((r16.1.length : Int) == 1) from K.dep 7 55 rfl rfl) hc22)) (fun a' w' ph K => x_min (es (t := 65) (v := I (p1 % (((p0 % 7) + 1) + 1))) (K.dep 17 65 rfl rfl)) (es (t := 66) (v := I (p2 % (((p0 % 7) + 1) + 1))) (K.dep 18 66 rfl rfl))))
           (obsN_cons (ob_detg rfl rfl rfl (fun _ => rfl) (fun a' w' ph K => (guard_eq (show sl a' 55 = .bool ((r16.1.length : Int) == 1) from K.dep 7 55 rfl rfl) hc22)) (fun a' w' ph K => x_sub (es (t := 64) (v := I ((p0 % 7) + 1)) (K.dep 16 64 rfl rfl)) (es (t := 67) (v := I (min (p1 % (((p0 % 7) + 1) + 1)) (p2 % (((p0 % 7) + 1) + 1)))) (K.dep 19 67 rfl rfl)) hf25))
           (obsN_cons (ob_extg rfl rfl rfl (fun a' w' ph K => (guard_eq (show sl a' 55 = .bool ((r16.1.length : Int) == 1) from K.dep 7 55 rfl rfl) hc22)) (fun a' w' ph K => (x_call0 own_50 rfl (am2 (es (t := 63) (v := I (((p0 % 7) + 1) - (max (p1 % (((p0 % 7) + 1) + 1)) (p2 % (((p0 % 7) + 1) + 1))))) (K.dep 15 63 rfl rfl)) (es (t := 68) (v := I (((p0 % 7) + 1) - (min (p1 % (((p0 % 7) + 1) + 1)) (p2 % (((p0 % 7) + 1) + 1))))) (K.dep 20 68 rfl rfl))) (a50 K_ (((p0 % 7) + 1) - (max (p1 % (((p0 % 7) + 1) + 1)) (p2 % (((p0 % 7) + 1) + 1)))) (((p0 % 7) + 1) - (min (p1 % (((p0 % 7) + 1) + 1)) (p2 % (((p0 % 7) + 1) + 1)))) ZA _ r26 hr26)).mono (fun _ _ h => ⟨(by obtain ⟨_, rfl, rfl⟩ := h.2; rfl), h.1⟩)))
           (obsN_cons (ob_detg rfl rfl rfl (fun _ => rfl) (fun a' w' ph K => (guard_eq (show sl a' 55 = .bool ((r16.1.length : Int) == 1) from K.dep 7 55 rfl rfl) hc22)) (fun a' w' ph K => x_eqA (x1 := [x23.1, x23.2]) (x2 := [r26.1, r26.2]) keq_33 eqg_33 (es (t := 58) (v := .agg #[I x23.1, I x23.2]) (K.dep 10 58 rfl rfl)) (es (t := 69) (v := .agg #[I r26.1, I r26.2]) (K.dep 21 69 rfl rfl)) rfl rfl rfl rfl))
           (obsN_cons (od rfl (fun _ => rfl) (fun K => x_pick_t (v := .bool ([x23.1, x23.2] == [r26.1, r26.2])) (es (t := 55) (v := .bool ((r16.1.length : Int) == 1)) (K.dep 7 55 rfl rfl)) hc22 (es (t := 70) (v := .bool ([x23.1, x23.2] == [r26.1, r26.2])) (K.dep 22 70 rfl rfl))))
           (obsN_cons (od rfl (fun _ => rfl) (fun K => x_move (v := .bool ([x23.1, x23.2] == [r26.1, r26.2])) (es (t := 71) (v := .bool ([x23.1, x23.2] == [r26.1, r26.2])) (K.dep 23 71 rfl rfl))))
           (obsN_cons (ob_detg rfl rfl rfl (fun _ => rfl) (fun a' w' ph K => (guard_eq (show sl a' 72 = .bool ([x23.1, x23.2] == [r26.1, r26.2]) from K.dep 24 72 rfl rfl) hc27)) (fun a' w' ph K => x_move (v := I r18.2) (es (t := 14) (v := I r18.2) ((K.out 14 rfl).trans rfl))))
           (obsN_cons (ob_detg rfl rfl rfl (fun _ => rfl) (fun a' w' ph K => (guard_eq (show sl a' 72 = .bool ([x23.1, x23.2] == [r26.1, r26.2]) from K.dep 24 72 rfl rfl) hc27)) (fun a' w' ph K => x_eql (es (t := 73) (v := I r18.2) (K.dep 25 73 rfl rfl)) (ec (v := I 0))))
           (obsN_cons (od rfl (fun _ => rfl) (fun K => x_pick_t (v := .bool (r18.2 == 0)) (es (t := 72) (v := .bool ([x23.1, x23.2] == [r26.1, r26.2])) (K.dep 24 72 rfl rfl)) hc27 (es (t := 74) (v := .bool (r18.2 == 0)) (K.dep 26 74 rfl rfl))))
           (obsN_cons (od rfl (fun _ => rfl) (fun K => x_move (v := .bool (r18.2 == 0)) (es (t := 75) (v := .bool (r18.2 == 0)) (K.dep 27 75 rfl rfl))))
           (obsN_cons (ob_detg rfl rfl rfl (fun _ => rfl) (fun a' w' ph K => (guard_eq (show sl a' 76 = .bool (r18.2 == 0) from K.dep 28 76 rfl rfl) hc28)) (fun a' w' ph K => x_move (v := I (p1 % (((p0 % 7) + 1) + 1))) (es (t := 8) (v := I (p1 % (((p0 % 7) + 1) + 1))) ((K.out 8 rfl).trans rfl))))
           (obsN_cons (ob_detg rfl rfl rfl (fun _ => rfl) (fun a' w' ph K => (guard_eq (show sl a' 76 = .bool (r18.2 == 0) from K.dep 28 76 rfl rfl) hc28)) (fun a' w' ph K => x_move (v := I (p2 % (((p0 % 7) + 1) + 1))) (es (t := 9) (v := I (p2 % (((p0 % 7) + 1) + 1))) ((K.out 9 rfl).trans rfl))))
           (obsN_cons (ob_detg rfl rfl rfl (fun _ => rfl) (fun a' w' ph K => (guard_eq (show sl a' 76 = .bool (r18.2 == 0) from K.dep 28 76 rfl rfl) hc28)) (fun a' w' ph K => x_neq (es (t := 77) (v := I (p1 % (((p0 % 7) + 1) + 1))) (K.dep 29 77 rfl rfl)) (es (t := 78) (v := I (p2 % (((p0 % 7) + 1) + 1))) (K.dep 30 78 rfl rfl))))
           (obsN_cons (ob_detg rfl rfl rfl (fun _ => rfl) (fun a' w' ph K => (guard_eq (show sl a' 76 = .bool (r18.2 == 0) from K.dep 28 76 rfl rfl) hc28)) (fun a' w' ph K => x_move (v := .bool ((p1 % (((p0 % 7) + 1) + 1)) != (p2 % (((p0 % 7) + 1) + 1)))) (es (t := 79) (v := .bool ((p1 % (((p0 % 7) + 1) + 1)) != (p2 % (((p0 % 7) + 1) + 1)))) (K.dep 31 79 rfl rfl))))
           (obsN_cons (ob_skip (c := true) rfl rfl rfl (by decide) (fun a' w' ph K => (guard_eq (show sl a' 80 = .bool ((p1 % (((p0 % 7) + 1) + 1)) != (p2 % (((p0 % 7) + 1) + 1))) from K.dep 32 80 rfl rfl) hc29)) (fun _ => rfl))
           (obsN_cons (ob_skip (c := true) rfl rfl rfl (by decide) (fun a' w' ph K => (guard_eq (show sl a' 80 = .bool ((p1 % (((p0 % 7) + 1) + 1)) != (p2 % (((p0 % 7) + 1) + 1))) from K.dep 32 80 rfl rfl) hc29)) (fun _ => rfl))
           (obsN_cons (ob_skip (c := true) rfl rfl rfl (by decide) (fun a' w' ph K => (guard_eq (show sl a' 80 = .bool ((p1 % (((p0 % 7) + 1) + 1)) != (p2 % (((p0 % 7) + 1) + 1))) from K.dep 32 80 rfl rfl) hc29)) (fun _ => rfl))
           (obsN_cons (ob_detg rfl rfl rfl (fun _ => rfl) (fun a' w' ph K => (guard_eq (show sl a' 76 = .bool (r18.2 == 0) from K.dep 28 76 rfl rfl) hc28)) (fun a' w' ph K => x_pick_t (v := .bool true) (es (t := 80) (v := .bool ((p1 % (((p0 % 7) + 1) + 1)) != (p2 % (((p0 % 7) + 1) + 1)))) (K.dep 32 80 rfl rfl)) hc29 (ec (v := .bool true))))
           (obsN_cons (od rfl (fun _ => rfl) (fun K => x_pick_t (v := .bool true) (es (t := 76) (v := .bool (r18.2 == 0)) (K.dep 28 76 rfl rfl)) hc28 (es (t := 84) (v := .bool true) (K.dep 36 84 rfl rfl))))
           (obsN_cons (od rfl (fun _ => rfl) (fun K => x_move (v := .bool true) (es (t := 85) (v := .bool true) (K.dep 37 85 rfl rfl))))
           (obsN_cons (ob_detg rfl rfl rfl (fun _ => rfl) (fun a' w' ph K => (show sl a' 86 = .bool true from K.dep 38 86 rfl rfl)) (fun a' w' ph K => x_move (v := I (p1 % (((p0 % 7) + 1) + 1))) (es (t := 8) (v := I (p1 % (((p0 % 7) + 1) + 1))) ((K.out 8 rfl).trans rfl))))
           (obsN_cons (ob_detg rfl rfl rfl (fun _ => rfl) (fun a' w' ph K => (show sl a' 86 = .bool true from K.dep 38 86 rfl rfl)) (fun a' w' ph K => x_move (v := I (p2 % (((p0 % 7) + 1) + 1))) (es (t := 9) (v := I (p2 % (((p0 % 7) + 1) + 1))) ((K.out 9 rfl).trans rfl))))
           (obsN_cons (ob_detg rfl rfl rfl (fun _ => rfl) (fun a' w' ph K => (show sl a' 86 = .bool true from K.dep 38 86 rfl rfl)) (fun a' w' ph K => x_eql (es (t := 87) (v := I (p1 % (((p0 % 7) + 1) + 1))) (K.dep 39 87 rfl rfl)) (es (t := 88) (v := I (p2 % (((p0 % 7) + 1) + 1))) (K.dep 40 88 rfl rfl))))
           (obsN_cons (ob_detg rfl rfl rfl (fun _ => rfl) (fun a' w' ph K => (show sl a' 86 = .bool true from K.dep 38 86 rfl rfl)) (fun a' w' ph K => x_move (v := .bool ((p1 % (((p0 % 7) + 1) + 1)) == (p2 % (((p0 % 7) + 1) + 1)))) (es (t := 89) (v := .bool ((p1 % (((p0 % 7) + 1) + 1)) == (p2 % (((p0 % 7) + 1) + 1)))) (K.dep 41 89 rfl rfl))))
           (obsN_cons (ob_skip (c := true) rfl rfl rfl (by decide) (fun a' w' ph K => (guard_eq (show sl a' 90 = .bool ((p1 % (((p0 % 7) + 1) + 1)) == (p2 % (((p0 % 7) + 1) + 1))) from K.dep 42 90 rfl rfl) hc30)) (fun _ => rfl))
           (obsN_cons (ob_skip (c := true) rfl rfl rfl (by decide) (fun a' w' ph K => (guard_eq (show sl a' 90 = .bool ((p1 % (((p0 % 7) + 1) + 1)) == (p2 % (((p0 % 7) + 1) + 1))) from K.dep 42 90 rfl rfl) hc30)) (fun _ => rfl))
           (obsN_cons (ob_skip (c := true) rfl rfl rfl (by decide) (fun a' w' ph K => (guard_eq (show sl a' 90 = .bool ((p1 % (((p0 % 7) + 1) + 1)) == (p2 % (((p0 % 7) + 1) + 1))) from K.dep 42 90 rfl rfl) hc30)) (fun _ => rfl))
           (obsN_cons (ob_detg rfl rfl rfl (fun _ => rfl) (fun a' w' ph K => (show sl a' 86 = .bool true from K.dep 38 86 rfl rfl)) (fun a' w' ph K => x_pick_t (v := .bool true) (es (t := 90) (v := .bool ((p1 % (((p0 % 7) + 1) + 1)) == (p2 % (((p0 % 7) + 1) + 1)))) (K.dep 42 90 rfl rfl)) hc30 (ec (v := .bool true))))
           (obsN_cons (od rfl (fun _ => rfl) (fun K => x_pick_t (v := .bool true) (es (t := 86) (v := .bool true) (K.dep 38 86 rfl rfl)) rfl (es (t := 94) (v := .bool true) (K.dep 46 94 rfl rfl))))
           (obsN_cons (od rfl (fun _ => rfl) (fun K => x_move (v := .bool true) (es (t := 95) (v := .bool true) (K.dep 47 95 rfl rfl))))
           (obsN_cons (ob_extg rfl rfl rfl (fun a' w' ph K => (show sl a' 96 = .bool true from K.dep 48 96 rfl rfl)) (fun a' w' ph K => (x_call0 own_21 rfl am0 (a21 K_ ZA _ hw31)).mono (fun _ _ h => ⟨h.2, h.1⟩)))
           (obsN_cons (od rfl (fun _ => rfl) (fun K => x_pick_t (v := .bool true) (es (t := 96) (v := .bool true) (K.dep 48 96 rfl rfl)) rfl (es (t := 97) (v := .bool true) (K.dep 49 97 rfl rfl))))
           (obsN_nil _)))))))))))))))))))))))))))))))))))))))))))))))))))) ?_
       intro w20
       rintro _ rfl _ rfl _ rfl _ rfl _ rfl _ rfl _ rfl _ rfl _ rfl _ rfl _ rfl _ rfl _ rfl _ rfl _ rfl _ rfl _ rfl _ rfl _ rfl _ rfl _ rfl _ rfl _ rfl _ rfl _ rfl _ rfl _ rfl _ rfl _ rfl _ rfl _ rfl _ rfl _ rfl _ rfl _ rfl _ rfl _ rfl _ rfl _ rfl _ rfl _ rfl _ rfl _ rfl _ rfl _ rfl _ rfl _ rfl _ rfl _ rfl _ rfl _ rfl hx20
       have hp7 : Hp w [some b14] w20 := hp6.ext hx20
       refine wa rfl (v := .bool true) rfl <| wl_end <| lv_next <| cc_ret ?_
       have hr_ := Option.some.inj hG
       refine lv_ret1 rfl rfl ?_
       exact ⟨hp7.fin, congrArg Value.bool hr_⟩
      ·replace hG := cond_f hG hc30
       rcases bool_cases (decide (0 < (r18.1.length : Int))) with hc32 | hc32
       ·replace hG := cond_t hG hc32
        replace hG := ifo_bind hG; obtain ⟨hw33, hG⟩ := hG
        refine cc_anyM0 51 [Kc (I r16.2), Kc (.bool (r16.2 == 0)), Kc (.bool (r16.2 == 0)), Kc (.slice A16_ra r16.1.length c16_ra), Kc (I (r16.1.length : Int)), Kc (.bool ((r16.1.length : Int) == 1)), Kc (.bool ((r16.1.length : Int) == 1)), Kc (.bool ((r16.1.length : Int) == 1)), Kc (.slice A16_ra r16.1.length c16_ra), Kc (pt b23 (o23 + i23 * 2)), Kc (.agg #[I x23.1, I x23.2]), Kc (I ((p0 % 7) + 1)), Kc (I (p1 % (((p0 % 7) + 1) + 1))), Kc (I (p2 % (((p0 % 7) + 1) + 1))), Kc (I (max (p1 % (((p0 % 7) + 1) + 1)) (p2 % (((p0 % 7) + 1) + 1)))), Kc (I (((p0 % 7) + 1) - (max (p1 % (((p0 % 7) + 1) + 1)) (p2 % (((p0 % 7) + 1) + 1))))), Kc (I ((p0 % 7) + 1)), Kc (I (p1 % (((p0 % 7) + 1) + 1))), Kc (I (p2 % (((p0 % 7) + 1) + 1))), Kc (I (min (p1 % (((p0 % 7) + 1) + 1)) (p2 % (((p0 % 7) + 1) + 1)))), Kc (I (((p0 % 7) + 1) - (min (p1 % (((p0 % 7) + 1) + 1)) (p2 % (((p0 % 7) + 1) + 1))))), Kc (.agg #[I r26.1, I r26.2]), Kc (.bool ([x23.1, x23.2] == [r26.1, r26.2])), Kc (.bool ([x23.1, x23.2] == [r26.1, r26.2])), Kc (.bool ([x23.1, x23.2] == [r26.1, r26.2])), Kc (I r18.2), Kc (.bool (r18.2 == 0)), Kc (.bool (r18.2 == 0)), Kc (.bool (r18.2 == 0)), Kc (I (p1 % (((p0 % 7) + 1) + 1))), Kc (I (p2 % (((p0 % 7) + 1) + 1))), Kc (.bool ((p1 % (((p0 % 7) + 1) + 1)) != (p2 % (((p0 % 7) + 1) + 1)))), Kc (.bool ((p1 % (((p0 % 7) + 1) + 1)) != (p2 % (((p0 % 7) + 1) + 1)))), Kc undef, Kc undef, Kc undef, Kc (.bool true), Kc (.bool true), Kc (.bool true), Kc (I (p1 % (((p0 % 7) + 1) + 1))), Kc (I (p2 % (((p0 % 7) + 1) + 1))), Kc (.bool ((p1 % (((p0 % 7) + 1) + 1)) == (p2 % (((p0 % 7) + 1) + 1)))), Kc (.bool ((p1 % (((p0 % 7) + 1) + 1)) == (p2 % (((p0 % 7) + 1) + 1)))), Kc (.slice A18_ra r18.1.length c18_ra), Kc (I (r18.1.length : Int)), Kc (.bool (decide (0 < (r18.1.length : Int)))), Kc (.bool (decide (0 < (r18.1.length : Int)))), Kc (.bool (decide (0 < (r18.1.length : Int)))), Kc (.bool (decide (0 < (r18.1.length : Int)))), Kc (.bool true), Kc (.bool true)] mixedL14 rfl rfl
            (obsN_cons (od rfl (fun _ => rfl) (fun K => x_move (v := I r16.2) (es (t := 12) (v := I r16.2) ((K.out 12 rfl).trans rfl))))
            (obsN_cons (od rfl (fun _ => rfl) (fun K => x_eql (es (t := 48) (v := I r16.2) (K.dep 0 48 rfl rfl)) (ec (v := I 0))))
            (obsN_cons (od rfl (fun _ => rfl) (fun K => x_move (v := .bool (r16.2 == 0)) (es (t := 49) (v := .bool (r16.2 == 0)) (K.dep 1 49 rfl rfl))))
            (obsN_cons (ob_detg rfl rfl rfl (fun _ => rfl) (fun a' w' ph K => (guard_eq (show sl a' 50 = .bool (r16.2 == 0) from K.dep 2 50 rfl rfl) hc21)) (fun a' w' ph K => x_move (v := .slice A16_ra r16.1.length c16_ra) (es (t := 11) (v := .slice A16_ra r16.1.length c16_ra) ((K.out 11 rfl).trans rfl))))
            (obsN_cons (ob_detg rfl rfl rfl (fun _ => rfl) (fun a' w' ph K => (guard_eq (show sl a' 50 = .bool (r16.2 == 0) from K.dep 2 50 rfl rfl) hc21)) (fun a' w' ph K => x_len Try.underlying29 (es (t := 51) (v := .slice A16_ra r16.1.length c16_ra) (K.dep 3 51 rfl rfl))))
            (obsN_cons (ob_detg rfl rfl rfl (fun _ => rfl) (fun a' w' ph K => (guard_eq (show sl a' 50 = .bool (r16.2 == 0) from K.dep 2 50 rfl rfl) hc21)) (fun a' w' ph K => x_eql (es (t := 52) (v := I (r16.1.length : Int)) (K.dep 4 52 rfl rfl)) (ec (v := I 1))))
            (obsN_cons (od rfl (fun _ => rfl) (fun K => x_pick_t (v := .bool ((r16.1.length : Int) == 1)) (es (t := 50) (v := .bool (r16.2 == 0)) (K.dep 2 50 rfl rfl)) hc21 (es (t := 53) (v := .bool ((r16.1.length : Int) == 1)) (K.dep 5 53 rfl rfl))))
            (obsN_cons (od rfl (fun _ => rfl) (fun K => x_move (v := .bool ((r16.1.length : Int) == 1)) (es (t := 54) (v := .bool ((r16.1.length : Int) == 1)) (K.dep 6 54 rfl rfl))))
            (obsN_cons (ob_detg rfl rfl rfl (fun _ => rfl) (fun a' w' ph K => (guard_eq (show sl a' 55 = .bool ((r16.1.length : Int) == 1) from K.dep 7 55 rfl rfl) hc22)) (fun a' w' ph K => x_move (v := .slice A16_ra r16.1.length c16_ra) (es (t := 11) (v := .slice A16_ra r16.1.length c16_ra) ((K.out 11 rfl).trans rfl))))
            (obsN_cons (ob_detg rfl rfl rfl (fun _ => rfl) (fun a' w' ph K => (guard_eq (show sl a' 55 = .bool ((r16.1.length : Int) == 1) from K.dep 7 55 rfl rfl) hc22)) (fun a' w' ph K => x_indexAddrN (k := i23) Try.underlying29 sz_33 (es (t := 56) (v := .slice A16_ra r16.1.length c16_ra) (K.dep 8 56 rfl rfl)) hA23 (ec (v := I 0)) hi23 hl23))
            (obsN_cons (ob_detg rfl rfl rfl (fun _ => rfl) (fun a' w' ph K => (guard_eq (show sl a' 55 = .bool ((r16.1.length : Int) == 1) from K.dep 7 55 rfl rfl) hc22)) (fun a' w' ph K => x_load_zn0 (l := [I x23.1, I x23.2]) agg_33 (es (t := 57) (v := pt b23 (o23 + i23 * 2)) (K.dep 9 57 rfl rfl)) (hz23.mv (mv_ext K.phT)) rfl rfl))
            (obsN_cons (ob_detg rfl rfl rfl (fun _ => rfl) (fun a' w' ph K => (guard_eq (show sl a' 55 = .bool ((r16.1.length : Int) == 1) from K.dep 7 55 rfl rfl) hc22)) (fun a' w' ph K => x_move (v := I ((p0 % 7) + 1)) (es (t := 7) (v := I ((p0 % 7) + 1)) ((K.out 7 rfl).trans rfl))))
            (obsN_cons (ob_detg rfl rfl rfl (fun _ => rfl) (fun a' w' ph K => (guard_eq (show sl a' 55 = .bool ((r16.1.length : Int) == 1) from K.dep 7 55 rfl rfl) hc22)) (fun a' w' ph K => x_move (v := I (p1 % (((p0 % 7) + 1) + 1))) (es (t := 8) (v := I (p1 % (((p0 % 7) + 1) + 1))) ((K.out 8 rfl).trans rfl))))
            (obsN_cons (ob_detg rfl rfl rfl (fun _ => rfl) (fun a' w' ph K => (guard_eq (show sl a' 55 = .bool ((r16.1.length : Int) == 1) from K.dep 7 55 rfl rfl) hc22)) (fun a' w' ph K => x_move (v := I (p2 % (((p0 % 7) + 1) + 1))) (es (t := 9) (v := I (p2 % (((p0 % 7) + 1) + 1))) ((K.out 9 rfl).trans rfl))))
            (obsN_cons (ob_detg rfl rfl rfl (fun _ => rfl) (fun a' w' ph K => (guard_eq (show sl a' 55 = .bool ((r16.1.length : Int) == 1) from K.dep 7 55 rfl rfl) hc22)) (fun a' w' ph K => x_max (es (t := 60) (v := I (p1 % (((p0 % 7) + 1) + 1))) (K.dep 12 60 rfl rfl)) (es (t := 61) (v := I (p2 % (((p0 % 7) + 1) + 1))) (K.dep 13 61 rfl rfl))))
            (obsN_cons (ob_detg rfl rfl rfl (fun _ => rfl) (fun a' w' ph K => (guard_eq (show sl a' 55 = .bool ((r16.1.length : Int) == 1) from K.dep 7 55 rfl rfl) hc22)) (fun a' w' ph K => x_sub (es (t := 59) (v := I ((p0 % 7) + 1)) (K.dep 11 59 rfl rfl)) (es (t := 62) (v := I (max (p1 % (((p0 % 7) + 1) + 1)) (p2 % (((p0 % 7) + 1) + 1)))) (K.dep 14 62 rfl rfl)) hf24))
            (obsN_cons (ob_detg rfl rfl rfl (fun _ => rfl) (fun a' w' ph K => (guard_eq (show sl a' 55 = .bool ((r16.1.length : Int) == 1) from K.dep 7 55 rfl rfl) hc22)) (fun a' w' ph K => x_move (v := I ((p0 % 7) + 1)) (es (t := 7) (v := I ((p0 % 7) + 1)) ((K.out 7 rfl).trans rfl))))
            (obsN_cons (ob_detg rfl rfl rfl (fun _ => rfl) (fun a' w' ph K => (guard_eq (show sl a' 55 = .bool ((r16.1.length : Int) == 1) from K.dep 7 55 rfl rfl) hc22)) (fun a' w' ph K => x_move (v := I (p1 % (((p0 % 7) + 1) + 1))) (es (t := 8) (v := I (p1 % (((p0 % 7) + 1) + 1))) ((K.out 8 rfl).trans rfl))))
            (obsN_cons (ob_detg rfl rfl rfl (fun _ => rfl) (fun a' w' ph K => (guard_eq (show sl a' 55 = .bool ((r16.1.length : Int) == 1) from K.dep 7 55 rfl rfl) hc22)) (fun a' w' ph K => x_move (v := I (p2 % (((p0 % 7) + 1) + 1))) (es (t := 9) (v := I (p2 % (((p0 % 7) + 1) + 1))) ((K.out 9 rfl).trans rfl))))
            (obsN_cons (ob_detg rfl rfl rfl (fun _ => rfl) (fun a' w' ph K => (guard_eq (show sl a' 55 = .bool ((r16.1.length : Int) == 1) from K.dep 7 55 rfl rfl) hc22)) (fun a' w' ph K => x_min (es (t := 65) (v := I (p1 % (((p0 % 7) + 1) + 1))) (K.dep 17 65 rfl rfl)) (es (t := 66) (v := I (p2 % (((p0 % 7) + 1) + 1))) (K.dep 18 66 rfl rfl))))
            (obsN_cons (ob_detg rfl rfl rfl (fun _ => rfl) (fun a' w' ph K => (guard_eq (show sl a' 55 = .bool ((r16.1.length : Int) == 1) from K.dep 7 55 rfl rfl) hc22)) (fun a' w' ph K => x_sub (es (t := 64) (v := I ((p0 % 7) + 1)) (K.dep 16 64 rfl rfl)) (es (t := 67) (v := I (min (p1 % (((p0 % 7) + 1) + 1)) (p2 % (((p0 % 7) + 1) + 1)))) (K.dep 19 67 rfl rfl)) hf25))
            (obsN_cons (ob_extg rfl rfl rfl (fun a' w' ph K => (guard_eq (show sl a' 55 = .bool ((r16.1.length : Int) == 1) from K.dep 7 55 rfl rfl) hc22)) (fun a' w' ph K => (x_call0 own_50 rfl (am2 (es (t := 63) (v := I (((p0 % 7) + 1) - (max (p1 % (((p0 % 7) + 1) + 1)) (p2 % (((p0 % 7) + 1) + 1))))) (K.dep 15 63 rfl rfl)) (es (t := 68) (v := I (((p0 % 7) + 1) - (min (p1 % (((p0 % 7) + 1) + 1)) (p2 % (((p0 % 7) + 1) + 1))))) (K.dep 20 68 rfl rfl))) (a50 K_ (((p0 % 7) + 1) - (max (p1 % (((p0 % 7) + 1) + 1)) (p2 % (((p0 % 7) + 1) + 1)))) (((p0 % 7) + 1) - (min (p1 % (((p0 % 7) + 1) + 1)) (p2 % (((p0 % 7) + 1) + 1)))) ZA _ r26 hr26)).mono (fun _ _ h => ⟨(by obtain ⟨_, rfl, rfl⟩ := h.2; rfl), h.1⟩)))
            (obsN_cons (ob_detg rfl rfl rfl (fun _ => rfl) (fun a' w' ph K => (guard_eq (show sl a' 55 = .bool ((r16.1.length : Int) == 1) from K.dep 7 55 rfl rfl) hc22)) (fun a' w' ph K => x_eqA (x1 := [x23.1, x23.2]) (x2 := [r26.1, r26.2]) keq_33 eqg_33 (es (t := 58) (v := .agg #[I x23.1, I x23.2]) (K.dep 10 58 rfl rfl)) (es (t := 69) (v := .agg #[I r26.1, I r26.2]) (K.dep 21 69 rfl rfl)) rfl rfl rfl rfl))
            (obsN_cons (od rfl (fun _ => rfl) (fun K => x_pick_t (v := .bool ([x23.1, x23.2] == [r26.1, r26.2])) (es (t := 55) (v := .bool ((r16.1.length : Int) == 1)) (K.dep 7 55 rfl rfl)) hc22 (es (t := 70) (v := .bool ([x23.1, x23.2] == [r26.1, r26.2])) (K.dep 22 70 rfl rfl))))
            (obsN_cons (od rfl (fun _ => rfl) (fun K => x_move (v := .bool ([x23.1, x23.2] == [r26.1, r26.2])) (es (t := 71) (v := .bool ([x23.1, x23.2] == [r26.1, r26.2])) (K.dep 23 71 rfl rfl))))
            (obsN_cons (ob_detg rfl rfl rfl (fun _ => rfl) (fun a' w' ph K => (guard_eq (show sl a' 72 = .bool ([x23.1, x23.2] == [r26.1, r26.2]) from K.dep 24 72 rfl rfl) hc27)) (fun a' w' ph K => x_move (v := I r18.2) (es (t := 14) (v := I r18.2) ((K.out 14 rfl).trans rfl))))
            (obsN_cons (ob_detg rfl rfl rfl (fun _ => rfl) (fun a' w' ph K => (guard_eq (show sl a' 72 = .bool ([x23.1, x23.2] == [r26.1, r26.2]) from K.dep 24 72 rfl rfl) hc27)) (fun a' w' ph K => x_eql (es (t := 73) (v := I r18.2) (K.dep 25 73 rfl rfl)) (ec (v := I 0))))
            (obsN_cons (od rfl (fun _ => rfl) (fun K => x_pick_t (v := .bool (r18.2 == 0)) (es (t := 72) (v := .bool ([x23.1, x23.2] == [r26.1, r26.2])) (K.dep 24 72 rfl rfl)) hc27 (es (t := 74) (v := .bool (r18.2 == 0)) (K.dep 26 74 rfl rfl))))
            (obsN_cons (od rfl (fun _ => rfl) (fun K => x_move (v := .bool (r18.2 == 0)) (es (t := 75) (v := .bool (r18.2 == 0)) (K.dep 27 75 rfl rfl))))
            (obsN_cons (ob_detg rfl rfl rfl (fun _ => rfl) (fun a' w' ph K => (guard_eq (show sl a' 76 = .bool (r18.2 == 0) from K.dep 28 76 rfl rfl) hc28)) (fun a' w' ph K => x_move (v := I (p1 % (((p0 % 7) + 1) + 1))) (es (t := 8) (v := I (p1 % (((p0 % 7) + 1) + 1))) ((K.out 8 rfl).trans rfl))))
            (obsN_cons (ob_detg rfl rfl rfl (fun _ => rfl) (fun a' w' ph K => (guard_eq (show sl a' 76 = .bool (r18.2 == 0) from K.dep 28 76 rfl rfl) hc28)) (fun a' w' ph K => x_move (v := I (p2 % (((p0 % 7) + 1) + 1))) (es (t := 9) (v := I (p2 % (((p0 % 7) + 1) + 1))) ((K.out 9 rfl).trans rfl))))
            (obsN_cons (ob_detg rfl rfl rfl (fun _ => rfl) (fun a' w' ph K => (guard_eq (show sl a' 76 = .bool (r18.2 == 0) from K.dep 28 76 rfl rfl) hc28)) (fun a' w' ph K => x_neq (es (t := 77) (v := I (p1 % (((p0 % 7) + 1) + 1))) (K.dep 29 77 rfl rfl)) (es (t := 78) (v := I (p2 % (((p0 % 7) + 1) + 1))) (K.dep 30 78 rfl rfl))))
            (obsN_cons (ob_detg rfl rfl rfl (fun _ => rfl) (fun a' w' ph K => (guard_eq (show sl a' 76 = .bool (r18.2 == 0) from K.dep 28 76 rfl rfl) hc28)) (fun a' w' ph K => x_move (v := .bool ((p1 % (((p0 % 7) + 1) + 1)) != (p2 % (((p0 % 7) + 1) + 1)))) (es (t := 79) (v := .bool ((p1 % (((p0 % 7) + 1) + 1)) != (p2 % (((p0 % 7) + 1) + 1)))) (K.dep 31 79 rfl rfl))))
            (obsN_cons (ob_skip (c := true) rfl rfl rfl (by decide) (fun a' w' ph K => (guard_eq (show sl a' 80 = .bool ((p1 % (((p0 % 7) + 1) + 1)) != (p2 % (((p0 % 7) + 1) + 1))) from K.dep 32 80 rfl rfl) hc29)) (fun _ => rfl))
            (obsN_cons (ob_skip (c := true) rfl rfl rfl (by decide) (fun a' w' ph K => (guard_eq (show sl a' 80 = .bool ((p1 % (((p0 % 7) + 1) + 1)) != (p2 % (((p0 % 7) + 1) + 1))) from K.dep 32 80 rfl rfl) hc29)) (fun _ => rfl))
            (obsN_cons (ob_skip (c := true) rfl rfl rfl (by decide) (fun a' w' ph K => (guard_eq (show sl a' 80 = .bool ((p1 % (((p0 % 7) + 1) + 1)) != (p2 % (((p0 % 7) + 1) + 1))) from K.dep 32 80 rfl rfl) hc29)) (fun _ => rfl))
            (obsN_cons (ob_detg rfl rfl rfl (fun _ => rfl) (fun a' w' ph K => (guard_eq (show sl a' 76 = .bool (r18.2 == 0) from K.dep 28 76 rfl rfl) hc28)) (fun a' w' ph K => x_pick_t (v := .bool true) (es (t := 80) (v := .bool ((p1 % (((p0 % 7) + 1) + 1)) != (p2 % (((p0 % 7) + 1) + 1)))) (K.dep 32 80 rfl rfl)) hc29 (ec (v := .bool true))))
            (obsN_cons (od rfl (fun _ => rfl) (fun K => x_pick_t (v := .bool true) (es (t := 76) (v := .bool (r18.2 == 0)) (K.dep 28 76 rfl rfl)) hc28 (es (t := 84) (v := .bool true) (K.dep 36 84 rfl rfl))))
            (obsN_cons (od rfl (fun _ => rfl) (fun K => x_move (v := .bool true) (es (t := 85) (v := .bool true) (K.dep 37 85 rfl rfl))))
            (obsN_cons (ob_detg rfl rfl rfl (fun _ => rfl) (fun a' w' ph K => (show sl a' 86 = .bool true from K.dep 38 86 rfl rfl)) (fun a' w' ph K => x_move (v := I (p1 % (((p0 % 7) + 1) + 1))) (es (t := 8) (v := I (p1 % (((p0 % 7) + 1) + 1))) ((K.out 8 rfl).trans rfl))))
            (obsN_cons (ob_detg rfl rfl rfl (fun _ => rfl) (fun a' w' ph K => (show sl a' 86 = .bool true from K.dep 38 86 rfl rfl)) (fun a' w' ph K => x_move (v := I (p2 % (((p0 % 7) + 1) + 1))) (es (t := 9) (v := I (p2 % (((p0 % 7) + 1) + 1))) ((K.out 9 rfl).trans rfl))))
            (obsN_cons (ob_detg rfl rfl rfl (fun _ => rfl) (fun a' w' ph K => (show sl a' 86 = .bool true from K.dep 38 86 rfl rfl)) (fun a' w' ph K => x_eql (es (t := 87) (v := I (p1 % (((p0 % 7) + 1) + 1))) (K.dep 39 87 rfl rfl)) (es (t := 88) (v := I (p2 % (((p0 % 7) + 1) + 1))) (K.dep 40 88 rfl rfl))))
            (obsN_cons (ob_detg rfl rfl rfl (fun _ => rfl) (fun a' w' ph K => (show sl a' 86 = .bool true from K.dep 38 86 rfl rfl)) (fun a' w' ph K => x_move (v := .bool ((p1 % (((p0 % 7) + 1) + 1)) == (p2 % (((p0 % 7) + 1) + 1)))) (es (t := 89) (v := .bool ((p1 % (((p0 % 7) + 1) + 1)) == (p2 % (((p0 % 7) + 1) + 1)))) (K.dep 41 89 rfl rfl))))
            (obsN_cons (ob_detg rfl rfl rfl (fun _ => rfl) (fun a' w' ph K => (guard_eq (show sl a' 90 = .bool ((p1 % (((p0 % 7) + 1) + 1)) == (p2 % (((p0 % 7) + 1) + 1))) from K.dep 42 90 rfl rfl) hc30)) (fun a' w' ph K => x_move (v := .slice A18_ra r18.1.length c18_ra) (es (t := 13) (v := .slice A18_ra r18.1.length c18_ra) ((K.out 13 rfl).trans rfl))))
            (obsN_cons (ob_detg rfl rfl rfl (fun _ => rfl) (fun a' w' ph K => (guard_eq (show sl a' 90 = .bool ((p1 % (((p0 % 7) + 1) + 1)) == (p2 % (((p0 % 7) + 1) + 1))) from K.dep 42 90 rfl rfl) hc30)) (fun a' w' ph K => x_len Try.underlying43 (es (t := 91) (v := .slice A18_ra r18.1.length c18_ra) (K.dep 43 91 rfl rfl))))
            (obsN_cons (ob_detg rfl rfl rfl (fun _ => rfl) (fun a' w' ph K => (guard_eq (show sl a' 90 = .bool ((p1 % (((p0 % 7) + 1) + 1)) == (p2 % (((p0 % 7) + 1) + 1))) from K.dep 42 90 rfl rfl) hc30)) (fun a' w' ph K => x_gtr (es (t := 92) (v := I (r18.1.length : Int)) (K.dep 44 92 rfl rfl)) (ec (v := I 0))))
            (obsN_cons (ob_detg rfl rfl rfl (fun _ => rfl) (fun a' w' ph K => (show sl a' 86 = .bool true from K.dep 38 86 rfl rfl)) (fun a' w' ph K => x_pick_f (v := .bool (decide (0 < (r18.1.length : Int)))) (es (t := 90) (v := .bool ((p1 % (((p0 % 7) + 1) + 1)) == (p2 % (((p0 % 7) + 1) + 1)))) (K.dep 42 90 rfl rfl)) hc30 (es (t := 93) (v := .bool (decide (0 < (r18.1.length : Int)))) (K.dep 45 93 rfl rfl))))
            (obsN_cons (od rfl (fun _ => rfl) (fun K => x_pick_t (v := .bool (decide (0 < (r18.1.length : Int)))) (es (t := 86) (v := .bool true) (K.dep 38 86 rfl rfl)) rfl (es (t := 94) (v := .bool (decide (0 < (r18.1.length : Int)))) (K.dep 46 94 rfl rfl))))
            (obsN_cons (od rfl (fun _ => rfl) (fun K => x_move (v := .bool (decide (0 < (r18.1.length : Int)))) (es (t := 95) (v := .bool (decide (0 < (r18.1.length : Int)))) (K.dep 47 95 rfl rfl))))
            (obsN_cons (ob_extg rfl rfl rfl (fun a' w' ph K => (guard_eq (show sl a' 96 = .bool (decide (0 < (r18.1.length : Int))) from K.dep 48 96 rfl rfl) hc32)) (fun a' w' ph K => (x_call0 own_21 rfl am0 (a21 K_ ZA _ hw33)).mono (fun _ _ h => ⟨h.2, h.1⟩)))
            (obsN_cons (od rfl (fun _ => rfl) (fun K => x_pick_t (v := .bool true) (es (t := 96) (v := .bool (decide (0 < (r18.1.length : Int)))) (K.dep 48 96 rfl rfl)) hc32 (es (t := 97) (v := .bool true) (K.dep 49 97 rfl rfl))))
            (obsN_nil _)))))))))))))))))))))))))))))))))))))))))))))))))))) ?_
        intro w20
        rintro _ rfl _ rfl _ rfl _ rfl _ rfl _ rfl _ rfl _ rfl _ rfl _ rfl _ rfl _ rfl _ rfl _ rfl _ rfl _ rfl _ rfl _ rfl _ rfl _ rfl _ rfl _ rfl _ rfl _ rfl _ rfl _ rfl _ rfl _ rfl _ rfl _ rfl _ rfl _ rfl _ rfl _ rfl _ rfl _ rfl _ rfl _ rfl _ rfl _ rfl _ rfl _ rfl _ rfl _ rfl _ rfl _ rfl _ rfl _ rfl _ rfl _ rfl _ rfl hx20
        have hp8 : Hp w [some b14] w20 := hp6.ext hx20
        refine wa rfl (v := .bool true) rfl <| wl_end <| lv_next <| cc_ret ?_
        have hr_ := Option.some.inj hG
        refine lv_ret1 rfl rfl ?_
        exact ⟨hp8.fin, congrArg Value.bool hr_⟩
       ·replace hG := cond_f hG hc32
        exact absurd (Option.some.inj hG) (by decide)
     ·replace hG := cond_f hG hc29
      rcases bool_cases ((r18.1.length : Int) == 0) with hc34 | hc34
      ·replace hG := cond_t hG hc34
       rcases bool_cases ((p1 % (((p0 % 7) + 1) + 1)) == (p2 % (((p0 % 7) + 1) + 1))) with hc35 | hc35
       ·replace hG := cond_t hG hc35
        replace hG := ifo_bind hG; obtain ⟨hw36, hG⟩ := hG
        refine cc_anyM0 51 [Kc (I r16.2), Kc (.bool (r16.2 == 0)), Kc (.bool (r16.2 == 0)), Kc (.slice A16_ra r16.1.length c16_ra), Kc (I (r16.1.length : Int)), Kc (.bool ((r16.1.length : Int) == 1)), Kc (.bool ((r16.1.length : Int) == 1)), Kc (.bool ((r16.1.length : Int) == 1)), Kc (.slice A16_ra r16.1.length c16_ra), Kc (pt b23 (o23 + i23 * 2)), Kc (.agg #[I x23.1, I x23.2]), Kc (I ((p0 % 7) + 1)), Kc (I (p1 % (((p0 % 7) + 1) + 1))), Kc (I (p2 % (((p0 % 7) + 1) + 1))), Kc (I (max (p1 % (((p0 % 7) + 1) + 1)) (p2 % (((p0 % 7) + 1) + 1)))), Kc (I (((p0 % 7) + 1) - (max (p1 % (((p0 % 7) + 1) + 1)) (p2 % (((p0 % 7) + 1) + 1))))), Kc (I ((p0 % 7) + 1)), Kc (I (p1 % (((p0 % 7) + 1) + 1))), Kc (I (p2 % (((p0 % 7) + 1) + 1))), Kc (I (min (p1 % (((p0 % 7) + 1) + 1)) (p2 % (((p0 % 7) + 1) + 1)))), Kc (I (((p0 % 7) + 1) - (min (p1 % (((p0 % 7) + 1) + 1)) (p2 % (((p0 % 7) + 1) + 1))))), Kc (.agg #[I r26.1, I r26.2]), Kc (.bool ([x23.1, x23.2] == [r26.1, r26.2])), Kc (.bool ([x23.1, x23.2] == [r26.1, r26.2])), Kc (.bool ([x23.1, x23.2] == [r26.1, r26.2])), Kc (I r18.2), Kc (.bool (r18.2 == 0)), Kc (.bool (r18.2 == 0)), Kc (.bool (r18.2 == 0)), Kc (I (p1 % (((p0 % 7) + 1) + 1))), Kc (I (p2 % (((p0 % 7) + 1) + 1))), Kc (.bool ((p1 % (((p0 % 7) + 1) + 1)) != (p2 % (((p0 % 7) + 1) + 1)))), Kc (.bool ((p1 % (((p0 % 7) + 1) + 1)) != (p2 % (((p0 % 7) + 1) + 1)))), Kc (.slice A18_ra r18.1.length c18_ra), Kc (I (r18.1.length : Int)), Kc (.bool ((r18.1.length : Int) == 0)), Kc (.bool ((r18.1.length : Int) == 0)), Kc (.bool ((r18.1.length : Int) == 0)), Kc (.bool ((r18.1.length : Int) == 0)), Kc (I (p1 % (((p0 % 7) + 1) + 1))), Kc (I (p2 % (((p0 % 7) + 1) + 1))), Kc (.bool ((p1 % (((p0 % 7) + 1) + 1)) == (p2 % (((p0 % 7) + 1) + 1)))), Kc (.bool ((p1 % (((p0 % 7) + 1) + 1)) == (p2 % (((p0 % 7) + 1) + 1)))), Kc undef, Kc undef, Kc undef, Kc (.bool true), Kc (.bool true), Kc (.bool true), Kc (.bool true), Kc (.bool true)] mixedL14 rfl rfl
            (obsN_cons (od rfl (fun _ => rfl) (fun K => x_move (v := I r16.2) (es (t := 12) (v := I r16.2) ((K.out 12 rfl).trans rfl))))
            (obsN_cons (od rfl (fun _ => rfl) (fun K => x_eql (es (t := 48) (v := I r16.2) (K.dep 0 48 rfl rfl)) (ec (v := I 0))))
            (obsN_cons (od rfl (fun _ => rfl) (fun K => x_move (v := .bool (r16.2 == 0)) (es (t := 49) (v := .bool (r16.2 == 0)) (K.dep 1 49 rfl rfl))))
            (obsN_cons (ob_detg rfl rfl rfl (fun _ => rfl) (fun a' w' ph K => (guard_eq (show sl a' 50 = .bool (r16.2 == 0) from K.dep 2 50 rfl rfl) hc21)) (fun a' w' ph K => x_move (v := .slice A16_ra r16.1.length c16_ra) (es (t := 11) (v := .slice A16_ra r16.1.length c16_ra) ((K.out 11 rfl).trans rfl))))
            (obsN_cons (ob_detg rfl rfl rfl (fun _ => rfl) (fun a' w' ph K => (guard_eq (show sl a' 50 = .bool (r16.2 == 0) from K.dep 2 50 rfl rfl) hc21)) (fun a' w' ph K => x_len Try.underlying29 (es (t := 51) (v := .slice A16_ra r16.1.length c16_ra) (K.dep 3 51 rfl rfl))))
            (obsN_cons (ob_detg rfl rfl rfl (fun _ => rfl) (fun a' w' ph K => (guard_eq (show sl a' 50 = .bool (r16.2 == 0) from K.dep 2 50 rfl rfl) hc21)) (fun a' w' ph K => x_eql (es (t := 52) (v := I (r16.1.length : Int)) (K.dep 4 52 rfl rfl)) (ec (v := I 1))))
            (obsN_cons (od rfl (fun _ => rfl) (fun K => x_pick_t (v := .bool ((r16.1.length : Int) == 1)) (es (t := 50) (v := .bool (r16.2 == 0)) (K.dep 2 50 rfl rfl)) hc21 (es (t := 53) (v := .bool ((r16.1.length : Int) == 1)) (K.dep 5 53 rfl rfl))))
            (obsN_cons (od rfl (fun _ => rfl) (fun K => x_move (v := .bool ((r16.1.length : Int) == 1)) (es (t := 54) (v := .bool ((r16.1.length : Int) == 1)) (K.dep 6 54 rfl rfl))))
            (obsN_cons (ob_detg rfl rfl rfl (fun _ => rfl) (fun a' w' ph K => (guard_eq (show sl a' 55 = .bool ((r16.1.length : Int) == 1) from K.dep 7 55 rfl rfl) hc22)) (fun a' w' ph K => x_move (v := .slice A16_ra r16.1.length c16_ra) (es (t := 11) (v := .slice A16_ra r16.1.length c16_ra) ((K.out 11 rfl).trans rfl))))
            (obsN_cons (ob_detg rfl rfl rfl (fun _ => rfl) (fun a' w' ph K => (guard_eq (show sl a' 55 = .bool ((r16.1.length : Int) == 1) from K.dep 7 55 rfl rfl) hc22)) (fun a' w' ph K => x_indexAddrN (k := i23) Try.underlying29 sz_33 (es (t := 56) (v := .slice A16_ra r16.1.length c16_ra) (K.dep 8 56 rfl rfl)) hA23 (ec (v := I 0)) hi23 hl23))
            (obsN_cons (ob_detg rfl rfl rfl (fun _ => rfl) (fun a' w' ph K => (guard_eq (show sl a' 55 = .bool ((r16.1.length : Int) == 1) from K.dep 7 55 rfl rfl) hc22)) (fun a' w' ph K => x_load_zn0 (l := [I x23.1, I x23.2]) agg_33 (es (t := 57) (v := pt b23 (o23 + i23 * 2)) (K.dep 9 57 rfl rfl)) (hz23.mv (mv_ext K.phT)) rfl rfl))
            (obsN_cons (ob_detg rfl rfl rfl (fun _ => rfl) (fun a' w' ph K => (guard_eq (show sl a' 55 = .bool ((r16.1.length : Int) == 1) from K.dep 7 55 rfl rfl) hc22)) (fun a' w' ph K => x_move (v := I ((p0 % 7) + 1)) (es (t := 7) (v := I ((p0 % 7) + 1)) ((K.out 7 rfl).trans rfl))))
            (obsN_cons (ob_detg rfl rfl rfl (fun _ => rfl) (fun a' w' ph K => (guard_eq (show sl a' 55 = .bool ((r16.1.length : Int) == 1) from K.dep 7 55 rfl rfl) hc22)) (fun a' w' ph K => x_move (v := I (p1 % (((p0 % 7) + 1) + 1))) (es (t := 8) (v := I (p1 % (((p0 % 7) + 1) + 1))) ((K.out 8 rfl).trans rfl))))
            (obsN_cons (ob_detg rfl rfl rfl (fun _ => rfl) (fun a' w' ph K => (guard_eq (show sl a' 55 = .bool ((r16.1.length : Int) == 1) from K.dep 7 55 rfl rfl) hc22)) (fun a' w' ph K => x_move (v := I (p2 % (((p0 % 7) + 1) + 1))) (es (t := 9) (v := I (p2 % (((p0 % 7) + 1) + 1))) ((K.out 9 rfl).trans rfl))))
            (obsN_cons (ob_detg rfl rfl rfl (fun _ => rfl) (fun a' w' ph K => (guard_eq (show sl a' 55 = .bool ((r16.1.length : Int) == 1) from K.dep 7 55 rfl rfl) hc22)) (fun a' w' ph K => x_max (es (t := 60) (v := I (p1 % (((p0 % 7) + 1) + 1))) (K.dep 12 60 rfl rfl)) (es (t := 61) (v := I (p2 % (((p0 % 7) + 1) + 1))) (K.dep 13 61 rfl rfl))))
            (obsN_cons (ob_detg rfl rfl rfl (fun _ => rfl) (fun a' w' ph K => (guard_eq (show sl a' 55 = .bool ((r16.1.length : Int) == 1) from K.dep 7 55 rfl rfl) hc22)) (fun a' w' ph K => x_sub (es (t := 59) (v := I ((p0 % 7) + 1)) (K.dep 11 59 rfl rfl)) (es (t := 62) (v := I (max (p1 % (((p0 % 7) + 1) + 1)) (p2 % (((p0 % 7) + 1) + 1)))) (K.dep 14 62 rfl rfl)) hf24))
            (obsN_cons (ob_detg rfl rfl rfl (fun _ => rfl) (fun a' w' ph K => (guard_eq (show sl a' 55 = .bool ((r16.1.length : Int) == 1) from K.dep 7 55 rfl rfl) hc22)) (fun a' w' ph K => x_move (v := I ((p0 % 7) + 1)) (es (t := 7) (v := I ((p0 % 7) + 1)) ((K.out 7 rfl).trans rfl))))
            (obsN_cons (ob_detg rfl rfl rfl (fun _ => rfl) (fun a' w' ph K => (guard_eq (show sl a' 55 = .bool ((r16.1.length : Int) == 1) from K.dep 7 55 rfl rfl) hc22)) (fun a' w' ph K => x_move (v := I (p1 % (((p0 % 7) + 1) + 1))) (es (t := 8) (v := I (p1 % (((p0 % 7) + 1) + 1))) ((K.out 8 rfl).trans rfl))))
            (obsN_cons (ob_detg rfl rfl rfl (fun _ => rfl) (fun a' w' ph K => (guard_eq (show sl a' 55 = .bool ((r16.1.length : Int) == 1) from K.dep 7 55 rfl rfl) hc22)) (fun a' w' ph K => x_move (v := I (p2 % (((p0 % 7) + 1) + 1))) (es (t := 9) (v := I (p2 % (((p0 % 7) + 1) + 1))) ((K.out 9 rfl).trans rfl))))
            (obsN_cons (ob_detg rfl rfl rfl (fun _ => rfl) (fun a' w' ph K => (guard_eq (show sl a' 55 = .bool ((r16.1.length : Int) == 1) from K.dep 7 55 rfl rfl) hc22)) (fun a' w' ph K => x_min (es (t := 65) (v := I (p1 % (((p0 % 7) + 1) + 1))) (K.dep 17 65 rfl rfl)) (es (t := 66) (v := I (p2 % (((p0 % 7) + 1) + 1))) (K.dep 18 66 rfl rfl))))
            (obsN_cons (ob_detg rfl rfl rfl (fun _ => rfl) (fun a' w' ph K => (guard_eq (show sl a' 55 = .bool ((r16.1.length : Int) == 1) from K.dep 7 55 rfl rfl) hc22)) (fun a' w' ph K => x_sub (es (t := 64) (v := I ((p0 % 7) + 1)) (K.dep 16 64 rfl rfl)) (es (t := 67) (v := I (min (p1 % (((p0 % 7) + 1) + 1)) (p2 % (((p0 % 7) + 1) + 1)))) (K.dep 19 67 rfl rfl)) hf25))
            (obsN_cons (ob_extg rfl rfl rfl (fun a' w' ph K => (guard_eq (show sl a' 55 = .bool ((r16.1.length : Int) == 1) from K.dep 7 55 rfl rfl) hc22)) (fun a' w' ph K => (x_call0 own_50 rfl (am2 (es (t := 63) (v := I (((p0 % 7) + 1) - (max (p1 % (((p0 % 7) + 1) + 1)) (p2 % (((p0 % 7) + 1) + 1))))) (K.dep 15 63 rfl rfl)) (es (t := 68) (v := I (((p0 % 7) + 1) - (min (p1 % (((p0 % 7) + 1) + 1)) (p2 % (((p0 % 7) + 1) + 1))))) (K.dep 20 68 rfl rfl))) (a50 K_ (((p0 % 7) + 1) - (max (p1 % (((p0 % 7) + 1) + 1)) (p2 % (((p0 % 7) + 1) + 1)))) (((p0 % 7) + 1) - (min (p1 % (((p0 % 7) + 1) + 1)) (p2 % (((p0 % 7) + 1) + 1)))) ZA _ r26 hr26)).mono (fun _ _ h => ⟨(by obtain ⟨_, rfl, rfl⟩ := h.2; rfl), h.1⟩)))
            (obsN_cons (ob_detg rfl rfl rfl (fun _ => rfl) (fun a' w' ph K => (guard_eq (show sl a' 55 = .bool ((r16.1.length : Int) == 1) from K.dep 7 55 rfl rfl) hc22)) (fun a' w' ph K => x_eqA (x1 := [x23.1, x23.2]) (x2 := [r26.1, r26.2]) keq_33 eqg_33 (es (t := 58) (v := .agg #[I x23.1, I x23.2]) (K.dep 10 58 rfl rfl)) (es (t := 69) (v := .agg #[I r26.1, I r26.2]) (K.dep 21 69 rfl rfl)) rfl rfl rfl rfl))
            (obsN_cons (od rfl (fun _ => rfl) (fun K => x_pick_t (v := .bool ([x23.1, x23.2] == [r26.1, r26.2])) (es (t := 55) (v := .bool ((r16.1.length : Int) == 1)) (K.dep 7 55 rfl rfl)) hc22 (es (t := 70) (v := .bool ([x23.1, x23.2] == [r26.1, r26.2])) (K.dep 22 70 rfl rfl))))
            (obsN_cons (od rfl (fun _ => rfl) (fun K => x_move (v := .bool ([x23.1, x23.2] == [r26.1, r26.2])) (es (t := 71) (v := .bool ([x23.1, x23.2] == [r26.1, r26.2])) (K.dep 23 71 rfl rfl))))
            (obsN_cons (ob_detg rfl rfl rfl (fun _ => rfl) (fun a' w' ph K => (guard_eq (show sl a' 72 = .bool ([x23.1, x23.2] == [r26.1, r26.2]) from K.dep 24 72 rfl rfl) hc27)) (fun a' w' ph K => x_move (v := I r18.2) (es (t := 14) (v := I r18.2) ((K.out 14 rfl).trans rfl))))
            (obsN_cons (ob_detg rfl rfl rfl (fun _ => rfl) (fun a' w' ph K => (guard_eq (show sl a' 72 = .bool ([x23.1, x23.2] == [r26.1, r26.2]) from K.dep 24 72 rfl rfl) hc27)) (fun a' w' ph K => x_eql (es (t := 73) (v := I r18.2) (K.dep 25 73 rfl rfl)) (ec (v := I 0))))
            (obsN_cons (od rfl (fun _ => rfl) (fun K => x_pick_t (v := .bool (r18.2 == 0)) (es (t := 72) (v := .bool ([x23.1, x23.2] == [r26.1, r26.2])) (K.dep 24 72 rfl rfl)) hc27 (es (t := 74) (v := .bool (r18.2 == 0)) (K.dep 26 74 rfl rfl))))
            (obsN_cons (od rfl (fun _ => rfl) (fun K => x_move (v := .bool (r18.2 == 0)) (es (t := 75) (v := .bool (r18.2 == 0)) (K.dep 27 75 rfl rfl))))
            (obsN_cons (ob_detg rfl rfl rfl (fun _ => rfl) (fun a' w' ph K => (guard_eq (show sl a' 76 = .bool (r18.2 == 0) from K.dep 28 76 rfl rfl) hc28)) (fun a' w' ph K => x_move (v := I (p1 % (((p0 % 7) + 1) + 1))) (es (t := 8) (v := I (p1 % (((p0 % 7) + 1) + 1))) ((K.out 8 rfl).trans rfl))))
            (obsN_cons (ob_detg rfl rfl rfl (fun _ => rfl) (fun a' w' ph K => (guard_eq (show sl a' 76 = .bool (r18.2 == 0) from K.dep 28 76 rfl rfl) hc28)) (fun a' w' ph K => x_move (v := I (p2 % (((p0 % 7) + 1) + 1))) (es (t := 9) (v := I (p2 % (((p0 % 7) + 1) + 1))) ((K.out 9 rfl).trans rfl))))
            (obsN_cons (ob_detg rfl rfl rfl (fun _ => rfl) (fun a' w' ph K => (guard_eq (show sl a' 76 = .bool (r18.2 == 0) from K.dep 28 76 rfl rfl) hc28)) (fun a' w' ph K => x_neq (es (t := 77) (v := I (p1 % (((p0 % 7) + 1) + 1))) (K.dep 29 77 rfl rfl)) (es (t := 78) (v := I (p2 % (((p0 % 7) + 1) + 1))) (K.dep 30 78 rfl rfl))))
            (obsN_cons (ob_detg rfl rfl rfl (fun _ => rfl) (fun a' w' ph K => (guard_eq (show sl a' 76 = .bool (r18.2 == 0) from K.dep 28 76 rfl rfl) hc28)) (fun a' w' ph K => x_move (v := .bool ((p1 % (((p0 % 7) + 1) + 1)) != (p2 % (((p0 % 7) + 1) + 1)))) (es (t := 79) (v := .bool ((p1 % (((p0 % 7) + 1) + 1)) != (p2 % (((p0 % 7) + 1) + 1)))) (K.dep 31 79 rfl rfl))))
            (obsN_cons (ob_detg rfl rfl rfl (fun _ => rfl) (fun a' w' ph K => (guard_eq (show sl a' 80 = .bool ((p1 % (((p0 % 7) + 1) + 1)) != (p2 % (((p0 % 7) + 1) + 1))) from K.dep 32 80 rfl rfl) hc29)) (fun a' w' ph K => x_move (v := .slice A18_ra r18.1.length c18_ra) (es (t := 13) (v := .slice A18_ra r18.1.length c18_ra) ((K.out 13 rfl).trans rfl))))
            (obsN_cons (ob_detg rfl rfl rfl (fun _ => rfl) (fun a' w' ph K => (guard_eq (show sl a' 80 = .bool ((p1 % (((p0 % 7) + 1) + 1)) != (p2 % (((p0 % 7) + 1) + 1))) from K.dep 32 80 rfl rfl) hc29)) (fun a' w' ph K => x_len Try.underlying43 (es (t := 81) (v := .slice A18_ra r18.1.length c18_ra) (K.dep 33 81 rfl rfl))))
            (obsN_cons (ob_detg rfl rfl rfl (fun _ => rfl) (fun a' w' ph K => (guard_eq (show sl a' 80 = .bool ((p1 % (((p0 % 7) + 1) + 1)) != (p2 % (((p0 % 7) + 1) + 1))) from K.dep 32 80 rfl rfl) hc29)) (fun a' w' ph K => x_eql (es (t := 82) (v := I (r18.1.length : Int)) (K.dep 34 82 rfl rfl)) (ec (v := I 0))))
            (obsN_cons (ob_detg rfl rfl rfl (fun _ => rfl) (fun a' w' ph K => (guard_eq (show sl a' 76 = .bool (r18.2 == 0) from K.dep 28 76 rfl rfl) hc28)) (fun a' w' ph K => x_pick_f (v := .bool ((r18.1.length : Int) == 0)) (es (t := 80) (v := .bool ((p1 % (((p0 % 7) + 1) + 1)) != (p2 % (((p0 % 7) + 1) + 1)))) (K.dep 32 80 rfl rfl)) hc29 (es (t := 83) (v := .bool ((r18.1.length : Int) == 0)) (K.dep 35 83 rfl rfl))))
            (obsN_cons (od rfl (fun _ => rfl) (fun K => x_pick_t (v := .bool ((r18.1.length : Int) == 0)) (es (t := 76) (v := .bool (r18.2 == 0)) (K.dep 28 76 rfl rfl)) hc28 (es (t := 84) (v := .bool ((r18.1.length : Int) == 0)) (K.dep 36 84 rfl rfl))))
            (obsN_cons (od rfl (fun _ => rfl) (fun K => x_move (v := .bool ((r18.1.length : Int) == 0)) (es (t := 85) (v := .bool ((r18.1.length : Int) == 0)) (K.dep 37 85 rfl rfl))))
            (obsN_cons (ob_detg rfl rfl rfl (fun _ => rfl) (fun a' w' ph K => (guard_eq (show sl a' 86 = .bool ((r18.1.length : Int) == 0) from K.dep 38 86 rfl rfl) hc34)) (fun a' w' ph K => x_move (v := I (p1 % (((p0 % 7) + 1) + 1))) (es (t := 8) (v := I (p1 % (((p0 % 7) + 1) + 1))) ((K.out 8 rfl).trans rfl))))
            (obsN_cons (ob_detg rfl rfl rfl (fun _ => rfl) (fun a' w' ph K => (guard_eq (show sl a' 86 = .bool ((r18.1.length : Int) == 0) from K.dep 38 86 rfl rfl) hc34)) (fun a' w' ph K => x_move (v := I (p2 % (((p0 % 7) + 1) + 1))) (es (t := 9) (v := I (p2 % (((p0 % 7) + 1) + 1))) ((K.out 9 rfl).trans rfl))))
            (obsN_cons (ob_detg rfl rfl rfl (fun _ => rfl) (fun a' w' ph K => (guard_eq (show sl a' 86 = .bool ((r18.1.length : Int) == 0) from K.dep 38 86 rfl rfl) hc34)) (fun a' w' ph K => x_eql (es (t := 87) (v := I (p1 % (((p0 % 7) + 1) + 1))) (K.dep 39 87 rfl rfl)) (es (t := 88) (v := I (p2 % (((p0 % 7) + 1) + 1))) (K.dep 40 88 rfl rfl))))
            (obsN_cons (ob_detg rfl rfl rfl (fun _ => rfl) (fun a' w' ph K => (guard_eq (show sl a' 86 = .bool ((r18.1.length : Int) == 0) from K.dep 38 86 rfl rfl) hc34)) (fun a' w' ph K => x_move (v := .bool ((p1 % (((p0 % 7) + 1) + 1)) == (p2 % (((p0 % 7) + 1) + 1)))) (es (t := 89) (v := .bool ((p1 % (((p0 % 7) + 1) + 1)) == (p2 % (((p0 % 7) + 1) + 1)))) (K.dep 41 89 rfl rfl))))
            (obsN_cons (ob_skip (c := true) rfl rfl rfl (by decide) (fun a' w' ph K => (guard_eq (show sl a' 90 = .bool ((p1 % (((p0 % 7) + 1) + 1)) == (p2 % (((p0 % 7) + 1) + 1))) from K.dep 42 90 rfl rfl) hc35)) (fun _ => rfl))
            (obsN_cons (ob_skip (c := true) rfl rfl rfl (by decide) (fun a' w' ph K => (guard_eq (show sl a' 90 = .bool ((p1 % (((p0 % 7) + 1) + 1)) == (p2 % (((p0 % 7) + 1) + 1))) from K.dep 42 90 rfl rfl) hc35)) (fun _ => rfl))
            (obsN_cons (ob_skip (c := true) rfl rfl rfl (by decide) (fun a' w' ph K => (guard_eq (show sl a' 90 = .bool ((p1 % (((p0 % 7) + 1) + 1)) == (p2 % (((p0 % 7) + 1) + 1))) from K.dep 42 90 rfl rfl) hc35)) (fun _ => rfl))
            (obsN_cons (ob_detg rfl rfl rfl (fun _ => rfl) (fun a' w' ph K => (guard_eq (show sl a' 86 = .bool ((r18.1.length : Int) == 0) from K.dep 38 86 rfl rfl) hc34)) (fun a' w' ph K => x_pick_t (v := .bool true) (es (t := 90) (v := .bool ((p1 % (((p0 % 7) + 1) + 1)) == (p2 % (((p0 % 7) + 1) + 1)))) (K.dep 42 90 rfl rfl)) hc35 (ec (v := .bool true))))
            (obsN_cons (od rfl (fun _ => rfl) (fun K => x_pick_t (v := .bool true) (es (t := 86) (v := .bool ((r18.1.length : Int) == 0)) (K.dep 38 86 rfl rfl)) hc34 (es (t := 94) (v := .bool true) (K.dep 46 94 rfl rfl))))
            (obsN_cons (od rfl (fun _ => rfl) (fun K => x_move (v := .bool true) (es (t := 95) (v := .bool true) (K.dep 47 95 rfl rfl))))
            (obsN_cons (ob_extg rfl rfl rfl (fun a' w' ph K => (show sl a' 96 = .bool true from K.dep 48 96 rfl rfl)) (fun a' w' ph K => (x_call0 own_21 rfl am0 (a21 K_ ZA _ hw36)).mono (fun _ _ h => ⟨h.2, h.1⟩)))
            (obsN_cons (od rfl (fun _ => rfl) (fun K => x_pick_t (v := .bool true) (es (t := 96) (v := .bool true) (K.dep 48 96 rfl rfl)) rfl (es (t := 97) (v := .bool true) (K.dep 49 97 rfl rfl))))
            (obsN_nil _)))))))))))))))))))))))))))))))))))))))))))))))))))) ?_
        intro w20
        rintro _ rfl _ rfl _ rfl _ rfl _ rfl _ rfl _ rfl _ rfl _ rfl _ rfl _ rfl _ rfl _ rfl _ rfl _ rfl _ rfl _ rfl _ rfl _ rfl _ rfl _ rfl _ rfl _ rfl _ rfl _ rfl _ rfl _ rfl _ rfl _ rfl _ rfl _ rfl _ rfl _ rfl _ rfl _ rfl _ rfl _ rfl _ rfl _ rfl _ rfl _ rfl _ rfl _ rfl _ rfl _ rfl _ rfl _ rfl _ rfl _ rfl _ rfl _ rfl hx20
        have hp10 : Hp w [some b14] w20 := hp6.ext hx20
        refine wa rfl (v := .bool true) rfl <| wl_end <| lv_next <| cc_ret ?_
        have hr_ := Option.some.inj hG
        refine lv_ret1 rfl rfl ?_
        exact ⟨hp10.fin, congrArg Value.bool hr_⟩
       ·replace hG := cond_f hG hc35
        rcases bool_cases (decide (0 < (r18.1.length : Int))) with hc37 | hc37
        ·replace hG := cond_t hG hc37
         replace hG := ifo_bind hG; obtain ⟨hw38, hG⟩ := hG
         refine cc_anyM0 51 [Kc (I r16.2), Kc (.bool (r16.2 == 0)), Kc (.bool (r16.2 == 0)), Kc (.slice A16_ra r16.1.length c16_ra), Kc (I (r16.1.length : Int)), Kc (.bool ((r16.1.length : Int) == 1)), Kc (.bool ((r16.1.length : Int) == 1)), Kc (.bool ((r16.1.length : Int) == 1)), Kc (.slice A16_ra r16.1.length c16_ra), Kc (pt b23 (o23 + i23 * 2)), Kc (.agg #[I x23.1, I x23.2]), Kc (I ((p0 % 7) + 1)), Kc (I (p1 % (((p0 % 7) + 1) + 1))), Kc (I (p2 % (((p0 % 7) + 1) + 1))), Kc (I (max (p1 % (((p0 % 7) + 1) + 1)) (p2 % (((p0 % 7) + 1) + 1)))), Kc (I (((p0 % 7) + 1) - (max (p1 % (((p0 % 7) + 1) + 1)) (p2 % (((p0 % 7) + 1) + 1))))), Kc (I ((p0 % 7) + 1)), Kc (I (p1 % (((p0 % 7) + 1) + 1))), Kc (I (p2 % (((p0 % 7) + 1) + 1))), Kc (I (min (p1 % (((p0 % 7) + 1) + 1)) (p2 % (((p0 % 7) + 1) + 1)))), Kc (I (((p0 % 7) + 1) - (min (p1 % (((p0 % 7) + 1) + 1)) (p2 % (((p0 % 7) + 1) + 1))))), Kc (.agg #[I r26.1, I r26.2]), Kc (.bool ([x23.1, x23.2] == [r26.1, r26.2])), Kc (.bool ([x23.1, x23.2] == [r26.1, r26.2])), Kc (.bool ([x23.1, x23.2] == [r26.1, r26.2])), Kc (I r18.2), Kc (.bool (r18.2 == 0)), Kc (.bool (r18.2 == 0)), Kc (.bool (r18.2 == 0)), Kc (I (p1 % (((p0 % 7) + 1) + 1))), Kc (I (p2 % (((p0 % 7) + 1) + 1))), Kc (.bool ((p1 % (((p0 % 7) + 1) + 1)) != (p2 % (((p0 % 7) + 1) + 1)))), Kc (.bool ((p1 % (((p0 % 7) + 1) + 1)) != (p2 % (((p0 % 7) + 1) + 1)))), Kc (.slice A18_ra r18.1.length c18_ra), Kc (I (r18.1.length : Int)), Kc (.bool ((r18.1.length : Int) == 0)), Kc (.bool ((r18.1.length : Int) == 0)), Kc (.bool ((r18.1.length : Int) == 0)), Kc (.bool ((r18.1.length : Int) == 0)), Kc (I (p1 % (((p0 % 7) + 1) + 1))), Kc (I (p2 % (((p0 % 7) + 1) + 1))), Kc (.bool ((p1 % (((p0 % 7) + 1) + 1)) == (p2 % (((p0 % 7) + 1) + 1)))), Kc (.bool ((p1 % (((p0 % 7) + 1) + 1)) == (p2 % (((p0 % 7) + 1) + 1)))), Kc (.slice A18_ra r18.1.length c18_ra), Kc (I (r18.1.length : Int)), Kc (.bool (decide (0 < (r18.1.length : Int)))), Kc (.bool (decide (0 < (r18.1.length : Int)))), Kc (.bool (decide (0 < (r18.1.length : Int)))), Kc (.bool (decide (0 < (r18.1.length : Int)))), Kc (.bool true), Kc (.bool true)] mixedL14 rfl rfl
             (obsN_cons (od rfl (fun _ => rfl) (fun K => x_move (v := I r16.2) (es (t := 12) (v := I r16.2) ((K.out 12 rfl).trans rfl))))
             (obsN_cons (od rfl (fun _ => rfl) (fun K => x_eql (es (t := 48) (v := I r16.2) (K.dep 0 48 rfl rfl)) (ec (v := I 0))))
             (obsN_cons (od rfl (fun _ => rfl) (fun K => x_move (v := .bool (r16.2 == 0)) (es (t := 49) (v := .bool (r16.2 == 0)) (K.dep 1 49 rfl rfl))))
             (obsN_cons (ob_detg rfl rfl rfl (fun _ => rfl) (fun a' w' ph K => (guard_eq (show sl a' 50 = .bool (r16.2 == 0) from K.dep 2 50 rfl rfl) hc21)) (fun a' w' ph K => x_move (v := .slice A16_ra r16.1.length c16_ra) (es (t := 11) (v := .slice A16_ra r16.1.length c16_ra) ((K.out 11 rfl).trans rfl))))
             (obsN_cons (ob_detg rfl rfl rfl (fun _ => rfl) (fun a' w' ph K => (guard_eq (show sl a' 50 = .bool (r16.2 == 0) from K.dep 2 50 rfl rfl) hc21)) (fun a' w' ph K => x_len Try.underlying29 (es (t := 51) (v := .slice A16_ra r16.1.length c16_ra) (K.dep 3 51 rfl rfl))))
             (obsN_cons (ob_detg rfl rfl rfl (fun _ => rfl) (fun a' w' ph K => (guard_eq (show sl a' 50 = .bool (r16.2 == 0) from K.dep 2 50 rfl rfl) hc21)) (fun a' w' ph K => x_eql (es (t := 52) (v := I (r16.1.length : Int)) (K.dep 4 52 rfl rfl)) (ec (v := I 1))))
             (obsN_cons (od rfl (fun _ => rfl) (fun K => x_pick_t (v := .bool ((r16.1.length : Int) == 1)) (es (t := 50) (v := .bool (r16.2 == 0)) (K.dep 2 50 rfl rfl)) hc21 (es (t := 53) (v := .bool ((r16.1.length : Int) == 1)) (K.dep 5 53 rfl rfl))))
             (obsN_cons (od rfl (fun _ => rfl) (fun K => x_move (v := .bool ((r16.1.length : Int) == 1)) (es (t := 54) (v := .bool ((r16.1.length : Int) == 1)) (K.dep 6 54 rfl rfl))))
             (obsN_cons (ob_detg rfl rfl rfl (fun _ => rfl) (fun a' w' ph K => (guard_eq (show sl a' 55 = .bool ((r16.1.length : Int) == 1) from K.dep 7 55 rfl rfl) hc22)) (fun a' w' ph K => x_move (v := .slice A16_ra r16.1.length c16_ra) (es (t := 11) (v := .slice A16_ra r16.1.length c16_ra) ((K.out 11 rfl).trans rfl))))
             (obsN_cons (ob_detg rfl rfl rfl (fun _ => rfl) (fun a' w' ph K => (guard_eq (show sl a' 55 = .bool ((r16.1.length : Int) == 1) from K.dep 7 55 rfl rfl) hc22)) (fun a' w' ph K => x_indexAddrN (k := i23) Try.underlying29 sz_33 (es (t := 56) (v := .slice A16_ra r16.1.length c16_ra) (K.dep 8 56 rfl rfl)) hA23 (ec (v := I 0)) hi23 hl23))
             (obsN_cons (ob_detg rfl rfl rfl (fun _ => rfl) (fun a' w' ph K => (guard_eq (show sl a' 55 = .bool ((r16.1.length : Int) == 1) from K.dep 7 55 rfl rfl) hc22)) (fun a' w' ph K => x_load_zn0 (l := [I x23.1, I x23.2]) agg_33 (es (t := 57) (v := pt b23 (o23 + i23 * 2)) (K.dep 9 57 rfl rfl)) (hz23.mv (mv_ext K.phT)) rfl rfl))
             (obsN_cons (ob_detg rfl rfl rfl (fun _ => rfl) (fun a' w' ph K => (guard_eq (show sl a' 55 = .bool ((r16.1.length : Int) == 1) from K.dep 7 55 rfl rfl) hc22)) (fun a' w' ph K => x_move (v := I ((p0 % 7) + 1)) (es (t := 7) (v := I ((p0 % 7) + 1)) ((K.out 7 rfl).trans rfl))))
             (obsN_cons (ob_detg rfl rfl rfl (fun _ => rfl) (fun a' w' ph K => (guard_eq (show sl a' 55 = .bool ((r16.1.length : Int) == 1) from K.dep 7 55 rfl rfl) hc22)) (fun a' w' ph K => x_move (v := I (p1 % (((p0 % 7) + 1) + 1))) (es (t := 8) (v := I (p1 % (((p0 % 7) + 1) + 1))) ((K.out 8 rfl).trans rfl))))
             (obsN_cons (ob_detg rfl rfl rfl (fun _ => rfl) (fun a' w' ph K => (guard_eq (show sl a' 55 = .bool ((r16.1.length : Int) == 1) from K.dep 7 55 rfl rfl) hc22)) (fun a' w' ph K => x_move (v := I (p2 % (((p0 % 7) + 1) + 1))) (es (t := 9) (v := I (p2 % (((p0 % 7) + 1) + 1))) ((K.out 9 rfl).trans rfl))))
             (obsN_cons (ob_detg rfl rfl rfl (fun _ => rfl) (fun a' w' ph K => (guard_eq (show sl a' 55 = .bool ((r16.1.length : Int) == 1) from K.dep 7 55 rfl rfl) hc22)) (fun a' w' ph K => x_max (es (t := 60) (v := I (p1 % (((p0 % 7) + 1) + 1))) (K.dep 12 60 rfl rfl)) (es (t := 61) (v := I (p2 % (((p0 % 7) + 1) + 1))) (K.dep 13 61 rfl rfl))))
             (obsN_cons (ob_detg rfl rfl rfl (fun _ => rfl) (fun a' w' ph K => (guard_eq (show sl a' 55 = .bool ((r16.1.length : Int) == 1) from K.dep 7 55 rfl rfl) hc22)) (fun a' w' ph K => x_sub (es (t := 59) (v := I ((p0 % 7) + 1)) (K.dep 11 59 rfl rfl)) (es (t := 62) (v := I (max (p1 % (((p0 % 7) + 1) + 1)) (p2 % (((p0 % 7) + 1) + 1)))) (K.dep 14 62 rfl rfl)) hf24))
             (obsN_cons (ob_detg rfl rfl rfl (fun _ => rfl) (fun a' w' ph K => (guard_eq (show sl a' 55 = .bool ((r16.1.length : Int) == 1) from K.dep 7 55 rfl rfl) hc22)) (fun a' w' ph K => x_move (v := I ((p0 % 7) + 1)) (es (t := 7) (v := I ((p0 % 7) + 1)) ((K.out 7 rfl).trans rfl))))
             (obsN_cons (ob_detg rfl rfl rfl (fun _ => rfl) (fun a' w' ph K => (guard_eq (show sl a' 55 = .bool ((r16.1.length : Int) == 1) from K.dep 7 55 rfl rfl) hc22)) (fun a' w' ph K => x_move (v := I (p1 % (((p0 % 7) + 1) + 1))) (es (t := 8) (v := I (p1 % (((p0 % 7) + 1) + 1))) ((K.out 8 rfl).trans rfl))))
             (obsN_cons (ob_detg rfl rfl rfl (fun _ => rfl) (fun a' w' ph K => (guard_eq (show sl a' 55 = .bool ((r16.1.length : Int) == 1) from K.dep 7 55 rfl rfl) hc22)) (fun a' w' ph K => x_move (v := I (p2 % (((p0 % 7) + 1) + 1))) (es (t := 9) (v := I (p2 % (((p0 % 7) + 1) + 1))) ((K.out 9 rfl).trans rfl))))
             (obsN_cons (ob_detg rfl rfl rfl (fun _ => rfl) (fun a' w' ph K => (guard_eq (show sl a' 55 = .bool ((r16.1.length : Int) == 1) from K.dep 7 55 rfl rfl) hc22)) (fun a' w' ph K => x_min (es (t := 65) (v := I (p1 % (((p0 % 7) + 1) + 1))) (K.dep 17 65 rfl rfl)) (es (t := 66) (v := I (p2 % (((p0 % 7) + 1) + 1))) (K.dep 18 66 rfl rfl))))
             (obsN_cons (ob_detg rfl rfl rfl (fun _ => rfl) (fun a' w' ph K => (guard_eq (show sl a' 55 = .bool ((r16.1.length : Int) == 1) from K.dep 7 55 rfl rfl) hc22)) (fun a' w' ph K => x_sub (es (t := 64) (v := I ((p0 % 7) + 1)) (K.dep 16 64 rfl rfl)) (es (t := 67) (v := I (min (p1 % (((p0 % 7) + 1) + 1)) (p2 % (((p0 % 7) + 1) + 1)))) (K.dep 19 67 rfl rfl)) hf25))
             (obsN_cons (ob_extg rfl rfl rfl (fun a' w' ph K => (guard_eq (show sl a' 55 = .bool ((r16.1.length : Int) == 1) from K.dep 7 55 rfl rfl) hc22)) (fun a' w' ph K => (x_call0 own_50 rfl (am2 (es (t := 63) (v := I (((p0 % 7) + 1) - (max (p1 % (((p0 % 7) + 1) + 1)) (p2 % (((p0 % 7) + 1) + 1))))) (K.dep 15 63 rfl rfl)) (es (t := 68) (v := I (((p0 % 7) + 1) - (min (p1 % (((p0 % 7) + 1) + 1)) (p2 % (((p0 % 7) + 1) + 1))))) (K.dep 20 68 rfl rfl))) (a50 K_ (((p0 % 7) + 1) - (max (p1 % (((p0 % 7) + 1) + 1)) (p2 % (((p0 % 7) + 1) + 1)))) (((p0 % 7) + 1) - (min (p1 % (((p0 % 7) + 1) + 1)) (p2 % (((p0 % 7) + 1) + 1)))) ZA _ r26 hr26)).mono (fun _ _ h => ⟨(by obtain ⟨_, rfl, rfl⟩ := h.2; rfl), h.1⟩)))
             (obsN_cons (ob_detg rfl rfl rfl (fun _ => rfl) (fun a' w' ph K => (guard_eq (show sl a' 55 = .bool ((r16.1.length : Int) == 1) from K.dep 7 55 rfl rfl) hc22)) (fun a' w' ph K => x_eqA (x1 := [x23.1, x23.2]) (x2 := [r26.1, r26.2]) keq_33 eqg_33 (es (t := 58) (v := .agg #[I x23.1, I x23.2]) (K.dep 10 58 rfl rfl)) (es (t := 69) (v := .agg #[I r26.1, I r26.2]) (K.dep 21 69 rfl rfl)) rfl rfl rfl rfl))
             (obsN_cons (od rfl (fun _ => rfl) (fun K => x_pick_t (v := .bool ([x23.1, x23.2] == [r26.1, r26.2])) (es (t := 55) (v := .bool ((r16.1.length : Int) == 1)) (K.dep 7 55 rfl rfl)) hc22 (es (t := 70) (v := .bool ([x23.1, x23.2] == [r26.1, r26.2])) (K.dep 22 70 rfl rfl))))
             (obsN_cons (od rfl (fun _ => rfl) (fun K => x_move (v := .bool ([x23.1, x23.2] == [r26.1, r26.2])) (es (t := 71) (v := .bool ([x23.1, x23.2] == [r26.1, r26.2])) (K.dep 23 71 rfl rfl))))
             (obsN_cons (ob_detg rfl rfl rfl (fun _ => rfl) (fun a' w' ph K => (guard_eq (show sl a' 72 = .bool ([x23.1, x23.2] == [r26.1, r26.2]) from K.dep 24 72 rfl rfl) hc27)) (fun a' w' ph K => x_move (v := I r18.2) (es (t := 14) (v := I r18.2) ((K.out 14 rfl).trans rfl))))
             (obsN_cons (ob_detg rfl rfl rfl (fun _ => rfl) (fun a' w' ph K => (guard_eq (show sl a' 72 = .bool ([x23.1, x23.2] == [r26.1, r26.2]) from K.dep 24 72 rfl rfl) hc27)) (fun a' w' ph K => x_eql (es (t := 73) (v := I r18.2) (K.dep 25 73 rfl rfl)) (ec (v := I 0))))
             (obsN_cons (od rfl (fun _ => rfl) (fun K => x_pick_t (v := .bool (r18.2 == 0)) (es (t := 72) (v := .bool ([x23.1, x23.2] == [r26.1, r26.2])) (K.dep 24 72 rfl rfl)) hc27 (es (t := 74) (v := .bool (r18.2 == 0)) (K.dep 26 74 rfl rfl))))
             (obsN_cons (od rfl (fun _ => rfl) (fun K => x_move (v := .bool (r18.2 == 0)) (es (t := 75) (v := .bool (r18.2 == 0)) (K.dep 27 75 rfl rfl))))
             (obsN_cons (ob_detg rfl rfl rfl (fun _ => rfl) (fun a' w' ph K => (guard_eq (show sl a' 76 = .bool (r18.2 == 0) from K.dep 28 76 rfl rfl) hc28)) (fun a' w' ph K => x_move (v := I (p1 % (((p0 % 7) + 1) + 1))) (es (t := 8) (v := I (p1 % (((p0 % 7) + 1) + 1))) ((K.out 8 rfl).trans rfl))))
             (obsN_cons (ob_detg rfl rfl rfl (fun _ => rfl) (fun a' w' ph K => (guard_eq (show sl a' 76 = .bool (r18.2 == 0) from K.dep 28 76 rfl rfl) hc28)) (fun a' w' ph K => x_move (v := I (p2 % (((p0 % 7) + 1) + 1))) (es (t := 9) (v := I (p2 % (((p0 % 7) + 1) + 1))) ((K.out 9 rfl).trans rfl))))
             (obsN_cons (ob_detg rfl rfl rfl (fun _ => rfl) (fun a' w' ph K => (guard_eq (show sl a' 76 = .bool (r18.2 == 0) from K.dep 28 76 rfl rfl) hc28)) (fun a' w' ph K => x_neq (es (t := 77) (v := I (p1 % (((p0 % 7) + 1) + 1))) (K.dep 29 77 rfl rfl)) (es (t := 78) (v := I (p2 % (((p0 % 7) + 1) + 1))) (K.dep 30 78 rfl rfl))))
             (obsN_cons (ob_detg rfl rfl rfl (fun _ => rfl) (fun a' w' ph K => (guard_eq (show sl a' 76 = .bool (r18.2 == 0) from K.dep 28 76 rfl rfl) hc28)) (fun a' w' ph K => x_move (v := .bool ((p1 % (((p0 % 7) + 1) + 1)) != (p2 % (((p0 % 7) + 1) + 1)))) (es (t := 79) (v := .bool ((p1 % (((p0 % 7) + 1) + 1)) != (p2 % (((p0 % 7) + 1) + 1)))) (K.dep 31 79 rfl rfl))))
             (obsN_cons (ob_detg rfl rfl rfl (fun _ => rfl) (fun a' w' ph K => (guard_eq (show sl a' 80 = .bool ((p1 % (((p0 % 7) + 1) + 1)) != (p2 % (((p0 % 7) + 1) + 1))) from K.dep 32 80 rfl rfl) hc29)) (fun a' w' ph K => x_move (v := .slice A18_ra r18.1.length c18_ra) (es (t := 13) (v := .slice A18_ra r18.1.length c18_ra) ((K.out 13 rfl).trans rfl))))
             (obsN_cons (ob_detg rfl rfl rfl (fun _ => rfl) (fun a' w' ph K => (guard_eq (show sl a' 80 = .bool ((p1 % (((p0 % 7) + 1) + 1)) != (p2 % (((p0 % 7) + 1) + 1))) from K.dep 32 80 rfl rfl) hc29)) (fun a' w' ph K => x_len Try.underlying43 (es (t := 81) (v := .slice A18_ra r18.1.length c18_ra) (K.dep 33 81 rfl rfl))))
             (obsN_cons (ob_detg rfl rfl rfl (fun _ => rfl) (fun a' w' ph K => (guard_eq (show sl a' 80 = .bool ((p1 % (((p0 % 7) + 1) + 1)) != (p2 % (((p0 % 7) + 1) + 1))) from K.dep 32 80 rfl rfl) hc29)) (fun a' w' ph K => x_eql (es (t := 82) (v := I (r18.1.length : Int)) (K.dep 34 82 rfl rfl)) (ec (v := I 0))))
             (obsN_cons (ob_detg rfl rfl rfl (fun _ => rfl) (fun a' w' ph K => (guard_eq (show sl a' 76 = .bool (r18.2 == 0) from K.dep 28 76 rfl rfl) hc28)) (fun a' w' ph K => x_pick_f (v := .bool ((r18.1.length : Int) == 0)) (es (t := 80) (v := .bool ((p1 % (((p0 % 7) + 1) + 1)) != (p2 % (((p0 % 7) + 1) + 1)))) (K.dep 32 80 rfl rfl)) hc29 (es (t := 83) (v := .bool ((r18.1.length : Int) == 0)) (K.dep 35 83 rfl rfl))))
             (obsN_cons (od rfl (fun _ => rfl) (fun K => x_pick_t (v := .bool ((r18.1.length : Int) == 0)) (es (t := 76) (v := .bool (r18.2 == 0)) (K.dep 28 76 rfl rfl)) hc28 (es (t := 84) (v := .bool ((r18.1.length : Int) == 0)) (K.dep 36 84 rfl rfl))))
             (obsN_cons (od rfl (fun _ => rfl) (fun K => x_move (v := .bool ((r18.1.length : Int) == 0)) (es (t := 85) (v := .bool ((r18.1.length : Int) == 0)) (K.dep 37 85 rfl rfl))))
             (obsN_cons (ob_detg rfl rfl rfl (fun _ => rfl) (fun a' w' ph K => (guard_eq (show sl a' 86 = .bool ((r18.1.length : Int) == 0) from K.dep 38 86 rfl rfl) hc34)) (fun a' w' ph K => x_move (v := I (p1 % (((p0 % 7) + 1) + 1))) (es (t := 8) (v := I (p1 % (((p0 % 7) + 1) + 1))) ((K.out 8 rfl).trans rfl))))
             (obsN_cons (ob_detg rfl rfl rfl (fun _ => rfl) (fun a' w' ph K => (guard_eq (show sl a' 86 = .bool ((r18.1.length : Int) == 0) from K.dep 38 86 rfl rfl) hc34)) (fun a' w' ph K => x_move (v := I (p2 % (((p0 % 7) + 1) + 1))) (es (t := 9) (v := I (p2 % (((p0 % 7) + 1) + 1))) ((K.out 9 rfl).trans rfl))))
             (obsN_cons (ob_detg rfl rfl rfl (fun _ => rfl) (fun a' w' ph K => (guard_eq (show sl a' 86 = .bool ((r18.1.length : Int) == 0) from K.dep 38 86 rfl rfl) hc34)) (fun a' w' ph K => x_eql (es (t := 87) (v := I (p1 % (((p0 % 7) + 1) + 1))) (K.dep 39 87 rfl rfl)) (es (t := 88) (v := I (p2 % (((p0 % 7) + 1) + 1))) (K.dep 40 88 rfl rfl))))
             (obsN_cons (ob_detg rfl rfl rfl (fun _ => rfl) (fun a' w' ph K => (guard_eq (show sl a' 86 = .bool ((r18.1.length : Int) == 0) from K.dep 38 86 rfl rfl) hc34)) (fun a' w' ph K => x_move (v := .bool ((p1 % (((p0 % 7) + 1) + 1)) == (p2 % (((p0 % 7) + 1) + 1)))) (es (t := 89) (v := .bool ((p1 % (((p0 % 7) + 1) + 1)) == (p2 % (((p0 % 7) + 1) + 1)))) (K.dep 41 89 rfl rfl))))
             (obsN_cons (ob_detg rfl rfl rfl (fun _ => rfl) (fun a' w' ph K => (guard_eq (show sl a' 90 = .bool ((p1 % (((p0 % 7) + 1) + 1)) == (p2 % (((p0 % 7) + 1) + 1))) from K.dep 42 90 rfl rfl) hc35)) (fun a' w' ph K => x_move (v := .slice A18_ra r18.1.length c18_ra) (es (t := 13) (v := .slice A18_ra r18.1.length c18_ra) ((K.out 13 rfl).trans rfl))))
             (obsN_cons (ob_detg rfl rfl rfl (fun _ => rfl) (fun a' w' ph K => (guard_eq (show sl a' 90 = .bool ((p1 % (((p0 % 7) + 1) + 1)) == (p2 % (((p0 % 7) + 1) + 1))) from K.dep 42 90 rfl rfl) hc35)) (fun a' w' ph K => x_len Try.underlying43 (es (t := 91) (v := .slice A18_ra r18.1.length c18_ra) (K.dep 43 91 rfl rfl))))
             (obsN_cons (ob_detg rfl rfl rfl (fun _ => rfl) (fun a' w' ph K => (guard_eq (show sl a' 90 = .bool ((p1 % (((p0 % 7) + 1) + 1)) == (p2 % (((p0 % 7) + 1) + 1))) from K.dep 42 90 rfl rfl) hc35)) (fun a' w' ph K => x_gtr (es (t := 92) (v := I (r18.1.length : Int)) (K.dep 44 92 rfl rfl)) (ec (v := I 0))))
             (obsN_cons (ob_detg rfl rfl rfl (fun _ => rfl) (fun a' w' ph K => (guard_eq (show sl a' 86 = .bool ((r18.1.length : Int) == 0) from K.dep 38 86 rfl rfl) hc34)) (fun a' w' ph K => x_pick_f (v := .bool (decide (0 < (r18.1.length : Int)))) (es (t := 90) (v := .bool ((p1 % (((p0 % 7) + 1) + 1)) == (p2 % (((p0 % 7) + 1) + 1)))) (K.dep 42 90 rfl rfl)) hc35 (es (t := 93) (v := .bool (decide (0 < (r18.1.length : Int)))) (K.dep 45 93 rfl rfl))))
             (obsN_cons (od rfl (fun _ => rfl) (fun K => x_pick_t (v := .bool (decide (0 < (r18.1.length : Int)))) (es (t := 86) (v := .bool ((r18.1.length : Int) == 0)) (K.dep 38 86 rfl rfl)) hc34 (es (t := 94) (v := .bool (decide (0 < (r18.1.length : Int)))) (K.dep 46 94 rfl rfl))))
             (obsN_cons (od rfl (fun _ => rfl) (fun K => x_move (v := .bool (decide (0 < (r18.1.length : Int)))) (es (t := 95) (v := .bool (decide (0 < (r18.1.length : Int)))) (K.dep 47 95 rfl rfl))))
             (obsN_cons (ob_extg rfl rfl rfl (fun a' w' ph K => (guard_eq (show sl a' 96 = .bool (decide (0 < (r18.1.length : Int))) from K.dep 48 96 rfl rfl) hc37)) (fun a' w' ph K => (x_call0 own_21 rfl am0 (a21 K_ ZA _ hw38)).mono (fun _ _ h => ⟨h.2, h.1⟩)))
             (obsN_cons (od rfl (fun _ => rfl) (fun K => x_pick_t (v := .bool true) (es (t := 96) (v := .bool (decide (0 < (r18.1.length : Int)))) (K.dep 48 96 rfl rfl)) hc37 (es (t := 97) (v := .bool true) (K.dep 49 97 rfl rfl))))
             (obsN_nil _)))))))))))))))))))))))))))))))))))))))))))))))))))) ?_
         intro w20
         rintro _ rfl _ rfl _ rfl _ rfl _ rfl _ rfl _ rfl _ rfl _ rfl _ rfl _ rfl _ rfl _ rfl _ rfl _ rfl _ rfl _ rfl _ rfl _ rfl _ rfl _ rfl _ rfl _ rfl _ rfl _ rfl _ rfl _ rfl _ rfl _ rfl _ rfl _ rfl _ rfl _ rfl _ rfl _ rfl _ rfl _ rfl _ rfl _ rfl _ rfl _ rfl _ rfl _ rfl _ rfl _ rfl _ rfl _ rfl _ rfl _ rfl _ rfl _ rfl hx20
         have hp11 : Hp w [some b14] w20 := hp6.ext hx20
         refine wa rfl (v := .bool true) rfl <| wl_end <| lv_next <| cc_ret ?_
         have hr_ := Option.some.inj hG
         refine lv_ret1 rfl rfl ?_
         exact ⟨hp11.fin, congrArg Value.bool hr_⟩
        ·replace hG := cond_f hG hc37
         exact absurd (Option.some.inj hG) (by decide)
      ·replace hG := cond_f hG hc34
       exact absurd (Option.some.inj hG) (by decide)
    ·replace hG := cond_f hG hc28
     exact absurd (Option.some.inj hG) (by decide)
   ·replace hG := cond_f hG hc27
    exact absurd (Option.some.inj hG) (by decide)
  ·replace hG := cond_f hG hc22
   exact absurd (Option.some.inj hG) (by decide)
 ·replace hG := cond_f hG hc21
  exact absurd (Option.some.inj hG) (by decide)
end Go.Proofs.Ythogdgkafaclaaa
end
section
namespace Go.Proofs.Ythogdgkafaclaaa
open Go.RowKit Go.ChangeShapes Go.WideShapes
def wfI (k : IntKind) (n : Int) : Prop := (Lit.int k n).wf = true
section
variable {H : Type} {enc : TypeId × Value → H} {P : Program} {W W' : World}
theorem trodAll_carry {sp : Nat → Bool} : ∀ {ts : List TypeId} {vs : List Value} {ds : List (DataW H)} {ps : List MemPlace}, DataW.TrodAll enc P W 0 sp true ts vs ds ps → (∀ p ∈ ps, W.sameAt W' p) → DataW.TrodAll enc P W' 0 sp true ts vs ds ps
  | [], _, _, _, h, _ => by
    obtain ⟨rfl, rfl, rfl⟩ := trodAll_nil h
    exact rfl
  | _ :: _, _, _, _, h, hs => by
    obtain ⟨v, vs1, d, ds1, a, b, rfl, rfl, rfl, ⟨n, hn⟩, h2⟩ := trodAll_cons h
    exact ⟨a, b, ⟨n, DataW.trod_carry n _ _ _ hn fun p hp => hs p (List.mem_append_left _ hp)⟩, trodAll_carry h2 fun p hp => hs p (List.mem_append_right _ hp), rfl⟩
theorem args_read (K : Kids P (· < P.types.size)) (hz : ∀ t e, t < P.types.size → P.underlying t = some (.slice e) → 0 < P.cellsOf e) {ts : List TypeId} {vs : List Value} {ds : List (DataW H)} {ps : List MemPlace} (hT : ∀ t ∈ ts, t < P.types.size)
    (hA : DataW.TrodAll enc P W 0 (fun _ => true) true ts vs ds ps) (hb : Ext W W') (hlt : ∀ p ∈ ps, p.block < W.heap.size) (sp : Nat → Bool) (hs : ∀ p ∈ ps, sp p.block = true) : DataW.TrodAll enc P W' 0 sp true ts vs ds ps :=
  trodAll_carry (DataW.TrodAll.respare K hz hT hA hs) fun p hp => (below_of_ext hb).same (hlt p hp)
variable {α : Type} {e : Enc α} {wf : α → Prop} {t : TypeId} {b0 : Nat} {v : Value} {d : DataW H} {p : List MemPlace} {sp : Nat → Bool}
theorem val_int {k : IntKind} (ht : P.underlying t = some (.int k)) (hv : Value.okWide P W .any b0 t v) (h : DataW.Trod enc P W 0 sp true t v d p) : ∃ n, v = .int k n ∧ wfI k n := by
  obtain ⟨n, h1, _, _, h4⟩ := open_int ht hv h
  exact ⟨n, h1, h4⟩
/-- The row's end: the call has laid new blocks alone. -/
theorem post_of_ext {f : Func} {s : ChangeSpec} {apart fresh handsOn again : Bool} {args : Array Value} {v : Value} {ds gs : List (DataW H)} {before pa pv : List MemPlace}
    (hW : DataW.Whole enc P f.params.toList s.vars apart W args.toList ds gs before)
    (hres : ∀ (b : Nat) (sp : Nat → Bool) (hd : Bool), DataW.TrodAll enc P W' b sp hd f.resultTypes.toList (v.resultList f.resultTypes.size) (s.fn H (ds ++ gs)).results [])
    (hargs : ∀ sp : Nat → Bool, (∀ p ∈ before, sp p.block = true) → DataW.TrodAll enc P W' 0 sp true f.params.toList args.toList (s.fn H (ds ++ gs)).args pa)
    (hvars : ∀ sp : Nat → Bool, (∀ p ∈ before, sp p.block = true) → DataW.TrodVars enc P W' sp s.vars (s.fn H (ds ++ gs)).vars pv)
    (hps : before = pa ++ pv) (hx : Ext W W')
    (hok : ∀ (j : Nat) (t : TypeId) (r : Value), f.resultTypes[j]? = some t → (v.resultList f.resultTypes.size)[j]? = some r → Value.okWide P W' .any 0 t r) :
    s.post enc P f apart fresh handsOn again W args v W' := by
  have hb := below_of_ext hx
  have hlt : ∀ p ∈ before, p.block < W.heap.size := fun p hp => hW.lt p hp
  have hold : ∀ p ∈ before, (fun b => decide (b < W.heap.size)) p.block = true := fun p hp => by simpa using hlt p hp
  refine ⟨ds, gs, before, [], pa, pv, hW, hres _ _ _, hargs _ hold, hvars _ hold, World.keptBut_mono (fun p hp => ⟨hp, ?_⟩) (hb.frame (· ∈ before)), fun _ => ?_⟩
  · rw [hps, List.mem_append] at hp
    exact Or.inr hp
  · obtain ⟨_, _, _, _, _, hz, hn⟩ := hW
    refine ⟨hok, _, _, ([] ++ pa) ++ pv, ⟨[] ++ pa, pv, trodAll_append (hargs _ (fun _ _ => rfl)) (hres _ _ _), hvars _ (fun _ _ => rfl), rfl, ?_, ?_⟩, ?_⟩
    · intro b off hp
      have hin : MemPlace.cell b off ∈ before := by rw [hps]; simpa using hp
      rw [hb.frozen (hlt _ hin)]
      exact hz b off hin
    · intro ha
      have := hn ha
      rw [hps] at this
      simpa using this
    · intro p hp _
      rw [hps]
      simpa using hp
theorem ret_calls {f : FuncId} {args : Array Value} {w : World} {R : Value → World → Prop} (h : Ret P f args w R) : Calls P f args w (fun e w' => ∃ v, e = .returned v ∧ R v w') := h
end
end Go.Proofs.Ythogdgkafaclaaa
end
section
set_option linter.unusedVariables false
set_option linter.unusedSimpArgs false
namespace Go.Proofs.Ythogdgkafaclaaa
open Go.RowKit
open Go.RowKit Go.ChangeShapes Go.WideShapes
theorem ownT : ownKnob Try.prog.godebug = none := by kernel_rfl
theorem kidsT : Kids Try.prog (· < Try.prog.types.size) := kids_rows (by kernel_rfl) (by kernel_rfl)
theorem fullT : ∀ t e, t < Try.prog.types.size → Try.prog.underlying t = some (.slice e) → 0 < Try.prog.cellsOf e := slices_full_of Try.prog (by kernel_rfl)
end Go.Proofs.Ythogdgkafaclaaa
end
section
namespace Go.Proofs.Ythogdgkafaclaaa
theorem wf8 {x : Int} (h : wfI .u8 x) : 0 ≤ x ∧ x < 256 := by
  have h2 : (decide (IntKind.u8.min ≤ x) && decide (x ≤ IntKind.u8.max)) = true := h
  rw [Bool.and_eq_true, decide_eq_true_eq, decide_eq_true_eq] at h2
  have e1 : IntKind.u8.min = 0 := by decide
  have e2 : IntKind.u8.max = 255 := by decide
  omega
end Go.Proofs.Ythogdgkafaclaaa
end
section
set_option linter.unusedVariables false
set_option linter.unusedSimpArgs false
namespace Go.Proofs.Ythogdgkafaclaaa
open Go.RowKit
open Go.RowKit Go.ChangeShapes Go.WideShapes Go.ChangeAt
theorem weedAlone_row (x y z : Int) (h0 : wfI .u8 x) (h1 : wfI .u8 y) (h2 : wfI .u8 z) : ∃ K, G_WeedAlone K x y z = some true := weedAlone_true x y z (wf8 h0) (wf8 h1) (wf8 h2)
set_option maxRecDepth 100000 in
theorem weedAlone_lifted (os : Os) (started : os.Started) (H : Type) (enc : TypeId × Value → H) :
    ReturnsInHanded {} Try.checked os 14 .any (Rows.weedAloneSpec.pre6 enc Try.prog Try.f14 Rows.weedAloneRow.domain false) (Rows.weedAloneSpec.post enc Try.prog Try.f14 false true false false) := by
  refine returnsInHanded_of_change_sized (C := Try.checked) ownT started (by kernel_rfl) Try.func14
    (ChangeSpec.witness6 (enc := enc) (C := Try.checked) false ⟨#[], #[.int .u8 0, .int .u8 0, .int .u8 0], []⟩ 8 (by kernel_rfl) (by kernel_rfl) (by kernel_rfl) (by kernel_rfl)) ?_
  intro W base args ds gs before hval0 hW hcnd hsz _
  have hval : ∀ (j : Nat) t v, Try.f14.params[j]? = some t → args[j]? = some v → Value.okWide Try.prog W .any base t v := hval0
  have hW' := hW
  obtain ⟨p, q, hA0, hV, rfl, hfz, hnd⟩ := hW
  have hA : DataW.TrodAll enc Try.prog W 0 (fun _ => true) true Try.f14.params.toList args.toList ds p := hA0
  obtain ⟨rfl, rfl⟩ := trodVars_none hV
  simp only [List.append_nil] at hW'
  have hlt : ∀ x ∈ p, x.block < W.heap.size := fun x hx => by simpa using hW'.lt x hx
  have hAk := hA
  have hsz2 : (DataW.weightsEach Try.prog (Try.f14.params.toList ++ []) (ds ++ [])).all (· ≤ reachBytes) = true := hsz
  rw [Try.params14] at hA hval hsz2
  obtain ⟨v0, v1, v2, d0, d1, d2, p0, p1, p2, rfl, rfl, rfl, h0, h1, h2⟩ := trodAll_three hA
  obtain ⟨x0, hv0, w0⟩ := val_int Try.underlying5 (hval 0 5 v0 rfl rfl) h0
  obtain ⟨x1, hv1, w1⟩ := val_int Try.underlying5 (hval 1 5 v1 rfl rfl) h1
  obtain ⟨x2, hv2, w2⟩ := val_int Try.underlying5 (hval 2 5 v2 rfl rfl) h2
  subst hv0
  subst hv1
  subst hv2
  obtain ⟨K, hG⟩ := weedAlone_row x0 x1 x2 w0 w1 w2
  refine (ret_calls (a14 K x0 x1 x2 ZA W  hG)).mono fun e W' ⟨v, he, hx, hv⟩ => ?_
  subst he
  subst hv
  exact ⟨_, rfl, post_of_ext (pa := (p0 ++ p1 ++ p2)) (pv := []) hW' (fun _ _ _ => trodAll_mk1 (shut_bool Try.underlying4 _)) (fun sp hs => args_read kidsT fullT (by rw [Try.params14]; decide) hAk hx hlt sp (fun x hx' => hs x (by simpa using hx'))) (fun _ _ => rfl) (by simp) hx (ok_one (by kernel_rfl) rfl (okWide_bool_mk Try.underlying4 _))⟩
theorem weedAlone_holds : Rows.WeedAloneSaid :=
  OpenClaim.holds_of_wide 14 Try.f14 rfl rfl rfl rfl rfl rfl rfl ⟨rfl, rfl, rfl, rfl, rfl⟩ rfl rfl rfl rfl rfl (by kernel_rfl) Try.func14 (by kernel_rfl)
    (of_decide_eq_true (by kernel_rfl)) (by unfold Func.isWrapper; first | (rw [if_pos (by decide +kernel)]; kernel_rfl) | (rw [if_neg (by decide +kernel)]; exact ⟨rfl, rfl⟩))
    (fun os started H enc _ => weedAlone_lifted os started H enc)
end Go.Proofs.Ythogdgkafaclaaa
end
