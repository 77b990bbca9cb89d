import Derived.Test.YthogdgkafaclaaaBD5
import Derived.ProofKit
import Derived.ChangeSame
import Derived.SizedLaws
import Derived.Deep.Slices
import Derived.Test.YthogdgkafaclaaaProg
import Derived.Test.YthogdgkafaclaaaRows
/-
  Proved: the law WeedMore returns true for every argument that the row hands over, and leaves every argument as it was; no condition beside the row's own.
-/
set_option linter.all false
section
namespace Go.Proofs.Ythogdgkafaclaaa
theorem bd {α β : Type} {x : Option α} {a : α} {f : α → Option β} (h : x = some a) : x.bind f = f a := by rw [h]; rfl
theorem i64b {β : Type} {x : Int} {f : Int → Option β} (h0 : -9223372036854775808 ≤ x) (h1 : x ≤ 9223372036854775807) : (i64 x).bind f = f x := bd (i64_eq h0 h1)
theorem idxb {α β : Type} {xs : List α} {k : Nat} {f : α → Option β} (h : k < xs.length) : (idx xs (k : Int)).bind f = f xs[k] := bd (idx_eq h)
theorem ifob {β : Type} {p : Prop} [Decidable p] {f : Unit → Option β} (h : p) : (ifo p).bind f = f () := bd (if_pos h)
theorem remb {β : Type} {a b : Int} {f : Int → Option β} (h0 : 0 ≤ a) (h1 : 1 ≤ b) : (rem a b).bind f = f (a % b) := bd (if_pos ⟨h0, h1⟩)
theorem ct {α : Type} {b : Bool} {x y : α} (h : b = true) : cond b x y = x := by rw [h]; rfl
theorem cf {α : Type} {b : Bool} {x y : α} (h : b = false) : cond b x y = y := by rw [h]; rfl
theorem nt {α : Type} {x y : α} : cond (!true) x y = y := rfl
theorem nf {α : Type} {x y : α} : cond (!false) x y = x := rfl
theorem dt {p : Prop} [Decidable p] (h : p) : decide p = true := decide_eq_true h
theorem df {p : Prop} [Decidable p] (h : ¬ p) : decide p = false := decide_eq_false h
theorem g_In (K : Nat) (n a b : Int) : G_In K n a b = some (inR n a b) := by unfold G_In inR; cases decide (a ≤ n) <;> rfl
theorem g_Within (K : Nat) (f : Fld) (lo hi : Int) : G_Within K (⟨lo, hi⟩ : Int × Int) 0 f.rows = some (rngOk f lo hi) := by
  unfold G_Within rngOk
  simp only []
  cases decide ((0 : Int) ≤ lo) <;> cases decide (lo ≤ hi) <;> rfl
/-- How often somebody stands in a part of a list. -/
def part (l : List Int) (who : Int) (fr n : Nat) : Nat := cnt who ((l.drop fr).take n)
theorem part_le (l : List Int) (who : Int) (fr n : Nat) : part l who fr n ≤ n := by
  unfold part cnt
  exact Nat.le_trans List.countP_le_length (by simp; omega)
theorem l_Many (f : Fld) (hw : 0 ≤ f.wd) (hw3 : f.wd ≤ 3) (hr : f.rows ≤ 7) : ∀ (n m i : Nat) (s : Int), f.rows = i + n → n < m → 0 ≤ s → s * (f.wd + 1) ^ n ≤ 1000000 → G_Many_L2 f m s (i : Int) = some (s * (f.wd + 1) ^ n)
  | n, 0, i, s, h, hm, _, _ => by omega
  | 0, m + 1, i, s, h, hm, h0, h1 => by
    unfold G_Many_L2
    rw [cf (df (by omega))]
    simp
  | n + 1, m + 1, i, s, h, hm, h0, h1 => by
    unfold G_Many_L2
    have hp : 1 ≤ (f.wd + 1) ^ n := by
      have h9 : 0 < (f.wd + 1) ^ n := Int.pow_pos (by omega)
      omega
    have hs : s * (f.wd + 1) * (f.wd + 1) ^ n ≤ 1000000 := by
      rw [Int.mul_assoc]; rw [Int.pow_succ, Int.mul_comm ((f.wd + 1) ^ n)] at h1; exact h1
    have h2 : 0 ≤ s * (f.wd + 1) := Int.mul_nonneg h0 (by omega)
    have h3 : s * (f.wd + 1) ≤ 1000000 := by
      have h4 := Int.mul_le_mul_of_nonneg_left hp h2
      omega
    rw [ct (dt (by omega)), i64b (by omega) (by omega), i64b (by omega) (by omega), i64b (by omega) (by omega)]
    have e : ((i : Int) + 1) = ((i + 1 : Nat) : Int) := by omega
    rw [e, l_Many f hw hw3 hr n m (i + 1) (s * (f.wd + 1)) (by omega) (by omega) h2 hs]
    rw [Int.mul_assoc, Int.pow_succ, Int.mul_comm ((f.wd + 1) ^ n)]
theorem g_Many {K : Nat} {f : Fld} (hK : 1000 ≤ K) (hw : 0 ≤ f.wd) (hw3 : f.wd ≤ 3) (hr0 : 0 ≤ f.rows) (hr : f.rows ≤ 7) : G_Many K f = some (many f) := by
  unfold G_Many
  have h := (pow_bd7 (f.wd + 1) (by omega) (by omega) f.rows.toNat (by omega)).2
  have := l_Many f hw hw3 hr f.rows.toNat K 0 1 (by omega) (by omega) (by omega) (by omega)
  rw [Int.natCast_zero] at this
  rw [this]
  simp [many]
theorem talOk_ref (f : Fld) (t : Tly) : talOk f t = (inR t.who 0 (f.wd - 1) && (inR t.fr 0 (f.rows - 1) && (inR t.to t.fr (f.rows - 1) && rngOk f t.lo t.hi))) := by
  rw [Bool.eq_iff_iff]
  unfold talOk
  simp only [Bool.and_eq_true, inR_iff, decide_eq_true_eq]
  constructor
  · rintro ⟨⟨⟨⟨h1, h2⟩, h3⟩, h4⟩, h5⟩; exact ⟨h1, h2, ⟨h4, h3.2⟩, h5⟩
  · rintro ⟨h1, h2, ⟨h3, h4⟩, h5⟩; exact ⟨⟨⟨⟨h1, h2⟩, by omega, h4⟩, h3⟩, h5⟩
theorem l_Fault (K : Nat) (f : Fld) (hr : 1 ≤ f.rows ∧ f.rows ≤ 7) (hw : 1 ≤ f.wd ∧ f.wd ≤ 3) (hl : f.ts.length ≤ 1000000) : ∀ (n m i : Nat), f.ts.length = i + n → n < m → G_Fault_L12 K f m (i : Int) = some (if (f.ts.drop i).all (talOk f) = true then .inr () else .inl 1)
  | n, 0, i, h, hm => by omega
  | 0, m + 1, i, h, hm => by
    unfold G_Fault_L12
    rw [cf (df (by omega)), List.drop_eq_nil_of_le (by omega)]
    rfl
  | n + 1, m + 1, i, h, hm => by
    unfold G_Fault_L12
    have hi : i < f.ts.length := by omega
    rw [ct (dt (by omega)), idxb hi, i64b (by omega) (by omega), bd (g_In ..), List.drop_eq_getElem_cons hi, List.all_cons, talOk_ref]
    cases h1 : inR f.ts[i].who 0 (f.wd - 1) with
    | false => rfl
    | true =>
      rw [nt, i64b (by omega) (by omega), bd (g_In ..)]
      cases h2 : inR f.ts[i].fr 0 (f.rows - 1) with
      | false => rfl
      | true =>
        rw [nt, i64b (by omega) (by omega), bd (g_In ..)]
        cases h3 : inR f.ts[i].to f.ts[i].fr (f.rows - 1) with
        | false => rfl
        | true =>
          rw [nt, bd (g_Within ..)]
          cases h4 : rngOk f f.ts[i].lo f.ts[i].hi with
          | false => rfl
          | true =>
            have e : ((i : Int) + 1) = ((i + 1 : Nat) : Int) := by omega
            rw [nt, i64b (by omega) (by omega), e, l_Fault K f hr hw hl n m (i + 1) (by omega) (by omega)]
            rfl
theorem g_Fault {K : Nat} {f : Fld} (hK : 1000 ≤ K) : G_Fault K f = some (check f) := by
  unfold G_Fault check
  by_cases hb : big f = true
  · rw [if_pos hb]
    simp only [big, Bool.or_eq_true, decide_eq_true_eq] at hb
    by_cases h1 : 7 < f.rows
    · rw [ct (dt h1)]
    · rw [cf (df h1)]
      by_cases h2 : 3 < f.wd
      · rw [ct (dt h2)]
      · rw [cf (df h2), ct (dt (by omega))]
  · rw [if_neg hb]
    simp only [big, Bool.or_eq_true, decide_eq_true_eq, not_or] at hb
    rw [cf (df hb.1), cf (df hb.2.1), cf (df hb.2.2)]
    by_cases hr : f.rows < 1
    · rw [ct (dt hr), if_pos (by simp [bad, hr])]
    · by_cases hw : f.wd < 1
      · rw [cf (df hr), ct (dt hw), if_pos (by simp [bad, hw])]
      · rw [cf (df hr), cf (df hw), bd (g_Within ..)]
        have hbad : bad f = (!rngOk f f.lo f.hi || !f.ts.all (talOk f)) := by simp [bad, hr, hw]
        rw [hbad]
        cases h3 : rngOk f f.lo f.hi with
        | false => rfl
        | true =>
          have := l_Fault K f ⟨by omega, by omega⟩ ⟨by omega, by omega⟩ (by omega) f.ts.length K 0 (by omega) (by omega)
          rw [Int.natCast_zero] at this
          rw [nt, bd this, List.drop_zero]
          cases h4 : f.ts.all (talOk f) with
          | false => rfl
          | true =>
            rw [if_pos rfl, if_neg (by decide)]
            show (G_Many K f).bind _ = _
            rw [bd (g_Many hK (by omega) (by omega) (by omega) (by omega))]
            by_cases h5 : 2500 < many f
            · rw [ct (dt h5), if_pos h5]
            · rw [cf (df h5), if_neg h5]
theorem g_fault {K : Nat} {f : Fld} (hK : 1000 ≤ K) : G_fault K f = some (check f) := by unfold G_fault; rw [bd (g_Fault hK)]
/-- The fields that the laws go through. -/
def thin (f : Fld) : Bool := decide (f.ts.length ≤ 7) && (decide (check f ≠ 0) || decide (many f ≤ 250))
theorem g_Thin {K : Nat} {f : Fld} (hK : 1000 ≤ K) : G_Thin K f = some (thin f) := by
  unfold G_Thin thin
  by_cases h1 : f.ts.length ≤ 7
  · rw [ct (dt (by omega)), bd (g_Fault hK)]
    by_cases h2 : check f = 0
    · obtain ⟨hr, hw, _⟩ := check_ok h2
      rw [cf (by simp [h2]), bd (g_Many hK (by omega) (by omega) (by omega) (by omega))]
      simp [h1, h2]
    · rw [ct (by simp [h2])]
      simp [h1, h2]
  · rw [cf (df (by omega))]
    simp [h1]
theorem thin_len {f : Fld} (h : thin f = true) : f.ts.length ≤ 7 := by
  simp only [thin, Bool.and_eq_true, decide_eq_true_eq] at h; exact h.1
theorem g_to (K : Nat) (r : Int × Int) : G_to K r = some r := rfl
theorem l_Field (K : Nat) (f : Fld) (hl : f.ts.length ≤ 7) : ∀ (n m i : Nat), f.ts.length = i + n → n < m → G_Field_L7 K f m (i : Int) (f.ts.take i) = some f.ts
  | n, 0, i, h, hm => by omega
  | 0, m + 1, i, h, hm => by
    unfold G_Field_L7
    rw [cf (df (by omega)), List.take_of_length_le (by omega)]
  | n + 1, m + 1, i, h, hm => by
    unfold G_Field_L7
    have hi : i < f.ts.length := by omega
    have e : ((i : Int) + 1) = ((i + 1 : Nat) : Int) := by omega
    rw [ct (dt (by omega)), idxb hi, bd (g_to ..), ifob (by simp; omega), i64b (by omega) (by omega), e]
    have ht : f.ts.take i ++ [(⟨f.ts[i].who, f.ts[i].fr, f.ts[i].to, f.ts[i].lo, f.ts[i].hi⟩ : Tly)] = f.ts.take (i + 1) := (List.take_succ_eq_append_getElem hi).symm
    show G_Field_L7 K f m ((i + 1 : Nat) : Int) (f.ts.take i ++ [(⟨f.ts[i].who, f.ts[i].fr, f.ts[i].to, f.ts[i].lo, f.ts[i].hi⟩ : Tly)]) = _
    rw [ht, l_Field K f hl n m (i + 1) (by omega) (by omega)]
theorem g_Field {K : Nat} {f : Fld} (hK : 1000 ≤ K) (hl : f.ts.length ≤ 7) : G_Field K f = some f := by
  unfold G_Field
  have := l_Field K f hl f.ts.length K 0 (by omega) (by omega)
  rw [Int.natCast_zero, List.take_zero] at this
  rw [bd (g_to ..), bd this]
/-- All tallies but none. -/
theorem allAt_nil (l : List Int) : ∀ (ts : List Tly) (i : Nat), allAt l [] i ts = ts.all fun t => inR (didK l [t.who, t.fr, t.to]) t.lo t.hi
  | [], _ => rfl
  | t :: ts, i => by
    rw [allAt, allAt_nil l ts (i + 1), List.all_cons]
    rfl
/-- Somebody's rows in a tally's stretch. -/
def tdid (l : List Int) (t : Tly) : Int := (part l t.who t.fr.toNat (t.to + 1 - t.fr).toNat : Nat)
theorem didK_part (l : List Int) (t : Tly) (h : 0 ≤ t.fr ∧ t.fr ≤ t.to) : didK l [t.who, t.fr, t.to] = tdid l t := by
  unfold didK tdid part
  have : (t.to + 1).toNat - t.fr.toNat = (t.to + 1 - t.fr).toNat := by omega
  simp only [this]
theorem part_pad (l : List Int) (who : Int) (fr n : Nat) (h : fr + n ≤ l.length) : part (pad l) who fr n = part l who fr n := by
  unfold part pad
  rw [List.drop_append_of_le_length (by omega), List.take_append_of_le_length (by simp; omega)]
theorem tdid_pad (f : Fld) (l : List Int) (t : Tly) (hl : (l.length : Int) = f.rows) (h : talOk f t = true) : tdid (pad l) t = tdid l t := by
  have := talOk_bd h
  unfold tdid
  rw [part_pad _ _ _ _ (by omega)]
/-- What the reference calls allowed, and a truth. -/
def alw (f : Fld) (l : List Int) : Bool := l.all (okWho f) && (decide ((l.length : Int) = f.rows) && inR ((part l (-1) 0 l.length : Nat) : Int) f.lo f.hi)
def tru (f : Fld) (l : List Int) : Bool := alw f l && f.ts.all fun t => inR (tdid l t) t.lo t.hi
theorem okWho_in (f : Fld) (n : Int) (hw : 1 ≤ f.wd) : okWho f n = inR n (-1) (f.wd - 1) := by
  rw [Bool.eq_iff_iff]
  simp only [okWho, Bool.or_eq_true, beq_iff_eq, inR_iff]
  omega
end Go.Proofs.Ythogdgkafaclaaa
end
section
namespace Go.Proofs.Ythogdgkafaclaaa
/-- The i-th list of so many numbers. -/
def nthL (b : Int) : Nat → Int → List Int
  | 0, _ => []
  | n + 1, i => (i % b - 1) :: nthL b n (i / b)
theorem nthL_surj (b : Int) (hb : 1 ≤ b) : ∀ (l : List Int), (∀ x ∈ l, -1 ≤ x ∧ x ≤ b - 2) → ∃ i : Nat, (i : Int) < b ^ l.length ∧ nthL b l.length i = l
  | [], _ => ⟨0, by simp, rfl⟩
  | x :: l, h => by
    obtain ⟨i, hi, he⟩ := nthL_surj b hb l fun y hy => h y (List.mem_cons_of_mem _ hy)
    have hx := h x (List.mem_cons_self ..)
    have h0 : 0 ≤ (x + 1) + b * (i : Int) := by
      have : 0 ≤ b * (i : Int) := Int.mul_nonneg (by omega) (by omega)
      omega
    refine ⟨((x + 1) + b * (i : Int)).toNat, ?_, ?_⟩
    · have h2 : b ^ (l.length + 1) = b * b ^ l.length := by rw [Int.pow_succ, Int.mul_comm]
      rw [Int.toNat_of_nonneg h0, List.length_cons, h2]
      have h1 : b * ((i : Int) + 1) ≤ b * b ^ l.length := Int.mul_le_mul_of_nonneg_left (by omega) (by omega)
      rw [Int.mul_add, Int.mul_one] at h1
      omega
    · rw [Int.toNat_of_nonneg h0]
      simp only [List.length_cons, nthL]
      rw [Int.add_mul_emod_self_left, Int.add_mul_ediv_left _ _ (by omega), Int.emod_eq_of_lt (by omega) (by omega), Int.ediv_eq_zero_of_lt (by omega) (by omega), Int.zero_add, he]
      congr 1
      omega
/-- The reference's truths. -/
def refs (f : Fld) : List (List Int) := ((List.range (many f).toNat).map fun i : Nat => nthL (f.wd + 1) f.rows.toNat (i : Int)).filter (tru f)
theorem many_nn {f : Fld} (hc : check f = 0) : 0 ≤ many f := by
  obtain ⟨hr, hw, _⟩ := check_ok hc
  exact (pow_bd7 (f.wd + 1) (by omega) (by omega) f.rows.toNat (by omega)).1
theorem tru_alw {f : Fld} {l : List Int} (h : tru f l = true) : (∀ x ∈ l, okWho f x = true) ∧ (l.length : Int) = f.rows ∧ inR ((part l (-1) 0 l.length : Nat) : Int) f.lo f.hi = true := by
  simp only [tru, alw, Bool.and_eq_true, decide_eq_true_eq, List.all_eq_true] at h
  exact ⟨h.1.1, h.1.2.1, h.1.2.2⟩
theorem mem_refs {f : Fld} (hc : check f = 0) {l : List Int} : l ∈ refs f ↔ tru f l = true := by
  obtain ⟨hr, hw, _⟩ := check_ok hc
  unfold refs
  rw [List.mem_filter]
  constructor
  · exact fun h => h.2
  · intro h
    refine ⟨?_, h⟩
    obtain ⟨h1, h2, _⟩ := tru_alw h
    obtain ⟨i, hi, he⟩ := nthL_surj (f.wd + 1) (by omega) l fun x hx => by
      have := h1 x hx
      rw [okWho_in f x hw.1, inR_iff] at this
      omega
    have hl : f.rows.toNat = l.length := by omega
    rw [List.mem_map]
    refine ⟨i, ?_, by rw [hl]; exact he⟩
    have h0 := many_nn hc
    have hm : many f = (f.wd + 1) ^ l.length := by unfold many; rw [hl]
    rw [List.mem_range]
    omega
theorem mem_whos {wd x : Int} (hw : 0 ≤ wd) : x ∈ whos wd ↔ -1 ≤ x ∧ x ≤ wd - 1 := by
  simp only [whos, List.mem_map, List.mem_range]
  constructor
  · rintro ⟨j, hj, rfl⟩; omega
  · intro h; exact ⟨(x + 1).toNat, by omega, by omega⟩
theorem mem_enum (p : List Int → Bool) (wd : Int) : ∀ (k : Nat) (pre a : List Int), a ∈ enum p wd k pre ↔ ∃ t : List Int, t.length = k ∧ (∀ x ∈ t, x ∈ whos wd) ∧ p (pad (pre ++ t)) = true ∧ a = pad (pre ++ t)
  | 0, pre, a => by
    unfold enum
    constructor
    · intro h
      split at h
      · rename_i hp
        exact ⟨[], rfl, by simp, by simpa using hp, by simpa using h⟩
      · cases h
    · rintro ⟨t, ht, _, hp, rfl⟩
      obtain rfl := List.length_eq_zero_iff.1 ht
      rw [List.append_nil] at hp ⊢
      rw [if_pos hp]; simp
  | k + 1, pre, a => by
    simp only [enum, List.mem_flatMap]
    constructor
    · rintro ⟨x, hx, h⟩
      obtain ⟨t, h1, h2, h3, h4⟩ := (mem_enum p wd k _ a).1 h
      rw [List.append_assoc, List.singleton_append] at h3 h4
      exact ⟨x :: t, by simp [h1], by simpa using ⟨hx, h2⟩, h3, h4⟩
    · rintro ⟨t, h1, h2, h3, h4⟩
      cases t with
      | nil => simp at h1
      | cons x t =>
        refine ⟨x, h2 x (List.mem_cons_self ..), (mem_enum p wd k _ a).2 ⟨t, by simpa using h1, fun y hy => h2 y (List.mem_cons_of_mem _ hy), ?_, ?_⟩⟩
        · rw [List.append_assoc, List.singleton_append]; exact h3
        · rw [List.append_assoc, List.singleton_append]; exact h4
theorem all_congr {α : Type} {p q : α → Bool} : ∀ {l : List α}, (∀ x ∈ l, p x = q x) → l.all p = l.all q
  | [], _ => rfl
  | a :: l, h => by rw [List.all_cons, List.all_cons, h a (List.mem_cons_self ..), all_congr fun x hx => h x (List.mem_cons_of_mem _ hx)]
theorem right_tru {f : Fld} {l : List Int} (ht : ∀ t ∈ f.ts, talOk f t = true) (hl : (l.length : Int) = f.rows) : rightB f (pad l) [] = (f.ts.all (fun t => inR (tdid l t) t.lo t.hi) && inR ((part l (-1) 0 l.length : Nat) : Int) f.lo f.hi) := by
  unfold rightB
  rw [allAt_nil]
  congr 1
  · refine all_congr fun t h => ?_
    have h1 := talOk_bd (ht t h)
    rw [didK_part _ _ ⟨h1.2.1.1, h1.2.1.2.1⟩, tdid_pad f l t hl (ht t h)]
  · have h2 : f.rows.toNat = l.length := by omega
    have h3 : (pad l).take f.rows.toNat = l.take l.length := by
      unfold pad; rw [h2, List.take_append_of_le_length (Nat.le_refl _)]
    rw [h3]
    unfold part
    rw [List.drop_zero]
theorem mem_truths {f : Fld} (hc : check f = 0) {a : List Int} : a ∈ truths f [] ↔ ∃ l, l ∈ refs f ∧ a = pad l := by
  obtain ⟨hr, hw, _, ht, _⟩ := check_ok hc
  unfold truths
  rw [mem_enum]
  constructor
  · rintro ⟨t, h1, h2, h3, h4⟩
    rw [List.nil_append] at h3 h4
    refine ⟨t, (mem_refs hc).2 ?_, h4⟩
    have hl : (t.length : Int) = f.rows := by omega
    have h3' : rightB f (pad t) [] = true := h3
    rw [right_tru ht hl, Bool.and_eq_true] at h3'
    have h5 : t.all (okWho f) = true := by
      rw [List.all_eq_true]
      intro x hx
      rw [okWho_in f x hw.1, inR_iff]
      have := (mem_whos (by omega)).1 (h2 x hx)
      omega
    unfold tru alw
    rw [h5, h3'.1, h3'.2]
    simp [hl]
  · rintro ⟨l, h, rfl⟩
    have h1 := (mem_refs hc).1 h
    obtain ⟨h2, h3, h4⟩ := tru_alw h1
    refine ⟨l, by omega, fun x hx => ?_, ?_, by simp⟩
    · rw [mem_whos (by omega)]
      have := h2 x hx
      rw [okWho_in f x hw.1, inR_iff] at this
      omega
    · rw [List.nil_append]
      show rightB f (pad l) [] = true
      rw [right_tru ht h3, h4]
      simp only [tru, Bool.and_eq_true] at h1
      rw [h1.2]; rfl
theorem truths_nil {f : Fld} (hc : check f = 0) : truths f [] = [] ↔ refs f = [] := by
  constructor
  · intro h
    rw [List.eq_nil_iff_forall_not_mem] at h ⊢
    exact fun l hl => h (pad l) ((mem_truths hc).2 ⟨l, hl, rfl⟩)
  · intro h
    rw [List.eq_nil_iff_forall_not_mem] at h ⊢
    rintro a ha
    obtain ⟨l, hl, _⟩ := (mem_truths hc).1 ha
    exact h l hl
/-- The error that comes with a question. -/
def sureE (f : Fld) : Int := if check f ≠ 0 then check f else if refs f = [] then 11 else 0
theorem askE_true (f : Fld) : askE f true = sureE f := by
  unfold askE sureE
  by_cases hc : check f = 0
  · simp only [hc, ne_eq, not_true_eq_false, if_false]
    by_cases h : refs f = []
    · rw [if_neg (by decide), if_pos h, if_pos ((truths_nil hc).2 h)]
    · rw [if_neg (by decide), if_neg h, if_neg (fun e => h ((truths_nil hc).1 e))]
  · rw [if_pos hc, if_pos hc]
theorem cntr_pad {f : Fld} {l : List Int} {who : Int} (hl : (l.length : Int) = f.rows) : cntr f (pad l) who = (part l who 0 l.length : Nat) := by
  unfold cntr part pad
  have h2 : f.rows.toNat = l.length := by omega
  rw [h2, List.take_append_of_le_length (Nat.le_refl _), List.drop_zero]
/-- A least and a greatest number, from a first one on. -/
theorem foldl_mm (g : List Int → Int) : ∀ (T : List (List Int)) (r : Int × Int),
    (T.foldl (fun r a => (min r.1 (g a), max r.2 (g a))) r).1 ≤ r.1 ∧ r.2 ≤ (T.foldl (fun r a => (min r.1 (g a), max r.2 (g a))) r).2 ∧
    (∀ a ∈ T, (T.foldl (fun r a => (min r.1 (g a), max r.2 (g a))) r).1 ≤ g a ∧ g a ≤ (T.foldl (fun r a => (min r.1 (g a), max r.2 (g a))) r).2) ∧
    ((T.foldl (fun r a => (min r.1 (g a), max r.2 (g a))) r).1 = r.1 ∨ ∃ a ∈ T, (T.foldl (fun r a => (min r.1 (g a), max r.2 (g a))) r).1 = g a) ∧
    ((T.foldl (fun r a => (min r.1 (g a), max r.2 (g a))) r).2 = r.2 ∨ ∃ a ∈ T, (T.foldl (fun r a => (min r.1 (g a), max r.2 (g a))) r).2 = g a)
  | [], r => ⟨Int.le_refl _, Int.le_refl _, by simp, .inl rfl, .inl rfl⟩
  | b :: T, r => by
    obtain ⟨h1, h2, h3, h4, h5⟩ := foldl_mm g T (min r.1 (g b), max r.2 (g b))
    rw [List.foldl_cons]
    simp only [] at h1 h2 h3 h4 h5
    refine ⟨by clear h4 h5; omega, by clear h4 h5; omega, ?_, ?_, ?_⟩
    · clear h4 h5
      intro a ha
      rcases List.mem_cons.1 ha with rfl | ha
      · exact ⟨by omega, by omega⟩
      · exact h3 a ha
    · clear h5
      rcases h4 with h4 | ⟨a, ha, h4⟩
      · by_cases h : r.1 ≤ g b
        · exact .inl (by omega)
        · exact .inr ⟨b, List.mem_cons_self .., by omega⟩
      · exact .inr ⟨a, List.mem_cons_of_mem _ ha, h4⟩
    · clear h4
      rcases h5 with h5 | ⟨a, ha, h5⟩
      · by_cases h : g b ≤ r.2
        · exact .inl (by omega)
        · exact .inr ⟨b, List.mem_cons_self .., by omega⟩
      · exact .inr ⟨a, List.mem_cons_of_mem _ ha, h5⟩
/-- The reference's bounds. -/
def didB (T : List (List Int)) (who : Int) : Int × Int := T.foldl (fun (r : Int × Int) (a : List Int) => (min r.1 (part a who 0 a.length : Nat), max r.2 (part a who 0 a.length : Nat))) (1099511627776, -1099511627776)
/-- Both say the same of the same truths. -/
theorem doneOf_didB {f : Fld} (hc : check f = 0) (hn : refs f ≠ []) (who : Int) : doneOf f (truths f []) who = didB (refs f) who := by
  obtain ⟨hr, hw, _⟩ := check_ok hc
  have hmin : ∀ (r : Int × Int) (a : List Int), rngS f who r a = (min r.1 (cntr f a who), max r.2 (cntr f a who)) := fun r a => rfl
  have hfold : doneOf f (truths f []) who = (truths f []).foldl (fun r a => (min r.1 (cntr f a who), max r.2 (cntr f a who))) (cntr f ((truths f []).headD []) who, cntr f ((truths f []).headD []) who) := rfl
  have hne : truths f [] ≠ [] := fun e => hn ((truths_nil hc).1 e)
  have hhd : (truths f []).headD [] ∈ truths f [] := by
    cases h : truths f [] with
    | nil => exact absurd h hne
    | cons a T => simp
  obtain ⟨p1, p2, p3, p4, p5⟩ := foldl_mm (fun a => cntr f a who) (truths f []) (cntr f ((truths f []).headD []) who, cntr f ((truths f []).headD []) who)
  obtain ⟨q1, q2, q3, q4, q5⟩ := foldl_mm (fun a => ((part a who 0 a.length : Nat) : Int)) (refs f) (1099511627776, -1099511627776)
  rw [← hfold] at p1 p2 p3 p4 p5
  have hd : didB (refs f) who = (refs f).foldl (fun r a => (min r.1 ((part a who 0 a.length : Nat) : Int), max r.2 ((part a who 0 a.length : Nat) : Int))) (1099511627776, -1099511627776) := rfl
  rw [← hd] at q1 q2 q3 q4 q5
  have hlen : ∀ l ∈ refs f, (l.length : Int) = f.rows := fun l hl => (tru_alw ((mem_refs hc).1 hl)).2.1
  -- each is met by the other
  have toP : ∀ l ∈ refs f, ∃ a ∈ truths f [], cntr f a who = ((part l who 0 l.length : Nat) : Int) := fun l hl => ⟨pad l, (mem_truths hc).2 ⟨l, hl, rfl⟩, cntr_pad (hlen l hl)⟩
  have toQ : ∀ a ∈ truths f [], ∃ l ∈ refs f, cntr f a who = ((part l who 0 l.length : Nat) : Int) := fun a ha => by
    obtain ⟨l, hl, rfl⟩ := (mem_truths hc).1 ha
    exact ⟨l, hl, cntr_pad (hlen l hl)⟩
  have bnd : ∀ l ∈ refs f, ((part l who 0 l.length : Nat) : Int) ≤ 7 := fun l hl => by
    have h1 := part_le l who 0 l.length
    have h2 := hlen l hl
    omega
  obtain ⟨l0, hl0⟩ : ∃ l, l ∈ refs f := by
    cases h : refs f with
    | nil => exact absurd h hn
    | cons a T => exact ⟨a, List.mem_cons_self ..⟩
  have b0 := bnd l0 hl0
  have m0 := q3 l0 hl0
  have P4 : ∃ a ∈ truths f [], (doneOf f (truths f []) who).1 = cntr f a who := by
    rcases p4 with h | h
    · exact ⟨_, hhd, h⟩
    · exact h
  have P5 : ∃ a ∈ truths f [], (doneOf f (truths f []) who).2 = cntr f a who := by
    rcases p5 with h | h
    · exact ⟨_, hhd, h⟩
    · exact h
  have Q4 : ∃ a ∈ refs f, (didB (refs f) who).1 = ((part a who 0 a.length : Nat) : Int) := by
    rcases q4 with h | h
    · simp only [] at h m0; omega
    · exact h
  have Q5 : ∃ a ∈ refs f, (didB (refs f) who).2 = ((part a who 0 a.length : Nat) : Int) := by
    rcases q5 with h | h
    · simp only [] at h m0; omega
    · exact h
  obtain ⟨a4, ha4, e4⟩ := P4
  obtain ⟨a5, ha5, e5⟩ := P5
  obtain ⟨l4, hl4, g4⟩ := Q4
  obtain ⟨l5, hl5, g5⟩ := Q5
  obtain ⟨x4, hx4, i4⟩ := toQ a4 ha4
  obtain ⟨x5, hx5, i5⟩ := toQ a5 ha5
  obtain ⟨y4, hy4, j4⟩ := toP l4 hl4
  obtain ⟨y5, hy5, j5⟩ := toP l5 hl5
  have u1 := (q3 x4 hx4).1
  have u2 := (q3 x5 hx5).2
  have u3 := (p3 y4 hy4).1
  have u4 := (p3 y5 hy5).2
  refine Prod.ext ?_ ?_ <;> omega
theorem donesTo_len (f : Fld) (T : List (List Int)) (k : Nat) : (donesTo f T k).length = k := by simp [donesTo]
theorem donesTo_get (f : Fld) (T : List (List Int)) (k i : Nat) (h : i < (donesTo f T k).length) : (donesTo f T k)[i] = doneOf f T (i : Int) := by simp [donesTo]
end Go.Proofs.Ythogdgkafaclaaa
end
section
namespace Go.Proofs.Ythogdgkafaclaaa
theorem sorted_ext : ∀ {l m : List Int}, l.Pairwise (· < ·) → m.Pairwise (· < ·) → (∀ x, x ∈ l ↔ x ∈ m) → l = m
  | [], [], _, _, _ => rfl
  | [], b :: m, _, _, h => by have := (h b).2 (List.mem_cons_self ..); cases this
  | a :: l, [], _, _, h => by have := (h a).1 (List.mem_cons_self ..); cases this
  | a :: l, b :: m, h1, h2, h => by
    rw [List.pairwise_cons] at h1 h2
    have hab : a = b := by
      rcases List.mem_cons.1 ((h a).1 (List.mem_cons_self ..)) with e | e
      · exact e
      · rcases List.mem_cons.1 ((h b).2 (List.mem_cons_self ..)) with e2 | e2
        · exact e2.symm
        · have := h1.1 b e2; have := h2.1 a e; omega
    subst hab
    congr 1
    refine sorted_ext h1.2 h2.2 fun x => ⟨fun hx => ?_, fun hx => ?_⟩
    · rcases List.mem_cons.1 ((h x).1 (List.mem_cons_of_mem _ hx)) with e | e
      · have := h1.1 x hx; omega
      · exact e
    · rcases List.mem_cons.1 ((h x).2 (List.mem_cons_of_mem _ hx)) with e | e
      · have := h2.1 x hx; omega
      · exact e
theorem getI {zs : List Int} {m : Nat} (h : m < zs.length) : zs.toArray[m]! = zs[m] := by
  rw [getElem!_pos zs.toArray m (by simpa using h)]; simp
theorem compact_inv {zs : List Int} (hs : zs.Pairwise (· ≤ ·)) : ∀ m, m ≤ zs.length → (Lib.compactUpTo zs.toArray m).Pairwise (· < ·) ∧ ∀ x, x ∈ Lib.compactUpTo zs.toArray m ↔ x ∈ zs.take m
  | 0, _ => by simp [Lib.compactUpTo]
  | m + 1, h => by
    obtain ⟨h1, h2⟩ := compact_inv hs m (by omega)
    have hm : m < zs.length := by omega
    rw [Lib.compactUpTo_succ, List.take_succ_eq_append_getElem hm, getI hm]
    have hle : ∀ x ∈ zs.take m, x ≤ zs[m] := fun x hx => by
      obtain ⟨i, hi, rfl⟩ := List.mem_iff_getElem.1 hx
      rw [List.getElem_take]
      simp at hi
      exact (List.pairwise_iff_getElem.1 hs) i m _ hm (by omega)
    by_cases hk : Lib.keeps zs.toArray m = true
    · rw [if_pos hk]
      refine ⟨?_, fun x => by rw [List.mem_append, List.mem_append, h2]⟩
      rw [List.pairwise_append]
      refine ⟨h1, by simp, fun x hx y hy => ?_⟩
      obtain rfl : y = zs[m] := by simpa using hy
      have hx2 := (h2 x).1 hx
      have hx3 := hle x hx2
      simp only [Lib.keeps, decide_eq_true_eq] at hk
      rcases hk with rfl | hk
      · simp at hx2
      · have hm1 : 0 < m := by
          rcases Nat.eq_zero_or_pos m with rfl | h0
          · simp at hx2
          · exact h0
        rw [getI hm, getI (by omega : m - 1 < zs.length)] at hk
        obtain ⟨i, hi, rfl⟩ := List.mem_iff_getElem.1 hx2
        rw [List.getElem_take] at hx3 ⊢
        simp at hi
        have h5 : zs[m - 1] ≤ zs[m] := (List.pairwise_iff_getElem.1 hs) (m - 1) m _ hm (by omega)
        have h4 : zs[i] ≤ zs[m - 1] := by
          by_cases e : i = m - 1
          · subst e; exact Int.le_refl _
          · exact (List.pairwise_iff_getElem.1 hs) i (m - 1) _ _ (by omega)
        have h6 : zs[m] ≠ zs[m - 1] := hk
        show zs[i] < zs[m]
        omega
    · rw [if_neg hk, List.append_nil]
      refine ⟨h1, fun x => ?_⟩
      rw [h2]
      have hk2 : ¬ (m = 0 ∨ zs.toArray[m]! ≠ zs.toArray[m - 1]!) := by simpa [Lib.keeps] using hk
      have hm1 : 0 < m := by
        rcases Nat.eq_zero_or_pos m with rfl | h0
        · exact absurd (.inl rfl) hk2
        · exact h0
      have he : zs.toArray[m]! = zs.toArray[m - 1]! := Decidable.byContradiction fun e => hk2 (.inr e)
      rw [getI hm, getI (by omega : m - 1 < zs.length)] at he
      have hin : zs[m] ∈ zs.take m := by
        rw [he, List.mem_iff_getElem]
        exact ⟨m - 1, by simp; omega, by simp⟩
      simp only [List.mem_append, List.mem_singleton]
      exact ⟨.inl, fun h => h.elim id fun e => e ▸ hin⟩
theorem whos_sorted (wd : Int) : (whos wd).Pairwise (· < ·) := by
  unfold whos
  rw [List.pairwise_map]
  exact List.pairwise_lt_range.imp fun h => by omega
/-- Who stands in a row of some lists. -/
def whoS (wd : Int) (T : List (List Int)) (row : Nat) : List Int := (whos wd).filter fun x => T.any fun a => a.getD row 0 == x
theorem whoF_eq {wd : Int} {T : List (List Int)} {row : Int} (hw : 0 ≤ wd) (hb : ∀ a ∈ T, -1 ≤ a.getD row.toNat 0 ∧ a.getD row.toNat 0 ≤ wd - 1) : whoF T row = whoS wd T row.toNat := by
  unfold whoF
  have hs : ((T.map fun a : List Int => a.getD row.toNat 0).mergeSort fun x y => decide (x ≤ y)).Pairwise (· ≤ ·) := by
    have := List.pairwise_mergeSort (le := fun x y : Int => decide (x ≤ y)) (fun a b c h1 h2 => by simp at *; omega) (fun a b => by simp; omega) (T.map fun a : List Int => a.getD row.toNat 0)
    exact this.imp fun h => by simpa using h
  obtain ⟨h1, h2⟩ := compact_inv hs _ (Nat.le_refl _)
  refine sorted_ext h1 ((whos_sorted wd).filter _) fun x => ?_
  rw [show Lib.compact ((T.map fun a : List Int => a.getD row.toNat 0).mergeSort fun x y => decide (x ≤ y)) = Lib.compactUpTo ((T.map fun a : List Int => a.getD row.toNat 0).mergeSort fun x y => decide (x ≤ y)).toArray ((T.map fun a : List Int => a.getD row.toNat 0).mergeSort fun x y => decide (x ≤ y)).length from rfl, h2, List.take_length, List.mem_mergeSort]
  unfold whoS
  simp only [List.mem_map, List.mem_filter, mem_whos hw, List.any_eq_true, beq_iff_eq]
  constructor
  · rintro ⟨a, ha, rfl⟩; exact ⟨hb a ha, a, ha, rfl⟩
  · rintro ⟨_, a, ha, e⟩; exact ⟨a, ha, e⟩
def f4 : Fld := ⟨4, 2, 0, 0, [⟨0, 0, 2, 2, 3⟩, ⟨1, 2, 3, 1, 2⟩]⟩
def f5 : Fld := ⟨4, 2, 0, 0, [⟨0, 0, 2, 2, 3⟩, ⟨1, 2, 3, 1, 2⟩, ⟨0, 0, 1, 2, 2⟩]⟩
def f6 : Fld := ⟨4, 2, 0, 0, [⟨0, 0, 2, 2, 3⟩, ⟨1, 2, 3, 1, 2⟩, ⟨1, 0, 1, 2, 2⟩]⟩
theorem who4 : whoF (truths f4 []) 3 = [0, 1] := by
  rw [whoF_eq (wd := 2) (by omega) (by decide +kernel)]
  decide +kernel
theorem awake_1000 : G_awake 1000 = some true := by
  unfold G_awake
  rw [bd (show G_four 1000 [] = some f4 from rfl), bd (show Q_Done 1000 f4 = some ([(2, 3), (1, 2)], 0) by decide +kernel), bd (show G_four 1000 [] = some f4 from rfl)]
  rw [bd (show Q_Who 1000 f4 3 = some ([0, 1], 0) by unfold Q_Who; rw [who4]; decide +kernel)]
  rw [bd (show G_two 1000 = some ⟨0, 0, 1, 2, 2⟩ from rfl), bd (show G_four 1000 [⟨0, 0, 1, 2, 2⟩] = some f5 from rfl), bd (show Q_Ask 1000 f5 0 = some ([2, 3], 0) by decide +kernel), bd (show G_four 1000 [] = some f4 from rfl)]
  rw [bd (show Q_Next 1000 f4 0 = some (0, 3, 0) by decide +kernel), bd (show G_wrong 1000 = some ⟨1, 0, 1, 2, 2⟩ from rfl), bd (show G_four 1000 [⟨1, 0, 1, 2, 2⟩] = some f6 from rfl), bd (show Q_First 1000 f6 = some (2, 0) by decide +kernel)]
  rw [bd (show G_wrong 1000 = some ⟨1, 0, 1, 2, 2⟩ from rfl), bd (show G_four 1000 [⟨1, 0, 1, 2, 2⟩] = some f6 from rfl), bd (show Q_Leave 1000 f6 = some ([0], 0) by decide +kernel)]
  decide +kernel
end Go.Proofs.Ythogdgkafaclaaa
end
section
namespace Go.Proofs.Ythogdgkafaclaaa
theorem whoS_len (wd : Int) (T : List (List Int)) (row : Nat) : (whoS wd T row).length ≤ (wd + 1).toNat := by
  unfold whoS
  refine Nat.le_trans (List.length_filter_le _ _) ?_
  rw [whos_len]; exact Nat.le_refl _
/-- The truths of both say the same of a row. -/
theorem who_refs {f : Fld} (hc : check f = 0) {row : Nat} (hr : (row : Int) < f.rows) : whoF (truths f []) (row : Int) = whoS f.wd (refs f) row := by
  obtain ⟨hr2, hw, _⟩ := check_ok hc
  rw [whoF_eq (wd := f.wd) (by omega) fun a ha => truths_bd (by omega) a ha _ (by omega)]
  have ht : (row : Int).toNat = row := by omega
  rw [ht]
  unfold whoS
  refine List.filter_congr fun x _ => ?_
  rw [Bool.eq_iff_iff, List.any_eq_true, List.any_eq_true]
  constructor
  · rintro ⟨a, ha, h⟩
    obtain ⟨l, hl, rfl⟩ := (mem_truths hc).1 ha
    have := (tru_alw ((mem_refs hc).1 hl)).2.1
    refine ⟨l, hl, ?_⟩
    rw [show (pad l).getD row 0 = l.getD row 0 by unfold pad; exact getD_app (by omega)] at h
    exact h
  · rintro ⟨l, hl, h⟩
    have := (tru_alw ((mem_refs hc).1 hl)).2.1
    refine ⟨pad l, (mem_truths hc).2 ⟨l, hl, rfl⟩, ?_⟩
    rw [show (pad l).getD row 0 = l.getD row 0 by unfold pad; exact getD_app (by omega)]
    exact h
end Go.Proofs.Ythogdgkafaclaaa
end
section
namespace Go.Proofs.Ythogdgkafaclaaa
/-- The places of the bits that are set. -/
def bitsL (s : Nat) : List Int := ((List.range 8).filter fun x => s / 2 ^ x % 2 == 1).map fun x : Nat => (x : Int)
def lexB : List Int → List Int → Bool
  | a :: as1, b :: bs1 => if a = b then lexB as1 bs1 else decide (a < b)
  | [], _ :: _ => true
  | _, [] => false
/-- Shorter, or as1 long and before it. -/
def sh (a b : List Int) : Bool := decide (a.length < b.length) || (a.length == b.length && lexB a b)
theorem lexB_irr : ∀ a : List Int, lexB a a = false
  | [] => rfl
  | a :: as1 => by rw [lexB, if_pos rfl, lexB_irr as1]
theorem lexB_trans : ∀ a b c : List Int, lexB a b = true → lexB b c = true → lexB a c = true
  | [], b, [], h1, h2 => by cases b <;> cases h1; cases h2
  | [], b, c :: cs1, h1, h2 => rfl
  | a :: as1, [], c, h1, h2 => by cases h1
  | a :: as1, b :: bs1, [], h1, h2 => by cases h2
  | a :: as1, b :: bs1, c :: cs1, h1, h2 => by
    rw [lexB] at h1 h2 ⊢
    by_cases e : a = b
    · subst e
      rw [if_pos rfl] at h1
      by_cases e2 : a = c
      · subst e2
        rw [if_pos rfl] at h2 ⊢
        exact lexB_trans as1 bs1 cs1 h1 h2
      · rw [if_neg e2] at h2 ⊢; exact h2
    · rw [if_neg e, decide_eq_true_eq] at h1
      by_cases e2 : b = c
      · subst e2
        rw [if_neg e, decide_eq_true_eq]; exact h1
      · rw [if_neg e2, decide_eq_true_eq] at h2
        rw [if_neg (by omega), decide_eq_true_eq]; omega
theorem sh_iff {a b : List Int} : sh a b = true ↔ a.length < b.length ∨ (a.length = b.length ∧ lexB a b = true) := by simp [sh]
theorem sh_irr (a : List Int) : sh a a = false := by
  rw [Bool.eq_false_iff]; intro h
  rcases sh_iff.1 h with h | h
  · omega
  · rw [lexB_irr] at h; cases h.2
theorem sh_trans {a b c : List Int} (h : sh a b = true) (g : sh b c = true) : sh a c = true := by
  rw [sh_iff] at h g ⊢
  rcases h with h | h <;> rcases g with g | g
  · exact .inl (by omega)
  · exact .inl (by omega)
  · exact .inl (by omega)
  · exact .inr ⟨by omega, lexB_trans _ _ _ h.2 g.2⟩
theorem cand_in : ∀ n : Nat, n < 8 → ∀ s : Nat, s < 2 ^ n → bitsL s ∈ candAll (n : Int) (n + 1) := by decide +kernel
theorem cand_of : ∀ n : Nat, n < 8 → ∀ l ∈ candAll (n : Int) (n + 1), ∃ s : Nat, s < 2 ^ n ∧ bitsL s = l := by decide +kernel
theorem cand_sorted : ∀ n : Nat, n < 8 → (candAll (n : Int) (n + 1)).Pairwise fun a b => sh a b = true := by decide +kernel
theorem bits_len : ∀ s : Nat, (bitsL s).length ≤ 8 := fun s => by
  unfold bitsL
  rw [List.length_map]
  exact Nat.le_trans (List.length_filter_le _ _) (by simp)
theorem fnd_spec {p : List Int → Bool} : ∀ {L : List (List Int)} (cur : List Int), L.any p = true → ∃ A x B, L = A ++ x :: B ∧ p x = true ∧ (∀ a ∈ A, p a = false) ∧ fnd p cur L = x
  | [], cur, h => by cases h
  | c :: L, cur, h => by
    by_cases hc : p c = true
    · exact ⟨[], c, L, rfl, hc, by simp, by rw [fnd, if_pos hc]⟩
    · have hc' : p c = false := by simpa using hc
      rw [List.any_cons, hc', Bool.false_or] at h
      obtain ⟨A, x, B, h1, h2, h3, h4⟩ := fnd_spec c h
      refine ⟨c :: A, x, B, by rw [h1]; rfl, h2, ?_, by rw [fnd, if_neg hc]; exact h4⟩
      intro a ha
      rcases List.mem_cons.1 ha with rfl | ha
      · exact hc'
      · exact h3 a ha
/-- In turn, the reference takes a shorter list that passes. -/
def pickF (p : List Int → Bool) (cur : List Int) (s : Nat) : List Int := if (sh (bitsL s) cur && p (bitsL s)) = true then bitsL s else cur
theorem pick_inv {n : Nat} (hn : n < 8) {p : List Int → Bool} {c0 : List Int} (h0 : c0 ∈ candAll (n : Int) (n + 1)) (hp : p c0 = true) : ∀ k, k ≤ 2 ^ n →
    (List.range k).foldl (pickF p) c0 ∈ candAll (n : Int) (n + 1) ∧ p ((List.range k).foldl (pickF p) c0) = true ∧ ∀ s, s < k → p (bitsL s) = true → sh (bitsL s) ((List.range k).foldl (pickF p) c0) = false
  | 0, _ => ⟨h0, hp, fun s hs => by omega⟩
  | k + 1, hk => by
    obtain ⟨h1, h2, h3⟩ := pick_inv hn h0 hp k (by omega)
    rw [range_fold]
    generalize (List.range k).foldl (pickF p) c0 = cur at h1 h2 h3
    unfold pickF
    by_cases hc : (sh (bitsL k) cur && p (bitsL k)) = true
    · rw [if_pos hc]
      rw [Bool.and_eq_true] at hc
      refine ⟨cand_in n hn k (by omega), hc.2, fun s hs hps => ?_⟩
      rcases Nat.lt_or_ge s k with h | h
      · rw [Bool.eq_false_iff]
        intro hh
        have := h3 s h hps
        rw [sh_trans hh hc.1] at this
        cases this
      · obtain rfl : s = k := by omega
        exact sh_irr _
    · rw [if_neg hc]
      refine ⟨h1, h2, fun s hs hps => ?_⟩
      rcases Nat.lt_or_ge s k with h | h
      · exact h3 s h hps
      · obtain rfl : s = k := by omega
        rw [hps, Bool.and_true] at hc
        simpa using hc
theorem pick_fnd {n : Nat} (hn : n < 8) {p : List Int → Bool} {c0 : List Int} (h0 : c0 ∈ candAll (n : Int) (n + 1)) (hp : p c0 = true) (cur : List Int) : (List.range (2 ^ n)).foldl (pickF p) c0 = fnd p cur (candAll (n : Int) (n + 1)) := by
  obtain ⟨h1, h2, h3⟩ := pick_inv hn h0 hp (2 ^ n) (Nat.le_refl _)
  obtain ⟨A, x, B, g1, g2, g3, g4⟩ := fnd_spec (p := p) cur (List.any_eq_true.2 ⟨c0, h0, hp⟩)
  rw [g4]
  generalize (List.range (2 ^ n)).foldl (pickF p) c0 = c at h1 h2 h3
  have hs := cand_sorted n hn
  have hx : x ∈ candAll (n : Int) (n + 1) := by rw [g1]; simp
  obtain ⟨s, hs1, rfl⟩ := cand_of n hn x hx
  have h4 := h3 s hs1 g2
  rw [g1] at h1 hs
  rw [List.pairwise_append] at hs
  rcases List.mem_append.1 h1 with h | h
  · rw [g3 c h] at h2; cases h2
  · rcases List.mem_cons.1 h with h | h
    · exact h
    · have := (List.pairwise_cons.1 hs.2.1).1 c h
      rw [this] at h4; cases h4
theorem shortest_pick {n : Nat} (hn : n < 8) {p : List Int → Bool} {c0 : List Int} (h0 : c0 ∈ candAll (n : Int) (n + 1)) (hp : p c0 = true) : shortestL (n : Int) p = (List.range (2 ^ n)).foldl (pickF p) c0 := by
  unfold shortestL
  rw [show ((n : Int) + 1).toNat = n + 1 by omega, pick_fnd hn h0 hp]
end Go.Proofs.Ythogdgkafaclaaa
end
section
namespace Go.Proofs.Ythogdgkafaclaaa
/-- Two lists say the same of the rows that are asked about. -/
def alike (s : Nat) (fr n : Nat) (a b : List Int) : Bool := (List.range' fr n).all fun x => s / 2 ^ x % 2 == 0 || a.getD x 0 == b.getD x 0
theorem gd {T : List (List Int)} {i : Nat} (h : i < T.length) : T[i] = T.getD i [] := by simp [List.getElem?_eq_getElem h]
theorem gd0 {l : List Int} {i : Nat} (h : i < l.length) : l[i] = l.getD i 0 := by simp [List.getElem?_eq_getElem h]
/-- Two lists differ in somebody's number, and say the same. -/
def clash (T : List (List Int)) (who : Int) (s k i j : Nat) : Bool := ((part (T.getD i []) who 0 k : Nat) : Int) != ((part (T.getD j []) who 0 k : Nat) : Int) && alike s 0 k (T.getD i []) (T.getD j [])
/-- The reference's word whether some rows settle somebody's number. -/
def setR (T : List (List Int)) (who : Int) (k s : Nat) : Bool := !((List.range T.length).any fun i => (List.range i).any (clash T who s k i))
theorem alike_iff {s k : Nat} {a b : List Int} : alike s 0 k a b = true ↔ ∀ x, x < k → s / 2 ^ x % 2 = 0 ∨ a.getD x 0 = b.getD x 0 := by
  unfold alike
  rw [← List.range_eq_range']
  simp [List.all_eq_true]
theorem alike_comm (s k : Nat) (a b : List Int) : alike s 0 k a b = alike s 0 k b a := by
  rw [Bool.eq_iff_iff, alike_iff, alike_iff]
  exact ⟨fun h x hx => (h x hx).imp id Eq.symm, fun h x hx => (h x hx).imp id Eq.symm⟩
theorem setR_iff {T : List (List Int)} {who : Int} {k s : Nat} : setR T who k s = true ↔ ∀ a ∈ T, ∀ b ∈ T, alike s 0 k a b = true → part a who 0 k = part b who 0 k := by
  unfold setR
  rw [Bool.not_eq_true', Bool.eq_false_iff]
  constructor
  · intro h a ha b hb hab
    refine Decidable.byContradiction fun hne => h ?_
    obtain ⟨i, hi, rfl⟩ := List.mem_iff_getElem.1 ha
    obtain ⟨j, hj, rfl⟩ := List.mem_iff_getElem.1 hb
    have hij : i ≠ j := by rintro rfl; exact hne rfl
    rw [List.any_eq_true]
    rcases Nat.lt_or_gt_of_ne hij with hlt | hlt
    · refine ⟨j, by simpa using hj, List.any_eq_true.2 ⟨i, by simpa using hlt, ?_⟩⟩
      unfold clash
      rw [← gd hi, ← gd hj, alike_comm, hab, Bool.and_true]
      simp only [bne_iff_ne, ne_eq]
      omega
    · refine ⟨i, by simpa using hi, List.any_eq_true.2 ⟨j, by simpa using hlt, ?_⟩⟩
      unfold clash
      rw [← gd hi, ← gd hj, hab, Bool.and_true]
      simp only [bne_iff_ne, ne_eq]
      omega
  · intro h hc
    rw [List.any_eq_true] at hc
    obtain ⟨i, hi, hc⟩ := hc
    rw [List.any_eq_true] at hc
    obtain ⟨j, hj, hc⟩ := hc
    have hi : i < T.length := by simpa using hi
    have hj : j < i := by simpa using hj
    unfold clash at hc
    rw [← gd hi, ← gd (by omega : j < T.length), Bool.and_eq_true] at hc
    have := h _ (List.getElem_mem hi) _ (List.getElem_mem (by omega : j < T.length)) hc.2
    simp [this] at hc
theorem foldl_set_get (a : List Int) (i : Nat) (hi : i < 7) : ∀ (l z : List Int), z.length = 7 → (l.foldl (fun key r => key.set r.toNat (a.getD r.toNat 0)) z).getD i 0 = if l.any (fun r => r.toNat == i) = true then a.getD i 0 else z.getD i 0
  | [], z, _ => rfl
  | r :: l, z, hz => by
    rw [List.foldl_cons, foldl_set_get a i hi l _ (by simpa using hz), List.any_cons]
    by_cases h : l.any (fun r => r.toNat == i) = true
    · rw [if_pos h, if_pos (by simp [h])]
    · rw [if_neg h]
      by_cases hr : r.toNat = i
      · rw [if_pos (by simp [hr]), hr, getD_set_eq (by omega)]
      · rw [if_neg (by simp [hr]; simpa using h), getD_set_ne2 (Ne.symm hr)]
theorem keyOf_get (rows a : List Int) {i : Nat} (hi : i < 7) : (keyOf rows a).getD i 0 = if rows.any (fun r => r.toNat == i) = true then a.getD i 0 else 0 := by
  unfold keyOf
  rw [foldl_set_get a i hi rows _ (by simp)]
  congr 1
  have : ∀ i, i < 7 → (List.replicate 7 (0 : Int)).getD i 0 = 0 := by decide
  exact this i hi
theorem keyOf_eq {rows a b : List Int} (h : ∀ r ∈ rows, 0 ≤ r ∧ r ≤ 6) : keyOf rows a = keyOf rows b ↔ ∀ r ∈ rows, a.getD r.toNat 0 = b.getD r.toNat 0 := by
  constructor
  · intro e r hr
    have hr7 := h r hr
    have h1 := keyOf_get rows a (i := r.toNat) (by omega)
    have h2 := keyOf_get rows b (i := r.toNat) (by omega)
    have ha : rows.any (fun x => x.toNat == r.toNat) = true := List.any_eq_true.2 ⟨r, hr, by simp⟩
    rw [if_pos ha] at h1 h2
    rw [← h1, ← h2, e]
  · intro e
    refine List.ext_getElem (by rw [keyOf_len, keyOf_len]) fun i h1 h2 => ?_
    have hi : i < 7 := by rw [keyOf_len] at h1; exact h1
    rw [gd0 h1, gd0 h2, keyOf_get rows a hi, keyOf_get rows b hi]
    by_cases hc : rows.any (fun r => r.toNat == i) = true
    · rw [if_pos hc, if_pos hc]
      obtain ⟨r, hr, hri⟩ := List.any_eq_true.1 hc
      have := e r hr
      have hri : r.toNat = i := by simpa using hri
      rw [hri] at this
      exact this
    · rw [if_neg hc, if_neg hc]
theorem mem_bits {s : Nat} {r : Int} : r ∈ bitsL s ↔ ∃ x : Nat, x < 8 ∧ s / 2 ^ x % 2 = 1 ∧ r = x := by
  unfold bitsL
  simp only [List.mem_map, List.mem_filter, List.mem_range, beq_iff_eq]
  constructor
  · rintro ⟨x, ⟨h1, h2⟩, rfl⟩; exact ⟨x, h1, h2, rfl⟩
  · rintro ⟨x, h1, h2, rfl⟩; exact ⟨x, ⟨h1, h2⟩, rfl⟩
theorem bit_lt {s x k : Nat} (hs : s < 2 ^ k) (h : s / 2 ^ x % 2 = 1) : x < k := by
  refine Decidable.byContradiction fun hx => ?_
  have : s < 2 ^ x := Nat.lt_of_lt_of_le hs (Nat.pow_le_pow_right (by omega) (by omega))
  rw [Nat.div_eq_of_lt this] at h
  cases h
/-- Both say the same. -/
theorem settles_refs {f : Fld} (hc : check f = 0) (who : Int) {s : Nat} (hs : s < 2 ^ f.rows.toNat) : settlesB f (truths f []) who (bitsL s) = setR (refs f) who f.rows.toNat s := by
  obtain ⟨hr2, hw, _⟩ := check_ok hc
  have hlen : ∀ l ∈ refs f, (l.length : Int) = f.rows := fun l hl => (tru_alw ((mem_refs hc).1 hl)).2.1
  have hb : ∀ r ∈ bitsL s, 0 ≤ r ∧ r ≤ 6 := fun r hr => by
    obtain ⟨x, _, h2, rfl⟩ := mem_bits.1 hr
    have := bit_lt hs h2
    omega
  have hal : ∀ a ∈ refs f, ∀ b ∈ refs f, (keyOf (bitsL s) (pad a) = keyOf (bitsL s) (pad b) ↔ alike s 0 f.rows.toNat a b = true) := fun a ha b hb2 => by
    have h1 := hlen a ha
    have h2 := hlen b hb2
    rw [keyOf_eq hb, alike_iff]
    constructor
    · intro h x hx
      rcases Nat.mod_two_eq_zero_or_one (s / 2 ^ x) with h0 | h0
      · exact .inl h0
      · have := h (x : Int) (mem_bits.2 ⟨x, by omega, h0, rfl⟩)
        rw [show (x : Int).toNat = x by omega] at this
        unfold pad at this
        rw [getD_app (by omega), getD_app (by omega)] at this
        exact .inr this
    · intro h r hr
      obtain ⟨x, _, h0, rfl⟩ := mem_bits.1 hr
      have hx := bit_lt hs h0
      rw [show (x : Int).toNat = x by omega]
      unfold pad
      rw [getD_app (by omega), getD_app (by omega)]
      rcases h x hx with h | h
      · omega
      · exact h
  have hpt : ∀ a ∈ refs f, cntr f (pad a) who = ((part a who 0 f.rows.toNat : Nat) : Int) := fun a ha => by
    have h1 := hlen a ha
    rw [cntr_pad h1, show a.length = f.rows.toNat by omega]
  rw [Bool.eq_iff_iff, settles_iff, setR_iff]
  constructor
  · intro h a ha b hb2 hab
    have := h (pad a) ((mem_truths hc).2 ⟨a, ha, rfl⟩) (pad b) ((mem_truths hc).2 ⟨b, hb2, rfl⟩) ((hal a ha b hb2).2 hab)
    rw [hpt a ha, hpt b hb2] at this
    omega
  · intro h a ha b hb2 hab
    obtain ⟨x, hx, rfl⟩ := (mem_truths hc).1 ha
    obtain ⟨y, hy, rfl⟩ := (mem_truths hc).1 hb2
    rw [hpt x hx, hpt y hy]
    have := h x hx y hy ((hal x hx y hy).1 hab)
    omega
end Go.Proofs.Ythogdgkafaclaaa
end
section
namespace Go.Proofs.Ythogdgkafaclaaa
theorem full_all : ∀ r : Nat, r < 8 → ∀ x : Nat, x < r → (2 ^ r - 1) / 2 ^ x % 2 = 1 := by decide +kernel
theorem settles_full {f : Fld} (hc : check f = 0) (who : Int) : setR (refs f) who f.rows.toNat (2 ^ f.rows.toNat - 1) = true := by
  obtain ⟨hr2, hw, _⟩ := check_ok hc
  rw [setR_iff]
  intro a ha b hb hab
  have h1 := (tru_alw ((mem_refs hc).1 ha)).2.1
  have h2 := (tru_alw ((mem_refs hc).1 hb)).2.1
  rw [alike_iff] at hab
  have : a = b := by
    refine List.ext_getElem (by omega) fun i g1 g2 => ?_
    rw [gd0 g1, gd0 g2]
    rcases hab i (by omega) with h | h
    · rw [full_all f.rows.toNat (by omega) i (by omega)] at h; cases h
    · exact h
  rw [this]
end Go.Proofs.Ythogdgkafaclaaa
end
section
namespace Go.Proofs.Ythogdgkafaclaaa
theorem allAt_iff (l out : List Int) : ∀ (ts : List Tly) (i : Nat), allAt l out i ts = true ↔ ∀ k t, ts[k]? = some t → okAt l out (i + k) t = true
  | [], i => by simp [allAt]
  | s :: ts, i => by
    rw [allAt, Bool.and_eq_true, allAt_iff l out ts (i + 1)]
    constructor
    · rintro ⟨h1, h2⟩ k t hk
      cases k with
      | zero =>
        obtain rfl : s = t := by simpa using hk
        simpa using h1
      | succ k =>
        have := h2 k t (by simpa using hk)
        rw [show i + (k + 1) = i + 1 + k by omega]; exact this
    · intro h
      exact ⟨by simpa using h 0 s rfl, fun k t hk => by
        have := h (k + 1) t (by simpa using hk)
        rw [show i + 1 + k = i + (k + 1) by omega]; exact this⟩
/-- A tally is right in a list. -/
def rt (l : List Int) (t : Tly) : Bool := inR (tdid l t) t.lo t.hi
theorem mem_truthsO {f : Fld} (hc : check f = 0) {out a : List Int} : a ∈ truths f out ↔ ∃ l, alw f l = true ∧ (∀ (k : Nat) t, f.ts[k]? = some t → out.contains (k : Int) = true ∨ rt l t = true) ∧ a = pad l := by
  obtain ⟨hr, hw, _, ht, _⟩ := check_ok hc
  have key : ∀ l : List Int, (l.length : Int) = f.rows → (rightB f (pad l) out = true ↔ inR ((part l (-1) 0 l.length : Nat) : Int) f.lo f.hi = true ∧ ∀ (k : Nat) t, f.ts[k]? = some t → out.contains (k : Int) = true ∨ rt l t = true) := by
    intro l hl
    unfold rightB
    rw [Bool.and_eq_true, allAt_iff]
    have h3 : (pad l).take f.rows.toNat = l.take l.length := by
      unfold pad; rw [show f.rows.toNat = l.length by omega, List.take_append_of_le_length (Nat.le_refl _)]
    rw [h3]
    have hp : part l (-1) 0 l.length = cnt (-1) (l.take l.length) := by unfold part; rw [List.drop_zero]
    rw [hp, and_comm]
    refine and_congr Iff.rfl ⟨fun h k t hk => ?_, fun h k t hk => ?_⟩
    · have h2 := h k t hk
      have h4 := talOk_bd (ht t (List.mem_of_getElem? hk))
      unfold okAt at h2
      rw [Bool.or_eq_true, didK_part _ _ ⟨h4.2.1.1, h4.2.1.2.1⟩, tdid_pad f l t hl (ht t (List.mem_of_getElem? hk)), Nat.zero_add] at h2
      exact h2
    · have h2 := h k t hk
      have h4 := talOk_bd (ht t (List.mem_of_getElem? hk))
      unfold okAt
      rw [Bool.or_eq_true, didK_part _ _ ⟨h4.2.1.1, h4.2.1.2.1⟩, tdid_pad f l t hl (ht t (List.mem_of_getElem? hk)), Nat.zero_add]
      exact h2
  have hall : ∀ l : List Int, l.all (okWho f) = true ↔ ∀ x ∈ l, x ∈ whos f.wd := fun l => by
    rw [List.all_eq_true]
    refine ⟨fun h x hx => ?_, fun h x hx => ?_⟩
    · have := h x hx
      rw [okWho_in f x hw.1, inR_iff] at this
      exact (mem_whos (by omega)).2 (by omega)
    · rw [okWho_in f x hw.1, inR_iff]
      have := (mem_whos (by omega)).1 (h x hx)
      omega
  unfold truths
  rw [mem_enum]
  constructor
  · rintro ⟨t, h1, h2, h3, h4⟩
    rw [List.nil_append] at h3 h4
    have hl : (t.length : Int) = f.rows := by omega
    obtain ⟨h5, h6⟩ := (key t hl).1 h3
    refine ⟨t, ?_, h6, h4⟩
    unfold alw
    rw [(hall t).2 h2, h5]
    simp [hl]
  · rintro ⟨l, h1, h2, rfl⟩
    simp only [alw, Bool.and_eq_true, decide_eq_true_eq] at h1
    refine ⟨l, by omega, (hall l).1 h1.1, ?_, by simp⟩
    rw [List.nil_append]
    exact (key l h1.2.1).2 ⟨h1.2.2, h2⟩
theorem truths_ne {f : Fld} (hc : check f = 0) {out : List Int} : truths f out ≠ [] ↔ ∃ l, alw f l = true ∧ ∀ (k : Nat) t, f.ts[k]? = some t → out.contains (k : Int) = true ∨ rt l t = true := by
  constructor
  · intro h
    obtain ⟨a, ha⟩ := List.exists_mem_of_ne_nil _ h
    obtain ⟨l, h1, h2, _⟩ := (mem_truthsO hc).1 ha
    exact ⟨l, h1, h2⟩
  · rintro ⟨l, h1, h2⟩ e
    have := (mem_truthsO hc (out := out) (a := pad l)).2 ⟨l, h1, h2, rfl⟩
    rw [e] at this
    cases this
/-- Some list is allowed. -/
theorem alw_some {f : Fld} (hc : check f = 0) : ∃ l, alw f l = true := by
  obtain ⟨hr, hw, h6, ht2, hl, hm⟩ := check_ok hc
  simp only [rngOk, Bool.and_eq_true, decide_eq_true_eq] at hl
  refine ⟨List.replicate f.lo.toNat (-1) ++ List.replicate (f.rows - f.lo).toNat 0, ?_⟩
  have h1 : part (List.replicate f.lo.toNat (-1) ++ List.replicate (f.rows - f.lo).toNat 0) (-1) 0 (List.replicate f.lo.toNat (-1 : Int) ++ List.replicate (f.rows - f.lo).toNat 0).length = f.lo.toNat := by
    unfold part cnt
    rw [List.drop_zero, List.take_length, List.countP_append, List.countP_replicate, List.countP_replicate]
    simp
  unfold alw
  rw [h1]
  simp only [Bool.and_eq_true, decide_eq_true_eq, List.all_eq_true, inR_iff, List.length_append, List.length_replicate]
  refine ⟨fun x hx => ?_, by omega, by omega⟩
  rw [okWho_in f x hw.1, inR_iff]
  rcases List.mem_append.1 hx with h | h
  · have := (List.mem_replicate.1 h).2; omega
  · have := (List.mem_replicate.1 h).2; omega
theorem shortest_spec {n : Nat} (hn : n < 8) {p : List Int → Bool} {s0 : Nat} (h0 : s0 < 2 ^ n) (hp : p (bitsL s0) = true) :
    ∃ s, s < 2 ^ n ∧ shortestL (n : Int) p = bitsL s ∧ p (bitsL s) = true ∧ ∀ s', s' < 2 ^ n → p (bitsL s') = true → sh (bitsL s') (bitsL s) = false := by
  rw [shortest_pick hn (cand_in n hn s0 h0) hp]
  obtain ⟨h1, h2, h3⟩ := pick_inv hn (cand_in n hn s0 h0) hp (2 ^ n) (Nat.le_refl _)
  obtain ⟨s, hs, he⟩ := cand_of n hn _ h1
  refine ⟨s, hs, he.symm, ?_, fun s' hs' hp' => ?_⟩
  · rw [he]; exact h2
  · rw [he]; exact h3 s' hs' hp'
theorem sh_len {a b : List Int} (h : sh a b = false) : b.length ≤ a.length := by
  rw [Bool.eq_false_iff] at h
  refine Decidable.byContradiction fun hh => h (sh_iff.2 (.inl (by omega)))
theorem bits_has {s x : Nat} (hx : x < 8) : (bitsL s).contains (x : Int) = (s / 2 ^ x % 2 == 1) := by
  rw [Bool.eq_iff_iff, List.contains_iff_mem, mem_bits, beq_iff_eq]
  constructor
  · rintro ⟨y, hy, h, e⟩
    obtain rfl : x = y := by omega
    exact h
  · intro h; exact ⟨x, hx, h, rfl⟩
end Go.Proofs.Ythogdgkafaclaaa
end
section
namespace Go.Proofs.Ythogdgkafaclaaa
/-- By so many questions c can be known of what is in S; g says what is answered. -/
def Qn (c : List Int → Int) (g : List Int → Nat → Int) (R : Nat) : Nat → (List Int → Prop) → Prop
  | 0, S => ∀ a b, S a → S b → c a = c b
  | m + 1, S => (∀ a b, S a → S b → c a = c b) ∨ ∃ r, r < R ∧ ∀ v, Qn c g R m (fun a => S a ∧ g a r = v)
theorem Qn_rel {c c' : List Int → Int} {g g' : List Int → Nat → Int} {R : Nat} : ∀ (m : Nat) (S S' : List Int → Prop), (∀ a', S' a' → ∃ a, S a ∧ c a = c' a' ∧ ∀ r, r < R → g a r = g' a' r) → Qn c g R m S → Qn c' g' R m S'
  | 0, S, S', h, hq => fun a' b' ha hb => by
    obtain ⟨a, h1, h2, _⟩ := h a' ha
    obtain ⟨b, h3, h4, _⟩ := h b' hb
    rw [← h2, ← h4]; exact hq a b h1 h3
  | m + 1, S, S', h, hq => by
    rcases hq with hq | ⟨r, hr, hq⟩
    · left
      intro a' b' ha hb
      obtain ⟨a, h1, h2, _⟩ := h a' ha
      obtain ⟨b, h3, h4, _⟩ := h b' hb
      rw [← h2, ← h4]; exact hq a b h1 h3
    · right
      refine ⟨r, hr, fun v => Qn_rel m _ _ ?_ (hq v)⟩
      rintro a' ⟨ha, hv⟩
      obtain ⟨a, h1, h2, h3⟩ := h a' ha
      exact ⟨a, ⟨h1, by rw [h3 r hr]; exact hv⟩, h2, h3⟩
section
variable {c : List Int → Int} {g : List Int → Nat → Int} {R : Nat} {S S' : List Int → Prop}
theorem Qn_sub {m : Nat} (h : ∀ a, S' a → S a) (hq : Qn c g R m S) : Qn c g R m S' := Qn_rel m S S' (fun a ha => ⟨a, h a ha, rfl, fun _ _ => rfl⟩) hq
theorem Qn_stl {m : Nat} (h : ∀ a b, S a → S b → c a = c b) : Qn c g R m S := by
  cases m with
  | zero => exact h
  | succ m => exact .inl h
theorem Qn_succ : ∀ (m : Nat) (S : List Int → Prop), Qn c g R m S → Qn c g R (m + 1) S
  | 0, S, h => .inl h
  | m + 1, S, h => by
    rcases h with h | ⟨r, hr, h⟩
    · exact .inl h
    · exact .inr ⟨r, hr, fun v => Qn_succ m _ (h v)⟩
theorem Qn_mono {m m' : Nat} (hm : m ≤ m') (h : Qn c g R m S) : Qn c g R m' S := by
  induction hm with
  | refl => exact h
  | step _ ih => exact Qn_succ _ _ ih
theorem Qn_all (hc : ∀ a b, S a → S b → (∀ r, r < R → g a r = g b r) → c a = c b) : Qn c g R R S := by
  have key : ∀ (k : Nat), k ≤ R → ∀ (S : List Int → Prop), (∀ a b, S a → S b → (∀ r, r < R → g a r = g b r) → c a = c b) → (∀ a b, S a → S b → ∀ r, k ≤ r → r < R → g a r = g b r) → Qn c g R k S := by
    intro k
    induction k with
    | zero => exact fun _ S h1 h2 a b ha hb => h1 a b ha hb fun r hr => h2 a b ha hb r (Nat.zero_le _) hr
    | succ k ih =>
      intro hk S h1 h2
      refine .inr ⟨k, by omega, fun v => ih (by omega) _ (fun a b ha hb => h1 a b ha.1 hb.1) fun a b ha hb r hr1 hr2 => ?_⟩
      rcases Nat.lt_or_ge k r with h | h
      · exact h2 a b ha.1 hb.1 r h hr2
      · obtain rfl : r = k := by omega
        rw [ha.2, hb.2]
  exact key R (Nat.le_refl _) S hc fun a b _ _ r h1 h2 => by omega
/-- The fewest questions. -/
def IsV (c : List Int → Int) (g : List Int → Nat → Int) (R : Nat) (S : List Int → Prop) (m : Nat) : Prop := Qn c g R m S ∧ ∀ m', Qn c g R m' S → m ≤ m'
theorem isV_some {n : Nat} (h : Qn c g R n S) : ∃ m, m ≤ n ∧ IsV c g R S m := by
  induction n with
  | zero => exact ⟨0, Nat.le_refl _, h, fun _ _ => Nat.zero_le _⟩
  | succ n ih =>
    by_cases h2 : Qn c g R n S
    · obtain ⟨m, h3, h4⟩ := ih h2
      exact ⟨m, by omega, h4⟩
    · refine ⟨n + 1, Nat.le_refl _, h, fun m' h3 => ?_⟩
      rcases Nat.lt_or_ge n m' with h4 | h4
      · exact h4
      · exact absurd (Qn_mono h4 h3) h2
/-- The first row by which so many questions are left. -/
def Best (c : List Int → Int) (g : List Int → Nat → Int) (R : Nat) (S : List Int → Prop) (m r : Nat) : Prop :=
  r < R ∧ (∀ v, Qn c g R m (fun a => S a ∧ g a r = v)) ∧ ∀ r', r' < r → ¬ ∀ v, Qn c g R m (fun a => S a ∧ g a r' = v)
/-- What is answered: a row, or -1, and how many questions. -/
def Ans (c : List Int → Int) (g : List Int → Nat → Int) (R : Nat) (S : List Int → Prop) (x : Int × Int) : Prop :=
  ∃ m, IsV c g R S m ∧ x.2 = m ∧ ((m = 0 ∧ x.1 = -1) ∨ ∃ m' r : Nat, m = m' + 1 ∧ Best c g R S m' r ∧ x.1 = r)
theorem isV_stl (h : ∀ a b, S a → S b → c a = c b) : IsV c g R S 0 := ⟨h, fun _ _ => Nat.zero_le _⟩
theorem ans_stl (h : ∀ a b, S a → S b → c a = c b) : Ans c g R S (-1, 0) := ⟨0, isV_stl h, rfl, .inl ⟨rfl, rfl⟩⟩
theorem isV_pos {m : Nat} (h : IsV c g R S (m + 1)) : ∃ r, r < R ∧ ∀ v, Qn c g R m (fun a => S a ∧ g a r = v) := by
  rcases h.1 with h1 | h1
  · have := h.2 0 h1; omega
  · exact h1
theorem isV_rel {c' : List Int → Int} {g' : List Int → Nat → Int} {m : Nat} (h1 : ∀ a', S' a' → ∃ a, S a ∧ c a = c' a' ∧ ∀ r, r < R → g a r = g' a' r) (h2 : ∀ a, S a → ∃ a', S' a' ∧ c' a' = c a ∧ ∀ r, r < R → g' a' r = g a r) (h : IsV c g R S m) : IsV c' g' R S' m :=
  ⟨Qn_rel m _ _ h1 h.1, fun m' hm => h.2 m' (Qn_rel m' _ _ h2 hm)⟩
theorem ans_rel {c' : List Int → Int} {g' : List Int → Nat → Int} {x : Int × Int} (h1 : ∀ a', S' a' → ∃ a, S a ∧ c a = c' a' ∧ ∀ r, r < R → g a r = g' a' r) (h2 : ∀ a, S a → ∃ a', S' a' ∧ c' a' = c a ∧ ∀ r, r < R → g' a' r = g a r) (h : Ans c g R S x) : Ans c' g' R S' x := by
  obtain ⟨m, h3, h4, h5⟩ := h
  have key : ∀ r, r < R → ∀ k, (∀ v, Qn c g R k (fun a => S a ∧ g a r = v)) ↔ (∀ v, Qn c' g' R k (fun a => S' a ∧ g' a r = v)) := by
    intro r hr k
    refine ⟨fun h v => Qn_rel k _ _ ?_ (h v), fun h v => Qn_rel k _ _ ?_ (h v)⟩
    · rintro a' ⟨ha, hv⟩
      obtain ⟨a, g1, g2, g3⟩ := h1 a' ha
      exact ⟨a, ⟨g1, by rw [g3 r hr]; exact hv⟩, g2, g3⟩
    · rintro a ⟨ha, hv⟩
      obtain ⟨a', g1, g2, g3⟩ := h2 a ha
      exact ⟨a', ⟨g1, by rw [g3 r hr]; exact hv⟩, g2, g3⟩
  refine ⟨m, isV_rel h1 h2 h3, h4, ?_⟩
  rcases h5 with h5 | ⟨m', r, h5, h6, h7⟩
  · exact .inl h5
  · refine .inr ⟨m', r, h5, ⟨h6.1, (key r h6.1 m').1 h6.2.1, fun r' hr' h8 => h6.2.2 r' hr' ((key r' (by have := h6.1; omega) m').2 h8)⟩, h7⟩
end
theorem qlp_min (f : Fld) (g : Nat → Int) (ans : List Int) {m : Int} (hm : m < f.rows + 1) : ∀ k : Nat, (∀ i, i < k → ans.getD i 0 = -2 → m ≤ 1 + g i) →
    (∀ r, r < k → ans.getD r 0 = -2 → 1 + g r = m → (∀ i, i < r → ans.getD i 0 = -2 → 1 + g i ≠ m) → qlp f g ans k = ((r : Int), m)) ∧ ((∀ i, i < k → ans.getD i 0 = -2 → 1 + g i ≠ m) → m < (qlp f g ans k).2)
  | 0, _ => ⟨fun r hr => by omega, fun _ => hm⟩
  | k + 1, h => by
    obtain ⟨h1, h2⟩ := qlp_min f g ans hm k fun i hi => h i (by omega)
    rw [qlp_succ]
    constructor
    · intro r hr ha he hf
      rcases Nat.lt_or_ge r k with hlt | hge
      · rw [h1 r hlt ha he hf]
        by_cases hk : ans.getD k 0 = -2
        · have := h k (by omega) hk
          rw [if_pos hk, if_neg (by show ¬ 1 + g k < m; omega)]
        · rw [if_neg hk]
      · obtain rfl : r = k := by omega
        have := h2 hf
        rw [if_pos ha, if_pos (by omega), he]
    · intro hn
      have h3 := h2 fun i hi => hn i (by omega)
      by_cases hk : ans.getD k 0 = -2
      · have h4 := h k (by omega) hk
        have h5 := hn k (by omega) hk
        rw [if_pos hk]
        by_cases h6 : 1 + g k < (qlp f g ans k).2
        · rw [if_pos h6]; show m < 1 + g k; omega
        · rw [if_neg h6]; exact h3
      · rw [if_neg hk]; exact h3
theorem same_iff (f : Fld) (n : Int) (l : List (List Int)) : l.all (sameD f n l) = true ↔ ∀ a b, a ∈ l → b ∈ l → cntr f a n = cntr f b n := by
  rw [List.all_eq_true]
  unfold sameD
  simp only [beq_iff_eq]
  constructor
  · intro h a b ha hb; rw [h a ha, h b hb]
  · intro h a ha
    refine h a _ ha ?_
    cases l with
    | nil => cases ha
    | cons x l => simp
theorem cntr_ext {f : Fld} {a b : List Int} (ha : a.length = 7) (hb : b.length = 7) (h : ∀ r, r < f.rows.toNat → a.getD r 0 = b.getD r 0) (n : Int) : cntr f a n = cntr f b n := by
  have : a.take f.rows.toNat = b.take f.rows.toNat := by
    refine List.ext_getElem (by simp [ha, hb]) fun i h1 h2 => ?_
    simp only [List.length_take] at h1 h2
    have := h i (by omega)
    rw [List.getElem_take, List.getElem_take, gd0 (by omega), gd0 (by omega)]
    exact this
  unfold cntr; rw [this]
theorem wst_spec {f : Fld} {n : Int} {T : List (List Int)} {k : Nat} {ans : List Int} {i : Nat}
    (ih : ∀ j : Nat, j < 4 → ∃ m : Nat, IsV (cntr f · n) (fun a r => a.getD r 0) f.rows.toNat (· ∈ filt T (ans.set i ((j : Int) - 1))) m ∧ (qst f n T k (ans.set i ((j : Int) - 1))).2 = m) :
    ∀ j, j ≤ 4 → ∃ W : Nat, wst (qst f n T k) T ans i j = W ∧ (∀ j', j' < j → Qn (cntr f · n) (fun a r => a.getD r 0) f.rows.toNat W (· ∈ filt T (ans.set i ((j' : Int) - 1)))) ∧
      ∀ M, (∀ j', j' < j → Qn (cntr f · n) (fun a r => a.getD r 0) f.rows.toNat M (· ∈ filt T (ans.set i ((j' : Int) - 1)))) → W ≤ M
  | 0, _ => ⟨0, rfl, fun j' h => by omega, fun M _ => Nat.zero_le _⟩
  | j + 1, hj => by
    obtain ⟨W, h1, h2, h3⟩ := wst_spec ih j (by omega)
    obtain ⟨m, h4, h5⟩ := ih j (by omega)
    rw [wst_succ, h1, h5]
    by_cases he : filt T (ans.set i ((j : Int) - 1)) = []
    · rw [if_pos he]
      refine ⟨W, rfl, fun j' hj' => ?_, fun M hM => h3 M fun j' hj' => hM j' (by omega)⟩
      rcases Nat.lt_or_ge j' j with h | h
      · exact h2 j' h
      · obtain rfl : j' = j := by omega
        rw [he]
        exact Qn_stl fun a b ha => by cases ha
    · rw [if_neg he]
      refine ⟨max W m, by omega, fun j' hj' => ?_, fun M hM => ?_⟩
      · rcases Nat.lt_or_ge j' j with h | h
        · exact Qn_mono (Nat.le_max_left _ _) (h2 j' h)
        · obtain rfl : j' = j := by omega
          exact Qn_mono (Nat.le_max_right _ _) h4.1
      · exact Nat.max_le.2 ⟨h3 M fun j' hj' => hM j' (by omega), h4.2 M (hM j (by omega))⟩
theorem qst_ans {f : Fld} (hr : 0 ≤ f.rows ∧ f.rows ≤ 7) (hw : f.wd ≤ 3) {n : Int} {T : List (List Int)} (hT : ∀ a ∈ T, a.length = 7 ∧ ∀ i, i < f.rows.toNat → -1 ≤ a.getD i 0 ∧ a.getD i 0 ≤ f.wd - 1) : ∀ (k : Nat) (ans : List Int), ans.length = 7 → unask f ans = k →
    Ans (cntr f · n) (fun a r => a.getD r 0) f.rows.toNat (· ∈ filt T ans) (qst f n T k ans) := by
  have hfT : ∀ ans a, a ∈ filt T ans → a ∈ T ∧ agree ans a = true := fun ans a ha => List.mem_filter.1 ha
  intro k
  induction k with
  | zero =>
    intro ans hl hu
    have hs : (filt T ans).all (sameD f n (filt T ans)) = true := by
      rw [same_iff]
      intro a b ha hb
      refine cntr_ext (hT a (hfT _ _ ha).1).1 (hT b (hfT _ _ hb).1).1 (fun r hr2 => ?_) n
      have h1 := agree_iff.1 (hfT _ _ ha).2 r (by omega)
      have h2 := agree_iff.1 (hfT _ _ hb).2 r (by omega)
      have h3 : ¬ ans.getD r 0 = -2 := fun e => by
        have := unask_pos hr2 e; omega
      rcases h1 with h1 | h1
      · exact absurd h1 h3
      · rcases h2 with h2 | h2
        · exact absurd h2 h3
        · rw [h1, h2]
    unfold qst
    rw [if_pos hs]
    exact ans_stl ((same_iff f n _).1 hs)
  | succ k ih =>
    intro ans hl hu
    unfold qst
    by_cases hs : (filt T ans).all (sameD f n (filt T ans)) = true
    · rw [if_pos hs]
      exact ans_stl ((same_iff f n _).1 hs)
    · rw [if_neg hs]
      have hQR : Qn (cntr f · n) (fun a r => a.getD r 0) f.rows.toNat f.rows.toNat (· ∈ filt T ans) := Qn_all fun a b ha hb h => cntr_ext (hT a (hfT _ _ ha).1).1 (hT b (hfT _ _ hb).1).1 h n
      obtain ⟨m, hm1, hm2⟩ := isV_some hQR
      obtain ⟨m', rfl⟩ : ∃ m', m = m' + 1 := by
        cases m with
        | zero => exact absurd ((same_iff f n _).2 hm2.1) hs
        | succ m' => exact ⟨m', rfl⟩
      -- what is left behind each row
      have hW : ∀ i, i < f.rows.toNat → ans.getD i 0 = -2 → ∃ W : Nat, wst (qst f n T k) T ans i 4 = W ∧ (∀ v, Qn (cntr f · n) (fun a r => a.getD r 0) f.rows.toNat W (fun a => a ∈ filt T ans ∧ a.getD i 0 = v)) ∧
          ∀ M, (∀ v, Qn (cntr f · n) (fun a r => a.getD r 0) f.rows.toNat M (fun a => a ∈ filt T ans ∧ a.getD i 0 = v)) → W ≤ M := by
        intro i hi ha
        have hfs : ∀ j : Nat, ∀ a, a ∈ filt T (ans.set i ((j : Int) - 1)) ↔ a ∈ filt T ans ∧ a.getD i 0 = (j : Int) - 1 := fun j a => by
          rw [filt_set hl (by omega) ha (by omega), List.mem_filter, beq_iff_eq]
        obtain ⟨W, h1, h2, h3⟩ := wst_spec (f := f) (n := n) (T := T) (k := k) (ans := ans) (i := i) (fun j hj => by
          have hv2 : ((j : Nat) : Int) - 1 ≠ -2 := by omega
          have hr7 : f.rows ≤ 7 := hr.2
          have hu2 := unask_set hl hi hr7 ha hv2
          obtain ⟨m, g1, g2, _⟩ := ih (ans.set i ((j : Int) - 1)) (by simpa using hl) (by omega)
          exact ⟨m, g1, g2⟩) 4 (Nat.le_refl _)
        refine ⟨W, h1, fun v => ?_, fun M hM => h3 M fun j hj => Qn_sub (fun a ha => (hfs j a).1 ha) (hM _)⟩
        by_cases hv : -1 ≤ v ∧ v ≤ 2
        · have e : v = ((v + 1).toNat : Int) - 1 := by omega
          refine Qn_sub (fun a ha => ?_) (h2 (v + 1).toNat (by omega))
          rw [hfs]; exact ⟨ha.1, by rw [ha.2]; exact e⟩
        · refine Qn_stl fun a b ha => ?_
          have := (hT a (hfT _ _ ha.1).1).2 i hi
          have := ha.2
          omega
      -- the least
      have hge : ∀ i, i < f.rows.toNat → ans.getD i 0 = -2 → ((m' + 1 : Nat) : Int) ≤ 1 + wst (qst f n T k) T ans i 4 := by
        intro i hi ha
        obtain ⟨W, h1, h2, _⟩ := hW i hi ha
        have := hm2.2 (W + 1) (.inr ⟨i, hi, h2⟩)
        rw [h1]; omega
      have hun : ∀ r, r < f.rows.toNat → (∀ v, Qn (cntr f · n) (fun a r => a.getD r 0) f.rows.toNat m' (fun a => a ∈ filt T ans ∧ a.getD r 0 = v)) → ans.getD r 0 = -2 := by
        intro r hr2 h
        refine Decidable.byContradiction fun hne => ?_
        have : Qn (cntr f · n) (fun a r => a.getD r 0) f.rows.toNat m' (· ∈ filt T ans) := by
          refine Qn_sub (fun a ha => ⟨ha, ?_⟩) (h (ans.getD r 0))
          rcases agree_iff.1 (hfT _ _ ha).2 r (by omega) with h1 | h1
          · exact absurd h1 hne
          · exact h1
        have := hm2.2 _ this
        omega
      have heq : ∀ i, i < f.rows.toNat → ans.getD i 0 = -2 → (1 + wst (qst f n T k) T ans i 4 = ((m' + 1 : Nat) : Int) ↔ ∀ v, Qn (cntr f · n) (fun a r => a.getD r 0) f.rows.toNat m' (fun a => a ∈ filt T ans ∧ a.getD i 0 = v)) := by
        intro i hi ha
        have h0 := hge i hi ha
        obtain ⟨W, h1, h2, h3⟩ := hW i hi ha
        rw [h1] at h0 ⊢
        constructor
        · intro e
          have : W = m' := by omega
          rw [← this]; exact h2
        · intro h
          have := h3 _ h
          omega
      -- the first one
      have hfirst : ∀ N, N ≤ f.rows.toNat → (∃ r, r < N ∧ ∀ v, Qn (cntr f · n) (fun a r => a.getD r 0) f.rows.toNat m' (fun a => a ∈ filt T ans ∧ a.getD r 0 = v)) → ∃ r, Best (cntr f · n) (fun a r => a.getD r 0) f.rows.toNat (· ∈ filt T ans) m' r := by
        intro N
        induction N with
        | zero => rintro _ ⟨r, hr2, _⟩; omega
        | succ N ihN =>
          rintro hN ⟨r, hr2, h⟩
          by_cases hex : ∃ r, r < N ∧ ∀ v, Qn (cntr f · n) (fun a r => a.getD r 0) f.rows.toNat m' (fun a => a ∈ filt T ans ∧ a.getD r 0 = v)
          · exact ihN (by omega) hex
          · refine ⟨r, by omega, h, fun r' hr' h' => hex ⟨r', by omega, h'⟩⟩
      obtain ⟨r, hb⟩ := hfirst _ (Nat.le_refl _) (isV_pos hm2)
      have hra := hun r hb.1 hb.2.1
      have hq := (qlp_min f (fun i => wst (qst f n T k) T ans i 4) ans (m := ((m' + 1 : Nat) : Int)) (by omega) f.rows.toNat hge).1 r hb.1 hra ((heq r hb.1 hra).2 hb.2.1) (fun i hi ha e => hb.2.2 i hi ((heq i (by have := hb.1; omega) ha).1 e))
      rw [hq]
      exact ⟨m' + 1, hm2, rfl, .inr ⟨m', r, rfl, hb, rfl⟩⟩
end Go.Proofs.Ythogdgkafaclaaa
end
section
namespace Go.Proofs.Ythogdgkafaclaaa
theorem tb (s i : Nat) : (s / 2 ^ i % 2 == 1) = s.testBit i := by rw [Nat.testBit_eq_decide_div_mod_eq]; rfl
/-- All lists, by their numbers. -/
def lists (f : Fld) : List (List Int) := (List.range (many f).toNat).map fun i : Nat => nthL (f.wd + 1) f.rows.toNat (i : Int)
/-- There is a truth without some tallies. -/
def posB (f : Fld) (out : List Int) : Bool := decide (truths f out ≠ [])
theorem posB_iff {f : Fld} (hc : check f = 0) {s : Nat} : posB f (bitsL s) = true ↔ ∃ l, alw f l = true ∧ ∀ (i : Nat) t, f.ts[i]? = some t → s.testBit i = true ∨ rt l t = true := by
  obtain ⟨hr, hw, h5, _⟩ := check_ok hc
  unfold posB
  rw [decide_eq_true_eq, truths_ne hc]
  refine exists_congr fun l => and_congr Iff.rfl ?_
  refine forall_congr' fun i => forall_congr' fun t => ⟨fun h hi => ?_, fun h hi => ?_⟩
  · obtain ⟨hlt, _⟩ := List.getElem?_eq_some_iff.1 hi
    have := h hi
    rw [bits_has (by omega), tb] at this; exact this
  · obtain ⟨hlt, _⟩ := List.getElem?_eq_some_iff.1 hi
    rw [bits_has (by omega), tb]; exact h hi
theorem posB_full {f : Fld} (hc : check f = 0) : posB f (bitsL (2 ^ f.ts.length - 1)) = true := by
  rw [posB_iff hc]
  obtain ⟨l, hl⟩ := alw_some hc
  refine ⟨l, hl, fun i t hi => ?_⟩
  obtain ⟨hlt, _⟩ := List.getElem?_eq_some_iff.1 hi
  exact .inl (by rw [Nat.testBit_two_pow_sub_one, dt hlt])
/-- The smallest set. -/
def leaveL (f : Fld) : List Int := shortestL (f.ts.length : Int) (posB f)
theorem leave_spec {f : Fld} (hc : check f = 0) : ∃ s, s < 2 ^ f.ts.length ∧ leaveL f = bitsL s ∧ posB f (bitsL s) = true ∧ ∀ s', s' < 2 ^ f.ts.length → posB f (bitsL s') = true → sh (bitsL s') (bitsL s) = false := by
  obtain ⟨hr, hw, h5, _⟩ := check_ok hc
  have h2 : 1 ≤ 2 ^ f.ts.length := Nat.one_le_two_pow
  exact shortest_spec (by omega) (s0 := 2 ^ f.ts.length - 1) (by omega) (posB_full hc)
theorem leaveL_len {f : Fld} (hc : check f = 0) : (leaveL f).length ≤ 8 := by
  obtain ⟨s, _, e, _⟩ := leave_spec hc
  rw [e]; exact bits_len s
theorem q_Leave (K : Nat) (f : Fld) : Q_Leave K f = some (if check f = 0 then (leaveL f, 0) else ([], check f)) := rfl
end Go.Proofs.Ythogdgkafaclaaa
end
section
namespace Go.Proofs.Ythogdgkafaclaaa
/-- The reference's lists: their numbers, and what they say. -/
abbrev cR (who : Int) : List Int → Int := fun a => ((part a who 0 a.length : Nat) : Int)
abbrev gR : List Int → Nat → Int := fun a r => a.getD r 0
section
variable {f : Fld} {T : List (List Int)} {who : Int}
/-- What the lists at hand are. -/
def OkT (f : Fld) (T : List (List Int)) : Prop := T.length ≤ 250 ∧ ∀ a ∈ T, (a.length : Int) = f.rows ∧ ∀ r, r < f.rows.toNat → -1 ≤ a.getD r 0 ∧ a.getD r 0 ≤ f.wd - 1
theorem OkT.filt (h : OkT f T) (p : List Int → Bool) : OkT f (T.filter p) := ⟨Nat.le_trans (List.length_filter_le _ _) h.1, fun a ha => h.2 a (List.mem_filter.1 ha).1⟩
theorem cR_ext {a b : List Int} (ha : (a.length : Int) = f.rows) (hb : (b.length : Int) = f.rows) (h : ∀ r, r < f.rows.toNat → gR a r = gR b r) : cR who a = cR who b := by
  have : a = b := by
    refine List.ext_getElem (by omega) fun i h1 h2 => ?_
    rw [gd0 h1, gd0 h2]; exact h i (by omega)
  rw [this]
theorem OkT.all (h : OkT f T) : Qn (cR who) gR f.rows.toNat f.rows.toNat (· ∈ T) := Qn_all fun a b ha hb hh => cR_ext (h.2 a ha).1 (h.2 b hb).1 hh
end
theorem getD_pad {a : List Int} {r : Nat} (h : r < a.length) : (pad a).getD r 0 = a.getD r 0 := by unfold pad; exact getD_app h
/-- The program's answer is the reference's. -/
theorem nextF_ans {f : Fld} (hc : check f = 0) (n : Int) : Ans (cR n) gR f.rows.toNat (· ∈ refs f) (nextF f n) := by
  obtain ⟨hr, hw, _⟩ := check_ok hc
  have h := qst_ans (f := f) ⟨by omega, hr.2⟩ hw.2 (n := n) (T := truths f []) (fun a ha => ⟨truths_len hr.2 a ha, truths_bd (by omega) a ha⟩) (unask f (List.replicate 7 (-2))) (List.replicate 7 (-2)) (by simp) rfl
  rw [filt_none] at h
  have hlen : ∀ l ∈ refs f, (l.length : Int) = f.rows := fun l hl => (tru_alw ((mem_refs hc).1 hl)).2.1
  refine ans_rel ?_ ?_ h
  · intro a ha
    have hl := hlen a ha
    exact ⟨pad a, (mem_truths hc).2 ⟨a, ha, rfl⟩, cntr_pad hl, fun r hr2 => getD_pad (by omega)⟩
  · intro a ha
    obtain ⟨l, hl, rfl⟩ := (mem_truths hc).1 ha
    have hll := hlen l hl
    exact ⟨l, hl, (cntr_pad hll).symm, fun r hr2 => (getD_pad (by omega)).symm⟩
end Go.Proofs.Ythogdgkafaclaaa
end
section
namespace Go.Proofs.Ythogdgkafaclaaa
/-- The fewest rows. -/
def askL (f : Fld) (n : Int) : List Int := shortestL f.rows (fun rows => settlesB f (truths f []) n rows)
theorem ask_spec {f : Fld} (hc : check f = 0) (n : Int) : ∃ s, s < 2 ^ f.rows.toNat ∧ askL f n = bitsL s ∧ setR (refs f) n f.rows.toNat s = true ∧ ∀ s', s' < 2 ^ f.rows.toNat → setR (refs f) n f.rows.toNat s' = true → sh (bitsL s') (bitsL s) = false := by
  obtain ⟨hr, hw, _⟩ := check_ok hc
  have h1 := settles_full hc n
  have h2 : 1 ≤ 2 ^ f.rows.toNat := Nat.one_le_two_pow
  rw [← settles_refs hc n (by omega)] at h1
  obtain ⟨s, hs, e, hp, hmin⟩ := shortest_spec (n := f.rows.toNat) (by omega) (p := fun rows => settlesB f (truths f []) n rows) (s0 := 2 ^ f.rows.toNat - 1) (by omega) h1
  refine ⟨s, hs, ?_, by rw [← settles_refs hc n hs]; exact hp, fun s' hs' hp' => hmin s' hs' (by rw [← settles_refs hc n hs'] at hp'; exact hp')⟩
  unfold askL
  rw [show f.rows = (f.rows.toNat : Int) by omega]; exact e
theorem q_Ask (K : Nat) (f : Fld) (n : Int) : Q_Ask K f n = some (if askE f (whoB f n) = 0 then (askL f n, 0) else ([], askE f (whoB f n))) := rfl
theorem g_ready (f : Fld) : G_ready 1000 f = some (thin f && check f == 0) := by
  unfold G_ready
  rw [bd (g_Thin (Nat.le_refl _))]
  cases thin f with
  | false => rfl
  | true => rw [ct rfl, bd (g_fault (Nat.le_refl _))]; rfl
theorem cv8 {β : Type} {g : Unit → Option β} {x : Int} (h : 0 ≤ x ∧ x < 256) : (cvO .i64 x).bind g = g () := bd (by
  have : ∀ x : Nat, x < 256 → cvO .i64 (x : Int) = some () := by decide +kernel
  have h2 := this x.toNat (by omega)
  rwa [show ((x.toNat : Nat) : Int) = x by omega] at h2)
theorem refs_nil {f : Fld} (hc : check f = 0) : sureE f = if refs f = [] then 11 else 0 := by unfold sureE; rw [if_neg (by simp [hc])]
end Go.Proofs.Ythogdgkafaclaaa
end
section
namespace Go.Proofs.Ythogdgkafaclaaa
/-- The error of Done. -/
theorem q_Done (K : Nat) (f : Fld) : Q_Done K f = some (if sureE f = 0 then (donesTo f (truths f []) f.wd.toNat, 0) else ([], sureE f)) := by unfold Q_Done; rw [askE_true]
end Go.Proofs.Ythogdgkafaclaaa
end
section
namespace Go.Proofs.Ythogdgkafaclaaa
theorem q_Who {K : Nat} {f : Fld} (hc : check f = 0) {row : Nat} (hr : (row : Int) < f.rows) : Q_Who K f (row : Int) = some (if sureE f = 0 then (whoS f.wd (refs f) row, 0) else ([], sureE f)) := by
  unfold Q_Who
  have : inR (row : Int) 0 (f.rows - 1) = true := inR_iff.2 (by omega)
  rw [this, askE_true, who_refs hc hr]
theorem mod_nat {x m : Int} (hm : 0 < m) : ∃ k : Nat, x % m = k ∧ (k : Int) < m := by
  have h1 := Int.emod_nonneg x (show m ≠ 0 by omega)
  have h2 := Int.emod_lt_of_pos x hm
  exact ⟨(x % m).toNat, by omega, by omega⟩
/-- Both ends are reached. -/
theorem didB_ends {f : Fld} (hc : check f = 0) (hn : refs f ≠ []) (who : Int) : (∃ a ∈ refs f, cR who a = (didB (refs f) who).1) ∧ (∃ a ∈ refs f, cR who a = (didB (refs f) who).2) ∧ ∀ a ∈ refs f, (didB (refs f) who).1 ≤ cR who a ∧ cR who a ≤ (didB (refs f) who).2 := by
  obtain ⟨hr, hw, _⟩ := check_ok hc
  obtain ⟨q1, q2, q3, q4, q5⟩ := foldl_mm (fun a => ((part a who 0 a.length : Nat) : Int)) (refs f) (1099511627776, -1099511627776)
  have hd : didB (refs f) who = (refs f).foldl (fun r a => (min r.1 ((part a who 0 a.length : Nat) : Int), max r.2 ((part a who 0 a.length : Nat) : Int))) (1099511627776, -1099511627776) := rfl
  rw [← hd] at q1 q2 q3 q4 q5
  obtain ⟨l0, hl0⟩ := List.exists_mem_of_ne_nil _ hn
  have b0 : ((part l0 who 0 l0.length : Nat) : Int) ≤ 7 := by
    have h1 := part_le l0 who 0 l0.length
    have h2 := (tru_alw ((mem_refs hc).1 hl0)).2.1
    omega
  have m0 := q3 l0 hl0
  refine ⟨?_, ?_, q3⟩
  · rcases q4 with h | ⟨a, ha, h⟩
    · simp only [] at h m0; omega
    · exact ⟨a, ha, h.symm⟩
  · rcases q5 with h | ⟨a, ha, h⟩
    · simp only [] at h m0; omega
    · exact ⟨a, ha, h.symm⟩
end Go.Proofs.Ythogdgkafaclaaa
end
section
namespace Go.Proofs.Ythogdgkafaclaaa
theorem q_Next {K : Nat} {f : Fld} {n : Int} (h : inR n 0 (f.wd - 1) = true) : Q_Next K f n = some (if sureE f = 0 then ((nextF f n).1, (nextF f n).2, 0) else (0, 0, sureE f)) := by
  unfold Q_Next whoB
  rw [h, askE_true]
end Go.Proofs.Ythogdgkafaclaaa
end
section
namespace Go.Proofs.Ythogdgkafaclaaa
theorem tru_iff {f : Fld} {l : List Int} : tru f l = true ↔ alw f l = true ∧ ∀ t ∈ f.ts, rt l t = true := by
  unfold tru rt
  rw [Bool.and_eq_true, List.all_eq_true]
/-- Nothing need be left out where there is a truth. -/
theorem leave_nil {f : Fld} (hc : check f = 0) {l : List Int} (h : tru f l = true) : leaveL f = [] := by
  obtain ⟨s, hs, e, hp, hmin⟩ := leave_spec hc
  rw [tru_iff] at h
  have h0 : posB f (bitsL 0) = true := by
    rw [posB_iff hc]
    exact ⟨l, h.1, fun i t hi => .inr (h.2 t (List.mem_of_getElem? hi))⟩
  have := sh_len (hmin 0 Nat.one_le_two_pow h0)
  rw [e]
  have e0 : (bitsL 0).length = 0 := by decide
  exact List.eq_nil_of_length_eq_zero (by omega)
end Go.Proofs.Ythogdgkafaclaaa
end
section
namespace Go.Proofs.Ythogdgkafaclaaa
theorem bits_mono {s s' : Nat} (h : ∀ i, i < 8 → s'.testBit i = true → s.testBit i = true) : (bitsL s').length ≤ (bitsL s).length := by
  unfold bitsL
  rw [List.length_map, List.length_map, ← List.countP_eq_length_filter, ← List.countP_eq_length_filter]
  refine List.countP_mono_left fun i hi hb => ?_
  have h8 : i < 8 := by simpa using hi
  have hb2 : (s' / 2 ^ i % 2 == 1) = true := hb
  show (s / 2 ^ i % 2 == 1) = true
  rw [tb] at hb2 ⊢
  exact h i h8 hb2
theorem bits_one : ∀ n : Nat, n < 7 → ∀ s : Nat, s < 128 → (bitsL (s ||| 2 ^ n)).length ≤ (bitsL s).length + 1 := by decide +kernel
section
variable {f x : Fld} (hf : check f = 0) (hx : check x = 0)
include hf hx
theorem done_in (hn : refs x ≠ []) (hs : ∀ l ∈ refs x, l ∈ refs f) (who : Int) : (didB (refs f) who).1 ≤ (didB (refs x) who).1 ∧ (didB (refs x) who).2 ≤ (didB (refs f) who).2 := by
  obtain ⟨l0, hl0⟩ := List.exists_mem_of_ne_nil _ hn
  have hnf : refs f ≠ [] := List.ne_nil_of_mem (hs _ hl0)
  obtain ⟨⟨a1, ha1, e1⟩, ⟨a2, ha2, e2⟩, _⟩ := didB_ends hx hn who
  obtain ⟨_, _, h3⟩ := didB_ends hf hnf who
  have g1 := h3 _ (hs _ ha1)
  have g2 := h3 _ (hs _ ha2)
  exact ⟨by rw [← e1]; exact g1.1, by rw [← e2]; exact g2.2⟩
omit hf hx in
theorem who_in {wd : Int} {row : Nat} (hs : ∀ l ∈ refs x, l ∈ refs f) {c : Int} (h : c ∈ whoS wd (refs x) row) : c ∈ whoS wd (refs f) row := by
  unfold whoS at *
  rw [List.mem_filter, List.any_eq_true] at *
  obtain ⟨h1, a, ha, h2⟩ := h
  exact ⟨h1, a, hs a ha, h2⟩
theorem ask_in (hr : x.rows = f.rows) (hs : ∀ l ∈ refs x, l ∈ refs f) (n : Int) : (askL x n).length ≤ (askL f n).length := by
  obtain ⟨s, hs1, hs2, hs3, _⟩ := ask_spec hf n
  obtain ⟨t, ht1, ht2, _, ht4⟩ := ask_spec hx n
  rw [hs2, ht2]
  rw [hr] at ht4
  refine sh_len (ht4 s hs1 ?_)
  rw [setR_iff] at hs3 ⊢
  exact fun a ha b hb => hs3 a (hs a ha) b (hs b hb)
theorem next_in (hr : x.rows = f.rows) (hs : ∀ l ∈ refs x, l ∈ refs f) (n : Int) : (nextF x n).2 ≤ (nextF f n).2 := by
  obtain ⟨m, h1, h2, _⟩ := nextF_ans hf n
  obtain ⟨k, g1, g2, _⟩ := nextF_ans hx n
  rw [hr] at g1
  have := g1.2 m (Qn_sub (fun a ha => hs a ha) h1.1)
  omega
/-- One more tally. -/
theorem leave_more {more : Tly} (e : x = { f with ts := f.ts ++ [more] }) : (leaveL f).length ≤ (leaveL x).length ∧ (leaveL x).length ≤ (leaveL f).length + 1 := by
  obtain ⟨hr, hw, h5, ht, _⟩ := check_ok hx
  obtain ⟨s, hs1, hs2, hs3, hs4⟩ := leave_spec hf
  obtain ⟨t, ht1, ht2, ht3, ht4⟩ := leave_spec hx
  have hl : x.ts.length = f.ts.length + 1 := by rw [e]; simp
  have ha : ∀ l, alw x l = alw f l := fun l => by rw [e]; rfl
  have hts : x.ts = f.ts ++ [more] := by rw [e]
  rw [hs2, ht2]
  rw [posB_iff hf] at hs3
  rw [posB_iff hx] at ht3
  constructor
  · obtain ⟨l, h1, h2⟩ := ht3
    have hlt : t % 2 ^ f.ts.length < 2 ^ f.ts.length := Nat.mod_lt _ (Nat.two_pow_pos _)
    have hp : posB f (bitsL (t % 2 ^ f.ts.length)) = true := by
      rw [posB_iff hf]
      refine ⟨l, by rw [← ha]; exact h1, fun i u hi => ?_⟩
      obtain ⟨hlti, _⟩ := List.getElem?_eq_some_iff.1 hi
      rw [Nat.testBit_mod_two_pow, dt hlti, Bool.true_and]
      exact h2 i u (by rw [hts, List.getElem?_append_left hlti]; exact hi)
    refine Nat.le_trans (sh_len (hs4 _ hlt hp)) (bits_mono fun i _ hb => ?_)
    rw [Nat.testBit_mod_two_pow, Bool.and_eq_true] at hb
    exact hb.2
  · obtain ⟨l, h1, h2⟩ := hs3
    have h2p : (2 : Nat) ^ f.ts.length ≤ 2 ^ 5 := Nat.pow_le_pow_right (by omega) (by omega)
    have hlt : s ||| 2 ^ f.ts.length < 2 ^ x.ts.length := by
      rw [hl]
      refine Nat.or_lt_two_pow ?_ (Nat.pow_lt_pow_right (by omega) (by omega))
      have : (2 : Nat) ^ f.ts.length ≤ 2 ^ (f.ts.length + 1) := Nat.pow_le_pow_right (by omega) (by omega)
      omega
    have hp : posB x (bitsL (s ||| 2 ^ f.ts.length)) = true := by
      rw [posB_iff hx]
      refine ⟨l, by rw [ha]; exact h1, fun i u hi => ?_⟩
      rw [Nat.testBit_or, Nat.testBit_two_pow]
      rcases Nat.lt_or_ge i f.ts.length with h3 | h3
      · rw [hts, List.getElem?_append_left h3] at hi
        rcases h2 i u hi with h4 | h4
        · exact .inl (by rw [h4, Bool.true_or])
        · exact .inr h4
      · obtain ⟨hlti, _⟩ := List.getElem?_eq_some_iff.1 hi
        exact .inl (by rw [dt (by omega), Bool.or_true])
    exact Nat.le_trans (sh_len (ht4 _ hlt hp)) (bits_one _ (by omega) s (by omega))
theorem refs_more {more : Tly} (e : x = { f with ts := f.ts ++ [more] }) : ∀ l ∈ refs x, l ∈ refs f := fun l hl => by
  rw [mem_refs hx, tru_iff] at hl
  rw [mem_refs hf, tru_iff]
  subst e
  exact ⟨hl.1, fun t ht => hl.2 t (List.mem_append_left _ ht)⟩
end
/-- The second one asks for less. -/
structure Wk (f x : Fld) : Prop where
  rows : x.rows = f.rows
  wd : x.wd = f.wd
  len : x.ts.length = f.ts.length
  al : ∀ l, alw f l = true → alw x l = true
  rts : ∀ (i : Nat) t', x.ts[i]? = some t' → ∃ t, f.ts[i]? = some t ∧ ∀ l : List Int, (l.length : Int) = f.rows → rt l t = true → rt l t' = true
section
variable {f x : Fld} (hf : check f = 0) (hx : check x = 0) (h : Wk f x)
include hf hx h
end
/-- Where there is a truth nothing need be left out, and the other way round. -/
theorem leave_zero {f : Fld} (hc : check f = 0) : (leaveL f).length = 0 ↔ refs f ≠ [] := by
  constructor
  · intro h
    obtain ⟨s, hs, e, hp, _⟩ := leave_spec hc
    rw [← e, List.eq_nil_of_length_eq_zero h] at hp
    unfold posB at hp
    rw [decide_eq_true_eq] at hp
    exact fun e2 => hp ((truths_nil hc).2 e2)
  · intro h
    obtain ⟨l, hl⟩ := List.exists_mem_of_ne_nil _ h
    rw [leave_nil hc ((mem_refs hc).1 hl)]; rfl
end Go.Proofs.Ythogdgkafaclaaa
end
section
namespace Go.Proofs.Ythogdgkafaclaaa
theorem has_drop (l : List Int) (x : Int) (hl : l.length ≤ 900) : ∀ (n m i : Nat), l.length = i + n → n < m → G_has_L1 l x m (i : Int) = some (if (l.drop i).contains x = true then .inl true else .inr ())
  | n, 0, i, h, hm => by omega
  | 0, m + 1, i, h, hm => by
    unfold G_has_L1
    rw [cf (df (by omega)), List.drop_eq_nil_of_le (by omega)]; rfl
  | n + 1, m + 1, i, h, hm => by
    unfold G_has_L1
    have hi : i < l.length := by omega
    have e : ((i : Int) + 1) = ((i + 1 : Nat) : Int) := by omega
    rw [ct (dt (by omega)), idxb hi, List.drop_eq_getElem_cons hi, List.contains_cons]
    by_cases h1 : l[i] = x
    · rw [ct (by simp [h1]), if_pos (by simp [h1])]
    · have h2 : (x == l[i]) = false := by rw [beq_eq_false_iff_ne]; exact fun e => h1 e.symm
      rw [cf (by simp [h1]), i64b (by omega) (by omega), e, has_drop l x hl n m (i + 1) (by omega) (by omega), h2, Bool.false_or]
theorem g_has {l : List Int} {x : Int} (hl : l.length ≤ 900) : G_has 1000 l x = some (l.contains x) := by
  unfold G_has
  have := has_drop l x hl l.length 1000 0 (by omega) (by omega)
  rw [Int.natCast_zero, List.drop_zero] at this
  rw [bd this]
  cases l.contains x <;> rfl
section
variable {x : Fld} (hc : check x = 0) {t : List Int} (ht : tru x t = true)
include hc ht
end
end Go.Proofs.Ythogdgkafaclaaa
end
section
set_option linter.unusedVariables false
set_option linter.unusedSimpArgs false
namespace Go.Proofs.Ythogdgkafaclaaa
open Go.RowKit
def G_WeedMore_L89 (K_ : Nat) (r47 : (List (Int × Int)) × Int) (r51 : (List (Int × Int)) × Int) : Nat → Int → Option ((Bool) ⊕ (Unit))
  | 0, _ => none
  | m_ + 1, s89_34 => cond (decide (s89_34 < (r47.1.length : Int))) ((idx r51.1 s89_34).bind fun x92 => (idx r47.1 s89_34).bind fun x93 => (G_inside K_ x92 x93).bind fun r94 => cond (!r94) (some (.inl false)) ((i64 (s89_34 + 1)).bind fun _ => G_WeedMore_L89 K_ r47 r51 m_ (s89_34 + 1))) (some (.inr ()))
def G_WeedMore_L100 (K_ : Nat) (r55 : (List Int) × Int) (r59 : (List Int) × Int) : Nat → Int → Option ((Bool) ⊕ (Unit))
  | 0, _ => none
  | m_ + 1, s100_35 => cond (decide (s100_35 < (r59.1.length : Int))) ((idx r59.1 s100_35).bind fun x102 => (G_has K_ r55.1 x102).bind fun r103 => cond (!r103) (some (.inl false)) ((i64 (s100_35 + 1)).bind fun _ => G_WeedMore_L100 K_ r55 r59 m_ (s100_35 + 1))) (some (.inr ()))
def G_WeedMore (K_ : Nat) (p0 : Fld) (p1 : Tly) (p2 : Int) (p3 : Int) : Option (Bool) :=
  (ifo (((p0.ts.length : Nat) : Int) ≤ 140737488355328 / 40)).bind fun _ => (ifo (((p0.ts.length + [p1].length : Nat) : Int) ≤ 140737488355328 / 40)).bind fun _ => (G_ready K_ p0).bind fun r10 => cond (!r10) ((ifo (G_awake K_ = some true)).bind fun _ => some (true)) ((G_ready K_ (⟨p0.rows, p0.wd, p0.lo, p0.hi, p0.ts ++ [p1]⟩ : Fld)).bind fun r17 => cond (!r17) ((ifo (G_awake K_ = some true)).bind fun _ => some (true)) ((cvO .i64 p2).bind fun _ => (rem p2 p0.wd).bind fun _ => (cvO .i64 p3).bind fun _ => (rem p3 p0.rows).bind fun _ => (G_Field K_ p0).bind fun r29 => (Q_Leave K_ r29).bind fun r31 => (G_Field K_ (⟨p0.rows, p0.wd, p0.lo, p0.hi, p0.ts ++ [p1]⟩ : Fld)).bind fun r33 => (Q_Leave K_ r33).bind fun r35 => cond (r31.2 != 0) (some (false)) (cond (r35.2 != 0) (some (false)) (cond (decide ((r35.1.length : Int) < (r31.1.length : Int))) (some (false)) ((i64 ((r31.1.length : Int) + 1)).bind fun _ => cond (decide (((r31.1.length : Int) + 1) < (r35.1.length : Int))) (some (false)) (cond (decide (0 < (r35.1.length : Int))) ((ifo (G_awake K_ = some true)).bind fun _ => some (true)) ((G_Field K_ p0).bind fun r45 => (Q_Done K_ r45).bind fun r47 => (G_Field K_ (⟨p0.rows, p0.wd, p0.lo, p0.hi, p0.ts ++ [p1]⟩ : Fld)).bind fun r49 => (Q_Done K_ r49).bind fun r51 => (G_Field K_ p0).bind fun r53 => (Q_Who K_ r53 (p3 % p0.rows)).bind fun r55 => (G_Field K_ (⟨p0.rows, p0.wd, p0.lo, p0.hi, p0.ts ++ [p1]⟩ : Fld)).bind fun r57 => (Q_Who K_ r57 (p3 % p0.rows)).bind fun r59 => (G_Field K_ p0).bind fun r61 => (Q_Ask K_ r61 (p2 % p0.wd)).bind fun r63 => (G_Field K_ (⟨p0.rows, p0.wd, p0.lo, p0.hi, p0.ts ++ [p1]⟩ : Fld)).bind fun r65 => (Q_Ask K_ r65 (p2 % p0.wd)).bind fun r67 => (G_Field K_ p0).bind fun r69 => (Q_Next K_ r69 (p2 % p0.wd)).bind fun r71 => (G_Field K_ (⟨p0.rows, p0.wd, p0.lo, p0.hi, p0.ts ++ [p1]⟩ : Fld)).bind fun r73 => (Q_Next K_ r73 (p2 % p0.wd)).bind fun r75 => cond (r47.2 != 0) (some (false)) (cond (r51.2 != 0) (some (false)) (cond (r55.2 != 0) (some (false)) (cond (r59.2 != 0) (some (false)) (cond (r63.2 != 0) (some (false)) (cond (r67.2 != 0) (some (false)) (cond (r71.2.2 != 0) (some (false)) (cond (r75.2.2 != 0) (some (false)) (cond ((r47.1.length : Int) != p0.wd) (some (false)) (cond ((r51.1.length : Int) != (r47.1.length : Int)) (some (false)) (cond (decide ((r63.1.length : Int) < (r67.1.length : Int))) (some (false)) (cond (decide (r71.2.1 < r75.2.1)) (some (false)) ((G_WeedMore_L89 K_ r47 r51 K_ (0 : Int)).bind fun z => Sum.elim (fun q89 => some (q89)) (fun q89 => (G_WeedMore_L100 K_ r55 r59 K_ (0 : Int)).bind fun z => Sum.elim (fun q100 => some (q100)) (fun q100 => (ifo (G_awake K_ = some true)).bind fun _ => some (true)) z) z)))))))))))))))))))
end Go.Proofs.Ythogdgkafaclaaa
end
section
namespace Go.Proofs.Ythogdgkafaclaaa
theorem g_inside {a b : Int × Int} : G_inside 1000 a b = some (decide (b.1 ≤ a.1) && decide (a.2 ≤ b.2)) := by
  unfold G_inside
  cases decide (b.1 ≤ a.1) <;> rfl
theorem dones_get {f : Fld} (hc : check f = 0) (hn : refs f ≠ []) {i : Nat} (h : i < (donesTo f (truths f []) f.wd.toNat).length) : (donesTo f (truths f []) f.wd.toNat)[i] = didB (refs f) (i : Int) := by
  rw [← doneOf_didB hc hn]; exact donesTo_get ..
theorem l_More89 {A B : List (Int × Int)} {s t : Int} (hl : A.length = B.length) (hA : A.length ≤ 900) (h : ∀ i (h1 : i < A.length) (h2 : i < B.length), A[i].1 ≤ B[i].1 ∧ B[i].2 ≤ A[i].2) : ∀ (n m i : Nat), A.length = i + n → n < m → G_WeedMore_L89 1000 (A, s) (B, t) m (i : Int) = some (.inr ())
  | n, 0, i, _, hm => by omega
  | 0, m + 1, i, hn, hm => by
    unfold G_WeedMore_L89
    rw [cf (df (by simp only []; omega))]
  | n + 1, m + 1, i, hn, hm => by
    have e : ((i : Int) + 1) = ((i + 1 : Nat) : Int) := by omega
    have h1 : i < A.length := by omega
    have h2 : i < B.length := by omega
    unfold G_WeedMore_L89
    simp only []
    rw [ct (dt (by omega)), idxb h2, idxb h1, bd g_inside, dt (h i h1 h2).1, dt (h i h1 h2).2, Bool.and_true, nt, i64b (by omega) (by omega), e]
    exact l_More89 hl hA h n m (i + 1) (by omega) (by omega)
theorem l_More100 {W S : List Int} {s t : Int} (hW : W.length ≤ 900) (hS : S.length ≤ 900) (h : ∀ x ∈ S, x ∈ W) : ∀ (n m i : Nat), S.length = i + n → n < m → G_WeedMore_L100 1000 (W, s) (S, t) m (i : Int) = some (.inr ())
  | n, 0, i, _, hm => by omega
  | 0, m + 1, i, hn, hm => by
    unfold G_WeedMore_L100
    rw [cf (df (by simp only []; omega))]
  | n + 1, m + 1, i, hn, hm => by
    have e : ((i : Int) + 1) = ((i + 1 : Nat) : Int) := by omega
    have h1 : i < S.length := by omega
    unfold G_WeedMore_L100
    simp only []
    rw [ct (dt (by omega)), idxb h1, bd (g_has hW), List.contains_iff_mem.2 (h _ (List.getElem_mem h1)), nt, i64b (by omega) (by omega), e]
    exact l_More100 hW hS h n m (i + 1) (by omega) (by omega)
theorem weedMore_plain (f : Fld) (more : Tly) (w r : Int) (hsz : f.ts.length * 40 ≤ 140737488351232) (hw0 : 0 ≤ w ∧ w < 256) (hr0 : 0 ≤ r ∧ r < 256) : G_WeedMore 1000 f more w r = some true := by
  unfold G_WeedMore
  rw [ifob (by omega), ifob (by simp only [List.length_singleton]; omega), bd (g_ready f)]
  cases hrd : (thin f && check f == 0) with
  | false => rw [nf, ifob awake_1000]
  | true =>
    rw [Bool.and_eq_true, beq_iff_eq] at hrd
    obtain ⟨ht, hc⟩ := hrd
    obtain ⟨x, hx⟩ : ∃ x, x = (⟨f.rows, f.wd, f.lo, f.hi, f.ts ++ [more]⟩ : Fld) := ⟨_, rfl⟩
    rw [nt, ← hx, bd (g_ready x)]
    cases hrx : (thin x && check x == 0) with
    | false => rw [nf, ifob awake_1000]
    | true =>
      rw [Bool.and_eq_true, beq_iff_eq] at hrx
      obtain ⟨htx, hcx⟩ := hrx
      obtain ⟨hr, hw, h5, _⟩ := check_ok hc
      have hxw : x.wd = f.wd := by rw [hx]
      have hxr : x.rows = f.rows := by rw [hx]
      obtain ⟨k, hk, hkw⟩ := mod_nat (x := w) (m := f.wd) (by omega)
      obtain ⟨row, hrow, hrl⟩ := mod_nat (x := r) (m := f.rows) (by omega)
      have hF := g_Field (K := 1000) (f := f) (Nat.le_refl _) (thin_len ht)
      have hX := g_Field (K := 1000) (f := x) (Nat.le_refl _) (thin_len htx)
      obtain ⟨hl1, hl2⟩ := leave_more hc hcx (more := more) hx
      have hl8 := leaveL_len hc
      have hl8x := leaveL_len hcx
      rw [nt, cv8 hw0, remb hw0.1 (by omega), cv8 hr0, remb hr0.1 (by omega), hk, hrow, bd hF, bd (q_Leave 1000 f), if_pos hc, bd hX, bd (q_Leave 1000 x), if_pos hcx]
      simp only []
      rw [cf (by decide), cf (by decide), cf (df (by omega)), i64b (by omega) (by omega), cf (df (by omega))]
      by_cases h0 : 0 < ((leaveL x).length : Int)
      · rw [ct (dt h0), ifob awake_1000]
      · have hnx : refs x ≠ [] := (leave_zero hcx).1 (by omega)
        have hsub := refs_more hc hcx (more := more) hx
        have hn : refs f ≠ [] := by
          obtain ⟨l, hl⟩ := List.exists_mem_of_ne_nil _ hnx
          exact List.ne_nil_of_mem (hsub l hl)
        have hs : sureE f = 0 := by rw [refs_nil hc, if_neg hn]
        have hsx : sureE x = 0 := by rw [refs_nil hcx, if_neg hnx]
        have hin : inR (k : Int) 0 (f.wd - 1) = true := inR_iff.2 (by omega)
        have hinx : inR (k : Int) 0 (x.wd - 1) = true := by rw [hxw]; exact hin
        have hwB : whoB f (k : Int) = true := hin
        have hwBx : whoB x (k : Int) = true := hinx
        have hask := ask_in hc hcx hxr hsub (k : Int)
        have hnext := next_in hc hcx hxr hsub (k : Int)
        have hwl := whoS_len f.wd (refs f) row
        have hwlx := whoS_len x.wd (refs x) row
        rw [cf (df h0), bd hF, bd (q_Done 1000 f), if_pos hs, bd hX, bd (q_Done 1000 x), if_pos hsx, bd hF, bd (q_Who (K := 1000) hc hrl), if_pos hs, bd hX, bd (q_Who (K := 1000) hcx (by rw [hxr]; exact hrl)), if_pos hsx,
          bd hF, bd (q_Ask 1000 f _), hwB, askE_true, if_pos hs, bd hX, bd (q_Ask 1000 x _), hwBx, askE_true, if_pos hsx, bd hF, bd (q_Next (K := 1000) hin), if_pos hs, bd hX, bd (q_Next (K := 1000) hinx), if_pos hsx]
        simp only []
        have e1 : ((donesTo f (truths f []) f.wd.toNat).length : Int) = f.wd := by rw [donesTo_len]; omega
        have e2 : ((donesTo x (truths x []) x.wd.toNat).length : Int) = f.wd := by rw [donesTo_len, hxw]; omega
        rw [cf (by decide), cf (by decide), cf (by decide), cf (by decide), cf (by decide), cf (by decide), cf (by decide), cf (by decide), cf (by simp [e1]), cf (by simp [e1, e2]), cf (df (by omega)), cf (df (by omega))]
        have h89 := l_More89 (A := donesTo f (truths f []) f.wd.toNat) (B := donesTo x (truths x []) x.wd.toNat) (s := 0) (t := 0) (by omega) (by omega) (fun i h1 h2 => by
          rw [dones_get hc hn h1, dones_get hcx hnx h2]
          exact done_in hc hcx hnx hsub _) (donesTo f (truths f []) f.wd.toNat).length 1000 0 (by omega) (by omega)
        rw [Int.natCast_zero] at h89
        have h100 := l_More100 (W := whoS f.wd (refs f) row) (S := whoS x.wd (refs x) row) (s := 0) (t := 0) (by omega) (by omega) (fun c hcm => who_in hsub (by rw [← hxw]; exact hcm)) (whoS x.wd (refs x) row).length 1000 0 (by omega) (by omega)
        rw [Int.natCast_zero] at h100
        rw [bd h89, Sum.elim_inr, bd h100, Sum.elim_inr, ifob awake_1000]
theorem weedMore_true (f : Fld) (more : Tly) (w r : Int) (hsz : f.ts.length * 40 ≤ 140737488351232) (hw0 : 0 ≤ w ∧ w < 256) (hr0 : 0 ≤ r ∧ r < 256) : ∃ K, G_WeedMore K f more w r = some true := ⟨1000, weedMore_plain f more w r hsz hw0 hr0⟩
end Go.Proofs.Ythogdgkafaclaaa
end
section
set_option linter.unusedVariables false
set_option linter.unusedSimpArgs false
namespace Go.Proofs.Ythogdgkafaclaaa
open Go.RowKit
set_option maxRecDepth 100000
open AF
theorem mixedL9 : Try.prog.follows .mixedOrders = true := by kernel_rfl
attribute [local irreducible] Ex1 WL CC CW LV Ret ObOp Agg One Own
theorem a9 (K_ : Nat) (p0 : Fld) (p1 : Tly) (p2 : Int) (p3 : Int) (A0_0 : Option Addr) (c0_0 : Nat) (Z : Nat → Prop) (w : World) (hS0_0 : Sl eTly w Z A0_0 c0_0 p0.ts) (hG : G_WeedMore K_ p0 p1 p2 p3 = some true) :
    Ret Try.prog 9 #[.agg #[I p0.rows, I p0.wd, I p0.lo, I p0.hi, .slice A0_0 p0.ts.length c0_0], .agg #[I p1.who, I p1.fr, I p1.to, I p1.lo, I p1.hi], .int .u8 p2, .int .u8 p3] w (fun v w' => Ext w w' ∧ v = .bool true) := by
 unfold G_WeedMore at hG
 refine ret_of_cc (N := 243) Try.func9 rfl rfl (by simp) ?_
 intro fr0 ha hdf
 have hp_0 := sl_arg (i := 0) (v := .agg #[I p0.rows, I p0.wd, I p0.lo, I p0.hi, .slice A0_0 p0.ts.length c0_0]) ha rfl
 have hp_1 := sl_arg (i := 1) (v := .agg #[I p1.who, I p1.fr, I p1.to, I p1.lo, I p1.hi]) ha rfl
 have hp_2 := sl_arg (i := 2) (v := .int .u8 p2) ha rfl
 have hp_3 := sl_arg (i := 3) (v := .int .u8 p3) ha rfl
 clear ha
 have hp0 := Hp.refl w
 have hS0_0_0 := hS0_0.mv (mv_start w)
 refine cc_seq <| cc_region <| we rfl (fun st => x_box (v := .agg #[I p0.rows, I p0.wd, I p0.lo, I p0.hi, .slice A0_0 p0.ts.length c0_0]) (cs := #[I p0.rows, I p0.wd, I p0.lo, I p0.hi, .slice A0_0 p0.ts.length c0_0]) (ee st hp_0) rfl) ?_
 rintro _ w1 ⟨b1, rfl, nb1⟩
 have hp1 : Hp w [some b1] w1 := hp0.new nb1.gr (Nat.le_of_eq nb1.b_eq.symm) (Nat.lt_of_lt_of_eq (Nat.lt_succ_self _) nb1.sz.symm)
 refine we rfl (fun st => x_box (v := .agg #[I p1.who, I p1.fr, I p1.to, I p1.lo, I p1.hi]) (cs := #[I p1.who, I p1.fr, I p1.to, I p1.lo, I p1.hi]) (ee st hp_1) rfl) ?_
 rintro _ w2 ⟨b2, rfl, nb2⟩
 have hp2 : Hp w [some b2, some b1] w2 := hp1.new nb2.gr (Nat.le_of_eq nb2.b_eq.symm) (Nat.lt_of_lt_of_eq (Nat.lt_succ_self _) nb2.sz.symm)
 refine wa rfl (v := .bool false) rfl <| wl_end <| lv_next <| cc_seq <| cc_region ?_
 have bk1_2 : Bk w2 b1 26 #[I p0.rows, I p0.wd, I p0.lo, I p0.hi, .slice A0_0 p0.ts.length c0_0] := (nb1.bk.ext nb2.gr)
 refine wd rfl (fun st => x_loadn (l := [I p0.rows, I p0.wd, I p0.lo, I p0.hi, .slice A0_0 p0.ts.length c0_0]) agg_26 (ee st rfl) bk1_2 rfl rfl) <| we rfl (fun st => x_alloc (cs := #[I 0, I 0, I 0, I 0, .slice none 0 0]) zero_26 rfl) ?_
 rintro _ w3 ⟨b3, rfl, nb3⟩
 have hp3 : Hp w [some b3, some b2, some b1] w3 := hp2.new nb3.gr (Nat.le_of_eq nb3.b_eq.symm) (Nat.lt_of_lt_of_eq (Nat.lt_succ_self _) nb3.sz.symm)
 refine wl_ex0 rfl rfl (fun st => x_store (n := 5) (l := [I p0.rows, I p0.wd, I p0.lo, I p0.hi, .slice A0_0 p0.ts.length c0_0]) (cs' := #[I p0.rows, I p0.wd, I p0.lo, I p0.hi, .slice A0_0 p0.ts.length c0_0]) (ee st rfl) (ee st rfl) sz_26 nb3.bk rfl rfl (show 0 + 5 ≤ 5 by decide) (one_cells rfl) rfl) ?_
 rintro _ w4 sb4
 have hp4 : Hp w [some b3, some b2, some b1] w4 := hp3.gr sb4.gr (hp3.ge 0 rfl)
 refine wl_end <| lv_next <| cc_seq ?_
 have bk1_4 : Bk w4 b1 26 #[I p0.rows, I p0.wd, I p0.lo, I p0.hi, .slice A0_0 p0.ts.length c0_0] := ((bk1_2.ext nb3.gr).gr sb4.gr (hp3.ne 2 0 rfl rfl rfl))
 replace hG := ifo_bind hG; obtain ⟨hf6, hG⟩ := hG
 have hS0_0_4 : Sl eTly w4 (ZZ Z w.heap.size [some b3, some b2, some b1]) A0_0 c0_0 p0.ts := ((((hS0_0_0.mv (mv_new nb1.gr (Nat.le_of_eq nb1.b_eq.symm))).mv (mv_new nb2.gr (Nat.le_of_eq nb2.b_eq.symm))).mv (mv_new nb3.gr (Nat.le_of_eq nb3.b_eq.symm))).mv (hp3.mv0 sb4.gr 0 rfl))
 have bk2_4 : Bk w4 b2 68 #[I p1.who, I p1.fr, I p1.to, I p1.lo, I p1.hi] := ((nb2.bk.ext nb3.gr).gr sb4.gr (hp3.ne 1 0 rfl rfl rfl))
 refine cc_anyM0 6 [Kn w4.heap.size (fun b => .slice (some ⟨b, 0, none⟩) 0 0) 68 #[], Kc (pt b1 4), Kc (.slice A0_0 p0.ts.length c0_0), ⟨fun v_ w_ => ∃ A_ c_, v_ = .slice A_ p0.ts.length c_ ∧ OwnR eTly 68 w4 w_ (ZZ Z w.heap.size [some b3, some b2, some b1]) A_ c_ p0.ts, fun _ _ _ ⟨A_, c_, h1, h2⟩ g => ⟨A_, c_, h1, h2.ext g (mv_ext g)⟩⟩, Kc (.agg #[I p1.who, I p1.fr, I p1.to, I p1.lo, I p1.hi]), Kn w4.heap.size (fun b => .slice (some ⟨b, 0, none⟩) 1 1) 68 #[I p1.who, I p1.fr, I p1.to, I p1.lo, I p1.hi]] mixedL9 rfl rfl
     (obsN_cons (ob_ext rfl rfl (fun a' w' ph K => (x_buildSlice (e := 68) (vs := #[]) (cs := #[]) pm0 (by kernel_rfl)).mono (fun u w'' hh => kn_mk K.phT.size hh)))
     (obsN_cons (od rfl (fun _ => rfl) (fun K => x_fieldAddr (es (t := 4) (v := pt b1 0) ((K.out 4 rfl).trans rfl)) (fz_26_3 _ _)))
     (obsN_cons (od rfl (fun _ => rfl) (fun K => x_load1 (v := .slice A0_0 p0.ts.length c0_0) one_24 (es (t := 38) (v := pt b1 4) (K.dep 1 38 rfl rfl)) (bk1_4.ext K.phT) rfl))
     (obsN_cons (ob_ext rfl rfl (fun a' w' ph K => match K.dep 0 37 rfl rfl with | ⟨bb5_0, e5_0, l5_0, k5_0⟩ => (x_app0 (ys := p0.ts) Try.underlying24 info_68 rfl rfl (by decide) (es (t := 37) (v := .slice (some ⟨bb5_0, 0, none⟩) 0 0) e5_0) (es (t := 39) (v := .slice A0_0 p0.ts.length c0_0) (K.dep 2 39 rfl rfl)) k5_0 l5_0 (hS0_0_4.mv (mv_ext K.phT)) (by have := hf6; simp only [maxLen]; omega) (by have := hf6; omega) K.phT.size).mono (fun v w'' ⟨A_, c_, h1, h2, h3⟩ => ⟨⟨A_, c_, h1, h3⟩, h2⟩)))
     (obsN_cons (od rfl (fun _ => rfl) (fun K => x_loadn (l := [I p1.who, I p1.fr, I p1.to, I p1.lo, I p1.hi]) agg_68 (es (t := 5) (v := pt b2 0) ((K.out 5 rfl).trans rfl)) (bk2_4.ext K.phT) rfl rfl))
     (obsN_cons (ob_ext rfl rfl (fun a' w' ph K => (x_buildSlice (e := 68) (vs := #[(0, .agg #[I p1.who, I p1.fr, I p1.to, I p1.lo, I p1.hi])]) (cs := #[I p1.who, I p1.fr, I p1.to, I p1.lo, I p1.hi]) (pm1 (es (t := 41) (v := .agg #[I p1.who, I p1.fr, I p1.to, I p1.lo, I p1.hi]) (K.dep 4 41 rfl rfl))) (by kernel_rfl)).mono (fun u w'' hh => kn_mk K.phT.size hh)))
     (obsN_nil _))))))) ?_
 intro w5
 rintro _ ⟨bb5_0, rfl, lobb5_0, bkbb5_0⟩ _ rfl _ rfl _ ⟨Ab5_3, cb5_3, rfl, hRb5_3⟩ _ rfl _ ⟨bb5_5, rfl, lobb5_5, bkbb5_5⟩ hx5
 have hp5 : Hp w [some b3, some b2, some b1] w5 := hp4.ext hx5
 have hp6 : Hp w [ob Ab5_3, some b3, some b2, some b1] w5 := hp4.hand hx5 hRb5_3
 have hRb5_3_h : OwnR eTly 68 w w5 (ZZ Z w.heap.size [ob Ab5_3, some b3, some b2, some b1]) Ab5_3 cb5_3 p0.ts := OwnR.hand hp4 hRb5_3 (fun _ _ _ _ _ _ h => h)
 replace hG := ifo_bind hG; obtain ⟨hf7, hG⟩ := hG
 refine we rfl (fun st => x_appR (ys := [p1]) Try.underlying24 info_68 rfl rfl (by decide) (ee st rfl) rfl (ee st rfl) hRb5_3_h (news_bk (css := [[I p1.who, I p1.fr, I p1.to, I p1.lo, I p1.hi]]) bkbb5_5 ⟨rfl, trivial⟩ rfl) (by have := hf7; simp only [maxLen]; omega) (by have := hf7; omega) hp6.bl.size (by simp)) ?_
 rintro _ w8 ⟨A8, c8, rfl, hg8, hy8, hO8⟩
 have hp7 : Hp w [ob A8, some b3, some b2, some b1] w8 := hp6.row hg8 0 rfl (hp6.ge 0 rfl) hy8
 have hR8 : OwnR eTly 68 w w8 (ZZ Z w.heap.size [ob A8, some b3, some b2, some b1]) A8 c8 (p0.ts ++ [p1]) := ownR_of hO8 (hp6.mvr hg8 0 rfl (fun k hk => (hy8 k hk).1))
 refine wd rfl (fun st => x_fieldAddr (ee st rfl) (fz_26_3 _ _)) ?_
 have bk3_7 : Bk w8 b3 26 #[I p0.rows, I p0.wd, I p0.lo, I p0.hi, .slice A0_0 p0.ts.length c0_0] := ((sb4.bk.ext hx5).gr hg8 (hp6.ne 1 0 rfl rfl rfl))
 refine wl_ex0 rfl rfl (fun st => x_store (n := 1) (l := [.slice A8 ((p0.ts ++ [p1]).length) c8]) (cs' := #[I p0.rows, I p0.wd, I p0.lo, I p0.hi, .slice A8 ((p0.ts ++ [p1]).length) c8]) (ee st rfl) (ee st rfl) sz_24 bk3_7 rfl rfl (show 4 + 1 ≤ 5 by decide) (one_cells rfl) rfl) ?_
 rintro _ w9 sb9
 have hp8 : Hp w [ob A8, some b3, some b2, some b1] w9 := hp7.gr sb9.gr (hp7.ge 1 rfl)
 refine wl_end <| lv_next <| cc_seq <| cc_seq <| cc_region ?_
 have bk1_8 : Bk w9 b1 26 #[I p0.rows, I p0.wd, I p0.lo, I p0.hi, .slice A0_0 p0.ts.length c0_0] := (((bk1_4.ext hx5).gr hg8 (hp6.ne 3 0 rfl rfl rfl)).gr sb9.gr (hp7.ne 3 1 rfl rfl rfl))
 refine wd rfl (fun st => x_loadn (l := [I p0.rows, I p0.wd, I p0.lo, I p0.hi, .slice A0_0 p0.ts.length c0_0]) agg_26 (ee st rfl) bk1_8 rfl rfl) ?_
 have hS0_0_8 : Sl eTly w9 (ZZ Z w.heap.size [ob A8, some b3, some b2, some b1]) A0_0 c0_0 p0.ts := (((hS0_0_4.mv (mv_hand hx5 hRb5_3)).mv (hp6.mvr hg8 0 rfl (fun k hk => (hy8 k hk).1))).mv (hp7.mv0 sb9.gr 1 rfl))
 replace hG := bind_some hG; obtain ⟨r10, hr10, hG⟩ := hG
 refine we rfl (fun st => x_call0 own_39 (ee st rfl) (am1 (ee st rfl)) (a39 K_ p0 A0_0 c0_0 ZA _ hS0_0_8.all r10 hr10)) ?_
 rintro _ w11 ⟨hx10, rfl⟩
 have hp9 : Hp w [ob A8, some b3, some b2, some b1] w11 := hp8.ext hx10
 refine wd rfl (fun st => x_not (ee st rfl)) <| wm rfl (v := .bool !r10) rfl ?_
 rcases bool_cases (!r10) with hc12 | hc12
 ·replace hG := cond_t hG hc12
  have hc12_13 : r10 = false := by simpa using hc12
  refine wl_skip (c := true) rfl rfl (guard_eq rfl hc12) (by decide) rfl (by decide) <| wl_skip (c := true) rfl rfl (guard_eq rfl hc12) (by decide) rfl (by decide) <| wl_skip (c := true) rfl rfl (guard_eq rfl hc12) (by decide) rfl (by decide) <| wd rfl (fun st => x_pick_t (v := .bool true) (ee st rfl) hc12 (ee st rfl)) <| wl_end <| lv_next <| cc_cond_t rfl rfl <| cc_seq <| cc_region ?_
  replace hG := ifo_bind hG; obtain ⟨hw14, hG⟩ := hG
  refine we rfl (fun st => x_call0 own_21 (ee st rfl) am0 (a21 K_ ZA _ hw14)) ?_
  rintro _ w15 ⟨hx14, rfl⟩
  have hp10 : Hp w [ob A8, some b3, some b2, some b1] w15 := hp9.ext hx14
  refine wa rfl (v := .bool true) rfl <| wl_end <| lv_next <| cc_ret <| lv_then_ret ?_
  have hr_ := Option.some.inj hG
  refine lv_ret1 rfl rfl ?_
  exact ⟨hp10.fin, congrArg Value.bool hr_⟩
 ·replace hG := cond_f hG hc12
  have hc12_16 : r10 = true := by simpa using hc12
  have bk3_9 : Bk w11 b3 26 #[I p0.rows, I p0.wd, I p0.lo, I p0.hi, .slice A8 ((p0.ts ++ [p1]).length) c8] := (sb9.bk.ext hx10)
  refine wl_detg rfl rfl (guard_eq rfl hc12) rfl (by decide) (fun st => x_loadn (l := [I p0.rows, I p0.wd, I p0.lo, I p0.hi, .slice A8 ((p0.ts ++ [p1]).length) c8]) agg_26 (ee st rfl) bk3_9 rfl rfl) ?_
  have hR8_9 : OwnR eTly 68 w w11 (ZZ Z w.heap.size [ob A8, some b3, some b2, some b1]) A8 c8 (p0.ts ++ [p1]) := ((hR8.gr sb9.gr (fun k hk => hp7.ne 0 1 rfl (congrArg some hk) rfl) (hp7.mv0 sb9.gr 1 rfl)).ext hx10 (mv_ext hx10))
  replace hG := bind_some hG; obtain ⟨r17, hr17, hG⟩ := hG
  refine wl_exg rfl rfl (guard_eq rfl hc12) rfl (by decide) (fun st => x_call0 own_39 (ee st rfl) (am1 (ee st rfl)) (a39 K_ (⟨p0.rows, p0.wd, p0.lo, p0.hi, p0.ts ++ [p1]⟩ : Fld) A8 c8 ZA _ hR8_9.all r17 hr17)) ?_
  rintro _ w18 ⟨hx17, rfl⟩
  have hp11 : Hp w [ob A8, some b3, some b2, some b1] w18 := hp9.ext hx17
  refine wl_detg rfl rfl (guard_eq rfl hc12) rfl (by decide) (fun st => x_not (ee st rfl)) <| wd rfl (fun st => x_pick_f (v := .bool !r17) (ee st rfl) hc12 (ee st rfl)) <| wl_end <| lv_next ?_
  rcases bool_cases (!r17) with hc19 | hc19
  ·replace hG := cond_t hG hc19
   have hc19_20 : r17 = false := by simpa using hc19
   refine cc_cond_t rfl hc19 <| cc_seq <| cc_region ?_
   replace hG := ifo_bind hG; obtain ⟨hw21, hG⟩ := hG
   refine we rfl (fun st => x_call0 own_21 (ee st rfl) am0 (a21 K_ ZA _ hw21)) ?_
   rintro _ w22 ⟨hx21, rfl⟩
   have hp12 : Hp w [ob A8, some b3, some b2, some b1] w22 := hp11.ext hx21
   refine wa rfl (v := .bool true) rfl <| wl_end <| lv_next <| cc_ret <| lv_then_ret ?_
   have hr_ := Option.some.inj hG
   refine lv_ret1 rfl rfl ?_
   exact ⟨hp12.fin, congrArg Value.bool hr_⟩
  ·replace hG := cond_f hG hc19
   have hc19_23 : r17 = true := by simpa using hc19
   refine cc_cond_f rfl hc19 <| cc_skip <| lv_next <| cc_seq ?_
   replace hG := cvO_bind hG; obtain ⟨hf25, hG⟩ := hG
   have bk1_11 : Bk w18 b1 26 #[I p0.rows, I p0.wd, I p0.lo, I p0.hi, .slice A0_0 p0.ts.length c0_0] := ((bk1_8.ext hx10).ext hx17)
   replace hG := rem_bind hG; obtain ⟨hf26, hG⟩ := hG
   replace hG := cvO_bind hG; obtain ⟨hf27, hG⟩ := hG
   replace hG := rem_bind hG; obtain ⟨hf28, hG⟩ := hG
   refine cc_anyM0 11 [Kc (.int .u8 p2), Kc (I p2), Kc (pt b1 1), Kc (I p0.wd), Kc (I (p2 % p0.wd)), Kc (.int .u8 p3), Kc (I p3), Kc (pt b1 0), Kc (I p0.rows), Kc (I (p3 % p0.rows)), Kc (I (p2 % p0.wd))] mixedL9 rfl rfl
       (obsN_cons (od rfl (fun _ => rfl) (fun K => x_move (v := .int .u8 p2) (es (t := 2) (v := .int .u8 p2) ((K.out 2 rfl).trans hp_2))))
       (obsN_cons (od rfl (fun _ => rfl) (fun K => x_conv (k := .i64) sm_5 Try.underlying3 (es (t := 54) (v := .int .u8 p2) (K.dep 0 54 rfl rfl)) hf25))
       (obsN_cons (od rfl (fun _ => rfl) (fun K => x_fieldAddr (es (t := 4) (v := pt b1 0) ((K.out 4 rfl).trans rfl)) (fz_26_1 _ _)))
       (obsN_cons (od rfl (fun _ => rfl) (fun K => x_load1 (v := I p0.wd) one_3 (es (t := 56) (v := pt b1 1) (K.dep 2 56 rfl rfl)) (bk1_11.ext K.phT) rfl))
       (obsN_cons (od rfl (fun _ => rfl) (fun K => x_rem (es (t := 55) (v := I p2) (K.dep 1 55 rfl rfl)) (es (t := 57) (v := I p0.wd) (K.dep 3 57 rfl rfl)) hf26.1 hf26.2))
       (obsN_cons (od rfl (fun _ => rfl) (fun K => x_move (v := .int .u8 p3) (es (t := 3) (v := .int .u8 p3) ((K.out 3 rfl).trans hp_3))))
       (obsN_cons (od rfl (fun _ => rfl) (fun K => x_conv (k := .i64) sm_5 Try.underlying3 (es (t := 59) (v := .int .u8 p3) (K.dep 5 59 rfl rfl)) hf27))
       (obsN_cons (od rfl (fun _ => rfl) (fun K => x_fieldAddr (es (t := 4) (v := pt b1 0) ((K.out 4 rfl).trans rfl)) (fz_26_0 _ _)))
       (obsN_cons (od rfl (fun _ => rfl) (fun K => x_load1 (v := I p0.rows) one_3 (es (t := 61) (v := pt b1 0) (K.dep 7 61 rfl rfl)) (bk1_11.ext K.phT) rfl))
       (obsN_cons (od rfl (fun _ => rfl) (fun K => x_rem (es (t := 60) (v := I p3) (K.dep 6 60 rfl rfl)) (es (t := 62) (v := I p0.rows) (K.dep 8 62 rfl rfl)) hf28.1 hf28.2))
       (obsN_cons (od rfl (fun _ => rfl) (fun K => x_assign (v := I (p2 % p0.wd)) (es (t := 58) (v := I (p2 % p0.wd)) (K.dep 4 58 rfl rfl))))
       (obsN_nil _)))))))))))) ?_
   intro w24
   rintro _ rfl _ rfl _ rfl _ rfl _ rfl _ rfl _ rfl _ rfl _ rfl _ rfl _ rfl hx24
   have hp13 : Hp w [ob A8, some b3, some b2, some b1] w24 := hp11.ext hx24
   refine wa rfl (v := I (p3 % p0.rows)) rfl <| wl_end <| lv_next <| cc_seq <| cc_region ?_
   have bk1_13 : Bk w24 b1 26 #[I p0.rows, I p0.wd, I p0.lo, I p0.hi, .slice A0_0 p0.ts.length c0_0] := (bk1_11.ext hx24)
   refine wd rfl (fun st => x_loadn (l := [I p0.rows, I p0.wd, I p0.lo, I p0.hi, .slice A0_0 p0.ts.length c0_0]) agg_26 (ee st rfl) bk1_13 rfl rfl) ?_
   have hS0_0_13 : Sl eTly w24 (ZZ Z w.heap.size [ob A8, some b3, some b2, some b1]) A0_0 c0_0 p0.ts := (((hS0_0_8.mv (mv_ext hx10)).mv (mv_ext hx17)).mv (mv_ext hx24))
   replace hG := bind_some hG; obtain ⟨r29, hr29, hG⟩ := hG
   refine we rfl (fun st => x_call0 own_23 (ee st rfl) (am1 (ee st rfl)) (a23 K_ p0 A0_0 c0_0 (ZZ Z w.heap.size [ob A8, some b3, some b2, some b1]) _ hS0_0_13 r29 hr29)) ?_
   rintro _ w30 ⟨hx29, ⟨_, rfl, ⟨A29_r0, c29_r0, rfl, hS29_r0⟩⟩⟩
   have hp14 : Hp w [ob A8, some b3, some b2, some b1] w30 := hp13.ext hx29
   have hS29_r0 := hS29_r0.mv (hp13.call (Nat.le_refl _))
   replace hG := bind_some hG; obtain ⟨r31, hr31, hG⟩ := hG
   refine we rfl (fun st => x_call0 own_35 (ee st rfl) (am1 (ee st rfl)) (a35 K_ r29 A29_r0 c29_r0 (ZZ Z w.heap.size [ob A8, some b3, some b2, some b1]) _ hS29_r0 r31 hr31)) ?_
   rintro _ w32 ⟨hx31, _, _, rfl, ⟨A31_ra, c31_ra, rfl, hS31_ra⟩, rfl⟩
   have hp15 : Hp w [ob A8, some b3, some b2, some b1] w32 := hp14.ext hx31
   have hS31_ra := hS31_ra.mv (hp14.call (Nat.le_refl _))
   refine wm rfl (v := .tuple #[.slice A31_ra r31.1.length c31_ra, I r31.2]) rfl <| wd rfl (fun st => x_extract (v := .slice A31_ra r31.1.length c31_ra) (ee st rfl) rfl) <| wd rfl (fun st => x_extract (v := I r31.2) (ee st rfl) rfl) <| wa rfl (v := .slice A31_ra r31.1.length c31_ra) rfl <| wa rfl (v := I r31.2) rfl <| wl_end <| lv_next <| cc_seq <| cc_region ?_
   have bk3_15 : Bk w32 b3 26 #[I p0.rows, I p0.wd, I p0.lo, I p0.hi, .slice A8 ((p0.ts ++ [p1]).length) c8] := ((((bk3_9.ext hx17).ext hx24).ext hx29).ext hx31)
   refine wd rfl (fun st => x_loadn (l := [I p0.rows, I p0.wd, I p0.lo, I p0.hi, .slice A8 ((p0.ts ++ [p1]).length) c8]) agg_26 (ee st rfl) bk3_15 rfl rfl) ?_
   have hR8_15 : OwnR eTly 68 w w32 (ZZ Z w.heap.size [ob A8, some b3, some b2, some b1]) A8 c8 (p0.ts ++ [p1]) := ((((hR8_9.ext hx17 (mv_ext hx17)).ext hx24 (mv_ext hx24)).ext hx29 (mv_ext hx29)).ext hx31 (mv_ext hx31))
   have hp16 : Hp w [some b3, some b2, some b1] w32 := hp15.erase 0
   have hR8_z : Sl eTly w32 (ZZ Z w.heap.size [some b3, some b2, some b1]) A8 c8 (p0.ts ++ [p1]) := hp15.frz 0 rfl hR8_15
   replace hG := bind_some hG; obtain ⟨r33, hr33, hG⟩ := hG
   refine we rfl (fun st => x_call0 own_23 (ee st rfl) (am1 (ee st rfl)) (a23 K_ (⟨p0.rows, p0.wd, p0.lo, p0.hi, p0.ts ++ [p1]⟩ : Fld) A8 c8 (ZZ Z w.heap.size [some b3, some b2, some b1]) _ hR8_z r33 hr33)) ?_
   rintro _ w34 ⟨hx33, ⟨_, rfl, ⟨A33_r0, c33_r0, rfl, hS33_r0⟩⟩⟩
   have hp17 : Hp w [some b3, some b2, some b1] w34 := hp16.ext hx33
   have hS33_r0 := hS33_r0.mv (hp16.call (Nat.le_refl _))
   replace hG := bind_some hG; obtain ⟨r35, hr35, hG⟩ := hG
   refine we rfl (fun st => x_call0 own_35 (ee st rfl) (am1 (ee st rfl)) (a35 K_ r33 A33_r0 c33_r0 (ZZ Z w.heap.size [some b3, some b2, some b1]) _ hS33_r0 r35 hr35)) ?_
   rintro _ w36 ⟨hx35, _, _, rfl, ⟨A35_ra, c35_ra, rfl, hS35_ra⟩, rfl⟩
   have hp18 : Hp w [some b3, some b2, some b1] w36 := hp17.ext hx35
   have hS35_ra := hS35_ra.mv (hp17.call (Nat.le_refl _))
   refine wm rfl (v := .tuple #[.slice A35_ra r35.1.length c35_ra, I r35.2]) rfl <| wd rfl (fun st => x_extract (v := .slice A35_ra r35.1.length c35_ra) (ee st rfl) rfl) <| wd rfl (fun st => x_extract (v := I r35.2) (ee st rfl) rfl) <| wa rfl (v := .slice A35_ra r35.1.length c35_ra) rfl <| wa rfl (v := I r35.2) rfl <| wl_end <| lv_next <| cc_seq <| cc_seq <| cc_region <| wm rfl (v := I r31.2) rfl <| wd rfl (fun st => x_neq (ee st rfl) (ee st rfl)) <| wm rfl (v := .bool (r31.2 != 0)) rfl ?_
   rcases bool_cases (r31.2 != 0) with hc37 | hc37
   ·replace hG := cond_t hG hc37
    exact absurd (Option.some.inj hG) (by decide)
   ·replace hG := cond_f hG hc37
    refine wl_detg rfl rfl (guard_eq rfl hc37) rfl (by decide) (fun st => x_move (v := I r35.2) (ee st rfl)) <| wl_detg rfl rfl (guard_eq rfl hc37) rfl (by decide) (fun st => x_neq (ee st rfl) (ee st rfl)) <| wd rfl (fun st => x_pick_f (v := .bool (r35.2 != 0)) (ee st rfl) hc37 (ee st rfl)) <| wm rfl (v := .bool (r35.2 != 0)) rfl ?_
    rcases bool_cases (r35.2 != 0) with hc38 | hc38
    ·replace hG := cond_t hG hc38
     exact absurd (Option.some.inj hG) (by decide)
    ·replace hG := cond_f hG hc38
     refine wl_detg rfl rfl (guard_eq rfl hc38) rfl (by decide) (fun st => x_move (v := .slice A35_ra r35.1.length c35_ra) (ee st rfl)) <| wl_detg rfl rfl (guard_eq rfl hc38) rfl (by decide) (fun st => x_len Try.underlying43 (ee st rfl)) <| wl_detg rfl rfl (guard_eq rfl hc38) rfl (by decide) (fun st => x_move (v := .slice A31_ra r31.1.length c31_ra) (ee st rfl)) <| wl_detg rfl rfl (guard_eq rfl hc38) rfl (by decide) (fun st => x_len Try.underlying43 (ee st rfl)) <| wl_detg rfl rfl (guard_eq rfl hc38) rfl (by decide) (fun st => x_lss (ee st rfl) (ee st rfl)) <| wd rfl (fun st => x_pick_f (v := .bool (decide ((r35.1.length : Int) < (r31.1.length : Int)))) (ee st rfl) hc38 (ee st rfl)) <| wm rfl (v := .bool (decide ((r35.1.length : Int) < (r31.1.length : Int)))) rfl ?_
     rcases bool_cases (decide ((r35.1.length : Int) < (r31.1.length : Int))) with hc39 | hc39
     ·replace hG := cond_t hG hc39
      exact absurd (Option.some.inj hG) (by decide)
     ·replace hG := cond_f hG hc39
      refine wl_detg rfl rfl (guard_eq rfl hc39) rfl (by decide) (fun st => x_move (v := .slice A35_ra r35.1.length c35_ra) (ee st rfl)) <| wl_detg rfl rfl (guard_eq rfl hc39) rfl (by decide) (fun st => x_len Try.underlying43 (ee st rfl)) <| wl_detg rfl rfl (guard_eq rfl hc39) rfl (by decide) (fun st => x_move (v := .slice A31_ra r31.1.length c31_ra) (ee st rfl)) <| wl_detg rfl rfl (guard_eq rfl hc39) rfl (by decide) (fun st => x_len Try.underlying43 (ee st rfl)) ?_
      replace hG := i64_bind hG; obtain ⟨hf40, hG⟩ := hG
      refine wl_detg rfl rfl (guard_eq rfl hc39) rfl (by decide) (fun st => x_add (ee st rfl) (ee st rfl) hf40) <| wl_detg rfl rfl (guard_eq rfl hc39) rfl (by decide) (fun st => x_gtr (ee st rfl) (ee st rfl)) <| wd rfl (fun st => x_pick_f (v := .bool (decide (((r31.1.length : Int) + 1) < (r35.1.length : Int)))) (ee st rfl) hc39 (ee st rfl)) <| wl_end <| lv_next ?_
      rcases bool_cases (decide (((r31.1.length : Int) + 1) < (r35.1.length : Int))) with hc41 | hc41
      ·replace hG := cond_t hG hc41
       exact absurd (Option.some.inj hG) (by decide)
      ·replace hG := cond_f hG hc41
       refine cc_cond_f rfl hc41 <| cc_skip <| lv_next <| cc_seq <| cc_seq <| cc_region <| wm rfl (v := .slice A35_ra r35.1.length c35_ra) rfl <| wd rfl (fun st => x_len Try.underlying43 (ee st rfl)) <| wd rfl (fun st => x_gtr (ee st rfl) (ee st rfl)) <| wl_end <| lv_next ?_
       rcases bool_cases (decide (0 < (r35.1.length : Int))) with hc42 | hc42
       ·replace hG := cond_t hG hc42
        refine cc_cond_t rfl hc42 <| cc_seq <| cc_region ?_
        replace hG := ifo_bind hG; obtain ⟨hw43, hG⟩ := hG
        refine we rfl (fun st => x_call0 own_21 (ee st rfl) am0 (a21 K_ ZA _ hw43)) ?_
        rintro _ w44 ⟨hx43, rfl⟩
        have hp19 : Hp w [some b3, some b2, some b1] w44 := hp18.ext hx43
        refine wa rfl (v := .bool true) rfl <| wl_end <| lv_next <| cc_ret <| lv_then_ret ?_
        have hr_ := Option.some.inj hG
        refine lv_ret1 rfl rfl ?_
        exact ⟨hp19.fin, congrArg Value.bool hr_⟩
       ·replace hG := cond_f hG hc42
        refine cc_cond_f rfl hc42 <| cc_skip <| lv_next <| cc_seq <| cc_region ?_
        have bk1_18 : Bk w36 b1 26 #[I p0.rows, I p0.wd, I p0.lo, I p0.hi, .slice A0_0 p0.ts.length c0_0] := ((((bk1_13.ext hx29).ext hx31).ext hx33).ext hx35)
        refine wd rfl (fun st => x_loadn (l := [I p0.rows, I p0.wd, I p0.lo, I p0.hi, .slice A0_0 p0.ts.length c0_0]) agg_26 (ee st rfl) bk1_18 rfl rfl) ?_
        have hS0_0_18 : Sl eTly w36 (ZZ Z w.heap.size [some b3, some b2, some b1]) A0_0 c0_0 p0.ts := (((((hS0_0_13.mv (mv_ext hx29)).mv (mv_ext hx31)).mv (mv_erase 0)).mv (mv_ext hx33)).mv (mv_ext hx35))
        replace hG := bind_some hG; obtain ⟨r45, hr45, hG⟩ := hG
        refine we rfl (fun st => x_call0 own_23 (ee st rfl) (am1 (ee st rfl)) (a23 K_ p0 A0_0 c0_0 (ZZ Z w.heap.size [some b3, some b2, some b1]) _ hS0_0_18 r45 hr45)) ?_
        rintro _ w46 ⟨hx45, ⟨_, rfl, ⟨A45_r0, c45_r0, rfl, hS45_r0⟩⟩⟩
        have hp20 : Hp w [some b3, some b2, some b1] w46 := hp18.ext hx45
        have hS45_r0 := hS45_r0.mv (hp18.call (Nat.le_refl _))
        replace hG := bind_some hG; obtain ⟨r47, hr47, hG⟩ := hG
        refine we rfl (fun st => x_call0 own_22 (ee st rfl) (am1 (ee st rfl)) (a22 K_ r45 A45_r0 c45_r0 (ZZ Z w.heap.size [some b3, some b2, some b1]) _ hS45_r0 r47 hr47)) ?_
        rintro _ w48 ⟨hx47, _, _, rfl, ⟨A47_ra, c47_ra, rfl, hS47_ra⟩, rfl⟩
        have hp21 : Hp w [some b3, some b2, some b1] w48 := hp20.ext hx47
        have hS47_ra := hS47_ra.mv (hp20.call (Nat.le_refl _))
        refine wm rfl (v := .tuple #[.slice A47_ra r47.1.length c47_ra, I r47.2]) rfl <| wd rfl (fun st => x_extract (v := .slice A47_ra r47.1.length c47_ra) (ee st rfl) rfl) <| wd rfl (fun st => x_extract (v := I r47.2) (ee st rfl) rfl) <| wa rfl (v := .slice A47_ra r47.1.length c47_ra) rfl <| wa rfl (v := I r47.2) rfl <| wl_end <| lv_next <| cc_seq <| cc_region ?_
        have bk3_21 : Bk w48 b3 26 #[I p0.rows, I p0.wd, I p0.lo, I p0.hi, .slice A8 ((p0.ts ++ [p1]).length) c8] := ((((bk3_15.ext hx33).ext hx35).ext hx45).ext hx47)
        refine wd rfl (fun st => x_loadn (l := [I p0.rows, I p0.wd, I p0.lo, I p0.hi, .slice A8 ((p0.ts ++ [p1]).length) c8]) agg_26 (ee st rfl) bk3_21 rfl rfl) ?_
        have hR8_21 : Sl eTly w48 (ZZ Z w.heap.size [some b3, some b2, some b1]) A8 c8 (p0.ts ++ [p1]) := ((((hR8_z.mv (mv_ext hx33)).mv (mv_ext hx35)).mv (mv_ext hx45)).mv (mv_ext hx47))
        replace hG := bind_some hG; obtain ⟨r49, hr49, hG⟩ := hG
        refine we rfl (fun st => x_call0 own_23 (ee st rfl) (am1 (ee st rfl)) (a23 K_ (⟨p0.rows, p0.wd, p0.lo, p0.hi, p0.ts ++ [p1]⟩ : Fld) A8 c8 (ZZ Z w.heap.size [some b3, some b2, some b1]) _ hR8_21 r49 hr49)) ?_
        rintro _ w50 ⟨hx49, ⟨_, rfl, ⟨A49_r0, c49_r0, rfl, hS49_r0⟩⟩⟩
        have hp22 : Hp w [some b3, some b2, some b1] w50 := hp21.ext hx49
        have hS49_r0 := hS49_r0.mv (hp21.call (Nat.le_refl _))
        replace hG := bind_some hG; obtain ⟨r51, hr51, hG⟩ := hG
        refine we rfl (fun st => x_call0 own_22 (ee st rfl) (am1 (ee st rfl)) (a22 K_ r49 A49_r0 c49_r0 (ZZ Z w.heap.size [some b3, some b2, some b1]) _ hS49_r0 r51 hr51)) ?_
        rintro _ w52 ⟨hx51, _, _, rfl, ⟨A51_ra, c51_ra, rfl, hS51_ra⟩, rfl⟩
        have hp23 : Hp w [some b3, some b2, some b1] w52 := hp22.ext hx51
        have hS51_ra := hS51_ra.mv (hp22.call (Nat.le_refl _))
        refine wm rfl (v := .tuple #[.slice A51_ra r51.1.length c51_ra, I r51.2]) rfl <| wd rfl (fun st => x_extract (v := .slice A51_ra r51.1.length c51_ra) (ee st rfl) rfl) <| wd rfl (fun st => x_extract (v := I r51.2) (ee st rfl) rfl) <| wa rfl (v := .slice A51_ra r51.1.length c51_ra) rfl <| wa rfl (v := I r51.2) rfl <| wl_end <| lv_next <| cc_seq <| cc_region ?_
        have bk1_23 : Bk w52 b1 26 #[I p0.rows, I p0.wd, I p0.lo, I p0.hi, .slice A0_0 p0.ts.length c0_0] := ((((bk1_18.ext hx45).ext hx47).ext hx49).ext hx51)
        refine wd rfl (fun st => x_loadn (l := [I p0.rows, I p0.wd, I p0.lo, I p0.hi, .slice A0_0 p0.ts.length c0_0]) agg_26 (ee st rfl) bk1_23 rfl rfl) ?_
        have hS0_0_23 : Sl eTly w52 (ZZ Z w.heap.size [some b3, some b2, some b1]) A0_0 c0_0 p0.ts := ((((hS0_0_18.mv (mv_ext hx45)).mv (mv_ext hx47)).mv (mv_ext hx49)).mv (mv_ext hx51))
        replace hG := bind_some hG; obtain ⟨r53, hr53, hG⟩ := hG
        refine we rfl (fun st => x_call0 own_23 (ee st rfl) (am1 (ee st rfl)) (a23 K_ p0 A0_0 c0_0 (ZZ Z w.heap.size [some b3, some b2, some b1]) _ hS0_0_23 r53 hr53)) ?_
        rintro _ w54 ⟨hx53, ⟨_, rfl, ⟨A53_r0, c53_r0, rfl, hS53_r0⟩⟩⟩
        have hp24 : Hp w [some b3, some b2, some b1] w54 := hp23.ext hx53
        have hS53_r0 := hS53_r0.mv (hp23.call (Nat.le_refl _))
        refine wm rfl (v := I (p3 % p0.rows)) rfl ?_
        replace hG := bind_some hG; obtain ⟨r55, hr55, hG⟩ := hG
        refine we rfl (fun st => x_call0 own_27 (ee st rfl) (am2 (ee st rfl) (ee st rfl)) (a27 K_ r53 (p3 % p0.rows) A53_r0 c53_r0 (ZZ Z w.heap.size [some b3, some b2, some b1]) _ hS53_r0 r55 hr55)) ?_
        rintro _ w56 ⟨hx55, _, _, rfl, ⟨A55_ra, c55_ra, rfl, hS55_ra⟩, rfl⟩
        have hp25 : Hp w [some b3, some b2, some b1] w56 := hp24.ext hx55
        have hS55_ra := hS55_ra.mv (hp24.call (Nat.le_refl _))
        refine wm rfl (v := .tuple #[.slice A55_ra r55.1.length c55_ra, I r55.2]) rfl <| wd rfl (fun st => x_extract (v := .slice A55_ra r55.1.length c55_ra) (ee st rfl) rfl) <| wd rfl (fun st => x_extract (v := I r55.2) (ee st rfl) rfl) <| wa rfl (v := .slice A55_ra r55.1.length c55_ra) rfl <| wa rfl (v := I r55.2) rfl <| wl_end <| lv_next <| cc_seq <| cc_region ?_
        have bk3_25 : Bk w56 b3 26 #[I p0.rows, I p0.wd, I p0.lo, I p0.hi, .slice A8 ((p0.ts ++ [p1]).length) c8] := ((((bk3_21.ext hx49).ext hx51).ext hx53).ext hx55)
        refine wd rfl (fun st => x_loadn (l := [I p0.rows, I p0.wd, I p0.lo, I p0.hi, .slice A8 ((p0.ts ++ [p1]).length) c8]) agg_26 (ee st rfl) bk3_25 rfl rfl) ?_
        have hR8_25 : Sl eTly w56 (ZZ Z w.heap.size [some b3, some b2, some b1]) A8 c8 (p0.ts ++ [p1]) := ((((hR8_21.mv (mv_ext hx49)).mv (mv_ext hx51)).mv (mv_ext hx53)).mv (mv_ext hx55))
        replace hG := bind_some hG; obtain ⟨r57, hr57, hG⟩ := hG
        refine we rfl (fun st => x_call0 own_23 (ee st rfl) (am1 (ee st rfl)) (a23 K_ (⟨p0.rows, p0.wd, p0.lo, p0.hi, p0.ts ++ [p1]⟩ : Fld) A8 c8 (ZZ Z w.heap.size [some b3, some b2, some b1]) _ hR8_25 r57 hr57)) ?_
        rintro _ w58 ⟨hx57, ⟨_, rfl, ⟨A57_r0, c57_r0, rfl, hS57_r0⟩⟩⟩
        have hp26 : Hp w [some b3, some b2, some b1] w58 := hp25.ext hx57
        have hS57_r0 := hS57_r0.mv (hp25.call (Nat.le_refl _))
        refine wm rfl (v := I (p3 % p0.rows)) rfl ?_
        replace hG := bind_some hG; obtain ⟨r59, hr59, hG⟩ := hG
        refine we rfl (fun st => x_call0 own_27 (ee st rfl) (am2 (ee st rfl) (ee st rfl)) (a27 K_ r57 (p3 % p0.rows) A57_r0 c57_r0 (ZZ Z w.heap.size [some b3, some b2, some b1]) _ hS57_r0 r59 hr59)) ?_
        rintro _ w60 ⟨hx59, _, _, rfl, ⟨A59_ra, c59_ra, rfl, hS59_ra⟩, rfl⟩
        have hp27 : Hp w [some b3, some b2, some b1] w60 := hp26.ext hx59
        have hS59_ra := hS59_ra.mv (hp26.call (Nat.le_refl _))
        refine wm rfl (v := .tuple #[.slice A59_ra r59.1.length c59_ra, I r59.2]) rfl <| wd rfl (fun st => x_extract (v := .slice A59_ra r59.1.length c59_ra) (ee st rfl) rfl) <| wd rfl (fun st => x_extract (v := I r59.2) (ee st rfl) rfl) <| wa rfl (v := .slice A59_ra r59.1.length c59_ra) rfl <| wa rfl (v := I r59.2) rfl <| wl_end <| lv_next <| cc_seq <| cc_region ?_
        have bk1_27 : Bk w60 b1 26 #[I p0.rows, I p0.wd, I p0.lo, I p0.hi, .slice A0_0 p0.ts.length c0_0] := ((((bk1_23.ext hx53).ext hx55).ext hx57).ext hx59)
        refine wd rfl (fun st => x_loadn (l := [I p0.rows, I p0.wd, I p0.lo, I p0.hi, .slice A0_0 p0.ts.length c0_0]) agg_26 (ee st rfl) bk1_27 rfl rfl) ?_
        have hS0_0_27 : Sl eTly w60 (ZZ Z w.heap.size [some b3, some b2, some b1]) A0_0 c0_0 p0.ts := ((((hS0_0_23.mv (mv_ext hx53)).mv (mv_ext hx55)).mv (mv_ext hx57)).mv (mv_ext hx59))
        replace hG := bind_some hG; obtain ⟨r61, hr61, hG⟩ := hG
        refine we rfl (fun st => x_call0 own_23 (ee st rfl) (am1 (ee st rfl)) (a23 K_ p0 A0_0 c0_0 (ZZ Z w.heap.size [some b3, some b2, some b1]) _ hS0_0_27 r61 hr61)) ?_
        rintro _ w62 ⟨hx61, ⟨_, rfl, ⟨A61_r0, c61_r0, rfl, hS61_r0⟩⟩⟩
        have hp28 : Hp w [some b3, some b2, some b1] w62 := hp27.ext hx61
        have hS61_r0 := hS61_r0.mv (hp27.call (Nat.le_refl _))
        refine wm rfl (v := I (p2 % p0.wd)) rfl ?_
        replace hG := bind_some hG; obtain ⟨r63, hr63, hG⟩ := hG
        refine we rfl (fun st => x_call0 own_42 (ee st rfl) (am2 (ee st rfl) (ee st rfl)) (a42 K_ r61 (p2 % p0.wd) A61_r0 c61_r0 (ZZ Z w.heap.size [some b3, some b2, some b1]) _ hS61_r0 r63 hr63)) ?_
        rintro _ w64 ⟨hx63, _, _, rfl, ⟨A63_ra, c63_ra, rfl, hS63_ra⟩, rfl⟩
        have hp29 : Hp w [some b3, some b2, some b1] w64 := hp28.ext hx63
        have hS63_ra := hS63_ra.mv (hp28.call (Nat.le_refl _))
        refine wm rfl (v := .tuple #[.slice A63_ra r63.1.length c63_ra, I r63.2]) rfl <| wd rfl (fun st => x_extract (v := .slice A63_ra r63.1.length c63_ra) (ee st rfl) rfl) <| wd rfl (fun st => x_extract (v := I r63.2) (ee st rfl) rfl) <| wa rfl (v := .slice A63_ra r63.1.length c63_ra) rfl <| wa rfl (v := I r63.2) rfl <| wl_end <| lv_next <| cc_seq <| cc_region ?_
        have bk3_29 : Bk w64 b3 26 #[I p0.rows, I p0.wd, I p0.lo, I p0.hi, .slice A8 ((p0.ts ++ [p1]).length) c8] := ((((bk3_25.ext hx57).ext hx59).ext hx61).ext hx63)
        refine wd rfl (fun st => x_loadn (l := [I p0.rows, I p0.wd, I p0.lo, I p0.hi, .slice A8 ((p0.ts ++ [p1]).length) c8]) agg_26 (ee st rfl) bk3_29 rfl rfl) ?_
        have hR8_29 : Sl eTly w64 (ZZ Z w.heap.size [some b3, some b2, some b1]) A8 c8 (p0.ts ++ [p1]) := ((((hR8_25.mv (mv_ext hx57)).mv (mv_ext hx59)).mv (mv_ext hx61)).mv (mv_ext hx63))
        replace hG := bind_some hG; obtain ⟨r65, hr65, hG⟩ := hG
        refine we rfl (fun st => x_call0 own_23 (ee st rfl) (am1 (ee st rfl)) (a23 K_ (⟨p0.rows, p0.wd, p0.lo, p0.hi, p0.ts ++ [p1]⟩ : Fld) A8 c8 (ZZ Z w.heap.size [some b3, some b2, some b1]) _ hR8_29 r65 hr65)) ?_
        rintro _ w66 ⟨hx65, ⟨_, rfl, ⟨A65_r0, c65_r0, rfl, hS65_r0⟩⟩⟩
        have hp30 : Hp w [some b3, some b2, some b1] w66 := hp29.ext hx65
        have hS65_r0 := hS65_r0.mv (hp29.call (Nat.le_refl _))
        refine wm rfl (v := I (p2 % p0.wd)) rfl ?_
        replace hG := bind_some hG; obtain ⟨r67, hr67, hG⟩ := hG
        refine we rfl (fun st => x_call0 own_42 (ee st rfl) (am2 (ee st rfl) (ee st rfl)) (a42 K_ r65 (p2 % p0.wd) A65_r0 c65_r0 (ZZ Z w.heap.size [some b3, some b2, some b1]) _ hS65_r0 r67 hr67)) ?_
        rintro _ w68 ⟨hx67, _, _, rfl, ⟨A67_ra, c67_ra, rfl, hS67_ra⟩, rfl⟩
        have hp31 : Hp w [some b3, some b2, some b1] w68 := hp30.ext hx67
        have hS67_ra := hS67_ra.mv (hp30.call (Nat.le_refl _))
        refine wm rfl (v := .tuple #[.slice A67_ra r67.1.length c67_ra, I r67.2]) rfl <| wd rfl (fun st => x_extract (v := .slice A67_ra r67.1.length c67_ra) (ee st rfl) rfl) <| wd rfl (fun st => x_extract (v := I r67.2) (ee st rfl) rfl) <| wa rfl (v := .slice A67_ra r67.1.length c67_ra) rfl <| wa rfl (v := I r67.2) rfl <| wl_end <| lv_next <| cc_seq <| cc_region ?_
        have bk1_31 : Bk w68 b1 26 #[I p0.rows, I p0.wd, I p0.lo, I p0.hi, .slice A0_0 p0.ts.length c0_0] := ((((bk1_27.ext hx61).ext hx63).ext hx65).ext hx67)
        refine wd rfl (fun st => x_loadn (l := [I p0.rows, I p0.wd, I p0.lo, I p0.hi, .slice A0_0 p0.ts.length c0_0]) agg_26 (ee st rfl) bk1_31 rfl rfl) ?_
        have hS0_0_31 : Sl eTly w68 (ZZ Z w.heap.size [some b3, some b2, some b1]) A0_0 c0_0 p0.ts := ((((hS0_0_27.mv (mv_ext hx61)).mv (mv_ext hx63)).mv (mv_ext hx65)).mv (mv_ext hx67))
        replace hG := bind_some hG; obtain ⟨r69, hr69, hG⟩ := hG
        refine we rfl (fun st => x_call0 own_23 (ee st rfl) (am1 (ee st rfl)) (a23 K_ p0 A0_0 c0_0 (ZZ Z w.heap.size [some b3, some b2, some b1]) _ hS0_0_31 r69 hr69)) ?_
        rintro _ w70 ⟨hx69, ⟨_, rfl, ⟨A69_r0, c69_r0, rfl, hS69_r0⟩⟩⟩
        have hp32 : Hp w [some b3, some b2, some b1] w70 := hp31.ext hx69
        have hS69_r0 := hS69_r0.mv (hp31.call (Nat.le_refl _))
        refine wm rfl (v := I (p2 % p0.wd)) rfl ?_
        replace hG := bind_some hG; obtain ⟨r71, hr71, hG⟩ := hG
        refine we rfl (fun st => x_call0 own_32 (ee st rfl) (am2 (ee st rfl) (ee st rfl)) (a32 K_ r69 (p2 % p0.wd) A69_r0 c69_r0 ZA _ hS69_r0.all r71 hr71)) ?_
        rintro _ w72 ⟨hx71, _, _, _, rfl, rfl, rfl, rfl⟩
        have hp33 : Hp w [some b3, some b2, some b1] w72 := hp32.ext hx71
        refine wm rfl (v := .tuple #[I r71.1, I r71.2.1, I r71.2.2]) rfl <| wd rfl (fun st => x_extract (v := I r71.1) (ee st rfl) rfl) <| wd rfl (fun st => x_extract (v := I r71.2.1) (ee st rfl) rfl) <| wd rfl (fun st => x_extract (v := I r71.2.2) (ee st rfl) rfl) <| wa rfl (v := I r71.1) rfl <| wa rfl (v := I r71.2.1) rfl <| wa rfl (v := I r71.2.2) rfl <| wl_end <| lv_next <| cc_seq <| cc_region ?_
        have bk3_33 : Bk w72 b3 26 #[I p0.rows, I p0.wd, I p0.lo, I p0.hi, .slice A8 ((p0.ts ++ [p1]).length) c8] := ((((bk3_29.ext hx65).ext hx67).ext hx69).ext hx71)
        refine wd rfl (fun st => x_loadn (l := [I p0.rows, I p0.wd, I p0.lo, I p0.hi, .slice A8 ((p0.ts ++ [p1]).length) c8]) agg_26 (ee st rfl) bk3_33 rfl rfl) ?_
        have hR8_33 : Sl eTly w72 (ZZ Z w.heap.size [some b3, some b2, some b1]) A8 c8 (p0.ts ++ [p1]) := ((((hR8_29.mv (mv_ext hx65)).mv (mv_ext hx67)).mv (mv_ext hx69)).mv (mv_ext hx71))
        replace hG := bind_some hG; obtain ⟨r73, hr73, hG⟩ := hG
        refine we rfl (fun st => x_call0 own_23 (ee st rfl) (am1 (ee st rfl)) (a23 K_ (⟨p0.rows, p0.wd, p0.lo, p0.hi, p0.ts ++ [p1]⟩ : Fld) A8 c8 (ZZ Z w.heap.size [some b3, some b2, some b1]) _ hR8_33 r73 hr73)) ?_
        rintro _ w74 ⟨hx73, ⟨_, rfl, ⟨A73_r0, c73_r0, rfl, hS73_r0⟩⟩⟩
        have hp34 : Hp w [some b3, some b2, some b1] w74 := hp33.ext hx73
        have hS73_r0 := hS73_r0.mv (hp33.call (Nat.le_refl _))
        refine wm rfl (v := I (p2 % p0.wd)) rfl ?_
        replace hG := bind_some hG; obtain ⟨r75, hr75, hG⟩ := hG
        refine we rfl (fun st => x_call0 own_32 (ee st rfl) (am2 (ee st rfl) (ee st rfl)) (a32 K_ r73 (p2 % p0.wd) A73_r0 c73_r0 ZA _ hS73_r0.all r75 hr75)) ?_
        rintro _ w76 ⟨hx75, _, _, _, rfl, rfl, rfl, rfl⟩
        have hp35 : Hp w [some b3, some b2, some b1] w76 := hp34.ext hx75
        refine wm rfl (v := .tuple #[I r75.1, I r75.2.1, I r75.2.2]) rfl <| wd rfl (fun st => x_extract (v := I r75.1) (ee st rfl) rfl) <| wd rfl (fun st => x_extract (v := I r75.2.1) (ee st rfl) rfl) <| wd rfl (fun st => x_extract (v := I r75.2.2) (ee st rfl) rfl) <| wa rfl (v := I r75.1) rfl <| wa rfl (v := I r75.2.1) rfl <| wa rfl (v := I r75.2.2) rfl <| wl_end <| lv_next <| cc_seq <| cc_seq <| cc_region <| wm rfl (v := I r47.2) rfl <| wd rfl (fun st => x_neq (ee st rfl) (ee st rfl)) <| wm rfl (v := .bool (r47.2 != 0)) rfl ?_
        rcases bool_cases (r47.2 != 0) with hc77 | hc77
        ·replace hG := cond_t hG hc77
         exact absurd (Option.some.inj hG) (by decide)
        ·replace hG := cond_f hG hc77
         refine wl_detg rfl rfl (guard_eq rfl hc77) rfl (by decide) (fun st => x_move (v := I r51.2) (ee st rfl)) <| wl_detg rfl rfl (guard_eq rfl hc77) rfl (by decide) (fun st => x_neq (ee st rfl) (ee st rfl)) <| wd rfl (fun st => x_pick_f (v := .bool (r51.2 != 0)) (ee st rfl) hc77 (ee st rfl)) <| wm rfl (v := .bool (r51.2 != 0)) rfl ?_
         rcases bool_cases (r51.2 != 0) with hc78 | hc78
         ·replace hG := cond_t hG hc78
          exact absurd (Option.some.inj hG) (by decide)
         ·replace hG := cond_f hG hc78
          refine wl_detg rfl rfl (guard_eq rfl hc78) rfl (by decide) (fun st => x_move (v := I r55.2) (ee st rfl)) <| wl_detg rfl rfl (guard_eq rfl hc78) rfl (by decide) (fun st => x_neq (ee st rfl) (ee st rfl)) <| wd rfl (fun st => x_pick_f (v := .bool (r55.2 != 0)) (ee st rfl) hc78 (ee st rfl)) <| wm rfl (v := .bool (r55.2 != 0)) rfl ?_
          rcases bool_cases (r55.2 != 0) with hc79 | hc79
          ·replace hG := cond_t hG hc79
           exact absurd (Option.some.inj hG) (by decide)
          ·replace hG := cond_f hG hc79
           refine wl_detg rfl rfl (guard_eq rfl hc79) rfl (by decide) (fun st => x_move (v := I r59.2) (ee st rfl)) <| wl_detg rfl rfl (guard_eq rfl hc79) rfl (by decide) (fun st => x_neq (ee st rfl) (ee st rfl)) <| wd rfl (fun st => x_pick_f (v := .bool (r59.2 != 0)) (ee st rfl) hc79 (ee st rfl)) <| wm rfl (v := .bool (r59.2 != 0)) rfl ?_
           rcases bool_cases (r59.2 != 0) with hc80 | hc80
           ·replace hG := cond_t hG hc80
            exact absurd (Option.some.inj hG) (by decide)
           ·replace hG := cond_f hG hc80
            refine wl_detg rfl rfl (guard_eq rfl hc80) rfl (by decide) (fun st => x_move (v := I r63.2) (ee st rfl)) <| wl_detg rfl rfl (guard_eq rfl hc80) rfl (by decide) (fun st => x_neq (ee st rfl) (ee st rfl)) <| wd rfl (fun st => x_pick_f (v := .bool (r63.2 != 0)) (ee st rfl) hc80 (ee st rfl)) <| wm rfl (v := .bool (r63.2 != 0)) rfl ?_
            rcases bool_cases (r63.2 != 0) with hc81 | hc81
            ·replace hG := cond_t hG hc81
             exact absurd (Option.some.inj hG) (by decide)
            ·replace hG := cond_f hG hc81
             refine wl_detg rfl rfl (guard_eq rfl hc81) rfl (by decide) (fun st => x_move (v := I r67.2) (ee st rfl)) <| wl_detg rfl rfl (guard_eq rfl hc81) rfl (by decide) (fun st => x_neq (ee st rfl) (ee st rfl)) <| wd rfl (fun st => x_pick_f (v := .bool (r67.2 != 0)) (ee st rfl) hc81 (ee st rfl)) <| wm rfl (v := .bool (r67.2 != 0)) rfl ?_
             rcases bool_cases (r67.2 != 0) with hc82 | hc82
             ·replace hG := cond_t hG hc82
              exact absurd (Option.some.inj hG) (by decide)
             ·replace hG := cond_f hG hc82
              refine wl_detg rfl rfl (guard_eq rfl hc82) rfl (by decide) (fun st => x_move (v := I r71.2.2) (ee st rfl)) <| wl_detg rfl rfl (guard_eq rfl hc82) rfl (by decide) (fun st => x_neq (ee st rfl) (ee st rfl)) <| wd rfl (fun st => x_pick_f (v := .bool (r71.2.2 != 0)) (ee st rfl) hc82 (ee st rfl)) <| wm rfl (v := .bool (r71.2.2 != 0)) rfl ?_
              rcases bool_cases (r71.2.2 != 0) with hc83 | hc83
              ·replace hG := cond_t hG hc83
               exact absurd (Option.some.inj hG) (by decide)
              ·replace hG := cond_f hG hc83
               refine wl_detg rfl rfl (guard_eq rfl hc83) rfl (by decide) (fun st => x_move (v := I r75.2.2) (ee st rfl)) <| wl_detg rfl rfl (guard_eq rfl hc83) rfl (by decide) (fun st => x_neq (ee st rfl) (ee st rfl)) <| wd rfl (fun st => x_pick_f (v := .bool (r75.2.2 != 0)) (ee st rfl) hc83 (ee st rfl)) <| wm rfl (v := .bool (r75.2.2 != 0)) rfl ?_
               rcases bool_cases (r75.2.2 != 0) with hc84 | hc84
               ·replace hG := cond_t hG hc84
                exact absurd (Option.some.inj hG) (by decide)
               ·replace hG := cond_f hG hc84
                refine wl_detg rfl rfl (guard_eq rfl hc84) rfl (by decide) (fun st => x_move (v := .slice A47_ra r47.1.length c47_ra) (ee st rfl)) <| wl_detg rfl rfl (guard_eq rfl hc84) rfl (by decide) (fun st => x_len Try.underlying29 (ee st rfl)) <| wl_detg rfl rfl (guard_eq rfl hc84) rfl (by decide) (fun st => x_fieldAddr (ee st rfl) (fz_26_1 _ _)) ?_
                have bk1_35 : Bk w76 b1 26 #[I p0.rows, I p0.wd, I p0.lo, I p0.hi, .slice A0_0 p0.ts.length c0_0] := ((((bk1_31.ext hx69).ext hx71).ext hx73).ext hx75)
                refine wl_detg rfl rfl (guard_eq rfl hc84) rfl (by decide) (fun st => x_load1 (v := I p0.wd) one_3 (ee st rfl) bk1_35 rfl) <| wl_detg rfl rfl (guard_eq rfl hc84) rfl (by decide) (fun st => x_neq (ee st rfl) (ee st rfl)) <| wd rfl (fun st => x_pick_f (v := .bool ((r47.1.length : Int) != p0.wd)) (ee st rfl) hc84 (ee st rfl)) <| wm rfl (v := .bool ((r47.1.length : Int) != p0.wd)) rfl ?_
                rcases bool_cases ((r47.1.length : Int) != p0.wd) with hc85 | hc85
                ·replace hG := cond_t hG hc85
                 exact absurd (Option.some.inj hG) (by decide)
                ·replace hG := cond_f hG hc85
                 refine wl_detg rfl rfl (guard_eq rfl hc85) rfl (by decide) (fun st => x_move (v := .slice A51_ra r51.1.length c51_ra) (ee st rfl)) <| wl_detg rfl rfl (guard_eq rfl hc85) rfl (by decide) (fun st => x_len Try.underlying29 (ee st rfl)) <| wl_detg rfl rfl (guard_eq rfl hc85) rfl (by decide) (fun st => x_move (v := .slice A47_ra r47.1.length c47_ra) (ee st rfl)) <| wl_detg rfl rfl (guard_eq rfl hc85) rfl (by decide) (fun st => x_len Try.underlying29 (ee st rfl)) <| wl_detg rfl rfl (guard_eq rfl hc85) rfl (by decide) (fun st => x_neq (ee st rfl) (ee st rfl)) <| wd rfl (fun st => x_pick_f (v := .bool ((r51.1.length : Int) != (r47.1.length : Int))) (ee st rfl) hc85 (ee st rfl)) <| wm rfl (v := .bool ((r51.1.length : Int) != (r47.1.length : Int))) rfl ?_
                 rcases bool_cases ((r51.1.length : Int) != (r47.1.length : Int)) with hc86 | hc86
                 ·replace hG := cond_t hG hc86
                  exact absurd (Option.some.inj hG) (by decide)
                 ·replace hG := cond_f hG hc86
                  refine wl_detg rfl rfl (guard_eq rfl hc86) rfl (by decide) (fun st => x_move (v := .slice A67_ra r67.1.length c67_ra) (ee st rfl)) <| wl_detg rfl rfl (guard_eq rfl hc86) rfl (by decide) (fun st => x_len Try.underlying43 (ee st rfl)) <| wl_detg rfl rfl (guard_eq rfl hc86) rfl (by decide) (fun st => x_move (v := .slice A63_ra r63.1.length c63_ra) (ee st rfl)) <| wl_detg rfl rfl (guard_eq rfl hc86) rfl (by decide) (fun st => x_len Try.underlying43 (ee st rfl)) <| wl_detg rfl rfl (guard_eq rfl hc86) rfl (by decide) (fun st => x_gtr (ee st rfl) (ee st rfl)) <| wd rfl (fun st => x_pick_f (v := .bool (decide ((r63.1.length : Int) < (r67.1.length : Int)))) (ee st rfl) hc86 (ee st rfl)) <| wm rfl (v := .bool (decide ((r63.1.length : Int) < (r67.1.length : Int)))) rfl ?_
                  rcases bool_cases (decide ((r63.1.length : Int) < (r67.1.length : Int))) with hc87 | hc87
                  ·replace hG := cond_t hG hc87
                   exact absurd (Option.some.inj hG) (by decide)
                  ·replace hG := cond_f hG hc87
                   refine wl_detg rfl rfl (guard_eq rfl hc87) rfl (by decide) (fun st => x_move (v := I r75.2.1) (ee st rfl)) <| wl_detg rfl rfl (guard_eq rfl hc87) rfl (by decide) (fun st => x_move (v := I r71.2.1) (ee st rfl)) <| wl_detg rfl rfl (guard_eq rfl hc87) rfl (by decide) (fun st => x_gtr (ee st rfl) (ee st rfl)) <| wd rfl (fun st => x_pick_f (v := .bool (decide (r71.2.1 < r75.2.1))) (ee st rfl) hc87 (ee st rfl)) <| wl_end <| lv_next ?_
                   rcases bool_cases (decide (r71.2.1 < r75.2.1)) with hc88 | hc88
                   ·replace hG := cond_t hG hc88
                    exact absurd (Option.some.inj hG) (by decide)
                   ·replace hG := cond_f hG hc88
                    refine cc_cond_f rfl hc88 <| cc_skip <| lv_next <| cc_seq <| cc_seq <| cc_region <| wa rfl (v := I 0) rfl <| wl_end <| lv_next <| cc_block ?_
                    replace hG := bind_some hG; obtain ⟨z89, hL89, hG⟩ := hG
                    refine cc_join (fun e_ fr_ w_ => (e_ = .ret ∧ ∃ q89, z89 = .inl q89 ∧ fr_.tmps.size = 243 ∧ fr_.defers = [] ∧ sl fr_ 8 = .bool q89 ∧ Hp w [some b3, some b2, some b1] w_) ∨ (e_ = .exit 0 ∧ ∃ q89, z89 = .inr q89 ∧ fr_.tmps.size = 243 ∧ fr_.defers = [] ∧ sl fr_ 20 = .slice A55_ra r55.1.length c55_ra ∧ sl fr_ 22 = .slice A59_ra r59.1.length c59_ra ∧ Hp w [some b3, some b2, some b1] w_ ∧ Sl (eInt .i64) w_ (ZZ Z w.heap.size [some b3, some b2, some b1]) A55_ra c55_ra r55.1 ∧ Sl (eInt .i64) w_ (ZZ Z w.heap.size [some b3, some b2, some b1]) A59_ra c59_ra r59.1)) ?lp89 ?af89
                    case lp89 =>
                     clear hG
                     refine cc_loop (fun (m_ : Nat) (fr_ : Act) (w_ : World) => ∃ s89_34, G_WeedMore_L89 K_ r47 r51 m_ s89_34 = some z89 ∧ fr_.tmps.size = 243 ∧ fr_.defers = [] ∧ sl fr_ 16 = .slice A47_ra r47.1.length c47_ra ∧ sl fr_ 18 = .slice A51_ra r51.1.length c51_ra ∧ sl fr_ 20 = .slice A55_ra r55.1.length c55_ra ∧ sl fr_ 22 = .slice A59_ra r59.1.length c59_ra ∧ sl fr_ 34 = I s89_34 ∧ Hp w [some b3, some b2, some b1] w_ ∧ Sl eR w_ (ZZ Z w.heap.size [some b3, some b2, some b1]) A47_ra c47_ra r47.1 ∧ Sl eR w_ (ZZ Z w.heap.size [some b3, some b2, some b1]) A51_ra c51_ra r51.1 ∧ Sl (eInt .i64) w_ (ZZ Z w.heap.size [some b3, some b2, some b1]) A55_ra c55_ra r55.1 ∧ Sl (eInt .i64) w_ (ZZ Z w.heap.size [some b3, some b2, some b1]) A59_ra c59_ra r59.1) K_ ?in89 ?rd89
                     case in89 =>
                      intro st
                      have hS47_ra_35 : Sl eR w76 (ZZ Z w.heap.size [some b3, some b2, some b1]) A47_ra c47_ra r47.1 := ((((((((((((((hS47_ra.mv (mv_ext hx49)).mv (mv_ext hx51)).mv (mv_ext hx53)).mv (mv_ext hx55)).mv (mv_ext hx57)).mv (mv_ext hx59)).mv (mv_ext hx61)).mv (mv_ext hx63)).mv (mv_ext hx65)).mv (mv_ext hx67)).mv (mv_ext hx69)).mv (mv_ext hx71)).mv (mv_ext hx73)).mv (mv_ext hx75))
                      have hS51_ra_35 : Sl eR w76 (ZZ Z w.heap.size [some b3, some b2, some b1]) A51_ra c51_ra r51.1 := ((((((((((((hS51_ra.mv (mv_ext hx53)).mv (mv_ext hx55)).mv (mv_ext hx57)).mv (mv_ext hx59)).mv (mv_ext hx61)).mv (mv_ext hx63)).mv (mv_ext hx65)).mv (mv_ext hx67)).mv (mv_ext hx69)).mv (mv_ext hx71)).mv (mv_ext hx73)).mv (mv_ext hx75))
                      have hS55_ra_35 : Sl (eInt .i64) w76 (ZZ Z w.heap.size [some b3, some b2, some b1]) A55_ra c55_ra r55.1 := ((((((((((hS55_ra.mv (mv_ext hx57)).mv (mv_ext hx59)).mv (mv_ext hx61)).mv (mv_ext hx63)).mv (mv_ext hx65)).mv (mv_ext hx67)).mv (mv_ext hx69)).mv (mv_ext hx71)).mv (mv_ext hx73)).mv (mv_ext hx75))
                      have hS59_ra_35 : Sl (eInt .i64) w76 (ZZ Z w.heap.size [some b3, some b2, some b1]) A59_ra c59_ra r59.1 := ((((((((hS59_ra.mv (mv_ext hx61)).mv (mv_ext hx63)).mv (mv_ext hx65)).mv (mv_ext hx67)).mv (mv_ext hx69)).mv (mv_ext hx71)).mv (mv_ext hx73)).mv (mv_ext hx75))
                      exact ⟨(0 : Int), hL89, (puts_size _ _).trans st.sz, (puts_defers _ _).trans st.df, (sl_puts st 16).trans rfl, (sl_puts st 18).trans rfl, (sl_puts st 20).trans rfl, (sl_puts st 22).trans rfl, (sl_puts st 34).trans rfl, hp35, hS47_ra_35, hS51_ra_35, hS55_ra_35, hS59_ra_35⟩
                     case rd89 =>
                      rintro (_ | m_) fr89 w89r ⟨s89_34, hL89, hsz89, hdf89, hs89_16, hs89_18, hs89_20, hs89_22, hs89_34, hp36, f89_hS47_ra, f89_hS51_ra, f89_hS55_ra, f89_hS59_ra⟩
                      ·exact absurd (show none = some _ from hL89) (by simp)
                      rw [G_WeedMore_L89.eq_2] at hL89
                      have hG := hL89; clear hL89
                      refine round_cc (N := 243) hsz89 hdf89 <| cc_seq <| cc_seq <| cc_region <| wm rfl (v := I s89_34) hs89_34 <| wm rfl (v := .slice A47_ra r47.1.length c47_ra) hs89_16 <| wd rfl (fun st => x_len Try.underlying29 (ee st rfl)) <| wd rfl (fun st => x_lss (ee st rfl) (ee st rfl)) <| wl_end <| lv_next ?_
                      rcases bool_cases (decide (s89_34 < (r47.1.length : Int))) with hc90 | hc90
                      ·replace hG := cond_t hG hc90
                       refine cc_cond_t rfl hc90 <| cc_skip <| lv_next <| cc_seq <| cc_block <| cc_seq ?_
                       replace hG := idx_bind hG; obtain ⟨i92, x92, hi92, hx92, hl92, hG⟩ := hG
                       obtain ⟨b92, o92, _, hA92, rfl, hz92⟩ := Sl.elem f89_hS51_ra (by decide) hx92
                       replace hG := idx_bind hG; obtain ⟨i93, x93, hi93, hx93, hl93, hG⟩ := hG
                       obtain ⟨b93, o93, _, hA93, rfl, hz93⟩ := Sl.elem f89_hS47_ra (by decide) hx93
                       refine cc_anyM0 8 [Kc (.slice A51_ra r51.1.length c51_ra), Kc (I s89_34), Kc (pt b92 (o92 + i92 * 2)), Kc (.agg #[I x92.1, I x92.2]), Kc (.slice A47_ra r47.1.length c47_ra), Kc (I s89_34), Kc (pt b93 (o93 + i93 * 2)), Kc (.agg #[I x93.1, I x93.2])] mixedL9 rfl rfl
                           (obsN_cons (od rfl (fun _ => rfl) (fun K => x_move (v := .slice A51_ra r51.1.length c51_ra) (es (t := 18) (v := .slice A51_ra r51.1.length c51_ra) ((K.out 18 rfl).trans hs89_18))))
                           (obsN_cons (od rfl (fun _ => rfl) (fun K => x_move (v := I s89_34) (es (t := 34) (v := I s89_34) ((K.out 34 rfl).trans hs89_34))))
                           (obsN_cons (od rfl (fun _ => rfl) (fun K => x_indexAddrN (k := i92) Try.underlying29 sz_33 (es (t := 219) (v := .slice A51_ra r51.1.length c51_ra) (K.dep 0 219 rfl rfl)) hA92 (es (t := 220) (v := I s89_34) (K.dep 1 220 rfl rfl)) hi92 hl92))
                           (obsN_cons (od rfl (fun _ => rfl) (fun K => x_load_zn0 (l := [I x92.1, I x92.2]) agg_33 (es (t := 221) (v := pt b92 (o92 + i92 * 2)) (K.dep 2 221 rfl rfl)) (hz92.mv (mv_ext K.phT)) rfl rfl))
                           (obsN_cons (od rfl (fun _ => rfl) (fun K => x_move (v := .slice A47_ra r47.1.length c47_ra) (es (t := 16) (v := .slice A47_ra r47.1.length c47_ra) ((K.out 16 rfl).trans hs89_16))))
                           (obsN_cons (od rfl (fun _ => rfl) (fun K => x_move (v := I s89_34) (es (t := 34) (v := I s89_34) ((K.out 34 rfl).trans hs89_34))))
                           (obsN_cons (od rfl (fun _ => rfl) (fun K => x_indexAddrN (k := i93) Try.underlying29 sz_33 (es (t := 223) (v := .slice A47_ra r47.1.length c47_ra) (K.dep 4 223 rfl rfl)) hA93 (es (t := 224) (v := I s89_34) (K.dep 5 224 rfl rfl)) hi93 hl93))
                           (obsN_cons (od rfl (fun _ => rfl) (fun K => x_load_zn0 (l := [I x93.1, I x93.2]) agg_33 (es (t := 225) (v := pt b93 (o93 + i93 * 2)) (K.dep 6 225 rfl rfl)) (hz93.mv (mv_ext K.phT)) rfl rfl))
                           (obsN_nil _))))))))) ?_
                       intro w91
                       rintro _ rfl _ rfl _ rfl _ rfl _ rfl _ rfl _ rfl _ rfl hx91
                       have hp37 : Hp w [some b3, some b2, some b1] w91 := hp36.ext hx91
                       replace hG := bind_some hG; obtain ⟨r94, hr94, hG⟩ := hG
                       refine we rfl (fun st => x_call0 own_44 (ee st rfl) (am2 (ee st rfl) (ee st rfl)) (a44 K_ x92 x93 ZA _ r94 hr94)) ?_
                       rintro _ w95 ⟨hx94, rfl⟩
                       have hp38 : Hp w [some b3, some b2, some b1] w95 := hp37.ext hx94
                       refine wd rfl (fun st => x_not (ee st rfl)) <| wl_end <| lv_next ?_
                       rcases bool_cases (!r94) with hc96 | hc96
                       ·replace hG := cond_t hG hc96
                        have hc96_97 : r94 = false := by simpa using hc96
                        refine cc_cond_t rfl hc96 <| cc_seq <| cc_region <| wa rfl (v := .bool false) rfl <| wl_end <| lv_next <| cc_ret <| lv_block_ret <| lv_then_ret <| lv_then_ret ?_
                        obtain rfl := Option.some.inj hG
                        refine lv_to (fun st => ?_)
                        exact .inl ⟨rfl, false, rfl, (puts_size _ _).trans st.sz, (puts_defers _ _).trans st.df, (sl_puts st 8).trans rfl, hp38⟩
                       ·replace hG := cond_f hG hc96
                        have hc96_98 : r94 = true := by simpa using hc96
                        refine cc_cond_f rfl hc96 <| cc_skip <| lv_block <| lv_next <| cc_region <| wm rfl (v := I s89_34) hs89_34 ?_
                        replace hG := i64_bind hG; obtain ⟨hf99, hG⟩ := hG
                        refine wd rfl (fun st => x_add (ee st rfl) (ee st rfl) hf99) <| wa rfl (v := I (s89_34 + 1)) rfl <| wl_end ?_
                        have hS47_ra_38 : Sl eR w95 (ZZ Z w.heap.size [some b3, some b2, some b1]) A47_ra c47_ra r47.1 := ((f89_hS47_ra.mv (mv_ext hx91)).mv (mv_ext hx94))
                        have hS51_ra_38 : Sl eR w95 (ZZ Z w.heap.size [some b3, some b2, some b1]) A51_ra c51_ra r51.1 := ((f89_hS51_ra.mv (mv_ext hx91)).mv (mv_ext hx94))
                        have hS55_ra_38 : Sl (eInt .i64) w95 (ZZ Z w.heap.size [some b3, some b2, some b1]) A55_ra c55_ra r55.1 := ((f89_hS55_ra.mv (mv_ext hx91)).mv (mv_ext hx94))
                        have hS59_ra_38 : Sl (eInt .i64) w95 (ZZ Z w.heap.size [some b3, some b2, some b1]) A59_ra c59_ra r59.1 := ((f89_hS59_ra.mv (mv_ext hx91)).mv (mv_ext hx94))
                        refine lv_round m_ (Nat.lt_succ_self _) (fun st => ?_)
                        exact ⟨(s89_34 + 1), hG, (puts_size _ _).trans st.sz, (puts_defers _ _).trans st.df, (sl_puts st 16).trans hs89_16, (sl_puts st 18).trans hs89_18, (sl_puts st 20).trans hs89_20, (sl_puts st 22).trans hs89_22, (sl_puts st 34).trans rfl, hp38, hS47_ra_38, hS51_ra_38, hS55_ra_38, hS59_ra_38⟩
                      ·replace hG := cond_f hG hc90
                       refine cc_cond_f rfl hc90 <| cc_exit <| lv_then_exit <| lv_then_exit ?_
                       obtain rfl := Option.some.inj hG
                       refine lv_to (fun st => ?_)
                       exact .inr ⟨rfl, (), rfl, (puts_size _ _).trans st.sz, (puts_defers _ _).trans st.df, (sl_puts st 20).trans hs89_20, (sl_puts st 22).trans hs89_22, hp36, f89_hS55_ra, f89_hS59_ra⟩
                    case af89 =>
                     rintro e_ fr89a w89a (⟨rfl, q89, rfl, hsz89a, hdf89a, hs89a_8, hp89a⟩ | ⟨rfl, q89, rfl, hsz89a, hdf89a, hs89a_20, hs89a_22, hp89a, g89_hS55_ra, g89_hS59_ra⟩)
                     ·skip
                      replace hG := inl_some hG
                      refine lv_fr (X := X0) (N := 243) hsz89a hdf89a <| lv_block_ret <| lv_then_ret ?_
                      have hr_ := Option.some.inj hG
                      refine lv_ret1 rfl hs89a_8 ?_
                      exact ⟨hp89a.fin, congrArg Value.bool hr_⟩
                     ·skip
                      replace hG := inr_some hG
                      refine lv_fr (X := X0) (N := 243) hsz89a hdf89a <| lv_block_hit <| lv_next <| cc_seq <| cc_seq <| cc_region <| wa rfl (v := I 0) rfl <| wl_end <| lv_next <| cc_block ?_
                      replace hG := bind_some hG; obtain ⟨z100, hL100, hG⟩ := hG
                      refine cc_join (fun e_ fr_ w_ => (e_ = .ret ∧ ∃ q100, z100 = .inl q100 ∧ fr_.tmps.size = 243 ∧ fr_.defers = [] ∧ sl fr_ 8 = .bool q100 ∧ Hp w [some b3, some b2, some b1] w_) ∨ (e_ = .exit 2 ∧ ∃ q100, z100 = .inr q100 ∧ fr_.tmps.size = 243 ∧ fr_.defers = [] ∧ Hp w [some b3, some b2, some b1] w_)) ?lp100 ?af100
                      case lp100 =>
                       clear hG
                       refine cc_loop (fun (m_ : Nat) (fr_ : Act) (w_ : World) => ∃ s100_35, G_WeedMore_L100 K_ r55 r59 m_ s100_35 = some z100 ∧ fr_.tmps.size = 243 ∧ fr_.defers = [] ∧ sl fr_ 20 = .slice A55_ra r55.1.length c55_ra ∧ sl fr_ 22 = .slice A59_ra r59.1.length c59_ra ∧ sl fr_ 35 = I s100_35 ∧ Hp w [some b3, some b2, some b1] w_ ∧ Sl (eInt .i64) w_ (ZZ Z w.heap.size [some b3, some b2, some b1]) A55_ra c55_ra r55.1 ∧ Sl (eInt .i64) w_ (ZZ Z w.heap.size [some b3, some b2, some b1]) A59_ra c59_ra r59.1) K_ ?in100 ?rd100
                       case in100 =>
                        intro st
                        exact ⟨(0 : Int), hL100, (puts_size _ _).trans st.sz, (puts_defers _ _).trans st.df, (sl_puts st 20).trans hs89a_20, (sl_puts st 22).trans hs89a_22, (sl_puts st 35).trans rfl, hp89a, g89_hS55_ra, g89_hS59_ra⟩
                       case rd100 =>
                        rintro (_ | m_) fr100 w100r ⟨s100_35, hL100, hsz100, hdf100, hs100_20, hs100_22, hs100_35, hp41, f100_hS55_ra, f100_hS59_ra⟩
                        ·exact absurd (show none = some _ from hL100) (by simp)
                        rw [G_WeedMore_L100.eq_2] at hL100
                        have hG := hL100; clear hL100
                        refine round_cc (N := 243) hsz100 hdf100 <| cc_seq <| cc_seq <| cc_region <| wm rfl (v := I s100_35) hs100_35 <| wm rfl (v := .slice A59_ra r59.1.length c59_ra) hs100_22 <| wd rfl (fun st => x_len Try.underlying43 (ee st rfl)) <| wd rfl (fun st => x_lss (ee st rfl) (ee st rfl)) <| wl_end <| lv_next ?_
                        rcases bool_cases (decide (s100_35 < (r59.1.length : Int))) with hc101 | hc101
                        ·replace hG := cond_t hG hc101
                         refine cc_cond_t rfl hc101 <| cc_skip <| lv_next <| cc_seq <| cc_block <| cc_seq <| cc_region <| wm rfl (v := .slice A55_ra r55.1.length c55_ra) hs100_20 <| wm rfl (v := .slice A59_ra r59.1.length c59_ra) hs100_22 <| wm rfl (v := I s100_35) hs100_35 ?_
                         replace hG := idx_bind hG; obtain ⟨i102, x102, hi102, hx102, hl102, hG⟩ := hG
                         obtain ⟨b102, o102, _, hA102, rfl, hz102⟩ := Sl.elem1 f100_hS59_ra rfl hx102
                         refine wd rfl (fun st => x_indexAddr1 (k := i102) Try.underlying43 sz_3 (ee st rfl) hA102 (ee st rfl) hi102 hl102) <| wd rfl (fun st => x_load_z0 (v := I x102) one_3 (ee st rfl) hz102 rfl) ?_
                         replace hG := bind_some hG; obtain ⟨r103, hr103, hG⟩ := hG
                         refine we rfl (fun st => x_call0 own_45 (ee st rfl) (am2 (ee st rfl) (ee st rfl)) (a45 K_ r55.1 x102 A55_ra c55_ra ZA _ f100_hS55_ra.all r103 hr103)) ?_
                         rintro _ w104 ⟨hx103, rfl⟩
                         have hp42 : Hp w [some b3, some b2, some b1] w104 := hp41.ext hx103
                         refine wd rfl (fun st => x_not (ee st rfl)) <| wl_end <| lv_next ?_
                         rcases bool_cases (!r103) with hc105 | hc105
                         ·replace hG := cond_t hG hc105
                          have hc105_106 : r103 = false := by simpa using hc105
                          refine cc_cond_t rfl hc105 <| cc_seq <| cc_region <| wa rfl (v := .bool false) rfl <| wl_end <| lv_next <| cc_ret <| lv_block_ret <| lv_then_ret <| lv_then_ret ?_
                          obtain rfl := Option.some.inj hG
                          refine lv_to (fun st => ?_)
                          exact .inl ⟨rfl, false, rfl, (puts_size _ _).trans st.sz, (puts_defers _ _).trans st.df, (sl_puts st 8).trans rfl, hp42⟩
                         ·replace hG := cond_f hG hc105
                          have hc105_107 : r103 = true := by simpa using hc105
                          refine cc_cond_f rfl hc105 <| cc_skip <| lv_block <| lv_next <| cc_region <| wm rfl (v := I s100_35) hs100_35 ?_
                          replace hG := i64_bind hG; obtain ⟨hf108, hG⟩ := hG
                          refine wd rfl (fun st => x_add (ee st rfl) (ee st rfl) hf108) <| wa rfl (v := I (s100_35 + 1)) rfl <| wl_end ?_
                          have hS55_ra_42 : Sl (eInt .i64) w104 (ZZ Z w.heap.size [some b3, some b2, some b1]) A55_ra c55_ra r55.1 := (f100_hS55_ra.mv (mv_ext hx103))
                          have hS59_ra_42 : Sl (eInt .i64) w104 (ZZ Z w.heap.size [some b3, some b2, some b1]) A59_ra c59_ra r59.1 := (f100_hS59_ra.mv (mv_ext hx103))
                          refine lv_round m_ (Nat.lt_succ_self _) (fun st => ?_)
                          exact ⟨(s100_35 + 1), hG, (puts_size _ _).trans st.sz, (puts_defers _ _).trans st.df, (sl_puts st 20).trans hs100_20, (sl_puts st 22).trans hs100_22, (sl_puts st 35).trans rfl, hp42, hS55_ra_42, hS59_ra_42⟩
                        ·replace hG := cond_f hG hc101
                         refine cc_cond_f rfl hc101 <| cc_exit <| lv_then_exit <| lv_then_exit ?_
                         obtain rfl := Option.some.inj hG
                         refine lv_to (fun st => ?_)
                         exact .inr ⟨rfl, (), rfl, (puts_size _ _).trans st.sz, (puts_defers _ _).trans st.df, hp41⟩
                      case af100 =>
                       rintro e_ fr100a w100a (⟨rfl, q100, rfl, hsz100a, hdf100a, hs100a_8, hp100a⟩ | ⟨rfl, q100, rfl, hsz100a, hdf100a, hp100a⟩)
                       ·skip
                        replace hG := inl_some hG
                        refine lv_fr (X := X0) (N := 243) hsz100a hdf100a <| lv_block_ret <| lv_then_ret ?_
                        have hr_ := Option.some.inj hG
                        refine lv_ret1 rfl hs100a_8 ?_
                        exact ⟨hp100a.fin, congrArg Value.bool hr_⟩
                       ·skip
                        replace hG := inr_some hG
                        refine lv_fr (X := X0) (N := 243) hsz100a hdf100a <| lv_block_hit <| lv_next <| cc_seq <| cc_region ?_
                        replace hG := ifo_bind hG; obtain ⟨hw109, hG⟩ := hG
                        refine we rfl (fun st => x_call0 own_21 (ee st rfl) am0 (a21 K_ ZA _ hw109)) ?_
                        rintro _ w110 ⟨hx109, rfl⟩
                        have hp45 : Hp w [some b3, some b2, some b1] w110 := hp100a.ext hx109
                        refine wa rfl (v := .bool true) rfl <| wl_end <| lv_next <| cc_ret ?_
                        have hr_ := Option.some.inj hG
                        refine lv_ret1 rfl rfl ?_
                        exact ⟨hp45.fin, congrArg Value.bool hr_⟩
end Go.Proofs.Ythogdgkafaclaaa
end
section
namespace Go.Proofs.Ythogdgkafaclaaa
open Go.RowKit Go.ChangeShapes Go.WideShapes
theorem mapM_get {α β : Type} {g : α → Option β} : ∀ {l : List α} {r : List β}, l.mapM g = some r → ∀ (i : Nat) (x : α), l[i]? = some x → ∃ y, r[i]? = some y ∧ g x = some y
  | [], _, _, i, x, hx => by simp at hx
  | a :: l, r, h, i, x, hx => by
    rw [List.mapM_cons] at h
    obtain ⟨y, hy, h2⟩ := Option.bind_eq_some_iff.1 h
    obtain ⟨ys, hys, h3⟩ := Option.bind_eq_some_iff.1 h2
    obtain rfl : y :: ys = r := by simpa using h3
    cases i with
    | zero =>
      obtain rfl : a = x := by simpa using hx
      exact ⟨y, rfl, hy⟩
    | succ i => exact mapM_get hys i x (by simpa using hx)
theorem weightsAll_mem {H : Type} {P : Program} {e : TypeId} {d : DataW H} {n : Nat} (hn : n ∈ d.weights P e) : ∀ {l : List (DataW H)}, d ∈ l → n ∈ DataW.weightsAll P e l
  | [], h => by cases h
  | a :: l, h => by
    rw [DataW.weightsAll, List.mem_append]
    rcases List.mem_cons.1 h with rfl | h
    · exact .inl hn
    · exact .inr (weightsAll_mem hn h)
/-- No slice in it takes more bytes than the form lets in. -/
def Slim {H : Type} (P : Program) (t : TypeId) (d : DataW H) : Prop := ∀ n ∈ d.weights P t, n ≤ reachBytes
theorem slim_at {H : Type} {P : Program} {ts : List TypeId} {ds : List (DataW H)} (h : (DataW.weightsEach P ts ds).all (· ≤ reachBytes) = true) {j : Nat} {t : TypeId} {d : DataW H} (ht : ts[j]? = some t) (hd : ds[j]? = some d) : Slim P t d := fun n hn => by
  have := List.all_eq_true.1 h _ (DataW.weights_mem_each ht hd n hn)
  simpa using this
/-- A reading of this type is data of this kind. -/
def Opn {α : Type} (P : Program) (t : TypeId) (e : Enc α) (wf : α → Prop) : Prop :=
  ∀ (H : Type) (enc : TypeId × Value → H) (w : World) (sp : Nat → Bool) (fuel : Nat) (cs : List Value) (x : DataW H × List MemPlace), DataW.trod enc P w 0 sp true fuel t cs = some x → Slim P t x.1 → ∃ a, e.R w ZA cs a ∧ wf a
def wfI (k : IntKind) (n : Int) : Prop := (Lit.int k n).wf = true
section
variable {P : Program} {t : TypeId}
theorem opn_int {k : IntKind} (ht : P.underlying t = some (.int k)) : Opn P t (eInt k) (wfI k) := by
  intro H enc w sp fuel cs x h _
  obtain ⟨n, h1, _, h3⟩ := DataW.trod_int ht h
  exact ⟨n, h1, h3⟩
/-- A struct's fields. -/
theorem trod_fields {fs : Array Field} (ht : P.underlying t = some (.struct fs)) {H : Type} {enc : TypeId × Value → H} {w : World} {sp : Nat → Bool} {fuel : Nat} {cs : List Value} {x : DataW H × List MemPlace} (h : DataW.trod enc P w 0 sp true fuel t cs = some x) :
    cs.length = P.cellsOf t ∧ ∃ fuel', ∀ (i ft off : Nat), (fs[i]?).map (fun f => (f.type, f.offset)) = some (ft, off) → ∃ y, DataW.trod enc P w 0 sp true fuel' ft ((cs.drop off).take (P.cellsOf ft)) = some y ∧ (Slim P t x.1 → Slim P ft y.1) := by
  cases fuel with
  | zero => simp [DataW.trod] at h
  | succ fuel =>
    unfold DataW.trod at h
    simp only [ht] at h
    split at h
    · rename_i hl
      obtain ⟨xs, hx, rfl⟩ := Option.map_eq_some_iff.1 h
      refine ⟨hl, fuel, fun i ft off hf => ?_⟩
      obtain ⟨f, hf', he⟩ := Option.map_eq_some_iff.1 hf
      obtain ⟨e1, e2⟩ : f.type = ft ∧ f.offset = off := by simpa using he
      rw [← Array.getElem?_toList] at hf'
      obtain ⟨y, hy, hg⟩ := mapM_get hx i f hf'
      rw [e1, e2] at hg
      refine ⟨y, hg, fun hs n hn => hs n ?_⟩
      simp only [DataW.weights, ht]
      exact DataW.weights_mem_each (j := i) (t := ft) (d := y.1) (by rw [List.getElem?_map, hf']; simp [e1]) (by rw [List.getElem?_map, hy]; rfl) n hn
    · cases h
theorem cells_cell {w : World} {a : Addr} {n : Nat} {cs : List Value} (h : w.cells? 0 a n = some cs) : cs.length = n ∧ ∀ j u, cs[j]? = some u → w.cell? (a.add j) = some u := by
  unfold World.cells? at h
  rw [if_pos (Nat.zero_le _)] at h
  have hl := mapM_some_length h
  refine ⟨by simpa using hl, ?_⟩
  have key : ∀ (l : List Nat) (r : List Value), l.mapM (fun i => w.cell? (a.add i)) = some r → ∀ (j i : Nat) (u : Value), l[j]? = some i → r[j]? = some u → w.cell? (a.add i) = some u := by
    intro l
    induction l with
    | nil => intro r _ j i u hj; simp at hj
    | cons b l ih =>
      intro r h j i u hj hr
      rw [List.mapM_cons] at h
      obtain ⟨y, hy, h2⟩ := Option.bind_eq_some_iff.1 h
      obtain ⟨ys, hys, h3⟩ := Option.bind_eq_some_iff.1 h2
      obtain rfl : y :: ys = r := by simpa using h3
      cases j with
      | zero =>
        obtain rfl : b = i := by simpa using hj
        obtain rfl : y = u := by simpa using hr
        exact hy
      | succ j => exact ih ys hys j i u (by simpa using hj) (by simpa using hr)
  intro j u hj
  have hlt : j < n := by
    have := (List.getElem?_eq_some_iff.1 hj).1
    have h2 : cs.length = n := by simpa using hl
    omega
  exact key _ _ h j j u (by simp [hlt]) hj
theorem cell_none {w : World} {a : Addr} {u : Value} (h : w.cell? a = some u) : ∃ b o, a = ⟨b, o, none⟩ ∧ b < w.heap.size := by
  obtain ⟨b, o, pt⟩ := a
  cases pt with
  | none =>
    refine ⟨b, o, rfl, ?_⟩
    unfold World.cell? at h
    cases hq : w.heap[b]? with
    | none => simp [hq] at h
    | some o => exact (Array.getElem?_eq_some_iff.1 hq).1
  | some q =>
    unfold World.cell? at h
    cases hq : w.heap[b]? with
    | none => simp [hq] at h
    | some ob => cases ob <;> simp [hq] at h
theorem add_add {a : Addr} {k j : Nat} (h : k ≤ j) : (a.add k).add (j - k) = a.add j := by
  obtain ⟨b, o, pt⟩ := a
  cases pt with
  | none => rw [addr_add, addr_add, addr_add]; congr 1; omega
  | some q =>
    unfold Addr.add
    by_cases hj : j = 0
    · have : k = 0 := by omega
      subst this; subst hj; simp
    · by_cases hk : k = 0
      · subst hk; simp [hj]
      · by_cases hjk : j - k = 0
        · have : j = k := by omega
          subst this; simp [hk]
        · simp [hj, hk, hjk]; omega
/-- Slices of what can be read. -/
theorem opn_slice {α : Type} {e : TypeId} {ee : Enc α} {wf : α → Prop} (ht : P.underlying t = some (.slice e)) (hc : P.cellsOf e = ee.sz) (h0 : 0 < ee.sz) (ho : Opn P e ee wf) {b : Nat} (hby : P.bytesOf e = b) : Opn P t (eSl ee) (fun xs => xs.length * b ≤ 140737488351232 ∧ ∀ x ∈ xs, wf x) := by
  intro H enc w sp fuel cs x h hsl
  rcases Go.Deep.open_slice ht h with ⟨rfl, _⟩ | ⟨a, len, cap, m, n0, D, Pl, rfl, _, hlc, hcm, hm, hxe, hall⟩
  · exact ⟨[], ⟨none, 0, rfl, Sl.nil _ _ _⟩, by simp, by simp⟩
  · have hlm : len ≤ m := by rw [hm]; split <;> omega
    subst hxe
    have hroom : len * b ≤ 140737488351232 := by
      have := hsl ((((List.range len).map D).length + ((List.range (m - len)).map fun j => D (len + j)).length) * P.bytesOf e) (by simp [DataW.weights, ht])
      rw [hby] at this
      have h2 : len * b ≤ (((List.range len).map D).length + ((List.range (m - len)).map fun j => D (len + j)).length) * b := Nat.mul_le_mul_right _ (by simp)
      exact Nat.le_trans h2 this
    have hslim : ∀ i, i < len → Slim P e (D i) := fun i hi n hn => hsl n (by
      simp only [DataW.weights, ht]
      rw [List.mem_cons, List.mem_append]
      exact .inr (.inl (weightsAll_mem hn (List.mem_map.2 ⟨i, by simpa using hi, rfl⟩))))
    have key : ∀ n, n ≤ len → ∃ css xs, R2 ee w ZA css xs ∧ xs.length = n ∧ (∀ x ∈ xs, wf x) ∧ ∀ j u, css.flatten[j]? = some u → w.cell? (a.add j) = some u := by
      intro n
      induction n with
      | zero => exact fun _ => ⟨[], [], trivial, rfl, by simp, by simp⟩
      | succ n ih =>
        intro hn
        obtain ⟨css, xs, h1, h2, h3, h4⟩ := ih (by omega)
        obtain ⟨ds, hd, hy2⟩ := hall n (by omega)
        obtain ⟨z, hz, hwz⟩ := ho _ _ _ _ _ _ _ hy2 (hslim n (by omega))
        obtain ⟨hl, hcell⟩ := cells_cell hd
        refine ⟨css ++ [ds], xs ++ [z], h1.append ⟨hz, trivial⟩, by simp [h2], ?_, ?_⟩
        · intro x hx
          rcases List.mem_append.1 hx with hx | hx
          · exact h3 x hx
          · rw [List.mem_singleton.1 hx]; exact hwz
        · intro j u hj
          rw [List.flatten_append] at hj
          rcases Nat.lt_or_ge j css.flatten.length with hlt | hge
          · rw [List.getElem?_append_left hlt] at hj
            exact h4 j u hj
          · rw [List.getElem?_append_right hge] at hj
            have h5 := hcell (j - css.flatten.length) u (by simpa using hj)
            have hfl : css.flatten.length = n * ee.sz := by rw [h1.flen, h2]
            rw [hfl] at h5 hge
            rw [hc] at h5
            rw [add_add hge] at h5
            exact h5
    obtain ⟨css, xs, h1, h2, h3, h4⟩ := key len (Nat.le_refl _)
    refine ⟨xs, ⟨some a, cap, by rw [h2], by rw [h2]; exact hlc, (fun e => by cases e), css, h1, ?_⟩, by rw [h2]; exact hroom, h3⟩
    cases hf : css.flatten with
    | nil => exact .inl rfl
    | cons u us =>
      have hu := h4 0 u (by rw [hf]; rfl)
      obtain ⟨b, o, hab, hlt⟩ := cell_none hu
      have ha : a = ⟨b, o, none⟩ := by
        obtain ⟨b', o', pt⟩ := a
        cases pt <;> simp [Addr.add] at hab ⊢
        exact hab
      subst ha
      refine .inr ⟨b, o, rfl, trivial, hlt, fun j u hj => ?_⟩
      have := h4 j u (by rw [hf]; exact hj)
      rw [addr_add] at this
      exact this
end
section
variable {H : Type} {enc : TypeId × Value → H} {P : Program} {W W' : World}
theorem trodAll_carry {sp : Nat → Bool} : ∀ {ts : List TypeId} {vs : List Value} {ds : List (DataW H)} {ps : List MemPlace}, DataW.TrodAll enc P W 0 sp true ts vs ds ps → (∀ p ∈ ps, W.sameAt W' p) → DataW.TrodAll enc P W' 0 sp true ts vs ds ps
  | [], _, _, _, h, _ => by
    obtain ⟨rfl, rfl, rfl⟩ := trodAll_nil h
    exact rfl
  | _ :: _, _, _, _, h, hs => by
    obtain ⟨v, vs1, d, ds1, a, b, rfl, rfl, rfl, ⟨n, hn⟩, h2⟩ := trodAll_cons h
    exact ⟨a, b, ⟨n, DataW.trod_carry n _ _ _ hn fun p hp => hs p (List.mem_append_left _ hp)⟩, trodAll_carry h2 fun p hp => hs p (List.mem_append_right _ hp), rfl⟩
theorem args_read (K : Kids P (· < P.types.size)) (hz : ∀ t e, t < P.types.size → P.underlying t = some (.slice e) → 0 < P.cellsOf e) {ts : List TypeId} {vs : List Value} {ds : List (DataW H)} {ps : List MemPlace} (hT : ∀ t ∈ ts, t < P.types.size)
    (hA : DataW.TrodAll enc P W 0 (fun _ => true) true ts vs ds ps) (hb : Ext W W') (hlt : ∀ p ∈ ps, p.block < W.heap.size) (sp : Nat → Bool) (hs : ∀ p ∈ ps, sp p.block = true) : DataW.TrodAll enc P W' 0 sp true ts vs ds ps :=
  trodAll_carry (DataW.TrodAll.respare K hz hT hA hs) fun p hp => (below_of_ext hb).same (hlt p hp)
variable {α : Type} {e : Enc α} {wf : α → Prop} {t : TypeId} {b0 : Nat} {v : Value} {d : DataW H} {p : List MemPlace} {sp : Nat → Bool}
theorem val_agg {fs : Array Field} (ht : P.underlying t = some (.struct fs)) (ho : Opn P t e wf) (hv : Value.okWide P W .any b0 t v) (h : DataW.Trod enc P W 0 sp true t v d p) (hs : Slim P t d) : ∃ a cs, v = .agg cs.toArray ∧ e.R W ZA cs a ∧ wf a := by
  unfold Value.okWide at hv
  rw [ht] at hv
  obtain ⟨cs, rfl, _⟩ := hv
  obtain ⟨n, hn⟩ := h
  obtain ⟨a, h1, h2⟩ := ho _ _ _ _ _ _ _ hn hs
  exact ⟨a, cs.toList, by simp, h1, h2⟩
theorem val_int {k : IntKind} (ht : P.underlying t = some (.int k)) (hv : Value.okWide P W .any b0 t v) (h : DataW.Trod enc P W 0 sp true t v d p) : ∃ n, v = .int k n ∧ wfI k n := by
  obtain ⟨n, h1, _, _, h4⟩ := open_int ht hv h
  exact ⟨n, h1, h4⟩
/-- The row's end: the call has laid new blocks alone. -/
theorem post_of_ext {f : Func} {s : ChangeSpec} {apart fresh handsOn again : Bool} {args : Array Value} {v : Value} {ds gs : List (DataW H)} {before pa pv : List MemPlace}
    (hW : DataW.Whole enc P f.params.toList s.vars apart W args.toList ds gs before)
    (hres : ∀ (b : Nat) (sp : Nat → Bool) (hd : Bool), DataW.TrodAll enc P W' b sp hd f.resultTypes.toList (v.resultList f.resultTypes.size) (s.fn H (ds ++ gs)).results [])
    (hargs : ∀ sp : Nat → Bool, (∀ p ∈ before, sp p.block = true) → DataW.TrodAll enc P W' 0 sp true f.params.toList args.toList (s.fn H (ds ++ gs)).args pa)
    (hvars : ∀ sp : Nat → Bool, (∀ p ∈ before, sp p.block = true) → DataW.TrodVars enc P W' sp s.vars (s.fn H (ds ++ gs)).vars pv)
    (hps : before = pa ++ pv) (hx : Ext W W')
    (hok : ∀ (j : Nat) (t : TypeId) (r : Value), f.resultTypes[j]? = some t → (v.resultList f.resultTypes.size)[j]? = some r → Value.okWide P W' .any 0 t r) :
    s.post enc P f apart fresh handsOn again W args v W' := by
  have hb := below_of_ext hx
  have hlt : ∀ p ∈ before, p.block < W.heap.size := fun p hp => hW.lt p hp
  have hold : ∀ p ∈ before, (fun b => decide (b < W.heap.size)) p.block = true := fun p hp => by simpa using hlt p hp
  refine ⟨ds, gs, before, [], pa, pv, hW, hres _ _ _, hargs _ hold, hvars _ hold, World.keptBut_mono (fun p hp => ⟨hp, ?_⟩) (hb.frame (· ∈ before)), fun _ => ?_⟩
  · rw [hps, List.mem_append] at hp
    exact Or.inr hp
  · obtain ⟨_, _, _, _, _, hz, hn⟩ := hW
    refine ⟨hok, _, _, ([] ++ pa) ++ pv, ⟨[] ++ pa, pv, trodAll_append (hargs _ (fun _ _ => rfl)) (hres _ _ _), hvars _ (fun _ _ => rfl), rfl, ?_, ?_⟩, ?_⟩
    · intro b off hp
      have hin : MemPlace.cell b off ∈ before := by rw [hps]; simpa using hp
      rw [hb.frozen (hlt _ hin)]
      exact hz b off hin
    · intro ha
      have := hn ha
      rw [hps] at this
      simpa using this
    · intro p hp _
      rw [hps]
      simpa using hp
theorem ret_calls {f : FuncId} {args : Array Value} {w : World} {R : Value → World → Prop} (h : Ret P f args w R) : Calls P f args w (fun e w' => ∃ v, e = .returned v ∧ R v w') := h
end
end Go.Proofs.Ythogdgkafaclaaa
end
section
set_option linter.unusedVariables false
set_option linter.unusedSimpArgs false
namespace Go.Proofs.Ythogdgkafaclaaa
open Go.RowKit
open Go.RowKit Go.ChangeShapes Go.WideShapes
theorem len_2 : ∀ {cs : List Value}, cs.length = 2 → ∃ a0 a1, cs = [a0, a1]
  | [a0, a1], _ => ⟨a0, a1, rfl⟩
theorem len_5 : ∀ {cs : List Value}, cs.length = 5 → ∃ a0 a1 a2 a3 a4, cs = [a0, a1, a2, a3, a4]
  | [a0, a1, a2, a3, a4], _ => ⟨a0, a1, a2, a3, a4, rfl⟩
theorem opn_23 : Opn Try.prog 23 eR (fun x => (wfI .i64 x.1 ∧ wfI .i64 x.2)) := by
  intro H enc w sp fuel cs x h hz
  obtain ⟨hl, fuel', hf⟩ := trod_fields Try.underlying23 h
  have hc : Try.prog.cellsOf 23 = 2 := by kernel_rfl
  rw [hc] at hl
  have k3 : Try.prog.cellsOf 3 = 1 := by kernel_rfl
  obtain ⟨a0, a1, rfl⟩ := len_2 hl
  obtain ⟨y0, hy0, hz0⟩ := hf 0 3 0 rfl
  simp only [k3, List.drop_zero, List.drop_succ_cons, List.take_succ_cons, List.take_zero] at hy0
  obtain ⟨n0, h0, w0⟩ := (opn_int Try.underlying3) _ _ _ _ _ _ _ hy0 (hz0 hz)
  cases h0
  obtain ⟨y1, hy1, hz1⟩ := hf 1 3 1 rfl
  simp only [k3, List.drop_zero, List.drop_succ_cons, List.take_succ_cons, List.take_zero] at hy1
  obtain ⟨n1, h1, w1⟩ := (opn_int Try.underlying3) _ _ _ _ _ _ _ hy1 (hz1 hz)
  cases h1
  exact ⟨⟨n0, n1⟩, rfl, w0, w1⟩
theorem opn_68 : Opn Try.prog 68 eTly (fun x => (wfI .i64 x.who ∧ wfI .i64 x.fr ∧ wfI .i64 x.to ∧ (wfI .i64 ((⟨x.lo, x.hi⟩ : (Int × Int)).1) ∧ wfI .i64 ((⟨x.lo, x.hi⟩ : (Int × Int)).2)))) := by
  intro H enc w sp fuel cs x h hz
  obtain ⟨hl, fuel', hf⟩ := trod_fields Try.underlying68 h
  have hc : Try.prog.cellsOf 68 = 5 := by kernel_rfl
  rw [hc] at hl
  have k3 : Try.prog.cellsOf 3 = 1 := by kernel_rfl
  have k23 : Try.prog.cellsOf 23 = 2 := by kernel_rfl
  obtain ⟨a0, a1, a2, a3, a4, rfl⟩ := len_5 hl
  obtain ⟨y0, hy0, hz0⟩ := hf 0 3 0 rfl
  simp only [k3, List.drop_zero, List.drop_succ_cons, List.take_succ_cons, List.take_zero] at hy0
  obtain ⟨n0, h0, w0⟩ := (opn_int Try.underlying3) _ _ _ _ _ _ _ hy0 (hz0 hz)
  cases h0
  obtain ⟨y1, hy1, hz1⟩ := hf 1 3 1 rfl
  simp only [k3, List.drop_zero, List.drop_succ_cons, List.take_succ_cons, List.take_zero] at hy1
  obtain ⟨n1, h1, w1⟩ := (opn_int Try.underlying3) _ _ _ _ _ _ _ hy1 (hz1 hz)
  cases h1
  obtain ⟨y2, hy2, hz2⟩ := hf 2 3 2 rfl
  simp only [k3, List.drop_zero, List.drop_succ_cons, List.take_succ_cons, List.take_zero] at hy2
  obtain ⟨n2, h2, w2⟩ := (opn_int Try.underlying3) _ _ _ _ _ _ _ hy2 (hz2 hz)
  cases h2
  obtain ⟨y3, hy3, hz3⟩ := hf 3 23 3 rfl
  simp only [k23, List.drop_zero, List.drop_succ_cons, List.take_succ_cons, List.take_zero] at hy3
  obtain ⟨n3, h3, w3⟩ := opn_23 _ _ _ _ _ _ _ hy3 (hz3 hz)
  cases h3
  exact ⟨⟨n0, n1, n2, n3.1, n3.2⟩, rfl, w0, w1, w2, w3⟩
theorem opn_26 : Opn Try.prog 26 eFld (fun x => (wfI .i64 x.rows ∧ wfI .i64 x.wd ∧ (wfI .i64 ((⟨x.lo, x.hi⟩ : (Int × Int)).1) ∧ wfI .i64 ((⟨x.lo, x.hi⟩ : (Int × Int)).2)) ∧ (x.ts.length * 40 ≤ 140737488351232 ∧ ∀ y ∈ x.ts, (wfI .i64 y.who ∧ wfI .i64 y.fr ∧ wfI .i64 y.to ∧ (wfI .i64 ((⟨y.lo, y.hi⟩ : (Int × Int)).1) ∧ wfI .i64 ((⟨y.lo, y.hi⟩ : (Int × Int)).2)))))) := by
  intro H enc w sp fuel cs x h hz
  obtain ⟨hl, fuel', hf⟩ := trod_fields Try.underlying26 h
  have hc : Try.prog.cellsOf 26 = 5 := by kernel_rfl
  rw [hc] at hl
  have k3 : Try.prog.cellsOf 3 = 1 := by kernel_rfl
  have k23 : Try.prog.cellsOf 23 = 2 := by kernel_rfl
  have k24 : Try.prog.cellsOf 24 = 1 := by kernel_rfl
  obtain ⟨a0, a1, a2, a3, a4, rfl⟩ := len_5 hl
  obtain ⟨y0, hy0, hz0⟩ := hf 0 3 0 rfl
  simp only [k3, List.drop_zero, List.drop_succ_cons, List.take_succ_cons, List.take_zero] at hy0
  obtain ⟨n0, h0, w0⟩ := (opn_int Try.underlying3) _ _ _ _ _ _ _ hy0 (hz0 hz)
  cases h0
  obtain ⟨y1, hy1, hz1⟩ := hf 1 3 1 rfl
  simp only [k3, List.drop_zero, List.drop_succ_cons, List.take_succ_cons, List.take_zero] at hy1
  obtain ⟨n1, h1, w1⟩ := (opn_int Try.underlying3) _ _ _ _ _ _ _ hy1 (hz1 hz)
  cases h1
  obtain ⟨y2, hy2, hz2⟩ := hf 2 23 2 rfl
  simp only [k23, List.drop_zero, List.drop_succ_cons, List.take_succ_cons, List.take_zero] at hy2
  obtain ⟨n2, h2, w2⟩ := opn_23 _ _ _ _ _ _ _ hy2 (hz2 hz)
  cases h2
  obtain ⟨y3, hy3, hz3⟩ := hf 3 24 4 rfl
  simp only [k24, List.drop_zero, List.drop_succ_cons, List.take_succ_cons, List.take_zero] at hy3
  obtain ⟨n3, ⟨A3, c3, h3, s3⟩, w3⟩ := (opn_slice (b := 40) Try.underlying24 (by kernel_rfl) (by decide) opn_68 (by kernel_rfl)) _ _ _ _ _ _ _ hy3 (hz3 hz)
  cases h3
  exact ⟨⟨n0, n1, n2.1, n2.2, n3⟩, ⟨A3, c3, rfl, s3⟩, w0, w1, w2, w3⟩
theorem ownT : ownKnob Try.prog.godebug = none := by kernel_rfl
theorem kidsT : Kids Try.prog (· < Try.prog.types.size) := kids_rows (by kernel_rfl) (by kernel_rfl)
theorem fullT : ∀ t e, t < Try.prog.types.size → Try.prog.underlying t = some (.slice e) → 0 < Try.prog.cellsOf e := slices_full_of Try.prog (by kernel_rfl)
end Go.Proofs.Ythogdgkafaclaaa
end
section
namespace Go.Proofs.Ythogdgkafaclaaa
theorem wf8 {x : Int} (h : wfI .u8 x) : 0 ≤ x ∧ x < 256 := by
  have h2 : (decide (IntKind.u8.min ≤ x) && decide (x ≤ IntKind.u8.max)) = true := h
  rw [Bool.and_eq_true, decide_eq_true_eq, decide_eq_true_eq] at h2
  have e1 : IntKind.u8.min = 0 := by decide
  have e2 : IntKind.u8.max = 255 := by decide
  omega
end Go.Proofs.Ythogdgkafaclaaa
end
section
set_option linter.unusedVariables false
set_option linter.unusedSimpArgs false
namespace Go.Proofs.Ythogdgkafaclaaa
open Go.RowKit
open Go.RowKit Go.ChangeShapes Go.WideShapes Go.ChangeAt
theorem weedMore_row (f : Fld) (more : Tly) (w r : Int) (h0 : (wfI .i64 f.rows ∧ wfI .i64 f.wd ∧ (wfI .i64 ((⟨f.lo, f.hi⟩ : (Int × Int)).1) ∧ wfI .i64 ((⟨f.lo, f.hi⟩ : (Int × Int)).2)) ∧ (f.ts.length * 40 ≤ 140737488351232 ∧ ∀ y ∈ f.ts, (wfI .i64 y.who ∧ wfI .i64 y.fr ∧ wfI .i64 y.to ∧ (wfI .i64 ((⟨y.lo, y.hi⟩ : (Int × Int)).1) ∧ wfI .i64 ((⟨y.lo, y.hi⟩ : (Int × Int)).2)))))) (h1 : wfI .u8 w) (h2 : wfI .u8 r) : ∃ K, G_WeedMore K f more w r = some true := weedMore_true f more w r h0.2.2.2.1 (wf8 h1) (wf8 h2)
set_option maxRecDepth 100000 in
theorem weedMore_lifted (os : Os) (started : os.Started) (H : Type) (enc : TypeId × Value → H) :
    ReturnsInHanded {} Try.checked os 9 .any (Rows.weedMoreSpec.pre6 enc Try.prog Try.f9 Rows.weedMoreRow.domain false) (Rows.weedMoreSpec.post enc Try.prog Try.f9 false true false false) := by
  refine returnsInHanded_of_change_sized (C := Try.checked) ownT started (by kernel_rfl) Try.func9
    (ChangeSpec.witness6 (enc := enc) (C := Try.checked) false ⟨#[], #[.agg #[.int .i64 0, .int .i64 0, .int .i64 0, .int .i64 0, .slice none 0 0], .agg #[.int .i64 0, .int .i64 0, .int .i64 0, .int .i64 0, .int .i64 0], .int .u8 0, .int .u8 0], []⟩ 8 (by kernel_rfl) (by kernel_rfl) (by kernel_rfl) (by kernel_rfl)) ?_
  intro W base args ds gs before hval0 hW hcnd hsz _
  have hval : ∀ (j : Nat) t v, Try.f9.params[j]? = some t → args[j]? = some v → Value.okWide Try.prog W .any base t v := hval0
  have hW' := hW
  obtain ⟨p, q, hA0, hV, rfl, hfz, hnd⟩ := hW
  have hA : DataW.TrodAll enc Try.prog W 0 (fun _ => true) true Try.f9.params.toList args.toList ds p := hA0
  obtain ⟨rfl, rfl⟩ := trodVars_none hV
  simp only [List.append_nil] at hW'
  have hlt : ∀ x ∈ p, x.block < W.heap.size := fun x hx => by simpa using hW'.lt x hx
  have hAk := hA
  have hsz2 : (DataW.weightsEach Try.prog (Try.f9.params.toList ++ []) (ds ++ [])).all (· ≤ reachBytes) = true := hsz
  rw [Try.params9] at hA hval hsz2
  obtain ⟨v0, v1, v2, v3, d0, d1, d2, d3, p0, p1, p2, p3, rfl, rfl, rfl, h0, h1, h2, h3⟩ := trodAll_four hA
  obtain ⟨x0, cs0, hv0, ⟨A0_0, c0_0, rfl, s0_0⟩, w0⟩ := val_agg Try.underlying26 opn_26 (hval 0 26 v0 rfl rfl) h0 (slim_at (j := 0) hsz2 rfl rfl)
  obtain ⟨x1, cs1, hv1, rfl, w1⟩ := val_agg Try.underlying68 opn_68 (hval 1 68 v1 rfl rfl) h1 (slim_at (j := 1) hsz2 rfl rfl)
  obtain ⟨x2, hv2, w2⟩ := val_int Try.underlying5 (hval 2 5 v2 rfl rfl) h2
  obtain ⟨x3, hv3, w3⟩ := val_int Try.underlying5 (hval 3 5 v3 rfl rfl) h3
  subst hv0
  subst hv1
  subst hv2
  subst hv3
  obtain ⟨K, hG⟩ := weedMore_row x0 x1 x2 x3 w0 w2 w3
  refine (ret_calls (a9 K x0 x1 x2 x3 A0_0 c0_0 ZA W s0_0 hG)).mono fun e W' ⟨v, he, hx, hv⟩ => ?_
  subst he
  subst hv
  exact ⟨_, rfl, post_of_ext (pa := (p0 ++ p1 ++ p2 ++ p3)) (pv := []) hW' (fun _ _ _ => trodAll_mk1 (shut_bool Try.underlying4 _)) (fun sp hs => args_read kidsT fullT (by rw [Try.params9]; decide) hAk hx hlt sp (fun x hx' => hs x (by simpa using hx'))) (fun _ _ => rfl) (by simp) hx (ok_one (by kernel_rfl) rfl (okWide_bool_mk Try.underlying4 _))⟩
theorem weedMore_holds : Rows.WeedMoreSaid :=
  OpenClaim.holds_of_wide 9 Try.f9 rfl rfl rfl rfl rfl rfl rfl ⟨rfl, rfl, rfl, rfl, rfl⟩ rfl rfl rfl rfl rfl (by kernel_rfl) Try.func9 (by kernel_rfl)
    (of_decide_eq_true (by kernel_rfl)) (by unfold Func.isWrapper; first | (rw [if_pos (by decide +kernel)]; kernel_rfl) | (rw [if_neg (by decide +kernel)]; exact ⟨rfl, rfl⟩))
    (fun os started H enc _ => weedMore_lifted os started H enc)
end Go.Proofs.Ythogdgkafaclaaa
end
